/- A verified evaluator of the program's form and its use for this seat: S1PCmp, S1PDiv, S1EqRoot, S1PRoot, S1PRootA, LdxL, S1EqLdx, S1PLdx, S1PLdxA, S1EqRef08, S1EqRef13, S1PRef08, S1EqHouse. -/
import Derived.Test.YthajngaadbanfaaGreatTI
import Derived.Test.YthajngaadbanfaaGreatTJ
import Derived.Test.YthajngaadbanfaaGreatTE
import Derived.Test.YthajngaadbanfaaGreatTF
set_option linter.unusedVariables false
set_option linter.unusedSimpArgs false
noncomputable section
open Int (toNat)
open List (length getD)
open Go.Proofs.Tryz
namespace Go.Proofs.S1
open Go Go.Den Go.Rnd Go.Proofs
open EqCmp
theorem Ti {k j:Nat} (h:k≠j):(((k:Nat):Int)==((j:Nat):Int))=false:=by rw [A5b]; omega
theorem Aeh (n:Nat):n%2^63<2^63:=Nat.mod_lt _ (by decide)
theorem Ab1 {n:Nat} (h:n<2^64):Ie .u64 (n:Int) (9223372036854775808:Int)=((n%2^63:Nat):Int):=by
 have:=Rv (By n) (Aeh n)
 rw [N6 h] at this
 exact this
theorem compare.Hy.known:compare.Hy.Kn:=compare.Hy.Ad .nil fun a hp=>by
 obtain ⟨n,rfl,hn⟩:=Bw (show Af a=true from hp)
 refine ⟨0,compare.Hy.out [.i (n:Int)],[],?_,.int⟩
 show _=some (DV.int .u64 (((n:Int).toNat%2^63:Nat):Int))
 rw [compare.Hy.ev,Ab1 hn,A4i]
theorem compare.L7.known:compare.L7.Kn:=compare.L7.Ad (.cons soft.Sign.known .nil) fun b hp=>by
 have hp:Af b=true:=hp
 obtain ⟨n,rfl,hn⟩:=Bw hp
 refine ⟨0,compare.L7.out [.i (n:Int)],[],?_,.int⟩
 show _=some (DV.int .i64 (Hr (n:Int).toNat))
 have h63:=Aeh n
 rw [compare.L7.ev,hp,A4g,Ab1 hn,A4i]
 unfold Hr Ja Eb
 rw [A4i]
 cases hs:By n with
 | true =>
   rw [A4g,A43 rfl,An (x:=((n%2^63:Nat):Int)) (by omega) (by omega),An (by omega) (by omega)]
   congr 2; omega
 | false =>
   have:n<2^63:=by
    unfold By at hs
    have:=of_decide_eq_false hs
    omega
   rw [A4k,A42 (by decide),A4t this,An (by omega) (by omega)]
theorem compare.Order.known:compare.Order.Kn:=compare.Order.Ad (.cons compare.L7.known (.cons soft.Kind.known .nil)) fun a b hp=>by
 obtain ⟨ha,hb⟩:=Ac.1 (show (Af a&&Af b)=true from hp)
 refine ⟨0,compare.Order.out [.i a,.i b],[],?_,Wk.Hm (.cons .int (.cons .bool .nil))⟩
 show _=some (DV.tup [.int .i64 (Aci a.toNat b.toNat),.bool (Aal a.toNat b.toNat)])
 rw [compare.Order.ev,ha,hb,A4g,A4g,A4g,A4g,A4g,A4g,Av,Av]
 unfold Aci Aal Adb Bz
 by_cases h1:Aj a.toNat=4
 ·have e:(((Aj a.toNat:Nat):Int)==(4:Int))=true:=by rw [h1]; rfl
  rw [e,A4g,A43 (.inl h1),A4h (.inl h1)]; rfl
 ·have e:(((Aj a.toNat:Nat):Int)==(4:Int))=false:=Ti h1
  rw [e,A4k]
  by_cases h2:Aj b.toNat=4
  ·have e:(((Aj b.toNat:Nat):Int)==(4:Int))=true:=by rw [h2]; rfl
   rw [e,A4g,A43 (.inr h2),A4h (.inr h2)]; rfl
  ·have e:(((Aj b.toNat:Nat):Int)==(4:Int))=false:=Ti h2
   have hn:¬ (Aj a.toNat=4∨Aj b.toNat=4):=fun h=>h.elim h1 h2
   rw [e,A4k,A42 hn,A4l hn]
   by_cases h3:Hr a.toNat<Hr b.toNat
   ·rw [A4h h3,A43 h3]; rfl
   ·rw [A4l h3,A42 h3]
    by_cases h4:Hr b.toNat<Hr a.toNat
    ·rw [A4h h4,A43 h4]; rfl
    ·rw [A4l h4,A42 h4]; rfl
theorem compare.Lt.known:compare.Lt.Kn:=compare.Lt.Ad (.cons compare.Order.known .nil) fun a b hp=>by
 have hp:(Af a&&Af b)=true:=hp
 refine ⟨0,compare.Lt.out [.i a,.i b],[],?_,.bool⟩
 rw [compare.Lt.ev,hp,Av]; rfl
theorem Aj3 (N:Nat) {a:Int} (ha:Af a=true):∀ (k F m:Nat) (e:Int) (b:Bool),e=-1130-(k:Int)→k<F→m<2^53→(m≠0∨b=true)→-9000<e →
 compare.Ft.L0 N F a (m:Int) e b=some (.tup [.int .u64 (((Bo (By a.toNat) 0,3):Nat × Nat).1:Nat),.int .u8 (((Bo (By a.toNat) 0,3):Nat × Nat).2:Nat)]):=by
 have pre1:Fe (0:Int) (-1074:Int) true=true:=Aq.2 (by omega)
 intro k
 induction k with
 | zero =>
   intro F m e b he hF hm h0 _
   obtain ⟨F,rfl⟩:∃ G,F=G+1:=⟨F-1,by omega⟩
   have hlt:Bb e (-1130:Int)=false:=by rw [Av]; exact A4l (by omega)
   have T4:Fe (m:Int) e b=true:=Aq.2 (by omega)
   rw [compare.Ft.Ar,hlt,Bool.false_and,A4k,A4k,ha,A4g,T4,A4g]
   unfold F0 Fz Eb
   rw [A4i,Aom _ hm h0 (by omega)]
 | succ k ih =>
   intro F m e b he hF hm h0 hb
   obtain ⟨F,rfl⟩:∃ G,F=G+1:=⟨F-1,by omega⟩
   have hlt:Bb e (-1130:Int)=true:=by rw [Av]; exact A4h (by omega)
   rw [compare.Ft.Ar,hlt,A5t,A4g,Av]
   by_cases h1:(1:Int)<(m:Int)
   ·have em:Ef .u64 (m:Int) (1:Int)=((m / 2^1:Nat):Int):=Jc .u64 m 1 (by decide)
    rw [A4h h1,A4g,em,An (by omega) (by omega)]
    exact ih F (m / 2^1) (e+1) _ (by omega) (by omega) (by omega) (.inl (by omega)) (by omega)
   ·rw [A4l h1,A4k,ha,A4g,pre1,A4g]
    unfold F0 Fz Eb
    rw [show (0:Int).toNat=0 from rfl,Ar7]
theorem compare.Ft.known:compare.Ft.Kn:=compare.Ft.Ad (.cons soft.Kind.known (.cons soft.D9.known (.cons soft.G0.known (.cons soft.Sign.known .nil)))) fun a n hp=>by
 obtain ⟨ha,hn⟩:=Ac.1 (show Df a n=true from hp)
 have hn:=Aq.1 hn
 refine ⟨3000,compare.Ft.out [.i a,.i n],[],?_,Wk.Hm (.cons .int (.cons .int .nil))⟩
 show _=some (DV.tup [.int .u64 ((Fi a.toNat n).1:Nat),.int .u8 ((Fi a.toNat n).2:Nat)])
 have em:max (-2300:Int) (min (2300:Int) n)=n:=by omega
 have pE:=Dy a.toNat
 have pM:=Ge a.toNat
 have ee:Ab (Bp a+n)=A3 a.toNat+n:=by unfold Bp; exact An (by omega) (by omega)
 rw [compare.Ft.ev,ha,A4g,A4g,em,ee]
 unfold Bz
 by_cases h4:Aj a.toNat=4
 ·have e:(((Aj a.toNat:Nat):Int)==(4:Int))=true:=by rw [h4]; rfl
  rw [e,A4g]
  unfold Fi
  rw [A43 h4]; rfl
 have e4:(((Aj a.toNat:Nat):Int)==(4:Int))=false:=Ti h4
 rw [e4,A4k]
 by_cases h3:Aj a.toNat=3
 ·have e:(((Aj a.toNat:Nat):Int)==(3:Int))=true:=by rw [h3]; rfl
  obtain ⟨k,rfl,hk⟩:=Bw ha
  rw [e,A4g,A4g]
  unfold Fi
  rw [A42 h4,A43 (.inl h3),A4i]; rfl
 have e3:(((Aj a.toNat:Nat):Int)==(3:Int))=false:=Ti h3
 rw [e3,A4k]
 by_cases h0:Aj a.toNat=0
 ·have e:(((Aj a.toNat:Nat):Int)==(0:Int))=true:=by rw [h0]; rfl
  obtain ⟨k,rfl,hk⟩:=Bw ha
  rw [e,A4g]
  unfold Fi
  rw [A42 h4,A43 (.inr h0),A4i]; rfl
 have e0:(((Aj a.toNat:Nat):Int)==(0:Int))=false:=Ti h0
 have hk:¬ (Aj a.toNat=3∨Aj a.toNat=0):=fun h=>h.elim h3 h0
 have hm:Ay a.toNat≠0:=fun h=>h0 ((Hp h3 h4).1 h)
 rw [e0,A4k]
 show compare.Ft.L0 3000 3000 a (Ay a.toNat:Nat) (A3 a.toNat+n) false=_
 by_cases ht:A3 a.toNat+n≤-1130
 ·rw [Aj2 h4 hk ht]
  exact Aj3 3000 ha (-1130-(A3 a.toNat+n)).toNat 3000 _ _ false (by omega) (by omega) (by omega) (.inl hm) (by omega)
 ·have hlt:Bb (A3 a.toNat+n) (-1130:Int)=false:=by rw [Av]; exact A4l (by omega)
  have T4:Fe ((Ay a.toNat:Nat):Int) (A3 a.toNat+n) false=true:=Aq.2 ⟨by omega,by omega,by omega,by omega,fun h=>by cases h⟩
  rw [Xb h4 hk,show (3000:Nat)=2999+1 from rfl,compare.Ft.Ar,hlt,Bool.false_and,A4k,A4k,ha,A4g,T4,A4g]
  unfold F0 Fz Eb
  rw [A4i,Yn]
theorem Ag.Bu.known:Ag.Bu.Kn:=Ag.Bu.Ad (.cons compare.Ft.known .nil) fun a n hp=>by
 have hp:Df a n=true:=hp
 refine ⟨0,Ag.Bu.out [.i a,.i n],[],?_,.int⟩
 rw [Ag.Bu.ev,hp]; rfl
theorem Ag.Div.known:Ag.Div.Kn:=Ag.Div.Ad (.cons times.Div.known .nil) fun a b hp=>by
 have hp:(Af a&&Af b)=true:=hp
 refine ⟨0,Ag.Div.out [.i a,.i b],[],?_,.int⟩
 rw [Ag.Div.ev,hp]; rfl
theorem Jf {l:List Int} {i:Nat} (h:i<l.length):l.drop i=l.getD i 0::l.drop (i+1):=by
 rw [List.drop_eq_getElem_cons h,A4q,A4x h]; rfl
theorem Hs {l:List Int} (h:Bs l=true):l.length<4611686018427387904∧∀ j,j<l.length→Af (l.getD j 0)=true:=by
 obtain ⟨h1,h2⟩:=Aq.1 h
 exact ⟨h1,fun j hj=>by rw [A4q,A4x hj]; exact h2 _ (List.getElem_mem hj)⟩
theorem Fu {l:List Int} (h:Al l=true) (hl:l.length≤1000):Bs l=true:=Aq.2 ⟨by omega,Aq.1 h⟩
theorem Ail (N:Nat) {x:List Int} (hx:Bs x=true):∀ (k i F:Nat),i+k=x.length→k<F→Ag.Finite.L0 N F x (i:Int)=some (.bool ((x.drop i).all Dz)):=by
 obtain ⟨hl,hu⟩:=Hs hx
 intro k
 induction k with
 | zero =>
   intro i F hi hF
   obtain ⟨F,rfl⟩:∃ G,F=G+1:=⟨F-1,by omega⟩
   rw [Ag.Finite.Ar,Av,A4l (by omega),A4k,A4u (by omega)]; rfl
 | succ k ih =>
   intro i F hi hF
   obtain ⟨F,rfl⟩:∃ G,F=G+1:=⟨F-1,by omega⟩
   rw [Ag.Finite.Ar,Av,A4h (show (i:Int)<(x.length:Int) by omega),A4g,A4h (show (0:Int)≤(i:Int) by omega),A4m,A4g,A4i,hu i (by omega),A4g,Jf (by omega),List.all_cons]
   cases Dz (x.getD i 0) with
   | false=>rfl
   | true =>
     rw [A5f,A4k,An (by omega) (by omega),A5t]
     exact ih (i+1) F (by omega) (by omega)
theorem Ag.Finite.known:Ag.Finite.Kn:=Ag.Finite.Ad (.cons soft.Finite.known .nil) fun x hp=>by
 have hp:Bs x=true:=hp
 refine ⟨x.length+1,Ag.Finite.out [.l x],[],?_,.bool⟩
 show _=some (DV.bool (x.all Dz))
 rw [Ag.Finite.ev]
 exact Ail _ hp x.length 0 (x.length+1) (by omega) (by omega)
theorem Apw {x:List Int} {i:Nat} (h:i<x.length) (m:Nat):P2 (x.drop i) m=if Aj (x.getD i 0).toNat=4 then Oc else P2 (x.drop (i+1)) (max m (Gg (x.getD i 0).toNat)):=by
 rw [Jf h]; rfl
theorem Af2 (N:Nat) {x:List Int} (hx:Bs x=true):∀ (k i F m:Nat),i+k=x.length→k<F→Ag.Bx.L0 N F x (m:Int) (i:Int)=some (.int .u64 ((P2 (x.drop i) m:Nat):Int)):=by
 obtain ⟨hl,hu⟩:=Hs hx
 intro k
 induction k with
 | zero =>
   intro i F m hi hF
   obtain ⟨F,rfl⟩:∃ G,F=G+1:=⟨F-1,by omega⟩
   rw [Ag.Bx.Ar,Av,A4l (by omega),A4k,A4u (by omega)]; rfl
 | succ k ih =>
   intro i F m hi hF
   obtain ⟨F,rfl⟩:∃ G,F=G+1:=⟨F-1,by omega⟩
   rw [Ag.Bx.Ar,Av,A4h (show (i:Int)<(x.length:Int) by omega),A4g,A4h (show (0:Int)≤(i:Int) by omega),A4m,A4g,A4i,hu i (by omega),A4g,Apw (by omega)]
   unfold Bz
   by_cases h4:Aj (x.getD i 0).toNat=4
   ·have e:(((Aj (x.getD i 0).toNat:Nat):Int)==(4:Int))=true:=by rw [h4]; rfl
    rw [e,A4g,A43 h4]; rfl
   ·have e:(((Aj (x.getD i 0).toNat:Nat):Int)==(4:Int))=false:=Ti h4
    have em:max (m:Int) (Iw (x.getD i 0))=((max m (Gg (x.getD i 0).toNat):Nat):Int):=by unfold Iw; omega
    rw [e,A4k,A4g,A42 h4,em,An (by omega) (by omega)]
    exact ih (i+1) F _ (by omega) (by omega)
theorem Ag.Bx.known:Ag.Bx.Kn:=Ag.Bx.Ad (.cons compare.Hy.known (.cons soft.Kind.known .nil)) fun x hp=>by
 have hp:Bs x=true:=hp
 refine ⟨x.length+1,Ag.Bx.out [.l x],[],?_,.int⟩
 rw [Ag.Bx.ev]
 exact Af2 _ hp x.length 0 (x.length+1) 0 (by omega) (by omega)
theorem Af1 (N:Nat) {x:List Int} (hx:Bs x=true):∀ (k i F:Nat),i+k=x.length→k<F→Dv.Check.L0 N F x (i:Int)=some (.int .i64 (if (x.drop i).all Dz=true then 0 else 4)):=by
 obtain ⟨hl,hu⟩:=Hs hx
 intro k
 induction k with
 | zero =>
   intro i F hi hF
   obtain ⟨F,rfl⟩:∃ G,F=G+1:=⟨F-1,by omega⟩
   rw [Dv.Check.Ar,Av,A4l (by omega),A4k,A4u (by omega)]; rfl
 | succ k ih =>
   intro i F hi hF
   obtain ⟨F,rfl⟩:∃ G,F=G+1:=⟨F-1,by omega⟩
   rw [Dv.Check.Ar,Av,A4h (show (i:Int)<(x.length:Int) by omega),A4g,A4h (show (0:Int)≤(i:Int) by omega),A4m,A4g,A4i,hu i (by omega),A4g,Jf (by omega),List.all_cons]
   cases Dz (x.getD i 0) with
   | false=>rfl
   | true =>
     rw [A5f,A4k,An (by omega) (by omega),A5t]
     exact ih (i+1) F (by omega) (by omega)
theorem Tg {r c:Int} {l:List Int} (h:A0 r c l=true):l.length≤36:=by
 obtain ⟨R,C,rfl,rfl,r6,c6,hl⟩:=Co h
 have:=A5c r6 c6
 omega
theorem Dv.Check.known:Dv.Check.Kn:=Dv.Check.Ad (.cons Aa.Check.known (.cons soft.Finite.known .nil)) fun r c l hp=>by
 have hp:Al l=true:=hp
 refine ⟨l.length+1,Dv.Check.out [.i r,.i c,.l l],[],?_,.int⟩
 show _=some (DV.int .i64 (D5 r c l))
 rw [Dv.Check.ev]
 unfold Lq D5 Dc
 by_cases h:A0 r c l=true
 ·have:=Tg h
  rw [A43 h,A43 h]
  have e:((0:Int) !=(0:Int))=false:=by decide
  rw [e,A4k]
  exact Af1 _ (Fu hp (by omega)) l.length 0 (l.length+1) (by omega) (by omega)
 ·rw [A42 h,A42 h]; rfl
open Go Go.Den Go.Rnd Go.Proofs Ieee
theorem Arm {m n:Nat} (hm:m≠0) (hn:n≠0) (lm:m<2^53) (ln:n<2^53) (i j:Int) :
 Ck (G3 m n (54+n.log2-m.log2)) (i-j-((54+n.log2-m.log2:Nat):Int)-1)=Ck (G3 m n 120) (i-j-121):=by
 have l1:=(A5w hm).2 lm
 have a1:=Nat.log2_self_le hm
 have a2:=Nat.lt_log2_self (n:=n)
 have g1:2^53≤m*2^(54+n.log2-m.log2) / n:=by
  rw [Nat.le_div_iff_mul_le (by omega)]
  have h1:2^m.log2*2^(54+n.log2-m.log2)≤m*2^(54+n.log2-m.log2):=A4s _ a1
  have h2:2^m.log2*2^(54+n.log2-m.log2)=2^53*2^(n.log2+1):=by
   rw [← A45,← A45]
   congr 1
   omega
  have h3:2^53*n≤2^53*2^(n.log2+1):=Nat.mul_le_mul_left _ (by omega)
  omega
 have g2:2^53≤m*2^120 / n:=Arn (t:=53) (by omega) (by omega) ln (by omega)
 exact (Zy (by omega) g1 g2 (by omega)).1
theorem Ava (s t:Bool) (m:Nat) (i:Int) (n:Nat) (j:Int) (hn:n≠0):(Datum.number s m i).quotient 54 (.number t n j) =
 some (.number (s ^^ t) (G3 m n (54+n.log2-m.log2)) (i-j-((54+n.log2-m.log2:Nat):Int)-1)):=by
 have e:(Datum.number s m i).quotient 54 (.number t n j)=some (.number (s ^^ t) (2*(m <<< (54+n.log2-m.log2) / n)+(m <<< (54+n.log2-m.log2)%n !=0).toNat) (i-j-((54+n.log2-m.log2:Nat):Int)-1)):=A42 hn
 rw [e,Nat.shiftLeft_eq]
 unfold G3
 congr 3
 by_cases h:m*2^(54+n.log2-m.log2)%n=0
 ·rw [A43 h,h]; rfl
 ·have:(m*2^(54+n.log2-m.log2)%n !=0)=true:=by simpa using h
  rw [A42 h,this]; rfl
theorem Atq {a b:Nat} (ha:a<2^64) (hb:b<2^64) {d:Nat} (hd:Aj d=4):Es ((Ieee.double.div a b).getD d)=(Afy a b).1:=by
 have cd:Es d=Oc:=A43 hd
 have ex:∀ s t:Bool,(s ^^ t)=(s !=t):=fun s t=>by cases s<;>cases t<;>rfl
 have e54:Ieee.double.fractionBits+2=54:=rfl
 unfold Format.div
 rw [J3 ha,J3 hb,e54]
 unfold Afy
 by_cases a4:Aj a=4
 ·rw [A43 (.inl a4),Ik a4]; exact cd
 ·by_cases b4:Aj b=4
  ·rw [A43 (.inr b4),Ik b4]
   by_cases a3:Aj a=3
   ·rw [Fh a3]; exact cd
   ·rw [Fg a3 a4]; exact cd
  ·rw [A42 (fun h=>h.elim a4 b4)]
   by_cases a3:Aj a=3
   ·rw [Fh a3]
    by_cases b3:Aj b=3
    ·rw [Fh b3,A43 ⟨by omega,.inl a3⟩]; exact cd
    ·rw [Fg b3 b4,A42 (by omega),A43 a3]
     show Es (Bo (By a ^^ By b) Ek)=_
     rw [Go.Proofs.S1.Me,ex]
   ·rw [Fg a3 a4]
    by_cases b3:Aj b=3
    ·rw [Fh b3,A42 (by omega),A42 a3,A43 (.inl b3)]
     show Es (Ieee.double.write (.number (By a ^^ By b) 0 0))=_
     rw [N2,Te,ex]
     exact H8 _ (Nat.zero_le _)
    ·rw [Fg b3 b4]
     have za:=V5 a3 a4
     have zb:=V5 b3 b4
     by_cases b0:Aj b=0
     ·by_cases a0:Aj a=0
      ·have e:(Datum.number (By a) (Ay a) (A3 a)).quotient 54 (.number (By b) (Ay b) (A3 b))=none:=by
        show (if Ay b=0 then (if Ay a=0 then none else _) else _)=_
        rw [A43 (zb.2 b0),A43 (za.2 a0)]
       rw [e,A43 ⟨by omega,.inr a0⟩]; exact cd
      ·have e:(Datum.number (By a) (Ay a) (A3 a)).quotient 54 (.number (By b) (Ay b) (A3 b))=some (.infinity (By a ^^ By b)):=by
        show (if Ay b=0 then (if Ay a=0 then none else _) else _)=_
        rw [A43 (zb.2 b0),A42 (fun k=>a0 (za.1 k))]
       rw [e,A42 (by omega),A42 a3,A42 (by omega),A43 b0]
       show Es (Bo (By a ^^ By b) Ek)=_
       rw [Go.Proofs.S1.Me,ex]
     ·have hn:Ay b≠0:=fun k=>b0 (zb.1 k)
      rw [Ava _ _ _ _ _ _ hn,A42 (by omega),A42 a3]
      show Es (Ieee.double.write (.number _ _ _))=_
      rw [N2,H8 _ (Km _ _),ex]
      by_cases a0:Aj a=0
      ·rw [A43 (.inr a0),za.2 a0]
       have:G3 0 (Ay b) (54+(Ay b).log2-Nat.log2 0)=0:=by
        unfold G3
        rw [Nat.zero_mul,Nat.zero_div,Nat.zero_mod,A43 rfl]
       rw [this,Te]
      ·have hm:Ay a≠0:=fun k=>a0 (za.1 k)
       have la:=Ge a
       have lb:=Ge b
       rw [A42 (by omega),A42 b0,Arm hm hn (by omega) (by omega)]
set_option maxRecDepth 100000
namespace EqRoot
def root.Hw.hint:Nat→Option Ba
 | 0=>some { keep:=[0,4,5,6,14],objs:=[],boxes:=[] }
 | _=>none
def root.Hw.Bc:List (Nat × Entry):=[]
def root.Hw.E:Env:=Bi (Be root.Hw.Bc) (fun _=>false) root.Hw.hint (fun _=>none)
section
variable (N M:Nat) (m p4 p5 p6 p14:Int)
def root.Hw.L0:Option DV:=B8 root.Hw.E N f211 (Ak f211) [1,1,0,1,0] [] M ⟨Ff 68 [(0,.int .u64 m),(4,.int .u64 p4),(5,.int .u64 p5),(6,.int .u64 p6),(14,.int .i64 p14)],[]⟩
theorem root.Hw.Ar:root.Hw.L0 N (M+1) m p4 p5 p6 p14=bif (Bb p14 64) then bif (Bb p14 32) then bif (decide (0≤(Ab ((62:Int)-(Ab ((2:Int)*p14)))))) then bif (decide ((Ig (Jk .u64 (Ch .u64 p6 2) (Fx .u64 (Ef .u64 m (Ab ((62:Int)-(Ab ((2:Int)*p14))))) 3)) (Jk .u64 (Ch .u64 p4 2) 1) 0)≤1)) then bif ((Ig (Jk .u64 (Ch .u64 p5 2) (Ef .u64 p6 62)) (Ef .u64 p4 62) (Ig (Jk .u64 (Ch .u64 p6 2) (Fx .u64 (Ef .u64 m (Ab ((62:Int)-(Ab ((2:Int)*p14))))) 3)) (Jk .u64 (Ch .u64 p4 2) 1) 0))==(0:Int)) then root.Hw.L0 N M m (Jk .u64 (Ch .u64 p4 1) 1) (Pf (Jk .u64 (Ch .u64 p5 2) (Ef .u64 p6 62)) (Ef .u64 p4 62) (Ig (Jk .u64 (Ch .u64 p6 2) (Fx .u64 (Ef .u64 m (Ab ((62:Int)-(Ab ((2:Int)*p14))))) 3)) (Jk .u64 (Ch .u64 p4 2) 1) 0)) (Pf (Jk .u64 (Ch .u64 p6 2) (Fx .u64 (Ef .u64 m (Ab ((62:Int)-(Ab ((2:Int)*p14))))) 3)) (Jk .u64 (Ch .u64 p4 2) 1) 0) (Ab (p14+1)) else root.Hw.L0 N M m (Ch .u64 p4 1) (Jk .u64 (Ch .u64 p5 2) (Ef .u64 p6 62)) (Jk .u64 (Ch .u64 p6 2) (Fx .u64 (Ef .u64 m (Ab ((62:Int)-(Ab ((2:Int)*p14))))) 3)) (Ab (p14+1)) else none else none else bif (decide ((Ig (Jk .u64 (Ch .u64 p6 2) 0) (Jk .u64 (Ch .u64 p4 2) 1) 0)≤1)) then bif ((Ig (Jk .u64 (Ch .u64 p5 2) (Ef .u64 p6 62)) (Ef .u64 p4 62) (Ig (Jk .u64 (Ch .u64 p6 2) 0) (Jk .u64 (Ch .u64 p4 2) 1) 0))==(0:Int)) then root.Hw.L0 N M m (Jk .u64 (Ch .u64 p4 1) 1) (Pf (Jk .u64 (Ch .u64 p5 2) (Ef .u64 p6 62)) (Ef .u64 p4 62) (Ig (Jk .u64 (Ch .u64 p6 2) 0) (Jk .u64 (Ch .u64 p4 2) 1) 0)) (Pf (Jk .u64 (Ch .u64 p6 2) 0) (Jk .u64 (Ch .u64 p4 2) 1) 0) (Ab (p14+1)) else root.Hw.L0 N M m (Ch .u64 p4 1) (Jk .u64 (Ch .u64 p5 2) (Ef .u64 p6 62)) (Jk .u64 (Ch .u64 p6 2) 0) (Ab (p14+1)) else none else some (.tup [.int .u64 p4,.bool (bif (p5==(0:Int)) then (p6==(0:Int)) else false)]) :=
 Eq.trans (by kernel_rfl)
 (E1 rfl (Ax (R6 (p5==(0:Int))) (Ax (No (p5==(0:Int))) (Ax (W5 (p5==(0:Int))) rfl))))
theorem root.Hw.ev:B0 root.Hw.E N f211 (Ak f211) [.int .u64 m] =
 root.Hw.L0 N N m 0 0 0 0:=by kernel_rfl
end
abbrev _root_.Go.Proofs.S1.root.Hw.Kn:=A8 prog 211 root.Hw.spec
theorem root.Hw.Ad (hk:A2 prog root.Hw.Bc) (h:Hyp root.Hw.E f211 root.Hw.ts root.Hw.pre root.Hw.out):root.Hw.Kn :=
 Am (A5 hk _ _ _) func211 (by kernel_rfl) (by kernel_rfl) h
def root.Sqrt.hint:Nat→Option Ba
 | 5=>some { keep:=[5,7,9],objs:=[],boxes:=[] }
 | _=>none
def root.Sqrt.Bc:List (Nat × Entry):=[(210,Dk.B9.spec),(211,root.Hw.spec),(165,soft.Kind.spec),(180,soft.D9.spec),(166,soft.G0.spec),(181,soft.Sign.spec)]
def root.Sqrt.E:Env:=Bi (Be root.Sqrt.Bc) (fun _=>false) root.Sqrt.hint (fun _=>none)
section
variable (N:Nat) (a:Int) (M:Nat) (p5 p7:Int) (p9:Bool)
def root.Sqrt.L0:Option DV:=B8 root.Sqrt.E N f176 (Ak f176) [1,1,1,1,1,1,1,1,1,0,0] [] M ⟨Ff 73 [(5,.int .i64 p5),(7,.int .u64 p7),(9,.bool p9)],[]⟩
theorem root.Sqrt.Ar:root.Sqrt.L0 N (M+1) p5 p7 p9=bif (Ex 4611686018427387904 p7) then root.Sqrt.L0 N M (Ab (p5+2)) (Ef .u64 p7 1) (bif p9 then true else ((Fx .u64 p7 1)==(1:Int))) else bif (Fe p7 (Ab ((Ab (Int.tdiv p5 2))-32)) p9) then some (.tup [.int .u64 (F0 false p7 (Ab ((Ab (Int.tdiv p5 2))-32)) p9),.int .u8 (Fz false p7 (Ab ((Ab (Int.tdiv p5 2))-32)) p9)]) else none :=
 Eq.trans (by kernel_rfl)
 (E1 (Ax (W4 p9) (Ax (T8 p9) (Ax (T8 p9) (Ax (tt6 p9) rfl)))) rfl)
theorem root.Sqrt.ev:B0 root.Sqrt.E N f176 (Ak f176) [.int .u64 a]=bif (Af a) then bif ((Bz a)==(4:Int)) then some (.tup [.int .u64 9221120237041090560,.int .u8 0]) else bif (Af a) then bif ((Bz a)==(0:Int)) then some (.tup [.int .u64 a,.int .u8 0]) else bif (a==(9218868437227405312:Int)) then some (.tup [.int .u64 a,.int .u8 0]) else bif (Af a) then bif (Eb a) then some (.tup [.int .u64 9221120237041090560,.int .u8 16]) else bif (Af a) then bif (Af (B6 a)) then bif ((Int.tmod (Ab ((Bp a)-(Ab ((64-F2 (B6 a))-2)))) 2) !=(0:Int)) then bif (decide (0≤(Ab ((Ab ((64-F2 (B6 a))-2))-1)))) then bif (B5 (0≤(Ch .u64 (B6 a) (Ab ((Ab ((64-F2 (B6 a))-2))-1)))∧(Ch .u64 (B6 a) (Ab ((Ab ((64-F2 (B6 a))-2))-1)))<9223372036854775808)) then root.Sqrt.L0 N N (Ab ((Bp a)-(Ab ((Ab ((64-F2 (B6 a))-2))-1)))) (Wf (Ch .u64 (B6 a) (Ab ((Ab ((64-F2 (B6 a))-2))-1)))) (!(Wg (Ch .u64 (B6 a) (Ab ((Ab ((64-F2 (B6 a))-2))-1))))) else none else none else bif (decide (0≤(Ab ((64-F2 (B6 a))-2)))) then bif (B5 (0≤(Ch .u64 (B6 a) (Ab ((64-F2 (B6 a))-2)))∧(Ch .u64 (B6 a) (Ab ((64-F2 (B6 a))-2)))<9223372036854775808)) then root.Sqrt.L0 N N (Ab ((Bp a)-(Ab ((64-F2 (B6 a))-2)))) (Wf (Ch .u64 (B6 a) (Ab ((64-F2 (B6 a))-2)))) (!(Wg (Ch .u64 (B6 a) (Ab ((64-F2 (B6 a))-2))))) else none else none else none else none else none else none else none:=by kernel_rfl
end
abbrev _root_.Go.Proofs.S1.root.Sqrt.Kn:=A8 prog 176 root.Sqrt.spec
theorem root.Sqrt.Ad (hk:A2 prog root.Sqrt.Bc) (h:Hyp root.Sqrt.E f176 root.Sqrt.ts root.Sqrt.pre root.Sqrt.out):root.Sqrt.Kn :=
 Am (A5 hk _ _ _) func176 (by kernel_rfl) (by kernel_rfl) h
def Ag.Sqrt.Bc:List (Nat × Entry):=[(176,root.Sqrt.spec)]
def Ag.Sqrt.E:Env:=Bi (Be Ag.Sqrt.Bc) (fun _=>false) (fun _=>none) (fun _=>none)
theorem Ag.Sqrt.ev (N:Nat) (a:Int):B0 Ag.Sqrt.E N f139 (Ak f139) [.int .u64 a]=bif (Af a) then some (.int .u64 (Ed a)) else none:=by kernel_rfl
abbrev _root_.Go.Proofs.S1.Ag.Sqrt.Kn:=A8 prog 139 Ag.Sqrt.spec
theorem Ag.Sqrt.Ad (hk:A2 prog Ag.Sqrt.Bc) (h:Hyp Ag.Sqrt.E f139 Ag.Sqrt.ts Ag.Sqrt.pre Ag.Sqrt.out):Ag.Sqrt.Kn :=
 Am (A5 hk _ _ _) func139 (by kernel_rfl) (by kernel_rfl) h
def compare.K7.Bc:List (Nat × Entry):=[(167,Dk.Lu.spec),(136,soft.Finite.spec),(165,soft.Kind.spec),(166,soft.G0.spec)]
def compare.K7.E:Env:=Bi (Be compare.K7.Bc) (fun _=>false) (fun _=>none) (fun _=>none)
theorem compare.K7.ev (N:Nat) (a:Int):B0 compare.K7.E N f123 (Ak f123) [.int .u64 a]=bif (Af a) then bif ((!(Dz a))||(Af a)) then bif ((!(Dz a))||((Bz a)==(0:Int))) then some (.int .i64 0) else bif (Af a) then bif (Af (B6 a)) then some (.int .i64 (Ab ((Ab ((F2 (B6 a))-1))+(Bp a)))) else none else none else none else none :=
 Eq.trans (by kernel_rfl)
 (E1 (Ax (W7 (Dz a)) (Cw (Ajt _ _) (Ax (R3 (Dz a)) (Ax (Zu (Dz a)) (Cw (Axz _ _) rfl rfl))) rfl)) rfl)
abbrev _root_.Go.Proofs.S1.compare.K7.Kn:=A8 prog 123 compare.K7.spec
theorem compare.K7.Ad (hk:A2 prog compare.K7.Bc) (h:Hyp compare.K7.E f123 compare.K7.ts compare.K7.pre compare.K7.out):compare.K7.Kn :=
 Am (A5 hk _ _ _) func123 (by kernel_rfl) (by kernel_rfl) h
def Ag.Norm.hint:Nat→Option Ba
 | 0=>some { keep:=[5,6,25,26,27],objs:=[],boxes:=[] }
 | _=>none
def Ag.Norm.Bc:List (Nat × Entry):=[(123,compare.K7.spec),(136,soft.Finite.spec),(137,Ag.Add.spec),(124,Ag.Bx.spec),(138,Ag.Mul.spec),(79,Ag.Bu.spec),(139,Ag.Sqrt.spec)]
def Ag.Norm.E:Env:=Bi (Be Ag.Norm.Bc) (fun _=>false) Ag.Norm.hint (fun _=>none)
section
variable (N M:Nat) (x:List Int) (p6 p27:Int)
def Ag.Norm.L0:Option DV:=B8 Ag.Norm.E N f67 (Ak f67) [1,1,1,1,1,1,0,1,0] [] M ⟨Ff 45 [(5,.int .i64 (B1 (Bk x))),(6,.int .u64 p6),(25,.ints .arg .u64 x),(26,.int .i64 (length x:Int)),(27,.int .i64 p27)],[]⟩
theorem Ag.Norm.Ar:Ag.Norm.L0 N (M+1) x p6 p27=bif (Bb p27 (length x:Int)) then bif ((decide (0≤p27))&&(decide (p27<(length x:Int)))) then bif (Df (getD x (toNat p27) 0) (Ab (0-(B1 (Bk x))))) then bif (Af (Bg (getD x (toNat p27) 0) (Ab (0-(B1 (Bk x)))))&&Af (Bg (getD x (toNat p27) 0) (Ab (0-(B1 (Bk x)))))) then bif (Af p6&&Af (Cc (Bg (getD x (toNat p27) 0) (Ab (0-(B1 (Bk x))))) (Bg (getD x (toNat p27) 0) (Ab (0-(B1 (Bk x))))))) then Ag.Norm.L0 N M x (Dt p6 (Cc (Bg (getD x (toNat p27) 0) (Ab (0-(B1 (Bk x))))) (Bg (getD x (toNat p27) 0) (Ab (0-(B1 (Bk x))))))) (Ab (p27+1)) else none else none else none else none else bif (Af p6) then bif (Df (Ed p6) (B1 (Bk x))) then some (.tup [.int .u64 (Bg (Ed p6) (B1 (Bk x))),.int .i64 0]) else none else none:=by kernel_rfl
theorem Ag.Norm.ev:B0 Ag.Norm.E N f67 (Ak f67) [.ints .arg .u64 x]=bif (Bb 64 (length x:Int)) then some (.tup [.int .u64 0,.int .i64 3]) else bif (Bs x) then bif (((Bk x)==(0:Int))||(Af (Bk x))) then bif (((Bk x)==(0:Int))||(!(Dz (Bk x)))) then some (.tup [.int .u64 (Bk x),.int .i64 0]) else bif (Af (Bk x)) then Ag.Norm.L0 N N x 0 (0:Int) else none else none else none :=
 Eq.trans (by kernel_rfl)
 (E1 rfl (E1 (Ax (W4 ((Bk x)==(0:Int))) (Cw (Auu _ _) (Ax (T8 ((Bk x)==(0:Int))) (Ax (tt6 ((Bk x)==(0:Int))) (Cw (Az8 _ _) rfl rfl))) rfl)) rfl))
end
abbrev _root_.Go.Proofs.S1.Ag.Norm.Kn:=A8 prog 67 Ag.Norm.spec
theorem Ag.Norm.Ad (hk:A2 prog Ag.Norm.Bc) (h:Hyp Ag.Norm.E f67 Ag.Norm.ts Ag.Norm.pre Ag.Norm.out):Ag.Norm.Kn :=
 Am (A5 hk _ _ _) func67 (by kernel_rfl) (by kernel_rfl) h
end EqRoot
open EqRoot
theorem Sx (n s:Nat) (h:s≤64):Ef .u64 (n:Int) (s:Int)=((n / 2^s:Nat):Int):=Jc .u64 n s h
theorem sh2 {n t:Nat} (ht:t<4):Jk .u64 (Ch .u64 (n:Int) (2:Int)) (t:Int)=((n%2^62*4+t:Nat):Int):=by
 rw [show (2:Int)=((2:Nat):Int) from rfl,Gx n 2 (by decide),show n*2^2%2^64=(n%2^62)*2^2 by omega]
 exact O0 ht (by omega)
theorem sh1 {n:Nat} (h:n<2^63):Ch .u64 (n:Int) (1:Int)=((2*n:Nat):Int):=by
 rw [show (1:Int)=((1:Nat):Int) from rfl,Gx n 1 (by decide)]
 congr 1; omega
theorem A3k {n:Nat} (h:n<2^63):Jk .u64 (Ch .u64 (n:Int) (1:Int)) (1:Int)=((2*n+1:Nat):Int):=by
 rw [show (1:Int)=((1:Nat):Int) from rfl,Gx n 1 (by decide),show n*2^1%2^64=n*2^1 by omega,A44 2 n]
 exact O0 (k:=1) (by decide) (by omega)
theorem Aqg {m i:Nat} (hi:i<32):Fx .u64 (Ef .u64 (m:Int) (Ab ((62:Int)-(Ab ((2:Int)*(i:Int)))))) (3:Int)=((m / 2^(62-2*i)%2^64%4:Nat):Int)∨2^64≤m:=by
 by_cases hm:m<2^64
 ·left
  rw [An (x:=(2:Int)*(i:Int)) (by omega) (by omega),An (x:=(62:Int)-2*(i:Int)) (by omega) (by omega),show (62:Int)-2*(i:Int)=((62-2*i:Nat):Int) by omega,Sx _ _ (by omega)]
  have hd:m / 2^(62-2*i)<2^64:=A5i (Nat.div_le_self _ _) hm
  rw [show (3:Int)=((2^2-1:Nat):Int) from rfl,J9 2 hd (by decide)]
  congr 1
  omega
 ·right; omega
def T4 (m i:Nat):Nat:=m*2^64 / 2^(128-2*i)
theorem Arr {m i:Nat} (hi:i<32):T4 m (i+1)=4*T4 m i+m / 2^(62-2*i)%4:=by
 unfold T4
 have e1:128-2*i=64+(64-2*i):=by omega
 have e2:128-2*(i+1)=64+(62-2*i):=by omega
 rw [e1,e2,A45,A45,A44 (2^64),A44 (2^64),Nat.mul_div_mul_right _ _ (by decide),Nat.mul_div_mul_right _ _ (by decide),show 64-2*i=(62-2*i)+2 by omega,A45,← A49]
 omega
theorem Aoa {m i:Nat} (hi:32≤i) (h:i<64):T4 m (i+1)=4*T4 m i:=by
 unfold T4
 have e1:(2:Nat)^64=2^(2*i-64)*2^(128-2*i):=by rw [← A45]; congr 1; omega
 have e2:(2:Nat)^64=2^(2*i-64)*4*2^(128-2*(i+1)):=by
  rw [show (4:Nat)=2^2 from rfl,← A45,← A45]; congr 1; omega
 have a1:m*2^64 / 2^(128-2*i)=m*2^(2*i-64):=by rw [e1,← A47,Nat.mul_div_cancel _ (Cp _)]
 have a2:m*2^64 / 2^(128-2*(i+1))=m*(2^(2*i-64)*4):=by rw [e2,← A47,Nat.mul_div_cancel _ (Cp _)]
 rw [a1,a2,← A47,A44 4]
theorem Au2 {A B tl th:Nat} (hA:A<2^64) (htl:tl<2^64) (hB:B<2^64) (hth:th<4) :
 (Ig (A:Int) (tl:Int) (0:Int)=0∨Ig (A:Int) (tl:Int) (0:Int)=1) ∧
 (th*2^64+tl≤B*2^64+A→(Ig (B:Int) (th:Int) (Ig (A:Int) (tl:Int) (0:Int))==(0:Int))=true ∧
  ∃ h l:Nat,Pf (B:Int) (th:Int) (Ig (A:Int) (tl:Int) (0:Int))=(h:Int)∧Pf (A:Int) (tl:Int) (0:Int)=(l:Int)∧l<2^64∧h*2^64+l=B*2^64+A-(th*2^64+tl)) ∧
 (B*2^64+A<th*2^64+tl→(Ig (B:Int) (th:Int) (Ig (A:Int) (tl:Int) (0:Int))==(0:Int))=false):=by
 have e1:Ig (A:Int) (tl:Int) (0:Int)=((if A<tl then 1 else 0:Nat):Int):=by
  unfold Ig
  rw [A4i,A4i]
  rfl
 by_cases h:A<tl
 ·rw [A43 h] at e1
  rw [e1]
  have e2:Ig (B:Int) (th:Int) ((1:Nat):Int)=((if B<th+1 then 1 else 0:Nat):Int):=by
   unfold Ig
   rw [A4i,A4i]
   rfl
  refine ⟨.inr rfl,fun hle=>?_,fun hlt=>?_⟩
  ·rw [A42 (by omega)] at e2
   rw [e2]
   refine ⟨rfl,B-th-1,A+2^64-tl,?_,?_,by omega,by omega⟩
   ·unfold Pf
    rw [A4i,A4i,A4i]
    congr 1; omega
   ·unfold Pf
    rw [A4i,A4i]
    show ((_:Nat):Int)=_
    congr 1
    show (A+18446744073709551616-tl-0)%18446744073709551616=_
    omega
  ·rw [A43 (by omega)] at e2
   rw [e2]; rfl
 ·rw [A42 h] at e1
  rw [e1]
  have e2:Ig (B:Int) (th:Int) ((0:Nat):Int)=((if B<th then 1 else 0:Nat):Int):=by
   unfold Ig
   rw [A4i,A4i]
   rfl
  refine ⟨.inl rfl,fun hle=>?_,fun hlt=>?_⟩
  ·rw [A42 (by omega)] at e2
   rw [e2]
   refine ⟨rfl,B-th,A-tl,?_,?_,by omega,by omega⟩
   ·unfold Pf
    rw [A4i,A4i,A4i]
    congr 1; omega
   ·unfold Pf
    rw [A4i,A4i]
    show ((_:Nat):Int)=_
    congr 1
    show (A+18446744073709551616-tl-0)%18446744073709551616=_
    omega
  ·rw [A43 (by omega)] at e2
   rw [e2]; rfl
theorem glue (n t:Nat):n / 2^62*2^64+(n%2^62*4+t)=4*n+t:=by omega
theorem Aoz (N:Nat) {m:Nat} (hm:m<2^63):∀ (k i F rt rest:Nat),i+k=64→k<F→T4 m i=rt*rt+rest→rest≤2*rt→rt<2^i→∀ hi lo:Nat,hi*2^64+lo=rest→lo<2^64 →
 root.Hw.L0 N F (m:Int) (rt:Int) (hi:Int) (lo:Int) (i:Int)=some (.tup [.int .u64 (Wf m),.bool (Wg m)]):=by
 intro k
 induction k with
 | zero =>
   intro i F rt rest hi hF hP hr hb h l e hl
   obtain ⟨F,rfl⟩:∃ G,F=G+1:=⟨F-1,by omega⟩
   obtain rfl:i=64:=by omega
   have hP':m*2^64=rt*rt+rest:=by
    rw [← hP]; unfold T4
    rw [show 128-2*64=0 from rfl,A5e,Nat.div_one]
   have hroot:=Au8 hP' hr
   rw [root.Hw.Ar,Av,A4l (by omega),A4k]
   have e1:Wf (m:Int)=(rt:Int):=by unfold Wf; rw [A4i,← hroot]
   have e2:Wg (m:Int)=(bif ((h:Int)==(0:Int)) then ((l:Int)==(0:Int)) else false):=by
    unfold Wg
    rw [A4i,← hroot,hP']
    by_cases h0:h=0
    ·subst h0
     rw [show (((0:Nat):Int)==(0:Int))=true from rfl,A4g,A4w,A4n,beq_iff_eq]
     omega
    ·rw [show ((h:Int)==(0:Int))=false by rw [A5b]; omega,A4k,A4l]
     omega
   rw [e1,e2]
 | succ k ih =>
   intro i F rt rest hi hF hP hr hb h l e hl
   obtain ⟨F,rfl⟩:∃ G,F=G+1:=⟨F-1,by omega⟩
   have hp:2^i≤2^63:=A4v (by decide) (by omega)
   have hi63:2^(i+1)=2*2^i:=by rw [Nat.pow_succ,A44]
   have f1:2*rt+1<2^(i+1):=by rw [hi63]; omega
   have f2:2*rt<2^(i+1):=by omega
   have hh:h=0:=by omega
   subst hh
   have hrest:rest=l:=by omega
   subst hrest
   obtain ⟨two,t4,hP',hcode⟩:∃ two:Nat,two<4∧T4 m (i+1)=4*T4 m i+two ∧
    root.Hw.L0 N (F+1) (m:Int) (rt:Int) ((0:Nat):Int) (rest:Int) (i:Int) =
    (bif (decide ((Ig (Jk .u64 (Ch .u64 (rest:Int) (2:Int)) (two:Int)) (Jk .u64 (Ch .u64 (rt:Int) (2:Int)) (1:Int)) (0:Int))≤1)) then
     bif ((Ig (Jk .u64 (Ch .u64 ((0:Nat):Int) (2:Int)) (Ef .u64 (rest:Int) (62:Int))) (Ef .u64 (rt:Int) (62:Int)) (Ig (Jk .u64 (Ch .u64 (rest:Int) (2:Int)) (two:Int)) (Jk .u64 (Ch .u64 (rt:Int) (2:Int)) (1:Int)) (0:Int)))==(0:Int)) then
      root.Hw.L0 N F (m:Int) (Jk .u64 (Ch .u64 (rt:Int) (1:Int)) (1:Int)) (Pf (Jk .u64 (Ch .u64 ((0:Nat):Int) (2:Int)) (Ef .u64 (rest:Int) (62:Int))) (Ef .u64 (rt:Int) (62:Int)) (Ig (Jk .u64 (Ch .u64 (rest:Int) (2:Int)) (two:Int)) (Jk .u64 (Ch .u64 (rt:Int) (2:Int)) (1:Int)) (0:Int))) (Pf (Jk .u64 (Ch .u64 (rest:Int) (2:Int)) (two:Int)) (Jk .u64 (Ch .u64 (rt:Int) (2:Int)) (1:Int)) (0:Int)) (Ab ((i:Int)+(1:Int)))
     else root.Hw.L0 N F (m:Int) (Ch .u64 (rt:Int) (1:Int)) (Jk .u64 (Ch .u64 ((0:Nat):Int) (2:Int)) (Ef .u64 (rest:Int) (62:Int))) (Jk .u64 (Ch .u64 (rest:Int) (2:Int)) (two:Int)) (Ab ((i:Int)+(1:Int)))
    else none):=by
    by_cases h32:i<32
    ·refine ⟨m / 2^(62-2*i)%4,Nat.mod_lt _ (by decide),Arr h32,?_⟩
     have ht:=(Aqg (m:=m) h32).resolve_right (by omega)
     have hq:m / 2^(62-2*i)%2^64%4=m / 2^(62-2*i)%4:=by omega
     rw [hq] at ht
     rw [root.Hw.Ar,Av,A4h (show (i:Int)<64 by omega),A4g,Av,A4h (show (i:Int)<32 by omega),A4g,ht,An (x:=(2:Int)*(i:Int)) (by omega) (by omega),An (x:=(62:Int)-2*(i:Int)) (by omega) (by omega),A4h (show (0:Int)≤62-2*(i:Int) by omega),A4g]
    ·refine ⟨0,by decide,by rw [Aoa (by omega) (by omega),A5o],?_⟩
     rw [root.Hw.Ar,Av,A4h (show (i:Int)<64 by omega),A4g,Av,A4l (show ¬ (i:Int)<32 by omega),A4k]
     rfl
   obtain ⟨s1,s2⟩:=Ak4 hP hr t4
   have eA:=sh2 (n:=rest) t4
   have eT:=sh2 (n:=rt) (t:=1) (by decide)
   have eB:Jk .u64 (Ch .u64 ((0:Nat):Int) (2:Int)) (Ef .u64 (rest:Int) (62:Int))=((rest / 2^62:Nat):Int):=by
    rw [show (62:Int)=((62:Nat):Int) from rfl,Sx _ _ (by decide),sh2 (n:=0) (t:=rest / 2^62) (by omega)]
    congr 1; omega
   have eH:Ef .u64 (rt:Int) (62:Int)=((rt / 2^62:Nat):Int):=by rw [show (62:Int)=((62:Nat):Int) from rfl,Sx _ _ (by decide)]
   have eT':Jk .u64 (Ch .u64 (rt:Int) (2:Int)) (1:Int)=((rt%2^62*4+1:Nat):Int):=eT
   obtain ⟨b1,b2,b3⟩:=Au2 (A:=rest%2^62*4+two) (B:=rest / 2^62) (tl:=rt%2^62*4+1) (th:=rt / 2^62) (by omega) (by omega) (by omega) (by omega)
   rw [hcode,eA,eT',eB,eH,A4h (by rcases b1 with b | b<;>rw [b]<;>decide),A4g,An (by omega) (by omega)]
   by_cases hc:4*rt+1≤4*rest+two
   ·obtain ⟨c1,hh,ll,c2,c3,c4,c5⟩:=b2 (by rw [glue,glue]; exact hc)
    obtain ⟨d1,d2⟩:=s1 hc
    rw [c1,A4g,c2,c3,A3k (by omega)]
    refine ih (i+1) F (2*rt+1) (4*rest+two-(4*rt+1)) (by omega) (by omega) (hP'.trans d1) d2 f1 hh ll ?_ c4
    rw [c5,glue,glue]
   ·rw [b3 (by rw [glue,glue]; omega),A4k,sh1 (by omega)]
    obtain ⟨d1,d2⟩:=s2 (by omega)
    refine ih (i+1) F (2*rt) (4*rest+two) (by omega) (by omega) (hP'.trans d1) d2 f2 _ _ (glue _ _) ?_
    clear hcode
    omega
theorem root.Hw.known:root.Hw.Kn:=root.Hw.Ad .nil fun m hp=>by
 have hp:=Aq.1 hp
 obtain ⟨n,rfl⟩:∃ n:Nat,m=n:=⟨m.toNat,by omega⟩
 refine ⟨65,root.Hw.out [.i n],[],?_,Wk.Hm (.cons .int (.cons .bool .nil))⟩
 rw [root.Hw.ev]
 have h0:T4 n 0=0*0+0:=by
  unfold T4
  rw [Nat.div_eq_of_lt]
  show n*18446744073709551616<340282366920938463463374607431768211456
  omega
 exact Aoz 65 (by omega) 64 0 65 0 0 rfl (by omega) h0 (A5a 0) Nat.one_pos 0 0 rfl (Nat.pow_pos (by decide))
open EqRoot
theorem Aa6 {b:Nat} (h:Ay b≠0):F2 (Ay b:Int)=((Ay b).log2:Int)+1:=by
 unfold F2
 rw [A42 (by omega),A4i]
theorem Anm {w:Nat} {E:Int} {s:Bool} (hw:2^62≤w) (n:Nat) (h:Tq n=w) (hs:s=decide (w*w≠n)) :
 Hu false (w / 2) (E+2) (bif s then true else decide (w%2=1))=(Ck (Hd n) E,flagsOf (Hd n) E):=by
 have e1:Hd n / 2^2=w / 2:=by unfold Hd; rw [h]; split<;>omega
 have e2:(bif s then true else decide (w%2=1))=decide (Hd n%2^2≠0):=by
  rw [hs]
  unfold Hd
  rw [h]
  by_cases h0:w*w=n
  ·rw [A4l (by omega),A4k,A43 h0,decide_eq_decide]; omega
  ·rw [A4h h0,A4g,A42 h0]; symm; exact A4h (by omega)
 rw [← e1]
 have:=V8 false (V:=Hd n) (k:=2) (E:=E) (e:=E+2) rfl e2 (by rw [e1]; omega) (by left; rw [e1]; omega)
 rw [Kf] at this
 exact this
theorem root.Sqrt.num {b:Nat} (hb:b<2^64) (h4:Aj b≠4) (h:¬ (Aj b=0∨b=Ek)) (hn:By b=false) {z:Nat} (hz:2^60≤Ay b*2^z) (hz2:Ay b*2^z<2^62) (he:(A3 b-(z:Int))%2=0) (z60:z≤62) :
 root.Sqrt.L0 2 2 (A3 b-(z:Int)) (Wf ((Ay b*2^z:Nat):Int)) (!(Wg ((Ay b*2^z:Nat):Int)))=some (.tup [.int .u64 (Ed (b:Int)),.int .u8 (R9 (b:Int))]):=by
 have hE:=Dy b
 have hM:=Ge b
 have h3:Aj b≠3:=fun h3=>by
  refine h (.inr ?_)
  have hpn:By b=false:=hn
  unfold By at hpn
  have hlt:b<2^63:=by simpa using hpn
  unfold Aj at h3
  have hp:=J4 b
  unfold Ea at h3
  unfold Dr at h3
  unfold Ek
  split at h3
  ·split at h3
   ·omega
   ·omega
  ·split at h3
   ·omega
   ·split at h3<;>omega
 have hm:Ay b≠0:=fun h0=>h (.inl ((Hp h3 h4).1 h0))
 have eN:Ay b*2^z*2^64=Ay b*2^(z+64):=by rw [A47,← A45]
 have i1:2^62≤Tq (Ay b*2^z*2^64):=Afn (t:=62) (by omega)
 have i2:=(Qn (Ay b*2^z*2^64)).1
 have i3:Tq (Ay b*2^z*2^64)<2^63:=by
  refine Ag2 (A5i i2 ?_)
  show _<9223372036854775808*9223372036854775808
  omega
 have r1:Wf ((Ay b*2^z:Nat):Int)=(Tq (Ay b*2^z*2^64):Int):=by unfold Wf; rw [A4i]
 have r2:(!(Wg ((Ay b*2^z:Nat):Int)))=decide (Tq (Ay b*2^z*2^64)*Tq (Ay b*2^z*2^64)≠Ay b*2^z*2^64):=by
  unfold Wg; rw [A4i,← decide_not]
 obtain ⟨k1,k2⟩:=Aaa hm
 have same:=Ada (m:=Ay b) (k:=z+64) (l:=K0 b) (E:=(A3 b-(z:Int)) / 2-33) (F:=(A3 b-(K0 b:Int)) / 2-1) (by rw [← eN]; omega) k1 (by omega)
 rw [← eN] at same
 have near:=Anm (E:=(A3 b-(z:Int)) / 2-33) i1 _ rfl r2
 rw [same.1,same.2] at near
 have sq:Oh b=_:=Z0 h4 h hn
 rw [r1,r2]
 rw [r2] at near
 generalize Tq (Ay b*2^z*2^64)=w at *
 have w1:Ex (4611686018427387904:Int) (w:Int)=true:=by rw [Fk]; exact A4h (by omega)
 have w2:Ef .u64 (w:Int) (1:Int)=((w / 2:Nat):Int):=by rw [show (1:Int)=((1:Nat):Int) from rfl,Sx _ _ (by decide)]
 have w3:((Fx .u64 (w:Int) (1:Int))==(1:Int))=decide (w%2=1):=by
  rw [show Fx .u64 (w:Int) (1:Int)=((w%2^1:Nat):Int) from J9 1 (by omega) (by decide),A4w,beq_iff_eq,A4n]
  omega
 have w4:Ex (4611686018427387904:Int) ((w / 2:Nat):Int)=false:=by rw [Fk]; exact A4l (by omega)
 have w5:Ab (Ab (Int.tdiv (A3 b-(z:Int)+2) 2)-32)=(A3 b-(z:Int)) / 2-33+2:=by
  have:Int.tdiv (A3 b-(z:Int)+2) 2=(A3 b-(z:Int)) / 2+1:=by
   rw [Int.tdiv_eq_ediv]
   split<;>omega
  rw [this,An (x:=(A3 b-(z:Int)) / 2+1) (by omega) (by omega),An (by omega) (by omega)]
  omega
 have w6:Ab (A3 b-(z:Int)+2)=A3 b-(z:Int)+2:=An (by omega) (by omega)
 generalize hs:decide (w*w≠Ay b*2^z*2^64)=s at *
 have pre:Fe ((w / 2:Nat):Int) ((A3 b-(z:Int)) / 2-33+2) (bif s then true else decide (w%2=1))=true:=Aq.2 ⟨by omega,by omega,by omega,by omega,fun _=>.inl (by omega)⟩
 rw [show (2:Nat)=1+1 from rfl,root.Sqrt.Ar,w1,A4g,w2,w3,w6,show (1:Nat)=0+1 from rfl,root.Sqrt.Ar,w4,A4k,w5,pre,A4g]
 unfold F0 Fz Ed R9
 rw [A4i,A4i,near,sq]
theorem root.Sqrt.known:root.Sqrt.Kn:=root.Sqrt.Ad (.cons Dk.B9.known (.cons root.Hw.known (.cons soft.Kind.known (.cons soft.D9.known (.cons soft.G0.known (.cons soft.Sign.known .nil)))))) fun a hp=>by
 obtain ⟨b,rfl,hb⟩:=Bw (x:=a) hp
 refine ⟨2,root.Sqrt.out [.i b],[],?_,Wk.Hm (.cons .int (.cons .int .nil))⟩
 show _=some (DV.tup [.int .u64 (Ed (b:Int)),.int .u8 (R9 (b:Int))])
 have hk:Bz (b:Int)=(Aj b:Int):=rfl
 rw [root.Sqrt.ev,Cm hb,A4g,A4g,A4g,A4g,hk]
 by_cases h4:Aj b=4
 ·rw [h4,show (((4:Nat):Int)==(4:Int))=true from rfl,A4g]
  unfold Ed R9
  rw [A4i,Z1 h4]; rfl
 have k4:(((Aj b:Nat):Int)==(4:Int))=false:=by rw [A5b]; omega
 rw [k4,A4k]
 by_cases h0:Aj b=0
 ·rw [h0,show (((0:Nat):Int)==(0:Int))=true from rfl,A4g]
  unfold Ed R9
  rw [A4i,N5 h4 (.inl h0)]; rfl
 have k0:(((Aj b:Nat):Int)==(0:Int))=false:=by rw [A5b]; omega
 rw [k0,A4k]
 by_cases hi:b=Ek
 ·rw [show (((b:Nat):Int)==(9218868437227405312:Int))=true by rw [hi]; rfl,A4g]
  unfold Ed R9
  rw [A4i,N5 h4 (.inr hi)]; rfl
 have ki:(((b:Nat):Int)==(9218868437227405312:Int))=false:=by
  rw [A5b]; intro hh; refine hi (show b=9218868437227405312 from ?_); omega
 rw [ki,A4k]
 have hh:¬ (Aj b=0∨b=Ek):=by rintro (h | h); exact h0 h; exact hi h
 have hneg:Eb (b:Int)=By b:=rfl
 rw [hneg]
 cases hn:By b with
 | true =>
   rw [A4g]
   unfold Ed R9
   rw [A4i,Vj h4 hh hn]; rfl
 | false =>
   rw [A4k]
   have hm:Ay b≠0:=fun hz=>by
    have h3:Aj b≠3:=fun h3=>by
     rcases H7 b with ⟨p,_,_⟩ | ⟨_,_,q⟩ | ⟨_,q,_⟩
     ·unfold Ay at hz
      rw [A42 (by omega)] at hz
      omega
     ·omega
     ·exact q h3
    exact hh (.inl ((Hp h3 h4).1 hz))
   have hM:=Ge b
   have hE:=Dy b
   have hl:(Ay b).log2≤52:=by have:=(A5w hm).2 (show Ay b<2^53 by omega); omega
   have e1:B6 (b:Int)=(Ay b:Int):=rfl
   have e2:Bp (b:Int)=A3 b:=rfl
   have l1:∀ z:Nat,(Ay b).log2+z=60∨(Ay b).log2+z=61→2^60≤Ay b*2^z∧Ay b*2^z<2^62:=by
    intro z hz
    have hlz:=M5 (Ay b) z hm
    have hne:Ay b*2^z≠0:=Jt hm
    constructor
    ·rw [← Nat.le_log2 hne]; omega
    ·rw [← A5w hne]; omega
   have ez:Ab ((64-(((Ay b).log2:Int)+1))-(2:Int))=((61-(Ay b).log2:Nat):Int):=by rw [An (by omega) (by omega)]; omega
   have ez':Ab (((61-(Ay b).log2:Nat):Int)-(1:Int))=((60-(Ay b).log2:Nat):Int):=by rw [An (by omega) (by omega)]; omega
   rw [e1,e2,Cm (n:=Ay b) (by omega),A4g,Aa6 hm,ez,ez',An (x:=A3 b-((61-(Ay b).log2:Nat):Int)) (by omega) (by omega),An (x:=A3 b-((60-(Ay b).log2:Nat):Int)) (by omega) (by omega)]
   by_cases hp2:(A3 b-((61-(Ay b).log2:Nat):Int))%2=0
   ·have t0:(Int.tmod (A3 b-((61-(Ay b).log2:Nat):Int)) (2:Int) !=(0:Int))=false:=by
     rw [bne_eq_false_iff_eq]; exact Int.tmod_eq_zero_of_dvd (Int.dvd_of_emod_eq_zero hp2)
    obtain ⟨m1,m2⟩:=l1 (61-(Ay b).log2) (by omega)
    rw [t0,A4k,A4h (by omega),A4g,Gx _ _ (by omega),A4t (by omega),Aq.2 (by omega),A4g]
    exact root.Sqrt.num hb h4 hh hn m1 m2 hp2 (by omega)
   ·have t0:(Int.tmod (A3 b-((61-(Ay b).log2:Nat):Int)) (2:Int) !=(0:Int))=true:=by
     rw [bne_iff_ne]; intro hz; exact hp2 (Int.emod_eq_zero_of_dvd (Int.dvd_of_tmod_eq_zero hz))
    obtain ⟨m1,m2⟩:=l1 (60-(Ay b).log2) (by omega)
    rw [t0,A4g,A4h (by omega),A4g,Gx _ _ (by omega),A4t (by omega),Aq.2 (by omega),A4g]
    exact root.Sqrt.num hb h4 hh hn m1 m2 (by omega) (by omega)
theorem Ag.Sqrt.known:Ag.Sqrt.Kn:=Ag.Sqrt.Ad (.cons root.Sqrt.known .nil) fun a hp=>by
 have hp:Af a=true:=hp
 refine ⟨0,Ag.Sqrt.out [.i a],[],?_,.int⟩
 rw [Ag.Sqrt.ev,hp]; rfl
theorem compare.K7.known:compare.K7.Kn:=compare.K7.Ad (.cons Dk.Lu.known (.cons soft.Finite.known (.cons soft.Kind.known (.cons soft.G0.known .nil)))) fun a hp=>by
 obtain ⟨b,rfl,hb⟩:=Bw (x:=a) hp
 refine ⟨0,compare.K7.out [.i b],[],?_,.int⟩
 show _=some (DV.int .i64 (B1 (b:Int)))
 have hk:Bz (b:Int)=(Aj b:Int):=rfl
 have hf:Dz (b:Int)=Jy b:=rfl
 have hE:=Dy b
 have hM:=Ge b
 rw [compare.K7.ev,Cm hb,A4g,A5s,A4g,hk,hf]
 unfold B1
 rw [A4i]
 unfold Aco
 cases hfin:Jy b with
 | false=>rfl
 | true =>
   by_cases h0:Aj b=0
   ·rw [h0]; rfl
   ·have k0:(((Aj b:Nat):Int)==(0:Int))=false:=by rw [A5b]; omega
    have hm:Ay b≠0:=fun hz=>by
     obtain ⟨f4,f3⟩:=M8 hfin
     exact h0 ((Hp f3 f4).1 hz)
    have hl:(Ay b).log2≤52:=by have:=(A5w hm).2 (show Ay b<2^53 by omega); omega
    have e1:B6 (b:Int)=(Ay b:Int):=rfl
    have e2:Bp (b:Int)=A3 b:=rfl
    rw [k0,A43 ⟨rfl,h0⟩,A5f,Bool.false_or,A4k,A4g,e1,e2,Cm (n:=Ay b) (by omega),A4g,Aa6 hm,An (x:=((Ay b).log2:Int)+1-1) (by omega) (by omega),An (by omega) (by omega)]
    congr 2; omega
theorem Ag0 {x:List Int} {i:Nat} (h:i<x.length) (k s:Int):Vi k s (x.drop i)=Vi k (Dt s (Cc (Bg (x.getD i 0) k) (Bg (x.getD i 0) k))) (x.drop (i+1)):=by
 rw [Jf h,Vi]
theorem Aoi (N:Nat) {x:List Int} (hx:Bs x=true) (hl:x.length≤1000):∀ (k i F:Nat) (s:Int),i+k=x.length→k<F→Af s=true →
 Ag.Norm.L0 N F x s (i:Int)=some (.tup [.int .u64 (Bg (Ed (Vi (-B1 (Bk x)) s (x.drop i))) (B1 (Bk x))),.int .i64 0]):=by
 obtain ⟨_,hu⟩:=Hs hx
 have he:=Rm (Bk x)
 intro k
 induction k with
 | zero =>
   intro i F s hi hF hs
   obtain ⟨F,rfl⟩:∃ G,F=G+1:=⟨F-1,by omega⟩
   rw [Ag.Norm.Ar,Av,A4l (by omega),A4k,hs,A4g,show Df (Ed s) (B1 (Bk x))=true from Ac.2 ⟨Q1 hs,Aq.2 (by omega)⟩,A4g,A4u (by omega)]
   rfl
 | succ k ih =>
   intro i F s hi hF hs
   obtain ⟨F,rfl⟩:∃ G,F=G+1:=⟨F-1,by omega⟩
   rw [Ag.Norm.Ar,Av,A4h (show (i:Int)<(x.length:Int) by omega),A4g,A4h (show (0:Int)≤(i:Int) by omega),A4m,A4g,A4i,An (x:=0-B1 (Bk x)) (by omega) (by omega),show (0:Int)-B1 (Bk x)=-B1 (Bk x) by omega,
    show Df (getD x i 0) (-B1 (Bk x))=true from Ac.2 ⟨hu i (by omega),Aq.2 (by omega)⟩,A4g,G8 (hu i (by omega)),A4m,A4g,hs,Ew,A4m,A4g,Ag0 (by omega),An (by omega) (by omega)]
   exact ih (i+1) F _ (by omega) (by omega) (Nm hs (Ew _ _))
theorem Ag.Norm.known:Ag.Norm.Kn:=Ag.Norm.Ad (.cons compare.K7.known (.cons soft.Finite.known (.cons Ag.Add.known (.cons Ag.Bx.known (.cons Ag.Mul.known (.cons Ag.Bu.known (.cons Ag.Sqrt.known .nil))))))) fun x hp=>by
 obtain ⟨hx,hl⟩:=Ac.1 (show (Bs x&&B5 (length x≤64))=true from hp)
 have hl:=Aq.1 hl
 refine ⟨65,Ag.Norm.out [.l x],[],?_,Wk.Hm (.cons .int (.cons .int .nil))⟩
 show _=some (DV.tup [.int .u64 (Bt x),.int .i64 0])
 rw [Ag.Norm.ev,Av,A4l (by omega),A4k,hx,A4g,Rr,A5s,A4g]
 unfold Bt
 by_cases h:Bk x=0∨Dz (Bk x)=false
 ·have:((Bk x==(0:Int))||(!(Dz (Bk x))))=true:=by
   rcases h with h | h
   ·rw [h]; rfl
   ·rw [h,A5z,A5s]
  rw [this,A4g,A43 h]
 ·have:((Bk x==(0:Int))||(!(Dz (Bk x))))=false:=by
   rw [Bool.or_eq_false_iff,A5b,Bool.not_eq_false']
   refine ⟨fun h0=>h (.inl h0),?_⟩
   cases hf:Dz (Bk x) with
   | true=>rfl
   | false=>exact absurd (.inr hf) h
  rw [this,A4k,A4g,A42 h]
  exact Aoi 65 hx (by omega) x.length 0 65 0 (by omega) (by omega) Lb
end Go.Proofs.S1
namespace Go.Rnd
open Go.Den
theorem p52:Ay 4841369599423283200=2^52∧A3 4841369599423283200=0∧Aj 4841369599423283200=2∧By 4841369599423283200=false:=by decide +kernel
theorem p53:Ay 4368491638549381120=2^52∧A3 4368491638549381120=-105∧Aj 4368491638549381120=2∧By 4368491638549381120=false:=by decide +kernel
theorem Ag6 {L:Int} {q:Nat} (b1:2^52≤q) (b2:q<2^53) (he:-1074≤L) (hi:L+1074≤2045):min ((L+1074).toNat*2^52+q) 9218868437227405312=(L+1075).toNat*2^52+(q-2^52):=by
 obtain ⟨t,rfl⟩:∃ t:Nat,L=t-1074:=⟨(L+1074).toNat,by omega⟩
 have e1:((t:Int)-1074+1074).toNat=t:=by omega
 have e2:((t:Int)-1074+1075).toNat=t+1:=by omega
 rw [e1,e2]
 omega
theorem Arb {m:Nat} (h0:m≠0) (h:m.log2≤52) {e:Int} (he:-1074≤e+m.log2-52) (hi:e+m.log2-52+1074≤2045) :
 Ck m e=(e+m.log2-52+1075).toNat*2^52+(m*2^(52-m.log2)-2^52)∧2^52≤m*2^(52-m.log2)∧m*2^(52-m.log2)<2^53:=by
 have hl:=M5 m (52-m.log2) h0
 have hne:m*2^(52-m.log2)≠0:=Jt h0
 have b1:2^52≤m*2^(52-m.log2):=by rw [← Nat.le_log2 hne,hl]; omega
 have b2:m*2^(52-m.log2)<2^53:=by rw [← A5w hne,hl]; omega
 have hs:=(D1 m (52-m.log2) e).1
 have ee:e-((52-m.log2:Nat):Int)=e+m.log2-52:=by omega
 rw [ee] at hs
 exact ⟨hs.symm.trans ((N7 b1 b2 (by omega)).trans (Ag6 b1 b2 he hi)),b1,b2⟩
theorem Ar0 {x:Nat} (hx:x<2^64) (h3:Aj x≠3) (h4:Aj x≠4) (h0:Aj x≠0) :
 ∃ P f d:Nat,1≤P∧P≤2046∧f<2^52∧Nu x=Bo (By x) (P*2^52+f)∧f+2^52=Ay x*2^d∧(P:Int)-1075=A3 x-J7 x-d:=by
 have hf:=Kj x
 have hp:=J4 x
 have hm:Ay x≠0:=fun h=>h0 ((Hp h3 h4).1 h)
 have hw:=N6 hx
 have hab:Gg x=Ea x*2^52+Dr x:=by unfold Gg Ea Dr; omega
 have hp2:Ea x≠2047:=fun h=>by
  rcases H7 x with ⟨_,_,k⟩ | ⟨_,_,k⟩ | ⟨k,_,_⟩
  ·exact h3 k
  ·exact h4 k
  ·omega
 unfold Nu J7
 by_cases hs:Gg x<4503599627370496
 ·have hz:Ea x=0:=by omega
  have eM:Ay x=Dr x:=by unfold Ay; rw [A43 hz]
  have eE:A3 x=-1074:=by unfold A3; rw [A43 hz]
  have hl:(Ay x).log2≤51:=by have:=(A5w hm).2 (show Ay x<2^52 by omega); omega
  rw [A43 hs,A43 hs]
  have hmul:=mul_pow h3 h4 (by rw [p52.2.2.1]; decide) (by rw [p52.2.2.1]; decide) p52.1 p52.2.2.2
  rw [hmul,p52.2.1,eE]
  obtain ⟨r1,r2,r3⟩:=Arb (e:=-1074+0+52) hm (by omega) (by omega) (by omega)
  refine ⟨(Ay x).log2+1,Ay x*2^(52-(Ay x).log2)-2^52,52-(Ay x).log2,by omega,by omega,by omega,?_,by omega,by omega⟩
  have ht:(-1074+0+52+((Ay x).log2:Int)-52+1075).toNat=(Ay x).log2+1:=by omega
  rw [ht] at r1
  exact congrArg (Bo (By x)) r1
 ·rw [A42 hs,A42 hs]
  have hz:Ea x≠0:=by
   intro h
   rw [h] at hab
   omega
  have eM:Ay x=Dr x+2^52:=by unfold Ay; rw [A42 hz]
  have eE:A3 x=(Ea x:Int)-1075:=by unfold A3; rw [A42 hz]
  refine ⟨Ea x,Dr x,0,by omega,by omega,hf,?_,by rw [eM,A5e,A5p],by omega⟩
  rw [← hab]
  exact hw.symm
theorem S6 {s:Bool} {P f:Nat} (h1:1≤P) (h2:P≤2046) (hf:f<2^52) :
 Ea (Bo s (P*2^52+f))=P∧Dr (Bo s (P*2^52+f))=f∧By (Bo s (P*2^52+f))=s∧Bo s (P*2^52+f)<2^64∧Aj (Bo s (P*2^52+f))=2 ∧
 Ay (Bo s (P*2^52+f))=f+2^52∧A3 (Bo s (P*2^52+f))=(P:Int)-1075:=by
 have e1:Ea (Bo s (P*2^52+f))=P:=by
  unfold Ea Bo
  cases s
  ·rw [A42 (by decide)]; omega
  ·rw [A43 rfl]; omega
 have e2:Dr (Bo s (P*2^52+f))=f:=by
  unfold Dr Bo
  cases s
  ·rw [A42 (by decide)]; omega
  ·rw [A43 rfl]; omega
 have e3:By (Bo s (P*2^52+f))=s:=sign_neg s (by omega)
 have e4:Bo s (P*2^52+f)<2^64:=by
  unfold Bo
  cases s
  ·rw [A42 (by decide)]; omega
  ·rw [A43 rfl]; omega
 refine ⟨e1,e2,e3,e4,?_,?_,?_⟩
 ·unfold Aj; rw [e1,A42 (by omega),A43 (by omega)]
 ·unfold Ay; rw [e1,e2,A42 (by omega)]
 ·unfold A3; rw [e1,A42 (by omega)]
theorem Ara {L:Int} {q f:Nat} (hf:f<2^52) (h1:-1074≤L) (h2:L+1074≤2045) (hq:(L+1075).toNat=q):Ck (f+2^52) L=q*2^52+f:=by
 have em:=Ag6 (L:=L) (q:=f+2^52) (by omega) (by omega) h1 h2
 rw [hq,Nat.add_sub_cancel] at em
 exact (N7 (by omega) (by omega) h1).trans em
theorem A3p {V:Nat} {E:Int} (h0:V≠0) (h:1024≤E+V.log2):Ck V E=Ek:=by
 have hl:Da V E=E+V.log2-52:=by unfold Da; omega
 have hk:=Afm h0 hl
 have hle:=Km V E
 unfold Ck at hle ⊢
 rw [A42 h0] at hle ⊢
 rw [hl,Gb] at hle ⊢
 generalize kept V E=q at *
 obtain ⟨t,ht⟩:∃ t:Nat,E+(V.log2:Int)-52=t:=⟨(E+(V.log2:Int)-52).toNat,by omega⟩
 rw [ht]
 have:((t:Int)+1074).toNat=t+1074:=by omega
 rw [this]
 omega
theorem Aah {y m:Nat} (h:Es y=m) (hm:Aj m≠4):y=m:=by
 unfold Es at h
 by_cases h4:Aj y=4
 ·rw [A43 h4] at h
  exact absurd (by rw [← h]; decide) hm
 ·rw [A42 h4] at h; exact h
theorem Sl (s:Bool) (V:Nat) (E:Int):Aj (Bo s (Ck V E))≠4:=by
 rw [Xw s (Km V E)]
 split
 ·decide
 ·split
  ·decide
  ·split<;>decide
theorem Aq6 {x P f d:Nat} {k:Int} (hm:Ay x≠0) (he:f+2^52=Ay x*2^d) (hP:(P:Int)-1075=A3 x-J7 x-d) :
 Ck (Ay x) (A3 x+k)=Ck (f+2^52) ((P:Int)-1075+J7 x+k):=by
 have:=(D1 (Ay x) d (A3 x+k)).1
 rw [← he] at this
 rw [← this]
 congr 1
 omega
end Go.Rnd
namespace Go.Proofs.S1
open Go Go.Den Go.Rnd Go.Proofs
set_option maxRecDepth 100000
namespace EqLdx
def math.Hy.Bc:List (Nat × Entry):=[]
def math.Hy.E:Env:=Bi (Be math.Hy.Bc) (fun _=>false) (fun _=>none) (fun _=>none)
theorem math.Hy.ev (N x:Nat):B0 math.Hy.E N f235 (Ak f235) [.fl x]=some (.fl (x%9223372036854775808)):=by kernel_rfl
abbrev _root_.Go.Proofs.S1.math.Hy.Kn:=A8 prog 235 math.Hy.spec
theorem math.Hy.Ad (hk:A2 prog math.Hy.Bc) (h:Hyp math.Hy.E f235 math.Hy.ts math.Hy.pre math.Hy.out):math.Hy.Kn :=
 Am (A5 hk _ _ _) func235 (by kernel_rfl) (by kernel_rfl) h
def math.Is.Bc:List (Nat × Entry):=[]
def math.Is.E:Env:=Bi (Be math.Is.Bc) (fun _=>false) (fun _=>none) (fun _=>none)
theorem math.Is.ev (N x:Nat):B0 math.Is.E N f216 (Ak f216) [.fl x]=some (.bool (Ieee.double.order x x !=some .eq)):=by kernel_rfl
abbrev _root_.Go.Proofs.S1.math.Is.Kn:=A8 prog 216 math.Is.spec
theorem math.Is.Ad (hk:A2 prog math.Is.Bc) (h:Hyp math.Is.E f216 math.Is.ts math.Is.pre math.Is.out):math.Is.Kn :=
 Am (A5 hk _ _ _) func216 (by kernel_rfl) (by kernel_rfl) h
def math.It.Bc:List (Nat × Entry):=[(235,math.Hy.spec)]
def math.It.E:Env:=Bi (Be math.It.Bc) (fun _=>false) (fun _=>none) (fun _=>none)
theorem math.It.ev (N x:Nat) (s:Int):B0 math.It.E N f215 (Ak f215) [.fl x,.int .i64 s]=bif (s==(0:Int)) then some (.bool (Ieee.double.order (Gg x) 9218868437227405311==some .gt)) else bif (Bb s 0) then none else some (.bool (Ieee.double.order x 9218868437227405311==some .gt)):=by kernel_rfl
abbrev _root_.Go.Proofs.S1.math.It.Kn:=A8 prog 215 math.It.spec
theorem math.It.Ad (hk:A2 prog math.It.Bc) (h:Hyp math.It.E f215 math.It.ts math.It.pre math.It.out):math.It.Kn :=
 Am (A5 hk _ _ _) func215 (by kernel_rfl) (by kernel_rfl) h
def math.normalize.Bc:List (Nat × Entry):=[(235,math.Hy.spec)]
def math.normalize.E:Env:=Bi (Be math.normalize.Bc) (fun _=>false) (fun _=>none) (fun _=>none)
theorem math.normalize.ev (N x:Nat):B0 math.normalize.E N f217 (Ak f217) [.fl x]=bif (Ieee.double.order (Gg x) 4503599627370496==some .lt) then some (.tup [.fl ((Ieee.double.mul x 4841369599423283200).getD nanBits),.int .i64 (-52:Int)]) else some (.tup [.fl x,.int .i64 0]):=by kernel_rfl
abbrev _root_.Go.Proofs.S1.math.normalize.Kn:=A8 prog 217 math.normalize.spec
theorem math.normalize.Ad (hk:A2 prog math.normalize.Bc) (h:Hyp math.normalize.E f217 math.normalize.ts math.normalize.pre math.normalize.out):math.normalize.Kn :=
 Am (A5 hk _ _ _) func217 (by kernel_rfl) (by kernel_rfl) h
def math.Eo.Bc:List (Nat × Entry):=[]
def math.Eo.E:Env:=X0 (Be math.Eo.Bc) (fun _=>false) (fun _=>none) (fun _=>none) (Aja [])
theorem math.Eo.ev (N x y:Nat):B0 math.Eo.E N f218 (Ak f218) [.fl x,.fl y]=bif (!(G4 x)) then bif (!(G4 y)) then bif (decide (0≤(Jk .u64 (Ie .u64 (x:Int) 9223372036854775808) (Fx .u64 (y:Int) 9223372036854775808)))) then some (.fl (toNat (Jk .u64 (Ie .u64 (x:Int) 9223372036854775808) (Fx .u64 (y:Int) 9223372036854775808)))) else none else none else none:=by kernel_rfl
abbrev _root_.Go.Proofs.S1.math.Eo.Kn:=A8 prog 218 math.Eo.spec
theorem math.Eo.Ad (hk:A2 prog math.Eo.Bc) (h:Hyp math.Eo.E f218 math.Eo.ts math.Eo.pre math.Eo.out):math.Eo.Kn :=
 Am (Zl hk _ _ _ _) func218 (by kernel_rfl) (by kernel_rfl) h
def math.Yc.Bc:List (Nat × Entry):=[]
def math.Yc.E:Env:=Bi (Be math.Yc.Bc) (fun _=>false) (fun _=>none) (fun _=>none)
theorem math.Yc.ev (N:Nat) (s:Int):B0 math.Yc.E N f219 (Ak f219) [.int .i64 s]=bif (Ex 0 s) then some (.fl 9218868437227405312) else some (.fl 18442240474082181120):=by kernel_rfl
abbrev _root_.Go.Proofs.S1.math.Yc.Kn:=A8 prog 219 math.Yc.spec
theorem math.Yc.Ad (hk:A2 prog math.Yc.Bc) (h:Hyp math.Yc.E f219 math.Yc.ts math.Yc.pre math.Yc.out):math.Yc.Kn :=
 Am (A5 hk _ _ _) func219 (by kernel_rfl) (by kernel_rfl) h
def math.H3.Bc:List (Nat × Entry):=[(218,math.Eo.spec),(219,math.Yc.spec),(215,math.It.spec),(216,math.Is.spec),(217,math.normalize.spec)]
def math.H3.E:Env:=X0 (Be math.H3.Bc) (fun _=>false) (fun _=>none) (fun _=>none) (Aja [])
theorem math.H3.ev (N x:Nat) (k:Int):B0 math.H3.E N f189 (Ak f189) [.fl x,.int .i64 k]=bif (Ieee.double.order x 0==some .eq) then some (.fl x) else bif (Wx x&&decide ((0:Int)=0)) then bif ((decide (Aj x=3))||(Wx x)) then bif ((decide (Aj x=3))||(decide (Aj x=4))) then some (.fl x) else bif (Ain x) then bif (!(G4 (Nu x))) then bif (Bb (Ab ((Ab (k+(J7 x)))+(Ab ((Fx .i64 (Ab (Ef .u64 ((Nu x):Int) 52)) 2047)-1023)))) (-1075:Int)) then bif (Ain (Nu x)&&decide ((0:Int)=0)) then some (.fl (Bo (By (Nu x)) 0)) else none else bif (Bb 1023 (Ab ((Ab (k+(J7 x)))+(Ab ((Fx .i64 (Ab (Ef .u64 ((Nu x):Int) 52)) 2047)-1023))))) then bif (Ieee.double.order (Nu x) 0==some .lt) then some (.fl (Bo (decide ((-1:Int)<0)) Ek)) else some (.fl (Bo (decide ((1:Int)<0)) Ek)) else bif (Bb (Ab ((Ab (k+(J7 x)))+(Ab ((Fx .i64 (Ab (Ef .u64 ((Nu x):Int) 52)) 2047)-1023)))) (-1022:Int)) then bif (decide (0≤(Jk .u64 (Ie .u64 ((Nu x):Int) 9218868437227405312) (Ch .u64 (Bq (Ab ((Ab ((Ab ((Ab (k+(J7 x)))+(Ab ((Fx .i64 (Ab (Ef .u64 ((Nu x):Int) 52)) 2047)-1023))))+53))+1023))) 52)))) then some (.fl ((Ieee.double.mul 4368491638549381120 (toNat (Jk .u64 (Ie .u64 ((Nu x):Int) 9218868437227405312) (Ch .u64 (Bq (Ab ((Ab ((Ab ((Ab (k+(J7 x)))+(Ab ((Fx .i64 (Ab (Ef .u64 ((Nu x):Int) 52)) 2047)-1023))))+53))+1023))) 52)))).getD nanBits)) else none else bif (decide (0≤(Jk .u64 (Ie .u64 ((Nu x):Int) 9218868437227405312) (Ch .u64 (Bq (Ab ((Ab ((Ab (k+(J7 x)))+(Ab ((Fx .i64 (Ab (Ef .u64 ((Nu x):Int) 52)) 2047)-1023))))+1023))) 52)))) then some (.fl ((Ieee.double.mul 4607182418800017408 (toNat (Jk .u64 (Ie .u64 ((Nu x):Int) 9218868437227405312) (Ch .u64 (Bq (Ab ((Ab ((Ab (k+(J7 x)))+(Ab ((Fx .i64 (Ab (Ef .u64 ((Nu x):Int) 52)) 2047)-1023))))+1023))) 52)))).getD nanBits)) else none else none else none else none else none :=
 Eq.trans (by kernel_rfl)
 (E1 rfl (E1 (Ax (W4 (decide (Aj x=3))) (Cw (Auu _ _) (Ax (tt6 (decide (Aj x=3))) (Cw (tt5 _ _) rfl rfl)) rfl)) rfl))
abbrev _root_.Go.Proofs.S1.math.H3.Kn:=A8 prog 189 math.H3.spec
theorem math.H3.Ad (hk:A2 prog math.H3.Bc) (h:Hyp math.H3.E f189 math.H3.ts math.H3.pre math.H3.out):math.H3.Kn :=
 Am (Zl hk _ _ _ _) func189 (by kernel_rfl) (by kernel_rfl) h
def math.I4.Bc:List (Nat × Entry):=[(189,math.H3.spec)]
def math.I4.E:Env:=Bi (Be math.I4.Bc) (fun _=>false) (fun _=>none) (fun _=>none)
theorem math.I4.ev (N x:Nat) (k:Int):B0 math.I4.E N f146 (Ak f146) [.fl x,.int .i64 k]=bif (Wx x&&B5 (-2300≤k∧k≤2300)) then some (.fl (Jw x k)) else none:=by kernel_rfl
abbrev _root_.Go.Proofs.S1.math.I4.Kn:=A8 prog 146 math.I4.spec
theorem math.I4.Ad (hk:A2 prog math.I4.Bc) (h:Hyp math.I4.E f146 math.I4.ts math.I4.pre math.I4.out):math.I4.Kn :=
 Am (A5 hk _ _ _) func146 (by kernel_rfl) (by kernel_rfl) h
def Ah.Bu.Bc:List (Nat × Entry):=[(146,math.I4.spec),(145,Ah.B.spec),(147,Ah.F.spec)]
def Ah.Bu.E:Env:=Bi (Be Ah.Bu.Bc) (fun _=>false) (fun _=>none) (fun _=>none)
theorem Ah.Bu.ev (N:Nat) (a k:Int):B0 Ah.Bu.E N f85 (Ak f85) [.int .u64 a,.int .i64 k]=bif (Af a) then bif (Wx (toNat a)&&B5 (-2300≤k∧k≤2300)) then some (.int .u64 (Hf (Jw (toNat a) k))) else none else none:=by kernel_rfl
abbrev _root_.Go.Proofs.S1.Ah.Bu.Kn:=A8 prog 85 Ah.Bu.spec
theorem Ah.Bu.Ad (hk:A2 prog Ah.Bu.Bc) (h:Hyp Ah.Bu.E f85 Ah.Bu.ts Ah.Bu.pre Ah.Bu.out):Ah.Bu.Kn :=
 Am (A5 hk _ _ _) func85 (by kernel_rfl) (by kernel_rfl) h
end EqLdx
open EqLdx
theorem Aba (n:Nat):G4 n=decide (Aj n=4):=Aas n
theorem Af9 (x:Nat):Gg x<2^64:=Nat.lt_trans (T0 x) (by decide)
theorem Sm (x:Nat):Aj (Gg x)=Aj x:=by
 have e1:Ea (Gg x)=Ea x:=by unfold Ea Gg; omega
 have e2:Dr (Gg x)=Dr x:=by unfold Dr Gg; omega
 unfold Aj
 rw [e1,e2]
theorem Sv (x y:Int):(compare x y=.lt↔x<y)∧(compare x y=.gt↔y<x)∧(compare x y=.eq↔x=y):=by
 rcases Int.lt_trichotomy x y with h | h | h
 ·rw [Ak7 h]; refine ⟨by simp [h],?_,?_⟩<;>simp<;>omega
 ·subst h
  have:compare x x=.eq:=by simp [compare,compareOfLessAndEq]
  rw [this]; simp
 ·rw [Ak8 h]; refine ⟨?_,by simp [h],?_⟩<;>simp<;>omega
theorem math.Hy.known:math.Hy.Kn:=math.Hy.Ad .nil fun x _=>⟨0,math.Hy.out [.f x],[],by rw [math.Hy.ev]; rfl,.fl⟩
theorem math.Is.known:math.Is.Kn:=math.Is.Ad .nil fun x hp=>by
 have hx:=Aq.1 (show Wx x=true from hp)
 refine ⟨0,math.Is.out [.f x],[],?_,.bool⟩
 show _=some (DV.bool (decide (Aj x=4)))
 rw [math.Is.ev]
 by_cases h:Aj x=4
 ·rw [Xo hx hx (.inl h),A4h h]; rfl
 ·rw [Qg hx hx h h,A4l h,(Sv _ _).2.2.2 rfl]; rfl
theorem Zn {x:Nat} (hx:x<2^64) (h4:Aj x≠4):(Ieee.double.order (Gg x) 9218868437227405311==some .gt)=decide (Aj x=3):=by
 have k1:Aj 9218868437227405311≠4:=by decide +kernel
 have k2:Hr 9218868437227405311=9218868437227405311:=by decide +kernel
 have ka:Hr (Gg x)=((Gg x:Nat):Int):=by
  have:=M6 false (r:=Gg x) (T0 x)
  exact this
 rw [Qg (Af9 x) (by decide) (by rw [Sm]; exact h4) k1,k2,ka]
 have hl:=Ayp h4
 rw [A4w,beq_iff_eq,A4j,(Sv _ _).2.1,A4n]
 constructor
 ·intro h
  refine Decidable.byContradiction fun h3=>?_
  have:=Tp h3 h4
  rw [Gb] at this
  unfold Gg at h
  omega
 ·intro h3
  have:=Rf h3
  rw [Gb] at this
  unfold Gg
  omega
theorem math.It.known:math.It.Kn:=math.It.Ad (.cons math.Hy.known .nil) fun x s hp=>by
 obtain ⟨h1,h2⟩:=Ac.1 (show (Wx x&&decide (s=0))=true from hp)
 have hx:=Aq.1 h1
 obtain rfl:=A46 h2
 refine ⟨0,math.It.out [.f x,.i 0],[],?_,.bool⟩
 show _=some (DV.bool (decide (Aj x=3)))
 rw [math.It.ev,show ((0:Int)==(0:Int))=true from rfl,A4g]
 by_cases h4:Aj x=4
 ·rw [Xo (Af9 x) (by decide) (.inl (by rw [Sm]; exact h4)),A4l (by omega)]; rfl
 ·rw [Zn hx h4]
theorem math.normalize.known:math.normalize.Kn:=math.normalize.Ad (.cons math.Hy.known .nil) fun x hp=>by
 obtain ⟨hx,h3,h4⟩:=Aq.1 (show Ain x=true from hp)
 refine ⟨0,math.normalize.out [.f x],[],?_,Wk.Hm (.cons .fl (.cons .int .nil))⟩
 show _=some (DV.tup [.fl (Nu x),.int .i64 (J7 x)])
 have k1:Aj 4503599627370496≠4:=by decide +kernel
 have k2:Hr 4503599627370496=4503599627370496:=by decide +kernel
 have ka:Hr (Gg x)=((Gg x:Nat):Int):=M6 false (r:=Gg x) (T0 x)
 have hc:(Ieee.double.order (Gg x) 4503599627370496==some .lt)=decide (Gg x<4503599627370496):=by
  rw [Qg (Af9 x) (by decide) (by rw [Sm]; exact h4) k1,k2,ka,A4w,beq_iff_eq,A4j,(Sv _ _).1,A4n]
  omega
 rw [math.normalize.ev,hc]
 unfold Nu J7
 by_cases h:Gg x<4503599627370496
 ·rw [A4h h,A4g,A43 h,A43 h]
  have hm:=mul_pow h3 h4 (by rw [p52.2.2.1]; decide) (by rw [p52.2.2.1]; decide) p52.1 p52.2.2.2
  have:=Aah (Wa hx (b:=4841369599423283200) (by decide) H2) (by rw [hm]; exact Sl _ _ _)
  rw [this]
 ·rw [A4l h,A4k,A42 h,A42 h]
theorem Avm {n:Nat} (h:n<2^64):n &&& 9227875636482146303=n / 2^63*2^63+n%2^52:=by
 have hf:n%2^52<2^63:=by omega
 apply Nat.eq_of_testBit_eq
 intro j
 rw [Nat.testBit_and,show (9227875636482146303:Nat)=2^63*1+(2^52-1) from rfl,A44 (n / 2^63),Nat.testBit_two_pow_mul_add _ (by decide:2^52-1<2^63),Nat.testBit_two_pow_mul_add _ hf]
 by_cases hj:j<63
 ·rw [A43 hj,A43 hj,Nat.testBit_mod_two_pow,Nat.testBit_two_pow_sub_one,Bool.and_comm]
 ·rw [A42 hj,A42 hj,Nat.testBit_div_two_pow,Nat.sub_add_cancel (by omega)]
  by_cases h63:j=63
  ·subst h63
   show (n.testBit 63&&true)=_
   rw [Bool.and_true]
  ·have e1:Nat.testBit 1 (j-63)=false:=by rw [show (1:Nat)=2^0 from rfl,Nat.testBit_two_pow]; exact A4l (by omega)
   have e2:n.testBit j=false:=Nat.testBit_lt_two_pow (A5r h (A4v (by decide) (by omega)))
   rw [e1,e2]; rfl
theorem Ai9 {n:Nat} (h:n<2^64):Ie .u64 (n:Int) (9218868437227405312:Int)=((n / 2^63*2^63+n%2^52:Nat):Int):=by
 have e:(BitVec.ofInt 64 (n:Int) &&& ~~~(BitVec.ofInt 64 9218868437227405312)).toNat=n / 2^63*2^63+n%2^52:=by
  have e1 : ~~~(BitVec.ofInt 64 9218868437227405312)=BitVec.ofNat 64 9227875636482146303:=by decide
  rw [e1,BitVec.toNat_and,BitVec.toNat_ofNat,BitVec.toNat_ofInt]
  have e2:(((n:Int)%((2^64:Nat):Int)).toNat)=n:=by omega
  rw [e2]
  exact Avm h
 have e':(BitVec.ofInt IntKind.u64.bits (n:Int) &&& ~~~(BitVec.ofInt IntKind.u64.bits 9218868437227405312)).toNat=n / 2^63*2^63+n%2^52:=e
 unfold Ie
 rw [e']
 exact Vf (by omega)
theorem or3 {A X Y Z W V f:Nat} (h1:A=f ||| X) (h2:X ||| Y=Z) (h3:f ||| Z=W) (h4:W=V):A ||| Y=V:=by rw [h1,Nat.or_assoc,h2,h3,h4]
theorem A3n (s p f:Nat):(s*2^11+p)*2^52+f=s*2^63+p*2^52+f:=by
 rw [A5k,A47,← A45]
theorem Ayg {s f p:Nat} (hs:s<2) (hf:f<2^52) (hp:p<2048):(s*2^63+f) ||| (p*2^52)=s*2^63+p*2^52+f:=by
 have e1:s*2^63+f=f ||| s*2^11*2^52:=by rw [Om hf]; omega
 have e2:s*2^11*2^52 ||| p*2^52=(s*2^11+p)*2^52:=by
  have:=Om (a:=s) (b:=p) (k:=11) hp
  rw [← Nat.shiftLeft_eq,← Nat.shiftLeft_eq p,← Nat.shiftLeft_or_distrib,Nat.or_comm,this,Nat.shiftLeft_eq]
 exact or3 e1 e2 (Om hf) (A3n s p f)
theorem Al6 {s:Bool} {P f:Nat} (h2:P≤2046) (hf:f<2^52) {q:Nat} (hq:q<2048) :
 Jk .u64 (Ie .u64 ((Bo s (P*2^52+f):Nat):Int) (9218868437227405312:Int)) (Ch .u64 (Bq (q:Int)) (52:Int))=((Bo s (q*2^52+f):Nat):Int):=by
 have h64:Bo s (P*2^52+f)<2^64:=by
  unfold Bo
  cases s
  ·rw [A42 (by decide)]; omega
  ·rw [A43 rfl]; omega
 have ef:Bo s (P*2^52+f)%2^52=f:=by
  unfold Bo
  cases s
  ·rw [A42 (by decide)]; omega
  ·rw [A43 rfl]; omega
 have es:Bo s (P*2^52+f) / 2^63=if s then 1 else 0:=by
  unfold Bo
  cases s
  ·rw [A42 (by decide),A42 (by decide)]; omega
  ·rw [A43 rfl,A43 rfl]; omega
 rw [Ai9 h64,ef,es,Eh (by omega) (by omega),show (52:Int)=((52:Nat):Int) from rfl,Gx q 52 (by decide),A4t (by omega),Ww (by split<;>omega) (by omega),Ayg (by split<;>decide) hf hq]
 refine congrArg (fun n:Nat=>(n:Int)) ?_
 unfold Bo
 cases s
 ·rw [A42 (by decide),A42 (by decide)]; omega
 ·rw [A43 rfl,A43 rfl]; omega
theorem Ath {s:Bool} {P f:Nat} (h1:1≤P) (h2:P≤2046) (hf:f<2^52):Fx .i64 (Ab (Ef .u64 ((Bo s (P*2^52+f):Nat):Int) (52:Int))) (2047:Int)=(P:Int):=by
 obtain ⟨e1,_,_,h64,_⟩:=S6 (s:=s) h1 h2 hf
 rw [show (52:Int)=((52:Nat):Int) from rfl,Sx _ _ (by decide),An (by omega) (by omega)]
 have hb:Fx .i64 ((Bo s (P*2^52+f) / 2^52:Nat):Int) (2047:Int)=Ab ((Bo s (P*2^52+f) / 2^52%2048:Nat):Int):=by
  unfold Fx
  have e:(BitVec.ofInt 64 ((Bo s (P*2^52+f) / 2^52:Nat):Int) &&& BitVec.ofInt 64 2047).toNat=Bo s (P*2^52+f) / 2^52%2048:=by
   rw [BitVec.toNat_and,J6,show (BitVec.ofInt 64 2047).toNat=2^11-1 from rfl,Nat.and_two_pow_sub_one_eq_mod]
   omega
  have e':(BitVec.ofInt IntKind.i64.bits ((Bo s (P*2^52+f) / 2^52:Nat):Int) &&& BitVec.ofInt IntKind.i64.bits 2047).toNat=Bo s (P*2^52+f) / 2^52%2048:=e
  rw [e']
  rfl
 unfold Ea at e1
 rw [hb,e1,An (by omega) (by omega)]
theorem math.Eo.known:math.Eo.Kn:=math.Eo.Ad .nil fun x y hp=>by
 obtain ⟨h1,h2⟩:=Ac.1 (show (Ain y&&decide (x=0))=true from hp)
 obtain ⟨hy,h3,h4⟩:=Aq.1 (show B5 _=true from h1)
 obtain rfl:=A46 h2
 refine ⟨0,math.Eo.out [.f 0,.f y],[],?_,.fl⟩
 show _=some (DV.fl (Bo (By y) 0))
 have n0:G4 0=false:=by decide +kernel
 have ny:G4 y=false:=by rw [Aba]; exact A4l h4
 have e1:Ie .u64 ((0:Nat):Int) (9223372036854775808:Int)=((0:Nat):Int):=Ab1 (by decide)
 have e2:Fx .u64 (y:Int) (9223372036854775808:Int)=((Bo (By y) 0:Nat):Int):=by
  rw [show (9223372036854775808:Int)=((9223372036854775808:Nat):Int) from rfl,Ai5 hy (by decide)]
  congr 1
  apply Nat.eq_of_testBit_eq
  intro j
  rw [Nat.testBit_and,show (9223372036854775808:Nat)=2^63 from rfl,Nat.testBit_two_pow]
  unfold Bo By
  by_cases hn:2^63≤y
  ·rw [A4h hn,A43 rfl,A5o,Nat.testBit_two_pow]
   by_cases hj:63=j
   ·subst hj
    have:y.testBit 63=true:=by
     rw [Nat.testBit_eq_decide_div_mod_eq,A4n]; omega
    rw [this]; rfl
   ·rw [A4l hj,Bool.and_false]
  ·rw [A4l hn,A42 (by decide),Nat.zero_testBit]
   by_cases hj:63=j
   ·subst hj
    rw [Nat.testBit_lt_two_pow (by omega)]; rfl
   ·rw [A4l hj,Bool.and_false]
 have e3:Jk .u64 ((0:Nat):Int) ((Bo (By y) 0:Nat):Int)=((Bo (By y) 0:Nat):Int):=by
  rw [Ww (by decide) (by unfold Bo; split<;>decide),Nat.zero_or]
 rw [math.Eo.ev,n0,ny,e1,e2,e3,A4h (by omega)]
 rfl
theorem math.Yc.known:math.Yc.Kn:=math.Yc.Ad .nil fun s _=>by
 refine ⟨0,math.Yc.out [.i s],[],?_,.fl⟩
 show _=some (DV.fl (Bo (decide (s<0)) Ek))
 rw [math.Yc.ev,Fk]
 by_cases h:s<0
 ·rw [A4l (by omega),A4h h]; rfl
 ·rw [A4h (by omega),A4l h]; rfl
open EqLdx
theorem Ra {x:Nat} (hx:x<2^64):(Ieee.double.order x 0==some .eq)=decide (Aj x=0):=by
 by_cases h4:Aj x=4
 ·rw [Xo hx (by decide) (.inl h4),A4l (by omega)]; rfl
 ·have k0:Aj 0≠4:=by decide +kernel
  have z:Hr 0=0:=by decide +kernel
  have hk:Hr x=0↔x%2^63=0:=by
   have:=M6 (By x) (r:=x%2^63) (Nat.mod_lt _ (by decide))
   rw [N6 hx] at this
   rw [this]
   unfold Ja
   cases By x
   ·rw [A42 (by decide)]; omega
   ·rw [A43 rfl]; omega
  have h0:Aj x=0↔x%2^63=0:=by
   have hp:x%2^63=Ea x*2^52+Dr x:=by unfold Ea Dr; omega
   rw [hp]
   have:=J4 x
   unfold Aj
   split
   ·split<;>omega
   ·split
    ·omega
    ·split<;>omega
  rw [Qg hx (by decide) h4 k0,z,A4w,beq_iff_eq,A4j,(Sv _ _).2.2,A4n,hk,h0]
theorem Aod {x:Nat} (hx:x<2^64) (h4:Aj x≠4) (h0:Aj x≠0):(Ieee.double.order x 0==some .lt)=By x:=by
 have k0:Aj 0≠4:=by decide +kernel
 have z:Hr 0=0:=by decide +kernel
 have hp:x%2^63=Ea x*2^52+Dr x:=by unfold Ea Dr; omega
 have hne:x%2^63≠0:=by
  intro h
  refine h0 ?_
  unfold Aj
  rw [A42 (by omega),A42 (by omega),A42 (by omega)]
 have:=M6 (By x) (r:=x%2^63) (Nat.mod_lt _ (by decide))
 rw [N6 hx] at this
 rw [Qg hx (by decide) h4 k0,z,A4w,beq_iff_eq,A4j,(Sv _ _).1,this]
 unfold Ja
 cases By x
 ·rw [A42 (by decide)]
  constructor
  ·intro h; omega
  ·intro h; cases h
 ·rw [A43 rfl]
  constructor
  ·intro _; rfl
  ·intro _; omega
theorem Aoh (x:Nat):J7 x=-52∨J7 x=0:=by unfold J7; split<;>simp
theorem Avr {f:Nat} (hf:f<2^52):(f+2^52).log2=52:=Wi (a:=52) (by omega) (by omega)
theorem math.H3.known:math.H3.Kn:=math.H3.Ad (.cons math.Eo.known (.cons math.Yc.known (.cons math.It.known (.cons math.Is.known (.cons math.normalize.known .nil))))) fun x k hp=>by
 obtain ⟨h1,h2⟩:=Ac.1 (show (Wx x&&B5 (-2300≤k∧k≤2300))=true from hp)
 have hx:=Aq.1 (show B5 (x<2^64)=true from h1)
 have hk:=Aq.1 h2
 refine ⟨0,.fl (Jw x k),[],?_,.fl⟩
 by_cases h0:Aj x=0
 ·have:Jw x k=x:=by unfold Jw Fi; rw [A42 (by omega),A42 (by omega),A43 (.inr h0)]
  rw [math.H3.ev,Ra hx,A4h h0,A4g,this]
 by_cases h3:Aj x=3
 ·have:Jw x k=x:=by unfold Jw Fi; rw [A42 (by omega),A42 (by omega),A43 (.inl h3)]
  rw [math.H3.ev,Ra hx,A4l h0,A4k,h1,A4h (rfl:(0:Int)=0),A4m,A4g,A5s,A4g,A4h h3,Bool.true_or,A4g,this]
 by_cases h4:Aj x=4
 ·have:Jw x k=x:=by unfold Jw; rw [A43 h4]
  rw [math.H3.ev,Ra hx,A4l h0,A4k,h1,A4h (rfl:(0:Int)=0),A4m,A4g,A5s,A4g,A4h h4,A5s,A4g,this]
 obtain ⟨P,f,d,p1,p2,hf,hw,hM,hP⟩:=Ar0 hx h3 h4 h0
 obtain ⟨w1,w2,w3,w4,w5,w6,w7⟩:=S6 (s:=By x) p1 p2 hf
 have hm:Ay x≠0:=fun h=>h0 ((Hp h3 h4).1 h)
 have hr:=Aoh x
 have hl:=Avr hf
 have hld:Jw x k=Bo (By x) (Ck (f+2^52) ((P:Int)-1075+J7 x+k)):=by
  have:=Aq6 (k:=k) hm hM hP
  unfold Jw Fi
  rw [A42 h4,A42 h4,A42 (by omega),this]
 have hp:Wx x=true:=Aq.2 hx
 have hfp:Ain x=true:=Aq.2 ⟨hx,h3,h4⟩
 have hnn:G4 (Nu x)=false:=by rw [Aba,hw,w5]; rfl
 have hfw:Ain (Nu x)=true:=by rw [hw]; exact Aq.2 ⟨w4,by omega,by omega⟩
 have ee:Ab (Ab (k+J7 x)+Ab (Fx .i64 (Ab (Ef .u64 ((Nu x:Nat):Int) (52:Int))) (2047:Int)-(1023:Int)))=k+J7 x+(P:Int)-1023:=by
  rw [hw,Ath p1 p2 hf,An (x:=k+J7 x) (by omega) (by omega),An (x:=(P:Int)-1023) (by omega) (by omega),An (by omega) (by omega)]
  omega
 have hrun:=math.H3.ev 0 x k
 rw [Ra hx,A4l h0,A4k,hp,A4h (rfl:(0:Int)=0),A4m,A4g,A5s,A4g,A4l h3,A4l h4,Bool.or_self,A4k,hfp,A4g,hnn,A5z,A4g,ee,hfw,A4m,A4g] at hrun
 refine hrun.trans ?_
 rw [hld]
 rw [Av,Av,Av]
 by_cases c1:k+J7 x+(P:Int)-1023 < -1075
 ·rw [A4h c1,A4g,hw,w3,(Go.Rnd.Ani (V:=f+2^52) (by omega) (by rw [hl]; omega)).1]
 ·rw [A4l c1,A4k]
  by_cases c2:1023<k+J7 x+(P:Int)-1023
  ·have hng:(Ieee.double.order (Nu x) 0==some .lt)=By x:=by
    rw [hw,Aod w4 (by omega) (by omega),w3]
   rw [A4h c2,A4g,hng,A3p (by omega) (by rw [hl]; omega)]
   cases By x<;>rfl
  ·rw [A4l c2,A4k]
   by_cases c3:k+J7 x+(P:Int)-1023 < -1022
   ·obtain ⟨q,hq⟩:∃ q:Nat,k+J7 x+(P:Int)-1023+53+1023=q:=⟨(k+J7 x+(P:Int)-1023+53+1023).toNat,by omega⟩
    have e1:Ab (Ab (k+J7 x+(P:Int)-1023+53)+1023)=(q:Int):=by
     rw [An (x:=k+J7 x+(P:Int)-1023+53) (by omega) (by omega),An (by omega) (by omega)]; exact hq
    have e2:=Al6 (s:=By x) (P:=P) (f:=f) p2 hf (q:=q) (by omega)
    obtain ⟨v1,v2,v3,v4,v5,v6,v7⟩:=S6 (s:=By x) (P:=q) (f:=f) (by omega) (by omega) hf
    have hmul:=mul_pow (a:=Bo (By x) (q*2^52+f)) (p:=4368491638549381120) (by omega) (by omega) (by rw [p53.2.2.1]; decide) (by rw [p53.2.2.1]; decide) p53.1 p53.2.2.2
    have hmi:=Wa (a:=4368491638549381120) (b:=Bo (By x) (q*2^52+f)) (by decide) v4 H2
    rw [Adi] at hmi
    have:=Aah hmi (by rw [hmul]; exact Sl _ _ _)
    have e3:(q:Int)-1075+-105+52=(P:Int)-1075+J7 x+k:=by omega
    have e4:(Ly (Bo (By x) (q*2^52+f)) 4368491638549381120).1=Bo (By x) (Ck (f+2^52) ((P:Int)-1075+J7 x+k)):=by
     rw [hmul,v3,v6,v7,p53.2.1,e3]
    rw [e4] at this
    rw [A4h c3,A4g,e1,hw,e2,A4h (by omega),A4g,A4i,this]
   ·obtain ⟨q,hq⟩:∃ q:Nat,k+J7 x+(P:Int)-1023+1023=q:=⟨(k+J7 x+(P:Int)-1023+1023).toNat,by omega⟩
    have e1:Ab (k+J7 x+(P:Int)-1023+1023)=(q:Int):=by rw [An (by omega) (by omega)]; exact hq
    have e2:=Al6 (s:=By x) (P:=P) (f:=f) p2 hf (q:=q) (by omega)
    obtain ⟨v1,v2,v3,v4,v5,v6,v7⟩:=S6 (s:=By x) (P:=q) (f:=f) (by omega) (by omega) hf
    have hone:Ly 4607182418800017408 (Bo (By x) (q*2^52+f))=(Bo (By x) (q*2^52+f),0):=by
     rw [Adi]; exact mul_one v4 (by omega) (by omega)
    have hmi:=Wa (a:=4607182418800017408) (b:=Bo (By x) (q*2^52+f)) (by decide) v4 H2
    have:=Aah hmi (by rw [hone]; show Aj (Bo (By x) (q*2^52+f))≠4; omega)
    have er:=Ara (L:=(P:Int)-1075+J7 x+k) (q:=q) hf (by omega) (by omega) (by omega)
    rw [A4l c3,A4k,e1,hw,e2,A4h (by omega),A4g,A4i,this,hone,er]
theorem math.I4.known:math.I4.Kn:=math.I4.Ad (.cons math.H3.known .nil) fun x k hp=>by
 have hp:(Wx x&&B5 (-2300≤k∧k≤2300))=true:=hp
 exact ⟨0,.fl (Jw x k),[],by rw [math.I4.ev,hp,A4g],.fl⟩
theorem Ai1 {x:Nat} (k:Int):Es (Jw x k)=(Fi x k).1:=by
 unfold Jw
 by_cases h4:Aj x=4
 ·rw [A43 h4]
  unfold Es Fi
  rw [A43 h4,A43 h4]
 ·rw [A42 h4]
  unfold Es
  rw [A42]
  unfold Fi
  rw [A42 h4]
  by_cases h3:Aj x=3∨Aj x=0
  ·rw [A43 h3]; exact h4
  ·rw [A42 h3]; exact Sl _ _ _
theorem Ah.Bu.known:Ah.Bu.Kn:=Ah.Bu.Ad (.cons math.I4.known (.cons Ah.B.known (.cons Ah.F.known .nil))) fun a k hp=>by
 obtain ⟨h1,h2⟩:=Ac.1 (show Df a k=true from hp)
 obtain ⟨x,rfl,hx⟩:=Bw h1
 refine ⟨0,.int .u64 (Bg (x:Int) k),[],?_,.int⟩
 have hp:Wx x=true:=Aq.2 hx
 have:Hf (Jw x k)=Bg (x:Int) k:=by
  unfold Hf Bg
  rw [A4i,Ai1]
 rw [Ah.Bu.ev,h1,A4g,A4i,hp,h2,A4m,A4g,this]
namespace EqRef08
def Br.ends.Bc:List (Nat × Entry):=[(114,A6.Finite.spec),(102,A6.Neg.spec)]
def Br.ends.E:Env:=Bi (Be Br.ends.Bc) (fun _=>false) (fun _=>none) (fun _=>none)
theorem Br.ends.ev (N:Nat) (b:Int):B0 Br.ends.E N f59 (Ak f59) [.int .u64 b]=bif (Af b) then bif (Dz b) then some (.int .i64 0) else bif (Af b) then bif (Eb b) then some (.int .i64 (-1:Int)) else some (.int .i64 1) else none else none:=by kernel_rfl
abbrev _root_.Go.Proofs.S1.Br.ends.Kn:=A8 prog 59 Br.ends.spec
theorem Br.ends.Ad (hk:A2 prog Br.ends.Bc) (h:Hyp Br.ends.E f59 Br.ends.ts Br.ends.pre Br.ends.out):Br.ends.Kn :=
 Am (A5 hk _ _ _) func59 (by kernel_rfl) (by kernel_rfl) h
def Br.Order.Bc:List (Nat × Entry):=[(43,A1.Compare.spec),(58,A6.Kind.spec),(38,A6.Value.spec),(59,Br.ends.spec)]
def Br.Order.E:Env:=Bi (Be Br.Order.Bc) (fun _=>false) (fun _=>none) (fun _=>none)
theorem Br.Order.ev (N:Nat) (a b:Int):B0 Br.Order.E N f19 (Ak f19) [.int .u64 a,.int .u64 b]=bif (Oo a) then bif (((Bz a)==(4:Int))||(Oo b)) then bif (((Bz a)==(4:Int))||((Bz b)==(4:Int))) then some (.tup [.int .i64 0,.bool false]) else bif (Af a) then bif (Af b) then bif (((U5 a) !=(0:Int))||((U5 b) !=(0:Int))) then some (.tup [.int .i64 (max (-1:Int) (min 1 (Ab ((U5 a)-(U5 b))))),.bool true]) else bif (Af a) then bif (Af b) then bif (((okV (Bv (mD (Gc a))) (Aw (mD (Gc a)))&&okV (Bv (mD (Gc b))) (Aw (mD (Gc b))))&&okE (eD (Gc a) (Bp a)))&&okE (eD (Gc b) (Bp b))) then some (.tup [.int .i64 (Y6 (wv (Bv (mD (Gc a))) (Aw (mD (Gc a)))) (eD (Gc a) (Bp a)) (wv (Bv (mD (Gc b))) (Aw (mD (Gc b)))) (eD (Gc b) (Bp b))),.bool true]) else none else none else none else none else none else none else none :=
 Eq.trans (by kernel_rfl)
 (E1 (Ax (W4 ((Bz a)==(4:Int))) (Cw (Auu _ _) (Ax (T8 ((Bz a)==(4:Int))) (Ax (tt6 ((Bz a)==(4:Int))) (Cw (tt5 _ _) rfl (E1 (E1 (Ax (W4 ((U5 a) !=(0:Int))) (Ax (T8 ((U5 a) !=(0:Int))) (Ax (tt6 ((U5 a) !=(0:Int))) (Cw (tt5 _ _) rfl rfl)))) rfl) rfl)))) rfl)) rfl)
abbrev _root_.Go.Proofs.S1.Br.Order.Kn:=A8 prog 19 Br.Order.spec
theorem Br.Order.Ad (hk:A2 prog Br.Order.Bc) (h:Hyp Br.Order.E f19 Br.Order.ts Br.Order.pre Br.Order.out):Br.Order.Kn :=
 Am (A5 hk _ _ _) func19 (by kernel_rfl) (by kernel_rfl) h
def Br.Hy.Bc:List (Nat × Entry):=[(86,A6.Du.spec),(102,A6.Neg.spec)]
def Br.Hy.E:Env:=Bi (Be Br.Hy.Bc) (fun _=>false) (fun _=>none) (fun _=>none)
theorem Br.Hy.ev (N:Nat) (a:Int):B0 Br.Hy.E N f84 (Ak f84) [.int .u64 a]=bif (Af a) then bif (Eb a) then bif (Af a) then some (.int .u64 (Cz a)) else none else some (.int .u64 a) else none:=by kernel_rfl
abbrev _root_.Go.Proofs.S1.Br.Hy.Kn:=A8 prog 84 Br.Hy.spec
theorem Br.Hy.Ad (hk:A2 prog Br.Hy.Bc) (h:Hyp Br.Hy.E f84 Br.Hy.ts Br.Hy.pre Br.Hy.out):Br.Hy.Kn :=
 Am (A5 hk _ _ _) func84 (by kernel_rfl) (by kernel_rfl) h
def Br.Max.Bc:List (Nat × Entry):=[(19,Br.Order.spec)]
def Br.Max.E:Env:=Bi (Be Br.Max.Bc) (fun _=>false) (fun _=>none) (fun _=>none)
theorem Br.Max.ev (N:Nat) (a b:Int):B0 Br.Max.E N f151 (Ak f151) [.int .u64 a,.int .u64 b]=bif (Af a&&Af b) then bif (!(Qh a b)) then some (.int .u64 9221120237041090560) else bif (Bb (Hq a b) 0) then some (.int .u64 b) else some (.int .u64 a) else none:=by kernel_rfl
abbrev _root_.Go.Proofs.S1.Br.Max.Kn:=A8 prog 151 Br.Max.spec
theorem Br.Max.Ad (hk:A2 prog Br.Max.Bc) (h:Hyp Br.Max.E f151 Br.Max.ts Br.Max.pre Br.Max.out):Br.Max.Kn :=
 Am (A5 hk _ _ _) func151 (by kernel_rfl) (by kernel_rfl) h
end EqRef08
namespace EqRef13
def Br.K7.Bc:List (Nat × Entry):=[(109,A1.W2.spec),(114,A6.Finite.spec),(58,A6.Kind.spec),(38,A6.Value.spec)]
def Br.K7.E:Env:=Bi (Be Br.K7.Bc) (fun _=>false) (fun _=>none) (fun _=>none)
theorem Br.K7.ev (N:Nat) (a:Int):B0 Br.K7.E N f92 (Ak f92) [.int .u64 a]=bif (Af a) then bif ((!(Dz a))||(Oo a)) then bif ((!(Dz a))||((Bz a)==(0:Int))) then some (.int .i64 0) else bif (Af a) then bif (N9 (Bv (mD (Gc a))) (Aw (mD (Gc a)))&&okE (eD (Gc a) (Bp a))) then some (.int .i64 (Ab ((Jo (wv (Bv (mD (Gc a))) (Aw (mD (Gc a)))) (eD (Gc a) (Bp a)))-1))) else none else none else none else none :=
 Eq.trans (by kernel_rfl)
 (E1 (Ax (W7 (Dz a)) (Cw (Ajt _ _) (Ax (R3 (Dz a)) (Ax (Zu (Dz a)) (Cw (Axz _ _) rfl rfl))) rfl)) rfl)
abbrev _root_.Go.Proofs.S1.Br.K7.Kn:=A8 prog 92 Br.K7.spec
theorem Br.K7.Ad (hk:A2 prog Br.K7.Bc) (h:Hyp Br.K7.E f92 Br.K7.ts Br.K7.pre Br.K7.out):Br.K7.Kn :=
 Am (A5 hk _ _ _) func92 (by kernel_rfl) (by kernel_rfl) h
def Ah.Bx.hint:Nat→Option Ba
 | 0=>some { keep:=[0,3,4],objs:=[],boxes:=[] }
 | _=>none
def Ah.Bx.Bc:List (Nat × Entry):=[(84,Br.Hy.spec),(151,Br.Max.spec)]
def Ah.Bx.E:Env:=Bi (Be Ah.Bx.Bc) (fun _=>false) Ah.Bx.hint (fun _=>none)
section
variable (N M:Nat) (x:List Int) (p3 p4:Int)
def Ah.Bx.L0:Option DV:=B8 Ah.Bx.E N f93 (Ak f93) [1,1,0,1,0] [] M ⟨Ff 19 [(0,.ints .arg .u64 x),(3,.int .u64 p3),(4,.int .i64 p4)],[]⟩
theorem Ah.Bx.Ar:Ah.Bx.L0 N (M+1) x p3 p4=bif (Bb p4 (length x:Int)) then bif ((decide (0≤p4))&&(decide (p4<(length x:Int)))) then bif (Af (getD x (toNat p4) 0)) then bif (Af p3&&Af (Iw (getD x (toNat p4) 0))) then Ah.Bx.L0 N M x (Uz p3 (Iw (getD x (toNat p4) 0))) (Ab (p4+1)) else none else none else none else some (.int .u64 p3):=by kernel_rfl
theorem Ah.Bx.ev:B0 Ah.Bx.E N f93 (Ak f93) [.ints .arg .u64 x] =
 Ah.Bx.L0 N N x 0 0:=by kernel_rfl
end
abbrev _root_.Go.Proofs.S1.Ah.Bx.Kn:=A8 prog 93 Ah.Bx.spec
theorem Ah.Bx.Ad (hk:A2 prog Ah.Bx.Bc) (h:Hyp Ah.Bx.E f93 Ah.Bx.ts Ah.Bx.pre Ah.Bx.out):Ah.Bx.Kn :=
 Am (A5 hk _ _ _) func93 (by kernel_rfl) (by kernel_rfl) h
def math.Sqrt.Bc:List (Nat × Entry):=[]
def math.Sqrt.E:Env:=Bi (Be math.Sqrt.Bc) (fun _=>false) (fun _=>none) (fun _=>none)
theorem math.Sqrt.ev (N x:Nat):B0 math.Sqrt.E N f197 (Ak f197) [.fl x]=some (.fl ((Ieee.double.sqrt x).getD nanBits)):=by kernel_rfl
abbrev _root_.Go.Proofs.S1.math.Sqrt.Kn:=A8 prog 197 math.Sqrt.spec
theorem math.Sqrt.Ad (hk:A2 prog math.Sqrt.Bc) (h:Hyp math.Sqrt.E f197 math.Sqrt.ts math.Sqrt.pre math.Sqrt.out):math.Sqrt.Kn :=
 Am (A5 hk _ _ _) func197 (by kernel_rfl) (by kernel_rfl) h
def Ah.Sqrt.Bc:List (Nat × Entry):=[(197,math.Sqrt.spec),(145,Ah.B.spec),(147,Ah.F.spec)]
def Ah.Sqrt.E:Env:=Bi (Be Ah.Sqrt.Bc) (fun _=>false) (fun _=>none) (fun _=>none)
theorem Ah.Sqrt.ev (N:Nat) (a:Int):B0 Ah.Sqrt.E N f154 (Ak f154) [.int .u64 a]=bif (Af a) then some (.int .u64 (Hf (((Ieee.double.sqrt (toNat a)).getD nanBits)))) else none:=by kernel_rfl
abbrev _root_.Go.Proofs.S1.Ah.Sqrt.Kn:=A8 prog 154 Ah.Sqrt.spec
theorem Ah.Sqrt.Ad (hk:A2 prog Ah.Sqrt.Bc) (h:Hyp Ah.Sqrt.E f154 Ah.Sqrt.ts Ah.Sqrt.pre Ah.Sqrt.out):Ah.Sqrt.Kn :=
 Am (A5 hk _ _ _) func154 (by kernel_rfl) (by kernel_rfl) h
def Ah.Norm.hint:Nat→Option Ba
 | 0=>some { keep:=[0,4,5,6],objs:=[],boxes:=[] }
 | _=>none
def Ah.Norm.Bc:List (Nat × Entry):=[(114,A6.Finite.spec),(92,Br.K7.spec),(152,Ah.Add.spec),(93,Ah.Bx.spec),(153,Ah.Mul.spec),(85,Ah.Bu.spec),(154,Ah.Sqrt.spec)]
def Ah.Norm.E:Env:=Bi (Be Ah.Norm.Bc) (fun _=>false) Ah.Norm.hint (fun _=>none)
section
variable (N M:Nat) (x:List Int) (p5 p6:Int)
def Ah.Norm.L0:Option DV:=B8 Ah.Norm.E N f96 (Ak f96) [1,1,1,1,1,0,1,0] [] M ⟨Ff 42 [(0,.ints .arg .u64 x),(4,.int .i64 (B1 (Bk x))),(5,.int .u64 p5),(6,.int .i64 p6)],[]⟩
theorem Ah.Norm.Ar:Ah.Norm.L0 N (M+1) x p5 p6=bif (Bb p6 (length x:Int)) then bif ((decide (0≤p6))&&(decide (p6<(length x:Int)))) then bif (Df (getD x (toNat p6) 0) (Ab ((0:Int)-(B1 (Bk x))))) then bif (Af (Bg (getD x (toNat p6) 0) (Ab ((0:Int)-(B1 (Bk x)))))&&Af (Bg (getD x (toNat p6) 0) (Ab ((0:Int)-(B1 (Bk x)))))) then bif (Af p5&&Af (Cc (Bg (getD x (toNat p6) 0) (Ab ((0:Int)-(B1 (Bk x))))) (Bg (getD x (toNat p6) 0) (Ab ((0:Int)-(B1 (Bk x))))))) then Ah.Norm.L0 N M x (Dt p5 (Cc (Bg (getD x (toNat p6) 0) (Ab ((0:Int)-(B1 (Bk x))))) (Bg (getD x (toNat p6) 0) (Ab ((0:Int)-(B1 (Bk x))))))) (Ab (p6+1)) else none else none else none else none else bif (Af p5) then bif (Df (Ed p5) (B1 (Bk x))) then some (.int .u64 (Bg (Ed p5) (B1 (Bk x)))) else none else none:=by kernel_rfl
theorem Ah.Norm.ev:B0 Ah.Norm.E N f96 (Ak f96) [.ints .arg .u64 x]=bif (Bs x) then bif (((Bk x)==(0:Int))||(Af (Bk x))) then bif (((Bk x)==(0:Int))||(!(Dz (Bk x)))) then some (.int .u64 (Bk x)) else bif (Af (Bk x)) then Ah.Norm.L0 N N x 0 (0:Int) else none else none else none :=
 Eq.trans (by kernel_rfl)
 (E1 (Ax (W4 ((Bk x)==(0:Int))) (Cw (Auu _ _) (Ax (T8 ((Bk x)==(0:Int))) (Ax (tt6 ((Bk x)==(0:Int))) (Cw (Az8 _ _) rfl rfl))) rfl)) rfl)
end
abbrev _root_.Go.Proofs.S1.Ah.Norm.Kn:=A8 prog 96 Ah.Norm.spec
theorem Ah.Norm.Ad (hk:A2 prog Ah.Norm.Bc) (h:Hyp Ah.Norm.E f96 Ah.Norm.ts Ah.Norm.pre Ah.Norm.out):Ah.Norm.Kn :=
 Am (A5 hk _ _ _) func96 (by kernel_rfl) (by kernel_rfl) h
def Bh.B2.hint:Nat→Option Ba
 | 0=>some { keep:=[0,3],objs:=[],boxes:=[] }
 | _=>none
def Bh.B2.Bc:List (Nat × Entry):=[(58,A6.Kind.spec)]
def Bh.B2.E:Env:=Bi (Be Bh.B2.Bc) (fun _=>false) Bh.B2.hint (fun _=>none)
section
variable (N M:Nat) (x:List Int) (p3:Int)
def Bh.B2.L0:Option DV:=B8 Bh.B2.E N f212 (Ak f212) [1,0,1,0] [] M ⟨Ff 16 [(0,.ints .arg .u64 x),(3,.int .i64 p3)],[]⟩
theorem Bh.B2.Ar:Bh.B2.L0 N (M+1) x p3=bif (Bb p3 (length x:Int)) then bif ((decide (0≤p3))&&(decide (p3<(length x:Int)))) then bif (Oo (getD x (toNat p3) 0)) then bif ((Bz (getD x (toNat p3) 0)) !=(0:Int)) then some (.bool false) else Bh.B2.L0 N M x (Ab (p3+1)) else none else none else some (.bool true):=by kernel_rfl
theorem Bh.B2.ev:B0 Bh.B2.E N f212 (Ak f212) [.ints .arg .u64 x] =
 Bh.B2.L0 N N x 1:=by kernel_rfl
end
abbrev _root_.Go.Proofs.S1.Bh.B2.Kn:=A8 prog 212 Bh.B2.spec
theorem Bh.B2.Ad (hk:A2 prog Bh.B2.Bc) (h:Hyp Bh.B2.E f212 Bh.B2.ts Bh.B2.pre Bh.B2.out):Bh.B2.Kn :=
 Am (A5 hk _ _ _) func212 (by kernel_rfl) (by kernel_rfl) h
def Bh.lead.hint:Nat→Option Ba
 | 0=>some { keep:=[0,3],objs:=[],boxes:=[] }
 | _=>none
def Bh.lead.Bc:List (Nat × Entry):=[(58,A6.Kind.spec)]
def Bh.lead.E:Env:=Bi (Be Bh.lead.Bc) (fun _=>false) Bh.lead.hint (fun _=>none)
section
variable (N M:Nat) (x:List Int) (p3:Int)
def Bh.lead.L0:Option DV:=B8 Bh.lead.E N f213 (Ak f213) [1,0,1,0] [] M ⟨Ff 17 [(0,.ints .arg .u64 x),(3,.int .i64 p3)],[]⟩
theorem Bh.lead.Ar:Bh.lead.L0 N (M+1) x p3=bif (Bb p3 (length x:Int)) then bif ((decide (0≤p3))&&(decide (p3<(length x:Int)))) then bif (Oo (getD x (toNat p3) 0)) then bif ((Bz (getD x (toNat p3) 0)) !=(0:Int)) then some (.int .i64 p3) else Bh.lead.L0 N M x (Ab (p3+1)) else none else none else some (.int .i64 0):=by kernel_rfl
theorem Bh.lead.ev:B0 Bh.lead.E N f213 (Ak f213) [.ints .arg .u64 x] =
 Bh.lead.L0 N N x 0:=by kernel_rfl
end
abbrev _root_.Go.Proofs.S1.Bh.lead.Kn:=A8 prog 213 Bh.lead.spec
theorem Bh.lead.Ad (hk:A2 prog Bh.lead.Bc) (h:Hyp Bh.lead.E f213 Bh.lead.ts Bh.lead.pre Bh.lead.out):Bh.lead.Kn :=
 Am (A5 hk _ _ _) func213 (by kernel_rfl) (by kernel_rfl) h
def Bh.Bn.hint:Nat→Option Ba
 | 0=>some { keep:=[0,2,4,5],objs:=[(0,4,100004,.ints 43 .u64 [])],boxes:=[2] }
 | 2=>some { keep:=[0,2,4,6,7,8],objs:=[(0,4,100004,.ints 43 .u64 []),(0,7,100007,.ints 43 .u64 [])],boxes:=[2] }
 | 4=>some { keep:=[2,4,7,9,10,11,12],objs:=[(0,4,100004,.ints 43 .u64 []),(0,7,100007,.ints 43 .u64 [])],boxes:=[2] }
 | _=>none
def Bh.Bn.Bc:List (Nat × Entry):=[(114,A6.Finite.spec),(86,A6.Du.spec),(102,A6.Neg.spec),(92,Br.K7.spec),(93,Ah.Bx.spec),(87,Ah.Div.spec),(96,Ah.Norm.spec),(85,Ah.Bu.spec),(198,Ah.Sub.spec),(213,Bh.lead.spec),(212,Bh.B2.spec)]
def Bh.Bn.E:Env:=Bi (Be Bh.Bn.Bc) (fun _=>false) Bh.Bn.hint (fun _=>none)
section
variable (N M:Nat) (x:List Int) (p8:Int) (p7:List Int) (p9 p10 p11 p12:Int) (p4_1:List Int) (p5:Int) (p4:List Int)
def Bh.Bn.L0:Option DV:=B8 Bh.Bn.E N f177 (Ak f177) [1,1,0,1,0,0,1,0] [] M ⟨Ff 98 [(0,.ints .arg .u64 x),(2,.ptr 2 0 0),(4,.oref 100004),(5,.int .i64 p5)],[(2,false,.box [.nil,.int .u64 0,.int .u64 0]),(100004,false,.ints 43 .u64 p4)]⟩
def Bh.Bn.L1:Option DV:=B8 Bh.Bn.E N f177 (Ak f177) [1,1,1,1,1,0,1,0] [] M ⟨Ff 98 [(0,.ints .arg .u64 x),(2,.ptr 2 0 0),(4,.oref 100004),(6,.int .i64 (B1 (Bk x))),(7,.oref 100007),(8,.int .i64 p8)],[(2,false,.box [.nil,.int .u64 0,.int .u64 0]),(100004,false,.ints 43 .u64 [(4607182418800017408:Int)]),(100007,false,.ints 43 .u64 p7)]⟩
def Bh.Bn.L2:Option DV:=B8 Bh.Bn.E N f177 (Ak f177) [1,1,1,1,1,1,1,1,1,1,1,0,1,0] [] M ⟨Ff 98 [(2,.ptr 2 0 0),(4,.oref 100004),(7,.oref 100007),(9,.int .u64 p9),(10,.int .u64 p10),(11,.int .u64 p11),(12,.int .i64 p12)],[(2,false,.box [.nil,.int .u64 0,.int .u64 0]),(100004,false,.ints 43 .u64 p4_1),(100007,false,.ints 43 .u64 p7)]⟩
theorem Bh.Bn.Ar:Bh.Bn.L0 N (M+1) x p5 p4=bif (Bb p5 (length x:Int)) then bif (decide ((length p4)+1≤Ha)) then Bh.Bn.L0 N M x (Ab (p5+1)) (p4++[(0:Int)]) else none else bif (decide ((0:Int)<(length x:Int))) then some (.tup [.agg [.ints (.own 100004 43) .u64 p4,.int .u64 0,.int .u64 (getD x 0 0)],.bool true]) else none:=by kernel_rfl
theorem Bh.Bn.Cd:Bh.Bn.L1 N (M+1) x p8 p7=bif (Bb p8 (length x:Int)) then bif ((decide (0≤p8))&&(decide (p8<(length x:Int)))) then bif (Df (getD x (toNat p8) 0) (Ab ((0:Int)-(B1 (Bk x))))) then bif (decide ((length p7)+1≤Ha)) then Bh.Bn.L1 N M x (Ab (p8+1)) (p7++[(Bg (getD x (toNat p8) 0) (Ab ((0:Int)-(B1 (Bk x)))))]) else none else none else none else bif (Bs p7) then bif (Bs x) then bif ((decide (0≤(Rx x 0)))&&(decide ((Rx x 0)<(length x:Int)))) then bif (Af (getD x (toNat (Rx x 0)) 0)) then bif (!(Eb (getD x (toNat (Rx x 0)) 0))) then bif (Af (Bt p7)) then bif (Df (Cz (Bt p7)) (B1 (Bk x))) then bif (Af (Bg (Cz (Bt p7)) (B1 (Bk x)))) then bif (!(Dz (Bg (Cz (Bt p7)) (B1 (Bk x))))) then some (.tup [.agg [.nil,.int .u64 0,.int .u64 0],.bool false]) else bif (decide ((0:Int)<(length p7:Int))) then bif (decide (0<(length p7))) then bif (Af (getD p7 0 0)&&Af (Cz (Bt p7))) then Bh.Bn.L2 N N p7 (Cz (Bt p7)) (Bg (Cz (Bt p7)) (B1 (Bk x))) (E4 (getD p7 0 0) (Cz (Bt p7))) 1 [(4607182418800017408:Int)] else none else none else none else none else none else none else bif (Df (Bt p7) (B1 (Bk x))) then bif (Af (Bg (Bt p7) (B1 (Bk x)))) then bif (!(Dz (Bg (Bt p7) (B1 (Bk x))))) then some (.tup [.agg [.nil,.int .u64 0,.int .u64 0],.bool false]) else bif (decide ((0:Int)<(length p7:Int))) then bif (decide (0<(length p7))) then bif (Af (getD p7 0 0)&&Af (Bt p7)) then Bh.Bn.L2 N N p7 (Bt p7) (Bg (Bt p7) (B1 (Bk x))) (E4 (getD p7 0 0) (Bt p7)) 1 [(4607182418800017408:Int)] else none else none else none else none else none else none else none else none else none:=by kernel_rfl
theorem Bh.Bn.Lv:Bh.Bn.L2 N (M+1) p7 p9 p10 p11 p12 p4_1=bif (Bb p12 (length p7:Int)) then bif ((decide (0≤p12))&&(decide (p12<(length p7:Int)))) then bif (decide ((toNat p12)<(length p7))) then bif (Af (getD p7 (toNat p12) 0)&&Af p11) then bif (decide ((length p4_1)+1≤Ha)) then Bh.Bn.L2 N M p7 p9 p10 p11 (Ab (p12+1)) (p4_1++[(Ey (getD p7 (toNat p12) 0) p11)]) else none else none else none else none else bif (decide ((0:Int)<(length p7:Int))) then bif (decide (0<(length p7))) then bif (Af p9&&Af (getD p7 0 0)) then bif (Af (E4 p9 (getD p7 0 0))&&Af p9) then some (.tup [.agg [.ints (.own 100004 43) .u64 p4_1,.int .u64 (Ey (E4 p9 (getD p7 0 0)) p9),.int .u64 p10],.bool true]) else none else none else none else none:=by kernel_rfl
theorem Bh.Bn.ev:B0 Bh.Bn.E N f177 (Ak f177) [.ints .arg .u64 x]=bif (Bs x) then bif (E7 (List.drop 1 x)) then Bh.Bn.L0 N N x 1 [(4607182418800017408:Int)] else bif (Bs x) then bif (Af (Bk x)) then Bh.Bn.L1 N N x 0 [] else none else none else none:=by kernel_rfl
end
abbrev _root_.Go.Proofs.S1.Bh.Bn.Kn:=A8 prog 177 Bh.Bn.spec
theorem Bh.Bn.Ad (hk:A2 prog Bh.Bn.Bc) (h:Hyp Bh.Bn.E f177 Bh.Bn.ts Bh.Bn.pre Bh.Bn.out):Bh.Bn.Kn :=
 Am (A5 hk _ _ _) func177 (by kernel_rfl) (by kernel_rfl) h
def Bh.Apply.hint:Nat→Option Ba
 | 0=>some { keep:=[1,3,4,5,10,11,12],objs:=[],boxes:=[5,10,11] }
 | 2=>some { keep:=[1,3,4,5,10,11,12,13,14,15],objs:=[],boxes:=[5,10,11] }
 | _=>none
def Bh.Apply.Bc:List (Nat × Entry):=[(141,Ah.H9.spec),(153,Ah.Mul.spec),(198,Ah.Sub.spec),(22,Ae.Pc.spec),(54,Ae.Gk.arg.spec)]
def Bh.Apply.E:Env:=Bi (Be Bh.Apply.Bc) (fun _=>false) Bh.Apply.hint (fun _=>none)
section
variable (N M0 M:Nat) (r c:Int) (l:List Int) (i k:Int) (v:List Int) (t p15:Int) (p11:List Int) (p12_1:Int) (p13:List Int) (p14 p12:Int) (p11_1:List Int)
def Bh.Apply.L0:Option DV:=B8 Bh.Apply.E N f179 (Ak f179) [1,1,0,1,0] [] M ⟨Ff 60 [(1,.int .i64 i),(3,.ints .arg .u64 v),(4,.int .u64 t),(5,.ptr 5 0 0),(10,.ptr 10 0 0),(11,.ptr 11 0 0),(12,.int .i64 p12)],[(5,false,.box [.int .i64 r,.int .i64 c,.ints .arg .u64 l]),(10,false,.box [.int .i64 0,.int .i64 0,.nil]),(11,false,.box [.int .i64 r,.int .i64 c,.ints .arg .u64 p11_1])]⟩
def Bh.Apply.L1:Option DV:=B8 Bh.Apply.E N f179 (Ak f179) [1,1,0,1,0,0,1,0,0,1,1,1,0] [M0] M ⟨Ff 60 [(1,.int .i64 i),(3,.ints .arg .u64 v),(4,.int .u64 t),(5,.ptr 5 0 0),(10,.ptr 10 0 0),(11,.ptr 11 0 0),(12,.int .i64 p12_1),(13,.ints .fresh .u64 p13),(14,.int .u64 p14),(15,.int .i64 p15)],[(5,false,.box [.int .i64 r,.int .i64 c,.ints .arg .u64 l]),(10,false,.box [.int .i64 0,.int .i64 0,.nil]),(11,false,.box [.int .i64 r,.int .i64 c,.ints .arg .u64 p11])]⟩
theorem Bh.Apply.Ar:Bh.Apply.L0 N (M+1) r c l i v t p12 p11_1=bif (Bb p12 c) then bif (Fv r c l p12&&B5 (0≤i∧i≤r)) then bif ((decide ((0:Int)≤(length v:Int)))&&(decide ((length v:Int)≤(length (Ci c l p12 i (toNat (r-i))):Int)))) then bif ((Mb v (List.take (toNat (length v:Int)) (Ci c l p12 i (toNat (r-i))))&&Al v)&&Al (List.take (toNat (length v:Int)) (Ci c l p12 i (toNat (r-i))))) then bif (Af t&&Af (Hj v (List.take (toNat (length v:Int)) (Ci c l p12 i (toNat (r-i)))))) then Bh.Apply.L1 N M N r c l i v t 0 p11_1 p12 (Ci c l p12 i (toNat (r-i))) (Cc t (Hj v (List.take (toNat (length v:Int)) (Ci c l p12 i (toNat (r-i)))))) else none else none else none else none else some (.agg [.int .i64 r,.int .i64 c,.ints .arg .u64 p11_1]) :=
 Eq.trans (by kernel_rfl)
 (E1 (E1 (Cw (J1 _ _) rfl rfl) rfl) rfl)
theorem Bh.Apply.Cd:Bh.Apply.L1 N M0 (M+1) r c l i v t p15 p11 p12_1 p13 p14=bif (Bb p15 (length v:Int)) then bif ((decide (0≤p15))&&(decide (p15<(length p13:Int)))) then bif ((decide (0≤p15))&&(decide (p15<(length v:Int)))) then bif (Af p14&&Af (getD v (toNat p15) 0)) then bif (Af (getD p13 (toNat p15) 0)&&Af (Cc p14 (getD v (toNat p15) 0))) then bif (En r c p11 (Ab (i+p15)) p12_1) then Bh.Apply.L1 N M0 M r c l i v t (Ab (p15+1)) (List.set p11 (toNat ((Ab (i+p15))*c+p12_1)) (E4 (getD p13 (toNat p15) 0) (Cc p14 (getD v (toNat p15) 0)))) p12_1 p13 p14 else none else none else none else none else none else Bh.Apply.L0 N M0 r c l i v t (Ab (p12_1+1)) p11 :=
 Eq.trans (by kernel_rfl)
 (E1 (Cw (J1 _ _) (Cw (J1 _ _) (Cw (Cy _) (Cw (Cy _) (Cw (Cy _) rfl rfl) rfl) rfl) rfl) rfl) rfl)
theorem Bh.Apply.ev:B0 Bh.Apply.E N f179 (Ak f179) [.agg [.int .i64 r,.int .i64 c,.ints .arg .u64 l],.int .i64 i,.int .i64 k,.ints .arg .u64 v,.int .u64 t] =
 Bh.Apply.L0 N N r c l i v t k l:=by kernel_rfl
end
abbrev _root_.Go.Proofs.S1.Bh.Apply.Kn:=A8 prog 179 Bh.Apply.spec
theorem Bh.Apply.Ad (hk:A2 prog Bh.Apply.Bc) (h:Hyp Bh.Apply.E f179 Bh.Apply.ts Bh.Apply.pre Bh.Apply.out):Bh.Apply.Kn :=
 Am (A5 hk _ _ _) func179 (by kernel_rfl) (by kernel_rfl) h
def Cb.D7.hint:Nat→Option Ba
 | 0=>some { keep:=[1,3,6,7],objs:=[],boxes:=[3,6] }
 | _=>none
def Cb.D7.Bc:List (Nat × Entry):=[(54,Ae.Gk.arg.spec)]
def Cb.D7.E:Env:=Bi (Be Cb.D7.Bc) (fun _=>false) Cb.D7.hint (fun _=>none)
section
variable (N M:Nat) (r c:Int) (l:List Int) (j b p7:Int) (p3:List Int)
def Cb.D7.L0:Option DV:=B8 Cb.D7.E N f178 (Ak f178) [1,1,0,1,0] [] M ⟨Ff 26 [(1,.int .i64 j),(3,.ptr 3 0 0),(6,.ptr 6 0 0),(7,.int .i64 p7)],[(3,false,.box [.int .i64 r,.int .i64 c,.ints .arg .u64 p3]),(6,false,.box [.int .i64 0,.int .i64 0,.nil])]⟩
theorem Cb.D7.Ar:Cb.D7.L0 N (M+1) r c j p7 p3=bif (Bb p7 r) then bif (En r c p3 p7 j) then Cb.D7.L0 N M r c j (Ab (p7+1)) (List.set p3 (toNat (p7*c+j)) 0) else none else some (.agg [.int .i64 r,.int .i64 c,.ints .arg .u64 p3]):=by kernel_rfl
theorem Cb.D7.ev:B0 Cb.D7.E N f178 (Ak f178) [.agg [.int .i64 r,.int .i64 c,.ints .arg .u64 l],.int .i64 j,.int .u64 b]=bif (En r c l j j) then Cb.D7.L0 N N r c j (Ab (j+1)) (List.set l (toNat (j*c+j)) b) else none:=by kernel_rfl
end
abbrev _root_.Go.Proofs.S1.Cb.D7.Kn:=A8 prog 178 Cb.D7.spec
theorem Cb.D7.Ad (hk:A2 prog Cb.D7.Bc) (h:Hyp Cb.D7.E f178 Cb.D7.ts Cb.D7.pre Cb.D7.out):Cb.D7.Kn :=
 Am (A5 hk _ _ _) func178 (by kernel_rfl) (by kernel_rfl) h
end EqRef13
open EqRef08 EqRef13
theorem Br.ends.known:Br.ends.Kn:=Br.ends.Ad (.cons A6.Finite.known (.cons A6.Neg.known .nil)) fun b hp=>by
 have hp:Af b=true:=hp
 refine ⟨0,.int .i64 (U5 b),[],?_,.int⟩
 rw [Br.ends.ev,hp,A4g,A4g]
 unfold U5
 cases Dz b with
 | true=>rfl
 | false =>
   rw [A4k,A42 (by decide)]
   cases Eb b<;>rfl
theorem Br.Hy.known:Br.Hy.Kn:=Br.Hy.Ad (.cons A6.Du.known (.cons A6.Neg.known .nil)) fun a hp=>by
 obtain ⟨n,rfl,hn⟩:=Bw (x:=a) hp
 refine ⟨0,.int .u64 (Iw (n:Int)),[],?_,.int⟩
 rw [Br.Hy.ev,Cm hn,A4g,A4g]
 unfold Iw Eb Cz Gg I5 By
 rw [A4i]
 by_cases h:2^63≤n
 ·rw [A4h h,A4g,A43 h,show n%2^63=n-2^63 by omega]
 ·rw [A4l h,A4k,show n%2^63=n by omega]
theorem Afa (b:Nat):okV (Bv (mD (Gc (b:Int)))) (Aw (mD (Gc (b:Int))))=true∧N9 (Bv (mD (Gc (b:Int)))) (Aw (mD (Gc (b:Int))))=true∧okE (eD (Gc (b:Int)) (A3 b))=true:=by
 obtain ⟨v1,v2,v3⟩:=Axn b
 have hl:Ep (mD (Gc (b:Int))).natAbs<3:=A5i (Ob (Adl _)) v1
 exact ⟨Arx (by omega),Ku (by omega),Aq.2 ⟨v2,v3⟩⟩
theorem Awh {a b:Nat} (ha:Aj a≠4) (hb:Aj b≠4):Y6 (mD (Gc (a:Int))) (eD (Gc (a:Int)) (A3 a)) (mD (Gc (b:Int))) (eD (Gc (b:Int)) (A3 b))=if Hr a<Hr b then -1 else if Hr b<Hr a then 1 else 0:=by
 have pa:=Dy a
 have pb:=Dy b
 have ga:mD (Gc (a:Int))≠0→(-1074:Int)≤eD (Gc (a:Int)) (A3 a):=fun h=>Axg pa.1 (fun h0=>h (Re.2 h0))
 have gb:mD (Gc (b:Int))≠0→(-1074:Int)≤eD (Gc (b:Int)) (A3 b):=fun h=>Axg pb.1 (fun h0=>h (Re.2 h0))
 rw [Awi ga gb,Alp pa.1,Alp pb.1,← Ap8,← Ap8]
 have h1:=Aem (f:=-1074) ha hb pa.1 pb.1
 have h2:=Aem (f:=-1074) hb ha pb.1 pa.1
 unfold Y5
 by_cases c1:Hl a (-1074)<Hl b (-1074)
 ·rw [A43 c1,A43 (h1.1 c1)]
 ·rw [A42 c1,A42 (fun h=>c1 (h1.2 h))]
  by_cases c2:Hl b (-1074)<Hl a (-1074)
  ·rw [A43 c2,A43 (h2.1 c2)]
  ·rw [A42 c2,A42 (fun h=>c2 (h2.2 h))]
theorem Ass {b:Nat} (hb:b<2^64):Hr b=Ja (By b) (b%2^63):=by
 have:=M6 (By b) (r:=b%2^63) (Nat.mod_lt _ (by decide))
 rw [N6 hb] at this
 exact this
theorem Amo {b:Nat} (hb:b<2^64) (h4:Aj b≠4):(Jy b=true→U5 (b:Int)=0∧-(Ek:Int)<Hr b∧Hr b<Ek)∧(Jy b=false→Aj b=3∧((U5 (b:Int)=1∧Hr b=Ek)∨(U5 (b:Int)=-1∧Hr b=-(Ek:Int)))):=by
 have hk:=Ass hb
 constructor
 ·intro hf
  obtain ⟨_,f3⟩:=M8 hf
  have hl:=Tp f3 h4
  refine ⟨by unfold U5 Dz; rw [A4i,hf,A43 rfl],?_⟩
  rw [hk]
  unfold Ja
  cases By b
  ·rw [A42 (by decide)]; omega
  ·rw [A43 rfl]; omega
 ·intro hf
  have h3:Aj b=3:=by
   unfold Jy at hf
   have:=of_decide_eq_false hf
   rcases H7 b with ⟨_,_,k⟩ | ⟨_,_,k⟩ | ⟨k,_,_⟩
   ·exact k
   ·exact absurd k h4
   ·omega
  have hi:=Rf h3
  refine ⟨h3,?_⟩
  rw [hk,hi]
  unfold U5 Dz Eb Ja
  rw [A4i,hf,A42 (by decide)]
  cases By b
  ·left; exact ⟨rfl,rfl⟩
  ·right; exact ⟨rfl,rfl⟩
theorem Br.Order.known:Br.Order.Kn:=Br.Order.Ad (.cons A1.Compare.known (.cons A6.Kind.known (.cons A6.Value.known (.cons Br.ends.known .nil)))) fun a b hp=>by
 obtain ⟨ha,hb⟩:=Ac.1 (show (Af a&&Af b)=true from hp)
 obtain ⟨a,rfl,hn⟩:=Bw ha
 obtain ⟨b,rfl,hm⟩:=Bw hb
 refine ⟨0,.tup [.int .i64 (Hq (a:Int) (b:Int)),.bool (Qh (a:Int) (b:Int))],[],?_,Wk.Hm (.cons .int (.cons .bool .nil))⟩
 have kk:∀ n:Nat,Bz (n:Int)=(Aj n:Int):=fun _=>rfl
 have pe:∀ n:Nat,Bp (n:Int)=A3 n:=fun _=>rfl
 rw [Br.Order.ev,Kh,Kh,ha,hb,A4g,A5s,A4g,A4g,A4g,A4g,A4g,kk,kk,pe,pe,Jb,Jb]
 unfold Hq Qh Aci Aal
 rw [A4i,A4i]
 by_cases n4:Aj a=4∨Aj b=4
 ·have:(((Aj a:Nat):Int)==4||((Aj b:Nat):Int)==4)=true:=by
   rw [Bool.or_eq_true,beq_iff_eq,beq_iff_eq]; omega
  rw [this,A4g,A43 n4,A4h n4]; rfl
 ·have:(((Aj a:Nat):Int)==4||((Aj b:Nat):Int)==4)=false:=by
   rw [Bool.or_eq_false_iff,A5b,A5b]; omega
  rw [this,A4k,A42 n4,A4l n4,A5z]
  have a4:Aj a≠4:=fun h=>n4 (.inl h)
  have b4:Aj b≠4:=fun h=>n4 (.inr h)
  obtain ⟨a1,a2⟩:=Amo hn a4
  obtain ⟨b1,b2⟩:=Amo hm b4
  have hinf:(0:Int)<(Ek:Int):=by decide
  cases hfa:Jy a with
  | true =>
    obtain ⟨ea,ka1,ka2⟩:=a1 hfa
    cases hfb:Jy b with
    | true =>
      obtain ⟨eb,kb1,kb2⟩:=b1 hfb
      obtain ⟨o1,_,o3⟩:=Afa a
      obtain ⟨p1,_,p3⟩:=Afa b
      have hc:=Awh a4 b4
      rw [ea,eb,show (((0:Int) !=(0:Int))||((0:Int) !=(0:Int)))=false from rfl,A4k,o1,o3,p1,p3,hc]
      rfl
    | false =>
      obtain ⟨_,hb2⟩:=b2 hfb
      rcases hb2 with ⟨eb,kb⟩ | ⟨eb,kb⟩
      ·rw [ea,eb,kb,A43 ka2]; rfl
      ·rw [ea,eb,kb,A42 (by omega),A43 ka1]; rfl
  | false =>
    obtain ⟨_,ha2⟩:=a2 hfa
    cases hfb:Jy b with
    | true =>
      obtain ⟨eb,kb1,kb2⟩:=b1 hfb
      rcases ha2 with ⟨ea,ka⟩ | ⟨ea,ka⟩
      ·rw [ea,eb,ka,A42 (by omega),A43 kb2]; rfl
      ·rw [ea,eb,ka,A43 kb1]; rfl
    | false =>
      obtain ⟨_,hb2⟩:=b2 hfb
      rcases ha2 with ⟨ea,ka⟩ | ⟨ea,ka⟩<;>rcases hb2 with ⟨eb,kb⟩ | ⟨eb,kb⟩
      ·rw [ea,eb,ka,kb,A42 (by omega),A42 (by omega)]; rfl
      ·rw [ea,eb,ka,kb,A42 (by omega),A43 (by omega)]; rfl
      ·rw [ea,eb,ka,kb,A43 (by omega)]; rfl
      ·rw [ea,eb,ka,kb,A42 (by omega),A42 (by omega)]; rfl
theorem Br.Max.known:Br.Max.Kn:=Br.Max.Ad (.cons Br.Order.known .nil) fun a b hp=>by
 have hp:(Af a&&Af b)=true:=hp
 refine ⟨0,.int .u64 (Uz a b),[],?_,.int⟩
 rw [Br.Max.ev,hp,A4g,Av]
 unfold Uz Aks Qh Hq
 cases Aal a.toNat b.toNat with
 | false=>rfl
 | true =>
   rw [A5f,A4k,A43 rfl]
   obtain ⟨h1,h2⟩:=Ac.1 hp
   obtain ⟨x,rfl,_⟩:=Bw h1
   obtain ⟨y,rfl,_⟩:=Bw h2
   rw [A4i,A4i]
   by_cases h:Aci x y<0
   ·rw [A4h h,A4g,A43 h]
   ·rw [A4l h,A4k,A42 h]
theorem Br.K7.known:Br.K7.Kn:=Br.K7.Ad (.cons A1.W2.known (.cons A6.Finite.known (.cons A6.Kind.known (.cons A6.Value.known .nil)))) fun a hp=>by
 obtain ⟨b,rfl,hb⟩:=Bw (x:=a) hp
 refine ⟨0,.int .i64 (B1 (b:Int)),[],?_,.int⟩
 have kk:Bz (b:Int)=(Aj b:Int):=rfl
 have hf:Dz (b:Int)=Jy b:=rfl
 have pe:Bp (b:Int)=A3 b:=rfl
 obtain ⟨_,o2,o3⟩:=Afa b
 have hE:=Dy b
 have hM:=Ge b
 rw [Br.K7.ev,Cm hb,A4g,Kh,A5s,A4g,kk,hf,pe,o2,o3,Jb,A4m,A4g,A4g]
 unfold B1
 rw [A4i]
 unfold Aco
 cases hfin:Jy b with
 | false=>rfl
 | true =>
   by_cases h0:Aj b=0
   ·rw [h0]; rfl
   ·have k0:(((Aj b:Nat):Int)==(0:Int))=false:=by rw [A5b]; omega
    obtain ⟨f4,f3⟩:=M8 hfin
    have hm:Ay b≠0:=fun hz=>h0 ((Hp f3 f4).1 hz)
    have hv:Gc (b:Int)≠0:=by
     intro h
     have:=Aen b
     rw [h] at this
     exact hm this.symm
    have hl:(Ay b).log2≤52:=by have:=(A5w hm).2 (show Ay b<2^53 by omega); omega
    have ht:Jo (mD (Gc (b:Int))) (eD (Gc (b:Int)) (A3 b))=((Ay b).log2:Int)+1+A3 b:=by
     unfold Jo Aa5
     rw [A42 (fun h=>hv (Re.1 h)),A42 (fun h=>hv (Re.1 h))]
     unfold eD
     rw [A42 hv]
     have hs:=Zg (Gc (b:Int))
     have ha:Ay b=(mD (Gc (b:Int))).natAbs*2^T3 (Gc (b:Int)).natAbs:=by
      have e:=congrArg Int.natAbs hs
      rw [Int.natAbs_mul,Int.natAbs_natCast] at e
      rw [← Aen b]
      exact e
     have hmd:(mD (Gc (b:Int))).natAbs≠0:=fun h=>hv (Re.1 (Int.natAbs_eq_zero.1 h))
     have hlog:=M5 (mD (Gc (b:Int))).natAbs (T3 (Gc (b:Int)).natAbs) hmd
     rw [← ha] at hlog
     rw [hlog]
     omega
    rw [k0,A43 ⟨rfl,h0⟩,ht,An (by omega) (by omega)]
    show some (DV.int .i64 _)=_
    congr 2; omega
theorem Amk {b:Nat} (h:b<2^63):Hr b=(b:Int):=M6 false h
theorem Avn {m x:Nat} (hm:m<2^63) (m4:Aj m≠4) (hx:x<2^63) (x4:Aj x≠4):Aks m x=max m x:=by
 have o:Aal m x=true:=by unfold Aal; rw [A4l (by omega)]; rfl
 have ho:Aci m x=if (m:Int)<(x:Int) then -1 else if (x:Int)<(m:Int) then 1 else 0:=by
  unfold Aci
  rw [A42 (by omega),Amk hm,Amk hx]
 unfold Aks
 rw [o,A43 rfl,ho]
 by_cases h:m<x
 ·rw [A43 (show (m:Int)<(x:Int) by omega),A43 (by decide),Nat.max_eq_right (by omega)]
 ·rw [A42 (show ¬ (m:Int)<(x:Int) by omega)]
  by_cases h2:x<m
  ·rw [A43 (show (x:Int)<(m:Int) by omega),A42 (by decide),Nat.max_eq_left (by omega)]
  ·rw [A42 (show ¬ (x:Int)<(m:Int) by omega),A42 (by decide),Nat.max_eq_left (by omega)]
theorem Amf {m x:Nat} (h:Aj m=4∨Aj x=4):Aks m x=Oc:=by
 have o:Aal m x=false:=by unfold Aal; rw [A4h h]; rfl
 unfold Aks
 rw [o,A42 (by decide)]
theorem Aot:Aj Oc=4:=by decide
theorem Aih:∀ l:List Int,l.foldl (fun m x=>Uz m (Iw x)) ((Oc:Nat):Int)=((Oc:Nat):Int)
 | []=>rfl
 | x::l=>by
   rw [List.foldl_cons]
   have:Uz ((Oc:Nat):Int) (Iw x)=((Oc:Nat):Int):=by unfold Uz; rw [A4i,Amf (.inl Aot)]
   rw [this]
   exact Aih l
theorem Aii:∀ (l:List Int) (m:Nat),m<2^63→Aj m≠4→l.foldl (fun m x=>Uz m (Iw x)) (m:Int)=((P2 l m:Nat):Int)
 | [],m,_,_=>rfl
 | x::l,m,hm,m4=>by
   rw [List.foldl_cons]
   unfold P2
   have e1:(Iw x).toNat=Gg x.toNat:=by unfold Iw; rw [A4i]
   by_cases h:Aj x.toNat=4
   ·rw [A43 h]
    have:Uz (m:Int) (Iw x)=((Oc:Nat):Int):=by
     unfold Uz
     rw [e1,Amf (.inr (by rw [Sm]; exact h))]
    rw [this]
    exact Aih l
   ·rw [A42 h]
    have hx:=T0 x.toNat
    have x4:Aj (Gg x.toNat)≠4:=by rw [Sm]; exact h
    have:Uz (m:Int) (Iw x)=((max m (Gg x.toNat):Nat):Int):=by
     unfold Uz
     rw [A4i,e1,Avn hm m4 hx x4]
    rw [this]
    refine Aii l _ (by omega) ?_
    rcases Nat.le_total m (Gg x.toNat) with h2 | h2
    ·rw [Nat.max_eq_right h2]; exact x4
    ·rw [Nat.max_eq_left h2]; exact m4
theorem Aym {a b:Int} (ha:Af a=true) (hb:Af b=true):Af (Uz a b)=true:=by
 obtain ⟨x,rfl,hx⟩:=Bw ha
 obtain ⟨y,rfl,hy⟩:=Bw hb
 unfold Uz Aks
 rw [A4i,A4i]
 split
 ·split
  ·exact hb
  ·exact ha
 ·exact Cm (by decide)
theorem Ae5 (N:Nat) {x:List Int} (hx:Bs x=true):∀ (k i F:Nat) (m:Int),i+k=x.length→k<F→Af m=true→Ah.Bx.L0 N F x m (i:Int)=some (.int .u64 ((x.drop i).foldl (fun m x=>Uz m (Iw x)) m)):=by
 obtain ⟨hl,hu⟩:=Hs hx
 intro k
 induction k with
 | zero =>
   intro i F m hi hF hm
   obtain ⟨F,rfl⟩:∃ G,F=G+1:=⟨F-1,by omega⟩
   rw [Ah.Bx.Ar,Av,A4l (by omega),A4k,A4u (by omega)]; rfl
 | succ k ih =>
   intro i F m hi hF hm
   obtain ⟨F,rfl⟩:∃ G,F=G+1:=⟨F-1,by omega⟩
   rw [Ah.Bx.Ar,Av,A4h (show (i:Int)<(x.length:Int) by omega),A4g,A4h (show (0:Int)≤(i:Int) by omega),A4m,A4g,A4i,hu i (by omega),A4g,hm,Rd,A4m,A4g,Jf (by omega),List.foldl_cons,An (by omega) (by omega)]
   exact ih (i+1) F _ (by omega) (by omega) (Aym hm (Rd _))
theorem Ah.Bx.known:Ah.Bx.Kn:=Ah.Bx.Ad (.cons Br.Hy.known (.cons Br.Max.known .nil)) fun x hp=>by
 refine ⟨x.length+1,.int .u64 (Bk x),[],?_,.int⟩
 rw [Ah.Bx.ev]
 have h:=Ae5 (x.length+1) hp x.length 0 (x.length+1) 0 (by omega) (by omega) Lb
 rw [List.drop_zero] at h
 have h2:=Aii x 0 (by decide) (by decide +kernel)
 exact h.trans (congrArg (fun n:Int=>some (DV.int .u64 n)) h2)
theorem math.Sqrt.known:math.Sqrt.Kn:=math.Sqrt.Ad .nil fun x _=>⟨0,.fl ((Ieee.double.sqrt x).getD nanBits),[],by rw [math.Sqrt.ev],.fl⟩
theorem Ah.Sqrt.known:Ah.Sqrt.Kn:=Ah.Sqrt.Ad (.cons math.Sqrt.known (.cons Ah.B.known (.cons Ah.F.known .nil))) fun a hp=>by
 obtain ⟨x,rfl,hx⟩:=Bw (x:=a) hp
 refine ⟨0,.int .u64 (Ed (x:Int)),[],?_,.int⟩
 have:Hf ((Ieee.double.sqrt (toNat (x:Int))).getD nanBits)=Ed (x:Int):=by
  unfold Hf Ed
  rw [A4i,An4 hx H2]
 rw [Ah.Sqrt.ev,Cm hx,A4g,this]
theorem Acd (N:Nat) {x:List Int} (hx:Bs x=true):∀ (k i F:Nat) (s:Int),i+k=x.length→k<F→Af s=true →
 Ah.Norm.L0 N F x s (i:Int)=some (.int .u64 (Bg (Ed (Vi (-B1 (Bk x)) s (x.drop i))) (B1 (Bk x)))):=by
 obtain ⟨hl,hu⟩:=Hs hx
 have he:=Rm (Bk x)
 intro k
 induction k with
 | zero =>
   intro i F s hi hF hs
   obtain ⟨F,rfl⟩:∃ G,F=G+1:=⟨F-1,by omega⟩
   rw [Ah.Norm.Ar,Av,A4l (by omega),A4k,hs,A4g,show Df (Ed s) (B1 (Bk x))=true from Ac.2 ⟨Q1 hs,Aq.2 (by omega)⟩,A4g,A4u (by omega)]
   rfl
 | succ k ih =>
   intro i F s hi hF hs
   obtain ⟨F,rfl⟩:∃ G,F=G+1:=⟨F-1,by omega⟩
   rw [Ah.Norm.Ar,Av,A4h (show (i:Int)<(x.length:Int) by omega),A4g,A4h (show (0:Int)≤(i:Int) by omega),A4m,A4g,A4i,An (x:=(0:Int)-B1 (Bk x)) (by omega) (by omega),show (0:Int)-B1 (Bk x)=-B1 (Bk x) by omega,
    show Df (getD x i 0) (-B1 (Bk x))=true from Ac.2 ⟨hu i (by omega),Aq.2 (by omega)⟩,A4g,G8 (hu i (by omega)),A4m,A4g,hs,Ew,A4m,A4g,Ag0 (by omega),An (by omega) (by omega)]
   exact ih (i+1) F _ (by omega) (by omega) (Nm hs (Ew _ _))
theorem Ah.Norm.known:Ah.Norm.Kn:=Ah.Norm.Ad (.cons A6.Finite.known (.cons Br.K7.known (.cons Ah.Add.known (.cons Ah.Bx.known (.cons Ah.Mul.known (.cons Ah.Bu.known (.cons Ah.Sqrt.known .nil))))))) fun x hp=>by
 have hx:Bs x=true:=hp
 refine ⟨x.length+1,.int .u64 (Bt x),[],?_,.int⟩
 rw [Ah.Norm.ev,hx,A4g,Rr,A5s,A4g]
 unfold Bt
 by_cases h:Bk x=0∨Dz (Bk x)=false
 ·have:((Bk x==(0:Int))||(!(Dz (Bk x))))=true:=by
   rcases h with h | h
   ·rw [h]; rfl
   ·rw [h,A5z,A5s]
  rw [this,A4g,A43 h]
 ·have:((Bk x==(0:Int))||(!(Dz (Bk x))))=false:=by
   rw [Bool.or_eq_false_iff,A5b,Bool.not_eq_false']
   refine ⟨fun h0=>h (.inl h0),?_⟩
   cases hf:Dz (Bk x) with
   | true=>rfl
   | false=>exact absurd (.inr hf) h
  rw [this,A4k,A4g,A42 h]
  exact Acd (x.length+1) hx x.length 0 (x.length+1) 0 (by omega) (by omega) Lb
namespace EqHouse
def As.B2.hint:Nat→Option Ba
 | 0=>some { keep:=[5,6,7],objs:=[],boxes:=[] }
 | _=>none
def As.B2.Bc:List (Nat × Entry):=[(165,soft.Kind.spec)]
def As.B2.E:Env:=Bi (Be As.B2.Bc) (fun _=>false) As.B2.hint (fun _=>none)
section
variable (N M:Nat) (x:List Int) (p7:Int)
def As.B2.L0:Option DV:=B8 As.B2.E N f225 (Ak f225) [1,0,1,0] [] M ⟨Ff 15 [(5,.ints .arg .u64 x),(6,.int .i64 (length x:Int)),(7,.int .i64 p7)],[]⟩
theorem As.B2.Ar:As.B2.L0 N (M+1) x p7=bif (Bb p7 (length x:Int)) then bif ((decide (0≤p7))&&(decide (p7<(length x:Int)))) then bif (Af (getD x (toNat p7) 0)) then bif ((Bz (getD x (toNat p7) 0)) !=(0:Int)) then some (.bool false) else As.B2.L0 N M x (Ab (p7+1)) else none else none else some (.bool true):=by kernel_rfl
theorem As.B2.ev:B0 As.B2.E N f225 (Ak f225) [.ints .arg .u64 x] =
 As.B2.L0 N N x 0:=by kernel_rfl
end
abbrev _root_.Go.Proofs.S1.As.B2.Kn:=A8 prog 225 As.B2.spec
theorem As.B2.Ad (hk:A2 prog As.B2.Bc) (h:Hyp As.B2.E f225 As.B2.ts As.B2.pre As.B2.out):As.B2.Kn :=
 Am (A5 hk _ _ _) func225 (by kernel_rfl) (by kernel_rfl) h
def As.lead.hint:Nat→Option Ba
 | 0=>some { keep:=[5,6,7],objs:=[],boxes:=[] }
 | _=>none
def As.lead.Bc:List (Nat × Entry):=[(165,soft.Kind.spec)]
def As.lead.E:Env:=Bi (Be As.lead.Bc) (fun _=>false) As.lead.hint (fun _=>none)
section
variable (N M:Nat) (x:List Int) (p7:Int)
def As.lead.L0:Option DV:=B8 As.lead.E N f229 (Ak f229) [1,0,1,0] [] M ⟨Ff 16 [(5,.ints .arg .u64 x),(6,.int .i64 (length x:Int)),(7,.int .i64 p7)],[]⟩
theorem As.lead.Ar:As.lead.L0 N (M+1) x p7=bif (Bb p7 (length x:Int)) then bif ((decide (0≤p7))&&(decide (p7<(length x:Int)))) then bif (Af (getD x (toNat p7) 0)) then bif ((Bz (getD x (toNat p7) 0)) !=(0:Int)) then some (.int .u64 (getD x (toNat p7) 0)) else As.lead.L0 N M x (Ab (p7+1)) else none else none else some (.int .u64 0):=by kernel_rfl
theorem As.lead.ev:B0 As.lead.E N f229 (Ak f229) [.ints .arg .u64 x] =
 As.lead.L0 N N x 0:=by kernel_rfl
end
abbrev _root_.Go.Proofs.S1.As.lead.Kn:=A8 prog 229 As.lead.spec
theorem As.lead.Ad (hk:A2 prog As.lead.Bc) (h:Hyp As.lead.E f229 As.lead.ts As.lead.pre As.lead.out):As.lead.Kn :=
 Am (A5 hk _ _ _) func229 (by kernel_rfl) (by kernel_rfl) h
def As.Bf.hint:Nat→Option Ba
 | 0=>some { keep:=[1,5,8,9,10],objs:=[(0,5,100005,.ints 43 .u64 [])],boxes:=[] }
 | _=>none
def As.Bf.Bc:List (Nat × Entry):=[(79,Ag.Bu.spec)]
def As.Bf.E:Env:=Bi (Be As.Bf.Bc) (fun _=>false) As.Bf.hint (fun _=>none)
section
variable (N M:Nat) (x:List Int) (k p10:Int) (p5:List Int)
def As.Bf.L0:Option DV:=B8 As.Bf.E N f228 (Ak f228) [1,1,0,1,0] [] M ⟨Ff 22 [(1,.int .i64 k),(5,.oref 100005),(8,.ints .arg .u64 x),(9,.int .i64 (length x:Int)),(10,.int .i64 p10)],[(100005,false,.ints 43 .u64 p5)]⟩
theorem As.Bf.Ar:As.Bf.L0 N (M+1) x k p10 p5=bif (Bb p10 (length x:Int)) then bif ((decide (0≤p10))&&(decide (p10<(length x:Int)))) then bif (Df (getD x (toNat p10) 0) k) then bif (decide ((length p5)+1≤Ha)) then As.Bf.L0 N M x k (Ab (p10+1)) (p5++[(Bg (getD x (toNat p10) 0) k)]) else none else none else none else some (.ints (.own 100005 43) .u64 p5):=by kernel_rfl
theorem As.Bf.ev:B0 As.Bf.E N f228 (Ak f228) [.ints .arg .u64 x,.int .i64 k] =
 As.Bf.L0 N N x k 0 []:=by kernel_rfl
end
abbrev _root_.Go.Proofs.S1.As.Bf.Kn:=A8 prog 228 As.Bf.spec
theorem As.Bf.Ad (hk:A2 prog As.Bf.Bc) (h:Hyp As.Bf.E f228 As.Bf.ts As.Bf.pre As.Bf.out):As.Bf.Kn :=
 Am (A5 hk _ _ _) func228 (by kernel_rfl) (by kernel_rfl) h
def As.Gp.Bc:List (Nat × Entry):=[]
def As.Gp.E:Env:=Bi (Be As.Gp.Bc) (fun _=>false) (fun _=>none) (fun _=>none)
theorem As.Gp.ev (N:Nat) (i:Int):B0 As.Gp.E N f227 (Ak f227) [.int .i64 i]=some (.int .u64 0):=by kernel_rfl
abbrev _root_.Go.Proofs.S1.As.Gp.Kn:=A8 prog 227 As.Gp.spec
theorem As.Gp.Ad (hk:A2 prog As.Gp.Bc) (h:Hyp As.Gp.E f227 As.Gp.ts As.Gp.pre As.Gp.out):As.Gp.Kn :=
 Am (A5 hk _ _ _) func227 (by kernel_rfl) (by kernel_rfl) h
def As.Gn.Bc:List (Nat × Entry):=[(82,Ag.Div.spec)]
def As.Gn.E:Env:=Bi (Be As.Gn.Bc) (fun _=>false) (fun _=>none) (fun _=>none)
theorem As.Gn.ev (N:Nat) (i:Int) (y:List Int) (d:Int):B0 As.Gn.E N f230 (Ak f230) [.int .i64 i,.cellp [.ints .arg .u64 y],.cellp [.int .u64 d]]=bif ((decide (0≤i))&&(decide (i<(length y:Int)))) then bif (Af (getD y (toNat i) 0)&&Af d) then some (.int .u64 (Ey (getD y (toNat i) 0) d)) else none else none :=
 Eq.trans (by kernel_rfl)
 (Cw (J1 _ _) (Cw (Cy _) rfl rfl) rfl)
abbrev _root_.Go.Proofs.S1.As.Gn.Kn:=A8 prog 230 As.Gn.spec
theorem As.Gn.Ad (hk:A2 prog As.Gn.Bc) (h:Hyp As.Gn.E f230 As.Gn.ts As.Gn.pre As.Gn.out):As.Gn.Kn :=
 Am (A5 hk _ _ _) func230 (by kernel_rfl) (by kernel_rfl) h
def As.row.Zero.hint:Nat→Option Ba
 | 0=>some { keep:=[0,1,5,6],objs:=[(0,5,100005,.ints 43 .u64 [])],boxes:=[] }
 | _=>none
def As.row.Zero.Bc:List (Nat × Entry):=[(227,As.Gp.spec)]
def As.row.Zero.E:Env:=Bi (Be As.row.Zero.Bc) (fun _=>false) As.row.Zero.hint (fun _=>none)
section
variable (N M:Nat) (n p6:Int) (p5:List Int)
def As.row.Zero.L0:Option DV:=B8 As.row.Zero.E N f226 (Ak f226) [1,1,0,1,0] [] M ⟨Ff 23 [(0,.int .i64 n),(1,.fn 227 [] []),(5,.oref 100005),(6,.int .i64 p6)],[(100005,false,.ints 43 .u64 p5)]⟩
theorem As.row.Zero.Ar:As.row.Zero.L0 N (M+1) n p6 p5=bif (Bb p6 n) then bif (decide ((length p5)+1≤Ha)) then As.row.Zero.L0 N M n (Ab (p6+1)) (p5++[(0:Int)]) else none else bif (((decide ((0:Int)≤n))&&(decide (n≤n)))&&((decide ((0:Int)≤n))&&(decide (n≤(length p5:Int))))) then some (.ints .fresh .u64 (List.take (toNat (n-0)) (List.drop 0 p5))) else none :=
 Eq.trans (by kernel_rfl)
 (E1 rfl (Cw (Axt _ _ _) rfl rfl))
theorem As.row.Zero.ev:B0 As.row.Zero.E N f226 (Ak f226) [.int .i64 n,.fn 227 [] []] =
 As.row.Zero.L0 N N n 1 [(4607182418800017408:Int)]:=by kernel_rfl
end
abbrev _root_.Go.Proofs.S1.As.row.Zero.Kn:=A8 prog 226 As.row.Zero.spec
theorem As.row.Zero.Ad (hk:A2 prog As.row.Zero.Bc) (h:Hyp As.row.Zero.E f226 As.row.Zero.ts As.row.Zero.pre As.row.Zero.out):As.row.Zero.Kn :=
 Am (A5 hk _ _ _) func226 (by kernel_rfl) (by kernel_rfl) h
def As.row.Div.hint:Nat→Option Ba
 | 0=>some { keep:=[0,1,5,6],objs:=[(0,5,100005,.ints 43 .u64 [])],boxes:=[] }
 | _=>none
def As.row.Div.Bc:List (Nat × Entry):=[(230,As.Gn.spec)]
def As.row.Div.E:Env:=Bi (Be As.row.Div.Bc) (fun _=>false) As.row.Div.hint (fun _=>none)
section
variable (N M:Nat) (n:Int) (y:List Int) (d p6:Int) (p5:List Int)
def As.row.Div.L0:Option DV:=B8 As.row.Div.E N f226 (Ak f226) [1,1,0,1,0] [] M ⟨Ff 23 [(0,.int .i64 n),(1,.fn 230 [] [.cellp [.ints .arg .u64 y],.cellp [.int .u64 d]]),(5,.oref 100005),(6,.int .i64 p6)],[(100005,false,.ints 43 .u64 p5)]⟩
theorem As.row.Div.Ar:As.row.Div.L0 N (M+1) n y d p6 p5=bif (Bb p6 n) then bif ((B5 (0≤p6∧p6<length y)&&Al y)&&Af d) then bif (decide ((length p5)+1≤Ha)) then As.row.Div.L0 N M n y d (Ab (p6+1)) (p5++[(Ey (getD y (toNat p6) 0) d)]) else none else none else bif (((decide ((0:Int)≤n))&&(decide (n≤n)))&&((decide ((0:Int)≤n))&&(decide (n≤(length p5:Int))))) then some (.ints .fresh .u64 (List.take (toNat (n-0)) (List.drop 0 p5))) else none :=
 Eq.trans (by kernel_rfl)
 (E1 rfl (Cw (Axt _ _ _) rfl rfl))
theorem As.row.Div.ev:B0 As.row.Div.E N f226 (Ak f226) [.int .i64 n,.fn 230 [] [.cellp [.ints .arg .u64 y],.cellp [.int .u64 d]]] =
 As.row.Div.L0 N N n y d 1 [(4607182418800017408:Int)]:=by kernel_rfl
end
abbrev _root_.Go.Proofs.S1.As.row.Div.Kn:=A8 prog 226 As.row.Div.spec
theorem As.row.Div.Ad (hk:A2 prog As.row.Div.Bc) (h:Hyp As.row.Div.E f226 As.row.Div.ts As.row.Div.pre As.row.Div.out):As.row.Div.Kn :=
 Am (A5 hk _ _ _) func226 (by kernel_rfl) (by kernel_rfl) h
def As.Bn.Bc:List (Nat × Entry):=[(123,compare.K7.spec),(229,As.lead.spec),(225,As.B2.spec),(226,(Ay5 [.i .i64,.fn 227 []] As.row.Zero.spec As.row.Div.spec)),(228,As.Bf.spec),(136,soft.Finite.spec),(81,soft.Du.spec),(181,soft.Sign.spec),(124,Ag.Bx.spec),(82,Ag.Div.spec),(66,Ag.Finite.spec),(67,Ag.Norm.spec),(79,Ag.Bu.spec),(201,Ag.Sub.spec)]
def As.Bn.E:Env:=Bi (Be As.Bn.Bc) (fun _=>false) (fun _=>none) (fun _=>none)
theorem As.Bn.ev (N:Nat) (x:List Int):B0 As.Bn.E N f200 (Ak f200) [.ints .arg .u64 x]=bif (((length x:Int)==(0:Int))||(Bb 64 (length x:Int))) then some (.tup [.nil,.int .u64 0,.int .u64 0,.int .i64 3]) else bif (Bs x) then bif (!(Dc x)) then some (.tup [.nil,.int .u64 0,.int .u64 0,.int .i64 4]) else bif (decide ((1:Int)≤(length x:Int))) then bif (Bs (List.drop 1 x)) then bif (E7 (List.drop 1 x)) then bif (B5 (1≤(length x:Int)∧(length x:Int)≤64)) then bif (decide ((0:Int)<(length x:Int))) then some (.tup [.ints .fresh .u64 (Kg (toNat (length x:Int)) (fun _=>0)),.int .u64 0,.int .u64 (getD x 0 0),.int .i64 0]) else none else none else bif (Bs x) then bif (Af (Bk x)) then bif (Bs x&&B5 (length x≤1000∧-2300≤(Ab (0-(B1 (Bk x))))∧(Ab (0-(B1 (Bk x))))≤2300)) then bif (Bs (A9 x (Ab (0-(B1 (Bk x)))))&&B5 (length (A9 x (Ab (0-(B1 (Bk x)))))≤64)) then bif (Bs x) then bif (Af (Qm x)) then bif (!(Eb (Qm x))) then bif (Af (Bt (A9 x (Ab (0-(B1 (Bk x))))))) then bif (Df (Cz (Bt (A9 x (Ab (0-(B1 (Bk x))))))) (B1 (Bk x))) then bif (Af (Bg (Cz (Bt (A9 x (Ab (0-(B1 (Bk x))))))) (B1 (Bk x)))) then bif (!(Dz (Bg (Cz (Bt (A9 x (Ab (0-(B1 (Bk x))))))) (B1 (Bk x))))) then some (.tup [.nil,.int .u64 0,.int .u64 0,.int .i64 2]) else bif (decide ((0:Int)<(length (A9 x (Ab (0-(B1 (Bk x))))):Int))) then bif (Af (getD (A9 x (Ab (0-(B1 (Bk x))))) 0 0)&&Af (Cz (Bt (A9 x (Ab (0-(B1 (Bk x)))))))) then bif ((B5 (1≤(length (A9 x (Ab (0-(B1 (Bk x))))):Int)∧(length (A9 x (Ab (0-(B1 (Bk x))))):Int)≤64∧(length (A9 x (Ab (0-(B1 (Bk x))))):Int)=length (A9 x (Ab (0-(B1 (Bk x))))))&&Al (A9 x (Ab (0-(B1 (Bk x))))))&&Af (E4 (getD (A9 x (Ab (0-(B1 (Bk x))))) 0 0) (Cz (Bt (A9 x (Ab (0-(B1 (Bk x))))))))) then bif (decide ((0:Int)<(length (A9 x (Ab (0-(B1 (Bk x))))):Int))) then bif (Af (Cz (Bt (A9 x (Ab (0-(B1 (Bk x)))))))&&Af (getD (A9 x (Ab (0-(B1 (Bk x))))) 0 0)) then bif (Af (E4 (Cz (Bt (A9 x (Ab (0-(B1 (Bk x))))))) (getD (A9 x (Ab (0-(B1 (Bk x))))) 0 0))&&Af (Cz (Bt (A9 x (Ab (0-(B1 (Bk x)))))))) then some (.tup [.ints .fresh .u64 (Kg (toNat (length (A9 x (Ab (0-(B1 (Bk x))))):Int)) (fun j=>Ey (getD (A9 x (Ab (0-(B1 (Bk x))))) j 0) (E4 (getD (A9 x (Ab (0-(B1 (Bk x))))) 0 0) (Cz (Bt (A9 x (Ab (0-(B1 (Bk x)))))))))),.int .u64 (Ey (E4 (Cz (Bt (A9 x (Ab (0-(B1 (Bk x))))))) (getD (A9 x (Ab (0-(B1 (Bk x))))) 0 0)) (Cz (Bt (A9 x (Ab (0-(B1 (Bk x)))))))),.int .u64 (Bg (Cz (Bt (A9 x (Ab (0-(B1 (Bk x))))))) (B1 (Bk x))),.int .i64 0]) else none else none else none else none else none else none else none else none else none else bif (Df (Bt (A9 x (Ab (0-(B1 (Bk x)))))) (B1 (Bk x))) then bif (Af (Bg (Bt (A9 x (Ab (0-(B1 (Bk x)))))) (B1 (Bk x)))) then bif (!(Dz (Bg (Bt (A9 x (Ab (0-(B1 (Bk x)))))) (B1 (Bk x))))) then some (.tup [.nil,.int .u64 0,.int .u64 0,.int .i64 2]) else bif (decide ((0:Int)<(length (A9 x (Ab (0-(B1 (Bk x))))):Int))) then bif (Af (getD (A9 x (Ab (0-(B1 (Bk x))))) 0 0)&&Af (Bt (A9 x (Ab (0-(B1 (Bk x))))))) then bif ((B5 (1≤(length (A9 x (Ab (0-(B1 (Bk x))))):Int)∧(length (A9 x (Ab (0-(B1 (Bk x))))):Int)≤64∧(length (A9 x (Ab (0-(B1 (Bk x))))):Int)=length (A9 x (Ab (0-(B1 (Bk x))))))&&Al (A9 x (Ab (0-(B1 (Bk x))))))&&Af (E4 (getD (A9 x (Ab (0-(B1 (Bk x))))) 0 0) (Bt (A9 x (Ab (0-(B1 (Bk x)))))))) then bif (decide ((0:Int)<(length (A9 x (Ab (0-(B1 (Bk x))))):Int))) then bif (Af (Bt (A9 x (Ab (0-(B1 (Bk x))))))&&Af (getD (A9 x (Ab (0-(B1 (Bk x))))) 0 0)) then bif (Af (E4 (Bt (A9 x (Ab (0-(B1 (Bk x)))))) (getD (A9 x (Ab (0-(B1 (Bk x))))) 0 0))&&Af (Bt (A9 x (Ab (0-(B1 (Bk x))))))) then some (.tup [.ints .fresh .u64 (Kg (toNat (length (A9 x (Ab (0-(B1 (Bk x))))):Int)) (fun j=>Ey (getD (A9 x (Ab (0-(B1 (Bk x))))) j 0) (E4 (getD (A9 x (Ab (0-(B1 (Bk x))))) 0 0) (Bt (A9 x (Ab (0-(B1 (Bk x))))))))),.int .u64 (Ey (E4 (Bt (A9 x (Ab (0-(B1 (Bk x)))))) (getD (A9 x (Ab (0-(B1 (Bk x))))) 0 0)) (Bt (A9 x (Ab (0-(B1 (Bk x))))))),.int .u64 (Bg (Bt (A9 x (Ab (0-(B1 (Bk x)))))) (B1 (Bk x))),.int .i64 0]) else none else none else none else none else none else none else none else none else none else none else none else none else none else none else none else none else none :=
 Eq.trans (by kernel_rfl)
 (Ax (W4 ((length x:Int)==(0:Int))) (Ax (T8 ((length x:Int)==(0:Int))) (Ax (T8 ((length x:Int)==(0:Int))) (Ax (tt6 ((length x:Int)==(0:Int))) (Cw (tt5 _ _) rfl (E1 (E1 rfl (Cw (A2x _) (E1 (E1 (Cw (Cy _) (Cw (Cy _) rfl rfl) rfl) rfl) rfl) rfl)) rfl))))))
abbrev _root_.Go.Proofs.S1.As.Bn.Kn:=A8 prog 200 As.Bn.spec
theorem As.Bn.Ad (hk:A2 prog As.Bn.Bc) (h:Hyp As.Bn.E f200 As.Bn.ts As.Bn.pre As.Bn.out):As.Bn.Kn :=
 Am (A5 hk _ _ _) func200 (by kernel_rfl) (by kernel_rfl) h
def As.Apply.hint:Nat→Option Ba
 | 0=>some { keep:=[1,3,4,5,10,13,14],objs:=[(14,2,114002,.ints 43 .u64 [])],boxes:=[5,10,13] }
 | 2=>some { keep:=[1,3,4,5,10,13,14,18,90,91,92],objs:=[(14,2,114002,.ints 43 .u64 [])],boxes:=[5,10,13] }
 | _=>none
def As.Apply.Bc:List (Nat × Entry):=[(121,Aa.Check.spec),(68,Aa.D6.spec),(134,Ag.H9.spec),(138,Ag.Mul.spec),(201,Ag.Sub.spec)]
def As.Apply.E:Env:=Bi (Be As.Apply.Bc) (fun _=>false) As.Apply.hint (fun _=>none)
section
variable (N M0 M:Nat) (r c:Int) (l:List Int) (i k:Int) (v:List Int) (t p92:Int) (p2:List Int) (p14_1 p18:Int) (p90:List Int) (p91 p14:Int) (p2_1:List Int)
def As.Apply.L0:Option DV:=B8 As.Apply.E N f163 (Ak f163) [1,1,1,1,0,1,0] [] M ⟨Ff 118 [(1,.int .i64 i),(3,.ints .arg .u64 v),(4,.int .u64 t),(5,.ptr 5 0 0),(10,.ptr 10 0 0),(13,.ptr 13 0 0),(14,.int .i64 p14)],[(5,false,.box [.int .i64 r,.int .i64 c,.ints .arg .u64 l]),(10,false,.box [.int .i64 0,.int .i64 0,.nil]),(13,false,.box [.int .i64 r,.int .i64 c,.oref 114002]),(114002,false,.ints 43 .u64 p2_1)]⟩
def As.Apply.L1:Option DV:=B8 As.Apply.E N f163 (Ak f163) [1,1,1,1,0,1,0,0,1,0,0,1,1,1,1,0] [M0] M ⟨Ff 118 [(1,.int .i64 i),(3,.ints .arg .u64 v),(4,.int .u64 t),(5,.ptr 5 0 0),(10,.ptr 10 0 0),(13,.ptr 13 0 0),(14,.int .i64 p14_1),(18,.int .u64 p18),(90,.ints .fresh .u64 p90),(91,.int .i64 p91),(92,.int .i64 p92)],[(5,false,.box [.int .i64 r,.int .i64 c,.ints .arg .u64 l]),(10,false,.box [.int .i64 0,.int .i64 0,.nil]),(13,false,.box [.int .i64 r,.int .i64 c,.oref 114002]),(114002,false,.ints 43 .u64 p2)]⟩
theorem As.Apply.Ar:As.Apply.L0 N (M+1) r c l i v t p14 p2_1=bif (Bb p14 c) then bif (Fv r c l p14&&B5 (0≤i∧i≤r)) then bif (((decide ((0:Int)≤(length v:Int)))&&(decide ((length v:Int)≤(length v:Int))))&&((decide ((0:Int)≤(length v:Int)))&&(decide ((length v:Int)≤(length (Ci c l p14 i (toNat (r-i))):Int))))) then bif ((Mb v (List.take (toNat (length v:Int)) (Ci c l p14 i (toNat (r-i))))&&Al v)&&Al (List.take (toNat (length v:Int)) (Ci c l p14 i (toNat (r-i))))) then bif (Af t&&Af (Hj v (List.take (toNat (length v:Int)) (Ci c l p14 i (toNat (r-i)))))) then As.Apply.L1 N M N r c l i v t 0 p2_1 p14 (Cc t (Hj v (List.take (toNat (length v:Int)) (Ci c l p14 i (toNat (r-i)))))) (List.take (toNat (length v:Int)) (Ci c l p14 i (toNat (r-i)))) (length (List.take (toNat (length v:Int)) (Ci c l p14 i (toNat (r-i)))):Int) else none else none else none else none else some (.tup [.agg [.int .i64 r,.int .i64 c,.ints (.own 114002 43) .u64 p2_1],.int .i64 0]) :=
 Eq.trans (by kernel_rfl)
 (E1 (E1 (Cw (Axt _ _ _) rfl rfl) rfl) rfl)
theorem As.Apply.Cd:As.Apply.L1 N M0 (M+1) r c l i v t p92 p2 p14_1 p18 p90 p91=bif (Bb p92 p91) then bif ((decide (0≤p92))&&(decide (p92<(length p90:Int)))) then bif ((decide (0≤p92))&&(decide (p92<(length v:Int)))) then bif (Af p18&&Af (getD v (toNat p92) 0)) then bif (Af (getD p90 (toNat p92) 0)&&Af (Cc p18 (getD v (toNat p92) 0))) then bif ((decide (0≤(Ab ((Ab ((Ab (i+p92))*c))+p14_1))))&&(decide ((Ab ((Ab ((Ab (i+p92))*c))+p14_1))<(length p2:Int)))) then bif (decide ((toNat (Ab ((Ab ((Ab (i+p92))*c))+p14_1)))<(length p2))) then As.Apply.L1 N M0 M r c l i v t (Ab (p92+1)) (List.set p2 (toNat (Ab ((Ab ((Ab (i+p92))*c))+p14_1))) (E4 (getD p90 (toNat p92) 0) (Cc p18 (getD v (toNat p92) 0)))) p14_1 p18 p90 p91 else none else none else none else none else none else none else As.Apply.L0 N M0 r c l i v t (Ab (p14_1+1)) p2 :=
 Eq.trans (by kernel_rfl)
 (E1 (E1 (Cw (J1 _ _) (Cw (Cy _) (Cw (Cy _) (Cw (J1 _ _) (Cw (Cy _) rfl rfl) rfl) rfl) rfl) rfl) rfl) rfl)
theorem As.Apply.ev:B0 As.Apply.E N f163 (Ak f163) [.agg [.int .i64 r,.int .i64 c,.ints .arg .u64 l],.int .i64 i,.int .i64 k,.ints .arg .u64 v,.int .u64 t]=bif ((Lq r c l) !=(0:Int)) then some (.tup [.agg [.int .i64 0,.int .i64 0,.nil],.int .i64 (Lq r c l)]) else bif (((((Bb i 0)||(Bb r (length v:Int)))||(Bb (Ab (r-(length v:Int))) i))||(Bb k 0))||(Bb c k)) then some (.tup [.agg [.int .i64 0,.int .i64 0,.nil],.int .i64 3]) else bif (decide (0+(length l)≤Ha)) then As.Apply.L0 N N r c l i v t k ([]++l) else none :=
 Eq.trans (by kernel_rfl)
 (E1 rfl (Ax (W4 (Bb i 0)) (Ax (T8 (Bb i 0)) (Ax (W4 (Bb i 0)) (Ax (T8 (Bb i 0)) (Ax (tt8 (Bb i 0)) (Ax (tt6 (Bb i 0)) (Ax (Zt (Bb i 0) (Bb r (length v:Int))) (Ax (Zt (Bb i 0) (Bb r (length v:Int))) (Ax (Ab7 (Bb i 0) (Bb r (length v:Int))) (Ax (Zt (Bb i 0) (Bb r (length v:Int))) (Ax (Ab7 (Bb i 0) (Bb r (length v:Int))) (Ax (Anc (Bb i 0) (Bb r (length v:Int))) (Ax (Anc (Bb i 0) (Bb r (length v:Int))) (Ax (Aql (Bb i 0) (Bb r (length v:Int))) (Ax (Agp (Bb i 0) (Bb r (length v:Int)) (Bb (Ab (r-(length v:Int))) i)) (Ax (Aeq (Bb i 0) (Bb r (length v:Int)) (Bb (Ab (r-(length v:Int))) i)) (Ax (Aqm (Bb i 0) (Bb r (length v:Int)) (Bb (Ab (r-(length v:Int))) i)) (Ax (Ane (Bb i 0) (Bb r (length v:Int)) (Bb (Ab (r-(length v:Int))) i) (Bb k 0)) (Ax (Ane (Bb i 0) (Bb r (length v:Int)) (Bb (Ab (r-(length v:Int))) i) (Bb k 0)) (Ax (A0f (Bb i 0) (Bb r (length v:Int)) (Bb (Ab (r-(length v:Int))) i) (Bb k 0)) (Ax (Axu (Bb i 0) (Bb r (length v:Int)) (Bb (Ab (r-(length v:Int))) i) (Bb k 0)) (Ax (Axv (Bb i 0) (Bb r (length v:Int)) (Bb (Ab (r-(length v:Int))) i) (Bb k 0)) (Cw (Az7 _ _ _ _ _) rfl (Cw (Cy _) rfl rfl)))))))))))))))))))))))))
end
abbrev _root_.Go.Proofs.S1.As.Apply.Kn:=A8 prog 163 As.Apply.spec
theorem As.Apply.Ad (hk:A2 prog As.Apply.Bc) (h:Hyp As.Apply.E f163 As.Apply.ts As.Apply.pre As.Apply.out):As.Apply.Kn :=
 Am (A5 hk _ _ _) func163 (by kernel_rfl) (by kernel_rfl) h
end EqHouse
end Go.Proofs.S1
end
