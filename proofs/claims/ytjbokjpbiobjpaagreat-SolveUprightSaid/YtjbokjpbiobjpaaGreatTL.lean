/- A verified evaluator of the program's form and its use for this seat: S1PRefM, S1PRef14, S1EqLow, S1PLow, S1EqLse, S1PLse, S1POfS, S1EqRef20, S1PSubSt, S1PLseA, S1PRefL, S1PRef20, S1PMx, TileL, ExaL, S1PExa, RatO, RatP, RatQ, VecR, BndM, NorR, NorS, MirR, MirT, MirW, MakV, AppV, AppW, HouV, FacV, QuoL. -/
import Derived.Test.YtjbokjpbiobjpaaGreatTK
import Derived.Test.YtjbokjpbiobjpaaGreatTE
import Derived.Test.YtjbokjpbiobjpaaGreatTF
import Derived.Test.YtjbokjpbiobjpaaGreatTI
import Derived.Test.YtjbokjpbiobjpaaGreatTJ
set_option linter.unusedVariables false
set_option linter.unusedSimpArgs false
open Int (toNat)
open List (length getD)
open Go.Proofs.Tryz
namespace Go.Proofs.S1
open Go Go.Den Go.Cv Go.Proofs
open EqRefM
theorem Ze {n:Bool} {l:List Int} (h:okM n l=true):∃ v,n=Az v∧l=Ah v∧Dk v.natAbs<33554432:=by
 have h:=As.1 h
 obtain ⟨h1,h2,h3⟩:=h
 obtain ⟨e1,e2⟩:=Xu h2 h3
 refine ⟨wv n l,e1,e2,?_⟩
 rw [e2,Cl] at h1
 exact h1
theorem Ad.plus.own.known:Ad.plus.own.Kn:=by
 refine ⟨Ad.plus.meets (E:=EqRefA.Ad.plus.E) (A5 (.cons Ad.I4.known .nil) _ _ _) fun ats dvs he hp=>?_,Ad.plus.own.call⟩
 obtain ⟨a,_,_,rfl,rfl,he0⟩:=he.Ax9
 obtain ⟨b,_,_,rfl,rfl,he1⟩:=he0.Ax9
 obtain ⟨rfl,rfl⟩:=he1.Afi
 obtain ⟨ha,hb⟩:=Ag.1 (show (Ig a&&Ig b)=true from hp)
 refine ⟨max a.length b.length+2,.ints (.own 100005 tW) .u32 (Kb a b),[],?_,.keep _ _ _ _ (List.not_mem_nil)⟩
 rw [EqRefA.Ad.plus.ev]
 exact Ade _ ha hb (max a.length b.length+1) 0 0 _ (by omega) (by omega) (by omega) (by simp)
theorem Ae0 {x y c:Nat} (hx:x<4294967296) (hy:y<4294967296) (hc:c<4294967296):x*y+c<18446744073709551616:=by
 have:=A6h (show x≤4294967295 by omega) (show y≤4294967295 by omega)
 omega
theorem Ag7 (N:Nat) {a:List Int} {X:Nat} (ha:Ig a=true) (hX:X<4294967296):∀ (k i c F:Nat),i+k=a.length→k<F→c<4294967296 →
 B9 a / 2^(32*i)*X+c=B9 a*X / 2^(32*i) →
 Ad.single.L0 N F a (X:Int) (c:Int) (i:Int) (digits i (B9 a*X))=some (.ints (.own 38 tW) .u32 (singleL a (X:Int))):=by
 obtain ⟨la,ia⟩:=K1 ha
 intro k
 induction k with
 | zero =>
   intro i c F hi hF hc h
   obtain ⟨F,rfl⟩:∃ G,F=G+1:=⟨F-1,by omega⟩
   have t0:decide ((i:Int)<(a.length:Int))=false:=A5q (by omega)
   have t1:decide ((digits i (B9 a*X)).length+1≤Kg)=true:=A5m (by rw [Ec]; unfold Kg; omega)
   have hz:B9 a / 2^(32*i)=0:=Nat.div_eq_of_lt (by rw [show i=a.length by omega]; exact Ku ia)
   rw [hz,Nat.zero_mul,A6v] at h
   rw [Ad.single.Ax,Aw,t0,A5p,t1,A5l,Jg (by omega) (by omega)]
   unfold singleL
   rw [A5n,Kk,← show i=a.length by omega,← h,A5y hc]
 | succ k ih =>
   intro i c F hi hF hc h
   obtain ⟨F,rfl⟩:∃ G,F=G+1:=⟨F-1,by omega⟩
   have t0:decide ((i:Int)<(a.length:Int))=true:=A5m (by omega)
   have t2:decide ((0:Int)≤(i:Int))=true:=A5m (by omega)
   have t1:decide ((digits i (B9 a*X)).length+1≤Kg)=true:=A5m (by rw [Ec]; unfold Kg; omega)
   rw [Ad.single.Ax,Aw,t0,t1,t2]
   simp only [A5l,A5r]
   rw [A5n,O8 ia i]
   have ih:=ih (i+1)
   rw [Nb,A59 4294967296,← A6e,← A6e,Kk] at ih
   generalize B9 a / 2^(32*i)=x at *
   generalize B9 a*X / 2^(32*i)=z at *
   have hb:=Ae0 (x:=x%4294967296) (y:=X) (c:=c) (Nat.mod_lt _ (by decide)) hX hc
   have hm:x*X=x / 4294967296*X*4294967296+x%4294967296*X:=by
    rw [Nat.mul_right_comm,← A6p]
    congr 1
    omega
   have e1:Bc (Bc (Bc ((x%4294967296:Nat):Int)*Bc (X:Int))+(c:Int))=((x%4294967296*X+c:Nat):Int):=by
    rw [C5 (x:=((x%4294967296:Nat):Int)) (by omega) (by omega),C5 (x:=(X:Int)) (by omega) (by omega),← A56,C5 (x:=((x%4294967296*X:Nat):Int)) (by omega) (by omega),C5 (by omega) (by omega)]
    omega
   have hlt:(x%4294967296*X+c) / 4294967296<4294967296:=by omega
   rw [e1,Ah0,Jj,Jk,Jg (by omega) (by omega),C5 (by omega) (by omega),Ap (by omega) (by omega)]
   rw [hm] at h
   generalize x%4294967296*X=p at *
   generalize x / 4294967296*X=q at *
   have e2:(p+c)%4294967296=z%4294967296:=by omega
   rw [e2]
   exact ih ((p+c) / 4294967296) F (by omega) (by omega) hlt (by omega)
theorem Ad.single.known:Ad.single.Kn:=Ad.single.Ae .nil fun a x hp=>by
 obtain ⟨ha,hx⟩:=Ag.1 hp
 have hx:=As.1 hx
 obtain ⟨X,rfl⟩:∃ k:Nat,x=k:=⟨x.toNat,by omega⟩
 refine ⟨a.length+1,.ints (.own 38 tW) .u32 (singleL a X),[38],?_,Afc⟩
 rw [Ad.single.ev]
 exact Ag7 _ ha (by omega) a.length 0 0 _ (by omega) (by omega) (by omega) (by simp)
theorem Aab (a:List Int) (x:Int):Wa (singleL a x):=Nz _ _
theorem Rw (a:List Int) (x:Int):(singleL a x).length=a.length+1:=Ec _ _
theorem Ag8 {a:List Int} (ia:Wa a) {X:Nat} (hX:X<4294967296):B9 (singleL a (X:Int))=B9 a*X:=by
 have h:=Ku ia
 unfold singleL
 rw [J6,A5n,A5y]
 rw [Nb,A59 4294967296]
 exact Nat.mul_lt_mul'' h hX
theorem Asi (N:Nat) {n m:Bool} {a b:List Int} (ha:Wa a) (hb:Wa b) (la:a.length<33554432) (lb:b.length<33554432) :
 ∀ (j F:Nat) (p:List Int),j≤b.length→j<F→Wa p→p.length≤a.length+2*(b.length-j)→B9 p=B9 a*(B9 b / 2^(32*j)) →
 Ad.Mul.L0 N F n a m b ((j:Int)-1) p=some (.agg [.bool (Az (H3 (!(n==m)) (B9 a*B9 b))),.ints .arg .u32 (Ah (H3 (!(n==m)) (B9 a*B9 b)))]):=by
 intro j
 induction j with
 | zero =>
   intro F p hj hF ip lp vp
   obtain ⟨F,rfl⟩:∃ G,F=G+1:=⟨F-1,by omega⟩
   have o:Ig p=true:=K0 (by omega) ip
   rw [Nat.mul_zero,A6j,Nat.div_one] at vp
   rw [Ad.Mul.Ax,E3,A5q (by omega),A5p,o,A5l]
   unfold wv
   rw [vp]
 | succ j ih =>
   intro F p hj hF ip lp vp
   obtain ⟨F,rfl⟩:∃ G,F=G+1:=⟨F-1,by omega⟩
   have e0:((j+1:Nat):Int)-1=(j:Int):=by omega
   have hX:B9 b / 2^(32*j)%4294967296<4294967296:=Nat.mod_lt _ (by decide)
   have o1:Ig a=true:=K0 (by omega) ha
   have i0:Wa ([(0:Int)]++p):=Aib ip
   have o2:Ig ([(0:Int)]++p)=true:=K0 (by rw [A6d]; show 1+p.length<_; omega) i0
   have o3:Ig (singleL a ((B9 b / 2^(32*j)%4294967296:Nat):Int))=true:=K0 (by rw [Rw]; omega) (Aab _ _)
   have o4:As9 ((B9 b / 2^(32*j)%4294967296:Nat):Int)=true:=As.2 (by omega)
   have vz:B9 ([(0:Int)]++p)=4294967296*B9 p:=by
    show (0:Int).toNat+4294967296*B9 p=_
    rw [show (0:Int).toNat=0 from rfl,A6v]
   have c1:decide (1+p.length≤Kg)=true:=A5m (by unfold Kg; omega)
   have c2:decide ((j:Int)<(b.length:Int))=true:=A5m (by omega)
   have c3:decide ((0:Int)≤(j:Int))=true:=A5m (by omega)
   rw [e0,Ad.Mul.Ax,E3,c3,A5l,c1,A5l,c2,A5r,A5l,A5n,O8 hb j,o1,o4,A5r,A5l,o2,o3,A5r,A5l,Ap (by omega) (by omega)]
   refine ih F _ (by omega) (by omega) (Aaq _ _) ?_ ?_
   ·rw [Qp,A6d,Rw]
    show max (1+p.length) _+1≤_
    omega
   ·rw [Adf i0 (Aab _ _),vz,Ag8 ha hX,vp,Nb,A59 4294967296 (2^(32*j)),← A6e,Nat.mul_left_comm,← Nat.mul_add]
    congr 1
    omega
theorem Avw (s t:Bool) (x y:Nat):H3 (!(s==t)) (x*y)=H3 s x*H3 t y:=by
 unfold H3
 cases s<;>cases t<;>simp [A56,Int.neg_mul,Int.mul_neg]
theorem Ad.Mul.known:Ad.Mul.Kn:=Ad.Mul.Ae (.cons Ad.Made.known (.cons Ad.plus.own.known (.cons Ad.single.known .nil))) fun n a m b hp=>by
 obtain ⟨h1,h2⟩:=Ag.1 hp
 obtain ⟨v,rfl,rfl,hv⟩:=Ze h1
 obtain ⟨w,rfl,rfl,hw⟩:=Ze h2
 refine ⟨(Ah w).length+1,Ad.Mul.out [.b (Az v),.l (Ah v),.b (Az w),.l (Ah w)],[],?_,Aei⟩
 have lv:=Cl v
 have lw:=Cl w
 have iw:=Gr w
 have hz:B9 (Ah w) / 2^(32*(Ah w).length)=0:=Nat.div_eq_of_lt (Ku iw)
 rw [Ad.Mul.ev,Ap (by omega) (by omega)]
 refine (Asi _ (Gr v) iw (by omega) (by omega) (Ah w).length _ [] (A6f _) (by omega) (fun x h=>by cases h) (by show 0≤_; omega) (by rw [hz,Nat.mul_zero]; rfl)).trans ?_
 rw [Avw]
 rfl
theorem As1 (n m:Nat):Dk (n*m)≤Dk n+Dk m:=by
 refine Ma ?_
 rw [Nat.mul_add,A6a]
 exact Nat.mul_lt_mul'' (K6 n) (K6 m)
theorem Ai.Mul.known:Ai.Mul.Kn:=Ai.Mul.Ae (.cons Ad.Mul.known (.cons Ai.Of.known .nil)) fun n a e m b f hp=>by
 obtain ⟨h1,h2⟩:=Ag.1 hp
 obtain ⟨h3,h4⟩:=Ag.1 h2
 have he:=As.1 h3
 have hf:=As.1 h4
 obtain ⟨h5,h6⟩:=Ag.1 h1
 obtain ⟨v,rfl,rfl,hv⟩:=Ze h5
 obtain ⟨w,rfl,rfl,hw⟩:=Ze h6
 refine ⟨0,Ai.Mul.out [.b (Az v),.l (Ah v),.i e,.b (Az w),.l (Ah w),.i f],[],?_,wdy⟩
 have hl:=As1 v.natAbs w.natAbs
 have o1:Ks (Az (v*w)) (Ah (v*w))=true:=Ie (by rw [Int.natAbs_mul]; omega)
 have o2:Un (e+f)=true:=As.2 (by omega)
 rw [Ai.Mul.ev,h5,h6,A5r,A5l,Ap (by omega) (by omega)]
 simp only [Ff]
 rw [o1,o2,A5r,A5l]
 show _=some (DV.agg [.bool (Az (mD (wv (Az v) (Ah v)*wv (Az w) (Ah w)))),.ints .arg .u32 (Ah (mD (wv (Az v) (Ah v)*wv (Az w) (Ah w)))),.int .i64 (eD (wv (Az v) (Ah v)*wv (Az w) (Ah w)) (e+f))])
 rw [Ff,Ff]
open Go Go.Den Go.Cv Go.Proofs
open EqRef13 EqRef14
theorem Avx {c b i:Int} {l:List Int} {n j:Nat} (h:j<n):(By c l b i n).getD j 0=Co c l (i+(j:Int)) b:=by
 unfold By
 rw [A5v,A62,List.getElem?_range h]; rfl
section
variable {R C i k:Nat} {l v:List Int} {t:Int}
end
open Go Go.Den Go.Cv Go.Proofs
set_option maxRecDepth 100000
namespace EqLow
end EqLow
open Go Go.Den Go.Cv Go.Proofs
open EqLow
section
variable {n Q:Nat} {l m:List Int}
end
open Go Go.Den Go.Cv Go.Proofs
set_option maxRecDepth 100000
namespace EqLse
end EqLse
open Go Go.Den Go.Cv Go.Proofs
open EqLse
theorem Aw1 {r c:Int} {l:List Int} (al:Ak l=true):Ak (Ux r c l).2.2.1=true:=by
 unfold Ux
 split
 ·exact al
 ·exact Lc
theorem Ayl (r c:Int) (l:List Int) (p q:Int) (m:List Int):Ak (upX r c l p q m).2.2.1=true:=by
 unfold upX
 split
 ·exact Lc
 ·exact Aw1 (O7 fun i k=>Afu (Ai9 _ _ _ _ _) i)
theorem Ao4 (r c:Int) (l:List Int) (p q:Int) (m:List Int):Ak (A7 r c l p q m).2.2.1=true:=by
 unfold A7
 split
 ·exact Lc
 ·split
  ·exact Lc
  ·split
   ·exact Lc
   ·split
    ·exact Lc
    ·split
     ·exact Lc
     ·unfold Aql
      split
      ·exact Lc
      ·exact Ayl _ _ _ _ _ _
open Go Go.Den Go.Cv Go.Proofs
open EqMat EqOf
open Go Go.Den Go.Cv Go.Proofs
set_option maxRecDepth 100000
namespace EqRef20
end EqRef20
open Go Go.Den Go.Cv Go.Proofs
open EqOf EqRef20
open Go Go.Den Go.Cv Go.Proofs
open EqLse
section
variable {N:Nat} {r c p q a b u v:Int} {l m g h:List Int} {w one two done f y Q z:MX}
end
open Go Go.Den Go.Cv Go.Proofs
open EqRef14 EqLow
section
variable {n Q:Nat} {l m:List Int}
end
open Go Go.Den Go.Cv Go.Proofs
open EqRef20
open Go Go.Den Go.Cv Go.Proofs
theorem Ape {r c:Int} {l:List Int} (h:Da r c l=0):(Ok r c l).1=Afv r c l:=by
 unfold Ok
 rw [A57 (fun k=>k h)]
section
variable {R C K:Nat} {x y:MX}
end
end Go.Proofs.S1
namespace Go.Cv
open Go.Den
structure Good (x:Int):Prop where
 word:Ao x=true
 k3:Aj x.toNat≠3
 k4:Aj x.toNat≠4
 ne:x.toNat≠2^63
theorem Kt {x:Int} (h:Ao x=true):x.toNat<2^64:=by
 have:=As.1 h
 omega
end Go.Cv
namespace Go.Cv
open Go.Den
structure Fw (x:Int):Prop where
 word:Ao x=true
 fin:Dm x=true
end Go.Cv
namespace Go.Proofs.S1
open Go Go.Den Go.Cv Go.Proofs
theorem Aan {R C:Nat} {l:List Int} (hl:l.length=R*C) {I:Nat} (hI:I<R):Gt (C:Int) l (I:Int)=(List.range C).map fun k:Nat=>Co (C:Int) l (I:Int) (k:Int):=by
 have hlen:=Uh hl hI
 have e1:((I:Int)*(C:Int)).toNat=I*C:=by rw [← A56,A5n]
 have e2:(((I:Int)+1)*(C:Int)).toNat=(I+1)*C:=by
  have:((I:Int)+1)*(C:Int)=(((I+1)*C:Nat):Int):=by rw [A56]; rfl
  rw [this,A5n]
 refine V1 (by rw [hlen,A6r,A6o]) fun j hj=>?_
 rw [hlen] at hj
 have hp:=Ls hI hj
 have h1:(I+1)*C=I*C+C:=by rw [A6p,Nat.one_mul]
 rw [A62,List.getElem?_range hj]
 unfold Gt
 rw [List.getElem?_drop,e1,e2,List.getElem?_take,A58 (by omega)]
 show l[I*C+j]?=some (Co (C:Int) l (I:Int) (j:Int))
 rw [Zr,A5v,A52 (by omega)]
 rfl
end Go.Proofs.S1
namespace Go.Cv
open Go.Den
theorem Jv (s:Bool):vR (B3 s 0)=0:=by
 have e3:An (B3 s 0)=0:=by cases s<;>decide
 unfold vR
 rw [e3]
 have z:((0:Nat):Rat)=0:=rfl
 rw [z]; grind
theorem Rr {a:Nat} (h:Aj a=0):vR a=0:=by
 have h3:Aj a≠3:=by omega
 have h4:Aj a≠4:=by omega
 unfold vR
 rw [(Dc h3 h4).2 h]
 have z:((0:Nat):Rat)=0:=rfl
 rw [z]; grind
theorem Alz (S:Int):Ps (decide (S<0))*((S.natAbs:Nat):Rat)=(S:Rat):=by
 rw [← Ae5]
 congr 1
 unfold H3
 by_cases h:S<0
 ·rw [A58 (A5m h)]; omega
 ·rw [A57 (by rw [A5q h]; decide)]; omega
theorem Rz {s:Bool} {V:Nat} {E:Int} (h:Aj (B3 s (B1 V E))≠3):B1 V E<Eo:=by
 have:=Tc V E
 rcases A6i (B1 V E) Eo with g | g
 ·exact g
 ·exfalso
  have e:B1 V E=Eo:=by omega
  rw [e] at h
  exact h (As5 s)
theorem Auu {s:Bool} {V:Nat} {E:Int} {B:Rat} (h:Ab (Ps s*((V:Rat)*tw E)) B):(V:Rat)*tw E≤B:=(Ae6 (Pl V E)).1 h
theorem Ij {x B:Rat} (h:x≤B):uR*x≤uR*B:=Rat.mul_le_mul_of_nonneg_left h (Rat.le_of_lt Ey)
theorem Zu {a b:Nat} (a3:Aj a≠3) (a4:Aj a≠4) (b3:Aj b≠3) (b4:Aj b≠4) (hf:Aj (Fz a b).1≠3) {B:Rat} (hB:Ab (vR a+vR b) B):Nr (vR (Fz a b).1) (vR a+vR b) (uR*B):=by
 have pa:=Cq a
 have pb:=Cq b
 rw [Ss (by omega) a3 b3] at hf ⊢
 obtain ⟨m,hm⟩:∃ m,m=min (Av a) (Av b):=⟨_,rfl⟩
 have ea:=Aqe (a:=a) (g:=m) (by omega)
 have eb:=Aqe (a:=b) (g:=m) (by omega)
 rw [← hm] at hf ⊢
 generalize hS:E9 a m+E9 b m=S at hf ⊢
 have es:vR a+vR b=(S:Rat)*tw m:=by
  rw [← ea,← eb,← hS,Rat.intCast_add]; grind
 rw [es] at hB ⊢
 unfold Ky at hf ⊢
 by_cases h0:S=0
 ·rw [A58 h0]
  dsimp only
  rw [Jv,h0]
  have z:((0:Int):Rat)=0:=rfl
  have:=Rat.mul_nonneg (Rat.le_of_lt Ey) hB.nn
  rw [z]
  unfold Nr; grind
 ·rw [A57 h0] at hf ⊢
  dsimp only at hf ⊢
  have h:=(R3 (decide (S<0)) (Rz hf)).2.1 (by omega)
  rw [← Rat.mul_assoc (Ps _),Alz] at h
  refine h.mono (Ij (Auu (s:=decide (S<0)) ?_))
  rw [← Rat.mul_assoc,Alz]; exact hB
theorem Ti {a b:Nat} (a3:Aj a≠3) (a4:Aj a≠4) (b3:Aj b≠3) (b4:Aj b≠4) (hf:Aj (H7 a b).1≠3) {B:Rat} (hB:Ab (vR a*vR b) B):Nr (vR (H7 a b).1) (vR a*vR b) (uR*B+B7):=by
 unfold H7 at hf ⊢
 rw [A57 (by omega),A57 (by omega)] at hf ⊢
 dsimp only at hf ⊢
 have e:vR a*vR b=Ps (Br a !=Br b)*(((An a*An b:Nat):Rat)*tw (Av a+Av b)):=by
  unfold vR
  rw [Aly,Rat.natCast_mul,Ep]; grind
 rw [e] at hB ⊢
 refine (R3 _ (Rz hf)).1.mono ?_
 have:=Ij (Auu hB)
 grind
theorem Agt {b:Nat} (h:b<2^64):vR (D5 b)=-(vR b):=by
 obtain ⟨h1,h2,h3⟩:=Kf h
 unfold vR An Av
 rw [h1,h2,h3]
 unfold Ps
 cases Br b<;>simp<;>grind
theorem Va {a b:Nat} (hb:b<2^64) (a3:Aj a≠3) (a4:Aj a≠4) (b3:Aj b≠3) (b4:Aj b≠4) (hf:Aj (Z5 a b).1≠3) {B:Rat} (hB:Ab (vR a-vR b) B):Nr (vR (Z5 a b).1) (vR a-vR b) (uR*B):=by
 have k:=Ako b
 have e:vR a-vR b=vR a+vR (D5 b):=by rw [Agt hb]; grind
 rw [e] at hB ⊢
 exact Zu a3 a4 (by omega) (by omega) hf hB
theorem Ta {a:Nat} {n:Int} (a3:Aj a≠3) (a4:Aj a≠4) (hf:Aj (Cg a n).1≠3):Nr (vR (Cg a n).1) (vR a*tw n) B7:=by
 by_cases k0:Aj a=0
 ·have e:(Cg a n).1=a:=by unfold Cg; rw [A57 a4,A58 (.inr k0)]
  have he:=Ej
  rw [e,Rr k0]
  unfold Nr; grind
 ·rw [Iz a4 (by omega)] at hf ⊢
  dsimp only at hf ⊢
  have h:=(R3 (Br a) (Rz hf)).2.2 (Fi a)
  have e:vR a*tw n=Ps (Br a)*(((An a:Nat):Rat)*tw (Av a+n)):=by
   unfold vR
   rw [Ep]; grind
  rw [e]
  exact h
end Go.Cv
namespace Go.Cv
open Go.Den
theorem Anq {X Y K:Nat} (hY:0<Y):Fg X Y K*Y≤2*(X*2^K)+Y∧2*(X*2^K)≤Fg X Y K*Y+Y:=by
 have hd:=Nat.div_add_mod (X*2^K) Y
 have hm:=Nat.mod_lt (X*2^K) hY
 unfold Fg
 rw [A6p,A6c,A59 (X*2^K / Y)]
 split
 ·rw [Nat.zero_mul]; omega
 ·rw [Nat.one_mul]; omega
theorem Ct {m n:Nat} (h:m≤n):(m:Rat)≤(n:Rat):=Rat.natCast_le_natCast.2 h
theorem Anr {X Y:Nat} {e f:Int} {q:Rat} (hX:0<X) (hY:0<Y) (hY2:Y<2^53) (hq:q*((Y:Rat)*tw f)=(X:Rat)*tw e):Nr ((Fg X Y 120:Rat)*tw (e-f-121)) q (tw (-68)*q)∧0≤q:=by
 obtain ⟨h1,h2⟩:=Anq (X:=X) (K:=120) hY
 have g1:=Ct h1
 have g2:=Ct h2
 rw [Rat.natCast_add,Rat.natCast_mul,Rat.natCast_mul,Rat.natCast_mul] at g1
 rw [Rat.natCast_add,Rat.natCast_mul,Rat.natCast_mul,Rat.natCast_mul] at g2
 have t2:((2:Nat):Rat)=2:=rfl
 have t120:((2^120:Nat):Rat)=tw 120:=(Jb 120).symm
 rw [t2,t120] at g1 g2
 have pE:=Dp (e-f-121)
 have pf:=Dp f
 have yp:(0:Rat)<(Y:Rat):=by
  have:((0:Nat):Rat)<(Y:Rat):=Rat.natCast_lt_natCast.2 hY
  exact this
 have ypos:0<(Y:Rat)*tw f:=Rat.mul_pos yp pf
 have e1:2*tw 120*(tw (e-f-121)*tw f)=tw e:=by
  have:2*tw 120=tw 121:=(Y3 120).symm
  rw [this,← Ep,← Ep]; congr 1; omega
 have m1:=Rat.mul_le_mul_of_nonneg_right g1 (Rat.le_of_lt (Rat.mul_pos pE pf))
 have m2:=Rat.mul_le_mul_of_nonneg_right g2 (Rat.le_of_lt (Rat.mul_pos pE pf))
 generalize tw (e-f-121)=T at *
 generalize (Fg X Y 120:Rat)=S at *
 have s1:S*T*((Y:Rat)*tw f)≤(q+T)*((Y:Rat)*tw f):=by
  have:(q+T)*((Y:Rat)*tw f)=(X:Rat)*tw e+T*((Y:Rat)*tw f):=by rw [← hq]; grind
  rw [this,← e1]
  grind
 have s2:q*((Y:Rat)*tw f)≤(S*T+T)*((Y:Rat)*tw f):=by
  rw [hq,← e1]
  grind
 have k1:=Rat.le_of_mul_le_mul_right s1 ypos
 have k2:=Rat.le_of_mul_le_mul_right s2 ypos
 have hT:T≤tw (-68)*q:=by
  refine Rat.le_of_mul_le_mul_right (c:=(Y:Rat)*tw f) ?_ ypos
  have e3:tw (-68)*q*((Y:Rat)*tw f)=tw (-68)*((X:Rat)*tw e):=by rw [← hq]; grind
  have x1:(1:Rat)≤(X:Rat):=Ct (show 1≤X from hX)
  have y1:(Y:Rat)≤tw 53:=by
   have:=Ct (Nat.le_of_lt hY2)
   rw [← Jb] at this
   exact this
  have z1:=Rat.mul_le_mul_of_nonneg_left y1 (Rat.le_of_lt (Rat.mul_pos pE pf))
  have pe:=Dp e
  have z2:=Rat.mul_le_mul_of_nonneg_right x1 (Rat.le_of_lt (Rat.mul_pos (Dp (-68)) pe))
  have e4:T*tw f*tw 53=tw (-68)*tw e:=by
   rw [← e1]
   have:tw (-68)*(2*tw 120)=tw 53:=by
    rw [← Y3,← Ep]; rfl
   grind
  rw [e3]
  grind
 have hq0:0≤q:=by
  refine Rat.le_of_mul_le_mul_right (c:=(Y:Rat)*tw f) ?_ ypos
  rw [hq]
  have:=Pl X e
  grind
 refine ⟨?_,hq0⟩
 unfold Nr
 grind
theorem Ajo (s:Bool):Ps s*Ps s=1:=by cases s<;>decide +kernel
theorem Zo {a b:Nat} (a3:Aj a≠3) (a4:Aj a≠4) (b3:Aj b≠3) (b4:Aj b≠4) (b0:Aj b≠0) (hf:Aj (Rl a b).1≠3) {q B:Rat} (hq:q*vR b=vR a) (hB:Ab q B):Nr (vR (Rl a b).1) q (2*uR*B+B7):=by
 have hBn:=hB.nn
 have hu:=Ey
 have he:=Ej
 have bm:An b≠0:=fun h=>b0 ((Dc b3 b4).1 h)
 have yp:(0:Rat)<((An b:Nat):Rat):=by
  have:((0:Nat):Rat)<((An b:Nat):Rat):=Rat.natCast_lt_natCast.2 (by omega)
  exact this
 have ypos:0<((An b:Nat):Rat)*tw (Av b):=Rat.mul_pos yp (Dp _)
 have hub:=Rat.mul_nonneg (Rat.le_of_lt Ey) hBn
 have hq2:(Ps (Br a !=Br b)*q)*(((An b:Nat):Rat)*tw (Av b))=((An a:Nat):Rat)*tw (Av a):=by
  unfold vR at hq
  rw [Aly]
  have h1:=Ajo (Br a)
  generalize Ps (Br a)=sa at *
  generalize Ps (Br b)=sb at *
  grind
 by_cases k0:Aj a=0
 ·have ea:An a=0:=(Dc a3 a4).2 k0
  have z:((0:Nat):Rat)=0:=rfl
  rw [ea,z] at hq2
  have q0:q=0:=by
   have:(Ps (Br a !=Br b)*q)*(((An b:Nat):Rat)*tw (Av b))=0:=by rw [hq2]; grind
   have h1:Ps (Br a !=Br b)*q=0:=by
    rcases Rat.mul_eq_zero.1 this with h | h
    ·exact h
    ·grind
   have h2:=Ajo (Br a !=Br b)
   generalize Ps (Br a !=Br b)=sx at *
   grind
  have ed:(Rl a b).1=B3 (Br a !=Br b) 0:=by
   unfold Rl
   rw [A57 (by omega),A57 (by omega),A57 a3,A58 (.inr k0)]
  rw [ed,Jv,q0]
  unfold Nr
  grind
 ·have am:An a≠0:=fun h=>k0 ((Dc a3 a4).1 h)
  have ed:(Rl a b).1=B3 (Br a !=Br b) (B1 (Fg (An a) (An b) 120) (Av a-Av b-121)):=by
   unfold Rl
   rw [A57 (by omega),A57 (by omega),A57 a3,A57 (by omega),A57 b0]
  rw [ed] at hf ⊢
  obtain ⟨h1,h2⟩:=Anr (X:=An a) (Y:=An b) (by omega) (by omega) (Fi b) hq2
  have h3:=(R3 (Br a !=Br b) (Rz hf)).1
  have h4:=Arf (s:=Br a !=Br b) h1
  have sq:Ps (Br a !=Br b)*(Ps (Br a !=Br b)*q)=q:=by
   have h2:=Ajo (Br a !=Br b)
   generalize Ps (Br a !=Br b)=sx at *
   grind
  rw [sq] at h4
  have hB2:Ps (Br a !=Br b)*q≤B:=by
   unfold Ab at hB
   unfold Ps
   cases (Br a !=Br b)
   ·have e:(if false=true then (-1:Rat) else 1)=1:=rfl
    rw [e]; grind
   ·have e:(if true=true then (-1:Rat) else 1)=-1:=rfl
    rw [e]; grind
  generalize Ps (Br a !=Br b)*q=p at *
  generalize ((Fg (An a) (An b) 120:Nat):Rat)*tw (Av a-Av b-121)=W at *
  refine (h3.trans h4).mono ?_
  have t68:tw (-68)=uR*tw (-15):=by unfold uR; rw [← Ep]; rfl
  have t15:tw (-15)≤1 / 4:=by decide +kernel
  have t0:=Rat.le_of_lt (Dp (-15))
  have n1:W≤2*p:=by
   have:=h1.1
   have m:=Rat.mul_le_mul_of_nonneg_right t15 h2
   have:tw (-68)*p≤p:=by
    have u1:tw (-68)≤1:=by decide +kernel
    have:=Rat.mul_le_mul_of_nonneg_right u1 h2
    grind
   grind
  have n2:tw (-68)*p≤1 / 4*(uR*p):=by
   have m:=Rat.mul_le_mul_of_nonneg_right t15 (Rat.mul_nonneg (Rat.le_of_lt hu) h2)
   rw [t68]; grind
  have n3:=h1.1
  have n4:W≤p+tw (-68)*p:=n3
  have n5:tw (-68)≤1 / 4:=by decide +kernel
  have n6:tw (-68)*p≤1 / 4*p:=Rat.mul_le_mul_of_nonneg_right n5 h2
  have n7:uR*W≤uR*(5 / 4*p):=Ij (by grind)
  have n8:uR*p≤uR*B:=Ij hB2
  grind
end Go.Cv
namespace Go.Cv
open Go.Den
theorem Ajg {n:Nat} (h:2^53≤Lj n):(Ek n*Ek n)*2^52≤4*n*2^52+4*n∧4*n*2^52≤(Ek n*Ek n)*2^52+4*n:=by
 obtain ⟨h1,h2⟩:=Mo n
 unfold Ek
 split
 ·rename_i e
  have:(2*Lj n+0)*(2*Lj n+0)=4*n:=by
   rw [A6t,Nat.mul_mul_mul_comm,e]
  rw [this]; omega
 ·have e1:(2*Lj n+1)*(2*Lj n+1)=4*(Lj n*Lj n)+4*Lj n+1:=by
   simp only [A6p,Nat.mul_add,Nat.one_mul,A6u,Nat.mul_mul_mul_comm]; omega
  have e2:(Lj n+1)*(Lj n+1)=Lj n*Lj n+2*Lj n+1:=by
   simp only [A6p,Nat.mul_add,Nat.one_mul,A6u]; omega
  rw [e2] at h2
  rw [e1]
  have h3:Lj n*2^53≤Lj n*Lj n:=Nat.mul_le_mul_left _ h
  generalize Lj n*Lj n=I at *
  generalize Lj n=i at *
  omega
theorem O0 {x y:Rat} (h:0≤x) (g:x≤y):x*x≤y*y:=by
 have h1:=Rat.mul_le_mul_of_nonneg_left g h
 have h2:=Rat.mul_le_mul_of_nonneg_right g (Rat.le_trans h g)
 grind
theorem Aq9 {b:Nat} (b3:Aj b≠3) (b4:Aj b≠4) (hn:Br b=false∨Aj b=0) (hf:Aj (Hg b).1≠3):Nr (vR (Hg b).1*vR (Hg b).1) (vR b) (8*uR*vR b)∧0≤vR (Hg b).1∧0≤vR b:=by
 by_cases k0:Aj b=0
 ·rw [Nu b4 (.inl k0),Rr k0]
  unfold Nr; grind
 have hn:Br b=false:=hn.elim id fun h=>absurd h k0
 have m0:An b≠0:=fun e=>k0 ((Dc b3 b4).1 e)
 have hi:b≠Eo:=fun e=>b3 (by rw [e]; exact Aia)
 have pe:=Cq b
 rw [Vd b4 (fun h=>h.elim k0 hi) hn] at hf ⊢
 dsimp only at hf ⊢
 obtain ⟨r1,r2⟩:=Vm m0
 have hrk:Fh b≤129:=by unfold Fh; omega
 generalize hr:(Av b-(Fh b:Int)) / 2-1=r at r2 hf ⊢
 have hq:2^53≤Lj (An b*2^Fh b):=V8 (t:=53) r1
 obtain ⟨s1,s2⟩:=Ajg hq
 have hs:2^54≤Ek (An b*2^Fh b):=by unfold Ek; omega
 have hf':Aj (B3 false (B1 (Ek (An b*2^Fh b)) r))≠3:=by rw [H5]; exact hf
 have h1:=(R3 false (Rz hf')).1
 rw [H5] at h1
 have sg:Ps false=1:=rfl
 rw [sg,Rat.one_mul] at h1
 have eb:vR b=((An b*2^Fh b:Nat):Rat)*(tw 2*(tw r*tw r)):=by
  have e:=Rs (An b) (Fh b) (Av b)
  unfold vR
  rw [hn]
  have e2:tw 2*(tw r*tw r)=tw (Av b-(Fh b:Int)):=by rw [← Ep,← Ep]; congr 1; omega
  rw [e2,e,sg]; grind
 generalize An b*2^Fh b=n at *
 generalize Ek n=s at *
 have g1:=Ct s1
 have g2:=Ct s2
 simp only [Rat.natCast_add,Rat.natCast_mul] at g1 g2
 have t4:((4:Nat):Rat)=tw 2:=by decide +kernel
 have t52:((2^52:Nat):Rat)=tw 52:=(Jb 52).symm
 rw [t4,t52] at g1 g2
 have hs':=Ct hs
 have t54:((2^54:Nat):Rat)=tw 54:=(Jb 54).symm
 rw [t54] at hs'
 have pr:=Dp r
 have prr:=Rat.mul_pos pr pr
 have m1:=Rat.mul_le_mul_of_nonneg_right g1 (Rat.le_of_lt prr)
 have m2:=Rat.mul_le_mul_of_nonneg_right g2 (Rat.le_of_lt prr)
 have hS1:tw 54*tw r≤(s:Rat)*tw r:=Rat.mul_le_mul_of_nonneg_right hs' (Rat.le_of_lt pr)
 generalize hS:(s:Rat)*tw r=S at *
 have q1:S*S*tw 52≤vR b*tw 52+vR b:=by rw [eb,← hS]; grind
 have q2:vR b*tw 52≤S*S*tw 52+vR b:=by rw [eb,← hS]; grind
 have hb0:0≤vR b:=by
  rw [eb]
  exact Rat.mul_nonneg (Lt n) (Rat.le_of_lt (Rat.mul_pos (Dp 2) prr))
 have eta1:B7≤uR*S:=by
  have z1:tw (-657)≤tw r:=Acu (by omega)
  have z2:B7≤uR*(tw 54*tw (-657)):=by decide +kernel
  have z3:tw 54*tw (-657)≤tw 54*tw r:=Rat.mul_le_mul_of_nonneg_left z1 (Rat.le_of_lt (Dp 54))
  have z4:=Ij (Rat.le_trans z3 hS1)
  grind
 have hS0:0≤S:=by
  have:=Rat.mul_pos (Dp 54) pr
  grind
 generalize vR b=B at *
 generalize vR (B1 s r)=R at *
 have h2:Nr R S (2*uR*S):=h1.mono (by grind)
 have cu:2*uR*tw 52=1:=by decide +kernel
 have u0:=Ey
 have p1:=Rat.mul_le_mul_of_nonneg_right q1 (show 0≤2*uR by grind)
 have p2:=Rat.mul_le_mul_of_nonneg_right q2 (show 0≤2*uR by grind)
 have k1:S*S*tw 52*(2*uR)=S*S:=by grind
 have k2:(B*tw 52+B)*(2*uR)=(1+2*uR)*B:=by grind
 have k3:B*tw 52*(2*uR)=B:=by grind
 have k4:(S*S*tw 52+B)*(2*uR)=S*S+2*uR*B:=by grind
 rw [k1,k2] at p1
 rw [k3,k4] at p2
 have e1:S*S≤(1+2*uR)*B:=p1
 have e2:(1-2*uR)*B≤S*S:=by grind
 have hu1:0≤1-2*uR:=by decide +kernel
 have a1:R≤(1+2*uR)*S:=by have:=h2.1; grind
 have a2:(1-2*uR)*S≤R:=by have:=h2.2; grind
 have a0:=Rat.mul_nonneg hu1 hS0
 have hR0:0≤R:=Rat.le_trans a0 a2
 have b1:R*R≤(1+2*uR)*S*((1+2*uR)*S):=O0 hR0 a1
 have b2:(1-2*uR)*S*((1-2*uR)*S)≤R*R:=O0 a0 a2
 have c1:=Rat.mul_le_mul_of_nonneg_left e1 (show 0≤(1+2*uR)*(1+2*uR) by decide +kernel)
 have c2:=Rat.mul_le_mul_of_nonneg_left e2 (show 0≤(1-2*uR)*(1-2*uR) by decide +kernel)
 have d1:(1+2*uR)*(1+2*uR)*(1+2*uR)≤1+8*uR:=by decide +kernel
 have d2:1-8*uR≤(1-2*uR)*(1-2*uR)*(1-2*uR):=by decide +kernel
 have f1:=Rat.mul_le_mul_of_nonneg_right d1 hb0
 have f2:=Rat.mul_le_mul_of_nonneg_right d2 hb0
 refine ⟨?_,hR0,hb0⟩
 generalize uR=u at *
 unfold Nr
 grind
end Go.Cv
namespace Go.Cv
def sm:Nat→(Nat→Rat)→Rat
 | 0,_=>0
 | n+1,f=>sm n f+f n
theorem Bk {f g:Nat→Rat}:∀ n,(∀ i,i<n→f i=g i)→sm n f=sm n g
 | 0,_=>rfl
 | n+1,h=>by
   unfold sm
   rw [Bk n fun i hi=>h i (by omega),h n (by omega)]
theorem Ha (f g:Nat→Rat):∀ n,sm n (fun i=>f i+g i)=sm n f+sm n g
 | 0=>by unfold sm; grind
 | n+1=>by
   unfold sm
   rw [Ha f g n]; grind
theorem F7 (c:Rat) (f:Nat→Rat):∀ n,sm n (fun i=>c*f i)=c*sm n f
 | 0=>by unfold sm; grind
 | n+1=>by
   unfold sm
   rw [F7 c f n]; grind
theorem Rv {f g:Nat→Rat}:∀ n,(∀ i,i<n→f i≤g i)→sm n f≤sm n g
 | 0,_=>Rat.le_refl
 | n+1,h=>by
   unfold sm
   have h1:=Rv n fun i hi=>h i (by omega)
   have h2:=h n (by omega)
   grind
theorem Px {f:Nat→Rat}:∀ n,(∀ i,i<n→0≤f i)→0≤sm n f
 | 0,_=>Rat.le_refl
 | n+1,h=>by
   unfold sm
   have h1:=Px n fun i hi=>h i (by omega)
   have h2:=h n (by omega)
   grind
theorem Iy (n:Nat):sm n (fun _=>0)=0:=by
 induction n with
 | zero=>rfl
 | succ n ih=>unfold sm; rw [ih]; grind
theorem Ajj {n:Nat} {f:Nat→Rat} {k:Nat} (hk:k<n) (h:∀ i,i<n→i≠k→f i=0):sm n f=f k:=by
 induction n with
 | zero=>omega
 | succ n ih =>
   unfold sm
   by_cases e:k=n
   ·subst e
    rw [Bk k (g:=fun _=>0) fun i hi=>h i (by omega) (by omega),Iy]; grind
   ·rw [ih (by omega) fun i hi=>h i (by omega),h n (by omega) (by omega)]; grind
theorem Bw (x:Rat):0≤x*x:=by
 rcases (Rat.le_total:(0:Rat)≤x∨x≤0) with h | h
 ·exact Rat.mul_nonneg h h
 ·have:=Rat.mul_nonneg (show 0≤-x by grind) (show 0≤-x by grind)
  grind
theorem Oh {x y:Rat} (hy:0≤y) (h:x*x≤y*y):x≤y:=by
 rcases (Rat.le_total:x≤y∨y≤x) with g | g
 ·exact g
 ·have h1:=O0 hy g
  have e:x*x=y*y:=by grind
  have z:(x-y)*(x+y)=0:=by grind
  rcases Rat.mul_eq_zero.1 z with k | k
  ·grind
  ·grind
theorem Ai2 {x y:Rat} (hy:0≤y) (h:x*x≤y*y):Ab x y:=by
 have h1:=Oh hy h
 have h2:=Oh (x:=-x) hy (by grind)
 unfold Ab; grind
def sq (n:Nat) (f:Nat→Rat):Rat:=sm n fun i=>f i*f i
theorem Mc (n:Nat) (f:Nat→Rat):0≤sq n f:=Px n fun i _=>Bw (f i)
theorem cs (f g:Nat→Rat):∀ n,sm n (fun i=>f i*g i)*sm n (fun i=>f i*g i)≤sq n f*sq n g
 | 0=>by unfold sq sm; grind
 | n+1=>by
   have ih:=cs f g n
   have hF:=Mc n f
   have hG:=Mc n g
   unfold sq sm
   dsimp only
   unfold sq at ih hF hG
   generalize sm n (fun i=>f i*g i)=A at *
   generalize sm n (fun i=>f i*f i)=F at *
   generalize sm n (fun i=>g i*g i)=G at *
   generalize f n=a
   generalize g n=b
   have hP:=Rat.mul_nonneg hF (Bw b)
   have hQ:=Rat.mul_nonneg hG (Bw a)
   have hX:A*a*b*(A*a*b)≤F*(b*b)*(G*(a*a)):=by
    have:=Rat.mul_le_mul_of_nonneg_right ih (Rat.mul_nonneg (Bw a) (Bw b))
    grind
   have hd:=Bw (F*(b*b)-G*(a*a))
   have k:2*(A*a*b)≤F*(b*b)+G*(a*a):=Oh (by grind) (by grind)
   grind
def Ln (n:Nat) (f:Nat→Rat) (s:Rat):Prop:=0≤s∧sq n f≤s*s
theorem Ln.mono {n:Nat} {f:Nat→Rat} {s t:Rat} (h:Ln n f s) (g:s≤t):Ln n f t:=⟨Rat.le_trans h.1 g,Rat.le_trans h.2 (O0 h.1 g)⟩
theorem D3 {a b c d:Rat} (h1:a≤b) (h2:c≤d) (hb:0≤b) (hc:0≤c):a*c≤b*d:=by
 have g1:=Rat.mul_le_mul_of_nonneg_right h1 hc
 have g2:=Rat.mul_le_mul_of_nonneg_left h2 hb
 grind
theorem Ln.dot {n:Nat} {f g:Nat→Rat} {s t:Rat} (h:Ln n f s) (k:Ln n g t):Ab (sm n fun i=>f i*g i) (s*t):=by
 refine Ai2 (Rat.mul_nonneg h.1 k.1) ?_
 have h1:=cs f g n
 have h2:=D3 h.2 k.2 (Bw s) (Mc n g)
 grind
theorem Ln.congr {n:Nat} {f g:Nat→Rat} {s:Rat} (h:Ln n f s) (e:∀ i,i<n→g i=f i):Ln n g s:=by
 refine ⟨h.1,?_⟩
 have:sq n g=sq n f:=Bk n fun i hi=>by rw [e i hi]
 rw [this]; exact h.2
theorem Ln.add {n:Nat} {f g:Nat→Rat} {s t:Rat} (h:Ln n f s) (k:Ln n g t):Ln n (fun i=>f i+g i) (s+t):=by
 have h0:=h.1
 have k0:=k.1
 refine ⟨by grind,?_⟩
 have e:sq n (fun i=>f i+g i)=sq n f+(2*sm n (fun i=>f i*g i)+sq n g):=by
  unfold sq
  rw [← F7,← Ha,← Ha]
  exact Bk n fun i _=>by grind
 have d:=(h.dot k).2
 have h2:=h.2
 have k2:=k.2
 rw [e]
 grind
theorem Ln.scale {n:Nat} {f:Nat→Rat} {s c B:Rat} (h:Ln n f s) (hc:Ab c B):Ln n (fun i=>c*f i) (B*s):=by
 have hB:=hc.nn
 refine ⟨Rat.mul_nonneg hB h.1,?_⟩
 have e:sq n (fun i=>c*f i)=c*c*sq n f:=by
  unfold sq
  rw [← F7]
  exact Bk n fun i _=>by grind
 have c2:c*c≤B*B:=by
  unfold Ab at hc
  rcases (Rat.le_total:(0:Rat)≤c∨c≤0) with g | g
  ·exact O0 g hc.2
  ·have:=O0 (x:=-c) (y:=B) (by grind) (by grind)
   grind
 have:=D3 c2 h.2 (Bw B) (Mc n f)
 rw [e]
 grind
theorem Ln.neg {n:Nat} {f:Nat→Rat} {s:Rat} (h:Ln n f s):Ln n (fun i=>-f i) s:=by
 refine ⟨h.1,?_⟩
 have e:sq n (fun i=>-f i)=sq n f:=Bk n fun i _=>by grind
 rw [e]; exact h.2
theorem Ln.sub {n:Nat} {f g:Nat→Rat} {s t:Rat} (h:Ln n f s) (k:Ln n g t):Ln n (fun i=>f i-g i) (s+t) :=
 (h.add k.neg).congr fun i _=>by grind
theorem Y6 {n k:Nat} {f:Nat→Rat} (hk:k<n) (h:∀ i,i<n→0≤f i):f k≤sm n f:=by
 induction n with
 | zero=>omega
 | succ n ih =>
   unfold sm
   by_cases e:k=n
   ·subst e
    have:=Px k fun i hi=>h i (by omega)
    grind
   ·have h1:=ih (by omega) fun i hi=>h i (by omega)
    have h2:=h n (by omega)
    grind
theorem Ln.at {n k:Nat} {f:Nat→Rat} {s:Rat} (h:Ln n f s) (hk:k<n):Ab (f k) s:=by
 refine Ai2 h.1 (Rat.le_trans ?_ h.2)
 exact Y6 (f:=fun i=>f i*f i) hk fun i _=>Bw (f i)
theorem Ln.zero (n:Nat):Ln n (fun _=>0) 0:=by
 refine ⟨Rat.le_refl,?_⟩
 have:sq n (fun _=>0)=0:=by
  unfold sq
  have:=Iy n
  rw [← this]
  exact Bk n fun i _=>by grind
 rw [this]; grind
theorem N9 (n:Nat) (c:Rat):sm n (fun _=>c)=(n:Rat)*c:=by
 induction n with
 | zero =>
   have z:((0:Nat):Rat)=0:=rfl
   rw [z]; unfold sm; grind
 | succ n ih =>
   have e:((n+1:Nat):Rat)=(n:Rat)+1:=Rat.natCast_add n 1
   unfold sm
   rw [ih,e]; grind
theorem Ln.M3 {n:Nat} {f:Nat→Rat} {B:Rat} (hB:0≤B) (h:∀ i,i<n→Ab (f i) B) (h9:n≤9):Ln n f (3*B):=by
 refine ⟨by grind,?_⟩
 have h1:sq n f≤sm n (fun _=>B*B):=Rv n fun i hi=>by
  have:=h i hi
  unfold Ab at this
  rcases (Rat.le_total:(0:Rat)≤f i∨f i≤0) with g | g
  ·exact O0 g this.2
  ·have:=O0 (x:=-f i) (y:=B) (by grind) (by grind)
   grind
 rw [N9] at h1
 have h2:(n:Rat)≤9:=Ct h9
 have:=Rat.mul_le_mul_of_nonneg_right h2 (Bw B)
 grind
end Go.Cv
namespace Go.Cv
open Go.Den
theorem Yd:∀ {l:List Int},Fx l≠true→∃ x∈l,A3 x≠0
 | [],h=>absurd rfl h
 | x::l,h=>by
   by_cases k:A3 x=0
   ·have:Fx l≠true:=fun e=>h (by unfold Fx at e ⊢; rw [List.all_cons,e,A5m k]; rfl)
    obtain ⟨y,hy,g⟩:=Yd this
    exact ⟨y,A6q _ hy,g⟩
   ·exact ⟨x,A60,k⟩
theorem Atl {b:Nat} (h:b<Eo):Aj b≠3∧Aj b≠4∧b%2^63=b:=by
 have hi:=Fc
 have h3:b%2^63=b:=by omega
 have hr:=Qn b
 have hf:=Mq b
 rcases J4 b with ⟨p,_,_⟩ | ⟨p,_,_⟩ | ⟨_,p,q⟩
 ·exfalso; rw [p] at hr; omega
 ·exfalso; rw [p] at hr; omega
 ·exact ⟨p,q,h3⟩
theorem Zq:∀ (l:List Int) (m:Nat),(∀ z∈l,Dm z=true)→m<Eo→M8 l m<Eo
 | [],_,_,h=>h
 | z::l,m,hl,hm=>by
   have zk:=Iu (show H0 z.toNat=true from hl z A60)
   rw [Ab5 zk.1]
   refine Zq l _ (fun w hw=>hl w (A6q _ hw)) ?_
   have hz:Dn z.toNat<Eo:=V7 zk.2 zk.1
   omega
theorem K8 {l:List Int} (h:Fm l=true):∀ z∈l,Dm z=true:=List.all_eq_true.1 h
theorem Wq {x:List Int} (hf:Fm x=true):Aj (A9 x).toNat≠3∧Aj (A9 x).toNat≠4∧Dn (A9 x).toNat=(A9 x).toNat∧∀ z∈x,Dn z.toNat≤Dn (A9 x).toNat:=by
 have eb:(A9 x).toNat=M8 x 0:=A5n _
 have hl:=Zq x 0 (K8 hf) (by rw [Fc]; omega)
 obtain ⟨h1,h2,h3⟩:=Atl hl
 have hN:M8 x 0≠Sw:=fun e=>by rw [e,Fc,Je] at hl; omega
 rw [eb]
 refine ⟨h1,h2,h3,fun z hz=>?_⟩
 show _≤M8 x 0%2^63
 rw [h3]
 rcases Alb x 0 with g | ⟨_,g⟩
 ·exact absurd g hN
 ·exact g z hz
theorem Wp {x:List Int} (hf:Fm x=true) (h:∃ z∈x,A3 z≠0):∃ z∈x,Aj z.toNat≠0∧(A9 x).toNat=Dn z.toNat:=by
 have eb:(A9 x).toNat=M8 x 0:=A5n _
 have hl:=Zq x 0 (K8 hf) (by rw [Fc]; omega)
 rcases Aug h with e | ⟨z,hz,_,k0,e⟩
 ·exfalso; rw [e,Fc,Je] at hl; omega
 ·exact ⟨z,hz,k0,eb.trans e⟩
theorem Bl.Nc {k:Nat} {l:List Int} (h:Bl k l):Fm l=true:=List.all_eq_true.2 fun x hx=>(h x hx).fin
theorem Rh {x:Int} (h:Dm x=true):Aj x.toNat≠3∧Aj x.toNat≠4:=⟨(Iu (show H0 x.toNat=true from h)).2,(Iu (show H0 x.toNat=true from h)).1⟩
theorem Dr (x n:Int):(Cc x n).toNat=(Cg x.toNat n).1:=A5n _
theorem Rx {x:List Int} (hf:Fm x=true):Bl 1 (Bg x (-Bj (A9 x))):=fun y hy=>by
 obtain ⟨z,hz,rfl⟩:=List.mem_map.1 hy
 obtain ⟨b3,b4,_,hb⟩:=Wq hf
 have zk:=Rh (K8 hf z hz)
 rw [Dr]
 exact Bd.down zk.1 zk.2 b3 b4 (hb z hz)
theorem Ac5 {x:List Int} (hf:Fm x=true) (h:∃ z∈x,A3 z≠0):∃ y∈Bg x (-Bj (A9 x)),pw 0≤y.toNat%2^63:=by
 obtain ⟨z,hz,k0,e⟩:=Wp hf h
 have zk:=Rh (K8 hf z hz)
 refine ⟨Cc z (-Bj (A9 x)),List.mem_map.2 ⟨z,hz,rfl⟩,?_⟩
 have ee:Bj (A9 x)=Eu z.toNat:=by unfold Bj; rw [e,Wg z.toNat]; rfl
 rw [Dr,ee]
 exact Ug zk.1 zk.2 k0
theorem Aji {k:Int} (hk:k≤0):∀ (l:List Int) (s t:Nat),Bl 1 l→Bm t 2 s→0<t→t+l.length≤1000→Bm (t+l.length) 2 (Ph k (s:Int) l).toNat
 | [],s,t,_,hs,_,_=>by
   show Bm t 2 (toNat (s:Int))
   rw [A5n]; exact hs
 | x::l,s,t,hl,hs,h0,ht=>by
   simp only [List.length_cons] at ht ⊢
   have h1:Bd 1 (Cg x.toNat k).1:=Bd.scale (by decide) (hl x A60) (by omega)
   have h2:Bd 2 (H7 (Cg x.toNat k).1 (Cg x.toNat k).1).1:=Bd.mul (j:=1) (k:=1) (by decide) h1 h1
   have h3:=Bm.add (k:=2) (by omega) (by omega) (by decide) hs h2.bm
   have:=Aji hk l _ (t+1) (fun z hz=>hl z (A6q _ hz)) h3 (by omega) (by omega)
   rw [show t+(l.length+1)=t+1+l.length by omega]
   unfold Ph Le Em
   rw [Dr,A5n,A5n]
   exact this
theorem Amd {y:List Int} (hy:Bl 1 y) (hl:y.length≤7) (h:∃ z∈y,pw 0≤z.toNat%2^63):Bd 4 (Dh y).toNat∧Big (Dh y).toNat:=by
 have hf:=hy.Nc
 have h0:∃ z∈y,A3 z≠0:=by
  obtain ⟨z,hz,g⟩:=h
  refine ⟨z,hz,fun k=>?_⟩
  have:=Ia (b:=z.toNat) (by unfold A3 at k; omega)
  rw [Afb] at g; omega
 obtain ⟨b3,b4,ba,hb⟩:=Wq hf
 have hB:pw 0≤Dn (A9 y).toNat:=by
  obtain ⟨z,hz,g⟩:=h
  exact A6s g (hb z hz)
 obtain ⟨w,hw,w0,we⟩:=Wp hf h0
 have wk:=Rh (K8 hf w hw)
 have ee:Bj (A9 y)=Eu w.toNat:=by unfold Bj; rw [we,Wg w.toNat]; rfl
 obtain ⟨x1,_⟩:=Tr wk.1 wk.2 w0
 have wm:An w.toNat≠0:=fun e=>w0 ((Dc wk.1 wk.2).1 e)
 have u1:=(hy w hw).log wm
 have u2:=(Lo.Aau (a:=w.toNat) wk.1 wk.2 (by
  rw [we] at hB
  show pw 0≤Dn w.toNat
  unfold Dn at hB ⊢; omega)).log
 have e0:0≤Eu w.toNat∧Eu w.toNat≤1:=by omega
 unfold Dh
 rw [A57 (fun k=>by
  rcases k with k | k
  ·rw [k] at hB; rw [Afb] at hB; revert hB; decide
  ·unfold Dm at k; rw [Kh] at k; simp [b3,b4] at k)]
 rw [ee]
 obtain ⟨t,te,t1,t2⟩:=Ajh (-Eu w.toNat) y 0 (Nat.zero_le _)
 have tb:=t2 (.inr ⟨w,hw,by rw [Dr]; exact Ug wk.1 wk.2 w0⟩)
 have te:Ph (-Eu w.toNat) 0 y=t:=te
 have bm:=Aji (k:=-Eu w.toNat) (by omega) y 0 1 hy (Bd.zero false 2).bm (by decide) (by omega)
 have bm:Bm (1+y.length) 2 (Ph (-Eu w.toNat) 0 y).toNat:=bm
 rw [te,A5n] at bm
 rw [te]
 have bt:Bd (3+3) t:=(bm.bd (j:=3) (by omega)).mono (by decide)
 have br:Bd 3 (Hg t).1:=Bd.root (by decide) bt (M6 tb.2)
 have rb:=Arp tb
 rw [Dr]
 unfold Hx
 rw [A5n,A5n]
 refine ⟨Bd.scale (by decide) br (by omega),?_⟩
 have k0:Aj (Hg t).1≠0:=fun e=>by
  have:=Ia e
  have h1:=rb.1; have h2:=rb.2
  rw [Je] at h2; rw [Afb] at h1; omega
 rw [Iz br.2.1 (by have:=br.1; omega),M6 rb.2,H5]
 have hm:(Hg t).1%2^63=(Hg t).1:=by have:=rb.2; rw [Je] at this; omega
 obtain ⟨p1,p2⟩:=Qg (z:=(Hg t).1) (by rw [hm]; exact rb.1)
 exact ⟨Mj (a:=52) p1 (by omega),Qv _ _⟩
theorem Adn {x:List Int} (hf:Fm x=true) (hl:x.length≤7) (h:∃ z∈x,A3 z≠0):Bd 4 (Pj x).toNat∧Lo 0 (Pj x).toNat∧pw 0≤Dn (Pj x).toNat∧Br (D5 (Pj x).toNat)=Ea (O6 x):=by
 obtain ⟨n1,n2⟩:=Amd (Rx hf) (by unfold Bg; rw [A6r]; exact hl) (Ac5 hf h)
 have nl:(Dh (Bg x (-Bj (A9 x)))).toNat<2^63:=by have:=n2.2; rw [Je] at this; omega
 have na:pw 0≤Dn (Dh (Bg x (-Bj (A9 x)))).toNat:=by
  unfold Dn; rw [A5y nl]; exact n2.1
 unfold Pj
 split
 ·rename_i hn
  refine ⟨n1,.Aau n1.1 n1.2.1 na,na,?_⟩
  rw [(Kf (by omega)).1,M6 n2.2,hn]; rfl
 ·rename_i hn
  have eq:(D6 (Dh (Bg x (-Bj (A9 x))))).toNat=D5 (Dh (Bg x (-Bj (A9 x)))).toNat:=A5n _
  rw [eq]
  have hb:=Aa3 (by omega) n1
  have ha:pw 0≤Dn (D5 (Dh (Bg x (-Bj (A9 x)))).toNat):=by
   unfold Dn at na ⊢; rw [Ur nl]; omega
  refine ⟨hb,.Aau hb.1 hb.2.1 ha,ha,?_⟩
  rw [(Kf (Akb (by omega))).1,(Kf (by omega)).1,M6 n2.2]
  cases hh:Ea (O6 x)
  ·rfl
  ·exact absurd hh hn
theorem Axz {a b:Nat} (a3:Aj a≠3) (a4:Aj a≠4) (b3:Aj b≠3) (b4:Aj b≠4) (hs:Br a=Br b∨An a=0) (h:pw 0≤Dn b):pw 0≤Dn (Fz a b).1:=by
 have pa:=Cq a
 have pb:=Cq b
 have ek:=Zt a3 a4 b3 b4 (g:=-1074) (by omega)
 have hS:Fb b (-1074)≤(E9 a (-1074)+E9 b (-1074)).natAbs:=by
  unfold Fb E9
  rcases hs with hs | hs
  ·rw [hs]; unfold H3; split<;>omega
  ·rw [hs,Nat.zero_mul]; unfold H3; split<;>split<;>omega
 have hr:=F5 (E:=-1074) hS
 rw [Ml b4 (by omega)] at hr
 have hn:(It (Fz a b).1).natAbs=Dn (Fz a b).1:=by unfold It; rw [Y9]; rfl
 rw [← hn,ek]
 unfold Dn at h
 unfold Acf
 split<;>omega
theorem S9 {a:Nat} {n:Int} (k4:Aj a≠4):Br (Cg a n).1=Br a:=by
 by_cases k:Aj a=3∨Aj a=0
 ·unfold Cg; rw [A57 k4,A58 k]
 ·rw [Iz k4 k]
  exact sign_neg _ (I1 _ _)
theorem Ah3 {x:List Int} (hf:Fm x=true) (ax:Ak x=true) (hl:x.length≤7) (h:∃ z∈x,A3 z≠0):Lo 0 (Eh (Et x) (Pj x)).toNat∧Bd 5 (Eh (Pj x) (Et x)).toNat:=by
 obtain ⟨m1,m2,m3,m4⟩:=Adn hf hl h
 have lm:=Kt (Asm x)
 have mb:=Aa3 lm m1
 cases x with
 | nil=>obtain ⟨z,hz,_⟩:=h; cases hz
 | cons a x =>
   have ak:=Rh (K8 hf a A60)
   have b1:Bd 1 (Et (a::x)).toNat:=Rx hf _ (List.mem_map.2 ⟨a,A60,rfl⟩)
   have e1:(Et (a::x)).toNat=(Cg a.toNat (-Bj (A9 (a::x)))).1:=Dr _ _
   have s1:(Eh (Et (a::x)) (Pj (a::x))).toNat=(Fz (Et (a::x)).toNat (D5 (Pj (a::x)).toNat)).1:=A5n _
   have s2:(Eh (Pj (a::x)) (Et (a::x))).toNat=(Z5 (Pj (a::x)).toNat (Et (a::x)).toNat).1:=A5n _
   have am:pw 0≤Dn (D5 (Pj (a::x)).toNat):=by
    have e:Dn (D5 (Pj (a::x)).toNat)=Dn (Pj (a::x)).toNat:=by unfold Dn D5; split<;>omega
    rw [e]; exact m3
   have hsg:Br (Et (a::x)).toNat=Br (D5 (Pj (a::x)).toNat)∨An (Et (a::x)).toNat=0:=by
    by_cases k0:A3 a=0
    ·refine .inr ?_
     rw [e1]
     have k0':Aj a.toNat=0:=by unfold A3 at k0; omega
     unfold Cg
     rw [A57 ak.2,A58 (.inr k0')]
     exact (Dc ak.1 ak.2).2 k0'
    ·refine .inl ?_
     rw [m4,e1,S9 ak.2]
     unfold O6
     rw [A57 k0]
     rfl
   have hfar:=Axz b1.1 b1.2.1 mb.1 mb.2.1 hsg am
   have hbd:=Bd.add (k:=4) (by decide) (b1.mono (by decide)) mb
   rw [s1,s2]
   have f64:(Et (a::x)).toNat<2^64:=Kt (Jo (Mu ax 0))
   exact ⟨.Aau hbd.1 hbd.2.1 hfar,Bd.sub (k:=4) (by decide) f64 m1 (b1.mono (by decide))⟩
theorem Yz (k:Nat):Bd k (toNat 0):=Bd.zero false k
theorem Ar1 (k:Nat):Bd k Ar3.toNat:=by
 refine .mono (j:=0) ?_ (Nat.zero_le _)
 refine .O2 (by decide) (by decide +kernel) ?_
 rw [Afb]; decide
theorem Aro {k n:Nat} {f:Nat→Int} (h:∀ j,Bd k (f j).toNat):Bl k (Ic n f):=Axn (Ar1 k) (Xv fun j=>h _)
theorem Pa (a b:Int):(Hc a b).toNat=(Rl a.toNat b.toNat).1:=A5n _
theorem K3 (a b:Int):(Em a b).toNat=(H7 a.toNat b.toNat).1:=A5n _
theorem Qm (a b:Int):(Eh a b).toNat=(Z5 a.toNat b.toNat).1:=A5n _
theorem Ts {x:List Int} (h:Fx (x.drop 1)≠true):∃ z∈x,A3 z≠0:=by
 obtain ⟨z,hz,g⟩:=Yd h
 exact ⟨z,List.mem_of_mem_drop hz,g⟩
theorem Atu {k:Nat} {x:List Int} (hx:Bl k x) (h:∃ z∈x,A3 z≠0):Bj (A9 x)≤k:=by
 obtain ⟨z,hz,k0,e⟩:=Wp hx.Nc h
 have ee:Bj (A9 x)=Eu z.toNat:=by unfold Bj; rw [e,Wg z.toNat]; rfl
 have b:=hx z hz
 rw [ee,(Tr b.1 b.2.1 k0).1]
 exact b.log fun e=>k0 ((Dc b.1 b.2.1).1 e)
theorem Amh {k:Nat} {x:List Int} (hk:k+4≤1000) (hx:Bl k x) (ax:Ak x=true) (hl:x.length≤7) (he:(Bu x).2.2.2=0):Bl 1 (Bu x).1∧Bd 5 (Bu x).2.1.toNat∧Bd (k+4) (Bu x).2.2.1.toNat:=by
 unfold Bu at he ⊢
 by_cases h1:x.length=0∨64<x.length
 ·rw [A58 h1] at he; exact absurd he (by decide)
 rw [A57 h1] at he ⊢
 have hf:=hx.Nc
 rw [A58 hf] at he ⊢
 unfold Ahn at he ⊢
 by_cases h3:Fx (x.drop 1)=true
 ·rw [A58 h3]
  dsimp only
  exact ⟨Aro fun _=>Yz 1,Yz 5,(Q5 hx 0).mono (by omega)⟩
 ·rw [A57 h3] at he ⊢
  by_cases h4:Dm (Gp x)=true
  ·rw [A58 h4]
   dsimp only
   have hs:=Ts h3
   obtain ⟨m1,m2,m3,m4⟩:=Adn hf hl hs
   obtain ⟨f1,f2⟩:=Ah3 hf ax hl hs
   have sb:=Rx hf
   refine ⟨Aro fun j=>?_,?_,?_⟩
   ·rw [Pa]
    refine Bd.div (j:=1) (t:=0) (by decide) ?_ f1
    by_cases hj:j<x.length
    ·refine sb _ (List.mem_map.2 ⟨x.getD j 0,?_,rfl⟩)
     rw [A5v,A52 hj]; exact List.getElem_mem hj
    ·rw [A5v,A63 (by omega)]
     rw [Dr]
     have e:∀ n:Int,(Cg (toNat 0) n).1=0:=fun n=>by
      unfold Cg
      rw [A57 (by decide),A58 (.inr (by decide))]; rfl
     show Bd 1 (Cg (toNat 0) _).1
     rw [e]; exact Bd.zero false 1
   ·unfold Aa1
    rw [Pa]
    exact Bd.div (j:=5) (t:=0) (by decide) f2 m2
   ·unfold Gp
    rw [Dr]
    exact Bd.scale (by omega) m1 (by have:=Atu hx hs; omega)
  ·rw [A57 h4] at he; exact absurd he (by decide)
theorem Mt {k:Nat} {c i j:Int} {l:List Int} (h:Bl k l):Bd k (Co c l i j).toNat:=Q5 h _
theorem Aah {k:Nat} {c b i:Int} {n:Nat} {l:List Int} (h:Bl k l):Bl k (By c l b i n):=Xv fun _=>Mt h
theorem Apy {k:Nat} {c i j t a b:Int} {l v:List Int} (hk:k+11≤1000) (h:Bl k l) (hv:Bl 1 v) (hl:v.length≤7) (ht:Bd 5 t.toNat):Bd (k+11) (Hj c l i j v t a b).toNat:=by
 unfold Hj
 split
 ·rw [Qm]
  refine Bd.sub (k:=k+10) (by omega) (Kt (K4 _ _)) ((Mt h).mono (by omega)) ?_
  rw [K3]
  have h1:Bd (k+9) (Ly c l i v t b).toNat:=by
   unfold Ly
   rw [K3]
   have:=Af7 (j:=1) (k:=k) (by omega) hv (Aah (c:=c) (b:=b) (i:=i) (n:=v.length) h) hl
   exact (Bd.mul (by omega) ht this).mono (by omega)
  exact Bd.mul (j:=k+9) (k:=1) (by omega) h1 (Q5 hv _)
 ·exact (Mt h).mono (by omega)
theorem Aed {k:Nat} {r c:Nat} {i j t:Int} {l v:List Int} (hk:k+11≤1000) (h:Bl k l) (hv:Bl 1 v) (hl:v.length≤7) (ht:Bd 5 t.toNat):Bl (k+11) (Ga r c l i j v t):=Agb fun _ _=>Apy hk h hv hl ht
theorem Afk {k:Nat} {r c j:Nat} {l:List Int} (hk:k+11≤1000) (h:Bl k l) (al:Ak l=true) (hr:r≤7) (he:(Bu (De r c l j)).2.2.2=0):Bl (k+11) (Ov r c l j)∧Bl 1 (Bu (De r c l j)).1∧Bd 5 (Bu (De r c l j)).2.1.toNat∧(Bu (De r c l j)).1.length≤7:=by
 have hlen:(De r c l j).length≤7:=by unfold De; rw [Gl]; omega
 obtain ⟨m1,m2,m3⟩:=Amh (by omega) (show Bl k (De r c l j) from Aah h) (Oa al) hlen he
 have ml:=P5 he
 refine ⟨?_,m1,m2,by omega⟩
 unfold Ov Po
 refine Agb fun a b=>?_
 split
 ·split
  ·exact m3.mono (by omega)
  ·exact Yz _
 ·exact Mt (Aed hk h m1 (by omega) m2)
def MB (ms:List (List Int × Int)):Prop:=∀ m∈ms,Bl 1 m.1∧Bd 5 m.2.toNat∧m.1.length≤7
theorem Aby {r c:Nat} (hr:r≤7):∀ (n j k:Nat) (l:List Int) (x:List Int × List (List Int × Int)),Bl k l→Ak l=true→k+11*n≤1000→I9 r c n j l=some x→Bl (k+11*n) x.1∧MB x.2∧x.2.length=n
 | 0,j,k,l,x,hl,_,_,h=>by
   cases h
   exact ⟨hl,(fun m hm=>by cases hm),rfl⟩
 | n+1,j,k,l,x,hl,al,hk,h=>by
   unfold I9 at h
   by_cases h1:(Bu (De r c l j)).2.2.2=0
   ·rw [A58 h1,Option.map_eq_some_iff] at h
    obtain ⟨y,hy,rfl⟩:=h
    obtain ⟨b1,b2,b3,b4⟩:=Afk (by omega) hl al hr h1
    obtain ⟨a1,a2,a3⟩:=Aby hr n (j+1) (k+11) _ y b1 (Tj al j) (by omega) hy
    refine ⟨a1.mono (by omega),fun m hm=>?_,by rw [List.length_cons,a3]⟩
    rcases List.mem_cons.1 hm with rfl | hm
    ·exact ⟨b2,b3,b4⟩
    ·exact a2 m hm
   ·rw [A57 h1] at h; cases h
theorem Ab8 {n:Nat}:∀ (ms:List (List Int × Int)) (j k:Nat) (q:List Int),MB ms→Bl k q→k+11*ms.length≤1000→Bl (k+11*ms.length) (Kl n j ms q)
 | [],_,_,_,_,h,_=>h
 | m::ms,j,k,q,hm,h,hk=>by
   simp only [List.length_cons] at hk ⊢
   obtain ⟨m1,m2,m3⟩:=hm m A60
   have ih:=Ab8 (n:=n) ms (j+1) k q (fun w hw=>hm w (A6q _ hw)) h (by omega)
   unfold Kl
   exact (Aed (by omega) ih m1 m3 m2).mono (by omega)
theorem Amu (n:Nat):Bl 0 (K9 n):=Agb fun i k=>by
 unfold Uy
 split
 ·exact Ar1 0
 ·exact Yz 0
theorem Lo.Tg {t V a:Nat} {E:Int} (s:Bool) (ht:t≤1000) (h:2^a≤V) (g:-(t:Int)≤a+E) (k3:Aj (B3 s (B1 V E))≠3):Lo t (B3 s (B1 V E)):=by
 have e1:=(Db 1 (1074-t) (-(t:Int))).1
 rw [Nat.one_mul,show -(t:Int)-((1074-t:Nat):Int)=-1074 by omega] at e1
 have h1:=Amk (b:=1074-t) (E:=E) h (by omega)
 rw [e1] at h1
 have hu:B1 1 (-(t:Int))≤pw 0:=Za (u:=0) (by decide) (by decide) (by omega)
 have hi:B1 1 (-(t:Int))<Eo:=A6n hu (Py (by decide)).2.2.2.2
 obtain ⟨_,d,p1,p2⟩:=Abt false (V:=1) (E:=-(t:Int)) (by decide) (Yg (by decide) (by omega)) hi
 rw [H5] at p1 p2
 obtain ⟨q3,q4,_⟩:=Atl hi
 have lo:Lo t (B1 1 (-(t:Int))):=⟨q3,q4,by rw [p1,Nat.one_mul]; exact Nat.ne_of_gt (B4 d),by rw [p1,p2,Nat.one_mul,Nat.log2_two_pow]; omega⟩
 refine lo.Aj3 k3 (P8 s V E) ?_
 have l1:=I1 1 (-(t:Int))
 have l2:=I1 V E
 unfold Dn B3
 split<;>omega
theorem Lo.scale {t a:Nat} {n:Int} {u:Nat} (hu:u≤1000) (h:Lo t a) (g:(t:Int)-n≤u) (k3:Aj (Cg a n).1≠3):Lo u (Cg a n).1:=by
 have:=h.k0; have:=h.k3
 rw [Iz h.k4 (by omega)] at k3 ⊢
 exact .Tg _ hu (Nat.log2_self_le h.m0) (by have:=h.log; omega) k3
def TL (t:Nat) (l:List Int):Prop:=∀ x∈l,A3 x≠0→Lo t x.toNat
theorem Awj {t:Nat} {x:List Int} (ht:t≤1000) (hx:TL t x) (hl:x.length≤7) (he:(Bu x).2.2.2=0) (h0:A3 (Bu x).2.2.1≠0):Lo t (Bu x).2.2.1.toNat:=by
 unfold Bu at he h0 ⊢
 by_cases h1:x.length=0∨64<x.length
 ·rw [A58 h1] at he; exact absurd he (by decide)
 rw [A57 h1] at he h0 ⊢
 by_cases hf':¬ (Fm x=true)
 ·rw [A57 hf'] at he; exact absurd he (by decide)
 have hf:=Classical.not_not.1 hf'
 rw [A58 hf] at he h0 ⊢
 unfold Ahn at he h0 ⊢
 by_cases h3:Fx (x.drop 1)=true
 ·rw [A58 h3] at h0 ⊢
  dsimp only at h0 ⊢
  refine hx _ ?_ h0
  rw [A5v,A52 (by omega)]; exact List.getElem_mem (by omega)
 ·rw [A57 h3] at he h0 ⊢
  by_cases h4:Dm (Gp x)=true
  ·rw [A58 h4] at h0 ⊢
   dsimp only at h0 ⊢
   have hs:=Ts h3
   obtain ⟨m1,m2,m3,m4⟩:=Adn hf hl hs
   obtain ⟨z,hz,k0,e⟩:=Wp hf hs
   have ee:Bj (A9 x)=Eu z.toNat:=by unfold Bj; rw [e,Wg z.toNat]; rfl
   have lz:=hx z hz (fun k=>k0 (by unfold A3 at k; omega))
   have x1:=(Tr lz.k3 lz.k4 k0).1
   have x2:=lz.log
   have b3:=(Rh h4).1
   unfold Gp at b3 ⊢
   rw [Dr] at b3 ⊢
   exact m2.scale ht (by omega) b3
  ·rw [A57 h4] at he; exact absurd he (by decide)
theorem Ahq {r c j:Nat} {l:List Int} (hj:0<j) (hr:0<r) (hc:0<c):Co (c:Int) (Ov r c l j) 0 0=Co (c:Int) l 0 0:=by
 unfold Ov Po
 have e:=I5 (r:=r) (c:=c) (i:=0) (k:=0) (f:=fun a b=>if b=j∧j≤a then (if a=j then (Bu (De r c l j)).2.2.1 else 0) else Co (c:Int) (Ga r c l (j:Int) (j:Int) (Bu (De r c l j)).1 (Bu (De r c l j)).2.1) (a:Int) (b:Int)) hr hc
 refine Eq.trans e ?_
 rw [A57 (by omega)]
 unfold Ga
 refine (I5 (r:=r) (c:=c) (i:=0) (k:=0) hr hc).trans ?_
 unfold Hj
 rw [A57 (by omega)]
 rfl
theorem Wi {r c:Nat} (hr:0<r) (hc:0<c):∀ (n j:Nat) (l:List Int) (x:List Int × List (List Int × Int)),0<j→I9 r c n j l=some x→Co (c:Int) x.1 0 0=Co (c:Int) l 0 0
 | 0,_,_,_,_,h=>by cases h; rfl
 | n+1,j,l,x,hj,h=>by
   unfold I9 at h
   by_cases h1:(Bu (De r c l j)).2.2.2=0
   ·rw [A58 h1,Option.map_eq_some_iff] at h
    obtain ⟨y,hy,rfl⟩:=h
    exact (Wi hr hc n (j+1) _ y (by omega) hy).trans (Ahq hj hr hc)
   ·rw [A57 h1] at h; cases h
theorem at_mem {c:Int} {i j:Int} {l:List Int} (h:A3 (Co c l i j)≠0):Co c l i j∈l:=by
 unfold Co at h ⊢
 by_cases hj:(i*c+j).toNat<l.length
 ·rw [A5v,A52 hj]; exact List.getElem_mem hj
 ·exfalso
  rw [A5v,A63 (by omega)] at h
  exact h (by decide)
theorem Azb {t:Nat} {c b i:Int} {n:Nat} {l:List Int} (h:TL t l):TL t (By c l b i n):=fun x hx k=>by
 obtain ⟨j,_,rfl⟩:=List.mem_map.1 hx
 exact h _ (at_mem k) k
theorem Aku {r c t:Nat} {l:List Int} (ht:t≤1000) (hr:0<r) (hc:0<c) (r7:r≤7) (h:TL t l) (h0:A3 (Co (c:Int) (Hq r c l) 0 0)≠0):Lo t (Co (c:Int) (Hq r c l) 0 0).toNat:=by
 unfold Hq at h0 ⊢
 cases hd:Im r c l with
 | none=>rw [hd] at h0; exact absurd (at_mem h0) (fun h=>by cases h)
 | some x =>
   rw [hd] at h0
   dsimp only at h0 ⊢
   unfold Im at hd
   cases hn:Fj r c with
   | zero =>
     rw [hn] at hd
     cases hd
     exact h _ (at_mem h0) h0
   | succ n =>
     rw [hn] at hd
     unfold I9 at hd
     by_cases h1:(Bu (De r c l 0)).2.2.2=0
     ·rw [A58 h1,Option.map_eq_some_iff] at hd
      obtain ⟨y,hy,rfl⟩:=hd
      have e1:=Wi hr hc n 1 _ y (by decide) hy
      have e2:Co (c:Int) (Ov r c l 0) 0 0=(Bu (De r c l 0)).2.2.1:=by
       unfold Ov Po
       refine (I5 (r:=r) (c:=c) (i:=0) (k:=0) hr hc).trans ?_
       rw [A58 ⟨rfl,A6f _⟩,A58 rfl]
      have e3:Co (c:Int) y.1 0 0=(Bu (De r c l 0)).2.2.1:=e1.trans e2
      dsimp only at h0 ⊢
      rw [e3] at h0 ⊢
      refine Awj ht (Azb h) ?_ h1 h0
      unfold De; rw [Gl]; omega
     ·rw [A57 h1] at hd; cases hd
theorem Aw9 {c n:Nat} {l:List Int} {t:Nat} (ht:t≤900) (fl:Fm l=true) (hn:0<n) (h0:Lo t (Co (c:Int) l 0 0).toNat) (hd:Wc (En (c:Int) l n)=false):∀ i,i<n→Lo (t+40) (Co (c:Int) l (i:Int) (i:Int)).toNat:=by
 intro i hi
 have fin_a:∀ i:Nat,Aj (Co (c:Int) l (i:Int) (i:Int)).toNat≠3∧Aj (Co (c:Int) l (i:Int) (i:Int)).toNat≠4:=fun i=>by
  by_cases k:A3 (Co (c:Int) l (i:Int) (i:Int))=0
  ·unfold A3 at k; omega
  ·exact Rh (K8 fl _ (at_mem k))
 have hdf:Fm (En (c:Int) l n)=true:=List.all_eq_true.2 fun x hx=>by
  obtain ⟨j,_,rfl⟩:=List.mem_map.1 hx
  have k:=fin_a j
  show H0 (toNat ((Dn _:Nat):Int))=true
  rw [A5n,Kh,Xo]
  simp [k.1,k.2]
 obtain ⟨b3,b4,ba,hb⟩:=Wq hdf
 have hmem:∀ i:Nat,i<n→Sc (Co (c:Int) l (i:Int) (i:Int))∈En (c:Int) l n:=fun i hi=>List.mem_map.2 ⟨i,List.mem_range.2 hi,rfl⟩
 have em:∀ x:Int,Dn (Sc x).toNat=Dn x.toNat:=fun x=>by
  show Dn (toNat ((Dn _:Nat):Int))=_
  rw [A5n]; unfold Dn; omega
 have lB:Lo t (A9 (En (c:Int) l n)).toNat:=by
  refine h0.Aj3 b3 b4 ?_
  have:=hb _ (hmem 0 hn)
  rw [em] at this
  exact this
 have hs:=List.any_eq_false.1 hd _ (hmem i hi)
 simp only [Bool.not_eq_true',Bool.not_eq_false,A5s,Bool.not_eq_true,A54] at hs
 have hs:Xf (Cc (A9 (En (c:Int) l n)) (-40)) (Sc (Co (c:Int) l (i:Int) (i:Int)))<0:=by
  rcases Int.lt_or_le (Xf (Cc (A9 (En (c:Int) l n)) (-40)) (Sc (Co (c:Int) l (i:Int) (i:Int)))) 0 with h | h
  ·exact h
  ·exact absurd h (by simpa using hs)
 have kb:Bd 1023 (A9 (En (c:Int) l n)).toNat∨True:=.inr trivial
 have hsc:=Dr (A9 (En (c:Int) l n)) (-40)
 have nB:Br (A9 (En (c:Int) l n)).toNat=false:=by
  unfold Br
  refine A5q ?_
  unfold Dn at ba; omega
 have lS:Lo (t+40) (Cc (A9 (En (c:Int) l n)) (-40)).toNat:=by
  rw [hsc]
  refine lB.scale (by omega) (by omega) ?_
  rw [Iz b4 (by have:=lB.k0; omega)]
  intro k
  have k2:=Qw k
  have l2:=I1 (An (A9 (En (c:Int) l n)).toNat) (Av (A9 (En (c:Int) l n)).toNat+-40)
  rw [nB,H5,A5y l2] at k2
  have r1:=W5 (b:=(A9 (En (c:Int) l n)).toNat) b4
  have r2:=(Db (An (A9 (En (c:Int) l n)).toNat) 40 (Av (A9 (En (c:Int) l n)).toNat)).1
  have r3:=F5 (V:=An (A9 (En (c:Int) l n)).toNat) (W:=An (A9 (En (c:Int) l n)).toNat*2^40) (E:=Av (A9 (En (c:Int) l n)).toNat-(40:Nat)) (Nat.le_mul_of_pos_right _ (by decide))
  rw [r2,r1] at r3
  have k3:=V7 b3 b4
  have:B1 (An (A9 (En (c:Int) l n)).toNat) (Av (A9 (En (c:Int) l n)).toNat-(40:Nat))=Eo:=k2
  omega
 have ki:=fin_a i
 refine lS.Aj3 ki.1 ki.2 ?_
 unfold Xf Arz at hs
 split at hs
 ·omega
 ·rename_i hk
  split at hs
  ·rename_i hlt
   have e2:(Sc (Co (c:Int) l (i:Int) (i:Int))).toNat=Dn (Co (c:Int) l (i:Int) (i:Int)).toNat:=A5n _
   rw [e2] at hlt
   have n2:Br (Dn (Co (c:Int) l (i:Int) (i:Int)).toNat)=false:=A5q (by unfold Dn; omega)
   have n1:Br (Cc (A9 (En (c:Int) l n)) (-40)).toNat=false:=by rw [hsc,S9 b4,nB]
   unfold It at hlt
   rw [n1,n2] at hlt
   have hlt:(((Cc (A9 (En (c:Int) l n)) (-40)).toNat%2^63:Nat):Int)<((Dn (Co (c:Int) l (i:Int) (i:Int)).toNat%2^63:Nat):Int):=hlt
   unfold Dn at hlt ⊢
   omega
  ·split at hs<;>omega
theorem Avm {k:Nat} {l:List Int} (h:Mb l (k:Int)=true):TL k l:=fun x hx k0=>by
 have hx:=(List.all_eq_true.1 h) x hx
 unfold Ac0 at hx
 rw [A5w,Bool.or_eq_true,A5w,A5s,A5s,A5s] at hx
 obtain ⟨hf,hx⟩:=hx
 have kk:=Rh hf
 have kn:Aj x.toNat≠0:=fun e=>k0 (by unfold A3; omega)
 rcases hx with hx | ⟨hx,_⟩
 ·exact absurd hx k0
 ·unfold Bj Eu at hx
  rw [A58 ⟨hf,kn⟩] at hx
  exact ⟨kk.1,kk.2,fun e=>kn ((Dc kk.1 kk.2).1 e),hx⟩
end Go.Cv
namespace Go.Cv
open Go.Den
theorem Jl (f:Nat→Rat):∀ n,sm (n+1) f=f 0+sm n (fun i=>f (i+1))
 | 0=>by
   show (0:Rat)+f 0=f 0+0
   grind
 | n+1=>by
   show sm (n+1) f+f (n+1)=f 0+(sm n (fun i=>f (i+1))+f (n+1))
   rw [Jl f n]; grind
theorem G4:uR≤1 / 1000000:=by decide +kernel
theorem Aq6 {c t q T z t' u e:Rat} (hc:0≤c) (hc2:c≤20) (hT:0≤T) (hz:0≤z) (hu:0<u) (hu2:u≤1 / 1000000) (he:0<e)
 (h1:Nr t T (3*c*u*T+2*c*e)) (h2:Nr q z (u*z+e)) (h3:Nr t' (t+q) (u*(T+3*c*u*T+2*c*e+(z+(u*z+e))))) :
 Nr t' (T+z) (3*(c+1)*u*(T+z)+2*(c+1)*e):=by
 have a0:=Rat.mul_nonneg (Rat.le_of_lt hu) hT
 have b0:=Rat.mul_nonneg (Rat.le_of_lt hu) hz
 have c1:3*c*u≤1:=by
  have:=Rat.mul_le_mul_of_nonneg_right hc2 (Rat.le_of_lt hu)
  grind
 have k1:=Rat.mul_le_mul_of_nonneg_right c1 a0
 have k2:=Rat.mul_le_mul_of_nonneg_right (show u≤1 by grind) b0
 have c3:(2*c+1)*u≤1:=by
  have:=Rat.mul_le_mul_of_nonneg_right hc2 (Rat.le_of_lt hu)
  grind
 have k3:=Rat.mul_le_mul_of_nonneg_right c3 (Rat.le_of_lt he)
 have k4:=Rat.mul_nonneg hc b0
 unfold Nr at *
 grind
def zR (k x:Int):Rat:=vR (Cg x.toNat k).1
theorem Alp {k:Int} (hk:k≤0):∀ (l:List Int) (s t:Nat) (T c:Rat),Bl 1 l→Bm t 2 s→0<t→t+l.length≤100→0≤T→0≤c→c+(l.length:Rat)≤20→Nr (vR s) T (3*c*uR*T+2*c*B7) →
 Nr (vR (Ph k (s:Int) l).toNat) (T+sm l.length (fun j=>zR k (l.getD j 0)*zR k (l.getD j 0))) (3*(c+(l.length:Rat))*uR*(T+sm l.length (fun j=>zR k (l.getD j 0)*zR k (l.getD j 0)))+2*(c+(l.length:Rat))*B7)
 | [],s,t,T,c,_,_,_,_,_,_,_,h=>by
   have z:((([]:List Int).length:Nat):Rat)=0:=rfl
   have e:sm ([]:List Int).length (fun j=>zR k (([]:List Int).getD j 0)*zR k (([]:List Int).getD j 0))=0:=rfl
   rw [z,e,Rat.add_zero,Rat.add_zero]
   show Nr (vR (toNat (s:Int))) T _
   rw [A5n]
   exact h
 | x::l,s,t,T,c,hl,hs,h0,ht,hT,hc,hc2,h=>by
   have el:(((x::l).length:Nat):Rat)=(l.length:Rat)+1:=by
    rw [List.length_cons]; exact Rat.natCast_add _ 1
   simp only [List.length_cons] at ht
   rw [el] at hc2 ⊢
   have hln:=Lt l.length
   have b1:Bd 1 (Cg x.toNat k).1:=Bd.scale (by decide) (hl x A60) (by omega)
   have b2:Bd 2 (H7 (Cg x.toNat k).1 (Cg x.toNat k).1).1:=Bd.mul (j:=1) (k:=1) (by decide) b1 b1
   have b3:=Bm.add (k:=2) (by omega) (by omega) (by decide) hs b2.bm
   have zz:=Bw (vR (Cg x.toNat k).1)
   have m1:=Ti b1.1 b1.2.1 b1.1 b1.2.1 b2.1 (B:=vR (Cg x.toNat k).1*vR (Cg x.toNat k).1) (by unfold Ab; grind)
   have u0:=Ey
   have e0:=Ej
   have m2:=Zu hs.1 hs.2.1 b2.1 b2.2.1 b3.1 (B:=T+3*c*uR*T+2*c*B7+(vR (Cg x.toNat k).1*vR (Cg x.toNat k).1+(uR*(vR (Cg x.toNat k).1*vR (Cg x.toNat k).1)+B7))) (by
    have n1:=h.1
    have n2:=h.2
    have n3:=m1.1
    have n4:=m1.2
    have n5:=Rat.mul_nonneg (Rat.le_of_lt u0) zz
    have n6:=Rat.mul_nonneg hc (Rat.mul_nonneg (Rat.le_of_lt u0) hT)
    have n7:=Rat.mul_nonneg hc (Rat.le_of_lt e0)
    unfold Ab
    grind)
   have st:=Aq6 hc (by grind) hT zz u0 G4 e0 h m1 m2
   have ih:=Alp hk l _ (t+1) (T+vR (Cg x.toNat k).1*vR (Cg x.toNat k).1) (c+1) (fun z hz=>hl z (A6q _ hz)) b3 (by omega) (by omega) (by grind) (by grind) (by grind) st
   have es:sm (x::l).length (fun j=>zR k ((x::l).getD j 0)*zR k ((x::l).getD j 0))=vR (Cg x.toNat k).1*vR (Cg x.toNat k).1+sm l.length (fun j=>zR k (l.getD j 0)*zR k (l.getD j 0)):=by
    rw [List.length_cons,Jl]
    rfl
   have eq:(Ph k (s:Int) (x::l)).toNat=(Ph k ((Fz s (H7 (Cg x.toNat k).1 (Cg x.toNat k).1).1).1:Nat) l).toNat:=by
    rw [Ph]
    unfold Le Em
    rw [Dr,A5n,A5n]
   rw [es,eq]
   rw [show T+(vR (Cg x.toNat k).1*vR (Cg x.toNat k).1+sm l.length (fun j=>zR k (l.getD j 0)*zR k (l.getD j 0)))=T+vR (Cg x.toNat k).1*vR (Cg x.toNat k).1+sm l.length (fun j=>zR k (l.getD j 0)*zR k (l.getD j 0)) by grind,show c+((l.length:Rat)+1)=c+1+(l.length:Rat) by grind]
   exact ih
end Go.Cv
namespace Go.Cv
open Go.Den
theorem Y0 (a:Nat):vR a=Ps (Br a)*((Jr a:Rat)*tw (-1074)):=by
 have pa:=Cq a
 have e:(Jr a:Rat)*tw (-1074)=((An a:Nat):Rat)*tw (Av a):=by
  have:=Rs (An a) (Av a-(-1074)).toNat (Av a)
  rw [show Av a-((Av a-(-1074)).toNat:Int)=-1074 by omega] at this
  exact this
 rw [e]
 unfold vR
 grind
theorem Ab7 {k a:Nat} (h:Bd k a):Ab (vR a) (tw k):=by
 rw [Y0,Ae6 (Pl _ _)]
 have h1:=Ct h.2.2
 rw [← Jb] at h1
 have h2:=Rat.mul_le_mul_of_nonneg_right h1 (Rat.le_of_lt (Dp (-1074)))
 rw [← Ep] at h2
 have e:((k+1074:Nat):Int)+-1074=k:=by omega
 rw [e] at h2
 exact h2
def av (x:Rat):Rat:=if 0≤x then x else -x
theorem Ed (x:Rat):0≤av x:=by unfold av; split<;>grind
theorem Hv (x:Rat):Ab x (av x):=by unfold av Ab; split<;>grind
theorem Ko {x B:Rat} (h:Ab x B):av x≤B:=by unfold Ab at h; unfold av; split<;>grind
theorem Dy (x y:Rat):av (x*y)=av x*av y:=by
 unfold av
 by_cases hx:0≤x
 ·by_cases hy:0≤y
  ·have:=Rat.mul_nonneg hx hy
   rw [A58 hx,A58 hy,A58 this]
  ·have:=Rat.mul_nonneg hx (show 0≤-y by grind)
   rw [A58 hx,A57 hy]
   split<;>grind
 ·by_cases hy:0≤y
  ·have:=Rat.mul_nonneg (show 0≤-x by grind) hy
   rw [A57 hx,A58 hy]
   split<;>grind
  ·have:=Rat.mul_nonneg (show 0≤-x by grind) (show 0≤-y by grind)
   rw [A57 hx,A57 hy]
   split<;>grind
theorem Km (x:Rat):av x*av x=x*x:=by unfold av; split<;>grind
theorem Ih (x y:Rat):av (x+y)≤av x+av y:=by
 have h1:=Hv x
 have h2:=Hv y
 refine Ko ?_
 unfold Ab at *; grind
theorem H6 {x y d:Rat}:Nr x y d↔av (x-y)≤d:=by
 unfold Nr av
 split<;>constructor<;>intro h<;>grind
theorem Um {a:Nat} (h:pw 0≤a%2^63):1≤av (vR a):=by
 obtain ⟨h1,h2⟩:=Qg h
 have m1:=Ct h1
 have t:((2^52:Nat):Rat)=tw 52:=(Jb 52).symm
 rw [t] at m1
 have m2:tw (-52)≤tw (Av a):=Acu h2
 have m3:=D3 m1 m2 (Lt _) (Rat.le_of_lt (Dp _))
 have e:tw 52*tw (-52)=1:=by rw [← Ep]; exact S3
 rw [e] at m3
 have e2:av (vR a)=((An a:Nat):Rat)*tw (Av a):=by
  have hn:=Pl (An a) (Av a)
  unfold vR Ps
  cases Br a
  ·have e:(if false=true then (-1:Rat) else 1)=1:=rfl
   rw [e,Rat.one_mul]; unfold av; rw [A58 hn]
  ·have e:(if true=true then (-1:Rat) else 1)=-1:=rfl
   rw [e]
   unfold av
   split<;>grind
 rw [e2]
 exact m3
theorem Au2 {a:Nat} (h:Br a=false):0≤vR a:=by
 unfold vR
 rw [h]
 have hn:=Pl (An a) (Av a)
 have e:Ps false=1:=rfl
 rw [e]; grind
theorem Als {f g:Nat→Rat} {d:Rat}:∀ n,(∀ i,i<n→Nr (f i) (g i) d)→Nr (sm n f) (sm n g) ((n:Rat)*d)
 | 0,_=>by
   have z:((0:Nat):Rat)=0:=rfl
   show Nr 0 0 _
   rw [z]; unfold Nr; grind
 | n+1,h=>by
   have ih:=Als n fun i hi=>h i (by omega)
   have h1:=h n (by omega)
   have e:((n+1:Nat):Rat)=(n:Rat)+1:=Rat.natCast_add n 1
   show Nr (sm n f+f n) (sm n g+g n) _
   rw [e]
   unfold Nr at *; grind
theorem Alr {x y d B:Rat} (h:Nr x y d) (hB:Ab y B) (hd:0≤d):Nr (x*x) (y*y) (d*(2*B+d)):=by
 have e:x*x-y*y=(x-y)*(x+y):=by grind
 rw [H6,e,Dy]
 have h1:=H6.1 h
 have h2:av (x+y)≤2*B+d:=by
  refine Ko ?_
  unfold Nr at h
  unfold Ab at *
  grind
 exact D3 h1 h2 hd (Ed _)
def rv (l:List Int) (i:Nat):Rat:=vR (l.getD i 0).toNat
theorem A2h {k:Nat} {l:List Int} (h:Bl k l) (i:Nat):Ab (rv l i) (tw k):=Ab7 (Q5 h i)
theorem tw1:tw 1=2:=by decide +kernel
theorem A3v:tw (-1)=1 / 2:=by decide +kernel
theorem Ar8 {y:List Int} (hy:Bl 1 y) (hl:y.length≤7) (h:∃ z∈y,pw 0≤z.toNat%2^63) :
 Nr (vR (Dh y).toNat*vR (Dh y).toNat) (sq y.length (rv y)) (40*uR*sq y.length (rv y))∧1≤vR (Dh y).toNat∧1≤sq y.length (rv y):=by
 obtain ⟨n1,n2⟩:=Amd hy hl h
 have hm1:1≤sq y.length (rv y):=by
  obtain ⟨z,hz,g⟩:=h
  obtain ⟨j,hj,rfl⟩:=List.mem_iff_getElem.1 hz
  have e:rv y j=vR (y[j]).toNat:=by unfold rv; rw [A5v,A52 hj]; rfl
  have h1:=Um g
  rw [← e] at h1
  have h2:=Y6 (f:=fun i=>rv y i*rv y i) hj fun i _=>Bw _
  have h3:=O0 (x:=1) (y:=av (rv y j)) (by decide) h1
  rw [Km] at h3
  unfold sq
  grind
 have nn:Br (Dh y).toNat=false:=M6 n2.2
 have hv0:=Au2 nn
 have hv1:1≤vR (Dh y).toNat:=by
  have nl:(Dh y).toNat<2^63:=by have:=n2.2; rw [Je] at this; omega
  have:=Um (a:=(Dh y).toNat) (by rw [A5y nl]; exact n2.1)
  unfold av at this
  rw [A58 hv0] at this
  exact this
 refine ⟨?_,hv1,hm1⟩
 have hf:=hy.Nc
 have h0:∃ z∈y,A3 z≠0:=by
  obtain ⟨z,hz,g⟩:=h
  refine ⟨z,hz,fun k=>?_⟩
  have:=Ia (b:=z.toNat) (by unfold A3 at k; omega)
  rw [Afb] at g; omega
 obtain ⟨b3,b4,ba,hb⟩:=Wq hf
 have hB:pw 0≤Dn (A9 y).toNat:=by
  obtain ⟨z,hz,g⟩:=h
  exact A6s g (hb z hz)
 obtain ⟨w,hw,w0,we⟩:=Wp hf h0
 have wk:=Rh (K8 hf w hw)
 have ee:Bj (A9 y)=Eu w.toNat:=by unfold Bj; rw [we,Wg w.toNat]; rfl
 obtain ⟨x1,_⟩:=Tr wk.1 wk.2 w0
 have wm:An w.toNat≠0:=fun e=>w0 ((Dc wk.1 wk.2).1 e)
 have u1:=(hy w hw).log wm
 have u2:=(Lo.Aau (a:=w.toNat) wk.1 wk.2 (by
  rw [we] at hB
  show pw 0≤Dn w.toNat
  unfold Dn at hB ⊢; omega)).log
 have e01:Eu w.toNat=0∨Eu w.toNat=1:=by omega
 have en:Dh y=Cc (Hx (Ph (-Eu w.toNat) 0 y)) (Eu w.toNat):=by
  unfold Dh
  rw [A57 (fun k=>by
   rcases k with k | k
   ·rw [k] at hB; rw [Afb] at hB; revert hB; decide
   ·unfold Dm at k; rw [Kh] at k; simp [b3,b4] at k),ee]
 obtain ⟨t,te,t1,t2⟩:=Ajh (-Eu w.toNat) y 0 (Nat.zero_le _)
 have tb:=t2 (.inr ⟨w,hw,by rw [Dr]; exact Ug wk.1 wk.2 w0⟩)
 have te:Ph (-Eu w.toNat) 0 y=t:=te
 have z0:vR 0=0:=Jv false
 have hlen:(y.length:Rat)≤7:=Ct hl
 have se:=Alp (k:=-Eu w.toNat) (by omega) y 0 1 0 0 hy (Bd.zero false 2).bm (by decide) (by omega) (Rat.le_refl) (Rat.le_refl) (by grind) (by rw [z0]; unfold Nr; grind)
 have se:Nr (vR (Ph (-Eu w.toNat) 0 y).toNat) _ _:=se
 have bm:=Aji (k:=-Eu w.toNat) (by omega) y 0 1 hy (Bd.zero false 2).bm (by decide) (by omega)
 have bm:Bm (1+y.length) 2 (Ph (-Eu w.toNat) 0 y).toNat:=bm
 rw [te,A5n] at bm se
 rw [te] at en
 have bt:Bd (3+3) t:=(bm.bd (j:=3) (by omega)).mono (by decide)
 have br:Bd 3 (Hg t).1:=Bd.root (by decide) bt (M6 tb.2)
 have hr:=Aq9 bt.1 bt.2.1 (.inl (M6 tb.2)) br.1
 have en2:(Dh y).toNat=(Cg (Hg t).1 (Eu w.toNat)).1:=by
  rw [en,Dr]
  unfold Hx
  rw [A5n,A5n]
 have hsc:=Ta (a:=(Hg t).1) (n:=Eu w.toNat) br.1 br.2.1 (by rw [← en2]; exact n1.1)
 rw [← en2] at hsc
 have r8:=Ab7 br
 generalize vR (Hg t).1=r at *
 generalize vR (Dh y).toNat=v at *
 have hz:Nr (sm y.length (fun j=>zR (-Eu w.toNat) (y.getD j 0)*zR (-Eu w.toNat) (y.getD j 0))) (sm y.length (fun j=>rv y j*tw (-Eu w.toNat)*(rv y j*tw (-Eu w.toNat)))) ((y.length:Rat)*(B7*(2*2+B7))):=Als _ fun i hi=>by
  have hb1:=hy (y.getD i 0) (by rw [A5v,A52 hi]; exact List.getElem_mem hi)
  have bs:Bd 1 (Cg (y.getD i 0).toNat (-Eu w.toNat)).1:=Bd.scale (by decide) hb1 (by omega)
  have s1:=Ta (n:=-Eu w.toNat) hb1.1 hb1.2.1 bs.1
  refine Alr (B:=2) s1 ?_ (Rat.le_of_lt Ej)
  have a1:=Ab7 hb1
  have t1':tw ((1:Nat):Int)=2:=tw1
  rw [t1'] at a1
  show Ab (vR (y.getD i 0).toNat*tw (-Eu w.toNat)) 2
  rcases e01 with e | e
  ·rw [e]
   have:tw (-0)=1:=S3
   rw [this,Rat.mul_one]; exact a1
  ·rw [e,A3v]
   unfold Ab at *; grind
 have hs2:sm y.length (fun j=>rv y j*tw (-Eu w.toNat)*(rv y j*tw (-Eu w.toNat)))=tw (-Eu w.toNat)*tw (-Eu w.toNat)*sq y.length (rv y):=by
  unfold sq
  rw [← F7]
  exact Bk _ fun i _=>by grind
 rw [hs2] at hz
 generalize sq y.length (rv y)=m at *
 generalize sm y.length (fun j=>zR (-Eu w.toNat) (y.getD j 0)*zR (-Eu w.toNat) (y.getD j 0))=Z at *
 generalize vR t=T at *
 have hn0:=Lt y.length
 generalize (y.length:Rat)=n at *
 have u0:=Ey
 have e0:=Ej
 have es:B7≤uR / 1000000:=by decide +kernel
 have es2:B7≤1 / 1000000:=by decide +kernel
 have hK:tw (Eu w.toNat)*tw (-Eu w.toNat)=1:=by
  rw [← Ep,show Eu w.toNat+-Eu w.toNat=0 by omega]; exact S3
 have hk2:0<tw (Eu w.toNat)∧tw (Eu w.toNat)≤2:=by
  refine ⟨Dp _,?_⟩
  rcases e01 with e | e
  ·rw [e,S3]; decide
  ·rw [e,tw1]; exact Rat.le_refl
 have t3:tw ((3:Nat):Int)=8:=by decide +kernel
 rw [t3] at r8
 generalize tw (Eu w.toNat)=K at *
 generalize tw (-Eu w.toNat)=J at *
 have hr1:Ab (r*K) 16:=by
  have h1:=D3 r8.2 hk2.2 (by decide) (Rat.le_of_lt hk2.1)
  have h2:=Rat.mul_nonneg hr.2.1 (Rat.le_of_lt hk2.1)
  unfold Ab; grind
 have s1:=Alr hsc hr1 (Rat.le_of_lt e0)
 have hKK:=Rat.mul_nonneg (Rat.le_of_lt hk2.1) (Rat.le_of_lt hk2.1)
 have hK4:=D3 hk2.2 hk2.2 (by decide) (Rat.le_of_lt hk2.1)
 have s2:=hr.1.scale hKK
 have s3:=se.scale hKK
 have s4:=hz.scale hKK
 have c4:J*J*m*(K*K)=m:=by
  have:J*J*m*(K*K)=(K*J)*(K*J)*m:=by grind
  rw [this,hK]; grind
 rw [c4] at s4
 have d1:n*(B7*(2*2+B7))*(K*K)≤150*B7:=by
  have a1:=D3 hlen (show B7*(2*2+B7)≤B7*(501 / 100) from Rat.mul_le_mul_of_nonneg_left (by grind) (Rat.le_of_lt e0)) (by decide) (Rat.mul_nonneg (Rat.le_of_lt e0) (by grind))
  have a2:=D3 a1 hK4 (by grind) hKK
  grind
 have s4:=s4.mono d1
 have hZ0:0≤Z*(K*K):=by have:=s4.2; grind
 have g1:(3*(0+n)*uR*(0+Z)+2*(0+n)*B7)*(K*K)≤21*(uR*(Z*(K*K)))+56*B7:=by
  have a1:=Rat.mul_le_mul_of_nonneg_right hlen (Rat.mul_nonneg (Rat.le_of_lt u0) hZ0)
  have a2:=D3 (D3 hlen (Rat.le_refl:B7≤B7) (by decide) (Rat.le_of_lt e0)) hK4 (by grind) hKK
  grind
 have s3:=s3.mono g1
 rw [Rat.zero_add] at s3
 generalize hZ':Z*(K*K)=Z' at *
 generalize hT':T*(K*K)=T' at *
 have s2':Nr (r*r*(K*K)) T' (8*(uR*T')):=s2.mono (by rw [← hT']; grind)
 have eR:r*K*(r*K)=r*r*(K*K):=by grind
 rw [eR] at s1
 have f1:Z'≤m+m / 1000:=by have:=s4.1; grind
 have f2:=Ij f1
 have f3:uR*(m+m / 1000)≤m / 100000:=by
  have:=Rat.mul_le_mul_of_nonneg_right G4 (show 0≤m+m / 1000 by grind)
  grind
 have f4:T'≤m+m / 100:=by have:=s3.1; grind
 have f5:=Ij f4
 have f6:uR*(m+m / 1000)=uR*m+uR*m / 1000:=by grind
 have f7:uR*(m+m / 100)=uR*m+uR*m / 100:=by grind
 have f8:uR≤uR*m:=by
  have:=Rat.mul_le_mul_of_nonneg_left hm1 (Rat.le_of_lt u0)
  grind
 have s1':Nr (v*v) (r*r*(K*K)) (33*B7):=s1.mono (by
  have:=Rat.mul_le_mul_of_nonneg_left (show 2*16+B7≤33 by grind) (Rat.le_of_lt e0)
  grind)
 refine ((s1'.trans s2').trans (s3.trans s4)).mono ?_
 grind
end Go.Cv
namespace Go.Cv
theorem I8 {x y z d:Rat} (h:Nr x y d):av x≤av y+d:=by
 have h1:=Hv y
 refine Ko ?_
 unfold Nr at h; unfold Ab at *; grind
theorem Pp (x:Rat):av (-x)=av x:=by unfold av; split<;>split<;>grind
theorem Qh {x:Rat} (h:0≤x):av x=x:=by unfold av; rw [A58 h]
theorem A2t (x:Rat):x≤av x:=(Hv x).2
theorem Ms {a b:Rat} (h:b≠0):a / b*b=a:=by grind
theorem Art {w D d q:Rat} (hD:0<av D) (hd:Nr d D (uR*av D)) (hq:q*d=w*D):av (q-w)≤11 / 10*uR*av w:=by
 have u0:=Ey
 have us:=G4
 have h1:=H6.1 hd
 have aw:=Ed w
 have h2:(1-uR)*av D≤av d:=by
  have:=I8 (z:=0) hd.symm
  grind
 have e:(q-w)*d=w*(D-d):=by grind
 have h3:av (q-w)*av d=av w*av (D-d):=by rw [← Dy,← Dy,e]
 have h4:av (D-d)≤uR*av D:=H6.1 hd.symm
 have h5:=Rat.mul_le_mul_of_nonneg_left h4 aw
 have h6:=Rat.mul_le_mul_of_nonneg_left h2 (Ed (q-w))
 have h7:av (q-w)*(1-uR)*av D≤av w*uR*av D:=by grind
 have h8:=Rat.le_of_mul_le_mul_right h7 hD
 refine Rat.le_of_mul_le_mul_right (c:=1-uR) ?_ (by grind)
 have h9:(1:Rat)≤11 / 10*(1-uR):=by grind
 have h10:=Rat.mul_le_mul_of_nonneg_right h9 (Rat.mul_nonneg (Rat.le_of_lt u0) aw)
 grind
section
variable {k:Nat} {y v:Nat→Rat} {μ τ d p:Rat}
structure Ii (k:Nat) (y v:Nat→Rat) (μ τ d p:Rat):Prop where
 k6:k≤6
 v0:v 0=1
 one:1≤av μ
 H3:y 0*μ≤0
 len:Nr (μ*μ) (sq (k+1) y) (40*uR*sq (k+1) y)
 two:∀ i,i≤k→Ab (y i) 2
 hd:Nr d (y 0-μ) (uR*av (y 0-μ))
 hp:Nr p (μ-y 0) (uR*av (y 0-μ))
 hv:∀ i,i<k→∀ q,q*d=y (i+1)→Nr (v (i+1)) q (2*uR*av q+B7)
 ht:∀ q,q*μ=p→Nr τ q (2*uR*av q+B7)
theorem N8 (n:Nat) (f:Nat→Rat):sq (n+1) f=f 0*f 0+sq n (fun i=>f (i+1)):=Jl (fun i=>f i*f i) n
theorem Ii.D (h:Ii k y v μ τ d p):av (y 0-μ)=av (y 0)+av μ:=by
 have h1:=h.one
 have h2:=h.H3
 unfold av at *
 by_cases a:0≤μ
 ·rw [A58 a] at h1 ⊢
  have:y 0≤0:=by
   rcases (Rat.le_total:y 0≤0∨0≤y 0) with g | g
   ·exact g
   ·have:=Rat.mul_le_mul_of_nonneg_left h1 g
    grind
  split<;>(try split)<;>grind
 ·rw [A57 a] at h1 ⊢
  have:0≤y 0:=by
   rcases (Rat.le_total:0≤y 0∨y 0≤0) with g | g
   ·exact g
   ·have:=Rat.mul_le_mul_of_nonneg_left h1 (show 0≤-(y 0) by grind)
    grind
  split<;>(try split)<;>grind
theorem Ii.Agm (h:Ii k y v μ τ d p):0<av (y 0-μ)∧av μ≤av (y 0-μ)∧y 0-μ≠0∧μ≠0:=by
 have h1:=h.one
 have h2:=h.D
 have h3:=Ed (y 0)
 refine ⟨by grind,by grind,fun e=>?_,fun e=>?_⟩
 ·rw [e] at h2
  have:av 0=0:=by decide
  grind
 ·rw [e] at h1
  have:av 0=0:=by decide
  grind
def wR (y:Nat→Rat) (μ:Rat) (i:Nat):Rat:=y i / (y 0-μ)
theorem Ii.w (h:Ii k y v μ τ d p) (i:Nat):wR y μ i*(y 0-μ)=y i:=Ms h.Agm.2.2.1
theorem Ii.vw (h:Ii k y v μ τ d p) {i:Nat} (hi:i<k):av (v (i+1)-wR y μ (i+1))≤4*uR*av (wR y μ (i+1))+B7:=by
 have u0:=Ey
 have us:=G4
 have hD:=h.Agm.1
 have d0:d≠0:=fun e=>by
  have:=I8 (z:=0) h.hd.symm
  rw [e] at this
  have z:av 0=0:=by decide
  have:uR*av (y 0-μ)≤1 / 1000000*av (y 0-μ):=Rat.mul_le_mul_of_nonneg_right us (Rat.le_of_lt hD)
  grind
 have hq:=Ms (a:=y (i+1)) d0
 have h1:=H6.1 (h.hv i hi _ hq)
 have h2:=Art (w:=wR y μ (i+1)) hD h.hd (by rw [h.w]; exact hq)
 have aw:=Ed (wR y μ (i+1))
 generalize y (i+1) / d=q at *
 generalize wR y μ (i+1)=w at *
 have h3:av q≤11 / 10*av w:=by
  have:=Ih w (q-w)
  rw [show w+(q-w)=q by grind] at this
  have:11 / 10*uR*av w≤1 / 10*av w:=Rat.mul_le_mul_of_nonneg_right (by grind) aw
  grind
 have h4:=Ih (v (i+1)-q) (q-w)
 rw [show v (i+1)-q+(q-w)=v (i+1)-w by grind] at h4
 have h5:=Ij h3
 have h6:=Rat.mul_nonneg (Rat.le_of_lt u0) aw
 grind
theorem Vf {f g d:Nat→Rat}:∀ n,(∀ i,i<n→Nr (f i) (g i) (d i))→Nr (sm n f) (sm n g) (sm n d)
 | 0,_=>by
   show Nr 0 0 0
   unfold Nr; grind
 | n+1,h=>by
   have ih:=Vf n fun i hi=>h i (by omega)
   have h1:=h n (by omega)
   show Nr (sm n f+f n) (sm n g+g n) (sm n d+d n)
   unfold Nr at *; grind
def W2 (k:Nat) (y:Nat→Rat) (μ:Rat):Rat:=sm k fun i=>wR y μ (i+1)*wR y μ (i+1)
def V2 (k:Nat) (v:Nat→Rat):Rat:=sm k fun i=>v (i+1)*v (i+1)
theorem Ii.W (h:Ii k y v μ τ d p):W2 k y μ*((y 0-μ)*(y 0-μ))=sq (k+1) y-y 0*y 0∧0≤W2 k y μ:=by
 refine ⟨?_,Px k fun i _=>Bw _⟩
 have e:sq (k+1) y-y 0*y 0=sq k (fun i=>y (i+1)):=by rw [N8]; grind
 rw [e]
 unfold W2 sq
 rw [Rat.mul_comm,← F7]
 refine Bk k fun i _=>?_
 have:=h.w (i+1)
 generalize wR y μ (i+1)=w at *
 show (y 0-μ)*(y 0-μ)*(w*w)=y (i+1)*y (i+1)
 rw [← this]
 grind
theorem Ii.m2 (h:Ii k y v μ τ d p):sq (k+1) y≤(1+41*uR)*(μ*μ)∧0≤sq (k+1) y:=by
 have h0:=Mc (k+1) y
 refine ⟨?_,h0⟩
 have h1:=h.len.2
 have c:1≤(1+41*uR)*(1-40*uR):=by decide +kernel
 have h2:=Rat.mul_le_mul_of_nonneg_right c h0
 have h3:=Rat.mul_le_mul_of_nonneg_left (show (1-40*uR)*sq (k+1) y≤μ*μ by grind) (show 0≤1+41*uR by decide +kernel)
 grind
theorem Ii.f0 (h:Ii k y v μ τ d p):av (y 0)≤101 / 100*av μ∧av (y 0-μ)≤201 / 100*av μ:=by
 have h1:=h.m2.1
 have h2:y 0*y 0≤sq (k+1) y:=by
  rw [N8]
  have:=Mc k fun i=>y (i+1)
  grind
 have a0:=Ed μ
 have h3:av (y 0)≤101 / 100*av μ:=by
  refine Oh (by grind) ?_
  rw [Km]
  have e:101 / 100*av μ*(101 / 100*av μ)=101 / 100*(101 / 100)*(μ*μ):=by rw [← Km μ]; grind
  rw [e]
  have c:1+41*uR≤101 / 100*(101 / 100):=by decide +kernel
  have:=Rat.mul_le_mul_of_nonneg_right c (Bw μ)
  grind
 refine ⟨h3,?_⟩
 rw [h.D]; grind
theorem Ii.Wle (h:Ii k y v μ τ d p):W2 k y μ≤1+41*uR:=by
 obtain ⟨h1,h2⟩:=h.W
 obtain ⟨d1,d2,d3,d4⟩:=h.Agm
 have hDD:=O0 (Ed μ) d2
 rw [Km,Km] at hDD
 have hm:=h.m2.1
 have y0:=Bw (y 0)
 have h3:=Rat.mul_le_mul_of_nonneg_left hDD (show 0≤1+41*uR by decide +kernel)
 have hp:0<(y 0-μ)*(y 0-μ):=by
  have:=Rat.mul_pos d1 d1
  rw [Km] at this
  exact this
 refine Rat.le_of_mul_le_mul_right (c:=(y 0-μ)*(y 0-μ)) ?_ hp
 grind
theorem Ii.wle (h:Ii k y v μ τ d p) {i:Nat} (hi:i≤k):av (wR y μ i)≤2:=by
 obtain ⟨d1,d2,d3,d4⟩:=h.Agm
 have h1:=Ko (h.two i hi)
 have h2:=h.w i
 have h3:av (wR y μ i)*av (y 0-μ)=av (y i):=by rw [← Dy,h2]
 refine Rat.le_of_mul_le_mul_right (c:=av (y 0-μ)) ?_ d1
 have:=h.one
 grind
theorem Avr {a b e:Rat} (h:av (a-b)≤4*uR*av b+e) (he:0≤e) (he2:e≤1 / 1000000) (hb:av b≤2):Nr (a*a) (b*b) (9*uR*(b*b)+5*e):=by
 have u0:=Ey
 have b0:=Ed b
 have ub:=Rat.mul_nonneg (Rat.le_of_lt u0) b0
 have e1:a*a-b*b=(a-b)*(a+b):=by grind
 have h2:av (a+b)≤2*av b+(4*uR*av b+e):=by
  have:=Ih (a-b) (2*b)
  rw [show a-b+2*b=a+b by grind,Dy] at this
  have t:av 2=2:=by decide
  rw [t] at this
  grind
 rw [H6,e1,Dy]
 have h3:=D3 h h2 (by grind) (Ed _)
 have k1:uR*av b≤1 / 1000000*av b:=Rat.mul_le_mul_of_nonneg_right G4 b0
 have k2:=Rat.mul_le_mul_of_nonneg_left k1 ub
 have k3:=Rat.mul_le_mul_of_nonneg_left (show 2*av b+(4*uR*av b+e)+4*uR*av b≤5 by grind) he
 rw [← Km b]
 have k4:=Rat.mul_nonneg ub b0
 grind
theorem Ii.VW (h:Ii k y v μ τ d p):Nr (V2 k v) (W2 k y μ) (9*uR*W2 k y μ+30*B7):=by
 have e0:=Ej
 have e2:B7≤1 / 1000000:=by decide +kernel
 have h1:=Vf k fun i hi=>Avr (h.vw hi) (Rat.le_of_lt e0) e2 (h.wle (i:=i+1) (by omega))
 refine h1.mono ?_
 have e:sm k (fun i=>9*uR*(wR y μ (i+1)*wR y μ (i+1))+5*B7)=9*uR*W2 k y μ+(k:Rat)*(5*B7):=by
  rw [Ha (fun i=>9*uR*(wR y μ (i+1)*wR y μ (i+1))) (fun _=>5*B7),F7,N9]
  rfl
 rw [e]
 have hk:(k:Rat)≤6:=Ct h.k6
 have:=Rat.mul_le_mul_of_nonneg_right hk (show 0≤5*B7 by grind)
 grind
def tR (y:Nat→Rat) (μ:Rat):Rat:=-(y 0-μ) / μ
theorem Ii.t (h:Ii k y v μ τ d p):tR y μ*μ=-(y 0-μ):=Ms h.Agm.2.2.2
theorem Ii.tle (h:Ii k y v μ τ d p):av (tR y μ)≤201 / 100∧av (τ-tR y μ)≤7*uR∧av (tR y μ)*av μ=av (y 0-μ):=by
 have u0:=Ey
 have ht:=h.t
 have one:=h.one
 have hm:0<av μ:=by grind
 have h1:av (tR y μ)*av μ=av (y 0-μ):=by rw [← Dy,ht,Pp]
 have h2:av (tR y μ)≤201 / 100:=by
  refine Rat.le_of_mul_le_mul_right (c:=av μ) ?_ hm
  rw [h1]; exact h.f0.2
 refine ⟨h2,?_,h1⟩
 have hq:=Ms (a:=p) h.Agm.2.2.2
 have h3:=H6.1 (h.ht _ hq)
 generalize p / μ=q at *
 generalize tR y μ=t at *
 have h4:av (q-t)≤uR*av t:=by
  refine Rat.le_of_mul_le_mul_right (c:=av μ) ?_ hm
  have e:(q-t)*μ=p-(μ-y 0):=by grind
  have e2:av (q-t)*av μ=av (p-(μ-y 0)):=by rw [← Dy,e]
  have:=H6.1 h.hp
  rw [e2]
  have e3:uR*av t*av μ=uR*av (y 0-μ):=by rw [← h1]; grind
  rw [e3]; exact this
 have h5:av q≤av t+uR*av t:=by
  have:=Ih t (q-t)
  rw [show t+(q-t)=q by grind] at this
  grind
 have h6:=Ih (τ-q) (q-t)
 rw [show τ-q+(q-t)=τ-t by grind] at h6
 have t0:=Ed t
 have k1:=Ij h2
 have k2:=Ij h5
 have k3:uR*(uR*av t)≤1 / 1000000*(uR*av t):=Rat.mul_le_mul_of_nonneg_right G4 (Rat.mul_nonneg (Rat.le_of_lt u0) t0)
 have e1:B7≤uR / 1000000:=by decide +kernel
 grind
theorem Ii.tt (h:Ii k y v μ τ d p):av (tR y μ*(1+W2 k y μ)-2)≤41*uR:=by
 obtain ⟨hW,_⟩:=h.W
 have ht:=h.t
 obtain ⟨d1,d2,d3,d4⟩:=h.Agm
 have one:=h.one
 have hm:0<av μ:=by grind
 generalize W2 k y μ=W at *
 generalize tR y μ=t at *
 have e:(t*(1+W)-2)*(μ*(y 0-μ))=-(sq (k+1) y-μ*μ):=by
  have e0:(t*(1+W)-2)*(μ*(y 0-μ))*(y 0-μ)=-(sq (k+1) y-μ*μ)*(y 0-μ):=by grind
  have e1:((t*(1+W)-2)*(μ*(y 0-μ)) - -(sq (k+1) y-μ*μ))*(y 0-μ)=0:=by grind
  rcases Rat.mul_eq_zero.1 e1 with g | g
  ·grind
  ·exact absurd g d3
 have e2:av (t*(1+W)-2)*(av μ*av (y 0-μ))=av (sq (k+1) y-μ*μ):=by
  rw [← Dy,← Dy,e,Pp]
 have hl:=H6.1 h.len.symm
 have hm2:=h.m2.1
 have k1:=Rat.mul_le_mul_of_nonneg_left hm2 (show 0≤40*uR by decide +kernel)
 have c:40*uR*(1+41*uR)≤41*uR:=by decide +kernel
 have k2:=Rat.mul_le_mul_of_nonneg_right c (Bw μ)
 have k3:=Rat.mul_le_mul_of_nonneg_left d2 (Ed μ)
 rw [Km] at k3
 have k4:=Rat.mul_le_mul_of_nonneg_left k3 (show 0≤41*uR by decide +kernel)
 refine Rat.le_of_mul_le_mul_right (c:=av μ*av (y 0-μ)) ?_ (Rat.mul_pos hm d1)
 grind
theorem Ii.sqv (h:Ii k y v μ τ d p):sq (k+1) v=1+V2 k v:=by
 rw [N8,h.v0]
 unfold V2 sq
 grind
theorem Ii.Ase (h:Ii k y v μ τ d p):Nr (τ*sq (k+1) v) 2 (100*uR)∧Ab τ (21 / 10)∧sq (k+1) v≤201 / 100:=by
 have u0:=Ey
 have us:=G4
 have e1:B7≤uR / 1000000:=by decide +kernel
 obtain ⟨t1,t2,_⟩:=h.tle
 have hVW:=h.VW
 have hW:=h.Wle
 have hW0:=h.W.2
 have htt:=h.tt
 rw [h.sqv]
 have hV:=hVW.1
 have k0:uR*W2 k y μ≤2*uR:=Rat.le_trans (Ij hW) (by decide +kernel)
 have hV2:V2 k v≤101 / 100:=by grind
 refine ⟨?_,?_,by grind⟩
 ·rw [H6]
  have hV0:0≤V2 k v:=Px k fun i _=>Bw _
  generalize W2 k y μ=W at *
  generalize V2 k v=V at *
  generalize tR y μ=t at *
  have a1:av ((τ-t)*(1+V))≤7*uR*(201 / 100):=by
   rw [Dy]
   have:av (1+V)≤201 / 100:=by rw [Qh (by grind)]; grind
   exact D3 t2 this (by grind) (Ed _)
  have a2:av (t*(V-W))≤201 / 100*(20*uR):=by
   rw [Dy]
   have:=H6.1 hVW
   exact D3 t1 (show av (V-W)≤20*uR by grind) (by grind) (Ed _)
  have a3:=Ih ((τ-t)*(1+V)+t*(V-W)) (t*(1+W)-2)
  have a4:=Ih ((τ-t)*(1+V)) (t*(V-W))
  rw [show (τ-t)*(1+V)+t*(V-W)+(t*(1+W)-2)=τ*(1+V)-2 by grind] at a3
  grind
 ·have:=Ih (tR y μ) (τ-tR y μ)
  rw [show tR y μ+(τ-tR y μ)=τ by grind] at this
  have h2:=Hv τ
  unfold Ab at *
  grind
end
end Go.Cv
namespace Go.Cv
theorem Ln.Ama {n:Nat} {f g:Nat→Rat} {s:Rat} (h:∀ i,i<n→av (f i)≤g i) (k:Ln n g s):Ln n f s:=by
 refine ⟨k.1,Rat.le_trans (Rv n fun i hi=>?_) k.2⟩
 have:=O0 (Ed (f i)) (h i hi)
 rw [Km] at this
 exact this
section
variable {k:Nat} {y v:Nat→Rat} {μ τ d p:Rat}
def gR (k:Nat) (y v:Nat→Rat):Rat:=sm (k+1) fun j=>v j*y j
theorem Ii.g (h:Ii k y v μ τ d p):av (gR k y v+μ)≤46*uR*av μ:=by
 have u0:=Ey
 have us:=G4
 have e1:B7≤uR / 1000000:=by decide +kernel
 have e0:=Ej
 obtain ⟨d1,d2,d3,d4⟩:=h.Agm
 have one:=h.one
 have a0:=Ed μ
 have hm2:=h.m2.1
 have hX:sm k (fun i=>av (wR y μ (i+1))*av (y (i+1)))*av (y 0-μ)=sq (k+1) y-y 0*y 0:=by
  have e:sq (k+1) y-y 0*y 0=sq k (fun i=>y (i+1)):=by rw [N8]; grind
  rw [e]
  unfold sq
  rw [Rat.mul_comm,← F7]
  refine Bk k fun i _=>?_
  show av (y 0-μ)*(av (wR y μ (i+1))*av (y (i+1)))=y (i+1)*y (i+1)
  have h2:av (wR y μ (i+1))*av (y 0-μ)=av (y (i+1)):=by rw [← Dy,h.w]
  rw [← Km (y (i+1))]
  generalize av (wR y μ (i+1))=w at *
  rw [← h2]; grind
 have hX2:sm k (fun i=>av (wR y μ (i+1))*av (y (i+1)))≤101 / 100*av μ:=by
  refine Rat.le_of_mul_le_mul_right (c:=av (y 0-μ)) ?_ d1
  rw [hX]
  have y0:=Bw (y 0)
  have c:1+41*uR≤101 / 100:=by decide +kernel
  have k1:=Rat.mul_le_mul_of_nonneg_right c (Bw μ)
  have k2:=Rat.mul_le_mul_of_nonneg_left d2 a0
  rw [Km] at k2
  grind
 have hX0:0≤sm k (fun i=>av (wR y μ (i+1))*av (y (i+1))):=Px k fun i _=>Rat.mul_nonneg (Ed _) (Ed _)
 have hG:Nr (sm k fun i=>v (i+1)*y (i+1)) (sm k fun i=>wR y μ (i+1)*y (i+1)) (4*uR*sm k (fun i=>av (wR y μ (i+1))*av (y (i+1)))+12*B7):=by
  have h1:=Vf (f:=fun i=>v (i+1)*y (i+1)) (g:=fun i=>wR y μ (i+1)*y (i+1)) (d:=fun i=>4*uR*(av (wR y μ (i+1))*av (y (i+1)))+2*B7) k fun i hi=>by
   have hv:=h.vw hi
   have hy:=Ko (h.two (i+1) (by omega))
   have y0:=Ed (y (i+1))
   rw [H6]
   show av (v (i+1)*y (i+1)-wR y μ (i+1)*y (i+1))≤4*uR*(av (wR y μ (i+1))*av (y (i+1)))+2*B7
   rw [show v (i+1)*y (i+1)-wR y μ (i+1)*y (i+1)=(v (i+1)-wR y μ (i+1))*y (i+1) by grind,Dy]
   have h3:=Rat.mul_le_mul_of_nonneg_right hv y0
   have h4:=Rat.mul_le_mul_of_nonneg_left hy (Rat.le_of_lt e0)
   grind
  refine h1.mono ?_
  rw [Ha (fun i=>4*uR*(av (wR y μ (i+1))*av (y (i+1)))) (fun _=>2*B7),F7,N9]
  have hk:(k:Rat)≤6:=Ct h.k6
  have:=Rat.mul_le_mul_of_nonneg_right hk (show 0≤2*B7 by grind)
  grind
 have hGe:(sm k fun i=>wR y μ (i+1)*y (i+1))*(y 0-μ)=sq (k+1) y-y 0*y 0:=by
  have e:sq (k+1) y-y 0*y 0=sq k (fun i=>y (i+1)):=by rw [N8]; grind
  rw [e]
  unfold sq
  rw [Rat.mul_comm,← F7]
  refine Bk k fun i _=>?_
  show (y 0-μ)*(wR y μ (i+1)*y (i+1))=y (i+1)*y (i+1)
  have h2:=h.w (i+1)
  generalize wR y μ (i+1)=w at *
  rw [← h2]; grind
 have eg:gR k y v=y 0+sm k fun i=>v (i+1)*y (i+1):=by
  unfold gR
  rw [Jl,h.v0]; grind
 rw [eg]
 generalize (sm k fun i=>v (i+1)*y (i+1))=G at *
 generalize (sm k fun i=>wR y μ (i+1)*y (i+1))=Ge at *
 generalize sm k (fun i=>av (wR y μ (i+1))*av (y (i+1)))=X at *
 have h5:av (y 0+Ge+μ)≤41*uR*av μ:=by
  have e:(y 0+Ge+μ)*(y 0-μ)=sq (k+1) y-μ*μ:=by grind
  have e2:av (y 0+Ge+μ)*av (y 0-μ)=av (sq (k+1) y-μ*μ):=by rw [← Dy,e]
  have hl:=H6.1 h.len.symm
  have hl:av (sq (k+1) y-μ*μ)≤40*uR*sq (k+1) y:=H6.1 h.len.symm
  have k1:=Rat.mul_le_mul_of_nonneg_left hm2 (show 0≤40*uR by decide +kernel)
  have c:40*uR*(1+41*uR)≤41*uR:=by decide +kernel
  have k2:=Rat.mul_le_mul_of_nonneg_right c (Bw μ)
  have k3:=Rat.mul_le_mul_of_nonneg_left d2 a0
  rw [Km] at k3
  have k4:=Rat.mul_le_mul_of_nonneg_left k3 (show 0≤41*uR by decide +kernel)
  refine Rat.le_of_mul_le_mul_right (c:=av (y 0-μ)) ?_ d1
  grind
 have h6:=H6.1 hG
 have h7:=Ih (G-Ge) (y 0+Ge+μ)
 rw [show G-Ge+(y 0+Ge+μ)=y 0+G+μ by grind] at h7
 have k5:=Ij hX2
 have k6:uR≤uR*av μ:=by
  have:=Rat.mul_le_mul_of_nonneg_left one (Rat.le_of_lt u0)
  grind
 grind
theorem Ii.e (h:Ii k y v μ τ d p):av (y 0-μ-τ*gR k y v)≤104*uR*av μ:=by
 have u0:=Ey
 have hg:=h.g
 obtain ⟨t1,t2,t3⟩:=h.tle
 have ht:=h.t
 have h2:=Ko h.Ase.2.1
 generalize gR k y v=g at *
 have e:y 0-μ-τ*g=(τ-tR y μ)*μ-τ*(g+μ):=by grind
 have h3:=Ih ((τ-tR y μ)*μ) (-(τ*(g+μ)))
 rw [show (τ-tR y μ)*μ+-(τ*(g+μ))=(τ-tR y μ)*μ-τ*(g+μ) by grind,Pp,Dy,Dy] at h3
 rw [e]
 have a0:=Ed μ
 have k1:=Rat.mul_le_mul_of_nonneg_right t2 a0
 have k2:=D3 h2 hg (by grind) (Ed _)
 have k3:=Rat.mul_nonneg (Rat.le_of_lt u0) a0
 grind
theorem Ii.Azo (h:Ii k y v μ τ d p):Ln (k+1) (fun i=>y i-τ*gR k y v*v i-if i=0 then μ else 0) (200*uR*av μ):=by
 have u0:=Ey
 have e1:B7≤uR / 1000000:=by decide +kernel
 have e0:=Ej
 have one:=h.one
 have a0:=Ed μ
 have hE:=h.e
 obtain ⟨d1,d2,d3,d4⟩:=h.Agm
 have lv:Ln (k+1) v (3 / 2):=⟨by decide +kernel,Rat.le_trans h.Ase.2.2 (by decide +kernel)⟩
 have ly:Ln (k+1) y (101 / 100*av μ):=by
  refine ⟨by grind,?_⟩
  have c:1+41*uR≤101 / 100*(101 / 100):=by decide +kernel
  have k1:=Rat.mul_le_mul_of_nonneg_right c (Bw μ)
  have k2:=h.m2.1
  have:=Km μ
  grind
 have hA:=lv.scale (c:=y 0-μ-τ*gR k y v) (B:=104*uR*av μ) (by
  have:=Hv (y 0-μ-τ*gR k y v)
  unfold Ab at *; grind)
 have c1:Ln (k+1) (fun i=>4*uR*av (y i)) (4*uR*(101 / 100*av μ)):=by
  have lav:Ln (k+1) (fun i=>av (y i)) (101 / 100*av μ):=by
   refine ⟨ly.1,?_⟩
   have e:sq (k+1) (fun i=>av (y i))=sq (k+1) y:=Bk _ fun i _=>Km _
   rw [e]; exact ly.2
  exact lav.scale (c:=4*uR) (B:=4*uR) (by unfold Ab; grind)
 have c2:Ln (k+1) (fun _=>B7*av (y 0-μ)) (3*(B7*av (y 0-μ))):=by
  have:=Rat.mul_nonneg (Rat.le_of_lt e0) (Ed (y 0-μ))
  exact Ln.M3 this (fun i _=>by unfold Ab; grind) (by have:=h.k6; omega)
 have hB:Ln (k+1) (fun i=>if i=0 then 0 else (y 0-μ)*(wR y μ i-v i)) (4*uR*(101 / 100*av μ)+3*(B7*av (y 0-μ))):=by
  refine Ln.Ama (g:=fun i=>4*uR*av (y i)+B7*av (y 0-μ)) (fun i hi=>?_) (c1.add c2)
  cases i with
  | zero =>
    have k1:=Rat.mul_nonneg (Rat.le_of_lt u0) (Ed (y 0))
    have k2:=Rat.mul_nonneg (Rat.le_of_lt e0) (Ed (y 0-μ))
    have z:av 0=0:=by decide
    rw [A58 rfl,z]; grind
  | succ i =>
    rw [A57 (by omega),Dy]
    have hv:=h.vw (i:=i) (by omega)
    have h2:av (wR y μ (i+1))*av (y 0-μ)=av (y (i+1)):=by rw [← Dy,h.w]
    have h3:av (wR y μ (i+1)-v (i+1))=av (v (i+1)-wR y μ (i+1)):=by rw [← Pp]; congr 1; grind
    have h4:=Rat.mul_le_mul_of_nonneg_left hv (Rat.le_of_lt d1)
    rw [h3,← h2]
    clear hA c1 c2 lv ly
    grind
 have hs:=(hA.add hB).congr (g:=fun i=>y i-τ*gR k y v*v i-if i=0 then μ else 0) fun i hi=>by
  cases i with
  | zero =>
    rw [A58 rfl,A58 rfl,h.v0]; grind
  | succ i =>
    rw [A57 (by omega),A57 (by omega)]
    have:=h.w (i+1)
    generalize wR y μ (i+1)=w at *
    rw [← this]; grind
 refine hs.mono ?_
 have k1:=Rat.mul_le_mul_of_nonneg_left h.f0.2 (Rat.le_of_lt e0)
 have k2:=Rat.mul_le_mul_of_nonneg_right e1 a0
 have k3:=Rat.mul_nonneg (Rat.le_of_lt u0) a0
 grind
end
end Go.Cv
namespace Go.Cv
open Go.Den
theorem Avv {a b:Nat} (h:Br a=!Br b):vR a*vR b≤0:=by
 have ha:=Pl (An a) (Av a)
 have hb:=Pl (An b) (Av b)
 have hp:=Rat.mul_nonneg ha hb
 unfold vR
 rw [h]
 unfold Ps
 cases Br b
 ·have e1:(if (!false)=true then (-1:Rat) else 1)=-1:=rfl
  have e2:(if false=true then (-1:Rat) else 1)=1:=rfl
  rw [e1,e2]; grind
 ·have e1:(if (!true)=true then (-1:Rat) else 1)=1:=rfl
  have e2:(if true=true then (-1:Rat) else 1)=-1:=rfl
  rw [e1,e2]; grind
theorem Ai8:vR Ar3.toNat=1:=by decide +kernel
theorem Ark {n:Nat} {f:Nat→Int} {i:Nat} (hi:i+1<n):rv (Ic n f) (i+1)=vR (f (i+1)).toNat:=by
 unfold rv Ic
 rw [List.getD_cons_succ,A5v,A62,List.getElem?_range (by omega)]
 rfl
theorem Aai {x:List Int} {e:Int} {i:Nat} (hi:i<x.length):rv (Bg x e) i=vR (Cg (x.getD i 0).toNat e).1:=by
 unfold rv Bg
 rw [A5v,A62,A5v,A52 hi]
 show vR (Cc x[i] e).toNat=_
 rw [Dr]
 rfl
theorem Aot {x:List Int} {k:Nat} (hk:x.length=k+1) (h6:k≤6) (hf:Fm x=true) (ax:Ak x=true) (h:∃ z∈x,A3 z≠0) :
 Ii k (rv (Bg x (-Bj (A9 x)))) (rv (Xi x)) (vR (Pj x).toNat) (vR (Aa1 x).toNat) (vR (Eh (Et x) (Pj x)).toNat) (vR (Eh (Pj x) (Et x)).toNat):=by
 obtain ⟨m1,m2,m3,m4⟩:=Adn hf (by omega) h
 obtain ⟨f1,f2⟩:=Ah3 hf ax (by omega) h
 have sb:=Rx hf
 have s1:=Ac5 hf h
 have sl:(Bg x (-Bj (A9 x))).length=k+1:=by unfold Bg; rw [A6r,hk]
 have nv:=Ar8 sb (by omega) s1
 rw [sl] at nv
 have lm:=Kt (Asm x)
 have ef:rv (Bg x (-Bj (A9 x))) 0=vR (Et x).toNat:=by
  rw [Aai (by omega)]
  unfold Et
  rw [Dr]
 have fb:Bd 1 (Et x).toNat:=by
  have:=Q5 sb 0
  have e:(Bg x (-Bj (A9 x))).getD 0 0=Et x:=by
   unfold Bg Et
   cases x with
   | nil=>simp at hk
   | cons a t=>rfl
  rw [e] at this
  exact this
 have f64:(Et x).toNat<2^64:=Kt (Jo (Mu ax 0))
 have e1:(Eh (Et x) (Pj x)).toNat=(Z5 (Et x).toNat (Pj x).toNat).1:=Qm _ _
 have e2:(Eh (Pj x) (Et x)).toNat=(Z5 (Pj x).toNat (Et x).toNat).1:=Qm _ _
 refine ⟨h6,?_,Um m3,?_,?_,fun i _=>A2h sb i,?_,?_,fun i hi q hq=>?_,fun q hq=>?_⟩
 ·unfold Xi Ic rv
  rw [List.getD_cons_zero]
  exact Ai8
 ·rw [ef]
  cases x with
  | nil=>simp at hk
  | cons a t =>
    have ak:=Rh (K8 hf a A60)
    by_cases k0:A3 a=0
    ·have z:vR (Et (a::t)).toNat=0:=by
      refine Rr ?_
      unfold Et
      rw [Dr]
      have k0':Aj a.toNat=0:=by unfold A3 at k0; omega
      show Aj (Cg a.toNat _).1=0
      unfold Cg
      rw [A57 ak.2,A58 (.inr k0')]
      exact k0'
     rw [z]; grind
    ·refine Avv ?_
     have hn:Br (Et (a::t)).toNat=Br (D5 (Pj (a::t)).toNat):=by
      rw [m4]
      unfold Et
      rw [Dr]
      show Br (Cg a.toNat _).1=_
      rw [S9 ak.2]
      unfold O6
      rw [A57 k0]
      rfl
     rw [hn,(Kf lm).1]
 ·have em:vR (Pj x).toNat*vR (Pj x).toNat=vR (Dh (Bg x (-Bj (A9 x)))).toNat*vR (Dh (Bg x (-Bj (A9 x)))).toNat:=by
   unfold Pj
   split
   ·rfl
   ·have e:(D6 (Dh (Bg x (-Bj (A9 x))))).toNat=D5 (Dh (Bg x (-Bj (A9 x)))).toNat:=A5n _
    rw [e,Agt (Kt (Zf _))]
    grind
  rw [em]
  exact nv.1
 ·rw [ef,e1]
  refine Va lm fb.1 fb.2.1 m1.1 m1.2.1 ?_ (Hv _)
  rw [← e1]; exact f1.k3
 ·rw [ef,e2]
  refine Va (B:=av (vR (Et x).toNat-vR (Pj x).toNat)) f64 m1.1 m1.2.1 fb.1 fb.2.1 ?_ ?_
  ·rw [← e2]; exact f2.1
  ·have:=Hv (vR (Et x).toNat-vR (Pj x).toNat)
   unfold Ab at *; grind
 ·have er:rv (Xi x) (i+1)=vR (Rl (Cg (x.getD (i+1) 0).toNat (-Bj (A9 x))).1 (Eh (Et x) (Pj x)).toNat).1:=by
   unfold Xi
   rw [Ark (by omega),Pa,Dr]
  rw [Aai (by omega)] at hq
  have yb:Bd 1 (Cg (x.getD (i+1) 0).toNat (-Bj (A9 x))).1:=by
   have hm:x.getD (i+1) 0∈x:=by
    rw [A5v,A52 (show i+1<x.length by omega)]
    exact List.getElem_mem _
   have hb:=sb _ (List.mem_map.2 ⟨x.getD (i+1) 0,hm,rfl⟩)
   rw [Dr] at hb
   exact hb
  have vb:=Bd.div (j:=1) (t:=0) (by decide) yb f1
  rw [er]
  exact Zo yb.1 yb.2.1 f1.k3 f1.k4 f1.k0 vb.1 hq (Hv q)
 ·unfold Aa1
  rw [Pa]
  have tb:=Bd.div (j:=5) (t:=0) (by decide) f2 m2
  exact Zo f2.1 f2.2.1 m2.k3 m2.k4 m2.k0 tb.1 hq (Hv q)
end Go.Cv
namespace Go.Cv
open Go.Den
def vH (n:Nat) (v:Nat→Rat) (t:Rat) (a:Nat→Rat) (i:Nat):Rat:=a i-t*(sm n fun j=>v j*a j)*v i
theorem Aqi {n:Nat} {v:Nat→Rat} {t c:Rat} {a b:Nat→Rat} (i:Nat):vH n v t (fun j=>c*a j+b j) i=c*vH n v t a i+vH n v t b i:=by
 unfold vH
 have e:sm n (fun j=>v j*(c*a j+b j))=c*sm n (fun j=>v j*a j)+sm n (fun j=>v j*b j):=by
  rw [← F7,← Ha]
  exact Bk n fun j _=>by grind
 rw [e]; grind
theorem U8 {n:Nat} {v:Nat→Rat} {t:Rat} {a b:Nat→Rat} (h:∀ j,j<n→a j=b j) {i:Nat} (hi:i<n):vH n v t a i=vH n v t b i:=by
 unfold vH
 rw [Bk n (f:=fun j=>v j*a j) (g:=fun j=>v j*b j) fun j hj=>by rw [h j hj],h i hi]
theorem A0o {n:Nat} {v a:Nat→Rat} {t s:Rat} (ht:Ab t (21 / 10)) (hv:sq n v≤201 / 100) (ha:Ln n a s):Ln n (vH n v t a) (6*s):=by
 have lv:Ln n v (3 / 2):=⟨by decide +kernel,Rat.le_trans hv (by decide +kernel)⟩
 have hd:=lv.dot ha
 have hc:Ab (t*sm n fun j=>v j*a j) (21 / 10*(3 / 2*s)):=by
  have h1:=D3 (Ko ht) (Ko hd) (by decide +kernel) (Ed _)
  rw [← Dy] at h1
  have:=Hv (t*sm n fun j=>v j*a j)
  unfold Ab at *; grind
 have h2:=lv.scale hc
 have h3:=ha.sub h2
 have s0:=ha.1
 exact (h3.congr fun i _=>rfl).mono (by grind)
structure A0c (n:Nat) (x v:Nat→Rat) (t b s:Rat):Prop where
 tt:av (t*(t*sq n v-2))≤220*uR
 tb:Ab t (21 / 10)
 vv:sq n v≤201 / 100
 mir:Ln n (fun i=>vH n v t x i-if i=0 then b else 0) (205*uR*s+B7)
theorem Ahe {n:Nat} (hn:n≠0) (i:Nat):rv (Ic n fun _=>0) i=if i=0 then 1 else 0:=by
 cases i with
 | zero =>
   rw [A58 rfl]
   unfold rv Ic
   rw [List.getD_cons_zero]
   exact Ai8
 | succ i =>
   rw [A57 (by omega)]
   have z:vR (toNat 0)=0:=Jv false
   by_cases hi:i+1<n
   ·rw [Ark hi]; exact z
   ·unfold rv
    rw [A5v,A63 (by rw [Kw hn]; omega)]
    exact z
theorem Aj4 {x:List Int} {i:Nat} (h:Fx (x.drop 1)=true) (hi:0<i):rv x i=0:=by
 unfold rv
 by_cases hl:i<x.length
 ·have hm:x.getD i 0∈x.drop 1:=by
   rw [A5v,A52 hl]
   refine List.mem_iff_getElem.2 ⟨i-1,by rw [List.length_drop]; omega,?_⟩
   rw [List.getElem_drop]
   show x[1+(i-1)]=x[i]
   congr 1; omega
  have:=A6b (List.all_eq_true.1 h _ hm)
  refine Rr ?_
  unfold A3 at this
  omega
 ·rw [A5v,A63 (by omega)]
  exact Jv false
theorem Aa4 {x:List Int} {k:Nat} {s:Rat} (hk:x.length=k+1) (h6:k≤6) (ax:Ak x=true) (he:(Bu x).2.2.2=0) (hs:Ln (k+1) (rv x) s) :
 A0c (k+1) (rv x) (rv (Bu x).1) (vR (Bu x).2.1.toNat) (vR (Bu x).2.2.1.toNat) s:=by
 have u0:=Ey
 have e0:=Ej
 have s0:=hs.1
 have us:=Rat.mul_nonneg (Rat.le_of_lt u0) s0
 unfold Bu at he ⊢
 by_cases h1:x.length=0∨64<x.length
 ·rw [A58 h1] at he; exact absurd he (by decide)
 rw [A57 h1] at he ⊢
 by_cases hf':¬ Fm x=true
 ·rw [A57 hf'] at he; exact absurd he (by decide)
 have hf:=Classical.not_not.1 hf'
 rw [A58 hf] at he ⊢
 unfold Ahn at he ⊢
 by_cases h3:Fx (x.drop 1)=true
 ·rw [A58 h3]
  dsimp only
  have hv:∀ i,rv (Ic x.length fun _=>0) i=if i=0 then 1 else 0:=Ahe (by omega)
  have z:vR (toNat 0)=0:=Jv false
  rw [z]
  have sv:sq (k+1) (rv (Ic x.length fun _=>0))=1:=by
   rw [N8,hv 0,A58 rfl]
   have:sq k (fun i=>rv (Ic x.length fun _=>0) (i+1))=0:=by
    unfold sq
    rw [Bk k (g:=fun _=>0) fun i _=>by
     dsimp only
     rw [hv (i+1),A57 (by omega)]; grind]
    exact Iy k
   rw [this]; grind
  refine ⟨?_,by unfold Ab; grind,by rw [sv]; decide +kernel,?_⟩
  ·have:av (0*(0*sq (k+1) (rv (Ic x.length fun _=>0))-2))=0:=by rw [Rat.zero_mul]; decide
   rw [this]; grind
  ·refine ((Ln.zero (k+1)).congr fun i hi=>?_).mono (by grind)
   unfold vH
   cases i with
   | zero =>
     rw [A58 rfl]
     show rv x 0-0*_*_-vR (x.getD 0 0).toNat=0
     have:rv x 0=vR (x.getD 0 0).toNat:=rfl
     rw [this]; grind
   | succ i =>
     rw [A57 (by omega),Aj4 h3 (by omega)]; grind
 ·rw [A57 h3] at he ⊢
  by_cases h4':¬ Dm (Gp x)=true
  ·rw [A57 h4'] at he; exact absurd he (by decide)
  have h4:=Classical.not_not.1 h4'
  rw [A58 h4]
  dsimp only
  have hsome:=Ts h3
  have M:=Aot hk h6 hf ax hsome
  have hM:=M.Azo
  obtain ⟨n2,tb,vv⟩:=M.Ase
  have one:=M.one
  have hlen:=M.len
  obtain ⟨m1,m2,m3,m4⟩:=Adn hf (by omega) hsome
  have hb:Nr (vR (Gp x).toNat) (vR (Pj x).toNat*tw (Bj (A9 x))) B7:=by
   have eb:(Gp x).toNat=(Cg (Pj x).toNat (Bj (A9 x))).1:=Dr _ _
   rw [eb]
   refine Ta m1.1 m1.2.1 ?_
   rw [← eb]
   exact (Rh h4).1
  have hK:tw (Bj (A9 x))*tw (-Bj (A9 x))=1:=by
   rw [← Ep,show Bj (A9 x)+-Bj (A9 x)=0 by omega]; exact S3
  have hK0:=Dp (Bj (A9 x))
  have hsb:=Rx hf
  have hd:∀ i,i<k+1→av (rv x i-tw (Bj (A9 x))*rv (Bg x (-Bj (A9 x))) i)≤B7*tw (Bj (A9 x)):=fun i hi=>by
   have hm:x.getD i 0∈x:=by
    rw [A5v,A52 (show i<x.length by omega)]
    exact List.getElem_mem _
   have xk:=Rh (K8 hf _ hm)
   have yb:=hsb _ (List.mem_map.2 ⟨x.getD i 0,hm,rfl⟩)
   rw [Dr] at yb
   have h5:=H6.1 (Ta (n:=-Bj (A9 x)) xk.1 xk.2 yb.1)
   have ex:rv x i=vR (x.getD i 0).toNat:=rfl
   rw [Aai (by omega),ex]
   generalize vR (Cg (x.getD i 0).toNat (-Bj (A9 x))).1=Y at *
   generalize vR (x.getD i 0).toNat=X at *
   have e:X-tw (Bj (A9 x))*Y=-(Y-X*tw (-Bj (A9 x)))*tw (Bj (A9 x)):=by
    have:X=X*(tw (Bj (A9 x))*tw (-Bj (A9 x))):=by rw [hK]; grind
    grind
   rw [e,Dy,Pp,Qh (Rat.le_of_lt hK0)]
   exact Rat.mul_le_mul_of_nonneg_right h5 (Rat.le_of_lt hK0)
  generalize rv (Bg x (-Bj (A9 x)))=y at *
  generalize vR (Pj x).toNat=μ at *
  generalize rv (Xi x)=v at *
  generalize vR (Aa1 x).toNat=t at *
  generalize vR (Gp x).toNat=b at *
  generalize tw (Bj (A9 x))=K at *
  generalize rv x=X at *
  have eK:=Rat.mul_nonneg (Rat.le_of_lt e0) (Rat.le_of_lt hK0)
  have lD:Ln (k+1) (fun i=>X i-K*y i) (3*(B7*K)):=Ln.M3 eK (fun i hi=>by
   have:=hd i hi
   have h2:=Hv (X i-K*y i)
   unfold Ab at *; grind) (by omega)
  have hKm:K*av μ≤1001 / 1000*s:=by
   have a1:Ln (k+1) (fun i=>K*y i) (s+3*(B7*K)):=(hs.sub lD).congr fun i _=>by grind
   have a2:sq (k+1) (fun i=>K*y i)=K*K*sq (k+1) y:=by
    unfold sq
    rw [← F7]
    exact Bk _ fun i _=>by grind
   have a3:=a1.2
   rw [a2] at a3
   have a4:=hlen.1
   have c1:1+40*uR≤10001 / 10000*(10001 / 10000):=by decide +kernel
   have a5:=Rat.mul_le_mul_of_nonneg_right c1 (Mc (k+1) y)
   have a6:=Rat.mul_le_mul_of_nonneg_left (show μ*μ≤10001 / 10000*(10001 / 10000)*sq (k+1) y by grind) (Rat.mul_nonneg (Rat.le_of_lt hK0) (Rat.le_of_lt hK0))
   have a7:K*av μ≤10001 / 10000*(s+3*(B7*K)):=by
    refine Oh (by grind) ?_
    have e1:K*av μ*(K*av μ)=K*K*(μ*μ):=by rw [← Km μ]; grind
    rw [e1]
    have a8:=Rat.mul_le_mul_of_nonneg_left a3 (show (0:Rat)≤10001 / 10000*(10001 / 10000) by decide +kernel)
    grind
   have a9:B7*K≤1 / 1000000*(K*av μ):=by
    have b1:=Rat.mul_le_mul_of_nonneg_left one (Rat.le_of_lt hK0)
    have b2:B7≤1 / 1000000:=by decide +kernel
    have b3:=D3 b2 b1 (by decide +kernel) (by grind)
    grind
   grind
  have hM2:=hM.scale (c:=K) (B:=K) (by unfold Ab; grind)
  have hD2:=A0o tb vv lD
  have hbe:Ln (k+1) (fun i=>if i=0 then μ*K-b else 0) B7:=by
   refine ⟨Rat.le_of_lt e0,?_⟩
   have e:sq (k+1) (fun i=>if i=0 then μ*K-b else 0)=(μ*K-b)*(μ*K-b):=by
    rw [N8]
    have:sq k (fun i=>if i+1=0 then μ*K-b else 0)=0:=by
     unfold sq
     rw [Bk k (g:=fun _=>0) fun i _=>by
      dsimp only
      rw [A57 (by omega)]; grind]
     exact Iy k
    rw [this,A58 rfl]; grind
   rw [e,← Km]
   have:=H6.1 hb.symm
   exact O0 (Ed _) this
  have hsum:=((hM2.add hD2).add hbe).congr (g:=fun i=>vH (k+1) v t X i-if i=0 then b else 0) fun i hi=>by
   have e1:vH (k+1) v t X i=K*vH (k+1) v t y i+vH (k+1) v t (fun i=>X i-K*y i) i:=by
    rw [← Aqi]
    exact U8 (fun j _=>by grind) hi
   have e2:vH (k+1) v t y i=y i-t*gR k y v*v i:=rfl
   rw [e1,e2]
   by_cases h:i=0
   ·rw [A58 h,A58 h,A58 h]; grind
   ·rw [A57 h,A57 h,A57 h]; grind
  refine ⟨?_,tb,vv,hsum.mono ?_⟩
  ·rw [Dy]
   have h1:=D3 (Ko tb) (H6.1 n2) (by decide +kernel) (Ed _)
   grind
  ·have k1:=Ij hKm
   have k2:B7*K≤uR / 1000000*(K*av μ):=by
    have b1:=Rat.mul_le_mul_of_nonneg_left one (Rat.le_of_lt hK0)
    have b2:B7≤uR / 1000000:=by decide +kernel
    have b3:=D3 b2 b1 (by grind) (by grind)
    grind
   grind
end Go.Cv
namespace Go.Cv
open Go.Den
theorem Ln.avs {n:Nat} {f:Nat→Rat} {s:Rat} (h:Ln n f s):Ln n (fun i=>av (f i)) s:=by
 refine ⟨h.1,?_⟩
 have e:sq n (fun i=>av (f i))=sq n f:=Bk n fun i _=>Km (f i)
 rw [e]; exact h.2
theorem Wj {c t q T A z t' u e:Rat} (hc:0≤c) (hc2:c≤20) (hT:av T≤A) (hu:0<u) (hu2:u≤1 / 1000000) (he:0<e)
 (h1:Nr t T (3*c*u*A+2*c*e)) (h2:Nr q z (u*av z+e)) (h3:Nr t' (t+q) (u*(A+(3*c*u*A+2*c*e)+(av z+(u*av z+e))))) :
 Nr t' (T+z) (3*(c+1)*u*(A+av z)+2*(c+1)*e)∧av (T+z)≤A+av z:=by
 have hA:0≤A:=Rat.le_trans (Ed T) hT
 have hz:=Ed z
 have a0:=Rat.mul_nonneg (Rat.le_of_lt hu) hA
 have b0:=Rat.mul_nonneg (Rat.le_of_lt hu) hz
 have c1:3*c*u≤1:=by
  have:=Rat.mul_le_mul_of_nonneg_right hc2 (Rat.le_of_lt hu)
  grind
 have k1:=Rat.mul_le_mul_of_nonneg_right c1 a0
 have k2:=Rat.mul_le_mul_of_nonneg_right (show u≤1 by grind) b0
 have c3:(2*c+1)*u≤1:=by
  have:=Rat.mul_le_mul_of_nonneg_right hc2 (Rat.le_of_lt hu)
  grind
 have k3:=Rat.mul_le_mul_of_nonneg_right c3 (Rat.le_of_lt he)
 have k4:=Rat.mul_nonneg hc b0
 have:=Ih T z
 refine ⟨?_,by grind⟩
 unfold Nr at *
 grind
theorem Aiq {j k:Nat} (hjk:j+k≤1000):∀ (x y:List Int) (s t:Nat) (T A c:Rat),x.length=y.length→Bl j x→Bl k y→Bm t (j+k) s→0<t→t+x.length≤1000→av T≤A→0≤c→c+(x.length:Rat)≤20→Nr (vR s) T (3*c*uR*A+2*c*B7) →
 Nr (vR (Tz s x y)) (T+sm x.length fun i=>rv x i*rv y i) (3*(c+(x.length:Rat))*uR*(A+sm x.length fun i=>av (rv x i)*av (rv y i))+2*(c+(x.length:Rat))*B7)
 | [],[],s,t,T,A,c,_,_,_,_,_,_,_,_,_,h=>by
   have z:((([]:List Int).length:Nat):Rat)=0:=rfl
   have e:(sm ([]:List Int).length fun i=>rv [] i*rv [] i)=0:=rfl
   have e':(sm ([]:List Int).length fun i=>av (rv [] i)*av (rv [] i))=0:=rfl
   rw [z,e,e',Rat.add_zero,Rat.add_zero,Rat.add_zero]
   exact h
 | [],_::_,_,_,_,_,_,hl,_,_,_,_,_,_,_,_,_=>by simp at hl
 | _::_,[],_,_,_,_,_,hl,_,_,_,_,_,_,_,_,_=>by simp at hl
 | a::x,b::y,s,t,T,A,c,hl,hx,hy,hs,h0,ht,hT,hc,hc2,h=>by
   have el:(((a::x).length:Nat):Rat)=(x.length:Rat)+1:=by
    rw [List.length_cons]; exact Rat.natCast_add _ 1
   simp only [List.length_cons] at ht hl
   rw [el] at hc2 ⊢
   have hln:=Lt x.length
   have ba:=hx a A60
   have bb:=hy b A60
   have b2:=Bd.mul (show j+k≤1023 by omega) ba bb
   have b3:=Bm.add (k:=j+k) (by omega) (by omega) hjk hs b2.bm
   have m1:=Ti ba.1 ba.2.1 bb.1 bb.2.1 b2.1 (B:=av (vR a.toNat*vR b.toNat)) (Hv _)
   have u0:=Ey
   have e0:=Ej
   have m2:=Zu hs.1 hs.2.1 b2.1 b2.2.1 b3.1 (B:=A+(3*c*uR*A+2*c*B7)+(av (vR a.toNat*vR b.toNat)+(uR*av (vR a.toNat*vR b.toNat)+B7))) (by
    have n1:=I8 (z:=0) h
    have n3:=I8 (z:=0) m1
    have n4:=Ih (vR s) (vR (H7 a.toNat b.toNat).1)
    have n5:=Hv (vR s+vR (H7 a.toNat b.toNat).1)
    unfold Ab at *
    grind)
   obtain ⟨st,sT⟩:=Wj hc (by grind) hT u0 G4 e0 h m1 m2
   have ih:=Aiq hjk x y _ (t+1) (T+vR a.toNat*vR b.toNat) (A+av (vR a.toNat*vR b.toNat)) (c+1) (by omega) (fun z hz=>hx z (A6q _ hz)) (fun z hz=>hy z (A6q _ hz)) b3 (by omega) (by omega) sT (by grind) (by grind) st
   have es:(sm (a::x).length fun i=>rv (a::x) i*rv (b::y) i)=vR a.toNat*vR b.toNat+sm x.length fun i=>rv x i*rv y i:=by
    rw [List.length_cons,Jl]
    rfl
   have es':(sm (a::x).length fun i=>av (rv (a::x) i)*av (rv (b::y) i))=av (vR a.toNat*vR b.toNat)+sm x.length fun i=>av (rv x i)*av (rv y i):=by
    rw [List.length_cons,Jl,Dy]
    rfl
   have eq:Tz s (a::x) (b::y)=Tz (Fz s (H7 a.toNat b.toNat).1).1 x y:=rfl
   rw [es,es',eq]
   rw [show T+(vR a.toNat*vR b.toNat+sm x.length fun i=>rv x i*rv y i)=T+vR a.toNat*vR b.toNat+sm x.length fun i=>rv x i*rv y i by grind,show A+(av (vR a.toNat*vR b.toNat)+sm x.length fun i=>av (rv x i)*av (rv y i))=A+av (vR a.toNat*vR b.toNat)+sm x.length fun i=>av (rv x i)*av (rv y i) by grind,show c+((x.length:Rat)+1)=c+1+(x.length:Rat) by grind]
   exact ih
theorem Amz {j k:Nat} (hjk:j+k≤1000) {x y:List Int} {s t:Rat} (hl:x.length=y.length) (h7:x.length≤7) (hx:Bl j x) (hy:Bl k y) (lx:Ln x.length (rv x) s) (ly:Ln x.length (rv y) t) :
 Nr (vR (Lx x y).toNat) (sm x.length fun i=>rv x i*rv y i) (21*uR*(s*t)+14*B7):=by
 have u0:=Ey
 have e0:=Ej
 have z0:vR 0=0:=Jv false
 have a0:av 0=0:=by decide
 have hlen:(x.length:Rat)≤7:=Ct h7
 have hln:=Lt x.length
 have h:=Aiq hjk x y 0 1 0 0 0 hl hx hy (Bd.zero false (j+k)).bm (by decide) (by omega) (by rw [a0]; exact Rat.le_refl) Rat.le_refl (by grind) (by rw [z0]; unfold Nr; grind)
 have hd:=(lx.avs.dot ly.avs).2
 have hd0:0≤sm x.length fun i=>av (rv x i)*av (rv y i):=Px _ fun i _=>Rat.mul_nonneg (Ed _) (Ed _)
 have e:(Lx x y).toNat=Tz 0 x y:=A5n _
 rw [e]
 rw [Rat.zero_add] at h
 refine h.mono ?_
 have k1:=Ij hd
 have k2:=Rat.mul_nonneg (Rat.le_of_lt u0) hd0
 have k3:=Rat.mul_le_mul_of_nonneg_right hlen k2
 have k4:=Rat.mul_le_mul_of_nonneg_right hlen (Rat.le_of_lt e0)
 grind
end Go.Cv
namespace Go.Cv
open Go.Den
theorem Arj {c b i:Int} {n m:Nat} {l:List Int} (hm:m<n):rv (By c l b i n) m=vR (Co c l (i+(m:Int)) b).toNat:=by
 unfold rv By
 rw [A5v,A62,List.getElem?_range hm]
 rfl
theorem Aeb {c i t b:Int} {l v:List Int} {n j:Nat} {s:Rat} (hn:v.length=n) (h7:n≤7) (hj:j≤900) (al:Ak l=true) (hl:Bl j l) (hv:Bl 1 v) (ht:Bd 5 t.toNat)
 (vv:sq n (rv v)≤201 / 100) (tb:Ab (vR t.toNat) (21 / 10)) (ha:Ln n (rv (By c l b i n)) s) :
 Ln n (fun m=>vR (Eh (Co c l (i+(m:Int)) b) (Em (Ly c l i v t b) (v.getD m 0))).toNat-vH n (rv v) (vR t.toNat) (rv (By c l b i n)) m) (120*uR*s+100*B7):=by
 have u0:=Ey
 have us:=G4
 have e0:=Ej
 have e1:B7≤1 / 1000000:=by decide +kernel
 have s0:=ha.1
 have us0:=Rat.mul_nonneg (Rat.le_of_lt u0) s0
 have ue0:=Rat.mul_nonneg (Rat.le_of_lt u0) (Rat.le_of_lt e0)
 have uus:uR*(uR*s)≤1 / 1000000*(uR*s):=Rat.mul_le_mul_of_nonneg_right us us0
 have ue1:uR*B7≤1 / 1000000*B7:=Rat.mul_le_mul_of_nonneg_right us (Rat.le_of_lt e0)
 have us1:uR*s≤1 / 1000000*s:=Rat.mul_le_mul_of_nonneg_right us s0
 have lv:Ln n (rv v) (3 / 2):=⟨by decide +kernel,Rat.le_trans vv (by decide +kernel)⟩
 have sl:(By c l b i n).length=n:=Gl _ _ _ _ _
 have hsg:Bl j (By c l b i n):=Aah hl
 have hd:=Amz (j:=1) (k:=j) (x:=v) (y:=By c l b i n) (s:=3 / 2) (t:=s) (by omega) (by rw [hn,sl]) (by omega) hv hsg (by rw [hn]; exact lv) (by rw [hn]; exact ha)
 rw [hn] at hd
 have db:=Af7 (j:=1) (k:=j) (by omega) hv hsg (by omega)
 have dd:=(lv.dot ha)
 have wb:Bd (j+9) (Ly c l i v t b).toNat:=by
  unfold Ly
  rw [K3,hn]
  exact (Bd.mul (by omega) ht db).mono (by omega)
 have hw:Nr (vR (Ly c l i v t b).toNat) (vR t.toNat*vR (Lx v (By c l b i n)).toNat) (uR*av (vR t.toNat*vR (Lx v (By c l b i n)).toNat)+B7):=by
  have e:(Ly c l i v t b).toNat=(H7 t.toNat (Lx v (By c l b i n)).toNat).1:=by
   unfold Ly
   rw [K3,hn]
  rw [e] at wb ⊢
  exact Ti ht.1 ht.2.1 db.1 db.2.1 wb.1 (Hv _)
 generalize Ly c l i v t b=w at *
 have vHe:∀ m,vH n (rv v) (vR t.toNat) (rv (By c l b i n)) m=rv (By c l b i n) m-vR t.toNat*(sm n fun i_1=>rv v i_1*rv (By c l b i n) i_1)*rv v m:=fun m=>rfl
 generalize (sm n fun i_1=>rv v i_1*rv (By c l b i n) i_1)=D at *
 generalize vR (Lx v (By c l b i n)).toNat=D' at *
 have d1:=Ko dd
 have d2:=I8 (z:=0) hd
 have t1:=Ko tb
 have d3:av D'≤16 / 10*s+15*B7:=by grind
 have w1:av (vR t.toNat*D')≤34 / 10*s+32*B7:=by
  rw [Dy]
  have:=D3 t1 d3 (by decide +kernel) (Ed _)
  grind
 have w2:=I8 (z:=0) hw
 have w3:=Ij w1
 have wW:av (vR w.toNat)≤35 / 10*s+34*B7:=by grind
 have wD:av (vR w.toNat-vR t.toNat*D)≤71*uR*s+32*B7:=by
  have h1:=H6.1 hw
  have h2:=H6.1 hd
  have h3:=Ih (vR w.toNat-vR t.toNat*D') (vR t.toNat*(D' - D))
  rw [show vR w.toNat-vR t.toNat*D'+vR t.toNat*(D' - D)=vR w.toNat-vR t.toNat*D by grind,Dy] at h3
  have h4:=D3 t1 h2 (by decide +kernel) (Ed _)
  grind
 have q1:∀ m,av (vR (Em w (v.getD m 0)).toNat-vR w.toNat*rv v m)≤uR*(35 / 10*s+34*B7)*av (rv v m)+B7:=fun m=>by
  have bv:=Q5 hv m
  have bq:=Bd.mul (j:=j+9) (k:=1) (by omega) wb bv
  have h1:=H6.1 (Ti wb.1 wb.2.1 bv.1 bv.2.1 bq.1 (Hv _))
  rw [K3]
  have e:vR (v.getD m 0).toNat=rv v m:=rfl
  rw [e,Dy] at h1
  have h2:=Rat.mul_le_mul_of_nonneg_right wW (Ed (rv v m))
  have h3:=Ij h2
  grind
 have o1:∀ m,m<n→av (vR (Eh (Co c l (i+(m:Int)) b) (Em w (v.getD m 0))).toNat-(rv (By c l b i n) m-vR (Em w (v.getD m 0)).toNat))≤uR*av (rv (By c l b i n) m-vR (Em w (v.getD m 0)).toNat):=fun m hm=>by
  have ba:=Mt (c:=c) (i:=i+(m:Int)) (j:=b) hl
  have bq:Bd (j+10) (Em w (v.getD m 0)).toNat:=by
   rw [K3]
   exact Bd.mul (j:=j+9) (k:=1) (by omega) wb (Q5 hv m)
  have bo:=Bd.sub (k:=j+10) (by omega) (Kt (K4 _ _)) (ba.mono (by omega)) bq
  rw [Arj hm,Qm]
  exact H6.1 (Va (Kt (K4 _ _)) ba.1 ba.2.1 bq.1 bq.2.1 bo.1 (Hv _))
 have L1:=lv.scale (c:=vR t.toNat*D-vR w.toNat) (B:=71*uR*s+32*B7) (by
  have:=Hv (vR w.toNat-vR t.toNat*D)
  unfold Ab at *; grind)
 have Lq:Ln n (fun m=>vR (Em w (v.getD m 0)).toNat-vR w.toNat*rv v m) (uR*(35 / 10*s+34*B7)*(3 / 2)+3*B7):=by
  have k1:=lv.avs.scale (c:=uR*(35 / 10*s+34*B7)) (B:=uR*(35 / 10*s+34*B7)) (by
   have:=Rat.mul_nonneg (Rat.le_of_lt u0) (show 0≤35 / 10*s+34*B7 by grind)
   unfold Ab; grind)
  have k2:Ln n (fun _=>B7) (3*B7):=Ln.M3 (Rat.le_of_lt e0) (fun _ _=>by unfold Ab; grind) (by omega)
  exact Ln.Ama (fun m _=>q1 m) (k1.add k2)
 have La:Ln n (fun m=>rv (By c l b i n) m-vR (Em w (v.getD m 0)).toNat) (s+((35 / 10*s+34*B7)*(3 / 2)+(uR*(35 / 10*s+34*B7)*(3 / 2)+3*B7))):=by
  have k1:=lv.scale (c:=vR w.toNat) (B:=35 / 10*s+34*B7) (by
   have:=Hv (vR w.toNat)
   unfold Ab at *; grind)
  exact (ha.sub (k1.add Lq)).congr fun m _=>by grind
 have Lo:Ln n (fun m=>vR (Eh (Co c l (i+(m:Int)) b) (Em w (v.getD m 0))).toNat-(rv (By c l b i n) m-vR (Em w (v.getD m 0)).toNat)) (uR*(s+((35 / 10*s+34*B7)*(3 / 2)+(uR*(35 / 10*s+34*B7)*(3 / 2)+3*B7)))) :=
  Ln.Ama o1 (La.avs.scale (c:=uR) (B:=uR) (by unfold Ab; grind))
 have hs:=((Lo.sub Lq).add L1).congr (g:=fun m=>vR (Eh (Co c l (i+(m:Int)) b) (Em w (v.getD m 0))).toNat-vH n (rv v) (vR t.toNat) (rv (By c l b i n)) m) fun m _=>by
  rw [vHe]; grind
 refine hs.mono ?_
 clear hs Lo La Lq L1 o1 q1 wD wW w3 w2 w1 d3 d2 d1 vHe hw wb dd db hd hsg lv ha hv hl al
 have hA:uR*(35 / 10*s+34*B7)≤35 / 10*(uR*s)+B7:=by grind
 have hA1:uR*(35 / 10*s+34*B7)≤s / 1000+B7:=by grind
 generalize hAA:uR*(35 / 10*s+34*B7)=A at *
 have hX:s+((35 / 10*s+34*B7)*(3 / 2)+(A*(3 / 2)+3*B7))≤7*s+60*B7:=by grind
 have hX2:=Ij hX
 have hX3:uR*(7*s+60*B7)≤7*(uR*s)+B7:=by grind
 have h1:(71*uR*s+32*B7)*(3 / 2)=213 / 2*(uR*s)+48*B7:=by grind
 rw [h1]
 have h2:120*uR*s+100*B7=120*(uR*s)+100*B7:=by grind
 rw [h2]
 generalize uR*(s+((35 / 10*s+34*B7)*(3 / 2)+(A*(3 / 2)+3*B7)))=X at *
 generalize uR*(7*s+60*B7)=Y at *
 generalize uR*s=us' at *
 grind
end Go.Cv
namespace Go.Cv
open Go.Den
def vx (j:Nat) (v:Nat→Rat) (i:Nat):Rat:=if i<j then 0 else v (i-j)
theorem Ve {j:Nat} {f:Nat→Rat} (h:∀ i,i<j→f i=0):∀ n,sm (j+n) f=sm n fun m=>f (j+m)
 | 0=>by
   rw [A6t,Bk j (g:=fun _=>0) h,Iy]
   rfl
 | n+1=>by
   show sm (j+n) f+f (j+n)=sm n (fun m=>f (j+m))+f (j+n)
   rw [Ve h n]
theorem Aqa (j n:Nat) (v a:Nat→Rat):(sm (j+n) fun i=>vx j v i*a i)=sm n fun m=>v m*a (j+m):=by
 rw [Ve (fun i hi=>by unfold vx; rw [A58 hi]; grind)]
 refine Bk n fun m _=>?_
 unfold vx
 rw [A57 (by omega),Nat.add_sub_cancel_left]
theorem Ap9 (j n:Nat) (v:Nat→Rat):sq (j+n) (vx j v)=sq n v:=by
 unfold sq
 rw [Aqa j n v (vx j v)]
 refine Bk n fun m _=>?_
 unfold vx
 rw [A57 (by omega),Nat.add_sub_cancel_left]
theorem Ln.tail {j n:Nat} {f:Nat→Rat} {s:Rat} (h:∀ i,i<j→f i=0) (k:Ln n (fun m=>f (j+m)) s):Ln (j+n) f s:=by
 refine ⟨k.1,?_⟩
 have e:sq (j+n) f=sq n fun m=>f (j+m):=Ve (f:=fun i=>f i*f i) (fun i hi=>by rw [h i hi]; grind) n
 rw [e]; exact k.2
theorem Pw (j:Nat) (f:Nat→Rat):∀ n,sm (j+n) f=sm j f+sm n fun m=>f (j+m)
 | 0=>by
   show sm j f=sm j f+0
   grind
 | n+1=>by
   show sm (j+n) f+f (j+n)=sm j f+(sm n (fun m=>f (j+m))+f (j+n))
   rw [Pw j f n]; grind
theorem Ln.behind {j n:Nat} {f:Nat→Rat} {s:Rat} (h:Ln (j+n) f s):Ln n (fun m=>f (j+m)) s:=by
 refine ⟨h.1,Rat.le_trans ?_ h.2⟩
 unfold sq
 rw [Pw j (fun i=>f i*f i) n]
 have:=Px (f:=fun i=>f i*f i) j fun i _=>Bw _
 grind
theorem Acq {j n i:Nat} {v a:Nat→Rat} {t:Rat}:vH (j+n) (vx j v) t a i=if i<j then a i else vH n v t (fun m=>a (j+m)) (i-j):=by
 unfold vH
 rw [Aqa]
 by_cases h:i<j
 ·rw [A58 h]
  unfold vx
  rw [A58 h]; grind
 ·rw [A57 h]
  unfold vx
  rw [A57 h]
  dsimp only
  rw [show j+(i-j)=i by omega]
structure Mi (r:Nat) (v:Nat→Rat) (t:Rat):Prop where
 tt:av (t*(t*sq r v-2))≤220*uR
 tb:Ab t (21 / 10)
 vv:sq r v≤201 / 100
section
variable {r:Nat} {v a:Nat→Rat} {t s:Rat}
theorem Mi.lv (h:Mi r v t):Ln r v (3 / 2):=⟨by decide +kernel,Rat.le_trans h.vv (by decide +kernel)⟩
theorem Aqj (b:Nat→Rat):(sm r fun i=>vH r v t a i*vH r v t b i)=(sm r fun i=>a i*b i)+t*(t*sq r v-2)*((sm r fun i=>v i*a i)*sm r fun i=>v i*b i):=by
 unfold vH
 generalize hg:(sm r fun j=>v j*a j)=g
 generalize hh:(sm r fun j=>v j*b j)=k
 have e:(sm r fun i=>(a i-t*g*v i)*(b i-t*k*v i))=(sm r fun i=>a i*b i)+(-(t*k)*(sm r fun i=>v i*a i)+(-(t*g)*(sm r fun i=>v i*b i)+t*g*(t*k)*sq r v)):=by
  unfold sq
  rw [← F7,← F7,← F7,← Ha,← Ha,← Ha]
  exact Bk r fun i _=>by grind
 rw [e,hg,hh]
 grind
theorem Aem (h:Mi r v t) (ha:Ln r a s):Ln r (vH r v t a) ((1+250*uR)*s):=by
 have u0:=Ey
 have s0:=ha.1
 refine ⟨Rat.mul_nonneg (by grind) s0,?_⟩
 have e:=Aqj (r:=r) (v:=v) (t:=t) (a:=a) a
 have hd:=h.lv.dot ha
 have h1:av (t*(t*sq r v-2)*((sm r fun i=>v i*a i)*sm r fun i=>v i*a i))≤220*uR*(9 / 4*(s*s)):=by
  have h2:=Ko hd
  have h3:=D3 h2 h2 (by grind) (Ed _)
  have h4:=D3 h.tt h3 (by grind) (by rw [Km]; exact Bw _)
  generalize (sm r fun i=>v i*a i)=g at *
  generalize t*(t*sq r v-2)=κ at *
  rw [Dy,Dy]
  grind
 have h4:=A2t (t*(t*sq r v-2)*((sm r fun i=>v i*a i)*sm r fun i=>v i*a i))
 have h5:=ha.2
 have uss:=Rat.mul_nonneg (Rat.le_of_lt u0) (Bw s)
 have u2:=Rat.mul_nonneg (Rat.le_of_lt u0) uss
 unfold sq at *
 rw [e]
 grind
theorem Aqf (i:Nat):vH r v t (vH r v t a) i=a i+t*(t*sq r v-2)*(sm r fun j=>v j*a j)*v i:=by
 have e:(sm r fun j=>v j*vH r v t a j)=(sm r fun j=>v j*a j)+-(t*(sm r fun j=>v j*a j))*sq r v:=by
  unfold vH sq
  generalize hg:(sm r fun j=>v j*a j)=g
  rw [← hg,hg,← F7]
  conv=>rhs; rw [← hg]
  rw [← Ha]
  exact Bk r fun j _=>by grind
 have e2:vH r v t (vH r v t a) i=vH r v t a i-t*(sm r fun j=>v j*vH r v t a j)*v i:=rfl
 have e3:vH r v t a i=a i-t*(sm r fun j=>v j*a j)*v i:=rfl
 rw [e2,e,e3]
 grind
theorem Au3 (h:Mi r v t) (ha:Ln r a s):Ln r (fun i=>a i-vH r v t (vH r v t a) i) (500*uR*s):=by
 have u0:=Ey
 have s0:=ha.1
 have us:=Rat.mul_nonneg (Rat.le_of_lt u0) s0
 have hd:=h.lv.dot ha
 have h1:=h.lv.scale (c:=-(t*(t*sq r v-2)*(sm r fun j=>v j*a j))) (B:=220*uR*(3 / 2*s)) (by
  have h2:=D3 h.tt (Ko hd) (by grind) (Ed _)
  rw [← Dy] at h2
  have:=Hv (t*(t*sq r v-2)*sm r fun j=>v j*a j)
  unfold Ab at *; grind)
 refine (h1.congr fun i _=>?_).mono (by grind)
 rw [Aqf]; grind
theorem Aqh (b:Nat→Rat) (i:Nat):vH r v t (fun j=>a j-b j) i=vH r v t a i-vH r v t b i:=by
 unfold vH
 have e:(sm r fun j=>v j*(a j-b j))=(sm r fun j=>v j*a j)+(-1)*sm r fun j=>v j*b j:=by
  rw [← F7,← Ha]
  exact Bk r fun j _=>by grind
 rw [e]; grind
theorem Aqg (q:Nat→Nat→Rat) (R:Nat→Rat) (i:Nat):∀ k,(sm k fun m=>vH r v t (q m) i*R m)=vH r v t (fun i=>sm k fun m=>q m i*R m) i
 | 0=>by
   show (0:Rat)=vH r v t (fun _=>0) i
   unfold vH
   have:(sm r fun j=>v j*0)=0:=by
    rw [Bk r (g:=fun _=>0) fun j _=>by grind]
    exact Iy r
   rw [this]; grind
 | k+1=>by
   have ih:=Aqg q R i k
   show (sm k fun m=>vH r v t (q m) i*R m)+vH r v t (q k) i*R k=vH r v t (fun i=>(sm k fun m=>q m i*R m)+q k i*R k) i
   rw [ih]
   have:=Aqi (n:=r) (v:=v) (t:=t) (c:=R k) (a:=q k) (b:=fun i=>sm k fun m=>q m i*R m) i
   rw [show (fun i=>(sm k fun m=>q m i*R m)+q k i*R k)=fun j=>R k*q k j+sm k fun m=>q m j*R m from funext fun j=>by grind,this]
   grind
end
theorem Azp {r:Nat} {e:Nat→Nat→Rat} {R:Nat→Rat} {x s:Rat} (hx:0≤x) {k:Nat} (k9:k≤9) (h:∀ m,m<k→Ln r (e m) x) (hR:Ln k R s):Ln r (fun i=>sm k fun m=>e m i*R m) (3*x*s):=by
 have h1:∀ j,j≤k→Ln r (fun i=>sm j fun m=>e m i*R m) (x*sm j fun m=>av (R m)):=fun j=>by
  induction j with
  | zero =>
    intro _
    have z:x*(sm 0 fun m=>av (R m))=0:=by
     show x*0=0
     grind
    rw [z]
    exact Ln.zero r
  | succ j ih =>
    intro hj
    have h2:=(h j (by omega)).scale (c:=R j) (B:=av (R j)) (Hv _)
    have h3:=(ih (by omega)).add h2
    have e1:x*(sm (j+1) fun m=>av (R m))=x*(sm j fun m=>av (R m))+av (R j)*x:=by
     show x*((sm j fun m=>av (R m))+av (R j))=_
     grind
    rw [e1]
    exact h3.congr fun i _=>by
     show (sm j fun m=>e m i*R m)+e j i*R j=(sm j fun m=>e m i*R m)+R j*e j i
     grind
 have h2:(sm k fun m=>av (R m))≤3*s:=by
  have o:Ln k (fun _=>(1:Rat)) (3*1):=Ln.M3 (by decide) (fun _ _=>by unfold Ab; grind) k9
  have:=(o.dot hR.avs).2
  rw [Bk k (g:=fun m=>av (R m)) fun m _=>by grind] at this
  grind
 refine (h1 k (A6f k)).mono ?_
 have:=Rat.mul_le_mul_of_nonneg_left h2 hx
 grind
end Go.Cv
namespace Go.Cv
open Go.Den
def cl (c:Nat) (l:List Int) (b i:Nat):Rat:=vR (Co (c:Int) l (i:Int) (b:Int)).toNat
theorem Aag {c b j n m:Nat} {l:List Int} (hm:m<n):rv (By (c:Int) l (b:Int) (j:Int) n) m=cl c l b (j+m):=by
 rw [Arj hm]
 unfold cl
 rw [Int.natCast_add]
theorem Xw {r c:Nat} {l v:List Int} {i k t:Int} {a b:Nat} (ha:a<r) (hb:b<c):Co (c:Int) (Ga r c l i k v t) (a:Int) (b:Int)=Hj (c:Int) l i k v t (a:Int) (b:Int):=I5 ha hb
theorem Tk {r c j a b:Nat} {l:List Int} (ha:a<r) (hb:b<c):Co (c:Int) (Ov r c l j) (a:Int) (b:Int)=if b=j∧j≤a then (if a=j then (Bu (De r c l j)).2.2.1 else 0) else Hj (c:Int) l (j:Int) (j:Int) (Bu (De r c l j)).1 (Bu (De r c l j)).2.1 (a:Int) (b:Int):=by
 unfold Ov Po
 refine (I5 ha hb).trans ?_
 split
 ·rfl
 ·exact Xw ha hb
theorem Aos {n:Nat} {j:Nat} {x v:Nat→Rat} {t b s:Rat} (h:A0c n x v t b s):Mi (j+n) (vx j v) t :=
 ⟨by rw [Ap9]; exact h.tt,h.tb,by rw [Ap9]; exact h.vv⟩
section
variable {r c j k b K:Nat} {l:List Int} {s:Rat}
theorem Aq4 (hn:j+(k+1)=r) (hr:r≤6) (hj:j<c) (hb:b<c) (al:Ak l=true) (hK:Bl K l) (hK9:K≤900) (he:(Bu (De r c l j)).2.2.2=0) (hz:∀ b i:Nat,b<j→b<i→i<r→cl c l b i=0) (hs:Ln r (cl c l b) s) :
 Ln r (fun i=>cl c (Ov r c l j) b i-vH r (vx j (rv (Bu (De r c l j)).1)) (vR (Bu (De r c l j)).2.1.toNat) (cl c l b) i) (205*uR*s+100*B7):=by
 have u0:=Ey
 have e0:=Ej
 have s0:=hs.1
 have us:=Rat.mul_nonneg (Rat.le_of_lt u0) s0
 have lc:(De r c l j).length=k+1:=by unfold De; rw [Gl]; omega
 have ac:Ak (De r c l j)=true:=Oa al
 have ml:=P5 he
 have bc:Bl K (De r c l j):=Aah hK
 obtain ⟨mb1,mb2,mb3⟩:=Amh (by omega) bc ac (by omega) he
 have rc:∀ m,m<k+1→rv (De r c l j) m=cl c l j (j+m):=fun m hm=>by
  unfold De
  rw [show r-j=k+1 by omega]
  exact Aag hm
 have base:A0c (k+1) (rv (De r c l j)) (rv (Bu (De r c l j)).1) (vR (Bu (De r c l j)).2.1.toNat) (vR (Bu (De r c l j)).2.2.1.toNat) (sq (k+1) (rv (De r c l j))+1):=by
  refine Aa4 lc (by omega) ac he ⟨?_,?_⟩
  ·have:=Mc (k+1) (rv (De r c l j)); grind
  ·have h0:=Mc (k+1) (rv (De r c l j))
   generalize sq (k+1) (rv (De r c l j))=q at *
   have:=Bw q
   grind
 generalize hv:(Bu (De r c l j)).1=v at *
 generalize ht:(Bu (De r c l j)).2.1=t at *
 have vl:v.length=k+1:=by omega
 subst hn
 by_cases h1:b<j
 ·refine ((Ln.zero (j+(k+1))).congr fun i hi=>?_).mono (by grind)
  have e1:cl c (Ov (j+(k+1)) c l j) b i=cl c l b i:=by
   unfold cl
   rw [Tk hi hb,A57 (by omega)]
   unfold Hj
   rw [A57 (by omega)]
  rw [e1]
  unfold vH
  have z:(sm (j+(k+1)) fun m=>vx j (rv v) m*cl c l b m)=0:=by
   rw [Aqa]
   rw [Bk (k+1) (g:=fun _=>0) fun m hm=>by
    rw [hz b (j+m) h1 (by omega) (by omega)]; grind]
   exact Iy _
  rw [z]; grind
 by_cases h2:b=j
 ·subst h2
  have hsb:=hs.behind
  have M:=Aa4 (s:=s) lc (by omega) ac he (hsb.congr fun m hm=>rc m hm)
  rw [hv,ht] at M
  refine (Ln.tail (s:=205*uR*s+B7) (fun i hi=>?_) ?_).mono (by grind)
  ·rw [Acq,A58 hi]
   unfold cl
   rw [Tk (by omega) hb,A57 (by omega)]
   unfold Hj
   rw [A57 (by omega)]; grind
  ·refine M.mir.neg.congr fun m hm=>?_
   rw [Acq,A57 (by omega),Nat.add_sub_cancel_left]
   have e:vH (k+1) (rv v) (vR t.toNat) (fun m=>cl c l b (b+m)) m=vH (k+1) (rv v) (vR t.toNat) (rv (De (b+(k+1)) c l b)) m:=U8 (fun m hm=>(rc m hm).symm) hm
   rw [e]
   unfold cl
   rw [Tk (by omega) hb,A58 ⟨rfl,by omega⟩]
   by_cases h0:m=0
   ·subst h0
    rw [A6t,A58 rfl,A58 rfl]; grind
   ·rw [A57 (by omega),A57 h0]
    have z:vR (toNat 0)=0:=Jv false
    rw [z]; grind
 ·have hsb:=hs.behind
  have A:=Aeb (c:=(c:Int)) (i:=(j:Int)) (b:=(b:Int)) (t:=t) (s:=s) vl (by omega) hK9 al hK mb1 mb2 base.vv base.tb (hsb.congr fun m hm=>Aag hm)
  refine (Ln.tail (s:=120*uR*s+100*B7) (fun i hi=>?_) ?_).mono (by grind)
  ·rw [Acq,A58 hi]
   unfold cl
   rw [Tk (by omega) hb,A57 (by omega)]
   unfold Hj
   rw [A57 (by omega)]; grind
  ·refine A.congr fun m hm=>?_
   rw [Acq,A57 (by omega),Nat.add_sub_cancel_left]
   have e:vH (k+1) (rv v) (vR t.toNat) (fun m=>cl c l b (j+m)) m=vH (k+1) (rv v) (vR t.toNat) (rv (By (c:Int) l (b:Int) (j:Int) (k+1))) m:=U8 (fun m hm=>(Aag hm).symm) hm
   rw [e]
   unfold cl
   rw [Tk (by omega) hb,A57 (by omega),hv,ht]
   unfold Hj
   rw [A58 (by omega),show (((j+m:Nat):Int)-(j:Int)).toNat=m by omega,Int.natCast_add]
theorem Ant (hj:j<c) (hz:∀ b i:Nat,b<j→b<i→i<r→cl c l b i=0):∀ b i:Nat,b<j+1→b<i→i<r→cl c (Ov r c l j) b i=0:=by
 intro b i hb hbi hi
 unfold cl
 rw [Tk hi (by omega)]
 by_cases h:b=j
 ·rw [A58 ⟨h,by omega⟩,A57 (by omega)]
  exact Jv false
 ·rw [A57 (by omega)]
  unfold Hj
  rw [A57 (by omega)]
  exact hz b i (by omega) hbi hi
end
end Go.Cv
namespace Go.Cv
open Go.Den
theorem Aey (n:Nat) (f:Nat→Rat):Gq n f=sm n f:=by
 induction n with
 | zero=>rfl
 | succ n ih=>unfold Gq sm; rw [ih]
theorem Ac2 {f g:Nat→Rat} (n:Nat) (h:∀ i,i<n→f i=g i):Gq n f=Gq n g:=by
 rw [Aey,Aey]; exact Bk n h
theorem Dg.sum {g t m:Nat} {f:Nat→Rat}:∀ n,(∀ i,i<n→Dg g t m (f i))→Dg g t (n*m) (Gq n f)
 | 0,_=>Dg.zero g t _
 | n+1,h=>by
   unfold Gq
   rw [Nat.succ_mul]
   exact (Dg.sum n fun i hi=>h i (by omega)).add (h n (by omega))
theorem Dg.Pg {g t m n k:Nat} {f:Nat→Rat} (hn:n≤k) (h:∀ i,i<n→Dg g t m (f i)):Dg g t (k*m) (Gq n f):=(Dg.sum n h).mono (A5x _ hn)
theorem Ds.dq {x:Rat} (h:Ds x):Dq x:=by
 obtain ⟨g,t,n,h1,h2,h3,h⟩:=h
 exact h.dq (by omega) (by omega) (by omega)
theorem Dg.ds {g t n:Nat} {x:Rat} (h:Dg g t n x) (hg:g≤15000) (ht:t≤15000) (hn:n≤536870912):Ds x:=⟨g,t,n,hg,ht,hn,h⟩
theorem Az3 {x:Rat} (h:Ds x):dsB (Az (mQ x)) (Ah (mQ x)) (eQ x)=true:=As.2 ⟨x,h,rfl,rfl,rfl⟩
theorem Amv {n:Bool} {a:List Int} {e:Int} (h:dsB n a e=true):∃ x,Ds x∧n=Az (mQ x)∧a=Ah (mQ x)∧e=eQ x:=As.1 h
theorem Ez {x:Rat} (h:Dq x):D9 x=x:=Oy h
theorem E8 {x:Rat} (h:Dq x):Q2 x=true:=Af3 h
theorem Atv {x:Rat} (h:Ds x):dSo x=true:=Az3 h
theorem Dg.wv (x:Int):Dg 1074 2100 1 (D8 x):=Dg.word _ (by decide)
theorem Dg.wv2 (x y:Int):Dg 2148 4200 1 (D8 x*D8 y):=(Dg.wv x).mul (Dg.wv y)
theorem Dg.dot {n:Nat} {f g:Nat→Int} (h:n≤64):Dg 2148 4200 64 (Gq n fun i=>D8 (f i)*D8 (g i)):=Dg.Pg (m:=1) h fun i _=>Dg.wv2 _ _
theorem Dg.lk {c q i k:Nat} {l m h:List Int} (hc:c≤6):Dg 2148 4200 7 (Zk c l m h q i k):=by
 unfold Zk
 have h2:Dg (1074+1074) (2100+1074) 1 (D8 (Co (q:Int) h (i:Int) (k:Int))):=(Dg.wv _).up 1074
 exact Dg.sub (n:=6) (m:=1) (Dg.Pg (m:=1) hc fun i _=>Dg.wv2 _ _) (h2.wide (s:=4200) (by decide))
theorem Dg.grow {r c q j k:Nat} {l m h:List Int} (hr:r≤6) (hc:c≤6):Dg 3222 6300 42 (Gq r fun i=>D8 (Co (c:Int) l (i:Int) (j:Int))*Zk c l m h q i k) :=
 Dg.Pg (m:=7) hr fun i _=>(Dg.wv (Co (c:Int) l (i:Int) (j:Int))).mul (Dg.lk (c:=c) (q:=q) (i:=i) (k:=k) (l:=l) (m:=m) (h:=h) hc)
theorem Dg.A4u {r c q:Nat} {l m h:List Int} (hr:r≤6) (hc:c≤6) (hq:q≤6):Dg 6444 12600 63504 (Oi r c q l m h) :=
 Dg.Pg (m:=10584) hq fun k _=>Dg.Pg (m:=1764) hc fun j _=>(Dg.grow (j:=j) (k:=k) (l:=l) (m:=m) (h:=h) hr hc).mul (Dg.grow (j:=j) (k:=k) hr hc)
theorem Dg.sq {x:List Int} (h:x.length≤64):Dg 2148 4200 64 (J7 x):=Dg.dot h
theorem Zb {x:Rat} (h:Dq x):Tx (dyR x)=x:=Oy h
end Go.Cv
