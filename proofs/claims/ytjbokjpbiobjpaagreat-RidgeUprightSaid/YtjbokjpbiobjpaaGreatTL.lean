/- A verified evaluator of the program's form and its use for this seat: S1PSol, S1EqQr, S1PQr, S1PQrA, S1EqRef17, S1PRef17, S1EqRef14, S1PRef13, S1PRef14, S1EqLow, S1PLow, S1EqLse, S1PLse, S1POfS, S1EqRef20, S1PSubSt, S1PLseA, S1PRefL, S1PRef20, S1PMx, S1EqGg, S1PGg, S1EqRidge, S1PRidge, S1EqRef22, S1PRef22, S1EqLaw17, S1PLaw17, S1EqLaw22, S1PLaw22, S1EqTame, S1PTame, S1EqRefM, S1PRefM, TileL, ExaL, S1PExa, RatO, RatP, RatQ, VecR. -/
import Derived.Test.YtjbokjpbiobjpaaGreatTK
import Derived.Test.YtjbokjpbiobjpaaGreatTE
import Derived.Test.YtjbokjpbiobjpaaGreatTF
import Derived.Test.YtjbokjpbiobjpaaGreatTJ
import Derived.Test.YtjbokjpbiobjpaaGreatTG
set_option linter.unusedVariables false
set_option linter.unusedSimpArgs false
noncomputable section
open Int (toNat)
open List (length getD)
open Go.Proofs.Tryz
namespace Go.Proofs.S1
open Go Go.Den Go.Cv Go.Proofs
open EqSol EqFew
theorem Aln {n i:Nat} (h:i<n):(List.range n).drop i=i::(List.range n).drop (i+1):=by
 rw [List.drop_eq_getElem_cons (by rw [A9a]; exact h),List.getElem_range]
theorem Ki {r c:Int} {l:List Int} (h:Cs r c l=0):Az r c l=true∧Ff l=true:=by
 unfold Cs at h
 by_cases h1:Az r c l=true
 ·rw [A8u h1] at h
  by_cases h2:Ff l=true
  ·exact ⟨h1,h2⟩
  ·rw [A8t h2] at h; exact absurd h (by decide)
 ·rw [A8t h1] at h; exact absurd h (by decide)
theorem Pm {r c:Int} {l:List Int} (h1:Az r c l=true) (h2:Ff l=true):Cs r c l=0:=by unfold Cs; rw [A8u h1,A8u h2]
theorem neI {x:Int} (h:x≠0):(x !=(0:Int))=true:=by simpa using h
theorem Mm {x:Int} (h:x=0):(x !=(0:Int))=false:=by rw [h]; rfl
theorem Amz (N:Nat) {n:Nat} {l:List Int} (n6:n≤6) (hl:l.length=n*n) (al:Ak l=true):∀ (cnt i F:Nat),i+cnt=n→cnt<F →
 solve.check.L0 (N+4) F (n:Int) (n:Int) l (i:Int)=some (.int .i64 (if ((List.range n).drop i).any (fun i:Nat=>decide (A7 (Cp (n:Int) l (i:Int) (i:Int))=0))=true then 5 else 0)):=by
 intro cnt
 induction cnt with
 | zero =>
   intro i F hi hF
   obtain ⟨F,rfl⟩:∃ G,F=G+1:=⟨F-1,by omega⟩
   rw [solve.check.A1,Aw,A8c (by omega),A8b,A8l (by rw [A9a]; omega)]; rfl
 | succ cnt ih =>
   intro i F hi hF
   obtain ⟨F,rfl⟩:∃ G,F=G+1:=⟨F-1,by omega⟩
   obtain ⟨e1,g1,g2⟩:=Oq (R:=(n:Int)) (Jn n6 n6 hl (show i<n by omega) (show i<n by omega))
   have hx:getD l (toNat ((i:Int)*(n:Int)+(i:Int))) 0=Cp (n:Int) l (i:Int) (i:Int):=rfl
   rw [solve.check.A1,Aw,A78 (show (i:Int)<(n:Int) by omega),A77,e1,A78 g1,A78 g2,A8d,A77,hx,Sa al,A77,Aln (by omega),List.any_cons]
   by_cases hk:A7 (Cp (n:Int) l (i:Int) (i:Int))=0
   ·have e:(A7 (Cp (n:Int) l (i:Int) (i:Int))==(0:Int))=true:=by rw [hk]; rfl
    rw [e,A77,A78 hk]; rfl
   ·have e:(A7 (Cp (n:Int) l (i:Int) (i:Int))==(0:Int))=false:=by simpa using hk
    rw [e,A8b,A8c hk,Bool.false_or,Ar (by omega) (by omega)]
    exact ih (i+1) F (by omega) (by omega)
theorem A48 {r c p:Int}:((r !=c)||(r !=p))=decide (r≠c∨r≠p):=by
 rw [A8n]; simp
theorem solve.check.known:solve.check.Kn:=solve.check.Ae (.cons Cz.Check.known (.cons soft.Kind.known .nil)) fun r c l p q m hp=>by
 obtain ⟨al,am⟩:=Af.1 (show (Ak l&&Ak m)=true from hp)
 refine ⟨14,solve.check.out [.i r,.i c,.l l,.i p,.i q,.l m],[],?_,.int⟩
 show _=some (DV.int .i64 (Xs r c l p q m))
 rw [show (14:Nat)=10+4 from rfl,solve.check.ev,al,A77,am,A77,A48]
 unfold Xs
 by_cases h1:Cs r c l=0
 ·rw [Mm h1,A8b,A8t (by rw [h1]; decide)]
  by_cases h2:Cs p q m=0
  ·rw [Mm h2,A8b,A8t (by rw [h2]; decide)]
   by_cases h3:r≠c∨r≠p
   ·rw [A78 h3,A77,A8u h3]
   ·rw [A8c h3,A8b,A8t h3]
    obtain rfl:r=c:=Decidable.byContradiction fun h=>h3 (.inl h)
    obtain ⟨R,C,rfl,hC,r6,c6,hl⟩:=Dl (Ki h1).1
    obtain rfl:R=C:=by omega
    rw [A79]
    exact Amz 10 r6 hl al R 0 14 (by omega) (by omega)
  ·rw [neI h2,A77,A8u h2]
 ·rw [neI h1,A77,A8u h1]
theorem Arn {r c:Int} {l:List Int} {p q:Int} {m:List Int} (h:Xs r c l p q m=0):Az r c l=true∧Az p q m=true∧r=c∧r=p:=by
 unfold Xs at h
 by_cases h1:Cs r c l=0
 ·rw [A8t (by rw [h1]; decide)] at h
  by_cases h2:Cs p q m=0
  ·rw [A8t (by rw [h2]; decide)] at h
   by_cases h3:r≠c∨r≠p
   ·rw [A8u h3] at h; exact absurd h (by decide)
   ·exact ⟨(Ki h1).1,(Ki h2).1,Decidable.byContradiction fun h=>h3 (.inl h),Decidable.byContradiction fun h=>h3 (.inr h)⟩
  ·rw [A8u h2] at h; exact absurd h h2
 ·rw [A8u h1] at h; exact absurd h h1
theorem solve.H0.known:solve.H0.Kn:=solve.H0.Ae (.cons solve.check.known (.cons solve.Bt.Up.known .nil)) fun r c l p q m hp=>by
 have hp:(Ak l&&Ak m)=true:=hp
 show ∃ N dv drops,_=some dv∧Wk drops dv (Vo (upX r c l p q m))
 unfold upX
 by_cases h:Xs r c l p q m=0
 ·obtain ⟨h1,h2,h3,h4⟩:=Arn h
  have ht:Af6 r c l p q m=true:=Af.2 ⟨Af.2 ⟨h1,h2⟩,Af.2 ⟨hp,Ao.2 ⟨h3,h4⟩⟩⟩
  rw [A8t (by rw [h]; decide)]
  exact ⟨0,_,[],by rw [solve.H0.ev,hp,A77,Mm h,A8b,ht,A78 rfl]; rfl,Qg⟩
 ·rw [A8u h]
  exact ⟨0,_,[],by rw [solve.H0.ev,hp,A77,neI h,A77]; rfl,Lp⟩
theorem Atj {b:Nat} {n:Int} (h:b<2^64):(Cj b n).1<2^64:=by
 unfold Cj
 by_cases h4:Aj b=4
 ·rw [A8u h4]; exact (by decide:Sq<2^64)
 rw [A8t h4]
 by_cases h3:Aj b=3∨Aj b=0
 ·rw [A8u h3]; exact h
 rw [A8t h3]
 exact Wm _ _ _
theorem Kf {b n:Int} (h:Al b=true):Al (Ch b n)=true:=by
 obtain ⟨x,rfl,hx⟩:=Ca h
 exact Co (Atj (by rw [A79]; exact hx))
theorem Adi:∀ (l:List Int) (m:Nat),m<2^64→N7 l m<2^64
 | [],m,h=>h
 | x::l,m,h=>by
   unfold N7
   split
   ·exact (by decide:Sq<2^64)
   ·have h2:Dy x.toNat<2^63:=Afs x.toNat
    exact Adi l _ (by omega)
theorem V7 (l:List Int):Al (Bg l)=true:=Co (Adi l 0 (by decide))
theorem Aut (x:Int):Al (Tg x)=true:=Co (Nat.lt_trans (Afs x.toNat) (by decide))
theorem Aq8 (N:Nat) {d:List Int} (hd:Dp d=true) (h7:d.length≤1000):∀ (cnt i F:Nat),i+cnt=d.length→cnt<F →
 solve.Flat.L1 N F d (i:Int)=some (.tup [.bool ((d.drop i).any fun x=>!(decide (Yk (Ch (Bg d) (-40)) x<0))),.int .i64 0]):=by
 obtain ⟨_,hu⟩:=Oh hd
 intro cnt
 induction cnt with
 | zero =>
   intro i F hi hF
   obtain ⟨F,rfl⟩:∃ G,F=G+1:=⟨F-1,by omega⟩
   rw [solve.Flat.Cy,Aw,A8c (by omega),A8b,A8l (by omega)]; rfl
 | succ cnt ih =>
   intro i F hi hF
   obtain ⟨F,rfl⟩:∃ G,F=G+1:=⟨F-1,by omega⟩
   rw [solve.Flat.Cy,Aw,A78 (show (i:Int)<(d.length:Int) by omega),A77,A78 (show (0:Int)≤(i:Int) by omega),A8d,A77,A79,A78 (show i<d.length by omega),A77,
    Kf (V7 d),hu i (by omega),A8d,A77,Le (by omega),List.any_cons]
   cases decide (Yk (Ch (Bg d) (-40)) (d.getD i 0)<0) with
   | false=>rfl
   | true =>
     rw [A86,A8b,Bool.false_or,Ar (by omega) (by omega)]
     exact ih (i+1) F (by omega) (by omega)
theorem Azm (c:Int) (l:List Int) (n:Nat):Ak (E1 c l n)=true:=Ao.2 fun x hx=>by
 obtain ⟨j,_,rfl⟩:=List.mem_map.1 hx
 exact Aut _
theorem Qb (c:Int) (l:List Int) (n:Nat):(E1 c l n).length=n:=by unfold E1; rw [A9d,A9a]
theorem Aq9 (N:Nat) {R C:Nat} {l:List Int} (r6:R≤6) (c6:C≤6) (hN:7<N) (hl:l.length=R*C) (al:Ak l=true):∀ (cnt i F:Nat),i+cnt=min R C→cnt<F →
 solve.Flat.L0 N F (R:Int) (C:Int) l (i:Int) (E1 (C:Int) l i)=some (.tup [.bool (Xi (E1 (C:Int) l (min R C))),.int .i64 0]):=by
 intro cnt
 induction cnt with
 | zero =>
   intro i F hi hF
   obtain ⟨F,rfl⟩:∃ G,F=G+1:=⟨F-1,by omega⟩
   obtain rfl:i=min R C:=by omega
   have hlt:(Bc (((min R C:Nat)):Int) (R:Int)&&Bc (((min R C:Nat)):Int) (C:Int))=false:=by
    rw [Aw,Aw,Bool.and_eq_false_iff,A8q,A8q]; omega
   have ok:=Mt (Azm (C:Int) l (min R C)) (by rw [Qb]; omega)
   have sp:Gt (Bg (E1 (C:Int) l (min R C))) (-40:Int)=true:=Af.2 ⟨V7 _,Ao.2 (by omega)⟩
   rw [solve.Flat.A1,hlt,A8b,ok,A77,sp,A77]
   exact Aq8 N ok (by rw [Qb]; omega) (min R C) 0 N (by rw [Qb]; omega) (by omega)
 | succ cnt ih =>
   intro i F hi hF
   obtain ⟨F,rfl⟩:∃ G,F=G+1:=⟨F-1,by omega⟩
   obtain ⟨e1,g1,g2⟩:=Oq (R:=(R:Int)) (Jn r6 c6 hl (show i<R by omega) (show i<C by omega))
   have hx:getD l (toNat ((i:Int)*(C:Int)+(i:Int))) 0=Cp (C:Int) l (i:Int) (i:Int):=rfl
   rw [solve.Flat.A1,Aw,Aw,A78 (show (i:Int)<(R:Int) by omega),A78 (show (i:Int)<(C:Int) by omega),A8d,A77,e1,A78 g1,A78 g2,A8d,A77,hx,Sa al,A77,
    Qb,A78 (show i+1≤Im by unfold Im; omega),A77,Ar (by omega) (by omega)]
   have:=ih (i+1) F (by omega) (by omega)
   unfold E1 at this ⊢
   rw [Je] at this
   exact this
theorem solve.Flat.known:solve.Flat.Kn:=solve.Flat.Ae (.cons Cz.Check.known (.cons compare.X6.known (.cons compare.M8.known (.cons Ac.C6.known (.cons Ac.B9.known .nil))))) fun r c l hp=>by
 have hp:Ak l=true:=hp
 refine ⟨8,solve.Flat.out [.i r,.i c,.l l],[],?_,Wk.Jp (.cons .bool (.cons .int .nil))⟩
 show _=some (DV.tup [.bool (Pk r c l).1,.int .i64 (Pk r c l).2])
 rw [solve.Flat.ev,hp,A77]
 unfold Pk Aha
 by_cases h1:Cs r c l=0
 ·obtain ⟨R,C,rfl,rfl,r6,c6,hl⟩:=Dl (Ki h1).1
  rw [Mm h1,A8b,A8t (by rw [h1]; decide),A79,A79]
  exact Aq9 8 r6 c6 (by omega) hl hp (min R C) 0 8 (by omega) (by omega)
 ·rw [neI h1,A77,A8u h1]
theorem An1 {r c:Int} {l:List Int} (al:Ak l=true) (x y a b:Int):Ak (Jf r c l x y a b).2.2.1=true:=by
 unfold Jf
 split
 ·split
  ·dsimp only
   exact Nc fun i k=>Sa al
  ·exact Ao.2 fun x h=>by cases h
 ·exact Ao.2 fun x h=>by cases h
theorem Axj {r c:Int} {l:List Int} (al:Ak l=true):Ak (Gr r c l).2.2.1=true:=by
 unfold Gr
 split
 ·dsimp only
  exact Nc fun i k=>Sa al
 ·exact Ao.2 fun x h=>by cases h
theorem Ahl (x y:List Int):Al (M5 x y)=true:=Co (Ahk x y 0 (by decide))
theorem Ays (r c:Int) (l:List Int) (p q:Int) (m:List Int):Ak (Vs r c l p q m).2.2.1=true:=by
 unfold Vs
 split
 ·split
  ·dsimp only
   exact Nc fun i k=>Ahl _ _
  ·exact Ao.2 fun x h=>by cases h
 ·exact Ao.2 fun x h=>by cases h
theorem Apc (r c:Int) (l:List Int) (p q:Int) (m:List Int):Ak (D7 r c l p q m).2.2.1=true:=by
 unfold D7
 split
 ·exact Ao.2 fun x h=>by cases h
 ·exact Ays _ _ _ _ _ _
theorem qr.F3.known:qr.F3.Kn:=qr.F3.Ae (.cons Aa.Mul.known (.cons Aa.Ea.known .nil)) fun r c l p q m hp=>by
 obtain ⟨al,am⟩:=Af.1 (show (Ak l&&Ak m)=true from hp)
 show ∃ N dv drops,_=some dv∧Wk drops dv (Vo (D7 r c l p q m))
 unfold D7
 by_cases h:(Gr r c l).2.2.2=0
 ·rw [A8t (by rw [h]; decide)]
  exact ⟨0,_,[],by rw [qr.F3.ev,Mm h,A8b,Axj al,am]; rfl,Qg⟩
 ·rw [A8u h]
  exact ⟨0,_,[],by rw [qr.F3.ev,neI h,A77]; rfl,Lp⟩
open Go Go.Den Go.Cv Go.Proofs
set_option maxRecDepth 100000
namespace EqQr
def qr.down.hint:Nat→Option Bh
 | 0=>some { keep:=[1,2,5,6,7],objs:=[(0,6,100006,.recs 214 2 []),(6,2,106002,.ints 37 .u64 [])],boxes:=[1,2,5] }
 | 2=>some { keep:=[1,2,5,6,7,8,9,12],objs:=[(6,2,106002,.ints 37 .u64 []),(0,6,100006,.recs 214 2 [])],boxes:=[1,2,5] }
 | _=>none
def qr.down.Bf:List (Nat × Entry):=[(219,Aq.Apply.spec),(245,Aq.Lk.spec),(191,Aa.D2.spec)]
def qr.down.E:Env:=Bk (Be qr.down.Bf) (fun n=>Nat.beq n 46) qr.down.hint (fun _=>none)
section
variable (N M0 M:Nat) (r c:Int) (l:List Int) (p7:Int) (p6:List (List DV)) (p2_2:List Int) (p12_1:Int) (p2_1:List Int) (p7_1:Int) (p8:List Int) (p9:Int) (p6_1:List (List DV))
def qr.down.L0:Option DV:=Cd qr.down.E N f217 (As f217) [1,1,1,0,1,0,0,1,0,0,1,1,1,1,0,1,0] [M0] M ⟨Il 88 [(1,.ptr 1 0 0),(2,.ptr 2 0 0),(5,.ptr 5 0 0),(6,.oref 100006),(7,.int .i64 p7_1),(8,.ints .fresh .u64 p8),(9,.int .u64 p9),(12,.int .i64 p12_1)],[(1,false,.box [.int .i64 r,.int .i64 c,.ints .arg .u64 l]),(2,false,.box [.int .i64 0,.int .i64 0,.nil]),(5,false,.box [.int .i64 r,.int .i64 c,.oref 106002]),(106002,false,.ints 37 .u64 p2_1),(100006,false,.recs 214 2 p6_1)]⟩
def qr.down.L1:Option DV:=Cd qr.down.E N f217 (As f217) [1,1,1,0,1,0] [] M ⟨Il 88 [(1,.ptr 1 0 0),(2,.ptr 2 0 0),(5,.ptr 5 0 0),(6,.oref 100006),(7,.int .i64 p7)],[(1,false,.box [.int .i64 r,.int .i64 c,.ints .arg .u64 l]),(2,false,.box [.int .i64 0,.int .i64 0,.nil]),(5,false,.box [.int .i64 r,.int .i64 c,.oref 106002]),(100006,false,.recs 214 2 p6),(106002,false,.ints 37 .u64 p2_2)]⟩
def qr.down.L2:Option DV:=Cd qr.down.E N f217 (As f217) [1,1,1,0,1,0] [] M ⟨Il 88 [(1,.ptr 1 0 0),(2,.ptr 2 0 0),(5,.ptr 5 0 0),(6,.oref 100006),(7,.int .i64 0)],[(1,false,.box [.int .i64 r,.int .i64 c,.ints .arg .u64 l]),(2,false,.box [.int .i64 0,.int .i64 0,.nil]),(5,false,.box [.int .i64 r,.int .i64 c,.ints .arg .u64 l]),(100006,false,.recs 214 2 [])]⟩
theorem qr.down.A1:qr.down.L0 N M0 (M+1) r c l p12_1 p2_1 p7_1 p8 p9 p6_1=bif (Bc p12_1 r) then bif ((decide (0≤(Ad ((Ad (p12_1*c))+p7_1))))&&(decide ((Ad ((Ad (p12_1*c))+p7_1))<(length p2_1:Int)))) then bif (decide ((toNat (Ad ((Ad (p12_1*c))+p7_1)))<(length p2_1))) then qr.down.L0 N M0 M r c l (Ad (p12_1+1)) (List.set p2_1 (toNat (Ad ((Ad (p12_1*c))+p7_1))) 0) p7_1 p8 p9 p6_1 else none else none else bif (decide ((length p6_1)+1≤Acm)) then qr.down.L1 N M0 r c l (Ad (p7_1+1)) (p6_1++[[.ints .arg .u64 p8,.int .u64 p9]]) p2_1 else none:=by kernel_rfl
theorem qr.down.Cy:qr.down.L1 N (M+1) r c l p7 p6 p2_2=bif ((Bc p7 c)&&(Bc p7 (Ad (r-1)))) then bif (G9 r c p2_2 p7&&Cr (0≤p7∧p7≤r)) then bif (Dp (B4 c p2_2 p7 p7 (toNat (r-p7)))) then bif (((Bv (B4 c p2_2 p7 p7 (toNat (r-p7)))).2.2.2) !=(0:Int)) then some (.tup [.agg [.int .i64 0,.int .i64 0,.nil],.nil,.int .i64 2]) else bif (((Az r c p2_2&&Sb r c p7 p7 ((Bv (B4 c p2_2 p7 p7 (toNat (r-p7)))).1))&&(Ak p2_2&&Ak ((Bv (B4 c p2_2 p7 p7 (toNat (r-p7)))).1)))&&Al ((Bv (B4 c p2_2 p7 p7 (toNat (r-p7)))).2.1)) then bif ((decide (0≤(Ad ((Ad (p7*c))+p7))))&&(decide ((Ad ((Ad (p7*c))+p7))<(length (Gp (toNat r) (toNat c) p2_2 p7 p7 ((Bv (B4 c p2_2 p7 p7 (toNat (r-p7)))).1) ((Bv (B4 c p2_2 p7 p7 (toNat (r-p7)))).2.1)):Int)))) then bif (decide ((toNat (Ad ((Ad (p7*c))+p7)))<(length (Gp (toNat r) (toNat c) p2_2 p7 p7 ((Bv (B4 c p2_2 p7 p7 (toNat (r-p7)))).1) ((Bv (B4 c p2_2 p7 p7 (toNat (r-p7)))).2.1))))) then qr.down.L0 N M N r c l (Ad (p7+1)) (List.set (Gp (toNat r) (toNat c) p2_2 p7 p7 ((Bv (B4 c p2_2 p7 p7 (toNat (r-p7)))).1) ((Bv (B4 c p2_2 p7 p7 (toNat (r-p7)))).2.1)) (toNat (Ad ((Ad (p7*c))+p7))) ((Bv (B4 c p2_2 p7 p7 (toNat (r-p7)))).2.2.1)) p7 ((Bv (B4 c p2_2 p7 p7 (toNat (r-p7)))).1) ((Bv (B4 c p2_2 p7 p7 (toNat (r-p7)))).2.1) p6 else none else none else none else none else none else some (.tup [.agg [.int .i64 r,.int .i64 c,.ints (.own 106002 37) .u64 p2_2],.recs (.own 100006 214) 2 p6,.int .i64 0]) :=
 Eq.trans (by kernel_rfl)
 (Ay (Sy (Bc p7 c)) (Ay (Sy (Bc p7 c)) (Ay (O4 (Bc p7 c)) (Ay (O4 (Bc p7 c)) (Ay (Apf (Bc p7 c)) (Ay (Zb (Bc p7 c)) (C5 (tt1 _ _) rfl rfl)))))))
theorem qr.down.Kp:qr.down.L2 N (M+1) r c l=bif ((Bc 0 c)&&(Bc 0 (Ad (r-1)))) then bif (G9 r c l 0&&Cr (0≤(0:Int)∧(0:Int)≤r)) then bif (Dp (B4 c l 0 0 (toNat (r-0)))) then bif (((Bv (B4 c l 0 0 (toNat (r-0)))).2.2.2) !=(0:Int)) then some (.tup [.agg [.int .i64 0,.int .i64 0,.nil],.nil,.int .i64 2]) else bif (((Az r c l&&Sb r c 0 0 ((Bv (B4 c l 0 0 (toNat (r-0)))).1))&&(Ak l&&Ak ((Bv (B4 c l 0 0 (toNat (r-0)))).1)))&&Al ((Bv (B4 c l 0 0 (toNat (r-0)))).2.1)) then bif ((decide (0≤(Ad ((Ad ((0:Int)*c))+0))))&&(decide ((Ad ((Ad ((0:Int)*c))+0))<(length (Gp (toNat r) (toNat c) l 0 0 ((Bv (B4 c l 0 0 (toNat (r-0)))).1) ((Bv (B4 c l 0 0 (toNat (r-0)))).2.1)):Int)))) then bif (decide ((toNat (Ad ((Ad ((0:Int)*c))+0)))<(length (Gp (toNat r) (toNat c) l 0 0 ((Bv (B4 c l 0 0 (toNat (r-0)))).1) ((Bv (B4 c l 0 0 (toNat (r-0)))).2.1))))) then qr.down.L0 N M N r c l 1 (List.set (Gp (toNat r) (toNat c) l 0 0 ((Bv (B4 c l 0 0 (toNat (r-0)))).1) ((Bv (B4 c l 0 0 (toNat (r-0)))).2.1)) (toNat (Ad ((Ad ((0:Int)*c))+0))) ((Bv (B4 c l 0 0 (toNat (r-0)))).2.2.1)) 0 ((Bv (B4 c l 0 0 (toNat (r-0)))).1) ((Bv (B4 c l 0 0 (toNat (r-0)))).2.1) [] else none else none else none else none else none else some (.tup [.agg [.int .i64 r,.int .i64 c,.ints .arg .u64 l],.recs (.own 100006 214) 2 [],.int .i64 0]) :=
 Eq.trans (by kernel_rfl)
 (Ay (Sy (Bc 0 c)) (Ay (Sy (Bc 0 c)) (Ay (O4 (Bc 0 c)) (Ay (O4 (Bc 0 c)) (Ay (Apf (Bc 0 c)) (Ay (Zb (Bc 0 c)) (C5 (tt1 _ _) rfl rfl)))))))
theorem qr.down.ev:B6 qr.down.E N f217 (As f217) [.agg [.int .i64 r,.int .i64 c,.ints .arg .u64 l]] =
 qr.down.L2 N N r c l:=by kernel_rfl
end
abbrev _root_.Go.Proofs.S1.qr.down.Kn:=A9 prog 217 qr.down.spec
theorem qr.down.Ae (hk:A3 prog qr.down.Bf) (h:Hyp qr.down.E f217 qr.down.ts qr.down.pre qr.down.out):qr.down.Kn :=
 Am (A5 hk _ _ _) func217 (by kernel_rfl) (by kernel_rfl) h
def qr.D3.hint:Nat→Option Bh
 | 0=>some { keep:=[2,3,5,6],objs:=[],boxes:=[2,3] }
 | _=>none
def qr.D3.Bf:List (Nat × Entry):=[(86,Cz.Check.spec),(219,Aq.Apply.spec),(218,Aa.Ic.spec),(217,qr.down.spec),(150,Ac.Finite.spec)]
def qr.D3.E:Env:=Ac6 (Be qr.D3.Bf) (fun _=>false) qr.D3.hint (fun _=>none) (Ao2 [(22,[.s .u64]),(37,[.i .u64])])
section
variable (N M:Nat) (r c:Int) (l:List Int) (p6:Int) (p2:List Int)
def qr.D3.L0:Option DV:=Cd qr.D3.E N f166 (As f166) [1,0,1,1,1,1,1,1,0,0] [] M ⟨Il 81 [(2,.ptr 2 0 0),(3,.ptr 3 0 0),(5,.recs .fresh 2 (Q3 r c ([]++l))),(6,.int .i64 p6)],[(2,false,.box [.int .i64 ((Rz r).1),.int .i64 ((Rz r).2.1),.ints .fresh .u64 p2]),(3,false,.box [.int .i64 ((Hf r c ([]++l)).1),.int .i64 ((Hf r c ([]++l)).2.1),.ints .arg .u64 ((Hf r c ([]++l)).2.2.1)])]⟩
theorem qr.D3.A1:qr.D3.L0 N (M+1) r c l p6 p2=bif (Bc p6 0) then bif (Dp p2) then bif ((!(Ff p2))||(Dp ((Hf r c ([]++l)).2.2.1))) then bif ((!(Ff p2))||(!(Ff ((Hf r c ([]++l)).2.2.1)))) then some (.tup [.agg [.int .i64 0,.int .i64 0,.nil],.agg [.int .i64 0,.int .i64 0,.nil],.int .i64 2]) else some (.tup [.agg [.int .i64 ((Rz r).1),.int .i64 ((Rz r).2.1),.ints .fresh .u64 p2],.agg [.int .i64 ((Hf r c ([]++l)).1),.int .i64 ((Hf r c ([]++l)).2.1),.ints .arg .u64 ((Hf r c ([]++l)).2.2.1)],.int .i64 0]) else none else none else bif ((decide (0≤p6))&&(decide (p6<(length (Q3 r c ([]++l)):Int)))) then bif (isC (.s .u64) (getD (getD (Q3 r c ([]++l)) (toNat p6) []) 0 .undef)) then bif ((decide (0≤p6))&&(decide (p6<(length (Q3 r c ([]++l)):Int)))) then bif (isC (.i .u64) (getD (getD (Q3 r c ([]++l)) (toNat p6) []) 1 .undef)) then bif (((Az ((Rz r).1) ((Rz r).2.1) p2&&Sb ((Rz r).1) ((Rz r).2.1) p6 0 (Jl (getD (getD (Q3 r c ([]++l)) (toNat p6) []) 0 .undef)))&&(Ak p2&&Ak (Jl (getD (getD (Q3 r c ([]++l)) (toNat p6) []) 0 .undef))))&&Al (Pl (getD (getD (Q3 r c ([]++l)) (toNat p6) []) 1 .undef))) then qr.D3.L0 N M r c l (Ad (p6-1)) (Gp (toNat ((Rz r).1)) (toNat ((Rz r).2.1)) p2 p6 0 (Jl (getD (getD (Q3 r c ([]++l)) (toNat p6) []) 0 .undef)) (Pl (getD (getD (Q3 r c ([]++l)) (toNat p6) []) 1 .undef))) else none else none else none else none else none :=
 Eq.trans (by kernel_rfl)
 (Fg (Fg (Ay (Af4 (Ff p2)) (Ay (Ux (Ff p2)) (C5 (Asz _ _) (Ay (Ux (Ff p2)) (Ay (Af5 (Ff p2)) (C5 (Axq _ _) rfl rfl))) rfl))) rfl) (C5 (Rg _ _) (C5 (Cn _) (C5 (Rg _ _) (C5 (Cn _) (C5 (Cn _) rfl rfl) rfl) rfl) rfl) rfl))
theorem qr.D3.ev:B6 qr.D3.E N f166 (As f166) [.agg [.int .i64 r,.int .i64 c,.ints .arg .u64 l]]=bif (Ak l) then bif ((Cs r c l) !=(0:Int)) then some (.tup [.agg [.int .i64 0,.int .i64 0,.nil],.agg [.int .i64 0,.int .i64 0,.nil],.int .i64 (Cs r c l)]) else bif (decide (0+(length l)≤Im)) then bif ((Az r c ([]++l)&&Ff ([]++l))&&Ak ([]++l)) then bif (((Hf r c ([]++l)).2.2.2) !=(0:Int)) then some (.tup [.agg [.int .i64 0,.int .i64 0,.nil],.agg [.int .i64 0,.int .i64 0,.nil],.int .i64 ((Hf r c ([]++l)).2.2.2)]) else qr.D3.L0 N N r c l (Ad ((length (Q3 r c ([]++l)):Int)-1)) ((Rz r).2.2.1) else none else none else none :=
 Eq.trans (by kernel_rfl)
 (Fg (Fg rfl (C5 (Cn _) (C5 (Cn _) rfl rfl) rfl)) rfl)
end
abbrev _root_.Go.Proofs.S1.qr.D3.Kn:=A9 prog 166 qr.D3.spec
theorem qr.D3.Ae (hk:A3 prog qr.D3.Bf) (h:Hyp qr.D3.E f166 qr.D3.ts qr.D3.pre qr.D3.out):qr.D3.Kn :=
 Am (Ahe hk _ _ _ _) func166 (by kernel_rfl) (by kernel_rfl) h
def qr.M7.Bf:List (Nat × Entry):=[(124,Aa.Part.spec),(166,qr.D3.spec)]
def qr.M7.E:Env:=Bk (Be qr.M7.Bf) (fun _=>false) (fun _=>none) (fun _=>none)
theorem qr.M7.ev (N:Nat) (r c:Int) (l:List Int):B6 qr.M7.E N f97 (As f97) [.agg [.int .i64 r,.int .i64 c,.ints .arg .u64 l]]=bif (Ak l) then bif ((Hq r c l) !=(0:Int)) then some (.tup [.agg [.int .i64 0,.int .i64 0,.nil],.agg [.int .i64 0,.int .i64 0,.nil],.int .i64 (Hq r c l)]) else some (.tup [.agg [.int .i64 ((Jf ((qX r c l).1) ((qX r c l).2.1) ((qX r c l).2.2.1) 0 0 r (min r c)).1),.int .i64 ((Jf ((qX r c l).1) ((qX r c l).2.1) ((qX r c l).2.2.1) 0 0 r (min r c)).2.1),.ints .fresh .u64 ((Jf ((qX r c l).1) ((qX r c l).2.1) ((qX r c l).2.2.1) 0 0 r (min r c)).2.2.1)],.agg [.int .i64 ((Jf ((rX r c l).1) ((rX r c l).2.1) ((rX r c l).2.2.1) 0 0 (min r c) c).1),.int .i64 ((Jf ((rX r c l).1) ((rX r c l).2.1) ((rX r c l).2.2.1) 0 0 (min r c) c).2.1),.ints .fresh .u64 ((Jf ((rX r c l).1) ((rX r c l).2.1) ((rX r c l).2.2.1) 0 0 (min r c) c).2.2.1)],.int .i64 0]) else none:=by kernel_rfl
abbrev _root_.Go.Proofs.S1.qr.M7.Kn:=A9 prog 97 qr.M7.spec
theorem qr.M7.Ae (hk:A3 prog qr.M7.Bf) (h:Hyp qr.M7.E f97 qr.M7.ts qr.M7.pre qr.M7.out):qr.M7.Kn :=
 Am (A5 hk _ _ _) func97 (by kernel_rfl) (by kernel_rfl) h
def solve.Ht.hint:Nat→Option Bh
 | 0=>some { keep:=[2,3,4,17,18],objs:=[],boxes:=[2,3,4] }
 | _=>none
def solve.Ht.Bf:List (Nat × Entry):=[(86,Cz.Check.spec),(97,qr.M7.spec),(98,qr.F3.spec),(24,solve.Flat.spec),(36,solve.H0.spec)]
def solve.Ht.E:Env:=Bk (Be solve.Ht.Bf) (fun _=>false) solve.Ht.hint (fun _=>none)
theorem solve.Ht.ev (N:Nat) (r c:Int) (l:List Int) (p q:Int) (m:List Int):B6 solve.Ht.E (N+4) f30 (As f30) [.agg [.int .i64 r,.int .i64 c,.ints .arg .u64 l],.agg [.int .i64 p,.int .i64 q,.ints .arg .u64 m]]=bif (Ak l) then bif ((Cs r c l) !=(0:Int)) then some (.tup [.agg [.int .i64 0,.int .i64 0,.nil],.int .i64 (Cs r c l)]) else bif (Ak m) then bif ((Cs p q m) !=(0:Int)) then some (.tup [.agg [.int .i64 0,.int .i64 0,.nil],.int .i64 (Cs p q m)]) else bif ((Bc r c)||(r !=p)) then some (.tup [.agg [.int .i64 0,.int .i64 0,.nil],.int .i64 3]) else bif (Ak l) then bif ((Hq r c l) !=(0:Int)) then some (.tup [.agg [.int .i64 0,.int .i64 0,.nil],.int .i64 (Hq r c l)]) else bif (Ak ((O5 r c l).2.2.1)) then bif ((Pk ((O5 r c l).1) ((O5 r c l).2.1) ((O5 r c l).2.2.1)).1) then some (.tup [.agg [.int .i64 0,.int .i64 0,.nil],.int .i64 5]) else bif (Ak ((J4 r c l).2.2.1)&&Ak m) then bif (((D7 ((J4 r c l).1) ((J4 r c l).2.1) ((J4 r c l).2.2.1) p q m).2.2.2) !=(0:Int)) then some (.tup [.agg [.int .i64 0,.int .i64 0,.nil],.int .i64 ((D7 ((J4 r c l).1) ((J4 r c l).2.1) ((J4 r c l).2.2.1) p q m).2.2.2)]) else bif (Ak ((O5 r c l).2.2.1)&&Ak ((D7 ((J4 r c l).1) ((J4 r c l).2.1) ((J4 r c l).2.2.1) p q m).2.2.1)) then some (.tup [.agg [.int .i64 ((upX ((O5 r c l).1) ((O5 r c l).2.1) ((O5 r c l).2.2.1) ((D7 ((J4 r c l).1) ((J4 r c l).2.1) ((J4 r c l).2.2.1) p q m).1) ((D7 ((J4 r c l).1) ((J4 r c l).2.1) ((J4 r c l).2.2.1) p q m).2.1) ((D7 ((J4 r c l).1) ((J4 r c l).2.1) ((J4 r c l).2.2.1) p q m).2.2.1)).1),.int .i64 ((upX ((O5 r c l).1) ((O5 r c l).2.1) ((O5 r c l).2.2.1) ((D7 ((J4 r c l).1) ((J4 r c l).2.1) ((J4 r c l).2.2.1) p q m).1) ((D7 ((J4 r c l).1) ((J4 r c l).2.1) ((J4 r c l).2.2.1) p q m).2.1) ((D7 ((J4 r c l).1) ((J4 r c l).2.1) ((J4 r c l).2.2.1) p q m).2.2.1)).2.1),.ints .fresh .u64 ((upX ((O5 r c l).1) ((O5 r c l).2.1) ((O5 r c l).2.2.1) ((D7 ((J4 r c l).1) ((J4 r c l).2.1) ((J4 r c l).2.2.1) p q m).1) ((D7 ((J4 r c l).1) ((J4 r c l).2.1) ((J4 r c l).2.2.1) p q m).2.1) ((D7 ((J4 r c l).1) ((J4 r c l).2.1) ((J4 r c l).2.2.1) p q m).2.2.1)).2.2.1)],.int .i64 ((upX ((O5 r c l).1) ((O5 r c l).2.1) ((O5 r c l).2.2.1) ((D7 ((J4 r c l).1) ((J4 r c l).2.1) ((J4 r c l).2.2.1) p q m).1) ((D7 ((J4 r c l).1) ((J4 r c l).2.1) ((J4 r c l).2.2.1) p q m).2.1) ((D7 ((J4 r c l).1) ((J4 r c l).2.1) ((J4 r c l).2.2.1) p q m).2.2.1)).2.2.2)]) else none else none else none else none else none else none :=
 Eq.trans (by kernel_rfl)
 (Fg (Fg rfl (Fg (Fg rfl (Ay (Za (Bc r c)) (Ay (Vh (Bc r c)) (Ay (Za (Bc r c)) (Ay (Vh (Bc r c)) (Ay (tt8 (Bc r c)) (Ay (tt6 (Bc r c)) (C5 (tt5 _ _) rfl rfl)))))))) rfl)) rfl)
abbrev _root_.Go.Proofs.S1.solve.Ht.Kn:=A9 prog 30 solve.Ht.spec
theorem solve.Ht.Ae (hk:A3 prog solve.Ht.Bf) (h:Hyp solve.Ht.E f30 solve.Ht.ts solve.Ht.pre solve.Ht.out):solve.Ht.Kn :=
 Am (A5 hk _ _ _) func30 (by kernel_rfl) (by kernel_rfl) h
end EqQr
open Go Go.Den Go.Cv Go.Proofs
open EqQr
def clS (R C:Nat) (l:List Int) (j:Nat) (x:Int) (i:Nat):List Int:=C4 R C fun a b=>if b=j∧j≤a∧a<i then (if a=j then x else 0) else Cp (C:Int) l (a:Int) (b:Int)
section
variable {R C j:Nat} {l:List Int} {x:Int}
theorem Azv (i:Nat):(clS R C l j x i).length=R*C:=Cf _ _ _
theorem Afh (hl:l.length=R*C) (hj:j<C):List.set l (j*C+j) x=clS R C l j x (j+1):=by
 unfold clS
 conv=>lhs; rw [← Yv hl]
 rw [Xg hj]
 refine F1 fun a b ha hb=>?_
 by_cases h:a=j∧b=j
 ·rw [A8u h,A8u (by omega),A8u h.1]
 ·rw [A8t h,A8t (by omega)]
theorem Azu {i:Nat} (hj:j<C) (hi:j<i):List.set (clS R C l j x i) (i*C+j) 0=clS R C l j x (i+1):=by
 unfold clS
 rw [Xg hj]
 refine F1 fun a b ha hb=>?_
 by_cases h:a=i∧b=j
 ·rw [A8u h,A8u (by omega),A8t (by omega)]
 ·rw [A8t h]
  by_cases h2:b=j∧j≤a∧a<i
  ·rw [A8u h2,A8u (show b=j∧j≤a∧a<i+1 by omega)]
  ·rw [A8t h2,A8t (by omega)]
theorem Azw:clS R C l j x R=Qo R C l j x:=by
 unfold clS Qo
 refine F1 fun a b ha hb=>?_
 by_cases h:b=j∧j≤a
 ·rw [A8u h,A8u (by omega)]
 ·rw [A8t h,A8t (by omega)]
end
theorem Acb {C i j:Nat} (hi:i≤6) (hC:C≤6) (hj:j≤6):Ad (Ad ((i:Int)*(C:Int))+(j:Int))=((i*C+j:Nat):Int):=by
 have h36:=A83 hi hC
 rw [Ar (x:=(i:Int)*(C:Int)) (by rw [← A8s]; omega) (by rw [← A8s]; omega),← A8s,Ar (by omega) (by omega)]
 omega
section
variable {R C:Nat}
theorem Ac7 (N M0:Nat) (l0:List Int) (r6:R≤6) (c6:C≤6) {j:Nat} (hj:j<C) (l:List Int) (x:Int) (v:List Int) (t:Int) (ms:List (List DV)) (hms:ms.length≤100):∀ (cnt i F:Nat),i+cnt=R→j<i→cnt<F →
 qr.down.L0 N M0 F (R:Int) (C:Int) l0 (i:Int) (clS R C l j x i) (j:Int) v t ms=qr.down.L1 N M0 (R:Int) (C:Int) l0 ((j+1:Nat):Int) (ms++[[.ints .arg .u64 v,.int .u64 t]]) (Qo R C l j x):=by
 intro cnt
 induction cnt with
 | zero =>
   intro i F hi hji hF
   obtain ⟨F,rfl⟩:∃ G,F=G+1:=⟨F-1,by omega⟩
   obtain rfl:i=R:=by omega
   rw [qr.down.A1,Aw,A8c (by omega),A8b,A78 (by unfold Acm; omega),A77,Ar (by omega) (by omega),Azw]
   rfl
 | succ cnt ih =>
   intro i F hi hji hF
   obtain ⟨F,rfl⟩:∃ G,F=G+1:=⟨F-1,by omega⟩
   have hlen:=Azv (R:=R) (C:=C) (l:=l) (j:=j) (x:=x) i
   have hp:=K6 (show i<R by omega) hj
   rw [qr.down.A1,Aw,A78 (by omega),A77,Acb (by omega) c6 (by omega),A78 (by omega),A78 (by omega),A8d,A77,A79,A78 (by omega),A77,Azu hj hji,Ar (by omega) (by omega)]
   exact ih (i+1) F (by omega) (by omega) (by omega)
def Ve (r c:Nat) (ms:List (List DV)):Option (List Int × List (List Int × Int))→DV
 | none=>.tup [.agg [.int .i64 0,.int .i64 0,.nil],.nil,.int .i64 2]
 | some x=>.tup [.agg [.int .i64 (r:Int),.int .i64 (c:Int),.ints (.own 106002 tB) .u64 x.1],.recs (.own 100006 tMR) 2 (ms++Ace x.2),.int .i64 0]
theorem Are (N:Nat) (hN:7<N) (l0:List Int) (r6:R≤6) (c6:C≤6):∀ (cnt j F:Nat) (l:List Int) (ms:List (List DV)),j+cnt=Fy R C→cnt<F→l.length=R*C→Ak l=true→ms.length=j →
 qr.down.L1 N F (R:Int) (C:Int) l0 (j:Int) ms l=some (Ve R C ms (J2 R C cnt j l)):=by
 intro cnt
 induction cnt with
 | zero =>
   intro j F l ms hj hF hl al hms
   obtain ⟨F,rfl⟩:∃ G,F=G+1:=⟨F-1,by omega⟩
   unfold Fy at hj
   have hlt:(Bc (j:Int) (C:Int)&&Bc (j:Int) (Ad ((R:Int)-1)))=false:=by
    rw [Aw,Aw,Ar (by omega) (by omega),Bool.and_eq_false_iff,A8q,A8q]; omega
   rw [qr.down.Cy,hlt,A8b]
   simp [J2,Ve,Ace]
 | succ cnt ih =>
   intro j F l ms hj hF hl al hms
   obtain ⟨F,rfl⟩:∃ G,F=G+1:=⟨F-1,by omega⟩
   have hj0:=hj
   unfold Fy at hj
   have hr:=Dw r6 c6 hl
   have hlt:(Bc (j:Int) (C:Int)&&Bc (j:Int) (Ad ((R:Int)-1)))=true:=by
    rw [Aw,Aw,Ar (by omega) (by omega),A78 (by omega),A78 (by omega)]; rfl
   have cp:G9 (R:Int) (C:Int) l (j:Int)=true:=Af.2 ⟨hr,Ao.2 (by omega)⟩
   have ec:B4 (C:Int) l (j:Int) (j:Int) (toNat ((R:Int)-(j:Int)))=Dm R C l j:=by unfold Dm; rw [show toNat ((R:Int)-(j:Int))=R-j by omega]
   have ca:Ak (Dm R C l j)=true:=O9 al
   have cl:(Dm R C l j).length=R-j:=Ks _ _ _ _ _
   rw [qr.down.Cy,hlt,A77,cp,Ao.2 (show 0≤(j:Int)∧(j:Int)≤(R:Int) by omega),A8d,A77,ec,Mt ca (by omega),A77]
   unfold J2
   by_cases he:(Bv (Dm R C l j)).2.2.2=0
   ·have hml:=Q4 he
    have hma:=Aau ca
    have hap:Sb (R:Int) (C:Int) (j:Int) (j:Int) (Bv (Dm R C l j)).1=true:=A78 (by omega)
    have hp:=K6 (show j<R by omega) (show j<C by omega)
    have hlen:=Qq R C l (j:Int) (j:Int) (Bv (Dm R C l j)).1 (Bv (Dm R C l j)).2.1
    have hg:=Ac7 N F l0 r6 c6 (show j<C by omega) (Gp R C l (j:Int) (j:Int) (Bv (Dm R C l j)).1 (Bv (Dm R C l j)).2.1) (Bv (Dm R C l j)).2.2.1 (Bv (Dm R C l j)).1 (Bv (Dm R C l j)).2.1 ms (by omega) (R-(j+1)) (j+1) N (by omega) (by omega) (by omega)
    have hn:=ih (j+1) F (Ps R C l j) (ms++[[.ints .arg .u64 (Bv (Dm R C l j)).1,.int .u64 (Bv (Dm R C l j)).2.1]]) (by omega) (by omega) (Te _ _ _ _) (Uh al j) (by rw [A8z,hms]; rfl)
    rw [Mm he,A8b,hr,hap,al,hma.1,hma.2.1,A8d,A8d,A8d,A77,Acb (by omega) c6 (by omega),A79,A79,A79,A78 (by omega),A78 (by omega),A8d,A77,A78 (by omega),A77,
     Afh hlen (by omega),Ar (by omega) (by omega),A8u he]
    refine (hg.trans hn).trans ?_
    show some (Ve R C _ (J2 R C cnt (j+1) (Ps R C l j)))=some (Ve R C ms _)
    cases J2 R C cnt (j+1) (Ps R C l j) with
    | none=>rfl
    | some x=>simp [Ve,Ace]
   ·rw [neI he,A77,A8t he]; rfl
theorem Amp (N:Nat) (hN:7<N) {l:List Int} (r6:R≤6) (c6:C≤6) (hl:l.length=R*C) (al:Ak l=true) (h0:Fy R C≠0) :
 qr.down.L2 N N (R:Int) (C:Int) l=some (Ve R C [] (I7 R C l)):=by
 obtain ⟨cnt,hc⟩:∃ cnt,Fy R C=cnt+1:=⟨Fy R C-1,by omega⟩
 obtain ⟨F,rfl⟩:∃ G,N=G+1:=⟨N-1,by omega⟩
 have hj:=hc
 unfold Fy at hj
 have hr:=Dw r6 c6 hl
 have hlt:(Bc (0:Int) (C:Int)&&Bc (0:Int) (Ad ((R:Int)-1)))=true:=by
  rw [Aw,Aw,Ar (by omega) (by omega),A78 (by omega),A78 (by omega)]; rfl
 have cp:G9 (R:Int) (C:Int) l (0:Int)=true:=Af.2 ⟨hr,Ao.2 (by omega)⟩
 have ec:B4 (C:Int) l (0:Int) (0:Int) (toNat ((R:Int)-(0:Int)))=Dm R C l 0:=by unfold Dm; rw [show toNat ((R:Int)-(0:Int))=R-0 by omega]; rfl
 have ca:Ak (Dm R C l 0)=true:=O9 al
 have cl:(Dm R C l 0).length=R-0:=Ks _ _ _ _ _
 unfold I7
 rw [hc,qr.down.Kp,hlt,A77,cp,Ao.2 (show 0≤(0:Int)∧(0:Int)≤(R:Int) by omega),A8d,A77,ec,Mt ca (by omega),A77]
 unfold J2
 by_cases he:(Bv (Dm R C l 0)).2.2.2=0
 ·have hml:=Q4 he
  have hma:=Aau ca
  have hap:Sb (R:Int) (C:Int) (0:Int) (0:Int) (Bv (Dm R C l 0)).1=true:=A78 (by omega)
  have hp:=K6 (show 0<R by omega) (show 0<C by omega)
  have hlen:=Qq R C l (0:Int) (0:Int) (Bv (Dm R C l 0)).1 (Bv (Dm R C l 0)).2.1
  have hg:=Ac7 (F+1) F l r6 c6 (show 0<C by omega) (Gp R C l (0:Int) (0:Int) (Bv (Dm R C l 0)).1 (Bv (Dm R C l 0)).2.1) (Bv (Dm R C l 0)).2.2.1 (Bv (Dm R C l 0)).1 (Bv (Dm R C l 0)).2.1 [] (Nat.zero_le _) (R-1) 1 (F+1) (by omega) (by omega) (by omega)
  have hn:=Are (R:=R) (C:=C) (F+1) hN l r6 c6 cnt 1 F (Ps R C l 0) [[.ints .arg .u64 (Bv (Dm R C l 0)).1,.int .u64 (Bv (Dm R C l 0)).2.1]] (by omega) (by unfold Fy at hc; omega) (Te _ _ _ _) (Uh al 0) rfl
  have mc:=Acb (i:=0) (C:=C) (j:=0) (by omega) c6 (by omega)
  have mc:Ad (Ad ((0:Int)*(C:Int))+(0:Int))=((0*C+0:Nat):Int):=mc
  rw [Mm he,A8b,hr,hap,al,hma.1,hma.2.1,A8d,A8d,A8d,A77,mc,A79,A79,A79,A78 (by omega),A78 (by omega),A8d,A77,A78 (by omega),A77,
   Afh hlen (by omega),A8u he]
  refine (hg.trans hn).trans ?_
  show some (Ve R C _ (J2 R C cnt 1 (Ps R C l 0)))=some (Ve R C [] _)
  cases J2 R C cnt (0+1) (Ps R C l 0) with
  | none=>rfl
  | some x=>simp [Ve,Ace]
 ·rw [neI he,A77,A8t he]; rfl
end
theorem qr.down.known:qr.down.Kn:=qr.down.Ae (.cons Aq.Apply.known (.cons Aq.Lk.known (.cons Aa.D2.known .nil))) fun r c l hp=>by
 obtain ⟨h1,al⟩:=Af.1 (show ((Az r c l&&Ff l)&&Ak l)=true from hp)
 obtain ⟨hr,hf⟩:=Af.1 h1
 obtain ⟨R,C,rfl,rfl,r6,c6,hl⟩:=Dl hr
 by_cases h0:Fy R C=0
 ·have hx:I7 R C l=some (l,[]):=by unfold I7; rw [h0]; rfl
  refine ⟨8,.tup [.agg [.int .i64 (R:Int),.int .i64 (C:Int),.ints .arg .u64 l],.recs (.own 100006 tMR) 2 [],.int .i64 0],[100006],?_,?_⟩
  ·unfold Fy at h0
   have hlt:(Bc (0:Int) (C:Int)&&Bc (0:Int) (Ad ((R:Int)-1)))=false:=by
    rw [Aw,Aw,Ar (by omega) (by omega),Bool.and_eq_false_iff,A8q,A8q]; omega
   rw [qr.down.ev,show (8:Nat)=7+1 from rfl,qr.down.Kp,hlt,A8b]
  ·show Wk _ _ (DV.tup [.agg [.int .i64 (Hf (R:Int) (C:Int) l).1,.int .i64 (Hf (R:Int) (C:Int) l).2.1,.ints .arg .u64 (Hf (R:Int) (C:Int) l).2.2.1],.recs .fresh 2 (Q3 (R:Int) (C:Int) l),.int .i64 (Hf (R:Int) (C:Int) l).2.2.2])
   unfold Hf Q3 H6
   rw [A79,A79,hx]
   exact Wk.Jp (.cons (Wk.Mk (.cons .int (.cons .int (.cons .Awq .nil)))) (.cons (.dropR _ _ _ _ (List.mem_singleton.2 rfl)) (.cons .int .nil)))
 ·refine ⟨8,Ve R C [] (I7 R C l),[106002,100006],?_,?_⟩
  ·rw [qr.down.ev]
   exact Amp 8 (by omega) r6 c6 hl al h0
  ·show Wk _ _ (DV.tup [.agg [.int .i64 (Hf (R:Int) (C:Int) l).1,.int .i64 (Hf (R:Int) (C:Int) l).2.1,.ints .arg .u64 (Hf (R:Int) (C:Int) l).2.2.1],.recs .fresh 2 (Q3 (R:Int) (C:Int) l),.int .i64 (Hf (R:Int) (C:Int) l).2.2.2])
   unfold Hf Q3 H6
   rw [A79,A79]
   cases I7 R C l with
   | none=>exact Wk.Jp (.cons (Wk.Mk (.cons .int (.cons .int (.cons T0 .nil)))) (.cons (.nilR _ _) (.cons .int .nil)))
   | some x=>exact Wk.Jp (.cons (Wk.Mk (.cons .int (.cons .int (.cons (.dropA _ _ _ _ A9m) .nil)))) (.cons (.dropR _ _ _ _ (A9c _ A9m)) (.cons .int .nil)))
open Go Go.Den Go.Cv Go.Proofs
open EqQr
def Ae0 (e:Int):DV:=.tup [.agg [.int .i64 0,.int .i64 0,.nil],.agg [.int .i64 0,.int .i64 0,.nil],.int .i64 e]
theorem Ae3 {r:Nat}:∀ {j:Nat} {ms:List (List Int × Int)},Ai9 r j ms→∀ i:Nat,i<ms.length→Ak (ms.getD i ([],0)).1=true∧Al (ms.getD i ([],0)).2=true∧(ms.getD i ([],0)).1.length+(j+i)=r
 | _,[],_,i,h=>absurd h (Nat.not_lt_zero _)
 | j,m::ms,hm,0,_=>hm.1
 | j,m::ms,hm,i+1,h=>by
   have:=Ae3 hm.2 i (by simpa using h)
   rw [show j+(i+1)=j+1+i by omega]
   exact this
theorem Aur {ms:List (List Int × Int)} {i:Nat} (h:i<ms.length):getD (Ace ms) i []=[.ints .arg .u64 (ms.getD i ([],0)).1,.int .u64 (ms.getD i ([],0)).2]:=by
 unfold Ace
 rw [A8h,A9o,A8o h,A8h,A8o h]; rfl
theorem Ai8 (ms:List (List Int × Int)):(Ace ms).length=ms.length:=by unfold Ace; rw [A9d]
theorem Art {n i:Nat} {ms:List (List Int × Int)} (h:i<ms.length) (q:List Int):Lg n i (ms.drop i) q=Gp n n (Lg n (i+1) (ms.drop (i+1)) q) (i:Int) 0 (ms.getD i ([],0)).1 (ms.getD i ([],0)).2:=by
 rw [List.drop_eq_getElem_cons h,Lg,A8h,A8o h]; rfl
theorem Amn {R:Nat} (h:R≤6):Rz (R:Int)=((R:Int),(R:Int),Mb R,0):=by
 unfold Rz Mb
 rw [A8u (Agd h),A79]
theorem A1a {n:Nat} (h:n≤6):n*n≤36:=A83 h h
theorem Aj3 (N:Nat) {R C:Nat} {l:List Int} (r6:R≤6) {x:List Int × List (List Int × Int)} (hx:I7 R C l=some x) (hm:Ai9 R 0 x.2) (hxr:Ak x.1=true) (hxl:x.1.length≤36):∀ (j F:Nat),j≤x.2.length→j<F →
 qr.D3.L0 N F (R:Int) (C:Int) l ((j:Int)-1) (Lg R j (x.2.drop j) (Mb R)) =
 bif Tp R C l then some (.tup [.agg [.int .i64 (R:Int),.int .i64 (R:Int),.ints .fresh .u64 (Jy R C l)],.agg [.int .i64 (R:Int),.int .i64 (C:Int),.ints .arg .u64 (H6 R C l)],.int .i64 0])
 else some (Ae0 2):=by
 have hq:Jy R C l=Lg R 0 x.2 (Mb R):=by unfold Jy; rw [hx]
 have hr:H6 R C l=x.1:=by unfold H6; rw [hx]
 have hd:Hf (R:Int) (C:Int) ([]++l)=((R:Int),(C:Int),x.1,0):=by
  unfold Hf
  rw [List.nil_append,A79,A79,hx,hr]; rfl
 have hmd:Q3 (R:Int) (C:Int) ([]++l)=Ace x.2:=by
  unfold Q3
  rw [List.nil_append,A79,A79,hx]
 have h36:=A1a r6
 intro j
 induction j with
 | zero =>
   intro F _ hF
   obtain ⟨F,rfl⟩:∃ G,F=G+1:=⟨F-1,by omega⟩
   have hb:=Xw R x.2 0 (Mb R) (Aaz R) (by unfold Mb; exact Cf _ _ _)
   have ok1:Dp (Lg R 0 x.2 (Mb R))=true:=Mt hb.1 (by omega)
   have ok2:Dp x.1=true:=Mt hxr (by omega)
   have hfo:Tp R C l=(Ff (Lg R 0 x.2 (Mb R))&&Ff x.1):=by unfold Tp; rw [hx,hq,hr]; rfl
   rw [qr.D3.A1,Aw,A78 (by omega),A77,List.drop_zero,ok1,A77,hd,Amn r6,ok2,A9j,A77,hfo,hq,hr]
   cases Ff (Lg R 0 x.2 (Mb R)) with
   | false=>rfl
   | true=>cases Ff x.1<;>rfl
 | succ j ih =>
   intro F hj hF
   obtain ⟨F,rfl⟩:∃ G,F=G+1:=⟨F-1,by omega⟩
   have ej:(((j+1:Nat):Int))-1=(j:Int):=by omega
   have hg:=Ae3 hm j (by omega)
   have hb:=Xw R (x.2.drop (j+1)) (j+1) (Mb R) (Aaz R) (by unfold Mb; exact Cf _ _ _)
   have hr1:=Dw r6 r6 hb.2
   have hap:Sb (R:Int) (R:Int) (j:Int) 0 (x.2.getD j ([],0)).1=true:=A78 (by omega)
   have hmg:=Aur (ms:=x.2) (i:=j) (by omega)
   rw [qr.D3.A1,ej,Aw,A8c (show ¬ (j:Int)<0 by omega),A8b,hmd,Ai8,A78 (show (0:Int)≤(j:Int) by omega),A78 (show (j:Int)<(x.2.length:Int) by omega),A8d,A77,A79,hmg,Amn r6]
   show (bif true then bif true then bif true then (bif (((Az (R:Int) (R:Int) (Lg R (j+1) (x.2.drop (j+1)) (Mb R))&&Sb (R:Int) (R:Int) (j:Int) (0:Int) (x.2.getD j ([],0)).1)&&(Ak (Lg R (j+1) (x.2.drop (j+1)) (Mb R))&&Ak (x.2.getD j ([],0)).1))&&Al (x.2.getD j ([],0)).2) then
    qr.D3.L0 N F (R:Int) (C:Int) l (Ad ((j:Int)-(1:Int))) (Gp (toNat (R:Int)) (toNat (R:Int)) (Lg R (j+1) (x.2.drop (j+1)) (Mb R)) (j:Int) (0:Int) (x.2.getD j ([],0)).1 (x.2.getD j ([],0)).2) else none) else none else none else none)=_
   rw [A77,A77,A77,hr1,hap,hb.1,hg.1,hg.2.1,A8d,A8d,A8d,A77,A79,Ar (by omega) (by omega),← Art (by omega)]
   exact ih F (by omega) (by omega)
theorem Av3 {R C:Nat} {l:List Int} (hl:l.length=R*C) (al:Ak l=true) {x:List Int × List (List Int × Int)} (hx:I7 R C l=some x):Ak x.1=true∧x.1.length=R*C∧x.2.length=Fy R C∧Ai9 R 0 x.2 :=
 Ac8 R C (Fy R C) 0 l x al hl (by unfold Fy; omega) hx
theorem Aay {r c:Int} {l:List Int} (h:Cs r c l=0):Hq r c l=if Tp r.toNat c.toNat l=true then 0 else 2:=by
 unfold Hq; rw [A8t (by rw [h]; decide)]
theorem Aj5 {r c:Int} {l:List Int} (h:Cs r c l≠0):Hq r c l=Cs r c l:=by unfold Hq; rw [A8u h]
theorem Alo {r c:Int} {l:List Int} {e:Int} (h:Hq r c l=e) (he:e≠0):qX r c l=N9 e∧rX r c l=N9 e:=by unfold qX rX; rw [h,A8u he,A8u he]; exact ⟨rfl,rfl⟩
theorem Anv {r c:Int} {l:List Int} (h:Hq r c l=0):qX r c l=(r,r,Jy r.toNat c.toNat l,0)∧rX r c l=(r,c,H6 r.toNat c.toNat l,0):=by unfold qX rX; rw [h]; exact ⟨rfl,rfl⟩
theorem Afu {drops:List Nat} {e:Int} {g h:Akn}:Wk drops (Ae0 e) (DV.tup [.agg [.int .i64 (N9 e).1,.int .i64 (N9 e).2.1,.ints g .u64 (N9 e).2.2.1],.agg [.int .i64 (N9 e).1,.int .i64 (N9 e).2.1,.ints h .u64 (N9 e).2.2.1],.int .i64 e]) :=
 Wk.Jp (.cons (Wk.Mk (.cons .int (.cons .int (.cons T0 .nil)))) (.cons (Wk.Mk (.cons .int (.cons .int (.cons T0 .nil)))) (.cons .int .nil)))
theorem qr.D3.known:qr.D3.Kn:=qr.D3.Ae (.cons Cz.Check.known (.cons Aq.Apply.known (.cons Aa.Ic.known (.cons qr.down.known (.cons Ac.Finite.known .nil))))) fun r c l hp=>by
 have al:Ak l=true:=hp
 show ∃ N dv drops,_=some dv∧Wk drops dv (DV.tup [.agg [.int .i64 (qX r c l).1,.int .i64 (qX r c l).2.1,.ints .arg .u64 (qX r c l).2.2.1],.agg [.int .i64 (rX r c l).1,.int .i64 (rX r c l).2.1,.ints .arg .u64 (rX r c l).2.2.1],.int .i64 (Hq r c l)])
 by_cases h1:Cs r c l=0
 ·obtain ⟨hr,hf⟩:=Ki h1
  have h36:=It hr
  obtain ⟨R,C,rfl,rfl,r6,c6,hl⟩:=Dl hr
  have d0:decide (0+l.length≤Im)=true:=A78 (by unfold Im; omega)
  cases hx:I7 R C l with
  | none =>
    have hfo:Tp R C l=false:=by unfold Tp; rw [hx]; rfl
    have he:Hq (R:Int) (C:Int) l=2:=by rw [Aay h1,A79,A79,hfo]; rfl
    obtain ⟨e1,e2⟩:=Alo he (by decide)
    have hd:Hf (R:Int) (C:Int) ([]++l)=N9 2:=by
     unfold Hf
     rw [List.nil_append,A79,A79,hx]; rfl
    rw [e1,e2,he]
    exact ⟨0,Ae0 2,[],by rw [qr.D3.ev,al,A77,Mm h1,A8b,d0,A77,hd,List.nil_append,hr,hf,al,A8d,A8d,A77,show ((N9 2).2.2.2 !=(0:Int))=true from rfl,A77]; rfl,Afu⟩
  | some x =>
    obtain ⟨x1,x2,x3,x4⟩:=Av3 hl al hx
    have hd:Hf (R:Int) (C:Int) ([]++l)=((R:Int),(C:Int),x.1,0):=by
     unfold Hf H6
     rw [List.nil_append,A79,A79,hx]; rfl
    have hmd:Q3 (R:Int) (C:Int) ([]++l)=Ace x.2:=by
     unfold Q3
     rw [List.nil_append,A79,A79,hx]
    have hn:x.2.length≤6:=by rw [x3]; unfold Fy; omega
    have hloop:=Aj3 8 r6 hx x4 x1 (by rw [x2]; exact A83 r6 c6) x.2.length 8 (A81 _) (by omega)
    rw [A8l (A81 _)] at hloop
    have hrun:=qr.D3.ev 8 (R:Int) (C:Int) l
    rw [al,A77,Mm h1,A8b,d0,A77,hd,hmd,Ai8,List.nil_append,hr,hf,al,A8d,A8d,A77,show (((R:Int),(C:Int),x.1,(0:Int)).2.2.2 !=(0:Int))=false from rfl,A8b,Amn r6,Ar (by omega) (by omega)] at hrun
    have hrun:=hrun.trans hloop
    cases hfo:Tp R C l with
    | false =>
      have he:Hq (R:Int) (C:Int) l=2:=by rw [Aay h1,A79,A79,hfo]; rfl
      obtain ⟨e1,e2⟩:=Alo he (by decide)
      rw [hfo,A8b] at hrun
      rw [e1,e2,he]
      exact ⟨8,Ae0 2,[],hrun,Afu⟩
    | true =>
      have he:Hq (R:Int) (C:Int) l=0:=by rw [Aay h1,A79,A79,hfo]; rfl
      obtain ⟨e1,e2⟩:=Anv he
      rw [hfo,A77] at hrun
      rw [e1,e2,he,A79,A79]
      exact ⟨8,_,[],hrun,Wk.Jp (.cons (Wk.Mk (.cons .int (.cons .int (.cons (.fresh _ _) .nil)))) (.cons (Wk.Mk (.cons .int (.cons .int (.cons .Awq .nil)))) (.cons .int .nil)))⟩
 ·have he:=Aj5 h1
  obtain ⟨e1,e2⟩:=Alo he h1
  rw [e1,e2,he]
  exact ⟨0,Ae0 (Cs r c l),[],by rw [qr.D3.ev,al,A77,neI h1,A77]; rfl,Afu⟩
theorem Amy {r c:Int} {l:List Int} (h:Hq r c l=0):Cs r c l=0:=by
 by_cases h1:Cs r c l=0
 ·exact h1
 ·rw [Aj5 h1] at h; exact absurd h h1
theorem Aj4 {r c:Int} {l:List Int} (al:Ak l=true) (h:Hq r c l=0):∃ R C:Nat,r=R∧c=C∧R≤6∧C≤6∧l.length=R*C∧Ak (Jy R C l)=true∧(Jy R C l).length=R*R∧Ak (H6 R C l)=true∧(H6 R C l).length=R*C∧Ff (Jy R C l)=true∧Ff (H6 R C l)=true:=by
 have h1:=Amy h
 rw [Aay h1] at h
 obtain ⟨R,C,rfl,rfl,r6,c6,hl⟩:=Dl (Ki h1).1
 rw [A79,A79] at h
 by_cases ho:Tp R C l=true
 ·unfold Tp at ho
  obtain ⟨o1,o2⟩:=Af.1 ho
  obtain ⟨o3,o4⟩:=Af.1 o2
  obtain ⟨q1,q2⟩:=Aon o1
  obtain ⟨g1,g2⟩:=Aom al hl o1
  exact ⟨R,C,rfl,rfl,r6,c6,hl,q1,q2,g1,g2,o3,o4⟩
 ·rw [A8t ho] at h; exact absurd h (by decide)
theorem An0 {R C:Nat} {l:List Int} (r6:R≤6) (c6:C≤6) (hl:l.length=R*C) {x y a b:Int} (hp:Qy (R:Int) (C:Int) x y a b=true) :
 Jf (R:Int) (C:Int) l x y a b=(a,b,C4 a.toNat b.toNat fun i k=>Cp (C:Int) l (x+(i:Int)) (y+(k:Int)),0):=by
 unfold Jf; rw [A8u (Dw r6 c6 hl),A8u hp]
theorem Aee {r c:Int} {l:List Int} (al:Ak l=true) (h:Hq r c l=0) :
 Jf r r (Jy r.toNat c.toNat l) 0 0 r (min r c)=J4 r c l∧Jf r c (H6 r.toNat c.toNat l) 0 0 (min r c) c=O5 r c l:=by
 obtain ⟨R,C,rfl,rfl,r6,c6,hl,q1,q2,g1,g2,_,_⟩:=Aj4 al h
 unfold J4 O5
 rw [h,A8t (by decide),A8t (by decide),A79,A79]
 have p1:Qy (R:Int) (R:Int) 0 0 (R:Int) (min (R:Int) (C:Int))=true:=A78 (by omega)
 have p2:Qy (R:Int) (C:Int) 0 0 (min (R:Int) (C:Int)) (C:Int)=true:=A78 (by omega)
 rw [An0 r6 r6 q2 p1,An0 r6 c6 g2 p2]
 exact ⟨rfl,rfl⟩
theorem A2b {r c:Int} {l:List Int} (al:Ak l=true) (h:Hq r c l=0):Ak (Jy r.toNat c.toNat l)=true∧Ak (H6 r.toNat c.toNat l)=true:=by
 obtain ⟨R,C,rfl,rfl,_,_,_,q1,_,g1,_,_,_⟩:=Aj4 al h
 rw [A79,A79]
 exact ⟨q1,g1⟩
theorem Axt {r c:Int} {l:List Int} (al:Ak l=true) (h:Hq r c l=0):Ak (J4 r c l).2.2.1=true∧Ak (O5 r c l).2.2.1=true:=by
 obtain ⟨a,b⟩:=Aee al h
 obtain ⟨q1,g1⟩:=A2b al h
 rw [← a,← b]
 exact ⟨An1 q1 _ _ _ _,An1 g1 _ _ _ _⟩
theorem qr.M7.known:qr.M7.Kn:=qr.M7.Ae (.cons Aa.Part.known (.cons qr.D3.known .nil)) fun r c l hp=>by
 have al:Ak l=true:=hp
 show ∃ N dv drops,_=some dv∧Wk drops dv (DV.tup [.agg [.int .i64 (J4 r c l).1,.int .i64 (J4 r c l).2.1,.ints .fresh .u64 (J4 r c l).2.2.1],.agg [.int .i64 (O5 r c l).1,.int .i64 (O5 r c l).2.1,.ints .fresh .u64 (O5 r c l).2.2.1],.int .i64 (Hq r c l)])
 by_cases h:Hq r c l=0
 ·obtain ⟨e1,e2⟩:=Anv h
  obtain ⟨t1,t2⟩:=Aee al h
  refine ⟨0,DV.tup [.agg [.int .i64 (J4 r c l).1,.int .i64 (J4 r c l).2.1,.ints .fresh .u64 (J4 r c l).2.2.1],.agg [.int .i64 (O5 r c l).1,.int .i64 (O5 r c l).2.1,.ints .fresh .u64 (O5 r c l).2.2.1],.int .i64 0],[],by rw [qr.M7.ev,al,A77,Mm h,A8b,e1,e2,t1,t2],by rw [h]; exact Wk.Jp (.cons (Wk.Mk (.cons .int (.cons .int (.cons .Rw .nil)))) (.cons (Wk.Mk (.cons .int (.cons .int (.cons .Rw .nil)))) (.cons .int .nil)))⟩
 ·have e1:J4 r c l=N9 (Hq r c l):=by unfold J4; rw [A8u h]
  have e2:O5 r c l=N9 (Hq r c l):=by unfold O5; rw [A8u h]
  rw [e1,e2]
  exact ⟨0,Ae0 (Hq r c l),[],by rw [qr.M7.ev,al,A77,neI h,A77]; rfl,Afu⟩
theorem A5c {r c p:Int}:((Bc r c)||(r !=p))=decide (r<c∨r≠p):=by
 rw [Aw,A8n]; simp
theorem solve.Ht.known:solve.Ht.Kn:=solve.Ht.Ae (.cons Cz.Check.known (.cons qr.M7.known (.cons qr.F3.known (.cons solve.Flat.known (.cons solve.H0.known .nil))))) fun r c l p q m hp=>by
 obtain ⟨al,am⟩:=Af.1 (show (Ak l&&Ak m)=true from hp)
 show ∃ N dv drops,_=some dv∧Wk drops dv (Vo (Hh r c l p q m))
 have hrun:=solve.Ht.ev 0 r c l p q m
 rw [al,A77] at hrun
 unfold Hh
 by_cases c1:Cs r c l=0
 ·rw [Mm c1,A8b,am,A77] at hrun
  rw [A8t (by rw [c1]; decide)]
  by_cases c2:Cs p q m=0
  ·rw [Mm c2,A8b,A5c] at hrun
   rw [A8t (by rw [c2]; decide)]
   by_cases c3:r<c∨r≠p
   ·rw [A78 c3,A77] at hrun
    rw [A8u c3]
    exact ⟨0+4,_,[],hrun,Lp⟩
   ·rw [A8c c3,A8b,A77] at hrun
    rw [A8t c3]
    by_cases c4:Hq r c l=0
    ·obtain ⟨i1,i2⟩:=Axt al c4
     rw [Mm c4,A8b,i2,A77] at hrun
     rw [A8t (by rw [c4]; decide)]
     by_cases c5:(Pk (O5 r c l).1 (O5 r c l).2.1 (O5 r c l).2.2.1).1=true
     ·rw [c5,A77] at hrun
      rw [A8u c5]
      exact ⟨0+4,_,[],hrun,Lp⟩
     ·have c5':(Pk (O5 r c l).1 (O5 r c l).2.1 (O5 r c l).2.2.1).1=false:=by simpa using c5
      rw [c5',A8b,i1,A8d,A77] at hrun
      rw [A8t c5]
      unfold Asl
      by_cases c6:(D7 (J4 r c l).1 (J4 r c l).2.1 (J4 r c l).2.2.1 p q m).2.2.2=0
      ·rw [Mm c6,A8b,Apc,A8d,A77] at hrun
       rw [A8t (by rw [c6]; decide)]
       exact ⟨0+4,_,[],hrun,Qg⟩
      ·rw [neI c6,A77] at hrun
       rw [A8u c6]
       exact ⟨0+4,_,[],hrun,Lp⟩
    ·rw [neI c4,A77] at hrun
     rw [A8u c4]
     exact ⟨0+4,_,[],hrun,Lp⟩
  ·rw [neI c2,A77] at hrun
   rw [A8u c2]
   exact ⟨0+4,_,[],hrun,Lp⟩
 ·rw [neI c1,A77] at hrun
  rw [A8u c1]
  exact ⟨0+4,_,[],hrun,Lp⟩
open Go Go.Den Go.Cv Go.Proofs
set_option maxRecDepth 100000
namespace EqRef17
def Ax.Finite.hint:Nat→Option Bh
 | 0=>some { keep:=[0,3],objs:=[],boxes:=[] }
 | _=>none
def Ax.Finite.Bf:List (Nat × Entry):=[(131,A4.Finite.spec)]
def Ax.Finite.E:Env:=Bk (Be Ax.Finite.Bf) (fun _=>false) Ax.Finite.hint (fun _=>none)
section
variable (N M:Nat) (x:List Int) (p3:Int)
def Ax.Finite.L0:Option DV:=Cd Ax.Finite.E N f92 (As f92) [1,0,1,0] [] M ⟨Il 16 [(0,.ints .arg .u64 x),(3,.int .i64 p3)],[]⟩
theorem Ax.Finite.A1:Ax.Finite.L0 N (M+1) x p3=bif (Bc p3 (length x:Int)) then bif ((decide (0≤p3))&&(decide (p3<(length x:Int)))) then bif (Al (getD x (toNat p3) 0)) then bif (!(Dk (getD x (toNat p3) 0))) then some (.bool false) else Ax.Finite.L0 N M x (Ad (p3+1)) else none else none else some (.bool true):=by kernel_rfl
theorem Ax.Finite.ev:B6 Ax.Finite.E N f92 (As f92) [.ints .arg .u64 x] =
 Ax.Finite.L0 N N x 0:=by kernel_rfl
end
abbrev _root_.Go.Proofs.S1.Ax.Finite.Kn:=A9 prog 92 Ax.Finite.spec
theorem Ax.Finite.Ae (hk:A3 prog Ax.Finite.Bf) (h:Hyp Ax.Finite.E f92 Ax.Finite.ts Ax.Finite.pre Ax.Finite.out):Ax.Finite.Kn :=
 Am (A5 hk _ _ _) func92 (by kernel_rfl) (by kernel_rfl) h
def Au.Check.Bf:List (Nat × Entry):=[(92,Ax.Finite.spec),(91,A8.Hl.spec)]
def Au.Check.E:Env:=Bk (Be Au.Check.Bf) (fun _=>false) (fun _=>none) (fun _=>none)
theorem Au.Check.ev (N:Nat) (r c:Int) (l:List Int):B6 Au.Check.E N f25 (As f25) [.agg [.int .i64 r,.int .i64 c,.ints .arg .u64 l]]=bif (!(Az r c l)) then some (.int .i64 1) else bif (Dp l) then bif (!(Ff l)) then some (.int .i64 4) else some (.int .i64 0) else none:=by kernel_rfl
abbrev _root_.Go.Proofs.S1.Au.Check.Kn:=A9 prog 25 Au.Check.spec
theorem Au.Check.Ae (hk:A3 prog Au.Check.Bf) (h:Hyp Au.Check.E f25 Au.Check.ts Au.Check.pre Au.Check.out):Au.Check.Kn :=
 Am (A5 hk _ _ _) func25 (by kernel_rfl) (by kernel_rfl) h
end EqRef17
open Go Go.Den Go.Cv Go.Proofs
open EqRef17
theorem Z3 (N:Nat) {x:List Int} (hx:Dp x=true):∀ (k i F:Nat),i+k=x.length→k<F→Ax.Finite.L0 N F x (i:Int)=some (.bool ((x.drop i).all Dk)):=by
 obtain ⟨hl,hu⟩:=Oh hx
 intro k
 induction k with
 | zero =>
   intro i F hi hF
   obtain ⟨F,rfl⟩:∃ G,F=G+1:=⟨F-1,by omega⟩
   rw [Ax.Finite.A1,Aw,A8c (by omega),A8b,A8l (by omega)]; rfl
 | succ k ih =>
   intro i F hi hF
   obtain ⟨F,rfl⟩:∃ G,F=G+1:=⟨F-1,by omega⟩
   rw [Ax.Finite.A1,Aw,A78 (show (i:Int)<(x.length:Int) by omega),A77,A78 (show (0:Int)≤(i:Int) by omega),A8d,A77,A79,hu i (by omega),A77,Le (by omega),List.all_cons]
   cases Dk (x.getD i 0) with
   | false=>rfl
   | true =>
     rw [A86,A8b,Ar (by omega) (by omega),A9k]
     exact ih (i+1) F (by omega) (by omega)
theorem Ax.Finite.known:Ax.Finite.Kn:=Ax.Finite.Ae (.cons A4.Finite.known .nil) fun x hp=>by
 have hp:Dp x=true:=hp
 refine ⟨x.length+1,Ax.Finite.out [.l x],[],?_,.bool⟩
 show _=some (DV.bool (x.all Dk))
 rw [Ax.Finite.ev]
 exact Z3 _ hp x.length 0 (x.length+1) (by omega) (by omega)
theorem Au.Check.known:Au.Check.Kn:=Au.Check.Ae (.cons Ax.Finite.known (.cons A8.Hl.known .nil)) fun r c l hp=>by
 have hp:Ak l=true:=hp
 refine ⟨0,Au.Check.out [.i r,.i c,.l l],[],?_,.int⟩
 show _=some (DV.int .i64 (Cs r c l))
 rw [Au.Check.ev]
 unfold Cs
 by_cases h:Az r c l=true
 ·have:=It h
  rw [h,A86,A8b,Mt hp (by omega),A77,A8u rfl]
  cases Ff l<;>rfl
 ·have h':Az r c l=false:=by simpa using h
  rw [h']; rfl
section
variable {n Q:Nat} {l m:List Int}
end
open Go Go.Den Go.Cv Go.Proofs
set_option maxRecDepth 100000
namespace EqRef14
end EqRef14
open Go Go.Den Go.Cv Go.Proofs
open EqRef13 EqRef14
open Go Go.Den Go.Cv Go.Proofs
open EqRef13 EqRef14
theorem Ax5 {c b i:Int} {l:List Int} {n j:Nat} (h:j<n):(B4 c l b i n).getD j 0=Cp c l (i+(j:Int)) b:=by
 unfold B4
 rw [A8h,A9o,List.getElem?_range h]; rfl
section
variable {R C i k:Nat} {l v:List Int} {t:Int}
end
open Go Go.Den Go.Cv Go.Proofs
set_option maxRecDepth 100000
namespace EqLow
end EqLow
open Go Go.Den Go.Cv Go.Proofs
open EqLow
section
variable {n Q:Nat} {l m:List Int}
end
open Go Go.Den Go.Cv Go.Proofs
set_option maxRecDepth 100000
namespace EqLse
end EqLse
open Go Go.Den Go.Cv Go.Proofs
open EqLse
theorem Aiw {r c:Int} {l:List Int} (h:Az r c l=true):0≤r∧r≤6∧0≤c∧c≤6:=by
 obtain ⟨R,C,rfl,rfl,r6,c6,_⟩:=Dl h
 omega
theorem Azd {r c:Int} {l:List Int} (al:Ak l=true):Ak (Vz r c l).2.2.1=true:=by
 unfold Vz
 split
 ·exact al
 ·exact Hz
theorem A0u (r c:Int) (l:List Int) (p q:Int) (m:List Int):Ak (upX r c l p q m).2.2.1=true:=by
 unfold upX
 split
 ·exact Hz
 ·exact Azd (Nc fun i k=>Ag9 (Akt _ _ _ _ _) i)
theorem Aq0 (r c:Int) (l:List Int) (p q:Int) (m:List Int):Ak (Hh r c l p q m).2.2.1=true:=by
 unfold Hh
 split
 ·exact Hz
 ·split
  ·exact Hz
  ·split
   ·exact Hz
   ·split
    ·exact Hz
    ·split
     ·exact Hz
     ·unfold Asl
      split
      ·exact Hz
      ·exact A0u _ _ _ _ _ _
theorem Apq {r c:Int} {l:List Int} {q:Int} {m:List Int} (al:Ak l=true) (am:Ak m=true) (i k:Int):Al (J5 r c l q m i k)=true:=by
 unfold J5
 by_cases h:i<r
 ·rw [A8u h]; exact Uu al
 ·rw [A8t h]; exact Uu am
theorem Aei {r c:Int} {l:List Int} {p q:Int} {m:List Int} (al:Ak l=true) (am:Ak m=true):Ak (Ed r c l p q m).2.2.1=true:=by
 unfold Ed
 by_cases h:(Az r c l&&Az p q m)=true
 ·rw [A8u h]
  by_cases h2:c=q∧r+p≤6
  ·rw [A8u h2]; exact (show Ak (C4 _ _ fun i k=>J5 r c l q m i k)=true from Nc fun _ _=>Apq al am _ _)
  ·rw [A8t h2]; exact Hz
 ·rw [A8t h]; exact Hz
open Go Go.Den Go.Cv Go.Proofs
open EqMat EqOf
open Go Go.Den Go.Cv Go.Proofs
set_option maxRecDepth 100000
namespace EqRef20
def A8.Stack.Bf:List (Nat × Entry):=[]
def A8.Stack.E:Env:=Bk (Be A8.Stack.Bf) (fun _=>false) (fun _=>none) (fun _=>none)
theorem A8.Stack.ev (N:Nat) (r c:Int) (l:List Int) (p q:Int) (m:List Int):B6 A8.Stack.E N f72 (As f72) [.agg [.int .i64 r,.int .i64 c,.ints .arg .u64 l],.agg [.int .i64 p,.int .i64 q,.ints .arg .u64 m]]=bif (decide (0+(length l)≤Im)) then bif (decide ((length ([]++l))+(length m)≤Im)) then some (.agg [.int .i64 (Ad (r+p)),.int .i64 c,.ints (.own 20 37) .u64 (([]++l)++m)]) else none else none :=
 Eq.trans (by kernel_rfl)
 (Fg (C5 (Cn _) rfl rfl) rfl)
abbrev _root_.Go.Proofs.S1.A8.Stack.Kn:=A9 prog 72 A8.Stack.spec
theorem A8.Stack.Ae (hk:A3 prog A8.Stack.Bf) (h:Hyp A8.Stack.E f72 A8.Stack.ts A8.Stack.pre A8.Stack.out):A8.Stack.Kn :=
 Am (A5 hk _ _ _) func72 (by kernel_rfl) (by kernel_rfl) h
end EqRef20
open Go Go.Den Go.Cv Go.Proofs
open EqOf EqRef20
theorem A8.Stack.known:A8.Stack.Kn:=A8.Stack.Ae .nil fun r c l p q m hp=>by
 obtain ⟨h1,h2⟩:=Af.1 (show ((Az r c l&&Az p q m)&&decide (q=c))=true from hp)
 obtain ⟨hr,hm⟩:=Af.1 h1
 obtain ⟨R,C,rfl,rfl,r6,c6,hl⟩:=Dl hr
 obtain ⟨P,Q,rfl,rfl,p6,q6,hl2⟩:=Dl hm
 have h36:=A83 r6 c6
 have h36':=A83 p6 q6
 refine ⟨0,.agg [.int .i64 ((R:Int)+(P:Int)),.int .i64 (C:Int),.ints (.own 20 tB) .u64 (l++m)],[20],?_,Aft (List.mem_singleton.2 rfl)⟩
 rw [A8.Stack.ev,List.nil_append,A78 (show 0+l.length≤Im by unfold Im; omega),A77,A78 (show l.length+m.length≤Im by unfold Im; omega),A77,Ar (by omega) (by omega)]
theorem Abh {R P C:Nat} {l m:List Int} (hl:l.length=R*C) (hm:m.length=P*C) :
 (C4 (R+P) C fun (i k:Nat)=>J5 (R:Int) (C:Int) l (C:Int) m (i:Int) (k:Int))=l++m:=by
 have h:(l++m).length=(R+P)*C:=by rw [A8z,hl,hm,A9b]
 conv=>rhs; rw [← Yv h]
 refine F1 fun i k hi hk=>?_
 unfold J5
 by_cases hlt:(i:Int)<(R:Int)
 ·have:=K6 (r:=R) (c:=C) (i:=i) (k:=k) (by omega) hk
  rw [A8u hlt,Qd,Qd,A8h,A8h,List.getElem?_append_left (by omega)]
 ·have es:(i:Int)-(R:Int)=((i-R:Nat):Int):=by omega
  have e2:i*C=R*C+(i-R)*C:=by rw [← A9b]; congr 1; omega
  rw [A8t hlt,es,Qd,Qd,A8h,A8h,A9l (by omega),hl,e2]
  congr 2; omega
open Go Go.Den Go.Cv Go.Proofs
open EqLse
section
variable {N:Nat} {r c p q a b u v:Int} {l m g h:List Int} {w one two done f y Q z:MX}
end
open Go Go.Den Go.Cv Go.Proofs
open EqRef14 EqLow
section
variable {n Q:Nat} {l m:List Int}
end
open Go Go.Den Go.Cv Go.Proofs
open EqRef20
open Go Go.Den Go.Cv Go.Proofs
def Mat (R C:Nat) (x:MX):Prop:=∃ l,x=((R:Int),(C:Int),l,0)∧R≤6∧C≤6∧l.length=R*C∧Ak l=true
def FM (x:MX):Prop:=Ff x.2.2.1=true
theorem Mat.mk {R C:Nat} {l:List Int} (r6:R≤6) (c6:C≤6) (hl:l.length=R*C) (al:Ak l=true):Mat R C ((R:Int),(C:Int),l,0):=⟨l,rfl,r6,c6,hl,al⟩
theorem Mat.A1x {r c:Int} {l:List Int} (h:Cs r c l=0) (al:Ak l=true):∃ R C:Nat,r=R∧c=C∧Mat R C (r,c,l,0)∧FM (r,c,l,0):=by
 obtain ⟨R,C,rfl,rfl,r6,c6,hl⟩:=Dl (Ki h).1
 exact ⟨R,C,rfl,rfl,.mk r6 c6 hl al,(Ki h).2⟩
theorem Ara {r c:Int} {l:List Int} (h:Cs r c l=0):(Pk r c l).1=Aha r c l:=by
 unfold Pk
 rw [A8t (fun k=>k h)]
section
variable {R C K:Nat} {x y:MX}
theorem Mat.len (h:Mat R C x):x.2.2.1.length≤36:=by
 obtain ⟨l,rfl,r6,c6,hl,_⟩:=h
 have:=A83 r6 c6
 show l.length≤36
 omega
end
open Go Go.Den Go.Cv Go.Proofs
set_option maxRecDepth 100000
namespace EqGg
end EqGg
open Go Go.Den Go.Cv Go.Proofs
open EqGg
def A5p (o:Option DV) (d:DV):Prop:=∃ dv drops,o=some dv∧Wk drops dv d
theorem Ab3 {E:Env} {fn:Func} {ds:List DV} {d:DV} (h:A5p (B6 E 0 fn (As fn) ds) d):Aw5 E fn ds d:=by
 obtain ⟨dv,drops,e1,e2⟩:=h
 exact ⟨0,dv,drops,e1,e2⟩
theorem A0g {drops:List Nat} {r c:Int} {l:List Int}:Wk drops (.agg [.int .i64 r,.int .i64 c,.ints .fresh .u64 l]) (.agg [.int .i64 r,.int .i64 c,.ints .fresh .u64 l]):=Wk.Mk (.cons .int (.cons .int (.cons .Rw .nil)))
section
variable {N:Nat} {r c p q u v:Int} {l m h:List Int} {R Q T C W:MX}
end
def A2s (o:Option DV) (x:MX):Prop:=A5p o (Vo x)
theorem Ayk {o:Option DV} {x:MX} (h:o=some (Vo x)):A2s o x:=⟨_,[],h,Qg⟩
theorem Aap {o:Option DV} {e:Int} (h:o=some (Ayq e)):A2s o (N9 e):=⟨_,[],h,Lp⟩
section
variable {N:Nat} {r c p q:Int} {l m:List Int} {Q L S w o y:MX}
end
open Go Go.Den Go.Cv Go.Proofs
set_option maxRecDepth 100000
namespace EqRidge
def Ac.Es.Bf:List (Nat × Entry):=[(157,Ac.Mul.spec)]
def Ac.Es.E:Env:=Bk (Be Ac.Es.Bf) (fun _=>false) (fun _=>none) (fun _=>none)
theorem Ac.Es.ev (N:Nat) (i x:Int) (l:List Int):B6 Ac.Es.E N f203 (As f203) [.int .i64 i,.cellp [.int .u64 x],.cellp [.ints .arg .u64 l]]=bif ((decide (0≤i))&&(decide (i<(length l:Int)))) then bif (Al x&&Al (getD l (toNat i) 0)) then some (.int .u64 (D6 x (getD l (toNat i) 0))) else none else none :=
 Eq.trans (by kernel_rfl)
 (C5 (Rg _ _) (C5 (Cn _) rfl rfl) rfl)
abbrev _root_.Go.Proofs.S1.Ac.Es.Kn:=A9 prog 203 Ac.Es.spec
theorem Ac.Es.Ae (hk:A3 prog Ac.Es.Bf) (h:Hyp Ac.Es.E f203 Ac.Es.ts Ac.Es.pre Ac.Es.out):Ac.Es.Kn :=
 Am (A5 hk _ _ _) func203 (by kernel_rfl) (by kernel_rfl) h
def Ac.each.B8.hint:Nat→Option Bh
 | 0=>some { keep:=[1,5,7,8],objs:=[(0,5,100005,.ints 37 .u64 [])],boxes:=[] }
 | _=>none
def Ac.each.B8.Bf:List (Nat × Entry):=[(203,Ac.Es.spec)]
def Ac.each.B8.E:Env:=Bk (Be Ac.each.B8.Bf) (fun _=>false) Ac.each.B8.hint (fun _=>none)
section
variable (N M:Nat) (n x:Int) (l:List Int) (p8:Int) (p5:List Int)
def Ac.each.B8.L0:Option DV:=Cd Ac.each.B8.E N f202 (As f202) [1,1,0,1,0] [] M ⟨Il 19 [(1,.fn 203 [] [.cellp [.int .u64 x],.cellp [.ints .arg .u64 l]]),(5,.oref 100005),(7,.int .i64 n),(8,.int .i64 p8)],[(100005,false,.ints 37 .u64 p5)]⟩
theorem Ac.each.B8.A1:Ac.each.B8.L0 N (M+1) n x l p8 p5=bif (Bc p8 n) then bif ((Cr (0≤p8∧p8<length l)&&Ak l)&&Al x) then bif (decide ((length p5)+1≤Im)) then Ac.each.B8.L0 N M n x l (Ad (p8+1)) (p5++[(D6 x (getD l (toNat p8) 0))]) else none else none else some (.ints (.own 100005 37) .u64 p5):=by kernel_rfl
theorem Ac.each.B8.ev:B6 Ac.each.B8.E N f202 (As f202) [.int .i64 n,.fn 203 [] [.cellp [.int .u64 x],.cellp [.ints .arg .u64 l]]] =
 Ac.each.B8.L0 N N n x l 0 []:=by kernel_rfl
end
abbrev _root_.Go.Proofs.S1.Ac.each.B8.Kn:=A9 prog 202 Ac.each.B8.spec
theorem Ac.each.B8.Ae (hk:A3 prog Ac.each.B8.Bf) (h:Hyp Ac.each.B8.E f202 Ac.each.B8.ts Ac.each.B8.pre Ac.each.B8.out):Ac.each.B8.Kn :=
 Am (A5 hk _ _ _) func202 (by kernel_rfl) (by kernel_rfl) h
def Ac.B8.Bf:List (Nat × Entry):=[(202,Ac.each.B8.spec)]
def Ac.B8.E:Env:=Bk (Be Ac.B8.Bf) (fun _=>false) (fun _=>none) (fun _=>none)
theorem Ac.B8.ev (N:Nat) (x:Int) (l:List Int):B6 Ac.B8.E N f149 (As f149) [.int .u64 x,.ints .arg .u64 l]=bif (Bc 64 (length l:Int)) then some (.tup [.nil,.int .i64 3]) else bif (((Cr (0≤(length l:Int)∧(length l:Int)≤64∧(length l:Int)=length l))&&Ak l)&&Al x) then some (.tup [.ints .fresh .u64 (Ci x l),.int .i64 0]) else none:=by kernel_rfl
abbrev _root_.Go.Proofs.S1.Ac.B8.Kn:=A9 prog 149 Ac.B8.spec
theorem Ac.B8.Ae (hk:A3 prog Ac.B8.Bf) (h:Hyp Ac.B8.E f149 Ac.B8.ts Ac.B8.pre Ac.B8.out):Ac.B8.Kn :=
 Am (A5 hk _ _ _) func149 (by kernel_rfl) (by kernel_rfl) h
def Dx.Fs.hint:Nat→Option Bh
 | 0=>some { keep:=[6,7,8],objs:=[],boxes:=[] }
 | _=>none
def Dx.Fs.Bf:List (Nat × Entry):=[(86,Cz.Check.spec)]
def Dx.Fs.E:Env:=Bk (Be Dx.Fs.Bf) (fun _=>false) Dx.Fs.hint (fun _=>none)
theorem Dx.Fs.ev (N:Nat) (r c:Int) (l:List Int) (p q:Int) (m:List Int) (u v:Int) (h:List Int):B6 Dx.Fs.E (N+5) f147 (As f147) [.recs .arg 3 [[.int .i64 r,.int .i64 c,.ints .arg .u64 l],[.int .i64 p,.int .i64 q,.ints .arg .u64 m],[.int .i64 u,.int .i64 v,.ints .arg .u64 h]]]=bif (Ak l) then bif ((Cs r c l) !=(0:Int)) then some (.int .i64 (Cs r c l)) else bif (Ak m) then bif ((Cs p q m) !=(0:Int)) then some (.int .i64 (Cs p q m)) else bif (Ak h) then bif ((Cs u v h) !=(0:Int)) then some (.int .i64 (Cs u v h)) else some (.int .i64 0) else none else none else none:=by kernel_rfl
abbrev _root_.Go.Proofs.S1.Dx.Fs.Kn:=A9 prog 147 Dx.Fs.spec
theorem Dx.Fs.Ae (hk:A3 prog Dx.Fs.Bf) (h:Hyp Dx.Fs.E f147 Dx.Fs.ts Dx.Fs.pre Dx.Fs.out):Dx.Fs.Kn :=
 Am (A5 hk _ _ _) func147 (by kernel_rfl) (by kernel_rfl) h
def Dx.Ml.Bf:List (Nat × Entry):=[(126,Aa.Stack.spec),(151,Aa.Bb.spec),(147,Dx.Fs.spec),(148,soft.Finite.spec),(30,solve.Ht.spec),(150,Ac.Finite.spec),(149,Ac.B8.spec)]
def Dx.Ml.E:Env:=Bk (Be Dx.Ml.Bf) (fun _=>false) (fun _=>none) (fun _=>none)
theorem Dx.Ml.ev (N:Nat) (r c:Int) (l:List Int) (p q:Int) (m:List Int) (u v:Int) (h:List Int) (x:Int):B6 Dx.Ml.E N f66 (As f66) [.agg [.int .i64 r,.int .i64 c,.ints .arg .u64 l],.agg [.int .i64 p,.int .i64 q,.ints .arg .u64 m],.agg [.int .i64 u,.int .i64 v,.ints .arg .u64 h],.int .u64 x]=bif (Adn l m h) then bif ((So r c l p q m u v h) !=(0:Int)) then some (.tup [.agg [.int .i64 0,.int .i64 0,.nil],.int .i64 (So r c l p q m u v h)]) else bif (Al x) then bif (!(Dk x)) then some (.tup [.agg [.int .i64 0,.int .i64 0,.nil],.int .i64 4]) else bif ((((p !=r)||(q !=(1:Int)))||(v !=c))||(Bc 6 (Ad (r+u)))) then some (.tup [.agg [.int .i64 0,.int .i64 0,.nil],.int .i64 3]) else bif ((Dp h&&Al x)&&Cr (length h≤64)) then bif (Dp (Ci x h)) then bif (!(Ff (Ci x h))) then some (.tup [.agg [.int .i64 0,.int .i64 0,.nil],.int .i64 2]) else bif (Ak ((Ed r c l u v (Ci x h)).2.2.1)&&Ak ((Ed p q m ((C8 u 1).1) ((C8 u 1).2.1) ((C8 u 1).2.2.1)).2.2.1)) then some (.tup [.agg [.int .i64 ((Hh ((Ed r c l u v (Ci x h)).1) ((Ed r c l u v (Ci x h)).2.1) ((Ed r c l u v (Ci x h)).2.2.1) ((Ed p q m ((C8 u 1).1) ((C8 u 1).2.1) ((C8 u 1).2.2.1)).1) ((Ed p q m ((C8 u 1).1) ((C8 u 1).2.1) ((C8 u 1).2.2.1)).2.1) ((Ed p q m ((C8 u 1).1) ((C8 u 1).2.1) ((C8 u 1).2.2.1)).2.2.1)).1),.int .i64 ((Hh ((Ed r c l u v (Ci x h)).1) ((Ed r c l u v (Ci x h)).2.1) ((Ed r c l u v (Ci x h)).2.2.1) ((Ed p q m ((C8 u 1).1) ((C8 u 1).2.1) ((C8 u 1).2.2.1)).1) ((Ed p q m ((C8 u 1).1) ((C8 u 1).2.1) ((C8 u 1).2.2.1)).2.1) ((Ed p q m ((C8 u 1).1) ((C8 u 1).2.1) ((C8 u 1).2.2.1)).2.2.1)).2.1),.ints .fresh .u64 ((Hh ((Ed r c l u v (Ci x h)).1) ((Ed r c l u v (Ci x h)).2.1) ((Ed r c l u v (Ci x h)).2.2.1) ((Ed p q m ((C8 u 1).1) ((C8 u 1).2.1) ((C8 u 1).2.2.1)).1) ((Ed p q m ((C8 u 1).1) ((C8 u 1).2.1) ((C8 u 1).2.2.1)).2.1) ((Ed p q m ((C8 u 1).1) ((C8 u 1).2.1) ((C8 u 1).2.2.1)).2.2.1)).2.2.1)],.int .i64 ((Hh ((Ed r c l u v (Ci x h)).1) ((Ed r c l u v (Ci x h)).2.1) ((Ed r c l u v (Ci x h)).2.2.1) ((Ed p q m ((C8 u 1).1) ((C8 u 1).2.1) ((C8 u 1).2.2.1)).1) ((Ed p q m ((C8 u 1).1) ((C8 u 1).2.1) ((C8 u 1).2.2.1)).2.1) ((Ed p q m ((C8 u 1).1) ((C8 u 1).2.1) ((C8 u 1).2.2.1)).2.2.1)).2.2.2)]) else none else none else none else none else none :=
 Eq.trans (by kernel_rfl)
 (Fg (Fg rfl (Fg (Fg rfl (Ay (Za (p !=r)) (Ay (Vh (p !=r)) (Ay (Vh (p !=r)) (Ay (tt6 (p !=r)) (Ay (Akv (p !=r) (q !=(1:Int))) (Ay (Akw (p !=r) (q !=(1:Int))) (Ay (Akv (p !=r) (q !=(1:Int))) (Ay (Akw (p !=r) (q !=(1:Int))) (Ay (A00 (p !=r) (q !=(1:Int))) (Ay (Axl (p !=r) (q !=(1:Int))) (Ay (Axm (p !=r) (q !=(1:Int)) (v !=c)) (Ay (Asy (p !=r) (q !=(1:Int)) (v !=c)) (Ay (Axm (p !=r) (q !=(1:Int)) (v !=c)) (Ay (Asy (p !=r) (q !=(1:Int)) (v !=c)) (Ay (A4v (p !=r) (q !=(1:Int)) (v !=c)) (Ay (Asy (p !=r) (q !=(1:Int)) (v !=c)) (Ay (A04 (p !=r) (q !=(1:Int)) (v !=c)) (C5 (A4s _ _ _ _) rfl rfl))))))))))))))))))) rfl)) rfl)
abbrev _root_.Go.Proofs.S1.Dx.Ml.Kn:=A9 prog 66 Dx.Ml.spec
theorem Dx.Ml.Ae (hk:A3 prog Dx.Ml.Bf) (h:Hyp Dx.Ml.E f66 Dx.Ml.ts Dx.Ml.pre Dx.Ml.out):Dx.Ml.Kn :=
 Am (A5 hk _ _ _) func66 (by kernel_rfl) (by kernel_rfl) h
end EqRidge
open Go Go.Den Go.Cv Go.Proofs
open EqRidge
theorem Kq (x:Int) (l:List Int):(Ci x l).length=l.length:=by unfold Ci; rw [A9d]
theorem T4 (x:Int) (l:List Int):Ak (Ci x l)=true:=Ao.2 fun y hy=>by
 obtain ⟨b,_,rfl⟩:=List.mem_map.1 hy
 exact Ku _ _
theorem Zc (x:Int) (l:List Int):(List.range l.length).map (fun j=>D6 x (l.getD j 0))=Ci x l:=by
 refine Tk (by rw [A9d,A9a,Kq]) fun j hj=>?_
 rw [A9d,A9a] at hj
 unfold Ci
 rw [A9o,A9o,List.getElem?_range hj,A8o hj]
 simp only [Option.map_some,A8h,A8o hj,A9r]
theorem Ac.Es.known:Ac.Es.Kn:=Ac.Es.Ae (.cons Ac.Mul.known .nil) fun i x l hp=>by
 obtain ⟨h1,hx⟩:=Af.1 (show ((Cr (0≤i∧i<length l)&&Ak l)&&Al x)=true from hp)
 obtain ⟨h2,al⟩:=Af.1 h1
 have h3:=Ao.1 h2
 refine ⟨0,Ac.Es.out [.i i,.i x,.l l],[],?_,.int⟩
 rw [Ac.Es.ev,A78 h3.1,A78 h3.2,A8d,A77,hx,I8 al (by omega),A8d,A77]
 rfl
theorem Z5 (N:Nat) {x:Int} {l:List Int} (al:Ak l=true) (hx:Al x=true) (h64:l.length≤64):∀ (k i F:Nat),i+k=l.length→k<F →
 Ac.each.B8.L0 N F (l.length:Int) x l (i:Int) ((List.range i).map fun j=>D6 x (l.getD j 0))=some (.ints (.own 100005 tB) .u64 (Ci x l)):=by
 intro k
 induction k with
 | zero =>
   intro i F hi hF
   obtain ⟨F,rfl⟩:∃ G,F=G+1:=⟨F-1,by omega⟩
   obtain rfl:i=l.length:=by omega
   rw [Ac.each.B8.A1,Aw,A8c (by omega),A8b,Zc]
 | succ k ih =>
   intro i F hi hF
   obtain ⟨F,rfl⟩:∃ G,F=G+1:=⟨F-1,by omega⟩
   have:=ih (i+1) F (by omega) (by omega)
   rw [Je] at this
   rw [Ac.each.B8.A1,Aw,A78 (by omega),A77,Ao.2 (show 0≤(i:Int)∧(i:Int)<(l.length:Int) by omega),al,hx,A8d,A8d,A77,
    A78 (by rw [A9d,A9a]; unfold Im; omega),A77,Ar (by omega) (by omega),A79]
   exact this
theorem Ac.each.B8.known:Ac.each.B8.Kn:=Ac.each.B8.Ae (.cons Ac.Es.known .nil) fun n x l hp=>by
 obtain ⟨h1,hx⟩:=Af.1 (show ((Cr (0≤n∧n≤64∧n=length l)&&Ak l)&&Al x)=true from hp)
 obtain ⟨h2,al⟩:=Af.1 h1
 obtain ⟨h3,h4,rfl⟩:=Ao.1 h2
 refine ⟨65,.ints (.own 100005 tB) .u64 (Ci x l),[100005],?_,.drop _ _ _ _ (List.mem_singleton.2 rfl)⟩
 rw [Ac.each.B8.ev]
 exact Z5 65 al hx (by omega) l.length 0 65 (by omega) (by omega)
theorem Ac.B8.known:Ac.B8.Kn:=Ac.B8.Ae (.cons Ac.each.B8.known .nil) fun x l hp=>by
 obtain ⟨h1,h2⟩:=Af.1 (show ((Dp l&&Al x)&&Cr (length l≤64))=true from hp)
 obtain ⟨ol,hx⟩:=Af.1 h1
 have h2:=Ao.1 h2
 refine ⟨0,Ac.B8.out [.i x,.l l],[],?_,Wk.Jp (.cons .Rw (.cons .int .nil))⟩
 rw [Ac.B8.ev,Aw,A8c (by omega),A8b,Ao.2 (show 0≤(l.length:Int)∧(l.length:Int)≤64∧(l.length:Int)=l.length by omega),Rc ol,hx,A8d,A8d,A77]
 rfl
theorem Dx.Fs.known:Dx.Fs.Kn:=Dx.Fs.Ae (.cons Cz.Check.known .nil) fun r c l p q m u v h hp=>by
 obtain ⟨h1,ah⟩:=Af.1 (show ((Ak l&&Ak m)&&Ak h)=true from hp)
 obtain ⟨al,am⟩:=Af.1 h1
 refine ⟨0+5,.int .i64 (So r c l p q m u v h),[],?_,.int⟩
 rw [Dx.Fs.ev,al,am,ah,A77,A77,A77]
 unfold So
 by_cases k1:Cs r c l=0
 ·rw [Mm k1,A8b,A8t (fun h=>h k1)]
  by_cases k2:Cs p q m=0
  ·rw [Mm k2,A8b,A8t (fun h=>h k2)]
   by_cases k4:Cs u v h=0
   ·rw [Mm k4,A8b,k4]
   ·rw [neI k4,A77]
  ·rw [neI k2,A77,A8u k2]
 ·rw [neI k1,A77,A8u k1]
theorem Aro {r c:Int} {l:List Int} {p q:Int} {m:List Int} {u v:Int} {h:List Int} (e:So r c l p q m u v h=0):Cs r c l=0∧Cs p q m=0∧Cs u v h=0:=by
 unfold So at e
 by_cases k1:Cs r c l=0
 ·rw [A8t (fun h=>h k1)] at e
  by_cases k2:Cs p q m=0
  ·rw [A8t (fun h=>h k2)] at e; exact ⟨k1,k2,e⟩
  ·rw [A8u k2] at e; exact absurd e k2
 ·rw [A8u k1] at e; exact absurd e k1
theorem Ap2 {r c p q u v:Int} (h:0≤r∧r≤6) (h':0≤u∧u≤6) :
 ((((p !=r)||(q !=(1:Int)))||(v !=c))||(Bc (6:Int) (Ad (r+u))))=decide (p≠r∨q≠1∨v≠c∨6<r+u):=by
 rw [Ar (by omega) (by omega),Aw,A8n]
 simp [or_assoc]
theorem At7 {l:List Int} (h:l.length≤36) (al:Ak l=true):Dp l=true:=Ao.2 ⟨by omega,Ao.1 al⟩
section
variable {r c p q u v x:Int} {l m h:List Int}
theorem Ud {e:Int} (k:Tb r c l p q m u v h x=e) (he:e≠0):C3 r c l p q m u v h x=N9 e:=by
 unfold C3; rw [k,A8u he]
theorem Ago (k:Tb r c l p q m u v h x=0):C3 r c l p q m u v h x=Au7 (Az9 r c l u v h x) (Aio p q m u):=by
 unfold C3; rw [A8t (fun h=>h k)]
theorem A1n (k:So r c l p q m u v h≠0):Tb r c l p q m u v h x=So r c l p q m u v h:=by unfold Tb; rw [A8u k]
theorem A1m (k:So r c l p q m u v h=0) (k2:Dk x=false):Tb r c l p q m u v h x=4:=by
 unfold Tb; rw [A8t (fun h=>h k),A8u k2]
theorem Atr (k:So r c l p q m u v h=0) (k2:Dk x=true) (k3:p≠r∨q≠1∨v≠c∨6<r+u):Tb r c l p q m u v h x=3:=by
 unfold Tb; rw [A8t (fun h=>h k),k2,A8t (by decide),A8u k3]
theorem A1l (k:So r c l p q m u v h=0) (k2:Dk x=true) (k3:¬ (p≠r∨q≠1∨v≠c∨6<r+u)) (k4:Ff (Ci x h)=false):Tb r c l p q m u v h x=2:=by
 unfold Tb; rw [A8t (fun h=>h k),k2,A8t (by decide),A8t k3,A8u k4]
theorem A1k (k:So r c l p q m u v h=0) (k2:Dk x=true) (k3:¬ (p≠r∨q≠1∨v≠c∨6<r+u)) (k4:Ff (Ci x h)=true):Tb r c l p q m u v h x=0:=by
 unfold Tb; rw [A8t (fun h=>h k),k2,A8t (by decide),A8t k3,k4,A8t (by decide)]
end
theorem Dx.Ml.known:Dx.Ml.Kn:=Dx.Ml.Ae (.cons Aa.Stack.known (.cons Aa.Bb.known (.cons Dx.Fs.known (.cons soft.Finite.known (.cons solve.Ht.known (.cons Ac.Finite.known (.cons Ac.B8.known .nil))))))) fun r c l p q m u v h x hp=>Ab3 (by
 obtain ⟨h0,hx⟩:=Af.1 (show (Adn l m h&&Al x)=true from hp)
 obtain ⟨h1,ah⟩:=Af.1 (show ((Ak l&&Ak m)&&Ak h)=true from h0)
 obtain ⟨al,am⟩:=Af.1 h1
 show A2s _ (C3 r c l p q m u v h x)
 rw [Dx.Ml.ev,h0,A77]
 by_cases k:So r c l p q m u v h=0
 ·obtain ⟨k1,k2,k3⟩:=Aro k
  rw [Mm k,A8b,hx,A77]
  cases hf:Dk x with
  | false =>
    rw [A9q,A77,Ud (A1m k hf) (by decide)]
    exact Aap rfl
  | true =>
    have s1:=Aiw (Ki k1).1
    have s3:=Aiw (Ki k3).1
    rw [A86,A8b,Ap2 ⟨s1.1,s1.2.1⟩ ⟨s3.1,s3.2.1⟩]
    by_cases ks:p≠r∨q≠1∨v≠c∨6<r+u
    ·rw [A78 ks,A77,Ud (Atr k hf ks) (by decide)]
     exact Aap rfl
    ·obtain ⟨R,C,_,_,hm,_⟩:=Mat.A1x k3 ah
     have hl:h.length≤36:=hm.len
     rw [A8c ks,A8b,At7 hl ah,A8d,Ao.2 (show h.length≤64 by omega),A8d,A77,At7 (by rw [Kq]; exact hl) (T4 x h),A77]
     cases hg:Ff (Ci x h) with
     | false =>
       rw [A9q,A77,Ud (A1l k hf ks hg) (by decide)]
       exact Aap rfl
     | true =>
       have az:Ak (C8 u 1).2.2.1=true:=by
        unfold C8
        split
        ·exact (show Ak (C4 _ _ fun _ _=>0)=true from Nc fun _ _=>Kl)
        ·exact Hz
       rw [A86,A8b,Ago (A1k k hf ks hg),Aei al (T4 x h),Aei am az,A8d,A77]
       exact Ayk rfl
 ·rw [neI k,A77,Ud (A1n k) k]
  exact Aap rfl)
open Go Go.Den Go.Cv Go.Proofs
set_option maxRecDepth 100000
namespace EqRef22
def Ax.B8.hint:Nat→Option Bh
 | 0=>some { keep:=[0,1,5,6],objs:=[(0,5,100005,.ints 37 .u64 [])],boxes:=[] }
 | _=>none
def Ax.B8.Bf:List (Nat × Entry):=[(82,Ax.Mul.spec)]
def Ax.B8.E:Env:=Bk (Be Ax.B8.Bf) (fun _=>false) Ax.B8.hint (fun _=>none)
section
variable (N M:Nat) (x:Int) (l:List Int) (p6:Int) (p5:List Int)
def Ax.B8.L0:Option DV:=Cd Ax.B8.E N f154 (As f154) [1,1,0,1,0] [] M ⟨Il 24 [(0,.int .u64 x),(1,.ints .arg .u64 l),(5,.oref 100005),(6,.int .i64 p6)],[(100005,false,.ints 37 .u64 p5)]⟩
theorem Ax.B8.A1:Ax.B8.L0 N (M+1) x l p6 p5=bif (Bc p6 (length l:Int)) then bif ((decide (0≤p6))&&(decide (p6<(length l:Int)))) then bif (Al x&&Al (getD l (toNat p6) 0)) then bif (decide ((length p5)+1≤Im)) then Ax.B8.L0 N M x l (Ad (p6+1)) (p5++[(D6 x (getD l (toNat p6) 0))]) else none else none else none else some (.ints (.own 100005 37) .u64 p5):=by kernel_rfl
theorem Ax.B8.ev:B6 Ax.B8.E N f154 (As f154) [.int .u64 x,.ints .arg .u64 l] =
 Ax.B8.L0 N N x l 0 []:=by kernel_rfl
end
abbrev _root_.Go.Proofs.S1.Ax.B8.Kn:=A9 prog 154 Ax.B8.spec
theorem Ax.B8.Ae (hk:A3 prog Ax.B8.Bf) (h:Hyp Ax.B8.E f154 Ax.B8.ts Ax.B8.pre Ax.B8.out):Ax.B8.Kn :=
 Am (A5 hk _ _ _) func154 (by kernel_rfl) (by kernel_rfl) h
def D4.Z0.Bf:List (Nat × Entry):=[(154,Ax.B8.spec),(72,A8.Stack.spec)]
def D4.Z0.E:Env:=Bk (Be D4.Z0.Bf) (fun _=>false) (fun _=>none) (fun _=>none)
theorem D4.Z0.ev (N:Nat) (r c:Int) (l:List Int) (u v:Int) (h:List Int) (x:Int):B6 D4.Z0.E N f74 (As f74) [.agg [.int .i64 r,.int .i64 c,.ints .arg .u64 l],.agg [.int .i64 u,.int .i64 v,.ints .arg .u64 h],.int .u64 x]=bif ((Dp h&&Al x)&&Cr (length h≤64)) then bif ((Az r c l&&Az u v (Ci x h))&&decide (v=c)) then some (.agg [.int .i64 (r+u),.int .i64 c,.ints .fresh .u64 (l++(Ci x h))]) else none else none :=
 Eq.trans (by kernel_rfl)
 (C5 (Cn _) (C5 (Cn _) rfl rfl) rfl)
abbrev _root_.Go.Proofs.S1.D4.Z0.Kn:=A9 prog 74 D4.Z0.spec
theorem D4.Z0.Ae (hk:A3 prog D4.Z0.Bf) (h:Hyp D4.Z0.E f74 D4.Z0.ts D4.Z0.pre D4.Z0.out):D4.Z0.Kn :=
 Am (A5 hk _ _ _) func74 (by kernel_rfl) (by kernel_rfl) h
def D4.Nw.Bf:List (Nat × Entry):=[(72,A8.Stack.spec),(35,A8.Bb.spec)]
def D4.Nw.E:Env:=Bk (Be D4.Nw.Bf) (fun _=>false) (fun _=>none) (fun _=>none)
theorem D4.Nw.ev (N:Nat) (p q:Int) (m:List Int) (u v:Int) (h:List Int):B6 D4.Nw.E N f73 (As f73) [.agg [.int .i64 p,.int .i64 q,.ints .arg .u64 m],.agg [.int .i64 u,.int .i64 v,.ints .arg .u64 h]]=bif (Br u&&Br 1) then bif ((Az p q m&&Az u 1 (C4 (toNat u) (toNat 1) (fun _ _=>0)))&&decide ((1:Int)=q)) then some (.agg [.int .i64 (p+u),.int .i64 q,.ints .fresh .u64 (m++(C4 (toNat u) (toNat 1) (fun _ _=>0)))]) else none else none :=
 Eq.trans (by kernel_rfl)
 (C5 (Cn _) (C5 (Cn _) rfl rfl) rfl)
abbrev _root_.Go.Proofs.S1.D4.Nw.Kn:=A9 prog 73 D4.Nw.spec
theorem D4.Nw.Ae (hk:A3 prog D4.Nw.Bf) (h:Hyp D4.Nw.E f73 D4.Nw.ts D4.Nw.pre D4.Nw.out):D4.Nw.Kn :=
 Am (A5 hk _ _ _) func73 (by kernel_rfl) (by kernel_rfl) h
end EqRef22
open Go Go.Den Go.Cv Go.Proofs
open EqRef22
theorem Ab0 (N:Nat) {x:Int} {l:List Int} (al:Ak l=true) (hx:Al x=true) (h64:l.length≤64):∀ (k i F:Nat),i+k=l.length→k<F →
 Ax.B8.L0 N F x l (i:Int) ((List.range i).map fun j=>D6 x (l.getD j 0))=some (.ints (.own 100005 tB) .u64 (Ci x l)):=by
 intro k
 induction k with
 | zero =>
   intro i F hi hF
   obtain ⟨F,rfl⟩:∃ G,F=G+1:=⟨F-1,by omega⟩
   obtain rfl:i=l.length:=by omega
   rw [Ax.B8.A1,Aw,A8c (by omega),A8b,Zc]
 | succ k ih =>
   intro i F hi hF
   obtain ⟨F,rfl⟩:∃ G,F=G+1:=⟨F-1,by omega⟩
   have:=ih (i+1) F (by omega) (by omega)
   rw [Je] at this
   rw [Ax.B8.A1,Aw,A78 (by omega),A77,A78 (show (0:Int)≤(i:Int) by omega),A8d,A77,A79,hx,I8 al (by omega),A8d,A77,
    A78 (by rw [A9d,A9a]; unfold Im; omega),A77,Ar (by omega) (by omega)]
   exact this
theorem Ax.B8.known:Ax.B8.Kn:=Ax.B8.Ae (.cons Ax.Mul.known .nil) fun x l hp=>by
 obtain ⟨h1,h2⟩:=Af.1 (show ((Dp l&&Al x)&&Cr (length l≤64))=true from hp)
 obtain ⟨ol,hx⟩:=Af.1 h1
 have h2:=Ao.1 h2
 refine ⟨65,.ints (.own 100005 tB) .u64 (Ci x l),[100005],?_,.drop _ _ _ _ (List.mem_singleton.2 rfl)⟩
 rw [Ax.B8.ev]
 exact Ab0 65 (Rc ol) hx h2 l.length 0 65 (by omega) (by omega)
theorem Aiv {u v x:Int} {h:List Int} (hr:Az u v h=true):Az u v (Ci x h)=true:=by
 obtain ⟨U,V,rfl,rfl,u6,v6,hl⟩:=Dl hr
 exact Dw u6 v6 (by rw [Kq]; exact hl)
theorem D4.Z0.known:D4.Z0.Kn:=D4.Z0.Ae (.cons Ax.B8.known (.cons A8.Stack.known .nil)) fun r c l u v h x hp=>Ab3 (by
 obtain ⟨h1,hv⟩:=Af.1 (show (((Az r c l&&Az u v h)&&(Ak h&&Al x))&&decide (v=c))=true from hp)
 obtain ⟨h2,h3⟩:=Af.1 h1
 obtain ⟨hr,hu⟩:=Af.1 h2
 obtain ⟨ah,hx⟩:=Af.1 h3
 have hl:=It hu
 rw [D4.Z0.ev,At7 hl ah,hx,Ao.2 (show h.length≤64 by omega),hr,Aiv hu,hv]
 exact ⟨_,[],rfl,A0g⟩)
theorem D4.Nw.known:D4.Nw.Kn:=D4.Nw.Ae (.cons A8.Stack.known (.cons A8.Bb.known .nil)) fun p q m u v h hp=>Ab3 (by
 obtain ⟨h1,hq⟩:=Af.1 (show ((Az p q m&&Br u)&&decide (q=1))=true from hp)
 obtain ⟨hr,hu⟩:=Af.1 h1
 obtain rfl:=A8x hq
 obtain ⟨U,rfl,hU⟩:=Gb hu
 have e1:C4 (toNat (U:Int)) (toNat (1:Int)) (fun _ _=>0)=List.replicate (toNat (U:Int)) 0:=by
  rw [Vx,A79]
  show List.replicate (U*1) (0:Int)=_
  rw [A9g]
 have e2:Az (U:Int) 1 (List.replicate (toNat (U:Int)) 0)=true:=Dw (r:=U) (c:=1) hU (by decide) (by rw [List.length_replicate,A79,A9g])
 rw [D4.Nw.ev,e1,e2,hr,hu,show Br 1=true from rfl,A78 rfl]
 exact ⟨_,[],rfl,A0g⟩)
theorem Awv {R U C:Nat} {l h:List Int} {x:Int} (hR:R+U≤6) (c6:C≤6) (hl:l.length=R*C) (hh:h.length=U*C) :
 Az9 (R:Int) (C:Int) l (U:Int) (C:Int) h x=((R:Int)+(U:Int),(C:Int),l++Ci x h,0):=by
 unfold Az9 Ed
 rw [Dw (by omega) c6 hl,Dw (by omega) c6 (show (Ci x h).length=U*C by rw [Kq]; exact hh),A8d,A8u rfl,A8u ⟨rfl,by omega⟩,
  show ((R:Int)+(U:Int)).toNat=R+U by omega,A79,Abh hl (by rw [Kq]; exact hh)]
theorem Apv {R U:Nat} {m:List Int} (hR:R+U≤6) (hm:m.length=R*1) :
 Aio (R:Int) 1 m (U:Int)=((R:Int)+(U:Int),1,m++List.replicate (toNat (U:Int)) 0,0):=by
 have ez:C8 (U:Int) 1=((U:Int),1,List.replicate U 0,0):=by
  unfold C8
  rw [show (Br (U:Int)&&Br 1)=true by rw [Agd (show U≤6 by omega)]; rfl,A8u rfl,Vx]
  show ((U:Int),(1:Int),List.replicate ((U:Int).toNat*1) (0:Int),(0:Int))=_
  rw [A9g,A79]
 have hz:(List.replicate U (0:Int)).length=U*1:=by rw [List.length_replicate,A9g]
 unfold Aio
 rw [ez]
 unfold Ed
 dsimp only
 rw [show Az (R:Int) 1 m=true from Dw (c:=1) (by omega) (by decide) hm,show Az (U:Int) 1 (List.replicate U (0:Int))=true from Dw (c:=1) (by omega) (by decide) hz,A8d,A8u rfl,A8u ⟨rfl,by omega⟩,
  show ((R:Int)+(U:Int)).toNat=R+U by omega,show (1:Int).toNat=1 from rfl,A79]
 have:=Abh (R:=R) (P:=U) (C:=1) hm hz
 rw [show ((1:Nat):Int)=1 from rfl] at this
 rw [this]
open Go Go.Den Go.Cv Go.Proofs
set_option maxRecDepth 100000
namespace EqLaw17
end EqLaw17
open Go Go.Den Go.Cv Go.Proofs
open EqLaw17
open Go Go.Den Go.Cv Go.Proofs
set_option maxRecDepth 100000
namespace EqLaw22
def Cw.one.Bf:List (Nat × Entry):=[]
def Cw.one.E:Env:=Bk (Be Cw.one.Bf) (fun _=>false) (fun _=>none) (fun _=>none)
theorem Cw.one.ev (N:Nat) (b:Int):B6 Cw.one.E N f152 (As f152) [.int .u64 b]=some (.agg [.int .i64 1,.int .i64 1,.ints (.own 4 37) .u64 [b]]):=by kernel_rfl
abbrev _root_.Go.Proofs.S1.Cw.one.Kn:=A9 prog 152 Cw.one.spec
theorem Cw.one.Ae (hk:A3 prog Cw.one.Bf) (h:Hyp Cw.one.E f152 Cw.one.ts Cw.one.pre Cw.one.out):Cw.one.Kn :=
 Am (A5 hk _ _ _) func152 (by kernel_rfl) (by kernel_rfl) h
def Cw.Hs.Bf:List (Nat × Entry):=[(152,Cw.one.spec),(66,Dx.Ml.spec)]
def Cw.Hs.E:Env:=Bk (Be Cw.Hs.Bf) (fun _=>false) (fun _=>none) (fun _=>none)
theorem Cw.Hs.ev (N:Nat):B6 Cw.Hs.E N f68 (As f68) []=bif (Adn ([(4607182418800017408:Int)]) ([(4611686018427387904:Int)]) []&&Al 4607182418800017408) then bif ((!((((C3 1 1 ([(4607182418800017408:Int)]) 1 1 ([(4611686018427387904:Int)]) 0 1 [] 4607182418800017408).2.2.2)==(0:Int))&&((length ((C3 1 1 ([(4607182418800017408:Int)]) 1 1 ([(4611686018427387904:Int)]) 0 1 [] 4607182418800017408).2.2.1):Int)==(1:Int))))||(decide ((0:Int)<(length ((C3 1 1 ([(4607182418800017408:Int)]) 1 1 ([(4611686018427387904:Int)]) 0 1 [] 4607182418800017408).2.2.1):Int)))) then some (.bool (bif (bif (((C3 1 1 ([(4607182418800017408:Int)]) 1 1 ([(4611686018427387904:Int)]) 0 1 [] 4607182418800017408).2.2.2)==(0:Int)) then ((length ((C3 1 1 ([(4607182418800017408:Int)]) 1 1 ([(4611686018427387904:Int)]) 0 1 [] 4607182418800017408).2.2.1):Int)==(1:Int)) else false) then ((getD ((C3 1 1 ([(4607182418800017408:Int)]) 1 1 ([(4611686018427387904:Int)]) 0 1 [] 4607182418800017408).2.2.1) 0 0)==(4611686018427387904:Int)) else false)) else none else none :=
 Eq.trans (by kernel_rfl)
 (Fg (Ay (Sy (((C3 1 1 ([(4607182418800017408:Int)]) 1 1 ([(4611686018427387904:Int)]) 0 1 [] 4607182418800017408).2.2.2)==(0:Int))) (Ay (O4 (((C3 1 1 ([(4607182418800017408:Int)]) 1 1 ([(4611686018427387904:Int)]) 0 1 [] 4607182418800017408).2.2.2)==(0:Int))) (Ay (O4 (((C3 1 1 ([(4607182418800017408:Int)]) 1 1 ([(4611686018427387904:Int)]) 0 1 [] 4607182418800017408).2.2.2)==(0:Int))) (Ay (O4 (((C3 1 1 ([(4607182418800017408:Int)]) 1 1 ([(4611686018427387904:Int)]) 0 1 [] 4607182418800017408).2.2.2)==(0:Int))) (Ay (Zb (((C3 1 1 ([(4607182418800017408:Int)]) 1 1 ([(4611686018427387904:Int)]) 0 1 [] 4607182418800017408).2.2.2)==(0:Int))) (Ay (A3x (((C3 1 1 ([(4607182418800017408:Int)]) 1 1 ([(4611686018427387904:Int)]) 0 1 [] 4607182418800017408).2.2.2)==(0:Int)) ((length ((C3 1 1 ([(4607182418800017408:Int)]) 1 1 ([(4611686018427387904:Int)]) 0 1 [] 4607182418800017408).2.2.1):Int)==(1:Int))) (Ay (Asx (((C3 1 1 ([(4607182418800017408:Int)]) 1 1 ([(4611686018427387904:Int)]) 0 1 [] 4607182418800017408).2.2.2)==(0:Int)) ((length ((C3 1 1 ([(4607182418800017408:Int)]) 1 1 ([(4611686018427387904:Int)]) 0 1 [] 4607182418800017408).2.2.1):Int)==(1:Int))) (C5 (A6k _ _ _) (Ay (Asx (((C3 1 1 ([(4607182418800017408:Int)]) 1 1 ([(4611686018427387904:Int)]) 0 1 [] 4607182418800017408).2.2.2)==(0:Int)) ((length ((C3 1 1 ([(4607182418800017408:Int)]) 1 1 ([(4611686018427387904:Int)]) 0 1 [] 4607182418800017408).2.2.1):Int)==(1:Int))) (Ay (Asx (((C3 1 1 ([(4607182418800017408:Int)]) 1 1 ([(4611686018427387904:Int)]) 0 1 [] 4607182418800017408).2.2.2)==(0:Int)) ((length ((C3 1 1 ([(4607182418800017408:Int)]) 1 1 ([(4611686018427387904:Int)]) 0 1 [] 4607182418800017408).2.2.1):Int)==(1:Int))) (Ay (A3y (((C3 1 1 ([(4607182418800017408:Int)]) 1 1 ([(4611686018427387904:Int)]) 0 1 [] 4607182418800017408).2.2.2)==(0:Int)) ((length ((C3 1 1 ([(4607182418800017408:Int)]) 1 1 ([(4611686018427387904:Int)]) 0 1 [] 4607182418800017408).2.2.1):Int)==(1:Int))) rfl))) rfl)))))))) rfl)
abbrev _root_.Go.Proofs.S1.Cw.Hs.Kn:=A9 prog 68 Cw.Hs.spec
theorem Cw.Hs.Ae (hk:A3 prog Cw.Hs.Bf) (h:Unit→Hyp Cw.Hs.E f68 Cw.Hs.ts Cw.Hs.pre Cw.Hs.out):Cw.Hs.Kn :=
 Am (A5 hk _ _ _) func68 (by kernel_rfl) (by kernel_rfl) (h ())
end EqLaw22
open Go Go.Den Go.Cv Go.Proofs
open EqLaw22
theorem Cw.one.known:Cw.one.Kn:=Cw.one.Ae .nil fun b _ =>
 ⟨0,_,[4],Cw.one.ev 0 b,Aft (List.mem_singleton.2 rfl)⟩
theorem Aye:C3 1 1 [4607182418800017408] 1 1 [4611686018427387904] 0 1 [] 4607182418800017408=(1,1,[4611686018427387904],0):=by decide +kernel
theorem Aoh {x:Int} (h:decide (0≤x∧x<18446744073709551616)=true):Ak [x]=true:=Ao.2 fun y hy=>by
 rw [List.mem_singleton.1 hy]; exact Ao.2 (A8x h)
theorem Cw.Hs.known:Cw.Hs.Kn:=Cw.Hs.Ae (.cons Cw.one.known (.cons Dx.Ml.known .nil)) fun _ _=>by
 have a1:Adn [4607182418800017408] [4611686018427387904] []=true:=by
  unfold Adn
  rw [Aoh (by decide),Aoh (x:=4611686018427387904) (by decide),Hz]; rfl
 have a2:Al 4607182418800017408=true:=Ao.2 (by decide)
 refine ⟨0,Cw.Hs.out [],[],?_,.bool⟩
 rw [Cw.Hs.ev,a1,a2,Aye]
 rfl
open Go Go.Den Go.Cv Go.Proofs
set_option maxRecDepth 100000
namespace EqTame
def Ax.E2.hint:Nat→Option Bh
 | 0=>some { keep:=[0,1,5],objs:=[],boxes:=[] }
 | _=>none
def Ax.E2.Bf:List (Nat × Entry):=[(131,A4.Finite.spec),(62,A4.Kind.spec),(132,H8.Mo.spec)]
def Ax.E2.E:Env:=Bk (Be Ax.E2.Bf) (fun _=>false) Ax.E2.hint (fun _=>none)
section
variable (N M:Nat) (x:List Int) (k p5:Int)
def Ax.E2.L0:Option DV:=Cd Ax.E2.E N f53 (As f53) [1,0,1,0] [] M ⟨Il 43 [(0,.ints .arg .u64 x),(1,.int .i64 k),(5,.int .i64 p5)],[]⟩
theorem Ax.E2.A1:Ax.E2.L0 N (M+1) x k p5=bif (Bc p5 (length x:Int)) then bif ((decide (0≤p5))&&(decide (p5<(length x:Int)))) then bif (Al (getD x (toNat p5) 0)) then bif (!(Dk (getD x (toNat p5) 0))) then some (.bool false) else bif ((decide (0≤p5))&&(decide (p5<(length x:Int)))) then bif (Rt (getD x (toNat p5) 0)) then bif ((!((A7 (getD x (toNat p5) 0)) !=(0:Int)))||((decide (0≤p5))&&(decide (p5<(length x:Int))))) then bif ((!((A7 (getD x (toNat p5) 0)) !=(0:Int)))||(Al (getD x (toNat p5) 0))) then bif ((!(((A7 (getD x (toNat p5) 0)) !=(0:Int))&&(!(Bc (Bq (getD x (toNat p5) 0)) (Ad ((0:Int)-k))))))||((decide (0≤p5))&&(decide (p5<(length x:Int))))) then bif ((!(((A7 (getD x (toNat p5) 0)) !=(0:Int))&&(!(Bc (Bq (getD x (toNat p5) 0)) (Ad ((0:Int)-k))))))||(Al (getD x (toNat p5) 0))) then bif (((A7 (getD x (toNat p5) 0)) !=(0:Int))&&((Bc (Bq (getD x (toNat p5) 0)) (Ad ((0:Int)-k)))||(E8 k (Bq (getD x (toNat p5) 0))))) then some (.bool false) else Ax.E2.L0 N M x k (Ad (p5+1)) else none else none else none else none else none else none else none else none else some (.bool true) :=
 Eq.trans (by kernel_rfl)
 (Fg (Fg (Fg (Fg rfl (Fg (Fg (Ay (Sy ((A7 (getD x (toNat p5) 0)) !=(0:Int))) (Ay (Sy ((A7 (getD x (toNat p5) 0)) !=(0:Int))) (C5 (A3w _ _ _) (Ay (O4 ((A7 (getD x (toNat p5) 0)) !=(0:Int))) (C5 (A3u _ _) (Ay (Sy ((A7 (getD x (toNat p5) 0)) !=(0:Int))) (Ay (O4 ((A7 (getD x (toNat p5) 0)) !=(0:Int))) (Ay (Apf ((A7 (getD x (toNat p5) 0)) !=(0:Int))) (Ay (O4 ((A7 (getD x (toNat p5) 0)) !=(0:Int))) (Ay (As0 ((A7 (getD x (toNat p5) 0)) !=(0:Int)) (Bc (Bq (getD x (toNat p5) 0)) (Ad ((0:Int)-k)))) (Ay (As0 ((A7 (getD x (toNat p5) 0)) !=(0:Int)) (Bc (Bq (getD x (toNat p5) 0)) (Ad ((0:Int)-k)))) (C5 (A4o _ _ _ _) (Ay (A4h ((A7 (getD x (toNat p5) 0)) !=(0:Int)) (Bc (Bq (getD x (toNat p5) 0)) (Ad ((0:Int)-k)))) (C5 (A4p _ _ _) (Ay (As0 ((A7 (getD x (toNat p5) 0)) !=(0:Int)) (Bc (Bq (getD x (toNat p5) 0)) (Ad ((0:Int)-k)))) (Ay (A4g ((A7 (getD x (toNat p5) 0)) !=(0:Int)) (Bc (Bq (getD x (toNat p5) 0)) (Ad ((0:Int)-k)))) (Ay (A4r ((A7 (getD x (toNat p5) 0)) !=(0:Int)) (Bc (Bq (getD x (toNat p5) 0)) (Ad ((0:Int)-k)))) (Ay (Zb ((A7 (getD x (toNat p5) 0)) !=(0:Int))) (C5 (A4q _ _ _) rfl rfl))))) rfl)) rfl))))))) rfl)) rfl))) rfl) rfl)) rfl) rfl) rfl)
theorem Ax.E2.ev:B6 Ax.E2.E N f53 (As f53) [.ints .arg .u64 x,.int .i64 k] =
 Ax.E2.L0 N N x k 0:=by kernel_rfl
end
abbrev _root_.Go.Proofs.S1.Ax.E2.Kn:=A9 prog 53 Ax.E2.spec
theorem Ax.E2.Ae (hk:A3 prog Ax.E2.Bf) (h:Hyp Ax.E2.E f53 Ax.E2.ts Ax.E2.pre Ax.E2.out):Ax.E2.Kn :=
 Am (A5 hk _ _ _) func53 (by kernel_rfl) (by kernel_rfl) h
def Au.E2.Bf:List (Nat × Entry):=[(53,Ax.E2.spec),(91,A8.Hl.spec)]
def Au.E2.E:Env:=Bk (Be Au.E2.Bf) (fun _=>false) (fun _=>none) (fun _=>none)
theorem Au.E2.ev (N:Nat) (r c:Int) (l:List Int) (k:Int):B6 Au.E2.E N f39 (As f39) [.agg [.int .i64 r,.int .i64 c,.ints .arg .u64 l],.int .i64 k]=bif ((!(Az r c l))||(Dp l&&Cr (0≤k∧k≤1000))) then some (.bool (bif (Az r c l) then (Ec l k) else false)) else none :=
 Eq.trans (by kernel_rfl)
 (Ay (Sy (Az r c l)) (Ay (O4 (Az r c l)) (Ay (Sy (Az r c l)) (C5 (A6p _ _) (Ay (Zb (Az r c l)) rfl) rfl))))
abbrev _root_.Go.Proofs.S1.Au.E2.Kn:=A9 prog 39 Au.E2.spec
theorem Au.E2.Ae (hk:A3 prog Au.E2.Bf) (h:Hyp Au.E2.E f39 Au.E2.ts Au.E2.pre Au.E2.out):Au.E2.Kn :=
 Am (A5 hk _ _ _) func39 (by kernel_rfl) (by kernel_rfl) h
end EqTame
open Go Go.Den Go.Cv Go.Proofs
open EqTame
theorem Api {k b:Int} (hk:0≤k∧k≤1000):((A7 b !=(0:Int))&&((Bc (Bq b) (Ad ((0:Int)-k)))||(E8 k (Bq b))))=!(decide (A7 b=0)||(decide (-k≤Bq b)&&decide (Bq b<k))):=by
 rw [Ar (by omega) (by omega),Aw,Fe,A8n]
 simp only [A8i,Bool.or_eq_true,Bool.not_eq_true',Bool.or_eq_false_iff,Bool.and_eq_false_iff,A8e,A8q,bne_iff_ne,ne_eq]
 omega
theorem Apg (N:Nat) {x:List Int} (ax:Ak x=true) (hx:x.length<4611686018427387904) {k:Int} (hk:0≤k∧k≤1000):∀ (t d:List Int) (F:Nat),x=d++t→t.length<F →
 Ax.E2.L0 N F x k (d.length:Int)=some (.bool (t.all (Aeg k))):=by
 intro t
 induction t with
 | nil =>
   intro d F hy hF
   obtain ⟨F,rfl⟩:∃ G,F=G+1:=⟨F-1,by omega⟩
   rw [List.append_nil] at hy
   subst hy
   rw [Ax.E2.A1,Aw,A8c (by omega),A8b]
   rfl
 | cons b t ih =>
   intro d F hy hF
   obtain ⟨F,rfl⟩:∃ G,F=G+1:=⟨F-1,by omega⟩
   have hl:d.length<x.length:=by rw [hy,A8z,List.length_cons]; omega
   have hb:getD x d.length 0=b:=by rw [hy,A8h,A9l (A81 _),Nat.sub_self]; rfl
   have ib:Al b=true:=by rw [← hb]; exact I8 ax hl
   obtain ⟨n,hn,_⟩:=Ca ib
   have nb:Rt b=true:=by rw [hn]; exact Pd n
   rw [Ax.E2.A1,Aw,A78 (show (d.length:Int)<(x.length:Int) by omega),A78 (show (0:Int)≤(d.length:Int) by omega),A79,hb,ib,nb,Api hk]
   simp only [A77,A8d,A9j]
   show (bif !Dk b then some (DV.bool false) else _)=some (DV.bool ((Dk b&&(decide (A7 b=0)||(decide (-k≤Bq b)&&decide (Bq b<k))))&&t.all (Aeg k)))
   cases Dk b with
   | false=>rfl
   | true =>
     rw [A86,A8b,A9k]
     cases (decide (A7 b=0)||(decide (-k≤Bq b)&&decide (Bq b<k))) with
     | false=>rfl
     | true =>
       have:=ih (d++[b]) F (by rw [hy,List.append_assoc]; rfl) (by simp only [List.length_cons] at hF; omega)
       rw [A8z] at this
       rw [A86,A8b,A9k,Ar (by omega) (by omega)]
       exact this
theorem Ax.E2.known:Ax.E2.Kn:=Ax.E2.Ae (.cons A4.Finite.known (.cons A4.Kind.known (.cons H8.Mo.known .nil))) fun x k hp=>by
 obtain ⟨ox,hk⟩:=Af.1 (show (Dp x&&Cr (0≤k∧k≤1000))=true from hp)
 refine ⟨x.length+1,.bool (Ec x k),[],?_,.bool⟩
 rw [Ax.E2.ev]
 exact Apg (x.length+1) (Rc ox) (Ao.1 ox).1 (Ao.1 hk) x [] (x.length+1) rfl (by omega)
theorem Au.E2.known:Au.E2.Kn:=Au.E2.Ae (.cons Ax.E2.known (.cons A8.Hl.known .nil)) fun r c l k hp=>by
 obtain ⟨al,hk⟩:=Af.1 (show (Ak l&&Cr (0≤k∧k≤1000))=true from hp)
 refine ⟨0,.bool (Az r c l&&Ec l k),[],?_,.bool⟩
 rw [Au.E2.ev,hk]
 cases hr:Az r c l with
 | false=>rfl
 | true =>
   rw [Mt al (by have:=It hr; omega)]
   rfl
open Go Go.Den Go.Cv Go.Proofs
set_option maxRecDepth 100000
namespace EqRefM
def Ag.single.hint:Nat→Option Bh
 | 0=>some { keep:=[0,1,5,6,7],objs:=[(0,5,100005,.ints 173 .u32 [])],boxes:=[] }
 | _=>none
def Ag.single.Bf:List (Nat × Entry):=[]
def Ag.single.E:Env:=Bk (Be Ag.single.Bf) (fun _=>false) Ag.single.hint (fun _=>none)
section
variable (N M:Nat) (a:List Int) (x p6 p7:Int) (p5:List Int)
def Ag.single.L0:Option DV:=Cd Ag.single.E N f175 (As f175) [1,1,1,0,1,0] [] M ⟨Il 39 [(0,.ints .arg .u32 a),(1,.int .u32 x),(5,.oref 100005),(6,.int .u64 p6),(7,.int .i64 p7)],[(100005,false,.ints 173 .u32 p5)]⟩
theorem Ag.single.A1:Ag.single.L0 N (M+1) a x p6 p7 p5=bif (Bc p7 (length a:Int)) then bif ((decide (0≤p7))&&(decide (p7<(length a:Int)))) then bif (decide ((length p5)+1≤Im)) then Ag.single.L0 N M a x (Bj (Int.tdiv (Bj ((Bj ((Bj (getD a (toNat p7) 0))*(Bj x)))+p6)) 4294967296)) (Ad (p7+1)) (p5++[(Ka (Int.tmod (Bj ((Bj ((Bj (getD a (toNat p7) 0))*(Bj x)))+p6)) 4294967296))]) else none else none else bif (decide ((length p5)+1≤Im)) then some (.ints (.own 38 173) .u32 (p5++[(Ka p6)])) else none:=by kernel_rfl
theorem Ag.single.ev:B6 Ag.single.E N f175 (As f175) [.ints .arg .u32 a,.int .u32 x] =
 Ag.single.L0 N N a x 0 0 []:=by kernel_rfl
end
abbrev _root_.Go.Proofs.S1.Ag.single.Kn:=A9 prog 175 Ag.single.spec
theorem Ag.single.Ae (hk:A3 prog Ag.single.Bf) (h:Hyp Ag.single.E f175 Ag.single.ts Ag.single.pre Ag.single.out):Ag.single.Kn :=
 Am (A5 hk _ _ _) func175 (by kernel_rfl) (by kernel_rfl) h
def Ag.Mul.hint:Nat→Option Bh
 | 0=>some { keep:=[2,3,4,5,6],objs:=[(0,5,100005,.ints 173 .u32 [])],boxes:=[2,3,4] }
 | _=>none
def Ag.Mul.Bf:List (Nat × Entry):=[(171,Ag.Made.spec),(174,Ag.plus.own.spec),(175,Ag.single.spec)]
def Ag.Mul.E:Env:=Bk (Be Ag.Mul.Bf) (fun n=>Nat.beq n 29) Ag.Mul.hint (fun _=>none)
section
variable (N M:Nat) (n:Bool) (a:List Int) (m:Bool) (b:List Int) (p6:Int) (p5:List Int)
def Ag.Mul.L0:Option DV:=Cd Ag.Mul.E N f110 (As f110) [1,1,0,1,0] [] M ⟨Il 37 [(2,.ptr 2 0 0),(3,.ptr 3 0 0),(4,.ptr 4 0 0),(5,.oref 100005),(6,.int .i64 p6)],[(2,false,.box [.bool n,.ints .arg .u32 a]),(3,false,.box [.bool m,.ints .arg .u32 b]),(4,false,.box [.bool false,.nil]),(100005,false,.ints 173 .u32 p5)]⟩
theorem Ag.Mul.A1:Ag.Mul.L0 N (M+1) n a m b p6 p5=bif (E8 0 p6) then bif (decide (1+(length p5)≤Im)) then bif ((decide (0≤p6))&&(decide (p6<(length b:Int)))) then bif (Iy a&&Ave (getD b (toNat p6) 0)) then bif (Iy ([(0:Int)]++p5)&&Iy (singleL a (getD b (toNat p6) 0))) then Ag.Mul.L0 N M n a m b (Ad (p6-1)) (K5 ([(0:Int)]++p5) (singleL a (getD b (toNat p6) 0))) else none else none else none else none else bif (Iy p5) then some (.agg [.bool (A2 (wv (!(n==m)) p5)),.ints .arg .u32 (Ah (wv (!(n==m)) p5))]) else none :=
 Eq.trans (by kernel_rfl)
 (Fg (Fg (C5 (Rg _ _) (C5 (Cn _) (C5 (Cn _) rfl rfl) rfl) rfl) rfl) rfl)
theorem Ag.Mul.ev:B6 Ag.Mul.E N f110 (As f110) [.agg [.bool n,.ints .arg .u32 a],.agg [.bool m,.ints .arg .u32 b]] =
 Ag.Mul.L0 N N n a m b (Ad ((length b:Int)-1)) []:=by kernel_rfl
end
abbrev _root_.Go.Proofs.S1.Ag.Mul.Kn:=A9 prog 110 Ag.Mul.spec
theorem Ag.Mul.Ae (hk:A3 prog Ag.Mul.Bf) (h:Hyp Ag.Mul.E f110 Ag.Mul.ts Ag.Mul.pre Ag.Mul.out):Ag.Mul.Kn :=
 Am (A5 hk _ _ _) func110 (by kernel_rfl) (by kernel_rfl) h
def Ai.Mul.Bf:List (Nat × Entry):=[(110,Ag.Mul.spec),(109,Ai.Of.spec)]
def Ai.Mul.E:Env:=Bk (Be Ai.Mul.Bf) (fun _=>false) (fun _=>none) (fun _=>none)
theorem Ai.Mul.ev (N:Nat) (n:Bool) (a:List Int) (e:Int) (m:Bool) (b:List Int) (f:Int):B6 Ai.Mul.E N f41 (As f41) [.agg [.bool n,.ints .arg .u32 a,.int .i64 e],.agg [.bool m,.ints .arg .u32 b,.int .i64 f]]=bif (okM n a&&okM m b) then bif (Ll (A2 (wv n a*wv m b)) (Ah (wv n a*wv m b))&&Vq (Ad (e+f))) then some (.agg [.bool (A2 (mD (wv (A2 (wv n a*wv m b)) (Ah (wv n a*wv m b))))),.ints .arg .u32 (Ah (mD (wv (A2 (wv n a*wv m b)) (Ah (wv n a*wv m b))))),.int .i64 (eD (wv (A2 (wv n a*wv m b)) (Ah (wv n a*wv m b))) (Ad (e+f)))]) else none else none :=
 Eq.trans (by kernel_rfl)
 (C5 (Cn _) (C5 (Cn _) rfl rfl) rfl)
abbrev _root_.Go.Proofs.S1.Ai.Mul.Kn:=A9 prog 41 Ai.Mul.spec
theorem Ai.Mul.Ae (hk:A3 prog Ai.Mul.Bf) (h:Hyp Ai.Mul.E f41 Ai.Mul.ts Ai.Mul.pre Ai.Mul.out):Ai.Mul.Kn :=
 Am (A5 hk _ _ _) func41 (by kernel_rfl) (by kernel_rfl) h
abbrev _root_.Go.Proofs.S1.Ai.Mul.q.Kn:Prop:=A9 prog 41 Ai.Mul.q.spec
abbrev _root_.Go.Proofs.S1.Ag.plus.own.Kn:Prop:=A9 prog 174 Ag.plus.own.spec
theorem _root_.Go.Proofs.S1.Ag.plus.own.call:∀ (args:Array Value) (w:World),(callFunc 174 args).run prog w=.ok (.enter 174 args) w:=R7 func174 (by kernel_rfl) (show f174.body=some (As f174) by kernel_rfl)
theorem _root_.Go.Proofs.S1.Ag.plus.meets {E:Env} (he:Lj prog E) {ts:List AT} {pre:List Atom→Bool} {out:List Atom→DV} (h:∀ ats ds,F8 ts ats ds→pre ats=true→∃ fuel d drops,B6 E fuel f174 (As f174) ds=some d∧Wk drops d (out ats)):Zz prog 174 (entry ts pre out):=Tf he func174 (show f174.body=some (As f174) by kernel_rfl) h
end EqRefM
open Go Go.Den Go.Cv Go.Proofs
open EqRefM
theorem Aaq {n:Bool} {l:List Int} (h:okM n l=true):∃ v,n=A2 v∧l=Ah v∧Du v.natAbs<33554432:=by
 have h:=Ao.1 h
 obtain ⟨h1,h2,h3⟩:=h
 obtain ⟨e1,e2⟩:=Y2 h2 h3
 refine ⟨wv n l,e1,e2,?_⟩
 rw [e2,Cm] at h1
 exact h1
theorem Ag.plus.own.known:Ag.plus.own.Kn:=by
 refine ⟨Ag.plus.meets (E:=EqRefA.Ag.plus.E) (A5 (.cons Ag.Jv.known .nil) _ _ _) fun ats dvs he hp=>?_,Ag.plus.own.call⟩
 obtain ⟨a,_,_,rfl,rfl,he0⟩:=he.A0l
 obtain ⟨b,_,_,rfl,rfl,he1⟩:=he0.A0l
 obtain ⟨rfl,rfl⟩:=he1.Aas
 obtain ⟨ha,hb⟩:=Af.1 (show (Iy a&&Iy b)=true from hp)
 refine ⟨max a.length b.length+2,.ints (.own 100005 tW) .u32 (K5 a b),[],?_,.keep _ _ _ _ (List.not_mem_nil)⟩
 rw [EqRefA.Ag.plus.ev]
 exact Aeu _ ha hb (max a.length b.length+1) 0 0 _ (by omega) (by omega) (by omega) (by simp)
theorem Age {x y c:Nat} (hx:x<4294967296) (hy:y<4294967296) (hc:c<4294967296):x*y+c<18446744073709551616:=by
 have:=A83 (show x≤4294967295 by omega) (show y≤4294967295 by omega)
 omega
theorem Aik (N:Nat) {a:List Int} {X:Nat} (ha:Iy a=true) (hX:X<4294967296):∀ (k i c F:Nat),i+k=a.length→k<F→c<4294967296 →
 Ce a / 2^(32*i)*X+c=Ce a*X / 2^(32*i) →
 Ag.single.L0 N F a (X:Int) (c:Int) (i:Int) (digits i (Ce a*X))=some (.ints (.own 38 tW) .u32 (singleL a (X:Int))):=by
 obtain ⟨la,ia⟩:=Lx ha
 intro k
 induction k with
 | zero =>
   intro i c F hi hF hc h
   obtain ⟨F,rfl⟩:∃ G,F=G+1:=⟨F-1,by omega⟩
   have t0:decide ((i:Int)<(a.length:Int))=false:=A8c (by omega)
   have t1:decide ((digits i (Ce a*X)).length+1≤Im)=true:=A78 (by rw [En]; unfold Im; omega)
   have hz:Ce a / 2^(32*i)=0:=Nat.div_eq_of_lt (by rw [show i=a.length by omega]; exact Lr ia)
   rw [hz,Nat.zero_mul,A9h] at h
   rw [Ag.single.A1,Aw,t0,A8b,t1,A77,J9 (by omega) (by omega)]
   unfold singleL
   rw [A79,Lf,← show i=a.length by omega,← h,A8k hc]
 | succ k ih =>
   intro i c F hi hF hc h
   obtain ⟨F,rfl⟩:∃ G,F=G+1:=⟨F-1,by omega⟩
   have t0:decide ((i:Int)<(a.length:Int))=true:=A78 (by omega)
   have t2:decide ((0:Int)≤(i:Int))=true:=A78 (by omega)
   have t1:decide ((digits i (Ce a*X)).length+1≤Im)=true:=A78 (by rw [En]; unfold Im; omega)
   rw [Ag.single.A1,Aw,t0,t1,t2]
   simp only [A77,A8d]
   rw [A79,P8 ia i]
   have ih:=ih (i+1)
   rw [N8,A8v 4294967296,← A80,← A80,Lf] at ih
   generalize Ce a / 2^(32*i)=x at *
   generalize Ce a*X / 2^(32*i)=z at *
   have hb:=Age (x:=x%4294967296) (y:=X) (c:=c) (Nat.mod_lt _ (by decide)) hX hc
   have hm:x*X=x / 4294967296*X*4294967296+x%4294967296*X:=by
    rw [Nat.mul_right_comm,← A9b]
    congr 1
    omega
   have e1:Bj (Bj (Bj ((x%4294967296:Nat):Int)*Bj (X:Int))+(c:Int))=((x%4294967296*X+c:Nat):Int):=by
    rw [Dd (x:=((x%4294967296:Nat):Int)) (by omega) (by omega),Dd (x:=(X:Int)) (by omega) (by omega),← A8s,Dd (x:=((x%4294967296*X:Nat):Int)) (by omega) (by omega),Dd (by omega) (by omega)]
    omega
   have hlt:(x%4294967296*X+c) / 4294967296<4294967296:=by omega
   rw [e1,Ajl,Kc,Kd,J9 (by omega) (by omega),Dd (by omega) (by omega),Ar (by omega) (by omega)]
   rw [hm] at h
   generalize x%4294967296*X=p at *
   generalize x / 4294967296*X=q at *
   have e2:(p+c)%4294967296=z%4294967296:=by omega
   rw [e2]
   exact ih ((p+c) / 4294967296) F (by omega) (by omega) hlt (by omega)
theorem Ag.single.known:Ag.single.Kn:=Ag.single.Ae .nil fun a x hp=>by
 obtain ⟨ha,hx⟩:=Af.1 hp
 have hx:=Ao.1 hx
 obtain ⟨X,rfl⟩:∃ k:Nat,x=k:=⟨x.toNat,by omega⟩
 refine ⟨a.length+1,.ints (.own 38 tW) .u32 (singleL a X),[38],?_,Agr⟩
 rw [Ag.single.ev]
 exact Aik _ ha (by omega) a.length 0 0 _ (by omega) (by omega) (by omega) (by simp)
theorem Abk (a:List Int) (x:Int):Xf (singleL a x):=O1 _ _
theorem S5 (a:List Int) (x:Int):(singleL a x).length=a.length+1:=En _ _
theorem Ail {a:List Int} (ia:Xf a) {X:Nat} (hX:X<4294967296):Ce (singleL a (X:Int))=Ce a*X:=by
 have h:=Lr ia
 unfold singleL
 rw [Kz,A79,A8k]
 rw [N8,A8v 4294967296]
 exact Nat.mul_lt_mul'' h hX
theorem Aum (N:Nat) {n m:Bool} {a b:List Int} (ha:Xf a) (hb:Xf b) (la:a.length<33554432) (lb:b.length<33554432) :
 ∀ (j F:Nat) (p:List Int),j≤b.length→j<F→Xf p→p.length≤a.length+2*(b.length-j)→Ce p=Ce a*(Ce b / 2^(32*j)) →
 Ag.Mul.L0 N F n a m b ((j:Int)-1) p=some (.agg [.bool (A2 (Ik (!(n==m)) (Ce a*Ce b))),.ints .arg .u32 (Ah (Ik (!(n==m)) (Ce a*Ce b)))]):=by
 intro j
 induction j with
 | zero =>
   intro F p hj hF ip lp vp
   obtain ⟨F,rfl⟩:∃ G,F=G+1:=⟨F-1,by omega⟩
   have o:Iy p=true:=Lw (by omega) ip
   rw [Nat.mul_zero,A85,Nat.div_one] at vp
   rw [Ag.Mul.A1,Fe,A8c (by omega),A8b,o,A77]
   unfold wv
   rw [vp]
 | succ j ih =>
   intro F p hj hF ip lp vp
   obtain ⟨F,rfl⟩:∃ G,F=G+1:=⟨F-1,by omega⟩
   have e0:((j+1:Nat):Int)-1=(j:Int):=by omega
   have hX:Ce b / 2^(32*j)%4294967296<4294967296:=Nat.mod_lt _ (by decide)
   have o1:Iy a=true:=Lw (by omega) ha
   have i0:Xf ([(0:Int)]++p):=Ajw ip
   have o2:Iy ([(0:Int)]++p)=true:=Lw (by rw [A8z]; show 1+p.length<_; omega) i0
   have o3:Iy (singleL a ((Ce b / 2^(32*j)%4294967296:Nat):Int))=true:=Lw (by rw [S5]; omega) (Abk _ _)
   have o4:Ave ((Ce b / 2^(32*j)%4294967296:Nat):Int)=true:=Ao.2 (by omega)
   have vz:Ce ([(0:Int)]++p)=4294967296*Ce p:=by
    show (0:Int).toNat+4294967296*Ce p=_
    rw [show (0:Int).toNat=0 from rfl,A9h]
   have c1:decide (1+p.length≤Im)=true:=A78 (by unfold Im; omega)
   have c2:decide ((j:Int)<(b.length:Int))=true:=A78 (by omega)
   have c3:decide ((0:Int)≤(j:Int))=true:=A78 (by omega)
   rw [e0,Ag.Mul.A1,Fe,c3,A77,c1,A77,c2,A8d,A77,A79,P8 hb j,o1,o4,A8d,A77,o2,o3,A8d,A77,Ar (by omega) (by omega)]
   refine ih F _ (by omega) (by omega) (Ab2 _ _) ?_ ?_
   ·rw [Rl,A8z,S5]
    show max (1+p.length) _+1≤_
    omega
   ·rw [Aev i0 (Abk _ _),vz,Ail ha hX,vp,N8,A8v 4294967296 (2^(32*j)),← A80,Nat.mul_left_comm,← Nat.mul_add]
    congr 1
    omega
theorem Ax4 (s t:Bool) (x y:Nat):Ik (!(s==t)) (x*y)=Ik s x*Ik t y:=by
 unfold Ik
 cases s<;>cases t<;>simp [A8s,Int.neg_mul,Int.mul_neg]
theorem Ag.Mul.known:Ag.Mul.Kn:=Ag.Mul.Ae (.cons Ag.Made.known (.cons Ag.plus.own.known (.cons Ag.single.known .nil))) fun n a m b hp=>by
 obtain ⟨h1,h2⟩:=Af.1 hp
 obtain ⟨v,rfl,rfl,hv⟩:=Aaq h1
 obtain ⟨w,rfl,rfl,hw⟩:=Aaq h2
 refine ⟨(Ah w).length+1,Ag.Mul.out [.b (A2 v),.l (Ah v),.b (A2 w),.l (Ah w)],[],?_,Afv⟩
 have lv:=Cm v
 have lw:=Cm w
 have iw:=G4 w
 have hz:Ce (Ah w) / 2^(32*(Ah w).length)=0:=Nat.div_eq_of_lt (Lr iw)
 rw [Ag.Mul.ev,Ar (by omega) (by omega)]
 refine (Aum _ (G4 v) iw (by omega) (by omega) (Ah w).length _ [] (A81 _) (by omega) (fun x h=>by cases h) (by show 0≤_; omega) (by rw [hz,Nat.mul_zero]; rfl)).trans ?_
 rw [Ax4]
 rfl
theorem Au5 (n m:Nat):Du (n*m)≤Du n+Du m:=by
 refine Nb ?_
 rw [Nat.mul_add,A8w]
 exact Nat.mul_lt_mul'' (L7 n) (L7 m)
theorem Ai.Mul.known:Ai.Mul.Kn:=Ai.Mul.Ae (.cons Ag.Mul.known (.cons Ai.Of.known .nil)) fun n a e m b f hp=>by
 obtain ⟨h1,h2⟩:=Af.1 hp
 obtain ⟨h3,h4⟩:=Af.1 h2
 have he:=Ao.1 h3
 have hf:=Ao.1 h4
 obtain ⟨h5,h6⟩:=Af.1 h1
 obtain ⟨v,rfl,rfl,hv⟩:=Aaq h5
 obtain ⟨w,rfl,rfl,hw⟩:=Aaq h6
 refine ⟨0,Ai.Mul.out [.b (A2 v),.l (Ah v),.i e,.b (A2 w),.l (Ah w),.i f],[],?_,wdy⟩
 have hl:=Au5 v.natAbs w.natAbs
 have o1:Ll (A2 (v*w)) (Ah (v*w))=true:=Ix (by rw [Int.natAbs_mul]; omega)
 have o2:Vq (e+f)=true:=Ao.2 (by omega)
 rw [Ai.Mul.ev,h5,h6,A8d,A77,Ar (by omega) (by omega)]
 simp only [Ft]
 rw [o1,o2,A8d,A77]
 show _=some (DV.agg [.bool (A2 (mD (wv (A2 v) (Ah v)*wv (A2 w) (Ah w)))),.ints .arg .u32 (Ah (mD (wv (A2 v) (Ah v)*wv (A2 w) (Ah w)))),.int .i64 (eD (wv (A2 v) (Ah v)*wv (A2 w) (Ah w)) (e+f))])
 rw [Ft,Ft]
end Go.Proofs.S1
namespace Go.Cv
open Go.Den
structure Good (x:Int):Prop where
 word:Al x=true
 k3:Aj x.toNat≠3
 k4:Aj x.toNat≠4
 ne:x.toNat≠2^63
theorem Lm {x:Int} (h:Al x=true):x.toNat<2^64:=by
 have:=Ao.1 h
 omega
end Go.Cv
namespace Go.Cv
open Go.Den
structure Fw (x:Int):Prop where
 word:Al x=true
 fin:Dk x=true
end Go.Cv
namespace Go.Proofs.S1
open Go Go.Den Go.Cv Go.Proofs
theorem Abx {R C:Nat} {l:List Int} (hl:l.length=R*C) {I:Nat} (hI:I<R):G7 (C:Int) l (I:Int)=(List.range C).map fun k:Nat=>Cp (C:Int) l (I:Int) (k:Int):=by
 have hlen:=Vk hl hI
 have e1:((I:Int)*(C:Int)).toNat=I*C:=by rw [← A8s,A79]
 have e2:(((I:Int)+1)*(C:Int)).toNat=(I+1)*C:=by
  have:((I:Int)+1)*(C:Int)=(((I+1)*C:Nat):Int):=by rw [A8s]; rfl
  rw [this,A79]
 refine Tk (by rw [hlen,A9d,A9a]) fun j hj=>?_
 rw [hlen] at hj
 have hp:=K6 hI hj
 have h1:(I+1)*C=I*C+C:=by rw [A9b,Nat.one_mul]
 rw [A9o,List.getElem?_range hj]
 unfold G7
 rw [List.getElem?_drop,e1,e2,List.getElem?_take,A8u (by omega)]
 show l[I*C+j]?=some (Cp (C:Int) l (I:Int) (j:Int))
 rw [Qd,A8h,A8o (by omega)]
 rfl
end Go.Proofs.S1
namespace Go.Cv
open Go.Den
theorem Jo (s:Bool):vR (Bx s 0)=0:=by
 have e3:An (Bx s 0)=0:=by cases s<;>decide
 unfold vR
 rw [e3]
 have z:((0:Nat):Rat)=0:=rfl
 rw [z]; grind
theorem Sv {a:Nat} (h:Aj a=0):vR a=0:=by
 have h3:Aj a≠3:=by omega
 have h4:Aj a≠4:=by omega
 unfold vR
 rw [(Da h3 h4).2 h]
 have z:((0:Nat):Rat)=0:=rfl
 rw [z]; grind
theorem Ans (S:Int):Qt (decide (S<0))*((S.natAbs:Nat):Rat)=(S:Rat):=by
 rw [← Agj]
 congr 1
 unfold Ik
 by_cases h:S<0
 ·rw [A8u (A78 h)]; omega
 ·rw [A8t (by rw [A8c h]; decide)]; omega
theorem S8 {s:Bool} {V:Nat} {E:Int} (h:Aj (Bx s (B1 V E))≠3):B1 V E<Ei:=by
 have:=Rj V E
 rcases A84 (B1 V E) Ei with g | g
 ·exact g
 ·exfalso
  have e:B1 V E=Ei:=by omega
  rw [e] at h
  exact h (Ava s)
theorem Aw1 {s:Bool} {V:Nat} {E:Int} {B:Rat} (h:Ab (Qt s*((V:Rat)*tw E)) B):(V:Rat)*tw E≤B:=(Agk (Qm V E)).1 h
theorem I2 {x B:Rat} (h:x≤B):uR*x≤uR*B:=Rat.mul_le_mul_of_nonneg_left h (Rat.le_of_lt Fa)
theorem Aa5 {a b:Nat} (a3:Aj a≠3) (a4:Aj a≠4) (b3:Aj b≠3) (b4:Aj b≠4) (hf:Aj (Gf a b).1≠3) {B:Rat} (hB:Ab (vR a+vR b) B):Nr (vR (Gf a b).1) (vR a+vR b) (uR*B):=by
 have pa:=Cu a
 have pb:=Cu b
 rw [Tw (by omega) a3 b3] at hf ⊢
 obtain ⟨m,hm⟩:∃ m,m=min (Av a) (Av b):=⟨_,rfl⟩
 have ea:=Asd (a:=a) (g:=m) (by omega)
 have eb:=Asd (a:=b) (g:=m) (by omega)
 rw [← hm] at hf ⊢
 generalize hS:Fo a m+Fo b m=S at hf ⊢
 have es:vR a+vR b=(S:Rat)*tw m:=by
  rw [← ea,← eb,← hS,Rat.intCast_add]; grind
 rw [es] at hB ⊢
 unfold Lu at hf ⊢
 by_cases h0:S=0
 ·rw [A8u h0]
  dsimp only
  rw [Jo,h0]
  have z:((0:Int):Rat)=0:=rfl
  have:=Rat.mul_nonneg (Rat.le_of_lt Fa) hB.nn
  rw [z]
  unfold Nr; grind
 ·rw [A8t h0] at hf ⊢
  dsimp only at hf ⊢
  have h:=(S9 (decide (S<0)) (S8 hf)).2.1 (by omega)
  rw [← Rat.mul_assoc (Qt _),Ans] at h
  refine h.mono (I2 (Aw1 (s:=decide (S<0)) ?_))
  rw [← Rat.mul_assoc,Ans]; exact hB
theorem Ug {a b:Nat} (a3:Aj a≠3) (a4:Aj a≠4) (b3:Aj b≠3) (b4:Aj b≠4) (hf:Aj (Hc a b).1≠3) {B:Rat} (hB:Ab (vR a*vR b) B):Nr (vR (Hc a b).1) (vR a*vR b) (uR*B+Cb):=by
 unfold Hc at hf ⊢
 rw [A8t (by omega),A8t (by omega)] at hf ⊢
 dsimp only at hf ⊢
 have e:vR a*vR b=Qt (Bp a !=Bp b)*(((An a*An b:Nat):Rat)*tw (Av a+Av b)):=by
  unfold vR
  rw [Anr,Rat.natCast_mul,E3]; grind
 rw [e] at hB ⊢
 refine (S9 _ (S8 hf)).1.mono ?_
 have:=I2 (Aw1 hB)
 grind
theorem Ah8 {b:Nat} (h:b<2^64):vR (Eg b)=-(vR b):=by
 obtain ⟨h1,h2,h3⟩:=Lb h
 unfold vR An Av
 rw [h1,h2,h3]
 unfold Qt
 cases Bp b<;>simp<;>grind
theorem We {a b:Nat} (hb:b<2^64) (a3:Aj a≠3) (a4:Aj a≠4) (b3:Aj b≠3) (b4:Aj b≠4) (hf:Aj (Abd a b).1≠3) {B:Rat} (hB:Ab (vR a-vR b) B):Nr (vR (Abd a b).1) (vR a-vR b) (uR*B):=by
 have k:=Amg b
 have e:vR a-vR b=vR a+vR (Eg b):=by rw [Ah8 hb]; grind
 rw [e] at hB ⊢
 exact Aa5 a3 a4 (by omega) (by omega) hf hB
theorem Ua {a:Nat} {n:Int} (a3:Aj a≠3) (a4:Aj a≠4) (hf:Aj (Cj a n).1≠3):Nr (vR (Cj a n).1) (vR a*tw n) Cb:=by
 by_cases k0:Aj a=0
 ·have e:(Cj a n).1=a:=by unfold Cj; rw [A8t a4,A8u (.inr k0)]
  have he:=Ex
  rw [e,Sv k0]
  unfold Nr; grind
 ·rw [Jq a4 (by omega)] at hf ⊢
  dsimp only at hf ⊢
  have h:=(S9 (Bp a) (S8 hf)).2.2 (Fx a)
  have e:vR a*tw n=Qt (Bp a)*(((An a:Nat):Rat)*tw (Av a+n)):=by
   unfold vR
   rw [E3]; grind
  rw [e]
  exact h
end Go.Cv
namespace Go.Cv
open Go.Den
theorem Apl {X Y K:Nat} (hY:0<Y):Fu X Y K*Y≤2*(X*2^K)+Y∧2*(X*2^K)≤Fu X Y K*Y+Y:=by
 have hd:=Nat.div_add_mod (X*2^K) Y
 have hm:=Nat.mod_lt (X*2^K) hY
 unfold Fu
 rw [A9b,A8y,A8v (X*2^K / Y)]
 split
 ·rw [Nat.zero_mul]; omega
 ·rw [Nat.one_mul]; omega
theorem C0 {m n:Nat} (h:m≤n):(m:Rat)≤(n:Rat):=Rat.natCast_le_natCast.2 h
theorem Apm {X Y:Nat} {e f:Int} {q:Rat} (hX:0<X) (hY:0<Y) (hY2:Y<2^53) (hq:q*((Y:Rat)*tw f)=(X:Rat)*tw e):Nr ((Fu X Y 120:Rat)*tw (e-f-121)) q (tw (-68)*q)∧0≤q:=by
 obtain ⟨h1,h2⟩:=Apl (X:=X) (K:=120) hY
 have g1:=C0 h1
 have g2:=C0 h2
 rw [Rat.natCast_add,Rat.natCast_mul,Rat.natCast_mul,Rat.natCast_mul] at g1
 rw [Rat.natCast_add,Rat.natCast_mul,Rat.natCast_mul,Rat.natCast_mul] at g2
 have t2:((2:Nat):Rat)=2:=rfl
 have t120:((2^120:Nat):Rat)=tw 120:=(J3 120).symm
 rw [t2,t120] at g1 g2
 have pE:=D0 (e-f-121)
 have pf:=D0 f
 have yp:(0:Rat)<(Y:Rat):=by
  have:((0:Nat):Rat)<(Y:Rat):=Rat.natCast_lt_natCast.2 hY
  exact this
 have ypos:0<(Y:Rat)*tw f:=Rat.mul_pos yp pf
 have e1:2*tw 120*(tw (e-f-121)*tw f)=tw e:=by
  have:2*tw 120=tw 121:=(Aac 120).symm
  rw [this,← E3,← E3]; congr 1; omega
 have m1:=Rat.mul_le_mul_of_nonneg_right g1 (Rat.le_of_lt (Rat.mul_pos pE pf))
 have m2:=Rat.mul_le_mul_of_nonneg_right g2 (Rat.le_of_lt (Rat.mul_pos pE pf))
 generalize tw (e-f-121)=T at *
 generalize (Fu X Y 120:Rat)=S at *
 have s1:S*T*((Y:Rat)*tw f)≤(q+T)*((Y:Rat)*tw f):=by
  have:(q+T)*((Y:Rat)*tw f)=(X:Rat)*tw e+T*((Y:Rat)*tw f):=by rw [← hq]; grind
  rw [this,← e1]
  grind
 have s2:q*((Y:Rat)*tw f)≤(S*T+T)*((Y:Rat)*tw f):=by
  rw [hq,← e1]
  grind
 have k1:=Rat.le_of_mul_le_mul_right s1 ypos
 have k2:=Rat.le_of_mul_le_mul_right s2 ypos
 have hT:T≤tw (-68)*q:=by
  refine Rat.le_of_mul_le_mul_right (c:=(Y:Rat)*tw f) ?_ ypos
  have e3:tw (-68)*q*((Y:Rat)*tw f)=tw (-68)*((X:Rat)*tw e):=by rw [← hq]; grind
  have x1:(1:Rat)≤(X:Rat):=C0 (show 1≤X from hX)
  have y1:(Y:Rat)≤tw 53:=by
   have:=C0 (Nat.le_of_lt hY2)
   rw [← J3] at this
   exact this
  have z1:=Rat.mul_le_mul_of_nonneg_left y1 (Rat.le_of_lt (Rat.mul_pos pE pf))
  have pe:=D0 e
  have z2:=Rat.mul_le_mul_of_nonneg_right x1 (Rat.le_of_lt (Rat.mul_pos (D0 (-68)) pe))
  have e4:T*tw f*tw 53=tw (-68)*tw e:=by
   rw [← e1]
   have:tw (-68)*(2*tw 120)=tw 53:=by
    rw [← Aac,← E3]; rfl
   grind
  rw [e3]
  grind
 have hq0:0≤q:=by
  refine Rat.le_of_mul_le_mul_right (c:=(Y:Rat)*tw f) ?_ ypos
  rw [hq]
  have:=Qm X e
  grind
 refine ⟨?_,hq0⟩
 unfold Nr
 grind
theorem Alc (s:Bool):Qt s*Qt s=1:=by cases s<;>decide +kernel
theorem Aa1 {a b:Nat} (a3:Aj a≠3) (a4:Aj a≠4) (b3:Aj b≠3) (b4:Aj b≠4) (b0:Aj b≠0) (hf:Aj (Sm a b).1≠3) {q B:Rat} (hq:q*vR b=vR a) (hB:Ab q B):Nr (vR (Sm a b).1) q (2*uR*B+Cb):=by
 have hBn:=hB.nn
 have hu:=Fa
 have he:=Ex
 have bm:An b≠0:=fun h=>b0 ((Da b3 b4).1 h)
 have yp:(0:Rat)<((An b:Nat):Rat):=by
  have:((0:Nat):Rat)<((An b:Nat):Rat):=Rat.natCast_lt_natCast.2 (by omega)
  exact this
 have ypos:0<((An b:Nat):Rat)*tw (Av b):=Rat.mul_pos yp (D0 _)
 have hub:=Rat.mul_nonneg (Rat.le_of_lt Fa) hBn
 have hq2:(Qt (Bp a !=Bp b)*q)*(((An b:Nat):Rat)*tw (Av b))=((An a:Nat):Rat)*tw (Av a):=by
  unfold vR at hq
  rw [Anr]
  have h1:=Alc (Bp a)
  generalize Qt (Bp a)=sa at *
  generalize Qt (Bp b)=sb at *
  grind
 by_cases k0:Aj a=0
 ·have ea:An a=0:=(Da a3 a4).2 k0
  have z:((0:Nat):Rat)=0:=rfl
  rw [ea,z] at hq2
  have q0:q=0:=by
   have:(Qt (Bp a !=Bp b)*q)*(((An b:Nat):Rat)*tw (Av b))=0:=by rw [hq2]; grind
   have h1:Qt (Bp a !=Bp b)*q=0:=by
    rcases Rat.mul_eq_zero.1 this with h | h
    ·exact h
    ·grind
   have h2:=Alc (Bp a !=Bp b)
   generalize Qt (Bp a !=Bp b)=sx at *
   grind
  have ed:(Sm a b).1=Bx (Bp a !=Bp b) 0:=by
   unfold Sm
   rw [A8t (by omega),A8t (by omega),A8t a3,A8u (.inr k0)]
  rw [ed,Jo,q0]
  unfold Nr
  grind
 ·have am:An a≠0:=fun h=>k0 ((Da a3 a4).1 h)
  have ed:(Sm a b).1=Bx (Bp a !=Bp b) (B1 (Fu (An a) (An b) 120) (Av a-Av b-121)):=by
   unfold Sm
   rw [A8t (by omega),A8t (by omega),A8t a3,A8t (by omega),A8t b0]
  rw [ed] at hf ⊢
  obtain ⟨h1,h2⟩:=Apm (X:=An a) (Y:=An b) (by omega) (by omega) (Fx b) hq2
  have h3:=(S9 (Bp a !=Bp b) (S8 hf)).1
  have h4:=Ath (s:=Bp a !=Bp b) h1
  have sq:Qt (Bp a !=Bp b)*(Qt (Bp a !=Bp b)*q)=q:=by
   have h2:=Alc (Bp a !=Bp b)
   generalize Qt (Bp a !=Bp b)=sx at *
   grind
  rw [sq] at h4
  have hB2:Qt (Bp a !=Bp b)*q≤B:=by
   unfold Ab at hB
   unfold Qt
   cases (Bp a !=Bp b)
   ·have e:(if false=true then (-1:Rat) else 1)=1:=rfl
    rw [e]; grind
   ·have e:(if true=true then (-1:Rat) else 1)=-1:=rfl
    rw [e]; grind
  generalize Qt (Bp a !=Bp b)*q=p at *
  generalize ((Fu (An a) (An b) 120:Nat):Rat)*tw (Av a-Av b-121)=W at *
  refine (h3.trans h4).mono ?_
  have t68:tw (-68)=uR*tw (-15):=by unfold uR; rw [← E3]; rfl
  have t15:tw (-15)≤1 / 4:=by decide +kernel
  have t0:=Rat.le_of_lt (D0 (-15))
  have n1:W≤2*p:=by
   have:=h1.1
   have m:=Rat.mul_le_mul_of_nonneg_right t15 h2
   have:tw (-68)*p≤p:=by
    have u1:tw (-68)≤1:=by decide +kernel
    have:=Rat.mul_le_mul_of_nonneg_right u1 h2
    grind
   grind
  have n2:tw (-68)*p≤1 / 4*(uR*p):=by
   have m:=Rat.mul_le_mul_of_nonneg_right t15 (Rat.mul_nonneg (Rat.le_of_lt hu) h2)
   rw [t68]; grind
  have n3:=h1.1
  have n4:W≤p+tw (-68)*p:=n3
  have n5:tw (-68)≤1 / 4:=by decide +kernel
  have n6:tw (-68)*p≤1 / 4*p:=Rat.mul_le_mul_of_nonneg_right n5 h2
  have n7:uR*W≤uR*(5 / 4*p):=I2 (by grind)
  have n8:uR*p≤uR*B:=I2 hB2
  grind
end Go.Cv
namespace Go.Cv
open Go.Den
theorem Ak3 {n:Nat} (h:2^53≤Mj n):(Ey n*Ey n)*2^52≤4*n*2^52+4*n∧4*n*2^52≤(Ey n*Ey n)*2^52+4*n:=by
 obtain ⟨h1,h2⟩:=Nm n
 unfold Ey
 split
 ·rename_i e
  have:(2*Mj n+0)*(2*Mj n+0)=4*n:=by
   rw [A9f,Nat.mul_mul_mul_comm,e]
  rw [this]; omega
 ·have e1:(2*Mj n+1)*(2*Mj n+1)=4*(Mj n*Mj n)+4*Mj n+1:=by
   simp only [A9b,Nat.mul_add,Nat.one_mul,A9g,Nat.mul_mul_mul_comm]; omega
  have e2:(Mj n+1)*(Mj n+1)=Mj n*Mj n+2*Mj n+1:=by
   simp only [A9b,Nat.mul_add,Nat.one_mul,A9g]; omega
  rw [e2] at h2
  rw [e1]
  have h3:Mj n*2^53≤Mj n*Mj n:=Nat.mul_le_mul_left _ h
  generalize Mj n*Mj n=I at *
  generalize Mj n=i at *
  omega
theorem Px {x y:Rat} (h:0≤x) (g:x≤y):x*x≤y*y:=by
 have h1:=Rat.mul_le_mul_of_nonneg_left g h
 have h2:=Rat.mul_le_mul_of_nonneg_right g (Rat.le_trans h g)
 grind
theorem Atb {b:Nat} (b3:Aj b≠3) (b4:Aj b≠4) (hn:Bp b=false∨Aj b=0) (hf:Aj (Hw b).1≠3):Nr (vR (Hw b).1*vR (Hw b).1) (vR b) (8*uR*vR b)∧0≤vR (Hw b).1∧0≤vR b:=by
 by_cases k0:Aj b=0
 ·rw [Ov b4 (.inl k0),Sv k0]
  unfold Nr; grind
 have hn:Bp b=false:=hn.elim id fun h=>absurd h k0
 have m0:An b≠0:=fun e=>k0 ((Da b3 b4).1 e)
 have hi:b≠Ei:=fun e=>b3 (by rw [e]; exact Ajv)
 have pe:=Cu b
 rw [Wi b4 (fun h=>h.elim k0 hi) hn] at hf ⊢
 dsimp only at hf ⊢
 obtain ⟨r1,r2⟩:=Wr m0
 have hrk:Fv b≤129:=by unfold Fv; omega
 generalize hr:(Av b-(Fv b:Int)) / 2-1=r at r2 hf ⊢
 have hq:2^53≤Mj (An b*2^Fv b):=Xe (t:=53) r1
 obtain ⟨s1,s2⟩:=Ak3 hq
 have hs:2^54≤Ey (An b*2^Fv b):=by unfold Ey; omega
 have hf':Aj (Bx false (B1 (Ey (An b*2^Fv b)) r))≠3:=by rw [Ip]; exact hf
 have h1:=(S9 false (S8 hf')).1
 rw [Ip] at h1
 have sg:Qt false=1:=rfl
 rw [sg,Rat.one_mul] at h1
 have eb:vR b=((An b*2^Fv b:Nat):Rat)*(tw 2*(tw r*tw r)):=by
  have e:=Sx (An b) (Fv b) (Av b)
  unfold vR
  rw [hn]
  have e2:tw 2*(tw r*tw r)=tw (Av b-(Fv b:Int)):=by rw [← E3,← E3]; congr 1; omega
  rw [e2,e,sg]; grind
 generalize An b*2^Fv b=n at *
 generalize Ey n=s at *
 have g1:=C0 s1
 have g2:=C0 s2
 simp only [Rat.natCast_add,Rat.natCast_mul] at g1 g2
 have t4:((4:Nat):Rat)=tw 2:=by decide +kernel
 have t52:((2^52:Nat):Rat)=tw 52:=(J3 52).symm
 rw [t4,t52] at g1 g2
 have hs':=C0 hs
 have t54:((2^54:Nat):Rat)=tw 54:=(J3 54).symm
 rw [t54] at hs'
 have pr:=D0 r
 have prr:=Rat.mul_pos pr pr
 have m1:=Rat.mul_le_mul_of_nonneg_right g1 (Rat.le_of_lt prr)
 have m2:=Rat.mul_le_mul_of_nonneg_right g2 (Rat.le_of_lt prr)
 have hS1:tw 54*tw r≤(s:Rat)*tw r:=Rat.mul_le_mul_of_nonneg_right hs' (Rat.le_of_lt pr)
 generalize hS:(s:Rat)*tw r=S at *
 have q1:S*S*tw 52≤vR b*tw 52+vR b:=by rw [eb,← hS]; grind
 have q2:vR b*tw 52≤S*S*tw 52+vR b:=by rw [eb,← hS]; grind
 have hb0:0≤vR b:=by
  rw [eb]
  exact Rat.mul_nonneg (Mu n) (Rat.le_of_lt (Rat.mul_pos (D0 2) prr))
 have eta1:Cb≤uR*S:=by
  have z1:tw (-657)≤tw r:=Aea (by omega)
  have z2:Cb≤uR*(tw 54*tw (-657)):=by decide +kernel
  have z3:tw 54*tw (-657)≤tw 54*tw r:=Rat.mul_le_mul_of_nonneg_left z1 (Rat.le_of_lt (D0 54))
  have z4:=I2 (Rat.le_trans z3 hS1)
  grind
 have hS0:0≤S:=by
  have:=Rat.mul_pos (D0 54) pr
  grind
 generalize vR b=B at *
 generalize vR (B1 s r)=R at *
 have h2:Nr R S (2*uR*S):=h1.mono (by grind)
 have cu:2*uR*tw 52=1:=by decide +kernel
 have u0:=Fa
 have p1:=Rat.mul_le_mul_of_nonneg_right q1 (show 0≤2*uR by grind)
 have p2:=Rat.mul_le_mul_of_nonneg_right q2 (show 0≤2*uR by grind)
 have k1:S*S*tw 52*(2*uR)=S*S:=by grind
 have k2:(B*tw 52+B)*(2*uR)=(1+2*uR)*B:=by grind
 have k3:B*tw 52*(2*uR)=B:=by grind
 have k4:(S*S*tw 52+B)*(2*uR)=S*S+2*uR*B:=by grind
 rw [k1,k2] at p1
 rw [k3,k4] at p2
 have e1:S*S≤(1+2*uR)*B:=p1
 have e2:(1-2*uR)*B≤S*S:=by grind
 have hu1:0≤1-2*uR:=by decide +kernel
 have a1:R≤(1+2*uR)*S:=by have:=h2.1; grind
 have a2:(1-2*uR)*S≤R:=by have:=h2.2; grind
 have a0:=Rat.mul_nonneg hu1 hS0
 have hR0:0≤R:=Rat.le_trans a0 a2
 have b1:R*R≤(1+2*uR)*S*((1+2*uR)*S):=Px hR0 a1
 have b2:(1-2*uR)*S*((1-2*uR)*S)≤R*R:=Px a0 a2
 have c1:=Rat.mul_le_mul_of_nonneg_left e1 (show 0≤(1+2*uR)*(1+2*uR) by decide +kernel)
 have c2:=Rat.mul_le_mul_of_nonneg_left e2 (show 0≤(1-2*uR)*(1-2*uR) by decide +kernel)
 have d1:(1+2*uR)*(1+2*uR)*(1+2*uR)≤1+8*uR:=by decide +kernel
 have d2:1-8*uR≤(1-2*uR)*(1-2*uR)*(1-2*uR):=by decide +kernel
 have f1:=Rat.mul_le_mul_of_nonneg_right d1 hb0
 have f2:=Rat.mul_le_mul_of_nonneg_right d2 hb0
 refine ⟨?_,hR0,hb0⟩
 generalize uR=u at *
 unfold Nr
 grind
end Go.Cv
namespace Go.Cv
def sm:Nat→(Nat→Rat)→Rat
 | 0,_=>0
 | n+1,f=>sm n f+f n
theorem Bo {f g:Nat→Rat}:∀ n,(∀ i,i<n→f i=g i)→sm n f=sm n g
 | 0,_=>rfl
 | n+1,h=>by
   unfold sm
   rw [Bo n fun i hi=>h i (by omega),h n (by omega)]
theorem Ho (f g:Nat→Rat):∀ n,sm n (fun i=>f i+g i)=sm n f+sm n g
 | 0=>by unfold sm; grind
 | n+1=>by
   unfold sm
   rw [Ho f g n]; grind
theorem Gm (c:Rat) (f:Nat→Rat):∀ n,sm n (fun i=>c*f i)=c*sm n f
 | 0=>by unfold sm; grind
 | n+1=>by
   unfold sm
   rw [Gm c f n]; grind
theorem S3 {f g:Nat→Rat}:∀ n,(∀ i,i<n→f i≤g i)→sm n f≤sm n g
 | 0,_=>Rat.le_refl
 | n+1,h=>by
   unfold sm
   have h1:=S3 n fun i hi=>h i (by omega)
   have h2:=h n (by omega)
   grind
theorem Qv {f:Nat→Rat}:∀ n,(∀ i,i<n→0≤f i)→0≤sm n f
 | 0,_=>Rat.le_refl
 | n+1,h=>by
   unfold sm
   have h1:=Qv n fun i hi=>h i (by omega)
   have h2:=h n (by omega)
   grind
theorem I4 (n:Nat):sm n (fun _=>0)=0:=by
 induction n with
 | zero=>rfl
 | succ n ih=>unfold sm; rw [ih]; grind
theorem Ak7 {n:Nat} {f:Nat→Rat} {k:Nat} (hk:k<n) (h:∀ i,i<n→i≠k→f i=0):sm n f=f k:=by
 induction n with
 | zero=>omega
 | succ n ih =>
   unfold sm
   by_cases e:k=n
   ·subst e
    rw [Bo k (g:=fun _=>0) fun i hi=>h i (by omega) (by omega),I4]; grind
   ·rw [ih (by omega) fun i hi=>h i (by omega),h n (by omega) (by omega)]; grind
theorem By (x:Rat):0≤x*x:=by
 rcases (Rat.le_total:(0:Rat)≤x∨x≤0) with h | h
 ·exact Rat.mul_nonneg h h
 ·have:=Rat.mul_nonneg (show 0≤-x by grind) (show 0≤-x by grind)
  grind
theorem Ph {x y:Rat} (hy:0≤y) (h:x*x≤y*y):x≤y:=by
 rcases (Rat.le_total:x≤y∨y≤x) with g | g
 ·exact g
 ·have h1:=Px hy g
  have e:x*x=y*y:=by grind
  have z:(x-y)*(x+y)=0:=by grind
  rcases Rat.mul_eq_zero.1 z with k | k
  ·grind
  ·grind
theorem Akm {x y:Rat} (hy:0≤y) (h:x*x≤y*y):Ab x y:=by
 have h1:=Ph hy h
 have h2:=Ph (x:=-x) hy (by grind)
 unfold Ab; grind
def sq (n:Nat) (f:Nat→Rat):Rat:=sm n fun i=>f i*f i
theorem Nf (n:Nat) (f:Nat→Rat):0≤sq n f:=Qv n fun i _=>By (f i)
theorem cs (f g:Nat→Rat):∀ n,sm n (fun i=>f i*g i)*sm n (fun i=>f i*g i)≤sq n f*sq n g
 | 0=>by unfold sq sm; grind
 | n+1=>by
   have ih:=cs f g n
   have hF:=Nf n f
   have hG:=Nf n g
   unfold sq sm
   dsimp only
   unfold sq at ih hF hG
   generalize sm n (fun i=>f i*g i)=A at *
   generalize sm n (fun i=>f i*f i)=F at *
   generalize sm n (fun i=>g i*g i)=G at *
   generalize f n=a
   generalize g n=b
   have hP:=Rat.mul_nonneg hF (By b)
   have hQ:=Rat.mul_nonneg hG (By a)
   have hX:A*a*b*(A*a*b)≤F*(b*b)*(G*(a*a)):=by
    have:=Rat.mul_le_mul_of_nonneg_right ih (Rat.mul_nonneg (By a) (By b))
    grind
   have hd:=By (F*(b*b)-G*(a*a))
   have k:2*(A*a*b)≤F*(b*b)+G*(a*a):=Ph (by grind) (by grind)
   grind
def Ln (n:Nat) (f:Nat→Rat) (s:Rat):Prop:=0≤s∧sq n f≤s*s
theorem Ln.mono {n:Nat} {f:Nat→Rat} {s t:Rat} (h:Ln n f s) (g:s≤t):Ln n f t:=⟨Rat.le_trans h.1 g,Rat.le_trans h.2 (Px h.1 g)⟩
theorem Ee {a b c d:Rat} (h1:a≤b) (h2:c≤d) (hb:0≤b) (hc:0≤c):a*c≤b*d:=by
 have g1:=Rat.mul_le_mul_of_nonneg_right h1 hc
 have g2:=Rat.mul_le_mul_of_nonneg_left h2 hb
 grind
theorem Ln.dot {n:Nat} {f g:Nat→Rat} {s t:Rat} (h:Ln n f s) (k:Ln n g t):Ab (sm n fun i=>f i*g i) (s*t):=by
 refine Akm (Rat.mul_nonneg h.1 k.1) ?_
 have h1:=cs f g n
 have h2:=Ee h.2 k.2 (By s) (Nf n g)
 grind
theorem Ln.congr {n:Nat} {f g:Nat→Rat} {s:Rat} (h:Ln n f s) (e:∀ i,i<n→g i=f i):Ln n g s:=by
 refine ⟨h.1,?_⟩
 have:sq n g=sq n f:=Bo n fun i hi=>by rw [e i hi]
 rw [this]; exact h.2
theorem Ln.add {n:Nat} {f g:Nat→Rat} {s t:Rat} (h:Ln n f s) (k:Ln n g t):Ln n (fun i=>f i+g i) (s+t):=by
 have h0:=h.1
 have k0:=k.1
 refine ⟨by grind,?_⟩
 have e:sq n (fun i=>f i+g i)=sq n f+(2*sm n (fun i=>f i*g i)+sq n g):=by
  unfold sq
  rw [← Gm,← Ho,← Ho]
  exact Bo n fun i _=>by grind
 have d:=(h.dot k).2
 have h2:=h.2
 have k2:=k.2
 rw [e]
 grind
theorem Ln.scale {n:Nat} {f:Nat→Rat} {s c B:Rat} (h:Ln n f s) (hc:Ab c B):Ln n (fun i=>c*f i) (B*s):=by
 have hB:=hc.nn
 refine ⟨Rat.mul_nonneg hB h.1,?_⟩
 have e:sq n (fun i=>c*f i)=c*c*sq n f:=by
  unfold sq
  rw [← Gm]
  exact Bo n fun i _=>by grind
 have c2:c*c≤B*B:=by
  unfold Ab at hc
  rcases (Rat.le_total:(0:Rat)≤c∨c≤0) with g | g
  ·exact Px g hc.2
  ·have:=Px (x:=-c) (y:=B) (by grind) (by grind)
   grind
 have:=Ee c2 h.2 (By B) (Nf n f)
 rw [e]
 grind
theorem Ln.neg {n:Nat} {f:Nat→Rat} {s:Rat} (h:Ln n f s):Ln n (fun i=>-f i) s:=by
 refine ⟨h.1,?_⟩
 have e:sq n (fun i=>-f i)=sq n f:=Bo n fun i _=>by grind
 rw [e]; exact h.2
theorem Ln.sub {n:Nat} {f g:Nat→Rat} {s t:Rat} (h:Ln n f s) (k:Ln n g t):Ln n (fun i=>f i-g i) (s+t) :=
 (h.add k.neg).congr fun i _=>by grind
theorem Aag {n k:Nat} {f:Nat→Rat} (hk:k<n) (h:∀ i,i<n→0≤f i):f k≤sm n f:=by
 induction n with
 | zero=>omega
 | succ n ih =>
   unfold sm
   by_cases e:k=n
   ·subst e
    have:=Qv k fun i hi=>h i (by omega)
    grind
   ·have h1:=ih (by omega) fun i hi=>h i (by omega)
    have h2:=h n (by omega)
    grind
theorem Ln.at {n k:Nat} {f:Nat→Rat} {s:Rat} (h:Ln n f s) (hk:k<n):Ab (f k) s:=by
 refine Akm h.1 (Rat.le_trans ?_ h.2)
 exact Aag (f:=fun i=>f i*f i) hk fun i _=>By (f i)
theorem Ln.zero (n:Nat):Ln n (fun _=>0) 0:=by
 refine ⟨Rat.le_refl,?_⟩
 have:sq n (fun _=>0)=0:=by
  unfold sq
  have:=I4 n
  rw [← this]
  exact Bo n fun i _=>by grind
 rw [this]; grind
theorem O8 (n:Nat) (c:Rat):sm n (fun _=>c)=(n:Rat)*c:=by
 induction n with
 | zero =>
   have z:((0:Nat):Rat)=0:=rfl
   rw [z]; unfold sm; grind
 | succ n ih =>
   have e:((n+1:Nat):Rat)=(n:Rat)+1:=Rat.natCast_add n 1
   unfold sm
   rw [ih,e]; grind
theorem Ln.Nz {n:Nat} {f:Nat→Rat} {B:Rat} (hB:0≤B) (h:∀ i,i<n→Ab (f i) B) (h9:n≤9):Ln n f (3*B):=by
 refine ⟨by grind,?_⟩
 have h1:sq n f≤sm n (fun _=>B*B):=S3 n fun i hi=>by
  have:=h i hi
  unfold Ab at this
  rcases (Rat.le_total:(0:Rat)≤f i∨f i≤0) with g | g
  ·exact Px g this.2
  ·have:=Px (x:=-f i) (y:=B) (by grind) (by grind)
   grind
 rw [O8] at h1
 have h2:(n:Rat)≤9:=C0 h9
 have:=Rat.mul_le_mul_of_nonneg_right h2 (By B)
 grind
end Go.Cv
end
