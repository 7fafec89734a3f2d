/- A verified evaluator of the program's form and its use for this seat: S1PSol, S1EqQr, S1PQr, S1PQrA, S1EqRef17, S1PRef17, S1EqRef14, S1PRef13, S1PRef14, S1EqLow, S1PLow, S1EqLse, S1PLse, S1POfS, S1EqRef20, S1PSubSt, S1PLseA, S1PRefL, S1PRef20, S1PMx, TileL, DiffL, MagL, ExaL, S1PExa, S1EqGg, S1PGg, S1PGgA, S1EqRef21, S1PRef21, S1PRef21A, S1PRef21B, S1EqRefM, S1PRefM, S1EqLaw17, S1PLaw17, S1EqLaw21, S1PLaw21, NorL, BndL, ExaZ. -/
import Derived.Test.YtjbokjpbiobjpaaGreatTJ
import Derived.Test.YtjbokjpbiobjpaaGreatTE
import Derived.Test.YtjbokjpbiobjpaaGreatTF
import Derived.Test.YtjbokjpbiobjpaaGreatTI
import Derived.Test.YtjbokjpbiobjpaaGreatTG
set_option linter.unusedVariables false
set_option linter.unusedSimpArgs false
noncomputable section
open Int (toNat)
open List (length getD)
open Go.Proofs.Tryz
namespace Go.Proofs.S1
open Go Go.Den Go.C4 Go.Proofs
open EqSol EqFew
theorem Acz {n i:Nat} (h:i<n):(List.range n).drop i=i::(List.range n).drop (i+1):=by
 rw [List.drop_eq_getElem_cons (by rw [Awa]; exact h),List.getElem_range]
theorem Mh {r c:Int} {l:List Int} (h:Bt r c l=0):Bj r c l=true∧Fg l=true:=by
 unfold Bt at h
 by_cases h1:Bj r c l=true
 ·rw [Avu h1] at h
  by_cases h2:Fg l=true
  ·exact ⟨h1,h2⟩
  ·rw [Avt h2] at h; exact absurd h (by decide)
 ·rw [Avt h1] at h; exact absurd h (by decide)
theorem Zq {r c:Int} {l:List Int} (h1:Bj r c l=true) (h2:Fg l=true):Bt r c l=0:=by unfold Bt; rw [Avu h1,Avu h2]
theorem neI {x:Int} (h:x≠0):(x !=(0:Int))=true:=by simpa using h
theorem Kk {x:Int} (h:x=0):(x !=(0:Int))=false:=by rw [h]; rfl
theorem Ad0 (N:Nat) {n:Nat} {l:List Int} (n6:n≤6) (hl:l.length=n*n) (al:Ap l=true):∀ (cnt i F:Nat),i+cnt=n→cnt<F →
 solve.check.L0 (N+4) F (n:Int) (n:Int) l (i:Int)=some (.int .i64 (if ((List.range n).drop i).any (fun i:Nat=>decide (Bd (Cv (n:Int) l (i:Int) (i:Int))=0))=true then 5 else 0)):=by
 intro cnt
 induction cnt with
 | zero =>
   intro i F hi hF
   obtain ⟨F,rfl⟩:∃ G,F=G+1:=⟨F-1,by omega⟩
   rw [solve.check.Ax,Av,Avc (by omega),Avb,Avl (by rw [Awa]; omega)]; rfl
 | succ cnt ih =>
   intro i F hi hF
   obtain ⟨F,rfl⟩:∃ G,F=G+1:=⟨F-1,by omega⟩
   obtain ⟨e1,g1,g2⟩:=Fx (R:=(n:Int)) (D7 n6 n6 hl (show i<n by omega) (show i<n by omega))
   have hx:getD l (toNat ((i:Int)*(n:Int)+(i:Int))) 0=Cv (n:Int) l (i:Int) (i:Int):=rfl
   rw [solve.check.Ax,Av,Au8 (show (i:Int)<(n:Int) by omega),Au7,e1,Au8 g1,Au8 g2,Avd,Au7,hx,K3 al,Au7,Acz (by omega),List.any_cons]
   by_cases hk:Bd (Cv (n:Int) l (i:Int) (i:Int))=0
   ·have e:(Bd (Cv (n:Int) l (i:Int) (i:Int))==(0:Int))=true:=by rw [hk]; rfl
    rw [e,Au7,Au8 hk]; rfl
   ·have e:(Bd (Cv (n:Int) l (i:Int) (i:Int))==(0:Int))=false:=by simpa using hk
    rw [e,Avb,Avc hk,Bool.false_or,Al (by omega) (by omega)]
    exact ih (i+1) F (by omega) (by omega)
theorem Asx {r c p:Int}:((r !=c)||(r !=p))=decide (r≠c∨r≠p):=by
 rw [Avn]; simp
theorem solve.check.known:solve.check.Kn:=solve.check.Ae (.cons Cg.Check.known (.cons soft.Kind.known .nil)) fun r c l p q m hp=>by
 obtain ⟨al,am⟩:=Ag.1 (show (Ap l&&Ap m)=true from hp)
 refine ⟨14,solve.check.out [.i r,.i c,.l l,.i p,.i q,.l m],[],?_,.int⟩
 show _=some (DV.int .i64 (Om r c l p q m))
 rw [show (14:Nat)=10+4 from rfl,solve.check.ev,al,Au7,am,Au7,Asx]
 unfold Om
 by_cases h1:Bt r c l=0
 ·rw [Kk h1,Avb,Avt (by rw [h1]; decide)]
  by_cases h2:Bt p q m=0
  ·rw [Kk h2,Avb,Avt (by rw [h2]; decide)]
   by_cases h3:r≠c∨r≠p
   ·rw [Au8 h3,Au7,Avu h3]
   ·rw [Avc h3,Avb,Avt h3]
    obtain rfl:r=c:=Decidable.byContradiction fun h=>h3 (.inl h)
    obtain ⟨R,C,rfl,hC,r6,c6,hl⟩:=Dc (Mh h1).1
    obtain rfl:R=C:=by omega
    rw [Au9]
    exact Ad0 10 r6 hl al R 0 14 (by omega) (by omega)
  ·rw [neI h2,Au7,Avu h2]
 ·rw [neI h1,Au7,Avu h1]
theorem X5 {r c:Int} {l:List Int} {p q:Int} {m:List Int} (h:Om r c l p q m=0):Bj r c l=true∧Bj p q m=true∧r=c∧r=p:=by
 unfold Om at h
 by_cases h1:Bt r c l=0
 ·rw [Avt (by rw [h1]; decide)] at h
  by_cases h2:Bt p q m=0
  ·rw [Avt (by rw [h2]; decide)] at h
   by_cases h3:r≠c∨r≠p
   ·rw [Avu h3] at h; exact absurd h (by decide)
   ·exact ⟨(Mh h1).1,(Mh h2).1,Decidable.byContradiction fun h=>h3 (.inl h),Decidable.byContradiction fun h=>h3 (.inr h)⟩
  ·rw [Avu h2] at h; exact absurd h h2
 ·rw [Avu h1] at h; exact absurd h h1
theorem solve.Fo.known:solve.Fo.Kn:=solve.Fo.Ae (.cons solve.check.known (.cons solve.Au.Up.known .nil)) fun r c l p q m hp=>by
 have hp:(Ap l&&Ap m)=true:=hp
 show ∃ N dv drops,_=some dv∧Wk drops dv (Sj (Wj r c l p q m))
 unfold Wj
 by_cases h:Om r c l p q m=0
 ·obtain ⟨h1,h2,h3,h4⟩:=X5 h
  have ht:Nw r c l p q m=true:=Ag.2 ⟨Ag.2 ⟨h1,h2⟩,Ag.2 ⟨hp,Ao.2 ⟨h3,h4⟩⟩⟩
  rw [Avt (by rw [h]; decide)]
  exact ⟨0,_,[],by rw [solve.Fo.ev,hp,Au7,Kk h,Avb,ht,Au8 rfl]; rfl,Nt⟩
 ·rw [Avu h]
  exact ⟨0,_,[],by rw [solve.Fo.ev,hp,Au7,neI h,Au7]; rfl,I8⟩
theorem Ai0 {b:Nat} {n:Int} (h:b<2^64):(Hk b n).1<2^64:=by
 unfold Hk
 by_cases h4:As b=4
 ·rw [Avu h4]; exact (by decide:Wi<2^64)
 rw [Avt h4]
 by_cases h3:As b=3∨As b=0
 ·rw [Avu h3]; exact h
 rw [Avt h3]
 exact Nz _ _ _
theorem Ja {b n:Int} (h:Ah b=true):Ah (Ck b n)=true:=by
 obtain ⟨x,rfl,hx⟩:=B0 h
 exact B2 (Ai0 (by rw [Au9]; exact hx))
theorem Wd:∀ (l:List Int) (m:Nat),m<2^64→Zt l m<2^64
 | [],m,h=>h
 | x::l,m,h=>by
   unfold Zt
   split
   ·exact (by decide:Wi<2^64)
   ·have h2:Ah0 x.toNat<2^63:=Yf x.toNat
    exact Wd l _ (by omega)
theorem Qn (l:List Int):Ah (Bq l)=true:=B2 (Wd l 0 (by decide))
theorem Aj0 (x:Int):Ah (Aa7 x)=true:=B2 (Nat.lt_trans (Yf x.toNat) (by decide))
theorem Ahd (N:Nat) {d:List Int} (hd:Dq d=true) (h7:d.length≤1000):∀ (cnt i F:Nat),i+cnt=d.length→cnt<F →
 solve.Flat.L1 N F d (i:Int)=some (.tup [.bool ((d.drop i).any fun x=>!(decide (Ac4 (Ck (Bq d) (-40)) x<0))),.int .i64 0]):=by
 obtain ⟨_,hu⟩:=J6 hd
 intro cnt
 induction cnt with
 | zero =>
   intro i F hi hF
   obtain ⟨F,rfl⟩:∃ G,F=G+1:=⟨F-1,by omega⟩
   rw [solve.Flat.Cc,Av,Avc (by omega),Avb,Avl (by omega)]; rfl
 | succ cnt ih =>
   intro i F hi hF
   obtain ⟨F,rfl⟩:∃ G,F=G+1:=⟨F-1,by omega⟩
   rw [solve.Flat.Cc,Av,Au8 (show (i:Int)<(d.length:Int) by omega),Au7,Au8 (show (0:Int)≤(i:Int) by omega),Avd,Au7,Au9,Au8 (show i<d.length by omega),Au7,
    Ja (Qn d),hu i (by omega),Avd,Au7,Hv (by omega),List.any_cons]
   cases decide (Ac4 (Ck (Bq d) (-40)) (d.getD i 0)<0) with
   | false=>rfl
   | true =>
     rw [Av6,Avb,Bool.false_or,Al (by omega) (by omega)]
     exact ih (i+1) F (by omega) (by omega)
theorem Aob (c:Int) (l:List Int) (n:Nat):Ap (Tp c l n)=true:=Ao.2 fun x hx=>by
 obtain ⟨j,_,rfl⟩:=List.mem_map.1 hx
 exact Aj0 _
theorem Lg (c:Int) (l:List Int) (n:Nat):(Tp c l n).length=n:=by unfold Tp; rw [Awd,Awa]
theorem Ahe (N:Nat) {R C:Nat} {l:List Int} (r6:R≤6) (c6:C≤6) (hN:7<N) (hl:l.length=R*C) (al:Ap l=true):∀ (cnt i F:Nat),i+cnt=min R C→cnt<F →
 solve.Flat.L0 N F (R:Int) (C:Int) l (i:Int) (Tp (C:Int) l i)=some (.tup [.bool (Ao6 (Tp (C:Int) l (min R C))),.int .i64 0]):=by
 intro cnt
 induction cnt with
 | zero =>
   intro i F hi hF
   obtain ⟨F,rfl⟩:∃ G,F=G+1:=⟨F-1,by omega⟩
   obtain rfl:i=min R C:=by omega
   have hlt:(A6 (((min R C:Nat)):Int) (R:Int)&&A6 (((min R C:Nat)):Int) (C:Int))=false:=by
    rw [Av,Av,Bool.and_eq_false_iff,Avq,Avq]; omega
   have ok:=Kt (Aob (C:Int) l (min R C)) (by rw [Lg]; omega)
   have sp:Eu (Bq (Tp (C:Int) l (min R C))) (-40:Int)=true:=Ag.2 ⟨Qn _,Ao.2 (by omega)⟩
   rw [solve.Flat.Ax,hlt,Avb,ok,Au7,sp,Au7]
   exact Ahd N ok (by rw [Lg]; omega) (min R C) 0 N (by rw [Lg]; omega) (by omega)
 | succ cnt ih =>
   intro i F hi hF
   obtain ⟨F,rfl⟩:∃ G,F=G+1:=⟨F-1,by omega⟩
   obtain ⟨e1,g1,g2⟩:=Fx (R:=(R:Int)) (D7 r6 c6 hl (show i<R by omega) (show i<C by omega))
   have hx:getD l (toNat ((i:Int)*(C:Int)+(i:Int))) 0=Cv (C:Int) l (i:Int) (i:Int):=rfl
   rw [solve.Flat.Ax,Av,Av,Au8 (show (i:Int)<(R:Int) by omega),Au8 (show (i:Int)<(C:Int) by omega),Avd,Au7,e1,Au8 g1,Au8 g2,Avd,Au7,hx,K3 al,Au7,
    Lg,Au8 (show i+1≤Ga by unfold Ga; omega),Au7,Al (by omega) (by omega)]
   have:=ih (i+1) F (by omega) (by omega)
   unfold Tp at this ⊢
   rw [Jc] at this
   exact this
theorem solve.Flat.known:solve.Flat.Kn:=solve.Flat.Ae (.cons Cg.Check.known (.cons compare.Ry.known (.cons compare.I4.known (.cons Af.Ci.known (.cons Af.Bs.known .nil))))) fun r c l hp=>by
 have hp:Ap l=true:=hp
 refine ⟨8,solve.Flat.out [.i r,.i c,.l l],[],?_,Wk.G1 (.cons .bool (.cons .int .nil))⟩
 show _=some (DV.tup [.bool (Oj r c l).1,.int .i64 (Oj r c l).2])
 rw [solve.Flat.ev,hp,Au7]
 unfold Oj Akt
 by_cases h1:Bt r c l=0
 ·obtain ⟨R,C,rfl,rfl,r6,c6,hl⟩:=Dc (Mh h1).1
  rw [Kk h1,Avb,Avt (by rw [h1]; decide),Au9,Au9]
  exact Ahe 8 r6 c6 (by omega) hl hp (min R C) 0 8 (by omega) (by omega)
 ·rw [neI h1,Au7,Avu h1]
theorem Aey {r c:Int} {l:List Int} (al:Ap l=true) (x y a b:Int):Ap (Hd r c l x y a b).2.2.1=true:=by
 unfold Hd
 split
 ·split
  ·dsimp only
   exact Le fun i k=>K3 al
  ·exact Ao.2 fun x h=>by cases h
 ·exact Ao.2 fun x h=>by cases h
theorem Amh {r c:Int} {l:List Int} (al:Ap l=true):Ap (E6 r c l).2.2.1=true:=by
 unfold E6
 split
 ·dsimp only
  exact Le fun i k=>K3 al
 ·exact Ao.2 fun x h=>by cases h
theorem Zm (x y:List Int):Ah (Pl x y)=true:=B2 (Zl x y 0 (by decide))
theorem Ang (r c:Int) (l:List Int) (p q:Int) (m:List Int):Ap (Sn r c l p q m).2.2.1=true:=by
 unfold Sn
 split
 ·split
  ·dsimp only
   exact Le fun i k=>Zm _ _
  ·exact Ao.2 fun x h=>by cases h
 ·exact Ao.2 fun x h=>by cases h
theorem Afw (r c:Int) (l:List Int) (p q:Int) (m:List Int):Ap (De r c l p q m).2.2.1=true:=by
 unfold De
 split
 ·exact Ao.2 fun x h=>by cases h
 ·exact Ang _ _ _ _ _ _
theorem qr.Ec.known:qr.Ec.Kn:=qr.Ec.Ae (.cons Aa.Mul.known (.cons Aa.B7.known .nil)) fun r c l p q m hp=>by
 obtain ⟨al,am⟩:=Ag.1 (show (Ap l&&Ap m)=true from hp)
 show ∃ N dv drops,_=some dv∧Wk drops dv (Sj (De r c l p q m))
 unfold De
 by_cases h:(E6 r c l).2.2.2=0
 ·rw [Avt (by rw [h]; decide)]
  exact ⟨0,_,[],by rw [qr.Ec.ev,Kk h,Avb,Amh al,am]; rfl,Nt⟩
 ·rw [Avu h]
  exact ⟨0,_,[],by rw [qr.Ec.ev,neI h,Au7]; rfl,I8⟩
open Go Go.Den Go.C4 Go.Proofs
set_option maxRecDepth 100000
namespace EqQr
def qr.down.hint:Nat→Option A9
 | 0=>some { keep:=[1,2,5,6,7],objs:=[(0,6,100006,.recs 214 2 []),(6,2,106002,.ints 37 .u64 [])],boxes:=[1,2,5] }
 | 2=>some { keep:=[1,2,5,6,7,8,9,12],objs:=[(6,2,106002,.ints 37 .u64 []),(0,6,100006,.recs 214 2 [])],boxes:=[1,2,5] }
 | _=>none
def qr.down.Bf:List (Nat × Entry):=[(219,Ai.Apply.spec),(245,Ai.Hz.spec),(191,Aa.C2.spec)]
def qr.down.E:Env:=Bg (Be qr.down.Bf) (fun n=>Nat.beq n 46) qr.down.hint (fun _=>none)
section
variable (N M0 M:Nat) (r c:Int) (l:List Int) (p7:Int) (p6:List (List DV)) (p2_2:List Int) (p12_1:Int) (p2_1:List Int) (p7_1:Int) (p8:List Int) (p9:Int) (p6_1:List (List DV))
def qr.down.L0:Option DV:=Bx qr.down.E N f217 (An f217) [1,1,1,0,1,0,0,1,0,0,1,1,1,1,0,1,0] [M0] M ⟨Gm 88 [(1,.ptr 1 0 0),(2,.ptr 2 0 0),(5,.ptr 5 0 0),(6,.oref 100006),(7,.int .i64 p7_1),(8,.ints .fresh .u64 p8),(9,.int .u64 p9),(12,.int .i64 p12_1)],[(1,false,.box [.int .i64 r,.int .i64 c,.ints .arg .u64 l]),(2,false,.box [.int .i64 0,.int .i64 0,.nil]),(5,false,.box [.int .i64 r,.int .i64 c,.oref 106002]),(106002,false,.ints 37 .u64 p2_1),(100006,false,.recs 214 2 p6_1)]⟩
def qr.down.L1:Option DV:=Bx qr.down.E N f217 (An f217) [1,1,1,0,1,0] [] M ⟨Gm 88 [(1,.ptr 1 0 0),(2,.ptr 2 0 0),(5,.ptr 5 0 0),(6,.oref 100006),(7,.int .i64 p7)],[(1,false,.box [.int .i64 r,.int .i64 c,.ints .arg .u64 l]),(2,false,.box [.int .i64 0,.int .i64 0,.nil]),(5,false,.box [.int .i64 r,.int .i64 c,.oref 106002]),(100006,false,.recs 214 2 p6),(106002,false,.ints 37 .u64 p2_2)]⟩
def qr.down.L2:Option DV:=Bx qr.down.E N f217 (An f217) [1,1,1,0,1,0] [] M ⟨Gm 88 [(1,.ptr 1 0 0),(2,.ptr 2 0 0),(5,.ptr 5 0 0),(6,.oref 100006),(7,.int .i64 0)],[(1,false,.box [.int .i64 r,.int .i64 c,.ints .arg .u64 l]),(2,false,.box [.int .i64 0,.int .i64 0,.nil]),(5,false,.box [.int .i64 r,.int .i64 c,.ints .arg .u64 l]),(100006,false,.recs 214 2 [])]⟩
theorem qr.down.Ax:qr.down.L0 N M0 (M+1) r c l p12_1 p2_1 p7_1 p8 p9 p6_1=bif (A6 p12_1 r) then bif ((decide (0≤(Ab ((Ab (p12_1*c))+p7_1))))&&(decide ((Ab ((Ab (p12_1*c))+p7_1))<(length p2_1:Int)))) then bif (decide ((toNat (Ab ((Ab (p12_1*c))+p7_1)))<(length p2_1))) then qr.down.L0 N M0 M r c l (Ab (p12_1+1)) (List.set p2_1 (toNat (Ab ((Ab (p12_1*c))+p7_1))) 0) p7_1 p8 p9 p6_1 else none else none else bif (decide ((length p6_1)+1≤Akd)) then qr.down.L1 N M0 r c l (Ab (p7_1+1)) (p6_1++[[.ints .arg .u64 p8,.int .u64 p9]]) p2_1 else none:=by kernel_rfl
theorem qr.down.Cc:qr.down.L1 N (M+1) r c l p7 p6 p2_2=bif ((A6 p7 c)&&(A6 p7 (Ab (r-1)))) then bif (Gk r c p2_2 p7&&Cf (0≤p7∧p7≤r)) then bif (Dq (Cb c p2_2 p7 p7 (toNat (r-p7)))) then bif (((Ch (Cb c p2_2 p7 p7 (toNat (r-p7)))).2.2.2) !=(0:Int)) then some (.tup [.agg [.int .i64 0,.int .i64 0,.nil],.nil,.int .i64 2]) else bif (((Bj r c p2_2&&Ls r c p7 p7 ((Ch (Cb c p2_2 p7 p7 (toNat (r-p7)))).1))&&(Ap p2_2&&Ap ((Ch (Cb c p2_2 p7 p7 (toNat (r-p7)))).1)))&&Ah ((Ch (Cb c p2_2 p7 p7 (toNat (r-p7)))).2.1)) then bif ((decide (0≤(Ab ((Ab (p7*c))+p7))))&&(decide ((Ab ((Ab (p7*c))+p7))<(length (F4 (toNat r) (toNat c) p2_2 p7 p7 ((Ch (Cb c p2_2 p7 p7 (toNat (r-p7)))).1) ((Ch (Cb c p2_2 p7 p7 (toNat (r-p7)))).2.1)):Int)))) then bif (decide ((toNat (Ab ((Ab (p7*c))+p7)))<(length (F4 (toNat r) (toNat c) p2_2 p7 p7 ((Ch (Cb c p2_2 p7 p7 (toNat (r-p7)))).1) ((Ch (Cb c p2_2 p7 p7 (toNat (r-p7)))).2.1))))) then qr.down.L0 N M N r c l (Ab (p7+1)) (List.set (F4 (toNat r) (toNat c) p2_2 p7 p7 ((Ch (Cb c p2_2 p7 p7 (toNat (r-p7)))).1) ((Ch (Cb c p2_2 p7 p7 (toNat (r-p7)))).2.1)) (toNat (Ab ((Ab (p7*c))+p7))) ((Ch (Cb c p2_2 p7 p7 (toNat (r-p7)))).2.2.1)) p7 ((Ch (Cb c p2_2 p7 p7 (toNat (r-p7)))).1) ((Ch (Cb c p2_2 p7 p7 (toNat (r-p7)))).2.1) p6 else none else none else none else none else none else some (.tup [.agg [.int .i64 r,.int .i64 c,.ints (.own 106002 37) .u64 p2_2],.recs (.own 100006 214) 2 p6,.int .i64 0]) :=
 Eq.trans (by kernel_rfl)
 (Ay (Nv (A6 p7 c)) (Ay (Nv (A6 p7 c)) (Ay (Kf (A6 p7 c)) (Ay (Kf (A6 p7 c)) (Ay (Af0 (A6 p7 c)) (Ay (S9 (A6 p7 c)) (Cy (tt1 (A6 p7 c) (A6 p7 (Ab (r-1)))) rfl rfl)))))))
theorem qr.down.E1:qr.down.L2 N (M+1) r c l=bif ((A6 0 c)&&(A6 0 (Ab (r-1)))) then bif (Gk r c l 0&&Cf (0≤(0:Int)∧(0:Int)≤r)) then bif (Dq (Cb c l 0 0 (toNat (r-0)))) then bif (((Ch (Cb c l 0 0 (toNat (r-0)))).2.2.2) !=(0:Int)) then some (.tup [.agg [.int .i64 0,.int .i64 0,.nil],.nil,.int .i64 2]) else bif (((Bj r c l&&Ls r c 0 0 ((Ch (Cb c l 0 0 (toNat (r-0)))).1))&&(Ap l&&Ap ((Ch (Cb c l 0 0 (toNat (r-0)))).1)))&&Ah ((Ch (Cb c l 0 0 (toNat (r-0)))).2.1)) then bif ((decide (0≤(Ab ((Ab ((0:Int)*c))+0))))&&(decide ((Ab ((Ab ((0:Int)*c))+0))<(length (F4 (toNat r) (toNat c) l 0 0 ((Ch (Cb c l 0 0 (toNat (r-0)))).1) ((Ch (Cb c l 0 0 (toNat (r-0)))).2.1)):Int)))) then bif (decide ((toNat (Ab ((Ab ((0:Int)*c))+0)))<(length (F4 (toNat r) (toNat c) l 0 0 ((Ch (Cb c l 0 0 (toNat (r-0)))).1) ((Ch (Cb c l 0 0 (toNat (r-0)))).2.1))))) then qr.down.L0 N M N r c l 1 (List.set (F4 (toNat r) (toNat c) l 0 0 ((Ch (Cb c l 0 0 (toNat (r-0)))).1) ((Ch (Cb c l 0 0 (toNat (r-0)))).2.1)) (toNat (Ab ((Ab ((0:Int)*c))+0))) ((Ch (Cb c l 0 0 (toNat (r-0)))).2.2.1)) 0 ((Ch (Cb c l 0 0 (toNat (r-0)))).1) ((Ch (Cb c l 0 0 (toNat (r-0)))).2.1) [] else none else none else none else none else none else some (.tup [.agg [.int .i64 r,.int .i64 c,.ints .arg .u64 l],.recs (.own 100006 214) 2 [],.int .i64 0]) :=
 Eq.trans (by kernel_rfl)
 (Ay (Nv (A6 0 c)) (Ay (Nv (A6 0 c)) (Ay (Kf (A6 0 c)) (Ay (Kf (A6 0 c)) (Ay (Af0 (A6 0 c)) (Ay (S9 (A6 0 c)) (Cy (tt1 (A6 0 c) (A6 0 (Ab (r-1)))) rfl rfl)))))))
theorem qr.down.ev:By qr.down.E N f217 (An f217) [.agg [.int .i64 r,.int .i64 c,.ints .arg .u64 l]] =
 qr.down.L2 N N r c l:=by kernel_rfl
end
abbrev _root_.Go.Proofs.S1.qr.down.Kn:=A7 prog 217 qr.down.spec
theorem qr.down.Ae (hk:A1 prog qr.down.Bf) (h:Hyp qr.down.E f217 qr.down.ts qr.down.pre qr.down.out):qr.down.Kn :=
 Am (A3 hk _ _ _) func217 (by kernel_rfl) (by kernel_rfl) h
def qr.C3.hint:Nat→Option A9
 | 0=>some { keep:=[2,3,5,6],objs:=[],boxes:=[2,3] }
 | _=>none
def qr.C3.Bf:List (Nat × Entry):=[(86,Cg.Check.spec),(219,Ai.Apply.spec),(218,Aa.D8.spec),(217,qr.down.spec),(150,Af.Finite.spec)]
def qr.C3.E:Env:=Ads (Be qr.C3.Bf) (fun _=>false) qr.C3.hint (fun _=>none) (Ao9 [(22,[.s .u64]),(37,[.i .u64])])
section
variable (N M:Nat) (r c:Int) (l:List Int) (p6:Int) (p2:List Int)
def qr.C3.L0:Option DV:=Bx qr.C3.E N f166 (An f166) [1,0,1,1,1,1,1,1,0,0] [] M ⟨Gm 81 [(2,.ptr 2 0 0),(3,.ptr 3 0 0),(5,.recs .fresh 2 (Iy r c ([]++l))),(6,.int .i64 p6)],[(2,false,.box [.int .i64 ((K1 r).1),.int .i64 ((K1 r).2.1),.ints .fresh .u64 p2]),(3,false,.box [.int .i64 ((E5 r c ([]++l)).1),.int .i64 ((E5 r c ([]++l)).2.1),.ints .arg .u64 ((E5 r c ([]++l)).2.2.1)])]⟩
theorem qr.C3.Ax:qr.C3.L0 N (M+1) r c l p6 p2=bif (A6 p6 0) then bif (Dq p2) then bif ((!(Fg p2))||(Dq ((E5 r c ([]++l)).2.2.1))) then bif ((!(Fg p2))||(!(Fg ((E5 r c ([]++l)).2.2.1)))) then some (.tup [.agg [.int .i64 0,.int .i64 0,.nil],.agg [.int .i64 0,.int .i64 0,.nil],.int .i64 2]) else some (.tup [.agg [.int .i64 ((K1 r).1),.int .i64 ((K1 r).2.1),.ints .fresh .u64 p2],.agg [.int .i64 ((E5 r c ([]++l)).1),.int .i64 ((E5 r c ([]++l)).2.1),.ints .arg .u64 ((E5 r c ([]++l)).2.2.1)],.int .i64 0]) else none else none else bif ((decide (0≤p6))&&(decide (p6<(length (Iy r c ([]++l)):Int)))) then bif (isC (.s .u64) (getD (getD (Iy r c ([]++l)) (toNat p6) []) 0 .undef)) then bif ((decide (0≤p6))&&(decide (p6<(length (Iy r c ([]++l)):Int)))) then bif (isC (.i .u64) (getD (getD (Iy r c ([]++l)) (toNat p6) []) 1 .undef)) then bif (((Bj ((K1 r).1) ((K1 r).2.1) p2&&Ls ((K1 r).1) ((K1 r).2.1) p6 0 (Qg (getD (getD (Iy r c ([]++l)) (toNat p6) []) 0 .undef)))&&(Ap p2&&Ap (Qg (getD (getD (Iy r c ([]++l)) (toNat p6) []) 0 .undef))))&&Ah (Afh (getD (getD (Iy r c ([]++l)) (toNat p6) []) 1 .undef))) then qr.C3.L0 N M r c l (Ab (p6-1)) (F4 (toNat ((K1 r).1)) (toNat ((K1 r).2.1)) p2 p6 0 (Qg (getD (getD (Iy r c ([]++l)) (toNat p6) []) 0 .undef)) (Afh (getD (getD (Iy r c ([]++l)) (toNat p6) []) 1 .undef))) else none else none else none else none else none :=
 Eq.trans (by kernel_rfl)
 (Fq (Fq (Ay (Afy (Fg p2)) (Ay (Uo (Fg p2)) (Cy (Apx (Fg p2) (Dq ((E5 r c ([]++l)).2.2.1))) (Ay (Uo (Fg p2)) (Ay (Afz (Fg p2)) (Cy (Apy (Fg p2) (Fg ((E5 r c ([]++l)).2.2.1))) rfl rfl))) rfl))) rfl) (Cy (J1 (decide (0≤p6)) (decide (p6<(length (Iy r c ([]++l)):Int)))) (Cy (Cr (isC (.s .u64) (getD (getD (Iy r c ([]++l)) (toNat p6) []) 0 .undef))) (Cy (J1 (decide (0≤p6)) (decide (p6<(length (Iy r c ([]++l)):Int)))) (Cy (Cr (isC (.i .u64) (getD (getD (Iy r c ([]++l)) (toNat p6) []) 1 .undef))) (Cy (Cr (((Bj ((K1 r).1) ((K1 r).2.1) p2&&Ls ((K1 r).1) ((K1 r).2.1) p6 0 (Qg (getD (getD (Iy r c ([]++l)) (toNat p6) []) 0 .undef)))&&(Ap p2&&Ap (Qg (getD (getD (Iy r c ([]++l)) (toNat p6) []) 0 .undef))))&&Ah (Afh (getD (getD (Iy r c ([]++l)) (toNat p6) []) 1 .undef)))) rfl rfl) rfl) rfl) rfl) rfl))
theorem qr.C3.ev:By qr.C3.E N f166 (An f166) [.agg [.int .i64 r,.int .i64 c,.ints .arg .u64 l]]=bif (Ap l) then bif ((Bt r c l) !=(0:Int)) then some (.tup [.agg [.int .i64 0,.int .i64 0,.nil],.agg [.int .i64 0,.int .i64 0,.nil],.int .i64 (Bt r c l)]) else bif (decide (0+(length l)≤Ga)) then bif ((Bj r c ([]++l)&&Fg ([]++l))&&Ap ([]++l)) then bif (((E5 r c ([]++l)).2.2.2) !=(0:Int)) then some (.tup [.agg [.int .i64 0,.int .i64 0,.nil],.agg [.int .i64 0,.int .i64 0,.nil],.int .i64 ((E5 r c ([]++l)).2.2.2)]) else qr.C3.L0 N N r c l (Ab ((length (Iy r c ([]++l)):Int)-1)) ((K1 r).2.2.1) else none else none else none :=
 Eq.trans (by kernel_rfl)
 (Fq (Fq rfl (Cy (Cr (decide (0+(length l)≤Ga))) (Cy (Cr ((Bj r c ([]++l)&&Fg ([]++l))&&Ap ([]++l))) rfl rfl) rfl)) rfl)
end
abbrev _root_.Go.Proofs.S1.qr.C3.Kn:=A7 prog 166 qr.C3.spec
theorem qr.C3.Ae (hk:A1 prog qr.C3.Bf) (h:Hyp qr.C3.E f166 qr.C3.ts qr.C3.pre qr.C3.out):qr.C3.Kn :=
 Am (An8 hk _ _ _ _) func166 (by kernel_rfl) (by kernel_rfl) h
def qr.I3.Bf:List (Nat × Entry):=[(124,Aa.Part.spec),(166,qr.C3.spec)]
def qr.I3.E:Env:=Bg (Be qr.I3.Bf) (fun _=>false) (fun _=>none) (fun _=>none)
theorem qr.I3.ev (N:Nat) (r c:Int) (l:List Int):By qr.I3.E N f97 (An f97) [.agg [.int .i64 r,.int .i64 c,.ints .arg .u64 l]]=bif (Ap l) then bif ((F3 r c l) !=(0:Int)) then some (.tup [.agg [.int .i64 0,.int .i64 0,.nil],.agg [.int .i64 0,.int .i64 0,.nil],.int .i64 (F3 r c l)]) else some (.tup [.agg [.int .i64 ((Hd ((qX r c l).1) ((qX r c l).2.1) ((qX r c l).2.2.1) 0 0 r (min r c)).1),.int .i64 ((Hd ((qX r c l).1) ((qX r c l).2.1) ((qX r c l).2.2.1) 0 0 r (min r c)).2.1),.ints .fresh .u64 ((Hd ((qX r c l).1) ((qX r c l).2.1) ((qX r c l).2.2.1) 0 0 r (min r c)).2.2.1)],.agg [.int .i64 ((Hd ((rX r c l).1) ((rX r c l).2.1) ((rX r c l).2.2.1) 0 0 (min r c) c).1),.int .i64 ((Hd ((rX r c l).1) ((rX r c l).2.1) ((rX r c l).2.2.1) 0 0 (min r c) c).2.1),.ints .fresh .u64 ((Hd ((rX r c l).1) ((rX r c l).2.1) ((rX r c l).2.2.1) 0 0 (min r c) c).2.2.1)],.int .i64 0]) else none:=by kernel_rfl
abbrev _root_.Go.Proofs.S1.qr.I3.Kn:=A7 prog 97 qr.I3.spec
theorem qr.I3.Ae (hk:A1 prog qr.I3.Bf) (h:Hyp qr.I3.E f97 qr.I3.ts qr.I3.pre qr.I3.out):qr.I3.Kn :=
 Am (A3 hk _ _ _) func97 (by kernel_rfl) (by kernel_rfl) h
def solve.Fv.hint:Nat→Option A9
 | 0=>some { keep:=[2,3,4,17,18],objs:=[],boxes:=[2,3,4] }
 | _=>none
def solve.Fv.Bf:List (Nat × Entry):=[(86,Cg.Check.spec),(97,qr.I3.spec),(98,qr.Ec.spec),(24,solve.Flat.spec),(36,solve.Fo.spec)]
def solve.Fv.E:Env:=Bg (Be solve.Fv.Bf) (fun _=>false) solve.Fv.hint (fun _=>none)
theorem solve.Fv.ev (N:Nat) (r c:Int) (l:List Int) (p q:Int) (m:List Int):By solve.Fv.E (N+4) f30 (An f30) [.agg [.int .i64 r,.int .i64 c,.ints .arg .u64 l],.agg [.int .i64 p,.int .i64 q,.ints .arg .u64 m]]=bif (Ap l) then bif ((Bt r c l) !=(0:Int)) then some (.tup [.agg [.int .i64 0,.int .i64 0,.nil],.int .i64 (Bt r c l)]) else bif (Ap m) then bif ((Bt p q m) !=(0:Int)) then some (.tup [.agg [.int .i64 0,.int .i64 0,.nil],.int .i64 (Bt p q m)]) else bif ((A6 r c)||(r !=p)) then some (.tup [.agg [.int .i64 0,.int .i64 0,.nil],.int .i64 3]) else bif (Ap l) then bif ((F3 r c l) !=(0:Int)) then some (.tup [.agg [.int .i64 0,.int .i64 0,.nil],.int .i64 (F3 r c l)]) else bif (Ap ((Lw r c l).2.2.1)) then bif ((Oj ((Lw r c l).1) ((Lw r c l).2.1) ((Lw r c l).2.2.1)).1) then some (.tup [.agg [.int .i64 0,.int .i64 0,.nil],.int .i64 5]) else bif (Ap ((Hg r c l).2.2.1)&&Ap m) then bif (((De ((Hg r c l).1) ((Hg r c l).2.1) ((Hg r c l).2.2.1) p q m).2.2.2) !=(0:Int)) then some (.tup [.agg [.int .i64 0,.int .i64 0,.nil],.int .i64 ((De ((Hg r c l).1) ((Hg r c l).2.1) ((Hg r c l).2.2.1) p q m).2.2.2)]) else bif (Ap ((Lw r c l).2.2.1)&&Ap ((De ((Hg r c l).1) ((Hg r c l).2.1) ((Hg r c l).2.2.1) p q m).2.2.1)) then some (.tup [.agg [.int .i64 ((Wj ((Lw r c l).1) ((Lw r c l).2.1) ((Lw r c l).2.2.1) ((De ((Hg r c l).1) ((Hg r c l).2.1) ((Hg r c l).2.2.1) p q m).1) ((De ((Hg r c l).1) ((Hg r c l).2.1) ((Hg r c l).2.2.1) p q m).2.1) ((De ((Hg r c l).1) ((Hg r c l).2.1) ((Hg r c l).2.2.1) p q m).2.2.1)).1),.int .i64 ((Wj ((Lw r c l).1) ((Lw r c l).2.1) ((Lw r c l).2.2.1) ((De ((Hg r c l).1) ((Hg r c l).2.1) ((Hg r c l).2.2.1) p q m).1) ((De ((Hg r c l).1) ((Hg r c l).2.1) ((Hg r c l).2.2.1) p q m).2.1) ((De ((Hg r c l).1) ((Hg r c l).2.1) ((Hg r c l).2.2.1) p q m).2.2.1)).2.1),.ints .fresh .u64 ((Wj ((Lw r c l).1) ((Lw r c l).2.1) ((Lw r c l).2.2.1) ((De ((Hg r c l).1) ((Hg r c l).2.1) ((Hg r c l).2.2.1) p q m).1) ((De ((Hg r c l).1) ((Hg r c l).2.1) ((Hg r c l).2.2.1) p q m).2.1) ((De ((Hg r c l).1) ((Hg r c l).2.1) ((Hg r c l).2.2.1) p q m).2.2.1)).2.2.1)],.int .i64 ((Wj ((Lw r c l).1) ((Lw r c l).2.1) ((Lw r c l).2.2.1) ((De ((Hg r c l).1) ((Hg r c l).2.1) ((Hg r c l).2.2.1) p q m).1) ((De ((Hg r c l).1) ((Hg r c l).2.1) ((Hg r c l).2.2.1) p q m).2.1) ((De ((Hg r c l).1) ((Hg r c l).2.1) ((Hg r c l).2.2.1) p q m).2.2.1)).2.2.2)]) else none else none else none else none else none else none :=
 Eq.trans (by kernel_rfl)
 (Fq (Fq rfl (Fq (Fq rfl (Ay (Wl (A6 r c)) (Ay (Un (A6 r c)) (Ay (Wl (A6 r c)) (Ay (Un (A6 r c)) (Ay (tt8 (A6 r c)) (Ay (tt6 (A6 r c)) (Cy (tt5 (A6 r c) (r !=p)) rfl rfl)))))))) rfl)) rfl)
abbrev _root_.Go.Proofs.S1.solve.Fv.Kn:=A7 prog 30 solve.Fv.spec
theorem solve.Fv.Ae (hk:A1 prog solve.Fv.Bf) (h:Hyp solve.Fv.E f30 solve.Fv.ts solve.Fv.pre solve.Fv.out):solve.Fv.Kn :=
 Am (A3 hk _ _ _) func30 (by kernel_rfl) (by kernel_rfl) h
end EqQr
open Go Go.Den Go.C4 Go.Proofs
open EqQr
def clS (R C:Nat) (l:List Int) (j:Nat) (x:Int) (i:Nat):List Int:=Cj R C fun a b=>if b=j∧j≤a∧a<i then (if a=j then x else 0) else Cv (C:Int) l (a:Int) (b:Int)
section
variable {R C j:Nat} {l:List Int} {x:Int}
theorem Aof (i:Nat):(clS R C l j x i).length=R*C:=B6 _ _ _
theorem X3 (hl:l.length=R*C) (hj:j<C):List.set l (j*C+j) x=clS R C l j x (j+1):=by
 unfold clS
 conv=>lhs; rw [← Xu hl]
 rw [Ro hj]
 refine C8 fun a b ha hb=>?_
 by_cases h:a=j∧b=j
 ·rw [Avu h,Avu (by omega),Avu h.1]
 ·rw [Avt h,Avt (by omega)]
theorem Aoe {i:Nat} (hj:j<C) (hi:j<i):List.set (clS R C l j x i) (i*C+j) 0=clS R C l j x (i+1):=by
 unfold clS
 rw [Ro hj]
 refine C8 fun a b ha hb=>?_
 by_cases h:a=i∧b=j
 ·rw [Avu h,Avu (by omega),Avt (by omega)]
 ·rw [Avt h]
  by_cases h2:b=j∧j≤a∧a<i
  ·rw [Avu h2,Avu (show b=j∧j≤a∧a<i+1 by omega)]
  ·rw [Avt h2,Avt (by omega)]
theorem Aog:clS R C l j x R=Sz R C l j x:=by
 unfold clS Sz
 refine C8 fun a b ha hb=>?_
 by_cases h:b=j∧j≤a
 ·rw [Avu h,Avu (by omega)]
 ·rw [Avt h,Avt (by omega)]
end
theorem Vb {C i j:Nat} (hi:i≤6) (hC:C≤6) (hj:j≤6):Ab (Ab ((i:Int)*(C:Int))+(j:Int))=((i*C+j:Nat):Int):=by
 have h36:=Av3 hi hC
 rw [Al (x:=(i:Int)*(C:Int)) (by rw [← Avs]; omega) (by rw [← Avs]; omega),← Avs,Al (by omega) (by omega)]
 omega
section
variable {R C:Nat}
theorem V4 (N M0:Nat) (l0:List Int) (r6:R≤6) (c6:C≤6) {j:Nat} (hj:j<C) (l:List Int) (x:Int) (v:List Int) (t:Int) (ms:List (List DV)) (hms:ms.length≤100):∀ (cnt i F:Nat),i+cnt=R→j<i→cnt<F →
 qr.down.L0 N M0 F (R:Int) (C:Int) l0 (i:Int) (clS R C l j x i) (j:Int) v t ms=qr.down.L1 N M0 (R:Int) (C:Int) l0 ((j+1:Nat):Int) (ms++[[.ints .arg .u64 v,.int .u64 t]]) (Sz R C l j x):=by
 intro cnt
 induction cnt with
 | zero =>
   intro i F hi hji hF
   obtain ⟨F,rfl⟩:∃ G,F=G+1:=⟨F-1,by omega⟩
   obtain rfl:i=R:=by omega
   rw [qr.down.Ax,Av,Avc (by omega),Avb,Au8 (by unfold Akd; omega),Au7,Al (by omega) (by omega),Aog]
   rfl
 | succ cnt ih =>
   intro i F hi hji hF
   obtain ⟨F,rfl⟩:∃ G,F=G+1:=⟨F-1,by omega⟩
   have hlen:=Aof (R:=R) (C:=C) (l:=l) (j:=j) (x:=x) i
   have hp:=Gq (show i<R by omega) hj
   rw [qr.down.Ax,Av,Au8 (by omega),Au7,Vb (by omega) c6 (by omega),Au8 (by omega),Au8 (by omega),Avd,Au7,Au9,Au8 (by omega),Au7,Aoe hj hji,Al (by omega) (by omega)]
   exact ih (i+1) F (by omega) (by omega) (by omega)
def P0 (r c:Nat) (ms:List (List DV)):Option (List Int × List (List Int × Int))→DV
 | none=>.tup [.agg [.int .i64 0,.int .i64 0,.nil],.nil,.int .i64 2]
 | some x=>.tup [.agg [.int .i64 (r:Int),.int .i64 (c:Int),.ints (.own 106002 tB) .u64 x.1],.recs (.own 100006 tMR) 2 (ms++Vd x.2),.int .i64 0]
theorem Ahj (N:Nat) (hN:7<N) (l0:List Int) (r6:R≤6) (c6:C≤6):∀ (cnt j F:Nat) (l:List Int) (ms:List (List DV)),j+cnt=Is R C→cnt<F→l.length=R*C→Ap l=true→ms.length=j →
 qr.down.L1 N F (R:Int) (C:Int) l0 (j:Int) ms l=some (P0 R C ms (Np R C cnt j l)):=by
 intro cnt
 induction cnt with
 | zero =>
   intro j F l ms hj hF hl al hms
   obtain ⟨F,rfl⟩:∃ G,F=G+1:=⟨F-1,by omega⟩
   unfold Is at hj
   have hlt:(A6 (j:Int) (C:Int)&&A6 (j:Int) (Ab ((R:Int)-1)))=false:=by
    rw [Av,Av,Al (by omega) (by omega),Bool.and_eq_false_iff,Avq,Avq]; omega
   rw [qr.down.Cc,hlt,Avb]
   simp [Np,P0,Vd]
 | succ cnt ih =>
   intro j F l ms hj hF hl al hms
   obtain ⟨F,rfl⟩:∃ G,F=G+1:=⟨F-1,by omega⟩
   have hj0:=hj
   unfold Is at hj
   have hr:=E8 r6 c6 hl
   have hlt:(A6 (j:Int) (C:Int)&&A6 (j:Int) (Ab ((R:Int)-1)))=true:=by
    rw [Av,Av,Al (by omega) (by omega),Au8 (by omega),Au8 (by omega)]; rfl
   have cp:Gk (R:Int) (C:Int) l (j:Int)=true:=Ag.2 ⟨hr,Ao.2 (by omega)⟩
   have ec:Cb (C:Int) l (j:Int) (j:Int) (toNat ((R:Int)-(j:Int)))=Gc R C l j:=by unfold Gc; rw [show toNat ((R:Int)-(j:Int))=R-j by omega]
   have ca:Ap (Gc R C l j)=true:=R9 al
   have cl:(Gc R C l j).length=R-j:=Hj _ _ _ _ _
   rw [qr.down.Cc,hlt,Au7,cp,Ao.2 (show 0≤(j:Int)∧(j:Int)≤(R:Int) by omega),Avd,Au7,ec,Kt ca (by omega),Au7]
   unfold Np
   by_cases he:(Ch (Gc R C l j)).2.2.2=0
   ·have hml:=Vg he
    have hma:=Ua ca
    have hap:Ls (R:Int) (C:Int) (j:Int) (j:Int) (Ch (Gc R C l j)).1=true:=Au8 (by omega)
    have hp:=Gq (show j<R by omega) (show j<C by omega)
    have hlen:=Lr R C l (j:Int) (j:Int) (Ch (Gc R C l j)).1 (Ch (Gc R C l j)).2.1
    have hg:=V4 N F l0 r6 c6 (show j<C by omega) (F4 R C l (j:Int) (j:Int) (Ch (Gc R C l j)).1 (Ch (Gc R C l j)).2.1) (Ch (Gc R C l j)).2.2.1 (Ch (Gc R C l j)).1 (Ch (Gc R C l j)).2.1 ms (by omega) (R-(j+1)) (j+1) N (by omega) (by omega) (by omega)
    have hn:=ih (j+1) F (Wp R C l j) (ms++[[.ints .arg .u64 (Ch (Gc R C l j)).1,.int .u64 (Ch (Gc R C l j)).2.1]]) (by omega) (by omega) (N7 _ _ _ _) (Y5 al j) (by rw [Avz,hms]; rfl)
    rw [Kk he,Avb,hr,hap,al,hma.1,hma.2.1,Avd,Avd,Avd,Au7,Vb (by omega) c6 (by omega),Au9,Au9,Au9,Au8 (by omega),Au8 (by omega),Avd,Au7,Au8 (by omega),Au7,
     X3 hlen (by omega),Al (by omega) (by omega),Avu he]
    refine (hg.trans hn).trans ?_
    show some (P0 R C _ (Np R C cnt (j+1) (Wp R C l j)))=some (P0 R C ms _)
    cases Np R C cnt (j+1) (Wp R C l j) with
    | none=>rfl
    | some x=>simp [P0,Vd]
   ·rw [neI he,Au7,Avt he]; rfl
theorem Adv (N:Nat) (hN:7<N) {l:List Int} (r6:R≤6) (c6:C≤6) (hl:l.length=R*C) (al:Ap l=true) (h0:Is R C≠0) :
 qr.down.L2 N N (R:Int) (C:Int) l=some (P0 R C [] (Ir R C l)):=by
 obtain ⟨cnt,hc⟩:∃ cnt,Is R C=cnt+1:=⟨Is R C-1,by omega⟩
 obtain ⟨F,rfl⟩:∃ G,N=G+1:=⟨N-1,by omega⟩
 have hj:=hc
 unfold Is at hj
 have hr:=E8 r6 c6 hl
 have hlt:(A6 (0:Int) (C:Int)&&A6 (0:Int) (Ab ((R:Int)-1)))=true:=by
  rw [Av,Av,Al (by omega) (by omega),Au8 (by omega),Au8 (by omega)]; rfl
 have cp:Gk (R:Int) (C:Int) l (0:Int)=true:=Ag.2 ⟨hr,Ao.2 (by omega)⟩
 have ec:Cb (C:Int) l (0:Int) (0:Int) (toNat ((R:Int)-(0:Int)))=Gc R C l 0:=by unfold Gc; rw [show toNat ((R:Int)-(0:Int))=R-0 by omega]; rfl
 have ca:Ap (Gc R C l 0)=true:=R9 al
 have cl:(Gc R C l 0).length=R-0:=Hj _ _ _ _ _
 unfold Ir
 rw [hc,qr.down.E1,hlt,Au7,cp,Ao.2 (show 0≤(0:Int)∧(0:Int)≤(R:Int) by omega),Avd,Au7,ec,Kt ca (by omega),Au7]
 unfold Np
 by_cases he:(Ch (Gc R C l 0)).2.2.2=0
 ·have hml:=Vg he
  have hma:=Ua ca
  have hap:Ls (R:Int) (C:Int) (0:Int) (0:Int) (Ch (Gc R C l 0)).1=true:=Au8 (by omega)
  have hp:=Gq (show 0<R by omega) (show 0<C by omega)
  have hlen:=Lr R C l (0:Int) (0:Int) (Ch (Gc R C l 0)).1 (Ch (Gc R C l 0)).2.1
  have hg:=V4 (F+1) F l r6 c6 (show 0<C by omega) (F4 R C l (0:Int) (0:Int) (Ch (Gc R C l 0)).1 (Ch (Gc R C l 0)).2.1) (Ch (Gc R C l 0)).2.2.1 (Ch (Gc R C l 0)).1 (Ch (Gc R C l 0)).2.1 [] (Nat.zero_le _) (R-1) 1 (F+1) (by omega) (by omega) (by omega)
  have hn:=Ahj (R:=R) (C:=C) (F+1) hN l r6 c6 cnt 1 F (Wp R C l 0) [[.ints .arg .u64 (Ch (Gc R C l 0)).1,.int .u64 (Ch (Gc R C l 0)).2.1]] (by omega) (by unfold Is at hc; omega) (N7 _ _ _ _) (Y5 al 0) rfl
  have mc:=Vb (i:=0) (C:=C) (j:=0) (by omega) c6 (by omega)
  have mc:Ab (Ab ((0:Int)*(C:Int))+(0:Int))=((0*C+0:Nat):Int):=mc
  rw [Kk he,Avb,hr,hap,al,hma.1,hma.2.1,Avd,Avd,Avd,Au7,mc,Au9,Au9,Au9,Au8 (by omega),Au8 (by omega),Avd,Au7,Au8 (by omega),Au7,
   X3 hlen (by omega),Avu he]
  refine (hg.trans hn).trans ?_
  show some (P0 R C _ (Np R C cnt 1 (Wp R C l 0)))=some (P0 R C [] _)
  cases Np R C cnt (0+1) (Wp R C l 0) with
  | none=>rfl
  | some x=>simp [P0,Vd]
 ·rw [neI he,Au7,Avt he]; rfl
end
theorem qr.down.known:qr.down.Kn:=qr.down.Ae (.cons Ai.Apply.known (.cons Ai.Hz.known (.cons Aa.C2.known .nil))) fun r c l hp=>by
 obtain ⟨h1,al⟩:=Ag.1 (show ((Bj r c l&&Fg l)&&Ap l)=true from hp)
 obtain ⟨hr,hf⟩:=Ag.1 h1
 obtain ⟨R,C,rfl,rfl,r6,c6,hl⟩:=Dc hr
 by_cases h0:Is R C=0
 ·have hx:Ir R C l=some (l,[]):=by unfold Ir; rw [h0]; rfl
  refine ⟨8,.tup [.agg [.int .i64 (R:Int),.int .i64 (C:Int),.ints .arg .u64 l],.recs (.own 100006 tMR) 2 [],.int .i64 0],[100006],?_,?_⟩
  ·unfold Is at h0
   have hlt:(A6 (0:Int) (C:Int)&&A6 (0:Int) (Ab ((R:Int)-1)))=false:=by
    rw [Av,Av,Al (by omega) (by omega),Bool.and_eq_false_iff,Avq,Avq]; omega
   rw [qr.down.ev,show (8:Nat)=7+1 from rfl,qr.down.E1,hlt,Avb]
  ·show Wk _ _ (DV.tup [.agg [.int .i64 (E5 (R:Int) (C:Int) l).1,.int .i64 (E5 (R:Int) (C:Int) l).2.1,.ints .arg .u64 (E5 (R:Int) (C:Int) l).2.2.1],.recs .fresh 2 (Iy (R:Int) (C:Int) l),.int .i64 (E5 (R:Int) (C:Int) l).2.2.2])
   unfold E5 Iy M7
   rw [Au9,Au9,hx]
   exact Wk.G1 (.cons (Wk.G0 (.cons .int (.cons .int (.cons .Ww .nil)))) (.cons (.dropR _ _ _ _ (List.mem_singleton.2 rfl)) (.cons .int .nil)))
 ·refine ⟨8,P0 R C [] (Ir R C l),[106002,100006],?_,?_⟩
  ·rw [qr.down.ev]
   exact Adv 8 (by omega) r6 c6 hl al h0
  ·show Wk _ _ (DV.tup [.agg [.int .i64 (E5 (R:Int) (C:Int) l).1,.int .i64 (E5 (R:Int) (C:Int) l).2.1,.ints .arg .u64 (E5 (R:Int) (C:Int) l).2.2.1],.recs .fresh 2 (Iy (R:Int) (C:Int) l),.int .i64 (E5 (R:Int) (C:Int) l).2.2.2])
   unfold E5 Iy M7
   rw [Au9,Au9]
   cases Ir R C l with
   | none=>exact Wk.G1 (.cons (Wk.G0 (.cons .int (.cons .int (.cons Oy .nil)))) (.cons (.nilR _ _) (.cons .int .nil)))
   | some x=>exact Wk.G1 (.cons (Wk.G0 (.cons .int (.cons .int (.cons (.dropA _ _ _ _ Awm) .nil)))) (.cons (.dropR _ _ _ _ (Awc _ Awm)) (.cons .int .nil)))
open Go Go.Den Go.C4 Go.Proofs
open EqQr
def Xk (e:Int):DV:=.tup [.agg [.int .i64 0,.int .i64 0,.nil],.agg [.int .i64 0,.int .i64 0,.nil],.int .i64 e]
theorem Xl {r:Nat}:∀ {j:Nat} {ms:List (List Int × Int)},Aa2 r j ms→∀ i:Nat,i<ms.length→Ap (ms.getD i ([],0)).1=true∧Ah (ms.getD i ([],0)).2=true∧(ms.getD i ([],0)).1.length+(j+i)=r
 | _,[],_,i,h=>absurd h (Nat.not_lt_zero _)
 | j,m::ms,hm,0,_=>hm.1
 | j,m::ms,hm,i+1,h=>by
   have:=Xl hm.2 i (by simpa using h)
   rw [show j+(i+1)=j+1+i by omega]
   exact this
theorem Ajx {ms:List (List Int × Int)} {i:Nat} (h:i<ms.length):getD (Vd ms) i []=[.ints .arg .u64 (ms.getD i ([],0)).1,.int .u64 (ms.getD i ([],0)).2]:=by
 unfold Vd
 rw [Avh,Awo,Avo h,Avh,Avo h]; rfl
theorem Aa1 (ms:List (List Int × Int)):(Vd ms).length=ms.length:=by unfold Vd; rw [Awd]
theorem Aht {n i:Nat} {ms:List (List Int × Int)} (h:i<ms.length) (q:List Int):J0 n i (ms.drop i) q=F4 n n (J0 n (i+1) (ms.drop (i+1)) q) (i:Int) 0 (ms.getD i ([],0)).1 (ms.getD i ([],0)).2:=by
 rw [List.drop_eq_getElem_cons h,J0,Avh,Avo h]; rfl
theorem Adr {R:Nat} (h:R≤6):K1 (R:Int)=((R:Int),(R:Int),Jv R,0):=by
 unfold K1 Jv
 rw [Avu (O0 h),Au9]
theorem Ap1 {n:Nat} (h:n≤6):n*n≤36:=Av3 h h
theorem Abp (N:Nat) {R C:Nat} {l:List Int} (r6:R≤6) {x:List Int × List (List Int × Int)} (hx:Ir R C l=some x) (hm:Aa2 R 0 x.2) (hxr:Ap x.1=true) (hxl:x.1.length≤36):∀ (j F:Nat),j≤x.2.length→j<F →
 qr.C3.L0 N F (R:Int) (C:Int) l ((j:Int)-1) (J0 R j (x.2.drop j) (Jv R)) =
 bif Pz R C l then some (.tup [.agg [.int .i64 (R:Int),.int .i64 (R:Int),.ints .fresh .u64 (Qe R C l)],.agg [.int .i64 (R:Int),.int .i64 (C:Int),.ints .arg .u64 (M7 R C l)],.int .i64 0])
 else some (Xk 2):=by
 have hq:Qe R C l=J0 R 0 x.2 (Jv R):=by unfold Qe; rw [hx]
 have hr:M7 R C l=x.1:=by unfold M7; rw [hx]
 have hd:E5 (R:Int) (C:Int) ([]++l)=((R:Int),(C:Int),x.1,0):=by
  unfold E5
  rw [List.nil_append,Au9,Au9,hx,hr]; rfl
 have hmd:Iy (R:Int) (C:Int) ([]++l)=Vd x.2:=by
  unfold Iy
  rw [List.nil_append,Au9,Au9,hx]
 have h36:=Ap1 r6
 intro j
 induction j with
 | zero =>
   intro F _ hF
   obtain ⟨F,rfl⟩:∃ G,F=G+1:=⟨F-1,by omega⟩
   have hb:=Ug R x.2 0 (Jv R) (Zi R) (by unfold Jv; exact B6 _ _ _)
   have ok1:Dq (J0 R 0 x.2 (Jv R))=true:=Kt hb.1 (by omega)
   have ok2:Dq x.1=true:=Kt hxr (by omega)
   have hfo:Pz R C l=(Fg (J0 R 0 x.2 (Jv R))&&Fg x.1):=by unfold Pz; rw [hx,hq,hr]; rfl
   rw [qr.C3.Ax,Av,Au8 (by omega),Au7,List.drop_zero,ok1,Au7,hd,Adr r6,ok2,Awj,Au7,hfo,hq,hr]
   cases Fg (J0 R 0 x.2 (Jv R)) with
   | false=>rfl
   | true=>cases Fg x.1<;>rfl
 | succ j ih =>
   intro F hj hF
   obtain ⟨F,rfl⟩:∃ G,F=G+1:=⟨F-1,by omega⟩
   have ej:(((j+1:Nat):Int))-1=(j:Int):=by omega
   have hg:=Xl hm j (by omega)
   have hb:=Ug R (x.2.drop (j+1)) (j+1) (Jv R) (Zi R) (by unfold Jv; exact B6 _ _ _)
   have hr1:=E8 r6 r6 hb.2
   have hap:Ls (R:Int) (R:Int) (j:Int) 0 (x.2.getD j ([],0)).1=true:=Au8 (by omega)
   have hmg:=Ajx (ms:=x.2) (i:=j) (by omega)
   rw [qr.C3.Ax,ej,Av,Avc (show ¬ (j:Int)<0 by omega),Avb,hmd,Aa1,Au8 (show (0:Int)≤(j:Int) by omega),Au8 (show (j:Int)<(x.2.length:Int) by omega),Avd,Au7,Au9,hmg,Adr r6]
   show (bif true then bif true then bif true then (bif (((Bj (R:Int) (R:Int) (J0 R (j+1) (x.2.drop (j+1)) (Jv R))&&Ls (R:Int) (R:Int) (j:Int) (0:Int) (x.2.getD j ([],0)).1)&&(Ap (J0 R (j+1) (x.2.drop (j+1)) (Jv R))&&Ap (x.2.getD j ([],0)).1))&&Ah (x.2.getD j ([],0)).2) then
    qr.C3.L0 N F (R:Int) (C:Int) l (Ab ((j:Int)-(1:Int))) (F4 (toNat (R:Int)) (toNat (R:Int)) (J0 R (j+1) (x.2.drop (j+1)) (Jv R)) (j:Int) (0:Int) (x.2.getD j ([],0)).1 (x.2.getD j ([],0)).2) else none) else none else none else none)=_
   rw [Au7,Au7,Au7,hr1,hap,hb.1,hg.1,hg.2.1,Avd,Avd,Avd,Au7,Au9,Al (by omega) (by omega),← Aht (by omega)]
   exact ih F (by omega) (by omega)
theorem Ala {R C:Nat} {l:List Int} (hl:l.length=R*C) (al:Ap l=true) {x:List Int × List (List Int × Int)} (hx:Ir R C l=some x):Ap x.1=true∧x.1.length=R*C∧x.2.length=Is R C∧Aa2 R 0 x.2 :=
 V5 R C (Is R C) 0 l x al hl (by unfold Is; omega) hx
theorem Ue {r c:Int} {l:List Int} (h:Bt r c l=0):F3 r c l=if Pz r.toNat c.toNat l=true then 0 else 2:=by
 unfold F3; rw [Avt (by rw [h]; decide)]
theorem Abr {r c:Int} {l:List Int} (h:Bt r c l≠0):F3 r c l=Bt r c l:=by unfold F3; rw [Avu h]
theorem Ac0 {r c:Int} {l:List Int} {e:Int} (h:F3 r c l=e) (he:e≠0):qX r c l=Nm e∧rX r c l=Nm e:=by unfold qX rX; rw [h,Avu he,Avu he]; exact ⟨rfl,rfl⟩
theorem Aeu {r c:Int} {l:List Int} (h:F3 r c l=0):qX r c l=(r,r,Qe r.toNat c.toNat l,0)∧rX r c l=(r,c,M7 r.toNat c.toNat l,0):=by unfold qX rX; rw [h]; exact ⟨rfl,rfl⟩
theorem Yh {drops:List Nat} {e:Int} {g h:Ab9}:Wk drops (Xk e) (DV.tup [.agg [.int .i64 (Nm e).1,.int .i64 (Nm e).2.1,.ints g .u64 (Nm e).2.2.1],.agg [.int .i64 (Nm e).1,.int .i64 (Nm e).2.1,.ints h .u64 (Nm e).2.2.1],.int .i64 e]) :=
 Wk.G1 (.cons (Wk.G0 (.cons .int (.cons .int (.cons Oy .nil)))) (.cons (Wk.G0 (.cons .int (.cons .int (.cons Oy .nil)))) (.cons .int .nil)))
theorem qr.C3.known:qr.C3.Kn:=qr.C3.Ae (.cons Cg.Check.known (.cons Ai.Apply.known (.cons Aa.D8.known (.cons qr.down.known (.cons Af.Finite.known .nil))))) fun r c l hp=>by
 have al:Ap l=true:=hp
 show ∃ N dv drops,_=some dv∧Wk drops dv (DV.tup [.agg [.int .i64 (qX r c l).1,.int .i64 (qX r c l).2.1,.ints .arg .u64 (qX r c l).2.2.1],.agg [.int .i64 (rX r c l).1,.int .i64 (rX r c l).2.1,.ints .arg .u64 (rX r c l).2.2.1],.int .i64 (F3 r c l)])
 by_cases h1:Bt r c l=0
 ·obtain ⟨hr,hf⟩:=Mh h1
  have h36:=O4 hr
  obtain ⟨R,C,rfl,rfl,r6,c6,hl⟩:=Dc hr
  have d0:decide (0+l.length≤Ga)=true:=Au8 (by unfold Ga; omega)
  cases hx:Ir R C l with
  | none =>
    have hfo:Pz R C l=false:=by unfold Pz; rw [hx]; rfl
    have he:F3 (R:Int) (C:Int) l=2:=by rw [Ue h1,Au9,Au9,hfo]; rfl
    obtain ⟨e1,e2⟩:=Ac0 he (by decide)
    have hd:E5 (R:Int) (C:Int) ([]++l)=Nm 2:=by
     unfold E5
     rw [List.nil_append,Au9,Au9,hx]; rfl
    rw [e1,e2,he]
    exact ⟨0,Xk 2,[],by rw [qr.C3.ev,al,Au7,Kk h1,Avb,d0,Au7,hd,List.nil_append,hr,hf,al,Avd,Avd,Au7,show ((Nm 2).2.2.2 !=(0:Int))=true from rfl,Au7]; rfl,Yh⟩
  | some x =>
    obtain ⟨x1,x2,x3,x4⟩:=Ala hl al hx
    have hd:E5 (R:Int) (C:Int) ([]++l)=((R:Int),(C:Int),x.1,0):=by
     unfold E5 M7
     rw [List.nil_append,Au9,Au9,hx]; rfl
    have hmd:Iy (R:Int) (C:Int) ([]++l)=Vd x.2:=by
     unfold Iy
     rw [List.nil_append,Au9,Au9,hx]
    have hn:x.2.length≤6:=by rw [x3]; unfold Is; omega
    have hloop:=Abp 8 r6 hx x4 x1 (by rw [x2]; exact Av3 r6 c6) x.2.length 8 (Av1 _) (by omega)
    rw [Avl (Av1 _)] at hloop
    have hrun:=qr.C3.ev 8 (R:Int) (C:Int) l
    rw [al,Au7,Kk h1,Avb,d0,Au7,hd,hmd,Aa1,List.nil_append,hr,hf,al,Avd,Avd,Au7,show (((R:Int),(C:Int),x.1,(0:Int)).2.2.2 !=(0:Int))=false from rfl,Avb,Adr r6,Al (by omega) (by omega)] at hrun
    have hrun:=hrun.trans hloop
    cases hfo:Pz R C l with
    | false =>
      have he:F3 (R:Int) (C:Int) l=2:=by rw [Ue h1,Au9,Au9,hfo]; rfl
      obtain ⟨e1,e2⟩:=Ac0 he (by decide)
      rw [hfo,Avb] at hrun
      rw [e1,e2,he]
      exact ⟨8,Xk 2,[],hrun,Yh⟩
    | true =>
      have he:F3 (R:Int) (C:Int) l=0:=by rw [Ue h1,Au9,Au9,hfo]; rfl
      obtain ⟨e1,e2⟩:=Aeu he
      rw [hfo,Au7] at hrun
      rw [e1,e2,he,Au9,Au9]
      exact ⟨8,_,[],hrun,Wk.G1 (.cons (Wk.G0 (.cons .int (.cons .int (.cons (.fresh _ _) .nil)))) (.cons (Wk.G0 (.cons .int (.cons .int (.cons .Ww .nil)))) (.cons .int .nil)))⟩
 ·have he:=Abr h1
  obtain ⟨e1,e2⟩:=Ac0 he h1
  rw [e1,e2,he]
  exact ⟨0,Xk (Bt r c l),[],by rw [qr.C3.ev,al,Au7,neI h1,Au7]; rfl,Yh⟩
theorem Adz {r c:Int} {l:List Int} (h:F3 r c l=0):Bt r c l=0:=by
 by_cases h1:Bt r c l=0
 ·exact h1
 ·rw [Abr h1] at h; exact absurd h h1
theorem Abq {r c:Int} {l:List Int} (al:Ap l=true) (h:F3 r c l=0):∃ R C:Nat,r=R∧c=C∧R≤6∧C≤6∧l.length=R*C∧Ap (Qe R C l)=true∧(Qe R C l).length=R*R∧Ap (M7 R C l)=true∧(M7 R C l).length=R*C∧Fg (Qe R C l)=true∧Fg (M7 R C l)=true:=by
 have h1:=Adz h
 rw [Ue h1] at h
 obtain ⟨R,C,rfl,rfl,r6,c6,hl⟩:=Dc (Mh h1).1
 rw [Au9,Au9] at h
 by_cases ho:Pz R C l=true
 ·unfold Pz at ho
  obtain ⟨o1,o2⟩:=Ag.1 ho
  obtain ⟨o3,o4⟩:=Ag.1 o2
  obtain ⟨q1,q2⟩:=An5 o1
  obtain ⟨g1,g2⟩:=An4 al hl o1
  exact ⟨R,C,rfl,rfl,r6,c6,hl,q1,q2,g1,g2,o3,o4⟩
 ·rw [Avt ho] at h; exact absurd h (by decide)
theorem Aex {R C:Nat} {l:List Int} (r6:R≤6) (c6:C≤6) (hl:l.length=R*C) {x y a b:Int} (hp:Nl (R:Int) (C:Int) x y a b=true) :
 Hd (R:Int) (C:Int) l x y a b=(a,b,Cj a.toNat b.toNat fun i k=>Cv (C:Int) l (x+(i:Int)) (y+(k:Int)),0):=by
 unfold Hd; rw [Avu (E8 r6 c6 hl),Avu hp]
theorem W4 {r c:Int} {l:List Int} (al:Ap l=true) (h:F3 r c l=0) :
 Hd r r (Qe r.toNat c.toNat l) 0 0 r (min r c)=Hg r c l∧Hd r c (M7 r.toNat c.toNat l) 0 0 (min r c) c=Lw r c l:=by
 obtain ⟨R,C,rfl,rfl,r6,c6,hl,q1,q2,g1,g2,_,_⟩:=Abq al h
 unfold Hg Lw
 rw [h,Avt (by decide),Avt (by decide),Au9,Au9]
 have p1:Nl (R:Int) (R:Int) 0 0 (R:Int) (min (R:Int) (C:Int))=true:=Au8 (by omega)
 have p2:Nl (R:Int) (C:Int) 0 0 (min (R:Int) (C:Int)) (C:Int)=true:=Au8 (by omega)
 rw [Aex r6 r6 q2 p1,Aex r6 c6 g2 p2]
 exact ⟨rfl,rfl⟩
theorem Aqp {r c:Int} {l:List Int} (al:Ap l=true) (h:F3 r c l=0):Ap (Qe r.toNat c.toNat l)=true∧Ap (M7 r.toNat c.toNat l)=true:=by
 obtain ⟨R,C,rfl,rfl,_,_,_,q1,_,g1,_,_,_⟩:=Abq al h
 rw [Au9,Au9]
 exact ⟨q1,g1⟩
theorem Amr {r c:Int} {l:List Int} (al:Ap l=true) (h:F3 r c l=0):Ap (Hg r c l).2.2.1=true∧Ap (Lw r c l).2.2.1=true:=by
 obtain ⟨a,b⟩:=W4 al h
 obtain ⟨q1,g1⟩:=Aqp al h
 rw [← a,← b]
 exact ⟨Aey q1 _ _ _ _,Aey g1 _ _ _ _⟩
theorem qr.I3.known:qr.I3.Kn:=qr.I3.Ae (.cons Aa.Part.known (.cons qr.C3.known .nil)) fun r c l hp=>by
 have al:Ap l=true:=hp
 show ∃ N dv drops,_=some dv∧Wk drops dv (DV.tup [.agg [.int .i64 (Hg r c l).1,.int .i64 (Hg r c l).2.1,.ints .fresh .u64 (Hg r c l).2.2.1],.agg [.int .i64 (Lw r c l).1,.int .i64 (Lw r c l).2.1,.ints .fresh .u64 (Lw r c l).2.2.1],.int .i64 (F3 r c l)])
 by_cases h:F3 r c l=0
 ·obtain ⟨e1,e2⟩:=Aeu h
  obtain ⟨t1,t2⟩:=W4 al h
  refine ⟨0,DV.tup [.agg [.int .i64 (Hg r c l).1,.int .i64 (Hg r c l).2.1,.ints .fresh .u64 (Hg r c l).2.2.1],.agg [.int .i64 (Lw r c l).1,.int .i64 (Lw r c l).2.1,.ints .fresh .u64 (Lw r c l).2.2.1],.int .i64 0],[],by rw [qr.I3.ev,al,Au7,Kk h,Avb,e1,e2,t1,t2],by rw [h]; exact Wk.G1 (.cons (Wk.G0 (.cons .int (.cons .int (.cons .Oh .nil)))) (.cons (Wk.G0 (.cons .int (.cons .int (.cons .Oh .nil)))) (.cons .int .nil)))⟩
 ·have e1:Hg r c l=Nm (F3 r c l):=by unfold Hg; rw [Avu h]
  have e2:Lw r c l=Nm (F3 r c l):=by unfold Lw; rw [Avu h]
  rw [e1,e2]
  exact ⟨0,Xk (F3 r c l),[],by rw [qr.I3.ev,al,Au7,neI h,Au7]; rfl,Yh⟩
theorem As3 {r c p:Int}:((A6 r c)||(r !=p))=decide (r<c∨r≠p):=by
 rw [Av,Avn]; simp
theorem solve.Fv.known:solve.Fv.Kn:=solve.Fv.Ae (.cons Cg.Check.known (.cons qr.I3.known (.cons qr.Ec.known (.cons solve.Flat.known (.cons solve.Fo.known .nil))))) fun r c l p q m hp=>by
 obtain ⟨al,am⟩:=Ag.1 (show (Ap l&&Ap m)=true from hp)
 show ∃ N dv drops,_=some dv∧Wk drops dv (Sj (Dx r c l p q m))
 have hrun:=solve.Fv.ev 0 r c l p q m
 rw [al,Au7] at hrun
 unfold Dx
 by_cases c1:Bt r c l=0
 ·rw [Kk c1,Avb,am,Au7] at hrun
  rw [Avt (by rw [c1]; decide)]
  by_cases c2:Bt p q m=0
  ·rw [Kk c2,Avb,As3] at hrun
   rw [Avt (by rw [c2]; decide)]
   by_cases c3:r<c∨r≠p
   ·rw [Au8 c3,Au7] at hrun
    rw [Avu c3]
    exact ⟨0+4,_,[],hrun,I8⟩
   ·rw [Avc c3,Avb,Au7] at hrun
    rw [Avt c3]
    by_cases c4:F3 r c l=0
    ·obtain ⟨i1,i2⟩:=Amr al c4
     rw [Kk c4,Avb,i2,Au7] at hrun
     rw [Avt (by rw [c4]; decide)]
     by_cases c5:(Oj (Lw r c l).1 (Lw r c l).2.1 (Lw r c l).2.2.1).1=true
     ·rw [c5,Au7] at hrun
      rw [Avu c5]
      exact ⟨0+4,_,[],hrun,I8⟩
     ·have c5':(Oj (Lw r c l).1 (Lw r c l).2.1 (Lw r c l).2.2.1).1=false:=by simpa using c5
      rw [c5',Avb,i1,Avd,Au7] at hrun
      rw [Avt c5]
      unfold Aq8
      by_cases c6:(De (Hg r c l).1 (Hg r c l).2.1 (Hg r c l).2.2.1 p q m).2.2.2=0
      ·rw [Kk c6,Avb,Afw,Avd,Au7] at hrun
       rw [Avt (by rw [c6]; decide)]
       exact ⟨0+4,_,[],hrun,Nt⟩
      ·rw [neI c6,Au7] at hrun
       rw [Avu c6]
       exact ⟨0+4,_,[],hrun,I8⟩
    ·rw [neI c4,Au7] at hrun
     rw [Avu c4]
     exact ⟨0+4,_,[],hrun,I8⟩
  ·rw [neI c2,Au7] at hrun
   rw [Avu c2]
   exact ⟨0+4,_,[],hrun,I8⟩
 ·rw [neI c1,Au7] at hrun
  rw [Avu c1]
  exact ⟨0+4,_,[],hrun,I8⟩
open Go Go.Den Go.C4 Go.Proofs
set_option maxRecDepth 100000
namespace EqRef17
def Cp.Finite.hint:Nat→Option A9
 | 0=>some { keep:=[0,3],objs:=[],boxes:=[] }
 | _=>none
def Cp.Finite.Bf:List (Nat × Entry):=[(131,A4.Finite.spec)]
def Cp.Finite.E:Env:=Bg (Be Cp.Finite.Bf) (fun _=>false) Cp.Finite.hint (fun _=>none)
section
variable (N M:Nat) (x:List Int) (p3:Int)
def Cp.Finite.L0:Option DV:=Bx Cp.Finite.E N f92 (An f92) [1,0,1,0] [] M ⟨Gm 16 [(0,.ints .arg .u64 x),(3,.int .i64 p3)],[]⟩
theorem Cp.Finite.Ax:Cp.Finite.L0 N (M+1) x p3=bif (A6 p3 (length x:Int)) then bif ((decide (0≤p3))&&(decide (p3<(length x:Int)))) then bif (Ah (getD x (toNat p3) 0)) then bif (!(Dd (getD x (toNat p3) 0))) then some (.bool false) else Cp.Finite.L0 N M x (Ab (p3+1)) else none else none else some (.bool true):=by kernel_rfl
theorem Cp.Finite.ev:By Cp.Finite.E N f92 (An f92) [.ints .arg .u64 x] =
 Cp.Finite.L0 N N x 0:=by kernel_rfl
end
abbrev _root_.Go.Proofs.S1.Cp.Finite.Kn:=A7 prog 92 Cp.Finite.spec
theorem Cp.Finite.Ae (hk:A1 prog Cp.Finite.Bf) (h:Hyp Cp.Finite.E f92 Cp.Finite.ts Cp.Finite.pre Cp.Finite.out):Cp.Finite.Kn :=
 Am (A3 hk _ _ _) func92 (by kernel_rfl) (by kernel_rfl) h
def Bb.Check.Bf:List (Nat × Entry):=[(92,Cp.Finite.spec),(91,Ak.F5.spec)]
def Bb.Check.E:Env:=Bg (Be Bb.Check.Bf) (fun _=>false) (fun _=>none) (fun _=>none)
theorem Bb.Check.ev (N:Nat) (r c:Int) (l:List Int):By Bb.Check.E N f25 (An f25) [.agg [.int .i64 r,.int .i64 c,.ints .arg .u64 l]]=bif (!(Bj r c l)) then some (.int .i64 1) else bif (Dq l) then bif (!(Fg l)) then some (.int .i64 4) else some (.int .i64 0) else none:=by kernel_rfl
abbrev _root_.Go.Proofs.S1.Bb.Check.Kn:=A7 prog 25 Bb.Check.spec
theorem Bb.Check.Ae (hk:A1 prog Bb.Check.Bf) (h:Hyp Bb.Check.E f25 Bb.Check.ts Bb.Check.pre Bb.Check.out):Bb.Check.Kn :=
 Am (A3 hk _ _ _) func25 (by kernel_rfl) (by kernel_rfl) h
end EqRef17
open Go Go.Den Go.C4 Go.Proofs
open EqRef17
theorem Tx (N:Nat) {x:List Int} (hx:Dq x=true):∀ (k i F:Nat),i+k=x.length→k<F→Cp.Finite.L0 N F x (i:Int)=some (.bool ((x.drop i).all Dd)):=by
 obtain ⟨hl,hu⟩:=J6 hx
 intro k
 induction k with
 | zero =>
   intro i F hi hF
   obtain ⟨F,rfl⟩:∃ G,F=G+1:=⟨F-1,by omega⟩
   rw [Cp.Finite.Ax,Av,Avc (by omega),Avb,Avl (by omega)]; rfl
 | succ k ih =>
   intro i F hi hF
   obtain ⟨F,rfl⟩:∃ G,F=G+1:=⟨F-1,by omega⟩
   rw [Cp.Finite.Ax,Av,Au8 (show (i:Int)<(x.length:Int) by omega),Au7,Au8 (show (0:Int)≤(i:Int) by omega),Avd,Au7,Au9,hu i (by omega),Au7,Hv (by omega),List.all_cons]
   cases Dd (x.getD i 0) with
   | false=>rfl
   | true =>
     rw [Av6,Avb,Al (by omega) (by omega),Awk]
     exact ih (i+1) F (by omega) (by omega)
theorem Cp.Finite.known:Cp.Finite.Kn:=Cp.Finite.Ae (.cons A4.Finite.known .nil) fun x hp=>by
 have hp:Dq x=true:=hp
 refine ⟨x.length+1,Cp.Finite.out [.l x],[],?_,.bool⟩
 show _=some (DV.bool (x.all Dd))
 rw [Cp.Finite.ev]
 exact Tx _ hp x.length 0 (x.length+1) (by omega) (by omega)
theorem Bb.Check.known:Bb.Check.Kn:=Bb.Check.Ae (.cons Cp.Finite.known (.cons Ak.F5.known .nil)) fun r c l hp=>by
 have hp:Ap l=true:=hp
 refine ⟨0,Bb.Check.out [.i r,.i c,.l l],[],?_,.int⟩
 show _=some (DV.int .i64 (Bt r c l))
 rw [Bb.Check.ev]
 unfold Bt
 by_cases h:Bj r c l=true
 ·have:=O4 h
  rw [h,Av6,Avb,Kt hp (by omega),Au7,Avu rfl]
  cases Fg l<;>rfl
 ·have h':Bj r c l=false:=by simpa using h
  rw [h']; rfl
section
variable {n Q:Nat} {l m:List Int}
end
open Go Go.Den Go.C4 Go.Proofs
set_option maxRecDepth 100000
namespace EqRef14
end EqRef14
open Go Go.Den Go.C4 Go.Proofs
open EqRef13 EqRef14
open Go Go.Den Go.C4 Go.Proofs
open EqRef13 EqRef14
section
variable {R C i k:Nat} {l v:List Int} {t:Int}
end
open Go Go.Den Go.C4 Go.Proofs
set_option maxRecDepth 100000
namespace EqLow
def Cn.Cm.down.Bf:List (Nat × Entry):=[]
def Cn.Cm.down.E:Env:=Bg (Be Cn.Cm.down.Bf) (fun _=>false) (fun _=>none) (fun _=>none)
theorem Cn.Cm.down.ev (N:Nat) (n k:Int):By Cn.Cm.down.E N f77 (An f77) [.int .i64 n,.int .i64 k]=some (.int .i64 k):=by kernel_rfl
abbrev _root_.Go.Proofs.S1.Cn.Cm.down.Kn:=A7 prog 77 Cn.Cm.down.spec
theorem Cn.Cm.down.Ae (hk:A1 prog Cn.Cm.down.Bf) (h:Hyp Cn.Cm.down.E f77 Cn.Cm.down.ts Cn.Cm.down.pre Cn.Cm.down.out):Cn.Cm.down.Kn :=
 Am (A3 hk _ _ _) func77 (by kernel_rfl) (by kernel_rfl) h
def solve.Dn.Bf:List (Nat × Entry):=[]
def solve.Dn.E:Env:=Bg (Be solve.Dn.Bf) (fun _=>false) (fun _=>none) (fun _=>none)
theorem solve.Dn.ev (N:Nat) (i k:Int):By solve.Dn.E N f78 (An f78) [.int .i64 i,.int .i64 k]=some (.bool (A6 k i)):=by kernel_rfl
abbrev _root_.Go.Proofs.S1.solve.Dn.Kn:=A7 prog 78 solve.Dn.spec
theorem solve.Dn.Ae (hk:A1 prog solve.Dn.Bf) (h:Hyp solve.Dn.E f78 solve.Dn.ts solve.Dn.pre solve.Dn.out):solve.Dn.Kn :=
 Am (A3 hk _ _ _) func78 (by kernel_rfl) (by kernel_rfl) h
def solve.Au.Lo.hint:Nat→Option A9
 | 0=>some { keep:=[2,3,4,5,8,10,11,28,29],objs:=[(12,2,112002,.ints 37 .u64 [])],boxes:=[4,5,8,11] }
 | 2=>some { keep:=[2,3,4,5,8,10,11,13,28,29,32,33],objs:=[(12,2,112002,.ints 37 .u64 [])],boxes:=[4,5,8,11] }
 | 4=>some { keep:=[2,3,4,5,8,10,11,13,15,16,28,29,32,33,49,50],objs:=[(12,2,112002,.ints 37 .u64 [])],boxes:=[4,5,8,11] }
 | _=>none
def solve.Au.Lo.Bf:List (Nat × Entry):=[(77,Cn.Cm.down.spec),(151,Aa.Bc.own.spec),(78,solve.Dn.spec),(158,Af.Div.spec),(150,Af.Finite.spec),(157,Af.Mul.spec),(156,Af.Sub.spec)]
def solve.Au.Lo.E:Env:=Bg (Be solve.Au.Lo.Bf) (fun n=>Nat.beq n 24) solve.Au.Lo.hint (fun _=>none)
section
variable (N M0 M1 M:Nat) (r c:Int) (l:List Int) (p q:Int) (m:List Int) (n p16 p50 p13_1 p15 p29_2 p33_1:Int) (p2_1:List Int) (p33:Int) (p2:List Int) (p13 p29_1 p29:Int) (p2_2:List Int)
def solve.Au.Lo.L0:Option DV:=Bx solve.Au.Lo.E N f76 (An f76) [1,1,1,0,1,0] [] M ⟨Gm 108 [(2,.fn 77 [.int .i64 n] []),(3,.fn 78 [] []),(4,.ptr 4 0 0),(5,.ptr 5 0 0),(8,.ptr 8 0 0),(10,.int .i64 r),(11,.ptr 11 0 0),(28,.int .i64 q),(29,.int .i64 p29)],[(4,false,.box [.int .i64 r,.int .i64 c,.ints .arg .u64 l]),(5,false,.box [.int .i64 p,.int .i64 q,.ints .arg .u64 m]),(8,false,.box [.int .i64 0,.int .i64 0,.nil]),(11,false,.box [.int .i64 r,.int .i64 q,.oref 112002]),(112002,false,.ints 37 .u64 p2_2)]⟩
def solve.Au.Lo.L1:Option DV:=Bx solve.Au.Lo.E N f76 (An f76) [1,1,1,0,1,0,0,1,1,0,0,1,0,1,1,0] [M0] M ⟨Gm 108 [(2,.fn 77 [.int .i64 n] []),(3,.fn 78 [] []),(4,.ptr 4 0 0),(5,.ptr 5 0 0),(8,.ptr 8 0 0),(10,.int .i64 r),(11,.ptr 11 0 0),(13,.int .i64 p13),(28,.int .i64 q),(29,.int .i64 p29_1),(32,.int .i64 r),(33,.int .i64 p33)],[(4,false,.box [.int .i64 r,.int .i64 c,.ints .arg .u64 l]),(5,false,.box [.int .i64 p,.int .i64 q,.ints .arg .u64 m]),(8,false,.box [.int .i64 0,.int .i64 0,.nil]),(11,false,.box [.int .i64 r,.int .i64 q,.oref 112002]),(112002,false,.ints 37 .u64 p2)]⟩
def solve.Au.Lo.L2:Option DV:=Bx solve.Au.Lo.E N f76 (An f76) [1,1,1,0,1,0,0,1,1,0,0,1,0,1,1,0,0,1,1,0,0,1,1,1,0,1,0] [M0,M1] M ⟨Gm 108 [(2,.fn 77 [.int .i64 n] []),(3,.fn 78 [] []),(4,.ptr 4 0 0),(5,.ptr 5 0 0),(8,.ptr 8 0 0),(10,.int .i64 r),(11,.ptr 11 0 0),(13,.int .i64 p13_1),(15,.int .i64 p15),(16,.int .u64 p16),(28,.int .i64 q),(29,.int .i64 p29_2),(32,.int .i64 r),(33,.int .i64 p33_1),(49,.int .i64 r),(50,.int .i64 p50)],[(4,false,.box [.int .i64 r,.int .i64 c,.ints .arg .u64 l]),(5,false,.box [.int .i64 p,.int .i64 q,.ints .arg .u64 m]),(8,false,.box [.int .i64 0,.int .i64 0,.nil]),(11,false,.box [.int .i64 r,.int .i64 q,.oref 112002]),(112002,false,.ints 37 .u64 p2_1)]⟩
theorem solve.Au.Lo.Ax:solve.Au.Lo.L0 N (M+1) r c l p q m n p29 p2_2=bif (A6 p29 q) then solve.Au.Lo.L1 N M N r c l p q m n 0 p2_2 p29 p29 else bif (Dq p2_2) then bif (!(Fg p2_2)) then some (.tup [.agg [.int .i64 0,.int .i64 0,.nil],.int .i64 2]) else some (.tup [.agg [.int .i64 r,.int .i64 q,.ints (.own 112002 37) .u64 p2_2],.int .i64 0]) else none:=by kernel_rfl
theorem solve.Au.Lo.Cc:solve.Au.Lo.L1 N M0 (M+1) r c l p q m n p33 p2 p13 p29_1=bif (A6 p33 r) then bif ((decide (0≤(Ab ((Ab (p33*q))+p13))))&&(decide ((Ab ((Ab (p33*q))+p13))<(length m:Int)))) then solve.Au.Lo.L2 N M0 M N r c l p q m n (getD m (toNat (Ab ((Ab (p33*q))+p13))) 0) 0 p13 p33 p29_1 p33 p2 else none else solve.Au.Lo.L0 N M0 r c l p q m n (Ab (p29_1+1)) p2:=by kernel_rfl
theorem solve.Au.Lo.E1:solve.Au.Lo.L2 N M0 M1 (M+1) r c l p q m n p16 p50 p13_1 p15 p29_2 p33_1 p2_1=bif (A6 p50 r) then bif (decide (p50<p15)) then bif ((decide (0≤(Ab ((Ab (p15*r))+p50))))&&(decide ((Ab ((Ab (p15*r))+p50))<(length l:Int)))) then bif ((decide (0≤(Ab ((Ab (p50*q))+p13_1))))&&(decide ((Ab ((Ab (p50*q))+p13_1))<(length p2_1:Int)))) then bif (decide ((toNat (Ab ((Ab (p50*q))+p13_1)))<(length p2_1))) then bif (Ah (getD l (toNat (Ab ((Ab (p15*r))+p50))) 0)&&Ah (getD p2_1 (toNat (Ab ((Ab (p50*q))+p13_1))) 0)) then bif (Ah p16&&Ah (Ej (getD l (toNat (Ab ((Ab (p15*r))+p50))) 0) (getD p2_1 (toNat (Ab ((Ab (p50*q))+p13_1))) 0))) then solve.Au.Lo.L2 N M0 M1 M r c l p q m n (El p16 (Ej (getD l (toNat (Ab ((Ab (p15*r))+p50))) 0) (getD p2_1 (toNat (Ab ((Ab (p50*q))+p13_1))) 0))) (Ab (p50+1)) p13_1 p15 p29_2 p33_1 p2_1 else none else none else none else none else none else solve.Au.Lo.L2 N M0 M1 M r c l p q m n p16 (Ab (p50+1)) p13_1 p15 p29_2 p33_1 p2_1 else bif ((decide (0≤(Ab ((Ab (p15*r))+p15))))&&(decide ((Ab ((Ab (p15*r))+p15))<(length l:Int)))) then bif (Ah p16&&Ah (getD l (toNat (Ab ((Ab (p15*r))+p15))) 0)) then bif ((decide (0≤(Ab ((Ab (p15*q))+p13_1))))&&(decide ((Ab ((Ab (p15*q))+p13_1))<(length p2_1:Int)))) then bif (decide ((toNat (Ab ((Ab (p15*q))+p13_1)))<(length p2_1))) then solve.Au.Lo.L1 N M0 M1 r c l p q m n (Ab (p33_1+1)) (List.set p2_1 (toNat (Ab ((Ab (p15*q))+p13_1))) (Ek p16 (getD l (toNat (Ab ((Ab (p15*r))+p15))) 0))) p13_1 p29_2 else none else none else none else none :=
 Eq.trans (by kernel_rfl)
 (Fq (Fq (Cy (J1 (decide (0≤(Ab ((Ab (p15*r))+p50)))) (decide ((Ab ((Ab (p15*r))+p50))<(length l:Int)))) (Cy (J1 (decide (0≤(Ab ((Ab (p50*q))+p13_1)))) (decide ((Ab ((Ab (p50*q))+p13_1))<(length p2_1:Int)))) (Cy (Cr (decide ((toNat (Ab ((Ab (p50*q))+p13_1)))<(length p2_1)))) (Cy (Cr (Ah (getD l (toNat (Ab ((Ab (p15*r))+p50))) 0)&&Ah (getD p2_1 (toNat (Ab ((Ab (p50*q))+p13_1))) 0))) (Cy (Cr (Ah p16&&Ah (Ej (getD l (toNat (Ab ((Ab (p15*r))+p50))) 0) (getD p2_1 (toNat (Ab ((Ab (p50*q))+p13_1))) 0)))) rfl rfl) rfl) rfl) rfl) rfl) rfl) (Cy (J1 (decide (0≤(Ab ((Ab (p15*r))+p15)))) (decide ((Ab ((Ab (p15*r))+p15))<(length l:Int)))) (Cy (Cr (Ah p16&&Ah (getD l (toNat (Ab ((Ab (p15*r))+p15))) 0))) (Cy (J1 (decide (0≤(Ab ((Ab (p15*q))+p13_1)))) (decide ((Ab ((Ab (p15*q))+p13_1))<(length p2_1:Int)))) (Cy (Cr (decide ((toNat (Ab ((Ab (p15*q))+p13_1)))<(length p2_1)))) rfl rfl) rfl) rfl) rfl))
theorem solve.Au.Lo.ev:By solve.Au.Lo.E N f76 (An f76) [.agg [.int .i64 r,.int .i64 c,.ints .arg .u64 l],.agg [.int .i64 p,.int .i64 q,.ints .arg .u64 m],.fn 77 [.int .i64 n] [],.fn 78 [] []]=bif (Bn r&&Bn q) then solve.Au.Lo.L0 N N r c l p q m n 0 (Cj (toNat r) (toNat q) (fun _ _=>0)) else none:=by kernel_rfl
end
abbrev _root_.Go.Proofs.S1.solve.Au.Lo.Kn:=A7 prog 76 solve.Au.Lo.spec
theorem solve.Au.Lo.Ae (hk:A1 prog solve.Au.Lo.Bf) (h:Hyp solve.Au.Lo.E f76 solve.Au.Lo.ts solve.Au.Lo.pre solve.Au.Lo.out):solve.Au.Lo.Kn :=
 Am (A3 hk _ _ _) func76 (by kernel_rfl) (by kernel_rfl) h
def solve.F8.Bf:List (Nat × Entry):=[(75,solve.check.spec),(76,solve.Au.Lo.spec)]
def solve.F8.E:Env:=Bg (Be solve.F8.Bf) (fun _=>false) (fun _=>none) (fun _=>none)
theorem solve.F8.ev (N:Nat) (r c:Int) (l:List Int) (p q:Int) (m:List Int):By solve.F8.E N f22 (An f22) [.agg [.int .i64 r,.int .i64 c,.ints .arg .u64 l],.agg [.int .i64 p,.int .i64 q,.ints .arg .u64 m]]=bif (Ap l&&Ap m) then bif ((Om r c l p q m) !=(0:Int)) then some (.tup [.agg [.int .i64 0,.int .i64 0,.nil],.int .i64 (Om r c l p q m)]) else bif (Nw r c l p q m&&decide (r=r)) then some (.tup [.agg [.int .i64 ((Kc r q (loG c l q m (toNat r) (toNat q))).1),.int .i64 ((Kc r q (loG c l q m (toNat r) (toNat q))).2.1),.ints .fresh .u64 ((Kc r q (loG c l q m (toNat r) (toNat q))).2.2.1)],.int .i64 ((Kc r q (loG c l q m (toNat r) (toNat q))).2.2.2)]) else none else none:=by kernel_rfl
abbrev _root_.Go.Proofs.S1.solve.F8.Kn:=A7 prog 22 solve.F8.spec
theorem solve.F8.Ae (hk:A1 prog solve.F8.Bf) (h:Hyp solve.F8.E f22 solve.F8.ts solve.F8.pre solve.F8.out):solve.F8.Kn :=
 Am (A3 hk _ _ _) func22 (by kernel_rfl) (by kernel_rfl) h
end EqLow
open Go Go.Den Go.C4 Go.Proofs
open EqLow
theorem solve.Dn.known:solve.Dn.Kn:=solve.Dn.Ae .nil fun i k _=>by
 refine ⟨0,solve.Dn.out [.i i,.i k],[],?_,.bool⟩
 rw [solve.Dn.ev,Av]; rfl
theorem Ac3.known:Cn.Cm.down.Kn:=Cn.Cm.down.Ae .nil fun n k _=>⟨0,Cn.Cm.down.out [.i n,.i k],[],by rw [Cn.Cm.down.ev]; rfl,.int⟩
section
variable {n Q:Nat} {l m:List Int}
def loF (n Q:Nat) (l m:List Int) (i j:Nat):Int:=(R0 (n:Int) l (fun i=>Cv (Q:Int) m (i:Int) (j:Int)) n).getD i 0
def loD (j k a b:Nat):Bool:=decide (b<j∨(b=j∧a<k))
def Uc (n Q:Nat) (l m:List Int) (j k:Nat):List Int:=Cj n Q fun a b=>if loD j k a b=true then loF n Q l m a b else 0
theorem Akc (i j:Nat):Ah (loF n Q l m i j)=true:=Ze (Akb _ _ _ _) i
theorem Aql (j k:Nat):Ap (Uc n Q l m j k)=true:=Le fun a b=>by
 split
 ·exact Akc _ _
 ·exact I5
theorem Ano {j k t:Nat} (ht:t<n) (hj:j<Q) (hk:t<k):Cv (Q:Int) (Uc n Q l m j k) (t:Int) (j:Int)=loF n Q l m t j:=by
 unfold Uc
 have hd:loD j k t j=true:=Au8 (.inr ⟨rfl,hk⟩)
 rw [Ud ht hj,hd,Avu rfl]
theorem Y9 (j k:Nat):(Uc n Q l m j k).length=n*Q:=B6 _ _ _
theorem Ann {i j:Nat} (hj:j<Q) {x:Int} (hx:x=loF n Q l m i j):List.set (Uc n Q l m j i) (toNat ((i:Int)*(Q:Int)+(j:Int))) x=Uc n Q l m j (i+1):=by
 refine V7 hj hx fun a b ha hb=>?_
 unfold loD
 rw [Ave,Ave]
 omega
theorem Aj9 (j:Nat):Uc n Q l m j n=Uc n Q l m (j+1) 0:=by
 unfold Uc
 refine C8 fun a b ha hb=>?_
 have:loD j n a b=loD (j+1) 0 a b:=by
  unfold loD
  rw [decide_eq_decide]
  omega
 rw [this]
theorem Aj8:Uc n Q l m 0 0=Cj n Q fun _ _=>0:=by
 unfold Uc
 refine C8 fun a b ha hb=>?_
 have:loD 0 0 a b=false:=Avc (by omega)
 rw [this]; rfl
theorem Anp:Uc n Q l m Q 0=loG (n:Int) l (Q:Int) m n Q:=by
 unfold Uc loG
 refine C8 fun a b ha hb=>?_
 have:loD Q 0 a b=true:=Au8 (.inl hb)
 rw [this]; rfl
def loR (n Q:Nat) (l m:List Int) (i j t:Nat) (s:Int):Int:=Iq (n:Int) l (i:Int) s (t:Int) (((R0 (n:Int) l (fun i=>Cv (Q:Int) m (i:Int) (j:Int)) n).take i).drop t)
theorem Ae8 {i j:Nat} (hi:i<n) (s:Int):loR n Q l m i j i s=s:=by
 unfold loR
 rw [Avl (by rw [List.length_take,Fc]; omega),Iq]
theorem Aka {i j t:Nat} (hi:i<n) (ht:t<i) (s:Int):loR n Q l m i j t s=loR n Q l m i j (t+1) (El s (Ej (Cv (n:Int) l (i:Int) (t:Int)) (loF n Q l m t j))):=by
 unfold loR loF
 rw [Xp (by rw [List.length_take,Fc]; omega),Avh,List.getElem?_take_of_lt ht,← Avh]
 rfl
theorem Anq {i j:Nat} (hi:i<n):Ek (loR n Q l m i j 0 (Cv (Q:Int) m (i:Int) (j:Int))) (Cv (n:Int) l (i:Int) (i:Int))=loF n Q l m i j:=by
 unfold loR loF
 rw [List.drop_zero,Ae9 hi]; rfl
theorem Aj6 (N:Nat) (n6:n≤6) (q6:Q≤6) (hl:l.length=n*n) (al:Ap l=true) {i j:Nat} (hi:i<n) (hj:j<Q) (M0 M1:Nat) (p29 p33:Int) :
 ∀ (cnt t F:Nat) (s:Int),t+cnt=n→cnt<F→Ah s=true→(i<t→t≤n) →
 solve.Au.Lo.L2 N M0 M1 F (n:Int) (n:Int) l (n:Int) (Q:Int) m (n:Int) s (t:Int) (j:Int) (i:Int) p29 p33 (Uc n Q l m j i) =
 solve.Au.Lo.L1 N M0 M1 (n:Int) (n:Int) l (n:Int) (Q:Int) m (n:Int) (Ab (p33+(1:Int))) (List.set (Uc n Q l m j i) (toNat ((i:Int)*(Q:Int)+(j:Int))) (Ek (if t<i then loR n Q l m i j t s else s) (Cv (n:Int) l (i:Int) (i:Int)))) (j:Int) p29:=by
 intro cnt
 induction cnt with
 | zero =>
   intro t F s ht hF hs _
   obtain ⟨F,rfl⟩:∃ G,F=G+1:=⟨F-1,by omega⟩
   obtain ⟨e1,g1,g2⟩:=Fx (R:=(n:Int)) (D7 n6 n6 hl hi hi)
   obtain ⟨e2,g3,g4⟩:=Fx (R:=(n:Int)) (D7 n6 q6 (Y9 (l:=l) (m:=m) j i) hi hj)
   rw [Avt (by omega)]
   rw [solve.Au.Lo.E1,Av,Avc (show ¬ (t:Int)<(n:Int) by omega),Avb,e1,Au8 g1,Au8 g2,Avd,Au7,hs,show Ah (getD l (toNat ((i:Int)*(n:Int)+(i:Int))) 0)=true from K3 (c:=(n:Int)) al,Avd,Au7,
    e2,Au8 g3,Au8 g4,Avd,Au7,Au8 (show toNat ((i:Int)*(Q:Int)+(j:Int))<(Uc n Q l m j i).length by omega),Au7]
   rfl
 | succ cnt ih =>
   intro t F s ht hF hs _
   obtain ⟨F,rfl⟩:∃ G,F=G+1:=⟨F-1,by omega⟩
   by_cases hti:t<i
   ·obtain ⟨e1,g1,g2⟩:=Fx (R:=(n:Int)) (D7 n6 n6 hl hi (show t<n by omega))
    obtain ⟨e2,g3,g4⟩:=Fx (R:=(n:Int)) (D7 n6 q6 (Y9 (l:=l) (m:=m) j i) (show t<n by omega) hj)
    have hx:getD (Uc n Q l m j i) (toNat ((t:Int)*(Q:Int)+(j:Int))) 0=loF n Q l m t j:=Ano (by omega) hj hti
    have:=ih (t+1) F (El s (Ej (Cv (n:Int) l (i:Int) (t:Int)) (loF n Q l m t j))) (by omega) (by omega) (P2 hs (Ll _ _)) (by omega)
    rw [Avu hti,Aka hi hti]
    rw [solve.Au.Lo.E1,Av,Au8 (show (t:Int)<(n:Int) by omega),Au7,Au8 (show (t:Int)<(i:Int) by omega),Au7,e1,Au8 g1,Au8 g2,Avd,Au7,
     e2,Au8 g3,Au8 g4,Avd,Au7,Au8 (show toNat ((t:Int)*(Q:Int)+(j:Int))<(Uc n Q l m j i).length by omega),Au7,hx,
     show Ah (getD l (toNat ((i:Int)*(n:Int)+(t:Int))) 0)=true from K3 (c:=(n:Int)) al,Akc,Avd,Au7,hs,Ll,Avd,Au7,Al (x:=(t:Int)+1) (by omega) (by omega)]
    have e:(if t+1<i then loR n Q l m i j (t+1) (El s (Ej (Cv (n:Int) l (i:Int) (t:Int)) (loF n Q l m t j))) else El s (Ej (Cv (n:Int) l (i:Int) (t:Int)) (loF n Q l m t j)))=loR n Q l m i j (t+1) (El s (Ej (Cv (n:Int) l (i:Int) (t:Int)) (loF n Q l m t j))):=by
     by_cases h2:t+1<i
     ·rw [Avu h2]
     ·rw [Avt h2,show t+1=i by omega,Ae8 hi]
    rw [e] at this
    exact this
   ·have:=ih (t+1) F s (by omega) (by omega) hs (by omega)
    rw [Avt hti,solve.Au.Lo.E1,Av,Au8 (show (t:Int)<(n:Int) by omega),Au7,Avc (show ¬ (t:Int)<(i:Int) by omega),Avb,Al (by omega) (by omega)]
    rw [Avt (by omega)] at this
    exact this
theorem Ank (N:Nat) (n6:n≤6) (q6:Q≤6) (hN:7<N) (hl:l.length=n*n) (hm:m.length=n*Q) (al:Ap l=true) (am:Ap m=true) {j:Nat} (hj:j<Q) (M0:Nat):∀ (cnt k F:Nat),k+cnt=n→cnt<F →
 solve.Au.Lo.L1 N M0 F (n:Int) (n:Int) l (n:Int) (Q:Int) m (n:Int) (k:Int) (Uc n Q l m j k) (j:Int) (j:Int) =
 solve.Au.Lo.L0 N M0 (n:Int) (n:Int) l (n:Int) (Q:Int) m (n:Int) ((j+1:Nat):Int) (Uc n Q l m j n):=by
 intro cnt
 induction cnt with
 | zero =>
   intro k F hk hF
   obtain ⟨F,rfl⟩:∃ G,F=G+1:=⟨F-1,by omega⟩
   obtain rfl:k=n:=by omega
   rw [solve.Au.Lo.Cc,Av,Avc (by omega),Avb,Al (by omega) (by omega)]
   rfl
 | succ cnt ih =>
   intro k F hk hF
   obtain ⟨F,rfl⟩:∃ G,F=G+1:=⟨F-1,by omega⟩
   obtain ⟨e2,g3,g4⟩:=Fx (R:=(n:Int)) (D7 n6 q6 hm (show k<n by omega) hj)
   have hr:=Aj6 (n:=n) (Q:=Q) (l:=l) (m:=m) N n6 q6 hl al (show k<n by omega) hj M0 F (j:Int) (k:Int) n 0 N (Cv (Q:Int) m (k:Int) (j:Int)) (by omega) (by omega) (K3 (c:=(Q:Int)) am) (by omega)
   have e:(if 0<k then loR n Q l m k j 0 (Cv (Q:Int) m (k:Int) (j:Int)) else Cv (Q:Int) m (k:Int) (j:Int))=loR n Q l m k j 0 (Cv (Q:Int) m (k:Int) (j:Int)):=by
    by_cases h:0<k
    ·rw [Avu h]
    ·obtain rfl:k=0:=by omega
     rw [Avt h,Ae8 (by omega)]
   rw [e,Ann hj (Anq (by omega)),Al (by omega) (by omega)] at hr
   rw [solve.Au.Lo.Cc,Av,Au8 (show (k:Int)<(n:Int) by omega),Au7,e2,Au8 g3,Au8 g4,Avd,Au7]
   exact hr.trans (ih (k+1) F (by omega) (by omega))
theorem Anm (N:Nat) (n6:n≤6) (q6:Q≤6) (hN:7<N) (hl:l.length=n*n) (hm:m.length=n*Q) (al:Ap l=true) (am:Ap m=true):∀ (cnt j F:Nat),j+cnt=Q→cnt<F →
 solve.Au.Lo.L0 N F (n:Int) (n:Int) l (n:Int) (Q:Int) m (n:Int) (j:Int) (Uc n Q l m j 0) =
 bif Fg (Uc n Q l m Q 0) then some (.tup [.agg [.int .i64 (n:Int),.int .i64 (Q:Int),.ints (.own 112002 tB) .u64 (Uc n Q l m Q 0)],.int .i64 (0:Int)]) else some (Ajo 2):=by
 intro cnt
 induction cnt with
 | zero =>
   intro j F hj hF
   obtain ⟨F,rfl⟩:∃ G,F=G+1:=⟨F-1,by omega⟩
   obtain rfl:j=Q:=by omega
   have h36:=Av3 n6 q6
   rw [solve.Au.Lo.Ax,Av,Avc (by omega),Avb,Kt (Aql _ _) (by rw [Y9]; omega),Au7]
   cases Fg (Uc n j l m j 0)<;>rfl
 | succ cnt ih =>
   intro j F hj hF
   obtain ⟨F,rfl⟩:∃ G,F=G+1:=⟨F-1,by omega⟩
   have hr:=Ank N n6 q6 hN hl hm al am (show j<Q by omega) F n 0 N (by omega) (by omega)
   rw [Aj9] at hr
   rw [solve.Au.Lo.Ax,Av,Au8 (show (j:Int)<(Q:Int) by omega),Au7]
   exact hr.trans (ih (j+1) F (by omega) (by omega))
end
theorem solve.Au.Lo.known:solve.Au.Lo.Kn:=solve.Au.Lo.Ae (.cons Ac3.known (.cons Aa.Bc.own.known (.cons solve.Dn.known (.cons Af.Div.known (.cons Af.Finite.known (.cons Af.Mul.known (.cons Af.Sub.known .nil))))))) fun r c l p q m n hp=>by
 show ∃ N dv drops,_=some dv∧Wk drops dv (Sj (Kc r q (loG c l q m (toNat r) (toNat q))))
 obtain ⟨h1,hn⟩:=Ag.1 (show (Nw r c l p q m&&decide (n=r))=true from hp)
 obtain ⟨h2,h3⟩:=Ag.1 h1
 obtain ⟨hr,hm⟩:=Ag.1 h2
 obtain ⟨h4,h5⟩:=Ag.1 h3
 obtain ⟨al,am⟩:=Ag.1 h4
 obtain ⟨rfl,rfl⟩:=Ao.1 h5
 obtain rfl:=Avx hn
 have s1:=(Gx hr).1
 have s2:=(Gx hm).2
 obtain ⟨R,C,rfl,hC,r6,c6,hl⟩:=Dc hr
 obtain ⟨P,Q,hP,rfl,p6,q6,hl2⟩:=Dc hm
 obtain rfl:R=C:=by omega
 obtain rfl:R=P:=by omega
 have h:=Anm (n:=R) (Q:=Q) (l:=l) (m:=m) 8 r6 q6 (by omega) hl hl2 al am Q 0 8 (by omega) (by omega)
 rw [Aj8,Anp,show ((0:Nat):Int)=0 from rfl] at h
 rw [Au9,Au9]
 unfold Kc
 cases hf:Fg (loG (R:Int) l (Q:Int) m R Q) with
 | true =>
   rw [hf,Au7] at h
   rw [Avu rfl]
   refine ⟨8,.tup [.agg [.int .i64 (R:Int),.int .i64 (Q:Int),.ints (.own 112002 tB) .u64 (loG (R:Int) l (Q:Int) m R Q)],.int .i64 0],[112002],?_,Wk.G1 (.cons (Yg (List.mem_singleton.2 rfl)) (.cons .int .nil))⟩
   rw [solve.Au.Lo.ev,s1,s2,Avd,Au7,Au9,Au9]
   exact h
 | false =>
   rw [hf,Avb] at h
   rw [Avt (by decide)]
   refine ⟨8,Ajo 2,[],?_,I8⟩
   rw [solve.Au.Lo.ev,s1,s2,Avd,Au7,Au9,Au9]
   exact h
theorem solve.F8.known:solve.F8.Kn:=solve.F8.Ae (.cons solve.check.known (.cons solve.Au.Lo.known .nil)) fun r c l p q m hp=>by
 have hp:(Ap l&&Ap m)=true:=hp
 show ∃ N dv drops,_=some dv∧Wk drops dv (Sj (loX r c l p q m))
 unfold loX
 by_cases h:Om r c l p q m=0
 ·obtain ⟨h1,h2,h3,h4⟩:=X5 h
  have ht:Nw r c l p q m=true:=Ag.2 ⟨Ag.2 ⟨h1,h2⟩,Ag.2 ⟨hp,Ao.2 ⟨h3,h4⟩⟩⟩
  rw [Avt (by rw [h]; decide)]
  exact ⟨0,_,[],by rw [solve.F8.ev,hp,Au7,Kk h,Avb,ht,Au8 rfl]; rfl,Nt⟩
 ·rw [Avu h]
  exact ⟨0,_,[],by rw [solve.F8.ev,hp,Au7,neI h,Au7]; rfl,I8⟩
open Go Go.Den Go.C4 Go.Proofs
set_option maxRecDepth 100000
namespace EqLse
end EqLse
open Go Go.Den Go.C4 Go.Proofs
open EqLse
open Go Go.Den Go.C4 Go.Proofs
open EqMat EqOf
open Go Go.Den Go.C4 Go.Proofs
set_option maxRecDepth 100000
namespace EqRef20
def Ak.Bc.own.Bf:List (Nat × Entry):=[]
def Ak.Bc.own.E:Env:=Bg (Be Ak.Bc.own.Bf) (fun _=>false) (fun _=>none) (fun _=>none)
theorem Ak.Bc.own.ev (N:Nat) (a b:Int):By Ak.Bc.own.E N f35 (An f35) [.int .i64 a,.int .i64 b]=bif (((decide ((0:Int)≤(Ab (a*b))))&&(decide ((Ab (a*b))≤(Ab (a*b)))))&&(decide ((Ab (a*b))≤Ga))) then some (.agg [.int .i64 a,.int .i64 b,.ints (.own 10 37) .u64 (List.replicate (toNat (Ab (a*b))) 0)]) else none:=by kernel_rfl
abbrev _root_.Go.Proofs.S1.Ak.Bc.own.Kn:=A7 prog 35 Ak.Bc.own.spec
theorem Ak.Bc.own.Ae (hk:A1 prog Ak.Bc.own.Bf) (h:Hyp Ak.Bc.own.E f35 Ak.Bc.own.ts Ak.Bc.own.pre Ak.Bc.own.out):Ak.Bc.own.Kn :=
 Am (A3 hk _ _ _) func35 (by kernel_rfl) (by kernel_rfl) h
end EqRef20
open Go Go.Den Go.C4 Go.Proofs
open EqOf EqRef20
theorem Ak.Bc.own.known:Ak.Bc.own.Kn:=Ak.Bc.own.Ae .nil fun a b hp=>by
 obtain ⟨ha,hb⟩:=Ag.1 (show (Bn a&&Bn b)=true from hp)
 obtain ⟨A,rfl,hA⟩:=E7 ha
 obtain ⟨B,rfl,hB⟩:=E7 hb
 have hm:=G2 (a:=(A:Int)) (b:=(B:Int)) (by omega) (by omega) (by omega) (by omega)
 have e:((A:Int)*(B:Int)).toNat=A*B:=by rw [← Avs,Au9]
 refine ⟨0,.agg [.int .i64 (A:Int),.int .i64 (B:Int),.ints (.own 10 tB) .u64 (Cj A B fun _ _=>0)],[],?_,Wk.G0 (.cons .int (.cons .int (.cons (.keep _ _ _ _ (List.not_mem_nil)) .nil)))⟩
 rw [Ak.Bc.own.ev,Al (by omega) (by omega),Au8 hm.1,Au8 (Int.le_refl _),Au8 (show (A:Int)*(B:Int)≤(Ga:Int) by unfold Ga; omega),e,Vx]
 rfl
open Go Go.Den Go.C4 Go.Proofs
open EqLse
section
variable {N:Nat} {r c p q a b u v:Int} {l m g h:List Int} {w one two done f y Q z:MX}
end
open Go Go.Den Go.C4 Go.Proofs
open EqRef14 EqLow
section
variable {n Q:Nat} {l m:List Int}
end
open Go Go.Den Go.C4 Go.Proofs
open EqRef20
open Go Go.Den Go.C4 Go.Proofs
section
variable {R C K:Nat} {x y:MX}
end
end Go.Proofs.S1
namespace Go.C4
open Go.Den
structure Good (x:Int):Prop where
 word:Ah x=true
 k3:As x.toNat≠3
 k4:As x.toNat≠4
 ne:x.toNat≠2^63
theorem Ye {x:Int} (h:Ah x=true):x.toNat<2^64:=by
 have:=Ao.1 h
 omega
end Go.C4
namespace Go.C4
open Go.Den
theorem Xr (n:Nat):I1 n=!(decide (As n=3)||decide (As n=4)):=by
 have:=Ia n
 unfold I1 As
 by_cases h:Eb n=2047
 ·by_cases h2:Dr n=0<;>simp [h,h2]
 ·have h3:Eb n<2047:=by omega
  by_cases h4:0<Eb n
  ·simp [h,h3,h4]
  ·by_cases h5:0<Dr n<;>simp [h,h3,h4,h5]
theorem Amv (s:Bool) (m:Nat):(Gv s m).natAbs=m:=by unfold Gv; split<;>omega
theorem Afu {b:Nat} (h:b<2^64) (g:Int):Gu (Gy b) g=-(Gu b g)∧A2 (Gy b)=A2 b∧I1 (Gy b)=I1 b:=by
 obtain ⟨h1,h2,h3⟩:=Aa3 h
 have hm:Aw (Gy b)=Aw b:=by unfold Aw; rw [h2,h3]
 have he:A2 (Gy b)=A2 b:=by unfold A2; rw [h2]
 refine ⟨?_,he,by unfold I1; rw [h2]⟩
 unfold Gu
 rw [h1,hm,he]
 unfold Gv
 cases Db b
 ·rfl
 ·show ((_:Nat):Int)=- -((_:Nat):Int)
  omega
theorem Aao {v w e f g:Int} (h1:g≤e) (h2:g≤f) (h:Tz v e g=Tz w f g):mD v=mD w∧eD v e=eD w f:=by
 have a1:=Adg v (e-g).toNat
 have a2:=Adg w (f-g).toNat
 have b1:=Adu v e (e-g).toNat
 have b2:=Adu w f (f-g).toNat
 have ee:e-((e-g).toNat:Int)=g:=by omega
 have ef:f-((f-g).toNat:Int)=g:=by omega
 rw [ee] at b1
 rw [ef] at b2
 have h:v*((2^(e-g).toNat:Nat):Int)=w*((2^(f-g).toNat:Nat):Int):=h
 rw [h] at a1 b1
 exact ⟨a1.symm.trans a2,b1.symm.trans b2⟩
end Go.C4
namespace Go.C4
open Go.Den
def pw (k:Nat):Nat:=(k+1023)*2^52
theorem U3 {k:Nat} (h:k≤1023):Aw (pw k)=2^52∧A2 (pw k)=(k:Int)-52∧As (pw k)=2∧pw k%2^63=pw k∧pw k<F2:=by
 have hp:Eb (pw k)=k+1023:=by unfold Eb pw; omega
 have hf:Dr (pw k)=0:=by unfold Dr pw; omega
 refine ⟨?_,?_,?_,?_,?_⟩
 ·unfold Aw; rw [hp,hf,Avt (by omega)]
 ·unfold A2; rw [hp,Avt (by omega)]; omega
 ·unfold As; rw [hp,Avt (by omega),Avu (by omega)]
 ·unfold pw; omega
 ·rw [Ig]; unfold pw; omega
def As2 (a:Nat):Nat:=Xn a (-1074)
theorem Am5 {k:Nat} (h:k≤1023):As2 (pw k)=2^(k+1074):=by
 obtain ⟨h1,h2,_⟩:=U3 h
 unfold As2 Xn
 rw [h1,h2,← Avw]
 congr 1; omega
theorem Am4 {k:Nat} (h:k≤1023):B3 (2^(k+1074)) (-1074)=pw k:=by
 obtain ⟨h1,h2,h3,h4,_⟩:=U3 h
 have:=Ajz (b:=pw k) (f:=-1074) (by omega) (by omega)
 rw [h4] at this
 rw [← this,← Am5 h]; rfl
theorem Ag9 (s:Bool) (V:Nat) (E:Int):As (B5 s (B3 V E))≠4:=by
 have h:=T5 V E
 rw [Ig] at h
 have hp:=Sh s (r:=B3 V E) (by omega)
 have hf:=Qd s (B3 V E)
 unfold As
 rw [hp,hf]
 split
 ·split
  ·omega
  ·omega
 ·split
  ·omega
  ·split<;>omega
end Go.C4
namespace Go.C4
open Go.Den
structure Fw (x:Int):Prop where
 word:Ah x=true
 fin:Dd x=true
theorem Fw.k {x:Int} (h:Fw x):As x.toNat≠3∧As x.toNat≠4:=⟨(Me h.fin).2,(Me h.fin).1⟩
theorem Ald {x:Int} (h:Fw x):Ek x 4607182418800017408=x:=by
 have w:=Ao.1 h.word
 have hk:=h.k
 unfold Ek
 by_cases k0:As x.toNat=0
 ·have hz:x.toNat%2^63=0:=by
   rw [← Ajy x.toNat (A2 x.toNat)]
   unfold Xn
   have:Aw x.toNat=0:=by unfold As at k0; unfold Aw; split at k0<;>(try split at k0)<;>(try split at k0)<;>simp_all<;>omega
   rw [this,Nat.zero_mul]
  have hx:x.toNat=0∨x.toNat=2^63:=by have:=Ye h.word; omega
  rcases hx with e | e
  ·rw [e]; have:x=0:=by omega
   rw [this]; decide +kernel
  ·rw [e]; have:x=9223372036854775808:=by omega
   rw [this]; decide +kernel
 ·have:=div_one (Ye h.word) k0 hk.1 hk.2
  rw [show (4607182418800017408:Int).toNat=4607182418800017408 from rfl,this]
  show ((x.toNat:Nat):Int)=x
  omega
end Go.C4
namespace Go.Proofs.S1
open Go Go.Den Go.C4 Go.Proofs
theorem U0 {R C:Nat} {l:List Int} (hl:l.length=R*C) {I:Nat} (hI:I<R):Dh (C:Int) l (I:Int)=(List.range C).map fun k:Nat=>Cv (C:Int) l (I:Int) (k:Int):=by
 have hlen:=P3 hl hI
 have e1:((I:Int)*(C:Int)).toNat=I*C:=by rw [← Avs,Au9]
 have e2:(((I:Int)+1)*(C:Int)).toNat=(I+1)*C:=by
  have:((I:Int)+1)*(C:Int)=(((I+1)*C:Nat):Int):=by rw [Avs]; rfl
  rw [this,Au9]
 refine Rk (by rw [hlen,Awd,Awa]) fun j hj=>?_
 rw [hlen] at hj
 have hp:=Gq hI hj
 have h1:(I+1)*C=I*C+C:=by rw [Awb,Nat.one_mul]
 rw [Awo,List.getElem?_range hj]
 unfold Dh
 rw [List.getElem?_drop,e1,e2,List.getElem?_take,Avu (by omega)]
 show l[I*C+j]?=some (Cv (C:Int) l (I:Int) (j:Int))
 rw [Ii,Avh,Avo (by omega)]
 rfl
open Go Go.Den Go.C4 Go.Proofs
set_option maxRecDepth 100000
namespace EqGg
end EqGg
open Go Go.Den Go.C4 Go.Proofs
open EqGg
section
variable {N:Nat} {r c p q u v:Int} {l m h:List Int} {R Q T C W:MX}
end
section
variable {N:Nat} {r c p q:Int} {l m:List Int} {Q L S w o y:MX}
end
open Go Go.Den Go.C4 Go.Proofs
open EqGg
section
variable {N:Nat} {r c p q u v:Int} {l m h:List Int} {T C E c1 c2 e1 e2 y d f x:MX}
end
open Go Go.Den Go.C4 Go.Proofs
set_option maxRecDepth 100000
namespace EqRef21
end EqRef21
open Go Go.Den Go.C4 Go.Proofs
open EqRef21
open Go Go.Den Go.C4 Go.Proofs
open EqRef21
section
variable {N R C:Nat} {p q:Int} {l m:List Int} {Q L S w y:MX} {ok:Bool}
end
open Go Go.Den Go.C4 Go.Proofs
open EqRef21
section
variable {N n k b:Nat} {l m h:List Int} {Q R C W y f x:MX} {ok:Bool}
end
open Go Go.Den Go.C4 Go.Proofs
set_option maxRecDepth 100000
namespace EqRefM
def Ad.single.hint:Nat→Option A9
 | 0=>some { keep:=[0,1,5,6,7],objs:=[(0,5,100005,.ints 173 .u32 [])],boxes:=[] }
 | _=>none
def Ad.single.Bf:List (Nat × Entry):=[]
def Ad.single.E:Env:=Bg (Be Ad.single.Bf) (fun _=>false) Ad.single.hint (fun _=>none)
section
variable (N M:Nat) (a:List Int) (x p6 p7:Int) (p5:List Int)
def Ad.single.L0:Option DV:=Bx Ad.single.E N f175 (An f175) [1,1,1,0,1,0] [] M ⟨Gm 39 [(0,.ints .arg .u32 a),(1,.int .u32 x),(5,.oref 100005),(6,.int .u64 p6),(7,.int .i64 p7)],[(100005,false,.ints 173 .u32 p5)]⟩
theorem Ad.single.Ax:Ad.single.L0 N (M+1) a x p6 p7 p5=bif (A6 p7 (length a:Int)) then bif ((decide (0≤p7))&&(decide (p7<(length a:Int)))) then bif (decide ((length p5)+1≤Ga)) then Ad.single.L0 N M a x (A8 (Int.tdiv (A8 ((A8 ((A8 (getD a (toNat p7) 0))*(A8 x)))+p6)) 4294967296)) (Ab (p7+1)) (p5++[(Ho (Int.tmod (A8 ((A8 ((A8 (getD a (toNat p7) 0))*(A8 x)))+p6)) 4294967296))]) else none else none else bif (decide ((length p5)+1≤Ga)) then some (.ints (.own 38 173) .u32 (p5++[(Ho p6)])) else none:=by kernel_rfl
theorem Ad.single.ev:By Ad.single.E N f175 (An f175) [.ints .arg .u32 a,.int .u32 x] =
 Ad.single.L0 N N a x 0 0 []:=by kernel_rfl
end
abbrev _root_.Go.Proofs.S1.Ad.single.Kn:=A7 prog 175 Ad.single.spec
theorem Ad.single.Ae (hk:A1 prog Ad.single.Bf) (h:Hyp Ad.single.E f175 Ad.single.ts Ad.single.pre Ad.single.out):Ad.single.Kn :=
 Am (A3 hk _ _ _) func175 (by kernel_rfl) (by kernel_rfl) h
def Ad.Mul.hint:Nat→Option A9
 | 0=>some { keep:=[2,3,4,5,6],objs:=[(0,5,100005,.ints 173 .u32 [])],boxes:=[2,3,4] }
 | _=>none
def Ad.Mul.Bf:List (Nat × Entry):=[(171,Ad.Made.spec),(174,Ad.plus.own.spec),(175,Ad.single.spec)]
def Ad.Mul.E:Env:=Bg (Be Ad.Mul.Bf) (fun n=>Nat.beq n 29) Ad.Mul.hint (fun _=>none)
section
variable (N M:Nat) (n:Bool) (a:List Int) (m:Bool) (b:List Int) (p6:Int) (p5:List Int)
def Ad.Mul.L0:Option DV:=Bx Ad.Mul.E N f110 (An f110) [1,1,0,1,0] [] M ⟨Gm 37 [(2,.ptr 2 0 0),(3,.ptr 3 0 0),(4,.ptr 4 0 0),(5,.oref 100005),(6,.int .i64 p6)],[(2,false,.box [.bool n,.ints .arg .u32 a]),(3,false,.box [.bool m,.ints .arg .u32 b]),(4,false,.box [.bool false,.nil]),(100005,false,.ints 173 .u32 p5)]⟩
theorem Ad.Mul.Ax:Ad.Mul.L0 N (M+1) n a m b p6 p5=bif (Dy 0 p6) then bif (decide (1+(length p5)≤Ga)) then bif ((decide (0≤p6))&&(decide (p6<(length b:Int)))) then bif (Fa a&&Afe (getD b (toNat p6) 0)) then bif (Fa ([(0:Int)]++p5)&&Fa (singleL a (getD b (toNat p6) 0))) then Ad.Mul.L0 N M n a m b (Ab (p6-1)) (G7 ([(0:Int)]++p5) (singleL a (getD b (toNat p6) 0))) else none else none else none else none else bif (Fa p5) then some (.agg [.bool (Ar (wv (!(n==m)) p5)),.ints .arg .u32 (Ac (wv (!(n==m)) p5))]) else none :=
 Eq.trans (by kernel_rfl)
 (Fq (Fq (Cy (J1 (decide (0≤p6)) (decide (p6<(length b:Int)))) (Cy (Cr (Fa a&&Afe (getD b (toNat p6) 0))) (Cy (Cr (Fa ([(0:Int)]++p5)&&Fa (singleL a (getD b (toNat p6) 0)))) rfl rfl) rfl) rfl) rfl) rfl)
theorem Ad.Mul.ev:By Ad.Mul.E N f110 (An f110) [.agg [.bool n,.ints .arg .u32 a],.agg [.bool m,.ints .arg .u32 b]] =
 Ad.Mul.L0 N N n a m b (Ab ((length b:Int)-1)) []:=by kernel_rfl
end
abbrev _root_.Go.Proofs.S1.Ad.Mul.Kn:=A7 prog 110 Ad.Mul.spec
theorem Ad.Mul.Ae (hk:A1 prog Ad.Mul.Bf) (h:Hyp Ad.Mul.E f110 Ad.Mul.ts Ad.Mul.pre Ad.Mul.out):Ad.Mul.Kn :=
 Am (A3 hk _ _ _) func110 (by kernel_rfl) (by kernel_rfl) h
def Aq.Mul.Bf:List (Nat × Entry):=[(110,Ad.Mul.spec),(109,Aq.Of.spec)]
def Aq.Mul.E:Env:=Bg (Be Aq.Mul.Bf) (fun _=>false) (fun _=>none) (fun _=>none)
theorem Aq.Mul.ev (N:Nat) (n:Bool) (a:List Int) (e:Int) (m:Bool) (b:List Int) (f:Int):By Aq.Mul.E N f41 (An f41) [.agg [.bool n,.ints .arg .u32 a,.int .i64 e],.agg [.bool m,.ints .arg .u32 b,.int .i64 f]]=bif (Pj n a&&Pj m b) then bif (Ml (Ar (wv n a*wv m b)) (Ac (wv n a*wv m b))&&Sk (Ab (e+f))) then some (.agg [.bool (Ar (mD (wv (Ar (wv n a*wv m b)) (Ac (wv n a*wv m b))))),.ints .arg .u32 (Ac (mD (wv (Ar (wv n a*wv m b)) (Ac (wv n a*wv m b))))),.int .i64 (eD (wv (Ar (wv n a*wv m b)) (Ac (wv n a*wv m b))) (Ab (e+f)))]) else none else none :=
 Eq.trans (by kernel_rfl)
 (Cy (Cr (Pj n a&&Pj m b)) (Cy (Cr (Ml (Ar (wv n a*wv m b)) (Ac (wv n a*wv m b))&&Sk (Ab (e+f)))) rfl rfl) rfl)
abbrev _root_.Go.Proofs.S1.Aq.Mul.Kn:=A7 prog 41 Aq.Mul.spec
theorem Aq.Mul.Ae (hk:A1 prog Aq.Mul.Bf) (h:Hyp Aq.Mul.E f41 Aq.Mul.ts Aq.Mul.pre Aq.Mul.out):Aq.Mul.Kn :=
 Am (A3 hk _ _ _) func41 (by kernel_rfl) (by kernel_rfl) h
abbrev _root_.Go.Proofs.S1.Aq.Mul.zero.Kn:Prop:=A7 prog 41 Aq.Mul.zero.spec
abbrev _root_.Go.Proofs.S1.Ad.plus.own.Kn:Prop:=A7 prog 174 Ad.plus.own.spec
theorem _root_.Go.Proofs.S1.Ad.plus.own.call:∀ (args:Array Value) (w:World),(callFunc 174 args).run prog w=.ok (.enter 174 args) w:=Nb func174 (by kernel_rfl) (show f174.body=some (An f174) by kernel_rfl)
theorem _root_.Go.Proofs.S1.Ad.plus.meets {E:Env} (he:Hy prog E) {ts:List AT} {pre:List Atom→Bool} {out:List Atom→DV} (h:∀ ats ds,Er ts ats ds→pre ats=true→∃ fuel d drops,By E fuel f174 (An f174) ds=some d∧Wk drops d (out ats)):Tw prog 174 (entry ts pre out):=N8 he func174 (show f174.body=some (An f174) by kernel_rfl) h
end EqRefM
open Go Go.Den Go.C4 Go.Proofs
open EqRefM
theorem T7 {n:Bool} {l:List Int} (h:Pj n l=true):∃ v,n=Ar v∧l=Ac v∧Di v.natAbs<33554432:=by
 have h:=Ao.1 h
 obtain ⟨h1,h2,h3⟩:=h
 obtain ⟨e1,e2⟩:=S3 h2 h3
 refine ⟨wv n l,e1,e2,?_⟩
 rw [e2,B9] at h1
 exact h1
theorem U7 {v:Int} (h:Di v.natAbs<33554432):Pj (Ar v) (Ac v)=true :=
 Ao.2 ⟨by rw [B9]; exact h,Wa v⟩
theorem Ad.plus.own.known:Ad.plus.own.Kn:=by
 refine ⟨Ad.plus.meets (E:=EqRefA.Ad.plus.E) (A3 (.cons Ad.G4.known .nil) _ _ _) fun ats dvs he hp=>?_,Ad.plus.own.call⟩
 obtain ⟨a,_,_,rfl,rfl,he0⟩:=he.Aoz
 obtain ⟨b,_,_,rfl,rfl,he1⟩:=he0.Aoz
 obtain ⟨rfl,rfl⟩:=he1.T8
 obtain ⟨ha,hb⟩:=Ag.1 (show (Fa a&&Fa b)=true from hp)
 refine ⟨max a.length b.length+2,.ints (.own 100005 tW) .u32 (G7 a b),[],?_,.keep _ _ _ _ (List.not_mem_nil)⟩
 rw [EqRefA.Ad.plus.ev]
 exact Xe _ ha hb (max a.length b.length+1) 0 0 _ (by omega) (by omega) (by omega) (by simp)
theorem Yr {x y c:Nat} (hx:x<4294967296) (hy:y<4294967296) (hc:c<4294967296):x*y+c<18446744073709551616:=by
 have:=Av3 (show x≤4294967295 by omega) (show y≤4294967295 by omega)
 omega
theorem Aak (N:Nat) {a:List Int} {X:Nat} (ha:Fa a=true) (hX:X<4294967296):∀ (k i c F:Nat),i+k=a.length→k<F→c<4294967296 →
 Bv a / 2^(32*i)*X+c=Bv a*X / 2^(32*i) →
 Ad.single.L0 N F a (X:Int) (c:Int) (i:Int) (digits i (Bv a*X))=some (.ints (.own 38 tW) .u32 (singleL a (X:Int))):=by
 obtain ⟨la,ia⟩:=Ic ha
 intro k
 induction k with
 | zero =>
   intro i c F hi hF hc h
   obtain ⟨F,rfl⟩:∃ G,F=G+1:=⟨F-1,by omega⟩
   have t0:decide ((i:Int)<(a.length:Int))=false:=Avc (by omega)
   have t1:decide ((digits i (Bv a*X)).length+1≤Ga)=true:=Au8 (by rw [Dj]; unfold Ga; omega)
   have hz:Bv a / 2^(32*i)=0:=Nat.div_eq_of_lt (by rw [show i=a.length by omega]; exact H5 ia)
   rw [hz,Nat.zero_mul,Awh] at h
   rw [Ad.single.Ax,Av,t0,Avb,t1,Au7,H4 (by omega) (by omega)]
   unfold singleL
   rw [Au9,Hw,← show i=a.length by omega,← h,Avk hc]
 | succ k ih =>
   intro i c F hi hF hc h
   obtain ⟨F,rfl⟩:∃ G,F=G+1:=⟨F-1,by omega⟩
   have t0:decide ((i:Int)<(a.length:Int))=true:=Au8 (by omega)
   have t2:decide ((0:Int)≤(i:Int))=true:=Au8 (by omega)
   have t1:decide ((digits i (Bv a*X)).length+1≤Ga)=true:=Au8 (by rw [Dj]; unfold Ga; omega)
   rw [Ad.single.Ax,Av,t0,t1,t2]
   simp only [Au7,Avd]
   rw [Au9,M3 ia i]
   have ih:=ih (i+1)
   rw [Jy,Avv 4294967296,← Av0,← Av0,Hw] at ih
   generalize Bv a / 2^(32*i)=x at *
   generalize Bv a*X / 2^(32*i)=z at *
   have hb:=Yr (x:=x%4294967296) (y:=X) (c:=c) (Nat.mod_lt _ (by decide)) hX hc
   have hm:x*X=x / 4294967296*X*4294967296+x%4294967296*X:=by
    rw [Nat.mul_right_comm,← Awb]
    congr 1
    omega
   have e1:A8 (A8 (A8 ((x%4294967296:Nat):Int)*A8 (X:Int))+(c:Int))=((x%4294967296*X+c:Nat):Int):=by
    rw [Cq (x:=((x%4294967296:Nat):Int)) (by omega) (by omega),Cq (x:=(X:Int)) (by omega) (by omega),← Avs,Cq (x:=((x%4294967296*X:Nat):Int)) (by omega) (by omega),Cq (by omega) (by omega)]
    omega
   have hlt:(x%4294967296*X+c) / 4294967296<4294967296:=by omega
   rw [e1,Abb,Hb,H7,H4 (by omega) (by omega),Cq (by omega) (by omega),Al (by omega) (by omega)]
   rw [hm] at h
   generalize x%4294967296*X=p at *
   generalize x / 4294967296*X=q at *
   have e2:(p+c)%4294967296=z%4294967296:=by omega
   rw [e2]
   exact ih ((p+c) / 4294967296) F (by omega) (by omega) hlt (by omega)
theorem Ad.single.known:Ad.single.Kn:=Ad.single.Ae .nil fun a x hp=>by
 obtain ⟨ha,hx⟩:=Ag.1 hp
 have hx:=Ao.1 hx
 obtain ⟨X,rfl⟩:∃ k:Nat,x=k:=⟨x.toNat,by omega⟩
 refine ⟨a.length+1,.ints (.own 38 tW) .u32 (singleL a X),[38],?_,Yw⟩
 rw [Ad.single.ev]
 exact Aak _ ha (by omega) a.length 0 0 _ (by omega) (by omega) (by omega) (by simp)
theorem Uu (a:List Int) (x:Int):Rn (singleL a x):=Kj _ _
theorem Ny (a:List Int) (x:Int):(singleL a x).length=a.length+1:=Dj _ _
theorem Aal {a:List Int} (ia:Rn a) {X:Nat} (hX:X<4294967296):Bv (singleL a (X:Int))=Bv a*X:=by
 have h:=H5 ia
 unfold singleL
 rw [Hp,Au9,Avk]
 rw [Jy,Avv 4294967296]
 exact Nat.mul_lt_mul'' h hX
theorem Aju (N:Nat) {n m:Bool} {a b:List Int} (ha:Rn a) (hb:Rn b) (la:a.length<33554432) (lb:b.length<33554432) :
 ∀ (j F:Nat) (p:List Int),j≤b.length→j<F→Rn p→p.length≤a.length+2*(b.length-j)→Bv p=Bv a*(Bv b / 2^(32*j)) →
 Ad.Mul.L0 N F n a m b ((j:Int)-1) p=some (.agg [.bool (Ar (Gv (!(n==m)) (Bv a*Bv b))),.ints .arg .u32 (Ac (Gv (!(n==m)) (Bv a*Bv b)))]):=by
 intro j
 induction j with
 | zero =>
   intro F p hj hF ip lp vp
   obtain ⟨F,rfl⟩:∃ G,F=G+1:=⟨F-1,by omega⟩
   have o:Fa p=true:=Ib (by omega) ip
   rw [Nat.mul_zero,Av5,Nat.div_one] at vp
   rw [Ad.Mul.Ax,D9,Avc (by omega),Avb,o,Au7]
   unfold wv
   rw [vp]
 | succ j ih =>
   intro F p hj hF ip lp vp
   obtain ⟨F,rfl⟩:∃ G,F=G+1:=⟨F-1,by omega⟩
   have e0:((j+1:Nat):Int)-1=(j:Int):=by omega
   have hX:Bv b / 2^(32*j)%4294967296<4294967296:=Nat.mod_lt _ (by decide)
   have o1:Fa a=true:=Ib (by omega) ha
   have i0:Rn ([(0:Int)]++p):=Abg ip
   have o2:Fa ([(0:Int)]++p)=true:=Ib (by rw [Avz]; show 1+p.length<_; omega) i0
   have o3:Fa (singleL a ((Bv b / 2^(32*j)%4294967296:Nat):Int))=true:=Ib (by rw [Ny]; omega) (Uu _ _)
   have o4:Afe ((Bv b / 2^(32*j)%4294967296:Nat):Int)=true:=Ao.2 (by omega)
   have vz:Bv ([(0:Int)]++p)=4294967296*Bv p:=by
    show (0:Int).toNat+4294967296*Bv p=_
    rw [show (0:Int).toNat=0 from rfl,Awh]
   have c1:decide (1+p.length≤Ga)=true:=Au8 (by unfold Ga; omega)
   have c2:decide ((j:Int)<(b.length:Int))=true:=Au8 (by omega)
   have c3:decide ((0:Int)≤(j:Int))=true:=Au8 (by omega)
   rw [e0,Ad.Mul.Ax,D9,c3,Au7,c1,Au7,c2,Avd,Au7,Au9,M3 hb j,o1,o4,Avd,Au7,o2,o3,Avd,Au7,Al (by omega) (by omega)]
   refine ih F _ (by omega) (by omega) (U4 _ _) ?_ ?_
   ·rw [Mq,Avz,Ny]
    show max (1+p.length) _+1≤_
    omega
   ·rw [Xf i0 (Uu _ _),vz,Aal ha hX,vp,Jy,Avv 4294967296 (2^(32*j)),← Av0,Nat.mul_left_comm,← Nat.mul_add]
    congr 1
    omega
theorem Qv (s t:Bool) (x y:Nat):Gv (!(s==t)) (x*y)=Gv s x*Gv t y:=by
 unfold Gv
 cases s<;>cases t<;>simp [Avs,Int.neg_mul,Int.mul_neg]
theorem Ad.Mul.known:Ad.Mul.Kn:=Ad.Mul.Ae (.cons Ad.Made.known (.cons Ad.plus.own.known (.cons Ad.single.known .nil))) fun n a m b hp=>by
 obtain ⟨h1,h2⟩:=Ag.1 hp
 obtain ⟨v,rfl,rfl,hv⟩:=T7 h1
 obtain ⟨w,rfl,rfl,hw⟩:=T7 h2
 refine ⟨(Ac w).length+1,Ad.Mul.out [.b (Ar v),.l (Ac v),.b (Ar w),.l (Ac w)],[],?_,Yi⟩
 have lv:=B9 v
 have lw:=B9 w
 have iw:=Fk w
 have hz:Bv (Ac w) / 2^(32*(Ac w).length)=0:=Nat.div_eq_of_lt (H5 iw)
 rw [Ad.Mul.ev,Al (by omega) (by omega)]
 refine (Aju _ (Fk v) iw (by omega) (by omega) (Ac w).length _ [] (Av1 _) (by omega) (fun x h=>by cases h) (by show 0≤_; omega) (by rw [hz,Nat.mul_zero]; rfl)).trans ?_
 rw [Qv]
 rfl
theorem Aki (n m:Nat):Di (n*m)≤Di n+Di m:=by
 refine Ka ?_
 rw [Nat.mul_add,Avw]
 exact Nat.mul_lt_mul'' (I7 n) (I7 m)
theorem Aq.Mul.known:Aq.Mul.Kn:=Aq.Mul.Ae (.cons Ad.Mul.known (.cons Aq.Of.known .nil)) fun n a e m b f hp=>by
 obtain ⟨h1,h2⟩:=Ag.1 hp
 obtain ⟨h3,h4⟩:=Ag.1 h2
 have he:=Ao.1 h3
 have hf:=Ao.1 h4
 obtain ⟨h5,h6⟩:=Ag.1 h1
 obtain ⟨v,rfl,rfl,hv⟩:=T7 h5
 obtain ⟨w,rfl,rfl,hw⟩:=T7 h6
 refine ⟨0,Aq.Mul.out [.b (Ar v),.l (Ac v),.i e,.b (Ar w),.l (Ac w),.i f],[],?_,wdy⟩
 have hl:=Aki v.natAbs w.natAbs
 have o1:Ml (Ar (v*w)) (Ac (v*w))=true:=Js (by rw [Int.natAbs_mul]; omega)
 have o2:Sk (e+f)=true:=Ao.2 (by omega)
 rw [Aq.Mul.ev,h5,h6,Avd,Au7,Al (by omega) (by omega)]
 simp only [Fl]
 rw [o1,o2,Avd,Au7]
 show _=some (DV.agg [.bool (Ar (mD (wv (Ar v) (Ac v)*wv (Ar w) (Ac w)))),.ints .arg .u32 (Ac (mD (wv (Ar v) (Ac v)*wv (Ar w) (Ac w)))),.int .i64 (eD (wv (Ar v) (Ac v)*wv (Ar w) (Ac w)) (e+f))])
 rw [Fl,Fl]
open Go Go.Den Go.C4 Go.Proofs
set_option maxRecDepth 100000
namespace EqLaw17
def Bi.Fu.Bf:List (Nat × Entry):=[(30,solve.Fv.spec)]
def Bi.Fu.E:Env:=Bg (Be Bi.Fu.Bf) (fun _=>false) (fun _=>none) (fun _=>none)
theorem Bi.Fu.ev (N:Nat):By Bi.Fu.E N f28 (An f28) []=bif (Ap [(4611686018427387904:Int)]&&Ap [(4616189618054758400:Int)]) then bif ((!((((Dx 1 1 [(4611686018427387904:Int)] 1 1 [(4616189618054758400:Int)]).2.2.2)==(0:Int))&&((length ((Dx 1 1 [(4611686018427387904:Int)] 1 1 [(4616189618054758400:Int)]).2.2.1):Int)==(1:Int))))||(decide ((0:Int)<(length ((Dx 1 1 [(4611686018427387904:Int)] 1 1 [(4616189618054758400:Int)]).2.2.1):Int)))) then some (.bool (bif (bif (((Dx 1 1 [(4611686018427387904:Int)] 1 1 [(4616189618054758400:Int)]).2.2.2)==(0:Int)) then ((length ((Dx 1 1 [(4611686018427387904:Int)] 1 1 [(4616189618054758400:Int)]).2.2.1):Int)==(1:Int)) else false) then ((getD ((Dx 1 1 [(4611686018427387904:Int)] 1 1 [(4616189618054758400:Int)]).2.2.1) 0 0)==(4611686018427387904:Int)) else false)) else none else none :=
 Eq.trans (by kernel_rfl)
 (Fq (Ay (Nv (((Dx 1 1 [(4611686018427387904:Int)] 1 1 [(4616189618054758400:Int)]).2.2.2)==(0:Int))) (Ay (Kf (((Dx 1 1 [(4611686018427387904:Int)] 1 1 [(4616189618054758400:Int)]).2.2.2)==(0:Int))) (Ay (Kf (((Dx 1 1 [(4611686018427387904:Int)] 1 1 [(4616189618054758400:Int)]).2.2.2)==(0:Int))) (Ay (Kf (((Dx 1 1 [(4611686018427387904:Int)] 1 1 [(4616189618054758400:Int)]).2.2.2)==(0:Int))) (Ay (S9 (((Dx 1 1 [(4611686018427387904:Int)] 1 1 [(4616189618054758400:Int)]).2.2.2)==(0:Int))) (Ay (Arz (((Dx 1 1 [(4611686018427387904:Int)] 1 1 [(4616189618054758400:Int)]).2.2.2)==(0:Int)) ((length ((Dx 1 1 [(4611686018427387904:Int)] 1 1 [(4616189618054758400:Int)]).2.2.1):Int)==(1:Int))) (Ay (Ain (((Dx 1 1 [(4611686018427387904:Int)] 1 1 [(4616189618054758400:Int)]).2.2.2)==(0:Int)) ((length ((Dx 1 1 [(4611686018427387904:Int)] 1 1 [(4616189618054758400:Int)]).2.2.1):Int)==(1:Int))) (Cy (Atz (((Dx 1 1 [(4611686018427387904:Int)] 1 1 [(4616189618054758400:Int)]).2.2.2)==(0:Int)) ((length ((Dx 1 1 [(4611686018427387904:Int)] 1 1 [(4616189618054758400:Int)]).2.2.1):Int)==(1:Int)) (decide ((0:Int)<(length ((Dx 1 1 [(4611686018427387904:Int)] 1 1 [(4616189618054758400:Int)]).2.2.1):Int)))) (Ay (Ain (((Dx 1 1 [(4611686018427387904:Int)] 1 1 [(4616189618054758400:Int)]).2.2.2)==(0:Int)) ((length ((Dx 1 1 [(4611686018427387904:Int)] 1 1 [(4616189618054758400:Int)]).2.2.1):Int)==(1:Int))) (Ay (Ain (((Dx 1 1 [(4611686018427387904:Int)] 1 1 [(4616189618054758400:Int)]).2.2.2)==(0:Int)) ((length ((Dx 1 1 [(4611686018427387904:Int)] 1 1 [(4616189618054758400:Int)]).2.2.1):Int)==(1:Int))) (Ay (Ar0 (((Dx 1 1 [(4611686018427387904:Int)] 1 1 [(4616189618054758400:Int)]).2.2.2)==(0:Int)) ((length ((Dx 1 1 [(4611686018427387904:Int)] 1 1 [(4616189618054758400:Int)]).2.2.1):Int)==(1:Int))) rfl))) rfl)))))))) rfl)
abbrev _root_.Go.Proofs.S1.Bi.Fu.Kn:=A7 prog 28 Bi.Fu.spec
theorem Bi.Fu.Ae (hk:A1 prog Bi.Fu.Bf) (h:Unit→Hyp Bi.Fu.E f28 Bi.Fu.ts Bi.Fu.pre Bi.Fu.out):Bi.Fu.Kn :=
 Am (A3 hk _ _ _) func28 (by kernel_rfl) (by kernel_rfl) (h ())
end EqLaw17
open Go Go.Den Go.C4 Go.Proofs
open EqLaw17
def Amg:List Int:=[4611686018427387904]
def Ao5:List Int:=[4616189618054758400]
theorem Ag7:Dx 1 1 Amg 1 1 Ao5=(1,1,Amg,0):=by decide +kernel
theorem Aor:Ap Amg=true:=Ao.2 fun x hx=>by
 rw [List.mem_singleton.1 hx]; exact B2 (n:=4611686018427387904) (by decide)
theorem Alu:Ap Ao5=true:=Ao.2 fun x hx=>by
 rw [List.mem_singleton.1 hx]; exact B2 (n:=4616189618054758400) (by decide)
theorem Bi.Fu.known:Bi.Fu.Kn:=Bi.Fu.Ae (.cons solve.Fv.known .nil) fun _ _=>by
 refine ⟨0,Bi.Fu.out [],[],?_,.bool⟩
 have h2:Ap [(4611686018427387904:Int)]=true:=Aor
 have h3:Ap [(4616189618054758400:Int)]=true:=Alu
 have h4:Dx (1:Int) (1:Int) [(4611686018427387904:Int)] (1:Int) (1:Int) [(4616189618054758400:Int)]=(1,1,Amg,0):=Ag7
 rw [Bi.Fu.ev,h2,h3,h4]
 rfl
open Go Go.Den Go.C4 Go.Proofs
set_option maxRecDepth 100000
namespace EqLaw21
end EqLaw21
open Go Go.Den Go.C4 Go.Proofs
open EqLaw21
theorem Ak5 {v e:Int} {t:Nat} (h:v.natAbs<2^t) (h0:0<t) (he:-3000≤e∧e≤3000) (ht:t≤300):H3 (eD v e)=true:=by
 refine Ao.2 ?_
 unfold eD
 by_cases k:v=0
 ·rw [Avu k]; omega
 ·rw [Avt k]
  have:=Aij (m:=v.natAbs) (t:=t) h (by omega)
  omega
end Go.Proofs.S1
namespace Go.C4
open Go.Den
end Go.C4
namespace Go.C4
open Go.Den
theorem Amy {V u k:Nat} {E:Int} (hk:k≤1023) (h:V≤2^u) (g:(u:Int)+E≤k):B3 V E≤pw k:=by
 refine Awe (Sb h) ?_
 obtain ⟨t,ht⟩:∃ t:Nat,t=1074:=⟨1074,rfl⟩
 rw [← Am4 hk,← ht]
 by_cases hE:-1074≤E
 ·have s:=(C1 (2^u) (E+1074).toNat E).1
  rw [show E-((E+1074).toNat:Int)=-1074 by omega,← Avw] at s
  rw [← s]
  exact Sb (Avm (by decide) (by omega))
 ·have s:=(C1 (2^(k+t)) (-1074-E).toNat (-1074)).1
  rw [show (-1074:Int)-((-1074-E).toNat:Int)=E by omega,← Avw] at s
  rw [← s]
  exact Sb (Avm (by decide) (by omega))
structure Lo (t:Nat) (a:Nat):Prop where
 k3:As a≠3
 k4:As a≠4
 m0:Aw a≠0
 log:-(t:Int)≤((Aw a).log2:Int)+A2 a
end Go.C4
namespace Go.C4
open Go.Den
theorem Wh.at {x v:Int} (h:Wh x v):∃ g:Int,g≤0∧g≤A2 x.toNat∧∀ f:Int,f≤g→Gu x.toNat f=v*((2^(-f).toNat:Nat):Int):=by
 obtain ⟨g,g0,gp,hv⟩:=h.val
 refine ⟨g,g0,gp,fun f hf=>?_⟩
 rw [Wz (f:=g) (k:=(g-f).toNat) (by omega) gp,hv,Int.mul_assoc,← Avs,← Avw]
 congr 4
 omega
theorem Uw (s:Bool):Gv s 0=0:=by cases s<;>rfl
theorem Qv (s:Bool) (m k:Nat):Gv s (m*k)=Gv s m*(k:Int):=by
 unfold Gv
 split
 ·rw [Avs,Int.neg_mul]
 ·rw [Avs]
theorem Amu (s t:Bool) (m n:Nat):Gv (s !=t) (m*n)=Gv s m*Gv t n:=by
 cases s<;>cases t<;>simp [Gv,Int.neg_mul,Int.mul_neg]
theorem Wy (s:Bool) {V:Nat} (h:V<2^53):Wh ((B5 s (B3 V 0):Nat):Int) (Gv s V):=by
 have hl:=Q0 V 0
 have hw:Ah ((B5 s (B3 V 0):Nat):Int)=true:=B2 (Nz s V 0)
 have hu:B3 V 0≤pw 53:=Amy (u:=53) (by decide) (by omega) (by omega)
 have hi:B3 V 0<F2:=Av9 hu (U3 (by decide)).2.2.2.2
 have k4:=Ag9 s V 0
 have k3:As (B5 s (B3 V 0))≠3:=fun e=>by
  have:=Anw e
  have e2:B5 s (B3 V 0)%2^63=B3 V 0:=by unfold B5; split<;>omega
  omega
 by_cases h0:V=0
 ·subst h0
  have e:B3 0 0=0:=by unfold B3; rw [Avu rfl]
  rw [Uw]
  rw [e] at hw k3 k4 ⊢
  refine ⟨hw,by rw [Au9]; exact k3,by rw [Au9]; exact k4,-1074,by decide,?_,?_⟩
  ·rw [Au9]; exact (Em _).1
  ·rw [Au9,Int.zero_mul]
   have:Aw (B5 s 0)=0:=by cases s<;>decide
   unfold Gu
   rw [this,Nat.zero_mul,Uw]
 ·obtain ⟨_,k,p1,p2⟩:=V2 s h0 (Tj h (by omega)) hi
  refine ⟨hw,by rw [Au9]; exact k3,by rw [Au9]; exact k4,-(k:Int),by omega,?_,?_⟩
  ·rw [Au9,p2]; omega
  ·rw [Au9]
   unfold Gu
   rw [p1,p2,sign_neg s hl,show (0-(k:Int) - -(k:Int)).toNat=0 by omega,Av5,Awg,show (- -(k:Int)).toNat=k by omega]
   exact Qv s V (2^k)
theorem Aep (v:Int):Gv (decide (v<0)) v.natAbs=v:=by
 unfold Gv
 by_cases h:v<0
 ·rw [Avu (Au8 h)]; omega
 ·rw [Avt (by rw [Avc h]; decide)]; omega
theorem Wh.zero:Wh 0 0:=Wy false (V:=0) (by decide)
theorem Wh.neg {b w:Int} (h:Wh b w):Wh (C6 b) (-w):=by
 have hb:=Ye h.word
 obtain ⟨g,g0,gp,hv⟩:=h.val
 obtain ⟨v1,v2,v3⟩:=Afu hb g
 have hf:I1 b.toNat=true:=by rw [Xr]; simp [h.k3,h.k4]
 have k':=Me (v3.trans hf)
 have e:(C6 b).toNat=Gy b.toNat:=Au9 _
 refine ⟨Vf h.word,by rw [e]; exact k'.2,by rw [e]; exact k'.1,g,g0,by rw [e,v2]; exact gp,?_⟩
 rw [e,v1,hv,Int.neg_mul]
theorem Wh.Aq6 (s:Bool):Wh ((B5 s 0:Nat):Int) 0:=by
 have h:=Wy s (V:=0) (by decide)
 have e:B3 0 0=0:=by unfold B3; rw [Avu rfl]
 rw [e,Uw] at h
 exact h
theorem Ai3 (z:Bool) {S v m g:Int} (hg:g≤m) (g0:g≤0) (hS:S*((2^(m-g).toNat:Nat):Int)=v*((2^(-g).toNat:Nat):Int)) (h:v.natAbs<2^53):Wh ((Lk (B5 z 0) S m).1:Nat) v:=by
 have p1:(0:Int)<((2^(m-g).toNat:Nat):Int):=by have:=B4 (m-g).toNat; omega
 have p2:(0:Int)<((2^(-g).toNat:Nat):Int):=by have:=B4 (-g).toNat; omega
 unfold Lk
 by_cases h0:S=0
 ·rw [Avu h0]
  rw [h0,Int.zero_mul] at hS
  have:v=0:=by
   rcases Int.mul_eq_zero.1 hS.symm with e | e
   ·exact e
   ·omega
  rw [this]
  exact .Aq6 z
 ·rw [Avt h0]
  have e1:=(C1 S.natAbs (m-g).toNat m).1
  have e2:=(C1 v.natAbs (-g).toNat 0).1
  have e3:S.natAbs*2^(m-g).toNat=v.natAbs*2^(-g).toNat:=by
   have:=congrArg Int.natAbs hS
   rw [Int.natAbs_mul,Int.natAbs_mul,Int.natAbs_natCast,Int.natAbs_natCast] at this
   exact this
  rw [show m-((m-g).toNat:Int)=g by omega,e3] at e1
  rw [show (0:Int)-((-g).toNat:Int)=g by omega] at e2
  have e4:B3 S.natAbs m=B3 v.natAbs 0:=e1.symm.trans e2
  have e5:decide (S<0)=decide (v<0):=by
   have q:S*((2^(m-g).toNat:Nat):Int)<0↔S<0:=by
    have:S*((2^(m-g).toNat:Nat):Int)<0*((2^(m-g).toNat:Nat):Int)↔S<0:=Int.mul_lt_mul_right p1
    rw [Int.zero_mul] at this; exact this
   have r:v*((2^(-g).toNat:Nat):Int)<0↔v<0:=by
    have:v*((2^(-g).toNat:Nat):Int)<0*((2^(-g).toNat:Nat):Int)↔v<0:=Int.mul_lt_mul_right p2
    rw [Int.zero_mul] at this; exact this
   rw [hS] at q
   exact decide_eq_decide.2 (q.symm.trans r)
  dsimp only
  rw [e4,e5]
  have:=Wy (decide (v<0)) h
  rw [Aep] at this
  exact this
theorem Wh.add {a b v w:Int} (ha:Wh a v) (hb:Wh b w) (h:(v+w).natAbs<2^53):Wh (Hx a b) (v+w):=by
 obtain ⟨g1,a0,ap,av⟩:=ha.at
 obtain ⟨g2,b0,bp,bv⟩:=hb.at
 have e:=Al1 (a:=a.toNat) (b:=b.toNat) (by have:=ha.k4; have:=hb.k4; omega) ha.k3 hb.k3
 obtain ⟨g,hg⟩:∃ g,g=min g1 g2:=⟨_,rfl⟩
 obtain ⟨m,hm⟩:∃ m,m=min (A2 a.toNat) (A2 b.toNat):=⟨_,rfl⟩
 have av:=av g (by omega)
 have bv:=bv g (by omega)
 rw [Wz (f:=m) (k:=(m-g).toNat) (by omega) (by omega)] at av bv
 unfold Hx
 rw [e,← hm]
 refine Ai3 _ (g:=g) (by omega) (by omega) ?_ h
 rw [Int.add_mul,Int.add_mul,av,bv]
theorem Wh.sub {a b v w:Int} (ha:Wh a v) (hb:Wh b w) (h:(v-w).natAbs<2^53):Wh (El a b) (v-w):=by
 have:=ha.add hb.neg (by rw [← Int.sub_eq_add_neg]; exact h)
 rw [← Int.sub_eq_add_neg] at this
 have e:Hx a (C6 b)=El a b:=by unfold Hx El C6 Ap0; rw [Au9]
 rw [e] at this
 exact this
theorem Wh.mag {x v:Int} (h:Wh x v):∃ g:Int,g≤0∧g≤A2 x.toNat∧Aw x.toNat*2^(A2 x.toNat-g).toNat=v.natAbs*2^(-g).toNat∧v=Gv (Db x.toNat) v.natAbs:=by
 obtain ⟨g,g0,gp,hv⟩:=h.val
 have p2:(0:Int)<((2^(-g).toNat:Nat):Int):=by have:=B4 (-g).toNat; omega
 unfold Gu at hv
 have h1:=congrArg Int.natAbs hv
 rw [Amv,Int.natAbs_mul,Int.natAbs_natCast] at h1
 refine ⟨g,g0,gp,h1,?_⟩
 rw [h1,Qv] at hv
 exact (Int.eq_of_mul_eq_mul_right (by omega) hv).symm
theorem Wh.mul {a b v w:Int} (ha:Wh a v) (hb:Wh b w) (h:(v*w).natAbs<2^53):Wh (Ej a b) (v*w):=by
 obtain ⟨g,g0,gp,gm,gs⟩:=ha.mag
 obtain ⟨f,f0,fp,fm,fs⟩:=hb.mag
 have e1:=(C1 (Aw a.toNat*Aw b.toNat) ((A2 a.toNat-g).toNat+(A2 b.toNat-f).toNat) (A2 a.toNat+A2 b.toNat)).1
 rw [Avw,Nat.mul_mul_mul_comm,gm,fm,Nat.mul_mul_mul_comm,← Avw] at e1
 have e2:=(C1 (v.natAbs*w.natAbs) ((-g).toNat+(-f).toNat) 0).1
 rw [show A2 a.toNat+A2 b.toNat-(((A2 a.toNat-g).toNat+(A2 b.toNat-f).toNat:Nat):Int)=g+f by omega] at e1
 rw [show (0:Int)-(((-g).toNat+(-f).toNat:Nat):Int)=g+f by omega] at e2
 have e3:=e1.symm.trans e2
 rw [Int.natAbs_mul] at h
 have hw:=Wy (Db a.toNat !=Db b.toNat) h
 rw [Amu,← gs,← fs,← e3] at hw
 unfold Ej Vc
 rw [Avt (by have:=ha.k4; have:=hb.k4; omega),Avt (by have:=ha.k3; have:=hb.k3; omega)]
 exact hw
theorem Wh.fw {x v:Int} (h:Wh x v):Dd x=true:=by
 unfold Dd; rw [Xr]; simp [h.k3,h.k4]
theorem Aef (x g:Int):Gu x.toNat g=Tz (Ba x) (Az x) g:=by
 unfold Gu Tz Ba Az
 exact Qv _ _ _
theorem Wh.z {x v:Int} (h:Wh x v):zI x=v:=by
 obtain ⟨g,g0,gp,hv⟩:=h.at
 have ep:Az x=A2 x.toNat:=rfl
 have h1:=hv g (by omega)
 have h2:=R1 (v:=Ba x) (e:=Az x) (h:=min (Az x) 0) (g:=g) (by omega) (by omega)
 rw [← Aef,h1] at h2
 have p:(0:Int)<((2^(min (Az x) 0-g).toNat:Nat):Int):=by have:=B4 (min (Az x) 0-g).toNat; omega
 have q:(0:Int)<((2^(-(min (Az x) 0)).toNat:Nat):Int):=by have:=B4 (-(min (Az x) 0)).toNat; omega
 have e:(-g).toNat=(-(min (Az x) 0)).toNat+(min (Az x) 0-g).toNat:=by omega
 rw [e,Avw,Avs,← Int.mul_assoc] at h2
 have h3:=Int.eq_of_mul_eq_mul_right (by omega) h2
 unfold zI
 rw [← h3]
 exact Int.mul_ediv_cancel _ (by omega)
theorem Sm.of {b:Nat} {x v:Int} (h:Wh x v) (g:v.natAbs≤b):Sm b x:=by
 have e:=h.z
 exact ⟨by rw [e]; exact h,by rw [e]; exact g⟩
theorem Sm.mono {b d:Nat} {x:Int} (h:Sm b x) (g:b≤d):Sm d x:=⟨h.1,Awe h.2 g⟩
def Oc (c:Int) (l:List Int) (i:Int):Int→Int→List Int→Int
 | s,_,[]=>s
 | s,j,x::xs=>Oc c l i (s-zI (Cv c l i j)*zI x) (j+1) xs
theorem O8 {a b p:Nat} {v w:Int} (hv:v.natAbs≤a) (hw:w.natAbs≤b) (h:a*b≤p):(v*w).natAbs≤p:=by
 rw [Int.natAbs_mul]
 exact Awe (Av3 hv hw) h
theorem Afa {c:Int} {l:List Int} {i:Int} {B:Nat}:∀ (xs:List Int) (s j:Int) (S:Nat),(∀ t:Nat,t<xs.length→Sm 3 (Cv c l i (j+t)))→(∀ x∈xs,Sm B x)→Sm S s→S+3*B*xs.length<2^53 →
 Wh (Iq c l i s j xs) (Oc c l i (zI s) j xs)∧(Oc c l i (zI s) j xs).natAbs≤S+3*B*xs.length
 | [],s,j,S,_,_,hs,_=>⟨hs.1,hs.2⟩
 | x::xs,s,j,S,ha,hx,hs,hB=>by
   simp only [List.length_cons] at hB ⊢
   rw [Nat.mul_add,Awg] at hB ⊢
   have h0:=ha 0 (by simp)
   rw [show j+((0:Nat):Int)=j by omega] at h0
   have hx0:=hx x Awm
   have hm:(zI (Cv c l i j)*zI x).natAbs≤3*B:=O8 h0.2 hx0.2 (Av1 _)
   have w1:=h0.1.mul hx0.1 (by omega)
   have hd:(zI s-zI (Cv c l i j)*zI x).natAbs≤S+3*B:=by have:=hs.2; omega
   have w2:=hs.1.sub w1 (by omega)
   have ih:=Afa xs (El s (Ej (Cv c l i j) x)) (j+1) (S+3*B) (fun t ht=>by
    have:=ha (t+1) (by simp only [List.length_cons]; omega)
    rw [show j+((t+1:Nat):Int)=j+1+(t:Int) by omega] at this
    exact this) (fun y hy=>hx y (Awc _ hy)) (.of w2 hd) (by omega)
   rw [w2.z] at ih
   unfold Iq Oc
   exact ⟨ih.1,by omega⟩
theorem Mf {xs ys:List Int} {j:Nat} (h1:j<xs.length) (h2:j<ys.length):Dv (xs.drop j) (ys.drop j)=zI (xs.getD j 0)*zI (ys.getD j 0)+Dv (xs.drop (j+1)) (ys.drop (j+1)):=by
 rw [List.drop_eq_getElem_cons h1,List.drop_eq_getElem_cons h2,Avh,Avo h1,Avh,Avo h2]
 rfl
def Sc (n:Nat) (l:List Int) (i:Nat):List Int:=(List.range n).map fun j:Nat=>Cv (n:Int) l (i:Int) (j:Int)
theorem Lx (n:Nat) (l:List Int) (i:Nat):(Sc n l i).length=n:=by unfold Sc; rw [Awd,Awa]
theorem Q3 {n i j:Nat} {l:List Int} (h:j<n):(Sc n l i).getD j 0=Cv (n:Int) l (i:Int) (j:Int):=by
 unfold Sc
 rw [Avh,Awo,List.getElem?_range h]
 rfl
theorem Vn {n i:Nat} {l x:List Int} (hx:x.length=n):∀ (m j:Nat) (S:Int),j+m≤n→Oc (n:Int) l (i:Int) S (j:Int) ((x.drop j).take m)=S-(Dv ((Sc n l i).drop j) (x.drop j)-Dv ((Sc n l i).drop (j+m)) (x.drop (j+m)))
 | 0,j,S,_=>by
   rw [List.take_zero,Awf]
   unfold Oc
   omega
 | m+1,j,S,h=>by
   have h1:j<(Sc n l i).length:=by rw [Lx]; omega
   have h2:j<x.length:=by omega
   have ih:=Vn (i:=i) (l:=l) hx m (j+1) (S-zI (Cv (n:Int) l (i:Int) (j:Int))*zI (x.getD j 0)) (by omega)
   rw [Mf h1 h2,Q3 (by omega),List.drop_eq_getElem_cons h2,List.take_succ_cons]
   unfold Oc
   have e:x[j]=x.getD j 0:=by rw [Avh,Avo h2]; rfl
   rw [e,show (j:Int)+1=((j+1:Nat):Int) by omega,ih,show j+1+m=j+(m+1) by omega]
   omega
theorem V6 {n:Nat} {xs ys:List Int} (h:xs.length=n):Dv (xs.drop n) (ys.drop n)=0:=by
 rw [Avl (by omega)]
 rfl
theorem Sv {n i:Nat} {l x:List Int} (hx:x.length=n):∀ (m j:Nat),j+m≤n→(∀ t,j≤t→t<j+m→zI (Cv (n:Int) l (i:Int) (t:Int))=0)→Dv ((Sc n l i).drop j) (x.drop j)=Dv ((Sc n l i).drop (j+m)) (x.drop (j+m))
 | 0,j,_,_=>rfl
 | m+1,j,h,hz=>by
   rw [Mf (by rw [Lx]; omega) (by omega),Q3 (by omega),hz j (Av1 _) (by omega),Int.zero_mul,Int.zero_add,Sv hx m (j+1) (by omega) (fun t h1 h2=>hz t (by omega) (by omega)),show j+1+m=j+(m+1) by omega]
theorem Ajg:Wh Wo 1:=by
 have h:=Wy false (V:=1) (by decide)
 have e:B5 false (B3 1 0)=4607182418800017408:=by decide +kernel
 rw [e] at h
 exact h
theorem Aec:zI 0=0:=Wh.zero.z
theorem Ah5:zI Wo=1:=Ajg.z
structure Ah2 (n:Nat) (l:List Int) (b:Nat→Int):Prop where
 six:n≤6
 small:∀ i k:Nat,i<n→k<n→Sm 3 (Cv (n:Int) l (i:Int) (k:Int))
 one:∀ i:Nat,i<n→Cv (n:Int) l (i:Int) (i:Int)=Wo
 side:∀ i:Nat,i<n→Sm 99 (b i)
theorem T3 {n:Nat} {l:List Int} {b:Nat→Int} (h:Ah2 n l b) {i k:Nat} {j:Int} {xs:List Int} (hi:i<n) (hk:k≤5) (hl:xs.length=k) (hj:∀ t:Nat,t<k→∃ u:Nat,u<n∧j+(t:Int)=u) (hx:∀ x∈xs,Sm (2^(3+4*k)) x) :
 Sm (2^(3+4*(k+1))) (Ek (Iq (n:Int) l (i:Int) (b i) j xs) (Cv (n:Int) l (i:Int) (i:Int)))∧zI (Ek (Iq (n:Int) l (i:Int) (b i) j xs) (Cv (n:Int) l (i:Int) (i:Int)))=Oc (n:Int) l (i:Int) (zI (b i)) j xs:=by
 have hB:99+3*2^(3+4*k)*k≤2^(3+4*(k+1))∧99+3*2^(3+4*k)*k<2^53:=by
  rcases (show k=0∨k=1∨k=2∨k=3∨k=4∨k=5 by omega) with rfl | rfl | rfl | rfl | rfl | rfl<;>decide
 obtain ⟨w1,w2⟩:=Afa (c:=(n:Int)) (l:=l) (i:=(i:Int)) xs (b i) j 99 (fun t ht=>by
  obtain ⟨u,hu,e⟩:=hj t (by omega)
  rw [e]; exact h.small i u hi hu) hx (h.side i hi) (by rw [hl]; exact hB.2)
 rw [hl] at w2
 rw [h.one i hi,show Ek (Iq (n:Int) l (i:Int) (b i) j xs) Wo=Iq (n:Int) l (i:Int) (b i) j xs from Ald ⟨w1.word,w1.fw⟩]
 exact ⟨.of w1 (by omega),w1.z⟩
theorem Aib {n:Nat} {l:List Int} {b:Nat→Int} (h:Ah2 n l b):∀ k,k≤n→∀ x∈Rz (n:Int) l b n k,Sm (2^(3+4*k)) x
 | 0,_,x,hx=>by cases hx
 | k+1,hk,x,hx=>by
   have h6:=h.six
   have ih:=Aib h k (by omega)
   unfold Rz at hx
   rcases List.mem_cons.1 hx with rfl | hx
   ·exact (T3 h (i:=n-1-k) (k:=k) (by omega) (by omega) (Hi _ _ _ _ _) (fun t ht=>⟨n-k+t,by omega,by omega⟩) ih).1
   ·exact (ih x hx).mono (Avm (by decide) (by omega))
theorem Aj5 {n:Nat} {l:List Int} {b:Nat→Int} (h:Ah2 n l b):∀ k,k≤n→∀ x∈R0 (n:Int) l b k,Sm (2^(3+4*k)) x
 | 0,_,x,hx=>by cases hx
 | k+1,hk,x,hx=>by
   have h6:=h.six
   have ih:=Aj5 h k (by omega)
   unfold R0 at hx
   rcases List.mem_append.1 hx with hx | hx
   ·exact (ih x hx).mono (Avm (by decide) (by omega))
   ·rw [List.mem_singleton.1 hx]
    exact (T3 h (i:=k) (k:=k) (by omega) (by omega) (Fc _ _ _ _) (fun t ht=>⟨t,by omega,by omega⟩) ih).1
theorem Kv {l:List Int} {j:Nat} {P:Int→Prop} (h:∀ x∈l,P x) (hj:j<l.length):P (l.getD j 0):=by
 rw [Avh,Avo hj]; exact h _ (List.getElem_mem hj)
theorem Aid {n:Nat} {l:List Int} {b:Nat→Int} (h:Ah2 n l b) (hz:∀ i k:Nat,i<n→k<i→Cv (n:Int) l (i:Int) (k:Int)=0) {i:Nat} (hi:i<n):Dv (Sc n l i) (Rz (n:Int) l b n n)=zI (b i):=by
 have h6:=h.six
 have hlen:=Hi (n:Int) l b n n
 have t1:=Um (c:=(n:Int)) (l:=l) (b:=b) (n:=n) (k:=n-1-i) (by omega)
 rw [show n-(n-1-i)=i+1 by omega] at t1
 have sm:=Aib h (n-1-i) (by omega)
 have hr:=Aeh (c:=(n:Int)) (l:=l) (b:=b) hi
 have e1:=(T3 h (i:=i) (k:=n-1-i) (j:=((i+1:Nat):Int)) hi (by omega) (Hi _ _ _ _ _) (fun t ht=>⟨i+1+t,by omega,by omega⟩) sm).2
 rw [← t1] at e1
 have e2:zI ((Rz (n:Int) l b n n).getD i 0)=Oc (n:Int) l (i:Int) (zI (b i)) ((i+1:Nat):Int) ((Rz (n:Int) l b n n).drop (i+1)):=by rw [hr]; exact e1
 generalize Rz (n:Int) l b n n=x at hlen e2
 have tel:=Vn (i:=i) (l:=l) hlen (n-1-i) (i+1) (zI (b i)) (by omega)
 rw [show i+1+(n-1-i)=n by omega,V6 (Lx n l i),List.take_of_length_le (by rw [List.length_drop]; omega)] at tel
 have z0:=Sv (i:=i) (l:=l) hlen i 0 (by omega) (fun t _ h2=>by rw [hz i t hi (by omega),Aec])
 have d:=Mf (xs:=Sc n l i) (ys:=x) (j:=i) (by rw [Lx]; exact hi) (by omega)
 rw [Q3 hi,h.one i hi,Ah5] at d
 rw [List.drop_zero,List.drop_zero,Awh] at z0
 omega
theorem Aj7 {n:Nat} {l:List Int} {b:Nat→Int} (h:Ah2 n l b) (hz:∀ i k:Nat,i<k→k<n→Cv (n:Int) l (i:Int) (k:Int)=0) {i:Nat} (hi:i<n):Dv (Sc n l i) (R0 (n:Int) l b n)=zI (b i):=by
 have h6:=h.six
 have hlen:=Fc (n:Int) l b n
 have t1:=Vk (c:=(n:Int)) (l:=l) (b:=b) (n:=n) (k:=i) (by omega)
 have sm:=Aj5 h i (by omega)
 have hr:=Ae9 (c:=(n:Int)) (l:=l) (b:=b) hi
 have e1:=(T3 h (i:=i) (k:=i) (j:=0) hi (by omega) (Fc _ _ _ _) (fun t ht=>⟨t,by omega,by omega⟩) sm).2
 rw [← t1] at e1
 have e2:zI ((R0 (n:Int) l b n).getD i 0)=Oc (n:Int) l (i:Int) (zI (b i)) 0 ((R0 (n:Int) l b n).take i):=by rw [hr]; exact e1
 generalize R0 (n:Int) l b n=x at hlen e2
 have tel:=Vn (i:=i) (l:=l) hlen i 0 (zI (b i)) (by omega)
 rw [List.drop_zero,List.drop_zero,Awh] at tel
 have tel:Oc (n:Int) l (i:Int) (zI (b i)) 0 (x.take i)=_:=tel
 have z0:=Sv (i:=i) (l:=l) hlen (n-(i+1)) (i+1) (by omega) (fun t h1 h2=>by rw [hz i t (by omega) (by omega),Aec])
 rw [show i+1+(n-(i+1))=n by omega,V6 (Lx n l i)] at z0
 have d:=Mf (xs:=Sc n l i) (ys:=x) (j:=i) (by rw [Lx]; exact hi) (by omega)
 rw [Q3 hi,h.one i hi,Ah5] at d
 omega
end Go.C4
end
