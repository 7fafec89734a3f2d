/- A verified evaluator of the program's form and its use for this seat: S1PSol, S1EqQr, S1PQr, S1PQrA, S1EqRef17, S1PRef17, S1EqRef14, S1PRef13, S1PRef14, S1EqLow, S1PLow, S1EqLse, S1PLse, S1POfS, S1EqRef20, S1PSubSt, S1PLseA, S1PRefL, S1PRef20, S1PRef20A, S1PRef20B, S1EqLaw17, S1PLaw17, S1EqLaw20, S1PLaw20. -/
import Derived.Test.YtjbokjpbiobjpaaGreatTJ
import Derived.Test.YtjbokjpbiobjpaaGreatTE
import Derived.Test.YtjbokjpbiobjpaaGreatTF
import Derived.Test.YtjbokjpbiobjpaaGreatTI
set_option linter.unusedVariables false
set_option linter.unusedSimpArgs false
noncomputable section
open Int (toNat)
open List (length getD)
open Go.Proofs.Tryz
namespace Go.Proofs.S1
open Go Go.Den Go.Rnd Go.Proofs
open EqSol EqFew
theorem Ad9 {n i:Nat} (h:i<n):(List.range n).drop i=i::(List.range n).drop (i+1):=by
 rw [List.drop_eq_getElem_cons (by rw [Ax6]; exact h),List.getElem_range]
theorem E7 {r c:Int} {l:List Int} (h:Bo r c l=0):Ak r c l=true∧Da l=true:=by
 unfold Bo at h
 by_cases h1:Ak r c l=true
 ·rw [Axq h1] at h
  by_cases h2:Da l=true
  ·exact ⟨h1,h2⟩
  ·rw [Axp h2] at h; exact absurd h (by decide)
 ·rw [Axp h1] at h; exact absurd h (by decide)
theorem Afc {r c:Int} {l:List Int} (h1:Ak r c l=true) (h2:Da l=true):Bo r c l=0:=by unfold Bo; rw [Axq h1,Axq h2]
theorem Qv {x:Int} (h:x≠0):(x !=(0:Int))=true:=by simpa using h
theorem Fh {x:Int} (h:x=0):(x !=(0:Int))=false:=by rw [h]; rfl
theorem Afd (N:Nat) {n:Nat} {l:List Int} (n6:n≤6) (hl:l.length=n*n) (al:Af l=true):∀ (cnt i F:Nat),i+cnt=n→cnt<F →
 solve.check.L0 (N+4) F (n:Int) (n:Int) l (i:Int)=some (.int .i64 (if ((List.range n).drop i).any (fun i:Nat=>decide (Av (Di (n:Int) l (i:Int) (i:Int))=0))=true then 5 else 0)):=by
 intro cnt
 induction cnt with
 | zero =>
   intro i F hi hF
   obtain ⟨F,rfl⟩:∃ G,F=G+1:=⟨F-1,by omega⟩
   rw [solve.check.Aw,Au,Aw8 (by omega),Aw7,Axh (by rw [Ax6]; omega)]; rfl
 | succ cnt ih =>
   intro i F hi hF
   obtain ⟨F,rfl⟩:∃ G,F=G+1:=⟨F-1,by omega⟩
   obtain ⟨e1,g1,g2⟩:=Hi (R:=(n:Int)) (F8 n6 n6 hl (show i<n by omega) (show i<n by omega))
   have hx:getD l (toNat ((i:Int)*(n:Int)+(i:Int))) 0=Di (n:Int) l (i:Int) (i:Int):=rfl
   rw [solve.check.Aw,Au,Aw4 (show (i:Int)<(n:Int) by omega),Aw3,e1,Aw4 g1,Aw4 g2,Aw9,Aw3,hx,Ha al,Aw3,Ad9 (by omega),List.any_cons]
   by_cases hk:Av (Di (n:Int) l (i:Int) (i:Int))=0
   ·have e:(Av (Di (n:Int) l (i:Int) (i:Int))==(0:Int))=true:=by rw [hk]; rfl
    rw [e,Aw3,Aw4 hk]; rfl
   ·have e:(Av (Di (n:Int) l (i:Int) (i:Int))==(0:Int))=false:=by simpa using hk
    rw [e,Aw7,Aw8 hk,Bool.false_or,Ao (by omega) (by omega)]
    exact ih (i+1) F (by omega) (by omega)
theorem Aup {r c p:Int}:((r !=c)||(r !=p))=decide (r≠c∨r≠p):=by
 rw [Axj]; simp
theorem solve.check.known:solve.check.Kn:=solve.check.Ad (.cons B6.Check.known (.cons soft.Kind.known .nil)) fun r c l p q m hp=>by
 obtain ⟨al,am⟩:=Ae.1 (show (Af l&&Af m)=true from hp)
 refine ⟨14,solve.check.out [.i r,.i c,.l l,.i p,.i q,.l m],[],?_,.int⟩
 show _=some (DV.int .i64 (Nw r c l p q m))
 rw [show (14:Nat)=10+4 from rfl,solve.check.ev,al,Aw3,am,Aw3,Aup]
 unfold Nw
 by_cases h1:Bo r c l=0
 ·rw [Fh h1,Aw7,Axp (by rw [h1]; decide)]
  by_cases h2:Bo p q m=0
  ·rw [Fh h2,Aw7,Axp (by rw [h2]; decide)]
   by_cases h3:r≠c∨r≠p
   ·rw [Aw4 h3,Aw3,Axq h3]
   ·rw [Aw8 h3,Aw7,Axp h3]
    obtain rfl:r=c:=Decidable.byContradiction fun h=>h3 (.inl h)
    obtain ⟨R,C,rfl,hC,r6,c6,hl⟩:=C2 (E7 h1).1
    obtain rfl:R=C:=by omega
    rw [Aw5]
    exact Afd 10 r6 hl al R 0 14 (by omega) (by omega)
  ·rw [Qv h2,Aw3,Axq h2]
 ·rw [Qv h1,Aw3,Axq h1]
theorem P1 {r c:Int} {l:List Int} {p q:Int} {m:List Int} (h:Nw r c l p q m=0):Ak r c l=true∧Ak p q m=true∧r=c∧r=p:=by
 unfold Nw at h
 by_cases h1:Bo r c l=0
 ·rw [Axp (by rw [h1]; decide)] at h
  by_cases h2:Bo p q m=0
  ·rw [Axp (by rw [h2]; decide)] at h
   by_cases h3:r≠c∨r≠p
   ·rw [Axq h3] at h; exact absurd h (by decide)
   ·exact ⟨(E7 h1).1,(E7 h2).1,Decidable.byContradiction fun h=>h3 (.inl h),Decidable.byContradiction fun h=>h3 (.inr h)⟩
  ·rw [Axq h2] at h; exact absurd h h2
 ·rw [Axq h1] at h; exact absurd h h1
theorem solve.Gi.known:solve.Gi.Kn:=solve.Gi.Ad (.cons solve.check.known (.cons solve.Aq.Up.known .nil)) fun r c l p q m hp=>by
 have hp:(Af l&&Af m)=true:=hp
 show ∃ N dv drops,_=some dv∧Wk drops dv (Qu (upX r c l p q m))
 unfold upX
 by_cases h:Nw r c l p q m=0
 ·obtain ⟨h1,h2,h3,h4⟩:=P1 h
  have ht:Oj r c l p q m=true:=Ae.2 ⟨Ae.2 ⟨h1,h2⟩,Ae.2 ⟨hp,At.2 ⟨h3,h4⟩⟩⟩
  rw [Axp (by rw [h]; decide)]
  exact ⟨0,_,[],by rw [solve.Gi.ev,hp,Aw3,Fh h,Aw7,ht,Aw4 rfl]; rfl,L6⟩
 ·rw [Axq h]
  exact ⟨0,_,[],by rw [solve.Gi.ev,hp,Aw3,Qv h,Aw3]; rfl,Ho⟩
theorem Ake {b:Nat} {n:Int} (h:b<2^64):(Dz b n).1<2^64:=by
 unfold Dz
 by_cases h4:Ag b=4
 ·rw [Axq h4]; exact (by decide:Pe<2^64)
 rw [Axp h4]
 by_cases h3:Ag b=3∨Ag b=0
 ·rw [Axq h3]; exact h
 rw [Axp h3]
 exact Rl _ _ _
theorem Iq {b n:Int} (h:Ah b=true):Ah (B4 b n)=true:=by
 obtain ⟨x,rfl,hx⟩:=Bt h
 exact B3 (Ake (by rw [Aw5]; exact hx))
theorem Xb:∀ (l:List Int) (m:Nat),m<2^64→Kl l m<2^64
 | [],m,h=>h
 | x::l,m,h=>by
   unfold Kl
   split
   ·exact (by decide:Pe<2^64)
   ·have h2:Dg x.toNat<2^63:=Zd x.toNat
    exact Xb l _ (by omega)
theorem Rb (l:List Int):Ah (A6 l)=true:=B3 (Xb l 0 (by decide))
theorem Alc (x:Int):Ah (Tp x)=true:=B3 (Nat.lt_trans (Zd x.toNat) (by decide))
theorem Ais (N:Nat) {d:List Int} (hd:Dh d=true) (h7:d.length≤1000):∀ (cnt i F:Nat),i+cnt=d.length→cnt<F →
 solve.Flat.L1 N F d (i:Int)=some (.tup [.bool ((d.drop i).any fun x=>!(decide (Xm (B4 (A6 d) (-40)) x<0))),.int .i64 0]):=by
 obtain ⟨_,hu⟩:=Ks hd
 intro cnt
 induction cnt with
 | zero =>
   intro i F hi hF
   obtain ⟨F,rfl⟩:∃ G,F=G+1:=⟨F-1,by omega⟩
   rw [solve.Flat.Ct,Au,Aw8 (by omega),Aw7,Axh (by omega)]; rfl
 | succ cnt ih =>
   intro i F hi hF
   obtain ⟨F,rfl⟩:∃ G,F=G+1:=⟨F-1,by omega⟩
   rw [solve.Flat.Ct,Au,Aw4 (show (i:Int)<(d.length:Int) by omega),Aw3,Aw4 (show (0:Int)≤(i:Int) by omega),Aw9,Aw3,Aw5,Aw4 (show i<d.length by omega),Aw3,
    Iq (Rb d),hu i (by omega),Aw9,Aw3,Ih (by omega),List.any_cons]
   cases decide (Xm (B4 (A6 d) (-40)) (d.getD i 0)<0) with
   | false=>rfl
   | true =>
     rw [Ax2,Aw7,Bool.false_or,Ao (by omega) (by omega)]
     exact ih (i+1) F (by omega) (by omega)
theorem Ap0 (c:Int) (l:List Int) (n:Nat):Af (Fx c l n)=true:=At.2 fun x hx=>by
 obtain ⟨j,_,rfl⟩:=List.mem_map.1 hx
 exact Alc _
theorem Ly (c:Int) (l:List Int) (n:Nat):(Fx c l n).length=n:=by unfold Fx; rw [Ax9,Ax6]
theorem Aiu (N:Nat) {R C:Nat} {l:List Int} (r6:R≤6) (c6:C≤6) (hN:7<N) (hl:l.length=R*C) (al:Af l=true):∀ (cnt i F:Nat),i+cnt=min R C→cnt<F →
 solve.Flat.L0 N F (R:Int) (C:Int) l (i:Int) (Fx (C:Int) l i)=some (.tup [.bool (Agm (Fx (C:Int) l (min R C))),.int .i64 0]):=by
 intro cnt
 induction cnt with
 | zero =>
   intro i F hi hF
   obtain ⟨F,rfl⟩:∃ G,F=G+1:=⟨F-1,by omega⟩
   obtain rfl:i=min R C:=by omega
   have hlt:(A0 (((min R C:Nat)):Int) (R:Int)&&A0 (((min R C:Nat)):Int) (C:Int))=false:=by
    rw [Au,Au,Bool.and_eq_false_iff,Axm,Axm]; omega
   have ok:=Kg (Ap0 (C:Int) l (min R C)) (by rw [Ly]; omega)
   have sp:E6 (A6 (Fx (C:Int) l (min R C))) (-40:Int)=true:=Ae.2 ⟨Rb _,At.2 (by omega)⟩
   rw [solve.Flat.Aw,hlt,Aw7,ok,Aw3,sp,Aw3]
   exact Ais N ok (by rw [Ly]; omega) (min R C) 0 N (by rw [Ly]; omega) (by omega)
 | succ cnt ih =>
   intro i F hi hF
   obtain ⟨F,rfl⟩:∃ G,F=G+1:=⟨F-1,by omega⟩
   obtain ⟨e1,g1,g2⟩:=Hi (R:=(R:Int)) (F8 r6 c6 hl (show i<R by omega) (show i<C by omega))
   have hx:getD l (toNat ((i:Int)*(C:Int)+(i:Int))) 0=Di (C:Int) l (i:Int) (i:Int):=rfl
   rw [solve.Flat.Aw,Au,Au,Aw4 (show (i:Int)<(R:Int) by omega),Aw4 (show (i:Int)<(C:Int) by omega),Aw9,Aw3,e1,Aw4 g1,Aw4 g2,Aw9,Aw3,hx,Ha al,Aw3,
    Ly,Aw4 (show i+1≤I5 by unfold I5; omega),Aw3,Ao (by omega) (by omega)]
   have:=ih (i+1) F (by omega) (by omega)
   unfold Fx at this ⊢
   rw [Hs] at this
   exact this
theorem solve.Flat.known:solve.Flat.Kn:=solve.Flat.Ad (.cons B6.Check.known (.cons compare.Sy.known (.cons compare.Jq.known (.cons Ac.Cf.known (.cons Ac.E2.known .nil))))) fun r c l hp=>by
 have hp:Af l=true:=hp
 refine ⟨8,solve.Flat.out [.i r,.i c,.l l],[],?_,Wk.G3 (.cons .bool (.cons .int .nil))⟩
 show _=some (DV.tup [.bool (I6 r c l).1,.int .i64 (I6 r c l).2])
 rw [solve.Flat.ev,hp,Aw3]
 unfold I6 Aah
 by_cases h1:Bo r c l=0
 ·obtain ⟨R,C,rfl,rfl,r6,c6,hl⟩:=C2 (E7 h1).1
  rw [Fh h1,Aw7,Axp (by rw [h1]; decide),Aw5,Aw5]
  exact Aiu 8 r6 c6 (by omega) hl hp (min R C) 0 8 (by omega) (by omega)
 ·rw [Qv h1,Aw3,Axq h1]
theorem Rw {r c:Int} {l:List Int} (al:Af l=true) (x y a b:Int):Af (Fk r c l x y a b).2.2.1=true:=by
 unfold Fk
 split
 ·split
  ·dsimp only
   exact Gv fun i k=>Ha al
  ·exact At.2 fun x h=>by cases h
 ·exact At.2 fun x h=>by cases h
theorem Ri {r c:Int} {l:List Int} (al:Af l=true):Af (Cb r c l).2.2.1=true:=by
 unfold Cb
 split
 ·dsimp only
  exact Gv fun i k=>Ha al
 ·exact At.2 fun x h=>by cases h
theorem Vk (x y:List Int):Ah (Oc x y)=true:=B3 (Aan x y 0 (by decide))
theorem Nl (r c:Int) (l:List Int) (p q:Int) (m:List Int):Af (Ek r c l p q m).2.2.1=true:=by
 unfold Ek
 split
 ·split
  ·dsimp only
   exact Gv fun i k=>Vk _ _
  ·exact At.2 fun x h=>by cases h
 ·exact At.2 fun x h=>by cases h
theorem Ag1 (r c:Int) (l:List Int) (p q:Int) (m:List Int):Af (De r c l p q m).2.2.1=true:=by
 unfold De
 split
 ·exact At.2 fun x h=>by cases h
 ·exact Nl _ _ _ _ _ _
theorem qr.Ep.known:qr.Ep.Kn:=qr.Ep.Ad (.cons Aa.Mul.known (.cons Aa.C6.known .nil)) fun r c l p q m hp=>by
 obtain ⟨al,am⟩:=Ae.1 (show (Af l&&Af m)=true from hp)
 show ∃ N dv drops,_=some dv∧Wk drops dv (Qu (De r c l p q m))
 unfold De
 by_cases h:(Cb r c l).2.2.2=0
 ·rw [Axp (by rw [h]; decide)]
  exact ⟨0,_,[],by rw [qr.Ep.ev,Fh h,Aw7,Ri al,am]; rfl,L6⟩
 ·rw [Axq h]
  exact ⟨0,_,[],by rw [qr.Ep.ev,Qv h,Aw3]; rfl,Ho⟩
set_option maxRecDepth 100000
namespace EqQr
def qr.down.hint:Nat→Option A5
 | 0=>some { keep:=[1,2,5,6,7],objs:=[(0,6,100006,.recs 214 2 []),(6,2,106002,.ints 37 .u64 [])],boxes:=[1,2,5] }
 | 2=>some { keep:=[1,2,5,6,7,8,9,12],objs:=[(6,2,106002,.ints 37 .u64 []),(0,6,100006,.recs 214 2 [])],boxes:=[1,2,5] }
 | _=>none
def qr.down.A8:List (Nat × Entry):=[(219,Ai.Apply.spec),(245,Ai.Ik.spec),(191,Aa.C3.spec)]
def qr.down.E:Env:=Ba (A7 qr.down.A8) (fun n=>Nat.beq n 46) qr.down.hint (fun _=>none)
section
variable (N M0 M:Nat) (r c:Int) (l:List Int) (p7:Int) (p6:List (List DV)) (p2_2:List Int) (p12_1:Int) (p2_1:List Int) (p7_1:Int) (p8:List Int) (p9:Int) (p6_1:List (List DV))
def qr.down.L0:Option DV:=Cc qr.down.E N f217 (Ap f217) [1,1,1,0,1,0,0,1,0,0,1,1,1,1,0,1,0] [M0] M ⟨He 88 [(1,.ptr 1 0 0),(2,.ptr 2 0 0),(5,.ptr 5 0 0),(6,.oref 100006),(7,.int .i64 p7_1),(8,.ints .fresh .u64 p8),(9,.int .u64 p9),(12,.int .i64 p12_1)],[(1,false,.box [.int .i64 r,.int .i64 c,.ints .arg .u64 l]),(2,false,.box [.int .i64 0,.int .i64 0,.nil]),(5,false,.box [.int .i64 r,.int .i64 c,.oref 106002]),(106002,false,.ints 37 .u64 p2_1),(100006,false,.recs 214 2 p6_1)]⟩
def qr.down.L1:Option DV:=Cc qr.down.E N f217 (Ap f217) [1,1,1,0,1,0] [] M ⟨He 88 [(1,.ptr 1 0 0),(2,.ptr 2 0 0),(5,.ptr 5 0 0),(6,.oref 100006),(7,.int .i64 p7)],[(1,false,.box [.int .i64 r,.int .i64 c,.ints .arg .u64 l]),(2,false,.box [.int .i64 0,.int .i64 0,.nil]),(5,false,.box [.int .i64 r,.int .i64 c,.oref 106002]),(100006,false,.recs 214 2 p6),(106002,false,.ints 37 .u64 p2_2)]⟩
def qr.down.L2:Option DV:=Cc qr.down.E N f217 (Ap f217) [1,1,1,0,1,0] [] M ⟨He 88 [(1,.ptr 1 0 0),(2,.ptr 2 0 0),(5,.ptr 5 0 0),(6,.oref 100006),(7,.int .i64 0)],[(1,false,.box [.int .i64 r,.int .i64 c,.ints .arg .u64 l]),(2,false,.box [.int .i64 0,.int .i64 0,.nil]),(5,false,.box [.int .i64 r,.int .i64 c,.ints .arg .u64 l]),(100006,false,.recs 214 2 [])]⟩
theorem qr.down.Aw:qr.down.L0 N M0 (M+1) r c l p12_1 p2_1 p7_1 p8 p9 p6_1=bif (A0 p12_1 r) then bif ((decide (0≤(Ab ((Ab (p12_1*c))+p7_1))))&&(decide ((Ab ((Ab (p12_1*c))+p7_1))<(length p2_1:Int)))) then bif (decide ((toNat (Ab ((Ab (p12_1*c))+p7_1)))<(length p2_1))) then qr.down.L0 N M0 M r c l (Ab (p12_1+1)) (List.set p2_1 (toNat (Ab ((Ab (p12_1*c))+p7_1))) 0) p7_1 p8 p9 p6_1 else none else none else bif (decide ((length p6_1)+1≤Alo)) then qr.down.L1 N M0 r c l (Ab (p7_1+1)) (p6_1++[[.ints .arg .u64 p8,.int .u64 p9]]) p2_1 else none:=by kernel_rfl
theorem qr.down.Ct:qr.down.L1 N (M+1) r c l p7 p6 p2_2=bif ((A0 p7 c)&&(A0 p7 (Ab (r-1)))) then bif (Lg r c p2_2 p7&&Cw (0≤p7∧p7≤r)) then bif (Dh (Ds c p2_2 p7 p7 (toNat (r-p7)))) then bif (((Bw (Ds c p2_2 p7 p7 (toNat (r-p7)))).2.2.2) !=(0:Int)) then some (.tup [.agg [.int .i64 0,.int .i64 0,.nil],.nil,.int .i64 2]) else bif (((Ak r c p2_2&&Md r c p7 p7 ((Bw (Ds c p2_2 p7 p7 (toNat (r-p7)))).1))&&(Af p2_2&&Af ((Bw (Ds c p2_2 p7 p7 (toNat (r-p7)))).1)))&&Ah ((Bw (Ds c p2_2 p7 p7 (toNat (r-p7)))).2.1)) then bif ((decide (0≤(Ab ((Ab (p7*c))+p7))))&&(decide ((Ab ((Ab (p7*c))+p7))<(length (F0 (toNat r) (toNat c) p2_2 p7 p7 ((Bw (Ds c p2_2 p7 p7 (toNat (r-p7)))).1) ((Bw (Ds c p2_2 p7 p7 (toNat (r-p7)))).2.1)):Int)))) then bif (decide ((toNat (Ab ((Ab (p7*c))+p7)))<(length (F0 (toNat r) (toNat c) p2_2 p7 p7 ((Bw (Ds c p2_2 p7 p7 (toNat (r-p7)))).1) ((Bw (Ds c p2_2 p7 p7 (toNat (r-p7)))).2.1))))) then qr.down.L0 N M N r c l (Ab (p7+1)) (List.set (F0 (toNat r) (toNat c) p2_2 p7 p7 ((Bw (Ds c p2_2 p7 p7 (toNat (r-p7)))).1) ((Bw (Ds c p2_2 p7 p7 (toNat (r-p7)))).2.1)) (toNat (Ab ((Ab (p7*c))+p7))) ((Bw (Ds c p2_2 p7 p7 (toNat (r-p7)))).2.2.1)) p7 ((Bw (Ds c p2_2 p7 p7 (toNat (r-p7)))).1) ((Bw (Ds c p2_2 p7 p7 (toNat (r-p7)))).2.1) p6 else none else none else none else none else none else some (.tup [.agg [.int .i64 r,.int .i64 c,.ints (.own 106002 37) .u64 p2_2],.recs (.own 100006 214) 2 p6,.int .i64 0]) :=
 Eq.trans (by kernel_rfl)
 (An (N4 (A0 p7 c)) (An (N4 (A0 p7 c)) (An (Na (A0 p7 c)) (An (Na (A0 p7 c)) (An (Ads (A0 p7 c)) (An (T6 (A0 p7 c)) (Dw (tt1 (A0 p7 c) (A0 p7 (Ab (r-1)))) rfl rfl)))))))
theorem qr.down.Jt:qr.down.L2 N (M+1) r c l=bif ((A0 0 c)&&(A0 0 (Ab (r-1)))) then bif (Lg r c l 0&&Cw (0≤(0:Int)∧(0:Int)≤r)) then bif (Dh (Ds c l 0 0 (toNat (r-0)))) then bif (((Bw (Ds c l 0 0 (toNat (r-0)))).2.2.2) !=(0:Int)) then some (.tup [.agg [.int .i64 0,.int .i64 0,.nil],.nil,.int .i64 2]) else bif (((Ak r c l&&Md r c 0 0 ((Bw (Ds c l 0 0 (toNat (r-0)))).1))&&(Af l&&Af ((Bw (Ds c l 0 0 (toNat (r-0)))).1)))&&Ah ((Bw (Ds c l 0 0 (toNat (r-0)))).2.1)) then bif ((decide (0≤(Ab ((Ab ((0:Int)*c))+0))))&&(decide ((Ab ((Ab ((0:Int)*c))+0))<(length (F0 (toNat r) (toNat c) l 0 0 ((Bw (Ds c l 0 0 (toNat (r-0)))).1) ((Bw (Ds c l 0 0 (toNat (r-0)))).2.1)):Int)))) then bif (decide ((toNat (Ab ((Ab ((0:Int)*c))+0)))<(length (F0 (toNat r) (toNat c) l 0 0 ((Bw (Ds c l 0 0 (toNat (r-0)))).1) ((Bw (Ds c l 0 0 (toNat (r-0)))).2.1))))) then qr.down.L0 N M N r c l 1 (List.set (F0 (toNat r) (toNat c) l 0 0 ((Bw (Ds c l 0 0 (toNat (r-0)))).1) ((Bw (Ds c l 0 0 (toNat (r-0)))).2.1)) (toNat (Ab ((Ab ((0:Int)*c))+0))) ((Bw (Ds c l 0 0 (toNat (r-0)))).2.2.1)) 0 ((Bw (Ds c l 0 0 (toNat (r-0)))).1) ((Bw (Ds c l 0 0 (toNat (r-0)))).2.1) [] else none else none else none else none else none else some (.tup [.agg [.int .i64 r,.int .i64 c,.ints .arg .u64 l],.recs (.own 100006 214) 2 [],.int .i64 0]) :=
 Eq.trans (by kernel_rfl)
 (An (N4 (A0 0 c)) (An (N4 (A0 0 c)) (An (Na (A0 0 c)) (An (Na (A0 0 c)) (An (Ads (A0 0 c)) (An (T6 (A0 0 c)) (Dw (tt1 (A0 0 c) (A0 0 (Ab (r-1)))) rfl rfl)))))))
theorem qr.down.ev:B0 qr.down.E N f217 (Ap f217) [.agg [.int .i64 r,.int .i64 c,.ints .arg .u64 l]] =
 qr.down.L2 N N r c l:=by kernel_rfl
end
abbrev _root_.Go.Proofs.S1.qr.down.Kn:=A4 prog 217 qr.down.spec
theorem qr.down.Ad (hk:Ay prog qr.down.A8) (h:Hyp qr.down.E f217 qr.down.ts qr.down.pre qr.down.out):qr.down.Kn :=
 Al (A1 hk _ _ _) func217 (by kernel_rfl) (by kernel_rfl) h
def qr.C0.hint:Nat→Option A5
 | 0=>some { keep:=[2,3,5,6],objs:=[],boxes:=[2,3] }
 | _=>none
def qr.C0.A8:List (Nat × Entry):=[(86,B6.Check.spec),(219,Ai.Apply.spec),(218,Aa.Gx.spec),(217,qr.down.spec),(150,Ac.Finite.spec)]
def qr.C0.E:Env:=Ae4 (A7 qr.C0.A8) (fun _=>false) qr.C0.hint (fun _=>none) (Aq1 [(22,[.s .u64]),(37,[.i .u64])])
section
variable (N M:Nat) (r c:Int) (l:List Int) (p6:Int) (p2:List Int)
def qr.C0.L0:Option DV:=Cc qr.C0.E N f166 (Ap f166) [1,0,1,1,1,1,1,1,0,0] [] M ⟨He 81 [(2,.ptr 2 0 0),(3,.ptr 3 0 0),(5,.recs .fresh 2 (Jg r c ([]++l))),(6,.int .i64 p6)],[(2,false,.box [.int .i64 ((Le r).1),.int .i64 ((Le r).2.1),.ints .fresh .u64 p2]),(3,false,.box [.int .i64 ((Fo r c ([]++l)).1),.int .i64 ((Fo r c ([]++l)).2.1),.ints .arg .u64 ((Fo r c ([]++l)).2.2.1)])]⟩
theorem qr.C0.Aw:qr.C0.L0 N (M+1) r c l p6 p2=bif (A0 p6 0) then bif (Dh p2) then bif ((!(Da p2))||(Dh ((Fo r c ([]++l)).2.2.1))) then bif ((!(Da p2))||(!(Da ((Fo r c ([]++l)).2.2.1)))) then some (.tup [.agg [.int .i64 0,.int .i64 0,.nil],.agg [.int .i64 0,.int .i64 0,.nil],.int .i64 2]) else some (.tup [.agg [.int .i64 ((Le r).1),.int .i64 ((Le r).2.1),.ints .fresh .u64 p2],.agg [.int .i64 ((Fo r c ([]++l)).1),.int .i64 ((Fo r c ([]++l)).2.1),.ints .arg .u64 ((Fo r c ([]++l)).2.2.1)],.int .i64 0]) else none else none else bif ((decide (0≤p6))&&(decide (p6<(length (Jg r c ([]++l)):Int)))) then bif (isC (.s .u64) (getD (getD (Jg r c ([]++l)) (toNat p6) []) 0 .undef)) then bif ((decide (0≤p6))&&(decide (p6<(length (Jg r c ([]++l)):Int)))) then bif (isC (.i .u64) (getD (getD (Jg r c ([]++l)) (toNat p6) []) 1 .undef)) then bif (((Ak ((Le r).1) ((Le r).2.1) p2&&Md ((Le r).1) ((Le r).2.1) p6 0 (Q5 (getD (getD (Jg r c ([]++l)) (toNat p6) []) 0 .undef)))&&(Af p2&&Af (Q5 (getD (getD (Jg r c ([]++l)) (toNat p6) []) 0 .undef))))&&Ah (Agp (getD (getD (Jg r c ([]++l)) (toNat p6) []) 1 .undef))) then qr.C0.L0 N M r c l (Ab (p6-1)) (F0 (toNat ((Le r).1)) (toNat ((Le r).2.1)) p2 p6 0 (Q5 (getD (getD (Jg r c ([]++l)) (toNat p6) []) 0 .undef)) (Agp (getD (getD (Jg r c ([]++l)) (toNat p6) []) 1 .undef))) else none else none else none else none else none :=
 Eq.trans (by kernel_rfl)
 (Ev (Ev (An (Adq (Da p2)) (An (Uv (Da p2)) (Dw (An1 (Da p2) (Dh ((Fo r c ([]++l)).2.2.1))) (An (Uv (Da p2)) (An (Adr (Da p2)) (Dw (Arp (Da p2) (Da ((Fo r c ([]++l)).2.2.1))) rfl rfl))) rfl))) rfl) (Dw (M9 (decide (0≤p6)) (decide (p6<(length (Jg r c ([]++l)):Int)))) (Dw (E4 (isC (.s .u64) (getD (getD (Jg r c ([]++l)) (toNat p6) []) 0 .undef))) (Dw (M9 (decide (0≤p6)) (decide (p6<(length (Jg r c ([]++l)):Int)))) (Dw (E4 (isC (.i .u64) (getD (getD (Jg r c ([]++l)) (toNat p6) []) 1 .undef))) (Dw (E4 (((Ak ((Le r).1) ((Le r).2.1) p2&&Md ((Le r).1) ((Le r).2.1) p6 0 (Q5 (getD (getD (Jg r c ([]++l)) (toNat p6) []) 0 .undef)))&&(Af p2&&Af (Q5 (getD (getD (Jg r c ([]++l)) (toNat p6) []) 0 .undef))))&&Ah (Agp (getD (getD (Jg r c ([]++l)) (toNat p6) []) 1 .undef)))) rfl rfl) rfl) rfl) rfl) rfl))
theorem qr.C0.ev:B0 qr.C0.E N f166 (Ap f166) [.agg [.int .i64 r,.int .i64 c,.ints .arg .u64 l]]=bif (Af l) then bif ((Bo r c l) !=(0:Int)) then some (.tup [.agg [.int .i64 0,.int .i64 0,.nil],.agg [.int .i64 0,.int .i64 0,.nil],.int .i64 (Bo r c l)]) else bif (decide (0+(length l)≤I5)) then bif ((Ak r c ([]++l)&&Da ([]++l))&&Af ([]++l)) then bif (((Fo r c ([]++l)).2.2.2) !=(0:Int)) then some (.tup [.agg [.int .i64 0,.int .i64 0,.nil],.agg [.int .i64 0,.int .i64 0,.nil],.int .i64 ((Fo r c ([]++l)).2.2.2)]) else qr.C0.L0 N N r c l (Ab ((length (Jg r c ([]++l)):Int)-1)) ((Le r).2.2.1) else none else none else none :=
 Eq.trans (by kernel_rfl)
 (Ev (Ev rfl (Dw (E4 (decide (0+(length l)≤I5))) (Dw (E4 ((Ak r c ([]++l)&&Da ([]++l))&&Af ([]++l))) rfl rfl) rfl)) rfl)
end
abbrev _root_.Go.Proofs.S1.qr.C0.Kn:=A4 prog 166 qr.C0.spec
theorem qr.C0.Ad (hk:Ay prog qr.C0.A8) (h:Hyp qr.C0.E f166 qr.C0.ts qr.C0.pre qr.C0.out):qr.C0.Kn :=
 Al (Apv hk _ _ _ _) func166 (by kernel_rfl) (by kernel_rfl) h
def qr.Jp.A8:List (Nat × Entry):=[(124,Aa.Part.spec),(166,qr.C0.spec)]
def qr.Jp.E:Env:=Ba (A7 qr.Jp.A8) (fun _=>false) (fun _=>none) (fun _=>none)
theorem qr.Jp.ev (N:Nat) (r c:Int) (l:List Int):B0 qr.Jp.E N f97 (Ap f97) [.agg [.int .i64 r,.int .i64 c,.ints .arg .u64 l]]=bif (Af l) then bif ((Ey r c l) !=(0:Int)) then some (.tup [.agg [.int .i64 0,.int .i64 0,.nil],.agg [.int .i64 0,.int .i64 0,.nil],.int .i64 (Ey r c l)]) else some (.tup [.agg [.int .i64 ((Fk ((qX r c l).1) ((qX r c l).2.1) ((qX r c l).2.2.1) 0 0 r (min r c)).1),.int .i64 ((Fk ((qX r c l).1) ((qX r c l).2.1) ((qX r c l).2.2.1) 0 0 r (min r c)).2.1),.ints .fresh .u64 ((Fk ((qX r c l).1) ((qX r c l).2.1) ((qX r c l).2.2.1) 0 0 r (min r c)).2.2.1)],.agg [.int .i64 ((Fk ((rX r c l).1) ((rX r c l).2.1) ((rX r c l).2.2.1) 0 0 (min r c) c).1),.int .i64 ((Fk ((rX r c l).1) ((rX r c l).2.1) ((rX r c l).2.2.1) 0 0 (min r c) c).2.1),.ints .fresh .u64 ((Fk ((rX r c l).1) ((rX r c l).2.1) ((rX r c l).2.2.1) 0 0 (min r c) c).2.2.1)],.int .i64 0]) else none:=by kernel_rfl
abbrev _root_.Go.Proofs.S1.qr.Jp.Kn:=A4 prog 97 qr.Jp.spec
theorem qr.Jp.Ad (hk:Ay prog qr.Jp.A8) (h:Hyp qr.Jp.E f97 qr.Jp.ts qr.Jp.pre qr.Jp.out):qr.Jp.Kn :=
 Al (A1 hk _ _ _) func97 (by kernel_rfl) (by kernel_rfl) h
def solve.Gc.hint:Nat→Option A5
 | 0=>some { keep:=[2,3,4,17,18],objs:=[],boxes:=[2,3,4] }
 | _=>none
def solve.Gc.A8:List (Nat × Entry):=[(86,B6.Check.spec),(97,qr.Jp.spec),(98,qr.Ep.spec),(24,solve.Flat.spec),(36,solve.Gi.spec)]
def solve.Gc.E:Env:=Ba (A7 solve.Gc.A8) (fun _=>false) solve.Gc.hint (fun _=>none)
theorem solve.Gc.ev (N:Nat) (r c:Int) (l:List Int) (p q:Int) (m:List Int):B0 solve.Gc.E (N+4) f30 (Ap f30) [.agg [.int .i64 r,.int .i64 c,.ints .arg .u64 l],.agg [.int .i64 p,.int .i64 q,.ints .arg .u64 m]]=bif (Af l) then bif ((Bo r c l) !=(0:Int)) then some (.tup [.agg [.int .i64 0,.int .i64 0,.nil],.int .i64 (Bo r c l)]) else bif (Af m) then bif ((Bo p q m) !=(0:Int)) then some (.tup [.agg [.int .i64 0,.int .i64 0,.nil],.int .i64 (Bo p q m)]) else bif ((A0 r c)||(r !=p)) then some (.tup [.agg [.int .i64 0,.int .i64 0,.nil],.int .i64 3]) else bif (Af l) then bif ((Ey r c l) !=(0:Int)) then some (.tup [.agg [.int .i64 0,.int .i64 0,.nil],.int .i64 (Ey r c l)]) else bif (Af ((Mf r c l).2.2.1)) then bif ((I6 ((Mf r c l).1) ((Mf r c l).2.1) ((Mf r c l).2.2.1)).1) then some (.tup [.agg [.int .i64 0,.int .i64 0,.nil],.int .i64 5]) else bif (Af ((Hp r c l).2.2.1)&&Af m) then bif (((De ((Hp r c l).1) ((Hp r c l).2.1) ((Hp r c l).2.2.1) p q m).2.2.2) !=(0:Int)) then some (.tup [.agg [.int .i64 0,.int .i64 0,.nil],.int .i64 ((De ((Hp r c l).1) ((Hp r c l).2.1) ((Hp r c l).2.2.1) p q m).2.2.2)]) else bif (Af ((Mf r c l).2.2.1)&&Af ((De ((Hp r c l).1) ((Hp r c l).2.1) ((Hp r c l).2.2.1) p q m).2.2.1)) then some (.tup [.agg [.int .i64 ((upX ((Mf r c l).1) ((Mf r c l).2.1) ((Mf r c l).2.2.1) ((De ((Hp r c l).1) ((Hp r c l).2.1) ((Hp r c l).2.2.1) p q m).1) ((De ((Hp r c l).1) ((Hp r c l).2.1) ((Hp r c l).2.2.1) p q m).2.1) ((De ((Hp r c l).1) ((Hp r c l).2.1) ((Hp r c l).2.2.1) p q m).2.2.1)).1),.int .i64 ((upX ((Mf r c l).1) ((Mf r c l).2.1) ((Mf r c l).2.2.1) ((De ((Hp r c l).1) ((Hp r c l).2.1) ((Hp r c l).2.2.1) p q m).1) ((De ((Hp r c l).1) ((Hp r c l).2.1) ((Hp r c l).2.2.1) p q m).2.1) ((De ((Hp r c l).1) ((Hp r c l).2.1) ((Hp r c l).2.2.1) p q m).2.2.1)).2.1),.ints .fresh .u64 ((upX ((Mf r c l).1) ((Mf r c l).2.1) ((Mf r c l).2.2.1) ((De ((Hp r c l).1) ((Hp r c l).2.1) ((Hp r c l).2.2.1) p q m).1) ((De ((Hp r c l).1) ((Hp r c l).2.1) ((Hp r c l).2.2.1) p q m).2.1) ((De ((Hp r c l).1) ((Hp r c l).2.1) ((Hp r c l).2.2.1) p q m).2.2.1)).2.2.1)],.int .i64 ((upX ((Mf r c l).1) ((Mf r c l).2.1) ((Mf r c l).2.2.1) ((De ((Hp r c l).1) ((Hp r c l).2.1) ((Hp r c l).2.2.1) p q m).1) ((De ((Hp r c l).1) ((Hp r c l).2.1) ((Hp r c l).2.2.1) p q m).2.1) ((De ((Hp r c l).1) ((Hp r c l).2.1) ((Hp r c l).2.2.1) p q m).2.2.1)).2.2.2)]) else none else none else none else none else none else none :=
 Eq.trans (by kernel_rfl)
 (Ev (Ev rfl (Ev (Ev rfl (An (S4 (A0 r c)) (An (Oi (A0 r c)) (An (S4 (A0 r c)) (An (Oi (A0 r c)) (An (tt8 (A0 r c)) (An (Zk (A0 r c)) (Dw (tt5 (A0 r c) (r !=p)) rfl rfl)))))))) rfl)) rfl)
abbrev _root_.Go.Proofs.S1.solve.Gc.Kn:=A4 prog 30 solve.Gc.spec
theorem solve.Gc.Ad (hk:Ay prog solve.Gc.A8) (h:Hyp solve.Gc.E f30 solve.Gc.ts solve.Gc.pre solve.Gc.out):solve.Gc.Kn :=
 Al (A1 hk _ _ _) func30 (by kernel_rfl) (by kernel_rfl) h
end EqQr
open EqQr
def clS (R C:Nat) (l:List Int) (j:Nat) (x:Int) (i:Nat):List Int:=Cd R C fun a b=>if b=j∧j≤a∧a<i then (if a=j then x else 0) else Di (C:Int) l (a:Int) (b:Int)
section
variable {R C j:Nat} {l:List Int} {x:Int}
theorem Ap4 (i:Nat):(clS R C l j x i).length=R*C:=Br _ _ _
theorem Y2 (hl:l.length=R*C) (hj:j<C):List.set l (j*C+j) x=clS R C l j x (j+1):=by
 unfold clS
 conv=>lhs; rw [← Py hl]
 rw [Se hj]
 refine Dq fun a b ha hb=>?_
 by_cases h:a=j∧b=j
 ·rw [Axq h,Axq (by omega),Axq h.1]
 ·rw [Axp h,Axp (by omega)]
theorem Ap3 {i:Nat} (hj:j<C) (hi:j<i):List.set (clS R C l j x i) (i*C+j) 0=clS R C l j x (i+1):=by
 unfold clS
 rw [Se hj]
 refine Dq fun a b ha hb=>?_
 by_cases h:a=i∧b=j
 ·rw [Axq h,Axq (by omega),Axp (by omega)]
 ·rw [Axp h]
  by_cases h2:b=j∧j≤a∧a<i
  ·rw [Axq h2,Axq (show b=j∧j≤a∧a<i+1 by omega)]
  ·rw [Axp h2,Axp (by omega)]
theorem Ap5:clS R C l j x R=Nv R C l j x:=by
 unfold clS Nv
 refine Dq fun a b ha hb=>?_
 by_cases h:b=j∧j≤a
 ·rw [Axq h,Axq (by omega)]
 ·rw [Axp h,Axp (by omega)]
end
theorem Wi {C i j:Nat} (hi:i≤6) (hC:C≤6) (hj:j≤6):Ab (Ab ((i:Int)*(C:Int))+(j:Int))=((i*C+j:Nat):Int):=by
 have h36:=Axz hi hC
 rw [Ao (x:=(i:Int)*(C:Int)) (by rw [← Axo]; omega) (by rw [← Axo]; omega),← Axo,Ao (by omega) (by omega)]
 omega
section
variable {R C:Nat}
theorem W6 (N M0:Nat) (l0:List Int) (r6:R≤6) (c6:C≤6) {j:Nat} (hj:j<C) (l:List Int) (x:Int) (v:List Int) (t:Int) (ms:List (List DV)) (hms:ms.length≤100):∀ (cnt i F:Nat),i+cnt=R→j<i→cnt<F →
 qr.down.L0 N M0 F (R:Int) (C:Int) l0 (i:Int) (clS R C l j x i) (j:Int) v t ms=qr.down.L1 N M0 (R:Int) (C:Int) l0 ((j+1:Nat):Int) (ms++[[.ints .arg .u64 v,.int .u64 t]]) (Nv R C l j x):=by
 intro cnt
 induction cnt with
 | zero =>
   intro i F hi hji hF
   obtain ⟨F,rfl⟩:∃ G,F=G+1:=⟨F-1,by omega⟩
   obtain rfl:i=R:=by omega
   rw [qr.down.Aw,Au,Aw8 (by omega),Aw7,Aw4 (by unfold Alo; omega),Aw3,Ao (by omega) (by omega),Ap5]
   rfl
 | succ cnt ih =>
   intro i F hi hji hF
   obtain ⟨F,rfl⟩:∃ G,F=G+1:=⟨F-1,by omega⟩
   have hlen:=Ap4 (R:=R) (C:=C) (l:=l) (j:=j) (x:=x) i
   have hp:=H9 (show i<R by omega) hj
   rw [qr.down.Aw,Au,Aw4 (by omega),Aw3,Wi (by omega) c6 (by omega),Aw4 (by omega),Aw4 (by omega),Aw9,Aw3,Aw5,Aw4 (by omega),Aw3,Ap3 hj hji,Ao (by omega) (by omega)]
   exact ih (i+1) F (by omega) (by omega) (by omega)
def Qk (r c:Nat) (ms:List (List DV)):Option (List Int × List (List Int × Int))→DV
 | none=>.tup [.agg [.int .i64 0,.int .i64 0,.nil],.nil,.int .i64 2]
 | some x=>.tup [.agg [.int .i64 (r:Int),.int .i64 (c:Int),.ints (.own 106002 tB) .u64 x.1],.recs (.own 100006 tMR) 2 (ms++Wj x.2),.int .i64 0]
theorem Aiy (N:Nat) (hN:7<N) (l0:List Int) (r6:R≤6) (c6:C≤6):∀ (cnt j F:Nat) (l:List Int) (ms:List (List DV)),j+cnt=Hk R C→cnt<F→l.length=R*C→Af l=true→ms.length=j →
 qr.down.L1 N F (R:Int) (C:Int) l0 (j:Int) ms l=some (Qk R C ms (Kb R C cnt j l)):=by
 intro cnt
 induction cnt with
 | zero =>
   intro j F l ms hj hF hl al hms
   obtain ⟨F,rfl⟩:∃ G,F=G+1:=⟨F-1,by omega⟩
   unfold Hk at hj
   have hlt:(A0 (j:Int) (C:Int)&&A0 (j:Int) (Ab ((R:Int)-1)))=false:=by
    rw [Au,Au,Ao (by omega) (by omega),Bool.and_eq_false_iff,Axm,Axm]; omega
   rw [qr.down.Ct,hlt,Aw7]
   simp [Kb,Qk,Wj]
 | succ cnt ih =>
   intro j F l ms hj hF hl al hms
   obtain ⟨F,rfl⟩:∃ G,F=G+1:=⟨F-1,by omega⟩
   have hj0:=hj
   unfold Hk at hj
   have hr:=K8 r6 c6 hl
   have hlt:(A0 (j:Int) (C:Int)&&A0 (j:Int) (Ab ((R:Int)-1)))=true:=by
    rw [Au,Au,Ao (by omega) (by omega),Aw4 (by omega),Aw4 (by omega)]; rfl
   have cp:Lg (R:Int) (C:Int) l (j:Int)=true:=Ae.2 ⟨hr,At.2 (by omega)⟩
   have ec:Ds (C:Int) l (j:Int) (j:Int) (toNat ((R:Int)-(j:Int)))=En R C l j:=by unfold En; rw [show toNat ((R:Int)-(j:Int))=R-j by omega]
   have ca:Af (En R C l j)=true:=Qo al
   have cl:(En R C l j).length=R-j:=Ja _ _ _ _ _
   rw [qr.down.Ct,hlt,Aw3,cp,At.2 (show 0≤(j:Int)∧(j:Int)≤(R:Int) by omega),Aw9,Aw3,ec,Kg ca (by omega),Aw3]
   unfold Kb
   by_cases he:(Bw (En R C l j)).2.2.2=0
   ·have hml:=R8 he
    have hma:=Vb ca
    have hap:Md (R:Int) (C:Int) (j:Int) (j:Int) (Bw (En R C l j)).1=true:=Aw4 (by omega)
    have hp:=H9 (show j<R by omega) (show j<C by omega)
    have hlen:=Mc R C l (j:Int) (j:Int) (Bw (En R C l j)).1 (Bw (En R C l j)).2.1
    have hg:=W6 N F l0 r6 c6 (show j<C by omega) (F0 R C l (j:Int) (j:Int) (Bw (En R C l j)).1 (Bw (En R C l j)).2.1) (Bw (En R C l j)).2.2.1 (Bw (En R C l j)).1 (Bw (En R C l j)).2.1 ms (by omega) (R-(j+1)) (j+1) N (by omega) (by omega) (by omega)
    have hn:=ih (j+1) F (P7 R C l j) (ms++[[.ints .arg .u64 (Bw (En R C l j)).1,.int .u64 (Bw (En R C l j)).2.1]]) (by omega) (by omega) (Ov _ _ _ _) (Va al j) (by rw [Axv,hms]; rfl)
    rw [Fh he,Aw7,hr,hap,al,hma.1,hma.2.1,Aw9,Aw9,Aw9,Aw3,Wi (by omega) c6 (by omega),Aw5,Aw5,Aw5,Aw4 (by omega),Aw4 (by omega),Aw9,Aw3,Aw4 (by omega),Aw3,
     Y2 hlen (by omega),Ao (by omega) (by omega),Axq he]
    refine (hg.trans hn).trans ?_
    show some (Qk R C _ (Kb R C cnt (j+1) (P7 R C l j)))=some (Qk R C ms _)
    cases Kb R C cnt (j+1) (P7 R C l j) with
    | none=>rfl
    | some x=>simp [Qk,Wj]
   ·rw [Qv he,Aw3,Axp he]; rfl
theorem Ae5 (N:Nat) (hN:7<N) {l:List Int} (r6:R≤6) (c6:C≤6) (hl:l.length=R*C) (al:Af l=true) (h0:Hk R C≠0) :
 qr.down.L2 N N (R:Int) (C:Int) l=some (Qk R C [] (Ht R C l)):=by
 obtain ⟨cnt,hc⟩:∃ cnt,Hk R C=cnt+1:=⟨Hk R C-1,by omega⟩
 obtain ⟨F,rfl⟩:∃ G,N=G+1:=⟨N-1,by omega⟩
 have hj:=hc
 unfold Hk at hj
 have hr:=K8 r6 c6 hl
 have hlt:(A0 (0:Int) (C:Int)&&A0 (0:Int) (Ab ((R:Int)-1)))=true:=by
  rw [Au,Au,Ao (by omega) (by omega),Aw4 (by omega),Aw4 (by omega)]; rfl
 have cp:Lg (R:Int) (C:Int) l (0:Int)=true:=Ae.2 ⟨hr,At.2 (by omega)⟩
 have ec:Ds (C:Int) l (0:Int) (0:Int) (toNat ((R:Int)-(0:Int)))=En R C l 0:=by unfold En; rw [show toNat ((R:Int)-(0:Int))=R-0 by omega]; rfl
 have ca:Af (En R C l 0)=true:=Qo al
 have cl:(En R C l 0).length=R-0:=Ja _ _ _ _ _
 unfold Ht
 rw [hc,qr.down.Jt,hlt,Aw3,cp,At.2 (show 0≤(0:Int)∧(0:Int)≤(R:Int) by omega),Aw9,Aw3,ec,Kg ca (by omega),Aw3]
 unfold Kb
 by_cases he:(Bw (En R C l 0)).2.2.2=0
 ·have hml:=R8 he
  have hma:=Vb ca
  have hap:Md (R:Int) (C:Int) (0:Int) (0:Int) (Bw (En R C l 0)).1=true:=Aw4 (by omega)
  have hp:=H9 (show 0<R by omega) (show 0<C by omega)
  have hlen:=Mc R C l (0:Int) (0:Int) (Bw (En R C l 0)).1 (Bw (En R C l 0)).2.1
  have hg:=W6 (F+1) F l r6 c6 (show 0<C by omega) (F0 R C l (0:Int) (0:Int) (Bw (En R C l 0)).1 (Bw (En R C l 0)).2.1) (Bw (En R C l 0)).2.2.1 (Bw (En R C l 0)).1 (Bw (En R C l 0)).2.1 [] (Nat.zero_le _) (R-1) 1 (F+1) (by omega) (by omega) (by omega)
  have hn:=Aiy (R:=R) (C:=C) (F+1) hN l r6 c6 cnt 1 F (P7 R C l 0) [[.ints .arg .u64 (Bw (En R C l 0)).1,.int .u64 (Bw (En R C l 0)).2.1]] (by omega) (by unfold Hk at hc; omega) (Ov _ _ _ _) (Va al 0) rfl
  have mc:=Wi (i:=0) (C:=C) (j:=0) (by omega) c6 (by omega)
  have mc:Ab (Ab ((0:Int)*(C:Int))+(0:Int))=((0*C+0:Nat):Int):=mc
  rw [Fh he,Aw7,hr,hap,al,hma.1,hma.2.1,Aw9,Aw9,Aw9,Aw3,mc,Aw5,Aw5,Aw5,Aw4 (by omega),Aw4 (by omega),Aw9,Aw3,Aw4 (by omega),Aw3,
   Y2 hlen (by omega),Axq he]
  refine (hg.trans hn).trans ?_
  show some (Qk R C _ (Kb R C cnt 1 (P7 R C l 0)))=some (Qk R C [] _)
  cases Kb R C cnt (0+1) (P7 R C l 0) with
  | none=>rfl
  | some x=>simp [Qk,Wj]
 ·rw [Qv he,Aw3,Axp he]; rfl
end
theorem qr.down.known:qr.down.Kn:=qr.down.Ad (.cons Ai.Apply.known (.cons Ai.Ik.known (.cons Aa.C3.known .nil))) fun r c l hp=>by
 obtain ⟨h1,al⟩:=Ae.1 (show ((Ak r c l&&Da l)&&Af l)=true from hp)
 obtain ⟨hr,hf⟩:=Ae.1 h1
 obtain ⟨R,C,rfl,rfl,r6,c6,hl⟩:=C2 hr
 by_cases h0:Hk R C=0
 ·have hx:Ht R C l=some (l,[]):=by unfold Ht; rw [h0]; rfl
  refine ⟨8,.tup [.agg [.int .i64 (R:Int),.int .i64 (C:Int),.ints .arg .u64 l],.recs (.own 100006 tMR) 2 [],.int .i64 0],[100006],?_,?_⟩
  ·unfold Hk at h0
   have hlt:(A0 (0:Int) (C:Int)&&A0 (0:Int) (Ab ((R:Int)-1)))=false:=by
    rw [Au,Au,Ao (by omega) (by omega),Bool.and_eq_false_iff,Axm,Axm]; omega
   rw [qr.down.ev,show (8:Nat)=7+1 from rfl,qr.down.Jt,hlt,Aw7]
  ·show Wk _ _ (DV.tup [.agg [.int .i64 (Fo (R:Int) (C:Int) l).1,.int .i64 (Fo (R:Int) (C:Int) l).2.1,.ints .arg .u64 (Fo (R:Int) (C:Int) l).2.2.1],.recs .fresh 2 (Jg (R:Int) (C:Int) l),.int .i64 (Fo (R:Int) (C:Int) l).2.2.2])
   unfold Fo Jg J9
   rw [Aw5,Aw5,hx]
   exact Wk.G3 (.cons (Wk.H5 (.cons .int (.cons .int (.cons .Xv .nil)))) (.cons (.dropR _ _ _ _ (List.mem_singleton.2 rfl)) (.cons .int .nil)))
 ·refine ⟨8,Qk R C [] (Ht R C l),[106002,100006],?_,?_⟩
  ·rw [qr.down.ev]
   exact Ae5 8 (by omega) r6 c6 hl al h0
  ·show Wk _ _ (DV.tup [.agg [.int .i64 (Fo (R:Int) (C:Int) l).1,.int .i64 (Fo (R:Int) (C:Int) l).2.1,.ints .arg .u64 (Fo (R:Int) (C:Int) l).2.2.1],.recs .fresh 2 (Jg (R:Int) (C:Int) l),.int .i64 (Fo (R:Int) (C:Int) l).2.2.2])
   unfold Fo Jg J9
   rw [Aw5,Aw5]
   cases Ht R C l with
   | none=>exact Wk.G3 (.cons (Wk.H5 (.cons .int (.cons .int (.cons Pg .nil)))) (.cons (.nilR _ _) (.cons .int .nil)))
   | some x=>exact Wk.G3 (.cons (Wk.H5 (.cons .int (.cons .int (.cons (.dropA _ _ _ _ Ayi) .nil)))) (.cons (.dropR _ _ _ _ (Ax8 _ Ayi)) (.cons .int .nil)))
open EqQr
def Wg (e:Int):DV:=.tup [.agg [.int .i64 0,.int .i64 0,.nil],.agg [.int .i64 0,.int .i64 0,.nil],.int .i64 e]
theorem Ym {r:Nat}:∀ {j:Nat} {ms:List (List Int × Int)},Ab2 r j ms→∀ i:Nat,i<ms.length→Af (ms.getD i ([],0)).1=true∧Ah (ms.getD i ([],0)).2=true∧(ms.getD i ([],0)).1.length+(j+i)=r
 | _,[],_,i,h=>absurd h (Nat.not_lt_zero _)
 | j,m::ms,hm,0,_=>hm.1
 | j,m::ms,hm,i+1,h=>by
   have:=Ym hm.2 i (by simpa using h)
   rw [show j+(i+1)=j+1+i by omega]
   exact this
theorem Ala {ms:List (List Int × Int)} {i:Nat} (h:i<ms.length):getD (Wj ms) i []=[.ints .arg .u64 (ms.getD i ([],0)).1,.int .u64 (ms.getD i ([],0)).2]:=by
 unfold Wj
 rw [Axd,Ayk,Axk h,Axd,Axk h]; rfl
theorem Ab1 (ms:List (List Int × Int)):(Wj ms).length=ms.length:=by unfold Wj; rw [Ax9]
theorem Ai6 {n i:Nat} {ms:List (List Int × Int)} (h:i<ms.length) (q:List Int):I7 n i (ms.drop i) q=F0 n n (I7 n (i+1) (ms.drop (i+1)) q) (i:Int) 0 (ms.getD i ([],0)).1 (ms.getD i ([],0)).2:=by
 rw [List.drop_eq_getElem_cons h,I7,Axd,Axk h]; rfl
theorem Ae3 {R:Nat} (h:R≤6):Le (R:Int)=((R:Int),(R:Int),Ob R,0):=by
 unfold Le Ob
 rw [Axq (An7 h),Aw5]
theorem Ars {n:Nat} (h:n≤6):n*n≤36:=Axz h h
theorem Acu (N:Nat) {R C:Nat} {l:List Int} (r6:R≤6) {x:List Int × List (List Int × Int)} (hx:Ht R C l=some x) (hm:Ab2 R 0 x.2) (hxr:Af x.1=true) (hxl:x.1.length≤36):∀ (j F:Nat),j≤x.2.length→j<F →
 qr.C0.L0 N F (R:Int) (C:Int) l ((j:Int)-1) (I7 R j (x.2.drop j) (Ob R)) =
 bif Qj R C l then some (.tup [.agg [.int .i64 (R:Int),.int .i64 (R:Int),.ints .fresh .u64 (Oa R C l)],.agg [.int .i64 (R:Int),.int .i64 (C:Int),.ints .arg .u64 (J9 R C l)],.int .i64 0])
 else some (Wg 2):=by
 have hq:Oa R C l=I7 R 0 x.2 (Ob R):=by unfold Oa; rw [hx]
 have hr:J9 R C l=x.1:=by unfold J9; rw [hx]
 have hd:Fo (R:Int) (C:Int) ([]++l)=((R:Int),(C:Int),x.1,0):=by
  unfold Fo
  rw [List.nil_append,Aw5,Aw5,hx,hr]; rfl
 have hmd:Jg (R:Int) (C:Int) ([]++l)=Wj x.2:=by
  unfold Jg
  rw [List.nil_append,Aw5,Aw5,hx]
 have h36:=Ars r6
 intro j
 induction j with
 | zero =>
   intro F _ hF
   obtain ⟨F,rfl⟩:∃ G,F=G+1:=⟨F-1,by omega⟩
   have hb:=Vo R x.2 0 (Ob R) (Aal R) (by unfold Ob; exact Br _ _ _)
   have ok1:Dh (I7 R 0 x.2 (Ob R))=true:=Kg hb.1 (by omega)
   have ok2:Dh x.1=true:=Kg hxr (by omega)
   have hfo:Qj R C l=(Da (I7 R 0 x.2 (Ob R))&&Da x.1):=by unfold Qj; rw [hx,hq,hr]; rfl
   rw [qr.C0.Aw,Au,Aw4 (by omega),Aw3,List.drop_zero,ok1,Aw3,hd,Ae3 r6,ok2,Ayf,Aw3,hfo,hq,hr]
   cases Da (I7 R 0 x.2 (Ob R)) with
   | false=>rfl
   | true=>cases Da x.1<;>rfl
 | succ j ih =>
   intro F hj hF
   obtain ⟨F,rfl⟩:∃ G,F=G+1:=⟨F-1,by omega⟩
   have ej:(((j+1:Nat):Int))-1=(j:Int):=by omega
   have hg:=Ym hm j (by omega)
   have hb:=Vo R (x.2.drop (j+1)) (j+1) (Ob R) (Aal R) (by unfold Ob; exact Br _ _ _)
   have hr1:=K8 r6 r6 hb.2
   have hap:Md (R:Int) (R:Int) (j:Int) 0 (x.2.getD j ([],0)).1=true:=Aw4 (by omega)
   have hmg:=Ala (ms:=x.2) (i:=j) (by omega)
   rw [qr.C0.Aw,ej,Au,Aw8 (show ¬ (j:Int)<0 by omega),Aw7,hmd,Ab1,Aw4 (show (0:Int)≤(j:Int) by omega),Aw4 (show (j:Int)<(x.2.length:Int) by omega),Aw9,Aw3,Aw5,hmg,Ae3 r6]
   show (bif true then bif true then bif true then (bif (((Ak (R:Int) (R:Int) (I7 R (j+1) (x.2.drop (j+1)) (Ob R))&&Md (R:Int) (R:Int) (j:Int) (0:Int) (x.2.getD j ([],0)).1)&&(Af (I7 R (j+1) (x.2.drop (j+1)) (Ob R))&&Af (x.2.getD j ([],0)).1))&&Ah (x.2.getD j ([],0)).2) then
    qr.C0.L0 N F (R:Int) (C:Int) l (Ab ((j:Int)-(1:Int))) (F0 (toNat (R:Int)) (toNat (R:Int)) (I7 R (j+1) (x.2.drop (j+1)) (Ob R)) (j:Int) (0:Int) (x.2.getD j ([],0)).1 (x.2.getD j ([],0)).2) else none) else none else none else none)=_
   rw [Aw3,Aw3,Aw3,hr1,hap,hb.1,hg.1,hg.2.1,Aw9,Aw9,Aw9,Aw3,Aw5,Ao (by omega) (by omega),← Ai6 (by omega)]
   exact ih F (by omega) (by omega)
theorem Ami {R C:Nat} {l:List Int} (hl:l.length=R*C) (al:Af l=true) {x:List Int × List (List Int × Int)} (hx:Ht R C l=some x):Af x.1=true∧x.1.length=R*C∧x.2.length=Hk R C∧Ab2 R 0 x.2 :=
 W7 R C (Hk R C) 0 l x al hl (by unfold Hk; omega) hx
theorem Vi {r c:Int} {l:List Int} (h:Bo r c l=0):Ey r c l=if Qj r.toNat c.toNat l=true then 0 else 2:=by
 unfold Ey; rw [Axp (by rw [h]; decide)]
theorem Acv {r c:Int} {l:List Int} (h:Bo r c l≠0):Ey r c l=Bo r c l:=by unfold Ey; rw [Axq h]
theorem Wa {r c:Int} {l:List Int} {e:Int} (h:Ey r c l=e) (he:e≠0):qX r c l=Ij e∧rX r c l=Ij e:=by unfold qX rX; rw [h,Axq he,Axq he]; exact ⟨rfl,rfl⟩
theorem Pn {r c:Int} {l:List Int} (h:Ey r c l=0):qX r c l=(r,r,Oa r.toNat c.toNat l,0)∧rX r c l=(r,c,J9 r.toNat c.toNat l,0):=by unfold qX rX; rw [h]; exact ⟨rfl,rfl⟩
theorem S2 {drops:List Nat} {e:Int} {g h:Ade}:Wk drops (Wg e) (DV.tup [.agg [.int .i64 (Ij e).1,.int .i64 (Ij e).2.1,.ints g .u64 (Ij e).2.2.1],.agg [.int .i64 (Ij e).1,.int .i64 (Ij e).2.1,.ints h .u64 (Ij e).2.2.1],.int .i64 e]) :=
 Wk.G3 (.cons (Wk.H5 (.cons .int (.cons .int (.cons Pg .nil)))) (.cons (Wk.H5 (.cons .int (.cons .int (.cons Pg .nil)))) (.cons .int .nil)))
theorem qr.C0.known:qr.C0.Kn:=qr.C0.Ad (.cons B6.Check.known (.cons Ai.Apply.known (.cons Aa.Gx.known (.cons qr.down.known (.cons Ac.Finite.known .nil))))) fun r c l hp=>by
 have al:Af l=true:=hp
 show ∃ N dv drops,_=some dv∧Wk drops dv (DV.tup [.agg [.int .i64 (qX r c l).1,.int .i64 (qX r c l).2.1,.ints .arg .u64 (qX r c l).2.2.1],.agg [.int .i64 (rX r c l).1,.int .i64 (rX r c l).2.1,.ints .arg .u64 (rX r c l).2.2.1],.int .i64 (Ey r c l)])
 by_cases h1:Bo r c l=0
 ·obtain ⟨hr,hf⟩:=E7 h1
  have h36:=Mm hr
  obtain ⟨R,C,rfl,rfl,r6,c6,hl⟩:=C2 hr
  have d0:decide (0+l.length≤I5)=true:=Aw4 (by unfold I5; omega)
  cases hx:Ht R C l with
  | none =>
    have hfo:Qj R C l=false:=by unfold Qj; rw [hx]; rfl
    have he:Ey (R:Int) (C:Int) l=2:=by rw [Vi h1,Aw5,Aw5,hfo]; rfl
    obtain ⟨e1,e2⟩:=Wa he (by decide)
    have hd:Fo (R:Int) (C:Int) ([]++l)=Ij 2:=by
     unfold Fo
     rw [List.nil_append,Aw5,Aw5,hx]; rfl
    rw [e1,e2,he]
    exact ⟨0,Wg 2,[],by rw [qr.C0.ev,al,Aw3,Fh h1,Aw7,d0,Aw3,hd,List.nil_append,hr,hf,al,Aw9,Aw9,Aw3,show ((Ij 2).2.2.2 !=(0:Int))=true from rfl,Aw3]; rfl,S2⟩
  | some x =>
    obtain ⟨x1,x2,x3,x4⟩:=Ami hl al hx
    have hd:Fo (R:Int) (C:Int) ([]++l)=((R:Int),(C:Int),x.1,0):=by
     unfold Fo J9
     rw [List.nil_append,Aw5,Aw5,hx]; rfl
    have hmd:Jg (R:Int) (C:Int) ([]++l)=Wj x.2:=by
     unfold Jg
     rw [List.nil_append,Aw5,Aw5,hx]
    have hn:x.2.length≤6:=by rw [x3]; unfold Hk; omega
    have hloop:=Acu 8 r6 hx x4 x1 (by rw [x2]; exact Axz r6 c6) x.2.length 8 (Axx _) (by omega)
    rw [Axh (Axx _)] at hloop
    have hrun:=qr.C0.ev 8 (R:Int) (C:Int) l
    rw [al,Aw3,Fh h1,Aw7,d0,Aw3,hd,hmd,Ab1,List.nil_append,hr,hf,al,Aw9,Aw9,Aw3,show (((R:Int),(C:Int),x.1,(0:Int)).2.2.2 !=(0:Int))=false from rfl,Aw7,Ae3 r6,Ao (by omega) (by omega)] at hrun
    have hrun:=hrun.trans hloop
    cases hfo:Qj R C l with
    | false =>
      have he:Ey (R:Int) (C:Int) l=2:=by rw [Vi h1,Aw5,Aw5,hfo]; rfl
      obtain ⟨e1,e2⟩:=Wa he (by decide)
      rw [hfo,Aw7] at hrun
      rw [e1,e2,he]
      exact ⟨8,Wg 2,[],hrun,S2⟩
    | true =>
      have he:Ey (R:Int) (C:Int) l=0:=by rw [Vi h1,Aw5,Aw5,hfo]; rfl
      obtain ⟨e1,e2⟩:=Pn he
      rw [hfo,Aw3] at hrun
      rw [e1,e2,he,Aw5,Aw5]
      exact ⟨8,_,[],hrun,Wk.G3 (.cons (Wk.H5 (.cons .int (.cons .int (.cons (.fresh _ _) .nil)))) (.cons (Wk.H5 (.cons .int (.cons .int (.cons .Xv .nil)))) (.cons .int .nil)))⟩
 ·have he:=Acv h1
  obtain ⟨e1,e2⟩:=Wa he h1
  rw [e1,e2,he]
  exact ⟨0,Wg (Bo r c l),[],by rw [qr.C0.ev,al,Aw3,Qv h1,Aw3]; rfl,S2⟩
theorem Afb {r c:Int} {l:List Int} (h:Ey r c l=0):Bo r c l=0:=by
 by_cases h1:Bo r c l=0
 ·exact h1
 ·rw [Acv h1] at h; exact absurd h h1
theorem W3 {r c:Int} {l:List Int} (al:Af l=true) (h:Ey r c l=0):∃ R C:Nat,r=R∧c=C∧R≤6∧C≤6∧l.length=R*C∧Af (Oa R C l)=true∧(Oa R C l).length=R*R∧Af (J9 R C l)=true∧(J9 R C l).length=R*C∧Da (Oa R C l)=true∧Da (J9 R C l)=true:=by
 have h1:=Afb h
 rw [Vi h1] at h
 obtain ⟨R,C,rfl,rfl,r6,c6,hl⟩:=C2 (E7 h1).1
 rw [Aw5,Aw5] at h
 by_cases ho:Qj R C l=true
 ·unfold Qj at ho
  obtain ⟨o1,o2⟩:=Ae.1 ho
  obtain ⟨o3,o4⟩:=Ae.1 o2
  obtain ⟨q1,q2⟩:=Aps o1
  obtain ⟨g1,g2⟩:=Apr al hl o1
  exact ⟨R,C,rfl,rfl,r6,c6,hl,q1,q2,g1,g2,o3,o4⟩
 ·rw [Axp ho] at h; exact absurd h (by decide)
theorem Af5 {R C:Nat} {l:List Int} (r6:R≤6) (c6:C≤6) (hl:l.length=R*C) {x y a b:Int} (hp:La (R:Int) (C:Int) x y a b=true) :
 Fk (R:Int) (C:Int) l x y a b=(a,b,Cd a.toNat b.toNat fun i k=>Di (C:Int) l (x+(i:Int)) (y+(k:Int)),0):=by
 unfold Fk; rw [Axq (K8 r6 c6 hl),Axq hp]
theorem X3 {r c:Int} {l:List Int} (al:Af l=true) (h:Ey r c l=0) :
 Fk r r (Oa r.toNat c.toNat l) 0 0 r (min r c)=Hp r c l∧Fk r c (J9 r.toNat c.toNat l) 0 0 (min r c) c=Mf r c l:=by
 obtain ⟨R,C,rfl,rfl,r6,c6,hl,q1,q2,g1,g2,_,_⟩:=W3 al h
 unfold Hp Mf
 rw [h,Axp (by decide),Axp (by decide),Aw5,Aw5]
 have p1:La (R:Int) (R:Int) 0 0 (R:Int) (min (R:Int) (C:Int))=true:=Aw4 (by omega)
 have p2:La (R:Int) (C:Int) 0 0 (min (R:Int) (C:Int)) (C:Int)=true:=Aw4 (by omega)
 rw [Af5 r6 r6 q2 p1,Af5 r6 c6 g2 p2]
 exact ⟨rfl,rfl⟩
theorem Al9 {r c:Int} {l:List Int} (al:Af l=true) (h:Ey r c l=0):Af (Oa r.toNat c.toNat l)=true∧Af (J9 r.toNat c.toNat l)=true:=by
 obtain ⟨R,C,rfl,rfl,_,_,_,q1,_,g1,_,_,_⟩:=W3 al h
 rw [Aw5,Aw5]
 exact ⟨q1,g1⟩
theorem An3 {r c:Int} {l:List Int} (al:Af l=true) (h:Ey r c l=0):Af (Hp r c l).2.2.1=true∧Af (Mf r c l).2.2.1=true:=by
 obtain ⟨a,b⟩:=X3 al h
 obtain ⟨q1,g1⟩:=Al9 al h
 rw [← a,← b]
 exact ⟨Rw q1 _ _ _ _,Rw g1 _ _ _ _⟩
theorem qr.Jp.known:qr.Jp.Kn:=qr.Jp.Ad (.cons Aa.Part.known (.cons qr.C0.known .nil)) fun r c l hp=>by
 have al:Af l=true:=hp
 show ∃ N dv drops,_=some dv∧Wk drops dv (DV.tup [.agg [.int .i64 (Hp r c l).1,.int .i64 (Hp r c l).2.1,.ints .fresh .u64 (Hp r c l).2.2.1],.agg [.int .i64 (Mf r c l).1,.int .i64 (Mf r c l).2.1,.ints .fresh .u64 (Mf r c l).2.2.1],.int .i64 (Ey r c l)])
 by_cases h:Ey r c l=0
 ·obtain ⟨e1,e2⟩:=Pn h
  obtain ⟨t1,t2⟩:=X3 al h
  refine ⟨0,DV.tup [.agg [.int .i64 (Hp r c l).1,.int .i64 (Hp r c l).2.1,.ints .fresh .u64 (Hp r c l).2.2.1],.agg [.int .i64 (Mf r c l).1,.int .i64 (Mf r c l).2.1,.ints .fresh .u64 (Mf r c l).2.2.1],.int .i64 0],[],by rw [qr.Jp.ev,al,Aw3,Fh h,Aw7,e1,e2,t1,t2],by rw [h]; exact Wk.G3 (.cons (Wk.H5 (.cons .int (.cons .int (.cons .O5 .nil)))) (.cons (Wk.H5 (.cons .int (.cons .int (.cons .O5 .nil)))) (.cons .int .nil)))⟩
 ·have e1:Hp r c l=Ij (Ey r c l):=by unfold Hp; rw [Axq h]
  have e2:Mf r c l=Ij (Ey r c l):=by unfold Mf; rw [Axq h]
  rw [e1,e2]
  exact ⟨0,Wg (Ey r c l),[],by rw [qr.Jp.ev,al,Aw3,Qv h,Aw3]; rfl,S2⟩
theorem Aut {r c p:Int}:((A0 r c)||(r !=p))=decide (r<c∨r≠p):=by
 rw [Au,Axj]; simp
theorem solve.Gc.known:solve.Gc.Kn:=solve.Gc.Ad (.cons B6.Check.known (.cons qr.Jp.known (.cons qr.Ep.known (.cons solve.Flat.known (.cons solve.Gi.known .nil))))) fun r c l p q m hp=>by
 obtain ⟨al,am⟩:=Ae.1 (show (Af l&&Af m)=true from hp)
 show ∃ N dv drops,_=some dv∧Wk drops dv (Qu (It r c l p q m))
 have hrun:=solve.Gc.ev 0 r c l p q m
 rw [al,Aw3] at hrun
 unfold It
 by_cases c1:Bo r c l=0
 ·rw [Fh c1,Aw7,am,Aw3] at hrun
  rw [Axp (by rw [c1]; decide)]
  by_cases c2:Bo p q m=0
  ·rw [Fh c2,Aw7,Aut] at hrun
   rw [Axp (by rw [c2]; decide)]
   by_cases c3:r<c∨r≠p
   ·rw [Aw4 c3,Aw3] at hrun
    rw [Axq c3]
    exact ⟨0+4,_,[],hrun,Ho⟩
   ·rw [Aw8 c3,Aw7,Aw3] at hrun
    rw [Axp c3]
    by_cases c4:Ey r c l=0
    ·obtain ⟨i1,i2⟩:=An3 al c4
     rw [Fh c4,Aw7,i2,Aw3] at hrun
     rw [Axp (by rw [c4]; decide)]
     by_cases c5:(I6 (Mf r c l).1 (Mf r c l).2.1 (Mf r c l).2.2.1).1=true
     ·rw [c5,Aw3] at hrun
      rw [Axq c5]
      exact ⟨0+4,_,[],hrun,Ho⟩
     ·have c5':(I6 (Mf r c l).1 (Mf r c l).2.1 (Mf r c l).2.2.1).1=false:=by simpa using c5
      rw [c5',Aw7,i1,Aw9,Aw3] at hrun
      rw [Axp c5]
      unfold Anl
      by_cases c6:(De (Hp r c l).1 (Hp r c l).2.1 (Hp r c l).2.2.1 p q m).2.2.2=0
      ·rw [Fh c6,Aw7,Ag1,Aw9,Aw3] at hrun
       rw [Axp (by rw [c6]; decide)]
       exact ⟨0+4,_,[],hrun,L6⟩
      ·rw [Qv c6,Aw3] at hrun
       rw [Axq c6]
       exact ⟨0+4,_,[],hrun,Ho⟩
    ·rw [Qv c4,Aw3] at hrun
     rw [Axq c4]
     exact ⟨0+4,_,[],hrun,Ho⟩
  ·rw [Qv c2,Aw3] at hrun
   rw [Axq c2]
   exact ⟨0+4,_,[],hrun,Ho⟩
 ·rw [Qv c1,Aw3] at hrun
  rw [Axq c1]
  exact ⟨0+4,_,[],hrun,Ho⟩
namespace EqRef17
def Bh.Finite.hint:Nat→Option A5
 | 0=>some { keep:=[0,3],objs:=[],boxes:=[] }
 | _=>none
def Bh.Finite.A8:List (Nat × Entry):=[(131,Ax.Finite.spec)]
def Bh.Finite.E:Env:=Ba (A7 Bh.Finite.A8) (fun _=>false) Bh.Finite.hint (fun _=>none)
section
variable (N M:Nat) (x:List Int) (p3:Int)
def Bh.Finite.L0:Option DV:=Cc Bh.Finite.E N f92 (Ap f92) [1,0,1,0] [] M ⟨He 16 [(0,.ints .arg .u64 x),(3,.int .i64 p3)],[]⟩
theorem Bh.Finite.Aw:Bh.Finite.L0 N (M+1) x p3=bif (A0 p3 (length x:Int)) then bif ((decide (0≤p3))&&(decide (p3<(length x:Int)))) then bif (Ah (getD x (toNat p3) 0)) then bif (!(Cq (getD x (toNat p3) 0))) then some (.bool false) else Bh.Finite.L0 N M x (Ab (p3+1)) else none else none else some (.bool true):=by kernel_rfl
theorem Bh.Finite.ev:B0 Bh.Finite.E N f92 (Ap f92) [.ints .arg .u64 x] =
 Bh.Finite.L0 N N x 0:=by kernel_rfl
end
abbrev _root_.Go.Proofs.S1.Bh.Finite.Kn:=A4 prog 92 Bh.Finite.spec
theorem Bh.Finite.Ad (hk:Ay prog Bh.Finite.A8) (h:Hyp Bh.Finite.E f92 Bh.Finite.ts Bh.Finite.pre Bh.Finite.out):Bh.Finite.Kn :=
 Al (A1 hk _ _ _) func92 (by kernel_rfl) (by kernel_rfl) h
def C1.Check.A8:List (Nat × Entry):=[(92,Bh.Finite.spec),(91,Cx.F9.spec)]
def C1.Check.E:Env:=Ba (A7 C1.Check.A8) (fun _=>false) (fun _=>none) (fun _=>none)
theorem C1.Check.ev (N:Nat) (r c:Int) (l:List Int):B0 C1.Check.E N f25 (Ap f25) [.agg [.int .i64 r,.int .i64 c,.ints .arg .u64 l]]=bif (!(Ak r c l)) then some (.int .i64 1) else bif (Dh l) then bif (!(Da l)) then some (.int .i64 4) else some (.int .i64 0) else none:=by kernel_rfl
abbrev _root_.Go.Proofs.S1.C1.Check.Kn:=A4 prog 25 C1.Check.spec
theorem C1.Check.Ad (hk:Ay prog C1.Check.A8) (h:Hyp C1.Check.E f25 C1.Check.ts C1.Check.pre C1.Check.out):C1.Check.Kn :=
 Al (A1 hk _ _ _) func25 (by kernel_rfl) (by kernel_rfl) h
end EqRef17
open EqRef17
theorem Uw (N:Nat) {x:List Int} (hx:Dh x=true):∀ (k i F:Nat),i+k=x.length→k<F→Bh.Finite.L0 N F x (i:Int)=some (.bool ((x.drop i).all Cq)):=by
 obtain ⟨hl,hu⟩:=Ks hx
 intro k
 induction k with
 | zero =>
   intro i F hi hF
   obtain ⟨F,rfl⟩:∃ G,F=G+1:=⟨F-1,by omega⟩
   rw [Bh.Finite.Aw,Au,Aw8 (by omega),Aw7,Axh (by omega)]; rfl
 | succ k ih =>
   intro i F hi hF
   obtain ⟨F,rfl⟩:∃ G,F=G+1:=⟨F-1,by omega⟩
   rw [Bh.Finite.Aw,Au,Aw4 (show (i:Int)<(x.length:Int) by omega),Aw3,Aw4 (show (0:Int)≤(i:Int) by omega),Aw9,Aw3,Aw5,hu i (by omega),Aw3,Ih (by omega),List.all_cons]
   cases Cq (x.getD i 0) with
   | false=>rfl
   | true =>
     rw [Ax2,Aw7,Ao (by omega) (by omega),Ayg]
     exact ih (i+1) F (by omega) (by omega)
theorem Bh.Finite.known:Bh.Finite.Kn:=Bh.Finite.Ad (.cons Ax.Finite.known .nil) fun x hp=>by
 have hp:Dh x=true:=hp
 refine ⟨x.length+1,Bh.Finite.out [.l x],[],?_,.bool⟩
 show _=some (DV.bool (x.all Cq))
 rw [Bh.Finite.ev]
 exact Uw _ hp x.length 0 (x.length+1) (by omega) (by omega)
theorem C1.Check.known:C1.Check.Kn:=C1.Check.Ad (.cons Bh.Finite.known (.cons Cx.F9.known .nil)) fun r c l hp=>by
 have hp:Af l=true:=hp
 refine ⟨0,C1.Check.out [.i r,.i c,.l l],[],?_,.int⟩
 show _=some (DV.int .i64 (Bo r c l))
 rw [C1.Check.ev]
 unfold Bo
 by_cases h:Ak r c l=true
 ·have:=Mm h
  rw [h,Ax2,Aw7,Kg hp (by omega),Aw3,Axq rfl]
  cases Da l<;>rfl
 ·have h':Ak r c l=false:=by simpa using h
  rw [h']; rfl
def Ahy (x:MX):DV:=.tup [.agg [.int .i64 x.1,.int .i64 x.2.1,.ints .arg .u64 x.2.2.1],.int .i64 x.2.2.2]
theorem Afq {drops:List Nat} {x:MX}:Wk drops (Ahy x) (Ahy x) :=
 Wk.G3 (.cons (Wk.H5 (.cons .int (.cons .int (.cons .Xv .nil)))) (.cons .int .nil))
theorem Adk {drops:List Nat} {e:Int}:Wk drops (Aei e) (Ahy (Ij e)) :=
 Wk.G3 (.cons (Wk.H5 (.cons .int (.cons .int (.cons (.nil _ _) .nil)))) (.cons .int .nil))
section
variable {n Q:Nat} {l m:List Int}
end
namespace EqRef14
end EqRef14
open EqRef13 EqRef14
open EqRef13 EqRef14
section
variable {R C i k:Nat} {l v:List Int} {t:Int}
end
namespace EqLow
def Ci.Ch.down.A8:List (Nat × Entry):=[]
def Ci.Ch.down.E:Env:=Ba (A7 Ci.Ch.down.A8) (fun _=>false) (fun _=>none) (fun _=>none)
theorem Ci.Ch.down.ev (N:Nat) (n k:Int):B0 Ci.Ch.down.E N f77 (Ap f77) [.int .i64 n,.int .i64 k]=some (.int .i64 k):=by kernel_rfl
abbrev _root_.Go.Proofs.S1.Ci.Ch.down.Kn:=A4 prog 77 Ci.Ch.down.spec
theorem Ci.Ch.down.Ad (hk:Ay prog Ci.Ch.down.A8) (h:Hyp Ci.Ch.down.E f77 Ci.Ch.down.ts Ci.Ch.down.pre Ci.Ch.down.out):Ci.Ch.down.Kn :=
 Al (A1 hk _ _ _) func77 (by kernel_rfl) (by kernel_rfl) h
def solve.Dv.A8:List (Nat × Entry):=[]
def solve.Dv.E:Env:=Ba (A7 solve.Dv.A8) (fun _=>false) (fun _=>none) (fun _=>none)
theorem solve.Dv.ev (N:Nat) (i k:Int):B0 solve.Dv.E N f78 (Ap f78) [.int .i64 i,.int .i64 k]=some (.bool (A0 k i)):=by kernel_rfl
abbrev _root_.Go.Proofs.S1.solve.Dv.Kn:=A4 prog 78 solve.Dv.spec
theorem solve.Dv.Ad (hk:Ay prog solve.Dv.A8) (h:Hyp solve.Dv.E f78 solve.Dv.ts solve.Dv.pre solve.Dv.out):solve.Dv.Kn :=
 Al (A1 hk _ _ _) func78 (by kernel_rfl) (by kernel_rfl) h
def solve.Aq.Lo.hint:Nat→Option A5
 | 0=>some { keep:=[2,3,4,5,8,10,11,28,29],objs:=[(12,2,112002,.ints 37 .u64 [])],boxes:=[4,5,8,11] }
 | 2=>some { keep:=[2,3,4,5,8,10,11,13,28,29,32,33],objs:=[(12,2,112002,.ints 37 .u64 [])],boxes:=[4,5,8,11] }
 | 4=>some { keep:=[2,3,4,5,8,10,11,13,15,16,28,29,32,33,49,50],objs:=[(12,2,112002,.ints 37 .u64 [])],boxes:=[4,5,8,11] }
 | _=>none
def solve.Aq.Lo.A8:List (Nat × Entry):=[(77,Ci.Ch.down.spec),(151,Aa.B2.own.spec),(78,solve.Dv.spec),(158,Ac.Div.spec),(150,Ac.Finite.spec),(157,Ac.Mul.spec),(156,Ac.Sub.spec)]
def solve.Aq.Lo.E:Env:=Ba (A7 solve.Aq.Lo.A8) (fun n=>Nat.beq n 24) solve.Aq.Lo.hint (fun _=>none)
section
variable (N M0 M1 M:Nat) (r c:Int) (l:List Int) (p q:Int) (m:List Int) (n p16 p50 p13_1 p15 p29_2 p33_1:Int) (p2_1:List Int) (p33:Int) (p2:List Int) (p13 p29_1 p29:Int) (p2_2:List Int)
def solve.Aq.Lo.L0:Option DV:=Cc solve.Aq.Lo.E N f76 (Ap f76) [1,1,1,0,1,0] [] M ⟨He 108 [(2,.fn 77 [.int .i64 n] []),(3,.fn 78 [] []),(4,.ptr 4 0 0),(5,.ptr 5 0 0),(8,.ptr 8 0 0),(10,.int .i64 r),(11,.ptr 11 0 0),(28,.int .i64 q),(29,.int .i64 p29)],[(4,false,.box [.int .i64 r,.int .i64 c,.ints .arg .u64 l]),(5,false,.box [.int .i64 p,.int .i64 q,.ints .arg .u64 m]),(8,false,.box [.int .i64 0,.int .i64 0,.nil]),(11,false,.box [.int .i64 r,.int .i64 q,.oref 112002]),(112002,false,.ints 37 .u64 p2_2)]⟩
def solve.Aq.Lo.L1:Option DV:=Cc solve.Aq.Lo.E N f76 (Ap f76) [1,1,1,0,1,0,0,1,1,0,0,1,0,1,1,0] [M0] M ⟨He 108 [(2,.fn 77 [.int .i64 n] []),(3,.fn 78 [] []),(4,.ptr 4 0 0),(5,.ptr 5 0 0),(8,.ptr 8 0 0),(10,.int .i64 r),(11,.ptr 11 0 0),(13,.int .i64 p13),(28,.int .i64 q),(29,.int .i64 p29_1),(32,.int .i64 r),(33,.int .i64 p33)],[(4,false,.box [.int .i64 r,.int .i64 c,.ints .arg .u64 l]),(5,false,.box [.int .i64 p,.int .i64 q,.ints .arg .u64 m]),(8,false,.box [.int .i64 0,.int .i64 0,.nil]),(11,false,.box [.int .i64 r,.int .i64 q,.oref 112002]),(112002,false,.ints 37 .u64 p2)]⟩
def solve.Aq.Lo.L2:Option DV:=Cc solve.Aq.Lo.E N f76 (Ap f76) [1,1,1,0,1,0,0,1,1,0,0,1,0,1,1,0,0,1,1,0,0,1,1,1,0,1,0] [M0,M1] M ⟨He 108 [(2,.fn 77 [.int .i64 n] []),(3,.fn 78 [] []),(4,.ptr 4 0 0),(5,.ptr 5 0 0),(8,.ptr 8 0 0),(10,.int .i64 r),(11,.ptr 11 0 0),(13,.int .i64 p13_1),(15,.int .i64 p15),(16,.int .u64 p16),(28,.int .i64 q),(29,.int .i64 p29_2),(32,.int .i64 r),(33,.int .i64 p33_1),(49,.int .i64 r),(50,.int .i64 p50)],[(4,false,.box [.int .i64 r,.int .i64 c,.ints .arg .u64 l]),(5,false,.box [.int .i64 p,.int .i64 q,.ints .arg .u64 m]),(8,false,.box [.int .i64 0,.int .i64 0,.nil]),(11,false,.box [.int .i64 r,.int .i64 q,.oref 112002]),(112002,false,.ints 37 .u64 p2_1)]⟩
theorem solve.Aq.Lo.Aw:solve.Aq.Lo.L0 N (M+1) r c l p q m n p29 p2_2=bif (A0 p29 q) then solve.Aq.Lo.L1 N M N r c l p q m n 0 p2_2 p29 p29 else bif (Dh p2_2) then bif (!(Da p2_2)) then some (.tup [.agg [.int .i64 0,.int .i64 0,.nil],.int .i64 2]) else some (.tup [.agg [.int .i64 r,.int .i64 q,.ints (.own 112002 37) .u64 p2_2],.int .i64 0]) else none:=by kernel_rfl
theorem solve.Aq.Lo.Ct:solve.Aq.Lo.L1 N M0 (M+1) r c l p q m n p33 p2 p13 p29_1=bif (A0 p33 r) then bif ((decide (0≤(Ab ((Ab (p33*q))+p13))))&&(decide ((Ab ((Ab (p33*q))+p13))<(length m:Int)))) then solve.Aq.Lo.L2 N M0 M N r c l p q m n (getD m (toNat (Ab ((Ab (p33*q))+p13))) 0) 0 p13 p33 p29_1 p33 p2 else none else solve.Aq.Lo.L0 N M0 r c l p q m n (Ab (p29_1+1)) p2:=by kernel_rfl
theorem solve.Aq.Lo.Jt:solve.Aq.Lo.L2 N M0 M1 (M+1) r c l p q m n p16 p50 p13_1 p15 p29_2 p33_1 p2_1=bif (A0 p50 r) then bif (decide (p50<p15)) then bif ((decide (0≤(Ab ((Ab (p15*r))+p50))))&&(decide ((Ab ((Ab (p15*r))+p50))<(length l:Int)))) then bif ((decide (0≤(Ab ((Ab (p50*q))+p13_1))))&&(decide ((Ab ((Ab (p50*q))+p13_1))<(length p2_1:Int)))) then bif (decide ((toNat (Ab ((Ab (p50*q))+p13_1)))<(length p2_1))) then bif (Ah (getD l (toNat (Ab ((Ab (p15*r))+p50))) 0)&&Ah (getD p2_1 (toNat (Ab ((Ab (p50*q))+p13_1))) 0)) then bif (Ah p16&&Ah (Eh (getD l (toNat (Ab ((Ab (p15*r))+p50))) 0) (getD p2_1 (toNat (Ab ((Ab (p50*q))+p13_1))) 0))) then solve.Aq.Lo.L2 N M0 M1 M r c l p q m n (Dl p16 (Eh (getD l (toNat (Ab ((Ab (p15*r))+p50))) 0) (getD p2_1 (toNat (Ab ((Ab (p50*q))+p13_1))) 0))) (Ab (p50+1)) p13_1 p15 p29_2 p33_1 p2_1 else none else none else none else none else none else solve.Aq.Lo.L2 N M0 M1 M r c l p q m n p16 (Ab (p50+1)) p13_1 p15 p29_2 p33_1 p2_1 else bif ((decide (0≤(Ab ((Ab (p15*r))+p15))))&&(decide ((Ab ((Ab (p15*r))+p15))<(length l:Int)))) then bif (Ah p16&&Ah (getD l (toNat (Ab ((Ab (p15*r))+p15))) 0)) then bif ((decide (0≤(Ab ((Ab (p15*q))+p13_1))))&&(decide ((Ab ((Ab (p15*q))+p13_1))<(length p2_1:Int)))) then bif (decide ((toNat (Ab ((Ab (p15*q))+p13_1)))<(length p2_1))) then solve.Aq.Lo.L1 N M0 M1 r c l p q m n (Ab (p33_1+1)) (List.set p2_1 (toNat (Ab ((Ab (p15*q))+p13_1))) (Fp p16 (getD l (toNat (Ab ((Ab (p15*r))+p15))) 0))) p13_1 p29_2 else none else none else none else none :=
 Eq.trans (by kernel_rfl)
 (Ev (Ev (Dw (M9 (decide (0≤(Ab ((Ab (p15*r))+p50)))) (decide ((Ab ((Ab (p15*r))+p50))<(length l:Int)))) (Dw (M9 (decide (0≤(Ab ((Ab (p50*q))+p13_1)))) (decide ((Ab ((Ab (p50*q))+p13_1))<(length p2_1:Int)))) (Dw (E4 (decide ((toNat (Ab ((Ab (p50*q))+p13_1)))<(length p2_1)))) (Dw (E4 (Ah (getD l (toNat (Ab ((Ab (p15*r))+p50))) 0)&&Ah (getD p2_1 (toNat (Ab ((Ab (p50*q))+p13_1))) 0))) (Dw (E4 (Ah p16&&Ah (Eh (getD l (toNat (Ab ((Ab (p15*r))+p50))) 0) (getD p2_1 (toNat (Ab ((Ab (p50*q))+p13_1))) 0)))) rfl rfl) rfl) rfl) rfl) rfl) rfl) (Dw (M9 (decide (0≤(Ab ((Ab (p15*r))+p15)))) (decide ((Ab ((Ab (p15*r))+p15))<(length l:Int)))) (Dw (E4 (Ah p16&&Ah (getD l (toNat (Ab ((Ab (p15*r))+p15))) 0))) (Dw (M9 (decide (0≤(Ab ((Ab (p15*q))+p13_1)))) (decide ((Ab ((Ab (p15*q))+p13_1))<(length p2_1:Int)))) (Dw (E4 (decide ((toNat (Ab ((Ab (p15*q))+p13_1)))<(length p2_1)))) rfl rfl) rfl) rfl) rfl))
theorem solve.Aq.Lo.ev:B0 solve.Aq.Lo.E N f76 (Ap f76) [.agg [.int .i64 r,.int .i64 c,.ints .arg .u64 l],.agg [.int .i64 p,.int .i64 q,.ints .arg .u64 m],.fn 77 [.int .i64 n] [],.fn 78 [] []]=bif (Bj r&&Bj q) then solve.Aq.Lo.L0 N N r c l p q m n 0 (Cd (toNat r) (toNat q) (fun _ _=>0)) else none:=by kernel_rfl
end
abbrev _root_.Go.Proofs.S1.solve.Aq.Lo.Kn:=A4 prog 76 solve.Aq.Lo.spec
theorem solve.Aq.Lo.Ad (hk:Ay prog solve.Aq.Lo.A8) (h:Hyp solve.Aq.Lo.E f76 solve.Aq.Lo.ts solve.Aq.Lo.pre solve.Aq.Lo.out):solve.Aq.Lo.Kn :=
 Al (A1 hk _ _ _) func76 (by kernel_rfl) (by kernel_rfl) h
def solve.Gm.A8:List (Nat × Entry):=[(75,solve.check.spec),(76,solve.Aq.Lo.spec)]
def solve.Gm.E:Env:=Ba (A7 solve.Gm.A8) (fun _=>false) (fun _=>none) (fun _=>none)
theorem solve.Gm.ev (N:Nat) (r c:Int) (l:List Int) (p q:Int) (m:List Int):B0 solve.Gm.E N f22 (Ap f22) [.agg [.int .i64 r,.int .i64 c,.ints .arg .u64 l],.agg [.int .i64 p,.int .i64 q,.ints .arg .u64 m]]=bif (Af l&&Af m) then bif ((Nw r c l p q m) !=(0:Int)) then some (.tup [.agg [.int .i64 0,.int .i64 0,.nil],.int .i64 (Nw r c l p q m)]) else bif (Oj r c l p q m&&decide (r=r)) then some (.tup [.agg [.int .i64 ((Jn r q (loG c l q m (toNat r) (toNat q))).1),.int .i64 ((Jn r q (loG c l q m (toNat r) (toNat q))).2.1),.ints .fresh .u64 ((Jn r q (loG c l q m (toNat r) (toNat q))).2.2.1)],.int .i64 ((Jn r q (loG c l q m (toNat r) (toNat q))).2.2.2)]) else none else none:=by kernel_rfl
abbrev _root_.Go.Proofs.S1.solve.Gm.Kn:=A4 prog 22 solve.Gm.spec
theorem solve.Gm.Ad (hk:Ay prog solve.Gm.A8) (h:Hyp solve.Gm.E f22 solve.Gm.ts solve.Gm.pre solve.Gm.out):solve.Gm.Kn :=
 Al (A1 hk _ _ _) func22 (by kernel_rfl) (by kernel_rfl) h
end EqLow
open EqLow
theorem solve.Dv.known:solve.Dv.Kn:=solve.Dv.Ad .nil fun i k _=>by
 refine ⟨0,solve.Dv.out [.i i,.i k],[],?_,.bool⟩
 rw [solve.Dv.ev,Au]; rfl
theorem Aed.known:Ci.Ch.down.Kn:=Ci.Ch.down.Ad .nil fun n k _=>⟨0,Ci.Ch.down.out [.i n,.i k],[],by rw [Ci.Ch.down.ev]; rfl,.int⟩
section
variable {n Q:Nat} {l m:List Int}
def loF (n Q:Nat) (l m:List Int) (i j:Nat):Int:=(Xi (n:Int) l (fun i=>Di (Q:Int) m (i:Int) (j:Int)) n).getD i 0
def loD (j k a b:Nat):Bool:=decide (b<j∨(b=j∧a<k))
def Vf (n Q:Nat) (l m:List Int) (j k:Nat):List Int:=Cd n Q fun a b=>if loD j k a b=true then loF n Q l m a b else 0
theorem Aln (i j:Nat):Ah (loF n Q l m i j)=true:=Sf (Aeq _ _ _ _) i
theorem Asa (j k:Nat):Af (Vf n Q l m j k)=true:=Gv fun a b=>by
 split
 ·exact Aln _ _
 ·exact Jr
theorem Ao9 {j k t:Nat} (ht:t<n) (hj:j<Q) (hk:t<k):Di (Q:Int) (Vf n Q l m j k) (t:Int) (j:Int)=loF n Q l m t j:=by
 unfold Vf
 have hd:loD j k t j=true:=Aw4 (.inr ⟨rfl,hk⟩)
 rw [Pz ht hj,hd,Axq rfl]
theorem Aab (j k:Nat):(Vf n Q l m j k).length=n*Q:=Br _ _ _
theorem Ao8 {i j:Nat} (hj:j<Q) {x:Int} (hx:x=loF n Q l m i j):List.set (Vf n Q l m j i) (toNat ((i:Int)*(Q:Int)+(j:Int))) x=Vf n Q l m j (i+1):=by
 refine Ac0 hj hx fun a b ha hb=>?_
 unfold loD
 rw [Axa,Axa]
 omega
theorem All (j:Nat):Vf n Q l m j n=Vf n Q l m (j+1) 0:=by
 unfold Vf
 refine Dq fun a b ha hb=>?_
 have:loD j n a b=loD (j+1) 0 a b:=by
  unfold loD
  rw [decide_eq_decide]
  omega
 rw [this]
theorem Alk:Vf n Q l m 0 0=Cd n Q fun _ _=>0:=by
 unfold Vf
 refine Dq fun a b ha hb=>?_
 have:loD 0 0 a b=false:=Aw8 (by omega)
 rw [this]; rfl
theorem Apa:Vf n Q l m Q 0=loG (n:Int) l (Q:Int) m n Q:=by
 unfold Vf loG
 refine Dq fun a b ha hb=>?_
 have:loD Q 0 a b=true:=Aw4 (.inl hb)
 rw [this]; rfl
def loR (n Q:Nat) (l m:List Int) (i j t:Nat) (s:Int):Int:=Mt (n:Int) l (i:Int) s (t:Int) (((Xi (n:Int) l (fun i=>Di (Q:Int) m (i:Int) (j:Int)) n).take i).drop t)
theorem Agf {i j:Nat} (hi:i<n) (s:Int):loR n Q l m i j i s=s:=by
 unfold loR
 rw [Axh (by rw [List.length_take,G8]; omega),Mt]
theorem Alm {i j t:Nat} (hi:i<n) (ht:t<i) (s:Int):loR n Q l m i j t s=loR n Q l m i j (t+1) (Dl s (Eh (Di (n:Int) l (i:Int) (t:Int)) (loF n Q l m t j))):=by
 unfold loR loF
 rw [Yq (by rw [List.length_take,G8]; omega),Axd,List.getElem?_take_of_lt ht,← Axd]
 rfl
theorem Apb {i j:Nat} (hi:i<n):Fp (loR n Q l m i j 0 (Di (Q:Int) m (i:Int) (j:Int))) (Di (n:Int) l (i:Int) (i:Int))=loF n Q l m i j:=by
 unfold loR loF
 rw [List.drop_zero,Apc hi]; rfl
theorem Ali (N:Nat) (n6:n≤6) (q6:Q≤6) (hl:l.length=n*n) (al:Af l=true) {i j:Nat} (hi:i<n) (hj:j<Q) (M0 M1:Nat) (p29 p33:Int) :
 ∀ (cnt t F:Nat) (s:Int),t+cnt=n→cnt<F→Ah s=true→(i<t→t≤n) →
 solve.Aq.Lo.L2 N M0 M1 F (n:Int) (n:Int) l (n:Int) (Q:Int) m (n:Int) s (t:Int) (j:Int) (i:Int) p29 p33 (Vf n Q l m j i) =
 solve.Aq.Lo.L1 N M0 M1 (n:Int) (n:Int) l (n:Int) (Q:Int) m (n:Int) (Ab (p33+(1:Int))) (List.set (Vf n Q l m j i) (toNat ((i:Int)*(Q:Int)+(j:Int))) (Fp (if t<i then loR n Q l m i j t s else s) (Di (n:Int) l (i:Int) (i:Int)))) (j:Int) p29:=by
 intro cnt
 induction cnt with
 | zero =>
   intro t F s ht hF hs _
   obtain ⟨F,rfl⟩:∃ G,F=G+1:=⟨F-1,by omega⟩
   obtain ⟨e1,g1,g2⟩:=Hi (R:=(n:Int)) (F8 n6 n6 hl hi hi)
   obtain ⟨e2,g3,g4⟩:=Hi (R:=(n:Int)) (F8 n6 q6 (Aab (l:=l) (m:=m) j i) hi hj)
   rw [Axp (by omega)]
   rw [solve.Aq.Lo.Jt,Au,Aw8 (show ¬ (t:Int)<(n:Int) by omega),Aw7,e1,Aw4 g1,Aw4 g2,Aw9,Aw3,hs,show Ah (getD l (toNat ((i:Int)*(n:Int)+(i:Int))) 0)=true from Ha (c:=(n:Int)) al,Aw9,Aw3,
    e2,Aw4 g3,Aw4 g4,Aw9,Aw3,Aw4 (show toNat ((i:Int)*(Q:Int)+(j:Int))<(Vf n Q l m j i).length by omega),Aw3]
   rfl
 | succ cnt ih =>
   intro t F s ht hF hs _
   obtain ⟨F,rfl⟩:∃ G,F=G+1:=⟨F-1,by omega⟩
   by_cases hti:t<i
   ·obtain ⟨e1,g1,g2⟩:=Hi (R:=(n:Int)) (F8 n6 n6 hl hi (show t<n by omega))
    obtain ⟨e2,g3,g4⟩:=Hi (R:=(n:Int)) (F8 n6 q6 (Aab (l:=l) (m:=m) j i) (show t<n by omega) hj)
    have hx:getD (Vf n Q l m j i) (toNat ((t:Int)*(Q:Int)+(j:Int))) 0=loF n Q l m t j:=Ao9 (by omega) hj hti
    have:=ih (t+1) F (Dl s (Eh (Di (n:Int) l (i:Int) (t:Int)) (loF n Q l m t j))) (by omega) (by omega) (Nc hs (Kj _ _)) (by omega)
    rw [Axq hti,Alm hi hti]
    rw [solve.Aq.Lo.Jt,Au,Aw4 (show (t:Int)<(n:Int) by omega),Aw3,Aw4 (show (t:Int)<(i:Int) by omega),Aw3,e1,Aw4 g1,Aw4 g2,Aw9,Aw3,
     e2,Aw4 g3,Aw4 g4,Aw9,Aw3,Aw4 (show toNat ((t:Int)*(Q:Int)+(j:Int))<(Vf n Q l m j i).length by omega),Aw3,hx,
     show Ah (getD l (toNat ((i:Int)*(n:Int)+(t:Int))) 0)=true from Ha (c:=(n:Int)) al,Aln,Aw9,Aw3,hs,Kj,Aw9,Aw3,Ao (x:=(t:Int)+1) (by omega) (by omega)]
    have e:(if t+1<i then loR n Q l m i j (t+1) (Dl s (Eh (Di (n:Int) l (i:Int) (t:Int)) (loF n Q l m t j))) else Dl s (Eh (Di (n:Int) l (i:Int) (t:Int)) (loF n Q l m t j)))=loR n Q l m i j (t+1) (Dl s (Eh (Di (n:Int) l (i:Int) (t:Int)) (loF n Q l m t j))):=by
     by_cases h2:t+1<i
     ·rw [Axq h2]
     ·rw [Axp h2,show t+1=i by omega,Agf hi]
    rw [e] at this
    exact this
   ·have:=ih (t+1) F s (by omega) (by omega) hs (by omega)
    rw [Axp hti,solve.Aq.Lo.Jt,Au,Aw4 (show (t:Int)<(n:Int) by omega),Aw3,Aw8 (show ¬ (t:Int)<(i:Int) by omega),Aw7,Ao (by omega) (by omega)]
    rw [Axp (by omega)] at this
    exact this
theorem Ao6 (N:Nat) (n6:n≤6) (q6:Q≤6) (hN:7<N) (hl:l.length=n*n) (hm:m.length=n*Q) (al:Af l=true) (am:Af m=true) {j:Nat} (hj:j<Q) (M0:Nat):∀ (cnt k F:Nat),k+cnt=n→cnt<F →
 solve.Aq.Lo.L1 N M0 F (n:Int) (n:Int) l (n:Int) (Q:Int) m (n:Int) (k:Int) (Vf n Q l m j k) (j:Int) (j:Int) =
 solve.Aq.Lo.L0 N M0 (n:Int) (n:Int) l (n:Int) (Q:Int) m (n:Int) ((j+1:Nat):Int) (Vf n Q l m j n):=by
 intro cnt
 induction cnt with
 | zero =>
   intro k F hk hF
   obtain ⟨F,rfl⟩:∃ G,F=G+1:=⟨F-1,by omega⟩
   obtain rfl:k=n:=by omega
   rw [solve.Aq.Lo.Ct,Au,Aw8 (by omega),Aw7,Ao (by omega) (by omega)]
   rfl
 | succ cnt ih =>
   intro k F hk hF
   obtain ⟨F,rfl⟩:∃ G,F=G+1:=⟨F-1,by omega⟩
   obtain ⟨e2,g3,g4⟩:=Hi (R:=(n:Int)) (F8 n6 q6 hm (show k<n by omega) hj)
   have hr:=Ali (n:=n) (Q:=Q) (l:=l) (m:=m) N n6 q6 hl al (show k<n by omega) hj M0 F (j:Int) (k:Int) n 0 N (Di (Q:Int) m (k:Int) (j:Int)) (by omega) (by omega) (Ha (c:=(Q:Int)) am) (by omega)
   have e:(if 0<k then loR n Q l m k j 0 (Di (Q:Int) m (k:Int) (j:Int)) else Di (Q:Int) m (k:Int) (j:Int))=loR n Q l m k j 0 (Di (Q:Int) m (k:Int) (j:Int)):=by
    by_cases h:0<k
    ·rw [Axq h]
    ·obtain rfl:k=0:=by omega
     rw [Axp h,Agf (by omega)]
   rw [e,Ao8 hj (Apb (by omega)),Ao (by omega) (by omega)] at hr
   rw [solve.Aq.Lo.Ct,Au,Aw4 (show (k:Int)<(n:Int) by omega),Aw3,e2,Aw4 g3,Aw4 g4,Aw9,Aw3]
   exact hr.trans (ih (k+1) F (by omega) (by omega))
theorem Ao7 (N:Nat) (n6:n≤6) (q6:Q≤6) (hN:7<N) (hl:l.length=n*n) (hm:m.length=n*Q) (al:Af l=true) (am:Af m=true):∀ (cnt j F:Nat),j+cnt=Q→cnt<F →
 solve.Aq.Lo.L0 N F (n:Int) (n:Int) l (n:Int) (Q:Int) m (n:Int) (j:Int) (Vf n Q l m j 0) =
 bif Da (Vf n Q l m Q 0) then some (.tup [.agg [.int .i64 (n:Int),.int .i64 (Q:Int),.ints (.own 112002 tB) .u64 (Vf n Q l m Q 0)],.int .i64 (0:Int)]) else some (Aei 2):=by
 intro cnt
 induction cnt with
 | zero =>
   intro j F hj hF
   obtain ⟨F,rfl⟩:∃ G,F=G+1:=⟨F-1,by omega⟩
   obtain rfl:j=Q:=by omega
   have h36:=Axz n6 q6
   rw [solve.Aq.Lo.Aw,Au,Aw8 (by omega),Aw7,Kg (Asa _ _) (by rw [Aab]; omega),Aw3]
   cases Da (Vf n j l m j 0)<;>rfl
 | succ cnt ih =>
   intro j F hj hF
   obtain ⟨F,rfl⟩:∃ G,F=G+1:=⟨F-1,by omega⟩
   have hr:=Ao6 N n6 q6 hN hl hm al am (show j<Q by omega) F n 0 N (by omega) (by omega)
   rw [All] at hr
   rw [solve.Aq.Lo.Aw,Au,Aw4 (show (j:Int)<(Q:Int) by omega),Aw3]
   exact hr.trans (ih (j+1) F (by omega) (by omega))
end
theorem solve.Aq.Lo.known:solve.Aq.Lo.Kn:=solve.Aq.Lo.Ad (.cons Aed.known (.cons Aa.B2.own.known (.cons solve.Dv.known (.cons Ac.Div.known (.cons Ac.Finite.known (.cons Ac.Mul.known (.cons Ac.Sub.known .nil))))))) fun r c l p q m n hp=>by
 show ∃ N dv drops,_=some dv∧Wk drops dv (Qu (Jn r q (loG c l q m (toNat r) (toNat q))))
 obtain ⟨h1,hn⟩:=Ae.1 (show (Oj r c l p q m&&decide (n=r))=true from hp)
 obtain ⟨h2,h3⟩:=Ae.1 h1
 obtain ⟨hr,hm⟩:=Ae.1 h2
 obtain ⟨h4,h5⟩:=Ae.1 h3
 obtain ⟨al,am⟩:=Ae.1 h4
 obtain ⟨rfl,rfl⟩:=At.1 h5
 obtain rfl:=Axt hn
 have s1:=(Fj hr).1
 have s2:=(Fj hm).2
 obtain ⟨R,C,rfl,hC,r6,c6,hl⟩:=C2 hr
 obtain ⟨P,Q,hP,rfl,p6,q6,hl2⟩:=C2 hm
 obtain rfl:R=C:=by omega
 obtain rfl:R=P:=by omega
 have h:=Ao7 (n:=R) (Q:=Q) (l:=l) (m:=m) 8 r6 q6 (by omega) hl hl2 al am Q 0 8 (by omega) (by omega)
 rw [Alk,Apa,show ((0:Nat):Int)=0 from rfl] at h
 rw [Aw5,Aw5]
 unfold Jn
 cases hf:Da (loG (R:Int) l (Q:Int) m R Q) with
 | true =>
   rw [hf,Aw3] at h
   rw [Axq rfl]
   refine ⟨8,.tup [.agg [.int .i64 (R:Int),.int .i64 (Q:Int),.ints (.own 112002 tB) .u64 (loG (R:Int) l (Q:Int) m R Q)],.int .i64 0],[112002],?_,Wk.G3 (.cons (Adj (List.mem_singleton.2 rfl)) (.cons .int .nil))⟩
   rw [solve.Aq.Lo.ev,s1,s2,Aw9,Aw3,Aw5,Aw5]
   exact h
 | false =>
   rw [hf,Aw7] at h
   rw [Axp (by decide)]
   refine ⟨8,Aei 2,[],?_,Ho⟩
   rw [solve.Aq.Lo.ev,s1,s2,Aw9,Aw3,Aw5,Aw5]
   exact h
theorem solve.Gm.known:solve.Gm.Kn:=solve.Gm.Ad (.cons solve.check.known (.cons solve.Aq.Lo.known .nil)) fun r c l p q m hp=>by
 have hp:(Af l&&Af m)=true:=hp
 show ∃ N dv drops,_=some dv∧Wk drops dv (Qu (Uh r c l p q m))
 unfold Uh
 by_cases h:Nw r c l p q m=0
 ·obtain ⟨h1,h2,h3,h4⟩:=P1 h
  have ht:Oj r c l p q m=true:=Ae.2 ⟨Ae.2 ⟨h1,h2⟩,Ae.2 ⟨hp,At.2 ⟨h3,h4⟩⟩⟩
  rw [Axp (by rw [h]; decide)]
  exact ⟨0,_,[],by rw [solve.Gm.ev,hp,Aw3,Fh h,Aw7,ht,Aw4 rfl]; rfl,L6⟩
 ·rw [Axq h]
  exact ⟨0,_,[],by rw [solve.Gm.ev,hp,Aw3,Qv h,Aw3]; rfl,Ho⟩
namespace EqLse
def Cv.Check.hint:Nat→Option A5
 | 0=>some { keep:=[1,16,17],objs:=[],boxes:=[1] }
 | _=>none
def Cv.Check.A8:List (Nat × Entry):=[(86,B6.Check.spec)]
def Cv.Check.E:Env:=Ba (A7 Cv.Check.A8) (fun _=>false) Cv.Check.hint (fun _=>none)
theorem Cv.Check.ev (N:Nat) (r c:Int) (l:List Int) (p q:Int) (m:List Int) (a b:Int) (g:List Int) (u v:Int) (h:List Int):B0 Cv.Check.E (N+6) f120 (Ap f120) [.agg [.int .i64 r,.int .i64 c,.ints .arg .u64 l,.int .i64 p,.int .i64 q,.ints .arg .u64 m,.int .i64 a,.int .i64 b,.ints .arg .u64 g,.int .i64 u,.int .i64 v,.ints .arg .u64 h]]=bif (Af l) then bif ((Bo r c l) !=(0:Int)) then some (.int .i64 (Bo r c l)) else bif (Af m) then bif ((Bo p q m) !=(0:Int)) then some (.int .i64 (Bo p q m)) else bif (Af g) then bif ((Bo a b g) !=(0:Int)) then some (.int .i64 (Bo a b g)) else bif (Af h) then bif ((Bo u v h) !=(0:Int)) then some (.int .i64 (Bo u v h)) else bif (((((((q !=c)||(a !=r))||(u !=p))||(b !=(1:Int)))||(v !=(1:Int)))||(A0 c p))||(A0 (Ab (r+p)) c)) then some (.int .i64 3) else some (.int .i64 0) else none else none else none else none :=
 Eq.trans (by kernel_rfl)
 (Ev (Ev rfl (Ev (Ev rfl (Ev (Ev rfl (Ev (Ev rfl (An (S4 (q !=c)) (An (Oi (q !=c)) (An (Oi (q !=c)) (An (S4 (q !=c)) (An (Oi (q !=c)) (An (Oi (q !=c)) (An (tt8 (q !=c)) (An (Zk (q !=c)) (An (Zj (q !=c) (a !=r)) (An (Vt (q !=c) (a !=r)) (An (Vt (q !=c) (a !=r)) (An (Zj (q !=c) (a !=r)) (An (Ant (q !=c) (a !=r)) (An (Ajx (q !=c) (a !=r)) (An (Anv (q !=c) (a !=r) (u !=p)) (An (Abc (q !=c) (a !=r) (u !=p)) (An (Abc (q !=c) (a !=r) (u !=p)) (An (Abc (q !=c) (a !=r) (u !=p)) (An (Anw (q !=c) (a !=r) (u !=p)) (An (Ag2 (q !=c) (a !=r) (u !=p) (b !=(1:Int))) (An (Abd (q !=c) (a !=r) (u !=p) (b !=(1:Int))) (An (Abd (q !=c) (a !=r) (u !=p) (b !=(1:Int))) (An (Abd (q !=c) (a !=r) (u !=p) (b !=(1:Int))) (An (Anx (q !=c) (a !=r) (u !=p) (b !=(1:Int))) (An (Ag3 (q !=c) (a !=r) (u !=p) (b !=(1:Int)) (v !=(1:Int))) (An (Ag3 (q !=c) (a !=r) (u !=p) (b !=(1:Int)) (v !=(1:Int))) (An (Ark (q !=c) (a !=r) (u !=p) (b !=(1:Int)) (v !=(1:Int))) (An (Arl (q !=c) (a !=r) (u !=p) (b !=(1:Int)) (v !=(1:Int))) (An (Zm (q !=c) (a !=r) (u !=p) (b !=(1:Int)) (v !=(1:Int)) (A0 c p)) (An (Zm (q !=c) (a !=r) (u !=p) (b !=(1:Int)) (v !=(1:Int)) (A0 c p)) (An (Zl (q !=c) (a !=r) (u !=p) (b !=(1:Int)) (v !=(1:Int)) (A0 c p)) (An (Zl (q !=c) (a !=r) (u !=p) (b !=(1:Int)) (v !=(1:Int)) (A0 c p)) (An (Zm (q !=c) (a !=r) (u !=p) (b !=(1:Int)) (v !=(1:Int)) (A0 c p)) (An (Ag4 (q !=c) (a !=r) (u !=p) (b !=(1:Int)) (v !=(1:Int)) (A0 c p)) (An (Ag4 (q !=c) (a !=r) (u !=p) (b !=(1:Int)) (v !=(1:Int)) (A0 c p)) (An (Arm (q !=c) (a !=r) (u !=p) (b !=(1:Int)) (v !=(1:Int)) (A0 c p)) (Dw (Atm (q !=c) (a !=r) (u !=p) (b !=(1:Int)) (v !=(1:Int)) (A0 c p) (A0 (Ab (r+p)) c)) rfl rfl)))))))))))))))))))))))))))))))))))))) rfl)) rfl)) rfl)) rfl)
abbrev _root_.Go.Proofs.S1.Cv.Check.Kn:=A4 prog 120 Cv.Check.spec
theorem Cv.Check.Ad (hk:Ay prog Cv.Check.A8) (h:Hyp Cv.Check.E f120 Cv.Check.ts Cv.Check.pre Cv.Check.out):Cv.Check.Kn :=
 Al (A1 hk _ _ _) func120 (by kernel_rfl) (by kernel_rfl) h
def Cv.finite.A8:List (Nat × Entry):=[(86,B6.Check.spec)]
def Cv.finite.E:Env:=Ba (A7 Cv.finite.A8) (fun _=>false) (fun _=>none) (fun _=>none)
theorem Cv.finite.ev (N:Nat) (r c:Int) (l:List Int) (e:Int):B0 Cv.finite.E N f122 (Ap f122) [.agg [.int .i64 r,.int .i64 c,.ints .arg .u64 l],.int .i64 e]=bif ((!(e==(0:Int)))||(Af l)) then bif ((e==(0:Int))&&((Bo r c l) !=(0:Int))) then some (.tup [.agg [.int .i64 0,.int .i64 0,.nil],.int .i64 2]) else bif (e !=(0:Int)) then some (.tup [.agg [.int .i64 0,.int .i64 0,.nil],.int .i64 e]) else some (.tup [.agg [.int .i64 r,.int .i64 c,.ints .arg .u64 l],.int .i64 0]) else none :=
 Eq.trans (by kernel_rfl)
 (An (N4 (e==(0:Int))) (Dw (Arf (e==(0:Int)) (Af l)) (An (Na (e==(0:Int))) (An (T6 (e==(0:Int))) (Dw (tt1 (e==(0:Int)) ((Bo r c l) !=(0:Int))) rfl rfl))) rfl))
abbrev _root_.Go.Proofs.S1.Cv.finite.Kn:=A4 prog 122 Cv.finite.spec
theorem Cv.finite.Ad (hk:Ay prog Cv.finite.A8) (h:Hyp Cv.finite.E f122 Cv.finite.ts Cv.finite.pre Cv.finite.out):Cv.finite.Kn :=
 Al (A1 hk _ _ _) func122 (by kernel_rfl) (by kernel_rfl) h
def Cv.held.A8:List (Nat × Entry):=[(124,Aa.Part.spec),(167,Aa.C6.spec),(166,qr.C0.spec),(24,solve.Flat.spec),(22,solve.Gm.spec)]
def Cv.held.live:Nat→Option (List Nat)
 | 5=>some [1,2,3,4,6]
 | 8=>some [1,2,3,7]
 | 9=>some [1,2,3,9]
 | _=>none
def Cv.held.E:Env:=Ba (A7 Cv.held.A8) (fun _=>false) (fun _=>none) Cv.held.live
section
variable (N:Nat) (r c:Int) (l:List Int) (p q:Int) (m:List Int) (a b:Int) (g:List Int) (u v:Int) (h:List Int) (p4 p6 p6_1:Int) (p6_2:List Int) (p5 p5_1:Int) (p5_2:List Int) (p2 p2_1:Int) (p2_2:List Int) (p7 p7_1:Int) (p7_2:List Int) (p9 p9_1:Int) (p9_2:List Int)
def Cv.held.C5:Option DV:=cutAt Cv.held.E N f121 (Ap f121) [1,1,1,1,0] [] ⟨He 69 [(1,.ptr 1 0 0),(2,.ptr 2 0 0),(3,.ptr 3 0 0),(4,.int .i64 p4),(6,.ptr 6 0 0)],[(6,false,.box [.int .i64 p6,.int .i64 p6_1,.ints .arg .u64 p6_2]),(5,false,.box [.int .i64 p5,.int .i64 p5_1,.ints .fresh .u64 p5_2]),(3,false,.box [.int .i64 0,.int .i64 0,.nil]),(2,false,.box [.int .i64 p2,.int .i64 p2_1,.ints .arg .u64 p2_2]),(1,false,.box [.int .i64 r,.int .i64 c,.ints .arg .u64 l,.int .i64 p,.int .i64 q,.ints .arg .u64 m,.int .i64 a,.int .i64 b,.ints .arg .u64 g,.int .i64 u,.int .i64 v,.ints .arg .u64 h])]⟩
def Cv.held.C8:Option DV:=cutAt Cv.held.E N f121 (Ap f121) [1,1,1,1,1,1] [] ⟨He 69 [(1,.ptr 1 0 0),(2,.ptr 2 0 0),(3,.ptr 3 0 0),(7,.ptr 7 0 0)],[(7,false,.box [.int .i64 p7,.int .i64 p7_1,.ints .fresh .u64 p7_2]),(6,false,.box [.int .i64 p6,.int .i64 p6_1,.ints .arg .u64 p6_2]),(5,false,.box [.int .i64 p5,.int .i64 p5_1,.ints .fresh .u64 p5_2]),(3,false,.box [.int .i64 0,.int .i64 0,.nil]),(2,false,.box [.int .i64 p2,.int .i64 p2_1,.ints .arg .u64 p2_2]),(1,false,.box [.int .i64 r,.int .i64 c,.ints .arg .u64 l,.int .i64 p,.int .i64 q,.ints .arg .u64 m,.int .i64 a,.int .i64 b,.ints .arg .u64 g,.int .i64 u,.int .i64 v,.ints .arg .u64 h])]⟩
def Cv.held.C9:Option DV:=cutAt Cv.held.E N f121 (Ap f121) [1,1,1,1,1,1,1,0] [] ⟨He 69 [(1,.ptr 1 0 0),(2,.ptr 2 0 0),(3,.ptr 3 0 0),(9,.ptr 9 0 0)],[(9,false,.box [.int .i64 p9,.int .i64 p9_1,.ints .fresh .u64 p9_2]),(7,false,.box [.int .i64 p7,.int .i64 p7_1,.ints .fresh .u64 p7_2]),(6,false,.box [.int .i64 p6,.int .i64 p6_1,.ints .arg .u64 p6_2]),(5,false,.box [.int .i64 p5,.int .i64 p5_1,.ints .fresh .u64 p5_2]),(3,false,.box [.int .i64 0,.int .i64 0,.nil]),(2,false,.box [.int .i64 p2,.int .i64 p2_1,.ints .arg .u64 p2_2]),(1,false,.box [.int .i64 r,.int .i64 c,.ints .arg .u64 l,.int .i64 p,.int .i64 q,.ints .arg .u64 m,.int .i64 a,.int .i64 b,.ints .arg .u64 g,.int .i64 u,.int .i64 v,.ints .arg .u64 h])]⟩
theorem Cv.held.Am9:Cv.held.C5 N r c l p q m a b g u v h p4 p6 p6_1 p6_2 p5 p5_1 p5_2 p2 p2_1 p2_2=bif (p4 !=(0:Int)) then some (.tup [.agg [.int .i64 0,.int .i64 0,.nil],.agg [.int .i64 0,.int .i64 0,.nil],.int .i64 p4]) else Cv.held.C8 N r c l p q m a b g u v h p6 p6_1 p6_2 p5 p5_1 p5_2 p2 p2_1 p2_2 ((Fk p6 p6_1 p6_2 0 0 p p).1) ((Fk p6 p6_1 p6_2 0 0 p p).2.1) ((Fk p6 p6_1 p6_2 0 0 p p).2.2.1):=(Fy _ _ _ _ _ _ _).trans (by kernel_rfl)
theorem Cv.held.Au5:Cv.held.C8 N r c l p q m a b g u v h p6 p6_1 p6_2 p5 p5_1 p5_2 p2 p2_1 p2_2 p7 p7_1 p7_2 =
 Cv.held.C9 N r c l p q m a b g u v h p6 p6_1 p6_2 p5 p5_1 p5_2 p2 p2_1 p2_2 p7 p7_1 p7_2 ((Cb p7 p7_1 p7_2).1) ((Cb p7 p7_1 p7_2).2.1) ((Cb p7 p7_1 p7_2).2.2.1):=(Fy _ _ _ _ _ _ _).trans (by kernel_rfl)
theorem Cv.held.Am8:Cv.held.C9 N r c l p q m a b g u v h p6 p6_1 p6_2 p5 p5_1 p5_2 p2 p2_1 p2_2 p7 p7_1 p7_2 p9 p9_1 p9_2=bif (Af p9_2) then bif ((I6 p9 p9_1 p9_2).1) then some (.tup [.agg [.int .i64 0,.int .i64 0,.nil],.agg [.int .i64 0,.int .i64 0,.nil],.int .i64 5]) else bif (Af p9_2&&Af h) then some (.tup [.agg [.int .i64 p2,.int .i64 p2_1,.ints .arg .u64 p2_2],.agg [.int .i64 ((Uh p9 p9_1 p9_2 u v h).1),.int .i64 ((Uh p9 p9_1 p9_2 u v h).2.1),.ints .fresh .u64 ((Uh p9 p9_1 p9_2 u v h).2.2.1)],.int .i64 ((Uh p9 p9_1 p9_2 u v h).2.2.2)]) else none else none:=(Fy _ _ _ _ _ _ _).trans (by kernel_rfl)
theorem Cv.held.ev:B0 Cv.held.E N f121 (Ap f121) [.agg [.int .i64 r,.int .i64 c,.ints .arg .u64 l,.int .i64 p,.int .i64 q,.ints .arg .u64 m,.int .i64 a,.int .i64 b,.ints .arg .u64 g,.int .i64 u,.int .i64 v,.ints .arg .u64 h]]=bif (((Cb p q m).2.2.2) !=(0:Int)) then some (.tup [.agg [.int .i64 0,.int .i64 0,.nil],.agg [.int .i64 0,.int .i64 0,.nil],.int .i64 ((Cb p q m).2.2.2)]) else bif (Af ((Cb p q m).2.2.1)) then Cv.held.C5 N r c l p q m a b g u v h (Ey ((Cb p q m).1) ((Cb p q m).2.1) ((Cb p q m).2.2.1)) ((rX ((Cb p q m).1) ((Cb p q m).2.1) ((Cb p q m).2.2.1)).1) ((rX ((Cb p q m).1) ((Cb p q m).2.1) ((Cb p q m).2.2.1)).2.1) ((rX ((Cb p q m).1) ((Cb p q m).2.1) ((Cb p q m).2.2.1)).2.2.1) ((Cb p q m).1) ((Cb p q m).2.1) ((Cb p q m).2.2.1) ((qX ((Cb p q m).1) ((Cb p q m).2.1) ((Cb p q m).2.2.1)).1) ((qX ((Cb p q m).1) ((Cb p q m).2.1) ((Cb p q m).2.2.1)).2.1) ((qX ((Cb p q m).1) ((Cb p q m).2.1) ((Cb p q m).2.2.1)).2.2.1) else none:=by kernel_rfl
end
abbrev _root_.Go.Proofs.S1.Cv.held.Kn:=A4 prog 121 Cv.held.spec
theorem Cv.held.Ad (hk:Ay prog Cv.held.A8) (h:Hyp Cv.held.E f121 Cv.held.ts Cv.held.pre Cv.held.out):Cv.held.Kn :=
 Al (A1 hk _ _ _) func121 (by kernel_rfl) (by kernel_rfl) h
def Cv.Solve.A8:List (Nat × Entry):=[(120,Cv.Check.spec),(122,Cv.finite.spec),(121,Cv.held.spec),(123,Aa.Mul.spec),(124,Aa.Part.spec),(126,Aa.Stack.spec),(125,Aa.Sub.spec),(30,solve.Gc.spec)]
def Cv.Solve.live:Nat→Option (List Nat)
 | 5=>some [1,2,5,6,7]
 | 9=>some [1,2,5,6,7,8,9,10]
 | 12=>some [1,2,5,6,8,9,10,11]
 | 13=>some [1,2,5,6,11,13]
 | 14=>some [1,2,5,6,13,15]
 | 15=>some [2,5,6,7,13,17]
 | 18=>some [2,5,6,7,18]
 | _=>none
def Cv.Solve.E:Env:=Ba (A7 Cv.Solve.A8) (fun _=>false) (fun _=>none) Cv.Solve.live
section
variable (N:Nat) (r c:Int) (l:List Int) (p q:Int) (m:List Int) (a b:Int) (g:List Int) (u v:Int) (h:List Int) (p7 p6 p6_1:Int) (p6_2:List Int) (p5 p5_1:Int) (p5_2:List Int) (p7_1 p10 p10_1:Int) (p10_2:List Int) (p11 p11_1:Int) (p11_2:List Int) (p13 p13_1:Int) (p13_2:List Int) (p15 p15_1:Int) (p15_2:List Int) (p7_2 p17 p17_1:Int) (p17_2:List Int) (p7_3 p18 p18_1:Int) (p18_2:List Int)
def Cv.Solve.C5:Option DV:=cutAt Cv.Solve.E N f47 (Ap f47) [1,1,1,0] [] ⟨He 125 [(1,.ptr 1 0 0),(2,.ptr 2 0 0),(5,.ptr 5 0 0),(6,.ptr 6 0 0),(7,.int .i64 p7)],[(6,false,.box [.int .i64 p6,.int .i64 p6_1,.ints .fresh .u64 p6_2]),(5,false,.box [.int .i64 p5,.int .i64 p5_1,.ints .arg .u64 p5_2]),(2,false,.box [.int .i64 0,.int .i64 0,.nil]),(1,false,.box [.int .i64 r,.int .i64 c,.ints .arg .u64 l,.int .i64 p,.int .i64 q,.ints .arg .u64 m,.int .i64 a,.int .i64 b,.ints .arg .u64 g,.int .i64 u,.int .i64 v,.ints .arg .u64 h])]⟩
def Cv.Solve.C9:Option DV:=cutAt Cv.Solve.E N f47 (Ap f47) [1,1,1,1,1,1,0] [] ⟨He 125 [(1,.ptr 1 0 0),(2,.ptr 2 0 0),(5,.ptr 5 0 0),(6,.ptr 6 0 0),(7,.int .i64 p7_1),(8,.int .i64 c),(9,.int .i64 p),(10,.ptr 10 0 0)],[(10,false,.box [.int .i64 p10,.int .i64 p10_1,.ints .arg .u64 p10_2]),(6,false,.box [.int .i64 p6,.int .i64 p6_1,.ints .fresh .u64 p6_2]),(5,false,.box [.int .i64 p5,.int .i64 p5_1,.ints .arg .u64 p5_2]),(2,false,.box [.int .i64 0,.int .i64 0,.nil]),(1,false,.box [.int .i64 r,.int .i64 c,.ints .arg .u64 l,.int .i64 p,.int .i64 q,.ints .arg .u64 m,.int .i64 a,.int .i64 b,.ints .arg .u64 g,.int .i64 u,.int .i64 v,.ints .arg .u64 h])]⟩
def Cv.Solve.C12:Option DV:=cutAt Cv.Solve.E N f47 (Ap f47) [1,1,1,1,1,1,1,1] [] ⟨He 125 [(1,.ptr 1 0 0),(2,.ptr 2 0 0),(5,.ptr 5 0 0),(6,.ptr 6 0 0),(8,.int .i64 c),(9,.int .i64 p),(10,.ptr 10 0 0),(11,.ptr 11 0 0)],[(11,false,.box [.int .i64 p11,.int .i64 p11_1,.ints .fresh .u64 p11_2]),(10,false,.box [.int .i64 p10,.int .i64 p10_1,.ints .arg .u64 p10_2]),(6,false,.box [.int .i64 p6,.int .i64 p6_1,.ints .fresh .u64 p6_2]),(5,false,.box [.int .i64 p5,.int .i64 p5_1,.ints .arg .u64 p5_2]),(2,false,.box [.int .i64 0,.int .i64 0,.nil]),(1,false,.box [.int .i64 r,.int .i64 c,.ints .arg .u64 l,.int .i64 p,.int .i64 q,.ints .arg .u64 m,.int .i64 a,.int .i64 b,.ints .arg .u64 g,.int .i64 u,.int .i64 v,.ints .arg .u64 h])]⟩
def Cv.Solve.C13:Option DV:=cutAt Cv.Solve.E N f47 (Ap f47) [1,1,1,1,1,1,1,1,1] [] ⟨He 125 [(1,.ptr 1 0 0),(2,.ptr 2 0 0),(5,.ptr 5 0 0),(6,.ptr 6 0 0),(11,.ptr 11 0 0),(13,.ptr 13 0 0)],[(13,false,.box [.int .i64 p13,.int .i64 p13_1,.ints .fresh .u64 p13_2]),(11,false,.box [.int .i64 p11,.int .i64 p11_1,.ints .fresh .u64 p11_2]),(10,false,.box [.int .i64 p10,.int .i64 p10_1,.ints .arg .u64 p10_2]),(6,false,.box [.int .i64 p6,.int .i64 p6_1,.ints .fresh .u64 p6_2]),(5,false,.box [.int .i64 p5,.int .i64 p5_1,.ints .arg .u64 p5_2]),(2,false,.box [.int .i64 0,.int .i64 0,.nil]),(1,false,.box [.int .i64 r,.int .i64 c,.ints .arg .u64 l,.int .i64 p,.int .i64 q,.ints .arg .u64 m,.int .i64 a,.int .i64 b,.ints .arg .u64 g,.int .i64 u,.int .i64 v,.ints .arg .u64 h])]⟩
def Cv.Solve.C14:Option DV:=cutAt Cv.Solve.E N f47 (Ap f47) [1,1,1,1,1,1,1,1,1,1] [] ⟨He 125 [(1,.ptr 1 0 0),(2,.ptr 2 0 0),(5,.ptr 5 0 0),(6,.ptr 6 0 0),(13,.ptr 13 0 0),(15,.ptr 15 0 0)],[(15,false,.box [.int .i64 p15,.int .i64 p15_1,.ints .fresh .u64 p15_2]),(13,false,.box [.int .i64 p13,.int .i64 p13_1,.ints .fresh .u64 p13_2]),(11,false,.box [.int .i64 p11,.int .i64 p11_1,.ints .fresh .u64 p11_2]),(10,false,.box [.int .i64 p10,.int .i64 p10_1,.ints .arg .u64 p10_2]),(6,false,.box [.int .i64 p6,.int .i64 p6_1,.ints .fresh .u64 p6_2]),(5,false,.box [.int .i64 p5,.int .i64 p5_1,.ints .arg .u64 p5_2]),(2,false,.box [.int .i64 0,.int .i64 0,.nil]),(1,false,.box [.int .i64 r,.int .i64 c,.ints .arg .u64 l,.int .i64 p,.int .i64 q,.ints .arg .u64 m,.int .i64 a,.int .i64 b,.ints .arg .u64 g,.int .i64 u,.int .i64 v,.ints .arg .u64 h])]⟩
def Cv.Solve.C15:Option DV:=cutAt Cv.Solve.E N f47 (Ap f47) [1,1,1,1,1,1,1,1,1,1,1,0] [] ⟨He 125 [(2,.ptr 2 0 0),(5,.ptr 5 0 0),(6,.ptr 6 0 0),(7,.int .i64 p7_2),(13,.ptr 13 0 0),(17,.ptr 17 0 0)],[(17,false,.box [.int .i64 p17,.int .i64 p17_1,.ints .arg .u64 p17_2]),(15,false,.box [.int .i64 p15,.int .i64 p15_1,.ints .fresh .u64 p15_2]),(13,false,.box [.int .i64 p13,.int .i64 p13_1,.ints .fresh .u64 p13_2]),(11,false,.box [.int .i64 p11,.int .i64 p11_1,.ints .fresh .u64 p11_2]),(10,false,.box [.int .i64 p10,.int .i64 p10_1,.ints .arg .u64 p10_2]),(6,false,.box [.int .i64 p6,.int .i64 p6_1,.ints .fresh .u64 p6_2]),(5,false,.box [.int .i64 p5,.int .i64 p5_1,.ints .arg .u64 p5_2]),(2,false,.box [.int .i64 0,.int .i64 0,.nil]),(1,false,.box [.int .i64 r,.int .i64 c,.ints .arg .u64 l,.int .i64 p,.int .i64 q,.ints .arg .u64 m,.int .i64 a,.int .i64 b,.ints .arg .u64 g,.int .i64 u,.int .i64 v,.ints .arg .u64 h])]⟩
def Cv.Solve.C18:Option DV:=cutAt Cv.Solve.E N f47 (Ap f47) [1,1,1,1,1,1,1,1,1,1,1,1,1,0] [] ⟨He 125 [(2,.ptr 2 0 0),(5,.ptr 5 0 0),(6,.ptr 6 0 0),(7,.int .i64 p7_3),(18,.ptr 18 0 0)],[(18,false,.box [.int .i64 p18,.int .i64 p18_1,.ints .fresh .u64 p18_2]),(17,false,.box [.int .i64 p17,.int .i64 p17_1,.ints .arg .u64 p17_2]),(15,false,.box [.int .i64 p15,.int .i64 p15_1,.ints .fresh .u64 p15_2]),(13,false,.box [.int .i64 p13,.int .i64 p13_1,.ints .fresh .u64 p13_2]),(11,false,.box [.int .i64 p11,.int .i64 p11_1,.ints .fresh .u64 p11_2]),(10,false,.box [.int .i64 p10,.int .i64 p10_1,.ints .arg .u64 p10_2]),(6,false,.box [.int .i64 p6,.int .i64 p6_1,.ints .fresh .u64 p6_2]),(5,false,.box [.int .i64 p5,.int .i64 p5_1,.ints .arg .u64 p5_2]),(2,false,.box [.int .i64 0,.int .i64 0,.nil]),(1,false,.box [.int .i64 r,.int .i64 c,.ints .arg .u64 l,.int .i64 p,.int .i64 q,.ints .arg .u64 m,.int .i64 a,.int .i64 b,.ints .arg .u64 g,.int .i64 u,.int .i64 v,.ints .arg .u64 h])]⟩
theorem Cv.Solve.Am9:Cv.Solve.C5 N r c l p q m a b g u v h p7 p6 p6_1 p6_2 p5 p5_1 p5_2=bif (p7 !=(0:Int)) then some (.tup [.agg [.int .i64 0,.int .i64 0,.nil],.int .i64 p7]) else bif (Af l&&Af p5_2) then bif (Af ((Ek r c l p5 p5_1 p5_2).2.2.1)) then Cv.Solve.C9 N r c l p q m a b g u v h p6 p6_1 p6_2 p5 p5_1 p5_2 ((Ky ((Ek r c l p5 p5_1 p5_2).1) ((Ek r c l p5 p5_1 p5_2).2.1) ((Ek r c l p5 p5_1 p5_2).2.2.1) ((Ek r c l p5 p5_1 p5_2).2.2.2)).2.2.2) ((Ky ((Ek r c l p5 p5_1 p5_2).1) ((Ek r c l p5 p5_1 p5_2).2.1) ((Ek r c l p5 p5_1 p5_2).2.2.1) ((Ek r c l p5 p5_1 p5_2).2.2.2)).1) ((Ky ((Ek r c l p5 p5_1 p5_2).1) ((Ek r c l p5 p5_1 p5_2).2.1) ((Ek r c l p5 p5_1 p5_2).2.2.1) ((Ek r c l p5 p5_1 p5_2).2.2.2)).2.1) ((Ky ((Ek r c l p5 p5_1 p5_2).1) ((Ek r c l p5 p5_1 p5_2).2.1) ((Ek r c l p5 p5_1 p5_2).2.2.1) ((Ek r c l p5 p5_1 p5_2).2.2.2)).2.2.1) else none else none:=(Fy _ _ _ _ _ _ _).trans (by kernel_rfl)
theorem Cv.Solve.Am8:Cv.Solve.C9 N r c l p q m a b g u v h p6 p6_1 p6_2 p5 p5_1 p5_2 p7_1 p10 p10_1 p10_2=bif (p7_1 !=(0:Int)) then some (.tup [.agg [.int .i64 0,.int .i64 0,.nil],.int .i64 p7_1]) else Cv.Solve.C12 N r c l p q m a b g u v h p6 p6_1 p6_2 p5 p5_1 p5_2 p10 p10_1 p10_2 ((Fk p10 p10_1 p10_2 0 0 r p).1) ((Fk p10 p10_1 p10_2 0 0 r p).2.1) ((Fk p10 p10_1 p10_2 0 0 r p).2.2.1):=(Fy _ _ _ _ _ _ _).trans (by kernel_rfl)
theorem Cv.Solve.Afp:Cv.Solve.C12 N r c l p q m a b g u v h p6 p6_1 p6_2 p5 p5_1 p5_2 p10 p10_1 p10_2 p11 p11_1 p11_2 =
 Cv.Solve.C13 N r c l p q m a b g u v h p6 p6_1 p6_2 p5 p5_1 p5_2 p10 p10_1 p10_2 p11 p11_1 p11_2 ((Fk p10 p10_1 p10_2 0 p r (Ab (c-p))).1) ((Fk p10 p10_1 p10_2 0 p r (Ab (c-p))).2.1) ((Fk p10 p10_1 p10_2 0 p r (Ab (c-p))).2.2.1):=(Fy _ _ _ _ _ _ _).trans (by kernel_rfl)
theorem Cv.Solve.Asx:Cv.Solve.C13 N r c l p q m a b g u v h p6 p6_1 p6_2 p5 p5_1 p5_2 p10 p10_1 p10_2 p11 p11_1 p11_2 p13 p13_1 p13_2=bif (Af p11_2&&Af p6_2) then Cv.Solve.C14 N r c l p q m a b g u v h p6 p6_1 p6_2 p5 p5_1 p5_2 p10 p10_1 p10_2 p11 p11_1 p11_2 p13 p13_1 p13_2 ((Ek p11 p11_1 p11_2 p6 p6_1 p6_2).1) ((Ek p11 p11_1 p11_2 p6 p6_1 p6_2).2.1) ((Ek p11 p11_1 p11_2 p6 p6_1 p6_2).2.2.1) else none:=(Fy _ _ _ _ _ _ _).trans (by kernel_rfl)
theorem Cv.Solve.Afo:Cv.Solve.C14 N r c l p q m a b g u v h p6 p6_1 p6_2 p5 p5_1 p5_2 p10 p10_1 p10_2 p11 p11_1 p11_2 p13 p13_1 p13_2 p15 p15_1 p15_2=bif (Af g&&Af p15_2) then bif (Af ((Im a b g p15 p15_1 p15_2).2.2.1)) then Cv.Solve.C15 N r c l p q m a b g u v h p6 p6_1 p6_2 p5 p5_1 p5_2 p10 p10_1 p10_2 p11 p11_1 p11_2 p13 p13_1 p13_2 p15 p15_1 p15_2 ((Ky ((Im a b g p15 p15_1 p15_2).1) ((Im a b g p15 p15_1 p15_2).2.1) ((Im a b g p15 p15_1 p15_2).2.2.1) ((Im a b g p15 p15_1 p15_2).2.2.2)).2.2.2) ((Ky ((Im a b g p15 p15_1 p15_2).1) ((Im a b g p15 p15_1 p15_2).2.1) ((Im a b g p15 p15_1 p15_2).2.2.1) ((Im a b g p15 p15_1 p15_2).2.2.2)).1) ((Ky ((Im a b g p15 p15_1 p15_2).1) ((Im a b g p15 p15_1 p15_2).2.1) ((Im a b g p15 p15_1 p15_2).2.2.1) ((Im a b g p15 p15_1 p15_2).2.2.2)).2.1) ((Ky ((Im a b g p15 p15_1 p15_2).1) ((Im a b g p15 p15_1 p15_2).2.1) ((Im a b g p15 p15_1 p15_2).2.2.1) ((Im a b g p15 p15_1 p15_2).2.2.2)).2.2.1) else none else none:=(Fy _ _ _ _ _ _ _).trans (by kernel_rfl)
theorem Cv.Solve.Asv:Cv.Solve.C15 N r c l p q m a b g u v h p6 p6_1 p6_2 p5 p5_1 p5_2 p10 p10_1 p10_2 p11 p11_1 p11_2 p13 p13_1 p13_2 p15 p15_1 p15_2 p7_2 p17 p17_1 p17_2=bif (p7_2 !=(0:Int)) then some (.tup [.agg [.int .i64 0,.int .i64 0,.nil],.int .i64 p7_2]) else bif (Af p13_2&&Af p17_2) then Cv.Solve.C18 N r c l p q m a b g u v h p6 p6_1 p6_2 p5 p5_1 p5_2 p10 p10_1 p10_2 p11 p11_1 p11_2 p13 p13_1 p13_2 p15 p15_1 p15_2 p17 p17_1 p17_2 ((It p13 p13_1 p13_2 p17 p17_1 p17_2).2.2.2) ((It p13 p13_1 p13_2 p17 p17_1 p17_2).1) ((It p13 p13_1 p13_2 p17 p17_1 p17_2).2.1) ((It p13 p13_1 p13_2 p17 p17_1 p17_2).2.2.1) else none:=(Fy _ _ _ _ _ _ _).trans (by kernel_rfl)
theorem Cv.Solve.Afn:Cv.Solve.C18 N r c l p q m a b g u v h p6 p6_1 p6_2 p5 p5_1 p5_2 p10 p10_1 p10_2 p11 p11_1 p11_2 p13 p13_1 p13_2 p15 p15_1 p15_2 p17 p17_1 p17_2 p7_3 p18 p18_1 p18_2=bif (p7_3 !=(0:Int)) then some (.tup [.agg [.int .i64 0,.int .i64 0,.nil],.int .i64 p7_3]) else bif (((Bz p6 p6_1 p6_2 p18 p18_1 p18_2).2.2.2) !=(0:Int)) then some (.tup [.agg [.int .i64 0,.int .i64 0,.nil],.int .i64 ((Bz p6 p6_1 p6_2 p18 p18_1 p18_2).2.2.2)]) else bif (Af p5_2&&Af ((Bz p6 p6_1 p6_2 p18 p18_1 p18_2).2.2.1)) then bif (Af ((Ek p5 p5_1 p5_2 ((Bz p6 p6_1 p6_2 p18 p18_1 p18_2).1) ((Bz p6 p6_1 p6_2 p18 p18_1 p18_2).2.1) ((Bz p6 p6_1 p6_2 p18 p18_1 p18_2).2.2.1)).2.2.1)) then some (.tup [.agg [.int .i64 ((Ky ((Ek p5 p5_1 p5_2 ((Bz p6 p6_1 p6_2 p18 p18_1 p18_2).1) ((Bz p6 p6_1 p6_2 p18 p18_1 p18_2).2.1) ((Bz p6 p6_1 p6_2 p18 p18_1 p18_2).2.2.1)).1) ((Ek p5 p5_1 p5_2 ((Bz p6 p6_1 p6_2 p18 p18_1 p18_2).1) ((Bz p6 p6_1 p6_2 p18 p18_1 p18_2).2.1) ((Bz p6 p6_1 p6_2 p18 p18_1 p18_2).2.2.1)).2.1) ((Ek p5 p5_1 p5_2 ((Bz p6 p6_1 p6_2 p18 p18_1 p18_2).1) ((Bz p6 p6_1 p6_2 p18 p18_1 p18_2).2.1) ((Bz p6 p6_1 p6_2 p18 p18_1 p18_2).2.2.1)).2.2.1) ((Ek p5 p5_1 p5_2 ((Bz p6 p6_1 p6_2 p18 p18_1 p18_2).1) ((Bz p6 p6_1 p6_2 p18 p18_1 p18_2).2.1) ((Bz p6 p6_1 p6_2 p18 p18_1 p18_2).2.2.1)).2.2.2)).1),.int .i64 ((Ky ((Ek p5 p5_1 p5_2 ((Bz p6 p6_1 p6_2 p18 p18_1 p18_2).1) ((Bz p6 p6_1 p6_2 p18 p18_1 p18_2).2.1) ((Bz p6 p6_1 p6_2 p18 p18_1 p18_2).2.2.1)).1) ((Ek p5 p5_1 p5_2 ((Bz p6 p6_1 p6_2 p18 p18_1 p18_2).1) ((Bz p6 p6_1 p6_2 p18 p18_1 p18_2).2.1) ((Bz p6 p6_1 p6_2 p18 p18_1 p18_2).2.2.1)).2.1) ((Ek p5 p5_1 p5_2 ((Bz p6 p6_1 p6_2 p18 p18_1 p18_2).1) ((Bz p6 p6_1 p6_2 p18 p18_1 p18_2).2.1) ((Bz p6 p6_1 p6_2 p18 p18_1 p18_2).2.2.1)).2.2.1) ((Ek p5 p5_1 p5_2 ((Bz p6 p6_1 p6_2 p18 p18_1 p18_2).1) ((Bz p6 p6_1 p6_2 p18 p18_1 p18_2).2.1) ((Bz p6 p6_1 p6_2 p18 p18_1 p18_2).2.2.1)).2.2.2)).2.1),.ints .arg .u64 ((Ky ((Ek p5 p5_1 p5_2 ((Bz p6 p6_1 p6_2 p18 p18_1 p18_2).1) ((Bz p6 p6_1 p6_2 p18 p18_1 p18_2).2.1) ((Bz p6 p6_1 p6_2 p18 p18_1 p18_2).2.2.1)).1) ((Ek p5 p5_1 p5_2 ((Bz p6 p6_1 p6_2 p18 p18_1 p18_2).1) ((Bz p6 p6_1 p6_2 p18 p18_1 p18_2).2.1) ((Bz p6 p6_1 p6_2 p18 p18_1 p18_2).2.2.1)).2.1) ((Ek p5 p5_1 p5_2 ((Bz p6 p6_1 p6_2 p18 p18_1 p18_2).1) ((Bz p6 p6_1 p6_2 p18 p18_1 p18_2).2.1) ((Bz p6 p6_1 p6_2 p18 p18_1 p18_2).2.2.1)).2.2.1) ((Ek p5 p5_1 p5_2 ((Bz p6 p6_1 p6_2 p18 p18_1 p18_2).1) ((Bz p6 p6_1 p6_2 p18 p18_1 p18_2).2.1) ((Bz p6 p6_1 p6_2 p18 p18_1 p18_2).2.2.1)).2.2.2)).2.2.1)],.int .i64 ((Ky ((Ek p5 p5_1 p5_2 ((Bz p6 p6_1 p6_2 p18 p18_1 p18_2).1) ((Bz p6 p6_1 p6_2 p18 p18_1 p18_2).2.1) ((Bz p6 p6_1 p6_2 p18 p18_1 p18_2).2.2.1)).1) ((Ek p5 p5_1 p5_2 ((Bz p6 p6_1 p6_2 p18 p18_1 p18_2).1) ((Bz p6 p6_1 p6_2 p18 p18_1 p18_2).2.1) ((Bz p6 p6_1 p6_2 p18 p18_1 p18_2).2.2.1)).2.1) ((Ek p5 p5_1 p5_2 ((Bz p6 p6_1 p6_2 p18 p18_1 p18_2).1) ((Bz p6 p6_1 p6_2 p18 p18_1 p18_2).2.1) ((Bz p6 p6_1 p6_2 p18 p18_1 p18_2).2.2.1)).2.2.1) ((Ek p5 p5_1 p5_2 ((Bz p6 p6_1 p6_2 p18 p18_1 p18_2).1) ((Bz p6 p6_1 p6_2 p18 p18_1 p18_2).2.1) ((Bz p6 p6_1 p6_2 p18 p18_1 p18_2).2.2.1)).2.2.2)).2.2.2)]) else none else none:=(Fy _ _ _ _ _ _ _).trans (by kernel_rfl)
theorem Cv.Solve.ev:B0 Cv.Solve.E N f47 (Ap f47) [.agg [.int .i64 r,.int .i64 c,.ints .arg .u64 l,.int .i64 p,.int .i64 q,.ints .arg .u64 m,.int .i64 a,.int .i64 b,.ints .arg .u64 g,.int .i64 u,.int .i64 v,.ints .arg .u64 h]]=bif (Ll l m g h) then bif ((D5 r c l p q m a b g u v h) !=(0:Int)) then some (.tup [.agg [.int .i64 0,.int .i64 0,.nil],.int .i64 (D5 r c l p q m a b g u v h)]) else bif (Ll l m g h&&decide (D5 r c l p q m a b g u v h=0)) then Cv.Solve.C5 N r c l p q m a b g u v h ((hY p q m u v h).2.2.2) ((hY p q m u v h).1) ((hY p q m u v h).2.1) ((hY p q m u v h).2.2.1) ((hQ p q m).1) ((hQ p q m).2.1) ((hQ p q m).2.2.1) else none else none:=by kernel_rfl
end
abbrev _root_.Go.Proofs.S1.Cv.Solve.Kn:=A4 prog 47 Cv.Solve.spec
theorem Cv.Solve.Ad (hk:Ay prog Cv.Solve.A8) (h:Hyp Cv.Solve.E f47 Cv.Solve.ts Cv.Solve.pre Cv.Solve.out):Cv.Solve.Kn :=
 Al (A1 hk _ _ _) func47 (by kernel_rfl) (by kernel_rfl) h
end EqLse
open EqLse
theorem Ml {r c:Int} {l:List Int} (h:Ak r c l=true):0≤r∧r≤6∧0≤c∧c≤6:=by
 obtain ⟨R,C,rfl,rfl,r6,c6,_⟩:=C2 h
 omega
theorem Abm {r c p q a u b v:Int} (h:0≤r∧r≤6) (h':0≤p∧p≤6) :
 (((((((q !=c)||(a !=r))||(u !=p))||(b !=(1:Int)))||(v !=(1:Int)))||(A0 c p))||(A0 (Ab (r+p)) c))=decide (q≠c∨a≠r∨u≠p∨b≠1∨v≠1∨c<p∨r+p<c):=by
 rw [Ao (by omega) (by omega),Au,Au,Axj]
 simp [or_assoc]
theorem Cv.Check.known:Cv.Check.Kn:=Cv.Check.Ad (.cons B6.Check.known .nil) fun r c l p q m a b g u v h hp=>by
 obtain ⟨h1,h2⟩:=Ae.1 (show ((Af l&&Af m)&&(Af g&&Af h))=true from hp)
 obtain ⟨al,am⟩:=Ae.1 h1
 obtain ⟨ag,ah⟩:=Ae.1 h2
 refine ⟨0+6,Cv.Check.out [.i r,.i c,.l l,.i p,.i q,.l m,.i a,.i b,.l g,.i u,.i v,.l h],[],?_,.int⟩
 show _=some (DV.int .i64 (D5 r c l p q m a b g u v h))
 rw [Cv.Check.ev,al,am,ag,ah,Aw3,Aw3,Aw3,Aw3]
 unfold D5
 by_cases k1:Bo r c l=0
 ·rw [Fh k1,Aw7,Axp (by rw [k1]; decide)]
  by_cases k2:Bo p q m=0
  ·rw [Fh k2,Aw7,Axp (by rw [k2]; decide)]
   by_cases k3:Bo a b g=0
   ·rw [Fh k3,Aw7,Axp (by rw [k3]; decide)]
    by_cases k4:Bo u v h=0
    ·rw [Fh k4,Aw7,Axp (by rw [k4]; decide)]
     have s1:=Ml (E7 k1).1
     have s2:=Ml (E7 k2).1
     rw [Abm ⟨s1.1,s1.2.1⟩ ⟨s2.1,s2.2.1⟩]
     by_cases k5:q≠c∨a≠r∨u≠p∨b≠1∨v≠1∨c<p∨r+p<c
     ·rw [Aw4 k5,Aw3,Axq k5]
     ·rw [Aw8 k5,Aw7,Axp k5]
    ·rw [Qv k4,Aw3,Axq k4]
   ·rw [Qv k3,Aw3,Axq k3]
  ·rw [Qv k2,Aw3,Axq k2]
 ·rw [Qv k1,Aw3,Axq k1]
theorem S5 {r c:Int} {l:List Int} {p q:Int} {m:List Int} {a b:Int} {g:List Int} {u v:Int} {h:List Int} (e:D5 r c l p q m a b g u v h=0) :
 Bo r c l=0∧Bo p q m=0∧Bo a b g=0∧Bo u v h=0∧q=c∧a=r∧u=p∧b=1∧v=1∧p≤c∧c≤r+p:=by
 unfold D5 at e
 by_cases k1:Bo r c l=0
 ·rw [Axp (by rw [k1]; decide)] at e
  by_cases k2:Bo p q m=0
  ·rw [Axp (by rw [k2]; decide)] at e
   by_cases k3:Bo a b g=0
   ·rw [Axp (by rw [k3]; decide)] at e
    by_cases k4:Bo u v h=0
    ·rw [Axp (by rw [k4]; decide)] at e
     by_cases k5:q≠c∨a≠r∨u≠p∨b≠1∨v≠1∨c<p∨r+p<c
     ·rw [Axq k5] at e; exact absurd e (by decide)
     ·exact ⟨k1,k2,k3,k4,by omega⟩
    ·rw [Axq k4] at e; exact absurd e k4
   ·rw [Axq k3] at e; exact absurd e k3
  ·rw [Axq k2] at e; exact absurd e k2
 ·rw [Axq k1] at e; exact absurd e k1
theorem Ago {r c:Int} {l:List Int} {e:Int} (al:Af l=true):Af (Ky r c l e).2.2.1=true:=by
 unfold Ky
 split
 ·exact Dy
 ·split
  ·exact Dy
  ·exact al
theorem Agn {r c:Int} {l:List Int} (al:Af l=true):Af (Jn r c l).2.2.1=true:=by
 unfold Jn
 split
 ·exact al
 ·exact Dy
theorem Alj (r c:Int) (l:List Int) (p q:Int) (m:List Int):Af (Uh r c l p q m).2.2.1=true:=by
 unfold Uh
 split
 ·exact Dy
 ·exact Agn (Gv fun i k=>Sf (Aeq _ _ _ _) i)
theorem Ajn (r c:Int) (l:List Int) (p q:Int) (m:List Int):Af (upX r c l p q m).2.2.1=true:=by
 unfold upX
 split
 ·exact Dy
 ·exact Agn (Gv fun i k=>Sf (Adm _ _ _ _ _) i)
theorem Ail (r c:Int) (l:List Int) (p q:Int) (m:List Int):Af (It r c l p q m).2.2.1=true:=by
 unfold It
 split
 ·exact Dy
 ·split
  ·exact Dy
  ·split
   ·exact Dy
   ·split
    ·exact Dy
    ·split
     ·exact Dy
     ·unfold Anl
      split
      ·exact Dy
      ·exact Ajn _ _ _ _ _ _
theorem Afw {r c:Int} {l:List Int} {p q:Int} {m:List Int} (al:Af l=true) (am:Af m=true):Af (Im r c l p q m).2.2.1=true:=by
 unfold Im
 by_cases h:(Ak r c l&&Ak p q m)=true
 ·rw [Axq h]
  by_cases h2:r=p∧c=q
  ·rw [Axq h2]; exact (show Af (Cd _ _ fun i k=>Dl (Di c l i k) (Di q m i k))=true from Gv fun _ _=>Nc (L4 al) (L4 am))
  ·rw [Axp h2]; exact Dy
 ·rw [Axp h]; exact Dy
theorem Ahc {r c:Int} {l:List Int} {q:Int} {m:List Int} (al:Af l=true) (am:Af m=true) (i k:Int):Ah (Hm r c l q m i k)=true:=by
 unfold Hm
 by_cases h:i<r
 ·rw [Axq h]; exact L4 al
 ·rw [Axp h]; exact L4 am
theorem Ahb {r c:Int} {l:List Int} {p q:Int} {m:List Int} (al:Af l=true) (am:Af m=true):Af (Bz r c l p q m).2.2.1=true:=by
 unfold Bz
 by_cases h:(Ak r c l&&Ak p q m)=true
 ·rw [Axq h]
  by_cases h2:c=q∧r+p≤6
  ·rw [Axq h2]; exact (show Af (Cd _ _ fun i k=>Hm r c l q m i k)=true from Gv fun _ _=>Ahc al am _ _)
  ·rw [Axp h2]; exact Dy
 ·rw [Axp h]; exact Dy
theorem Aqr {r c:Int} {l:List Int} (al:Af l=true):Af (qX r c l).2.2.1=true∧Af (rX r c l).2.2.1=true:=by
 by_cases k:Ey r c l=0
 ·rw [(Pn k).1,(Pn k).2]; exact Al9 al k
 ·rw [(Wa rfl k).1,(Wa rfl k).2]; exact ⟨Dy,Dy⟩
theorem Cv.finite.known:Cv.finite.Kn:=Cv.finite.Ad (.cons B6.Check.known .nil) fun r c l e hp=>by
 have al:Af l=true:=hp
 show ∃ N dv drops,_=some dv∧Wk drops dv (Ahy (Ky r c l e))
 have hrun:=Cv.finite.ev 0 r c l e
 rw [al,Ayf,Aw3] at hrun
 unfold Ky
 by_cases k:e=0
 ·rw [Axp (by rw [k]; decide)]
  rw [k] at hrun ⊢
  by_cases k1:Bo r c l=0
  ·rw [Fh k1,Bool.and_false,Aw7] at hrun
   rw [Axp (by rw [k1]; decide)]
   exact ⟨0,_,[],hrun,Afq (x:=(r,c,l,0))⟩
  ·rw [Qv k1] at hrun
   rw [Axq k1]
   exact ⟨0,_,[],hrun,Adk⟩
 ·rw [Axq k]
  have e1:(e==(0:Int))=false:=by rw [Axy]; exact k
  rw [e1,Bool.false_and,Aw7,Qv k,Aw3] at hrun
  exact ⟨0,_,[],hrun,Adk⟩
theorem Anr {p q:Int} {m:List Int} (h:Ak p q m=true):(Cb p q m).1=q∧(Cb p q m).2.1=p∧(Cb p q m).2.2.2=0:=by
 unfold Cb; rw [Axq h]; exact ⟨rfl,rfl,rfl⟩
theorem Cv.held.known:Cv.held.Kn:=Cv.held.Ad (.cons Aa.Part.known (.cons Aa.C6.known (.cons qr.C0.known (.cons solve.Flat.known (.cons solve.Gm.known .nil))))) fun r c l p q m a b g u v h hp=>by
 obtain ⟨h0,hz⟩:=Ae.1 (show (Ll l m g h&&decide (D5 r c l p q m a b g u v h=0))=true from hp)
 obtain ⟨h1,h2⟩:=Ae.1 (show ((Af l&&Af m)&&(Af g&&Af h))=true from h0)
 obtain ⟨al,am⟩:=Ae.1 h1
 obtain ⟨ag,ah⟩:=Ae.1 h2
 obtain ⟨k1,k2,k3,k4,_⟩:=S5 (Axt hz)
 obtain ⟨e1,e2,e3⟩:=Anr (E7 k2).1
 show ∃ N dv drops,_=some dv∧Wk drops dv (DV.tup [.agg [.int .i64 (hQ p q m).1,.int .i64 (hQ p q m).2.1,.ints .arg .u64 (hQ p q m).2.2.1],.agg [.int .i64 (hY p q m u v h).1,.int .i64 (hY p q m u v h).2.1,.ints .fresh .u64 (hY p q m u v h).2.2.1],.int .i64 (hY p q m u v h).2.2.2])
 have at':Af (Sz p q m)=true:=Ri am
 have as':Af (Ns p q m).2.2.1=true:=Ri (Rw (Aqr at').2 _ _ _ _)
 have hrun:=Cv.held.ev 0 r c l p q m a b g u v h
 rw [e3,Fh rfl,Aw7,Ri am,Aw3,e1,e2,Cv.held.Am9] at hrun
 by_cases kf:Ey q p (Sz p q m)=0
 ·rw [Fh (show Ey q p (Cb p q m).2.2.1=0 from kf),Aw7,Cv.held.Au5,Cv.held.Am8] at hrun
  have hrun2:B0 Cv.held.E 0 _ _ _=(bif Af (Ns p q m).2.2.1 then bif (I6 (Ns p q m).1 (Ns p q m).2.1 (Ns p q m).2.2.1).1 then some (Wg 5) else bif Af (Ns p q m).2.2.1&&Af h then
   some (.tup [.agg [.int .i64 (qX q p (Sz p q m)).1,.int .i64 (qX q p (Sz p q m)).2.1,.ints .arg .u64 (qX q p (Sz p q m)).2.2.1],.agg [.int .i64 (Uh (Ns p q m).1 (Ns p q m).2.1 (Ns p q m).2.2.1 u v h).1,.int .i64 (Uh (Ns p q m).1 (Ns p q m).2.1 (Ns p q m).2.2.1 u v h).2.1,.ints .fresh .u64 (Uh (Ns p q m).1 (Ns p q m).2.1 (Ns p q m).2.2.1 u v h).2.2.1],.int .i64 (Uh (Ns p q m).1 (Ns p q m).2.1 (Ns p q m).2.2.1 u v h).2.2.2]) else none else none):=hrun
  rw [as',Aw3,ah,Bool.and_true,Aw3] at hrun2
  cases kb:(I6 (Ns p q m).1 (Ns p q m).2.1 (Ns p q m).2.2.1).1 with
  | true =>
    rw [kb,Aw3] at hrun2
    have d1:hQ p q m=Ij 5:=by unfold hQ; rw [Axp (by rw [kf]; decide),kb,Axq rfl]
    have d2:hY p q m u v h=Ij 5:=by unfold hY; rw [Axp (by rw [kf]; decide),kb,Axq rfl]
    rw [d1,d2]
    exact ⟨0,_,[],hrun2,S2⟩
  | false =>
    rw [kb,Aw7] at hrun2
    have d1:hQ p q m=qX q p (Sz p q m):=by unfold hQ; rw [Axp (by rw [kf]; decide),kb,Axp (by decide)]
    have d2:hY p q m u v h=Uh (Ns p q m).1 (Ns p q m).2.1 (Ns p q m).2.2.1 u v h:=by unfold hY; rw [Axp (by rw [kf]; decide),kb,Axp (by decide)]
    rw [d1,d2]
    exact ⟨0,_,[],hrun2,Wk.G3 (.cons (Wk.H5 (.cons .int (.cons .int (.cons .Xv .nil)))) (.cons (Wk.H5 (.cons .int (.cons .int (.cons .O5 .nil)))) (.cons .int .nil)))⟩
 ·rw [Qv (show Ey q p (Cb p q m).2.2.1≠0 from kf),Aw3] at hrun
  have d1:hQ p q m=Ij (Ey q p (Sz p q m)):=by unfold hQ; rw [Axq kf]
  have d2:hY p q m u v h=Ij (Ey q p (Sz p q m)):=by unfold hY; rw [Axq kf]
  rw [d1,d2]
  exact ⟨0,_,[],hrun,S2⟩
open EqMat EqOf
theorem Aa.Gj.known:Aa.Gj.Kn:=Aa.Gj.Ad (.cons Aa.get.known (.cons Ac.Sub.known .nil)) fun i k r c l p q m hp=>by
 obtain ⟨h1,am⟩:=Ae.1 (show (((D4 r c l i k&&D4 p q m i k)&&Af l)&&Af m)=true from hp)
 obtain ⟨h2,al⟩:=Ae.1 h1
 obtain ⟨h3,h4⟩:=Ae.1 h2
 refine ⟨0,Aa.Gj.out [.i i,.i k,.i r,.i c,.l l,.i p,.i q,.l m],[],?_,.int⟩
 rw [Aa.Gj.ev,h3,h4,Ha al,Ha am]; rfl
theorem of.Sub.inner (N:Nat) (r c:Int) (l:List Int) (p q:Int) (m:List Int) {A B:Nat} (hA:A≤6) (hB:B≤6) {F:Nat→Nat→Int} (hF:∀ i j:Nat,F i j=Dl (Di c l (i:Int) (j:Int)) (Di q m (i:Int) (j:Int))) {i:Nat} (hi:i<A) (hp:∀ j:Nat,j<B→(((D4 r c l (i:Int) (j:Int)&&D4 p q m (i:Int) (j:Int))&&Af l)&&Af m)=true):∀ (k j M0 M:Nat),j+k=B→k<M →
 Aa.of.Sub.L1 N M0 M (A:Int) (B:Int) r c l p q m (i:Int) (i:Int) (j:Int) (Cd i B F++(List.range j).map (F i))=Aa.of.Sub.L0 N M0 (A:Int) (B:Int) r c l p q m ((i+1:Nat):Int) (Cd (i+1) B F):=by
 intro k
 induction k with
 | zero =>
   intro j M0 M hj hM
   obtain ⟨M,rfl⟩:∃ G,M=G+1:=⟨M-1,by omega⟩
   obtain rfl:j=B:=by omega
   rw [Aa.of.Sub.Ct,Au,Aw8 (by omega),Aw7,Ao (by omega) (by omega),← Jl]
   rfl
 | succ k ih =>
   intro j M0 M hj hM
   obtain ⟨M,rfl⟩:∃ G,M=G+1:=⟨M-1,by omega⟩
   have d:decide ((Cd i B F++(List.range j).map (F i)).length+1≤I5)=true:=by
    refine Aw4 ?_
    have:=Axz (show i≤6 by omega) hB
    rw [Axv,Br,Ax9,Ax6]; unfold I5; omega
   rw [Aa.of.Sub.Ct,Au,Aw4 (by omega),Aw3,hp j (by omega),Aw3,d,Aw3,Ao (by omega) (by omega),← hF i j]
   have:=ih (j+1) M0 M (by omega) (by omega)
   rw [Hs,← List.append_assoc] at this
   exact this
theorem of.Sub.outer (N:Nat) (r c:Int) (l:List Int) (p q:Int) (m:List Int) {A B:Nat} (hA:A≤6) (hB:B≤6) (hN:6<N) {F:Nat→Nat→Int} (hF:∀ i j:Nat,F i j=Dl (Di c l (i:Int) (j:Int)) (Di q m (i:Int) (j:Int))) (hp:∀ i j:Nat,i<A→j<B→(((D4 r c l (i:Int) (j:Int)&&D4 p q m (i:Int) (j:Int))&&Af l)&&Af m)=true):∀ (k i M:Nat),i+k=A→k<M →
 Aa.of.Sub.L0 N M (A:Int) (B:Int) r c l p q m (i:Int) (Cd i B F)=some (.agg [.int .i64 (A:Int),.int .i64 (B:Int),.ints (.own 108002 tB) .u64 (Cd A B F)]):=by
 intro k
 induction k with
 | zero =>
   intro i M hi hM
   obtain ⟨M,rfl⟩:∃ G,M=G+1:=⟨M-1,by omega⟩
   obtain rfl:i=A:=by omega
   rw [Aa.of.Sub.Aw,Au,Aw8 (by omega),Aw7]
 | succ k ih =>
   intro i M hi hM
   obtain ⟨M,rfl⟩:∃ G,M=G+1:=⟨M-1,by omega⟩
   have n:=of.Sub.inner N r c l p q m hA hB hF (show i<A by omega) (fun j hj=>hp i j (by omega) hj) B 0 M N (by omega) (by omega)
   rw [List.range_zero,List.map_nil,List.append_nil] at n
   rw [Aa.of.Sub.Aw,Au,Aw4 (by omega),Aw3]
   exact n.trans (ih (i+1) M (by omega) (by omega))
theorem Aa.of.Sub.known:Aa.of.Sub.Kn:=Aa.of.Sub.Ad (.cons Aa.Gj.known .nil) fun a b r c l p q m hp=>by
 obtain ⟨h12,hy⟩:=Ae.1 (show (((Bj a&&Bj b)&&((Ak r c l&&Ak p q m)&&(Af l&&Af m)))&&decide (a=r∧b=c∧p=r∧q=c))=true from hp)
 obtain ⟨h1,hx⟩:=Ae.1 h12
 have h2:=Ae.2 ⟨hx,hy⟩
 obtain ⟨ha,hb⟩:=Ae.1 h1
 obtain ⟨A,rfl,hA⟩:=F6 ha
 obtain ⟨B,rfl,hB⟩:=F6 hb
 obtain ⟨h3,he⟩:=Ae.1 h2
 obtain ⟨h4,h5⟩:=Ae.1 h3
 obtain ⟨hr,hm⟩:=Ae.1 h4
 obtain ⟨al,am⟩:=Ae.1 h5
 obtain ⟨e1,e2,e3,e4⟩:=Axt he
 have hp:∀ i j:Nat,i<A→j<B→(((D4 r c l (i:Int) (j:Int)&&D4 p q m (i:Int) (j:Int))&&Af l)&&Af m)=true:=fun i j hi hj =>
  Ae.2 ⟨Ae.2 ⟨Ae.2 ⟨Ii hr (by omega) (by omega) (by omega) (by omega) r,Ii hm (by omega) (by omega) (by omega) (by omega) p⟩,al⟩,am⟩
 refine ⟨8,.agg [.int .i64 (A:Int),.int .i64 (B:Int),.ints (.own 108002 tB) .u64 (Cd A B fun (i j:Nat)=>Dl (Di c l (i:Int) (j:Int)) (Di q m (i:Int) (j:Int)))],[108002],?_,Wk.H5 (.cons .int (.cons .int (.cons (.drop _ _ _ _ (List.mem_singleton.2 rfl)) .nil)))⟩
 rw [Aa.of.Sub.ev]
 have n:=of.Sub.outer 8 r c l p q m hA hB (by omega) (F:=fun (i j:Nat)=>Dl (Di c l (i:Int) (j:Int)) (Di q m (i:Int) (j:Int))) (fun _ _=>rfl) hp A 0 8 (by omega) (by omega)
 rw [Jk] at n
 exact n
namespace EqRef20
def Cx.Sub.hint:Nat→Option A5
 | 0=>some { keep:=[2,3,4,5,6],objs:=[(6,2,106002,.ints 37 .u64 [])],boxes:=[2,3,4,5] }
 | _=>none
def Cy.Check.hint:Nat→Option A5
 | 0=>some { keep:=[1,3,4],objs:=[(0,3,100003,.recs 24 3 [])],boxes:=[1] }
 | _=>none
def Cy.Check.A8:List (Nat × Entry):=[(25,C1.Check.spec)]
def Cy.Check.E:Env:=Ba (A7 Cy.Check.A8) (fun _=>false) Cy.Check.hint (fun _=>none)
theorem Cy.Check.ev (N:Nat) (r c:Int) (l:List Int) (p q:Int) (m:List Int) (a b:Int) (g:List Int) (u v:Int) (h:List Int):B0 Cy.Check.E (N+6) f52 (Ap f52) [.agg [.int .i64 r,.int .i64 c,.ints .arg .u64 l,.int .i64 p,.int .i64 q,.ints .arg .u64 m,.int .i64 a,.int .i64 b,.ints .arg .u64 g,.int .i64 u,.int .i64 v,.ints .arg .u64 h]]=bif (Af l) then bif ((Bo r c l) !=(0:Int)) then bif (Af l) then some (.int .i64 (Bo r c l)) else none else bif (Af m) then bif ((Bo p q m) !=(0:Int)) then bif (Af m) then some (.int .i64 (Bo p q m)) else none else bif (Af g) then bif ((Bo a b g) !=(0:Int)) then bif (Af g) then some (.int .i64 (Bo a b g)) else none else bif (Af h) then bif ((Bo u v h) !=(0:Int)) then bif (Af h) then some (.int .i64 (Bo u v h)) else none else bif (((((((c !=q)||(r !=a))||(p !=u))||(b !=(1:Int)))||(v !=(1:Int)))||(A0 c p))||(A0 (Ab (r+p)) c)) then some (.int .i64 3) else some (.int .i64 0) else none else none else none else none :=
 Eq.trans (by kernel_rfl)
 (Ev (Ev rfl (Ev (Ev rfl (Ev (Ev rfl (Ev (Ev rfl (An (S4 (c !=q)) (An (Oi (c !=q)) (An (Oi (c !=q)) (An (S4 (c !=q)) (An (Oi (c !=q)) (An (Oi (c !=q)) (An (tt8 (c !=q)) (An (Zk (c !=q)) (An (Zj (c !=q) (r !=a)) (An (Vt (c !=q) (r !=a)) (An (Vt (c !=q) (r !=a)) (An (Zj (c !=q) (r !=a)) (An (Vt (c !=q) (r !=a)) (An (Vt (c !=q) (r !=a)) (An (Ant (c !=q) (r !=a)) (An (Ajx (c !=q) (r !=a)) (An (Anv (c !=q) (r !=a) (p !=u)) (An (Abc (c !=q) (r !=a) (p !=u)) (An (Abc (c !=q) (r !=a) (p !=u)) (An (Abc (c !=q) (r !=a) (p !=u)) (An (Anw (c !=q) (r !=a) (p !=u)) (An (Ag2 (c !=q) (r !=a) (p !=u) (b !=(1:Int))) (An (Abd (c !=q) (r !=a) (p !=u) (b !=(1:Int))) (An (Abd (c !=q) (r !=a) (p !=u) (b !=(1:Int))) (An (Abd (c !=q) (r !=a) (p !=u) (b !=(1:Int))) (An (Anx (c !=q) (r !=a) (p !=u) (b !=(1:Int))) (An (Ag3 (c !=q) (r !=a) (p !=u) (b !=(1:Int)) (v !=(1:Int))) (An (Ajy (c !=q) (r !=a) (p !=u) (b !=(1:Int)) (v !=(1:Int))) (An (Ajy (c !=q) (r !=a) (p !=u) (b !=(1:Int)) (v !=(1:Int))) (An (Ag3 (c !=q) (r !=a) (p !=u) (b !=(1:Int)) (v !=(1:Int))) (An (Ajy (c !=q) (r !=a) (p !=u) (b !=(1:Int)) (v !=(1:Int))) (An (Ajy (c !=q) (r !=a) (p !=u) (b !=(1:Int)) (v !=(1:Int))) (An (Ark (c !=q) (r !=a) (p !=u) (b !=(1:Int)) (v !=(1:Int))) (An (Arl (c !=q) (r !=a) (p !=u) (b !=(1:Int)) (v !=(1:Int))) (An (Zm (c !=q) (r !=a) (p !=u) (b !=(1:Int)) (v !=(1:Int)) (A0 c p)) (An (Zl (c !=q) (r !=a) (p !=u) (b !=(1:Int)) (v !=(1:Int)) (A0 c p)) (An (Zl (c !=q) (r !=a) (p !=u) (b !=(1:Int)) (v !=(1:Int)) (A0 c p)) (An (Zm (c !=q) (r !=a) (p !=u) (b !=(1:Int)) (v !=(1:Int)) (A0 c p)) (An (Zl (c !=q) (r !=a) (p !=u) (b !=(1:Int)) (v !=(1:Int)) (A0 c p)) (An (Zl (c !=q) (r !=a) (p !=u) (b !=(1:Int)) (v !=(1:Int)) (A0 c p)) (An (Zm (c !=q) (r !=a) (p !=u) (b !=(1:Int)) (v !=(1:Int)) (A0 c p)) (An (Zl (c !=q) (r !=a) (p !=u) (b !=(1:Int)) (v !=(1:Int)) (A0 c p)) (An (Zl (c !=q) (r !=a) (p !=u) (b !=(1:Int)) (v !=(1:Int)) (A0 c p)) (An (Ag4 (c !=q) (r !=a) (p !=u) (b !=(1:Int)) (v !=(1:Int)) (A0 c p)) (An (Ag4 (c !=q) (r !=a) (p !=u) (b !=(1:Int)) (v !=(1:Int)) (A0 c p)) (An (Arm (c !=q) (r !=a) (p !=u) (b !=(1:Int)) (v !=(1:Int)) (A0 c p)) (Dw (Atm (c !=q) (r !=a) (p !=u) (b !=(1:Int)) (v !=(1:Int)) (A0 c p) (A0 (Ab (r+p)) c)) rfl rfl)))))))))))))))))))))))))))))))))))))))))))))))) rfl)) rfl)) rfl)) rfl)
abbrev _root_.Go.Proofs.S1.Cy.Check.Kn:=A4 prog 52 Cy.Check.spec
theorem Cy.Check.Ad (hk:Ay prog Cy.Check.A8) (h:Hyp Cy.Check.E f52 Cy.Check.ts Cy.Check.pre Cy.Check.out):Cy.Check.Kn :=
 Al (A1 hk _ _ _) func52 (by kernel_rfl) (by kernel_rfl) h
end EqRef20
open EqOf EqRef20
theorem Aa.Sub.known:Aa.Sub.Kn:=Aa.Sub.Ad (.cons Aa.of.Sub.known (.cons Aa.two.known .nil)) fun r c l p q m hp=>by
 show ∃ N dv drops,_=some dv∧Wk drops dv (Qu (Im r c l p q m))
 unfold Im
 have hp:(Af l&&Af m)=true:=hp
 by_cases h:(Ak r c l&&Ak p q m)=true
 ·obtain ⟨h1,h2⟩:=Ae.1 h
  by_cases hc:r=p∧c=q
  ·have e:(!((r==p)&&(c==q)))=false:=by rw [hc.1,hc.2]; simp
   rw [Axq h,Axq hc]
   exact ⟨0,_,[],by rw [Aa.Sub.ev,M8,h,e,(Fj h1).1,(Fj h1).2,hp,Aw4 ⟨rfl,rfl,hc.1.symm,hc.2.symm⟩]; rfl,L6⟩
  ·have e:(!((r==p)&&(c==q)))=true:=by
    rw [Bool.not_eq_true',Bool.eq_false_iff]
    intro h
    simp only [Axe,beq_iff_eq] at h
    exact hc h
   rw [Axq h,Axp hc]
   exact ⟨0,_,[],by rw [Aa.Sub.ev,M8,h,e]; rfl,Ho⟩
 ·have e:(Ak r c l&&Ak p q m)=false:=by simpa using h
  rw [Axp h]
  exact ⟨0,_,[],by rw [Aa.Sub.ev,M8,e,Ado e]; rfl,Ho⟩
theorem Adz {R P C:Nat} {l m:List Int} (hl:l.length=R*C) (hm:m.length=P*C) :
 (Cd (R+P) C fun (i k:Nat)=>Hm (R:Int) (C:Int) l (C:Int) m (i:Int) (k:Int))=l++m:=by
 have h:(l++m).length=(R+P)*C:=by rw [Axv,hl,hm,Ax7]
 conv=>rhs; rw [← Py h]
 refine Dq fun i k hi hk=>?_
 unfold Hm
 by_cases hlt:(i:Int)<(R:Int)
 ·have:=H9 (r:=R) (c:=C) (i:=i) (k:=k) (by omega) hk
  rw [Axq hlt,Nz,Nz,Axd,Axd,List.getElem?_append_left (by omega)]
 ·have es:(i:Int)-(R:Int)=((i-R:Nat):Int):=by omega
  have e2:i*C=R*C+(i-R)*C:=by rw [← Ax7]; congr 1; omega
  rw [Axp hlt,es,Nz,Nz,Axd,Axd,Ayh (by omega),hl,e2]
  congr 2; omega
open EqLse
def Out (o:Option DV) (x:MX):Prop:=∃ dv drops,o=some dv∧Wk drops dv (Ahy x)
theorem Tm {o:Option DV} {e:Int} (h:o=some (Aei e)):Out o (Ij e):=⟨_,[],h,Adk⟩
theorem Ar1 {o:Option DV} {x:MX} (h:o=some (Ahy x)):Out o x:=⟨_,[],h,Afq⟩
section
variable {N:Nat} {r c p q a b u v:Int} {l m g h:List Int} {w one two done f y Q z:MX}
theorem Ao0 (aq:Af Q.2.2.1=true) (ay:Af y.2.2.1=true) (az:Af z.2.2.1=true) :
 Out (Cv.Solve.C18 N r c l p q m a b g u v h y.1 y.2.1 y.2.2.1 Q.1 Q.2.1 Q.2.2.1 w.1 w.2.1 w.2.2.1 one.1 one.2.1 one.2.2.1 two.1 two.2.1 two.2.2.1 done.1 done.2.1 done.2.2.1 f.1 f.2.1 f.2.2.1 z.2.2.2 z.1 z.2.1 z.2.2.1) (Yn Q y z):=by
 rw [Cv.Solve.Afn]
 unfold Yn
 by_cases k:z.2.2.2=0
 ·rw [Fh k,Aw7,Axp (fun h=>h k)]
  by_cases k2:(S8 y z).2.2.2=0
  ·rw [Fh (show (Bz y.1 y.2.1 y.2.2.1 z.1 z.2.1 z.2.2.1).2.2.2=0 from k2),Aw7,Axp (fun h=>h k2),aq,Ahb ay az,Aw9,Aw3,Nl,Aw3]
   exact Ar1 rfl
  ·rw [Qv (show (Bz y.1 y.2.1 y.2.2.1 z.1 z.2.1 z.2.2.1).2.2.2≠0 from k2),Aw3,Axq k2]; exact Tm rfl
 ·rw [Qv k,Aw3,Axq k]; exact Tm rfl
theorem Ao1 (aq:Af Q.2.2.1=true) (ay:Af y.2.2.1=true) (a2:Af two.2.2.1=true) (af:Af f.2.2.1=true) :
 Out (Cv.Solve.C15 N r c l p q m a b g u v h y.1 y.2.1 y.2.2.1 Q.1 Q.2.1 Q.2.2.1 w.1 w.2.1 w.2.2.1 one.1 one.2.1 one.2.2.1 two.1 two.2.1 two.2.2.1 done.1 done.2.1 done.2.2.1 f.2.2.2 f.1 f.2.1 f.2.2.1) (if f.2.2.2≠0 then Ij f.2.2.2 else Yn Q y (Ts two f)):=by
 rw [Cv.Solve.Asv]
 by_cases k:f.2.2.2=0
 ·rw [Fh k,Aw7,Axp (fun h=>h k),a2,af,Aw9,Aw3]
  exact Ao0 (z:=Ts two f) aq ay (Ail _ _ _ _ _ _)
 ·rw [Qv k,Aw3,Axq k]; exact Tm rfl
theorem Ao2 (aq:Af Q.2.2.1=true) (ay:Af y.2.2.1=true) (aw:Af w.2.2.1=true) (ag:Af g=true) (hw:Ab (c-p)=c-p) :
 Out (Cv.Solve.C12 N r c l p q m a b g u v h y.1 y.2.1 y.2.2.1 Q.1 Q.2.1 Q.2.2.1 w.1 w.2.1 w.2.2.1 (Hz w 0 0 r p).1 (Hz w 0 0 r p).2.1 (Hz w 0 0 r p).2.2.1) (Agd Q y w (Ao4 a b g (Aeo w y r p)) r c p):=by
 have a1:Af (Hz w 0 0 r p).2.2.1=true:=Rw aw _ _ _ _
 have a2:Af (Hz w 0 p r (c-p)).2.2.1=true:=Rw aw _ _ _ _
 have a3:Af (Aeo w y r p).2.2.1=true:=Nl _ _ _ _ _ _
 rw [Cv.Solve.Afp,hw,Cv.Solve.Asx,a1,ay,Aw9,Aw3,Cv.Solve.Afo,ag,Nl,Aw9,Aw3,Afw ag (Nl _ _ _ _ _ _),Aw3]
 exact Ao1 (two:=Hz w 0 p r (c-p)) (f:=Ao4 a b g (Aeo w y r p)) (one:=Hz w 0 0 r p) (done:=Aeo w y r p) aq ay a2 (Ago (Afw ag a3))
theorem Ar9 (aq:Af Q.2.2.1=true) (ay:Af y.2.2.1=true) (al:Af l=true) (ag:Af g=true) (hw:Ab (c-p)=c-p) :
 Out (Cv.Solve.C5 N r c l p q m a b g u v h y.2.2.2 y.1 y.2.1 y.2.2.1 Q.1 Q.2.1 Q.2.2.1) (if y.2.2.2≠0 then Ij y.2.2.2 else Ab9 Q y (Xr (mulM (r,c,l,0) Q)) r c p a b g):=by
 rw [Cv.Solve.Am9]
 by_cases k:y.2.2.2=0
 ·rw [Fh k,Aw7,Axp (fun h=>h k),al,aq,Aw9,Aw3,Nl,Aw3,Cv.Solve.Am8]
  unfold Ab9
  by_cases k2:(Xr (mulM (r,c,l,0) Q)).2.2.2=0
  ·rw [Axp (fun h=>h k2)]
   refine (congrArg (fun o=>Out o _) ((congrArg (fun x=>bif x then _ else _) (Fh k2)).trans (Aw7 _ _))).mpr ?_
   exact Ao2 (w:=Xr (mulM (r,c,l,0) Q)) aq ay (Ago (Nl _ _ _ _ _ _)) ag hw
  ·rw [Axq k2]
   refine (congrArg (fun o=>Out o _) ((congrArg (fun x=>bif x then _ else _) (Qv k2)).trans (Aw3 _ _))).mpr ?_
   exact Tm rfl
 ·rw [Qv k,Aw3,Axq k]; exact Tm rfl
end
theorem Auw {p q:Int} {m:List Int} (am:Af m=true):Af (hQ p q m).2.2.1=true:=by
 unfold hQ
 split
 ·exact Dy
 ·split
  ·exact Dy
  ·exact (Aqr (Ri am)).1
theorem Auv (p q:Int) (m:List Int) (u v:Int) (h:List Int):Af (hY p q m u v h).2.2.1=true:=by
 unfold hY
 split
 ·exact Dy
 ·split
  ·exact Dy
  ·exact Alj _ _ _ _ _ _
theorem Cv.Solve.known:Cv.Solve.Kn:=Cv.Solve.Ad (.cons Cv.Check.known (.cons Cv.finite.known (.cons Cv.held.known (.cons Aa.Mul.known (.cons Aa.Part.known (.cons Aa.Stack.known (.cons Aa.Sub.known (.cons solve.Gc.known .nil)))))))) fun r c l p q m a b g u v h hp=>by
 have h0:Ll l m g h=true:=hp
 obtain ⟨h1,h2⟩:=Ae.1 (show ((Af l&&Af m)&&(Af g&&Af h))=true from h0)
 obtain ⟨al,am⟩:=Ae.1 h1
 obtain ⟨ag,ah⟩:=Ae.1 h2
 suffices hs:Out (B0 Cv.Solve.E 0 _ _ _) (C4 r c l p q m a b g u v h) by
  obtain ⟨dv,drops,e1,e2⟩:=hs
  exact ⟨0,dv,drops,e1,e2⟩
 rw [Cv.Solve.ev,h0,Aw3]
 unfold C4
 by_cases k:D5 r c l p q m a b g u v h=0
 ·obtain ⟨k1,k2,_,_,rfl,_,_,_,_,hpc,_⟩:=S5 k
  have s1:=Ml (E7 k1).1
  have s2:=Ml (E7 k2).1
  rw [Fh k,Aw7,Aw4 k,Aw9,Aw3,Axp (fun h=>h k)]
  exact Ar9 (Q:=hQ p q m) (y:=hY p q m u v h) (Auw am) (Auv _ _ _ _ _ _) al ag (Ao (by omega) (by omega))
 ·rw [Qv k,Aw3,Axq k]
  exact Tm rfl
open EqRef14 EqLow
theorem Asf {c:Int} {l:List Int} {i k:Int} (h:Da l=true):Cq (Di c l i k)=true:=by
 unfold Di
 rw [Axd]
 cases hx:l[(i*c+k).toNat]? with
 | none=>exact (by decide:Cq 0=true)
 | some x =>
   unfold Da at h
   exact List.all_eq_true.1 h x (List.mem_of_getElem? hx)
theorem Acr {r c:Nat} {f:Nat→Nat→Int} (h:∀ i k,Cq (f i k)=true):Da (Cd r c f)=true:=by
 unfold Da
 rw [List.all_eq_true]
 intro x hx
 obtain ⟨j,_,rfl⟩:=List.mem_map.1 hx
 exact h _ _
section
variable {n Q:Nat} {l m:List Int}
end
open EqRef20
theorem Ahj {r c p q a u b v:Int} (h:0≤r∧r≤6) (h':0≤p∧p≤6) :
 (((((((c !=q)||(r !=a))||(p !=u))||(b !=(1:Int)))||(v !=(1:Int)))||(A0 c p))||(A0 (Ab (r+p)) c))=decide (q≠c∨a≠r∨u≠p∨b≠1∨v≠1∨c<p∨r+p<c):=by
 rw [← Abm h h',bne_comm (a:=c),bne_comm (a:=r) (b:=a),bne_comm (a:=p) (b:=u)]
theorem Cy.Check.known:Cy.Check.Kn:=Cy.Check.Ad (.cons C1.Check.known .nil) fun r c l p q m a b g u v h hp=>by
 obtain ⟨h1,h2⟩:=Ae.1 (show ((Af l&&Af m)&&(Af g&&Af h))=true from hp)
 obtain ⟨al,am⟩:=Ae.1 h1
 obtain ⟨ag,ah⟩:=Ae.1 h2
 refine ⟨0+6,Cy.Check.out [.i r,.i c,.l l,.i p,.i q,.l m,.i a,.i b,.l g,.i u,.i v,.l h],[],?_,.int⟩
 show _=some (DV.int .i64 (D5 r c l p q m a b g u v h))
 rw [Cy.Check.ev,al,am,ag,ah]
 simp only [Aw3]
 unfold D5
 by_cases k1:Bo r c l=0
 ·rw [Fh k1,Aw7,Axp (fun h=>h k1)]
  by_cases k2:Bo p q m=0
  ·rw [Fh k2,Aw7,Axp (fun h=>h k2)]
   by_cases k3:Bo a b g=0
   ·rw [Fh k3,Aw7,Axp (fun h=>h k3)]
    by_cases k4:Bo u v h=0
    ·rw [Fh k4,Aw7,Axp (fun h=>h k4)]
     have s1:=Ml (E7 k1).1
     have s2:=Ml (E7 k2).1
     rw [Ahj ⟨s1.1,s1.2.1⟩ ⟨s2.1,s2.2.1⟩]
     by_cases k5:q≠c∨a≠r∨u≠p∨b≠1∨v≠1∨c<p∨r+p<c
     ·rw [Aw4 k5,Aw3,Axq k5]
     ·rw [Aw8 k5,Aw7,Axp k5]
    ·rw [Qv k4,Aw3,Axq k4]
   ·rw [Qv k3,Aw3,Axq k3]
  ·rw [Qv k2,Aw3,Axq k2]
 ·rw [Qv k1,Aw3,Axq k1]
theorem Alh {r c:Int} {l:List Int} {p q:Int} {m:List Int} (h:(Uh r c l p q m).2.2.2=0) :
 ∃ (R Q:Nat) (Y:List Int),r=R∧q=Q∧R≤6∧Q≤6∧Uh r c l p q m=((R:Int),(Q:Int),Y,0)∧Y.length=R*Q∧Da Y=true∧Af Y=true:=by
 have hin:=Alj r c l p q m
 unfold Uh at h hin ⊢
 by_cases k:Nw r c l p q m=0
 ·rw [Axp (fun h=>h k)] at h hin ⊢
  obtain ⟨h1,h2,rfl,rfl⟩:=P1 k
  obtain ⟨R,C,rfl,hC,r6,c6,hl⟩:=C2 h1
  obtain ⟨P,Q,hP,rfl,p6,q6,hl2⟩:=C2 h2
  unfold Jn at h hin ⊢
  by_cases kf:Da (loG (R:Int) l (Q:Int) m (R:Int).toNat (Q:Int).toNat)=true
  ·rw [Axq kf] at hin ⊢
   exact ⟨R,Q,_,rfl,rfl,r6,q6,rfl,by unfold loG; rw [Br,Aw5,Aw5],kf,hin⟩
  ·rw [Axp kf] at h; exact absurd h (by decide)
 ·rw [Axq k] at h; exact absurd h k
theorem Ajl {r c:Int} {l:List Int} {p q:Int} {m:List Int} (h:(upX r c l p q m).2.2.2=0) :
 ∃ (R Q:Nat) (Y:List Int),r=R∧q=Q∧R≤6∧Q≤6∧upX r c l p q m=((R:Int),(Q:Int),Y,0)∧Y.length=R*Q∧Da Y=true∧Af Y=true:=by
 have hin:=Ajn r c l p q m
 unfold upX at h hin ⊢
 by_cases k:Nw r c l p q m=0
 ·rw [Axp (fun h=>h k)] at h hin ⊢
  obtain ⟨h1,h2,rfl,rfl⟩:=P1 k
  obtain ⟨R,C,rfl,hC,r6,c6,hl⟩:=C2 h1
  obtain ⟨P,Q,hP,rfl,p6,q6,hl2⟩:=C2 h2
  unfold Jn at h hin ⊢
  by_cases kf:Da (upG (R:Int) l (Q:Int) m (R:Int).toNat (Q:Int).toNat)=true
  ·rw [Axq kf] at hin ⊢
   exact ⟨R,Q,_,rfl,rfl,r6,q6,rfl,by unfold upG; rw [Br,Aw5,Aw5],kf,hin⟩
  ·rw [Axp kf] at h; exact absurd h (by decide)
 ·rw [Axq k] at h; exact absurd h k
open EqRef20
section
variable {N:Nat} {r c p q a b u v:Int} {l m g h:List Int} {p6_3 p6_4:Int} {p6_5 p7 p10 p11:List Int} {p6_6:Bool}
end
open EqRef20
namespace EqLaw17
end EqLaw17
open EqLaw17
theorem Ahl (r c:Int) (l:List Int):Ua r c l r c l=true:=by unfold Ua; simp
namespace EqLaw20
def Bn.one.A8:List (Nat × Entry):=[]
def Bn.one.E:Env:=Ba (A7 Bn.one.A8) (fun _=>false) (fun _=>none) (fun _=>none)
theorem Bn.one.ev (N:Nat) (b:Int):B0 Bn.one.E N f130 (Ap f130) [.int .u64 b]=some (.agg [.int .i64 1,.int .i64 1,.ints (.own 4 37) .u64 [b]]):=by kernel_rfl
abbrev _root_.Go.Proofs.S1.Bn.one.Kn:=A4 prog 130 Bn.one.spec
theorem Bn.one.Ad (hk:Ay prog Bn.one.A8) (h:Hyp Bn.one.E f130 Bn.one.ts Bn.one.pre Bn.one.out):Bn.one.Kn :=
 Al (A1 hk _ _ _) func130 (by kernel_rfl) (by kernel_rfl) h
def Bn.Gh.A8:List (Nat × Entry):=[(130,Bn.one.spec),(47,Cv.Solve.spec)]
def Bn.Gh.E:Env:=Ba (A7 Bn.Gh.A8) (fun _=>false) (fun _=>none) (fun _=>none)
theorem Bn.Gh.ev (N:Nat):B0 Bn.Gh.E N f50 (Ap f50) []=bif (Ll ([(4607182418800017408:Int)]) ([(4607182418800017408:Int)]) ([(0:Int)]) ([(4613937818241073152:Int)])) then bif ((!((((C4 1 1 ([(4607182418800017408:Int)]) 1 1 ([(4607182418800017408:Int)]) 1 1 ([(0:Int)]) 1 1 ([(4613937818241073152:Int)])).2.2.2)==(0:Int))&&((length ((C4 1 1 ([(4607182418800017408:Int)]) 1 1 ([(4607182418800017408:Int)]) 1 1 ([(0:Int)]) 1 1 ([(4613937818241073152:Int)])).2.2.1):Int)==(1:Int))))||(decide ((0:Int)<(length ((C4 1 1 ([(4607182418800017408:Int)]) 1 1 ([(4607182418800017408:Int)]) 1 1 ([(0:Int)]) 1 1 ([(4613937818241073152:Int)])).2.2.1):Int)))) then some (.bool (bif (bif (((C4 1 1 ([(4607182418800017408:Int)]) 1 1 ([(4607182418800017408:Int)]) 1 1 ([(0:Int)]) 1 1 ([(4613937818241073152:Int)])).2.2.2)==(0:Int)) then ((length ((C4 1 1 ([(4607182418800017408:Int)]) 1 1 ([(4607182418800017408:Int)]) 1 1 ([(0:Int)]) 1 1 ([(4613937818241073152:Int)])).2.2.1):Int)==(1:Int)) else false) then ((getD ((C4 1 1 ([(4607182418800017408:Int)]) 1 1 ([(4607182418800017408:Int)]) 1 1 ([(0:Int)]) 1 1 ([(4613937818241073152:Int)])).2.2.1) 0 0)==(4613937818241073152:Int)) else false)) else none else none :=
 Eq.trans (by kernel_rfl)
 (Ev (An (N4 (((C4 1 1 ([(4607182418800017408:Int)]) 1 1 ([(4607182418800017408:Int)]) 1 1 ([(0:Int)]) 1 1 ([(4613937818241073152:Int)])).2.2.2)==(0:Int))) (An (Na (((C4 1 1 ([(4607182418800017408:Int)]) 1 1 ([(4607182418800017408:Int)]) 1 1 ([(0:Int)]) 1 1 ([(4613937818241073152:Int)])).2.2.2)==(0:Int))) (An (Na (((C4 1 1 ([(4607182418800017408:Int)]) 1 1 ([(4607182418800017408:Int)]) 1 1 ([(0:Int)]) 1 1 ([(4613937818241073152:Int)])).2.2.2)==(0:Int))) (An (Na (((C4 1 1 ([(4607182418800017408:Int)]) 1 1 ([(4607182418800017408:Int)]) 1 1 ([(0:Int)]) 1 1 ([(4613937818241073152:Int)])).2.2.2)==(0:Int))) (An (T6 (((C4 1 1 ([(4607182418800017408:Int)]) 1 1 ([(4607182418800017408:Int)]) 1 1 ([(0:Int)]) 1 1 ([(4613937818241073152:Int)])).2.2.2)==(0:Int))) (An (Adp (((C4 1 1 ([(4607182418800017408:Int)]) 1 1 ([(4607182418800017408:Int)]) 1 1 ([(0:Int)]) 1 1 ([(4613937818241073152:Int)])).2.2.2)==(0:Int)) ((length ((C4 1 1 ([(4607182418800017408:Int)]) 1 1 ([(4607182418800017408:Int)]) 1 1 ([(0:Int)]) 1 1 ([(4613937818241073152:Int)])).2.2.1):Int)==(1:Int))) (An (Abb (((C4 1 1 ([(4607182418800017408:Int)]) 1 1 ([(4607182418800017408:Int)]) 1 1 ([(0:Int)]) 1 1 ([(4613937818241073152:Int)])).2.2.2)==(0:Int)) ((length ((C4 1 1 ([(4607182418800017408:Int)]) 1 1 ([(4607182418800017408:Int)]) 1 1 ([(0:Int)]) 1 1 ([(4613937818241073152:Int)])).2.2.1):Int)==(1:Int))) (Dw (Avw (((C4 1 1 ([(4607182418800017408:Int)]) 1 1 ([(4607182418800017408:Int)]) 1 1 ([(0:Int)]) 1 1 ([(4613937818241073152:Int)])).2.2.2)==(0:Int)) ((length ((C4 1 1 ([(4607182418800017408:Int)]) 1 1 ([(4607182418800017408:Int)]) 1 1 ([(0:Int)]) 1 1 ([(4613937818241073152:Int)])).2.2.1):Int)==(1:Int)) (decide ((0:Int)<(length ((C4 1 1 ([(4607182418800017408:Int)]) 1 1 ([(4607182418800017408:Int)]) 1 1 ([(0:Int)]) 1 1 ([(4613937818241073152:Int)])).2.2.1):Int)))) (An (Abb (((C4 1 1 ([(4607182418800017408:Int)]) 1 1 ([(4607182418800017408:Int)]) 1 1 ([(0:Int)]) 1 1 ([(4613937818241073152:Int)])).2.2.2)==(0:Int)) ((length ((C4 1 1 ([(4607182418800017408:Int)]) 1 1 ([(4607182418800017408:Int)]) 1 1 ([(0:Int)]) 1 1 ([(4613937818241073152:Int)])).2.2.1):Int)==(1:Int))) (An (Abb (((C4 1 1 ([(4607182418800017408:Int)]) 1 1 ([(4607182418800017408:Int)]) 1 1 ([(0:Int)]) 1 1 ([(4613937818241073152:Int)])).2.2.2)==(0:Int)) ((length ((C4 1 1 ([(4607182418800017408:Int)]) 1 1 ([(4607182418800017408:Int)]) 1 1 ([(0:Int)]) 1 1 ([(4613937818241073152:Int)])).2.2.1):Int)==(1:Int))) (An (Ajw (((C4 1 1 ([(4607182418800017408:Int)]) 1 1 ([(4607182418800017408:Int)]) 1 1 ([(0:Int)]) 1 1 ([(4613937818241073152:Int)])).2.2.2)==(0:Int)) ((length ((C4 1 1 ([(4607182418800017408:Int)]) 1 1 ([(4607182418800017408:Int)]) 1 1 ([(0:Int)]) 1 1 ([(4613937818241073152:Int)])).2.2.1):Int)==(1:Int))) rfl))) rfl)))))))) rfl)
abbrev _root_.Go.Proofs.S1.Bn.Gh.Kn:=A4 prog 50 Bn.Gh.spec
theorem Bn.Gh.Ad (hk:Ay prog Bn.Gh.A8) (h:Unit→Hyp Bn.Gh.E f50 Bn.Gh.ts Bn.Gh.pre Bn.Gh.out):Bn.Gh.Kn :=
 Al (A1 hk _ _ _) func50 (by kernel_rfl) (by kernel_rfl) (h ())
def Bn.task.A8:List (Nat × Entry):=[]
def Bn.task.E:Env:=Ba (A7 Bn.task.A8) (fun _=>false) (fun _=>none) (fun _=>none)
theorem Bn.task.ev (N:Nat) (r c:Int) (l:List Int) (p q:Int) (m:List Int) (a b:Int) (g:List Int) (u v:Int) (h:List Int):B0 Bn.task.E N f49 (Ap f49) [.agg [.int .i64 r,.int .i64 c,.ints .arg .u64 l,.int .i64 p,.int .i64 q,.ints .arg .u64 m,.int .i64 a,.int .i64 b,.ints .arg .u64 g,.int .i64 u,.int .i64 v,.ints .arg .u64 h]]=some (.agg [.int .i64 r,.int .i64 c,.ints .arg .u64 l,.int .i64 p,.int .i64 q,.ints .arg .u64 m,.int .i64 a,.int .i64 b,.ints .arg .u64 g,.int .i64 u,.int .i64 v,.ints .arg .u64 h]):=by kernel_rfl
abbrev _root_.Go.Proofs.S1.Bn.task.Kn:=A4 prog 49 Bn.task.spec
theorem Bn.task.Ad (hk:Ay prog Bn.task.A8) (h:Hyp Bn.task.E f49 Bn.task.ts Bn.task.pre Bn.task.out):Bn.task.Kn :=
 Al (A1 hk _ _ _) func49 (by kernel_rfl) (by kernel_rfl) h
end EqLaw20
open EqLaw20
theorem Bn.task.known:Bn.task.Kn:=Bn.task.Ad .nil fun r c l p q m a b g u v h _ =>
 ⟨0,_,[],Bn.task.ev 0 r c l p q m a b g u v h,Wk.H5 (.cons .int (.cons .int (.cons .Xv (.cons .int (.cons .int (.cons .Xv (.cons .int (.cons .int (.cons .Xv (.cons .int (.cons .int (.cons .Xv .nil))))))))))))⟩
theorem Bn.one.known:Bn.one.Kn:=Bn.one.Ad .nil fun b _ =>
 ⟨0,_,[4],Bn.one.ev 0 b,Adj (List.mem_singleton.2 rfl)⟩
theorem Aoz:C4 1 1 [4607182418800017408] 1 1 [4607182418800017408] 1 1 [0] 1 1 [4613937818241073152]=(1,1,[4613937818241073152],0):=by decide +kernel
theorem Aey {x:Int} (h:decide (0≤x∧x<18446744073709551616)=true):Af [x]=true:=At.2 fun y hy=>by
 rw [List.mem_singleton.1 hy]; exact At.2 (Axt h)
theorem Ss:Ll [4607182418800017408] [4607182418800017408] [0] [4613937818241073152]=true:=by
 unfold Ll
 rw [Aey (by decide),Aey (x:=0) (by decide),Aey (x:=4613937818241073152) (by decide)]; rfl
theorem Bn.Gh.known:Bn.Gh.Kn:=Bn.Gh.Ad (.cons Bn.one.known (.cons Cv.Solve.known .nil)) fun _ _=>by
 refine ⟨0,Bn.Gh.out [],[],?_,.bool⟩
 rw [Bn.Gh.ev,Ss,Aoz]
 rfl
theorem Aou (r c:Int) (l:List Int) (p q:Int) (m:List Int):(Ek r c l p q m).2.2.1.length≤36:=by
 unfold Ek
 by_cases k:(Ak r c l&&Ak p q m)=true
 ·rw [Axq k]
  obtain ⟨h1,h2⟩:=Ae.1 k
  obtain ⟨R,C,rfl,rfl,r6,c6,_⟩:=C2 h1
  obtain ⟨P,Q,rfl,rfl,p6,q6,_⟩:=C2 h2
  by_cases k2:(C:Int)=(P:Int)
  ·rw [Axq k2]
   dsimp only
   rw [Br,Aw5,Aw5]
   exact Axz r6 q6
  ·rw [Axp k2]; exact Nat.zero_le _
 ·rw [Axp k]; exact Nat.zero_le _
theorem Apq {r c:Int} {l:List Int} {e:Int} (h:l.length≤36):(Ky r c l e).2.2.1.length≤36:=by
 unfold Ky
 by_cases k:e=0
 ·rw [Axp (fun h=>h k)]
  by_cases k2:Bo r c l=0
  ·rw [Axp (fun h=>h k2)]; exact h
  ·rw [Axq k2]; exact Nat.zero_le _
 ·rw [Axq k]; exact Nat.zero_le _
theorem Yl {e:Int}:(Ij e).2.2.1.length≤36:=Nat.zero_le _
theorem Tt {P:Prop} [Decidable P] {x y:MX} (h1:x.2.2.1.length≤36) (h2:y.2.2.1.length≤36):(if P then x else y).2.2.1.length≤36:=by
 by_cases k:P
 ·rw [Axq k]; exact h1
 ·rw [Axp k]; exact h2
theorem Ao3 (r c:Int) (l:List Int) (p q:Int) (m:List Int) (a b:Int) (g:List Int) (u v:Int) (h:List Int):(C4 r c l p q m a b g u v h).2.2.1.length≤36:=by
 unfold C4 Ab9 Agd Yn
 exact Tt Yl (Tt Yl (Tt Yl (Tt Yl (Tt Yl (Tt Yl (Apq (Aou _ _ _ _ _ _)))))))
end Go.Proofs.S1
end
