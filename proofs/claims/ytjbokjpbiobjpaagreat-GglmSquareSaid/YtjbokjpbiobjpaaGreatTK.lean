/- A verified evaluator of the program's form and its use for this seat: S1EqFew, S1PSol, S1EqQr, S1PQr, S1PQrA, S1EqRef17, S1PRef17, S1EqRef14, S1PRef13, S1PRef14, S1EqLow, S1PLow, S1EqLse, S1PLse, S1POfS, S1EqRef20, S1PSubSt, S1PLseA, S1PRefL, S1PRef20, S1PMx, S1EqGg, S1PGg. -/
import Derived.Test.YtjbokjpbiobjpaaGreatTE
import Derived.Test.YtjbokjpbiobjpaaGreatTF
import Derived.Test.YtjbokjpbiobjpaaGreatTJ
import Derived.Test.YtjbokjpbiobjpaaGreatTI
set_option linter.unusedVariables false
set_option linter.unusedSimpArgs false
noncomputable section
namespace Go.Proofs.S1
open Go Go.Den Go.Rnd Go.Proofs
set_option maxRecDepth 100000
namespace EqFew
def qr.Ec.Ba:List (Nat × Entry):=[(123,Aa.Mul.spec),(167,Aa.Cy.spec)]
def qr.Ec.E:Env:=Bc (A9 qr.Ec.Ba) (fun _=>false) (fun _=>none) (fun _=>none)
theorem qr.Ec.ev (N:Nat) (r c:Int) (l:List Int) (p q:Int) (m:List Int):By qr.Ec.E N Tryz.f98 (Am Tryz.f98) [.agg [.int .i64 r,.int .i64 c,.ints .arg .u64 l],.agg [.int .i64 p,.int .i64 q,.ints .arg .u64 m]]=bif (((A5 r c l).2.2.2) !=(0:Int)) then some (.tup [.agg [.int .i64 0,.int .i64 0,.nil],.int .i64 ((A5 r c l).2.2.2)]) else bif (Ah ((A5 r c l).2.2.1)&&Ah m) then some (.tup [.agg [.int .i64 ((Mc ((A5 r c l).1) ((A5 r c l).2.1) ((A5 r c l).2.2.1) p q m).1),.int .i64 ((Mc ((A5 r c l).1) ((A5 r c l).2.1) ((A5 r c l).2.2.1) p q m).2.1),.ints .fresh .u64 ((Mc ((A5 r c l).1) ((A5 r c l).2.1) ((A5 r c l).2.2.1) p q m).2.2.1)],.int .i64 ((Mc ((A5 r c l).1) ((A5 r c l).2.1) ((A5 r c l).2.2.1) p q m).2.2.2)]) else none:=by kernel_rfl
abbrev _root_.Go.Proofs.S1.qr.Ec.Kn:=A7 Tryz.prog 98 qr.Ec.spec
theorem qr.Ec.Ad (hk:Ax Tryz.prog qr.Ec.Ba) (h:∀ (r c:Int) (l:List Int) (p q:Int) (m:List Int),qr.Ec.pre [.i r,.i c,.l l,.i p,.i q,.l m]=true→Bd qr.Ec.E Tryz.f98 [.agg [.int .i64 r,.int .i64 c,.ints .arg .u64 l],.agg [.int .i64 p,.int .i64 q,.ints .arg .u64 m]] (qr.Ec.out [.i r,.i c,.l l,.i p,.i q,.l m])):qr.Ec.Kn :=
  Al (A0 hk _ _ _) Tryz.func98 (by kernel_rfl) (by kernel_rfl) h
end EqFew
open EqSol EqFew
theorem Abt {n i:Nat} (h:i<n):(List.range n).drop i=i::(List.range n).drop (i+1):=by
  rw [List.drop_eq_getElem_cons (by rw [List.length_range]; exact h),List.getElem_range]
theorem Gs {r c:Int} {l:List Int} (h:B5 r c l=0):Bh r c l=true∧D9 l=true:=by
  unfold B5 at h
  by_cases h1:Bh r c l=true
  · rw [if_pos h1] at h
    by_cases h2:D9 l=true
    · exact ⟨h1,h2⟩
    · rw [if_neg h2] at h; exact absurd h (by decide)
  · rw [if_neg h1] at h; exact absurd h (by decide)
theorem Rq {x:Int} (h:x≠0):(x !=(0:Int))=true:=by simpa using h
theorem Fo {x:Int} (h:x=0):(x !=(0:Int))=false:=by rw [h]; rfl
theorem Acu (N:Nat) {n:Nat} {l:List Int} (n6:n≤6) (hl:l.length=n*n) (al:Ah l=true):∀ (cnt i F:Nat),i+cnt=n→cnt<F →
    solve.check.L0 (N+4) F (n:Int) (n:Int) l (i:Int)=some (.int .i64 (if ((List.range n).drop i).any (fun i:Nat=>decide (A4 (Ef (n:Int) l (i:Int) (i:Int))=0))=true then 5 else 0)):=by
  intro cnt
  induction cnt with
  | zero =>
    intro i F hi hF
    obtain ⟨F,rfl⟩:∃ G,F=G+1:=⟨F-1,by omega⟩
    rw [solve.check.At,Aq,Aq1 (by omega),Aq0,Ara (by rw [List.length_range]; omega)]; rfl
  | succ cnt ih =>
    intro i F hi hF
    obtain ⟨F,rfl⟩:∃ G,F=G+1:=⟨F-1,by omega⟩
    obtain ⟨e1,g1,g2⟩:=Gy (R:=(n:Int)) (Fi n6 n6 hl (show i<n by omega) (show i<n by omega))
    have hx:List.getD l (Int.toNat ((i:Int)*(n:Int)+(i:Int))) 0=Ef (n:Int) l (i:Int) (i:Int):=rfl
    rw [solve.check.At,Aq,Aqx (show (i:Int)<(n:Int) by omega),Aqw,e1,Aqx g1,Aqx g2,Aq2,Aqw,hx,Gt al,Aqw,Abt (by omega),List.any_cons]
    by_cases hk:A4 (Ef (n:Int) l (i:Int) (i:Int))=0
    · have e:(A4 (Ef (n:Int) l (i:Int) (i:Int))==(0:Int))=true:=by rw [hk]; rfl
      rw [e,Aqw,Aqx hk]; rfl
    · have e:(A4 (Ef (n:Int) l (i:Int) (i:Int))==(0:Int))=false:=by simpa using hk
      rw [e,Aq0,Aq1 hk,Bool.false_or,An (by omega) (by omega)]
      exact ih (i+1) F (by omega) (by omega)
theorem Aqd {r c p:Int}:((r !=c)||(r !=p))=decide (r≠c∨r≠p):=by
  rw [Arc]; simp
theorem solve.check.known:solve.check.Kn:=solve.check.Ad (.cons B4.Check.known (.cons soft.Kind.known .nil)) fun r c l p q m hp=>by
  obtain ⟨al,am⟩:=Af.1 (show (Ah l&&Ah m)=true from hp)
  refine ⟨14,solve.check.out [.i r,.i c,.l l,.i p,.i q,.l m],[],?_,.int⟩
  show _=some (DV.int .i64 (M4 r c l p q m))
  rw [show (14:Nat)=10+4 from rfl,solve.check.ev,al,Aqw,am,Aqw,Aqd]
  unfold M4
  by_cases h1:B5 r c l=0
  · rw [Fo h1,Aq0,if_neg (by rw [h1]; decide)]
    by_cases h2:B5 p q m=0
    · rw [Fo h2,Aq0,if_neg (by rw [h2]; decide)]
      by_cases h3:r≠c∨r≠p
      · rw [Aqx h3,Aqw,if_pos h3]
      · rw [Aq1 h3,Aq0,if_neg h3]
        obtain rfl:r=c:=Decidable.byContradiction fun h=>h3 (.inl h)
        obtain ⟨R,C,rfl,hC,r6,c6,hl⟩:=C1 (Gs h1).1
        obtain rfl:R=C:=by omega
        rw [Aqy]
        exact Acu 10 r6 hl al R 0 14 (by omega) (by omega)
    · rw [Rq h2,Aqw,if_pos h2]
  · rw [Rq h1,Aqw,if_pos h1]
theorem Oi {r c:Int} {l:List Int} {p q:Int} {m:List Int} (h:M4 r c l p q m=0):Bh r c l=true∧Bh p q m=true∧r=c∧r=p:=by
  unfold M4 at h
  by_cases h1:B5 r c l=0
  · rw [if_neg (by rw [h1]; decide)] at h
    by_cases h2:B5 p q m=0
    · rw [if_neg (by rw [h2]; decide)] at h
      by_cases h3:r≠c∨r≠p
      · rw [if_pos h3] at h; exact absurd h (by decide)
      · exact ⟨(Gs h1).1,(Gs h2).1,Decidable.byContradiction fun h=>h3 (.inl h),Decidable.byContradiction fun h=>h3 (.inr h)⟩
    · rw [if_pos h2] at h; exact absurd h h2
  · rw [if_pos h1] at h; exact absurd h h1
theorem solve.Gf.known:solve.Gf.Kn:=solve.Gf.Ad (.cons solve.check.known (.cons solve.Ap.Up.known .nil)) fun r c l p q m hp=>by
  have hp:(Ah l&&Ah m)=true:=hp
  show ∃ N dv drops,_=some dv∧Wk drops dv (Pg (Vy r c l p q m))
  unfold Vy
  by_cases h:M4 r c l p q m=0
  · obtain ⟨h1,h2,h3,h4⟩:=Oi h
    have ht:M9 r c l p q m=true:=Af.2 ⟨Af.2 ⟨h1,h2⟩,Af.2 ⟨hp,Ao.2 ⟨h3,h4⟩⟩⟩
    rw [if_neg (by rw [h]; decide)]
    exact ⟨0,_,[],by rw [solve.Gf.ev,hp,Aqw,Fo h,Aq0,ht,Aqx rfl]; rfl,Ly⟩
  · rw [if_pos h]
    exact ⟨0,_,[],by rw [solve.Gf.ev,hp,Aqw,Rq h,Aqw]; rfl,Kp⟩
theorem Ag0 {b:Nat} {n:Int} (h:b<2^64):(Hd b n).1<2^64:=by
  unfold Hd
  by_cases h4:As b=4
  · rw [if_pos h4]; exact (by decide:Vw<2^64)
  rw [if_neg h4]
  by_cases h3:As b=3∨As b=0
  · rw [if_pos h3]; exact h
  rw [if_neg h3]
  exact P3 _ _ _
theorem Iy {b n:Int} (h:Ai b=true):Ai (B8 b n)=true:=by
  obtain ⟨x,rfl,hx⟩:=Bt h
  exact B0 (Ag0 (by rw [Aqy]; exact hx))
theorem Ve:∀ (l:List Int) (m:Nat),m<2^64→Yn l m<2^64
  | [],m,h=>h
  | x::l,m,h=>by
    unfold Yn
    split
    · exact (by decide:Vw<2^64)
    · have h2:Af0 x.toNat<2^63:=W7 x.toNat
      exact Ve l _ (by omega)
theorem Pw (l:List Int):Ai (Bl l)=true:=B0 (Ve l 0 (by decide))
theorem Ahr (x:Int):Ai (Z4 x)=true:=B0 (Nat.lt_trans (W7 x.toNat) (by decide))
theorem Afi (N:Nat) {d:List Int} (hd:C4 d=true) (h7:d.length≤1000):∀ (cnt i F:Nat),i+cnt=d.length→cnt<F →
    solve.Flat.L1 N F d (i:Int)=some (.tup [.bool ((d.drop i).any fun x=>!(decide (Abx (B8 (Bl d) (-40)) x<0))),.int .i64 0]):=by
  obtain ⟨_,hu⟩:=Kw hd
  intro cnt
  induction cnt with
  | zero =>
    intro i F hi hF
    obtain ⟨F,rfl⟩:∃ G,F=G+1:=⟨F-1,by omega⟩
    rw [solve.Flat.Cc,Aq,Aq1 (by omega),Aq0,Ara (by omega)]; rfl
  | succ cnt ih =>
    intro i F hi hF
    obtain ⟨F,rfl⟩:∃ G,F=G+1:=⟨F-1,by omega⟩
    rw [solve.Flat.Cc,Aq,Aqx (show (i:Int)<(d.length:Int) by omega),Aqw,Aqx (show (0:Int)≤(i:Int) by omega),Aq2,Aqw,Aqy,Aqx (show i<d.length by omega),Aqw,
      Iy (Pw d),hu i (by omega),Aq2,Aqw,Im (by omega),List.any_cons]
    cases decide (Abx (B8 (Bl d) (-40)) (d.getD i 0)<0) with
    | false=>rfl
    | true =>
      rw [Bool.not_true,Aq0,Bool.false_or,An (by omega) (by omega)]
      exact ih (i+1) F (by omega) (by omega)
theorem Alr (c:Int) (l:List Int) (n:Nat):Ah (So c l n)=true:=Ao.2 fun x hx=>by
  obtain ⟨j,_,rfl⟩:=List.mem_map.1 hx
  exact Ahr _
theorem K1 (c:Int) (l:List Int) (n:Nat):(So c l n).length=n:=by unfold So; rw [List.length_map,List.length_range]
theorem Afj (N:Nat) {R C:Nat} {l:List Int} (r6:R≤6) (c6:C≤6) (hN:7<N) (hl:l.length=R*C) (al:Ah l=true):∀ (cnt i F:Nat),i+cnt=min R C→cnt<F →
    solve.Flat.L0 N F (R:Int) (C:Int) l (i:Int) (So (C:Int) l i)=some (.tup [.bool (Amm (So (C:Int) l (min R C))),.int .i64 0]):=by
  intro cnt
  induction cnt with
  | zero =>
    intro i F hi hF
    obtain ⟨F,rfl⟩:∃ G,F=G+1:=⟨F-1,by omega⟩
    obtain rfl:i=min R C:=by omega
    have hlt:(A1 (((min R C:Nat)):Int) (R:Int)&&A1 (((min R C:Nat)):Int) (C:Int))=false:=by
      rw [Aq,Aq,Bool.and_eq_false_iff,Arf,Arf]; omega
    have ok:=K9 (Alr (C:Int) l (min R C)) (by rw [K1]; omega)
    have sp:Eh (Bl (So (C:Int) l (min R C))) (-40:Int)=true:=Af.2 ⟨Pw _,Ao.2 (by omega)⟩
    rw [solve.Flat.At,hlt,Aq0,ok,Aqw,sp,Aqw]
    exact Afi N ok (by rw [K1]; omega) (min R C) 0 N (by rw [K1]; omega) (by omega)
  | succ cnt ih =>
    intro i F hi hF
    obtain ⟨F,rfl⟩:∃ G,F=G+1:=⟨F-1,by omega⟩
    obtain ⟨e1,g1,g2⟩:=Gy (R:=(R:Int)) (Fi r6 c6 hl (show i<R by omega) (show i<C by omega))
    have hx:List.getD l (Int.toNat ((i:Int)*(C:Int)+(i:Int))) 0=Ef (C:Int) l (i:Int) (i:Int):=rfl
    rw [solve.Flat.At,Aq,Aq,Aqx (show (i:Int)<(R:Int) by omega),Aqx (show (i:Int)<(C:Int) by omega),Aq2,Aqw,e1,Aqx g1,Aqx g2,Aq2,Aqw,hx,Gt al,Aqw,
      K1,Aqx (show i+1≤Gq by unfold Gq; omega),Aqw,An (by omega) (by omega)]
    have:=ih (i+1) F (by omega) (by omega)
    unfold So at this ⊢
    rw [Hy] at this
    exact this
theorem solve.Flat.known:solve.Flat.Kn:=solve.Flat.Ad (.cons B4.Check.known (.cons compare.Sx.known (.cons compare.Jx.known (.cons Ae.Cf.known (.cons Ae.Bp.known .nil))))) fun r c l hp=>by
  have hp:Ah l=true:=hp
  refine ⟨8,solve.Flat.out [.i r,.i c,.l l],[],?_,Wk.Gb (.cons .bool (.cons .int .nil))⟩
  show _=some (DV.tup [.bool (Mw r c l).1,.int .i64 (Mw r c l).2])
  rw [solve.Flat.ev,hp,Aqw]
  unfold Mw Ail
  by_cases h1:B5 r c l=0
  · obtain ⟨R,C,rfl,rfl,r6,c6,hl⟩:=C1 (Gs h1).1
    rw [Fo h1,Aq0,if_neg (by rw [h1]; decide),Aqy,Aqy]
    exact Afj 8 r6 c6 (by omega) hl hp (min R C) 0 8 (by omega) (by omega)
  · rw [Rq h1,Aqw,if_pos h1]
theorem Ku {r c:Int} {l:List Int} (al:Ah l=true) (x y a b:Int):Ah (D4 r c l x y a b).2.2.1=true:=by
  unfold D4
  split
  · split
    · dsimp only
      exact F5 fun i k=>Gt al
    · exact Ao.2 fun x h=>by cases h
  · exact Ao.2 fun x h=>by cases h
theorem N6 {r c:Int} {l:List Int} (al:Ah l=true):Ah (A5 r c l).2.2.1=true:=by
  unfold A5
  split
  · dsimp only
    exact F5 fun i k=>Gt al
  · exact Ao.2 fun x h=>by cases h
theorem Tf (x y:List Int):Ai (M3 x y)=true:=B0 (Yh x y 0 (by decide))
theorem X0 (r c:Int) (l:List Int) (p q:Int) (m:List Int):Ah (Mc r c l p q m).2.2.1=true:=by
  unfold Mc
  split
  · split
    · dsimp only
      exact F5 fun i k=>Tf _ _
    · exact Ao.2 fun x h=>by cases h
  · exact Ao.2 fun x h=>by cases h
theorem Jy (r c:Int) (l:List Int) (p q:Int) (m:List Int):Ah (D8 r c l p q m).2.2.1=true:=by
  unfold D8
  split
  · exact Ao.2 fun x h=>by cases h
  · exact X0 _ _ _ _ _ _
theorem qr.Ec.known:qr.Ec.Kn:=qr.Ec.Ad (.cons Aa.Mul.known (.cons Aa.Cy.known .nil)) fun r c l p q m hp=>by
  obtain ⟨al,am⟩:=Af.1 (show (Ah l&&Ah m)=true from hp)
  show ∃ N dv drops,_=some dv∧Wk drops dv (Pg (D8 r c l p q m))
  unfold D8
  by_cases h:(A5 r c l).2.2.2=0
  · rw [if_neg (by rw [h]; decide)]
    exact ⟨0,_,[],by rw [qr.Ec.ev,Fo h,Aq0,N6 al,am]; rfl,Ly⟩
  · rw [if_pos h]
    exact ⟨0,_,[],by rw [qr.Ec.ev,Rq h,Aqw]; rfl,Kp⟩
namespace EqQr
def qr.down.hint:Nat→Option A6
  | 0=>some { keep:=[1,2,5,6,7],objs:=[(0,6,100006,.recs 214 2 []),(6,2,106002,.ints 37 .u64 [])],boxes:=[1,2,5] }
  | 2=>some { keep:=[1,2,5,6,7,8,9,12],objs:=[(6,2,106002,.ints 37 .u64 []),(0,6,100006,.recs 214 2 [])],boxes:=[1,2,5] }
  | _=>none
def qr.down.Ba:List (Nat × Entry):=[(219,Ak.Apply.spec),(245,Ak.Iq.spec),(191,Aa.Cz.spec)]
def qr.down.E:Env:=Bc (A9 qr.down.Ba) (fun n=>Nat.beq n 46) qr.down.hint (fun _=>none)
def qr.down.L0 (N M0 M:Nat) (r c:Int) (l:List Int) (p12_1:Int) (p2_1:List Int) (p7_1:Int) (p8:List Int) (p9:Int) (p6_1:List (List DV)):Option DV:=B2 qr.down.E N Tryz.f217 (Am Tryz.f217) [1,1,1,0,1,0,0,1,0,0,1,1,1,1,0,1,0] [M0] M ⟨Fw 88 [(1,.ptr 1 0 0),(2,.ptr 2 0 0),(5,.ptr 5 0 0),(6,.oref 100006),(7,.int .i64 p7_1),(8,.ints .fresh .u64 p8),(9,.int .u64 p9),(12,.int .i64 p12_1)],[(1,false,.box [.int .i64 r,.int .i64 c,.ints .arg .u64 l]),(2,false,.box [.int .i64 0,.int .i64 0,.nil]),(5,false,.box [.int .i64 r,.int .i64 c,.oref 106002]),(106002,false,.ints 37 .u64 p2_1),(100006,false,.recs 214 2 p6_1)]⟩
def qr.down.L1 (N M:Nat) (r c:Int) (l:List Int) (p7:Int) (p6:List (List DV)) (p2_2:List Int):Option DV:=B2 qr.down.E N Tryz.f217 (Am Tryz.f217) [1,1,1,0,1,0] [] M ⟨Fw 88 [(1,.ptr 1 0 0),(2,.ptr 2 0 0),(5,.ptr 5 0 0),(6,.oref 100006),(7,.int .i64 p7)],[(1,false,.box [.int .i64 r,.int .i64 c,.ints .arg .u64 l]),(2,false,.box [.int .i64 0,.int .i64 0,.nil]),(5,false,.box [.int .i64 r,.int .i64 c,.oref 106002]),(100006,false,.recs 214 2 p6),(106002,false,.ints 37 .u64 p2_2)]⟩
def qr.down.L2 (N M:Nat) (r c:Int) (l:List Int):Option DV:=B2 qr.down.E N Tryz.f217 (Am Tryz.f217) [1,1,1,0,1,0] [] M ⟨Fw 88 [(1,.ptr 1 0 0),(2,.ptr 2 0 0),(5,.ptr 5 0 0),(6,.oref 100006),(7,.int .i64 0)],[(1,false,.box [.int .i64 r,.int .i64 c,.ints .arg .u64 l]),(2,false,.box [.int .i64 0,.int .i64 0,.nil]),(5,false,.box [.int .i64 r,.int .i64 c,.ints .arg .u64 l]),(100006,false,.recs 214 2 [])]⟩
theorem qr.down.At (N M0 M:Nat) (r c:Int) (l:List Int) (p12_1:Int) (p2_1:List Int) (p7_1:Int) (p8:List Int) (p9:Int) (p6_1:List (List DV)):qr.down.L0 N M0 (M+1) r c l p12_1 p2_1 p7_1 p8 p9 p6_1=bif (A1 p12_1 r) then bif ((decide (0≤(Ab ((Ab (p12_1*c))+p7_1))))&&(decide ((Ab ((Ab (p12_1*c))+p7_1))<(List.length p2_1:Int)))) then bif (decide ((Int.toNat (Ab ((Ab (p12_1*c))+p7_1)))<(List.length p2_1))) then qr.down.L0 N M0 M r c l (Ab (p12_1+1)) (List.set p2_1 (Int.toNat (Ab ((Ab (p12_1*c))+p7_1))) 0) p7_1 p8 p9 p6_1 else none else none else bif (decide ((List.length p6_1)+1≤Ah3)) then qr.down.L1 N M0 r c l (Ab (p7_1+1)) (p6_1++[[.ints .arg .u64 p8,.int .u64 p9]]) p2_1 else none:=by kernel_rfl
theorem qr.down.Cc (N M:Nat) (r c:Int) (l:List Int) (p7:Int) (p6:List (List DV)) (p2_2:List Int):qr.down.L1 N (M+1) r c l p7 p6 p2_2=bif ((A1 p7 c)&&(A1 p7 (Ab (r-1)))) then bif (Ki r c p2_2 p7&&Cn (0≤p7∧p7≤r)) then bif (C4 (Dg c p2_2 p7 p7 (Int.toNat (r-p7)))) then bif (((B7 (Dg c p2_2 p7 p7 (Int.toNat (r-p7)))).2.2.2) !=(0:Int)) then some (.tup [.agg [.int .i64 0,.int .i64 0,.nil],.nil,.int .i64 2]) else bif (((Bh r c p2_2&&Lf r c p7 p7 ((B7 (Dg c p2_2 p7 p7 (Int.toNat (r-p7)))).1))&&(Ah p2_2&&Ah ((B7 (Dg c p2_2 p7 p7 (Int.toNat (r-p7)))).1)))&&Ai ((B7 (Dg c p2_2 p7 p7 (Int.toNat (r-p7)))).2.1)) then bif ((decide (0≤(Ab ((Ab (p7*c))+p7))))&&(decide ((Ab ((Ab (p7*c))+p7))<(List.length (Fu (Int.toNat r) (Int.toNat c) p2_2 p7 p7 ((B7 (Dg c p2_2 p7 p7 (Int.toNat (r-p7)))).1) ((B7 (Dg c p2_2 p7 p7 (Int.toNat (r-p7)))).2.1)):Int)))) then bif (decide ((Int.toNat (Ab ((Ab (p7*c))+p7)))<(List.length (Fu (Int.toNat r) (Int.toNat c) p2_2 p7 p7 ((B7 (Dg c p2_2 p7 p7 (Int.toNat (r-p7)))).1) ((B7 (Dg c p2_2 p7 p7 (Int.toNat (r-p7)))).2.1))))) then qr.down.L0 N M N r c l (Ab (p7+1)) (List.set (Fu (Int.toNat r) (Int.toNat c) p2_2 p7 p7 ((B7 (Dg c p2_2 p7 p7 (Int.toNat (r-p7)))).1) ((B7 (Dg c p2_2 p7 p7 (Int.toNat (r-p7)))).2.1)) (Int.toNat (Ab ((Ab (p7*c))+p7))) ((B7 (Dg c p2_2 p7 p7 (Int.toNat (r-p7)))).2.2.1)) p7 ((B7 (Dg c p2_2 p7 p7 (Int.toNat (r-p7)))).1) ((B7 (Dg c p2_2 p7 p7 (Int.toNat (r-p7)))).2.1) p6 else none else none else none else none else none else some (.tup [.agg [.int .i64 r,.int .i64 c,.ints (.own 106002 37) .u64 p2_2],.recs (.own 100006 214) 2 p6,.int .i64 0]) :=
  Eq.trans (by kernel_rfl)
  (Au (N7 (A1 p7 c)) (Au (N7 (A1 p7 c)) (Au (Kq (A1 p7 c)) (Au (Kq (A1 p7 c)) (Au (Agm (A1 p7 c)) (Au (Q9 (A1 p7 c)) (C0 (tt1 (A1 p7 c) (A1 p7 (Ab (r-1)))) rfl rfl)))))))
theorem qr.down.Gz (N M:Nat) (r c:Int) (l:List Int):qr.down.L2 N (M+1) r c l=bif ((A1 0 c)&&(A1 0 (Ab (r-1)))) then bif (Ki r c l 0&&Cn (0≤(0:Int)∧(0:Int)≤r)) then bif (C4 (Dg c l 0 0 (Int.toNat (r-0)))) then bif (((B7 (Dg c l 0 0 (Int.toNat (r-0)))).2.2.2) !=(0:Int)) then some (.tup [.agg [.int .i64 0,.int .i64 0,.nil],.nil,.int .i64 2]) else bif (((Bh r c l&&Lf r c 0 0 ((B7 (Dg c l 0 0 (Int.toNat (r-0)))).1))&&(Ah l&&Ah ((B7 (Dg c l 0 0 (Int.toNat (r-0)))).1)))&&Ai ((B7 (Dg c l 0 0 (Int.toNat (r-0)))).2.1)) then bif ((decide (0≤(Ab ((Ab ((0:Int)*c))+0))))&&(decide ((Ab ((Ab ((0:Int)*c))+0))<(List.length (Fu (Int.toNat r) (Int.toNat c) l 0 0 ((B7 (Dg c l 0 0 (Int.toNat (r-0)))).1) ((B7 (Dg c l 0 0 (Int.toNat (r-0)))).2.1)):Int)))) then bif (decide ((Int.toNat (Ab ((Ab ((0:Int)*c))+0)))<(List.length (Fu (Int.toNat r) (Int.toNat c) l 0 0 ((B7 (Dg c l 0 0 (Int.toNat (r-0)))).1) ((B7 (Dg c l 0 0 (Int.toNat (r-0)))).2.1))))) then qr.down.L0 N M N r c l 1 (List.set (Fu (Int.toNat r) (Int.toNat c) l 0 0 ((B7 (Dg c l 0 0 (Int.toNat (r-0)))).1) ((B7 (Dg c l 0 0 (Int.toNat (r-0)))).2.1)) (Int.toNat (Ab ((Ab ((0:Int)*c))+0))) ((B7 (Dg c l 0 0 (Int.toNat (r-0)))).2.2.1)) 0 ((B7 (Dg c l 0 0 (Int.toNat (r-0)))).1) ((B7 (Dg c l 0 0 (Int.toNat (r-0)))).2.1) [] else none else none else none else none else none else some (.tup [.agg [.int .i64 r,.int .i64 c,.ints .arg .u64 l],.recs (.own 100006 214) 2 [],.int .i64 0]) :=
  Eq.trans (by kernel_rfl)
  (Au (N7 (A1 0 c)) (Au (N7 (A1 0 c)) (Au (Kq (A1 0 c)) (Au (Kq (A1 0 c)) (Au (Agm (A1 0 c)) (Au (Q9 (A1 0 c)) (C0 (tt1 (A1 0 c) (A1 0 (Ab (r-1)))) rfl rfl)))))))
theorem qr.down.ev (N:Nat) (r c:Int) (l:List Int):By qr.down.E N Tryz.f217 (Am Tryz.f217) [.agg [.int .i64 r,.int .i64 c,.ints .arg .u64 l]] =
  qr.down.L2 N N r c l:=by kernel_rfl
abbrev _root_.Go.Proofs.S1.qr.down.Kn:=A7 Tryz.prog 217 qr.down.spec
theorem qr.down.Ad (hk:Ax Tryz.prog qr.down.Ba) (h:∀ (r c:Int) (l:List Int),qr.down.pre [.i r,.i c,.l l]=true→Bd qr.down.E Tryz.f217 [.agg [.int .i64 r,.int .i64 c,.ints .arg .u64 l]] (qr.down.out [.i r,.i c,.l l])):qr.down.Kn :=
  Al (A0 hk _ _ _) Tryz.func217 (by kernel_rfl) (by kernel_rfl) h
def qr.Cv.hint:Nat→Option A6
  | 0=>some { keep:=[2,3,5,6],objs:=[],boxes:=[2,3] }
  | _=>none
def qr.Cv.Ba:List (Nat × Entry):=[(86,B4.Check.spec),(219,Ak.Apply.spec),(218,Aa.Gm.spec),(217,qr.down.spec),(150,Ae.Finite.spec)]
def qr.Cv.E:Env:=Acm (A9 qr.Cv.Ba) (fun _=>false) qr.Cv.hint (fun _=>none) (Amo [(22,[.s .u64]),(37,[.i .u64])])
def qr.Cv.L0 (N M:Nat) (r c:Int) (l:List Int) (p6:Int) (p2:List Int):Option DV:=B2 qr.Cv.E N Tryz.f166 (Am Tryz.f166) [1,0,1,1,1,1,1,1,0,0] [] M ⟨Fw 81 [(2,.ptr 2 0 0),(3,.ptr 3 0 0),(5,.recs .fresh 2 (Ij r c ([]++l))),(6,.int .i64 p6)],[(2,false,.box [.int .i64 ((Kg r).1),.int .i64 ((Kg r).2.1),.ints .fresh .u64 p2]),(3,false,.box [.int .i64 ((E1 r c ([]++l)).1),.int .i64 ((E1 r c ([]++l)).2.1),.ints .arg .u64 ((E1 r c ([]++l)).2.2.1)])]⟩
theorem qr.Cv.At (N M:Nat) (r c:Int) (l:List Int) (p6:Int) (p2:List Int):qr.Cv.L0 N (M+1) r c l p6 p2=bif (A1 p6 0) then bif (C4 p2) then bif ((!(D9 p2))||(C4 ((E1 r c ([]++l)).2.2.1))) then bif ((!(D9 p2))||(!(D9 ((E1 r c ([]++l)).2.2.1)))) then some (.tup [.agg [.int .i64 0,.int .i64 0,.nil],.agg [.int .i64 0,.int .i64 0,.nil],.int .i64 2]) else some (.tup [.agg [.int .i64 ((Kg r).1),.int .i64 ((Kg r).2.1),.ints .fresh .u64 p2],.agg [.int .i64 ((E1 r c ([]++l)).1),.int .i64 ((E1 r c ([]++l)).2.1),.ints .arg .u64 ((E1 r c ([]++l)).2.2.1)],.int .i64 0]) else none else none else bif ((decide (0≤p6))&&(decide (p6<(List.length (Ij r c ([]++l)):Int)))) then bif (isC (.s .u64) (List.getD (List.getD (Ij r c ([]++l)) (Int.toNat p6) []) 0 .undef)) then bif ((decide (0≤p6))&&(decide (p6<(List.length (Ij r c ([]++l)):Int)))) then bif (isC (.i .u64) (List.getD (List.getD (Ij r c ([]++l)) (Int.toNat p6) []) 1 .undef)) then bif (((Bh ((Kg r).1) ((Kg r).2.1) p2&&Lf ((Kg r).1) ((Kg r).2.1) p6 0 (Pq (List.getD (List.getD (Ij r c ([]++l)) (Int.toNat p6) []) 0 .undef)))&&(Ah p2&&Ah (Pq (List.getD (List.getD (Ij r c ([]++l)) (Int.toNat p6) []) 0 .undef))))&&Ai (Adt (List.getD (List.getD (Ij r c ([]++l)) (Int.toNat p6) []) 1 .undef))) then qr.Cv.L0 N M r c l (Ab (p6-1)) (Fu (Int.toNat ((Kg r).1)) (Int.toNat ((Kg r).2.1)) p2 p6 0 (Pq (List.getD (List.getD (Ij r c ([]++l)) (Int.toNat p6) []) 0 .undef)) (Adt (List.getD (List.getD (Ij r c ([]++l)) (Int.toNat p6) []) 1 .undef))) else none else none else none else none else none :=
  Eq.trans (by kernel_rfl)
  (E3 (E3 (Au (Ad6 (D9 p2)) (Au (Tq (D9 p2)) (C0 (Am6 (D9 p2) (C4 ((E1 r c ([]++l)).2.2.1))) (Au (Tq (D9 p2)) (Au (Ad7 (D9 p2)) (C0 (Am7 (D9 p2) (D9 ((E1 r c ([]++l)).2.2.1))) rfl rfl))) rfl))) rfl) (C0 (Li (decide (0≤p6)) (decide (p6<(List.length (Ij r c ([]++l)):Int)))) (C0 (C3 (isC (.s .u64) (List.getD (List.getD (Ij r c ([]++l)) (Int.toNat p6) []) 0 .undef))) (C0 (Li (decide (0≤p6)) (decide (p6<(List.length (Ij r c ([]++l)):Int)))) (C0 (C3 (isC (.i .u64) (List.getD (List.getD (Ij r c ([]++l)) (Int.toNat p6) []) 1 .undef))) (C0 (C3 (((Bh ((Kg r).1) ((Kg r).2.1) p2&&Lf ((Kg r).1) ((Kg r).2.1) p6 0 (Pq (List.getD (List.getD (Ij r c ([]++l)) (Int.toNat p6) []) 0 .undef)))&&(Ah p2&&Ah (Pq (List.getD (List.getD (Ij r c ([]++l)) (Int.toNat p6) []) 0 .undef))))&&Ai (Adt (List.getD (List.getD (Ij r c ([]++l)) (Int.toNat p6) []) 1 .undef)))) rfl rfl) rfl) rfl) rfl) rfl))
theorem qr.Cv.ev (N:Nat) (r c:Int) (l:List Int):By qr.Cv.E N Tryz.f166 (Am Tryz.f166) [.agg [.int .i64 r,.int .i64 c,.ints .arg .u64 l]]=bif (Ah l) then bif ((B5 r c l) !=(0:Int)) then some (.tup [.agg [.int .i64 0,.int .i64 0,.nil],.agg [.int .i64 0,.int .i64 0,.nil],.int .i64 (B5 r c l)]) else bif (decide (0+(List.length l)≤Gq)) then bif ((Bh r c ([]++l)&&D9 ([]++l))&&Ah ([]++l)) then bif (((E1 r c ([]++l)).2.2.2) !=(0:Int)) then some (.tup [.agg [.int .i64 0,.int .i64 0,.nil],.agg [.int .i64 0,.int .i64 0,.nil],.int .i64 ((E1 r c ([]++l)).2.2.2)]) else qr.Cv.L0 N N r c l (Ab ((List.length (Ij r c ([]++l)):Int)-1)) ((Kg r).2.2.1) else none else none else none :=
  Eq.trans (by kernel_rfl)
  (E3 (E3 rfl (C0 (C3 (decide (0+(List.length l)≤Gq))) (C0 (C3 ((Bh r c ([]++l)&&D9 ([]++l))&&Ah ([]++l))) rfl rfl) rfl)) rfl)
abbrev _root_.Go.Proofs.S1.qr.Cv.Kn:=A7 Tryz.prog 166 qr.Cv.spec
theorem qr.Cv.Ad (hk:Ax Tryz.prog qr.Cv.Ba) (h:∀ (r c:Int) (l:List Int),qr.Cv.pre [.i r,.i c,.l l]=true→Bd qr.Cv.E Tryz.f166 [.agg [.int .i64 r,.int .i64 c,.ints .arg .u64 l]] (qr.Cv.out [.i r,.i c,.l l])):qr.Cv.Kn :=
  Al (Alo hk _ _ _ _) Tryz.func166 (by kernel_rfl) (by kernel_rfl) h
end EqQr
open EqQr
def clS (R C:Nat) (l:List Int) (j:Nat) (x:Int) (i:Nat):List Int:=Ci R C fun a b=>if b=j∧j≤a∧a<i then (if a=j then x else 0) else Ef (C:Int) l (a:Int) (b:Int)
section
variable {R C j:Nat} {l:List Int} {x:Int}
theorem Alw (i:Nat):(clS R C l j x i).length=R*C:=Bw _ _ _
theorem Wx (hl:l.length=R*C) (hj:j<C):List.set l (j*C+j) x=clS R C l j x (j+1):=by
  unfold clS
  conv=>lhs; rw [← Wq hl]
  rw [Qv hj]
  refine Dh fun a b ha hb=>?_
  by_cases h:a=j∧b=j
  · rw [if_pos h,if_pos (by omega),if_pos h.1]
  · rw [if_neg h,if_neg (by omega)]
theorem Alv {i:Nat} (hj:j<C) (hi:j<i):List.set (clS R C l j x i) (i*C+j) 0=clS R C l j x (i+1):=by
  unfold clS
  rw [Qv hj]
  refine Dh fun a b ha hb=>?_
  by_cases h:a=i∧b=j
  · rw [if_pos h,if_pos (by omega),if_neg (by omega)]
  · rw [if_neg h]
    by_cases h2:b=j∧j≤a∧a<i
    · rw [if_pos h2,if_pos (show b=j∧j≤a∧a<i+1 by omega)]
    · rw [if_neg h2,if_neg (by omega)]
theorem Alx:clS R C l j x R=R3 R C l j x:=by
  unfold clS R3
  refine Dh fun a b ha hb=>?_
  by_cases h:b=j∧j≤a
  · rw [if_pos h,if_pos (by omega)]
  · rw [if_neg h,if_neg (by omega)]
end
theorem Uf {C i j:Nat} (hi:i≤6) (hC:C≤6) (hj:j≤6):Ab (Ab ((i:Int)*(C:Int))+(j:Int))=((i*C+j:Nat):Int):=by
  have h36:=Nat.mul_le_mul hi hC
  rw [An (x:=(i:Int)*(C:Int)) (by rw [← Ari]; omega) (by rw [← Ari]; omega),← Ari,An (by omega) (by omega)]
  omega
section
variable {R C:Nat}
theorem U8 (N M0:Nat) (l0:List Int) (r6:R≤6) (c6:C≤6) {j:Nat} (hj:j<C) (l:List Int) (x:Int) (v:List Int) (t:Int) (ms:List (List DV)) (hms:ms.length≤100):∀ (cnt i F:Nat),i+cnt=R→j<i→cnt<F →
    qr.down.L0 N M0 F (R:Int) (C:Int) l0 (i:Int) (clS R C l j x i) (j:Int) v t ms=qr.down.L1 N M0 (R:Int) (C:Int) l0 ((j+1:Nat):Int) (ms++[[.ints .arg .u64 v,.int .u64 t]]) (R3 R C l j x):=by
  intro cnt
  induction cnt with
  | zero =>
    intro i F hi hji hF
    obtain ⟨F,rfl⟩:∃ G,F=G+1:=⟨F-1,by omega⟩
    obtain rfl:i=R:=by omega
    rw [qr.down.At,Aq,Aq1 (by omega),Aq0,Aqx (by unfold Ah3; omega),Aqw,An (by omega) (by omega),Alx]
    rfl
  | succ cnt ih =>
    intro i F hi hji hF
    obtain ⟨F,rfl⟩:∃ G,F=G+1:=⟨F-1,by omega⟩
    have hlen:=Alw (R:=R) (C:=C) (l:=l) (j:=j) (x:=x) i
    have hp:=J2 (show i<R by omega) hj
    rw [qr.down.At,Aq,Aqx (by omega),Aqw,Uf (by omega) c6 (by omega),Aqx (by omega),Aqx (by omega),Aq2,Aqw,Aqy,Aqx (by omega),Aqw,Alv hj hji,An (by omega) (by omega)]
    exact ih (i+1) F (by omega) (by omega) (by omega)
def O7 (r c:Nat) (ms:List (List DV)):Option (List Int × List (List Int × Int))→DV
  | none=>.tup [.agg [.int .i64 0,.int .i64 0,.nil],.nil,.int .i64 2]
  | some x=>.tup [.agg [.int .i64 (r:Int),.int .i64 (c:Int),.ints (.own 106002 tB) .u64 x.1],.recs (.own 100006 tMR) 2 (ms++Ug x.2),.int .i64 0]
theorem Afo (N:Nat) (hN:7<N) (l0:List Int) (r6:R≤6) (c6:C≤6):∀ (cnt j F:Nat) (l:List Int) (ms:List (List DV)),j+cnt=Ib R C→cnt<F→l.length=R*C→Ah l=true→ms.length=j →
    qr.down.L1 N F (R:Int) (C:Int) l0 (j:Int) ms l=some (O7 R C ms (Mz R C cnt j l)):=by
  intro cnt
  induction cnt with
  | zero =>
    intro j F l ms hj hF hl al hms
    obtain ⟨F,rfl⟩:∃ G,F=G+1:=⟨F-1,by omega⟩
    unfold Ib at hj
    have hlt:(A1 (j:Int) (C:Int)&&A1 (j:Int) (Ab ((R:Int)-1)))=false:=by
      rw [Aq,Aq,An (by omega) (by omega),Bool.and_eq_false_iff,Arf,Arf]; omega
    rw [qr.down.Cc,hlt,Aq0]
    simp [Mz,O7,Ug]
  | succ cnt ih =>
    intro j F l ms hj hF hl al hms
    obtain ⟨F,rfl⟩:∃ G,F=G+1:=⟨F-1,by omega⟩
    have hj0:=hj
    unfold Ib at hj
    have hr:=Qd r6 c6 hl
    have hlt:(A1 (j:Int) (C:Int)&&A1 (j:Int) (Ab ((R:Int)-1)))=true:=by
      rw [Aq,Aq,An (by omega) (by omega),Aqx (by omega),Aqx (by omega)]; rfl
    have cp:Ki (R:Int) (C:Int) l (j:Int)=true:=Af.2 ⟨hr,Ao.2 (by omega)⟩
    have ec:Dg (C:Int) l (j:Int) (j:Int) (Int.toNat ((R:Int)-(j:Int)))=Fx R C l j:=by unfold Fx; rw [show Int.toNat ((R:Int)-(j:Int))=R-j by omega]
    have ca:Ah (Fx R C l j)=true:=Rg al
    have cl:(Fx R C l j).length=R-j:=Ic _ _ _ _ _
    rw [qr.down.Cc,hlt,Aqw,cp,Ao.2 (show 0≤(j:Int)∧(j:Int)≤(R:Int) by omega),Aq2,Aqw,ec,K9 ca (by omega),Aqw]
    unfold Mz
    by_cases he:(B7 (Fx R C l j)).2.2.2=0
    · have hml:=Ui he
      have hma:=Tc ca
      have hap:Lf (R:Int) (C:Int) (j:Int) (j:Int) (B7 (Fx R C l j)).1=true:=Aqx (by omega)
      have hp:=J2 (show j<R by omega) (show j<C by omega)
      have hlen:=Le R C l (j:Int) (j:Int) (B7 (Fx R C l j)).1 (B7 (Fx R C l j)).2.1
      have hg:=U8 N F l0 r6 c6 (show j<C by omega) (Fu R C l (j:Int) (j:Int) (B7 (Fx R C l j)).1 (B7 (Fx R C l j)).2.1) (B7 (Fx R C l j)).2.2.1 (B7 (Fx R C l j)).1 (B7 (Fx R C l j)).2.1 ms (by omega) (R-(j+1)) (j+1) N (by omega) (by omega) (by omega)
      have hn:=ih (j+1) F (Vp R C l j) (ms++[[.ints .arg .u64 (B7 (Fx R C l j)).1,.int .u64 (B7 (Fx R C l j)).2.1]]) (by omega) (by omega) (Ni _ _ _ _) (X1 al j) (by rw [List.length_append,hms]; rfl)
      rw [Fo he,Aq0,hr,hap,al,hma.1,hma.2.1,Aq2,Aq2,Aq2,Aqw,Uf (by omega) c6 (by omega),Aqy,Aqy,Aqy,Aqx (by omega),Aqx (by omega),Aq2,Aqw,Aqx (by omega),Aqw,
        Wx hlen (by omega),An (by omega) (by omega),if_pos he]
      refine (hg.trans hn).trans ?_
      show some (O7 R C _ (Mz R C cnt (j+1) (Vp R C l j)))=some (O7 R C ms _)
      cases Mz R C cnt (j+1) (Vp R C l j) with
      | none=>rfl
      | some x=>simp [O7,Ug]
    · rw [Rq he,Aqw,if_neg he]; rfl
theorem Acn (N:Nat) (hN:7<N) {l:List Int} (r6:R≤6) (c6:C≤6) (hl:l.length=R*C) (al:Ah l=true) (h0:Ib R C≠0) :
    qr.down.L2 N N (R:Int) (C:Int) l=some (O7 R C [] (Ia R C l)):=by
  obtain ⟨cnt,hc⟩:∃ cnt,Ib R C=cnt+1:=⟨Ib R C-1,by omega⟩
  obtain ⟨F,rfl⟩:∃ G,N=G+1:=⟨N-1,by omega⟩
  have hj:=hc
  unfold Ib at hj
  have hr:=Qd r6 c6 hl
  have hlt:(A1 (0:Int) (C:Int)&&A1 (0:Int) (Ab ((R:Int)-1)))=true:=by
    rw [Aq,Aq,An (by omega) (by omega),Aqx (by omega),Aqx (by omega)]; rfl
  have cp:Ki (R:Int) (C:Int) l (0:Int)=true:=Af.2 ⟨hr,Ao.2 (by omega)⟩
  have ec:Dg (C:Int) l (0:Int) (0:Int) (Int.toNat ((R:Int)-(0:Int)))=Fx R C l 0:=by unfold Fx; rw [show Int.toNat ((R:Int)-(0:Int))=R-0 by omega]; rfl
  have ca:Ah (Fx R C l 0)=true:=Rg al
  have cl:(Fx R C l 0).length=R-0:=Ic _ _ _ _ _
  unfold Ia
  rw [hc,qr.down.Gz,hlt,Aqw,cp,Ao.2 (show 0≤(0:Int)∧(0:Int)≤(R:Int) by omega),Aq2,Aqw,ec,K9 ca (by omega),Aqw]
  unfold Mz
  by_cases he:(B7 (Fx R C l 0)).2.2.2=0
  · have hml:=Ui he
    have hma:=Tc ca
    have hap:Lf (R:Int) (C:Int) (0:Int) (0:Int) (B7 (Fx R C l 0)).1=true:=Aqx (by omega)
    have hp:=J2 (show 0<R by omega) (show 0<C by omega)
    have hlen:=Le R C l (0:Int) (0:Int) (B7 (Fx R C l 0)).1 (B7 (Fx R C l 0)).2.1
    have hg:=U8 (F+1) F l r6 c6 (show 0<C by omega) (Fu R C l (0:Int) (0:Int) (B7 (Fx R C l 0)).1 (B7 (Fx R C l 0)).2.1) (B7 (Fx R C l 0)).2.2.1 (B7 (Fx R C l 0)).1 (B7 (Fx R C l 0)).2.1 [] (Nat.zero_le _) (R-1) 1 (F+1) (by omega) (by omega) (by omega)
    have hn:=Afo (R:=R) (C:=C) (F+1) hN l r6 c6 cnt 1 F (Vp R C l 0) [[.ints .arg .u64 (B7 (Fx R C l 0)).1,.int .u64 (B7 (Fx R C l 0)).2.1]] (by omega) (by unfold Ib at hc; omega) (Ni _ _ _ _) (X1 al 0) rfl
    have mc:=Uf (i:=0) (C:=C) (j:=0) (by omega) c6 (by omega)
    have mc:Ab (Ab ((0:Int)*(C:Int))+(0:Int))=((0*C+0:Nat):Int):=mc
    rw [Fo he,Aq0,hr,hap,al,hma.1,hma.2.1,Aq2,Aq2,Aq2,Aqw,mc,Aqy,Aqy,Aqy,Aqx (by omega),Aqx (by omega),Aq2,Aqw,Aqx (by omega),Aqw,
      Wx hlen (by omega),if_pos he]
    refine (hg.trans hn).trans ?_
    show some (O7 R C _ (Mz R C cnt 1 (Vp R C l 0)))=some (O7 R C [] _)
    cases Mz R C cnt (0+1) (Vp R C l 0) with
    | none=>rfl
    | some x=>simp [O7,Ug]
  · rw [Rq he,Aqw,if_neg he]; rfl
end
theorem qr.down.known:qr.down.Kn:=qr.down.Ad (.cons Ak.Apply.known (.cons Ak.Iq.known (.cons Aa.Cz.known .nil))) fun r c l hp=>by
  obtain ⟨h1,al⟩:=Af.1 (show ((Bh r c l&&D9 l)&&Ah l)=true from hp)
  obtain ⟨hr,hf⟩:=Af.1 h1
  obtain ⟨R,C,rfl,rfl,r6,c6,hl⟩:=C1 hr
  by_cases h0:Ib R C=0
  · have hx:Ia R C l=some (l,[]):=by unfold Ia; rw [h0]; rfl
    refine ⟨8,.tup [.agg [.int .i64 (R:Int),.int .i64 (C:Int),.ints .arg .u64 l],.recs (.own 100006 tMR) 2 [],.int .i64 0],[100006],?_,?_⟩
    · unfold Ib at h0
      have hlt:(A1 (0:Int) (C:Int)&&A1 (0:Int) (Ab ((R:Int)-1)))=false:=by
        rw [Aq,Aq,An (by omega) (by omega),Bool.and_eq_false_iff,Arf,Arf]; omega
      rw [qr.down.ev,show (8:Nat)=7+1 from rfl,qr.down.Gz,hlt,Aq0]
    · show Wk _ _ (DV.tup [.agg [.int .i64 (E1 (R:Int) (C:Int) l).1,.int .i64 (E1 (R:Int) (C:Int) l).2.1,.ints .arg .u64 (E1 (R:Int) (C:Int) l).2.2.1],.recs .fresh 2 (Ij (R:Int) (C:Int) l),.int .i64 (E1 (R:Int) (C:Int) l).2.2.2])
      unfold E1 Ij Ns
      rw [Aqy,Aqy,hx]
      exact Wk.Gb (.cons (Wk.Ip (.cons .int (.cons .int (.cons .Ajh .nil)))) (.cons (.dropR _ _ _ _ (List.mem_singleton.2 rfl)) (.cons .int .nil)))
  · refine ⟨8,O7 R C [] (Ia R C l),[106002,100006],?_,?_⟩
    · rw [qr.down.ev]
      exact Acn 8 (by omega) r6 c6 hl al h0
    · show Wk _ _ (DV.tup [.agg [.int .i64 (E1 (R:Int) (C:Int) l).1,.int .i64 (E1 (R:Int) (C:Int) l).2.1,.ints .arg .u64 (E1 (R:Int) (C:Int) l).2.2.1],.recs .fresh 2 (Ij (R:Int) (C:Int) l),.int .i64 (E1 (R:Int) (C:Int) l).2.2.2])
      unfold E1 Ij Ns
      rw [Aqy,Aqy]
      cases Ia R C l with
      | none=>exact Wk.Gb (.cons (Wk.Ip (.cons .int (.cons .int (.cons Hs .nil)))) (.cons (.nilR _ _) (.cons .int .nil)))
      | some x=>exact Wk.Gb (.cons (Wk.Ip (.cons .int (.cons .int (.cons (.dropA _ _ _ _ List.mem_cons_self) .nil)))) (.cons (.dropR _ _ _ _ (List.mem_cons_of_mem _ List.mem_cons_self)) (.cons .int .nil)))
open EqQr
def Wh (e:Int):DV:=.tup [.agg [.int .i64 0,.int .i64 0,.nil],.agg [.int .i64 0,.int .i64 0,.nil],.int .i64 e]
theorem Wi {r:Nat}:∀ {j:Nat} {ms:List (List Int × Int)},Zz r j ms→∀ i:Nat,i<ms.length→Ah (ms.getD i ([],0)).1=true∧Ai (ms.getD i ([],0)).2=true∧(ms.getD i ([],0)).1.length+(j+i)=r
  | _,[],_,i,h=>absurd h (Nat.not_lt_zero _)
  | j,m::ms,hm,0,_=>hm.1
  | j,m::ms,hm,i+1,h=>by
    have:=Wi hm.2 i (by simpa using h)
    rw [show j+(i+1)=j+1+i by omega]
    exact this
theorem Ahq {ms:List (List Int × Int)} {i:Nat} (h:i<ms.length):List.getD (Ug ms) i []=[.ints .arg .u64 (ms.getD i ([],0)).1,.int .u64 (ms.getD i ([],0)).2]:=by
  unfold Ug
  rw [Aq6,List.getElem?_map,Ard h,Aq6,Ard h]; rfl
theorem Zy (ms:List (List Int × Int)):(Ug ms).length=ms.length:=by unfold Ug; rw [List.length_map]
theorem Afu {n i:Nat} {ms:List (List Int × Int)} (h:i<ms.length) (q:List Int):Jl n i (ms.drop i) q=Fu n n (Jl n (i+1) (ms.drop (i+1)) q) (i:Int) 0 (ms.getD i ([],0)).1 (ms.getD i ([],0)).2:=by
  rw [List.drop_eq_getElem_cons h,Jl,Aq6,Ard h]; rfl
theorem Ack {R:Nat} (h:R≤6):Kg (R:Int)=((R:Int),(R:Int),Nt R,0):=by
  unfold Kg Nt
  rw [if_pos (Akd h),Aqy]
theorem Ana {n:Nat} (h:n≤6):n*n≤36:=Nat.mul_le_mul h h
theorem Aao (N:Nat) {R C:Nat} {l:List Int} (r6:R≤6) {x:List Int × List (List Int × Int)} (hx:Ia R C l=some x) (hm:Zz R 0 x.2) (hxr:Ah x.1=true) (hxl:x.1.length≤36):∀ (j F:Nat),j≤x.2.length→j<F →
    qr.Cv.L0 N F (R:Int) (C:Int) l ((j:Int)-1) (Jl R j (x.2.drop j) (Nt R)) =
    bif O6 R C l then some (.tup [.agg [.int .i64 (R:Int),.int .i64 (R:Int),.ints .fresh .u64 (Rx R C l)],.agg [.int .i64 (R:Int),.int .i64 (C:Int),.ints .arg .u64 (Ns R C l)],.int .i64 0])
    else some (Wh 2):=by
  have hq:Rx R C l=Jl R 0 x.2 (Nt R):=by unfold Rx; rw [hx]
  have hr:Ns R C l=x.1:=by unfold Ns; rw [hx]
  have hd:E1 (R:Int) (C:Int) ([]++l)=((R:Int),(C:Int),x.1,0):=by
    unfold E1
    rw [List.nil_append,Aqy,Aqy,hx,hr]; rfl
  have hmd:Ij (R:Int) (C:Int) ([]++l)=Ug x.2:=by
    unfold Ij
    rw [List.nil_append,Aqy,Aqy,hx]
  have h36:=Ana r6
  intro j
  induction j with
  | zero =>
    intro F _ hF
    obtain ⟨F,rfl⟩:∃ G,F=G+1:=⟨F-1,by omega⟩
    have hb:=Th R x.2 0 (Nt R) (Yf R) (by unfold Nt; exact Bw _ _ _)
    have ok1:C4 (Jl R 0 x.2 (Nt R))=true:=K9 hb.1 (by omega)
    have ok2:C4 x.1=true:=K9 hxr (by omega)
    have hfo:O6 R C l=(D9 (Jl R 0 x.2 (Nt R))&&D9 x.1):=by unfold O6; rw [hx,hq,hr]; rfl
    rw [qr.Cv.At,Aq,Aqx (by omega),Aqw,List.drop_zero,ok1,Aqw,hd,Ack r6,ok2,Bool.or_true,Aqw,hfo,hq,hr]
    cases D9 (Jl R 0 x.2 (Nt R)) with
    | false=>rfl
    | true=>cases D9 x.1<;>rfl
  | succ j ih =>
    intro F hj hF
    obtain ⟨F,rfl⟩:∃ G,F=G+1:=⟨F-1,by omega⟩
    have ej:(((j+1:Nat):Int))-1=(j:Int):=by omega
    have hg:=Wi hm j (by omega)
    have hb:=Th R (x.2.drop (j+1)) (j+1) (Nt R) (Yf R) (by unfold Nt; exact Bw _ _ _)
    have hr1:=Qd r6 r6 hb.2
    have hap:Lf (R:Int) (R:Int) (j:Int) 0 (x.2.getD j ([],0)).1=true:=Aqx (by omega)
    have hmg:=Ahq (ms:=x.2) (i:=j) (by omega)
    rw [qr.Cv.At,ej,Aq,Aq1 (show ¬ (j:Int)<0 by omega),Aq0,hmd,Zy,Aqx (show (0:Int)≤(j:Int) by omega),Aqx (show (j:Int)<(x.2.length:Int) by omega),Aq2,Aqw,Aqy,hmg,Ack r6]
    show (bif true then bif true then bif true then (bif (((Bh (R:Int) (R:Int) (Jl R (j+1) (x.2.drop (j+1)) (Nt R))&&Lf (R:Int) (R:Int) (j:Int) (0:Int) (x.2.getD j ([],0)).1)&&(Ah (Jl R (j+1) (x.2.drop (j+1)) (Nt R))&&Ah (x.2.getD j ([],0)).1))&&Ai (x.2.getD j ([],0)).2) then
      qr.Cv.L0 N F (R:Int) (C:Int) l (Ab ((j:Int)-(1:Int))) (Fu (Int.toNat (R:Int)) (Int.toNat (R:Int)) (Jl R (j+1) (x.2.drop (j+1)) (Nt R)) (j:Int) (0:Int) (x.2.getD j ([],0)).1 (x.2.getD j ([],0)).2) else none) else none else none else none)=_
    rw [Aqw,Aqw,Aqw,hr1,hap,hb.1,hg.1,hg.2.1,Aq2,Aq2,Aq2,Aqw,Aqy,An (by omega) (by omega),← Afu (by omega)]
    exact ih F (by omega) (by omega)
theorem Ai0 {R C:Nat} {l:List Int} (hl:l.length=R*C) (al:Ah l=true) {x:List Int × List (List Int × Int)} (hx:Ia R C l=some x):Ah x.1=true∧x.1.length=R*C∧x.2.length=Ib R C∧Zz R 0 x.2 :=
  U9 R C (Ib R C) 0 l x al hl (by unfold Ib; omega) hx
theorem Te {r c:Int} {l:List Int} (h:B5 r c l=0):Gl r c l=if O6 r.toNat c.toNat l=true then 0 else 2:=by
  unfold Gl; rw [if_neg (by rw [h]; decide)]
theorem Aaq {r c:Int} {l:List Int} (h:B5 r c l≠0):Gl r c l=B5 r c l:=by unfold Gl; rw [if_pos h]
theorem T5 {r c:Int} {l:List Int} {e:Int} (h:Gl r c l=e) (he:e≠0):qX r c l=Gd e∧rX r c l=Gd e:=by unfold qX rX; rw [h,if_pos he,if_pos he]; exact ⟨rfl,rfl⟩
theorem S5 {r c:Int} {l:List Int} (h:Gl r c l=0):qX r c l=(r,r,Rx r.toNat c.toNat l,0)∧rX r c l=(r,c,Ns r.toNat c.toNat l,0):=by unfold qX rX; rw [h]; exact ⟨rfl,rfl⟩
theorem W8 {drops:List Nat} {e:Int} {g h:Aa5}:Wk drops (Wh e) (DV.tup [.agg [.int .i64 (Gd e).1,.int .i64 (Gd e).2.1,.ints g .u64 (Gd e).2.2.1],.agg [.int .i64 (Gd e).1,.int .i64 (Gd e).2.1,.ints h .u64 (Gd e).2.2.1],.int .i64 e]) :=
  Wk.Gb (.cons (Wk.Ip (.cons .int (.cons .int (.cons Hs .nil)))) (.cons (Wk.Ip (.cons .int (.cons .int (.cons Hs .nil)))) (.cons .int .nil)))
theorem qr.Cv.known:qr.Cv.Kn:=qr.Cv.Ad (.cons B4.Check.known (.cons Ak.Apply.known (.cons Aa.Gm.known (.cons qr.down.known (.cons Ae.Finite.known .nil))))) fun r c l hp=>by
  have al:Ah l=true:=hp
  show ∃ N dv drops,_=some dv∧Wk drops dv (DV.tup [.agg [.int .i64 (qX r c l).1,.int .i64 (qX r c l).2.1,.ints .arg .u64 (qX r c l).2.2.1],.agg [.int .i64 (rX r c l).1,.int .i64 (rX r c l).2.1,.ints .arg .u64 (rX r c l).2.2.1],.int .i64 (Gl r c l)])
  by_cases h1:B5 r c l=0
  · obtain ⟨hr,hf⟩:=Gs h1
    have h36:=Rj hr
    obtain ⟨R,C,rfl,rfl,r6,c6,hl⟩:=C1 hr
    have d0:decide (0+l.length≤Gq)=true:=Aqx (by unfold Gq; omega)
    cases hx:Ia R C l with
    | none =>
      have hfo:O6 R C l=false:=by unfold O6; rw [hx]; rfl
      have he:Gl (R:Int) (C:Int) l=2:=by rw [Te h1,Aqy,Aqy,hfo]; rfl
      obtain ⟨e1,e2⟩:=T5 he (by decide)
      have hd:E1 (R:Int) (C:Int) ([]++l)=Gd 2:=by
        unfold E1
        rw [List.nil_append,Aqy,Aqy,hx]; rfl
      rw [e1,e2,he]
      exact ⟨0,Wh 2,[],by rw [qr.Cv.ev,al,Aqw,Fo h1,Aq0,d0,Aqw,hd,List.nil_append,hr,hf,al,Aq2,Aq2,Aqw,show ((Gd 2).2.2.2 !=(0:Int))=true from rfl,Aqw]; rfl,W8⟩
    | some x =>
      obtain ⟨x1,x2,x3,x4⟩:=Ai0 hl al hx
      have hd:E1 (R:Int) (C:Int) ([]++l)=((R:Int),(C:Int),x.1,0):=by
        unfold E1 Ns
        rw [List.nil_append,Aqy,Aqy,hx]; rfl
      have hmd:Ij (R:Int) (C:Int) ([]++l)=Ug x.2:=by
        unfold Ij
        rw [List.nil_append,Aqy,Aqy,hx]
      have hn:x.2.length≤6:=by rw [x3]; unfold Ib; omega
      have hloop:=Aao 8 r6 hx x4 x1 (by rw [x2]; exact Nat.mul_le_mul r6 c6) x.2.length 8 (Nat.le_refl _) (by omega)
      rw [Ara (Nat.le_refl _)] at hloop
      have hrun:=qr.Cv.ev 8 (R:Int) (C:Int) l
      rw [al,Aqw,Fo h1,Aq0,d0,Aqw,hd,hmd,Zy,List.nil_append,hr,hf,al,Aq2,Aq2,Aqw,show (((R:Int),(C:Int),x.1,(0:Int)).2.2.2 !=(0:Int))=false from rfl,Aq0,Ack r6,An (by omega) (by omega)] at hrun
      have hrun:=hrun.trans hloop
      cases hfo:O6 R C l with
      | false =>
        have he:Gl (R:Int) (C:Int) l=2:=by rw [Te h1,Aqy,Aqy,hfo]; rfl
        obtain ⟨e1,e2⟩:=T5 he (by decide)
        rw [hfo,Aq0] at hrun
        rw [e1,e2,he]
        exact ⟨8,Wh 2,[],hrun,W8⟩
      | true =>
        have he:Gl (R:Int) (C:Int) l=0:=by rw [Te h1,Aqy,Aqy,hfo]; rfl
        obtain ⟨e1,e2⟩:=S5 he
        rw [hfo,Aqw] at hrun
        rw [e1,e2,he,Aqy,Aqy]
        exact ⟨8,_,[],hrun,Wk.Gb (.cons (Wk.Ip (.cons .int (.cons .int (.cons (.fresh _ _) .nil)))) (.cons (Wk.Ip (.cons .int (.cons .int (.cons .Ajh .nil)))) (.cons .int .nil)))⟩
  · have he:=Aaq h1
    obtain ⟨e1,e2⟩:=T5 he h1
    rw [e1,e2,he]
    exact ⟨0,Wh (B5 r c l),[],by rw [qr.Cv.ev,al,Aqw,Rq h1,Aqw]; rfl,W8⟩
theorem Acs {r c:Int} {l:List Int} (h:Gl r c l=0):B5 r c l=0:=by
  by_cases h1:B5 r c l=0
  · exact h1
  · rw [Aaq h1] at h; exact absurd h h1
theorem Aap {r c:Int} {l:List Int} (al:Ah l=true) (h:Gl r c l=0):∃ R C:Nat,r=R∧c=C∧R≤6∧C≤6∧l.length=R*C∧Ah (Rx R C l)=true∧(Rx R C l).length=R*R∧Ah (Ns R C l)=true∧(Ns R C l).length=R*C∧D9 (Rx R C l)=true∧D9 (Ns R C l)=true:=by
  have h1:=Acs h
  rw [Te h1] at h
  obtain ⟨R,C,rfl,rfl,r6,c6,hl⟩:=C1 (Gs h1).1
  rw [Aqy,Aqy] at h
  by_cases ho:O6 R C l=true
  · unfold O6 at ho
    obtain ⟨o1,o2⟩:=Af.1 ho
    obtain ⟨o3,o4⟩:=Af.1 o2
    obtain ⟨q1,q2⟩:=Alj o1
    obtain ⟨g1,g2⟩:=Ali al hl o1
    exact ⟨R,C,rfl,rfl,r6,c6,hl,q1,q2,g1,g2,o3,o4⟩
  · rw [if_neg ho] at h; exact absurd h (by decide)
theorem An6 {r c:Int} {l:List Int} (al:Ah l=true) (h:Gl r c l=0):Ah (Rx r.toNat c.toNat l)=true∧Ah (Ns r.toNat c.toNat l)=true:=by
  obtain ⟨R,C,rfl,rfl,_,_,_,q1,_,g1,_,_,_⟩:=Aap al h
  rw [Aqy,Aqy]
  exact ⟨q1,g1⟩
namespace EqRef17
end EqRef17
open EqRef17
section
variable {n Q:Nat} {l m:List Int}
end
namespace EqRef14
end EqRef14
open EqRef13 EqRef14
open EqRef13 EqRef14
section
variable {R C i k:Nat} {l v:List Int} {t:Int}
end
namespace EqLow
def Cm.Cl.down.Ba:List (Nat × Entry):=[]
def Cm.Cl.down.E:Env:=Bc (A9 Cm.Cl.down.Ba) (fun _=>false) (fun _=>none) (fun _=>none)
theorem Cm.Cl.down.ev (N:Nat) (n k:Int):By Cm.Cl.down.E N Tryz.f77 (Am Tryz.f77) [.int .i64 n,.int .i64 k]=some (.int .i64 k):=by kernel_rfl
abbrev _root_.Go.Proofs.S1.Cm.Cl.down.Kn:=A7 Tryz.prog 77 Cm.Cl.down.spec
theorem Cm.Cl.down.Ad (hk:Ax Tryz.prog Cm.Cl.down.Ba) (h:∀ (n k:Int),Cm.Cl.down.pre [.i n,.i k]=true→Bd Cm.Cl.down.E Tryz.f77 [.int .i64 n,.int .i64 k] (Cm.Cl.down.out [.i n,.i k])):Cm.Cl.down.Kn :=
  Al (A0 hk _ _ _) Tryz.func77 (by kernel_rfl) (by kernel_rfl) h
def solve.Dt.Ba:List (Nat × Entry):=[]
def solve.Dt.E:Env:=Bc (A9 solve.Dt.Ba) (fun _=>false) (fun _=>none) (fun _=>none)
theorem solve.Dt.ev (N:Nat) (i k:Int):By solve.Dt.E N Tryz.f78 (Am Tryz.f78) [.int .i64 i,.int .i64 k]=some (.bool (A1 k i)):=by kernel_rfl
abbrev _root_.Go.Proofs.S1.solve.Dt.Kn:=A7 Tryz.prog 78 solve.Dt.spec
theorem solve.Dt.Ad (hk:Ax Tryz.prog solve.Dt.Ba) (h:∀ (i k:Int),solve.Dt.pre [.i i,.i k]=true→Bd solve.Dt.E Tryz.f78 [.int .i64 i,.int .i64 k] (solve.Dt.out [.i i,.i k])):solve.Dt.Kn :=
  Al (A0 hk _ _ _) Tryz.func78 (by kernel_rfl) (by kernel_rfl) h
def solve.Ap.Lo.hint:Nat→Option A6
  | 0=>some { keep:=[2,3,4,5,8,10,11,28,29],objs:=[(12,2,112002,.ints 37 .u64 [])],boxes:=[4,5,8,11] }
  | 2=>some { keep:=[2,3,4,5,8,10,11,13,28,29,32,33],objs:=[(12,2,112002,.ints 37 .u64 [])],boxes:=[4,5,8,11] }
  | 4=>some { keep:=[2,3,4,5,8,10,11,13,15,16,28,29,32,33,49,50],objs:=[(12,2,112002,.ints 37 .u64 [])],boxes:=[4,5,8,11] }
  | _=>none
def solve.Ap.Lo.Ba:List (Nat × Entry):=[(77,Cm.Cl.down.spec),(151,Aa.B3.own.spec),(78,solve.Dt.spec),(158,Ae.Div.spec),(150,Ae.Finite.spec),(157,Ae.Mul.spec),(156,Ae.Sub.spec)]
def solve.Ap.Lo.E:Env:=Bc (A9 solve.Ap.Lo.Ba) (fun n=>Nat.beq n 24) solve.Ap.Lo.hint (fun _=>none)
def solve.Ap.Lo.L0 (N M:Nat) (r c:Int) (l:List Int) (p q:Int) (m:List Int) (n p29:Int) (p2_2:List Int):Option DV:=B2 solve.Ap.Lo.E N Tryz.f76 (Am Tryz.f76) [1,1,1,0,1,0] [] M ⟨Fw 108 [(2,.fn 77 [.int .i64 n] []),(3,.fn 78 [] []),(4,.ptr 4 0 0),(5,.ptr 5 0 0),(8,.ptr 8 0 0),(10,.int .i64 r),(11,.ptr 11 0 0),(28,.int .i64 q),(29,.int .i64 p29)],[(4,false,.box [.int .i64 r,.int .i64 c,.ints .arg .u64 l]),(5,false,.box [.int .i64 p,.int .i64 q,.ints .arg .u64 m]),(8,false,.box [.int .i64 0,.int .i64 0,.nil]),(11,false,.box [.int .i64 r,.int .i64 q,.oref 112002]),(112002,false,.ints 37 .u64 p2_2)]⟩
def solve.Ap.Lo.L1 (N M0 M:Nat) (r c:Int) (l:List Int) (p q:Int) (m:List Int) (n p33:Int) (p2:List Int) (p13 p29_1:Int):Option DV:=B2 solve.Ap.Lo.E N Tryz.f76 (Am Tryz.f76) [1,1,1,0,1,0,0,1,1,0,0,1,0,1,1,0] [M0] M ⟨Fw 108 [(2,.fn 77 [.int .i64 n] []),(3,.fn 78 [] []),(4,.ptr 4 0 0),(5,.ptr 5 0 0),(8,.ptr 8 0 0),(10,.int .i64 r),(11,.ptr 11 0 0),(13,.int .i64 p13),(28,.int .i64 q),(29,.int .i64 p29_1),(32,.int .i64 r),(33,.int .i64 p33)],[(4,false,.box [.int .i64 r,.int .i64 c,.ints .arg .u64 l]),(5,false,.box [.int .i64 p,.int .i64 q,.ints .arg .u64 m]),(8,false,.box [.int .i64 0,.int .i64 0,.nil]),(11,false,.box [.int .i64 r,.int .i64 q,.oref 112002]),(112002,false,.ints 37 .u64 p2)]⟩
def solve.Ap.Lo.L2 (N M0 M1 M:Nat) (r c:Int) (l:List Int) (p q:Int) (m:List Int) (n p16:Int) (p50 p13_1:Int) (p15 p29_2 p33_1:Int) (p2_1:List Int):Option DV:=B2 solve.Ap.Lo.E N Tryz.f76 (Am Tryz.f76) [1,1,1,0,1,0,0,1,1,0,0,1,0,1,1,0,0,1,1,0,0,1,1,1,0,1,0] [M0,M1] M ⟨Fw 108 [(2,.fn 77 [.int .i64 n] []),(3,.fn 78 [] []),(4,.ptr 4 0 0),(5,.ptr 5 0 0),(8,.ptr 8 0 0),(10,.int .i64 r),(11,.ptr 11 0 0),(13,.int .i64 p13_1),(15,.int .i64 p15),(16,.int .u64 p16),(28,.int .i64 q),(29,.int .i64 p29_2),(32,.int .i64 r),(33,.int .i64 p33_1),(49,.int .i64 r),(50,.int .i64 p50)],[(4,false,.box [.int .i64 r,.int .i64 c,.ints .arg .u64 l]),(5,false,.box [.int .i64 p,.int .i64 q,.ints .arg .u64 m]),(8,false,.box [.int .i64 0,.int .i64 0,.nil]),(11,false,.box [.int .i64 r,.int .i64 q,.oref 112002]),(112002,false,.ints 37 .u64 p2_1)]⟩
theorem solve.Ap.Lo.At (N M:Nat) (r c:Int) (l:List Int) (p q:Int) (m:List Int) (n p29:Int) (p2_2:List Int):solve.Ap.Lo.L0 N (M+1) r c l p q m n p29 p2_2=bif (A1 p29 q) then solve.Ap.Lo.L1 N M N r c l p q m n 0 p2_2 p29 p29 else bif (C4 p2_2) then bif (!(D9 p2_2)) then some (.tup [.agg [.int .i64 0,.int .i64 0,.nil],.int .i64 2]) else some (.tup [.agg [.int .i64 r,.int .i64 q,.ints (.own 112002 37) .u64 p2_2],.int .i64 0]) else none:=by kernel_rfl
theorem solve.Ap.Lo.Cc (N M0 M:Nat) (r c:Int) (l:List Int) (p q:Int) (m:List Int) (n p33:Int) (p2:List Int) (p13 p29_1:Int):solve.Ap.Lo.L1 N M0 (M+1) r c l p q m n p33 p2 p13 p29_1=bif (A1 p33 r) then bif ((decide (0≤(Ab ((Ab (p33*q))+p13))))&&(decide ((Ab ((Ab (p33*q))+p13))<(List.length m:Int)))) then solve.Ap.Lo.L2 N M0 M N r c l p q m n (List.getD m (Int.toNat (Ab ((Ab (p33*q))+p13))) 0) 0 p13 p33 p29_1 p33 p2 else none else solve.Ap.Lo.L0 N M0 r c l p q m n (Ab (p29_1+1)) p2:=by kernel_rfl
theorem solve.Ap.Lo.Gz (N M0 M1 M:Nat) (r c:Int) (l:List Int) (p q:Int) (m:List Int) (n p16:Int) (p50 p13_1:Int) (p15 p29_2 p33_1:Int) (p2_1:List Int):solve.Ap.Lo.L2 N M0 M1 (M+1) r c l p q m n p16 p50 p13_1 p15 p29_2 p33_1 p2_1=bif (A1 p50 r) then bif (decide (p50<p15)) then bif ((decide (0≤(Ab ((Ab (p15*r))+p50))))&&(decide ((Ab ((Ab (p15*r))+p50))<(List.length l:Int)))) then bif ((decide (0≤(Ab ((Ab (p50*q))+p13_1))))&&(decide ((Ab ((Ab (p50*q))+p13_1))<(List.length p2_1:Int)))) then bif (decide ((Int.toNat (Ab ((Ab (p50*q))+p13_1)))<(List.length p2_1))) then bif (Ai (List.getD l (Int.toNat (Ab ((Ab (p15*r))+p50))) 0)&&Ai (List.getD p2_1 (Int.toNat (Ab ((Ab (p50*q))+p13_1))) 0)) then bif (Ai p16&&Ai (Ej (List.getD l (Int.toNat (Ab ((Ab (p15*r))+p50))) 0) (List.getD p2_1 (Int.toNat (Ab ((Ab (p50*q))+p13_1))) 0))) then solve.Ap.Lo.L2 N M0 M1 M r c l p q m n (Dl p16 (Ej (List.getD l (Int.toNat (Ab ((Ab (p15*r))+p50))) 0) (List.getD p2_1 (Int.toNat (Ab ((Ab (p50*q))+p13_1))) 0))) (Ab (p50+1)) p13_1 p15 p29_2 p33_1 p2_1 else none else none else none else none else none else solve.Ap.Lo.L2 N M0 M1 M r c l p q m n p16 (Ab (p50+1)) p13_1 p15 p29_2 p33_1 p2_1 else bif ((decide (0≤(Ab ((Ab (p15*r))+p15))))&&(decide ((Ab ((Ab (p15*r))+p15))<(List.length l:Int)))) then bif (Ai p16&&Ai (List.getD l (Int.toNat (Ab ((Ab (p15*r))+p15))) 0)) then bif ((decide (0≤(Ab ((Ab (p15*q))+p13_1))))&&(decide ((Ab ((Ab (p15*q))+p13_1))<(List.length p2_1:Int)))) then bif (decide ((Int.toNat (Ab ((Ab (p15*q))+p13_1)))<(List.length p2_1))) then solve.Ap.Lo.L1 N M0 M1 r c l p q m n (Ab (p33_1+1)) (List.set p2_1 (Int.toNat (Ab ((Ab (p15*q))+p13_1))) (E7 p16 (List.getD l (Int.toNat (Ab ((Ab (p15*r))+p15))) 0))) p13_1 p29_2 else none else none else none else none :=
  Eq.trans (by kernel_rfl)
  (E3 (E3 (C0 (Li (decide (0≤(Ab ((Ab (p15*r))+p50)))) (decide ((Ab ((Ab (p15*r))+p50))<(List.length l:Int)))) (C0 (Li (decide (0≤(Ab ((Ab (p50*q))+p13_1)))) (decide ((Ab ((Ab (p50*q))+p13_1))<(List.length p2_1:Int)))) (C0 (C3 (decide ((Int.toNat (Ab ((Ab (p50*q))+p13_1)))<(List.length p2_1)))) (C0 (C3 (Ai (List.getD l (Int.toNat (Ab ((Ab (p15*r))+p50))) 0)&&Ai (List.getD p2_1 (Int.toNat (Ab ((Ab (p50*q))+p13_1))) 0))) (C0 (C3 (Ai p16&&Ai (Ej (List.getD l (Int.toNat (Ab ((Ab (p15*r))+p50))) 0) (List.getD p2_1 (Int.toNat (Ab ((Ab (p50*q))+p13_1))) 0)))) rfl rfl) rfl) rfl) rfl) rfl) rfl) (C0 (Li (decide (0≤(Ab ((Ab (p15*r))+p15)))) (decide ((Ab ((Ab (p15*r))+p15))<(List.length l:Int)))) (C0 (C3 (Ai p16&&Ai (List.getD l (Int.toNat (Ab ((Ab (p15*r))+p15))) 0))) (C0 (Li (decide (0≤(Ab ((Ab (p15*q))+p13_1)))) (decide ((Ab ((Ab (p15*q))+p13_1))<(List.length p2_1:Int)))) (C0 (C3 (decide ((Int.toNat (Ab ((Ab (p15*q))+p13_1)))<(List.length p2_1)))) rfl rfl) rfl) rfl) rfl))
theorem solve.Ap.Lo.ev (N:Nat) (r c:Int) (l:List Int) (p q:Int) (m:List Int) (n:Int):By solve.Ap.Lo.E N Tryz.f76 (Am Tryz.f76) [.agg [.int .i64 r,.int .i64 c,.ints .arg .u64 l],.agg [.int .i64 p,.int .i64 q,.ints .arg .u64 m],.fn 77 [.int .i64 n] [],.fn 78 [] []]=bif (Bn r&&Bn q) then solve.Ap.Lo.L0 N N r c l p q m n 0 (Ci (Int.toNat r) (Int.toNat q) (fun _ _=>0)) else none:=by kernel_rfl
abbrev _root_.Go.Proofs.S1.solve.Ap.Lo.Kn:=A7 Tryz.prog 76 solve.Ap.Lo.spec
theorem solve.Ap.Lo.Ad (hk:Ax Tryz.prog solve.Ap.Lo.Ba) (h:∀ (r c:Int) (l:List Int) (p q:Int) (m:List Int) (n:Int),solve.Ap.Lo.pre [.i r,.i c,.l l,.i p,.i q,.l m,.i n]=true→Bd solve.Ap.Lo.E Tryz.f76 [.agg [.int .i64 r,.int .i64 c,.ints .arg .u64 l],.agg [.int .i64 p,.int .i64 q,.ints .arg .u64 m],.fn 77 [.int .i64 n] [],.fn 78 [] []] (solve.Ap.Lo.out [.i r,.i c,.l l,.i p,.i q,.l m,.i n])):solve.Ap.Lo.Kn :=
  Al (A0 hk _ _ _) Tryz.func76 (by kernel_rfl) (by kernel_rfl) h
def solve.Gj.Ba:List (Nat × Entry):=[(75,solve.check.spec),(76,solve.Ap.Lo.spec)]
def solve.Gj.E:Env:=Bc (A9 solve.Gj.Ba) (fun _=>false) (fun _=>none) (fun _=>none)
theorem solve.Gj.ev (N:Nat) (r c:Int) (l:List Int) (p q:Int) (m:List Int):By solve.Gj.E N Tryz.f22 (Am Tryz.f22) [.agg [.int .i64 r,.int .i64 c,.ints .arg .u64 l],.agg [.int .i64 p,.int .i64 q,.ints .arg .u64 m]]=bif (Ah l&&Ah m) then bif ((M4 r c l p q m) !=(0:Int)) then some (.tup [.agg [.int .i64 0,.int .i64 0,.nil],.int .i64 (M4 r c l p q m)]) else bif (M9 r c l p q m&&decide (r=r)) then some (.tup [.agg [.int .i64 ((Il r q (loG c l q m (Int.toNat r) (Int.toNat q))).1),.int .i64 ((Il r q (loG c l q m (Int.toNat r) (Int.toNat q))).2.1),.ints .fresh .u64 ((Il r q (loG c l q m (Int.toNat r) (Int.toNat q))).2.2.1)],.int .i64 ((Il r q (loG c l q m (Int.toNat r) (Int.toNat q))).2.2.2)]) else none else none:=by kernel_rfl
abbrev _root_.Go.Proofs.S1.solve.Gj.Kn:=A7 Tryz.prog 22 solve.Gj.spec
theorem solve.Gj.Ad (hk:Ax Tryz.prog solve.Gj.Ba) (h:∀ (r c:Int) (l:List Int) (p q:Int) (m:List Int),solve.Gj.pre [.i r,.i c,.l l,.i p,.i q,.l m]=true→Bd solve.Gj.E Tryz.f22 [.agg [.int .i64 r,.int .i64 c,.ints .arg .u64 l],.agg [.int .i64 p,.int .i64 q,.ints .arg .u64 m]] (solve.Gj.out [.i r,.i c,.l l,.i p,.i q,.l m])):solve.Gj.Kn :=
  Al (A0 hk _ _ _) Tryz.func22 (by kernel_rfl) (by kernel_rfl) h
end EqLow
open EqLow
theorem solve.Dt.known:solve.Dt.Kn:=solve.Dt.Ad .nil fun i k _=>by
  refine ⟨0,solve.Dt.out [.i i,.i k],[],?_,.bool⟩
  rw [solve.Dt.ev,Aq]; rfl
theorem Abw.known:Cm.Cl.down.Kn:=Cm.Cl.down.Ad .nil fun n k _=>⟨0,Cm.Cl.down.out [.i n,.i k],[],by rw [Cm.Cl.down.ev]; rfl,.int⟩
section
variable {n Q:Nat} {l m:List Int}
def loF (n Q:Nat) (l m:List Int) (i j:Nat):Int:=(X6 (n:Int) l (fun i=>Ef (Q:Int) m (i:Int) (j:Int)) n).getD i 0
def loD (j k a b:Nat):Bool:=decide (b<j∨(b=j∧a<k))
def Td (n Q:Nat) (l m:List Int) (j k:Nat):List Int:=Ci n Q fun a b=>if loD j k a b=true then loF n Q l m a b else 0
theorem Ah2 (i j:Nat):Ai (loF n Q l m i j)=true:=Qw (Ab9 _ _ _ _) i
theorem Anw (j k:Nat):Ah (Td n Q l m j k)=true:=F5 fun a b=>by
  split
  · exact Ah2 _ _
  · exact Ir
theorem Ak5 {j k t:Nat} (ht:t<n) (hj:j<Q) (hk:t<k):Ef (Q:Int) (Td n Q l m j k) (t:Int) (j:Int)=loF n Q l m t j:=by
  unfold Td
  have hd:loD j k t j=true:=Aqx (.inr ⟨rfl,hk⟩)
  rw [Adr ht hj,hd,if_pos rfl]
theorem X5 (j k:Nat):(Td n Q l m j k).length=n*Q:=Bw _ _ _
theorem Ak4 {i j:Nat} (hj:j<Q) {x:Int} (hx:x=loF n Q l m i j):List.set (Td n Q l m j i) (Int.toNat ((i:Int)*(Q:Int)+(j:Int))) x=Td n Q l m j (i+1):=by
  refine Aav hj hx fun a b ha hb=>?_
  unfold loD
  rw [Aq3,Aq3]
  omega
theorem Ah0 (j:Nat):Td n Q l m j n=Td n Q l m (j+1) 0:=by
  unfold Td
  refine Dh fun a b ha hb=>?_
  have:loD j n a b=loD (j+1) 0 a b:=by
    unfold loD
    rw [decide_eq_decide]
    omega
  rw [this]
theorem Ahz:Td n Q l m 0 0=Ci n Q fun _ _=>0:=by
  unfold Td
  refine Dh fun a b ha hb=>?_
  have:loD 0 0 a b=false:=Aq1 (by omega)
  rw [this]; rfl
theorem Ak6:Td n Q l m Q 0=loG (n:Int) l (Q:Int) m n Q:=by
  unfold Td loG
  refine Dh fun a b ha hb=>?_
  have:loD Q 0 a b=true:=Aqx (.inl hb)
  rw [this]; rfl
def loR (n Q:Nat) (l m:List Int) (i j t:Nat) (s:Int):Int:=Mu (n:Int) l (i:Int) s (t:Int) (((X6 (n:Int) l (fun i=>Ef (Q:Int) m (i:Int) (j:Int)) n).take i).drop t)
theorem Adn {i j:Nat} (hi:i<n) (s:Int):loR n Q l m i j i s=s:=by
  unfold loR
  rw [Ara (by rw [List.length_take,Hf]; omega),Mu]
theorem Ah1 {i j t:Nat} (hi:i<n) (ht:t<i) (s:Int):loR n Q l m i j t s=loR n Q l m i j (t+1) (Dl s (Ej (Ef (n:Int) l (i:Int) (t:Int)) (loF n Q l m t j))):=by
  unfold loR loF
  rw [Wn (by rw [List.length_take,Hf]; omega),Aq6,List.getElem?_take_of_lt ht,← Aq6]
  rfl
theorem Ak7 {i j:Nat} (hi:i<n):E7 (loR n Q l m i j 0 (Ef (Q:Int) m (i:Int) (j:Int))) (Ef (n:Int) l (i:Int) (i:Int))=loF n Q l m i j:=by
  unfold loR loF
  rw [List.drop_zero,Ak8 hi]; rfl
theorem Ahx (N:Nat) (n6:n≤6) (q6:Q≤6) (hl:l.length=n*n) (al:Ah l=true) {i j:Nat} (hi:i<n) (hj:j<Q) (M0 M1:Nat) (p29 p33:Int) :
    ∀ (cnt t F:Nat) (s:Int),t+cnt=n→cnt<F→Ai s=true→(i<t→t≤n) →
    solve.Ap.Lo.L2 N M0 M1 F (n:Int) (n:Int) l (n:Int) (Q:Int) m (n:Int) s (t:Int) (j:Int) (i:Int) p29 p33 (Td n Q l m j i) =
    solve.Ap.Lo.L1 N M0 M1 (n:Int) (n:Int) l (n:Int) (Q:Int) m (n:Int) (Ab (p33+(1:Int))) (List.set (Td n Q l m j i) (Int.toNat ((i:Int)*(Q:Int)+(j:Int))) (E7 (if t<i then loR n Q l m i j t s else s) (Ef (n:Int) l (i:Int) (i:Int)))) (j:Int) p29:=by
  intro cnt
  induction cnt with
  | zero =>
    intro t F s ht hF hs _
    obtain ⟨F,rfl⟩:∃ G,F=G+1:=⟨F-1,by omega⟩
    obtain ⟨e1,g1,g2⟩:=Gy (R:=(n:Int)) (Fi n6 n6 hl hi hi)
    obtain ⟨e2,g3,g4⟩:=Gy (R:=(n:Int)) (Fi n6 q6 (X5 (l:=l) (m:=m) j i) hi hj)
    rw [if_neg (by omega)]
    rw [solve.Ap.Lo.Gz,Aq,Aq1 (show ¬ (t:Int)<(n:Int) by omega),Aq0,e1,Aqx g1,Aqx g2,Aq2,Aqw,hs,show Ai (List.getD l (Int.toNat ((i:Int)*(n:Int)+(i:Int))) 0)=true from Gt (c:=(n:Int)) al,Aq2,Aqw,
      e2,Aqx g3,Aqx g4,Aq2,Aqw,Aqx (show Int.toNat ((i:Int)*(Q:Int)+(j:Int))<(Td n Q l m j i).length by omega),Aqw]
    rfl
  | succ cnt ih =>
    intro t F s ht hF hs _
    obtain ⟨F,rfl⟩:∃ G,F=G+1:=⟨F-1,by omega⟩
    by_cases hti:t<i
    · obtain ⟨e1,g1,g2⟩:=Gy (R:=(n:Int)) (Fi n6 n6 hl hi (show t<n by omega))
      obtain ⟨e2,g3,g4⟩:=Gy (R:=(n:Int)) (Fi n6 q6 (X5 (l:=l) (m:=m) j i) (show t<n by omega) hj)
      have hx:List.getD (Td n Q l m j i) (Int.toNat ((t:Int)*(Q:Int)+(j:Int))) 0=loF n Q l m t j:=Ak5 (by omega) hj hti
      have:=ih (t+1) F (Dl s (Ej (Ef (n:Int) l (i:Int) (t:Int)) (loF n Q l m t j))) (by omega) (by omega) (L5 hs (La _ _)) (by omega)
      rw [if_pos hti,Ah1 hi hti]
      rw [solve.Ap.Lo.Gz,Aq,Aqx (show (t:Int)<(n:Int) by omega),Aqw,Aqx (show (t:Int)<(i:Int) by omega),Aqw,e1,Aqx g1,Aqx g2,Aq2,Aqw,
        e2,Aqx g3,Aqx g4,Aq2,Aqw,Aqx (show Int.toNat ((t:Int)*(Q:Int)+(j:Int))<(Td n Q l m j i).length by omega),Aqw,hx,
        show Ai (List.getD l (Int.toNat ((i:Int)*(n:Int)+(t:Int))) 0)=true from Gt (c:=(n:Int)) al,Ah2,Aq2,Aqw,hs,La,Aq2,Aqw,An (x:=(t:Int)+1) (by omega) (by omega)]
      have e:(if t+1<i then loR n Q l m i j (t+1) (Dl s (Ej (Ef (n:Int) l (i:Int) (t:Int)) (loF n Q l m t j))) else Dl s (Ej (Ef (n:Int) l (i:Int) (t:Int)) (loF n Q l m t j)))=loR n Q l m i j (t+1) (Dl s (Ej (Ef (n:Int) l (i:Int) (t:Int)) (loF n Q l m t j))):=by
        by_cases h2:t+1<i
        · rw [if_pos h2]
        · rw [if_neg h2,show t+1=i by omega,Adn hi]
      rw [e] at this
      exact this
    · have:=ih (t+1) F s (by omega) (by omega) hs (by omega)
      rw [if_neg hti,solve.Ap.Lo.Gz,Aq,Aqx (show (t:Int)<(n:Int) by omega),Aqw,Aq1 (show ¬ (t:Int)<(i:Int) by omega),Aq0,An (by omega) (by omega)]
      rw [if_neg (by omega)] at this
      exact this
theorem Ak2 (N:Nat) (n6:n≤6) (q6:Q≤6) (hN:7<N) (hl:l.length=n*n) (hm:m.length=n*Q) (al:Ah l=true) (am:Ah m=true) {j:Nat} (hj:j<Q) (M0:Nat):∀ (cnt k F:Nat),k+cnt=n→cnt<F →
    solve.Ap.Lo.L1 N M0 F (n:Int) (n:Int) l (n:Int) (Q:Int) m (n:Int) (k:Int) (Td n Q l m j k) (j:Int) (j:Int) =
    solve.Ap.Lo.L0 N M0 (n:Int) (n:Int) l (n:Int) (Q:Int) m (n:Int) ((j+1:Nat):Int) (Td n Q l m j n):=by
  intro cnt
  induction cnt with
  | zero =>
    intro k F hk hF
    obtain ⟨F,rfl⟩:∃ G,F=G+1:=⟨F-1,by omega⟩
    obtain rfl:k=n:=by omega
    rw [solve.Ap.Lo.Cc,Aq,Aq1 (by omega),Aq0,An (by omega) (by omega)]
    rfl
  | succ cnt ih =>
    intro k F hk hF
    obtain ⟨F,rfl⟩:∃ G,F=G+1:=⟨F-1,by omega⟩
    obtain ⟨e2,g3,g4⟩:=Gy (R:=(n:Int)) (Fi n6 q6 hm (show k<n by omega) hj)
    have hr:=Ahx (n:=n) (Q:=Q) (l:=l) (m:=m) N n6 q6 hl al (show k<n by omega) hj M0 F (j:Int) (k:Int) n 0 N (Ef (Q:Int) m (k:Int) (j:Int)) (by omega) (by omega) (Gt (c:=(Q:Int)) am) (by omega)
    have e:(if 0<k then loR n Q l m k j 0 (Ef (Q:Int) m (k:Int) (j:Int)) else Ef (Q:Int) m (k:Int) (j:Int))=loR n Q l m k j 0 (Ef (Q:Int) m (k:Int) (j:Int)):=by
      by_cases h:0<k
      · rw [if_pos h]
      · obtain rfl:k=0:=by omega
        rw [if_neg h,Adn (by omega)]
    rw [e,Ak4 hj (Ak7 (by omega)),An (by omega) (by omega)] at hr
    rw [solve.Ap.Lo.Cc,Aq,Aqx (show (k:Int)<(n:Int) by omega),Aqw,e2,Aqx g3,Aqx g4,Aq2,Aqw]
    exact hr.trans (ih (k+1) F (by omega) (by omega))
theorem Ak3 (N:Nat) (n6:n≤6) (q6:Q≤6) (hN:7<N) (hl:l.length=n*n) (hm:m.length=n*Q) (al:Ah l=true) (am:Ah m=true):∀ (cnt j F:Nat),j+cnt=Q→cnt<F →
    solve.Ap.Lo.L0 N F (n:Int) (n:Int) l (n:Int) (Q:Int) m (n:Int) (j:Int) (Td n Q l m j 0) =
    bif D9 (Td n Q l m Q 0) then some (.tup [.agg [.int .i64 (n:Int),.int .i64 (Q:Int),.ints (.own 112002 tB) .u64 (Td n Q l m Q 0)],.int .i64 (0:Int)]) else some (Aev 2):=by
  intro cnt
  induction cnt with
  | zero =>
    intro j F hj hF
    obtain ⟨F,rfl⟩:∃ G,F=G+1:=⟨F-1,by omega⟩
    obtain rfl:j=Q:=by omega
    have h36:=Nat.mul_le_mul n6 q6
    rw [solve.Ap.Lo.At,Aq,Aq1 (by omega),Aq0,K9 (Anw _ _) (by rw [X5]; omega),Aqw]
    cases D9 (Td n j l m j 0)<;>rfl
  | succ cnt ih =>
    intro j F hj hF
    obtain ⟨F,rfl⟩:∃ G,F=G+1:=⟨F-1,by omega⟩
    have hr:=Ak2 N n6 q6 hN hl hm al am (show j<Q by omega) F n 0 N (by omega) (by omega)
    rw [Ah0] at hr
    rw [solve.Ap.Lo.At,Aq,Aqx (show (j:Int)<(Q:Int) by omega),Aqw]
    exact hr.trans (ih (j+1) F (by omega) (by omega))
end
theorem solve.Ap.Lo.known:solve.Ap.Lo.Kn:=solve.Ap.Lo.Ad (.cons Abw.known (.cons Aa.B3.own.known (.cons solve.Dt.known (.cons Ae.Div.known (.cons Ae.Finite.known (.cons Ae.Mul.known (.cons Ae.Sub.known .nil))))))) fun r c l p q m n hp=>by
  show ∃ N dv drops,_=some dv∧Wk drops dv (Pg (Il r q (loG c l q m (Int.toNat r) (Int.toNat q))))
  obtain ⟨h1,hn⟩:=Af.1 (show (M9 r c l p q m&&decide (n=r))=true from hp)
  obtain ⟨h2,h3⟩:=Af.1 h1
  obtain ⟨hr,hm⟩:=Af.1 h2
  obtain ⟨h4,h5⟩:=Af.1 h3
  obtain ⟨al,am⟩:=Af.1 h4
  obtain ⟨rfl,rfl⟩:=Ao.1 h5
  obtain rfl:=of_decide_eq_true hn
  have s1:=(Fh hr).1
  have s2:=(Fh hm).2
  obtain ⟨R,C,rfl,hC,r6,c6,hl⟩:=C1 hr
  obtain ⟨P,Q,hP,rfl,p6,q6,hl2⟩:=C1 hm
  obtain rfl:R=C:=by omega
  obtain rfl:R=P:=by omega
  have h:=Ak3 (n:=R) (Q:=Q) (l:=l) (m:=m) 8 r6 q6 (by omega) hl hl2 al am Q 0 8 (by omega) (by omega)
  rw [Ahz,Ak6,show ((0:Nat):Int)=0 from rfl] at h
  rw [Aqy,Aqy]
  unfold Il
  cases hf:D9 (loG (R:Int) l (Q:Int) m R Q) with
  | true =>
    rw [hf,Aqw] at h
    rw [if_pos rfl]
    refine ⟨8,.tup [.agg [.int .i64 (R:Int),.int .i64 (Q:Int),.ints (.own 112002 tB) .u64 (loG (R:Int) l (Q:Int) m R Q)],.int .i64 0],[112002],?_,Wk.Gb (.cons (Aba (List.mem_singleton.2 rfl)) (.cons .int .nil))⟩
    rw [solve.Ap.Lo.ev,s1,s2,Aq2,Aqw,Aqy,Aqy]
    exact h
  | false =>
    rw [hf,Aq0] at h
    rw [if_neg (by decide)]
    refine ⟨8,Aev 2,[],?_,Kp⟩
    rw [solve.Ap.Lo.ev,s1,s2,Aq2,Aqw,Aqy,Aqy]
    exact h
theorem solve.Gj.known:solve.Gj.Kn:=solve.Gj.Ad (.cons solve.check.known (.cons solve.Ap.Lo.known .nil)) fun r c l p q m hp=>by
  have hp:(Ah l&&Ah m)=true:=hp
  show ∃ N dv drops,_=some dv∧Wk drops dv (Pg (Z8 r c l p q m))
  unfold Z8
  by_cases h:M4 r c l p q m=0
  · obtain ⟨h1,h2,h3,h4⟩:=Oi h
    have ht:M9 r c l p q m=true:=Af.2 ⟨Af.2 ⟨h1,h2⟩,Af.2 ⟨hp,Ao.2 ⟨h3,h4⟩⟩⟩
    rw [if_neg (by rw [h]; decide)]
    exact ⟨0,_,[],by rw [solve.Gj.ev,hp,Aqw,Fo h,Aq0,ht,Aqx rfl]; rfl,Ly⟩
  · rw [if_pos h]
    exact ⟨0,_,[],by rw [solve.Gj.ev,hp,Aqw,Rq h,Aqw]; rfl,Kp⟩
namespace EqLse
end EqLse
open EqLse
theorem T2 {r c:Int} {l:List Int} (h:Bh r c l=true):0≤r∧r≤6∧0≤c∧c≤6:=by
  obtain ⟨R,C,rfl,rfl,r6,c6,_⟩:=C1 h
  omega
theorem Alh {r c:Int} {l:List Int} {e:Int} (al:Ah l=true):Ah (Afl r c l e).2.2.1=true:=by
  unfold Afl
  split
  · exact El
  · split
    · exact El
    · exact al
theorem Ads {r c:Int} {l:List Int} (al:Ah l=true):Ah (Il r c l).2.2.1=true:=by
  unfold Il
  split
  · exact al
  · exact El
theorem Ahy (r c:Int) (l:List Int) (p q:Int) (m:List Int):Ah (Z8 r c l p q m).2.2.1=true:=by
  unfold Z8
  split
  · exact El
  · exact Ads (F5 fun i k=>Qw (Ab9 _ _ _ _) i)
theorem Amu (r c:Int) (l:List Int) (p q:Int) (m:List Int):Ah (Vy r c l p q m).2.2.1=true:=by
  unfold Vy
  split
  · exact El
  · exact Ads (F5 fun i k=>Qw (Abc _ _ _ _ _) i)
theorem Akc {r c:Int} {l:List Int} {p q:Int} {m:List Int} (al:Ah l=true) (am:Ah m=true):Ah (Ra r c l p q m).2.2.1=true:=by
  unfold Ra
  by_cases h:(Bh r c l&&Bh p q m)=true
  · rw [if_pos h]
    by_cases h2:r=p∧c=q
    · rw [if_pos h2]; exact (show Ah (Ci _ _ fun i k=>Dl (Ef c l i k) (Ef q m i k))=true from F5 fun _ _=>L5 (Ok al) (Ok am))
    · rw [if_neg h2]; exact El
  · rw [if_neg h]; exact El
theorem Zr {r c:Int} {l:List Int} (al:Ah l=true):Ah (qX r c l).2.2.1=true∧Ah (rX r c l).2.2.1=true:=by
  by_cases k:Gl r c l=0
  · rw [(S5 k).1,(S5 k).2]; exact An6 al k
  · rw [(T5 rfl k).1,(T5 rfl k).2]; exact ⟨El,El⟩
open EqMat EqOf
theorem Aa.Gg.known:Aa.Gg.Kn:=Aa.Gg.Ad (.cons Aa.get.known (.cons Ae.Sub.known .nil)) fun i k r c l p q m hp=>by
  obtain ⟨h1,am⟩:=Af.1 (show (((D1 r c l i k&&D1 p q m i k)&&Ah l)&&Ah m)=true from hp)
  obtain ⟨h2,al⟩:=Af.1 h1
  obtain ⟨h3,h4⟩:=Af.1 h2
  refine ⟨0,Aa.Gg.out [.i i,.i k,.i r,.i c,.l l,.i p,.i q,.l m],[],?_,.int⟩
  rw [Aa.Gg.ev,h3,h4,Gt al,Gt am]; rfl
theorem of.Sub.inner (N:Nat) (r c:Int) (l:List Int) (p q:Int) (m:List Int) {A B:Nat} (hA:A≤6) (hB:B≤6) {F:Nat→Nat→Int} (hF:∀ i j:Nat,F i j=Dl (Ef c l (i:Int) (j:Int)) (Ef q m (i:Int) (j:Int))) {i:Nat} (hi:i<A) (hp:∀ j:Nat,j<B→(((D1 r c l (i:Int) (j:Int)&&D1 p q m (i:Int) (j:Int))&&Ah l)&&Ah m)=true):∀ (k j M0 M:Nat),j+k=B→k<M →
    Aa.of.Sub.L1 N M0 M (A:Int) (B:Int) r c l p q m (i:Int) (i:Int) (j:Int) (Ci i B F++(List.range j).map (F i))=Aa.of.Sub.L0 N M0 (A:Int) (B:Int) r c l p q m ((i+1:Nat):Int) (Ci (i+1) B F):=by
  intro k
  induction k with
  | zero =>
    intro j M0 M hj hM
    obtain ⟨M,rfl⟩:∃ G,M=G+1:=⟨M-1,by omega⟩
    obtain rfl:j=B:=by omega
    rw [Aa.of.Sub.Cc,Aq,Aq1 (by omega),Aq0,An (by omega) (by omega),← J5]
    rfl
  | succ k ih =>
    intro j M0 M hj hM
    obtain ⟨M,rfl⟩:∃ G,M=G+1:=⟨M-1,by omega⟩
    have d:decide ((Ci i B F++(List.range j).map (F i)).length+1≤Gq)=true:=by
      refine Aqx ?_
      have:=Nat.mul_le_mul (show i≤6 by omega) hB
      rw [List.length_append,Bw,List.length_map,List.length_range]; unfold Gq; omega
    rw [Aa.of.Sub.Cc,Aq,Aqx (by omega),Aqw,hp j (by omega),Aqw,d,Aqw,An (by omega) (by omega),← hF i j]
    have:=ih (j+1) M0 M (by omega) (by omega)
    rw [Hy,← List.append_assoc] at this
    exact this
theorem of.Sub.outer (N:Nat) (r c:Int) (l:List Int) (p q:Int) (m:List Int) {A B:Nat} (hA:A≤6) (hB:B≤6) (hN:6<N) {F:Nat→Nat→Int} (hF:∀ i j:Nat,F i j=Dl (Ef c l (i:Int) (j:Int)) (Ef q m (i:Int) (j:Int))) (hp:∀ i j:Nat,i<A→j<B→(((D1 r c l (i:Int) (j:Int)&&D1 p q m (i:Int) (j:Int))&&Ah l)&&Ah m)=true):∀ (k i M:Nat),i+k=A→k<M →
    Aa.of.Sub.L0 N M (A:Int) (B:Int) r c l p q m (i:Int) (Ci i B F)=some (.agg [.int .i64 (A:Int),.int .i64 (B:Int),.ints (.own 108002 tB) .u64 (Ci A B F)]):=by
  intro k
  induction k with
  | zero =>
    intro i M hi hM
    obtain ⟨M,rfl⟩:∃ G,M=G+1:=⟨M-1,by omega⟩
    obtain rfl:i=A:=by omega
    rw [Aa.of.Sub.At,Aq,Aq1 (by omega),Aq0]
  | succ k ih =>
    intro i M hi hM
    obtain ⟨M,rfl⟩:∃ G,M=G+1:=⟨M-1,by omega⟩
    have n:=of.Sub.inner N r c l p q m hA hB hF (show i<A by omega) (fun j hj=>hp i j (by omega) hj) B 0 M N (by omega) (by omega)
    rw [List.range_zero,List.map_nil,List.append_nil] at n
    rw [Aa.of.Sub.At,Aq,Aqx (by omega),Aqw]
    exact n.trans (ih (i+1) M (by omega) (by omega))
theorem Aa.of.Sub.known:Aa.of.Sub.Kn:=Aa.of.Sub.Ad (.cons Aa.Gg.known .nil) fun a b r c l p q m hp=>by
  obtain ⟨h12,hy⟩:=Af.1 (show (((Bn a&&Bn b)&&((Bh r c l&&Bh p q m)&&(Ah l&&Ah m)))&&decide (a=r∧b=c∧p=r∧q=c))=true from hp)
  obtain ⟨h1,hx⟩:=Af.1 h12
  have h2:=Af.2 ⟨hx,hy⟩
  obtain ⟨ha,hb⟩:=Af.1 h1
  obtain ⟨A,rfl,hA⟩:=F7 ha
  obtain ⟨B,rfl,hB⟩:=F7 hb
  obtain ⟨h3,he⟩:=Af.1 h2
  obtain ⟨h4,h5⟩:=Af.1 h3
  obtain ⟨hr,hm⟩:=Af.1 h4
  obtain ⟨al,am⟩:=Af.1 h5
  obtain ⟨e1,e2,e3,e4⟩:=of_decide_eq_true he
  have hp:∀ i j:Nat,i<A→j<B→(((D1 r c l (i:Int) (j:Int)&&D1 p q m (i:Int) (j:Int))&&Ah l)&&Ah m)=true:=fun i j hi hj =>
    Af.2 ⟨Af.2 ⟨Af.2 ⟨K3 hr (by omega) (by omega) (by omega) (by omega) r,K3 hm (by omega) (by omega) (by omega) (by omega) p⟩,al⟩,am⟩
  refine ⟨8,.agg [.int .i64 (A:Int),.int .i64 (B:Int),.ints (.own 108002 tB) .u64 (Ci A B fun (i j:Nat)=>Dl (Ef c l (i:Int) (j:Int)) (Ef q m (i:Int) (j:Int)))],[108002],?_,Wk.Ip (.cons .int (.cons .int (.cons (.drop _ _ _ _ (List.mem_singleton.2 rfl)) .nil)))⟩
  rw [Aa.of.Sub.ev]
  have n:=of.Sub.outer 8 r c l p q m hA hB (by omega) (F:=fun (i j:Nat)=>Dl (Ef c l (i:Int) (j:Int)) (Ef q m (i:Int) (j:Int))) (fun _ _=>rfl) hp A 0 8 (by omega) (by omega)
  rw [J4] at n
  exact n
namespace EqRef20
end EqRef20
open EqOf EqRef20
theorem Aa.Sub.known:Aa.Sub.Kn:=Aa.Sub.Ad (.cons Aa.of.Sub.known (.cons Aa.two.known .nil)) fun r c l p q m hp=>by
  show ∃ N dv drops,_=some dv∧Wk drops dv (Pg (Ra r c l p q m))
  unfold Ra
  have hp:(Ah l&&Ah m)=true:=hp
  by_cases h:(Bh r c l&&Bh p q m)=true
  · obtain ⟨h1,h2⟩:=Af.1 h
    by_cases hc:r=p∧c=q
    · have e:(!((r==p)&&(c==q)))=false:=by rw [hc.1,hc.2]; simp
      rw [if_pos h,if_pos hc]
      exact ⟨0,_,[],by rw [Aa.Sub.ev,Q8,h,e,(Fh h1).1,(Fh h1).2,hp,Aqx ⟨rfl,rfl,hc.1.symm,hc.2.symm⟩]; rfl,Ly⟩
    · have e:(!((r==p)&&(c==q)))=true:=by
        rw [Bool.not_eq_true',Bool.eq_false_iff]
        intro h
        simp only [Aq7,beq_iff_eq] at h
        exact hc h
      rw [if_pos h,if_neg hc]
      exact ⟨0,_,[],by rw [Aa.Sub.ev,Q8,h,e]; rfl,Kp⟩
  · have e:(Bh r c l&&Bh p q m)=false:=by simpa using h
    rw [if_neg h]
    exact ⟨0,_,[],by rw [Aa.Sub.ev,Q8,e,Agi e]; rfl,Kp⟩
open EqLse
section
variable {N:Nat} {r c p q a b u v:Int} {l m g h:List Int} {w one two done f y Q z:MX}
end
open EqRef14 EqLow
theorem Aio {c:Int} {l:List Int} {i k:Int} (h:D9 l=true):Df (Ef c l i k)=true:=by
  unfold Ef
  rw [Aq6]
  cases hx:l[(i*c+k).toNat]? with
  | none=>exact (by decide:Df 0=true)
  | some x =>
    unfold D9 at h
    exact List.all_eq_true.1 h x (List.mem_of_getElem? hx)
theorem Aan {r c:Nat} {f:Nat→Nat→Int} (h:∀ i k,Df (f i k)=true):D9 (Ci r c f)=true:=by
  unfold D9
  rw [List.all_eq_true]
  intro x hx
  obtain ⟨j,_,rfl⟩:=List.mem_map.1 hx
  exact h _ _
section
variable {n Q:Nat} {l m:List Int}
end
open EqRef20
theorem Z7 {r c:Int} {l:List Int} {p q:Int} {m:List Int} (h:(Z8 r c l p q m).2.2.2=0) :
    ∃ (R Q:Nat) (Y:List Int),r=R∧q=Q∧R≤6∧Q≤6∧Z8 r c l p q m=((R:Int),(Q:Int),Y,0)∧Y.length=R*Q∧D9 Y=true∧Ah Y=true:=by
  have hin:=Ahy r c l p q m
  unfold Z8 at h hin ⊢
  by_cases k:M4 r c l p q m=0
  · rw [if_neg (fun h=>h k)] at h hin ⊢
    obtain ⟨h1,h2,rfl,rfl⟩:=Oi k
    obtain ⟨R,C,rfl,hC,r6,c6,hl⟩:=C1 h1
    obtain ⟨P,Q,hP,rfl,p6,q6,hl2⟩:=C1 h2
    unfold Il at h hin ⊢
    by_cases kf:D9 (loG (R:Int) l (Q:Int) m (R:Int).toNat (Q:Int).toNat)=true
    · rw [if_pos kf] at hin ⊢
      exact ⟨R,Q,_,rfl,rfl,r6,q6,rfl,by unfold loG; rw [Bw,Aqy,Aqy],kf,hin⟩
    · rw [if_neg kf] at h; exact absurd h (by decide)
  · rw [if_pos k] at h; exact absurd h k
theorem Agb {r c:Int} {l:List Int} {p q:Int} {m:List Int} (h:(Vy r c l p q m).2.2.2=0) :
    ∃ (R Q:Nat) (Y:List Int),r=R∧q=Q∧R≤6∧Q≤6∧Vy r c l p q m=((R:Int),(Q:Int),Y,0)∧Y.length=R*Q∧D9 Y=true∧Ah Y=true:=by
  have hin:=Amu r c l p q m
  unfold Vy at h hin ⊢
  by_cases k:M4 r c l p q m=0
  · rw [if_neg (fun h=>h k)] at h hin ⊢
    obtain ⟨h1,h2,rfl,rfl⟩:=Oi k
    obtain ⟨R,C,rfl,hC,r6,c6,hl⟩:=C1 h1
    obtain ⟨P,Q,hP,rfl,p6,q6,hl2⟩:=C1 h2
    unfold Il at h hin ⊢
    by_cases kf:D9 (Y4 (R:Int) l (Q:Int) m (R:Int).toNat (Q:Int).toNat)=true
    · rw [if_pos kf] at hin ⊢
      exact ⟨R,Q,_,rfl,rfl,r6,q6,rfl,by unfold Y4; rw [Bw,Aqy,Aqy],kf,hin⟩
    · rw [if_neg kf] at h; exact absurd h (by decide)
  · rw [if_pos k] at h; exact absurd h k
def G2 (R C:Nat) (x:MX):Prop:=∃ l,x=((R:Int),(C:Int),l,0)∧R≤6∧C≤6∧l.length=R*C∧Ah l=true
def FM (x:MX):Prop:=D9 x.2.2.1=true
theorem FM.of {r c e:Int} {l:List Int} (h:D9 l=true):FM (r,c,l,e):=h
theorem G2.mk {R C:Nat} {l:List Int} (r6:R≤6) (c6:C≤6) (hl:l.length=R*C) (al:Ah l=true):G2 R C ((R:Int),(C:Int),l,0):=⟨l,rfl,r6,c6,hl,al⟩
theorem G2.Abz {r c:Int} {l:List Int} (h:B5 r c l=0) (al:Ah l=true):∃ R C:Nat,r=R∧c=C∧G2 R C (r,c,l,0)∧FM (r,c,l,0):=by
  obtain ⟨R,C,rfl,rfl,r6,c6,hl⟩:=C1 (Gs h).1
  exact ⟨R,C,rfl,rfl,.mk r6 c6 hl al,(Gs h).2⟩
section
variable {R C K:Nat} {x y:MX}
theorem G2.right (h:G2 R C x):Bh x.1 x.2.1 x.2.2.1=true:=by
  obtain ⟨l,rfl,r6,c6,hl,al⟩:=h
  exact Qd r6 c6 hl
theorem G2.err (h:G2 R C x):x.2.2.2=0:=by obtain ⟨l,rfl,_⟩:=h; rfl
theorem G2.rows (h:G2 R C x):x.1=R:=by obtain ⟨l,rfl,_⟩:=h; rfl
theorem G2.Aoe (h:G2 R C x):x.2.1=C:=by obtain ⟨l,rfl,_⟩:=h; rfl
theorem G2.r6 (h:G2 R C x):R≤6:=by obtain ⟨l,rfl,r6,_⟩:=h; exact r6
theorem G2.c6 (h:G2 R C x):C≤6:=by obtain ⟨l,rfl,_,c6,_⟩:=h; exact c6
theorem G2.len (h:G2 R C x):x.2.2.1.length≤36:=by
  obtain ⟨l,rfl,r6,c6,hl,_⟩:=h
  have:=Nat.mul_le_mul r6 c6
  show l.length≤36
  omega
theorem G2.To (h:G2 R C x):G2 C R (J8 x):=by
  have hr:=h.right
  obtain ⟨l,rfl,r6,c6,hl,al⟩:=h
  refine ⟨_,by unfold J8 A5; rw [if_pos hr],c6,r6,by rw [Bw,Aqy,Aqy],F5 fun _ _=>Gt al⟩
theorem FM.To (h:G2 R C x) (f:FM x):FM (J8 x):=by
  unfold J8 A5
  rw [if_pos h.right]
  exact .of (Aan fun _ _=>Aio (show D9 _=true from f))
theorem Zu {i k a b:Nat} (ha:i+a≤R) (hb:k+b≤C):Ow (R:Int) (C:Int) (i:Int) (k:Int) (a:Int) (b:Int)=true:=Aqx (by omega)
theorem G2.part {i k a b:Nat} (h:G2 R C x) (ha:i+a≤R) (hb:k+b≤C):G2 a b (K8 x i k a b):=by
  have hr:=h.right
  obtain ⟨l,rfl,r6,c6,hl,al⟩:=h
  refine ⟨_,by unfold K8 D4; dsimp only; rw [if_pos hr,if_pos (Zu ha hb)],by omega,by omega,by rw [Bw,Aqy,Aqy],F5 fun _ _=>Gt al⟩
theorem FM.part {i k a b:Nat} (h:G2 R C x) (f:FM x) (ha:i+a≤R) (hb:k+b≤C):FM (K8 x i k a b):=by
  have hr:=h.right
  obtain ⟨l,rfl,r6,c6,hl,al⟩:=h
  unfold K8 D4
  dsimp only
  rw [if_pos hr,if_pos (Zu ha hb)]
  exact .of (Aan fun _ _=>Aio (show D9 _=true from f))
theorem G2.mul (h:G2 R K x) (g:G2 K C y):G2 R C (mulM x y):=by
  have hr:=h.right
  have hg:=g.right
  obtain ⟨l,rfl,r6,c6,hl,al⟩:=h
  obtain ⟨m,rfl,p6,q6,hm,am⟩:=g
  refine ⟨_,by unfold mulM Mc; rw [hr,hg,Aq2,if_pos rfl,if_pos rfl],r6,q6,by rw [Bw,Aqy,Aqy],F5 fun _ _=>Tf _ _⟩
theorem G2.sub (h:G2 R C x) (g:G2 R C y):G2 R C (Am9 x y):=by
  have hr:=h.right
  have hg:=g.right
  obtain ⟨l,rfl,r6,c6,hl,al⟩:=h
  obtain ⟨m,rfl,p6,q6,hm,am⟩:=g
  refine ⟨_,by unfold Am9 Ra; rw [hr,hg,Aq2,if_pos rfl,if_pos ⟨rfl,rfl⟩],r6,c6,by rw [Bw,Aqy,Aqy],F5 fun _ _=>L5 (Gt al) (Gt am)⟩
theorem Pa (h:G2 R C x) (y:MX):Fg x y=mulM (J8 x) y:=by
  have e:=h.To.err
  unfold J8 at e
  unfold Fg D8
  rw [if_neg (fun k=>k e)]
  rfl
theorem G2.lo (h:G2 R R x) (g:G2 R C y) (e:(Um x y).2.2.2=0):G2 R C (Um x y)∧FM (Um x y):=by
  obtain ⟨l,rfl,r6,c6,hl,al⟩:=h
  obtain ⟨m,rfl,p6,q6,hm,am⟩:=g
  obtain ⟨P,Q,Y,e1,e2,a6,b6,e3,e4,e5,e6⟩:=Z7 e
  dsimp only at e1 e2
  obtain rfl:P=R:=by omega
  obtain rfl:Q=C:=by omega
  have e7:Um ((P:Int),(P:Int),l,0) ((P:Int),(Q:Int),m,0)=((P:Int),(Q:Int),Y,0):=e3
  rw [e7]
  exact ⟨.mk a6 b6 e4 e6,e5⟩
theorem G2.up (h:G2 R R x) (g:G2 R C y) (e:(upM x y).2.2.2=0):G2 R C (upM x y)∧FM (upM x y):=by
  obtain ⟨l,rfl,r6,c6,hl,al⟩:=h
  obtain ⟨m,rfl,p6,q6,hm,am⟩:=g
  obtain ⟨P,Q,Y,e1,e2,a6,b6,e3,e4,e5,e6⟩:=Agb e
  dsimp only at e1 e2
  obtain rfl:P=R:=by omega
  obtain rfl:Q=C:=by omega
  have e7:upM ((P:Int),(P:Int),l,0) ((P:Int),(Q:Int),m,0)=((P:Int),(Q:Int),Y,0):=e3
  rw [e7]
  exact ⟨.mk a6 b6 e4 e6,e5⟩
theorem G2.fac (h:G2 R C x) (e:Gl x.1 x.2.1 x.2.2.1=0):G2 R R (qX x.1 x.2.1 x.2.2.1)∧G2 R C (rX x.1 x.2.1 x.2.2.1)∧FM (qX x.1 x.2.1 x.2.2.1)∧FM (rX x.1 x.2.1 x.2.2.1):=by
  obtain ⟨l,rfl,r6,c6,hl,al⟩:=h
  obtain ⟨q1,g1⟩:=S5 e
  obtain ⟨A,B,eA,eB,_,_,_,aq,hq,ar,hr,fq,fr⟩:=Aap al e
  dsimp only at eA eB
  obtain rfl:A=R:=by omega
  obtain rfl:B=C:=by omega
  dsimp only at q1 g1 ⊢
  rw [q1,g1]
  rw [Aqy,Aqy]
  exact ⟨.mk r6 r6 hq aq,.mk r6 c6 hr ar,fq,fr⟩
theorem Anv (h:G2 R C x):Q6 x.1 x.2.1 x.2.2.1=Gl (J8 x).1 (J8 x).2.1 (J8 x).2.2.1:=by
  have e:=h.To.err
  unfold J8 at e
  unfold Q6
  rw [if_neg (fun k=>k e)]
  rfl
theorem G2.lq (h:G2 R C x) (e:Q6 x.1 x.2.1 x.2.2.1=0):G2 R C (Wl x.1 x.2.1 x.2.2.1)∧G2 C C (Vr x.1 x.2.1 x.2.2.1)∧FM (Wl x.1 x.2.1 x.2.2.1)∧FM (Vr x.1 x.2.1 x.2.2.1):=by
  have e2:=e
  rw [Anv h] at e2
  obtain ⟨h1,h2,h3,h4⟩:=h.To.fac e2
  unfold Wl Vr
  rw [if_neg (fun k=>k e),if_neg (fun k=>k e)]
  exact ⟨h2.To,h1.To,.To h2 h4,.To h1 h3⟩
end
namespace EqGg
def rq.both.Ba:List (Nat × Entry):=[(167,Aa.Cy.spec)]
def rq.both.E:Env:=Bc (A9 rq.both.Ba) (fun _=>false) (fun _=>none) (fun _=>none)
theorem rq.both.ev (N:Nat) (r c:Int) (l:List Int) (p q:Int) (m:List Int):By rq.both.E N Tryz.f231 (Am Tryz.f231) [.agg [.int .i64 r,.int .i64 c,.ints .arg .u64 l],.agg [.int .i64 p,.int .i64 q,.ints .arg .u64 m]]=some (.tup [.agg [.int .i64 ((A5 p q m).1),.int .i64 ((A5 p q m).2.1),.ints .fresh .u64 ((A5 p q m).2.2.1)],.agg [.int .i64 ((A5 r c l).1),.int .i64 ((A5 r c l).2.1),.ints .fresh .u64 ((A5 r c l).2.2.1)]]):=by kernel_rfl
abbrev _root_.Go.Proofs.S1.rq.both.Kn:=A7 Tryz.prog 231 rq.both.spec
theorem rq.both.Ad (hk:Ax Tryz.prog rq.both.Ba) (h:∀ (r c:Int) (l:List Int) (p q:Int) (m:List Int),rq.both.pre [.i r,.i c,.l l,.i p,.i q,.l m]=true→Bd rq.both.E Tryz.f231 [.agg [.int .i64 r,.int .i64 c,.ints .arg .u64 l],.agg [.int .i64 p,.int .i64 q,.ints .arg .u64 m]] (rq.both.out [.i r,.i c,.l l,.i p,.i q,.l m])):rq.both.Kn :=
  Al (A0 hk _ _ _) Tryz.func231 (by kernel_rfl) (by kernel_rfl) h
def rq.Lq.Ba:List (Nat × Entry):=[(167,Aa.Cy.spec),(166,qr.Cv.spec),(231,rq.both.spec)]
def rq.Lq.E:Env:=Bc (A9 rq.Lq.Ba) (fun _=>false) (fun _=>none) (fun _=>none)
theorem rq.Lq.ev (N:Nat) (r c:Int) (l:List Int):By rq.Lq.E N Tryz.f200 (Am Tryz.f200) [.agg [.int .i64 r,.int .i64 c,.ints .arg .u64 l]]=bif (((A5 r c l).2.2.2) !=(0:Int)) then some (.tup [.agg [.int .i64 0,.int .i64 0,.nil],.agg [.int .i64 0,.int .i64 0,.nil],.int .i64 ((A5 r c l).2.2.2)]) else bif (Ah ((A5 r c l).2.2.1)) then bif ((Gl ((A5 r c l).1) ((A5 r c l).2.1) ((A5 r c l).2.2.1)) !=(0:Int)) then some (.tup [.agg [.int .i64 0,.int .i64 0,.nil],.agg [.int .i64 0,.int .i64 0,.nil],.int .i64 (Gl ((A5 r c l).1) ((A5 r c l).2.1) ((A5 r c l).2.2.1))]) else some (.tup [.agg [.int .i64 ((A5 ((rX ((A5 r c l).1) ((A5 r c l).2.1) ((A5 r c l).2.2.1)).1) ((rX ((A5 r c l).1) ((A5 r c l).2.1) ((A5 r c l).2.2.1)).2.1) ((rX ((A5 r c l).1) ((A5 r c l).2.1) ((A5 r c l).2.2.1)).2.2.1)).1),.int .i64 ((A5 ((rX ((A5 r c l).1) ((A5 r c l).2.1) ((A5 r c l).2.2.1)).1) ((rX ((A5 r c l).1) ((A5 r c l).2.1) ((A5 r c l).2.2.1)).2.1) ((rX ((A5 r c l).1) ((A5 r c l).2.1) ((A5 r c l).2.2.1)).2.2.1)).2.1),.ints .fresh .u64 ((A5 ((rX ((A5 r c l).1) ((A5 r c l).2.1) ((A5 r c l).2.2.1)).1) ((rX ((A5 r c l).1) ((A5 r c l).2.1) ((A5 r c l).2.2.1)).2.1) ((rX ((A5 r c l).1) ((A5 r c l).2.1) ((A5 r c l).2.2.1)).2.2.1)).2.2.1)],.agg [.int .i64 ((A5 ((qX ((A5 r c l).1) ((A5 r c l).2.1) ((A5 r c l).2.2.1)).1) ((qX ((A5 r c l).1) ((A5 r c l).2.1) ((A5 r c l).2.2.1)).2.1) ((qX ((A5 r c l).1) ((A5 r c l).2.1) ((A5 r c l).2.2.1)).2.2.1)).1),.int .i64 ((A5 ((qX ((A5 r c l).1) ((A5 r c l).2.1) ((A5 r c l).2.2.1)).1) ((qX ((A5 r c l).1) ((A5 r c l).2.1) ((A5 r c l).2.2.1)).2.1) ((qX ((A5 r c l).1) ((A5 r c l).2.1) ((A5 r c l).2.2.1)).2.2.1)).2.1),.ints .fresh .u64 ((A5 ((qX ((A5 r c l).1) ((A5 r c l).2.1) ((A5 r c l).2.2.1)).1) ((qX ((A5 r c l).1) ((A5 r c l).2.1) ((A5 r c l).2.2.1)).2.1) ((qX ((A5 r c l).1) ((A5 r c l).2.1) ((A5 r c l).2.2.1)).2.2.1)).2.2.1)],.int .i64 0]) else none:=by kernel_rfl
abbrev _root_.Go.Proofs.S1.rq.Lq.Kn:=A7 Tryz.prog 200 rq.Lq.spec
theorem rq.Lq.Ad (hk:Ax Tryz.prog rq.Lq.Ba) (h:∀ (r c:Int) (l:List Int),rq.Lq.pre [.i r,.i c,.l l]=true→Bd rq.Lq.E Tryz.f200 [.agg [.int .i64 r,.int .i64 c,.ints .arg .u64 l]] (rq.Lq.out [.i r,.i c,.l l])):rq.Lq.Kn :=
  Al (A0 hk _ _ _) Tryz.func200 (by kernel_rfl) (by kernel_rfl) h
def A2.Check.hint:Nat→Option A6
  | 0=>some { keep:=[1,14,15],objs:=[],boxes:=[1] }
  | _=>none
def A2.Check.Ba:List (Nat × Entry):=[(86,B4.Check.spec)]
def A2.Check.E:Env:=Bc (A9 A2.Check.Ba) (fun _=>false) A2.Check.hint (fun _=>none)
theorem A2.Check.ev (N:Nat) (r c:Int) (l:List Int) (p q:Int) (m:List Int) (u v:Int) (h:List Int):By A2.Check.E (N+5) Tryz.f56 (Am Tryz.f56) [.agg [.int .i64 r,.int .i64 c,.ints .arg .u64 l,.int .i64 p,.int .i64 q,.ints .arg .u64 m,.int .i64 u,.int .i64 v,.ints .arg .u64 h]]=bif (Ah l) then bif ((B5 r c l) !=(0:Int)) then some (.int .i64 (B5 r c l)) else bif (Ah m) then bif ((B5 p q m) !=(0:Int)) then some (.int .i64 (B5 p q m)) else bif (Ah h) then bif ((B5 u v h) !=(0:Int)) then some (.int .i64 (B5 u v h)) else bif (((((p !=r)||(u !=r))||(v !=(1:Int)))||(A1 r c))||(A1 (Ab (c+q)) r)) then some (.int .i64 3) else some (.int .i64 0) else none else none else none :=
  Eq.trans (by kernel_rfl)
  (E3 (E3 rfl (E3 (E3 rfl (E3 (E3 rfl (Au (Vk (p !=r)) (Au (Tp (p !=r)) (Au (Tp (p !=r)) (Au (Vk (p !=r)) (Au (tt8 (p !=r)) (Au (tt6 (p !=r)) (Au (Agl (p !=r) (u !=r)) (Au (Ad5 (p !=r) (u !=r)) (Au (Ad5 (p !=r) (u !=r)) (Au (Ad5 (p !=r) (u !=r)) (Au (Am0 (p !=r) (u !=r)) (Au (Aj5 (p !=r) (u !=r) (v !=(1:Int))) (Au (Aj5 (p !=r) (u !=r) (v !=(1:Int))) (Au (Ap3 (p !=r) (u !=r) (v !=(1:Int))) (Au (Am1 (p !=r) (u !=r) (v !=(1:Int))) (Au (Abe (p !=r) (u !=r) (v !=(1:Int)) (A1 r c)) (Au (Abe (p !=r) (u !=r) (v !=(1:Int)) (A1 r c)) (Au (Abe (p !=r) (u !=r) (v !=(1:Int)) (A1 r c)) (Au (Aj6 (p !=r) (u !=r) (v !=(1:Int)) (A1 r c)) (Au (Aj6 (p !=r) (u !=r) (v !=(1:Int)) (A1 r c)) (Au (Aj7 (p !=r) (u !=r) (v !=(1:Int)) (A1 r c)) (Au (Aj7 (p !=r) (u !=r) (v !=(1:Int)) (A1 r c)) (Au (Am2 (p !=r) (u !=r) (v !=(1:Int)) (A1 r c)) (C0 (Apg (p !=r) (u !=r) (v !=(1:Int)) (A1 r c) (A1 (Ab (c+q)) r)) rfl rfl))))))))))))))))))))))))) rfl)) rfl)) rfl)
abbrev _root_.Go.Proofs.S1.A2.Check.Kn:=A7 Tryz.prog 56 A2.Check.spec
theorem A2.Check.Ad (hk:Ax Tryz.prog A2.Check.Ba) (h:∀ (r c:Int) (l:List Int) (p q:Int) (m:List Int) (u v:Int) (h:List Int),A2.Check.pre [.i r,.i c,.l l,.i p,.i q,.l m,.i u,.i v,.l h]=true→Bd A2.Check.E Tryz.f56 [.agg [.int .i64 r,.int .i64 c,.ints .arg .u64 l,.int .i64 p,.int .i64 q,.ints .arg .u64 m,.int .i64 u,.int .i64 v,.ints .arg .u64 h]] (A2.Check.out [.i r,.i c,.l l,.i p,.i q,.l m,.i u,.i v,.l h])):A2.Check.Kn :=
  Al (A0 hk _ _ _) Tryz.func56 (by kernel_rfl) (by kernel_rfl) h
def A2.D2.Ba:List (Nat × Entry):=[(124,Aa.Part.spec)]
def A2.D2.E:Env:=Bc (A9 A2.D2.Ba) (fun _=>false) (fun _=>none) (fun _=>none)
theorem A2.D2.ev (N:Nat) (r c:Int) (l:List Int) (x y:Int):By A2.D2.E N Tryz.f199 (Am Tryz.f199) [.agg [.int .i64 r,.int .i64 c,.ints .arg .u64 l],.int .i64 x,.int .i64 y]=some (.agg [.int .i64 ((D4 r c l x 0 (Ab (y-x)) c).1),.int .i64 ((D4 r c l x 0 (Ab (y-x)) c).2.1),.ints .fresh .u64 ((D4 r c l x 0 (Ab (y-x)) c).2.2.1)]):=by kernel_rfl
abbrev _root_.Go.Proofs.S1.A2.D2.Kn:=A7 Tryz.prog 199 A2.D2.spec
theorem A2.D2.Ad (hk:Ax Tryz.prog A2.D2.Ba) (h:∀ (r c:Int) (l:List Int) (x y:Int),A2.D2.pre [.i r,.i c,.l l,.i x,.i y]=true→Bd A2.D2.E Tryz.f199 [.agg [.int .i64 r,.int .i64 c,.ints .arg .u64 l],.int .i64 x,.int .i64 y] (A2.D2.out [.i r,.i c,.l l,.i x,.i y])):A2.D2.Kn :=
  Al (A0 hk _ _ _) Tryz.func199 (by kernel_rfl) (by kernel_rfl) h
def A2.apart.Ba:List (Nat × Entry):=[(86,B4.Check.spec),(199,A2.D2.spec),(166,qr.Cv.spec),(98,qr.Ec.spec),(24,solve.Flat.spec)]
def A2.apart.live:Nat→Option (List Nat)
  | 2=>some [1,2,4,5,6]
  | 7=>some [1,2,4,7,8,9,10]
  | 11=>some [1,2,4,7,8,9,10,13]
  | 12=>some [2,7,8,9,10,13,15]
  | 14=>some [2,7,8,9,10,13,15]
  | _=>none
def A2.apart.E:Env:=Bc (A9 A2.apart.Ba) (fun _=>false) (fun _=>none) A2.apart.live
def A2.apart.C2 (N:Nat) (r c:Int) (l:List Int) (p q:Int) (m:List Int) (u v:Int) (h:List Int) (p6 p5 p5_1:Int) (p5_2:List Int) (p4 p4_1:Int) (p4_2:List Int):Option DV:=cutAt A2.apart.E N Tryz.f135 (Am Tryz.f135) [1,1,0] [] ⟨Fw 88 [(1,.ptr 1 0 0),(2,.ptr 2 0 0),(4,.ptr 4 0 0),(5,.ptr 5 0 0),(6,.int .i64 p6)],[(5,false,.box [.int .i64 p5,.int .i64 p5_1,.ints .arg .u64 p5_2]),(4,false,.box [.int .i64 p4,.int .i64 p4_1,.ints .arg .u64 p4_2]),(2,false,.box [.int .i64 0,.int .i64 0,.nil,.int .i64 0,.int .i64 0,.nil,.int .i64 0,.int .i64 0,.nil,.int .i64 0,.int .i64 0,.nil,.int .i64 0,.int .i64 0,.nil]),(1,false,.box [.int .i64 r,.int .i64 c,.ints .arg .u64 l,.int .i64 p,.int .i64 q,.ints .arg .u64 m,.int .i64 u,.int .i64 v,.ints .arg .u64 h])]⟩
def A2.apart.C7 (N:Nat) (r c:Int) (l:List Int) (p q:Int) (m:List Int) (u v:Int) (h:List Int) (p5 p5_1:Int) (p5_2:List Int) (p4 p4_1:Int) (p4_2:List Int) (p10 p10_1:Int) (p10_2:List Int):Option DV:=cutAt A2.apart.E N Tryz.f135 (Am Tryz.f135) [1,1,1,1,1,1,0] [] ⟨Fw 88 [(1,.ptr 1 0 0),(2,.ptr 2 0 0),(4,.ptr 4 0 0),(7,.int .i64 r),(8,.int .i64 c),(9,.fn 199 [] []),(10,.ptr 10 0 0)],[(10,false,.box [.int .i64 p10,.int .i64 p10_1,.ints .fresh .u64 p10_2]),(5,false,.box [.int .i64 p5,.int .i64 p5_1,.ints .arg .u64 p5_2]),(4,false,.box [.int .i64 p4,.int .i64 p4_1,.ints .arg .u64 p4_2]),(2,false,.box [.int .i64 0,.int .i64 0,.nil,.int .i64 0,.int .i64 0,.nil,.int .i64 0,.int .i64 0,.nil,.int .i64 0,.int .i64 0,.nil,.int .i64 0,.int .i64 0,.nil]),(1,false,.box [.int .i64 r,.int .i64 c,.ints .arg .u64 l,.int .i64 p,.int .i64 q,.ints .arg .u64 m,.int .i64 u,.int .i64 v,.ints .arg .u64 h])]⟩
def A2.apart.C11 (N:Nat) (r c:Int) (l:List Int) (p q:Int) (m:List Int) (u v:Int) (h:List Int) (p5 p5_1:Int) (p5_2:List Int) (p4 p4_1:Int) (p4_2:List Int) (p10 p10_1:Int) (p10_2:List Int) (p13 p13_1:Int) (p13_2:List Int):Option DV:=cutAt A2.apart.E N Tryz.f135 (Am Tryz.f135) [1,1,1,1,1,1,1,1] [] ⟨Fw 88 [(1,.ptr 1 0 0),(2,.ptr 2 0 0),(4,.ptr 4 0 0),(7,.int .i64 r),(8,.int .i64 c),(9,.fn 199 [] []),(10,.ptr 10 0 0),(13,.ptr 13 0 0)],[(13,false,.box [.int .i64 p13,.int .i64 p13_1,.ints .fresh .u64 p13_2]),(10,false,.box [.int .i64 p10,.int .i64 p10_1,.ints .fresh .u64 p10_2]),(5,false,.box [.int .i64 p5,.int .i64 p5_1,.ints .arg .u64 p5_2]),(4,false,.box [.int .i64 p4,.int .i64 p4_1,.ints .arg .u64 p4_2]),(2,false,.box [.int .i64 0,.int .i64 0,.nil,.int .i64 0,.int .i64 0,.nil,.int .i64 0,.int .i64 0,.nil,.int .i64 0,.int .i64 0,.nil,.int .i64 0,.int .i64 0,.nil]),(1,false,.box [.int .i64 r,.int .i64 c,.ints .arg .u64 l,.int .i64 p,.int .i64 q,.ints .arg .u64 m,.int .i64 u,.int .i64 v,.ints .arg .u64 h])]⟩
def A2.apart.C12 (N:Nat) (r c:Int) (l:List Int) (p q:Int) (m:List Int) (u v:Int) (h:List Int) (p5 p5_1:Int) (p5_2:List Int) (p4 p4_1:Int) (p4_2:List Int) (p10 p10_1:Int) (p10_2:List Int) (p13 p13_1:Int) (p13_2:List Int) (p15 p15_1:Int) (p15_2:List Int):Option DV:=cutAt A2.apart.E N Tryz.f135 (Am Tryz.f135) [1,1,1,1,1,1,1,1,1,0] [] ⟨Fw 88 [(2,.ptr 2 0 0),(7,.int .i64 r),(8,.int .i64 c),(9,.fn 199 [] []),(10,.ptr 10 0 0),(13,.ptr 13 0 0),(15,.ptr 15 0 0)],[(15,false,.box [.int .i64 p15,.int .i64 p15_1,.ints .fresh .u64 p15_2]),(13,false,.box [.int .i64 p13,.int .i64 p13_1,.ints .fresh .u64 p13_2]),(10,false,.box [.int .i64 p10,.int .i64 p10_1,.ints .fresh .u64 p10_2]),(5,false,.box [.int .i64 p5,.int .i64 p5_1,.ints .arg .u64 p5_2]),(4,false,.box [.int .i64 p4,.int .i64 p4_1,.ints .arg .u64 p4_2]),(2,false,.box [.int .i64 0,.int .i64 0,.nil,.int .i64 0,.int .i64 0,.nil,.int .i64 0,.int .i64 0,.nil,.int .i64 0,.int .i64 0,.nil,.int .i64 0,.int .i64 0,.nil]),(1,false,.box [.int .i64 r,.int .i64 c,.ints .arg .u64 l,.int .i64 p,.int .i64 q,.ints .arg .u64 m,.int .i64 u,.int .i64 v,.ints .arg .u64 h])]⟩
def A2.apart.C14 (N:Nat) (r c:Int) (l:List Int) (p q:Int) (m:List Int) (u v:Int) (h:List Int) (p5 p5_1:Int) (p5_2:List Int) (p4 p4_1:Int) (p4_2:List Int) (p10 p10_1:Int) (p10_2:List Int) (p13 p13_1:Int) (p13_2:List Int) (p15 p15_1:Int) (p15_2:List Int):Option DV:=cutAt A2.apart.E N Tryz.f135 (Am Tryz.f135) [1,1,1,1,1,1,1,1,1,1] [] ⟨Fw 88 [(2,.ptr 2 0 0),(7,.int .i64 r),(8,.int .i64 c),(9,.fn 199 [] []),(10,.ptr 10 0 0),(13,.ptr 13 0 0),(15,.ptr 15 0 0)],[(15,false,.box [.int .i64 p15,.int .i64 p15_1,.ints .fresh .u64 p15_2]),(13,false,.box [.int .i64 p13,.int .i64 p13_1,.ints .fresh .u64 p13_2]),(10,false,.box [.int .i64 p10,.int .i64 p10_1,.ints .fresh .u64 p10_2]),(5,false,.box [.int .i64 p5,.int .i64 p5_1,.ints .arg .u64 p5_2]),(4,false,.box [.int .i64 p4,.int .i64 p4_1,.ints .arg .u64 p4_2]),(2,false,.box [.int .i64 0,.int .i64 0,.nil,.int .i64 0,.int .i64 0,.nil,.int .i64 0,.int .i64 0,.nil,.int .i64 0,.int .i64 0,.nil,.int .i64 0,.int .i64 0,.nil]),(1,false,.box [.int .i64 r,.int .i64 c,.ints .arg .u64 l,.int .i64 p,.int .i64 q,.ints .arg .u64 m,.int .i64 u,.int .i64 v,.ints .arg .u64 h])]⟩
theorem A2.apart.Ajt (N:Nat) (r c:Int) (l:List Int) (p q:Int) (m:List Int) (u v:Int) (h:List Int) (p6 p5 p5_1:Int) (p5_2:List Int) (p4 p4_1:Int) (p4_2:List Int):A2.apart.C2 N r c l p q m u v h p6 p5 p5_1 p5_2 p4 p4_1 p4_2=bif (p6 !=(0:Int)) then some (.tup [.agg [.int .i64 0,.int .i64 0,.nil,.int .i64 0,.int .i64 0,.nil,.int .i64 0,.int .i64 0,.nil,.int .i64 0,.int .i64 0,.nil,.int .i64 0,.int .i64 0,.nil],.int .i64 p6]) else bif (Cn (-100≤(0:Int)∧(0:Int)≤100∧-100≤c∧c≤100)) then A2.apart.C7 N r c l p q m u v h p5 p5_1 p5_2 p4 p4_1 p4_2 ((D4 p5 p5_1 p5_2 0 0 (c-0) p5_1).1) ((D4 p5 p5_1 p5_2 0 0 (c-0) p5_1).2.1) ((D4 p5 p5_1 p5_2 0 0 (c-0) p5_1).2.2.1) else none:=(Dp _ _ _ _ _ _ _).trans (by kernel_rfl)
theorem A2.apart.Ajs (N:Nat) (r c:Int) (l:List Int) (p q:Int) (m:List Int) (u v:Int) (h:List Int) (p5 p5_1:Int) (p5_2:List Int) (p4 p4_1:Int) (p4_2:List Int) (p10 p10_1:Int) (p10_2:List Int):A2.apart.C7 N r c l p q m u v h p5 p5_1 p5_2 p4 p4_1 p4_2 p10 p10_1 p10_2=bif (Ah p10_2) then bif ((Mw p10 p10_1 p10_2).1) then some (.tup [.agg [.int .i64 0,.int .i64 0,.nil,.int .i64 0,.int .i64 0,.nil,.int .i64 0,.int .i64 0,.nil,.int .i64 0,.int .i64 0,.nil,.int .i64 0,.int .i64 0,.nil],.int .i64 5]) else bif (Ah p4_2&&Ah h) then A2.apart.C11 N r c l p q m u v h p5 p5_1 p5_2 p4 p4_1 p4_2 p10 p10_1 p10_2 ((D8 p4 p4_1 p4_2 u v h).1) ((D8 p4 p4_1 p4_2 u v h).2.1) ((D8 p4 p4_1 p4_2 u v h).2.2.1) else none else none:=(Dp _ _ _ _ _ _ _).trans (by kernel_rfl)
theorem A2.apart.Ac2 (N:Nat) (r c:Int) (l:List Int) (p q:Int) (m:List Int) (u v:Int) (h:List Int) (p5 p5_1:Int) (p5_2:List Int) (p4 p4_1:Int) (p4_2:List Int) (p10 p10_1:Int) (p10_2:List Int) (p13 p13_1:Int) (p13_2:List Int):A2.apart.C11 N r c l p q m u v h p5 p5_1 p5_2 p4 p4_1 p4_2 p10 p10_1 p10_2 p13 p13_1 p13_2=bif (Ah p4_2&&Ah m) then A2.apart.C12 N r c l p q m u v h p5 p5_1 p5_2 p4 p4_1 p4_2 p10 p10_1 p10_2 p13 p13_1 p13_2 ((D8 p4 p4_1 p4_2 p q m).1) ((D8 p4 p4_1 p4_2 p q m).2.1) ((D8 p4 p4_1 p4_2 p q m).2.2.1) else none:=(Dp _ _ _ _ _ _ _).trans (by kernel_rfl)
theorem A2.apart.Vj (N:Nat) (r c:Int) (l:List Int) (p q:Int) (m:List Int) (u v:Int) (h:List Int) (p5 p5_1:Int) (p5_2:List Int) (p4 p4_1:Int) (p4_2:List Int) (p10 p10_1:Int) (p10_2:List Int) (p13 p13_1:Int) (p13_2:List Int) (p15 p15_1:Int) (p15_2:List Int):A2.apart.C12 N r c l p q m u v h p5 p5_1 p5_2 p4 p4_1 p4_2 p10 p10_1 p10_2 p13 p13_1 p13_2 p15 p15_1 p15_2=bif (Ah p13_2) then bif (((B5 p13 p13_1 p13_2) !=(0:Int))||(Ah p15_2)) then bif (((B5 p13 p13_1 p13_2) !=(0:Int))||((B5 p15 p15_1 p15_2) !=(0:Int))) then some (.tup [.agg [.int .i64 0,.int .i64 0,.nil,.int .i64 0,.int .i64 0,.nil,.int .i64 0,.int .i64 0,.nil,.int .i64 0,.int .i64 0,.nil,.int .i64 0,.int .i64 0,.nil],.int .i64 2]) else A2.apart.C14 N r c l p q m u v h p5 p5_1 p5_2 p4 p4_1 p4_2 p10 p10_1 p10_2 p13 p13_1 p13_2 p15 p15_1 p15_2 else none else none :=
  Eq.trans ((Dp _ _ _ _ _ _ _).trans (by kernel_rfl))
  (E3 (Au (Vk ((B5 p13 p13_1 p13_2) !=(0:Int))) (C0 (Aph ((B5 p13 p13_1 p13_2) !=(0:Int)) (Ah p15_2)) (Au (Tp ((B5 p13 p13_1 p13_2) !=(0:Int))) (Au (tt6 ((B5 p13 p13_1 p13_2) !=(0:Int))) (C0 (tt5 ((B5 p13 p13_1 p13_2) !=(0:Int)) ((B5 p15 p15_1 p15_2) !=(0:Int))) rfl rfl))) rfl)) rfl)
theorem A2.apart.Vi (N:Nat) (r c:Int) (l:List Int) (p q:Int) (m:List Int) (u v:Int) (h:List Int) (p5 p5_1:Int) (p5_2:List Int) (p4 p4_1:Int) (p4_2:List Int) (p10 p10_1:Int) (p10_2:List Int) (p13 p13_1:Int) (p13_2:List Int) (p15 p15_1:Int) (p15_2:List Int):A2.apart.C14 N r c l p q m u v h p5 p5_1 p5_2 p4 p4_1 p4_2 p10 p10_1 p10_2 p13 p13_1 p13_2 p15 p15_1 p15_2=bif (Cn (-100≤(0:Int)∧(0:Int)≤100∧-100≤c∧c≤100)) then bif (Cn (-100≤c∧c≤100∧-100≤r∧r≤100)) then bif (Cn (-100≤(0:Int)∧(0:Int)≤100∧-100≤c∧c≤100)) then bif (Cn (-100≤c∧c≤100∧-100≤r∧r≤100)) then some (.tup [.agg [.int .i64 p10,.int .i64 p10_1,.ints .fresh .u64 p10_2,.int .i64 ((D4 p13 p13_1 p13_2 0 0 (c-0) p13_1).1),.int .i64 ((D4 p13 p13_1 p13_2 0 0 (c-0) p13_1).2.1),.ints .fresh .u64 ((D4 p13 p13_1 p13_2 0 0 (c-0) p13_1).2.2.1),.int .i64 ((D4 p13 p13_1 p13_2 c 0 (r-c) p13_1).1),.int .i64 ((D4 p13 p13_1 p13_2 c 0 (r-c) p13_1).2.1),.ints .fresh .u64 ((D4 p13 p13_1 p13_2 c 0 (r-c) p13_1).2.2.1),.int .i64 ((D4 p15 p15_1 p15_2 0 0 (c-0) p15_1).1),.int .i64 ((D4 p15 p15_1 p15_2 0 0 (c-0) p15_1).2.1),.ints .fresh .u64 ((D4 p15 p15_1 p15_2 0 0 (c-0) p15_1).2.2.1),.int .i64 ((D4 p15 p15_1 p15_2 c 0 (r-c) p15_1).1),.int .i64 ((D4 p15 p15_1 p15_2 c 0 (r-c) p15_1).2.1),.ints .fresh .u64 ((D4 p15 p15_1 p15_2 c 0 (r-c) p15_1).2.2.1)],.int .i64 0]) else none else none else none else none :=
  Eq.trans ((Dp _ _ _ _ _ _ _).trans (by kernel_rfl))
  (C0 (C3 (Cn (-100≤(0:Int)∧(0:Int)≤100∧-100≤c∧c≤100))) (C0 (C3 (Cn (-100≤c∧c≤100∧-100≤r∧r≤100))) (C0 (C3 (Cn (-100≤(0:Int)∧(0:Int)≤100∧-100≤c∧c≤100))) (C0 (C3 (Cn (-100≤c∧c≤100∧-100≤r∧r≤100))) rfl rfl) rfl) rfl) rfl)
theorem A2.apart.ev (N:Nat) (r c:Int) (l:List Int) (p q:Int) (m:List Int) (u v:Int) (h:List Int):By A2.apart.E N Tryz.f135 (Am Tryz.f135) [.agg [.int .i64 r,.int .i64 c,.ints .arg .u64 l,.int .i64 p,.int .i64 q,.ints .arg .u64 m,.int .i64 u,.int .i64 v,.ints .arg .u64 h]]=bif (Ah l) then A2.apart.C2 N r c l p q m u v h (Gl r c l) ((rX r c l).1) ((rX r c l).2.1) ((rX r c l).2.2.1) ((qX r c l).1) ((qX r c l).2.1) ((qX r c l).2.2.1) else none:=by kernel_rfl
abbrev _root_.Go.Proofs.S1.A2.apart.Kn:=A7 Tryz.prog 135 A2.apart.spec
theorem A2.apart.Ad (hk:Ax Tryz.prog A2.apart.Ba) (h:∀ (r c:Int) (l:List Int) (p q:Int) (m:List Int) (u v:Int) (h:List Int),A2.apart.pre [.i r,.i c,.l l,.i p,.i q,.l m,.i u,.i v,.l h]=true→Bd A2.apart.E Tryz.f135 [.agg [.int .i64 r,.int .i64 c,.ints .arg .u64 l,.int .i64 p,.int .i64 q,.ints .arg .u64 m,.int .i64 u,.int .i64 v,.ints .arg .u64 h]] (A2.apart.out [.i r,.i c,.l l,.i p,.i q,.l m,.i u,.i v,.l h])):A2.apart.Kn :=
  Al (A0 hk _ _ _) Tryz.func135 (by kernel_rfl) (by kernel_rfl) h
def A2.errors.Ba:List (Nat × Entry):=[(86,B4.Check.spec),(124,Aa.Part.spec),(98,qr.Ec.spec),(200,rq.Lq.spec),(24,solve.Flat.spec),(22,solve.Gj.spec)]
def A2.errors.live:Nat→Option (List Nat)
  | 2=>some [2,3,4,6,7,8]
  | 6=>some [3,4,7,9,10]
  | 10=>some [4,7,8,9,14]
  | 13=>some [4,14,15]
  | 14=>some [4,8,17]
  | _=>none
def A2.errors.E:Env:=Bc (A9 A2.errors.Ba) (fun _=>false) (fun _=>none) A2.errors.live
def A2.errors.C2 (N:Nat) (r c:Int) (l:List Int) (p q:Int) (m:List Int) (p8 p7 p7_1:Int) (p7_2:List Int) (p6 p6_1:Int) (p6_2:List Int):Option DV:=cutAt A2.errors.E N Tryz.f136 (Am Tryz.f136) [1,1,0] [] ⟨Fw 77 [(2,.ptr 2 0 0),(3,.ptr 3 0 0),(4,.ptr 4 0 0),(6,.ptr 6 0 0),(7,.ptr 7 0 0),(8,.int .i64 p8)],[(7,false,.box [.int .i64 p7,.int .i64 p7_1,.ints .fresh .u64 p7_2]),(6,false,.box [.int .i64 p6,.int .i64 p6_1,.ints .fresh .u64 p6_2]),(4,false,.box [.int .i64 0,.int .i64 0,.nil]),(3,false,.box [.int .i64 p,.int .i64 q,.ints .arg .u64 m]),(2,false,.box [.int .i64 r,.int .i64 c,.ints .arg .u64 l])]⟩
def A2.errors.C6 (N:Nat) (r c:Int) (l:List Int) (p q:Int) (m:List Int) (p7 p7_1:Int) (p7_2:List Int) (p6 p6_1:Int) (p6_2:List Int) (p10 p10_1:Int) (p10_2:List Int):Option DV:=cutAt A2.errors.E N Tryz.f136 (Am Tryz.f136) [1,1,1,1,1,0] [] ⟨Fw 77 [(3,.ptr 3 0 0),(4,.ptr 4 0 0),(7,.ptr 7 0 0),(9,.int .i64 r),(10,.ptr 10 0 0)],[(10,false,.box [.int .i64 p10,.int .i64 p10_1,.ints .fresh .u64 p10_2]),(7,false,.box [.int .i64 p7,.int .i64 p7_1,.ints .fresh .u64 p7_2]),(6,false,.box [.int .i64 p6,.int .i64 p6_1,.ints .fresh .u64 p6_2]),(4,false,.box [.int .i64 0,.int .i64 0,.nil]),(3,false,.box [.int .i64 p,.int .i64 q,.ints .arg .u64 m]),(2,false,.box [.int .i64 r,.int .i64 c,.ints .arg .u64 l])]⟩
def A2.errors.C10 (N:Nat) (r c:Int) (l:List Int) (p q:Int) (m:List Int) (p7 p7_1:Int) (p7_2:List Int) (p6 p6_1:Int) (p6_2:List Int) (p10 p10_1:Int) (p10_2:List Int) (p8_1 p14 p14_1:Int) (p14_2:List Int):Option DV:=cutAt A2.errors.E N Tryz.f136 (Am Tryz.f136) [1,1,1,1,1,1,1,0] [] ⟨Fw 77 [(4,.ptr 4 0 0),(7,.ptr 7 0 0),(8,.int .i64 p8_1),(9,.int .i64 r),(14,.ptr 14 0 0)],[(14,false,.box [.int .i64 p14,.int .i64 p14_1,.ints .fresh .u64 p14_2]),(10,false,.box [.int .i64 p10,.int .i64 p10_1,.ints .fresh .u64 p10_2]),(7,false,.box [.int .i64 p7,.int .i64 p7_1,.ints .fresh .u64 p7_2]),(6,false,.box [.int .i64 p6,.int .i64 p6_1,.ints .fresh .u64 p6_2]),(4,false,.box [.int .i64 0,.int .i64 0,.nil]),(3,false,.box [.int .i64 p,.int .i64 q,.ints .arg .u64 m]),(2,false,.box [.int .i64 r,.int .i64 c,.ints .arg .u64 l])]⟩
def A2.errors.C13 (N:Nat) (r c:Int) (l:List Int) (p q:Int) (m:List Int) (p7 p7_1:Int) (p7_2:List Int) (p6 p6_1:Int) (p6_2:List Int) (p10 p10_1:Int) (p10_2:List Int) (p14 p14_1:Int) (p14_2:List Int) (p15 p15_1:Int) (p15_2:List Int):Option DV:=cutAt A2.errors.E N Tryz.f136 (Am Tryz.f136) [1,1,1,1,1,1,1,1,1] [] ⟨Fw 77 [(4,.ptr 4 0 0),(14,.ptr 14 0 0),(15,.ptr 15 0 0)],[(15,false,.box [.int .i64 p15,.int .i64 p15_1,.ints .fresh .u64 p15_2]),(14,false,.box [.int .i64 p14,.int .i64 p14_1,.ints .fresh .u64 p14_2]),(10,false,.box [.int .i64 p10,.int .i64 p10_1,.ints .fresh .u64 p10_2]),(7,false,.box [.int .i64 p7,.int .i64 p7_1,.ints .fresh .u64 p7_2]),(6,false,.box [.int .i64 p6,.int .i64 p6_1,.ints .fresh .u64 p6_2]),(4,false,.box [.int .i64 0,.int .i64 0,.nil]),(3,false,.box [.int .i64 p,.int .i64 q,.ints .arg .u64 m]),(2,false,.box [.int .i64 r,.int .i64 c,.ints .arg .u64 l])]⟩
def A2.errors.C14 (N:Nat) (r c:Int) (l:List Int) (p q:Int) (m:List Int) (p7 p7_1:Int) (p7_2:List Int) (p6 p6_1:Int) (p6_2:List Int) (p10 p10_1:Int) (p10_2:List Int) (p14 p14_1:Int) (p14_2:List Int) (p15 p15_1:Int) (p15_2:List Int) (p8_2 p17 p17_1:Int) (p17_2:List Int):Option DV:=cutAt A2.errors.E N Tryz.f136 (Am Tryz.f136) [1,1,1,1,1,1,1,1,1,1,0] [] ⟨Fw 77 [(4,.ptr 4 0 0),(8,.int .i64 p8_2),(17,.ptr 17 0 0)],[(17,false,.box [.int .i64 p17,.int .i64 p17_1,.ints .fresh .u64 p17_2]),(15,false,.box [.int .i64 p15,.int .i64 p15_1,.ints .fresh .u64 p15_2]),(14,false,.box [.int .i64 p14,.int .i64 p14_1,.ints .fresh .u64 p14_2]),(10,false,.box [.int .i64 p10,.int .i64 p10_1,.ints .fresh .u64 p10_2]),(7,false,.box [.int .i64 p7,.int .i64 p7_1,.ints .fresh .u64 p7_2]),(6,false,.box [.int .i64 p6,.int .i64 p6_1,.ints .fresh .u64 p6_2]),(4,false,.box [.int .i64 0,.int .i64 0,.nil]),(3,false,.box [.int .i64 p,.int .i64 q,.ints .arg .u64 m]),(2,false,.box [.int .i64 r,.int .i64 c,.ints .arg .u64 l])]⟩
theorem A2.errors.Ajt (N:Nat) (r c:Int) (l:List Int) (p q:Int) (m:List Int) (p8 p7 p7_1:Int) (p7_2:List Int) (p6 p6_1:Int) (p6_2:List Int):A2.errors.C2 N r c l p q m p8 p7 p7_1 p7_2 p6 p6_1 p6_2=bif (p8 !=(0:Int)) then some (.tup [.agg [.int .i64 0,.int .i64 0,.nil],.int .i64 p8]) else A2.errors.C6 N r c l p q m p7 p7_1 p7_2 p6 p6_1 p6_2 ((D4 p6 p6_1 p6_2 0 0 r r).1) ((D4 p6 p6_1 p6_2 0 0 r r).2.1) ((D4 p6 p6_1 p6_2 0 0 r r).2.2.1):=(Dp _ _ _ _ _ _ _).trans (by kernel_rfl)
theorem A2.errors.Aqt (N:Nat) (r c:Int) (l:List Int) (p q:Int) (m:List Int) (p7 p7_1:Int) (p7_2:List Int) (p6 p6_1:Int) (p6_2:List Int) (p10 p10_1:Int) (p10_2:List Int):A2.errors.C6 N r c l p q m p7 p7_1 p7_2 p6 p6_1 p6_2 p10 p10_1 p10_2=bif (Ah p10_2) then bif ((Mw p10 p10_1 p10_2).1) then some (.tup [.agg [.int .i64 0,.int .i64 0,.nil],.int .i64 5]) else bif (Ah p10_2&&Ah m) then A2.errors.C10 N r c l p q m p7 p7_1 p7_2 p6 p6_1 p6_2 p10 p10_1 p10_2 ((Z8 p10 p10_1 p10_2 p q m).2.2.2) ((Z8 p10 p10_1 p10_2 p q m).1) ((Z8 p10 p10_1 p10_2 p q m).2.1) ((Z8 p10 p10_1 p10_2 p q m).2.2.1) else none else none:=(Dp _ _ _ _ _ _ _).trans (by kernel_rfl)
theorem A2.errors.Aoo (N:Nat) (r c:Int) (l:List Int) (p q:Int) (m:List Int) (p7 p7_1:Int) (p7_2:List Int) (p6 p6_1:Int) (p6_2:List Int) (p10 p10_1:Int) (p10_2:List Int) (p8_1 p14 p14_1:Int) (p14_2:List Int):A2.errors.C10 N r c l p q m p7 p7_1 p7_2 p6 p6_1 p6_2 p10 p10_1 p10_2 p8_1 p14 p14_1 p14_2=bif (p8_1 !=(0:Int)) then some (.tup [.agg [.int .i64 0,.int .i64 0,.nil],.int .i64 p8_1]) else A2.errors.C13 N r c l p q m p7 p7_1 p7_2 p6 p6_1 p6_2 p10 p10_1 p10_2 p14 p14_1 p14_2 ((D4 p7 p7_1 p7_2 0 0 r p7_1).1) ((D4 p7 p7_1 p7_2 0 0 r p7_1).2.1) ((D4 p7 p7_1 p7_2 0 0 r p7_1).2.2.1):=(Dp _ _ _ _ _ _ _).trans (by kernel_rfl)
theorem A2.errors.Aon (N:Nat) (r c:Int) (l:List Int) (p q:Int) (m:List Int) (p7 p7_1:Int) (p7_2:List Int) (p6 p6_1:Int) (p6_2:List Int) (p10 p10_1:Int) (p10_2:List Int) (p14 p14_1:Int) (p14_2:List Int) (p15 p15_1:Int) (p15_2:List Int):A2.errors.C13 N r c l p q m p7 p7_1 p7_2 p6 p6_1 p6_2 p10 p10_1 p10_2 p14 p14_1 p14_2 p15 p15_1 p15_2=bif (Ah p15_2&&Ah p14_2) then A2.errors.C14 N r c l p q m p7 p7_1 p7_2 p6 p6_1 p6_2 p10 p10_1 p10_2 p14 p14_1 p14_2 p15 p15_1 p15_2 ((D8 p15 p15_1 p15_2 p14 p14_1 p14_2).2.2.2) ((D8 p15 p15_1 p15_2 p14 p14_1 p14_2).1) ((D8 p15 p15_1 p15_2 p14 p14_1 p14_2).2.1) ((D8 p15 p15_1 p15_2 p14 p14_1 p14_2).2.2.1) else none:=(Dp _ _ _ _ _ _ _).trans (by kernel_rfl)
theorem A2.errors.Vi (N:Nat) (r c:Int) (l:List Int) (p q:Int) (m:List Int) (p7 p7_1:Int) (p7_2:List Int) (p6 p6_1:Int) (p6_2:List Int) (p10 p10_1:Int) (p10_2:List Int) (p14 p14_1:Int) (p14_2:List Int) (p15 p15_1:Int) (p15_2:List Int) (p8_2 p17 p17_1:Int) (p17_2:List Int):A2.errors.C14 N r c l p q m p7 p7_1 p7_2 p6 p6_1 p6_2 p10 p10_1 p10_2 p14 p14_1 p14_2 p15 p15_1 p15_2 p8_2 p17 p17_1 p17_2=bif ((!(p8_2==(0:Int)))||(Ah p17_2)) then bif ((p8_2==(0:Int))&&((B5 p17 p17_1 p17_2) !=(0:Int))) then some (.tup [.agg [.int .i64 p17,.int .i64 p17_1,.ints .fresh .u64 p17_2],.int .i64 2]) else some (.tup [.agg [.int .i64 p17,.int .i64 p17_1,.ints .fresh .u64 p17_2],.int .i64 p8_2]) else none :=
  Eq.trans ((Dp _ _ _ _ _ _ _).trans (by kernel_rfl))
  (Au (N7 (p8_2==(0:Int))) (C0 (Apj (p8_2==(0:Int)) (Ah p17_2)) (Au (Kq (p8_2==(0:Int))) (Au (Q9 (p8_2==(0:Int))) (C0 (tt1 (p8_2==(0:Int)) ((B5 p17 p17_1 p17_2) !=(0:Int))) rfl rfl))) rfl))
theorem A2.errors.ev (N:Nat) (r c:Int) (l:List Int) (p q:Int) (m:List Int):By A2.errors.E N Tryz.f136 (Am Tryz.f136) [.agg [.int .i64 r,.int .i64 c,.ints .arg .u64 l],.agg [.int .i64 p,.int .i64 q,.ints .arg .u64 m]]=bif (Ah l) then A2.errors.C2 N r c l p q m (Q6 r c l) ((Vr r c l).1) ((Vr r c l).2.1) ((Vr r c l).2.2.1) ((Wl r c l).1) ((Wl r c l).2.1) ((Wl r c l).2.2.1) else none:=by kernel_rfl
abbrev _root_.Go.Proofs.S1.A2.errors.Kn:=A7 Tryz.prog 136 A2.errors.spec
theorem A2.errors.Ad (hk:Ax Tryz.prog A2.errors.Ba) (h:∀ (r c:Int) (l:List Int) (p q:Int) (m:List Int),A2.errors.pre [.i r,.i c,.l l,.i p,.i q,.l m]=true→Bd A2.errors.E Tryz.f136 [.agg [.int .i64 r,.int .i64 c,.ints .arg .u64 l],.agg [.int .i64 p,.int .i64 q,.ints .arg .u64 m]] (A2.errors.out [.i r,.i c,.l l,.i p,.i q,.l m])):A2.errors.Kn :=
  Al (A0 hk _ _ _) Tryz.func136 (by kernel_rfl) (by kernel_rfl) h
def A2.Solve.Ba:List (Nat × Entry):=[(86,B4.Check.spec),(56,A2.Check.spec),(135,A2.apart.spec),(136,A2.errors.spec),(123,Aa.Mul.spec),(125,Aa.Sub.spec),(36,solve.Gf.spec)]
def A2.Solve.live:Nat→Option (List Nat)
  | 5=>some [2,3,4,5]
  | 8=>some [2,3,4,5]
  | 11=>some [2,3,5,6]
  | 12=>some [2,3,5,8]
  | 15=>some [2,3,4]
  | _=>none
def A2.Solve.E:Env:=Bc (A9 A2.Solve.Ba) (fun _=>false) (fun _=>none) A2.Solve.live
def A2.Solve.C5 (N:Nat) (r c:Int) (l:List Int) (p q:Int) (m:List Int) (u v:Int) (h:List Int) (p4 p5 p5_1:Int) (p5_2:List Int) (p5_3 p5_4:Int) (p5_5:List Int) (p5_6 p5_7:Int) (p5_8:List Int) (p5_9 p5_10:Int) (p5_11:List Int) (p5_12 p5_13:Int) (p5_14:List Int):Option DV:=cutAt A2.Solve.E N Tryz.f60 (Am Tryz.f60) [1,1,1,0] [] ⟨Fw 73 [(2,.ptr 2 0 0),(3,.ptr 3 0 0),(4,.int .i64 p4),(5,.ptr 5 0 0)],[(5,false,.box [.int .i64 p5,.int .i64 p5_1,.ints .fresh .u64 p5_2,.int .i64 p5_3,.int .i64 p5_4,.ints .fresh .u64 p5_5,.int .i64 p5_6,.int .i64 p5_7,.ints .fresh .u64 p5_8,.int .i64 p5_9,.int .i64 p5_10,.ints .fresh .u64 p5_11,.int .i64 p5_12,.int .i64 p5_13,.ints .fresh .u64 p5_14]),(3,false,.box [.int .i64 0,.int .i64 0,.nil]),(2,false,.box [.int .i64 0,.int .i64 0,.nil]),(1,false,.box [.int .i64 r,.int .i64 c,.ints .arg .u64 l,.int .i64 p,.int .i64 q,.ints .arg .u64 m,.int .i64 u,.int .i64 v,.ints .arg .u64 h])]⟩
def A2.Solve.C8 (N:Nat) (r c:Int) (l:List Int) (p q:Int) (m:List Int) (u v:Int) (h:List Int) (p5 p5_1:Int) (p5_2:List Int) (p5_3 p5_4:Int) (p5_5:List Int) (p5_6 p5_7:Int) (p5_8:List Int) (p5_9 p5_10:Int) (p5_11:List Int) (p5_12 p5_13:Int) (p5_14:List Int) (p4_1 p3 p3_1:Int) (p3_2:List Int):Option DV:=cutAt A2.Solve.E N Tryz.f60 (Am Tryz.f60) [1,1,1,1,0,1] [] ⟨Fw 73 [(2,.ptr 2 0 0),(3,.ptr 3 0 0),(4,.int .i64 p4_1),(5,.ptr 5 0 0)],[(5,false,.box [.int .i64 p5,.int .i64 p5_1,.ints .fresh .u64 p5_2,.int .i64 p5_3,.int .i64 p5_4,.ints .fresh .u64 p5_5,.int .i64 p5_6,.int .i64 p5_7,.ints .fresh .u64 p5_8,.int .i64 p5_9,.int .i64 p5_10,.ints .fresh .u64 p5_11,.int .i64 p5_12,.int .i64 p5_13,.ints .fresh .u64 p5_14]),(3,false,.box [.int .i64 p3,.int .i64 p3_1,.ints .fresh .u64 p3_2]),(2,false,.box [.int .i64 0,.int .i64 0,.nil]),(1,false,.box [.int .i64 r,.int .i64 c,.ints .arg .u64 l,.int .i64 p,.int .i64 q,.ints .arg .u64 m,.int .i64 u,.int .i64 v,.ints .arg .u64 h])]⟩
def A2.Solve.C11 (N:Nat) (r c:Int) (l:List Int) (p q:Int) (m:List Int) (u v:Int) (h:List Int) (p5 p5_1:Int) (p5_2:List Int) (p5_3 p5_4:Int) (p5_5:List Int) (p5_6 p5_7:Int) (p5_8:List Int) (p5_9 p5_10:Int) (p5_11:List Int) (p5_12 p5_13:Int) (p5_14:List Int) (p3 p3_1:Int) (p3_2:List Int) (p6 p6_1:Int) (p6_2:List Int):Option DV:=cutAt A2.Solve.E N Tryz.f60 (Am Tryz.f60) [1,1,1,1,1,1] [] ⟨Fw 73 [(2,.ptr 2 0 0),(3,.ptr 3 0 0),(5,.ptr 5 0 0),(6,.ptr 6 0 0)],[(6,false,.box [.int .i64 p6,.int .i64 p6_1,.ints .fresh .u64 p6_2]),(5,false,.box [.int .i64 p5,.int .i64 p5_1,.ints .fresh .u64 p5_2,.int .i64 p5_3,.int .i64 p5_4,.ints .fresh .u64 p5_5,.int .i64 p5_6,.int .i64 p5_7,.ints .fresh .u64 p5_8,.int .i64 p5_9,.int .i64 p5_10,.ints .fresh .u64 p5_11,.int .i64 p5_12,.int .i64 p5_13,.ints .fresh .u64 p5_14]),(3,false,.box [.int .i64 p3,.int .i64 p3_1,.ints .fresh .u64 p3_2]),(2,false,.box [.int .i64 0,.int .i64 0,.nil]),(1,false,.box [.int .i64 r,.int .i64 c,.ints .arg .u64 l,.int .i64 p,.int .i64 q,.ints .arg .u64 m,.int .i64 u,.int .i64 v,.ints .arg .u64 h])]⟩
def A2.Solve.C12 (N:Nat) (r c:Int) (l:List Int) (p q:Int) (m:List Int) (u v:Int) (h:List Int) (p5 p5_1:Int) (p5_2:List Int) (p5_3 p5_4:Int) (p5_5:List Int) (p5_6 p5_7:Int) (p5_8:List Int) (p5_9 p5_10:Int) (p5_11:List Int) (p5_12 p5_13:Int) (p5_14:List Int) (p3 p3_1:Int) (p3_2:List Int) (p6 p6_1:Int) (p6_2:List Int) (p8 p8_1:Int) (p8_2:List Int):Option DV:=cutAt A2.Solve.E N Tryz.f60 (Am Tryz.f60) [1,1,1,1,1,1,1,0] [] ⟨Fw 73 [(2,.ptr 2 0 0),(3,.ptr 3 0 0),(5,.ptr 5 0 0),(8,.ptr 8 0 0)],[(8,false,.box [.int .i64 p8,.int .i64 p8_1,.ints .fresh .u64 p8_2]),(6,false,.box [.int .i64 p6,.int .i64 p6_1,.ints .fresh .u64 p6_2]),(5,false,.box [.int .i64 p5,.int .i64 p5_1,.ints .fresh .u64 p5_2,.int .i64 p5_3,.int .i64 p5_4,.ints .fresh .u64 p5_5,.int .i64 p5_6,.int .i64 p5_7,.ints .fresh .u64 p5_8,.int .i64 p5_9,.int .i64 p5_10,.ints .fresh .u64 p5_11,.int .i64 p5_12,.int .i64 p5_13,.ints .fresh .u64 p5_14]),(3,false,.box [.int .i64 p3,.int .i64 p3_1,.ints .fresh .u64 p3_2]),(2,false,.box [.int .i64 0,.int .i64 0,.nil]),(1,false,.box [.int .i64 r,.int .i64 c,.ints .arg .u64 l,.int .i64 p,.int .i64 q,.ints .arg .u64 m,.int .i64 u,.int .i64 v,.ints .arg .u64 h])]⟩
def A2.Solve.C15 (N:Nat) (r c:Int) (l:List Int) (p q:Int) (m:List Int) (u v:Int) (h:List Int) (p5 p5_1:Int) (p5_2:List Int) (p5_3 p5_4:Int) (p5_5:List Int) (p5_6 p5_7:Int) (p5_8:List Int) (p5_9 p5_10:Int) (p5_11:List Int) (p5_12 p5_13:Int) (p5_14:List Int) (p3 p3_1:Int) (p3_2:List Int) (p6 p6_1:Int) (p6_2:List Int) (p8 p8_1:Int) (p8_2:List Int) (p4_2 p2 p2_1:Int) (p2_2:List Int):Option DV:=cutAt A2.Solve.E N Tryz.f60 (Am Tryz.f60) [1,1,1,1,1,1,1,1,0,1] [] ⟨Fw 73 [(2,.ptr 2 0 0),(3,.ptr 3 0 0),(4,.int .i64 p4_2)],[(8,false,.box [.int .i64 p8,.int .i64 p8_1,.ints .fresh .u64 p8_2]),(6,false,.box [.int .i64 p6,.int .i64 p6_1,.ints .fresh .u64 p6_2]),(5,false,.box [.int .i64 p5,.int .i64 p5_1,.ints .fresh .u64 p5_2,.int .i64 p5_3,.int .i64 p5_4,.ints .fresh .u64 p5_5,.int .i64 p5_6,.int .i64 p5_7,.ints .fresh .u64 p5_8,.int .i64 p5_9,.int .i64 p5_10,.ints .fresh .u64 p5_11,.int .i64 p5_12,.int .i64 p5_13,.ints .fresh .u64 p5_14]),(3,false,.box [.int .i64 p3,.int .i64 p3_1,.ints .fresh .u64 p3_2]),(2,false,.box [.int .i64 p2,.int .i64 p2_1,.ints .fresh .u64 p2_2]),(1,false,.box [.int .i64 r,.int .i64 c,.ints .arg .u64 l,.int .i64 p,.int .i64 q,.ints .arg .u64 m,.int .i64 u,.int .i64 v,.ints .arg .u64 h])]⟩
theorem A2.Solve.Aqu (N:Nat) (r c:Int) (l:List Int) (p q:Int) (m:List Int) (u v:Int) (h:List Int) (p4 p5 p5_1:Int) (p5_2:List Int) (p5_3 p5_4:Int) (p5_5:List Int) (p5_6 p5_7:Int) (p5_8:List Int) (p5_9 p5_10:Int) (p5_11:List Int) (p5_12 p5_13:Int) (p5_14:List Int):A2.Solve.C5 N r c l p q m u v h p4 p5 p5_1 p5_2 p5_3 p5_4 p5_5 p5_6 p5_7 p5_8 p5_9 p5_10 p5_11 p5_12 p5_13 p5_14=bif (p4 !=(0:Int)) then some (.tup [.agg [.int .i64 0,.int .i64 0,.nil],.agg [.int .i64 0,.int .i64 0,.nil],.int .i64 p4]) else bif (Ah p5_14&&Ah p5_8) then A2.Solve.C8 N r c l p q m u v h p5 p5_1 p5_2 p5_3 p5_4 p5_5 p5_6 p5_7 p5_8 p5_9 p5_10 p5_11 p5_12 p5_13 p5_14 ((erZ (p5_12,p5_13,p5_14,0) (p5_6,p5_7,p5_8,0)).2.2.2) ((erZ (p5_12,p5_13,p5_14,0) (p5_6,p5_7,p5_8,0)).1) ((erZ (p5_12,p5_13,p5_14,0) (p5_6,p5_7,p5_8,0)).2.1) ((erZ (p5_12,p5_13,p5_14,0) (p5_6,p5_7,p5_8,0)).2.2.1) else none:=(Dp _ _ _ _ _ _ _).trans (by kernel_rfl)
theorem A2.Solve.Amp (N:Nat) (r c:Int) (l:List Int) (p q:Int) (m:List Int) (u v:Int) (h:List Int) (p5 p5_1:Int) (p5_2:List Int) (p5_3 p5_4:Int) (p5_5:List Int) (p5_6 p5_7:Int) (p5_8:List Int) (p5_9 p5_10:Int) (p5_11:List Int) (p5_12 p5_13:Int) (p5_14:List Int) (p4_1 p3 p3_1:Int) (p3_2:List Int):A2.Solve.C8 N r c l p q m u v h p5 p5_1 p5_2 p5_3 p5_4 p5_5 p5_6 p5_7 p5_8 p5_9 p5_10 p5_11 p5_12 p5_13 p5_14 p4_1 p3 p3_1 p3_2=bif (p4_1 !=(0:Int)) then some (.tup [.agg [.int .i64 0,.int .i64 0,.nil],.agg [.int .i64 0,.int .i64 0,.nil],.int .i64 p4_1]) else bif (Ah p5_11&&Ah p3_2) then A2.Solve.C11 N r c l p q m u v h p5 p5_1 p5_2 p5_3 p5_4 p5_5 p5_6 p5_7 p5_8 p5_9 p5_10 p5_11 p5_12 p5_13 p5_14 p3 p3_1 p3_2 ((Mc p5_9 p5_10 p5_11 p3 p3_1 p3_2).1) ((Mc p5_9 p5_10 p5_11 p3 p3_1 p3_2).2.1) ((Mc p5_9 p5_10 p5_11 p3 p3_1 p3_2).2.2.1) else none:=(Dp _ _ _ _ _ _ _).trans (by kernel_rfl)
theorem A2.Solve.Ac2 (N:Nat) (r c:Int) (l:List Int) (p q:Int) (m:List Int) (u v:Int) (h:List Int) (p5 p5_1:Int) (p5_2:List Int) (p5_3 p5_4:Int) (p5_5:List Int) (p5_6 p5_7:Int) (p5_8:List Int) (p5_9 p5_10:Int) (p5_11:List Int) (p5_12 p5_13:Int) (p5_14:List Int) (p3 p3_1:Int) (p3_2:List Int) (p6 p6_1:Int) (p6_2:List Int):A2.Solve.C11 N r c l p q m u v h p5 p5_1 p5_2 p5_3 p5_4 p5_5 p5_6 p5_7 p5_8 p5_9 p5_10 p5_11 p5_12 p5_13 p5_14 p3 p3_1 p3_2 p6 p6_1 p6_2=bif (Ah p5_5&&Ah p6_2) then A2.Solve.C12 N r c l p q m u v h p5 p5_1 p5_2 p5_3 p5_4 p5_5 p5_6 p5_7 p5_8 p5_9 p5_10 p5_11 p5_12 p5_13 p5_14 p3 p3_1 p3_2 p6 p6_1 p6_2 ((Ra p5_3 p5_4 p5_5 p6 p6_1 p6_2).1) ((Ra p5_3 p5_4 p5_5 p6 p6_1 p6_2).2.1) ((Ra p5_3 p5_4 p5_5 p6 p6_1 p6_2).2.2.1) else none:=(Dp _ _ _ _ _ _ _).trans (by kernel_rfl)
theorem A2.Solve.Vj (N:Nat) (r c:Int) (l:List Int) (p q:Int) (m:List Int) (u v:Int) (h:List Int) (p5 p5_1:Int) (p5_2:List Int) (p5_3 p5_4:Int) (p5_5:List Int) (p5_6 p5_7:Int) (p5_8:List Int) (p5_9 p5_10:Int) (p5_11:List Int) (p5_12 p5_13:Int) (p5_14:List Int) (p3 p3_1:Int) (p3_2:List Int) (p6 p6_1:Int) (p6_2:List Int) (p8 p8_1:Int) (p8_2:List Int):A2.Solve.C12 N r c l p q m u v h p5 p5_1 p5_2 p5_3 p5_4 p5_5 p5_6 p5_7 p5_8 p5_9 p5_10 p5_11 p5_12 p5_13 p5_14 p3 p3_1 p3_2 p6 p6_1 p6_2 p8 p8_1 p8_2=bif (Ah p8_2) then bif ((B5 p8 p8_1 p8_2) !=(0:Int)) then some (.tup [.agg [.int .i64 0,.int .i64 0,.nil],.agg [.int .i64 0,.int .i64 0,.nil],.int .i64 2]) else bif (Ah p5_2&&Ah p8_2) then A2.Solve.C15 N r c l p q m u v h p5 p5_1 p5_2 p5_3 p5_4 p5_5 p5_6 p5_7 p5_8 p5_9 p5_10 p5_11 p5_12 p5_13 p5_14 p3 p3_1 p3_2 p6 p6_1 p6_2 p8 p8_1 p8_2 ((Vy p5 p5_1 p5_2 p8 p8_1 p8_2).2.2.2) ((Vy p5 p5_1 p5_2 p8 p8_1 p8_2).1) ((Vy p5 p5_1 p5_2 p8 p8_1 p8_2).2.1) ((Vy p5 p5_1 p5_2 p8 p8_1 p8_2).2.2.1) else none else none:=(Dp _ _ _ _ _ _ _).trans (by kernel_rfl)
theorem A2.Solve.Aom (N:Nat) (r c:Int) (l:List Int) (p q:Int) (m:List Int) (u v:Int) (h:List Int) (p5 p5_1:Int) (p5_2:List Int) (p5_3 p5_4:Int) (p5_5:List Int) (p5_6 p5_7:Int) (p5_8:List Int) (p5_9 p5_10:Int) (p5_11:List Int) (p5_12 p5_13:Int) (p5_14:List Int) (p3 p3_1:Int) (p3_2:List Int) (p6 p6_1:Int) (p6_2:List Int) (p8 p8_1:Int) (p8_2:List Int) (p4_2 p2 p2_1:Int) (p2_2:List Int):A2.Solve.C15 N r c l p q m u v h p5 p5_1 p5_2 p5_3 p5_4 p5_5 p5_6 p5_7 p5_8 p5_9 p5_10 p5_11 p5_12 p5_13 p5_14 p3 p3_1 p3_2 p6 p6_1 p6_2 p8 p8_1 p8_2 p4_2 p2 p2_1 p2_2=bif (p4_2 !=(0:Int)) then some (.tup [.agg [.int .i64 0,.int .i64 0,.nil],.agg [.int .i64 0,.int .i64 0,.nil],.int .i64 p4_2]) else some (.tup [.agg [.int .i64 p2,.int .i64 p2_1,.ints .fresh .u64 p2_2],.agg [.int .i64 p3,.int .i64 p3_1,.ints .fresh .u64 p3_2],.int .i64 0]):=(Dp _ _ _ _ _ _ _).trans (by kernel_rfl)
theorem A2.Solve.ev (N:Nat) (r c:Int) (l:List Int) (p q:Int) (m:List Int) (u v:Int) (h:List Int):By A2.Solve.E N Tryz.f60 (Am Tryz.f60) [.agg [.int .i64 r,.int .i64 c,.ints .arg .u64 l,.int .i64 p,.int .i64 q,.ints .arg .u64 m,.int .i64 u,.int .i64 v,.ints .arg .u64 h]]=bif (R7 l m h) then bif ((Hw r c l p q m u v h) !=(0:Int)) then some (.tup [.agg [.int .i64 0,.int .i64 0,.nil],.agg [.int .i64 0,.int .i64 0,.nil],.int .i64 (Hw r c l p q m u v h)]) else bif (R7 l m h&&decide (Hw r c l p q m u v h=0)) then A2.Solve.C5 N r c l p q m u v h (gE r c l p q m u v h) ((Me (gE r c l p q m u v h) (gT r c l)).1) ((Me (gE r c l p q m u v h) (gT r c l)).2.1) ((Me (gE r c l p q m u v h) (gT r c l)).2.2.1) ((Me (gE r c l p q m u v h) (G3 c (gC r c l u v h))).1) ((Me (gE r c l p q m u v h) (G3 c (gC r c l u v h))).2.1) ((Me (gE r c l p q m u v h) (G3 c (gC r c l u v h))).2.2.1) ((Me (gE r c l p q m u v h) (Fa r c (gC r c l u v h))).1) ((Me (gE r c l p q m u v h) (Fa r c (gC r c l u v h))).2.1) ((Me (gE r c l p q m u v h) (Fa r c (gC r c l u v h))).2.2.1) ((Me (gE r c l p q m u v h) (G3 c (gC r c l p q m))).1) ((Me (gE r c l p q m u v h) (G3 c (gC r c l p q m))).2.1) ((Me (gE r c l p q m u v h) (G3 c (gC r c l p q m))).2.2.1) ((Me (gE r c l p q m u v h) (Fa r c (gC r c l p q m))).1) ((Me (gE r c l p q m u v h) (Fa r c (gC r c l p q m))).2.1) ((Me (gE r c l p q m u v h) (Fa r c (gC r c l p q m))).2.2.1) else none else none:=by kernel_rfl
abbrev _root_.Go.Proofs.S1.A2.Solve.Kn:=A7 Tryz.prog 60 A2.Solve.spec
theorem A2.Solve.Ad (hk:Ax Tryz.prog A2.Solve.Ba) (h:∀ (r c:Int) (l:List Int) (p q:Int) (m:List Int) (u v:Int) (h:List Int),A2.Solve.pre [.i r,.i c,.l l,.i p,.i q,.l m,.i u,.i v,.l h]=true→Bd A2.Solve.E Tryz.f60 [.agg [.int .i64 r,.int .i64 c,.ints .arg .u64 l,.int .i64 p,.int .i64 q,.ints .arg .u64 m,.int .i64 u,.int .i64 v,.ints .arg .u64 h]] (A2.Solve.out [.i r,.i c,.l l,.i p,.i q,.l m,.i u,.i v,.l h])):A2.Solve.Kn :=
  Al (A0 hk _ _ _) Tryz.func60 (by kernel_rfl) (by kernel_rfl) h
end EqGg
open EqGg
def Ou (o:Option DV) (d:DV):Prop:=∃ dv drops,o=some dv∧Wk drops dv d
theorem Qj {E:Env} {fn:Func} {ds:List DV} {d:DV} (h:Ou (By E 0 fn (Am fn) ds) d):Bd E fn ds d:=by
  obtain ⟨dv,drops,e1,e2⟩:=h
  exact ⟨0,dv,drops,e1,e2⟩
def T7 (x y:MX) (e:Int):DV:=.tup [.agg [.int .i64 x.1,.int .i64 x.2.1,.ints .fresh .u64 x.2.2.1],.agg [.int .i64 y.1,.int .i64 y.2.1,.ints .fresh .u64 y.2.2.1],.int .i64 e]
theorem Y0 {drops:List Nat} {r c:Int} {l:List Int}:Wk drops (.agg [.int .i64 r,.int .i64 c,.ints .fresh .u64 l]) (.agg [.int .i64 r,.int .i64 c,.ints .fresh .u64 l]):=Wk.Ip (.cons .int (.cons .int (.cons .Kf .nil)))
theorem Adh {o:Option DV} {x y:MX} {e:Int} (h:o=some (T7 x y e)):Ou o (T7 x y e):=⟨_,[],h,Wk.Gb (.cons Y0 (.cons Y0 (.cons .int .nil)))⟩
theorem Kv {o:Option DV} {e e1 e2:Int} (h:o=some (Wh e)):Ou o (T7 (Gd e1) (Gd e2) e):=⟨_,[],h,W8⟩
theorem rq.both.known:rq.both.Kn:=rq.both.Ad (.cons Aa.Cy.known .nil) fun r c l p q m _ =>
  ⟨0,_,[],rq.both.ev 0 r c l p q m,Wk.Gb (.cons Y0 (.cons Y0 .nil))⟩
theorem rq.Lq.known:rq.Lq.Kn:=rq.Lq.Ad (.cons Aa.Cy.known (.cons qr.Cv.known (.cons rq.both.known .nil))) fun r c l hp=>Qj (by
  have al:Ah l=true:=hp
  show Ou _ (T7 (Wl r c l) (Vr r c l) (Q6 r c l))
  rw [rq.Lq.ev]
  by_cases k:(A5 r c l).2.2.2=0
  · rw [Fo k,Aq0,N6 al,Aqw]
    by_cases kf:Gl (A5 r c l).1 (A5 r c l).2.1 (A5 r c l).2.2.1=0
    · have e:Q6 r c l=0:=by unfold Q6; rw [if_neg (fun h=>h k)]; exact kf
      have d1:Wl r c l=J8 (rX (A5 r c l).1 (A5 r c l).2.1 (A5 r c l).2.2.1):=by unfold Wl; rw [if_neg (fun h=>h e)]
      have d2:Vr r c l=J8 (qX (A5 r c l).1 (A5 r c l).2.1 (A5 r c l).2.2.1):=by unfold Vr; rw [if_neg (fun h=>h e)]
      rw [Fo kf,Aq0,d1,d2,e]
      exact Adh rfl
    · have e:Q6 r c l=Gl (A5 r c l).1 (A5 r c l).2.1 (A5 r c l).2.2.1:=by unfold Q6; rw [if_neg (fun h=>h k)]
      have d1:Wl r c l=Gd (Q6 r c l):=by unfold Wl; rw [if_pos (by rw [e]; exact kf)]
      have d2:Vr r c l=Gd (Q6 r c l):=by unfold Vr; rw [if_pos (by rw [e]; exact kf)]
      rw [Rq kf,Aqw,d1,d2,e]
      exact Kv rfl
  · have e:Q6 r c l=(A5 r c l).2.2.2:=by unfold Q6; rw [if_pos k]
    have d1:Wl r c l=Gd (Q6 r c l):=by unfold Wl; rw [if_pos (by rw [e]; exact k)]
    have d2:Vr r c l=Gd (Q6 r c l):=by unfold Vr; rw [if_pos (by rw [e]; exact k)]
    rw [Rq k,Aqw,d1,d2,e]
    exact Kv rfl)
theorem Amh {r c:Int} {l:List Int} (al:Ah l=true):Ah (Wl r c l).2.2.1=true∧Ah (Vr r c l).2.2.1=true:=by
  unfold Wl Vr
  by_cases k:Q6 r c l=0
  · rw [if_neg (fun h=>h k),if_neg (fun h=>h k)]
    exact ⟨N6 (Zr (N6 al)).2,N6 (Zr (N6 al)).1⟩
  · rw [if_pos k,if_pos k]; exact ⟨El,El⟩
theorem Afg {r c p q u v:Int} (h:0≤c∧c≤6) (h':0≤q∧q≤6) :
    (((((p !=r)||(u !=r))||(v !=(1:Int)))||(A1 r c))||(A1 (Ab (c+q)) r))=decide (p≠r∨u≠r∨v≠1∨r<c∨c+q<r):=by
  rw [An (by omega) (by omega),Aq,Aq,Arc]
  simp [or_assoc]
theorem A2.Check.known:A2.Check.Kn:=A2.Check.Ad (.cons B4.Check.known .nil) fun r c l p q m u v h hp=>by
  obtain ⟨h1,ah⟩:=Af.1 (show ((Ah l&&Ah m)&&Ah h)=true from hp)
  obtain ⟨al,am⟩:=Af.1 h1
  refine ⟨0+5,A2.Check.out [.i r,.i c,.l l,.i p,.i q,.l m,.i u,.i v,.l h],[],?_,.int⟩
  show _=some (DV.int .i64 (Hw r c l p q m u v h))
  rw [A2.Check.ev,al,am,ah,Aqw,Aqw,Aqw]
  unfold Hw
  by_cases k1:B5 r c l=0
  · rw [Fo k1,Aq0,if_neg (fun h=>h k1)]
    by_cases k2:B5 p q m=0
    · rw [Fo k2,Aq0,if_neg (fun h=>h k2)]
      by_cases k4:B5 u v h=0
      · rw [Fo k4,Aq0,if_neg (fun h=>h k4)]
        have s1:=T2 (Gs k1).1
        have s2:=T2 (Gs k2).1
        rw [Afg s1.2.2 s2.2.2]
        by_cases k5:p≠r∨u≠r∨v≠1∨r<c∨c+q<r
        · rw [Aqx k5,Aqw,if_pos k5]
        · rw [Aq1 k5,Aq0,if_neg k5]
      · rw [Rq k4,Aqw,if_pos k4]
    · rw [Rq k2,Aqw,if_pos k2]
  · rw [Rq k1,Aqw,if_pos k1]
theorem Ts {r c:Int} {l:List Int} {p q:Int} {m:List Int} {u v:Int} {h:List Int} (e:Hw r c l p q m u v h=0) :
    B5 r c l=0∧B5 p q m=0∧B5 u v h=0∧p=r∧u=r∧v=1∧c≤r∧r≤c+q:=by
  unfold Hw at e
  by_cases k1:B5 r c l=0
  · rw [if_neg (fun h=>h k1)] at e
    by_cases k2:B5 p q m=0
    · rw [if_neg (fun h=>h k2)] at e
      by_cases k4:B5 u v h=0
      · rw [if_neg (fun h=>h k4)] at e
        by_cases k5:p≠r∨u≠r∨v≠1∨r<c∨c+q<r
        · rw [if_pos k5] at e; exact absurd e (by decide)
        · exact ⟨k1,k2,k4,by omega⟩
      · rw [if_pos k4] at e; exact absurd e k4
    · rw [if_pos k2] at e; exact absurd e k2
  · rw [if_pos k1] at e; exact absurd e k1
theorem A2.D2.known:A2.D2.Kn:=A2.D2.Ad (.cons Aa.Part.known .nil) fun r c l x y hp=>by
  have h:=Ao.1 (show Cn (-100≤x∧x≤100∧-100≤y∧y≤100)=true from hp)
  have e:=A2.D2.ev 0 r c l x y
  rw [An (by omega) (by omega)] at e
  exact ⟨0,_,[],e,Y0⟩
def Akr (a b c d f:MX) (e:Int):DV:=.tup [.agg [.int .i64 a.1,.int .i64 a.2.1,.ints .fresh .u64 a.2.2.1,.int .i64 b.1,.int .i64 b.2.1,.ints .fresh .u64 b.2.2.1,.int .i64 c.1,.int .i64 c.2.1,.ints .fresh .u64 c.2.2.1,.int .i64 d.1,.int .i64 d.2.1,.ints .fresh .u64 d.2.2.1,.int .i64 f.1,.int .i64 f.2.1,.ints .fresh .u64 f.2.2.1],.int .i64 e]
def Aqc (e:Int):DV:=.tup [.agg [.int .i64 0,.int .i64 0,.nil,.int .i64 0,.int .i64 0,.nil,.int .i64 0,.int .i64 0,.nil,.int .i64 0,.int .i64 0,.nil,.int .i64 0,.int .i64 0,.nil],.int .i64 e]
theorem Akp {o:Option DV} {a b c d f:MX} {e:Int} (h:o=some (Akr a b c d f e)):Ou o (Akr a b c d f e) :=
  ⟨_,[],h,Wk.Gb (.cons (Wk.Ip (.cons .int (.cons .int (.cons .Kf (.cons .int (.cons .int (.cons .Kf (.cons .int (.cons .int (.cons .Kf (.cons .int (.cons .int (.cons .Kf (.cons .int (.cons .int (.cons .Kf .nil)))))))))))))))) (.cons .int .nil))⟩
theorem Akq {o:Option DV} {e:Int} (h:o=some (Aqc e)) {a b c d f:Int}:Ou o (Akr (Gd a) (Gd b) (Gd c) (Gd d) (Gd f) e) :=
  ⟨_,[],h,Wk.Gb (.cons (Wk.Ip (.cons .int (.cons .int (.cons Hs (.cons .int (.cons .int (.cons Hs (.cons .int (.cons .int (.cons Hs (.cons .int (.cons .int (.cons Hs (.cons .int (.cons .int (.cons Hs .nil)))))))))))))))) (.cons .int .nil))⟩
theorem Np {e:Int} (h:e=0) (x:MX):Me e x=x:=by unfold Me; rw [if_neg (fun k=>k h)]
theorem U1 {e:Int} (h:e≠0) (x:MX):Me e x=Gd e:=by unfold Me; rw [if_pos h]
def Aer (e:Int) (a b c d f:MX):DV:=Akr (Me e a) (Me e b) (Me e c) (Me e d) (Me e f) e
theorem S7 {o:Option DV} {e:Int} {a b c d f:MX} (he:e≠0) (h:o=some (Aqc e)):Ou o (Aer e a b c d f):=by
  unfold Aer
  rw [U1 he,U1 he,U1 he,U1 he,U1 he]
  exact Akq h
section
variable {N:Nat} {r c p q u v:Int} {l m h:List Int} {R Q T C W:MX}
theorem An2 (hr:0≤r∧r≤6) (hc:0≤c∧c≤6):Ou (A2.apart.C14 N r c l p q m u v h R.1 R.2.1 R.2.2.1 Q.1 Q.2.1 Q.2.2.1 T.1 T.2.1 T.2.2.1 C.1 C.2.1 C.2.2.1 W.1 W.2.1 W.2.2.1) (Aer 0 T (G3 c C) (Fa r c C) (G3 c W) (Fa r c W)):=by
  rw [A2.apart.Vi,Ao.2 (show -100≤(0:Int)∧(0:Int)≤100∧-100≤c∧c≤100 by omega),Ao.2 (show -100≤c∧c≤100∧-100≤r∧r≤100 by omega),Aqw,Aqw,Aqw,Aqw,Int.sub_zero]
  exact Akp rfl
theorem An3 (hr:0≤r∧r≤6) (hc:0≤c∧c≤6) (aC:Ah C.2.2.1=true) (aW:Ah W.2.2.1=true):Ou (A2.apart.C12 N r c l p q m u v h R.1 R.2.1 R.2.2.1 Q.1 Q.2.1 Q.2.2.1 T.1 T.2.1 T.2.2.1 C.1 C.2.1 C.2.2.1 W.1 W.2.1 W.2.2.1)
    (Aer (if Nw C≠0∨Nw W≠0 then 2 else 0) T (G3 c C) (Fa r c C) (G3 c W) (Fa r c W)):=by
  rw [A2.apart.Vj,aC,aW,Bool.or_true,Aqw,Aqw]
  by_cases k1:Nw C=0
  · rw [Fo (show B5 C.1 C.2.1 C.2.2.1=0 from k1),Bool.false_or]
    by_cases k2:Nw W=0
    · rw [Fo (show B5 W.1 W.2.1 W.2.2.1=0 from k2),Aq0,if_neg (fun h=>h.elim (fun h=>h k1) (fun h=>h k2))]
      exact An2 hr hc
    · rw [Rq (show B5 W.1 W.2.1 W.2.2.1≠0 from k2),Aqw,if_pos (.inr k2)]
      exact S7 (by decide) rfl
  · rw [Rq (show B5 C.1 C.2.1 C.2.2.1≠0 from k1),Bool.true_or,Aqw,if_pos (.inl k1)]
    exact S7 (by decide) rfl
theorem Aqi (hr:0≤r∧r≤6) (hc:0≤c∧c≤6) (aT:Ah T.2.2.1=true) (aQ:Ah Q.2.2.1=true) (ah:Ah h=true) (am:Ah m=true):Ou (A2.apart.C7 N r c l p q m u v h R.1 R.2.1 R.2.2.1 Q.1 Q.2.1 Q.2.2.1 T.1 T.2.1 T.2.2.1)
    (Aer (if Sm T=true then 5 else if Nw (Fg Q (u,v,h,0))≠0∨Nw (Fg Q (p,q,m,0))≠0 then 2 else 0) T (G3 c (Fg Q (u,v,h,0))) (Fa r c (Fg Q (u,v,h,0))) (G3 c (Fg Q (p,q,m,0))) (Fa r c (Fg Q (p,q,m,0)))):=by
  rw [A2.apart.Ajs,aT,Aqw]
  cases k:Sm T with
  | true =>
    rw [show (Mw T.1 T.2.1 T.2.2.1).1=true from k,Aqw,if_pos rfl]
    exact S7 (by decide) rfl
  | false =>
    rw [show (Mw T.1 T.2.1 T.2.2.1).1=false from k,Aq0,if_neg (by decide),aQ,ah,Aq2,Aqw,A2.apart.Ac2,aQ,am,Aq2,Aqw]
    exact An3 (C:=Fg Q (u,v,h,0)) (W:=Fg Q (p,q,m,0)) hr hc (Jy _ _ _ _ _ _) (Jy _ _ _ _ _ _)
theorem A2.apart.known:A2.apart.Kn:=A2.apart.Ad (.cons B4.Check.known (.cons A2.D2.known (.cons qr.Cv.known (.cons qr.Ec.known (.cons solve.Flat.known .nil))))) fun r c l p q m u v h hp=>Qj (by
  obtain ⟨h0,hz⟩:=Af.1 (show (R7 l m h&&decide (Hw r c l p q m u v h=0))=true from hp)
  obtain ⟨h1,ah⟩:=Af.1 (show ((Ah l&&Ah m)&&Ah h)=true from h0)
  obtain ⟨al,am⟩:=Af.1 h1
  obtain ⟨k1,_⟩:=Ts (of_decide_eq_true hz)
  have s1:=T2 (Gs k1).1
  show Ou _ (Aer (gE r c l p q m u v h) (gT r c l) (G3 c (gC r c l u v h)) (Fa r c (gC r c l u v h)) (G3 c (gC r c l p q m)) (Fa r c (gC r c l p q m)))
  rw [A2.apart.ev,al,Aqw,A2.apart.Ajt]
  unfold gE
  by_cases k:Gl r c l=0
  · rw [Fo k,Aq0,if_neg (fun h=>h k),Ao.2 (show -100≤(0:Int)∧(0:Int)≤100∧-100≤c∧c≤100 by omega),Aqw,Int.sub_zero]
    exact Aqi (R:=rX r c l) (Q:=qX r c l) (T:=gT r c l) ⟨s1.1,s1.2.1⟩ s1.2.2 (Ku (Zr al).2 _ _ _ _) (Zr al).1 ah am
  · rw [Rq k,Aqw,if_pos k]
    exact S7 k rfl)
end
def Aa4 (o:Option DV) (x:MX):Prop:=Ou o (Pg x)
theorem Xp {o:Option DV} {x:MX} (h:o=some (Pg x)):Aa4 o x:=⟨_,[],h,Ly⟩
theorem Xq {o:Option DV} {e:Int} (h:o=some (Aev e)):Aa4 o (Gd e):=⟨_,[],h,Kp⟩
section
variable {N:Nat} {r c p q:Int} {l m:List Int} {Q L S w o y:MX}
theorem An8 (ay:Ah y.2.2.1=true):Aa4 (A2.errors.C14 N r c l p q m Q.1 Q.2.1 Q.2.2.1 L.1 L.2.1 L.2.2.1 S.1 S.2.1 S.2.2.1 w.1 w.2.1 w.2.2.1 o.1 o.2.1 o.2.2.1 y.2.2.2 y.1 y.2.1 y.2.2.1) (y.1,y.2.1,y.2.2.1,(Afk y).2.2.2):=by
  rw [A2.errors.Vi,ay,Bool.or_true,Aqw]
  unfold Afk Afl
  by_cases k:y.2.2.2=0
  · rw [k,if_neg (fun h=>h rfl),show ((0:Int)==0)=true from rfl,Bool.true_and]
    by_cases k1:B5 y.1 y.2.1 y.2.2.1=0
    · rw [Fo k1,Aq0,if_neg (fun h=>h k1)]; exact Xp rfl
    · rw [Rq k1,Aqw,if_pos k1]; exact Xp rfl
  · rw [show (y.2.2.2==(0:Int))=false from by rw [beq_eq_false_iff_ne]; exact k,Bool.false_and,Aq0,if_pos k]; exact Xp rfl
theorem A2.errors.known:A2.errors.Kn:=A2.errors.Ad (.cons B4.Check.known (.cons Aa.Part.known (.cons qr.Ec.known (.cons rq.Lq.known (.cons solve.Flat.known (.cons solve.Gj.known .nil)))))) fun r c l p q m hp=>Qj (by
  obtain ⟨al,am⟩:=Af.1 (show (Ah l&&Ah m)=true from hp)
  show Aa4 _ (erZ (r,c,l,0) (p,q,m,0))
  rw [A2.errors.ev,al,Aqw,A2.errors.Ajt]
  unfold erZ
  by_cases k:Q6 r c l=0
  · rw [Fo k,Aq0,if_neg (fun h=>h k),A2.errors.Aqt,Ku (Amh al).1,Aqw]
    cases kf:Sm (U6 (r,c,l,0)) with
    | true =>
      refine (congrArg (fun o=>Aa4 o _) ((congrArg (fun x=>bif x then _ else _) (show _=true from kf)).trans (Aqw _ _))).mpr ?_
      rw [if_pos rfl]
      exact Xq rfl
    | false =>
      refine (congrArg (fun o=>Aa4 o _) ((congrArg (fun x=>bif x then _ else _) (show _=false from kf)).trans (Aq0 _ _))).mpr ?_
      rw [if_neg (by decide),am,Bool.and_true,Aqw,A2.errors.Aoo]
      by_cases k2:(Um (U6 (r,c,l,0)) (p,q,m,0)).2.2.2=0
      · refine (congrArg (fun o=>Aa4 o _) ((congrArg (fun x=>bif x then _ else _) (Fo k2)).trans (Aq0 _ _))).mpr ?_
        rw [if_neg (fun h=>h k2),A2.errors.Aon,Ku (Amh al).2,Ahy,Aq2,Aqw]
        exact An8 (Q:=Vr r c l) (L:=Wl r c l) (S:=U6 (r,c,l,0)) (w:=Um (U6 (r,c,l,0)) (p,q,m,0)) (o:=erO (r,c,l,0)) (y:=Fg (erO (r,c,l,0)) (Um (U6 (r,c,l,0)) (p,q,m,0))) (Jy _ _ _ _ _ _)
      · refine (congrArg (fun o=>Aa4 o _) ((congrArg (fun x=>bif x then _ else _) (Rq k2)).trans (Aqw _ _))).mpr ?_
        rw [if_pos k2]; exact Xq rfl
  · rw [Rq k,Aqw,if_pos k]; exact Xq rfl)
end
end Go.Proofs.S1
end
