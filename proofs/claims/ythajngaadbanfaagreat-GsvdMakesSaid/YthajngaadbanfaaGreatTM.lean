/- A verified evaluator of the program's form and its use for this seat: S1PSort, S1EqSvd, S1PSvd, S1PSvdA, S1POfS, S1EqRef20, S1PSubSt, S1EqRef19, TileL, BndM, SvdN, S1PRef19, S1PRef19A, S1EqBes, S1PBes, S1EqLow, S1PLow, S1EqLse, S1PLse, S1PLseA, S1PRefL, S1PRef20. -/
import Derived.Test.YthajngaadbanfaaGreatTK
import Derived.Test.YthajngaadbanfaaGreatTL
import Derived.Test.YthajngaadbanfaaGreatTE
import Derived.Test.YthajngaadbanfaaGreatTF
import Derived.Test.YthajngaadbanfaaGreatTI
import Derived.Test.YthajngaadbanfaaGreatTJ
set_option linter.unusedVariables false
set_option linter.unusedSimpArgs false
noncomputable section
open Int (toNat)
open List (length getD)
open Go.Proofs.Tryz
namespace Go.Proofs.S1
open Go Go.Den Go.Rnd Go.Proofs
open EqSort
theorem B4.D8.known:B4.D8.Kn:=B4.D8.Ad (.cons compare.Order.known .nil) fun i k l hp=>by
 obtain ⟨hl,hp⟩:=Ac.1 (show (Bs l&&B5 (0≤i∧i<((length l:Nat):Int)∧0≤k∧k<((length l:Nat):Int)))=true from hp)
 obtain ⟨h1,h2,h3,h4⟩:=Aq.1 hp
 obtain ⟨_,hu⟩:=Hs hl
 refine ⟨0,.int .i64 (Hq (Ll l k) (Ll l i)),[],?_,.int⟩
 rw [B4.D8.ev,A4h h3,A4h h4,A4m,A4g,A4h h1,A4h h2,A4m,A4g,hu _ (by omega),hu _ (by omega),A4m,A4g]
 rfl
theorem Ao6 (N M0:Nat) {l:List Int} (hl:Bs l=true) {b p8 v:Int}:∀ (R B:List Int) (F:Nat),Jg l.length (R.reverse++v::B)=true→R.length<F→R.length+B.length≤100 →
 Bl.Ap.L1 N M0 F 0 b l (R.length:Int) (R.reverse++v::B) p8=Bl.Ap.L0 N M0 0 b l (Ab (p8+1)) ((P0 (Ll l) v R).reverse++B):=by
 intro R
 induction R with
 | nil =>
   intro B F hx hF hs
   obtain ⟨F,rfl⟩:∃ G,F=G+1:=⟨F-1,by simp at hF; omega⟩
   rw [Bl.Ap.Cd,Av,A4l (show ¬ (0:Int)<((([]:List Int).length:Nat):Int) by simp)]
   simp only [A5z,Bool.true_or,A4g,Bool.false_and,A4k]
   rfl
 | cons y t ih =>
   intro B F hx hF hs
   obtain ⟨F,rfl⟩:∃ G,F=G+1:=⟨F-1,by simp at hF; omega⟩
   have hlen:(((y::t).reverse++v::B).length)=t.length+2+B.length:=by simp; omega
   have e1:Ab (((y::t).length:Int)-1)=(t.length:Int):=by
    rw [An (by simp) (by simp at hs ⊢; omega)]; simp
   have eA:(y::t).reverse++v::B=t.reverse++y::v::B:=by simp
   have g1:getD ((y::t).reverse++v::B) (t.length+1) 0=v:=by
    have:=Aif (y::t).reverse B v
    rw [List.length_reverse] at this; exact this
   have g2:getD ((y::t).reverse++v::B) t.length 0=y:=by
    rw [eA]
    have:=Aif t.reverse (v::B) y
    rw [List.length_reverse] at this; exact this
   have p1:=So hx (j:=t.length+1) (by omega)
   have p2:=So hx (j:=t.length) (by omega)
   rw [g1] at p1; rw [g2] at p2
   rw [Bl.Ap.Cd,e1,Av,A4h (show (0:Int)<(((y::t).length:Nat):Int) by simp)]
   simp only [A5f,Bool.false_or,A5t]
   rw [show toNat (((y::t).length:Nat):Int)=t.length+1 by simp,A4i,g1,g2,List.length_set,hlen,
    A4h (show (0:Int)≤(((y::t).length:Nat):Int) by omega),A4h (show (((y::t).length:Nat):Int)<((t.length+2+B.length:Nat):Int) by simp; omega),A4m,A4g,
    A4h (show t.length+1<t.length+2+B.length by omega),A4g,A4h (show (0:Int)≤((t.length:Nat):Int) by omega),A4h (show ((t.length:Nat):Int)<((t.length+2+B.length:Nat):Int) by omega),A4m,A4g,
    A4h (show t.length<t.length+2+B.length by omega),A4g,show (Bs l&&B5 (0≤v∧v<((length l:Nat):Int)∧0≤y∧y<((length l:Nat):Int)))=true from Ac.2 ⟨hl,Aq.2 ⟨p1.1,p1.2,p2.1,p2.2⟩⟩,A4g,Av]
   by_cases hlt:Hq (Ll l y) (Ll l v)<0
   ·rw [A4h hlt]
    simp only [A4g]
    have hsw:(List.set (List.set ((y::t).reverse++v::B) (t.length+1) y) t.length v)=t.reverse++v::(y::B):=by
     rw [eA]
     have:=Anj t.reverse B y v
     rw [List.length_reverse] at this; exact this
    rw [hsw]
    have hx':Jg l.length (t.reverse++v::(y::B))=true:=Jx.2 fun z hz=>Jx.1 hx z (by
     rw [eA]
     simp only [List.mem_append,List.mem_cons] at hz ⊢
     rcases hz with h | h | h | h
     ·exact .inl h
     ·exact .inr (.inr (.inl h))
     ·exact .inr (.inl h)
     ·exact .inr (.inr (.inr h)))
    rw [ih (y::B) F hx' (by simp at hF; omega) (by simp at hs ⊢; omega)]
    congr 1
    rw [show P0 (Ll l) v (y::t)=y::P0 (Ll l) v t from A43 hlt]
    simp
   ·rw [A4l hlt,A4k,show P0 (Ll l) v (y::t)=v::y::t from A42 hlt]
    congr 1
    simp
theorem Ao5 (N:Nat) {l x:List Int} (hl:Bs l=true) (hx:Jg l.length x=true) (h6:x.length≤6):∀ (k i F:Nat),i+k=x.length→k<F→6<N →
 Bl.Ap.L0 N F 0 (x.length:Int) l (i:Int) ((Sa (Ll l) (x.take i)).reverse++x.drop i)=some (E5 l x):=by
 intro k
 induction k with
 | zero =>
   intro i F hi hF hN
   obtain ⟨F,rfl⟩:∃ G,F=G+1:=⟨F-1,by omega⟩
   rw [Bl.Ap.Ar,Av,A4l (by omega),A4k,List.take_of_length_le (by omega),A4u (by omega),List.append_nil]; rfl
 | succ k ih =>
   intro i F hi hF hN
   obtain ⟨F,rfl⟩:∃ G,F=G+1:=⟨F-1,by omega⟩
   have hd:x.drop i=x.getD i 0::x.drop (i+1):=by
    rw [List.drop_eq_getElem_cons (by omega),A4q,A4x (by omega)]; rfl
   have hlen:(Sa (Ll l) (x.take i)).length=i:=by rw [Vk,List.length_take]; omega
   have:=Ao6 N F hl (b:=(x.length:Int)) (p8:=(i:Int)) (v:=x.getD i 0) (Sa (Ll l) (x.take i)) (x.drop (i+1)) N (Jx.2 fun z hz=>Jx.1 hx z (by
    rw [List.mem_append,List.mem_reverse,List.mem_cons] at hz
    rcases hz with h | h | h
    ·exact List.mem_of_mem_take (Ac3 h)
    ·rw [h,A4q,A4x (show i<x.length by omega)]; exact List.getElem_mem _
    ·exact List.mem_of_mem_drop h)) (by omega) (by rw [List.length_drop]; omega)
   rw [hlen] at this
   rw [Bl.Ap.Ar,Av,A4h (by omega),A4g,hd,this,An (by omega) (by omega),← Ajy]
   have e:x.take i++[x.getD i 0]=x.take (i+1):=by
    rw [List.take_succ_eq_append_getElem (by omega),A4q,A4x (show i<x.length by omega)]; rfl
   rw [e]
   exact ih (i+1) F (by omega) (by omega) hN
theorem Bl.Ap.known:Bl.Ap.Kn:=Bl.Ap.Ad (.cons B4.D8.known .nil) fun x a b l hp=>by
 obtain ⟨hl,hp⟩:=Ac.1 (show (Bs l&&B5 (Jg (length l) x=true∧length x≤6∧a=0∧b=((length x:Nat):Int)))=true from hp)
 obtain ⟨hx,h6,rfl,rfl⟩:=Aq.1 hp
 refine ⟨8,?_⟩
 rw [Bl.Ap.ev,An (by decide) (by decide)]
 show _=some (E5 l x)
 cases x with
 | nil=>rw [Bl.Ap.Ar,Av,A4l (by simp),A4k]; rfl
 | cons y t =>
   have:=Ao5 8 hl hx h6 t.length 1 8 (by simp; omega) (by simp at h6; omega) (by decide)
   exact this
theorem Bl.A4.known:Bl.A4.Kn:=Bl.A4.Ad .nil Bl.Ap.known fun x n l hp=>by
 obtain ⟨hl,hp⟩:=Ac.1 (show (Bs l&&B5 (Jg (length l) x=true∧length x≤6∧n=((length x:Nat):Int)))=true from hp)
 obtain ⟨hx,h6,rfl⟩:=Aq.1 hp
 refine ⟨1,?_⟩
 rw [Bl.A4.ev,Bl.A4.Ar,Fk,A4l (by omega),A4k,show (Bs l&&B5 (Jg (length l) x=true∧length x≤6∧(0:Int)=0∧((length x:Nat):Int)=((length x:Nat):Int)))=true from Ac.2 ⟨hl,Aq.2 ⟨hx,h6,rfl,rfl⟩⟩,A4g,Bl.A4.Cd,Av,A4l (by omega),A4k]
 rfl
theorem Bl.A7.known:Bl.A7.Kn:=Bl.A7.Ad .nil Bl.A4.known fun x l hp=>by
 obtain ⟨hl,hp⟩:=Ac.1 (show (Bs l&&B5 (Jg (length l) x=true∧length x≤6))=true from hp)
 obtain ⟨hx,h6⟩:=Aq.1 hp
 refine ⟨0,?_⟩
 rw [Bl.A7.ev,show (Bs l&&B5 (Jg (length l) x=true∧length x≤6∧((length x:Nat):Int)=((length x:Nat):Int)))=true from Ac.2 ⟨hl,Aq.2 ⟨hx,h6,rfl⟩⟩,A4g]
 rfl
set_option maxRecDepth 100000
namespace EqSvd
def B4.Cs.Bc:List (Nat × Entry):=[(80,compare.Hy.spec),(78,compare.Lt.spec),(68,Aa.D6.spec),(81,soft.Du.spec),(181,soft.Sign.spec),(137,Ag.Add.spec),(82,Ag.Div.spec),(134,Ag.H9.spec),(138,Ag.Mul.spec),(67,Ag.Norm.spec),(79,Ag.Bu.spec),(139,Ag.Sqrt.spec),(201,Ag.Sub.spec)]
def B4.Cs.live:Nat→Option (List Nat)
 | 2=>some [3,8,9,10]
 | 5=>some [3,8,9,10,11,13,15]
 | 8=>some [8,9,10,15]
 | 11=>some [8,22]
 | 12=>some [8,22,23]
 | 13=>some [8,22,24]
 | 15=>some [8,24]
 | _=>none
def B4.Cs.E:Env:=Bi (Be B4.Cs.Bc) (fun _=>false) (fun _=>none) B4.Cs.live
section
variable (N:Nat) (r c:Int) (l:List Int) (i k p24_1 p22 p24 p23 b:Int) (p9 p10:List Int) (p11 p13 p15:Int)
def B4.Cs.C2:Option DV:=cutAt B4.Cs.E N f169 (Ak f169) [1,1] [] ⟨Ff 114 [(3,.int .u64 b),(8,.ptr 8 0 0),(9,.ints .fresh .u64 p9),(10,.ints .fresh .u64 p10)],[(8,false,.box [.int .u64 0,.int .u64 0,.bool false]),(4,false,.box [.int .i64 r,.int .i64 c,.ints .arg .u64 l])]⟩
def B4.Cs.C5:Option DV:=cutAt B4.Cs.E N f169 (Ak f169) [1,1,1,1,1] [] ⟨Ff 114 [(3,.int .u64 b),(8,.ptr 8 0 0),(9,.ints .fresh .u64 p9),(10,.ints .fresh .u64 p10),(11,.int .u64 p11),(13,.int .u64 p13),(15,.int .u64 p15)],[(8,false,.box [.int .u64 0,.int .u64 0,.bool false]),(4,false,.box [.int .i64 r,.int .i64 c,.ints .arg .u64 l])]⟩
def B4.Cs.C8:Option DV:=cutAt B4.Cs.E N f169 (Ak f169) [1,1,1,1,1,1,1] [] ⟨Ff 114 [(8,.ptr 8 0 0),(9,.ints .fresh .u64 p9),(10,.ints .fresh .u64 p10),(15,.int .u64 p15)],[(8,false,.box [.int .u64 0,.int .u64 0,.bool false]),(4,false,.box [.int .i64 r,.int .i64 c,.ints .arg .u64 l])]⟩
def B4.Cs.C11:Option DV:=cutAt B4.Cs.E N f169 (Ak f169) [1,1,1,1,1,1,1,1,1,1] [] ⟨Ff 114 [(8,.ptr 8 0 0),(22,.int .u64 p22)],[(8,false,.box [.int .u64 0,.int .u64 0,.bool false]),(4,false,.box [.int .i64 r,.int .i64 c,.ints .arg .u64 l])]⟩
def B4.Cs.C12:Option DV:=cutAt B4.Cs.E N f169 (Ak f169) [1,1,1,1,1,1,1,1,1,1,1] [] ⟨Ff 114 [(8,.ptr 8 0 0),(22,.int .u64 p22),(23,.int .u64 p23)],[(8,false,.box [.int .u64 0,.int .u64 0,.bool false]),(4,false,.box [.int .i64 r,.int .i64 c,.ints .arg .u64 l])]⟩
def B4.Cs.C13:Option DV:=cutAt B4.Cs.E N f169 (Ak f169) [1,1,1,1,1,1,1,1,1,1,1,1,0] [] ⟨Ff 114 [(8,.ptr 8 0 0),(22,.int .u64 p22),(24,.int .u64 p24)],[(8,false,.box [.int .u64 0,.int .u64 0,.bool false]),(4,false,.box [.int .i64 r,.int .i64 c,.ints .arg .u64 l])]⟩
def B4.Cs.C15:Option DV:=cutAt B4.Cs.E N f169 (Ak f169) [1,1,1,1,1,1,1,1,1,1,1,1,1] [] ⟨Ff 114 [(8,.ptr 8 0 0),(24,.int .u64 p24_1)],[(8,false,.box [.int .u64 0,.int .u64 0,.bool false]),(4,false,.box [.int .i64 r,.int .i64 c,.ints .arg .u64 l])]⟩
theorem B4.Cs.Ajh:B4.Cs.C2 N r c l b p9 p10=bif (Bs p9&&B5 (length p9≤64)) then bif (Bs p10&&B5 (length p10≤64)) then bif ((Mb p9 p10&&Al p9)&&Al p10) then B4.Cs.C5 N r c l b p9 p10 (Bt p9) (Bt p10) (Hj p9 p10) else none else none else none:=(Di _ _ _ _ _ _ _).trans (by kernel_rfl)
theorem B4.Cs.Ajf:B4.Cs.C5 N r c l b p9 p10 p11 p13 p15=bif (Af p11&&Af p13) then bif (Df (Cc p11 p13) (-44:Int)) then bif (Af b&&Af p11) then bif ((!(decide (Hq b p11<0)))||(Af b&&Af p13)) then bif (((!(decide (Hq b p11<0)))||(!(decide (Hq b p13<0))))||(Af p15)) then bif (((!(decide (Hq b p11<0)))||(!(decide (Hq b p13<0))))||(Af (Bg (Cc p11 p13) (-44:Int))&&Af (Iw p15))) then bif (((!(decide (Hq b p11<0)))||(!(decide (Hq b p13<0))))||(!(decide (Hq (Bg (Cc p11 p13) (-44:Int)) (Iw p15)<0)))) then some (.agg [.int .u64 0,.int .u64 0,.bool true]) else B4.Cs.C8 N r c l p9 p10 p15 else none else none else none else none else none else none :=
 Eq.trans ((Di _ _ _ _ _ _ _).trans (by kernel_rfl))
 (E1 (E1 (E1 (Ax (W7 (decide (Hq b p11<0))) (Ax (W7 (decide (Hq b p11<0))) (Cw (Aw5 _ _) (Ax (R3 (decide (Hq b p11<0))) (Ax (Zu (decide (Hq b p11<0))) (Ax (Agq (decide (Hq b p11<0)) (decide (Hq b p13<0))) (Ax (Agq (decide (Hq b p11<0)) (decide (Hq b p13<0))) (Cw (Aw6 _ _ _) (Cw (Aqt _ _ _) (Ax (Anf (decide (Hq b p11<0)) (decide (Hq b p13<0))) (Ax (Axy (decide (Hq b p11<0)) (decide (Hq b p13<0))) (Cw (A1d _ _ _) rfl rfl))) rfl) rfl))))) rfl))) rfl) rfl) rfl)
theorem B4.Cs.Aui:B4.Cs.C8 N r c l p9 p10 p15=bif ((Mb p9 p9&&Al p9)&&Al p9) then bif ((Mb p10 p10&&Al p10)&&Al p10) then bif (Af (Hj p10 p10)&&Af (Hj p9 p9)) then bif (Af p15&&Af p15) then bif (Af (E4 (Hj p10 p10) (Hj p9 p9))&&Af (Dt p15 p15)) then B4.Cs.C11 N r c l (Ey (E4 (Hj p10 p10) (Hj p9 p9)) (Dt p15 p15)) else none else none else none else none else none:=(Di _ _ _ _ _ _ _).trans (by kernel_rfl)
theorem B4.Cs.Alm:B4.Cs.C11 N r c l p22=bif (Af p22&&Af p22) then bif (Af 4607182418800017408&&Af (Cc p22 p22)) then bif (Af (Dt 4607182418800017408 (Cc p22 p22))) then B4.Cs.C12 N r c l p22 (Ed (Dt 4607182418800017408 (Cc p22 p22))) else none else none else none:=(Di _ _ _ _ _ _ _).trans (by kernel_rfl)
theorem B4.Cs.Ve:B4.Cs.C12 N r c l p22 p23=bif (Af p22) then bif (Af (Iw p22)&&Af p23) then bif (Af 4607182418800017408&&Af (Dt (Iw p22) p23)) then B4.Cs.C13 N r c l p22 (Ey 4607182418800017408 (Dt (Iw p22) p23)) else none else none else none:=(Di _ _ _ _ _ _ _).trans (by kernel_rfl)
theorem B4.Cs.Age:B4.Cs.C13 N r c l p22 p24=bif (Af p22) then bif (Eb p22) then bif (Af p24) then B4.Cs.C15 N r c l (Cz p24) else none else B4.Cs.C15 N r c l p24 else none:=(Di _ _ _ _ _ _ _).trans (by kernel_rfl)
theorem B4.Cs.All:B4.Cs.C15 N r c l p24_1=bif (Af p24_1&&Af p24_1) then bif (Af 4607182418800017408&&Af (Cc p24_1 p24_1)) then bif (Af (Dt 4607182418800017408 (Cc p24_1 p24_1))) then bif (Af 4607182418800017408&&Af (Ed (Dt 4607182418800017408 (Cc p24_1 p24_1)))) then bif (Af (Ey 4607182418800017408 (Ed (Dt 4607182418800017408 (Cc p24_1 p24_1))))&&Af p24_1) then some (.agg [.int .u64 (Ey 4607182418800017408 (Ed (Dt 4607182418800017408 (Cc p24_1 p24_1)))),.int .u64 (Cc (Ey 4607182418800017408 (Ed (Dt 4607182418800017408 (Cc p24_1 p24_1)))) p24_1),.bool false]) else none else none else none else none else none:=(Di _ _ _ _ _ _ _).trans (by kernel_rfl)
theorem B4.Cs.ev:B0 B4.Cs.E N f169 (Ak f169) [.agg [.int .i64 r,.int .i64 c,.ints .arg .u64 l],.int .i64 i,.int .i64 k,.int .u64 b]=bif (Fv r c l i&&B5 (0≤(0:Int)∧(0:Int)≤r)) then bif (Fv r c l k&&B5 (0≤(0:Int)∧(0:Int)≤r)) then B4.Cs.C2 N r c l b (Ci c l i 0 (toNat (r-0))) (Ci c l k 0 (toNat (r-0))) else none else none :=
 Eq.trans (by kernel_rfl)
 (Cw (Cy _) (Cw (Cy _) rfl rfl) rfl)
end
abbrev _root_.Go.Proofs.S1.B4.Cs.Kn:=A8 prog 169 B4.Cs.spec
theorem B4.Cs.Ad (hk:A2 prog B4.Cs.Bc) (h:Hyp B4.Cs.E f169 B4.Cs.ts B4.Cs.pre B4.Cs.out):B4.Cs.Kn :=
 Am (A5 hk _ _ _) func169 (by kernel_rfl) (by kernel_rfl) h
def B4.rounds.hint:Nat→Option Ba
 | 0=>some { keep:=[2,3,4,6,7,13],objs:=[],boxes:=[3,4,6,7] }
 | 2=>some { keep:=[2,3,4,6,7,9,13,16,17],objs:=[],boxes:=[3,4,6,7] }
 | 4=>some { keep:=[2,3,4,6,7,9,10,11,13,16,17],objs:=[],boxes:=[3,4,6,7] }
 | _=>none
def B4.rounds.Bc:List (Nat × Entry):=[(170,C0.G1.spec),(81,soft.Du.spec),(169,B4.Cs.spec)]
def B4.rounds.E:Env:=Bi (Be B4.rounds.Bc) (fun _=>false) B4.rounds.hint (fun _=>none)
section
variable (N M0 M1 M:Nat) (r c:Int) (l:List Int) (p q:Int) (m:List Int) (b p11:Int) (p9:Bool) (p3 p4:List Int) (p10 p17_1 p13_2 p17:Int) (p9_1:Bool) (p3_1 p4_1:List Int) (p13_1 p13:Int) (p3_2 p4_2:List Int)
def B4.rounds.L0:Option DV:=B8 B4.rounds.E N f127 (Ak f127) [1,0,1,0] [] M ⟨Ff 66 [(2,.int .u64 b),(3,.ptr 3 0 0),(4,.ptr 4 0 0),(6,.ptr 6 0 0),(7,.ptr 7 0 0),(13,.int .i64 p13)],[(3,false,.box [.int .i64 r,.int .i64 c,.ints .arg .u64 p3_2]),(4,false,.box [.int .i64 p,.int .i64 q,.ints .arg .u64 p4_2]),(6,false,.box [.int .i64 0,.int .i64 0,.nil]),(7,false,.box [.int .i64 0,.int .i64 0,.nil])]⟩
def B4.rounds.L1:Option DV:=B8 B4.rounds.E N f127 (Ak f127) [1,0,1,0,0,1,1,0,0,0,1,1,0,1,0] [M0] M ⟨Ff 66 [(2,.int .u64 b),(3,.ptr 3 0 0),(4,.ptr 4 0 0),(6,.ptr 6 0 0),(7,.ptr 7 0 0),(9,.bool p9_1),(13,.int .i64 p13_1),(16,.int .i64 c),(17,.int .i64 p17)],[(3,false,.box [.int .i64 r,.int .i64 c,.ints .arg .u64 p3_1]),(4,false,.box [.int .i64 p,.int .i64 q,.ints .arg .u64 p4_1]),(6,false,.box [.int .i64 0,.int .i64 0,.nil]),(7,false,.box [.int .i64 0,.int .i64 0,.nil])]⟩
def B4.rounds.L2:Option DV:=B8 B4.rounds.E N f127 (Ak f127) [1,0,1,0,0,1,1,0,0,0,1,1,0,1,0,0,1,1,0,0,1,0,1,0] [M0,M1] M ⟨Ff 66 [(2,.int .u64 b),(3,.ptr 3 0 0),(4,.ptr 4 0 0),(6,.ptr 6 0 0),(7,.ptr 7 0 0),(9,.bool p9),(10,.int .i64 p10),(11,.int .i64 p11),(13,.int .i64 p13_2),(16,.int .i64 c),(17,.int .i64 p17_1)],[(3,false,.box [.int .i64 r,.int .i64 c,.ints .arg .u64 p3]),(4,false,.box [.int .i64 p,.int .i64 q,.ints .arg .u64 p4]),(6,false,.box [.int .i64 0,.int .i64 0,.nil]),(7,false,.box [.int .i64 0,.int .i64 0,.nil])]⟩
theorem B4.rounds.Ar:B4.rounds.L0 N (M+1) r c p q b p13 p3_2 p4_2=bif (Bb p13 60) then B4.rounds.L1 N M N r c p q b 0 true p3_2 p4_2 p13 else some (.tup [.agg [.int .i64 r,.int .i64 c,.ints .arg .u64 p3_2],.agg [.int .i64 p,.int .i64 q,.ints .arg .u64 p4_2],.int .i64 6]):=by kernel_rfl
theorem B4.rounds.Cd:B4.rounds.L1 N M0 (M+1) r c p q b p17 p9_1 p3_1 p4_1 p13_1=bif (Bb p17 c) then B4.rounds.L2 N M0 M N r c p q b (Ab (p17+1)) p9_1 p3_1 p4_1 p17 p17 p13_1 else bif p9_1 then some (.tup [.agg [.int .i64 r,.int .i64 c,.ints .arg .u64 p3_1],.agg [.int .i64 p,.int .i64 q,.ints .arg .u64 p4_1],.int .i64 0]) else B4.rounds.L0 N M0 r c p q b (Ab (p13_1+1)) p3_1 p4_1:=by kernel_rfl
theorem B4.rounds.Lv:B4.rounds.L2 N M0 M1 (M+1) r c p q b p11 p9 p3 p4 p10 p17_1 p13_2=bif (Bb p11 c) then bif (A0 r c p3&&(Al p3&&(Af b&&B5 (0≤p10∧p10<c∧0≤p11∧p11<c)))) then bif (W6 (Ev (toNat r) (toNat c) p3 (toNat p10)) (Ev (toNat r) (toNat c) p3 (toNat p11)) b) then B4.rounds.L2 N M0 M1 M r c p q b (Ab (p11+1)) p9 p3 p4 p10 p17_1 p13_2 else bif (Af (trS (Ev (toNat r) (toNat c) p3 (toNat p10)) (Ev (toNat r) (toNat c) p3 (toNat p11)) b)) then bif (A0 r c p3&&(Al p3&&((Af (trC (Ev (toNat r) (toNat c) p3 (toNat p10)) (Ev (toNat r) (toNat c) p3 (toNat p11)) b)&&Af (Cz (trS (Ev (toNat r) (toNat c) p3 (toNat p10)) (Ev (toNat r) (toNat c) p3 (toNat p11)) b)))&&B5 (0≤p10∧p10<c∧0≤p11∧p11<c∧p10≠p11)))) then bif (Af (trS (Ev (toNat r) (toNat c) p3 (toNat p10)) (Ev (toNat r) (toNat c) p3 (toNat p11)) b)) then bif (A0 p q p4&&(Al p4&&((Af (trC (Ev (toNat r) (toNat c) p3 (toNat p10)) (Ev (toNat r) (toNat c) p3 (toNat p11)) b)&&Af (Cz (trS (Ev (toNat r) (toNat c) p3 (toNat p10)) (Ev (toNat r) (toNat c) p3 (toNat p11)) b)))&&B5 (0≤p10∧p10<q∧0≤p11∧p11<q∧p10≠p11)))) then B4.rounds.L2 N M0 M1 M r c p q b (Ab (p11+1)) false (Oy (toNat r) (toNat c) p3 (toNat p10) (toNat p11) (trC (Ev (toNat r) (toNat c) p3 (toNat p10)) (Ev (toNat r) (toNat c) p3 (toNat p11)) b) (Cz (trS (Ev (toNat r) (toNat c) p3 (toNat p10)) (Ev (toNat r) (toNat c) p3 (toNat p11)) b))) (Oy (toNat p) (toNat q) p4 (toNat p10) (toNat p11) (trC (Ev (toNat r) (toNat c) p3 (toNat p10)) (Ev (toNat r) (toNat c) p3 (toNat p11)) b) (Cz (trS (Ev (toNat r) (toNat c) p3 (toNat p10)) (Ev (toNat r) (toNat c) p3 (toNat p11)) b))) p10 p17_1 p13_2 else none else none else none else none else none else B4.rounds.L1 N M0 M1 r c p q b (Ab (p17_1+1)) p9 p3 p4 p13_2 :=
 Eq.trans (by kernel_rfl)
 (E1 (E1 (E1 rfl (Cw (Cy _) (Cw (Cy _) (Cw (Cy _) (Cw (Cy _) rfl rfl) rfl) rfl) rfl)) rfl) rfl)
theorem B4.rounds.ev:B0 B4.rounds.E N f127 (Ak f127) [.agg [.int .i64 r,.int .i64 c,.ints .arg .u64 l],.agg [.int .i64 p,.int .i64 q,.ints .arg .u64 m],.int .u64 b] =
 B4.rounds.L0 N N r c p q b 0 l m:=by kernel_rfl
end
abbrev _root_.Go.Proofs.S1.B4.rounds.Kn:=A8 prog 127 B4.rounds.spec
theorem B4.rounds.Ad (hk:A2 prog B4.rounds.Bc) (h:Hyp B4.rounds.E f127 B4.rounds.ts B4.rounds.pre B4.rounds.out):B4.rounds.Kn :=
 Am (A5 hk _ _ _) func127 (by kernel_rfl) (by kernel_rfl) h
def B4.Bf.hint:Nat→Option Ba
 | 0=>some { keep:=[1,4,5,14,15,16],objs:=[(6,2,106002,.ints 43 .u64 [])],boxes:=[4,5] }
 | _=>none
def B4.Bf.Bc:List (Nat × Entry):=[(79,Ag.Bu.spec)]
def B4.Bf.E:Env:=Bi (Be B4.Bf.Bc) (fun _=>false) B4.Bf.hint (fun _=>none)
section
variable (N M:Nat) (r c:Int) (l:List Int) (k p16:Int) (p2:List Int)
def B4.Bf.L0:Option DV:=B8 B4.Bf.E N f125 (Ak f125) [1,1,0,1,0] [] M ⟨Ff 30 [(1,.int .i64 k),(4,.ptr 4 0 0),(5,.ptr 5 0 0),(14,.ints .arg .u64 l),(15,.int .i64 (length l:Int)),(16,.int .i64 p16)],[(4,false,.box [.int .i64 0,.int .i64 0,.nil]),(5,false,.box [.int .i64 r,.int .i64 c,.oref 106002]),(106002,false,.ints 43 .u64 p2)]⟩
theorem B4.Bf.Ar:B4.Bf.L0 N (M+1) r c l k p16 p2=bif (Bb p16 (length l:Int)) then bif ((decide (0≤p16))&&(decide (p16<(length l:Int)))) then bif (Df (getD l (toNat p16) 0) k) then bif (decide ((length p2)+1≤Ha)) then B4.Bf.L0 N M r c l k (Ab (p16+1)) (p2++[(Bg (getD l (toNat p16) 0) k)]) else none else none else none else some (.agg [.int .i64 r,.int .i64 c,.ints (.own 106002 43) .u64 p2]) :=
 Eq.trans (by kernel_rfl)
 (E1 (E1 (Cw (Cy _) (Cw (Cy _) rfl rfl) rfl) rfl) rfl)
theorem B4.Bf.ev:B0 B4.Bf.E N f125 (Ak f125) [.agg [.int .i64 r,.int .i64 c,.ints .arg .u64 l],.int .i64 k] =
 B4.Bf.L0 N N r c l k 0 []:=by kernel_rfl
end
abbrev _root_.Go.Proofs.S1.B4.Bf.Kn:=A8 prog 125 B4.Bf.spec
theorem B4.Bf.Ad (hk:A2 prog B4.Bf.Bc) (h:Hyp B4.Bf.E f125 B4.Bf.ts B4.Bf.pre B4.Bf.out):B4.Bf.Kn :=
 Am (A5 hk _ _ _) func125 (by kernel_rfl) (by kernel_rfl) h
def B4.at.hint:Nat→Option Ba
 | 0=>some { keep:=[1,2,4,5,15,16],objs:=[(6,2,106002,.ints 43 .u64 [])],boxes:=[2,4,5] }
 | 2=>some { keep:=[1,2,4,5,6,15,16,19,20,21],objs:=[(6,2,106002,.ints 43 .u64 [])],boxes:=[2,4,5] }
 | _=>none
def B4.at.Bc:List (Nat × Entry):=[]
def B4.at.E:Env:=Bi (Be B4.at.Bc) (fun _=>false) B4.at.hint (fun _=>none)
section
variable (N M0 M:Nat) (r c:Int) (l x:List Int) (p6 p16_1 p21:Int) (p2:List Int) (p16:Int) (p2_1:List Int)
def B4.at.L0:Option DV:=B8 B4.at.E N f132 (Ak f132) [1,1,0,1,0] [] M ⟨Ff 43 [(1,.ints .arg .i64 x),(2,.ptr 2 0 0),(4,.ptr 4 0 0),(5,.ptr 5 0 0),(15,.int .i64 r),(16,.int .i64 p16)],[(2,false,.box [.int .i64 r,.int .i64 c,.ints .arg .u64 l]),(4,false,.box [.int .i64 0,.int .i64 0,.nil]),(5,false,.box [.int .i64 r,.int .i64 c,.oref 106002]),(106002,false,.ints 43 .u64 p2_1)]⟩
def B4.at.L1:Option DV:=B8 B4.at.E N f132 (Ak f132) [1,1,0,1,0,0,1,1,0,0,1,1,0] [M0] M ⟨Ff 43 [(1,.ints .arg .i64 x),(2,.ptr 2 0 0),(4,.ptr 4 0 0),(5,.ptr 5 0 0),(6,.int .i64 p6),(15,.int .i64 r),(16,.int .i64 p16_1),(19,.ints .arg .i64 x),(20,.int .i64 (length x:Int)),(21,.int .i64 p21)],[(2,false,.box [.int .i64 r,.int .i64 c,.ints .arg .u64 l]),(4,false,.box [.int .i64 0,.int .i64 0,.nil]),(5,false,.box [.int .i64 r,.int .i64 c,.oref 106002]),(106002,false,.ints 43 .u64 p2)]⟩
theorem B4.at.Ar:B4.at.L0 N (M+1) r c l x p16 p2_1=bif (Bb p16 r) then B4.at.L1 N M N r c l x p16 p16 0 p2_1 else some (.agg [.int .i64 r,.int .i64 c,.ints (.own 106002 43) .u64 p2_1]):=by kernel_rfl
theorem B4.at.Cd:B4.at.L1 N M0 (M+1) r c l x p6 p16_1 p21 p2=bif (Bb p21 (length x:Int)) then bif ((decide (0≤p21))&&(decide (p21<(length x:Int)))) then bif ((decide (0≤(Ab ((Ab (p6*c))+(getD x (toNat p21) 0)))))&&(decide ((Ab ((Ab (p6*c))+(getD x (toNat p21) 0)))<(length l:Int)))) then bif (decide ((length p2)+1≤Ha)) then B4.at.L1 N M0 M r c l x p6 p16_1 (Ab (p21+1)) (p2++[(getD l (toNat (Ab ((Ab (p6*c))+(getD x (toNat p21) 0)))) 0)]) else none else none else none else B4.at.L0 N M0 r c l x (Ab (p16_1+1)) p2 :=
 Eq.trans (by kernel_rfl)
 (E1 (E1 (Cw (J1 _ _) (Cw (Cy _) rfl rfl) rfl) rfl) rfl)
theorem B4.at.ev:B0 B4.at.E N f132 (Ak f132) [.agg [.int .i64 r,.int .i64 c,.ints .arg .u64 l],.ints .arg .i64 x] =
 B4.at.L0 N N r c l x 0 []:=by kernel_rfl
end
abbrev _root_.Go.Proofs.S1.B4.at.Kn:=A8 prog 132 B4.at.spec
theorem B4.at.Ad (hk:A2 prog B4.at.Bc) (h:Hyp B4.at.E f132 B4.at.ts B4.at.pre B4.at.out):B4.at.Kn :=
 Am (A5 hk _ _ _) func132 (by kernel_rfl) (by kernel_rfl) h
def B4.Gf.hint:Nat→Option Ba
 | 0=>some { keep:=[1,3,8,9],objs:=[(0,3,100003,.ints 43 .u64 [])],boxes:=[1] }
 | _=>none
def B4.Gf.Bc:List (Nat × Entry):=[(68,Aa.D6.spec),(67,Ag.Norm.spec)]
def B4.Gf.E:Env:=Bi (Be B4.Gf.Bc) (fun _=>false) B4.Gf.hint (fun _=>none)
section
variable (N M:Nat) (r c:Int) (l:List Int) (p9:Int) (p3:List Int)
def B4.Gf.L0:Option DV:=B8 B4.Gf.E N f128 (Ak f128) [1,1,0,1,0] [] M ⟨Ff 25 [(1,.ptr 1 0 0),(3,.oref 100003),(8,.int .i64 c),(9,.int .i64 p9)],[(1,false,.box [.int .i64 r,.int .i64 c,.ints .arg .u64 l]),(100003,false,.ints 43 .u64 p3)]⟩
theorem B4.Gf.Ar:B4.Gf.L0 N (M+1) r c l p9 p3=bif (Bb p9 c) then bif (Fv r c l p9&&B5 (0≤(0:Int)∧(0:Int)≤r)) then bif (Bs (Ci c l p9 0 (toNat (r-0)))&&B5 (length (Ci c l p9 0 (toNat (r-0)))≤64)) then bif (decide ((length p3)+1≤Ha)) then B4.Gf.L0 N M r c l (Ab (p9+1)) (p3++[(Bt (Ci c l p9 0 (toNat (r-0))))]) else none else none else none else some (.ints (.own 100003 43) .u64 p3):=by kernel_rfl
theorem B4.Gf.ev:B0 B4.Gf.E N f128 (Ak f128) [.agg [.int .i64 r,.int .i64 c,.ints .arg .u64 l]] =
 B4.Gf.L0 N N r c l 0 []:=by kernel_rfl
end
abbrev _root_.Go.Proofs.S1.B4.Gf.Kn:=A8 prog 128 B4.Gf.spec
theorem B4.Gf.Ad (hk:A2 prog B4.Gf.Bc) (h:Hyp B4.Gf.E f128 B4.Gf.ts B4.Gf.pre B4.Gf.out):B4.Gf.Kn :=
 Am (A5 hk _ _ _) func128 (by kernel_rfl) (by kernel_rfl) h
def B4.Az.hint:Nat→Option Ba
 | 0=>some { keep:=[2,3,6,9,10,56,57],objs:=[(0,10,100010,.ints 3 .i64 [])],boxes:=[2,3,9] }
 | _=>none
def B4.Az.Bc:List (Nat × Entry):=[(69,Dv.Check.spec),(123,compare.K7.spec),(126,Aa.E9.spec),(132,B4.at.spec),(128,B4.Gf.spec),(127,B4.rounds.spec),(125,B4.Bf.spec),(124,Ag.Bx.spec),(66,Ag.Finite.spec),(67,Ag.Norm.spec),(79,Ag.Bu.spec)]
def B4.Az.live:Nat→Option (List Nat)
 | 5=>some [1,2,3,6]
 | 8=>some [1,2,3,6,7]
 | 11=>some [1,2,3,6]
 | 18=>some [2,3,6,9,10]
 | 20=>some [2,3]
 | _=>none
def B4.Az.E:Env:=Abp (Be B4.Az.Bc) (fun _=>false) B4.Az.hint B4.Az.live (wr1 129 (Agj tI .i64 Bl.A7.ts Bl.A7.pre Bl.A7.Aaj)) 0
section
variable (N M:Nat) (r c:Int) (l:List Int) (p6 p7 p3 p3_1:Int) (p3_3 p2_1:List Int) (p57:Int) (p10 p3_2 p2:List Int)
def B4.Az.C5:Option DV:=cutAt B4.Az.E N f64 (Ak f64) [1,1,1] [] ⟨Ff 92 [(1,.ptr 1 0 0),(2,.ptr 2 0 0),(3,.ptr 3 0 0),(6,.int .i64 p6)],[(3,false,.box [.int .i64 0,.int .i64 0,.nil]),(2,false,.box [.int .i64 0,.int .i64 0,.nil]),(1,false,.box [.int .i64 r,.int .i64 c,.ints .arg .u64 l])]⟩
def B4.Az.C8:Option DV:=cutAt B4.Az.E N f64 (Ak f64) [1,1,1,1,1,1,0] [] ⟨Ff 92 [(1,.ptr 1 0 0),(2,.ptr 2 0 0),(3,.ptr 3 0 0),(6,.int .i64 p6),(7,.int .u64 p7)],[(3,false,.box [.int .i64 p3,.int .i64 p3_1,.ints .fresh .u64 p3_2]),(2,false,.box [.int .i64 r,.int .i64 c,.ints .arg .u64 p2]),(1,false,.box [.int .i64 r,.int .i64 c,.ints .arg .u64 l])]⟩
def B4.Az.C11:Option DV:=cutAt B4.Az.E N f64 (Ak f64) [1,1,1,1,1,1,1] [] ⟨Ff 92 [(1,.ptr 1 0 0),(2,.ptr 2 0 0),(3,.ptr 3 0 0),(6,.int .i64 p6)],[(1,false,.box [.int .i64 r,.int .i64 c,.ints .arg .u64 l]),(3,false,.box [.int .i64 p3,.int .i64 p3_1,.ints .arg .u64 p3_3]),(2,false,.box [.int .i64 r,.int .i64 c,.ints .arg .u64 p2_1])]⟩
def B4.Az.L0:Option DV:=B8 B4.Az.E N f64 (Ak f64) [1,1,1,1,1,1,1,1,1,0,1,0] [] M ⟨Ff 92 [(2,.ptr 2 0 0),(3,.ptr 3 0 0),(6,.int .i64 p6),(9,.ptr 9 0 0),(10,.oref 100010),(56,.int .i64 c),(57,.int .i64 p57)],[(2,false,.box [.int .i64 r,.int .i64 c,.ints .arg .u64 p2_1]),(3,false,.box [.int .i64 p3,.int .i64 p3_1,.ints .arg .u64 p3_3]),(9,false,.box [.ints .fresh .u64 (Ca (toNat r) (toNat c) p2_1)]),(100010,false,.ints 3 .i64 p10)]⟩
def B4.Az.C18:Option DV:=cutAt B4.Az.E N f64 (Ak f64) [1,1,1,1,1,1,1,1,1,1] [] ⟨Ff 92 [(2,.ptr 2 0 0),(3,.ptr 3 0 0),(6,.int .i64 p6),(9,.ptr 9 0 0),(10,.oref 100010)],[(2,false,.box [.int .i64 r,.int .i64 c,.ints .arg .u64 p2_1]),(3,false,.box [.int .i64 p3,.int .i64 p3_1,.ints .arg .u64 p3_3]),(9,false,.box [.ints .fresh .u64 (Ca (toNat r) (toNat c) p2_1)]),(100010,false,.ints 3 .i64 p10)]⟩
def B4.Az.C20:Option DV:=cutAt B4.Az.E N f64 (Ak f64) [1,1,1,1,1,1,1,1,1,1,1,1,0] [] ⟨Ff 92 [(2,.ptr 2 0 0),(3,.ptr 3 0 0)],[(2,false,.box [.int .i64 r,.int .i64 c,.ints .arg .u64 (A9 (Cr (toNat r) (toNat c) p2_1 (E5 (Ca (toNat r) (toNat c) p2_1) p10)) p6)]),(3,false,.box [.int .i64 p3,.int .i64 p3_1,.ints .fresh .u64 (Cr (toNat p3) (toNat p3_1) p3_3 (E5 (Ca (toNat r) (toNat c) p2_1) p10))]),(9,false,.box [.ints .fresh .u64 (Ca (toNat r) (toNat c) p2_1)]),(100010,false,.ints 3 .i64 (E5 (Ca (toNat r) (toNat c) p2_1) p10))]⟩
theorem B4.Az.Ajf:B4.Az.C5 N r c l p6=bif (Bs l&&B5 (length l≤1000∧-2300≤(Ab (0-p6))∧(Ab (0-p6))≤2300)) then bif (Bs (A9 l (Ab (0-p6)))&&B5 (length (A9 l (Ab (0-p6)))≤64)) then B4.Az.C8 N r c l p6 (Bt (A9 l (Ab (0-p6)))) ((Pb c).1) ((Pb c).2.1) ((Pb c).2.2.1) (A9 l (Ab (0-p6))) else none else none:=(Di _ _ _ _ _ _ _).trans (by kernel_rfl)
theorem B4.Az.Aui:B4.Az.C8 N r c l p6 p7 p3 p3_1 p3_2 p2=bif (Df p7 (-44:Int)) then bif ((A0 r c p2&&A0 p3 p3_1 p3_2)&&((Al p2&&Al p3_2)&&(Af (Bg p7 (-44:Int))&&B5 (p3=c∧p3_1=c)))) then bif (((Ej (toNat r) (toNat c) (Bg p7 (-44:Int)) 60 p2 p3_2).2.2) !=(0:Int)) then some (.tup [.agg [.int .i64 0,.int .i64 0,.nil],.agg [.int .i64 0,.int .i64 0,.nil],.nil,.int .i64 ((Ej (toNat r) (toNat c) (Bg p7 (-44:Int)) 60 p2 p3_2).2.2)]) else B4.Az.C11 N r c l p6 p3 p3_1 ((Ej (toNat r) (toNat c) (Bg p7 (-44:Int)) 60 p2 p3_2).2.1) ((Ej (toNat r) (toNat c) (Bg p7 (-44:Int)) 60 p2 p3_2).1) else none else none :=
 Eq.trans ((Di _ _ _ _ _ _ _).trans (by kernel_rfl))
 (Cw (Cy _) (Cw (Cy _) rfl rfl) rfl)
theorem B4.Az.Alm:B4.Az.C11 N r c l p6 p3 p3_1 p3_3 p2_1=bif (A0 r c p2_1&&Al p2_1) then B4.Az.L0 N N r c p6 p3 p3_1 p3_3 p2_1 0 [] else none:=(Di _ _ _ _ _ _ _).trans (by kernel_rfl)
theorem B4.Az.Ar:B4.Az.L0 N (M+1) r c p6 p3 p3_1 p3_3 p2_1 p57 p10=bif (Bb p57 c) then bif (decide ((length p10)+1≤Ha)) then B4.Az.L0 N M r c p6 p3 p3_1 p3_3 p2_1 (Ab (p57+1)) (p10++[p57]) else none else B4.Az.C18 N r c p6 p3 p3_1 p3_3 p2_1 p10:=by kernel_rfl
theorem B4.Az.Alj:B4.Az.C18 N r c p6 p3 p3_1 p3_3 p2_1 p10=bif (Bs (Ca (toNat r) (toNat c) p2_1)&&B5 (Jg (length (Ca (toNat r) (toNat c) p2_1)) p10=true∧length p10≤6)) then bif (A0 r c p2_1&&B5 (((length (E5 (Ca (toNat r) (toNat c) p2_1) p10):Nat):Int)=c∧Jg (toNat c) (E5 (Ca (toNat r) (toNat c) p2_1) p10)=true)) then bif (Bs (Cr (toNat r) (toNat c) p2_1 (E5 (Ca (toNat r) (toNat c) p2_1) p10))&&B5 (length (Cr (toNat r) (toNat c) p2_1 (E5 (Ca (toNat r) (toNat c) p2_1) p10))≤1000∧-2300≤p6∧p6≤2300)) then bif (A0 p3 p3_1 p3_3&&B5 (((length (E5 (Ca (toNat r) (toNat c) p2_1) p10):Nat):Int)=p3_1∧Jg (toNat p3_1) (E5 (Ca (toNat r) (toNat c) p2_1) p10)=true)) then B4.Az.C20 N r c p6 p3 p3_1 p3_3 p2_1 p10 else none else none else none else none :=
 Eq.trans ((Di _ _ _ _ _ _ _).trans (by kernel_rfl))
 (E1 (Cw (Cy _) (Cw (Cy _) (Cw (Cy _) rfl rfl) rfl) rfl) rfl)
theorem B4.Az.Ay8:B4.Az.C20 N r c p6 p3 p3_1 p3_3 p2_1 p10=bif (Bs (A9 (Cr (toNat r) (toNat c) p2_1 (E5 (Ca (toNat r) (toNat c) p2_1) p10)) p6)) then bif ((!(Dc (A9 (Cr (toNat r) (toNat c) p2_1 (E5 (Ca (toNat r) (toNat c) p2_1) p10)) p6)))||(Bs (Cr (toNat p3) (toNat p3_1) p3_3 (E5 (Ca (toNat r) (toNat c) p2_1) p10)))) then bif ((!(Dc (A9 (Cr (toNat r) (toNat c) p2_1 (E5 (Ca (toNat r) (toNat c) p2_1) p10)) p6)))||(!(Dc (Cr (toNat p3) (toNat p3_1) p3_3 (E5 (Ca (toNat r) (toNat c) p2_1) p10))))) then some (.tup [.agg [.int .i64 0,.int .i64 0,.nil],.agg [.int .i64 0,.int .i64 0,.nil],.nil,.int .i64 2]) else bif (A0 r c (A9 (Cr (toNat r) (toNat c) p2_1 (E5 (Ca (toNat r) (toNat c) p2_1) p10)) p6)&&Al (A9 (Cr (toNat r) (toNat c) p2_1 (E5 (Ca (toNat r) (toNat c) p2_1) p10)) p6)) then some (.tup [.agg [.int .i64 r,.int .i64 c,.ints .arg .u64 (A9 (Cr (toNat r) (toNat c) p2_1 (E5 (Ca (toNat r) (toNat c) p2_1) p10)) p6)],.agg [.int .i64 p3,.int .i64 p3_1,.ints .fresh .u64 (Cr (toNat p3) (toNat p3_1) p3_3 (E5 (Ca (toNat r) (toNat c) p2_1) p10))],.ints .fresh .u64 (Ca (toNat r) (toNat c) (A9 (Cr (toNat r) (toNat c) p2_1 (E5 (Ca (toNat r) (toNat c) p2_1) p10)) p6)),.int .i64 0]) else none else none else none :=
 Eq.trans ((Di _ _ _ _ _ _ _).trans (by kernel_rfl))
 (E1 (Ax (W7 (Dc (A9 (Cr (toNat r) (toNat c) p2_1 (E5 (Ca (toNat r) (toNat c) p2_1) p10)) p6))) (Ax (R3 (Dc (A9 (Cr (toNat r) (toNat c) p2_1 (E5 (Ca (toNat r) (toNat c) p2_1) p10)) p6))) (Cw (Ajt _ _) (Ax (R3 (Dc (A9 (Cr (toNat r) (toNat c) p2_1 (E5 (Ca (toNat r) (toNat c) p2_1) p10)) p6))) (Ax (Zu (Dc (A9 (Cr (toNat r) (toNat c) p2_1 (E5 (Ca (toNat r) (toNat c) p2_1) p10)) p6))) (Cw (Aqo _ _) rfl (Cw (Cy _) rfl rfl)))) rfl))) rfl)
theorem B4.Az.ev:B0 B4.Az.E N f64 (Ak f64) [.agg [.int .i64 r,.int .i64 c,.ints .arg .u64 l]]=bif (Al l) then bif ((D5 r c l) !=(0:Int)) then some (.tup [.agg [.int .i64 0,.int .i64 0,.nil],.agg [.int .i64 0,.int .i64 0,.nil],.nil,.int .i64 (D5 r c l)]) else bif (Bs l) then bif (Af (Bk l)) then B4.Az.C5 N r c l (B1 (Bk l)) else none else none else none:=by kernel_rfl
end
abbrev _root_.Go.Proofs.S1.B4.Az.Kn:=A8 prog 64 B4.Az.spec
theorem B4.Az.Ad (hk:A2 prog B4.Az.Bc) (hw:Bl.A7.Kn) (h:Hyp B4.Az.E f64 B4.Az.ts B4.Az.pre B4.Az.out):B4.Az.Kn :=
 Am (Zk hk (Ajk hw) _ _ _ _) func64 (by kernel_rfl) (by kernel_rfl) h
end EqSvd
open EqSvd
theorem Ni:Af (4607182418800017408:Int)=true:=Ae8
theorem Ago (N:Nat) (r c:Int) (l:List Int) {t:Int} (ht:Af t=true):B4.Cs.C15 N r c l t=some (.agg [.int .u64 (Ms t),.int .u64 (Lz t),.bool false]):=by
 have h1:Af (Dt (4607182418800017408:Int) (Cc t t))=true:=Nm Ni (Ew _ _)
 rw [B4.Cs.All,ht,A4m,A4g,Ni,Ew,A4m,A4g,h1,A4g,Q1 h1,A4m,A4g,Lp,A4m,A4g]
 rfl
theorem Aqh (N:Nat) (r c:Int) (l:List Int) {z:Int} (hz:Af z=true):B4.Cs.C11 N r c l z=some (.agg [.int .u64 (Ms (G2 z)),.int .u64 (Lz (G2 z)),.bool false]):=by
 have h1:Af (Dt (4607182418800017408:Int) (Cc z z))=true:=Nm Ni (Ew _ _)
 have h2:=Q1 h1
 have h3:Af (Dt (Iw z) (Ed (Dt (4607182418800017408:Int) (Cc z z))))=true:=Nm (Rd z) h2
 rw [B4.Cs.Alm,hz,A4m,A4g,Ni,Ew,A4m,A4g,h1,A4g,B4.Cs.Ve,hz,A4g,Rd,h2,A4m,A4g,Ni,h3,A4m,A4g,B4.Cs.Age,hz,A4g,Lp,A4g]
 have e:G2 z=bif Eb z then Cz (Ey (4607182418800017408:Int) (Dt (Iw z) (Ed (Dt (4607182418800017408:Int) (Cc z z))))) else Ey (4607182418800017408:Int) (Dt (Iw z) (Ed (Dt (4607182418800017408:Int) (Cc z z)))):=by
  unfold G2 Aep Ae9
  cases Eb z<;>rfl
 rw [e]
 cases Eb z with
 | true=>rw [A4g,A4g]; exact Ago N r c l (Oq (Lp _ _))
 | false=>rw [A4k,A4k]; exact Ago N r c l (Lp _ _)
theorem U3 {x y:List Int} (hx:Al x=true) (hy:Al y=true) (h:x.length=y.length) (h6:x.length≤6):((Mb x y&&Al x)&&Al y)=true:=by
 unfold Mb
 rw [A4h h,A4h (by omega),hx,hy]; rfl
theorem Afb {x:List Int} (hx:Al x=true) (h6:x.length≤6):(Bs x&&B5 (length x≤64))=true:=Ac.2 ⟨Fu hx (by omega),Aq.2 (by omega)⟩
theorem Aut (N:Nat) (r c:Int) (l:List Int) {b:Int} (hb:Af b=true) {x y:List Int} (hx:Al x=true) (hy:Al y=true) (h:x.length=y.length) (h6:x.length≤6) :
 B4.Cs.C2 N r c l b x y=some (.agg [.int .u64 (trC x y b),.int .u64 (trS x y b),.bool (W6 x y b)]):=by
 have f:=U3 hx hy h h6
 have sc:Df (Cc (Bt x) (Bt y)) (-44:Int)=true:=Ac.2 ⟨Ew _ _,Aq.2 (by decide)⟩
 have eb:(((!(decide (Hq b (Bt x)<0)))||(!(decide (Hq b (Bt y)<0))))||(!(decide (Hq (Bg (Cc (Bt x) (Bt y)) (-44:Int)) (Iw (Hj x y))<0))))=W6 x y b:=rfl
 rw [B4.Cs.Ajh,Afb hx h6,A4g,Afb hy (by omega),A4g,f,A4g,B4.Cs.Ajf,J8,J8,A4m,A4g,sc,A4g,hb,A4m,A4g,A5s,A4g,G6,A5s,A4g,G8 (Ew _ _),Rd,A4m,A5s,A4g,eb]
 unfold trC trS
 cases W6 x y b with
 | true=>rw [A4g]; rfl
 | false =>
   rw [A4k,B4.Cs.Aui,U3 hx hx rfl h6,A4g,U3 hy hy rfl (by omega),A4g,G6,G6,A4m,A4g,G6,A4m,A4g,Pw (G6 _ _) (G6 _ _),Nm (G6 _ _) (G6 _ _),A4m,A4g]
   exact Aqh N r c l (Lp _ _)
theorem B4.Cs.known:B4.Cs.Kn:=B4.Cs.Ad (.cons compare.Hy.known (.cons compare.Lt.known (.cons Aa.D6.known (.cons soft.Du.known (.cons soft.Sign.known (.cons Ag.Add.known (.cons Ag.Div.known (.cons Ag.H9.known (.cons Ag.Mul.known (.cons Ag.Norm.known (.cons Ag.Bu.known (.cons Ag.Sqrt.known (.cons Ag.Sub.known .nil))))))))))))) fun r c l i k b hp=>by
 obtain ⟨hr,hp⟩:=Ac.1 (show (A0 r c l&&(Al l&&(Af b&&B5 (0≤i∧i<c∧0≤k∧k<c))))=true from hp)
 obtain ⟨al,hp⟩:=Ac.1 hp
 obtain ⟨hb,hp⟩:=Ac.1 hp
 obtain ⟨i0,i1,k0,k1⟩:=Aq.1 hp
 obtain ⟨R,C,rfl,rfl,r6,c6,hl⟩:=Co hr
 obtain ⟨i,rfl⟩:∃ j:Nat,i=j:=⟨i.toNat,by omega⟩
 obtain ⟨k,rfl⟩:∃ j:Nat,k=j:=⟨k.toNat,by omega⟩
 have z:B5 (0≤(0:Int)∧(0:Int)≤(R:Int))=true:=Aq.2 ⟨Int.le_refl _,by omega⟩
 have cp:∀ j:Nat,(j:Int)<(C:Int)→Fv (R:Int) (C:Int) l (j:Int)=true:=fun j hj=>Ac.2 ⟨hr,Aq.2 (by omega)⟩
 refine ⟨0,.agg [.int .u64 (trC (Ev R C l i) (Ev R C l k) b),.int .u64 (trS (Ev R C l i) (Ev R C l k) b),.bool (W6 (Ev R C l i) (Ev R C l k) b)],[],?_,Wk.F7 (.cons .int (.cons .int (.cons .bool .nil)))⟩
 rw [B4.Cs.ev,cp i i1,z,A4m,A4g,cp k k1,A4m,A4g,show toNat ((R:Int)-(0:Int))=R by omega]
 exact Aut 0 _ _ _ hb (Kt al) (Kt al) (by rw [F9,F9]) (by rw [F9]; exact r6)
section
variable {R C:Nat} {b:Int} (r6:R≤6) (c6:C≤6) (hb:Af b=true) (N:Nat)
include r6 c6 hb
theorem Anx {M0 M1:Nat} {p:Nat} {p13:Int}:∀ (d q F:Nat) (s:List Int × List Int × Bool),q+d=C→d<F→p<q→Iu R C s →
 B4.rounds.L2 N M0 M1 F (R:Int) (C:Int) (C:Int) (C:Int) b (q:Int) s.2.2 s.1 s.2.1 (p:Int) (p:Int) p13 =
  B4.rounds.L1 N M0 M1 (R:Int) (C:Int) (C:Int) (C:Int) b (((p+1:Nat):Int)) (O6 W6 R C b p d q s).2.2 (O6 W6 R C b p d q s).1 (O6 W6 R C b p d q s).2.1 p13:=by
 intro d
 induction d with
 | zero =>
   intro q F s hq hF hpq hs
   obtain ⟨F,rfl⟩:∃ G,F=G+1:=⟨F-1,by omega⟩
   rw [B4.rounds.Lv,Av,A4l (by omega),A4k,An (by omega) (by omega)]
   rfl
 | succ d ih =>
   intro q F s hq hF hpq hs
   obtain ⟨F,rfl⟩:∃ G,F=G+1:=⟨F-1,by omega⟩
   have hr:=Em r6 c6 hs.1.1
   have hv:=Em c6 c6 hs.2.1
   have t1:(A0 (R:Int) (C:Int) s.1&&(Al s.1&&(Af b&&B5 (0≤(p:Int)∧(p:Int)<(C:Int)∧0≤(q:Int)∧(q:Int)<(C:Int)))))=true :=
    Ac.2 ⟨hr,Ac.2 ⟨hs.1.2,Ac.2 ⟨hb,Aq.2 (by omega)⟩⟩⟩
   have cq:B5 (0≤(p:Int)∧(p:Int)<(C:Int)∧0≤(q:Int)∧(q:Int)<(C:Int)∧(p:Int)≠(q:Int))=true:=Aq.2 (by omega)
   have hn:=ih (q+1) F (Go.Rnd.Mr W6 R C b p q s) (by omega) (by omega) (by omega) hs.Mr
   rw [B4.rounds.Lv,Av,A4h (by omega),A4g,t1,A4g]
   simp only [A4i]
   rw [An (by omega) (by omega)]
   show _=B4.rounds.L1 N M0 M1 (R:Int) (C:Int) (C:Int) (C:Int) b (((p+1:Nat):Int)) (O6 W6 R C b p d (q+1) (Go.Rnd.Mr W6 R C b p q s)).2.2 (O6 W6 R C b p d (q+1) (Go.Rnd.Mr W6 R C b p q s)).1 (O6 W6 R C b p d (q+1) (Go.Rnd.Mr W6 R C b p q s)).2.1 p13
   rw [← hn]
   unfold Go.Rnd.Mr
   cases hbe:W6 (Ev R C s.1 p) (Ev R C s.1 q) b with
   | true=>rw [A4g,A43 rfl]; rfl
   | false =>
     have iS:Af (trS (Ev R C s.1 p) (Ev R C s.1 q) b)=true:=by unfold trS; rw [hbe]; exact Ew _ _
     have iC:Af (trC (Ev R C s.1 p) (Ev R C s.1 q) b)=true:=by unfold trC; rw [hbe]; exact Lp _ _
     rw [A4k,iS,A4g,hr,hs.1.2,iC,Oq iS,cq,A4m,A4m,A4m,A4m,A4g,A4g,hv,hs.2.2,A4m,A4m,A4g,A42 (by decide)]
     have eC:trC (Ev R C s.1 p) (Ev R C s.1 q) b=Ms (G2 (Iy (Ev R C s.1 p) (Ev R C s.1 q))):=by unfold trC; rw [hbe]; rfl
     have eS:trS (Ev R C s.1 p) (Ev R C s.1 q) b=Lz (G2 (Iy (Ev R C s.1 p) (Ev R C s.1 q))):=by unfold trS; rw [hbe]; rfl
     rw [eC,eS]
     rfl
theorem Anz {M0:Nat} {p13:Int} (hN:6<N):∀ (d p F:Nat) (s:List Int × List Int × Bool),p+d=C→d<F→Iu R C s →
 B4.rounds.L1 N M0 F (R:Int) (C:Int) (C:Int) (C:Int) b (p:Int) s.2.2 s.1 s.2.1 p13 =
  bif (Go.Rnd.Mv W6 R C b d p s).2.2 then some (.tup [.agg [.int .i64 (R:Int),.int .i64 (C:Int),.ints .arg .u64 (Go.Rnd.Mv W6 R C b d p s).1],.agg [.int .i64 (C:Int),.int .i64 (C:Int),.ints .arg .u64 (Go.Rnd.Mv W6 R C b d p s).2.1],.int .i64 (0:Int)])
  else B4.rounds.L0 N M0 (R:Int) (C:Int) (C:Int) (C:Int) b (Ab (p13+(1:Int))) (Go.Rnd.Mv W6 R C b d p s).1 (Go.Rnd.Mv W6 R C b d p s).2.1:=by
 intro d
 induction d with
 | zero =>
   intro p F s hp hF hs
   obtain ⟨F,rfl⟩:∃ G,F=G+1:=⟨F-1,by omega⟩
   rw [B4.rounds.Cd,Av,A4l (by omega),A4k]
   rfl
 | succ d ih =>
   intro p F s hp hF hs
   obtain ⟨F,rfl⟩:∃ G,F=G+1:=⟨F-1,by omega⟩
   have h2:=Anx r6 c6 hb N (M0:=M0) (M1:=F) (p:=p) (p13:=p13) (C-(p+1)) (p+1) N s (by omega) (by omega) (by omega) hs
   rw [B4.rounds.Cd,Av,A4h (by omega),A4g,An (by omega) (by omega)]
   refine h2.trans ?_
   exact ih (p+1) F (O6 W6 R C b p (C-(p+1)) (p+1) s) (by omega) (by omega) (Iu.O6 _ _ hs)
theorem An0 (hN:6<N):∀ (m F:Nat) (w v:List Int),m≤60→m<F→Iu R C (w,v,true) →
 B4.rounds.L0 N F (R:Int) (C:Int) (C:Int) (C:Int) b ((60-m:Nat):Int) w v =
  some (.tup [.agg [.int .i64 (R:Int),.int .i64 (C:Int),.ints .arg .u64 (Go.Rnd.Ej R C b m w v).1],.agg [.int .i64 (C:Int),.int .i64 (C:Int),.ints .arg .u64 (Go.Rnd.Ej R C b m w v).2.1],.int .i64 (Go.Rnd.Ej R C b m w v).2.2]):=by
 intro m
 induction m with
 | zero =>
   intro F w v hm hF hs
   obtain ⟨F,rfl⟩:∃ G,F=G+1:=⟨F-1,by omega⟩
   rw [B4.rounds.Ar,Av,A4l (by omega),A4k]
   rfl
 | succ m ih =>
   intro F w v hm hF hs
   obtain ⟨F,rfl⟩:∃ G,F=G+1:=⟨F-1,by omega⟩
   have h1:=Anz r6 c6 hb N (M0:=F) (p13:=((60-(m+1):Nat):Int)) hN C 0 N (w,v,true) (by omega) (by omega) hs
   rw [B4.rounds.Ar,Av,A4h (by omega),A4g]
   refine h1.trans ?_
   have g:Iu R C (Js R C b w v):=Iu.Mv C 0 hs
   show (bif (Js R C b w v).2.2 then _ else _)=_
   unfold Go.Rnd.Ej
   cases he:(Js R C b w v).2.2 with
   | true=>rw [A4g,A43 rfl]; rfl
   | false =>
     rw [A4k,A42 (by decide),An (by omega) (by omega),show (((60-(m+1):Nat):Int)+1)=((60-m:Nat):Int) by omega]
     exact ih F (Js R C b w v).1 (Js R C b w v).2.1 (by omega) (by omega) ⟨g.1,g.2⟩
end
theorem B4.rounds.known:B4.rounds.Kn:=B4.rounds.Ad (.cons C0.G1.known (.cons soft.Du.known (.cons B4.Cs.known .nil))) fun r c l p q m b hp=>by
 obtain ⟨h1,hp⟩:=Ac.1 (show ((A0 r c l&&A0 p q m)&&((Al l&&Al m)&&(Af b&&B5 (p=c∧q=c))))=true from hp)
 obtain ⟨hr,hv⟩:=Ac.1 h1
 obtain ⟨h2,hp⟩:=Ac.1 hp
 obtain ⟨al,am⟩:=Ac.1 h2
 obtain ⟨hb,hp⟩:=Ac.1 hp
 obtain ⟨rfl,rfl⟩:=Aq.1 hp
 obtain ⟨R,C,rfl,rfl,r6,c6,hl⟩:=Co hr
 have hm:m.length=C*C:=by
  obtain ⟨_,_,hm⟩:=Hx.1 hv
  rw [← A41] at hm; omega
 refine ⟨62,_,[],(B4.rounds.ev ..).trans (An0 r6 c6 hb 62 (by decide) 60 62 l m (by decide) (by decide) ⟨⟨hl,al⟩,hm,am⟩),?_⟩
 exact Wk.Hm (.cons (Wk.F7 (.cons .int (.cons .int (.cons .N1 .nil)))) (.cons (Wk.F7 (.cons .int (.cons .int (.cons .N1 .nil)))) (.cons .int .nil)))
open EqSvd
theorem Agz (N:Nat) {r c:Int} {x:List Int} {e:Int} (hx:Bs x=true) (hl:x.length≤1000) (he:-2300≤e∧e≤2300):∀ (k i F:Nat),i+k=x.length→k<F →
 B4.Bf.L0 N F r c x e (i:Int) ((x.take i).map fun b=>Bg b e)=some (.agg [.int .i64 r,.int .i64 c,.ints (.own 106002 tB) .u64 (A9 x e)]):=by
 obtain ⟨_,hu⟩:=Hs hx
 intro k
 induction k with
 | zero =>
   intro i F hi hF
   obtain ⟨F,rfl⟩:∃ G,F=G+1:=⟨F-1,by omega⟩
   rw [B4.Bf.Ar,Av,A4l (by omega),A4k,List.take_of_length_le (by omega)]; rfl
 | succ k ih =>
   intro i F hi hF
   obtain ⟨F,rfl⟩:∃ G,F=G+1:=⟨F-1,by omega⟩
   rw [B4.Bf.Ar,Av,A4h (show (i:Int)<(x.length:Int) by omega),A4g,A4h (show (0:Int)≤(i:Int) by omega),A4m,A4g,A4i,
    show Df (getD x i 0) e=true from Ac.2 ⟨hu i (by omega),Aq.2 he⟩,A4g,A4h (by rw [A5m,List.length_take]; unfold Ha; omega),A4g,An (by omega) (by omega)]
   have:=ih (i+1) F (by omega) (by omega)
   rw [Q0 (by omega)] at this
   exact this
theorem B4.Bf.known:B4.Bf.Kn:=B4.Bf.Ad (.cons Ag.Bu.known .nil) fun r c x k hp=>by
 obtain ⟨h1,h2⟩:=Ac.1 (show (Bs x&&B5 (length x≤1000∧-2300≤k∧k≤2300))=true from hp)
 have h2:=Aq.1 h2
 refine ⟨x.length+1,.agg [.int .i64 r,.int .i64 c,.ints (.own 106002 tB) .u64 (A9 x k)],[106002],?_,Wk.F7 (.cons .int (.cons .int (.cons (.dropA _ _ _ _ (List.mem_singleton.2 rfl)) .nil)))⟩
 rw [B4.Bf.ev]
 exact Agz (x.length+1) h1 h2.1 h2.2 x.length 0 (x.length+1) (by omega) (by omega)
theorem Apa {R n i k:Nat} {f:Nat→Nat→Int} (hi:i<R) (hk:k<n):(Cx R n f).take (i*n+k+1)=(Cx R n f).take (i*n+k)++[f i k]:=by
 have h:i*n+k<(Cx R n f).length:=by rw [Cl]; exact Il hi hk
 rw [List.take_succ_eq_append_getElem h]
 have:=Abf (r:=R) (c:=n) (f:=f) hi hk
 rw [A4q,A4x h] at this
 exact congrArg _ (congrArg (fun z=>[z]) this)
section
variable {R C:Nat} {l x:List Int} (r6:R≤6) (c6:C≤6) (hl:l.length=R*C) (hx:x.length=C) (hin:Jg C x=true) (N:Nat)
include r6 c6 hl hx hin
theorem A1z {M0 i:Nat} (hi:i<R):∀ (d k F:Nat),k+d=C→d<F →
 B4.at.L1 N M0 F (R:Int) (C:Int) l x (i:Int) (i:Int) (k:Int) ((Cr R C l x).take (i*C+k))=B4.at.L0 N M0 (R:Int) (C:Int) l x (((i+1:Nat):Int)) ((Cr R C l x).take ((i+1)*C)):=by
 intro d
 induction d with
 | zero =>
   intro k F hk hF
   obtain ⟨F,rfl⟩:∃ G,F=G+1:=⟨F-1,by omega⟩
   obtain rfl:k=C:=by omega
   rw [B4.at.Cd,Av,A4l (by omega),A4k,An (by omega) (by omega),A5k,Nat.one_mul]
   rfl
 | succ d ih =>
   intro k F hk hF
   obtain ⟨F,rfl⟩:∃ G,F=G+1:=⟨F-1,by omega⟩
   have p:=So hin (j:=k) (by omega)
   obtain ⟨j,hj⟩:∃ j:Nat,x.getD k 0=j:=⟨(x.getD k 0).toNat,by omega⟩
   have hjC:j<C:=by omega
   obtain ⟨e1,b1⟩:=Uu r6 c6 hi hjC
   have hle:(List.take (i*C+k) (Cr R C l x)).length+1≤Ha:=by
    rw [List.length_take]
    have:=Il hi (show k<C by omega)
    have:R*C≤36:=A5c r6 c6
    unfold Ha; omega
   have g:getD l (i*C+j) 0=Fp (C:Int) l (i:Int) (x.getD k 0):=by rw [hj]; unfold Fp; rw [Iz]
   rw [B4.at.Cd,Av,A4h (by omega),A4g,A4h (show (0:Int)≤(k:Int) by omega),A4m,A4g,show toNat ((k:Nat):Int)=k from A4i k,hj,e1,
    A4h (show (0:Int)≤((i*C+j:Nat):Int) by omega),A4h (show ((i*C+j:Nat):Int)<((l.length:Nat):Int) by rw [hl]; omega),A4m,A4g,A4h hle,A4g,A4i,g,An (by omega) (by omega)]
   have:=ih (k+1) F (by omega) (by omega)
   rw [← Nat.add_assoc] at this
   unfold Cr at this ⊢
   rw [Apa hi (show k<C by omega)] at this
   exact this
theorem A10 (hN:6<N):∀ (d i F:Nat),i+d=R→d<F →
 B4.at.L0 N F (R:Int) (C:Int) l x (i:Int) ((Cr R C l x).take (i*C))=some (.agg [.int .i64 (R:Int),.int .i64 (C:Int),.ints (.own 106002 tB) .u64 (Cr R C l x)]):=by
 intro d
 induction d with
 | zero =>
   intro i F hi hF
   obtain ⟨F,rfl⟩:∃ G,F=G+1:=⟨F-1,by omega⟩
   obtain rfl:i=R:=by omega
   rw [B4.at.Ar,Av,A4l (by omega),A4k,List.take_of_length_le (by rw [Ga]; omega)]
 | succ d ih =>
   intro i F hi hF
   obtain ⟨F,rfl⟩:∃ G,F=G+1:=⟨F-1,by omega⟩
   rw [B4.at.Ar,Av,A4h (by omega),A4g]
   have:=A1z r6 c6 hl hx hin N (M0:=F) (i:=i) (by omega) C 0 N (by omega) (by omega)
   rw [A5o] at this
   exact this.trans (ih (i+1) F (by omega) (by omega))
end
theorem B4.at.known:B4.at.Kn:=B4.at.Ad .nil fun r c l x hp=>by
 obtain ⟨hr,hp⟩:=Ac.1 (show (A0 r c l&&B5 (((length x:Nat):Int)=c∧Jg (toNat c) x=true))=true from hp)
 obtain ⟨hx,hin⟩:=Aq.1 hp
 obtain ⟨R,C,rfl,rfl,r6,c6,hl⟩:=Co hr
 rw [A4i] at hin
 refine ⟨8,.agg [.int .i64 (R:Int),.int .i64 (C:Int),.ints (.own 106002 tB) .u64 (Cr R C l x)],[106002],?_,Uk (List.mem_singleton.2 rfl)⟩
 rw [B4.at.ev]
 have:=A10 r6 c6 hl (by omega) hin 8 (by decide) R 0 8 (by omega) (by omega)
 rw [Nat.zero_mul,List.take_zero] at this
 exact this
theorem Akj {R C:Nat} {l:List Int} (r6:R≤6) (c6:C≤6) (hr:A0 (R:Int) (C:Int) l=true) (al:Al l=true) (N:Nat):∀ (d k F:Nat),k+d=C→d<F →
 B4.Gf.L0 N F (R:Int) (C:Int) l (k:Int) ((List.range k).map fun c=>Bt (Ev R C l c))=some (.ints (.own 100003 tB) .u64 (Ca R C l)):=by
 intro d
 induction d with
 | zero =>
   intro k F hk hF
   obtain ⟨F,rfl⟩:∃ G,F=G+1:=⟨F-1,by omega⟩
   obtain rfl:k=C:=by omega
   rw [B4.Gf.Ar,Av,A4l (by omega),A4k]
   rfl
 | succ d ih =>
   intro k F hk hF
   obtain ⟨F,rfl⟩:∃ G,F=G+1:=⟨F-1,by omega⟩
   have cp:(Fv (R:Int) (C:Int) l (k:Int)&&B5 (0≤(0:Int)∧(0:Int)≤(R:Int)))=true:=Ac.2 ⟨Ac.2 ⟨hr,Aq.2 (by omega)⟩,Aq.2 (by omega)⟩
   have ln:(Ci (C:Int) l (k:Int) 0 R).length≤6:=by rw [F9]; exact r6
   rw [B4.Gf.Ar,Av,A4h (by omega),A4g,cp,A4g,show toNat ((R:Int)-(0:Int))=R by omega,Afb (Kt al) ln,A4g,A4h (by rw [A5m,A5j]; unfold Ha; omega),A4g,An (by omega) (by omega)]
   have:=ih (k+1) F (by omega) (by omega)
   rw [List.range_succ,List.map_append] at this
   exact this
theorem B4.Gf.known:B4.Gf.Kn:=B4.Gf.Ad (.cons Aa.D6.known (.cons Ag.Norm.known .nil)) fun r c l hp=>by
 obtain ⟨hr,al⟩:=Ac.1 (show (A0 r c l&&Al l)=true from hp)
 obtain ⟨R,C,rfl,rfl,r6,c6,hl⟩:=Co hr
 exact ⟨8,.ints (.own 100003 tB) .u64 (Ca R C l),[100003],(B4.Gf.ev ..).trans (Akj r6 c6 hr al 8 C 0 8 (by omega) (by omega)),.drop _ _ _ _ (List.mem_singleton.2 rfl)⟩
theorem Ajn {drops:List Nat} {e:Int}:Wk drops (.tup [.agg [.int .i64 (0:Int),.int .i64 (0:Int),.nil],.agg [.int .i64 (0:Int),.int .i64 (0:Int),.nil],.nil,.int .i64 e])
 (.tup [.agg [.int .i64 (0:Int),.int .i64 (0:Int),.ints .arg .u64 []],.agg [.int .i64 (0:Int),.int .i64 (0:Int),.ints .fresh .u64 []],.ints .fresh .u64 [],.int .i64 e]) :=
 Wk.Hm (.cons (Wk.F7 (.cons .int (.cons .int (.cons (.nil _ _) .nil)))) (.cons (Wk.F7 (.cons .int (.cons .int (.cons (.nil _ _) .nil)))) (.cons (.nil _ _) (.cons .int .nil))))
theorem Ajq {r c:Int} {l:List Int} {e:Int} (h:Ht r c l=e) (he:e≠0):B4.Az.out [.i r,.i c,.l l] =
 .tup [.agg [.int .i64 (0:Int),.int .i64 (0:Int),.ints .arg .u64 []],.agg [.int .i64 (0:Int),.int .i64 (0:Int),.ints .fresh .u64 []],.ints .fresh .u64 [],.int .i64 e]:=by
 show DV.tup [.agg [.int .i64 (Fq r c l).1,.int .i64 (Fq r c l).2.1,.ints .arg .u64 (Fq r c l).2.2.1],.agg [.int .i64 (Hg r c l).1,.int .i64 (Hg r c l).2.1,.ints .fresh .u64 (Hg r c l).2.2.1],.ints .fresh .u64 (O5 r c l),.int .i64 (Ht r c l)]=_
 unfold Fq Hg O5
 rw [h,A43 he,A43 he,A43 he]
 rfl
theorem Aup {R C:Nat} {l:List Int} (h:Ht (R:Int) (C:Int) l=0):B4.Az.out [.i (R:Int),.i (C:Int),.l l] =
 .tup [.agg [.int .i64 (R:Int),.int .i64 (C:Int),.ints .arg .u64 (K8 R C l)],.agg [.int .i64 (C:Int),.int .i64 (C:Int),.ints .fresh .u64 (R1 R C l)],.ints .fresh .u64 (Ca R C (K8 R C l)),.int .i64 0]:=by
 show DV.tup [.agg [.int .i64 (Fq (R:Int) (C:Int) l).1,.int .i64 (Fq (R:Int) (C:Int) l).2.1,.ints .arg .u64 (Fq (R:Int) (C:Int) l).2.2.1],.agg [.int .i64 (Hg (R:Int) (C:Int) l).1,.int .i64 (Hg (R:Int) (C:Int) l).2.1,.ints .fresh .u64 (Hg (R:Int) (C:Int) l).2.2.1],.ints .fresh .u64 (O5 (R:Int) (C:Int) l),.int .i64 (Ht (R:Int) (C:Int) l)]=_
 unfold Fq Hg O5
 rw [h,A42 (by decide),A42 (by decide),A42 (by decide)]
 rfl
section
variable {R C:Nat} {l:List Int} (r6:R≤6) (c6:C≤6) (hl:l.length=R*C) (al:Al l=true) (N:Nat)
include r6 c6 hl al
omit r6 c6 in
theorem S7:Iu R C (A9 l (-(Gd l)),Ic C,true):=⟨⟨by rw [Jq]; exact hl,Tb al⟩,(show (Ic C).length=C*C from Cl _ _ _),(show Al (Ic C)=true from Mk fun i k=>Av9 _ _)⟩
theorem Aur (hc:D5 (R:Int) (C:Int) l=0) (he:(Ei R C l).2.2=0) :
 B4.Az.C20 N (R:Int) (C:Int) (Gd l) (C:Int) (C:Int) (Ei R C l).2.1 (Ei R C l).1 (K9 C)=some (.tup [.agg [.int .i64 (R:Int),.int .i64 (C:Int),.ints .arg .u64 (K8 R C l)],.agg [.int .i64 (C:Int),.int .i64 (C:Int),.ints .fresh .u64 (R1 R C l)],.ints .fresh .u64 (Ca R C (K8 R C l)),.int .i64 0])∧Ht (R:Int) (C:Int) l=0 ∨
 B4.Az.C20 N (R:Int) (C:Int) (Gd l) (C:Int) (C:Int) (Ei R C l).2.1 (Ei R C l).1 (K9 C)=some (.tup [.agg [.int .i64 (0:Int),.int .i64 (0:Int),.nil],.agg [.int .i64 (0:Int),.int .i64 (0:Int),.nil],.nil,.int .i64 2])∧Ht (R:Int) (C:Int) l=2:=by
 have hi:Iu R C ((Ei R C l).1,(Ei R C l).2.1,true):=Iu.Ej 60 (S7 hl al)
 have rc:R*C≤36:=A5c r6 c6
 have cc:C*C≤36:=A5c c6 c6
 have hW:Al (K8 R C l)=true:=Tb (Kw hi.1.2)
 have hV:Al (R1 R C l)=true:=Kw hi.2.2
 have lW:(K8 R C l).length=R*C:=by unfold K8; rw [Jq,Ga]
 have lV:(R1 R C l).length=C*C:=Ga ..
 have oW:Bs (K8 R C l)=true:=Fu hW (by omega)
 have oV:Bs (R1 R C l)=true:=Fu hV (by omega)
 have eE:Ht (R:Int) (C:Int) l=if (Dc (K8 R C l)&&Dc (R1 R C l))=true then 0 else 2:=by
  unfold Ht
  rw [A42 (by rw [hc]; decide),A4i,A4i,A42 (by rw [he]; decide)]
 rw [B4.Az.Ay8]
 simp only [A4i]
 show (_∨_)
 rw [show A9 (Cr R C (Ei R C l).1 (E5 (Ca R C (Ei R C l).1) (K9 C))) (Gd l)=K8 R C l from rfl,show Cr C C (Ei R C l).2.1 (E5 (Ca R C (Ei R C l).1) (K9 C))=R1 R C l from rfl,oW,oV,A5s,A4g,A4g,Em r6 c6 lW,hW,A4m,A4g,eE]
 cases Dc (K8 R C l) with
 | true =>
   cases Dc (R1 R C l) with
   | true=>exact .inl ⟨rfl,rfl⟩
   | false=>exact .inr ⟨rfl,rfl⟩
 | false=>exact .inr ⟨rfl,rfl⟩
omit r6 al in
theorem Ajp (p6 p3 p3_1:Int) (v w:List Int):∀ (d k F:Nat),k+d=C→d<F →
 B4.Az.L0 N F (R:Int) (C:Int) p6 p3 p3_1 v w (k:Int) (K9 k)=B4.Az.C18 N (R:Int) (C:Int) p6 p3 p3_1 v w (K9 C):=by
 intro d
 induction d with
 | zero =>
   intro k F hk hF
   obtain ⟨F,rfl⟩:∃ G,F=G+1:=⟨F-1,by omega⟩
   obtain rfl:k=C:=by omega
   rw [B4.Az.Ar,Av,A4l (by omega),A4k]
 | succ d ih =>
   intro k F hk hF
   obtain ⟨F,rfl⟩:∃ G,F=G+1:=⟨F-1,by omega⟩
   rw [B4.Az.Ar,Av,A4h (by omega),A4g,A4h (by rw [Qc]; unfold Ha; omega),A4g,An (by omega) (by omega)]
   have:=ih (k+1) F (by omega) (by omega)
   unfold K9 at this ⊢
   rw [List.range_succ,List.map_append] at this
   exact this
theorem Aus :
 B4.Az.C18 N (R:Int) (C:Int) (Gd l) (C:Int) (C:Int) (Ei R C l).2.1 (Ei R C l).1 (K9 C)=B4.Az.C20 N (R:Int) (C:Int) (Gd l) (C:Int) (C:Int) (Ei R C l).2.1 (Ei R C l).1 (K9 C):=by
 have hi:Iu R C ((Ei R C l).1,(Ei R C l).2.1,true):=Iu.Ej 60 (S7 hl al)
 have rc:R*C≤36:=A5c r6 c6
 have ek:=Rm (Bk l)
 have n1:(Bs (Ca R C (Ei R C l).1)&&B5 (Jg (length (Ca R C (Ei R C l).1)) (K9 C)=true∧length (K9 C)≤6))=true :=
  Ac.2 ⟨Fu (Xp ..) (by rw [On]; omega),Aq.2 ⟨by rw [On]; exact Zc C,by rw [Qc]; exact c6⟩⟩
 have ps:B5 (((length (E5 (Ca R C (Ei R C l).1) (K9 C)):Nat):Int)=(C:Int)∧Jg C (E5 (Ca R C (Ei R C l).1) (K9 C))=true)=true :=
  Aq.2 ⟨by rw [Ac2,Qc],Aq3 (Zc C)⟩
 have og:(Bs (Cr R C (Ei R C l).1 (E5 (Ca R C (Ei R C l).1) (K9 C)))&&B5 (length (Cr R C (Ei R C l).1 (E5 (Ca R C (Ei R C l).1) (K9 C)))≤1000∧-2300≤Gd l∧Gd l≤2300))=true :=
  Ac.2 ⟨Fu (Kw hi.1.2) (by rw [Ga]; omega),Aq.2 ⟨by rw [Ga]; omega,by unfold Gd; omega,by unfold Gd; omega⟩⟩
 rw [B4.Az.Alj]
 simp only [A4i]
 rw [n1,A4g,Em r6 c6 hi.1.1,ps,A4m,A4g,og,A4g,Em c6 c6 hi.2.1,A4m,A4g]
end
theorem B4.Az.known:B4.Az.Kn:=B4.Az.Ad (.cons Dv.Check.known (.cons compare.K7.known (.cons Aa.E9.known (.cons B4.at.known (.cons B4.Gf.known (.cons B4.rounds.known (.cons B4.Bf.known (.cons Ag.Bx.known (.cons Ag.Finite.known (.cons Ag.Norm.known (.cons Ag.Bu.known .nil))))))))))) Bl.A7.known fun r c l hp=>by
 have al:Al l=true:=hp
 by_cases hc:D5 r c l=0
 ·have hr:A0 r c l=true:=by
   unfold D5 at hc
   by_cases h:A0 r c l=true
   ·exact h
   ·rw [A42 h] at hc; cases hc
  obtain ⟨R,C,rfl,rfl,r6,c6,hl⟩:=Co hr
  have rc:R*C≤36:=A5c r6 c6
  have ek:=Rm (Bk l)
  have hS:=S7 hl al
  have ks:Ab ((0:Int)-B1 (Bk l))=-(Gd l):=by
   rw [An (by omega) (by omega)]; unfold Gd; omega
  have o1:Bs l=true:=Fu al (by omega)
  have c1:B5 (length l≤1000∧-2300≤-(Gd l)∧-(Gd l)≤2300)=true:=Aq.2 ⟨by omega,by unfold Gd; omega,by unfold Gd; omega⟩
  have o2:(Bs (A9 l (-(Gd l)))&&B5 (length (A9 l (-(Gd l)))≤64))=true:=Ac.2 ⟨Fu hS.1.2 (by rw [Jq]; omega),Aq.2 (by rw [Jq]; omega)⟩
  have sp:Df (Bt (A9 l (-(Gd l)))) (-44:Int)=true:=Ac.2 ⟨J8 _,Aq.2 (by decide)⟩
  have big:B4.Az.C5 8 (R:Int) (C:Int) l (Gd l)=(bif ((Ei R C l).2.2 !=(0:Int)) then some (.tup [.agg [.int .i64 (0:Int),.int .i64 (0:Int),.nil],.agg [.int .i64 (0:Int),.int .i64 (0:Int),.nil],.nil,.int .i64 ((Ei R C l).2.2)])
   else B4.Az.C11 8 (R:Int) (C:Int) l (Gd l) (C:Int) (C:Int) (Ei R C l).2.1 (Ei R C l).1):=by
   have rr:=Em r6 c6 hS.1.1
   have re:=Em c6 c6 hS.2.1
   rw [B4.Az.Ajf]
   rw [show Ab ((0:Int)-Gd l)=-(Gd l) from ks,o1,c1,A4m,A4g,o2,A4g,Afu c6,B4.Az.Aui,sp,A4g]
   simp only [A4i]
   rw [rr,re,hS.1.2,hS.2.2,G8 (J8 _),Aq.2 (show True∧True from ⟨trivial,trivial⟩),A4m,A4m,A4m,A4g]
   rfl
  have pre:B0 B4.Az.E 8 Tryz.f64 (Ak Tryz.f64) [.agg [.int .i64 (R:Int),.int .i64 (C:Int),.ints .arg .u64 l]]=B4.Az.C5 8 (R:Int) (C:Int) l (Gd l):=by
   rw [B4.Az.ev,al,A4g,hc,show ((0:Int) !=0)=false from rfl,A4k,o1,A4g,Rr,A4g]
   rfl
  rcases Xd (R:=R) (n:=C) (low:=Bg (Bt (A9 l (-(Gd l)))) (-44)) 60 (A9 l (-(Gd l))) (Ic C) with he | he
  ·have he:(Ei R C l).2.2=0:=he
   have hi:Iu R C ((Ei R C l).1,(Ei R C l).2.1,true):=Iu.Ej 60 hS
   have c20:=Aur r6 c6 hl al 8 hc he
   have chain:B0 B4.Az.E 8 Tryz.f64 (Ak Tryz.f64) [.agg [.int .i64 (R:Int),.int .i64 (C:Int),.ints .arg .u64 l]]=B4.Az.C20 8 (R:Int) (C:Int) (Gd l) (C:Int) (C:Int) (Ei R C l).2.1 (Ei R C l).1 (K9 C):=by
    rw [pre,big,he,show ((0:Int) !=0)=false from rfl,A4k,B4.Az.Alm,Em r6 c6 hi.1.1,hi.1.2,A4m,A4g]
    exact (Ajp c6 hl 8 (Gd l) (C:Int) (C:Int) (Ei R C l).2.1 (Ei R C l).1 C 0 8 (by omega) (by omega)).trans (Aus r6 c6 hl al 8)
   rcases c20 with ⟨h1,h2⟩ | ⟨h1,h2⟩
   ·exact ⟨8,_,[],chain.trans h1,by show Wk _ _ (B4.Az.out [.i (R:Int),.i (C:Int),.l l]); rw [Aup h2]; exact Wk.Hm (.cons (Wk.F7 (.cons .int (.cons .int (.cons .N1 .nil)))) (.cons R8 (.cons .Jh (.cons .int .nil))))⟩
   ·exact ⟨8,_,[],chain.trans h1,by show Wk _ _ (B4.Az.out [.i (R:Int),.i (C:Int),.l l]); rw [Ajq h2 (by decide)]; exact Ajn⟩
  ·have he:(Ei R C l).2.2=6:=he
   have hE:Ht (R:Int) (C:Int) l=6:=by
    unfold Ht
    rw [A42 (by rw [hc]; decide),A4i,A4i,A43 (by rw [he]; decide)]
   refine ⟨8,_,[],(pre.trans big).trans ?_,by show Wk _ _ (B4.Az.out [.i (R:Int),.i (C:Int),.l l]); rw [Ajq hE (by decide)]; exact Ajn⟩
   rw [he]; rfl
 ·have hE:Ht r c l=D5 r c l:=by unfold Ht; rw [A43 hc]
  refine ⟨8,_,[],?_,by show Wk _ _ (B4.Az.out [.i r,.i c,.l l]); rw [Ajq hE hc]; exact Ajn⟩
  rw [B4.Az.ev,al,A4g,show ((D5 r c l) !=(0:Int))=true from by simpa using hc,A4g]
open EqMat EqOf
namespace EqRef20
def Ae.Dm.own.Bc:List (Nat × Entry):=[]
def Ae.Dm.own.E:Env:=Bi (Be Ae.Dm.own.Bc) (fun _=>false) (fun _=>none) (fun _=>none)
theorem Ae.Dm.own.ev (N:Nat) (a b:Int):B0 Ae.Dm.own.E N f53 (Ak f53) [.int .i64 a,.int .i64 b]=bif (((decide ((0:Int)≤(Ab (a*b))))&&(decide ((Ab (a*b))≤(Ab (a*b)))))&&(decide ((Ab (a*b))≤Ha))) then some (.agg [.int .i64 a,.int .i64 b,.ints (.own 10 43) .u64 (List.replicate (toNat (Ab (a*b))) 0)]) else none:=by kernel_rfl
abbrev _root_.Go.Proofs.S1.Ae.Dm.own.Kn:=A8 prog 53 Ae.Dm.own.spec
theorem Ae.Dm.own.Ad (hk:A2 prog Ae.Dm.own.Bc) (h:Hyp Ae.Dm.own.E f53 Ae.Dm.own.ts Ae.Dm.own.pre Ae.Dm.own.out):Ae.Dm.own.Kn :=
 Am (A5 hk _ _ _) func53 (by kernel_rfl) (by kernel_rfl) h
def Ae.Stack.Bc:List (Nat × Entry):=[]
def Ae.Stack.E:Env:=Bi (Be Ae.Stack.Bc) (fun _=>false) (fun _=>none) (fun _=>none)
theorem Ae.Stack.ev (N:Nat) (r c:Int) (l:List Int) (p q:Int) (m:List Int):B0 Ae.Stack.E N f71 (Ak f71) [.agg [.int .i64 r,.int .i64 c,.ints .arg .u64 l],.agg [.int .i64 p,.int .i64 q,.ints .arg .u64 m]]=bif (decide (0+(length l)≤Ha)) then bif (decide ((length ([]++l))+(length m)≤Ha)) then some (.agg [.int .i64 (Ab (r+p)),.int .i64 c,.ints (.own 20 43) .u64 (([]++l)++m)]) else none else none :=
 Eq.trans (by kernel_rfl)
 (E1 (Cw (Cy _) rfl rfl) rfl)
abbrev _root_.Go.Proofs.S1.Ae.Stack.Kn:=A8 prog 71 Ae.Stack.spec
theorem Ae.Stack.Ad (hk:A2 prog Ae.Stack.Bc) (h:Hyp Ae.Stack.E f71 Ae.Stack.ts Ae.Stack.pre Ae.Stack.out):Ae.Stack.Kn :=
 Am (A5 hk _ _ _) func71 (by kernel_rfl) (by kernel_rfl) h
end EqRef20
open EqOf EqRef20
theorem Ae.Dm.own.known:Ae.Dm.own.Kn:=Ae.Dm.own.Ad .nil fun a b hp=>by
 obtain ⟨ha,hb⟩:=Ac.1 (show (Cg a&&Cg b)=true from hp)
 obtain ⟨A,rfl,hA⟩:=Gv ha
 obtain ⟨B,rfl,hB⟩:=Gv hb
 have hm:=J2 (a:=(A:Int)) (b:=(B:Int)) (by omega) (by omega) (by omega) (by omega)
 have e:((A:Int)*(B:Int)).toNat=A*B:=by rw [← A41,A4i]
 refine ⟨0,.agg [.int .i64 (A:Int),.int .i64 (B:Int),.ints (.own 10 tB) .u64 (Cx A B fun _ _=>0)],[],?_,Wk.F7 (.cons .int (.cons .int (.cons (.keep _ _ _ _ (List.not_mem_nil)) .nil)))⟩
 rw [Ae.Dm.own.ev,An (by omega) (by omega),A4h hm.1,A4h (Int.le_refl _),A4h (show (A:Int)*(B:Int)≤(Ha:Int) by unfold Ha; omega),e,Abg]
 rfl
theorem Ae.Stack.known:Ae.Stack.Kn:=Ae.Stack.Ad .nil fun r c l p q m hp=>by
 obtain ⟨h1,h2⟩:=Ac.1 (show ((A0 r c l&&A0 p q m)&&decide (q=c))=true from hp)
 obtain ⟨hr,hm⟩:=Ac.1 h1
 obtain ⟨R,C,rfl,rfl,r6,c6,hl⟩:=Co hr
 obtain ⟨P,Q,rfl,rfl,p6,q6,hl2⟩:=Co hm
 have h36:=A5c r6 c6
 have h36':=A5c p6 q6
 refine ⟨0,.agg [.int .i64 ((R:Int)+(P:Int)),.int .i64 (C:Int),.ints (.own 20 tB) .u64 (l++m)],[20],?_,Uk (List.mem_singleton.2 rfl)⟩
 rw [Ae.Stack.ev,List.nil_append,A4h (show 0+l.length≤Ha by unfold Ha; omega),A4g,A4h (show l.length+m.length≤Ha by unfold Ha; omega),A4g,An (by omega) (by omega)]
theorem Ajx {R P C:Nat} {l m:List Int} (hl:l.length=R*C) (hm:m.length=P*C) :
 (Cx (R+P) C fun (i k:Nat)=>L5 (R:Int) (C:Int) l (C:Int) m (i:Int) (k:Int))=l++m:=by
 have h:(l++m).length=(R+P)*C:=by rw [A48,hl,hm,A5k]
 conv=>rhs; rw [← Ts h]
 refine Eu fun i k hi hk=>?_
 unfold L5
 by_cases hlt:(i:Int)<(R:Int)
 ·have:=Il (r:=R) (c:=C) (i:=i) (k:=k) (by omega) hk
  rw [A43 hlt,Tx,Tx,A4q,A4q,List.getElem?_append_left (by omega)]
 ·have es:(i:Int)-(R:Int)=((i-R:Nat):Int):=by omega
  have e2:i*C=R*C+(i-R)*C:=by rw [← A5k]; congr 1; omega
  rw [A42 hlt,es,Tx,Tx,A4q,A4q,A5u (by omega),hl,e2]
  congr 2; omega
namespace EqRef19
def Ao.F6.Bc:List (Nat × Entry):=[(19,Br.Order.spec)]
def Ao.F6.E:Env:=Bi (Be Ao.F6.Bc) (fun _=>false) (fun _=>none) (fun _=>none)
theorem Ao.F6.ev (N:Nat) (a b:Int):B0 Ao.F6.E N f158 (Ak f158) [.int .u64 a,.int .u64 b]=bif (Af a&&Af b) then some (.bool (bif (Qh a b) then (Bb 0 (Hq a b)) else false)) else none :=
 Eq.trans (by kernel_rfl)
 (E1 (Ax (R6 (Qh a b)) (Ax (No (Qh a b)) (Ax (W5 (Qh a b)) rfl))) rfl)
abbrev _root_.Go.Proofs.S1.Ao.F6.Kn:=A8 prog 158 Ao.F6.spec
theorem Ao.F6.Ad (hk:A2 prog Ao.F6.Bc) (h:Hyp Ao.F6.E f158 Ao.F6.ts Ao.F6.pre Ao.F6.out):Ao.F6.Kn :=
 Am (A5 hk _ _ _) func158 (by kernel_rfl) (by kernel_rfl) h
def Ao.be.Bc:List (Nat × Entry):=[(84,Br.Hy.spec),(141,Ah.H9.spec),(153,Ah.Mul.spec),(96,Ah.Norm.spec),(85,Ah.Bu.spec),(158,Ao.F6.spec)]
def Ao.be.E:Env:=Bi (Be Ao.be.Bc) (fun _=>false) (fun _=>none) (fun _=>none)
theorem Ao.be.ev (N:Nat) (x y:List Int) (b:Int):B0 Ao.be.E N f155 (Ak f155) [.ints .arg .u64 x,.ints .arg .u64 y,.int .u64 b]=bif (Bs x) then bif (Bs y) then bif (Af (Bt x)&&Af (Bt y)) then bif (Df (Cc (Bt x) (Bt y)) (-44:Int)) then bif (Af (Bt x)&&Af b) then bif ((!(F1 (Bt x) b))||(Af (Bt y)&&Af b)) then bif (((!(F1 (Bt x) b))||(!(F1 (Bt y) b)))||((Mb x y&&Al x)&&Al y)) then bif (((!(F1 (Bt x) b))||(!(F1 (Bt y) b)))||(Af (Hj x y))) then bif (((!(F1 (Bt x) b))||(!(F1 (Bt y) b)))||(Af (Iw (Hj x y))&&Af (Bg (Cc (Bt x) (Bt y)) (-44:Int)))) then some (.bool (bif (bif (!(F1 (Bt x) b)) then true else (!(F1 (Bt y) b))) then true else (!(F1 (Iw (Hj x y)) (Bg (Cc (Bt x) (Bt y)) (-44:Int)))))) else none else none else none else none else none else none else none else none else none :=
 Eq.trans (by kernel_rfl)
 (E1 (E1 (E1 (E1 (E1 (Ax (W7 (F1 (Bt x) b)) (Ax (W7 (F1 (Bt x) b)) (Cw (Aw5 _ _) (Ax (R3 (F1 (Bt x) b)) (Ax (Zu (F1 (Bt x) b)) (Ax (Agq (F1 (Bt x) b) (F1 (Bt y) b)) (Ax (Agq (F1 (Bt x) b) (F1 (Bt y) b)) (Cw (Aqt _ _ _) (Cw (Aw6 _ _ _) (Ax (Agq (F1 (Bt x) b) (F1 (Bt y) b)) (Cw (Aqt _ _ _) (Ax (Anf (F1 (Bt x) b) (F1 (Bt y) b)) (Ax (Axy (F1 (Bt x) b) (F1 (Bt y) b)) rfl)) rfl)) rfl) rfl))))) rfl))) rfl) rfl) rfl) rfl) rfl)
abbrev _root_.Go.Proofs.S1.Ao.be.Kn:=A8 prog 155 Ao.be.spec
theorem Ao.be.Ad (hk:A2 prog Ao.be.Bc) (h:Hyp Ao.be.E f155 Ao.be.ts Ao.be.pre Ao.be.out):Ao.be.Kn :=
 Am (A5 hk _ _ _) func155 (by kernel_rfl) (by kernel_rfl) h
def Ao.Cs.Bc:List (Nat × Entry):=[(86,A6.Du.spec),(102,A6.Neg.spec),(84,Br.Hy.spec),(152,Ah.Add.spec),(87,Ah.Div.spec),(141,Ah.H9.spec),(153,Ah.Mul.spec),(154,Ah.Sqrt.spec),(198,Ah.Sub.spec)]
def Ao.Cs.live:Nat→Option (List Nat)
 | 2=>some [0,1,6]
 | 3=>some [7]
 | 4=>some [7,8]
 | 5=>some [7,9]
 | 7=>some [9]
 | _=>none
def Ao.Cs.E:Env:=Bi (Be Ao.Cs.Bc) (fun _=>false) (fun _=>none) Ao.Cs.live
section
variable (N:Nat) (p9_1 p7 p9 p8:Int) (x y:List Int) (p6:Int)
def Ao.Cs.C2:Option DV:=cutAt Ao.Cs.E N f156 (Ak f156) [1,1] [] ⟨Ff 49 [(0,.ints .arg .u64 x),(1,.ints .arg .u64 y),(6,.int .u64 p6)],[]⟩
def Ao.Cs.C3:Option DV:=cutAt Ao.Cs.E N f156 (Ak f156) [1,1,1] [] ⟨Ff 49 [(7,.int .u64 p7)],[]⟩
def Ao.Cs.C4:Option DV:=cutAt Ao.Cs.E N f156 (Ak f156) [1,1,1,1] [] ⟨Ff 49 [(7,.int .u64 p7),(8,.int .u64 p8)],[]⟩
def Ao.Cs.C5:Option DV:=cutAt Ao.Cs.E N f156 (Ak f156) [1,1,1,1,1,0] [] ⟨Ff 49 [(7,.int .u64 p7),(9,.int .u64 p9)],[]⟩
def Ao.Cs.C7:Option DV:=cutAt Ao.Cs.E N f156 (Ak f156) [1,1,1,1,1,1] [] ⟨Ff 49 [(9,.int .u64 p9_1)],[]⟩
theorem Ao.Cs.Ajh:Ao.Cs.C2 N x y p6=bif ((Mb y y&&Al y)&&Al y) then bif ((Mb x x&&Al x)&&Al x) then bif (Af (Hj y y)&&Af (Hj x x)) then bif (Af p6&&Af p6) then bif (Af (E4 (Hj y y) (Hj x x))&&Af (Dt p6 p6)) then Ao.Cs.C3 N (Ey (E4 (Hj y y) (Hj x x)) (Dt p6 p6)) else none else none else none else none else none:=(Di _ _ _ _ _ _ _).trans (by kernel_rfl)
theorem Ao.Cs.Auj:Ao.Cs.C3 N p7=bif (Af p7&&Af p7) then bif (Af 4607182418800017408&&Af (Cc p7 p7)) then bif (Af (Dt 4607182418800017408 (Cc p7 p7))) then Ao.Cs.C4 N p7 (Ed (Dt 4607182418800017408 (Cc p7 p7))) else none else none else none:=(Di _ _ _ _ _ _ _).trans (by kernel_rfl)
theorem Ao.Cs.Ajg:Ao.Cs.C4 N p7 p8=bif (Af p7) then bif (Af (Iw p7)&&Af p8) then bif (Af 4607182418800017408&&Af (Dt (Iw p7) p8)) then Ao.Cs.C5 N p7 (Ey 4607182418800017408 (Dt (Iw p7) p8)) else none else none else none:=(Di _ _ _ _ _ _ _).trans (by kernel_rfl)
theorem Ao.Cs.Ajf:Ao.Cs.C5 N p7 p9=bif (Af p7) then bif (Eb p7) then bif (Af p9) then Ao.Cs.C7 N (Cz p9) else none else Ao.Cs.C7 N p9 else none:=(Di _ _ _ _ _ _ _).trans (by kernel_rfl)
theorem Ao.Cs.Aeg:Ao.Cs.C7 N p9_1=bif (Af p9_1&&Af p9_1) then bif (Af 4607182418800017408&&Af (Cc p9_1 p9_1)) then bif (Af (Dt 4607182418800017408 (Cc p9_1 p9_1))) then bif (Af 4607182418800017408&&Af (Ed (Dt 4607182418800017408 (Cc p9_1 p9_1)))) then bif (Af (Ey 4607182418800017408 (Ed (Dt 4607182418800017408 (Cc p9_1 p9_1))))&&Af p9_1) then some (.tup [.int .u64 (Ey 4607182418800017408 (Ed (Dt 4607182418800017408 (Cc p9_1 p9_1)))),.int .u64 (Cc (Ey 4607182418800017408 (Ed (Dt 4607182418800017408 (Cc p9_1 p9_1)))) p9_1)]) else none else none else none else none else none:=(Di _ _ _ _ _ _ _).trans (by kernel_rfl)
theorem Ao.Cs.ev:B0 Ao.Cs.E N f156 (Ak f156) [.ints .arg .u64 x,.ints .arg .u64 y]=bif ((Mb x y&&Al x)&&Al y) then Ao.Cs.C2 N x y (Hj x y) else none:=by kernel_rfl
end
abbrev _root_.Go.Proofs.S1.Ao.Cs.Kn:=A8 prog 156 Ao.Cs.spec
theorem Ao.Cs.Ad (hk:A2 prog Ao.Cs.Bc) (h:Hyp Ao.Cs.E f156 Ao.Cs.ts Ao.Cs.pre Ao.Cs.out):Ao.Cs.Kn :=
 Am (A5 hk _ _ _) func156 (by kernel_rfl) (by kernel_rfl) h
def Ao.round.hint:Nat→Option Ba
 | 0=>some { keep:=[2,3,4,6,7,9,10],objs:=[],boxes:=[3,4,6,7] }
 | 2=>some { keep:=[2,3,4,6,7,9,10,11],objs:=[],boxes:=[3,4,6,7] }
 | _=>none
def Ao.round.Bc:List (Nat × Entry):=[(86,A6.Du.spec),(22,Ae.Pc.spec),(157,D4.G1.spec),(155,Ao.be.spec),(156,Ao.Cs.spec)]
def Ao.round.E:Env:=Bi (Be Ao.round.Bc) (fun _=>false) Ao.round.hint (fun _=>none)
section
variable (N M0 M:Nat) (r c:Int) (l:List Int) (p q:Int) (m:List Int) (b p11:Int) (p9:Bool) (p3 p4:List Int) (p10_1 p10:Int) (p9_1:Bool) (p3_1 p4_1:List Int)
def Ao.round.L0:Option DV:=B8 Ao.round.E N f97 (Ak f97) [1,1,0,1,0] [] M ⟨Ff 63 [(2,.int .u64 b),(3,.ptr 3 0 0),(4,.ptr 4 0 0),(6,.ptr 6 0 0),(7,.ptr 7 0 0),(9,.bool p9_1),(10,.int .i64 p10)],[(3,false,.box [.int .i64 r,.int .i64 c,.ints .arg .u64 p3_1]),(4,false,.box [.int .i64 p,.int .i64 q,.ints .arg .u64 p4_1]),(6,false,.box [.int .i64 0,.int .i64 0,.nil]),(7,false,.box [.int .i64 0,.int .i64 0,.nil])]⟩
def Ao.round.L1:Option DV:=B8 Ao.round.E N f97 (Ak f97) [1,1,0,1,0,0,1,0,0,1,0] [M0] M ⟨Ff 63 [(2,.int .u64 b),(3,.ptr 3 0 0),(4,.ptr 4 0 0),(6,.ptr 6 0 0),(7,.ptr 7 0 0),(9,.bool p9),(10,.int .i64 p10_1),(11,.int .i64 p11)],[(3,false,.box [.int .i64 r,.int .i64 c,.ints .arg .u64 p3]),(4,false,.box [.int .i64 p,.int .i64 q,.ints .arg .u64 p4]),(6,false,.box [.int .i64 0,.int .i64 0,.nil]),(7,false,.box [.int .i64 0,.int .i64 0,.nil])]⟩
theorem Ao.round.Ar:Ao.round.L0 N (M+1) r c p q b p10 p9_1 p3_1 p4_1=bif (Bb p10 c) then Ao.round.L1 N M N r c p q b (Ab (p10+1)) p9_1 p3_1 p4_1 p10 else some (.tup [.agg [.int .i64 r,.int .i64 c,.ints .arg .u64 p3_1],.agg [.int .i64 p,.int .i64 q,.ints .arg .u64 p4_1],.bool p9_1]):=by kernel_rfl
theorem Ao.round.Cd:Ao.round.L1 N M0 (M+1) r c p q b p11 p9 p3 p4 p10_1=bif (Bb p11 c) then bif (Fv r c p3 p10_1&&B5 (0≤(0:Int)∧(0:Int)≤r)) then bif (Fv r c p3 p11&&B5 (0≤(0:Int)∧(0:Int)≤r)) then bif ((Bs (Ci c p3 p10_1 0 (toNat (r-0)))&&Bs (Ci c p3 p11 0 (toNat (r-0))))&&(Af b&&B5 (length (Ci c p3 p10_1 0 (toNat (r-0)))=length (Ci c p3 p11 0 (toNat (r-0)))∧length (Ci c p3 p10_1 0 (toNat (r-0)))≤6))) then bif (beR (Ci c p3 p10_1 0 (toNat (r-0))) (Ci c p3 p11 0 (toNat (r-0))) b) then Ao.round.L1 N M0 M r c p q b (Ab (p11+1)) p9 p3 p4 p10_1 else bif ((Bs (Ci c p3 p10_1 0 (toNat (r-0)))&&Bs (Ci c p3 p11 0 (toNat (r-0))))&&B5 (length (Ci c p3 p10_1 0 (toNat (r-0)))=length (Ci c p3 p11 0 (toNat (r-0)))∧length (Ci c p3 p10_1 0 (toNat (r-0)))≤6)) then bif (Af (Lz (G2 (Iy (Ci c p3 p10_1 0 (toNat (r-0))) (Ci c p3 p11 0 (toNat (r-0))))))) then bif (A0 r c p3&&(Al p3&&((Af (Ms (G2 (Iy (Ci c p3 p10_1 0 (toNat (r-0))) (Ci c p3 p11 0 (toNat (r-0))))))&&Af (Cz (Lz (G2 (Iy (Ci c p3 p10_1 0 (toNat (r-0))) (Ci c p3 p11 0 (toNat (r-0))))))))&&B5 (0≤p10_1∧p10_1<c∧0≤p11∧p11<c∧p10_1≠p11)))) then bif (Af (Lz (G2 (Iy (Ci c p3 p10_1 0 (toNat (r-0))) (Ci c p3 p11 0 (toNat (r-0))))))) then bif (A0 p q p4&&(Al p4&&((Af (Ms (G2 (Iy (Ci c p3 p10_1 0 (toNat (r-0))) (Ci c p3 p11 0 (toNat (r-0))))))&&Af (Cz (Lz (G2 (Iy (Ci c p3 p10_1 0 (toNat (r-0))) (Ci c p3 p11 0 (toNat (r-0))))))))&&B5 (0≤p10_1∧p10_1<q∧0≤p11∧p11<q∧p10_1≠p11)))) then Ao.round.L1 N M0 M r c p q b (Ab (p11+1)) false (Oy (toNat r) (toNat c) p3 (toNat p10_1) (toNat p11) (Ms (G2 (Iy (Ci c p3 p10_1 0 (toNat (r-0))) (Ci c p3 p11 0 (toNat (r-0)))))) (Cz (Lz (G2 (Iy (Ci c p3 p10_1 0 (toNat (r-0))) (Ci c p3 p11 0 (toNat (r-0)))))))) (Oy (toNat p) (toNat q) p4 (toNat p10_1) (toNat p11) (Ms (G2 (Iy (Ci c p3 p10_1 0 (toNat (r-0))) (Ci c p3 p11 0 (toNat (r-0)))))) (Cz (Lz (G2 (Iy (Ci c p3 p10_1 0 (toNat (r-0))) (Ci c p3 p11 0 (toNat (r-0)))))))) p10_1 else none else none else none else none else none else none else none else none else Ao.round.L0 N M0 r c p q b (Ab (p10_1+1)) p9 p3 p4 :=
 Eq.trans (by kernel_rfl)
 (E1 (E1 (E1 (E1 (E1 rfl (E1 (Cw (Cy _) (Cw (Cy _) (Cw (Cy _) (Cw (Cy _) rfl rfl) rfl) rfl) rfl) rfl)) rfl) rfl) rfl) rfl)
theorem Ao.round.ev:B0 Ao.round.E N f97 (Ak f97) [.agg [.int .i64 r,.int .i64 c,.ints .arg .u64 l],.agg [.int .i64 p,.int .i64 q,.ints .arg .u64 m],.int .u64 b] =
 Ao.round.L0 N N r c p q b 0 true l m:=by kernel_rfl
end
abbrev _root_.Go.Proofs.S1.Ao.round.Kn:=A8 prog 97 Ao.round.spec
theorem Ao.round.Ad (hk:A2 prog Ao.round.Bc) (h:Hyp Ao.round.E f97 Ao.round.ts Ao.round.pre Ao.round.out):Ao.round.Kn :=
 Am (A5 hk _ _ _) func97 (by kernel_rfl) (by kernel_rfl) h
def Ao.Bf.hint:Nat→Option Ba
 | 0=>some { keep:=[1,2,4,5,6],objs:=[(6,2,106002,.ints 43 .u64 [])],boxes:=[2,4,5] }
 | _=>none
def Ao.Bf.Bc:List (Nat × Entry):=[(85,Ah.Bu.spec),(53,Ae.Dm.own.spec)]
def Ao.Bf.E:Env:=Bi (Be Ao.Bf.Bc) (fun n=>Nat.beq n 11) Ao.Bf.hint (fun _=>none)
section
variable (N M:Nat) (r c:Int) (l:List Int) (k p6:Int) (p2:List Int)
def Ao.Bf.L0:Option DV:=B8 Ao.Bf.E N f94 (Ak f94) [1,1,0,1,0] [] M ⟨Ff 31 [(1,.int .i64 k),(2,.ptr 2 0 0),(4,.ptr 4 0 0),(5,.ptr 5 0 0),(6,.int .i64 p6)],[(2,false,.box [.int .i64 r,.int .i64 c,.ints .arg .u64 l]),(4,false,.box [.int .i64 0,.int .i64 0,.nil]),(5,false,.box [.int .i64 r,.int .i64 c,.oref 106002]),(106002,false,.ints 43 .u64 p2)]⟩
theorem Ao.Bf.Ar:Ao.Bf.L0 N (M+1) r c l k p6 p2=bif (Bb p6 (length l:Int)) then bif ((decide (0≤p6))&&(decide (p6<(length l:Int)))) then bif (Df (getD l (toNat p6) 0) k) then bif ((decide (0≤p6))&&(decide (p6<(length p2:Int)))) then bif (decide ((toNat p6)<(length p2))) then Ao.Bf.L0 N M r c l k (Ab (p6+1)) (List.set p2 (toNat p6) (Bg (getD l (toNat p6) 0) k)) else none else none else none else none else some (.agg [.int .i64 r,.int .i64 c,.ints (.own 106002 43) .u64 p2]) :=
 Eq.trans (by kernel_rfl)
 (E1 (Cw (J1 _ _) (Cw (Cy _) (Cw (J1 _ _) (Cw (Cy _) rfl rfl) rfl) rfl) rfl) rfl)
theorem Ao.Bf.ev:B0 Ao.Bf.E N f94 (Ak f94) [.agg [.int .i64 r,.int .i64 c,.ints .arg .u64 l],.int .i64 k]=bif (Cg r&&Cg c) then Ao.Bf.L0 N N r c l k 0 (Cx (toNat r) (toNat c) (fun _ _=>0)) else none:=by kernel_rfl
end
abbrev _root_.Go.Proofs.S1.Ao.Bf.Kn:=A8 prog 94 Ao.Bf.spec
theorem Ao.Bf.Ad (hk:A2 prog Ao.Bf.Bc) (h:Hyp Ao.Bf.E f94 Ao.Bf.ts Ao.Bf.pre Ao.Bf.out):Ao.Bf.Kn :=
 Am (A5 hk _ _ _) func94 (by kernel_rfl) (by kernel_rfl) h
def Ao.F5.hint:Nat→Option Ba
 | 0=>some { keep:=[1,3,4],objs:=[(0,3,100003,.ints 43 .u64 [])],boxes:=[1] }
 | _=>none
def Ao.F5.Bc:List (Nat × Entry):=[(96,Ah.Norm.spec),(22,Ae.Pc.spec)]
def Ao.F5.E:Env:=Bi (Be Ao.F5.Bc) (fun _=>false) Ao.F5.hint (fun _=>none)
section
variable (N M:Nat) (r c:Int) (l:List Int) (p4:Int) (p3:List Int)
def Ao.F5.L0:Option DV:=B8 Ao.F5.E N f75 (Ak f75) [1,1,0,1,0] [] M ⟨Ff 20 [(1,.ptr 1 0 0),(3,.oref 100003),(4,.int .i64 p4)],[(1,false,.box [.int .i64 r,.int .i64 c,.ints .arg .u64 l]),(100003,false,.ints 43 .u64 p3)]⟩
theorem Ao.F5.Ar:Ao.F5.L0 N (M+1) r c l p4 p3=bif (Bb p4 c) then bif (Fv r c l p4&&B5 (0≤(0:Int)∧(0:Int)≤r)) then bif (Bs (Ci c l p4 0 (toNat (r-0)))) then bif (decide ((length p3)+1≤Ha)) then Ao.F5.L0 N M r c l (Ab (p4+1)) (p3++[(Bt (Ci c l p4 0 (toNat (r-0))))]) else none else none else none else some (.ints (.own 100003 43) .u64 p3):=by kernel_rfl
theorem Ao.F5.ev:B0 Ao.F5.E N f75 (Ak f75) [.agg [.int .i64 r,.int .i64 c,.ints .arg .u64 l]] =
 Ao.F5.L0 N N r c l 0 []:=by kernel_rfl
end
abbrev _root_.Go.Proofs.S1.Ao.F5.Kn:=A8 prog 75 Ao.F5.spec
theorem Ao.F5.Ad (hk:A2 prog Ao.F5.Bc) (h:Hyp Ao.F5.E f75 Ao.F5.ts Ao.F5.pre Ao.F5.out):Ao.F5.Kn :=
 Am (A5 hk _ _ _) func75 (by kernel_rfl) (by kernel_rfl) h
def Ao.order.hint:Nat→Option Ba
 | 0=>some { keep:=[0,3,4],objs:=[(0,3,100003,.ints 3 .i64 [])],boxes:=[] }
 | 2=>some { keep:=[0,3,4,5,6,7],objs:=[(0,3,100003,.ints 3 .i64 []),(0,5,100005,.ints 3 .i64 [])],boxes:=[] }
 | _=>none
def Ao.order.Bc:List (Nat × Entry):=[(158,Ao.F6.spec)]
def Ao.order.E:Env:=Bi (Be Ao.order.Bc) (fun _=>false) Ao.order.hint (fun _=>none)
section
variable (N M0 M:Nat) (l:List Int) (p4_1:Int) (p3_1:List Int) (p6:Bool) (p7:Int) (p5:List Int) (p4:Int) (p3:List Int)
def Ao.order.L0:Option DV:=B8 Ao.order.E N f98 (Ak f98) [1,1,0,1,0] [] M ⟨Ff 57 [(0,.ints .arg .u64 l),(3,.oref 100003),(4,.int .i64 p4)],[(100003,false,.ints 3 .i64 p3)]⟩
def Ao.order.L1:Option DV:=B8 Ao.order.E N f98 (Ak f98) [1,1,0,1,0,0,1,0,0,1,1,0,1,0] [M0] M ⟨Ff 57 [(0,.ints .arg .u64 l),(3,.oref 100003),(4,.int .i64 p4_1),(5,.oref 100005),(6,.bool p6),(7,.int .i64 p7)],[(100003,false,.ints 3 .i64 p3_1),(100005,false,.ints 3 .i64 p5)]⟩
theorem Ao.order.Ar:Ao.order.L0 N (M+1) l p4 p3=bif (Bb p4 (length l:Int)) then Ao.order.L1 N M N l p4 p3 false 0 [] else some (.ints (.own 100003 3) .i64 p3):=by kernel_rfl
theorem Ao.order.Cd:Ao.order.L1 N M0 (M+1) l p4_1 p3_1 p6 p7 p5=bif (Bb p7 (length p3_1:Int)) then bif (p6||((decide (0≤p4_1))&&(decide (p4_1<(length l:Int))))) then bif (p6||((decide (0≤p7))&&(decide (p7<(length p3_1:Int))))) then bif (p6||(decide ((toNat p7)<(length p3_1)))) then bif (p6||((decide (0≤(getD p3_1 (toNat p7) 0)))&&(decide ((getD p3_1 (toNat p7) 0)<(length l:Int))))) then bif (p6||(Af (getD l (toNat p4_1) 0)&&Af (getD l (toNat (getD p3_1 (toNat p7) 0)) 0))) then bif ((!p6)&&(F1 (getD l (toNat p4_1) 0) (getD l (toNat (getD p3_1 (toNat p7) 0)) 0))) then bif (decide ((length p5)+1≤Ha)) then bif ((decide (0≤p7))&&(decide (p7<(length p3_1:Int)))) then bif (decide ((toNat p7)<(length p3_1))) then bif (decide ((length (p5++[p4_1]))+1≤Ha)) then Ao.order.L1 N M0 M l p4_1 p3_1 true (Ab (p7+1)) ((p5++[p4_1])++[(getD p3_1 (toNat p7) 0)]) else none else none else none else none else bif ((decide (0≤p7))&&(decide (p7<(length p3_1:Int)))) then bif (decide ((toNat p7)<(length p3_1))) then bif (decide ((length p5)+1≤Ha)) then Ao.order.L1 N M0 M l p4_1 p3_1 p6 (Ab (p7+1)) (p5++[(getD p3_1 (toNat p7) 0)]) else none else none else none else none else none else none else none else none else bif (!p6) then bif (decide ((length p5)+1≤Ha)) then Ao.order.L0 N M0 l (Ab (p4_1+1)) (p5++[p4_1]) else none else Ao.order.L0 N M0 l (Ab (p4_1+1)) p5 :=
 Eq.trans (by kernel_rfl)
 (E1 (Ax (Agr p6) (Ax (Agr p6) (Cw (Aqs _ _ _) (Ax (Aw4 p6) (Ax (Agr p6) (Ax (Agr p6) (Ax (Agr p6) (Cw (Aqs _ _ _) (Cw (A09 _ _) (Cw (Aqs _ _ _) (Ax (Aw4 p6) (Cw (A1a _ _) (Ax (A1b p6) (Cw (A1c _ _) rfl rfl)) rfl)) rfl) rfl) rfl))))) rfl))) rfl)
theorem Ao.order.ev:B0 Ao.order.E N f98 (Ak f98) [.ints .arg .u64 l] =
 Ao.order.L0 N N l 0 []:=by kernel_rfl
end
abbrev _root_.Go.Proofs.S1.Ao.order.Kn:=A8 prog 98 Ao.order.spec
theorem Ao.order.Ad (hk:A2 prog Ao.order.Bc) (h:Hyp Ao.order.E f98 Ao.order.ts Ao.order.pre Ao.order.out):Ao.order.Kn :=
 Am (A5 hk _ _ _) func98 (by kernel_rfl) (by kernel_rfl) h
def Ez.Dj.hint:Nat→Option Ba
 | 0=>some { keep:=[1,2,4,5,6],objs:=[],boxes:=[2,4,5] }
 | 2=>some { keep:=[1,2,4,5,6,7],objs:=[],boxes:=[2,4,5] }
 | _=>none
def Ez.Dj.Bc:List (Nat × Entry):=[(55,Ae.At.spec),(54,Ae.Gk.arg.spec),(53,Ae.Dm.arg.spec)]
def Ez.Dj.E:Env:=Bi (Be Ez.Dj.Bc) (fun _=>false) Ez.Dj.hint (fun _=>none)
section
variable (N M0 M:Nat) (r c:Int) (l x:List Int) (p7:Int) (p5:List Int) (p6_1 p6:Int) (p5_1:List Int)
def Ez.Dj.L0:Option DV:=B8 Ez.Dj.E N f99 (Ak f99) [1,1,0,1,0] [] M ⟨Ff 37 [(1,.ints .arg .i64 x),(2,.ptr 2 0 0),(4,.ptr 4 0 0),(5,.ptr 5 0 0),(6,.int .i64 p6)],[(2,false,.box [.int .i64 r,.int .i64 c,.ints .arg .u64 l]),(4,false,.box [.int .i64 0,.int .i64 0,.nil]),(5,false,.box [.int .i64 r,.int .i64 (length x:Int),.ints .arg .u64 p5_1])]⟩
def Ez.Dj.L1:Option DV:=B8 Ez.Dj.E N f99 (Ak f99) [1,1,0,1,0,0,1,0,0,1,0] [M0] M ⟨Ff 37 [(1,.ints .arg .i64 x),(2,.ptr 2 0 0),(4,.ptr 4 0 0),(5,.ptr 5 0 0),(6,.int .i64 p6_1),(7,.int .i64 p7)],[(2,false,.box [.int .i64 r,.int .i64 c,.ints .arg .u64 l]),(4,false,.box [.int .i64 0,.int .i64 0,.nil]),(5,false,.box [.int .i64 r,.int .i64 (length x:Int),.ints .arg .u64 p5])]⟩
theorem Ez.Dj.Ar:Ez.Dj.L0 N (M+1) r c l x p6 p5_1=bif (Bb p6 r) then Ez.Dj.L1 N M N r c l x 0 p5_1 p6 else some (.agg [.int .i64 r,.int .i64 (length x:Int),.ints .arg .u64 p5_1]):=by kernel_rfl
theorem Ez.Dj.Cd:Ez.Dj.L1 N M0 (M+1) r c l x p7 p5 p6_1=bif (Bb p7 (length x:Int)) then bif ((decide (0≤p7))&&(decide (p7<(length x:Int)))) then bif (En r c l p6_1 (getD x (toNat p7) 0)) then bif (En r (length x:Int) p5 p6_1 p7) then Ez.Dj.L1 N M0 M r c l x (Ab (p7+1)) (List.set p5 (toNat (p6_1*(length x:Int)+p7)) (Fp c l p6_1 (getD x (toNat p7) 0))) p6_1 else none else none else none else Ez.Dj.L0 N M0 r c l x (Ab (p6_1+1)) p5 :=
 Eq.trans (by kernel_rfl)
 (E1 (Cw (J1 _ _) (Cw (Cy _) (Cw (Cy _) rfl rfl) rfl) rfl) rfl)
theorem Ez.Dj.ev:B0 Ez.Dj.E N f99 (Ak f99) [.agg [.int .i64 r,.int .i64 c,.ints .arg .u64 l],.ints .arg .i64 x]=bif (Cg r&&Cg (length x:Int)) then Ez.Dj.L0 N N r c l x 0 (Cx (toNat r) (toNat (length x:Int)) (fun _ _=>0)) else none:=by kernel_rfl
end
abbrev _root_.Go.Proofs.S1.Ez.Dj.Kn:=A8 prog 99 Ez.Dj.spec
theorem Ez.Dj.Ad (hk:A2 prog Ez.Dj.Bc) (h:Hyp Ez.Dj.E f99 Ez.Dj.ts Ez.Dj.pre Ez.Dj.out):Ez.Dj.Kn :=
 Am (A5 hk _ _ _) func99 (by kernel_rfl) (by kernel_rfl) h
def Ao.Az.hint:Nat→Option Ba
 | 0=>some { keep:=[2,3,4,5,6,7,8],objs:=[],boxes:=[2,4,5] }
 | _=>none
def Ao.Az.Bc:List (Nat × Entry):=[(92,Br.K7.spec),(93,Ah.Bx.spec),(74,Ah.Finite.spec),(96,Ah.Norm.spec),(85,Ah.Bu.spec),(95,Ae.E9.arg.spec),(99,Ez.Dj.spec),(75,Ao.F5.spec),(98,Ao.order.spec),(97,Ao.round.spec),(94,Ao.Bf.spec)]
def Ao.Az.live:Nat→Option (List Nat)
 | 2=>some [1,2,3]
 | 4=>some [2,3,4,5]
 | 10=>some [2,3,4,5,7]
 | 12=>some [2,3,4,5]
 | 15=>some [2,4,5]
 | 17=>some [2,4,5]
 | _=>none
def Ao.Az.E:Env:=Bi (Be Ao.Az.Bc) (fun _=>false) Ao.Az.hint Ao.Az.live
section
variable (N M:Nat) (r c:Int) (p4_2 p5_2 l:List Int) (p3:Int) (p5 p4:List Int) (p7:Bool) (p8:Int) (p4_1 p5_1:List Int)
def Ao.Az.C2:Option DV:=cutAt Ao.Az.E N f37 (Ak f37) [1,1] [] ⟨Ff 71 [(1,.ptr 1 0 0),(2,.ptr 2 0 0),(3,.int .i64 p3)],[(2,false,.box [.int .i64 0,.int .i64 0,.nil,.int .i64 0,.int .i64 0,.nil,.nil,.int .i64 0]),(1,false,.box [.int .i64 r,.int .i64 c,.ints .arg .u64 l])]⟩
def Ao.Az.C4:Option DV:=cutAt Ao.Az.E N f37 (Ak f37) [1,1,1,1] [] ⟨Ff 71 [(2,.ptr 2 0 0),(3,.int .i64 p3),(4,.ptr 4 0 0),(5,.ptr 5 0 0)],[(5,false,.box [.int .i64 c,.int .i64 c,.ints .arg .u64 p5]),(4,false,.box [.int .i64 r,.int .i64 c,.ints .arg .u64 p4]),(2,false,.box [.int .i64 0,.int .i64 0,.nil,.int .i64 0,.int .i64 0,.nil,.nil,.int .i64 0]),(1,false,.box [.int .i64 r,.int .i64 c,.ints .arg .u64 l])]⟩
def Ao.Az.L0:Option DV:=B8 Ao.Az.E N f37 (Ak f37) [1,1,1,1,1,1,0,1,0] [] M ⟨Ff 71 [(2,.ptr 2 0 0),(3,.int .i64 p3),(4,.ptr 4 0 0),(5,.ptr 5 0 0),(6,.int .u64 (Bg (Bt p4) (-44:Int))),(7,.bool p7),(8,.int .i64 p8)],[(2,false,.box [.int .i64 0,.int .i64 0,.nil,.int .i64 0,.int .i64 0,.nil,.nil,.int .i64 0]),(4,false,.box [.int .i64 r,.int .i64 c,.ints .arg .u64 p4_1]),(5,false,.box [.int .i64 c,.int .i64 c,.ints .arg .u64 p5_1])]⟩
def Ao.Az.C10:Option DV:=cutAt Ao.Az.E N f37 (Ak f37) [1,1,1,1,1,1,1,0] [] ⟨Ff 71 [(2,.ptr 2 0 0),(3,.int .i64 p3),(4,.ptr 4 0 0),(5,.ptr 5 0 0),(7,.bool p7)],[(2,false,.box [.int .i64 0,.int .i64 0,.nil,.int .i64 0,.int .i64 0,.nil,.nil,.int .i64 0]),(4,false,.box [.int .i64 r,.int .i64 c,.ints .arg .u64 p4_1]),(5,false,.box [.int .i64 c,.int .i64 c,.ints .arg .u64 p5_1])]⟩
def Ao.Az.C12:Option DV:=cutAt Ao.Az.E N f37 (Ak f37) [1,1,1,1,1,1,1,1] [] ⟨Ff 71 [(2,.ptr 2 0 0),(3,.int .i64 p3),(4,.ptr 4 0 0),(5,.ptr 5 0 0)],[(2,false,.box [.int .i64 0,.int .i64 0,.nil,.int .i64 0,.int .i64 0,.nil,.nil,.int .i64 0]),(4,false,.box [.int .i64 r,.int .i64 c,.ints .arg .u64 p4_1]),(5,false,.box [.int .i64 c,.int .i64 c,.ints .arg .u64 p5_1])]⟩
def Ao.Az.C15:Option DV:=cutAt Ao.Az.E N f37 (Ak f37) [1,1,1,1,1,1,1,1,1,1,1,0] [] ⟨Ff 71 [(2,.ptr 2 0 0),(4,.ptr 4 0 0),(5,.ptr 5 0 0)],[(2,false,.box [.int .i64 0,.int .i64 0,.nil,.int .i64 0,.int .i64 0,.nil,.nil,.int .i64 0]),(4,false,.box [.int .i64 r,.int .i64 c,.ints .arg .u64 p4_2]),(5,false,.box [.int .i64 c,.int .i64 c,.ints .arg .u64 p5_2])]⟩
def Ao.Az.C17:Option DV:=cutAt Ao.Az.E N f37 (Ak f37) [1,1,1,1,1,1,1,1,1,1,1,1] [] ⟨Ff 71 [(2,.ptr 2 0 0),(4,.ptr 4 0 0),(5,.ptr 5 0 0)],[(2,false,.box [.int .i64 0,.int .i64 0,.nil,.int .i64 0,.int .i64 0,.nil,.nil,.int .i64 0]),(4,false,.box [.int .i64 r,.int .i64 c,.ints .arg .u64 p4_2]),(5,false,.box [.int .i64 c,.int .i64 c,.ints .arg .u64 p5_2])]⟩
theorem Ao.Az.Ajh:Ao.Az.C2 N r c l p3=bif (A0 r c l&&(Al l&&B5 (-2300≤(Ab ((0:Int)-p3))∧(Ab ((0:Int)-p3))≤2300))) then bif (Cg c) then Ao.Az.C4 N r c l p3 (Ic (toNat c)) (A9 l (Ab ((0:Int)-p3))) else none else none:=(Di _ _ _ _ _ _ _).trans (by kernel_rfl)
theorem Ao.Az.Ajg:Ao.Az.C4 N r c l p3 p5 p4=bif (Bs p4) then bif (Df (Bt p4) (-44:Int)) then Ao.Az.L0 N N r c p3 p4 false 0 p4 p5 else none else none:=(Di _ _ _ _ _ _ _).trans (by kernel_rfl)
theorem Ao.Az.Ar:Ao.Az.L0 N (M+1) r c p3 p4 p7 p8 p4_1 p5_1=bif ((Bb p8 60)&&(!p7)) then bif ((A0 r c p4_1&&A0 c c p5_1)&&((Al p4_1&&Al p5_1)&&(Af (Bg (Bt p4) (-44:Int))&&B5 (c=c∧c=c)))) then Ao.Az.L0 N M r c p3 p4 ((Sd (toNat r) (toNat c) (Bg (Bt p4) (-44:Int)) p4_1 p5_1).2.2) (Ab (p8+1)) ((Sd (toNat r) (toNat c) (Bg (Bt p4) (-44:Int)) p4_1 p5_1).1) ((Sd (toNat r) (toNat c) (Bg (Bt p4) (-44:Int)) p4_1 p5_1).2.1) else none else Ao.Az.C10 N r c p3 p7 p4_1 p5_1 :=
 Eq.trans (by kernel_rfl)
 (Ax (R6 (Bb p8 60)) (Ax (No (Bb p8 60)) (Ax (W5 (Bb p8 60)) (Cw (A0s _ _) rfl rfl))))
theorem Ao.Az.Agf:Ao.Az.C10 N r c p3 p7 p4_1 p5_1=bif (!p7) then some (.agg [.int .i64 0,.int .i64 0,.nil,.int .i64 0,.int .i64 0,.nil,.nil,.int .i64 6]) else Ao.Az.C12 N r c p3 p4_1 p5_1:=(Di _ _ _ _ _ _ _).trans (by kernel_rfl)
theorem Ao.Az.Ve:Ao.Az.C12 N r c p3 p4_1 p5_1=bif (A0 r c p4_1&&Al p4_1) then bif (Bs (Ca (toNat r) (toNat c) p4_1)&&B5 (length (Ca (toNat r) (toNat c) p4_1)≤6)) then bif (A0 r c p4_1&&B5 (((length (Fm (Ca (toNat r) (toNat c) p4_1)):Nat):Int)=c∧Jg (toNat c) (Fm (Ca (toNat r) (toNat c) p4_1))=true)) then bif (A0 r c (Cr (toNat r) (toNat c) p4_1 (Fm (Ca (toNat r) (toNat c) p4_1)))&&(Al (Cr (toNat r) (toNat c) p4_1 (Fm (Ca (toNat r) (toNat c) p4_1)))&&B5 (-2300≤p3∧p3≤2300))) then bif (A0 c c p5_1&&B5 (((length (Fm (Ca (toNat r) (toNat c) p4_1)):Nat):Int)=c∧Jg (toNat c) (Fm (Ca (toNat r) (toNat c) p4_1))=true)) then Ao.Az.C15 N r c (A9 (Cr (toNat r) (toNat c) p4_1 (Fm (Ca (toNat r) (toNat c) p4_1))) p3) (Cr (toNat c) (toNat c) p5_1 (Fm (Ca (toNat r) (toNat c) p4_1))) else none else none else none else none else none:=(Di _ _ _ _ _ _ _).trans (by kernel_rfl)
theorem Ao.Az.All:Ao.Az.C15 N r c p4_2 p5_2=bif (Bs p4_2) then bif ((!(Dc p4_2))||(Bs p5_2)) then bif ((!(Dc p4_2))||(!(Dc p5_2))) then some (.agg [.int .i64 0,.int .i64 0,.nil,.int .i64 0,.int .i64 0,.nil,.nil,.int .i64 2]) else Ao.Az.C17 N r c p4_2 p5_2 else none else none :=
 Eq.trans ((Di _ _ _ _ _ _ _).trans (by kernel_rfl))
 (E1 (Ax (W7 (Dc p4_2)) (Ax (R3 (Dc p4_2)) (Cw (Ajt _ _) (Ax (R3 (Dc p4_2)) (Ax (Zu (Dc p4_2)) (Cw (Aqo _ _) rfl rfl))) rfl))) rfl)
theorem Ao.Az.Aza:Ao.Az.C17 N r c p4_2 p5_2=bif (A0 r c p4_2&&Al p4_2) then some (.agg [.int .i64 r,.int .i64 c,.ints .arg .u64 p4_2,.int .i64 c,.int .i64 c,.ints .arg .u64 p5_2,.ints .fresh .u64 (Ca (toNat r) (toNat c) p4_2),.int .i64 0]) else none :=
 Eq.trans ((Di _ _ _ _ _ _ _).trans (by kernel_rfl))
 (Cw (Cy _) rfl rfl)
theorem Ao.Az.ev:B0 Ao.Az.E N f37 (Ak f37) [.agg [.int .i64 r,.int .i64 c,.ints .arg .u64 l]]=bif (Bs l) then bif (Af (Bk l)) then Ao.Az.C2 N r c l (B1 (Bk l)) else none else none:=by kernel_rfl
end
abbrev _root_.Go.Proofs.S1.Ao.Az.Kn:=A8 prog 37 Ao.Az.spec
theorem Ao.Az.Ad (hk:A2 prog Ao.Az.Bc) (h:Hyp Ao.Az.E f37 Ao.Az.ts Ao.Az.pre Ao.Az.out):Ao.Az.Kn :=
 Am (A5 hk _ _ _) func37 (by kernel_rfl) (by kernel_rfl) h
end EqRef19
end Go.Proofs.S1
namespace Go.Rnd
open Go.Den
structure Good (x:Int):Prop where
 word:Af x=true
 k3:Aj x.toNat≠3
 k4:Aj x.toNat≠4
 ne:x.toNat≠2^63
end Go.Rnd
namespace Go.Rnd
open Go.Den
theorem Ayu {b:Nat} (h:b<Ek):Aj b≠3∧Aj b≠4∧b%2^63=b:=by
 have hi:=Gb
 have h3:b%2^63=b:=by omega
 have hr:=Ph b
 have hf:=Kj b
 rcases H7 b with ⟨p,_,_⟩ | ⟨p,_,_⟩ | ⟨_,p,q⟩
 ·exfalso; rw [p] at hr; omega
 ·exfalso; rw [p] at hr; omega
 ·exact ⟨p,q,h3⟩
theorem Zn:∀ (l:List Int) (m:Nat),(∀ z∈l,Dz z=true)→m<Ek→P2 l m<Ek
 | [],_,_,h=>h
 | z::l,m,hl,hm=>by
   have zk:=M8 (show Jy z.toNat=true from hl z A5v)
   rw [Ai4 zk.1]
   refine Zn l _ (fun w hw=>hl w (A5l _ hw)) ?_
   have hz:Gg z.toNat<Ek:=Tp zk.2 zk.1
   omega
theorem Amn {l:List Int} (h:Dc l=true):∀ z∈l,Dz z=true:=List.all_eq_true.1 h
theorem Awo {x:List Int} (hf:Dc x=true):Aj (Bk x).toNat≠3∧Aj (Bk x).toNat≠4∧Gg (Bk x).toNat=(Bk x).toNat∧∀ z∈x,Gg z.toNat≤Gg (Bk x).toNat:=by
 have eb:(Bk x).toNat=P2 x 0:=A4i _
 have hl:=Zn x 0 (Amn hf) (by rw [Gb]; omega)
 obtain ⟨h1,h2,h3⟩:=Ayu hl
 have hN:P2 x 0≠Oc:=fun e=>by rw [e,Gb,Py] at hl; omega
 rw [eb]
 refine ⟨h1,h2,h3,fun z hz=>?_⟩
 show _≤P2 x 0%2^63
 rw [h3]
 rcases At4 x 0 with g | ⟨_,g⟩
 ·exact absurd g hN
 ·exact g z hz
theorem A1s {x:Int} (h:Dz x=true):Aj x.toNat≠3∧Aj x.toNat≠4:=⟨(M8 (show Jy x.toNat=true from h)).2,(M8 (show Jy x.toNat=true from h)).1⟩
theorem Xc (x n:Int):(Bg x n).toNat=(Fi x.toNat n).1:=A4i _
end Go.Rnd
namespace Go.Rnd
open Go.Den
theorem Tk (a b:Int):F1 a b=Ado b a:=by
 unfold F1 Ado Qh Hq Aal Aci
 by_cases h:Aj a.toNat=4∨Aj b.toNat=4
 ·have h':Aj b.toNat=4∨Aj a.toNat=4:=h.symm
  rw [A4h h,A43 h']; rfl
 ·have h':¬ (Aj b.toNat=4∨Aj a.toNat=4):=fun g=>h g.symm
  rw [A4l h,A42 h,A42 h',A5z,A5t]
  rcases Int.lt_trichotomy (Hr a.toNat) (Hr b.toNat) with g | g | g
  ·rw [A43 g,A42 (by omega),A43 g]; rfl
  ·rw [A42 (by omega),A42 (by omega),A42 (by omega),A42 (by omega)]
  ·rw [A42 (by omega),A43 g,A43 g]; rfl
theorem Awq:beR=W6:=by
 funext x y low
 unfold beR W6
 rw [Tk,Tk,Tk]
theorem Aj8 (R n:Nat) (low:Int) (w v:List Int):Sd R n low w v=Js R n low w v:=by
 unfold Sd Js; rw [Awq]
theorem Anp {b:Nat} {n:Int} (h4:Aj b≠4):Aj (Fi b n).1≠4:=by
 by_cases h:Aj b=3∨Aj b=0
 ·unfold Fi; rw [A42 h4,A43 h]; exact h4
 ·rw [Xb h4 h]; exact Tn _ _ _
theorem Alw {k:Int}:∀ (l:List Int) (s t:Nat),(∀ z∈l,Bd 1 (Fi z.toNat k).1)→Bm t 2 s→0<t→t+l.length≤1000→Bm (t+l.length) 2 (Vi k (s:Int) l).toNat
 | [],s,t,_,hs,_,_=>by
   show Bm t 2 (toNat (s:Int))
   rw [A4i]; exact hs
 | x::l,s,t,hl,hs,h0,ht=>by
   simp only [List.length_cons] at ht ⊢
   have h1:Bd 1 (Fi x.toNat k).1:=hl x A5v
   have h2:Bd 2 (Ly (Fi x.toNat k).1 (Fi x.toNat k).1).1:=Bd.mul (j:=1) (k:=1) (by decide) h1 h1
   have h3:=Bm.add (k:=2) (by omega) (by omega) (by decide) hs h2.bm
   have:=Alw l _ (t+1) (fun z hz=>hl z (A5l _ hz)) h3 (by omega) (by omega)
   rw [show t+(l.length+1)=t+1+l.length by omega]
   unfold Vi Dt Cc
   rw [Xc,A4i,A4i]
   exact this
theorem Ar1 {x:List Int} (hf:Dc x=true) (hl:x.length≤6):Aj (Bt x).toNat≠4:=by
 obtain ⟨b3,b4,_,hb⟩:=Awo hf
 unfold Bt
 by_cases h:Bk x=0∨Dz (Bk x)=false
 ·rw [A43 h]; exact b4
 ·rw [A42 h]
  obtain ⟨t,te,t1,_⟩:=Aqz (-B1 (Bk x)) x 0 (Nat.zero_le _)
  have te:Vi (-B1 (Bk x)) 0 x=t:=te
  have bm:Bm (1+x.length) 2 (Vi (-B1 (Bk x)) 0 x).toNat:=Alw x 0 1 (fun z hz=>by
   have zk:=A1s (Amn hf z hz)
   exact Bd.down zk.1 zk.2 b3 b4 (hb z hz)) (Bd.zero false 2).bm (by decide) (by omega)
  rw [te,A4i] at bm
  have bt:Bd (3+3) t:=(bm.bd (j:=3) (by omega)).mono (by decide)
  have br:Bd 3 (Oh t).1:=Bd.root (by decide) bt (Aar t1)
  rw [te,Xc]
  unfold Ed
  rw [A4i,A4i]
  exact Anp br.2.1
section
variable {key:Int→Int} (hk:∀ i,Aj (key i).toNat≠4)
def U1 (key:Int→Int) (i:Int):Int:=Hr (key i).toNat
include hk
theorem V1 (y x:Int):Hq (key y) (key x)<0↔U1 key y<U1 key x:=by
 unfold Hq Aci U1
 rw [A42 (fun h=>h.elim (hk y) (hk x))]
 split
 ·exact ⟨fun _=>‹_›,fun _=>by decide⟩
 ·split
  ·exact ⟨fun h=>absurd h (by decide),fun h=>absurd h ‹_›⟩
  ·exact ⟨fun h=>absurd h (by decide),fun h=>absurd h ‹_›⟩
theorem Ahp (x y:Int):F1 (key x) (key y)=true↔U1 key y<U1 key x:=by
 rw [Tk]
 unfold Ado
 rw [decide_eq_true_iff]
 exact V1 hk y x
theorem Adt {x y:Int} (h:U1 key y<U1 key x):∀ A:List Int,O8 key x (A++[y])=O8 key x A++[y]
 | []=>A43 ((Ahp hk x y).2 h)
 | a::A=>by
   rw [List.cons_append]
   unfold O8
   split
   ·rfl
   ·rw [Adt h A]; rfl
theorem Aib {x:Int}:∀ A:List Int,(∀ a∈A,U1 key x≤U1 key a)→O8 key x A=A++[x]
 | [],_=>rfl
 | a::A,h=>by
   have ha:=h a A5v
   unfold O8
   rw [A42 (fun g=>by have:=(Ahp hk x a).1 g; omega),Aib A (fun z hz=>h z (A5l _ hz))]
   rfl
def Am5 (key:Int→Int) (acc:List Int):Prop:=acc.Pairwise fun y z=>U1 key y≤U1 key z
theorem Adr {x:Int}:∀ {acc:List Int},Am5 key acc→Am5 key (P0 key x acc)
 | [],_=>List.pairwise_singleton _ _
 | y::t,h=>by
   have h':=List.pairwise_cons.1 h
   unfold P0
   split
   ·rename_i g
    have g:=(V1 hk y x).1 g
    refine List.pairwise_cons.2 ⟨fun z hz=>?_,Adr h'.2⟩
    rcases Ah9 hz with rfl | hz
    ·omega
    ·exact h'.1 z hz
   ·rename_i g
    have g:¬ U1 key y<U1 key x:=fun e=>g ((V1 hk y x).2 e)
    refine List.pairwise_cons.2 ⟨fun z hz=>?_,h⟩
    rcases List.mem_cons.1 hz with rfl | hz
    ·omega
    ·have:=h'.1 z hz; omega
theorem Ah8 {x:Int}:∀ {acc:List Int},Am5 key acc→(P0 key x acc).reverse=O8 key x acc.reverse
 | [],_=>rfl
 | y::t,h=>by
   have h':=List.pairwise_cons.1 h
   rw [List.reverse_cons]
   unfold P0
   split
   ·rename_i g
    have g:=(V1 hk y x).1 g
    rw [Adt hk g,List.reverse_cons,Ah8 h'.2]
   ·rename_i g
    have g:¬ U1 key y<U1 key x:=fun e=>g ((V1 hk y x).2 e)
    rw [Aib hk _ (fun z hz=>by
     rcases List.mem_append.1 hz with hz | hz
     ·have:=h'.1 z (List.mem_reverse.1 hz); omega
     ·rw [List.mem_singleton.1 hz]; omega),List.reverse_cons,List.reverse_cons]
theorem Apd (l:List Int):∀ {acc:List Int},Am5 key acc→(l.foldl (fun acc x=>P0 key x acc) acc).reverse=l.foldl (fun acc x=>O8 key x acc) acc.reverse:=by
 induction l with
 | nil=>intro acc _; rfl
 | cons x t ih =>
   intro acc h
   rw [List.foldl_cons,List.foldl_cons,ih (Adr hk h),Ah8 hk h]
end
theorem Akf {l:List Int} (hk:∀ x∈l,Aj x.toNat≠4):Fm l=E5 l (K9 l.length):=by
 unfold Fm E5 Sa
 refine (Apd (key:=Ll l) (fun i=>?_) _ (acc:=[]) List.Pairwise.nil).symm
 unfold Ll
 rw [A4q]
 rcases A5d i.toNat l.length with h | h
 ·rw [A4x h]; exact hk _ (List.getElem_mem h)
 ·rw [A5y h]; decide
theorem Asw {key:Int→Int} {x z:Int} {l:List Int}:z∈O8 key x l↔z=x∨z∈l:=by
 induction l with
 | nil=>simp [O8]
 | cons y t ih =>
   unfold O8
   split
   ·rw [List.mem_cons]
   ·rw [List.mem_cons,ih,List.mem_cons]
    constructor
    ·rintro (h | h | h)
     ·exact .inr (.inl h)
     ·exact .inl h
     ·exact .inr (.inr h)
    ·rintro (h | h | h)
     ·exact .inr (.inl h)
     ·exact .inl h
     ·exact .inr (.inr h)
theorem Yr (key:Int→Int) (x:Int) (l:List Int):(O8 key x l).length=l.length+1:=by
 induction l with
 | nil=>rfl
 | cons y t ih =>
   unfold O8
   split
   ·rfl
   ·rw [List.length_cons,ih,List.length_cons]
theorem Adw {key:Int→Int} {z:Int} (l:List Int):∀ acc:List Int,z∈l.foldl (fun acc x=>O8 key x acc) acc↔z∈acc∨z∈l:=by
 induction l with
 | nil=>intro acc; simp
 | cons x t ih =>
   intro acc
   rw [List.foldl_cons,ih,Asw,List.mem_cons]
   constructor
   ·rintro ((h | h) | h)
    ·exact .inr (.inl h)
    ·exact .inl h
    ·exact .inr (.inr h)
   ·rintro (h | h | h)
    ·exact .inl (.inr h)
    ·exact .inl (.inl h)
    ·exact .inr h
theorem Aak {l:List Int} {z:Int}:z∈Fm l↔z∈K9 l.length:=by
 unfold Fm
 rw [Adw]
 simp
theorem Akh (l:List Int):(Fm l).length=l.length:=by
 unfold Fm
 suffices h:∀ (x acc:List Int),(x.foldl (fun acc x=>O8 (Ll l) x acc) acc).length=acc.length+x.length by
  rw [h,Qc]; simp
 intro x
 induction x with
 | nil=>intro acc; rfl
 | cons y t ih=>intro acc; rw [List.foldl_cons,ih,Yr,List.length_cons]; omega
theorem Aoe (l:List Int):Jg l.length (Fm l)=true:=Jx.2 fun z hz=>Jx.1 (Zc _) z (Aak.1 hz)
theorem Ads {key:Int→Int} {x z:Int} {l:List Int} (h:z=x∨z∈l):z∈P0 key x l:=by
 induction l with
 | nil =>
   rcases h with h | h
   ·exact List.mem_singleton.2 h
   ·cases h
 | cons y t ih =>
   unfold P0
   split
   ·rcases h with h | h
    ·exact A5l _ (ih (.inl h))
    ·rcases List.mem_cons.1 h with h | h
     ·exact h ▸ A5v
     ·exact A5l _ (ih (.inr h))
   ·exact List.mem_cons.2 h
theorem Ann {l x:List Int} {z:Int} (h:z∈x):z∈E5 l x:=by
 unfold E5 Sa
 rw [List.mem_reverse]
 suffices g:∀ acc:List Int,(z∈acc∨z∈x)→z∈x.foldl (fun acc x=>P0 (Ll l) x acc) acc from g [] (.inr h)
 clear h
 induction x with
 | nil =>
   intro acc h
   rcases h with h | h
   ·exact h
   ·cases h
 | cons y t ih =>
   intro acc h
   rw [List.foldl_cons]
   refine ih _ ?_
   rcases h with h | h
   ·exact .inl (Ads (.inr h))
   ·rcases List.mem_cons.1 h with h | h
    ·exact .inl (Ads (.inl h))
    ·exact .inr h
theorem Ahk {n k:Nat} (h:k<n):(k:Int)∈K9 n:=List.mem_map.2 ⟨k,List.mem_range.2 h,rfl⟩
theorem Anq {x k:Int} (h:Dz x=false):Dz (Bg x k)=false:=by
 have hx:Aj x.toNat=3∨Aj x.toNat=4:=by
  unfold Dz at h; rw [Xx] at h
  by_cases h3:Aj x.toNat=3
  ·exact .inl h3
  ·by_cases h4:Aj x.toNat=4
   ·exact .inr h4
   ·simp [h3,h4] at h
 unfold Dz
 rw [Xc,Xx]
 unfold Fi
 rcases hx with h3 | h4
 ·rw [A42 (by rw [h3]; decide),A43 (.inl h3),h3]; rfl
 ·rw [A43 h4]; decide
theorem Abh {R n:Nat} {w ps:List Int} {k:Nat} (hp:(k:Int)∈ps) (hl:ps.length=n) (h:Dc (Ev R n w k)=false) (e:Int):Dc (A9 (Cr R n w ps) e)=false:=by
 obtain ⟨x,hx,hf⟩:∃ x∈Ev R n w k,Dz x=false:=by
  unfold Dc at h
  rw [List.all_eq_false] at h
  obtain ⟨x,hx,g⟩:=h
  exact ⟨x,hx,by simpa using g⟩
 obtain ⟨i,hi,rfl⟩:=List.mem_map.1 hx
 have hi:=List.mem_range.1 hi
 obtain ⟨j,hj,ej⟩:=List.mem_iff_getElem.1 hp
 unfold Dc
 rw [List.all_eq_false]
 refine ⟨Bg ((Cr R n w ps).getD (i*n+j) 0) e,List.mem_map.2 ⟨_,?_,rfl⟩,?_⟩
 ·have:i*n+j<(Cr R n w ps).length:=by rw [Ga]; exact Il hi (by omega)
  rw [A4q,A4x this]
  exact List.getElem_mem this
 ·unfold Cr
  rw [Abf hi (by omega),A4q,A4x hj,A50,ej]
  rw [Int.zero_add] at hf
  rw [Anq hf]
  decide
end Go.Rnd
namespace Go.Proofs.S1
open Go Go.Den Go.Rnd Go.Proofs
open EqRef19
theorem Ae.Dm.arg.known:Ae.Dm.arg.Kn:=A8.Agl (P:=_) (pre:=Ae.Dm.pre) (out:=Ae.Dm.out) Ae.Dm.known [] fun ats h=>by
 unfold Ae.Dm.arg.pre at h
 split at h
 ·exact ⟨h,Wk.F7 (.cons .int (.cons .int (.cons (.fresh _ _) .nil)))⟩
 ·cases h
theorem Ao.F6.known:Ao.F6.Kn:=Ao.F6.Ad (.cons Br.Order.known .nil) fun a b hp=>by
 have hab:(Af a&&Af b)=true:=hp
 refine ⟨0,.bool (F1 a b),[],?_,.bool⟩
 rw [Ao.F6.ev,hab,A4g,Av]
 unfold F1
 cases Qh a b<;>rfl
theorem Ao.be.known:Ao.be.Kn:=Ao.be.Ad (.cons Br.Hy.known (.cons Ah.H9.known (.cons Ah.Mul.known (.cons Ah.Norm.known (.cons Ah.Bu.known (.cons Ao.F6.known .nil)))))) fun x y b hp=>by
 obtain ⟨h1,hp⟩:=Ac.1 (show ((Bs x&&Bs y)&&(Af b&&B5 (length x=length y∧length x≤6)))=true from hp)
 obtain ⟨ox,oy⟩:=Ac.1 h1
 obtain ⟨hb,hp⟩:=Ac.1 hp
 obtain ⟨hl,h6⟩:=Aq.1 hp
 have ax:Al x=true:=Aq.2 (Aq.1 ox).2
 have ay:Al y=true:=Aq.2 (Aq.1 oy).2
 have sc:Df (Cc (Bt x) (Bt y)) (-44:Int)=true:=Ac.2 ⟨Ew _ _,Aq.2 (by decide)⟩
 refine ⟨0,.bool (beR x y b),[],?_,.bool⟩
 rw [Ao.be.ev,ox,oy,A4g,A4g,J8,J8,A4m,A4g,sc,A4g,hb,A4m,A4g,A5s,A4g,U3 ax ay hl h6,A5s,A4g,G6,A5s,A4g,Rd,G8 (Ew _ _),A4m,A5s,A4g]
 unfold beR
 cases F1 (Bt x) b<;>cases F1 (Bt y) b<;>rfl
theorem Ag8 (N:Nat) {t:Int} (ht:Af t=true):Ao.Cs.C7 N t=some (.tup [.int .u64 (Ms t),.int .u64 (Lz t)]):=by
 have h1:Af (Dt (4607182418800017408:Int) (Cc t t))=true:=Nm Ni (Ew _ _)
 rw [Ao.Cs.Aeg,ht,A4m,A4g,Ni,Ew,A4m,A4g,h1,A4g,Q1 h1,A4m,A4g,Lp,A4m,A4g]
 rfl
theorem Ard (N:Nat) {z:Int} (hz:Af z=true):Ao.Cs.C3 N z=some (.tup [.int .u64 (Ms (G2 z)),.int .u64 (Lz (G2 z))]):=by
 have h1:Af (Dt (4607182418800017408:Int) (Cc z z))=true:=Nm Ni (Ew _ _)
 have h2:=Q1 h1
 have h3:Af (Dt (Iw z) (Ed (Dt (4607182418800017408:Int) (Cc z z))))=true:=Nm (Rd z) h2
 rw [Ao.Cs.Auj,hz,A4m,A4g,Ni,Ew,A4m,A4g,h1,A4g,Ao.Cs.Ajg,hz,A4g,Rd,h2,A4m,A4g,Ni,h3,A4m,A4g,Ao.Cs.Ajf,hz,A4g,Lp,A4g]
 have e:G2 z=bif Eb z then Cz (Ey (4607182418800017408:Int) (Dt (Iw z) (Ed (Dt (4607182418800017408:Int) (Cc z z))))) else Ey (4607182418800017408:Int) (Dt (Iw z) (Ed (Dt (4607182418800017408:Int) (Cc z z)))):=by
  unfold G2 Aep Ae9
  cases Eb z<;>rfl
 rw [e]
 cases Eb z with
 | true=>rw [A4g,A4g]; exact Ag8 N (Oq (Lp _ _))
 | false=>rw [A4k,A4k]; exact Ag8 N (Lp _ _)
theorem Ao.Cs.known:Ao.Cs.Kn:=Ao.Cs.Ad (.cons A6.Du.known (.cons A6.Neg.known (.cons Br.Hy.known (.cons Ah.Add.known (.cons Ah.Div.known (.cons Ah.H9.known (.cons Ah.Mul.known (.cons Ah.Sqrt.known (.cons Ah.Sub.known .nil))))))))) fun x y hp=>by
 obtain ⟨h1,hp⟩:=Ac.1 (show ((Bs x&&Bs y)&&B5 (length x=length y∧length x≤6))=true from hp)
 obtain ⟨ox,oy⟩:=Ac.1 h1
 obtain ⟨hl,h6⟩:=Aq.1 hp
 have ax:Al x=true:=Aq.2 (Aq.1 ox).2
 have ay:Al y=true:=Aq.2 (Aq.1 oy).2
 refine ⟨0,.tup [.int .u64 (Ms (G2 (Iy x y))),.int .u64 (Lz (G2 (Iy x y)))],[],?_,Wk.Hm (.cons .int (.cons .int .nil))⟩
 rw [Ao.Cs.ev,U3 ax ay hl h6,A4g,Ao.Cs.Ajh,U3 ay ay rfl (by omega),A4g,U3 ax ax rfl h6,A4g,G6,G6,A4m,A4g,G6,A4m,A4g,Pw (G6 _ _) (G6 _ _),Nm (G6 _ _) (G6 _ _),A4m,A4g]
 exact Ard 0 (Lp _ _)
section
variable {R C:Nat} {b:Int} (r6:R≤6) (c6:C≤6) (hb:Af b=true) (N:Nat)
include r6 c6 hb
theorem Arf {M0:Nat} {p:Nat}:∀ (d q F:Nat) (s:List Int × List Int × Bool),q+d=C→d<F→p<q→Iu R C s →
 Ao.round.L1 N M0 F (R:Int) (C:Int) (C:Int) (C:Int) b (q:Int) s.2.2 s.1 s.2.1 (p:Int) =
  Ao.round.L0 N M0 (R:Int) (C:Int) (C:Int) (C:Int) b (((p+1:Nat):Int)) (O6 beR R C b p d q s).2.2 (O6 beR R C b p d q s).1 (O6 beR R C b p d q s).2.1:=by
 intro d
 induction d with
 | zero =>
   intro q F s hq hF hpq hs
   obtain ⟨F,rfl⟩:∃ G,F=G+1:=⟨F-1,by omega⟩
   rw [Ao.round.Cd,Av,A4l (by omega),A4k,An (by omega) (by omega)]
   rfl
 | succ d ih =>
   intro q F s hq hF hpq hs
   obtain ⟨F,rfl⟩:∃ G,F=G+1:=⟨F-1,by omega⟩
   have hr:=Em r6 c6 hs.1.1
   have hv:=Em c6 c6 hs.2.1
   have cp:∀ j:Nat,j<C→(Fv (R:Int) (C:Int) s.1 (j:Int)&&B5 (0≤(0:Int)∧(0:Int)≤(R:Int)))=true:=fun j hj=>Ac.2 ⟨Ac.2 ⟨hr,Aq.2 (by omega)⟩,Aq.2 (by omega)⟩
   have ox:∀ j:Nat,Bs (Ci (C:Int) s.1 (j:Int) 0 R)=true:=fun j=>Fu (Kt hs.1.2) (by rw [F9]; omega)
   have cl:B5 (length (Ci (C:Int) s.1 (p:Int) 0 R)=length (Ci (C:Int) s.1 (q:Int) 0 R)∧length (Ci (C:Int) s.1 (p:Int) 0 R)≤6)=true:=Aq.2 ⟨by rw [F9,F9],by rw [F9]; exact r6⟩
   have cq:B5 (0≤(p:Int)∧(p:Int)<(C:Int)∧0≤(q:Int)∧(q:Int)<(C:Int)∧(p:Int)≠(q:Int))=true:=Aq.2 (by omega)
   have hn:=ih (q+1) F (Go.Rnd.Mr beR R C b p q s) (by omega) (by omega) (by omega) hs.Mr
   rw [Ao.round.Cd,Av,A4h (by omega),A4g,cp p (by omega),A4g,cp q (by omega),A4g,show toNat ((R:Int)-(0:Int))=R by omega,ox,ox,cl,hb,A4m,A4m,A4m,A4g]
   simp only [A4i]
   rw [An (by omega) (by omega)]
   show _=Ao.round.L0 N M0 (R:Int) (C:Int) (C:Int) (C:Int) b (((p+1:Nat):Int)) (O6 beR R C b p d (q+1) (Go.Rnd.Mr beR R C b p q s)).2.2 (O6 beR R C b p d (q+1) (Go.Rnd.Mr beR R C b p q s)).1 (O6 beR R C b p d (q+1) (Go.Rnd.Mr beR R C b p q s)).2.1
   rw [← hn]
   unfold Go.Rnd.Mr
   show (bif beR (Ev R C s.1 p) (Ev R C s.1 q) b then _ else _)=_
   cases hbe:beR (Ev R C s.1 p) (Ev R C s.1 q) b with
   | true=>rw [A4g,A43 rfl]; rfl
   | false =>
     have iS:Af (Lz (G2 (Iy (Ev R C s.1 p) (Ev R C s.1 q))))=true:=Ew _ _
     have iC:Af (Ms (G2 (Iy (Ev R C s.1 p) (Ev R C s.1 q))))=true:=Lp _ _
     have iS':Af (Lz (G2 (Iy (Ci (C:Int) s.1 (p:Int) 0 R) (Ci (C:Int) s.1 (q:Int) 0 R))))=true:=iS
     have iC':Af (Ms (G2 (Iy (Ci (C:Int) s.1 (p:Int) 0 R) (Ci (C:Int) s.1 (q:Int) 0 R))))=true:=iC
     rw [A4k,iS',A4g,hr,hs.1.2,iC',Oq iS',cq,A4m,A4m,A4m,A4m,A4g,A4g,hv,hs.2.2,A4m,A4m,A4g,A42 (by decide)]
     rfl
theorem Arh (hN:6<N):∀ (d p F:Nat) (s:List Int × List Int × Bool),p+d=C→d<F→Iu R C s →
 Ao.round.L0 N F (R:Int) (C:Int) (C:Int) (C:Int) b (p:Int) s.2.2 s.1 s.2.1 =
  some (.tup [.agg [.int .i64 (R:Int),.int .i64 (C:Int),.ints .arg .u64 (Go.Rnd.Mv beR R C b d p s).1],.agg [.int .i64 (C:Int),.int .i64 (C:Int),.ints .arg .u64 (Go.Rnd.Mv beR R C b d p s).2.1],.bool (Go.Rnd.Mv beR R C b d p s).2.2]):=by
 intro d
 induction d with
 | zero =>
   intro p F s hp hF hs
   obtain ⟨F,rfl⟩:∃ G,F=G+1:=⟨F-1,by omega⟩
   rw [Ao.round.Ar,Av,A4l (by omega),A4k]
   rfl
 | succ d ih =>
   intro p F s hp hF hs
   obtain ⟨F,rfl⟩:∃ G,F=G+1:=⟨F-1,by omega⟩
   have h2:=Arf r6 c6 hb N (M0:=F) (p:=p) (C-(p+1)) (p+1) N s (by omega) (by omega) (by omega) hs
   rw [Ao.round.Ar,Av,A4h (by omega),A4g,An (by omega) (by omega)]
   refine h2.trans ?_
   exact ih (p+1) F (O6 beR R C b p (C-(p+1)) (p+1) s) (by omega) (by omega) (Iu.O6 _ _ hs)
end
theorem Ao.round.known:Ao.round.Kn:=Ao.round.Ad (.cons A6.Du.known (.cons Ae.Pc.known (.cons D4.G1.known (.cons Ao.be.known (.cons Ao.Cs.known .nil))))) fun r c l p q m b hp=>by
 obtain ⟨h1,hp⟩:=Ac.1 (show ((A0 r c l&&A0 p q m)&&((Al l&&Al m)&&(Af b&&B5 (p=c∧q=c))))=true from hp)
 obtain ⟨hr,hv⟩:=Ac.1 h1
 obtain ⟨h2,hp⟩:=Ac.1 hp
 obtain ⟨al,am⟩:=Ac.1 h2
 obtain ⟨hb,hp⟩:=Ac.1 hp
 obtain ⟨rfl,rfl⟩:=Aq.1 hp
 obtain ⟨R,C,rfl,rfl,r6,c6,hl⟩:=Co hr
 have hm:m.length=C*C:=by
  obtain ⟨_,_,hm⟩:=Hx.1 hv
  rw [← A41] at hm; omega
 refine ⟨8,_,[],(Ao.round.ev ..).trans (Arh r6 c6 hb 8 (by decide) C 0 8 (l,m,true) (by omega) (by omega) ⟨⟨hl,al⟩,hm,am⟩),?_⟩
 exact Wk.Hm (.cons (Wk.F7 (.cons .int (.cons .int (.cons .N1 .nil)))) (.cons (Wk.F7 (.cons .int (.cons .int (.cons .N1 .nil)))) (.cons .bool .nil)))
theorem Ajz {l y:List Int} {k:Int} {i:Nat} (hy:y.length=l.length) (hi:i<l.length) :
 List.set (((l.take i).map fun b=>Bg b k)++y.drop i) i (Bg (l.getD i 0) k)=((l.take (i+1)).map fun b=>Bg b k)++y.drop (i+1):=by
 rw [Q0 hi,List.append_assoc]
 have hl:((l.take i).map fun b=>Bg b k).length=i:=by rw [A5m,List.length_take]; omega
 rw [List.drop_eq_getElem_cons (show i<y.length by omega),List.set_append_right _ _ (by omega),hl,Nat.sub_self]
 rfl
theorem Ag9 (N:Nat) {r c:Int} {x y:List Int} {e:Int} (hx:Bs x=true) (hy:y.length=x.length) (he:-2300≤e∧e≤2300):∀ (k i F:Nat),i+k=x.length→k<F →
 Ao.Bf.L0 N F r c x e (i:Int) (((x.take i).map fun b=>Bg b e)++y.drop i)=some (.agg [.int .i64 r,.int .i64 c,.ints (.own 106002 tB) .u64 (A9 x e)]):=by
 obtain ⟨hl,hu⟩:=Hs hx
 intro k
 induction k with
 | zero =>
   intro i F hi hF
   obtain ⟨F,rfl⟩:∃ G,F=G+1:=⟨F-1,by omega⟩
   rw [Ao.Bf.Ar,Av,A4l (by omega),A4k,List.take_of_length_le (by omega),A4u (by omega),List.append_nil]; rfl
 | succ k ih =>
   intro i F hi hF
   obtain ⟨F,rfl⟩:∃ G,F=G+1:=⟨F-1,by omega⟩
   have ln:(((x.take i).map fun b=>Bg b e)++y.drop i).length=x.length:=by rw [A48,A5m,List.length_take,List.length_drop]; omega
   rw [Ao.Bf.Ar,Av,A4h (show (i:Int)<(x.length:Int) by omega),A4g,A4h (show (0:Int)≤(i:Int) by omega),A4m,A4g,A4i,
    show Df (getD x i 0) e=true from Ac.2 ⟨hu i (by omega),Aq.2 he⟩,A4g,ln,A4h (show (i:Int)<(x.length:Int) by omega),A4m,A4g,A4h (show i<x.length by omega),A4g,Ajz hy (by omega),An (by omega) (by omega)]
   exact ih (i+1) F (by omega) (by omega)
theorem Ao.Bf.known:Ao.Bf.Kn:=Ao.Bf.Ad (.cons Ah.Bu.known (.cons Ae.Dm.own.known .nil)) fun r c x k hp=>by
 obtain ⟨hr,hp⟩:=Ac.1 (show (A0 r c x&&(Al x&&B5 (-2300≤k∧k≤2300)))=true from hp)
 obtain ⟨al,hp⟩:=Ac.1 hp
 have he:=Aq.1 hp
 obtain ⟨R,C,rfl,rfl,r6,c6,hl⟩:=Co hr
 have rc:R*C≤36:=A5c r6 c6
 refine ⟨x.length+1,.agg [.int .i64 (R:Int),.int .i64 (C:Int),.ints (.own 106002 tB) .u64 (A9 x k)],[106002],?_,Wk.F7 (.cons .int (.cons .int (.cons (.dropA _ _ _ _ (List.mem_singleton.2 rfl)) .nil)))⟩
 rw [Ao.Bf.ev,Lf r6,Lf c6,A4m,A4g,A4i,A4i]
 exact Ag9 (x.length+1) (y:=Cx R C fun _ _=>0) (Fu al (by omega)) (by rw [Cl,hl]) he x.length 0 (x.length+1) (by omega) (by omega)
theorem Aha {R C:Nat} {l:List Int} (r6:R≤6) (c6:C≤6) (hr:A0 (R:Int) (C:Int) l=true) (al:Al l=true) (N:Nat):∀ (d k F:Nat),k+d=C→d<F →
 Ao.F5.L0 N F (R:Int) (C:Int) l (k:Int) ((List.range k).map fun c=>Bt (Ev R C l c))=some (.ints (.own 100003 tB) .u64 (Ca R C l)):=by
 intro d
 induction d with
 | zero =>
   intro k F hk hF
   obtain ⟨F,rfl⟩:∃ G,F=G+1:=⟨F-1,by omega⟩
   obtain rfl:k=C:=by omega
   rw [Ao.F5.Ar,Av,A4l (by omega),A4k]
   rfl
 | succ d ih =>
   intro k F hk hF
   obtain ⟨F,rfl⟩:∃ G,F=G+1:=⟨F-1,by omega⟩
   have cp:(Fv (R:Int) (C:Int) l (k:Int)&&B5 (0≤(0:Int)∧(0:Int)≤(R:Int)))=true:=Ac.2 ⟨Ac.2 ⟨hr,Aq.2 (by omega)⟩,Aq.2 (by omega)⟩
   have ok:Bs (Ci (C:Int) l (k:Int) 0 R)=true:=Fu (Kt al) (by rw [F9]; omega)
   rw [Ao.F5.Ar,Av,A4h (by omega),A4g,cp,A4g,show toNat ((R:Int)-(0:Int))=R by omega,ok,A4g,A4h (by rw [A5m,A5j]; unfold Ha; omega),A4g,An (by omega) (by omega)]
   have:=ih (k+1) F (by omega) (by omega)
   rw [List.range_succ,List.map_append] at this
   exact this
theorem Ao.F5.known:Ao.F5.Kn:=Ao.F5.Ad (.cons Ah.Norm.known (.cons Ae.Pc.known .nil)) fun r c l hp=>by
 obtain ⟨hr,al⟩:=Ac.1 (show (A0 r c l&&Al l)=true from hp)
 obtain ⟨R,C,rfl,rfl,r6,c6,hl⟩:=Co hr
 exact ⟨8,.ints (.own 100003 tB) .u64 (Ca R C l),[100003],(Ao.F5.ev ..).trans (Aha r6 c6 hr al 8 C 0 8 (by omega) (by omega)),.drop _ _ _ _ (List.mem_singleton.2 rfl)⟩
open EqRef19
section
variable {l o:List Int} (hl:Bs l=true) (hin:Jg l.length o=true) (h6:o.length≤6) (N:Nat)
include h6
theorem Akg {M0 i:Nat} (hi:i<10):∀ (d k F:Nat) (acc:List Int),k+d=o.length→d<F→acc.length+d≤20 →
 Ao.order.L1 N M0 F l (i:Int) o true (k:Int) acc=Ao.order.L0 N M0 l ((i+1:Nat):Int) (acc++o.drop k):=by
 intro d
 induction d with
 | zero =>
   intro k F acc hk hF ha
   obtain ⟨F,rfl⟩:∃ G,F=G+1:=⟨F-1,by omega⟩
   rw [Ao.order.Cd,Av,A4l (by omega),A4k,A5f,A4k,An (by omega) (by omega),A4u (by omega),List.append_nil]
   rfl
 | succ d ih =>
   intro k F acc hk hF ha
   obtain ⟨F,rfl⟩:∃ G,F=G+1:=⟨F-1,by omega⟩
   have hd:o.drop k=o.getD k 0::o.drop (k+1):=by
    rw [List.drop_eq_getElem_cons (by omega),A4q,A4x (by omega)]; rfl
   rw [Ao.order.Cd,Av,A4h (by omega),A4g]
   simp only [Bool.true_or,A4g,A5f,Bool.false_and,A4k,A4i]
   rw [A4h (show (0:Int)≤(k:Int) by omega),A4m,A4g,A4h (show k<o.length by omega),A4g,A4h (show acc.length+1≤Ha by unfold Ha; omega),A4g,An (by omega) (by omega),hd]
   have:=ih (k+1) F (acc++[o.getD k 0]) (by omega) (by omega) (by rw [A48,List.length_singleton]; omega)
   rw [List.append_assoc] at this
   exact this
include hl hin
theorem Ars {M0 i:Nat} (hi:i<l.length) (hi6:i<10):∀ (d k F:Nat) (acc:List Int),k+d=o.length→d<F→acc.length+d≤10 →
 Ao.order.L1 N M0 F l (i:Int) o false (k:Int) acc=Ao.order.L0 N M0 l ((i+1:Nat):Int) (acc++O8 (Ll l) (i:Int) (o.drop k)):=by
 obtain ⟨_,hu⟩:=Hs hl
 intro d
 induction d with
 | zero =>
   intro k F acc hk hF ha
   obtain ⟨F,rfl⟩:∃ G,F=G+1:=⟨F-1,by omega⟩
   rw [Ao.order.Cd,Av,A4l (by omega),A4k,A5z,A4g,A4h (show acc.length+1≤Ha by unfold Ha; omega),A4g,An (by omega) (by omega),A4u (by omega)]
   rfl
 | succ d ih =>
   intro k F acc hk hF ha
   obtain ⟨F,rfl⟩:∃ G,F=G+1:=⟨F-1,by omega⟩
   have hd:o.drop k=o.getD k 0::o.drop (k+1):=by
    rw [List.drop_eq_getElem_cons (by omega),A4q,A4x (by omega)]; rfl
   have p:=So hin (j:=k) (by omega)
   have a1:decide ((0:Int)≤(k:Int))=true:=A4h (by omega)
   have a2:decide ((k:Int)<((o.length:Nat):Int))=true:=A4h (by omega)
   have a3:decide (k<o.length)=true:=A4h (by omega)
   have a4:decide (acc.length+1≤Ha)=true:=A4h (by unfold Ha; omega)
   have a5:decide ((acc++[(i:Int)]).length+1≤Ha)=true:=A4h (by rw [A48,List.length_singleton]; unfold Ha; omega)
   have a6:decide ((i:Int)<((l.length:Nat):Int))=true:=A4h (by omega)
   have a7:decide ((0:Int)≤(i:Int))=true:=A4h (by omega)
   have u1:Af (getD l i 0)=true:=hu i hi
   have u2:Af (getD l (o.getD k 0).toNat 0)=true:=hu _ (by omega)
   rw [Ao.order.Cd,Av,a2,A4g]
   simp only [Bool.false_or,A4i,A5z,A5t]
   rw [a1,a7,a6,A4m,A4g,A4g,a3,A4g,A4h p.1,A4h p.2,A4m,A4g,u1,u2,A4m,A4g,a4,a5,An (by omega) (by omega),hd]
   unfold O8
   show (bif F1 (Ll l (i:Int)) (Ll l (o.getD k 0)) then _ else _)=_
   cases hm:F1 (Ll l (i:Int)) (Ll l (o.getD k 0)) with
   | true =>
     simp only [A4g,if_true]
     have:=Akg h6 N (l:=l) (M0:=M0) hi6 d (k+1) F ((acc++[(i:Int)])++[o.getD k 0]) (by omega) (by omega) (by simp; omega)
     rw [List.append_assoc,List.append_assoc] at this
     rw [List.append_assoc]
     exact this
   | false =>
     simp only [A4g,A4k]
     rw [A42 (by decide)]
     have:=ih (k+1) F (acc++[o.getD k 0]) (by omega) (by omega) (by rw [A48,List.length_singleton]; omega)
     rw [List.append_assoc] at this
     exact this
end
theorem Ape (key:Int→Int) (x:List Int):∀ acc:List Int,(x.foldl (fun acc x=>O8 key x acc) acc).length=acc.length+x.length:=by
 induction x with
 | nil=>intro acc; rfl
 | cons y t ih=>intro acc; rw [List.foldl_cons,ih,Yr,List.length_cons]; omega
theorem Art {l:List Int} (hl:Bs l=true) (h6:l.length≤6) (N:Nat) (hN:8<N):∀ (d i F:Nat),i+d=l.length→d<F →
 Ao.order.L0 N F l (i:Int) ((K9 i).foldl (fun acc x=>O8 (Ll l) x acc) [])=some (.ints (.own 100003 tI) .i64 (Fm l)):=by
 intro d
 induction d with
 | zero =>
   intro i F hi hF
   obtain ⟨F,rfl⟩:∃ G,F=G+1:=⟨F-1,by omega⟩
   obtain rfl:i=l.length:=by omega
   rw [Ao.order.Ar,Av,A4l (by omega),A4k]
   rfl
 | succ d ih =>
   intro i F hi hF
   obtain ⟨F,rfl⟩:∃ G,F=G+1:=⟨F-1,by omega⟩
   have ln:((K9 i).foldl (fun acc x=>O8 (Ll l) x acc) []).length=i:=by rw [Ape,Qc]; simp
   have hin:Jg l.length ((K9 i).foldl (fun acc x=>O8 (Ll l) x acc) [])=true:=Jx.2 fun z hz=>by
    rcases (Adw _ _).1 hz with h | h
    ·cases h
    ·have:=Jx.1 (Zc i) z h; omega
   have g:=Ars hl hin (by omega) N (M0:=F) (i:=i) (by omega) (by omega) i 0 N [] (by omega) (by omega) (by simp; omega)
   rw [Ao.order.Ar,Av,A4h (by omega),A4g]
   refine g.trans ?_
   have:=ih (i+1) F (by omega) (by omega)
   rw [show K9 (i+1)=K9 i++[(i:Int)] by unfold K9; rw [List.range_succ,List.map_append]; rfl,List.foldl_append] at this
   exact this
theorem Ao.order.known:Ao.order.Kn:=Ao.order.Ad (.cons Ao.F6.known .nil) fun l hp=>by
 obtain ⟨hl,h6⟩:=Ac.1 (show (Bs l&&B5 (length l≤6))=true from hp)
 have h6:=Aq.1 h6
 exact ⟨9,.ints (.own 100003 tI) .i64 (Fm l),[100003],(Ao.order.ev ..).trans (Art hl h6 9 (by decide) l.length 0 9 (by omega) (by omega)),.drop _ _ _ _ (List.mem_singleton.2 rfl)⟩
section
variable {R C:Nat} {l x:List Int} (r6:R≤6) (c6:C≤6) (hl:l.length=R*C) (hx:x.length=C) (hin:Jg C x=true) (N:Nat) {F:Nat→Nat→Int} (hF:F=fun (i k:Nat)=>Fp (C:Int) l (i:Int) (x.getD k 0))
include r6 c6 hl hx hin hF
theorem Awf {M0 i:Nat} (hi:i<R):∀ (d k M:Nat),k+d=C→d<M →
 Ez.Dj.L1 N M0 M (R:Int) (C:Int) l x (k:Int) (fill R C F (dR i k)) (i:Int)=Ez.Dj.L0 N M0 (R:Int) (C:Int) l x ((i+1:Nat):Int) (fill R C F (dR (i+1) 0)):=by
 intro d
 induction d with
 | zero =>
   intro k M hk hM
   obtain ⟨M,rfl⟩:∃ G,M=G+1:=⟨M-1,by omega⟩
   have e:fill R C F (dR i k)=fill R C F (dR (i+1) 0):=Rk fun a b ha hb=>by simp only [dR,A4n]; omega
   rw [Ez.Dj.Cd,Av,A4l (by omega),A4k,An (by omega) (by omega),e]
   rfl
 | succ d ih =>
   intro k M hk hM
   obtain ⟨M,rfl⟩:∃ G,M=G+1:=⟨M-1,by omega⟩
   have p:=So hin (j:=k) (by omega)
   obtain ⟨j,hj⟩:∃ j:Nat,x.getD k 0=j:=⟨(x.getD k 0).toNat,by omega⟩
   have c1:En (R:Int) (C:Int) l (i:Int) (x.getD k 0)=true:=by rw [hj]; exact Gy r6 c6 hl hi (by omega)
   have c9:En (R:Int) (C:Int) (fill R C F (dR i k)) (i:Int) (k:Int)=true:=Gy r6 c6 (M9 _ _ _ _) hi (by omega)
   rw [Ez.Dj.Cd,Av,hx,A4h (show (k:Int)<(C:Int) by omega),A4g,A4h (show (0:Int)≤(k:Int) by omega),A4m,A4g,show toNat ((k:Nat):Int)=k from A4i k,c1,A4g,c9,A4g,An (x:=(k:Int)+1) (by omega) (by omega),
    Sr (d':=dR i (k+1)) (by omega) (by rw [hF]) (fun a b ha hb=>by simp only [dR,A4n]; omega)]
   exact ih (k+1) M (by omega) (by omega)
theorem Awg (hN:6<N):∀ (d i M:Nat),i+d=R→d<M →
 Ez.Dj.L0 N M (R:Int) (C:Int) l x (i:Int) (fill R C F (dR i 0))=some (.agg [.int .i64 (R:Int),.int .i64 (C:Int),.ints .arg .u64 (Cx R C F)]):=by
 intro d
 induction d with
 | zero =>
   intro i M hi hM
   obtain ⟨M,rfl⟩:∃ G,M=G+1:=⟨M-1,by omega⟩
   rw [Ez.Dj.Ar,Av,A4l (by omega),A4k,hx,Wp (fun a b ha hb=>by simp only [dR,A4n]; omega)]
 | succ d ih =>
   intro i M hi hM
   obtain ⟨M,rfl⟩:∃ G,M=G+1:=⟨M-1,by omega⟩
   rw [Ez.Dj.Ar,Av,A4h (by omega),A4g]
   exact (Awf r6 c6 hl hx hin N hF (show i<R by omega) C 0 N (by omega) (by omega)).trans (ih (i+1) M (by omega) (by omega))
end
theorem Ez.Dj.known:Ez.Dj.Kn:=Ez.Dj.Ad (.cons Ae.At.known (.cons Ae.Gk.arg.known (.cons Ae.Dm.arg.known .nil))) fun r c l x hp=>by
 obtain ⟨hr,hp⟩:=Ac.1 (show (A0 r c l&&B5 (((length x:Nat):Int)=c∧Jg (toNat c) x=true))=true from hp)
 obtain ⟨hx,hin⟩:=Aq.1 hp
 obtain ⟨R,C,rfl,rfl,r6,c6,hl⟩:=Co hr
 rw [A4i] at hin
 have hx:x.length=C:=by omega
 refine ⟨8,.agg [.int .i64 (R:Int),.int .i64 (C:Int),.ints .arg .u64 (Cr R C l x)],[],?_,?_⟩
 ·rw [Ez.Dj.ev,hx,Lf r6,Lf c6,A4m,A4g,A4i,A4i]
  have:=Awg r6 c6 hl hx hin 8 (F:=fun (i k:Nat)=>Fp (C:Int) l (i:Int) (x.getD k 0)) rfl (by decide) R 0 8 (by omega) (by omega)
  rw [Qt (fun a b ha hb=>by simp only [dR,A4n]; omega)] at this
  exact this
 ·exact Wk.F7 (.cons .int (.cons .int (.cons .N1 .nil)))
section
variable {R C:Nat} {l:List Int} (r6:R≤6) (c6:C≤6) (N:Nat)
include r6 c6
theorem Au6 {k:Int} {p4 w v:List Int} (hb:Af (Bg (Bt p4) (-44:Int))=true):∀ (m F:Nat) (w v:List Int),m≤60→m+1<F→Iu R C (w,v,true) →
 Ao.Az.L0 N F (R:Int) (C:Int) k p4 false ((60-m:Nat):Int) w v =
  Ao.Az.C10 N (R:Int) (C:Int) k (decide ((Ej R C (Bg (Bt p4) (-44)) m w v).2.2=0)) (Ej R C (Bg (Bt p4) (-44)) m w v).1 (Ej R C (Bg (Bt p4) (-44)) m w v).2.1:=by
 intro m
 induction m with
 | zero =>
   intro F w v hm hF hs
   obtain ⟨F,rfl⟩:∃ G,F=G+1:=⟨F-1,by omega⟩
   rw [Ao.Az.Ar,Av,A4l (by omega),Bool.false_and,A4k]
   rfl
 | succ m ih =>
   intro F w v hm hF hs
   obtain ⟨F,rfl⟩:∃ G,F=G+1:=⟨F-1,by omega⟩
   have pre:((A0 (R:Int) (C:Int) w&&A0 (C:Int) (C:Int) v)&&((Al w&&Al v)&&(Af (Bg (Bt p4) (-44:Int))&&B5 ((C:Int)=(C:Int)∧(C:Int)=(C:Int)))))=true:=by
    rw [Em r6 c6 hs.1.1,Em c6 c6 hs.2.1,hs.1.2,hs.2.2,hb,Aq.2 ⟨rfl,rfl⟩]; rfl
   have g:Iu R C (Js R C (Bg (Bt p4) (-44)) w v):=Iu.Mv C 0 hs
   rw [Ao.Az.Ar,Av,A4h (by omega),A5z,A4m,A4g,pre,A4g]
   simp only [A4i]
   rw [Aj8,An (by omega) (by omega),show (((60-(m+1):Nat):Int)+1)=((60-m:Nat):Int) by omega]
   show _=Ao.Az.C10 N (R:Int) (C:Int) k (decide ((Ej R C (Bg (Bt p4) (-44)) (m+1) w v).2.2=0)) (Ej R C (Bg (Bt p4) (-44)) (m+1) w v).1 (Ej R C (Bg (Bt p4) (-44)) (m+1) w v).2.1
   unfold Ej
   cases he:(Js R C (Bg (Bt p4) (-44)) w v).2.2 with
   | true =>
     obtain ⟨F,rfl⟩:∃ G,F=G+1:=⟨F-1,by omega⟩
     rw [Ao.Az.Ar,A5f,Bool.and_false,A4k]
     simp only [if_true,decide_true]
   | false =>
     rw [A42 (by decide)]
     exact ih F (Js R C (Bg (Bt p4) (-44)) w v).1 (Js R C (Bg (Bt p4) (-44)) w v).2.1 (by omega) (by omega) ⟨g.1,g.2⟩
end
theorem Aei {drops:List Nat} {e:Int}:Wk drops (.agg [.int .i64 (0:Int),.int .i64 (0:Int),.nil,.int .i64 (0:Int),.int .i64 (0:Int),.nil,.nil,.int .i64 e])
 (.agg [.int .i64 (0:Int),.int .i64 (0:Int),.ints .arg .u64 [],.int .i64 (0:Int),.int .i64 (0:Int),.ints .arg .u64 [],.ints .fresh .u64 [],.int .i64 e]) :=
 Wk.F7 (.cons .int (.cons .int (.cons (.nil _ _) (.cons .int (.cons .int (.cons (.nil _ _) (.cons (.nil _ _) (.cons .int .nil))))))))
theorem Aey {r c:Int} {l:List Int} {e:Int} (h:Ht r c l=e) (he:e≠0):Ao.Az.out [.i r,.i c,.l l] =
 .agg [.int .i64 (0:Int),.int .i64 (0:Int),.ints .arg .u64 [],.int .i64 (0:Int),.int .i64 (0:Int),.ints .arg .u64 [],.ints .fresh .u64 [],.int .i64 e]:=by
 show DV.agg [.int .i64 (Fq r c l).1,.int .i64 (Fq r c l).2.1,.ints .arg .u64 (Fq r c l).2.2.1,.int .i64 (Hg r c l).1,.int .i64 (Hg r c l).2.1,.ints .arg .u64 (Hg r c l).2.2.1,.ints .fresh .u64 (O5 r c l),.int .i64 (Ht r c l)]=_
 unfold Fq Hg O5
 rw [h,A43 he,A43 he,A43 he]
 rfl
theorem Aq8 {R C:Nat} {l:List Int} (h:Ht (R:Int) (C:Int) l=0):Ao.Az.out [.i (R:Int),.i (C:Int),.l l] =
 .agg [.int .i64 (R:Int),.int .i64 (C:Int),.ints .arg .u64 (K8 R C l),.int .i64 (C:Int),.int .i64 (C:Int),.ints .arg .u64 (R1 R C l),.ints .fresh .u64 (Ca R C (K8 R C l)),.int .i64 0]:=by
 show DV.agg [.int .i64 (Fq (R:Int) (C:Int) l).1,.int .i64 (Fq (R:Int) (C:Int) l).2.1,.ints .arg .u64 (Fq (R:Int) (C:Int) l).2.2.1,.int .i64 (Hg (R:Int) (C:Int) l).1,.int .i64 (Hg (R:Int) (C:Int) l).2.1,.ints .arg .u64 (Hg (R:Int) (C:Int) l).2.2.1,.ints .fresh .u64 (O5 (R:Int) (C:Int) l),.int .i64 (Ht (R:Int) (C:Int) l)]=_
 unfold Fq Hg O5
 rw [h,A42 (by decide),A42 (by decide),A42 (by decide)]
 rfl
theorem Auq {R C:Nat} {w:List Int} (r6:R≤6):(∀ x∈Ca R C w,Aj x.toNat≠4)∨∃ k,k<C∧Dc (Ev R C w k)=false:=by
 by_cases h:∃ k,k<C∧Dc (Ev R C w k)=false
 ·exact .inr h
 ·refine .inl fun x hx=>?_
  obtain ⟨k,hk,rfl⟩:=List.mem_map.1 hx
  have hk:=List.mem_range.1 hk
  refine Ar1 ?_ (by show (Ci _ _ _ _ _).length≤6; rw [F9]; exact r6)
  cases hf:Dc (Ev R C w k) with
  | true=>rfl
  | false=>exact absurd ⟨k,hk,hf⟩ h
section
variable {R C:Nat} {l:List Int} (r6:R≤6) (c6:C≤6) (hl:l.length=R*C) (al:Al l=true) (N:Nat) (hc:D5 (R:Int) (C:Int) l=0)
include r6 c6 hl al hc
theorem Aq9 (he:(Ei R C l).2.2=0):∃ dv,Ao.Az.C12 N (R:Int) (C:Int) (Gd l) (Ei R C l).1 (Ei R C l).2.1=some dv∧Wk [] dv (Ao.Az.out [.i (R:Int),.i (C:Int),.l l]):=by
 have hi:Iu R C ((Ei R C l).1,(Ei R C l).2.1,true):=Iu.Ej 60 (S7 hl al)
 have rc:R*C≤36:=A5c r6 c6
 have cc:C*C≤36:=A5c c6 c6
 have ek:=Rm (Bk l)
 have ln:=On R C (Ei R C l).1
 have n1:(Bs (Ca R C (Ei R C l).1)&&B5 (length (Ca R C (Ei R C l).1)≤6))=true:=Ac.2 ⟨Fu (Xp ..) (by omega),Aq.2 (by omega)⟩
 have lo:(Fm (Ca R C (Ei R C l).1)).length=C:=by rw [Akh,ln]
 have ps:B5 (((length (Fm (Ca R C (Ei R C l).1)):Nat):Int)=(C:Int)∧Jg C (Fm (Ca R C (Ei R C l).1))=true)=true:=Aq.2 ⟨by rw [lo],by
  have:=Aoe (Ca R C (Ei R C l).1)
  rw [ln] at this; exact this⟩
 have hG:Al (Cr R C (Ei R C l).1 (Fm (Ca R C (Ei R C l).1)))=true:=Kw hi.1.2
 have hW:Al (A9 (Cr R C (Ei R C l).1 (Fm (Ca R C (Ei R C l).1))) (Gd l))=true:=Tb hG
 have hV:Al (Cr C C (Ei R C l).2.1 (Fm (Ca R C (Ei R C l).1)))=true:=Kw hi.2.2
 have ck:B5 (-2300≤Gd l∧Gd l≤2300)=true:=Aq.2 (by unfold Gd; omega)
 have oW:Bs (A9 (Cr R C (Ei R C l).1 (Fm (Ca R C (Ei R C l).1))) (Gd l))=true:=Fu hW (by rw [Jq,Ga]; omega)
 have oV:Bs (Cr C C (Ei R C l).2.1 (Fm (Ca R C (Ei R C l).1)))=true:=Fu hV (by rw [Ga]; omega)
 have eE:Ht (R:Int) (C:Int) l=if (Dc (K8 R C l)&&Dc (R1 R C l))=true then 0 else 2:=by
  unfold Ht
  rw [A42 (by rw [hc]; decide),A4i,A4i,A42 (by rw [he]; decide)]
 have e15:Ao.Az.C12 N (R:Int) (C:Int) (Gd l) (Ei R C l).1 (Ei R C l).2.1 =
  Ao.Az.C15 N (R:Int) (C:Int) (A9 (Cr R C (Ei R C l).1 (Fm (Ca R C (Ei R C l).1))) (Gd l)) (Cr C C (Ei R C l).2.1 (Fm (Ca R C (Ei R C l).1))):=by
  rw [Ao.Az.Ve]
  simp only [A4i]
  rw [Em r6 c6 hi.1.1,hi.1.2,A4m,A4g,n1,A4g,ps,A4m,A4g,Em r6 c6 (Ga R C (Ei R C l).1 (Fm (Ca R C (Ei R C l).1))),hG,ck,A4m,A4m,A4g,Em c6 c6 hi.2.1,A4m,A4g]
 rw [e15,Ao.Az.All,oW,A4g,oV,A5s,A4g]
 rcases Auq (w:=(Ei R C l).1) r6 (C:=C) with hn | ⟨k,hk,hf⟩
 ·have eo:Fm (Ca R C (Ei R C l).1)=Aqb R C l:=by rw [Akf hn,ln]; rfl
  rw [eo]
  rw [show A9 (Cr R C (Ei R C l).1 (Aqb R C l)) (Gd l)=K8 R C l from rfl,show Cr C C (Ei R C l).2.1 (Aqb R C l)=R1 R C l from rfl]
  rw [eo] at hW
  by_cases hf:(Dc (K8 R C l)&&Dc (R1 R C l))=true
  ·have hf':=Ac.1 hf
   rw [hf'.1,hf'.2]
   rw [A43 hf] at eE
   have rW:A0 (R:Int) (C:Int) (K8 R C l)=true:=Em r6 c6 (by unfold K8; rw [Jq,Ga])
   refine ⟨.agg [.int .i64 (R:Int),.int .i64 (C:Int),.ints .arg .u64 (K8 R C l),.int .i64 (C:Int),.int .i64 (C:Int),.ints .arg .u64 (R1 R C l),.ints .fresh .u64 (Ca R C (K8 R C l)),.int .i64 0],?_,?_⟩
   ·rw [A5f,Bool.or_self,A4k,Ao.Az.Aza,rW,show Al (K8 R C l)=true from hW,A4m,A4g]
    simp only [A4i]
   ·rw [Aq8 eE]
    exact Wk.F7 (.cons .int (.cons .int (.cons .N1 (.cons .int (.cons .int (.cons .N1 (.cons .Jh (.cons .int .nil))))))))
  ·rw [A42 hf] at eE
   refine ⟨_,?_,by rw [Aey eE (by decide)]; exact Aei⟩
   have:((!(Dc (K8 R C l)))||(!(Dc (R1 R C l))))=true:=by
    revert hf
    cases Dc (K8 R C l)<;>cases Dc (R1 R C l)<;>simp
   rw [this,A4g]
 ·have f1:Dc (A9 (Cr R C (Ei R C l).1 (Fm (Ca R C (Ei R C l).1))) (Gd l))=false:=Abh (k:=k) (Aak.2 (by rw [ln]; exact Ahk hk)) lo hf _
  have f2:Dc (K8 R C l)=false:=Abh (k:=k) (Ann (Ahk hk)) (by rw [Ac2,Qc]) hf _
  rw [f2,Bool.false_and,A42 (by decide)] at eE
  refine ⟨_,?_,by rw [Aey eE (by decide)]; exact Aei⟩
  rw [f1,A5z,Bool.true_or,A4g]
end
theorem Ao.Az.known:Ao.Az.Kn:=Ao.Az.Ad (.cons Br.K7.known (.cons Ah.Bx.known (.cons Ah.Finite.known (.cons Ah.Norm.known (.cons Ah.Bu.known (.cons Ae.E9.arg.known (.cons Ez.Dj.known (.cons Ao.F5.known (.cons Ao.order.known (.cons Ao.round.known (.cons Ao.Bf.known .nil))))))))))) fun r c l hp=>by
 obtain ⟨hr,hp⟩:=Ac.1 (show (A0 r c l&&(Al l&&decide (Dc l=true)))=true from hp)
 obtain ⟨al,hf⟩:=Ac.1 hp
 have hf:=A46 hf
 have hc:D5 r c l=0:=by unfold D5; rw [A43 hr,A43 hf]
 obtain ⟨R,C,rfl,rfl,r6,c6,hl⟩:=Co hr
 have rc:R*C≤36:=A5c r6 c6
 have ek:=Rm (Bk l)
 have hS:=S7 hl al
 have ks:Ab ((0:Int)-Gd l)=-(Gd l):=by
  unfold Gd; rw [An (by omega) (by omega)]; omega
 have c1:B5 (-2300≤-(Gd l)∧-(Gd l)≤2300)=true:=Aq.2 (by unfold Gd; omega)
 have sp:Df (Bt (A9 l (-(Gd l)))) (-44:Int)=true:=Ac.2 ⟨J8 _,Aq.2 (by decide)⟩
 have o2:Bs (A9 l (-(Gd l)))=true:=Fu hS.1.2 (by rw [Jq]; omega)
 have chain:B0 Ao.Az.E 62 Tryz.f37 (Ak Tryz.f37) [.agg [.int .i64 (R:Int),.int .i64 (C:Int),.ints .arg .u64 l]] =
  Ao.Az.C10 62 (R:Int) (C:Int) (Gd l) (decide ((Ei R C l).2.2=0)) (Ei R C l).1 (Ei R C l).2.1:=by
  rw [Ao.Az.ev,Fu al (by omega),A4g,Rr,A4g]
  show Ao.Az.C2 62 (R:Int) (C:Int) l (Gd l)=_
  rw [Ao.Az.Ajh,ks,hr,al,c1,A4m,A4m,A4g,Lf c6,A4g,Ao.Az.Ajg,o2,A4g,sp,A4g,A4i]
  exact Au6 r6 c6 62 (k:=Gd l) (p4:=A9 l (-(Gd l))) (w:=[]) (v:=[]) (G8 (J8 _)) 60 62 (A9 l (-(Gd l))) (Ic C) (by decide) (by decide) hS
 rcases Xd (R:=R) (n:=C) (low:=Bg (Bt (A9 l (-(Gd l)))) (-44)) 60 (A9 l (-(Gd l))) (Ic C) with he | he
 ·have he:(Ei R C l).2.2=0:=he
  obtain ⟨dv,h1,h2⟩:=Aq9 r6 c6 hl al 62 hc he
  refine ⟨62,dv,[],chain.trans ?_,h2⟩
  rw [he,A4h rfl,Ao.Az.Agf,A5f,A4k]
  exact h1
 ·have he:(Ei R C l).2.2=6:=he
  have hE:Ht (R:Int) (C:Int) l=6:=by
   unfold Ht
   rw [A42 (by rw [hc]; decide),A4i,A4i,A43 (by rw [he]; decide)]
  refine ⟨62,_,[],chain.trans ?_,by show Wk _ _ (Ao.Az.out [.i (R:Int),.i (C:Int),.l l]); rw [Aey hE (by decide)]; exact Aei⟩
  rw [he,A4l (by decide),Ao.Az.Agf,A5z,A4g]
namespace EqBes
end EqBes
open EqMat EqOf EqBes
namespace EqLow
end EqLow
open EqLow
section
variable {n Q:Nat} {l m:List Int}
end
namespace EqLse
end EqLse
open EqLse
open EqLse
section
variable {N:Nat} {r c p q a b u v:Int} {l m g h:List Int} {w one two done f y Q z:MX}
end
open EqRef14 EqLow
theorem Ayv {c:Int} {l:List Int} {i k:Int} (h:Dc l=true):Dz (Fp c l i k)=true:=by
 unfold Fp
 rw [A4q]
 cases hx:l[(i*c+k).toNat]? with
 | none=>exact (by decide:Dz 0=true)
 | some x =>
   unfold Dc at h
   exact List.all_eq_true.1 h x (List.mem_of_getElem? hx)
theorem Ata {r c:Nat} {f:Nat→Nat→Int} (h:∀ i k,Dz (f i k)=true):Dc (Cx r c f)=true:=by
 unfold Dc
 rw [List.all_eq_true]
 intro x hx
 obtain ⟨j,_,rfl⟩:=List.mem_map.1 hx
 exact h _ _
theorem Auy {r c:Int} {l:List Int} (al:Al l=true) (h:Fa r c l=0):∃ R C:Nat,r=R∧c=C∧R≤6∧C≤6∧l.length=R*C ∧
 Un r c l=((R:Int),((min R C:Nat):Int),Cx R (min R C) (fun i k=>Fp (R:Int) (Pa R C l) (0+(i:Int)) (0+(k:Int))),0) ∧
 Og r c l=(((min R C:Nat):Int),(C:Int),Cx (min R C) C (fun i k=>Fp (C:Int) (Na R C l) (0+(i:Int)) (0+(k:Int))),0) ∧
 Al (Pa R C l)=true∧Al (Na R C l)=true∧Dc (Pa R C l)=true∧Dc (Na R C l)=true∧(Pa R C l).length=R*R∧(Na R C l).length=R*C:=by
 have ht:=Ac0 al h
 obtain ⟨R,C,rfl,rfl,r6,c6,hl,q1,q2,g1,g2,f1,f2⟩:=Abn al h
 have p1:Ia (R:Int) (R:Int) 0 0 (R:Int) (min (R:Int) (C:Int))=true:=A4h (by omega)
 have p2:Ia (R:Int) (C:Int) 0 0 (min (R:Int) (C:Int)) (C:Int)=true:=A4h (by omega)
 rw [A4i,A4i,Ze r6 r6 q2 p1,Ze r6 c6 g2 p2] at ht
 have em:min (R:Int) (C:Int)=((min R C:Nat):Int):=by omega
 rw [em,A4i,A4i,A4i] at ht
 exact ⟨R,C,rfl,rfl,r6,c6,hl,ht.1.symm,ht.2.symm,q1,g1,f1,f2,q2,g2⟩
theorem Cb.Gu.known:Cb.Gu.Kn:=Cb.Gu.Ad (.cons Ae.Part.known (.cons Cb.B7.known .nil)) fun r c l hp=>by
 have h1:((A0 r c l&&Dc l)&&Al l)=true:=hp
 obtain ⟨_,al⟩:=Ac.1 h1
 show ∃ N dv drops,_=some dv∧Wk drops dv (DV.agg [.int .i64 (Un r c l).1,.int .i64 (Un r c l).2.1,.ints .arg .u64 (Un r c l).2.2.1,.int .i64 (Og r c l).1,.int .i64 (Og r c l).2.1,.ints .arg .u64 (Og r c l).2.2.1,.bool (decide (Fa r c l=0))])
 have hrun:=Cb.Gu.ev 0 r c l
 rw [h1,A4g] at hrun
 by_cases h:Fa r c l=0
 ·obtain ⟨e1,e2⟩:=Vt h
  obtain ⟨R,C,rfl,rfl,r6,c6,hl,t1,t2,q1,g1,f1,f2,q2,g2⟩:=Auy al h
  have p1:Ia (R:Int) (R:Int) 0 0 (R:Int) (min (R:Int) (C:Int))=true:=A4h (by omega)
  have p2:Ia (R:Int) (C:Int) 0 0 (min (R:Int) (C:Int)) (C:Int)=true:=A4h (by omega)
  have em:min (R:Int) (C:Int)=((min R C:Nat):Int):=by omega
  rw [A4h h,A5f,A4k,e1,e2,A4i,A4i,Em r6 r6 q2,Em r6 c6 g2,p1,p2,A4m,A4g,A4g,em,A4i] at hrun
  rw [t1,t2,h]
  exact ⟨0,_,[],hrun,Wk.F7 (.cons .int (.cons .int (.cons (.fresh _ _) (.cons .int (.cons .int (.cons (.fresh _ _) (.cons .bool .nil)))))))⟩
 ·obtain ⟨e1,e2⟩:=Aag (e:=Fa r c l) rfl h
  have e3:Un r c l=L8 (Fa r c l):=by unfold Un; rw [A43 h]
  have e4:Og r c l=L8 (Fa r c l):=by unfold Og; rw [A43 h]
  rw [A4l h,A5z,A4g,e1,e2] at hrun
  rw [e3,e4,A4l h]
  exact ⟨0,_,[],hrun,Wk.F7 (.cons .int (.cons .int (.cons .N1 (.cons .int (.cons .int (.cons .N1 (.cons .bool .nil)))))))⟩
section
variable {n Q:Nat} {l m:List Int}
end
open EqRef20
end Go.Proofs.S1
end
