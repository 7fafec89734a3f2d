/- A verified evaluator of the program's form and its use for this seat: S1EqRef19, S1PRef19, S1PRef19A, S1EqBes, S1PBes, S1EqLow, S1PLow, S1EqLse, S1PLse, S1PLseA, S1PRefL, S1PRef20, S1PMx, S1EqGg, S1PGg, S1EqRidge, S1PRidge, S1EqRef22, S1PRef22, S1EqLaw17, S1PLaw17, S1EqLaw22, S1PLaw22, S1EqTot, S1PTot, ExaL, S1PExa, S1PExaA, TotS, S1EqRefM, S1PRefM. -/
import Derived.Test.YthajngaadbanfaaGreatTG
import Derived.Test.YthajngaadbanfaaGreatTM
import Derived.Test.YthajngaadbanfaaGreatTL
import Derived.Test.YthajngaadbanfaaGreatTE
import Derived.Test.YthajngaadbanfaaGreatTJ
import Derived.Test.YthajngaadbanfaaGreatTF
import Derived.Test.YthajngaadbanfaaGreatTK
set_option linter.unusedVariables false
set_option linter.unusedSimpArgs false
open List renaming set->zn,append_assoc->zQ,length_take->zI,drop_eq_getElem_cons->yG,append_nil->yi,mem_singleton->zf,range->zh,range_succ->y7,map_append->yq,length_singleton->vk,mem_map->zw,getElem?_range->yv,take->zt,all_eq_true->zJ
open Eq renaming trans->yL
open Bool renaming true_or->wE,false_and->zO,or_eq_true->zK
open Nat renaming div_eq_of_lt->yc,mod_lt->zv,mul_lt_mul''->wz,mul_zero->yB,mul_add->yh
noncomputable section
open Int (toNat)
open List (length getD)
open Go.Proofs.Tryz
namespace Go.Proofs.S1
open Go Go.Den Go.Ct Go.Proofs
set_option maxRecDepth 100000
def Ay.Ia.E:=E0 [(19,Cy.Order.spec)]
theorem Ay.Ia.ev(N:Nat)(a b:Int):Bv Ay.Ia.E N f158 (Aj f158) [.int .u64 a,.int .u64 b]=cond (Af a&&Af b) (some (.bool (cond (Su a b) (Bc 0 (Hp a b)) false))) none :=Et (Es (Ax (Un (Su a b)) (Ax (P7 (Su a b)) (Ax (tt2 (Su a b)) rfl))) rfl)
def Ay.be.E:=E0 [(84,Cy.Nc.spec),(141,Aq.H6.spec),(153,Aq.Mul.spec),(96,Aq.Norm.spec),(85,Aq.Cc.spec),(158,Ay.Ia.spec)]
theorem Ay.be.ev(N:Nat)(x y:List Int)(b:Int):Bv Ay.be.E N f155 (Aj f155) [.ints .arg .u64 x,.ints .arg .u64 y,.int .u64 b]=cond (By x) (bif (By y) then cond (Af (Bk x)&&Af (Bk y)) (bif (Dk (Bz (Bk x) (Bk y)) (-44:Int)) then cond (Af (Bk x)&&Af b) (bif ((!(Gs (Bk x) b))||(Af (Bk y)&&Af b)) then cond (((!(Gs (Bk x) b))||(!(Gs (Bk y) b)))||((Re x y&&Ah x)&&Ah y)) (bif (((!(Gs (Bk x) b))||(!(Gs (Bk y) b)))||(Af (Hi x y))) then cond (((!(Gs (Bk x) b))||(!(Gs (Bk y) b)))||(Af (Hq (Hi x y))&&Af (A7 (Bz (Bk x) (Bk y)) (-44:Int)))) (some (.bool (cond (bif (!(Gs (Bk x) b)) then true else (!(Gs (Bk y) b))) true (!(Gs (Hq (Hi x y)) (A7 (Bz (Bk x) (Bk y)) (-44:Int))))))) none else none) none else none) none else none) none else none) none :=Et (Es (Es (Es (Es (Es (Ax (Xw (Gs (Bk x) b)) (Ax (Xw (Gs (Bk x) b)) (Co (A6m _ _) (Ax (R7 (Gs (Bk x) b)) (Ax (Aau (Gs (Bk x) b)) (Ax (Alz (Gs (Bk x) b) (Gs (Bk y) b)) (Ax (Alz (Gs (Bk x) b) (Gs (Bk y) b)) (Co (Ayq _ _ _) (Co (A6n _ _ _) (Ax (Alz (Gs (Bk x) b) (Gs (Bk y) b)) (Co (Ayq _ _ _) (Ax (Aun (Gs (Bk x) b) (Gs (Bk y) b)) (Ax (A7f (Gs (Bk x) b) (Gs (Bk y) b)) rfl)) rfl)) rfl) rfl))))) rfl))) rfl) rfl) rfl) rfl) rfl)
def Ay.Db.J4:List (Nat × Fy):=[(86,Bg.Eg.spec),(102,Bg.Neg.spec),(84,Cy.Nc.spec),(152,Aq.Add.spec),(87,Aq.Div.spec),(141,Aq.H6.spec),(153,Aq.Mul.spec),(154,Aq.Sqrt.spec),(198,Aq.Sub.spec)]
def Ay.Db.live:Nat->Option (List Nat)
 | 2=>some [0,1,6]
 | 3=>some [7]
 | 4=>some [7,8]
 | 5=>some [7,9]
 | 7=>some [9]
 | _=>none
def Ay.Db.E:Env:=C6 (Cw Ay.Db.J4) (fun _=>false) (fun _=>none) Ay.Db.live
section
variable(N:Nat)(p9_1 p7 p9 p8:Int)(x y:List Int)(p6:Int)
def Ay.Db.C2:Option DV:=cutAt Ay.Db.E N f156 (Aj f156) [1,1] [] ⟨F3 49 [(0,.ints .arg .u64 x),(1,.ints .arg .u64 y),(6,.int .u64 p6)],[]⟩
def Ay.Db.C3:Option DV:=cutAt Ay.Db.E N f156 (Aj f156) [1,1,1] [] ⟨F3 49 [(7,.int .u64 p7)],[]⟩
def Ay.Db.C4:Option DV:=cutAt Ay.Db.E N f156 (Aj f156) [1,1,1,1] [] ⟨F3 49 [(7,.int .u64 p7),(8,.int .u64 p8)],[]⟩
def Ay.Db.C5:Option DV:=cutAt Ay.Db.E N f156 (Aj f156) [1,1,1,1,1,0] [] ⟨F3 49 [(7,.int .u64 p7),(9,.int .u64 p9)],[]⟩
def Ay.Db.C7:Option DV:=cutAt Ay.Db.E N f156 (Aj f156) [1,1,1,1,1,1] [] ⟨F3 49 [(9,.int .u64 p9_1)],[]⟩
theorem Ay.Db.Ao2:Ay.Db.C2 N x y p6=cond ((Re y y&&Ah y)&&Ah y) (bif ((Re x x&&Ah x)&&Ah x) then cond (Af (Hi y y)&&Af (Hi x x)) (bif (Af p6&&Af p6) then cond (Af (Gg (Hi y y) (Hi x x))&&Af (De p6 p6)) (Ay.Db.C3 N (E2 (Gg (Hi y y) (Hi x x)) (De p6 p6))) none else none) none else none) none:=(D3 _ _ _ _ _ _ _).trans (by kernel_rfl)
theorem Ay.Db.Bb4:Ay.Db.C3 N p7=cond (Af p7&&Af p7) (bif (Af 4607182418800017408&&Af (Bz p7 p7)) then cond (Af (De 4607182418800017408 (Bz p7 p7))) (Ay.Db.C4 N p7 (Dt (De 4607182418800017408 (Bz p7 p7)))) none else none) none:=(D3 _ _ _ _ _ _ _).trans (by kernel_rfl)
theorem Ay.Db.A2t:Ay.Db.C4 N p7 p8=cond (Af p7) (bif (Af (Hq p7)&&Af p8) then cond (Af 4607182418800017408&&Af (De (Hq p7) p8)) (Ay.Db.C5 N p7 (E2 4607182418800017408 (De (Hq p7) p8))) none else none) none:=(D3 _ _ _ _ _ _ _).trans (by kernel_rfl)
theorem Ay.Db.Ao1:Ay.Db.C5 N p7 p9=cond (Af p7) (bif (En p7) then cond (Af p9) (Ay.Db.C7 N (B7 p9)) none else Ay.Db.C7 N p9) none:=(D3 _ _ _ _ _ _ _).trans (by kernel_rfl)
theorem Ay.Db.Ao0:Ay.Db.C7 N p9_1=cond (Af p9_1&&Af p9_1) (bif (Af 4607182418800017408&&Af (Bz p9_1 p9_1)) then cond (Af (De 4607182418800017408 (Bz p9_1 p9_1))) (bif (Af 4607182418800017408&&Af (Dt (De 4607182418800017408 (Bz p9_1 p9_1)))) then cond (Af (E2 4607182418800017408 (Dt (De 4607182418800017408 (Bz p9_1 p9_1))))&&Af p9_1) (some (.tup [.int .u64 (E2 4607182418800017408 (Dt (De 4607182418800017408 (Bz p9_1 p9_1)))),.int .u64 (Bz (E2 4607182418800017408 (Dt (De 4607182418800017408 (Bz p9_1 p9_1)))) p9_1)])) none else none) none else none) none:=(D3 _ _ _ _ _ _ _).trans (by kernel_rfl)
theorem Ay.Db.ev:Bv Ay.Db.E N f156 (Aj f156) [.ints .arg .u64 x,.ints .arg .u64 y]=cond ((Re x y&&Ah x)&&Ah y) (Ay.Db.C2 N x y (Hi x y)) none:=by kernel_rfl
end
def Ay.round.hint:Nat->Option A9
 | 0=>some { keep:=[2,3,4,6,7,9,10],objs:=[],boxes:=[3,4,6,7] }
 | 2=>some { keep:=[2,3,4,6,7,9,10,11],objs:=[],boxes:=[3,4,6,7] }
 | _=>none
def Ay.round.E:=C6 (Cw [(86,Bg.Eg.spec),(22,A0.Ys.spec),(157,Gd.Mp.spec),(155,Ay.be.spec),(156,Ay.Db.spec)]) (fun _=>false) Ay.round.hint (fun _=>none)
section
variable(N M0 M:Nat)(r c:Int)(l:List Int)(p q:Int)(m:List Int)(b p11:Int)(p9:Bool)(p3 p4:List Int)(p10_1 p10:Int)(p9_1:Bool)(p3_1 p4_1:List Int)
def Ay.round.L0:Option DV:=B2 Ay.round.E N f97 (Aj f97) [1,1,0,1,0] [] M ⟨F3 63 [(2,.int .u64 b),(3,.ptr 3 0 0),(4,.ptr 4 0 0),(6,.ptr 6 0 0),(7,.ptr 7 0 0),(9,.bool p9_1),(10,.int .i64 p10)],[(3,false,.box [.int .i64 r,.int .i64 c,.ints .arg .u64 p3_1]),(4,false,.box [.int .i64 p,.int .i64 q,.ints .arg .u64 p4_1]),(6,false,.box [.int .i64 0,.int .i64 0,.nil]),(7,false,.box [.int .i64 0,.int .i64 0,.nil])]⟩
def Ay.round.L1:Option DV:=B2 Ay.round.E N f97 (Aj f97) [1,1,0,1,0,0,1,0,0,1,0] [M0] M ⟨F3 63 [(2,.int .u64 b),(3,.ptr 3 0 0),(4,.ptr 4 0 0),(6,.ptr 6 0 0),(7,.ptr 7 0 0),(9,.bool p9),(10,.int .i64 p10_1),(11,.int .i64 p11)],[(3,false,.box [.int .i64 r,.int .i64 c,.ints .arg .u64 p3]),(4,false,.box [.int .i64 p,.int .i64 q,.ints .arg .u64 p4]),(6,false,.box [.int .i64 0,.int .i64 0,.nil]),(7,false,.box [.int .i64 0,.int .i64 0,.nil])]⟩
theorem Ay.round.Ar:Ay.round.L0 N (M+1) r c p q b p10 p9_1 p3_1 p4_1=cond (Bc p10 c) (Ay.round.L1 N M N r c p q b (Ad (p10+1)) p9_1 p3_1 p4_1 p10) (some (.tup [.agg [.int .i64 r,.int .i64 c,.ints .arg .u64 p3_1],.agg [.int .i64 p,.int .i64 q,.ints .arg .u64 p4_1],.bool p9_1])):=by kernel_rfl
theorem Ay.round.B6:Ay.round.L1 N M0 (M+1) r c p q b p11 p9 p3 p4 p10_1=cond (Bc p11 c) (bif (Gu r c p3 p10_1&&Bq (0<=(0:Int)/\(0:Int)<=r)) then cond (Gu r c p3 p11&&Bq (0<=(0:Int)/\(0:Int)<=r)) (bif ((By (B3 c p3 p10_1 0 (toNat (r-0)))&&By (B3 c p3 p11 0 (toNat (r-0))))&&(Af b&&Bq (length (B3 c p3 p10_1 0 (toNat (r-0)))=length (B3 c p3 p11 0 (toNat (r-0)))/\length (B3 c p3 p10_1 0 (toNat (r-0)))<=6))) then cond (beR (B3 c p3 p10_1 0 (toNat (r-0))) (B3 c p3 p11 0 (toNat (r-0))) b) (Ay.round.L1 N M0 M r c p q b (Ad (p11+1)) p9 p3 p4 p10_1) (bif ((By (B3 c p3 p10_1 0 (toNat (r-0)))&&By (B3 c p3 p11 0 (toNat (r-0))))&&Bq (length (B3 c p3 p10_1 0 (toNat (r-0)))=length (B3 c p3 p11 0 (toNat (r-0)))/\length (B3 c p3 p10_1 0 (toNat (r-0)))<=6)) then cond (Af (El (G9 (Ix (B3 c p3 p10_1 0 (toNat (r-0))) (B3 c p3 p11 0 (toNat (r-0))))))) (bif (Az r c p3&&(Ah p3&&((Af (Fj (G9 (Ix (B3 c p3 p10_1 0 (toNat (r-0))) (B3 c p3 p11 0 (toNat (r-0))))))&&Af (B7 (El (G9 (Ix (B3 c p3 p10_1 0 (toNat (r-0))) (B3 c p3 p11 0 (toNat (r-0))))))))&&Bq (0<=p10_1/\p10_1<c/\0<=p11/\p11<c/\p10_1≠p11)))) then cond (Af (El (G9 (Ix (B3 c p3 p10_1 0 (toNat (r-0))) (B3 c p3 p11 0 (toNat (r-0))))))) (bif (Az p q p4&&(Ah p4&&((Af (Fj (G9 (Ix (B3 c p3 p10_1 0 (toNat (r-0))) (B3 c p3 p11 0 (toNat (r-0))))))&&Af (B7 (El (G9 (Ix (B3 c p3 p10_1 0 (toNat (r-0))) (B3 c p3 p11 0 (toNat (r-0))))))))&&Bq (0<=p10_1/\p10_1<q/\0<=p11/\p11<q/\p10_1≠p11)))) then Ay.round.L1 N M0 M r c p q b (Ad (p11+1)) false (Jh (toNat r) (toNat c) p3 (toNat p10_1) (toNat p11) (Fj (G9 (Ix (B3 c p3 p10_1 0 (toNat (r-0))) (B3 c p3 p11 0 (toNat (r-0)))))) (B7 (El (G9 (Ix (B3 c p3 p10_1 0 (toNat (r-0))) (B3 c p3 p11 0 (toNat (r-0)))))))) (Jh (toNat p) (toNat q) p4 (toNat p10_1) (toNat p11) (Fj (G9 (Ix (B3 c p3 p10_1 0 (toNat (r-0))) (B3 c p3 p11 0 (toNat (r-0)))))) (B7 (El (G9 (Ix (B3 c p3 p10_1 0 (toNat (r-0))) (B3 c p3 p11 0 (toNat (r-0)))))))) p10_1 else none) none else none) none else none) else none) none else none) (Ay.round.L0 N M0 r c p q b (Ad (p10_1+1)) p9 p3 p4) :=Et (Es (Es (Es (Es (Es rfl (Es (Co (Cb _) (Co (Cb _) (Co (Cb _) (Co (Cb _) rfl rfl) rfl) rfl) rfl) rfl)) rfl) rfl) rfl) rfl)
theorem Ay.round.ev:Bv Ay.round.E N f97 (Aj f97) [.agg [.int .i64 r,.int .i64 c,.ints .arg .u64 l],.agg [.int .i64 p,.int .i64 q,.ints .arg .u64 m],.int .u64 b] =
 Ay.round.L0 N N r c p q b 0 true l m:=by kernel_rfl
end
def Ay.Bx.hint:Nat->Option A9
 | 0=>some { keep:=[1,2,4,5,6],objs:=[(6,2,106002,.ints 43 .u64 [])],boxes:=[2,4,5] }
 | _=>none
def Ay.Bx.E:=C6 (Cw [(85,Aq.Cc.spec),(53,A0.Br.own.spec)]) (fun n=>Nat.beq n 11) Ay.Bx.hint (fun _=>none)
section
variable(N M:Nat)(r c:Int)(l:List Int)(k p6:Int)(p2:List Int)
def Ay.Bx.L0:Option DV:=B2 Ay.Bx.E N f94 (Aj f94) [1,1,0,1,0] [] M ⟨F3 31 [(1,.int .i64 k),(2,.ptr 2 0 0),(4,.ptr 4 0 0),(5,.ptr 5 0 0),(6,.int .i64 p6)],[(2,false,.box [.int .i64 r,.int .i64 c,.ints .arg .u64 l]),(4,false,.box [.int .i64 0,.int .i64 0,.nil]),(5,false,.box [.int .i64 r,.int .i64 c,.oref 106002]),(106002,false,.ints 43 .u64 p2)]⟩
theorem Ay.Bx.Ar:Ay.Bx.L0 N (M+1) r c l k p6 p2=cond (Bc p6 (length l:Int)) (bif ((decide (0<=p6))&&(decide (p6<(length l:Int)))) then cond (Dk (getD l (toNat p6) 0) k) (bif ((decide (0<=p6))&&(decide (p6<(length p2:Int)))) then cond (decide ((toNat p6)<(length p2))) (Ay.Bx.L0 N M r c l k (Ad (p6+1)) (zn p2 (toNat p6) (A7 (getD l (toNat p6) 0) k))) none else none) none else none) (some (.agg [.int .i64 r,.int .i64 c,.ints (.own 106002 43) .u64 p2])) :=Et (Es (Co (Kz _ _) (Co (Cb _) (Co (Kz _ _) (Co (Cb _) rfl rfl) rfl) rfl) rfl) rfl)
theorem Ay.Bx.ev:Bv Ay.Bx.E N f94 (Aj f94) [.agg [.int .i64 r,.int .i64 c,.ints .arg .u64 l],.int .i64 k]=cond (Bp r&&Bp c) (Ay.Bx.L0 N N r c l k 0 (B0 (toNat r) (toNat c) (fun _ _=>0))) none:=by kernel_rfl
end
def Ay.Jq.hint:Nat->Option A9
 | 0=>some { keep:=[1,3,4],objs:=[(0,3,100003,.ints 43 .u64 [])],boxes:=[1] }
 | _=>none
def Ay.Jq.E:=C6 (Cw [(96,Aq.Norm.spec),(22,A0.Ys.spec)]) (fun _=>false) Ay.Jq.hint (fun _=>none)
section
variable(N M:Nat)(r c:Int)(l:List Int)(p4:Int)(p3:List Int)
def Ay.Jq.L0:Option DV:=B2 Ay.Jq.E N f75 (Aj f75) [1,1,0,1,0] [] M ⟨F3 20 [(1,.ptr 1 0 0),(3,.oref 100003),(4,.int .i64 p4)],[(1,false,.box [.int .i64 r,.int .i64 c,.ints .arg .u64 l]),(100003,false,.ints 43 .u64 p3)]⟩
theorem Ay.Jq.Ar:Ay.Jq.L0 N (M+1) r c l p4 p3=cond (Bc p4 c) (bif (Gu r c l p4&&Bq (0<=(0:Int)/\(0:Int)<=r)) then cond (By (B3 c l p4 0 (toNat (r-0)))) (bif (decide ((length p3)+1<=G2)) then Ay.Jq.L0 N M r c l (Ad (p4+1)) (p3++[(Bk (B3 c l p4 0 (toNat (r-0))))]) else none) none else none) (some (.ints (.own 100003 43) .u64 p3)):=by kernel_rfl
theorem Ay.Jq.ev:Bv Ay.Jq.E N f75 (Aj f75) [.agg [.int .i64 r,.int .i64 c,.ints .arg .u64 l]] =
 Ay.Jq.L0 N N r c l 0 []:=by kernel_rfl
end
def Ay.order.hint:Nat->Option A9
 | 0=>some { keep:=[0,3,4],objs:=[(0,3,100003,.ints 3 .i64 [])],boxes:=[] }
 | 2=>some { keep:=[0,3,4,5,6,7],objs:=[(0,3,100003,.ints 3 .i64 []),(0,5,100005,.ints 3 .i64 [])],boxes:=[] }
 | _=>none
def Ay.order.E:=C6 (Cw [(158,Ay.Ia.spec)]) (fun _=>false) Ay.order.hint (fun _=>none)
section
variable(N M0 M:Nat)(l:List Int)(p4_1:Int)(p3_1:List Int)(p6:Bool)(p7:Int)(p5:List Int)(p4:Int)(p3:List Int)
def Ay.order.L0:Option DV:=B2 Ay.order.E N f98 (Aj f98) [1,1,0,1,0] [] M ⟨F3 57 [(0,.ints .arg .u64 l),(3,.oref 100003),(4,.int .i64 p4)],[(100003,false,.ints 3 .i64 p3)]⟩
def Ay.order.L1:Option DV:=B2 Ay.order.E N f98 (Aj f98) [1,1,0,1,0,0,1,0,0,1,1,0,1,0] [M0] M ⟨F3 57 [(0,.ints .arg .u64 l),(3,.oref 100003),(4,.int .i64 p4_1),(5,.oref 100005),(6,.bool p6),(7,.int .i64 p7)],[(100003,false,.ints 3 .i64 p3_1),(100005,false,.ints 3 .i64 p5)]⟩
theorem Ay.order.Ar:Ay.order.L0 N (M+1) l p4 p3=cond (Bc p4 (length l:Int)) (Ay.order.L1 N M N l p4 p3 false 0 []) (some (.ints (.own 100003 3) .i64 p3)):=by kernel_rfl
theorem Ay.order.B6:Ay.order.L1 N M0 (M+1) l p4_1 p3_1 p6 p7 p5=cond (Bc p7 (length p3_1:Int)) (bif (p6||((decide (0<=p4_1))&&(decide (p4_1<(length l:Int))))) then cond (p6||((decide (0<=p7))&&(decide (p7<(length p3_1:Int))))) (bif (p6||(decide ((toNat p7)<(length p3_1)))) then cond (p6||((decide (0<=(getD p3_1 (toNat p7) 0)))&&(decide ((getD p3_1 (toNat p7) 0)<(length l:Int))))) (bif (p6||(Af (getD l (toNat p4_1) 0)&&Af (getD l (toNat (getD p3_1 (toNat p7) 0)) 0))) then cond ((!p6)&&(Gs (getD l (toNat p4_1) 0) (getD l (toNat (getD p3_1 (toNat p7) 0)) 0))) (bif (decide ((length p5)+1<=G2)) then cond ((decide (0<=p7))&&(decide (p7<(length p3_1:Int)))) (bif (decide ((toNat p7)<(length p3_1))) then cond (decide ((length (p5++[p4_1]))+1<=G2)) (Ay.order.L1 N M0 M l p4_1 p3_1 true (Ad (p7+1)) ((p5++[p4_1])++[(getD p3_1 (toNat p7) 0)])) none else none) none else none) (bif ((decide (0<=p7))&&(decide (p7<(length p3_1:Int)))) then cond (decide ((toNat p7)<(length p3_1))) (bif (decide ((length p5)+1<=G2)) then Ay.order.L1 N M0 M l p4_1 p3_1 p6 (Ad (p7+1)) (p5++[(getD p3_1 (toNat p7) 0)]) else none) none else none) else none) none else none) none else none) (bif (!p6) then cond (decide ((length p5)+1<=G2)) (Ay.order.L0 N M0 l (Ad (p4_1+1)) (p5++[p4_1])) none else Ay.order.L0 N M0 l (Ad (p4_1+1)) p5) :=Et (Es (Ax (Al0 p6) (Ax (Al0 p6) (Co (Ayp _ _ _) (Ax (A6l p6) (Ax (Al0 p6) (Ax (Al0 p6) (Ax (Al0 p6) (Co (Ayp _ _ _) (Co (Ba4 _ _) (Co (Ayp _ _ _) (Ax (A6l p6) (Co (Ba5 _ _) (Ax (Ba6 p6) (Co (Ba7 _ _) rfl rfl)) rfl)) rfl) rfl) rfl))))) rfl))) rfl)
theorem Ay.order.ev:Bv Ay.order.E N f98 (Aj f98) [.ints .arg .u64 l] =
 Ay.order.L0 N N l 0 []:=by kernel_rfl
end
def Ha.Ee.hint:Nat->Option A9
 | 0=>some { keep:=[1,2,4,5,6],objs:=[],boxes:=[2,4,5] }
 | 2=>some { keep:=[1,2,4,5,6,7],objs:=[],boxes:=[2,4,5] }
 | _=>none
def Ha.Ee.E:=C6 (Cw [(55,A0.At.spec),(54,A0.Kg.arg.spec),(53,A0.Br.arg.spec)]) (fun _=>false) Ha.Ee.hint (fun _=>none)
section
variable(N M0 M:Nat)(r c:Int)(l x:List Int)(p7:Int)(p5:List Int)(p6_1 p6:Int)(p5_1:List Int)
def Ha.Ee.L0:Option DV:=B2 Ha.Ee.E N f99 (Aj f99) [1,1,0,1,0] [] M ⟨F3 37 [(1,.ints .arg .i64 x),(2,.ptr 2 0 0),(4,.ptr 4 0 0),(5,.ptr 5 0 0),(6,.int .i64 p6)],[(2,false,.box [.int .i64 r,.int .i64 c,.ints .arg .u64 l]),(4,false,.box [.int .i64 0,.int .i64 0,.nil]),(5,false,.box [.int .i64 r,.int .i64 (length x:Int),.ints .arg .u64 p5_1])]⟩
def Ha.Ee.L1:Option DV:=B2 Ha.Ee.E N f99 (Aj f99) [1,1,0,1,0,0,1,0,0,1,0] [M0] M ⟨F3 37 [(1,.ints .arg .i64 x),(2,.ptr 2 0 0),(4,.ptr 4 0 0),(5,.ptr 5 0 0),(6,.int .i64 p6_1),(7,.int .i64 p7)],[(2,false,.box [.int .i64 r,.int .i64 c,.ints .arg .u64 l]),(4,false,.box [.int .i64 0,.int .i64 0,.nil]),(5,false,.box [.int .i64 r,.int .i64 (length x:Int),.ints .arg .u64 p5])]⟩
theorem Ha.Ee.Ar:Ha.Ee.L0 N (M+1) r c l x p6 p5_1=cond (Bc p6 r) (Ha.Ee.L1 N M N r c l x 0 p5_1 p6) (some (.agg [.int .i64 r,.int .i64 (length x:Int),.ints .arg .u64 p5_1])):=by kernel_rfl
theorem Ha.Ee.B6:Ha.Ee.L1 N M0 (M+1) r c l x p7 p5 p6_1=cond (Bc p7 (length x:Int)) (bif ((decide (0<=p7))&&(decide (p7<(length x:Int)))) then cond (E6 r c l p6_1 (getD x (toNat p7) 0)) (bif (E6 r (length x:Int) p5 p6_1 p7) then Ha.Ee.L1 N M0 M r c l x (Ad (p7+1)) (zn p5 (toNat (p6_1*(length x:Int)+p7)) (C1 c l p6_1 (getD x (toNat p7) 0))) p6_1 else none) none else none) (Ha.Ee.L0 N M0 r c l x (Ad (p6_1+1)) p5) :=Et (Es (Co (Kz _ _) (Co (Cb _) (Co (Cb _) rfl rfl) rfl) rfl) rfl)
theorem Ha.Ee.ev:Bv Ha.Ee.E N f99 (Aj f99) [.agg [.int .i64 r,.int .i64 c,.ints .arg .u64 l],.ints .arg .i64 x]=cond (Bp r&&Bp (length x:Int)) (Ha.Ee.L0 N N r c l x 0 (B0 (toNat r) (toNat (length x:Int)) (fun _ _=>0))) none:=by kernel_rfl
end
def Ay.A2.hint:Nat->Option A9
 | 0=>some { keep:=[2,3,4,5,6,7,8],objs:=[],boxes:=[2,4,5] }
 | _=>none
def Ay.A2.J4:List (Nat × Fy):=[(92,Cy.Tc.spec),(93,Aq.Ck.spec),(74,Aq.Finite.spec),(96,Aq.Norm.spec),(85,Aq.Cc.spec),(95,A0.Hv.arg.spec),(99,Ha.Ee.spec),(75,Ay.Jq.spec),(98,Ay.order.spec),(97,Ay.round.spec),(94,Ay.Bx.spec)]
def Ay.A2.live:Nat->Option (List Nat)
 | 2=>some [1,2,3]
 | 4=>some [2,3,4,5]
 | 10=>some [2,3,4,5,7]
 | 12=>some [2,3,4,5]
 | 15=>some [2,4,5]
 | 17=>some [2,4,5]
 | _=>none
def Ay.A2.E:Env:=C6 (Cw Ay.A2.J4) (fun _=>false) Ay.A2.hint Ay.A2.live
section
variable(N M:Nat)(r c:Int)(p4_2 p5_2 l:List Int)(p3:Int)(p5 p4:List Int)(p7:Bool)(p8:Int)(p4_1 p5_1:List Int)
def Ay.A2.C2:Option DV:=cutAt Ay.A2.E N f37 (Aj f37) [1,1] [] ⟨F3 71 [(1,.ptr 1 0 0),(2,.ptr 2 0 0),(3,.int .i64 p3)],[(2,false,.box [.int .i64 0,.int .i64 0,.nil,.int .i64 0,.int .i64 0,.nil,.nil,.int .i64 0]),(1,false,.box [.int .i64 r,.int .i64 c,.ints .arg .u64 l])]⟩
def Ay.A2.C4:Option DV:=cutAt Ay.A2.E N f37 (Aj f37) [1,1,1,1] [] ⟨F3 71 [(2,.ptr 2 0 0),(3,.int .i64 p3),(4,.ptr 4 0 0),(5,.ptr 5 0 0)],[(5,false,.box [.int .i64 c,.int .i64 c,.ints .arg .u64 p5]),(4,false,.box [.int .i64 r,.int .i64 c,.ints .arg .u64 p4]),(2,false,.box [.int .i64 0,.int .i64 0,.nil,.int .i64 0,.int .i64 0,.nil,.nil,.int .i64 0]),(1,false,.box [.int .i64 r,.int .i64 c,.ints .arg .u64 l])]⟩
def Ay.A2.L0:Option DV:=B2 Ay.A2.E N f37 (Aj f37) [1,1,1,1,1,1,0,1,0] [] M ⟨F3 71 [(2,.ptr 2 0 0),(3,.int .i64 p3),(4,.ptr 4 0 0),(5,.ptr 5 0 0),(6,.int .u64 (A7 (Bk p4) (-44:Int))),(7,.bool p7),(8,.int .i64 p8)],[(2,false,.box [.int .i64 0,.int .i64 0,.nil,.int .i64 0,.int .i64 0,.nil,.nil,.int .i64 0]),(4,false,.box [.int .i64 r,.int .i64 c,.ints .arg .u64 p4_1]),(5,false,.box [.int .i64 c,.int .i64 c,.ints .arg .u64 p5_1])]⟩
def Ay.A2.C10:Option DV:=cutAt Ay.A2.E N f37 (Aj f37) [1,1,1,1,1,1,1,0] [] ⟨F3 71 [(2,.ptr 2 0 0),(3,.int .i64 p3),(4,.ptr 4 0 0),(5,.ptr 5 0 0),(7,.bool p7)],[(2,false,.box [.int .i64 0,.int .i64 0,.nil,.int .i64 0,.int .i64 0,.nil,.nil,.int .i64 0]),(4,false,.box [.int .i64 r,.int .i64 c,.ints .arg .u64 p4_1]),(5,false,.box [.int .i64 c,.int .i64 c,.ints .arg .u64 p5_1])]⟩
def Ay.A2.C12:Option DV:=cutAt Ay.A2.E N f37 (Aj f37) [1,1,1,1,1,1,1,1] [] ⟨F3 71 [(2,.ptr 2 0 0),(3,.int .i64 p3),(4,.ptr 4 0 0),(5,.ptr 5 0 0)],[(2,false,.box [.int .i64 0,.int .i64 0,.nil,.int .i64 0,.int .i64 0,.nil,.nil,.int .i64 0]),(4,false,.box [.int .i64 r,.int .i64 c,.ints .arg .u64 p4_1]),(5,false,.box [.int .i64 c,.int .i64 c,.ints .arg .u64 p5_1])]⟩
def Ay.A2.C15:Option DV:=cutAt Ay.A2.E N f37 (Aj f37) [1,1,1,1,1,1,1,1,1,1,1,0] [] ⟨F3 71 [(2,.ptr 2 0 0),(4,.ptr 4 0 0),(5,.ptr 5 0 0)],[(2,false,.box [.int .i64 0,.int .i64 0,.nil,.int .i64 0,.int .i64 0,.nil,.nil,.int .i64 0]),(4,false,.box [.int .i64 r,.int .i64 c,.ints .arg .u64 p4_2]),(5,false,.box [.int .i64 c,.int .i64 c,.ints .arg .u64 p5_2])]⟩
def Ay.A2.C17:Option DV:=cutAt Ay.A2.E N f37 (Aj f37) [1,1,1,1,1,1,1,1,1,1,1,1] [] ⟨F3 71 [(2,.ptr 2 0 0),(4,.ptr 4 0 0),(5,.ptr 5 0 0)],[(2,false,.box [.int .i64 0,.int .i64 0,.nil,.int .i64 0,.int .i64 0,.nil,.nil,.int .i64 0]),(4,false,.box [.int .i64 r,.int .i64 c,.ints .arg .u64 p4_2]),(5,false,.box [.int .i64 c,.int .i64 c,.ints .arg .u64 p5_2])]⟩
theorem Ay.A2.Ao2:Ay.A2.C2 N r c l p3=cond (Az r c l&&(Ah l&&Bq (-2300<=(Ad ((0:Int)-p3))/\(Ad ((0:Int)-p3))<=2300))) (bif (Bp c) then Ay.A2.C4 N r c l p3 (Iz (toNat c)) (A4 l (Ad ((0:Int)-p3))) else none) none:=(D3 _ _ _ _ _ _ _).trans (by kernel_rfl)
theorem Ay.A2.A2t:Ay.A2.C4 N r c l p3 p5 p4=cond (By p4) (bif (Dk (Bk p4) (-44:Int)) then Ay.A2.L0 N N r c p3 p4 false 0 p4 p5 else none) none:=(D3 _ _ _ _ _ _ _).trans (by kernel_rfl)
theorem Ay.A2.Ar:Ay.A2.L0 N (M+1) r c p3 p4 p7 p8 p4_1 p5_1=cond ((Bc p8 60)&&(!p7)) (bif ((Az r c p4_1&&Az c c p5_1)&&((Ah p4_1&&Ah p5_1)&&(Af (A7 (Bk p4) (-44:Int))&&Bq (c=c/\c=c)))) then Ay.A2.L0 N M r c p3 p4 ((U7 (toNat r) (toNat c) (A7 (Bk p4) (-44:Int)) p4_1 p5_1).2.2) (Ad (p8+1)) ((U7 (toNat r) (toNat c) (A7 (Bk p4) (-44:Int)) p4_1 p5_1).1) ((U7 (toNat r) (toNat c) (A7 (Bk p4) (-44:Int)) p4_1 p5_1).2.1) else none) (Ay.A2.C10 N r c p3 p7 p4_1 p5_1) :=Et (Ax (Un (Bc p8 60)) (Ax (P7 (Bc p8 60)) (Ax (tt2 (Bc p8 60)) (Co (Baw _ _) rfl rfl))))
theorem Ay.A2.A2v:Ay.A2.C10 N r c p3 p7 p4_1 p5_1=cond (!p7) (some (.agg [.int .i64 0,.int .i64 0,.nil,.int .i64 0,.int .i64 0,.nil,.nil,.int .i64 6])) (Ay.A2.C12 N r c p3 p4_1 p5_1):=(D3 _ _ _ _ _ _ _).trans (by kernel_rfl)
theorem Ay.A2.Agr:Ay.A2.C12 N r c p3 p4_1 p5_1=cond (Az r c p4_1&&Ah p4_1) (bif (By (Ch (toNat r) (toNat c) p4_1)&&Bq (length (Ch (toNat r) (toNat c) p4_1)<=6)) then cond (Az r c p4_1&&Bq (((length (Ge (Ch (toNat r) (toNat c) p4_1)):Nat):Int)=c/\J1 (toNat c) (Ge (Ch (toNat r) (toNat c) p4_1))=true)) (bif (Az r c (Cu (toNat r) (toNat c) p4_1 (Ge (Ch (toNat r) (toNat c) p4_1)))&&(Ah (Cu (toNat r) (toNat c) p4_1 (Ge (Ch (toNat r) (toNat c) p4_1)))&&Bq (-2300<=p3/\p3<=2300))) then cond (Az c c p5_1&&Bq (((length (Ge (Ch (toNat r) (toNat c) p4_1)):Nat):Int)=c/\J1 (toNat c) (Ge (Ch (toNat r) (toNat c) p4_1))=true)) (Ay.A2.C15 N r c (A4 (Cu (toNat r) (toNat c) p4_1 (Ge (Ch (toNat r) (toNat c) p4_1))) p3) (Cu (toNat c) (toNat c) p5_1 (Ge (Ch (toNat r) (toNat c) p4_1)))) none else none) none else none) none:=(D3 _ _ _ _ _ _ _).trans (by kernel_rfl)
theorem Ay.A2.Asc:Ay.A2.C15 N r c p4_2 p5_2=cond (By p4_2) (bif ((!(Ds p4_2))||(By p5_2)) then cond ((!(Ds p4_2))||(!(Ds p5_2))) (some (.agg [.int .i64 0,.int .i64 0,.nil,.int .i64 0,.int .i64 0,.nil,.nil,.int .i64 2])) (Ay.A2.C17 N r c p4_2 p5_2) else none) none :=
 yL ((D3 _ _ _ _ _ _ _).trans (by kernel_rfl))
 (Es (Ax (Xw (Ds p4_2)) (Ax (R7 (Ds p4_2)) (Co (Apl _ _) (Ax (R7 (Ds p4_2)) (Ax (Aau (Ds p4_2)) (Co (Apm _ _) rfl rfl))) rfl))) rfl)
theorem Ay.A2.A88:Ay.A2.C17 N r c p4_2 p5_2=cond (Az r c p4_2&&Ah p4_2) (some (.agg [.int .i64 r,.int .i64 c,.ints .arg .u64 p4_2,.int .i64 c,.int .i64 c,.ints .arg .u64 p5_2,.ints .fresh .u64 (Ch (toNat r) (toNat c) p4_2),.int .i64 0])) none :=
 yL ((D3 _ _ _ _ _ _ _).trans (by kernel_rfl))
 (Co (Cb _) rfl rfl)
theorem Ay.A2.ev:Bv Ay.A2.E N f37 (Aj f37) [.agg [.int .i64 r,.int .i64 c,.ints .arg .u64 l]]=cond (By l) (bif (Af (Bi l)) then Ay.A2.C2 N r c l (Bs (Bi l)) else none) none:=by kernel_rfl
end
open Go Go.Den Go.Ct Go.Proofs
theorem A0.Br.arg.Ae:A0.Br.arg.Kn:=E8.Aar (P:=_) (pre:=A0.Br.pre) (out:=A0.Br.out) A0.Br.Ae [] fun ats h=>by
 unfold A0.Br.arg.pre at h;split at h
 ·exact⟨h,Wk.H3 (.cons .int (.cons .int (.cons (.fresh _ _) .nil)))⟩
 ·cases h
theorem Ay.Ia.Ae:Kq 158 Ay.Ia.spec:=Eb Ay.Ia.E Tryz.func158 (kc Cy.Order.Ae .nil) fun a b hp=>by have hab:(Af a&&Af b)=true:=hp;refine⟨0,.bool (Gs a b),[],?_,.bool⟩;rw[Ay.Ia.ev,hab,Bep,As];unfold Gs;cases Su a b<;>rfl
theorem Ay.be.Ae:Kq 155 Ay.be.spec:=Eb Ay.be.E Tryz.func155 (kc Cy.Nc.Ae (kc Aq.H6.Ae (kc Aq.Mul.Ae (kc Aq.Norm.Ae (kc Aq.Cc.Ae (kc Ay.Ia.Ae .nil)))))) fun x y b hp=>by obtain⟨h1,hp⟩:=Ac.1 (show((By x&&By y)&&(Af b&&Bq (length x=length y/\length x<=6)))=true from hp);obtain⟨ox,oy⟩:=Ac.1 h1;obtain⟨hb,hp⟩:=Ac.1 hp;obtain⟨hl,h6⟩:=Ak.1 hp;have ax:Ah x=true:=Ak.2 (Ak.1 ox).2;have ay:Ah y=true:=Ak.2 (Ak.1 oy).2;have sc:Dk (Bz (Bk x) (Bk y)) (-44:Int)=true:=Ac.2 ⟨Fc _ _,Ak.2 (by decide)⟩;refine⟨0,.bool (beR x y b),[],?_,.bool⟩;rw[Ay.be.ev,ox,oy,Bep,Bep,Le,Le,Bev,Bep,sc,Bep,hb,Bev,Bep,Bf1,Bep,Ye ax ay hl h6,Bf1,Bep,Hz,Bf1,Bep,Q7,Hs (Fc _ _),Bev,Bf1,Bep];unfold beR;cases Gs (Bk x) b<;>cases Gs (Bk y) b<;>rfl
theorem Amp(N:Nat){t:Int}(ht:Af t=true):Ay.Db.C7 N t=some (.tup [.int .u64 (Fj t),.int .u64 (El t)]):=by have h1:Af (De (4607182418800017408:Int) (Bz t t))=true:=Pr Pk (Fc _ _);rw[Ay.Db.Ao0,ht,Bev,Bep,Pk,Fc,Bev,Bep,h1,Bep,Th h1,Bev,Bep,J9,Bev,Bep];rfl
theorem Aze(N:Nat){z:Int}(hz:Af z=true):Ay.Db.C3 N z=some (.tup [.int .u64 (Fj (G9 z)),.int .u64 (El (G9 z))]):=by
 have h1:Af (De (4607182418800017408:Int) (Bz z z))=true:=Pr Pk (Fc _ _);have h2:=Th h1;have h3:Af (De (Hq z) (Dt (De (4607182418800017408:Int) (Bz z z))))=true:=Pr (Q7 z) h2;rw[Ay.Db.Bb4,hz,Bev,Bep,Pk,Fc,Bev,Bep,h1,Bep,Ay.Db.A2t,hz,Bep,Q7,h2,Bev,Bep,Pk,h3,Bev,Bep,Ay.Db.Ao1,hz,Bep,J9,Bep]
 have e:G9 z=cond (En z) (B7 (E2 (4607182418800017408:Int) (De (Hq z) (Dt (De (4607182418800017408:Int) (Bz z z)))))) (E2 (4607182418800017408:Int) (De (Hq z) (Dt (De (4607182418800017408:Int) (Bz z z))))):=by unfold G9 Aat Va;cases En z<;>rfl
 rw[e];cases En z with
 | true=>rw[Bep,Bep]; exact Amp N (O6 (J9 _ _))
 | false=>rw[Bet,Bet]; exact Amp N (J9 _ _)
theorem Ay.Db.Ae:Kq 156 Ay.Db.spec:=Eb Ay.Db.E Tryz.func156 (kc Bg.Eg.Ae (kc Bg.Neg.Ae (kc Cy.Nc.Ae (kc Aq.Add.Ae (kc Aq.Div.Ae (kc Aq.H6.Ae (kc Aq.Mul.Ae (kc Aq.Sqrt.Ae (kc Aq.Sub.Ae .nil))))))))) fun x y hp=>by obtain⟨h1,hp⟩:=Ac.1 (show((By x&&By y)&&Bq (length x=length y/\length x<=6))=true from hp);obtain⟨ox,oy⟩:=Ac.1 h1;obtain⟨hl,h6⟩:=Ak.1 hp;have ax:Ah x=true:=Ak.2 (Ak.1 ox).2;have ay:Ah y=true:=Ak.2 (Ak.1 oy).2;refine⟨0,.tup [.int .u64 (Fj (G9 (Ix x y))),.int .u64 (El (G9 (Ix x y)))],[],?_,Wk.Ik (.cons .int (.cons .int .nil))⟩;rw[Ay.Db.ev,Ye ax ay hl h6,Bep,Ay.Db.Ao2,Ye ay ay rfl (by omega),Bep,Ye ax ax rfl h6,Bep,Hz,Hz,Bev,Bep,Hz,Bev,Bep,Tg (Hz _ _) (Hz _ _),Pr (Hz _ _) (Hz _ _),Bev,Bep];exact Aze 0 (J9 _ _)
section
variable{R C:Nat}{b:Int}(r6:R<=6)(c6:C<=6)(hb:Af b=true)(N:Nat)
include r6 c6 hb
theorem Azh{M0:Nat}{p:Nat}:∀(d q F:Nat) (s:List Int × List Int × Bool),q+d=C->d<F->p<q->Jk R C s ->
 Ay.round.L1 N M0 F (R:Int) (C:Int) (C:Int) (C:Int) b (q:Int) s.2.2 s.1 s.2.1 (p:Int) =
  Ay.round.L0 N M0 (R:Int) (C:Int) (C:Int) (C:Int) b (((p+1:Nat):Int)) (O3 beR R C b p d q s).2.2 (O3 beR R C b p d q s).1 (O3 beR R C b p d q s).2.1:=by
 intro d
 induction d with
 | zero =>
   intro q F s hq hF hpq hs;obtain⟨F,rfl⟩:∃G,F=G+1:=⟨F-1,by omega⟩
   rw[Ay.round.B6,As,Beu (by omega),Bet,An (by omega) (by omega)];rfl
 | succ d ih =>
   intro q F s hq hF hpq hs;obtain⟨F,rfl⟩:∃G,F=G+1:=⟨F-1,by omega⟩
   have hr:=Ep r6 c6 hs.1.1;have hv:=Ep c6 c6 hs.2.1;have cp:∀j:Nat,j<C->(Gu (R:Int) (C:Int) s.1 (j:Int)&&Bq (0<=(0:Int)/\(0:Int)<=(R:Int)))=true:=fun j hj=>Ac.2 ⟨Ac.2 ⟨hr,Ak.2 (by omega)⟩,Ak.2 (by omega)⟩
   have ox:∀j:Nat,By (B3 (C:Int) s.1 (j:Int) 0 R)=true:=fun j=>Gz (Pj hs.1.2) (by rw[E1]; omega)
   have cl:Bq (length (B3 (C:Int) s.1 (p:Int) 0 R)=length (B3 (C:Int) s.1 (q:Int) 0 R)/\length (B3 (C:Int) s.1 (p:Int) 0 R)<=6)=true:=Ak.2 ⟨by rw[E1,E1],by rw[E1]; exact r6⟩;have cq:Bq (0<=(p:Int)/\(p:Int)<(C:Int)/\0<=(q:Int)/\(q:Int)<(C:Int)/\(p:Int)≠(q:Int))=true:=Ak.2 (by omega);have hn:=ih (q+1) F (Go.Ct.Ng beR R C b p q s) (by omega) (by omega) (by omega) hs.Ng;rw[Ay.round.B6,As,Beq (by omega),Bep,cp p (by omega),Bep,cp q (by omega),Bep,show toNat ((R:Int)-(0:Int))=R by omega,ox,ox,cl,hb,Bev,Bev,Bev,Bep];simp only[Ber];rw[An (by omega) (by omega)];show _=Ay.round.L0 N M0 (R:Int) (C:Int) (C:Int) (C:Int) b (((p+1:Nat):Int)) (O3 beR R C b p d (q+1) (Go.Ct.Ng beR R C b p q s)).2.2 (O3 beR R C b p d (q+1) (Go.Ct.Ng beR R C b p q s)).1 (O3 beR R C b p d (q+1) (Go.Ct.Ng beR R C b p q s)).2.1;rw[<- hn];unfold Go.Ct.Ng;show(cond (beR (Dz R C s.1 p) (Dz R C s.1 q) b) _ _)=_;cases hbe:beR (Dz R C s.1 p) (Dz R C s.1 q) b with
   | true=>rw[Bep,Bfc rfl]; rfl
   | false =>have iS:Af (El (G9 (Ix (Dz R C s.1 p) (Dz R C s.1 q))))=true:=Fc _ _;have iC:Af (Fj (G9 (Ix (Dz R C s.1 p) (Dz R C s.1 q))))=true:=J9 _ _;have iS':Af (El (G9 (Ix (B3 (C:Int) s.1 (p:Int) 0 R) (B3 (C:Int) s.1 (q:Int) 0 R))))=true:=iS;have iC':Af (Fj (G9 (Ix (B3 (C:Int) s.1 (p:Int) 0 R) (B3 (C:Int) s.1 (q:Int) 0 R))))=true:=iC;rw[Bet,iS',Bep,hr,hs.1.2,iC',O6 iS',cq,Bev,Bev,Bev,Bev,Bep,Bep,hv,hs.2.2,Bev,Bev,Bep,Bfb (by decide)];rfl
theorem Azi(hN:6<N):∀(d p F:Nat) (s:List Int × List Int × Bool),p+d=C->d<F->Jk R C s ->
 Ay.round.L0 N F (R:Int) (C:Int) (C:Int) (C:Int) b (p:Int) s.2.2 s.1 s.2.1 =
  some (.tup [.agg [.int .i64 (R:Int),.int .i64 (C:Int),.ints .arg .u64 (Go.Ct.L6 beR R C b d p s).1],.agg [.int .i64 (C:Int),.int .i64 (C:Int),.ints .arg .u64 (Go.Ct.L6 beR R C b d p s).2.1],.bool (Go.Ct.L6 beR R C b d p s).2.2]):=by
 intro d
 induction d with
 | zero =>
   intro p F s hp hF hs;obtain⟨F,rfl⟩:∃G,F=G+1:=⟨F-1,by omega⟩
   rw[Ay.round.Ar,As,Beu (by omega),Bet];rfl
 | succ d ih =>
   intro p F s hp hF hs;obtain⟨F,rfl⟩:∃G,F=G+1:=⟨F-1,by omega⟩
   have h2:=Azh r6 c6 hb N (M0:=F) (p:=p) (C-(p+1)) (p+1) N s (by omega) (by omega) (by omega) hs;rw[Ay.round.Ar,As,Beq (by omega),Bep,An (by omega) (by omega)];refine h2.trans ?_;exact ih (p+1) F (O3 beR R C b p (C-(p+1)) (p+1) s) (by omega) (by omega) (Jk.O3 _ _ hs)
end
theorem Ay.round.Ae:Kq 97 Ay.round.spec:=Eb Ay.round.E Tryz.func97 (kc Bg.Eg.Ae (kc A0.Ys.Ae (kc Gd.Mp.Ae (kc Ay.be.Ae (kc Ay.Db.Ae .nil))))) fun r c l p q m b hp=>by
 obtain⟨h1,hp⟩:=Ac.1 (show((Az r c l&&Az p q m)&&((Ah l&&Ah m)&&(Af b&&Bq (p=c/\q=c))))=true from hp);obtain⟨hr,hv⟩:=Ac.1 h1;obtain⟨h2,hp⟩:=Ac.1 hp;obtain⟨al,am⟩:=Ac.1 h2;obtain⟨hb,hp⟩:=Ac.1 hp;obtain⟨rfl,rfl⟩:=Ak.1 hp;obtain⟨R,C,rfl,rfl,r6,c6,hl⟩:=Cp hr
 have hm:m.length=C*C:=by obtain⟨_,_,hm⟩:=Hj.1 hv;rw[<- Bfa] at hm; omega
 refine⟨8,_,[],(Ay.round.ev ..).trans (Azi r6 c6 hb 8 (by decide) C 0 8 (l,m,true) (by omega) (by omega) ⟨⟨hl,al⟩,hm,am⟩),?_⟩;exact Wk.Ik (.cons (Wk.H3 (.cons .int (.cons .int (.cons .Aai .nil)))) (.cons (Wk.H3 (.cons .int (.cons .int (.cons .Aai .nil)))) (.cons .bool .nil)))
theorem Ap1{l y:List Int}{k:Int}{i:Nat}(hy:y.length=l.length)(hi:i<l.length) :
 zn (((l.take i).map fun b=>A7 b k)++y.drop i) i (A7 (l.getD i 0) k)=((l.take (i+1)).map fun b=>A7 b k)++y.drop (i+1):=by
 rw[Xx hi,zQ];have hl:((l.take i).map fun b=>A7 b k).length=i:=by rw[Bfv,zI]; omega
 rw[yG (show i<y.length by omega),List.set_append_right _ _ (by omega),hl,Nat.sub_self];rfl
theorem Amq(N:Nat){r c:Int}{x y:List Int}{e:Int}(hx:By x=true)(hy:y.length=x.length)(he:-2300<=e/\e<=2300):∀(k i F:Nat),i+k=x.length->k<F ->
 Ay.Bx.L0 N F r c x e (i:Int) (((x.take i).map fun b=>A7 b e)++y.drop i)=some (.agg [.int .i64 r,.int .i64 c,.ints (.own 106002 tB) .u64 (A4 x e)]):=by
 obtain⟨hl,hu⟩:=Jr hx;intro k
 induction k with
 | zero =>
   intro i F hi hF;obtain⟨F,rfl⟩:∃G,F=G+1:=⟨F-1,by omega⟩
   rw[Ay.Bx.Ar,As,Beu (by omega),Bet,List.take_of_length_le (by omega),Be3 (by omega),yi]; rfl
 | succ k ih =>
   intro i F hi hF;obtain⟨F,rfl⟩:∃G,F=G+1:=⟨F-1,by omega⟩
   have ln:(((x.take i).map fun b=>A7 b e)++y.drop i).length=x.length:=by rw[Bfh,Bfv,zI,List.length_drop]; omega
   rw[Ay.Bx.Ar,As,Beq (show(i:Int)<(x.length:Int) by omega),Bep,Beq (show(0:Int)<=(i:Int) by omega),Bev,Bep,Ber,
    show Dk (getD x i 0) e=true from Ac.2 ⟨hu i (by omega),Ak.2 he⟩,Bep,ln,Beq (show(i:Int)<(x.length:Int) by omega),Bev,Bep,Beq (show i<x.length by omega),Bep,Ap1 hy (by omega),An (by omega) (by omega)]
   exact ih (i+1) F (by omega) (by omega)
theorem Ay.Bx.Ae:Kq 94 Ay.Bx.spec:=Eb Ay.Bx.E Tryz.func94 (kc Aq.Cc.Ae (kc A0.Br.own.Ae .nil)) fun r c x k hp=>by obtain⟨hr,hp⟩:=Ac.1 (show(Az r c x&&(Ah x&&Bq (-2300<=k/\k<=2300)))=true from hp);obtain⟨al,hp⟩:=Ac.1 hp;have he:=Ak.1 hp;obtain⟨R,C,rfl,rfl,r6,c6,hl⟩:=Cp hr;have rc:R*C<=36:=Bfl r6 c6;refine⟨x.length+1,.agg [.int .i64 (R:Int),.int .i64 (C:Int),.ints (.own 106002 tB) .u64 (A4 x k)],[106002],?_,Wk.H3 (.cons .int (.cons .int (.cons (.dropA _ _ _ _ (zf.2 rfl)) .nil)))⟩;rw[Ay.Bx.ev,Rq r6,Rq c6,Bev,Bep,Ber,Ber];exact Amq (x.length+1) (y:=B0 R C fun _ _=>0) (Gz al (by omega)) (by rw[B5,hl]) he x.length 0 (x.length+1) (by omega) (by omega)
theorem Amt{R C:Nat}{l:List Int}(r6:R<=6)(c6:C<=6)(hr:Az (R:Int) (C:Int) l=true)(al:Ah l=true)(N:Nat):∀(d k F:Nat),k+d=C->d<F ->
 Ay.Jq.L0 N F (R:Int) (C:Int) l (k:Int) ((zh k).map fun c=>Bk (Dz R C l c))=some (.ints (.own 100003 tB) .u64 (Ch R C l)):=by
 intro d
 induction d with
 | zero =>
   intro k F hk hF;obtain⟨F,rfl⟩:∃G,F=G+1:=⟨F-1,by omega⟩
   obtain rfl:k=C:=by omega
   rw[Ay.Jq.Ar,As,Beu (by omega),Bet];rfl
 | succ d ih =>
   intro k F hk hF;obtain⟨F,rfl⟩:∃G,F=G+1:=⟨F-1,by omega⟩
   have cp:(Gu (R:Int) (C:Int) l (k:Int)&&Bq (0<=(0:Int)/\(0:Int)<=(R:Int)))=true:=Ac.2 ⟨Ac.2 ⟨hr,Ak.2 (by omega)⟩,Ak.2 (by omega)⟩;have ok:By (B3 (C:Int) l (k:Int) 0 R)=true:=Gz (Pj al) (by rw[E1]; omega);rw[Ay.Jq.Ar,As,Beq (by omega),Bep,cp,Bep,show toNat ((R:Int)-(0:Int))=R by omega,ok,Bep,Beq (by rw[Bfv,Bfs]; unfold G2; omega),Bep,An (by omega) (by omega)];have:=ih (k+1) F (by omega) (by omega);rw[y7,yq] at this;exact this
theorem Ay.Jq.Ae:Kq 75 Ay.Jq.spec:=Eb Ay.Jq.E Tryz.func75 (kc Aq.Norm.Ae (kc A0.Ys.Ae .nil)) fun r c l hp=>by obtain⟨hr,al⟩:=Ac.1 (show(Az r c l&&Ah l)=true from hp);obtain⟨R,C,rfl,rfl,r6,c6,hl⟩:=Cp hr;exact⟨8,.ints (.own 100003 tB) .u64 (Ch R C l),[100003],(Ay.Jq.ev ..).trans (Amt r6 c6 hr al 8 C 0 8 (by omega) (by omega)),.drop _ _ _ _ (zf.2 rfl)⟩
section
variable{l o:List Int}(hl:By l=true)(hin:J1 l.length o=true)(h6:o.length<=6)(N:Nat)
include h6
theorem Aqn{M0 i:Nat}(hi:i<10):∀(d k F:Nat) (acc:List Int),k+d=o.length->d<F->acc.length+d<=20 ->
 Ay.order.L1 N M0 F l (i:Int) o true (k:Int) acc=Ay.order.L0 N M0 l ((i+1:Nat):Int) (acc++o.drop k):=by
 intro d
 induction d with
 | zero =>
   intro k F acc hk hF ha;obtain⟨F,rfl⟩:∃G,F=G+1:=⟨F-1,by omega⟩
   rw[Ay.order.B6,As,Beu (by omega),Bet,Bfo,Bet,An (by omega) (by omega),Be3 (by omega),yi];rfl
 | succ d ih =>
   intro k F acc hk hF ha;obtain⟨F,rfl⟩:∃G,F=G+1:=⟨F-1,by omega⟩
   have hd:o.drop k=o.getD k 0::o.drop (k+1):=by rw[yG (by omega),Bez,Be6 (by omega)]; rfl
   rw[Ay.order.B6,As,Beq (by omega),Bep];simp only[wE,Bep,Bfo,zO,Bet,Ber];rw[Beq (show(0:Int)<=(k:Int) by omega),Bev,Bep,Beq (show k<o.length by omega),Bep,Beq (show acc.length+1<=G2 by unfold G2; omega),Bep,An (by omega) (by omega),hd];have:=ih (k+1) F (acc++[o.getD k 0]) (by omega) (by omega) (by rw[Bfh,vk]; omega);rw[zQ] at this;exact this
include hl hin
theorem Az2{M0 i:Nat}(hi:i<l.length)(hi6:i<10):∀(d k F:Nat) (acc:List Int),k+d=o.length->d<F->acc.length+d<=10 ->
 Ay.order.L1 N M0 F l (i:Int) o false (k:Int) acc=Ay.order.L0 N M0 l ((i+1:Nat):Int) (acc++Rm (Nv l) (i:Int) (o.drop k)):=by
 obtain⟨_,hu⟩:=Jr hl;intro d
 induction d with
 | zero =>
   intro k F acc hk hF ha;obtain⟨F,rfl⟩:∃G,F=G+1:=⟨F-1,by omega⟩
   rw[Ay.order.B6,As,Beu (by omega),Bet,Bf8,Bep,Beq (show acc.length+1<=G2 by unfold G2; omega),Bep,An (by omega) (by omega),Be3 (by omega)];rfl
 | succ d ih =>
   intro k F acc hk hF ha;obtain⟨F,rfl⟩:∃G,F=G+1:=⟨F-1,by omega⟩
   have hd:o.drop k=o.getD k 0::o.drop (k+1):=by rw[yG (by omega),Bez,Be6 (by omega)]; rfl
   have p:=S2 hin (j:=k) (by omega);have a1:decide ((0:Int)<=(k:Int))=true:=Beq (by omega);have a2:decide ((k:Int)<((o.length:Nat):Int))=true:=Beq (by omega);have a3:decide (k<o.length)=true:=Beq (by omega);have a4:decide (acc.length+1<=G2)=true:=Beq (by unfold G2; omega);have a5:decide ((acc++[(i:Int)]).length+1<=G2)=true:=Beq (by rw[Bfh,vk]; unfold G2; omega);have a6:decide ((i:Int)<((l.length:Nat):Int))=true:=Beq (by omega);have a7:decide ((0:Int)<=(i:Int))=true:=Beq (by omega);have u1:Af (getD l i 0)=true:=hu i hi;have u2:Af (getD l (o.getD k 0).toNat 0)=true:=hu _ (by omega);rw[Ay.order.B6,As,a2,Bep];simp only[Bool.false_or,Ber,Bf8,Bf2];rw[a1,a7,a6,Bev,Bep,Bep,a3,Bep,Beq p.1,Beq p.2,Bev,Bep,u1,u2,Bev,Bep,a4,a5,An (by omega) (by omega),hd];unfold Rm;show(cond (Gs (Nv l (i:Int)) (Nv l (o.getD k 0))) _ _)=_;cases hm:Gs (Nv l (i:Int)) (Nv l (o.getD k 0)) with
   | true =>simp only[Bep,if_true];have:=Aqn h6 N (l:=l) (M0:=M0) hi6 d (k+1) F ((acc++[(i:Int)])++[o.getD k 0]) (by omega) (by omega) (by simp; omega);rw[zQ,zQ] at this;rw[zQ];exact this
   | false =>simp only[Bep,Bet];rw[Bfb (by decide)];have:=ih (k+1) F (acc++[o.getD k 0]) (by omega) (by omega) (by rw[Bfh,vk]; omega);rw[zQ] at this;exact this
end
theorem Awy(key:Int->Int)(x:List Int):∀acc:List Int,(x.foldl (fun acc x=>Rm key x acc) acc).length=acc.length+x.length:=by
 induction x with
 | nil=>intro acc; rfl
 | cons y t ih=>intro acc; rw[List.foldl_cons,ih,Acj,List.length_cons]; omega
theorem Az3{l:List Int}(hl:By l=true)(h6:l.length<=6)(N:Nat)(hN:8<N):∀(d i F:Nat),i+d=l.length->d<F ->
 Ay.order.L0 N F l (i:Int) ((Na i).foldl (fun acc x=>Rm (Nv l) x acc) [])=some (.ints (.own 100003 tI) .i64 (Ge l)):=by
 intro d
 induction d with
 | zero =>
   intro i F hi hF;obtain⟨F,rfl⟩:∃G,F=G+1:=⟨F-1,by omega⟩
   obtain rfl:i=l.length:=by omega
   rw[Ay.order.Ar,As,Beu (by omega),Bet];rfl
 | succ d ih =>
   intro i F hi hF;obtain⟨F,rfl⟩:∃G,F=G+1:=⟨F-1,by omega⟩
   have ln:((Na i).foldl (fun acc x=>Rm (Nv l) x acc) []).length=i:=by rw[Awy,Q2]; simp
   have hin:J1 l.length ((Na i).foldl (fun acc x=>Rm (Nv l) x acc) [])=true:=Kv.2 fun z hz=>by
    rcases(Ais _ _).1 hz with h | h
    ·cases h
    ·have:=Kv.1 (Zd i) z h; omega
   have g:=Az2 hl hin (by omega) N (M0:=F) (i:=i) (by omega) (by omega) i 0 N [] (by omega) (by omega) (by simp; omega);rw[Ay.order.Ar,As,Beq (by omega),Bep];refine g.trans ?_;have:=ih (i+1) F (by omega) (by omega);rw[show Na (i+1)=Na i++[(i:Int)] by unfold Na; rw[y7,yq]; rfl,List.foldl_append] at this;exact this
theorem Ay.order.Ae:Kq 98 Ay.order.spec:=Eb Ay.order.E Tryz.func98 (kc Ay.Ia.Ae .nil) fun l hp=>by obtain⟨hl,h6⟩:=Ac.1 (show(By l&&Bq (length l<=6))=true from hp);have h6:=Ak.1 h6;exact⟨9,.ints (.own 100003 tI) .i64 (Ge l),[100003],(Ay.order.ev ..).trans (Az3 hl h6 9 (by decide) l.length 0 9 (by omega) (by omega)),.drop _ _ _ _ (zf.2 rfl)⟩
section
variable{R C:Nat}{l x:List Int}(r6:R<=6)(c6:C<=6)(hl:l.length=R*C)(hx:x.length=C)(hin:J1 C x=true)(N:Nat){F:Nat->Nat->Int}(hF:F=fun(i k:Nat)=>C1 (C:Int) l (i:Int) (x.getD k 0))
include r6 c6 hl hx hin hF
theorem A5q{M0 i:Nat}(hi:i<R):∀(d k M:Nat),k+d=C->d<M ->
 Ha.Ee.L1 N M0 M (R:Int) (C:Int) l x (k:Int) (fill R C F (dR i k)) (i:Int)=Ha.Ee.L0 N M0 (R:Int) (C:Int) l x ((i+1:Nat):Int) (fill R C F (dR (i+1) 0)):=by
 intro d
 induction d with
 | zero =>
   intro k M hk hM;obtain⟨M,rfl⟩:∃G,M=G+1:=⟨M-1,by omega⟩
   have e:fill R C F (dR i k)=fill R C F (dR (i+1) 0):=Afx fun a b ha hb=>by simp only[dR,Bew]; omega
   rw[Ha.Ee.B6,As,Beu (by omega),Bet,An (by omega) (by omega),e];rfl
 | succ d ih =>
   intro k M hk hM;obtain⟨M,rfl⟩:∃G,M=G+1:=⟨M-1,by omega⟩
   have p:=S2 hin (j:=k) (by omega);obtain⟨j,hj⟩:∃j:Nat,x.getD k 0=j:=⟨(x.getD k 0).toNat,by omega⟩
   have c1:E6 (R:Int) (C:Int) l (i:Int) (x.getD k 0)=true:=by rw[hj]; exact Gi r6 c6 hl hi (by omega)
   have c9:E6 (R:Int) (C:Int) (fill R C F (dR i k)) (i:Int) (k:Int)=true:=Gi r6 c6 (Vq _ _ _ _) hi (by omega)
   rw[Ha.Ee.B6,As,hx,Beq (show(k:Int)<(C:Int) by omega),Bep,Beq (show(0:Int)<=(k:Int) by omega),Bev,Bep,show toNat ((k:Nat):Int)=k from Ber k,c1,Bep,c9,Bep,An (x:=(k:Int)+1) (by omega) (by omega),
    Afw (d':=dR i (k+1)) (by omega) (by rw[hF]) (fun a b ha hb=>by simp only[dR,Bew]; omega)]
   exact ih (k+1) M (by omega) (by omega)
theorem A5r(hN:6<N):∀(d i M:Nat),i+d=R->d<M ->
 Ha.Ee.L0 N M (R:Int) (C:Int) l x (i:Int) (fill R C F (dR i 0))=some (.agg [.int .i64 (R:Int),.int .i64 (C:Int),.ints .arg .u64 (B0 R C F)]):=by
 intro d
 induction d with
 | zero =>
   intro i M hi hM;obtain⟨M,rfl⟩:∃G,M=G+1:=⟨M-1,by omega⟩
   rw[Ha.Ee.Ar,As,Beu (by omega),Bet,hx,Aoa (fun a b ha hb=>by simp only[dR,Bew]; omega)]
 | succ d ih =>
   intro i M hi hM;obtain⟨M,rfl⟩:∃G,M=G+1:=⟨M-1,by omega⟩
   rw[Ha.Ee.Ar,As,Beq (by omega),Bep];exact(A5q r6 c6 hl hx hin N hF (show i<R by omega) C 0 N (by omega) (by omega)).trans (ih (i+1) M (by omega) (by omega))
end
theorem Ha.Ee.Ae:Kq 99 Ha.Ee.spec:=Eb Ha.Ee.E Tryz.func99 (kc A0.At.Ae (kc A0.Kg.arg.Ae (kc A0.Br.arg.Ae .nil))) fun r c l x hp=>by
 obtain⟨hr,hp⟩:=Ac.1 (show(Az r c l&&Bq (((length x:Nat):Int)=c/\J1 (toNat c) x=true))=true from hp);obtain⟨hx,hin⟩:=Ak.1 hp;obtain⟨R,C,rfl,rfl,r6,c6,hl⟩:=Cp hr;rw[Ber] at hin;have hx:x.length=C:=by omega
 refine⟨8,.agg [.int .i64 (R:Int),.int .i64 (C:Int),.ints .arg .u64 (Cu R C l x)],[],?_,?_⟩
 ·rw[Ha.Ee.ev,hx,Rq r6,Rq c6,Bev,Bep,Ber,Ber];have:=A5r r6 c6 hl hx hin 8 (F:=fun(i k:Nat)=>C1 (C:Int) l (i:Int) (x.getD k 0)) rfl (by decide) R 0 8 (by omega) (by omega);rw[Abq (fun a b ha hb=>by simp only[dR,Bew]; omega)] at this;exact this
 ·exact Wk.H3 (.cons .int (.cons .int (.cons .Aai .nil)))
section
variable{R C:Nat}{l:List Int}(r6:R<=6)(c6:C<=6)(N:Nat)
include r6 c6
theorem A35{k:Int}{p4 w v:List Int}(hb:Af (A7 (Bk p4) (-44:Int))=true):∀(m F:Nat) (w v:List Int),m<=60->m+1<F->Jk R C (w,v,true) ->
 Ay.A2.L0 N F (R:Int) (C:Int) k p4 false ((60-m:Nat):Int) w v =
  Ay.A2.C10 N (R:Int) (C:Int) k (decide ((Ec R C (A7 (Bk p4) (-44)) m w v).2.2=0)) (Ec R C (A7 (Bk p4) (-44)) m w v).1 (Ec R C (A7 (Bk p4) (-44)) m w v).2.1:=by
 intro m
 induction m with
 | zero =>
   intro F w v hm hF hs;obtain⟨F,rfl⟩:∃G,F=G+1:=⟨F-1,by omega⟩
   rw[Ay.A2.Ar,As,Beu (by omega),zO,Bet];rfl
 | succ m ih =>
   intro F w v hm hF hs;obtain⟨F,rfl⟩:∃G,F=G+1:=⟨F-1,by omega⟩
   have pre:((Az (R:Int) (C:Int) w&&Az (C:Int) (C:Int) v)&&((Ah w&&Ah v)&&(Af (A7 (Bk p4) (-44:Int))&&Bq ((C:Int)=(C:Int)/\(C:Int)=(C:Int)))))=true:=by rw[Ep r6 c6 hs.1.1,Ep c6 c6 hs.2.1,hs.1.2,hs.2.2,hb,Ak.2 ⟨rfl,rfl⟩]; rfl
   have g:Jk R C (Jb R C (A7 (Bk p4) (-44)) w v):=Jk.L6 C 0 hs;rw[Ay.A2.Ar,As,Beq (by omega),Bf8,Bev,Bep,pre,Bep];simp only[Ber];rw[Aqc,An (by omega) (by omega),show(((60-(m+1):Nat):Int)+1)=((60-m:Nat):Int) by omega];show _=Ay.A2.C10 N (R:Int) (C:Int) k (decide ((Ec R C (A7 (Bk p4) (-44)) (m+1) w v).2.2=0)) (Ec R C (A7 (Bk p4) (-44)) (m+1) w v).1 (Ec R C (A7 (Bk p4) (-44)) (m+1) w v).2.1;unfold Ec;cases he:(Jb R C (A7 (Bk p4) (-44)) w v).2.2 with
   | true =>
     obtain⟨F,rfl⟩:∃G,F=G+1:=⟨F-1,by omega⟩
     rw[Ay.A2.Ar,Bfo,Bool.and_false,Bet];simp only[if_true,decide_true]
   | false =>rw[Bfb (by decide)];exact ih F (Jb R C (A7 (Bk p4) (-44)) w v).1 (Jb R C (A7 (Bk p4) (-44)) w v).2.1 (by omega) (by omega) ⟨g.1,g.2⟩
end
theorem Ajb{drops:List Nat}{e:Int}:Wk drops (.agg [.int .i64 (0:Int),.int .i64 (0:Int),.nil,.int .i64 (0:Int),.int .i64 (0:Int),.nil,.nil,.int .i64 e])
 (.agg [.int .i64 (0:Int),.int .i64 (0:Int),.ints .arg .u64 [],.int .i64 (0:Int),.int .i64 (0:Int),.ints .arg .u64 [],.ints .fresh .u64 [],.int .i64 e]) :=
 Wk.H3 (.cons .int (.cons .int (.cons (.nil _ _) (.cons .int (.cons .int (.cons (.nil _ _) (.cons (.nil _ _) (.cons .int .nil))))))))
theorem Aj4{r c:Int}{l:List Int}{e:Int}(h:Jy r c l=e)(he:e≠0):Ay.A2.out [.i r,.i c,.l l] =
 .agg [.int .i64 (0:Int),.int .i64 (0:Int),.ints .arg .u64 [],.int .i64 (0:Int),.int .i64 (0:Int),.ints .arg .u64 [],.ints .fresh .u64 [],.int .i64 e]:=by
 show DV.agg [.int .i64 (Iw r c l).1,.int .i64 (Iw r c l).2.1,.ints .arg .u64 (Iw r c l).2.2.1,.int .i64 (I8 r c l).1,.int .i64 (I8 r c l).2.1,.ints .arg .u64 (I8 r c l).2.2.1,.ints .fresh .u64 (M9 r c l),.int .i64 (Jy r c l)]=_;unfold Iw I8 M9;rw[h,Bfc he,Bfc he,Bfc he];rfl
theorem Ay8{R C:Nat}{l:List Int}(h:Jy (R:Int) (C:Int) l=0):Ay.A2.out [.i (R:Int),.i (C:Int),.l l] =
 .agg [.int .i64 (R:Int),.int .i64 (C:Int),.ints .arg .u64 (Gv R C l),.int .i64 (C:Int),.int .i64 (C:Int),.ints .arg .u64 (Gw R C l),.ints .fresh .u64 (Ch R C (Gv R C l)),.int .i64 0]:=by
 show DV.agg [.int .i64 (Iw (R:Int) (C:Int) l).1,.int .i64 (Iw (R:Int) (C:Int) l).2.1,.ints .arg .u64 (Iw (R:Int) (C:Int) l).2.2.1,.int .i64 (I8 (R:Int) (C:Int) l).1,.int .i64 (I8 (R:Int) (C:Int) l).2.1,.ints .arg .u64 (I8 (R:Int) (C:Int) l).2.2.1,.ints .fresh .u64 (M9 (R:Int) (C:Int) l),.int .i64 (Jy (R:Int) (C:Int) l)]=_;unfold Iw I8 M9;rw[h,Bfb (by decide),Bfb (by decide),Bfb (by decide)];rfl
theorem A23{R C:Nat}{w:List Int}(r6:R<=6):(∀x∈Ch R C w,Ag x.toNat≠4)\/∃k,k<C/\Ds (Dz R C w k)=false:=by
 by_cases h:∃k,k<C/\Ds (Dz R C w k)=false
 ·exact .inr h
 ·refine .inl fun x hx=>?_
  obtain⟨k,hk,rfl⟩:=zw.1 hx;have hk:=List.mem_range.1 hk;refine Am9 ?_ (by show(B3 _ _ _ _ _).length<=6; rw[E1]; exact r6);cases hf:Ds (Dz R C w k) with
  | true=>rfl
  | false=>exact absurd ⟨k,hk,hf⟩ h
section
variable{R C:Nat}{l:List Int}(r6:R<=6)(c6:C<=6)(hl:l.length=R*C)(al:Ah l=true)(N:Nat)(hc:Ci (R:Int) (C:Int) l=0)
include r6 c6 hl al hc
theorem Ay9(he:(Dj R C l).2.2=0):∃dv,Ay.A2.C12 N (R:Int) (C:Int) (Dp l) (Dj R C l).1 (Dj R C l).2.1=some dv/\Wk [] dv (Ay.A2.out [.i (R:Int),.i (C:Int),.l l]):=by
 have hi:Jk R C ((Dj R C l).1,(Dj R C l).2.1,true):=Jk.Ec 60 (V6 hl al);have rc:R*C<=36:=Bfl r6 c6;have cc:C*C<=36:=Bfl c6 c6;have ek:=Yh (Bi l);have ln:=Tt R C (Dj R C l).1;have n1:(By (Ch R C (Dj R C l).1)&&Bq (length (Ch R C (Dj R C l).1)<=6))=true:=Ac.2 ⟨Gz (Ah8 ..) (by omega),Ak.2 (by omega)⟩;have lo:(Ge (Ch R C (Dj R C l).1)).length=C:=by rw[Aqo,ln]
 have ps:Bq (((length (Ge (Ch R C (Dj R C l).1)):Nat):Int)=(C:Int)/\J1 C (Ge (Ch R C (Dj R C l).1))=true)=true:=Ak.2 ⟨by rw[lo],by have:=Avv (Ch R C (Dj R C l).1);rw[ln] at this; exact this⟩
 have hG:Ah (Cu R C (Dj R C l).1 (Ge (Ch R C (Dj R C l).1)))=true:=Oi hi.1.2;have hW:Ah (A4 (Cu R C (Dj R C l).1 (Ge (Ch R C (Dj R C l).1))) (Dp l))=true:=Aa1 hG;have hV:Ah (Cu C C (Dj R C l).2.1 (Ge (Ch R C (Dj R C l).1)))=true:=Oi hi.2.2;have ck:Bq (-2300<=Dp l/\Dp l<=2300)=true:=Ak.2 (by unfold Dp; omega);have oW:By (A4 (Cu R C (Dj R C l).1 (Ge (Ch R C (Dj R C l).1))) (Dp l))=true:=Gz hW (by rw[Mh,Hd]; omega);have oV:By (Cu C C (Dj R C l).2.1 (Ge (Ch R C (Dj R C l).1)))=true:=Gz hV (by rw[Hd]; omega)
 have eE:Jy (R:Int) (C:Int) l=if (Ds (Gv R C l)&&Ds (Gw R C l))=true then 0 else 2:=by unfold Jy;rw[Bfb (by rw[hc]; decide),Ber,Ber,Bfb (by rw[he]; decide)]
 have e15:Ay.A2.C12 N (R:Int) (C:Int) (Dp l) (Dj R C l).1 (Dj R C l).2.1 =
  Ay.A2.C15 N (R:Int) (C:Int) (A4 (Cu R C (Dj R C l).1 (Ge (Ch R C (Dj R C l).1))) (Dp l)) (Cu C C (Dj R C l).2.1 (Ge (Ch R C (Dj R C l).1))):=by
  rw[Ay.A2.Agr];simp only[Ber];rw[Ep r6 c6 hi.1.1,hi.1.2,Bev,Bep,n1,Bep,ps,Bev,Bep,Ep r6 c6 (Hd R C (Dj R C l).1 (Ge (Ch R C (Dj R C l).1))),hG,ck,Bev,Bev,Bep,Ep c6 c6 hi.2.1,Bev,Bep]
 rw[e15,Ay.A2.Asc,oW,Bep,oV,Bf1,Bep];rcases A23 (w:=(Dj R C l).1) r6 (C:=C) with hn | ⟨k,hk,hf⟩
 ·have eo:Ge (Ch R C (Dj R C l).1)=Yu R C l:=by rw[Aqm hn,ln]; rfl
  rw[eo];rw[show A4 (Cu R C (Dj R C l).1 (Yu R C l)) (Dp l)=Gv R C l from rfl,show Cu C C (Dj R C l).2.1 (Yu R C l)=Gw R C l from rfl];rw[eo] at hW;by_cases hf:(Ds (Gv R C l)&&Ds (Gw R C l))=true
  ·have hf':=Ac.1 hf;rw[hf'.1,hf'.2];rw[Bfc hf] at eE;have rW:Az (R:Int) (C:Int) (Gv R C l)=true:=Ep r6 c6 (by unfold Gv; rw[Mh,Hd]);refine⟨.agg [.int .i64 (R:Int),.int .i64 (C:Int),.ints .arg .u64 (Gv R C l),.int .i64 (C:Int),.int .i64 (C:Int),.ints .arg .u64 (Gw R C l),.ints .fresh .u64 (Ch R C (Gv R C l)),.int .i64 0],?_,?_⟩
   ·rw[Bfo,Bool.or_self,Bet,Ay.A2.A88,rW,show Ah (Gv R C l)=true from hW,Bev,Bep];simp only[Ber]
   ·rw[Ay8 eE];exact Wk.H3 (.cons .int (.cons .int (.cons .Aai (.cons .int (.cons .int (.cons .Aai (.cons .Rd (.cons .int .nil))))))))
  ·rw[Bfb hf] at eE;refine⟨_,?_,by rw[Aj4 eE (by decide)]; exact Ajb⟩
   have:((!(Ds (Gv R C l)))||(!(Ds (Gw R C l))))=true:=by revert hf;cases Ds (Gv R C l)<;>cases Ds (Gw R C l)<;>simp
   rw[this,Bep]
 ·have f1:Ds (A4 (Cu R C (Dj R C l).1 (Ge (Ch R C (Dj R C l).1))) (Dp l))=false:=Afs (k:=k) (Aeu.2 (by rw[ln]; exact Am4 hk)) lo hf _;have f2:Ds (Gv R C l)=false:=Afs (k:=k) (Au2 (Am4 hk)) (by rw[Aaz,Q2]) hf _;rw[f2,zO,Bfb (by decide)] at eE;refine⟨_,?_,by rw[Aj4 eE (by decide)]; exact Ajb⟩;rw[f1,Bf8,wE,Bep]
end
theorem Ay.A2.Ae:Kq 37 Ay.A2.spec:=Eb Ay.A2.E Tryz.func37 (kc Cy.Tc.Ae (kc Aq.Ck.Ae (kc Aq.Finite.Ae (kc Aq.Norm.Ae (kc Aq.Cc.Ae (kc A0.Hv.arg.Ae (kc Ha.Ee.Ae (kc Ay.Jq.Ae (kc Ay.order.Ae (kc Ay.round.Ae (kc Ay.Bx.Ae .nil))))))))))) fun r c l hp=>by
 obtain⟨hr,hp⟩:=Ac.1 (show(Az r c l&&(Ah l&&decide (Ds l=true)))=true from hp);obtain⟨al,hf⟩:=Ac.1 hp;have hf:=Bff hf;have hc:Ci r c l=0:=by unfold Ci; rw[Bfc hr,Bfc hf]
 obtain⟨R,C,rfl,rfl,r6,c6,hl⟩:=Cp hr;have rc:R*C<=36:=Bfl r6 c6;have ek:=Yh (Bi l);have hS:=V6 hl al
 have ks:Ad ((0:Int)-Dp l)=-(Dp l):=by unfold Dp; rw[An (by omega) (by omega)]; omega
 have c1:Bq (-2300<=-(Dp l)/\-(Dp l)<=2300)=true:=Ak.2 (by unfold Dp; omega);have sp:Dk (Bk (A4 l (-(Dp l)))) (-44:Int)=true:=Ac.2 ⟨Le _,Ak.2 (by decide)⟩;have o2:By (A4 l (-(Dp l)))=true:=Gz hS.1.2 (by rw[Mh]; omega)
 have chain:Bv Ay.A2.E 62 Tryz.f37 (Aj Tryz.f37) [.agg [.int .i64 (R:Int),.int .i64 (C:Int),.ints .arg .u64 l]] =
  Ay.A2.C10 62 (R:Int) (C:Int) (Dp l) (decide ((Dj R C l).2.2=0)) (Dj R C l).1 (Dj R C l).2.1:=by
  rw[Ay.A2.ev,Gz al (by omega),Bep,Sd,Bep];show Ay.A2.C2 62 (R:Int) (C:Int) l (Dp l)=_;rw[Ay.A2.Ao2,ks,hr,al,c1,Bev,Bev,Bep,Rq c6,Bep,Ay.A2.A2t,o2,Bep,sp,Bep,Ber];exact A35 r6 c6 62 (k:=Dp l) (p4:=A4 l (-(Dp l))) (w:=[]) (v:=[]) (Hs (Le _)) 60 62 (A4 l (-(Dp l))) (Iz C) (by decide) (by decide) hS
 rcases Aa4 (R:=R) (n:=C) (low:=A7 (Bk (A4 l (-(Dp l)))) (-44)) 60 (A4 l (-(Dp l))) (Iz C) with he | he
 ·have he:(Dj R C l).2.2=0:=he;obtain⟨dv,h1,h2⟩:=Ay9 r6 c6 hl al 62 hc he;refine⟨62,dv,[],chain.trans ?_,h2⟩;rw[he,Beq rfl,Ay.A2.A2v,Bfo,Bet];exact h1
 ·have he:(Dj R C l).2.2=6:=he
  have hE:Jy (R:Int) (C:Int) l=6:=by unfold Jy;rw[Bfb (by rw[hc]; decide),Ber,Ber,Bfc (by rw[he]; decide)]
  refine⟨62,_,[],chain.trans ?_,by show Wk _ _ (Ay.A2.out [.i (R:Int),.i (C:Int),.l l]); rw[Aj4 hE (by decide)]; exact Ajb⟩;rw[he,Beu (by decide),Ay.A2.A2v,Bf8,Bep]
set_option maxRecDepth 100000
def Aa.Hw.E:=E0 [(119,Aa.get.spec)]
theorem Aa.Hw.ev(N:Nat)(i k:Int)(r c:Int)(l:List Int)(p q:Int)(m:List Int):Bv Aa.Hw.E N f142 (Aj f142) [.int .i64 i,.int .i64 k,.cellp [.int .i64 r,.int .i64 c,.ints .arg .u64 l],.cellp [.int .i64 p,.int .i64 q,.ints .arg .u64 m]]=cond (Bc k c) (bif (E6 r c l i k) then some (.int .u64 (C1 c l i k)) else none) (bif (E6 p q m i (Ad (k-c))) then some (.int .u64 (C1 q m i (Ad (k-c)))) else none):=by kernel_rfl
def Aa.of.Cs.hint:Nat->Option A9
 | 0=>some { keep:=[1,2,6,7,13,14],objs:=[(8,2,108002,.ints 43 .u64 [])],boxes:=[6,7] }
 | 2=>some { keep:=[1,2,6,7,8,13,14,17,18],objs:=[(8,2,108002,.ints 43 .u64 [])],boxes:=[6,7] }
 | _=>none
def Aa.of.Cs.E:=C6 (Cw [(142,Aa.Hw.spec)]) (fun _=>false) Aa.of.Cs.hint (fun _=>none)
section
variable(N M0 M:Nat)(a b r c:Int)(l:List Int)(p q:Int)(m:List Int)(p8 p14_1 p18:Int)(p2:List Int)(p14:Int)(p2_1:List Int)
def Aa.of.Cs.L0:Option DV:=B2 Aa.of.Cs.E N f117 (Aj f117) [1,1,0,1,0] [] M ⟨F3 33 [(1,.int .i64 b),(2,.fn 142 [] [.cellp [.int .i64 r,.int .i64 c,.ints .arg .u64 l],.cellp [.int .i64 p,.int .i64 q,.ints .arg .u64 m]]),(6,.ptr 6 0 0),(7,.ptr 7 0 0),(13,.int .i64 a),(14,.int .i64 p14)],[(6,false,.box [.int .i64 0,.int .i64 0,.nil]),(7,false,.box [.int .i64 a,.int .i64 b,.oref 108002]),(108002,false,.ints 43 .u64 p2_1)]⟩
def Aa.of.Cs.L1:Option DV:=B2 Aa.of.Cs.E N f117 (Aj f117) [1,1,0,1,0,0,1,1,0,0,1,1,0] [M0] M ⟨F3 33 [(1,.int .i64 b),(2,.fn 142 [] [.cellp [.int .i64 r,.int .i64 c,.ints .arg .u64 l],.cellp [.int .i64 p,.int .i64 q,.ints .arg .u64 m]]),(6,.ptr 6 0 0),(7,.ptr 7 0 0),(8,.int .i64 p8),(13,.int .i64 a),(14,.int .i64 p14_1),(17,.int .i64 b),(18,.int .i64 p18)],[(6,false,.box [.int .i64 0,.int .i64 0,.nil]),(7,false,.box [.int .i64 a,.int .i64 b,.oref 108002]),(108002,false,.ints 43 .u64 p2)]⟩
theorem Aa.of.Cs.Ar:Aa.of.Cs.L0 N (M+1) a b r c l p q m p14 p2_1=cond (Bc p14 a) (Aa.of.Cs.L1 N M N a b r c l p q m p14 p14 0 p2_1) (some (.agg [.int .i64 a,.int .i64 b,.ints (.own 108002 43) .u64 p2_1])):=by kernel_rfl
theorem Aa.of.Cs.B6:Aa.of.Cs.L1 N M0 (M+1) a b r c l p q m p8 p14_1 p18 p2=cond (Bc p18 b) (bif (Qu r c l p q m p8 p18) then cond (decide ((length p2)+1<=G2)) (Aa.of.Cs.L1 N M0 M a b r c l p q m p8 p14_1 (Ad (p18+1)) (p2++[(C9 c l q m p8 p18)])) none else none) (Aa.of.Cs.L0 N M0 a b r c l p q m (Ad (p14_1+1)) p2) :=Et (Es (Co (Cb _) (Co (Cb _) rfl rfl) rfl) rfl)
theorem Aa.of.Cs.ev:Bv Aa.of.Cs.E N f117 (Aj f117) [.int .i64 a,.int .i64 b,.fn 142 [] [.cellp [.int .i64 r,.int .i64 c,.ints .arg .u64 l],.cellp [.int .i64 p,.int .i64 q,.ints .arg .u64 m]]] =
 Aa.of.Cs.L0 N N a b r c l p q m 0 []:=by kernel_rfl
end
def Aa.Cs.E:=E0 [(117,Aa.of.Cs.spec),(116,Aa.two.spec)]
theorem Aa.Cs.ev(N:Nat)(r c:Int)(l:List Int)(p q:Int)(m:List Int):Bv Aa.Cs.E N f77 (Aj f77) [.agg [.int .i64 r,.int .i64 c,.ints .arg .u64 l],.agg [.int .i64 p,.int .i64 q,.ints .arg .u64 m]]=cond ((Aas r c l p q m) !=(0:Int)) (some (.tup [.agg [.int .i64 0,.int .i64 0,.nil],.int .i64 (Aas r c l p q m)])) (bif ((r !=p)||(Bc 6 (Ad (c+q)))) then some (.tup [.agg [.int .i64 0,.int .i64 0,.nil],.int .i64 3]) else bif ((Bp r&&Bp (Ad (c+q)))&&(Az r c l&&Az p q m)&&decide (r=r/\(Ad (c+q))=c+q/\p=r)) then some (.tup [.agg [.int .i64 r,.int .i64 (Ad (c+q)),.ints .fresh .u64 (B0 (toNat r) (toNat (Ad (c+q))) (fun j1 j2=>C9 c l q m j1 j2))],.int .i64 0]) else none) :=Et (Es rfl (Ax (Uw (r !=p)) (Ax (Te (r !=p)) (Ax (Uw (r !=p)) (Ax (Te (r !=p)) (Ax (tt8 (r !=p)) (Ax (Te (r !=p)) (Ax (tt6 (r !=p)) (Co (tt5 _ _) rfl rfl)))))))))
def A0.Cs.E:=E0 [(71,A0.Stack.spec),(14,A0.D4.spec)]
theorem A0.Cs.ev(N:Nat)(r c:Int)(l:List Int)(p q:Int)(m:List Int):Bv A0.Cs.E N f36 (Aj f36) [.agg [.int .i64 r,.int .i64 c,.ints .arg .u64 l],.agg [.int .i64 p,.int .i64 q,.ints .arg .u64 m]]=cond (Az r c l) (bif (Az p q m) then cond ((Az c r (B0 (toNat c) (toNat r) (fun j1 j2=>C1 c l j2 j1))&&Az q p (B0 (toNat q) (toNat p) (fun j1 j2=>C1 q m j2 j1)))&&decide (p=r)) (bif (Az (c+q) r ((B0 (toNat c) (toNat r) (fun j1 j2=>C1 c l j2 j1))++(B0 (toNat q) (toNat p) (fun j1 j2=>C1 q m j2 j1)))) then some (.agg [.int .i64 r,.int .i64 (c+q),.ints .fresh .u64 (B0 (toNat r) (toNat (c+q)) (fun j1 j2=>C1 r ((B0 (toNat c) (toNat r) (fun j1 j2=>C1 c l j2 j1))++(B0 (toNat q) (toNat p) (fun j1 j2=>C1 q m j2 j1))) j2 j1))]) else none) none else none) none :=Et (Co (Cb _) (Co (Cb _) (Co (Cb _) (Co (Cb _) rfl rfl) rfl) rfl) rfl)
theorem Aa.Hw.Ae:Kq 142 Aa.Hw.spec:=Eb Aa.Hw.E Tryz.func142 (kc Aa.get.Ae .nil) fun i k r c l p q m hp=>by
 obtain⟨h1,h2,h3,h4,h5⟩:=Ak.1 (show Qu r c l p q m i k=true from hp);refine⟨0,Aa.Hw.out [.i i,.i k,.i r,.i c,.l l,.i p,.i q,.l m],[],?_,.int⟩;show _=some (DV.int .u64 (C9 c l q m i k));rw[Aa.Hw.ev,As,An (x:=k-c) (by omega) (by omega)];unfold C9;by_cases h:k<c
 ·rw[Bfc h] at h5;rw[Beq h,Bep,h5,Bep,Bfc h]
 ·rw[Bfb h] at h5;rw[Beu h,Bet,h5,Bep,Bfb h]
theorem of.Cs.inner(N:Nat)(r c:Int)(l:List Int)(p q:Int)(m:List Int){A B:Nat}(hA:A<=6)(hB:B<=6){F:Nat->Nat->Int}(hF:∀i j:Nat,F i j=C9 c l q m (i:Int) (j:Int)){i:Nat}(hi:i<A)(hp:∀j:Nat,j<B->Qu r c l p q m (i:Int) (j:Int)=true):∀(k j M0 M:Nat),j+k=B->k<M ->
 Aa.of.Cs.L1 N M0 M (A:Int) (B:Int) r c l p q m (i:Int) (i:Int) (j:Int) (B0 i B F++(zh j).map (F i))=Aa.of.Cs.L0 N M0 (A:Int) (B:Int) r c l p q m ((i+1:Nat):Int) (B0 (i+1) B F):=by
 intro k
 induction k with
 | zero =>
   intro j M0 M hj hM;obtain⟨M,rfl⟩:∃G,M=G+1:=⟨M-1,by omega⟩
   obtain rfl:j=B:=by omega
   rw[Aa.of.Cs.B6,As,Beu (by omega),Bet,An (by omega) (by omega),<- Og];rfl
 | succ k ih =>
   intro j M0 M hj hM;obtain⟨M,rfl⟩:∃G,M=G+1:=⟨M-1,by omega⟩
   have d:decide ((B0 i B F++(zh j).map (F i)).length+1<=G2)=true:=by refine Beq ?_;have:=Bfl (show i<=6 by omega) hB;rw[Bfh,B5,Bfv,Bfs]; unfold G2; omega
   rw[Aa.of.Cs.B6,As,Beq (by omega),Bep,hp j (by omega),Bep,d,Bep,An (by omega) (by omega),<- hF i j];have:=ih (j+1) M0 M (by omega) (by omega);rw[Kl,<- zQ] at this;exact this
theorem of.Cs.outer(N:Nat)(r c:Int)(l:List Int)(p q:Int)(m:List Int){A B:Nat}(hA:A<=6)(hB:B<=6)(hN:6<N){F:Nat->Nat->Int}(hF:∀i j:Nat,F i j=C9 c l q m (i:Int) (j:Int))(hp:∀i j:Nat,i<A->j<B->Qu r c l p q m (i:Int) (j:Int)=true):∀(k i M:Nat),i+k=A->k<M ->
 Aa.of.Cs.L0 N M (A:Int) (B:Int) r c l p q m (i:Int) (B0 i B F)=some (.agg [.int .i64 (A:Int),.int .i64 (B:Int),.ints (.own 108002 tB) .u64 (B0 A B F)]):=by
 intro k
 induction k with
 | zero =>
   intro i M hi hM;obtain⟨M,rfl⟩:∃G,M=G+1:=⟨M-1,by omega⟩
   obtain rfl:i=A:=by omega
   rw[Aa.of.Cs.Ar,As,Beu (by omega),Bet]
 | succ k ih =>
   intro i M hi hM;obtain⟨M,rfl⟩:∃G,M=G+1:=⟨M-1,by omega⟩
   have n:=of.Cs.inner N r c l p q m hA hB hF (show i<A by omega) (fun j hj=>hp i j (by omega) hj) B 0 M N (by omega) (by omega);rw[List.range_zero,List.map_nil,yi] at n;rw[Aa.of.Cs.Ar,As,Beq (by omega),Bep];exact n.trans (ih (i+1) M (by omega) (by omega))
theorem Aa.of.Cs.Ae:Kq 117 Aa.of.Cs.spec:=Eb Aa.of.Cs.E Tryz.func117 (kc Aa.Hw.Ae .nil) fun a b r c l p q m hp=>by
 obtain⟨h12,hy⟩:=Ac.1 (show(((Bp a&&Bp b)&&(Az r c l&&Az p q m))&&decide (a=r/\b=c+q/\p=r))=true from hp);obtain⟨h1,hx⟩:=Ac.1 h12;have h2:=Ac.2 ⟨hx,hy⟩;obtain⟨ha,hb⟩:=Ac.1 h1;obtain⟨A,rfl,hA⟩:=F5 ha;obtain⟨B,rfl,hB⟩:=F5 hb;obtain⟨h3,he⟩:=Ac.1 h2;obtain⟨hr,hm⟩:=Ac.1 h3;obtain⟨e1,e2,e3⟩:=Bff he;have hs:=Hj.1 hr
 have hp:∀i j:Nat,i<A->j<B->Qu r c l p q m (i:Int) (j:Int)=true:=fun i j hi hj=>by
  refine Ak.2 ⟨by omega,by omega,by omega,by omega,?_⟩;by_cases h:(j:Int)<c
  ·rw[Bfc h]; exact M7 hr (by omega) (by omega) (by omega) (by omega) r
  ·rw[Bfb h]; exact M7 hm (by omega) (by omega) (by omega) (by omega) p
 refine⟨8,.agg [.int .i64 (A:Int),.int .i64 (B:Int),.ints (.own 108002 tB) .u64 (B0 A B fun(i j:Nat)=>C9 c l q m (i:Int) (j:Int))],[108002],?_,Wk.H3 (.cons .int (.cons .int (.cons (.drop _ _ _ _ (zf.2 rfl)) .nil)))⟩;rw[Aa.of.Cs.ev];have n:=of.Cs.outer 8 r c l p q m hA hB (by omega) (F:=fun(i j:Nat)=>C9 c l q m (i:Int) (j:Int)) (fun _ _=>rfl) hp A 0 8 (by omega) (by omega);rw[M4] at n;exact n
theorem Aa.Cs.Ae:Kq 77 Aa.Cs.spec:=Eb Aa.Cs.E Tryz.func77 (kc Aa.of.Cs.Ae (kc Aa.two.Ae .nil)) fun r c l p q m _=>by
 show ∃N dv drops,_=some dv/\Wk drops dv (Uo (Kb r c l p q m));unfold Kb;by_cases h:(Az r c l&&Az p q m)=true
 ·obtain⟨h1,h2⟩:=Ac.1 h;obtain⟨r1,c1,_⟩:=Hj.1 h1;obtain⟨p1,q1,_⟩:=Hj.1 h2;have ew:Ad (c+q)=c+q:=An (by omega) (by omega);by_cases hc:r=p/\c+q<=6
  ·have e:((r !=p)||(Bc (6:Int) (c+q)))=false:=by rw[As,hc.1]; simp; omega
   rw[Bfc h,Bfc hc];exact⟨0,_,[],by rw[Aa.Cs.ev,ew,Qx,h,e,(Km h1).1,J0.2 (show 0<=c+q/\c+q<=6 by omega),Beq ⟨rfl,rfl,hc.1.symm⟩]; rfl,Qv⟩
  ·have e:((r !=p)||(Bc (6:Int) (c+q)))=true:=by rw[As]; simp; omega
   rw[Bfc h,Bfb hc];exact⟨0,_,[],by rw[Aa.Cs.ev,ew,Qx,h,e]; rfl,Jm⟩
 ·have e:(Az r c l&&Az p q m)=false:=by simpa using h
  rw[Bfb h];exact⟨0,_,[],by rw[Aa.Cs.ev,Qx,e,Apg e]; rfl,Jm⟩
theorem Aor{R C Q:Nat}{l m:List Int} :
 (B0 R (C+Q) fun(j1 j2:Nat)=>C1 (R:Int) ((B0 C R fun(j1 j2:Nat)=>C1 (C:Int) l (j2:Int) (j1:Int))++(B0 Q R fun(j1 j2:Nat)=>C1 (Q:Int) m (j2:Int) (j1:Int))) (j2:Int) (j1:Int)) =
 B0 R (C+Q) fun(j1 j2:Nat)=>C9 (C:Int) l (Q:Int) m (j1:Int) (j2:Int):=by
 refine Ef fun i k hi hk=>?_
 rw[<- Apt (B5 C R _) (B5 Q R _),Ju hk hi];unfold Kj C9;by_cases h:(k:Int)<(C:Int)
 ·rw[Bfc h,Bfc h,Ju (by omega) hi]
 ·have es:(k:Int)-(C:Int)=((k-C:Nat):Int):=by omega
  rw[Bfb h,Bfb h,es,Ju (by omega) hi]
theorem A0.Cs.Ae:Kq 36 A0.Cs.spec:=Eb A0.Cs.E Tryz.func36 (kc A0.Stack.Ae (kc A0.D4.Ae .nil)) fun r c l p q m hp=>by
 obtain⟨h1,h2⟩:=Ac.1 (show((Az r c l&&Az p q m)&&decide (p=r/\c+q<=6))=true from hp);obtain⟨hr,hm⟩:=Ac.1 h1;obtain⟨rfl,hcq⟩:=Bff h2;obtain⟨R,C,rfl,rfl,r6,c6,hl⟩:=Cp hr;obtain⟨P,Q,hP,rfl,p6,q6,hl2⟩:=Cp hm;have ecq:(C:Int)+(Q:Int)=((C+Q:Nat):Int):=(Int.natCast_add _ _).symm
 have g1:Az ((C+Q:Nat):Int) (R:Int) ((B0 C R fun(j1 j2:Nat)=>C1 (C:Int) l (j2:Int) (j1:Int))++(B0 Q R fun(j1 j2:Nat)=>C1 (Q:Int) m (j2:Int) (j1:Int)))=true :=Ep (by omega) r6 (by rw[Bfh,B5,B5,Bft])
 refine⟨0,.agg [.int .i64 (R:Int),.int .i64 ((C:Int)+(Q:Int)),.ints .fresh .u64 (B0 (toNat (R:Int)) (toNat ((C:Int)+(Q:Int))) fun(j1 j2:Nat)=>C9 (C:Int) l (Q:Int) m (j1:Int) (j2:Int))],[],?_,Yt⟩;rw[A0.Cs.ev,hr,Bep,hm,Bep,ecq,Ber,Ber,Ber,Ber,Oh _ c6 r6,Oh _ q6 r6,Bev,Beq rfl,Bev,Bep,g1,Bep,Aor]
section
variable{n Q:Nat}{l m:List Int}
end
theorem Amu{r c:Int}{l:List Int}(h:Az r c l=true):0<=r/\r<=6/\0<=c/\c<=6:=by obtain⟨R,C,rfl,rfl,r6,c6,_⟩:=Cp h;omega
theorem Auz{r c:Int}{l:List Int}{q:Int}{m:List Int}(al:Ah l=true)(am:Ah m=true)(i k:Int):Af (Kj r c l q m i k)=true:=by
 unfold Kj;by_cases h:i<r
 ·rw[Bfc h]; exact Hn al
 ·rw[Bfb h]; exact Hn am
theorem Ahs{r c:Int}{l:List Int}{p q:Int}{m:List Int}(al:Ah l=true)(am:Ah m=true):Ah (Fg r c l p q m).2.2.1=true:=by
 unfold Fg;by_cases h:(Az r c l&&Az p q m)=true
 ·rw[Bfc h];by_cases h2:c=q/\r+p<=6
  ·rw[Bfc h2]; exact(show Ah (B0 _ _ fun i k=>Kj r c l q m i k)=true from I3 fun _ _=>Auz al am _ _)
  ·rw[Bfb h2]; exact Vy
 ·rw[Bfb h]; exact Vy
section
variable{N:Nat}{r c p q a b u v:Int}{l m g h:List Int}{w one two done f y Q z:MX}
end
section
variable{n Q:Nat}{l m:List Int}
end
def Mat(R C:Nat)(x:MX):Prop:=∃l,x=((R:Int),(C:Int),l,0)/\R<=6/\C<=6/\l.length=R*C/\Ah l=true
def FM(x:MX):Prop:=Ds x.2.2.1=true
theorem Mat.mk{R C:Nat}{l:List Int}(r6:R<=6)(c6:C<=6)(hl:l.length=R*C)(al:Ah l=true):Mat R C ((R:Int),(C:Int),l,0):=⟨l,rfl,r6,c6,hl,al⟩
theorem Mat.A78{r c:Int}{l:List Int}(h:Ci r c l=0)(al:Ah l=true):∃R C:Nat,r=R/\c=C/\Mat R C (r,c,l,0)/\FM (r,c,l,0):=by obtain⟨R,C,rfl,rfl,r6,c6,hl⟩:=Cp (L9 h).1;exact⟨R,C,rfl,rfl,.mk r6 c6 hl al,(L9 h).2⟩
section
variable{R C K:Nat}{x y:MX}
theorem Mat.len(h:Mat R C x):x.2.2.1.length<=36:=by obtain⟨l,rfl,r6,c6,hl,_⟩:=h;have:=Bfl r6 c6;show l.length<=36;omega
end
def Bb3(o:Option DV)(d:DV):Prop:=∃dv drops,o=some dv/\Wk drops dv d
theorem Az0{E:Env}{fn:Func}{ds:List DV}{d:DV}(h:Bb3 (Bv E 0 fn (Aj fn) ds) d):A2s E fn ds d:=by obtain⟨dv,drops,e1,e2⟩:=h;exact⟨0,dv,drops,e1,e2⟩
section
variable{N:Nat}{r c p q u v:Int}{l m h:List Int}{R Q T C W:MX}
end
def A84(o:Option DV)(x:MX):Prop:=Bb3 o (Uo x)
theorem A4k{o:Option DV}{x:MX}(h:o=some (Uo x)):A84 o x:=⟨_,[],h,Qv⟩
theorem Adi{o:Option DV}{e:Int}(h:o=some (A4q e)):A84 o (N6 e):=⟨_,[],h,Jm⟩
section
variable{N:Nat}{r c p q:Int}{l m:List Int}{Q L S w o y:MX}
end
def Ai.I6.E:=E0 [(138,Ai.Mul.spec)]
theorem Ai.I6.ev(N:Nat)(i x:Int)(l:List Int):Bv Ai.I6.E N f192 (Aj f192) [.int .i64 i,.cellp [.int .u64 x],.cellp [.ints .arg .u64 l]]=cond ((decide (0<=i))&&(decide (i<(length l:Int)))) (bif (Af x&&Af (getD l (toNat i) 0)) then some (.int .u64 (Bz x (getD l (toNat i) 0))) else none) none :=Et (Co (Kz _ _) (Co (Cb _) rfl rfl) rfl)
def Ai.each.F9.hint:Nat->Option A9
 | 0=>some { keep:=[1,5,7,8],objs:=[(0,5,100005,.ints 43 .u64 [])],boxes:=[] }
 | _=>none
def Ai.each.F9.E:=C6 (Cw [(192,Ai.I6.spec)]) (fun _=>false) Ai.each.F9.hint (fun _=>none)
section
variable(N M:Nat)(n x:Int)(l:List Int)(p8:Int)(p5:List Int)
def Ai.each.F9.L0:Option DV:=B2 Ai.each.F9.E N f191 (Aj f191) [1,1,0,1,0] [] M ⟨F3 19 [(1,.fn 192 [] [.cellp [.int .u64 x],.cellp [.ints .arg .u64 l]]),(5,.oref 100005),(7,.int .i64 n),(8,.int .i64 p8)],[(100005,false,.ints 43 .u64 p5)]⟩
theorem Ai.each.F9.Ar:Ai.each.F9.L0 N (M+1) n x l p8 p5=cond (Bc p8 n) (bif ((Bq (0<=p8/\p8<length l)&&Ah l)&&Af x) then cond (decide ((length p5)+1<=G2)) (Ai.each.F9.L0 N M n x l (Ad (p8+1)) (p5++[(Bz x (getD l (toNat p8) 0))])) none else none) (some (.ints (.own 100005 43) .u64 p5)):=by kernel_rfl
theorem Ai.each.F9.ev:Bv Ai.each.F9.E N f191 (Aj f191) [.int .i64 n,.fn 192 [] [.cellp [.int .u64 x],.cellp [.ints .arg .u64 l]]] =
 Ai.each.F9.L0 N N n x l 0 []:=by kernel_rfl
end
def Ai.F9.E:=E0 [(191,Ai.each.F9.spec)]
theorem Ai.F9.ev(N:Nat)(x:Int)(l:List Int):Bv Ai.F9.E N f148 (Aj f148) [.int .u64 x,.ints .arg .u64 l]=cond (Bc 64 (length l:Int)) (some (.tup [.nil,.int .i64 3])) (bif (((Bq (0<=(length l:Int)/\(length l:Int)<=64/\(length l:Int)=length l))&&Ah l)&&Af x) then some (.tup [.ints .fresh .u64 (Gk x l),.int .i64 0]) else none):=by kernel_rfl
def B8.Fl.hint:Nat->Option A9
 | 0=>some { keep:=[6,7,8],objs:=[],boxes:=[] }
 | _=>none
def B8.Fl.E:=C6 (Cw [(69,D2.Check.spec)]) (fun _=>false) B8.Fl.hint (fun _=>none)
theorem B8.Fl.ev(N:Nat)(r c:Int)(l:List Int)(p q:Int)(m:List Int)(u v:Int)(h:List Int):Bv B8.Fl.E (N+5) f76 (Aj f76) [.recs .arg 3 [[.int .i64 r,.int .i64 c,.ints .arg .u64 l],[.int .i64 p,.int .i64 q,.ints .arg .u64 m],[.int .i64 u,.int .i64 v,.ints .arg .u64 h]]]=cond (Ah l) (bif ((Ci r c l) !=(0:Int)) then some (.int .i64 (Ci r c l)) else bif (Ah m) then cond ((Ci p q m) !=(0:Int)) (some (.int .i64 (Ci p q m))) (bif (Ah h) then cond ((Ci u v h) !=(0:Int)) (some (.int .i64 (Ci u v h))) (some (.int .i64 0)) else none) else none) none:=by kernel_rfl
def B8.Yq.E:=E0 [(61,Aa.Stack.spec),(149,Aa.Br.spec),(76,B8.Fl.spec),(136,soft.Finite.spec),(150,solve.Pf.spec),(66,Ai.Finite.spec),(148,Ai.F9.spec)]
theorem B8.Yq.ev(N:Nat)(r c:Int)(l:List Int)(p q:Int)(m:List Int)(u v:Int)(h:List Int)(x:Int):Bv B8.Yq.E N f88 (Aj f88) [.agg [.int .i64 r,.int .i64 c,.ints .arg .u64 l],.agg [.int .i64 p,.int .i64 q,.ints .arg .u64 m],.agg [.int .i64 u,.int .i64 v,.ints .arg .u64 h],.int .u64 x]=cond (Ar6 l m h) (bif ((Xb r c l p q m u v h) !=(0:Int)) then some (.tup [.agg [.int .i64 0,.int .i64 0,.nil],.int .i64 (Xb r c l p q m u v h)]) else bif (Af x) then cond (!(Dl x)) (some (.tup [.agg [.int .i64 0,.int .i64 0,.nil],.int .i64 4])) (bif ((((p !=r)||(q !=(1:Int)))||(v !=c))||(Bc 6 (Ad (r+u)))) then some (.tup [.agg [.int .i64 0,.int .i64 0,.nil],.int .i64 3]) else bif ((By h&&Af x)&&Bq (length h<=64)) then cond (By (Gk x h)) (bif (!(Ds (Gk x h))) then some (.tup [.agg [.int .i64 0,.int .i64 0,.nil],.int .i64 2]) else bif (Ah ((Fg r c l u v (Gk x h)).2.2.1)&&Ah ((Fg p q m ((Dw u 1).1) ((Dw u 1).2.1) ((Dw u 1).2.2.1)).2.2.1)) then some (.tup [.agg [.int .i64 ((Ra ((Fg r c l u v (Gk x h)).1) ((Fg r c l u v (Gk x h)).2.1) ((Fg r c l u v (Gk x h)).2.2.1) ((Fg p q m ((Dw u 1).1) ((Dw u 1).2.1) ((Dw u 1).2.2.1)).1) ((Fg p q m ((Dw u 1).1) ((Dw u 1).2.1) ((Dw u 1).2.2.1)).2.1) ((Fg p q m ((Dw u 1).1) ((Dw u 1).2.1) ((Dw u 1).2.2.1)).2.2.1)).1),.int .i64 ((Ra ((Fg r c l u v (Gk x h)).1) ((Fg r c l u v (Gk x h)).2.1) ((Fg r c l u v (Gk x h)).2.2.1) ((Fg p q m ((Dw u 1).1) ((Dw u 1).2.1) ((Dw u 1).2.2.1)).1) ((Fg p q m ((Dw u 1).1) ((Dw u 1).2.1) ((Dw u 1).2.2.1)).2.1) ((Fg p q m ((Dw u 1).1) ((Dw u 1).2.1) ((Dw u 1).2.2.1)).2.2.1)).2.1),.ints .fresh .u64 ((Ra ((Fg r c l u v (Gk x h)).1) ((Fg r c l u v (Gk x h)).2.1) ((Fg r c l u v (Gk x h)).2.2.1) ((Fg p q m ((Dw u 1).1) ((Dw u 1).2.1) ((Dw u 1).2.2.1)).1) ((Fg p q m ((Dw u 1).1) ((Dw u 1).2.1) ((Dw u 1).2.2.1)).2.1) ((Fg p q m ((Dw u 1).1) ((Dw u 1).2.1) ((Dw u 1).2.2.1)).2.2.1)).2.2.1)],.int .i64 ((Ra ((Fg r c l u v (Gk x h)).1) ((Fg r c l u v (Gk x h)).2.1) ((Fg r c l u v (Gk x h)).2.2.1) ((Fg p q m ((Dw u 1).1) ((Dw u 1).2.1) ((Dw u 1).2.2.1)).1) ((Fg p q m ((Dw u 1).1) ((Dw u 1).2.1) ((Dw u 1).2.2.1)).2.1) ((Fg p q m ((Dw u 1).1) ((Dw u 1).2.1) ((Dw u 1).2.2.1)).2.2.1)).2.2.2)]) else none) none else none) else none) none :=Et (Es (Es rfl (Es (Es rfl (Ax (Uw (p !=r)) (Ax (Te (p !=r)) (Ax (Te (p !=r)) (Ax (tt6 (p !=r)) (Ax (Agu (p !=r) (q !=(1:Int))) (Ax (Agv (p !=r) (q !=(1:Int))) (Ax (Agu (p !=r) (q !=(1:Int))) (Ax (Agv (p !=r) (q !=(1:Int))) (Ax (A68 (p !=r) (q !=(1:Int))) (Ax (Apj (p !=r) (q !=(1:Int))) (Ax (Apk (p !=r) (q !=(1:Int)) (v !=c)) (Ax (Aly (p !=r) (q !=(1:Int)) (v !=c)) (Ax (Apk (p !=r) (q !=(1:Int)) (v !=c)) (Ax (Aly (p !=r) (q !=(1:Int)) (v !=c)) (Ax (A99 (p !=r) (q !=(1:Int)) (v !=c)) (Ax (Aly (p !=r) (q !=(1:Int)) (v !=c)) (Ax (Ayn (p !=r) (q !=(1:Int)) (v !=c)) (Co (Baa _ _ _ _) rfl rfl))))))))))))))))))) rfl)) rfl)
theorem Ad4(x:Int)(l:List Int):(Gk x l).length=l.length:=by unfold Gk; rw[Bfv]
theorem Aho(x:Int)(l:List Int):Ah (Gk x l)=true:=Ak.2 fun y hy=>by obtain⟨b,_,rfl⟩:=zw.1 hy;exact Fc _ _
theorem Al2(x:Int)(l:List Int):(zh l.length).map (fun j=>Bz x (l.getD j 0))=Gk x l:=by
 refine Vj (by rw[Bfv,Bfs,Ad4]) fun j hj=>?_
 rw[Bfv,Bfs] at hj;unfold Gk;rw[Bf6,Bf6,yv hj,Be6 hj];simp only[Option.map_some,Bez,Be6 hj,Bf9]
theorem Ai.I6.Ae:Kq 192 Ai.I6.spec:=Eb Ai.I6.E Tryz.func192 (kc Ai.Mul.Ae .nil) fun i x l hp=>by obtain⟨h1,hx⟩:=Ac.1 (show((Bq (0<=i/\i<length l)&&Ah l)&&Af x)=true from hp);obtain⟨h2,al⟩:=Ac.1 h1;have h3:=Ak.1 h2;refine⟨0,Ai.I6.out [.i i,.i x,.l l],[],?_,.int⟩;rw[Ai.I6.ev,Beq h3.1,Beq h3.2,Bev,Bep,hx,Lj al (by omega),Bev,Bep];rfl
theorem Acz(N:Nat){x:Int}{l:List Int}(al:Ah l=true)(hx:Af x=true)(h64:l.length<=64):∀(k i F:Nat),i+k=l.length->k<F ->
 Ai.each.F9.L0 N F (l.length:Int) x l (i:Int) ((zh i).map fun j=>Bz x (l.getD j 0))=some (.ints (.own 100005 tB) .u64 (Gk x l)):=by
 intro k
 induction k with
 | zero =>
   intro i F hi hF;obtain⟨F,rfl⟩:∃G,F=G+1:=⟨F-1,by omega⟩
   obtain rfl:i=l.length:=by omega
   rw[Ai.each.F9.Ar,As,Beu (by omega),Bet,Al2]
 | succ k ih =>
   intro i F hi hF;obtain⟨F,rfl⟩:∃G,F=G+1:=⟨F-1,by omega⟩
   have:=ih (i+1) F (by omega) (by omega);rw[Kl] at this
   rw[Ai.each.F9.Ar,As,Beq (by omega),Bep,Ak.2 (show 0<=(i:Int)/\(i:Int)<(l.length:Int) by omega),al,hx,Bev,Bev,Bep,
    Beq (by rw[Bfv,Bfs]; unfold G2; omega),Bep,An (by omega) (by omega),Ber]
   exact this
theorem Ai.each.F9.Ae:Kq 191 Ai.each.F9.spec:=Eb Ai.each.F9.E Tryz.func191 (kc Ai.I6.Ae .nil) fun n x l hp=>by obtain⟨h1,hx⟩:=Ac.1 (show((Bq (0<=n/\n<=64/\n=length l)&&Ah l)&&Af x)=true from hp);obtain⟨h2,al⟩:=Ac.1 h1;obtain⟨h3,h4,rfl⟩:=Ak.1 h2;refine⟨65,.ints (.own 100005 tB) .u64 (Gk x l),[100005],?_,.drop _ _ _ _ (zf.2 rfl)⟩;rw[Ai.each.F9.ev];exact Acz 65 al hx (by omega) l.length 0 65 (by omega) (by omega)
theorem Ai.F9.Ae:Kq 148 Ai.F9.spec:=Eb Ai.F9.E Tryz.func148 (kc Ai.each.F9.Ae .nil) fun x l hp=>by obtain⟨h1,h2⟩:=Ac.1 (show((By l&&Af x)&&Bq (length l<=64))=true from hp);obtain⟨ol,hx⟩:=Ac.1 h1;have h2:=Ak.1 h2;refine⟨0,Ai.F9.out [.i x,.l l],[],?_,Wk.Ik (.cons .Rd (.cons .int .nil))⟩;rw[Ai.F9.ev,As,Beu (by omega),Bet,Ak.2 (show 0<=(l.length:Int)/\(l.length:Int)<=64/\(l.length:Int)=l.length by omega),W0 ol,hx,Bev,Bev,Bep];rfl
theorem B8.Fl.Ae:Kq 76 B8.Fl.spec:=Eb B8.Fl.E Tryz.func76 (kc D2.Check.Ae .nil) fun r c l p q m u v h hp=>by
 obtain⟨h1,ah⟩:=Ac.1 (show((Ah l&&Ah m)&&Ah h)=true from hp);obtain⟨al,am⟩:=Ac.1 h1;refine⟨0+5,.int .i64 (Xb r c l p q m u v h),[],?_,.int⟩;rw[B8.Fl.ev,al,am,ah,Bep,Bep,Bep];unfold Xb;by_cases k1:Ci r c l=0
 ·rw[Kh k1,Bet,Bfb (fun h=>h k1)];by_cases k2:Ci p q m=0
  ·rw[Kh k2,Bet,Bfb (fun h=>h k2)];by_cases k4:Ci u v h=0
   ·rw[Kh k4,Bet,k4]
   ·rw[neI k4,Bep]
  ·rw[neI k2,Bep,Bfc k2]
 ·rw[neI k1,Bep,Bfc k1]
theorem Axd{r c:Int}{l:List Int}{p q:Int}{m:List Int}{u v:Int}{h:List Int}(e:Xb r c l p q m u v h=0):Ci r c l=0/\Ci p q m=0/\Ci u v h=0:=by
 unfold Xb at e;by_cases k1:Ci r c l=0
 ·rw[Bfb (fun h=>h k1)] at e;by_cases k2:Ci p q m=0
  ·rw[Bfb (fun h=>h k2)] at e; exact⟨k1,k2,e⟩
  ·rw[Bfc k2] at e; exact absurd e k2
 ·rw[Bfc k1] at e; exact absurd e k1
theorem Avc{r c p q u v:Int}(h:0<=r/\r<=6)(h':0<=u/\u<=6) :
 ((((p !=r)||(q !=(1:Int)))||(v !=c))||(Bc (6:Int) (Ad (r+u))))=decide (p≠r\/q≠1\/v≠c\/6<r+u):=by
 rw[An (by omega) (by omega),As,Be5];simp[or_assoc]
theorem A6r{l:List Int}(h:l.length<=36)(al:Ah l=true):By l=true:=Ak.2 ⟨by omega,Ak.1 al⟩
section
variable{r c p q u v x:Int}{l m h:List Int}
theorem Adf{e:Int}(k:Za r c l p q m u v h x=e)(he:e≠0):Mk r c l p q m u v h x=N6 e:=by unfold Mk; rw[k,Bfc he]
theorem A4b(k:Za r c l p q m u v h x=0):Mk r c l p q m u v h x=A00 (Bb0 r c l u v h x) (A6q p q m u):=by unfold Mk; rw[Bfb (fun h=>h k)]
theorem A7y(k:Xb r c l p q m u v h≠0):Za r c l p q m u v h x=Xb r c l p q m u v h:=by unfold Za; rw[Bfc k]
theorem A7x(k:Xb r c l p q m u v h=0)(k2:Dl x=false):Za r c l p q m u v h x=4:=by unfold Za; rw[Bfb (fun h=>h k),Bfc k2]
theorem A7w(k:Xb r c l p q m u v h=0)(k2:Dl x=true)(k3:p≠r\/q≠1\/v≠c\/6<r+u):Za r c l p q m u v h x=3:=by unfold Za; rw[Bfb (fun h=>h k),k2,Bfb (by decide),Bfc k3]
theorem A7v(k:Xb r c l p q m u v h=0)(k2:Dl x=true)(k3:¬(p≠r\/q≠1\/v≠c\/6<r+u))(k4:Ds (Gk x h)=false):Za r c l p q m u v h x=2:=by unfold Za; rw[Bfb (fun h=>h k),k2,Bfb (by decide),Bfb k3,Bfc k4]
theorem A7u(k:Xb r c l p q m u v h=0)(k2:Dl x=true)(k3:¬(p≠r\/q≠1\/v≠c\/6<r+u))(k4:Ds (Gk x h)=true):Za r c l p q m u v h x=0:=by unfold Za; rw[Bfb (fun h=>h k),k2,Bfb (by decide),Bfb k3,k4,Bfb (by decide)]
end
theorem B8.Yq.Ae:Kq 88 B8.Yq.spec:=Eb B8.Yq.E Tryz.func88 (kc Aa.Stack.Ae (kc Aa.Br.Ae (kc B8.Fl.Ae (kc soft.Finite.Ae (kc solve.Pf.Ae (kc Ai.Finite.Ae (kc Ai.F9.Ae .nil))))))) fun r c l p q m u v h x hp=>Az0 (by
 obtain⟨h0,hx⟩:=Ac.1 (show(Ar6 l m h&&Af x)=true from hp);obtain⟨h1,ah⟩:=Ac.1 (show((Ah l&&Ah m)&&Ah h)=true from h0);obtain⟨al,am⟩:=Ac.1 h1;show A84 _ (Mk r c l p q m u v h x);rw[B8.Yq.ev,h0,Bep];by_cases k:Xb r c l p q m u v h=0
 ·obtain⟨k1,k2,k3⟩:=Axd k;rw[Kh k,Bet,hx,Bep];cases hf:Dl x with
  | false =>rw[Bf8,Bep,Adf (A7x k hf) (by decide)];exact Adi rfl
  | true =>
    have s1:=Amu (L9 k1).1;have s3:=Amu (L9 k3).1;rw[Bfo,Bet,Avc ⟨s1.1,s1.2.1⟩ ⟨s3.1,s3.2.1⟩];by_cases ks:p≠r\/q≠1\/v≠c\/6<r+u
    ·rw[Beq ks,Bep,Adf (A7w k hf ks) (by decide)];exact Adi rfl
    ·obtain⟨R,C,_,_,hm,_⟩:=Mat.A78 k3 ah;have hl:h.length<=36:=hm.len;rw[Beu ks,Bet,A6r hl ah,Bev,Ak.2 (show h.length<=64 by omega),Bev,Bep,A6r (by rw[Ad4]; exact hl) (Aho x h),Bep];cases hg:Ds (Gk x h) with
     | false =>rw[Bf8,Bep,Adf (A7v k hf ks hg) (by decide)];exact Adi rfl
     | true =>
       have az:Ah (Dw u 1).2.2.1=true:=by
        unfold Dw;split
        ·exact(show Ah (B0 _ _ fun _ _=>0)=true from I3 fun _ _=>Md)
        ·exact Vy
       rw[Bfo,Bet,A4b (A7u k hf ks hg),Ahs al (Aho x h),Ahs am az,Bev,Bep];exact A4k rfl
 ·rw[neI k,Bep,Adf (A7y k) k];exact Adi rfl)
def Er.one.E:=E0 []
theorem Er.one.ev(N:Nat)(b:Int):Bv Er.one.E N f89 (Aj f89) [.int .u64 b]=some (.agg [.int .i64 1,.int .i64 1,.ints (.own 4 43) .u64 [b]]):=by kernel_rfl
def Er.Ji.J4:List (Nat × Fy):=[(89,Er.one.spec),(88,B8.Yq.spec)]
def Er.Ji.E:Env:=C6 (Cw Er.Ji.J4) (fun _=>false) (fun _=>none) (fun _=>none)
theorem Er.Ji.ev(N:Nat):Bv Er.Ji.E N f33 (Aj f33) []=cond (Ar6 ([(4607182418800017408:Int)]) ([(4611686018427387904:Int)]) []&&Af 4607182418800017408) (bif ((!((((Mk 1 1 ([(4607182418800017408:Int)]) 1 1 ([(4611686018427387904:Int)]) 0 1 [] 4607182418800017408).2.2.2)==(0:Int))&&((length ((Mk 1 1 ([(4607182418800017408:Int)]) 1 1 ([(4611686018427387904:Int)]) 0 1 [] 4607182418800017408).2.2.1):Int)==(1:Int))))||(decide ((0:Int)<(length ((Mk 1 1 ([(4607182418800017408:Int)]) 1 1 ([(4611686018427387904:Int)]) 0 1 [] 4607182418800017408).2.2.1):Int)))) then some (.bool (cond (bif (((Mk 1 1 ([(4607182418800017408:Int)]) 1 1 ([(4611686018427387904:Int)]) 0 1 [] 4607182418800017408).2.2.2)==(0:Int)) then ((length ((Mk 1 1 ([(4607182418800017408:Int)]) 1 1 ([(4611686018427387904:Int)]) 0 1 [] 4607182418800017408).2.2.1):Int)==(1:Int)) else false) ((getD ((Mk 1 1 ([(4607182418800017408:Int)]) 1 1 ([(4611686018427387904:Int)]) 0 1 [] 4607182418800017408).2.2.1) 0 0)==(4611686018427387904:Int)) false)) else none) none :=
 Et (Es (Ax (Un (((Mk 1 1 ([(4607182418800017408:Int)]) 1 1 ([(4611686018427387904:Int)]) 0 1 [] 4607182418800017408).2.2.2)==(0:Int))) (Ax (P7 (((Mk 1 1 ([(4607182418800017408:Int)]) 1 1 ([(4611686018427387904:Int)]) 0 1 [] 4607182418800017408).2.2.2)==(0:Int))) (Ax (P7 (((Mk 1 1 ([(4607182418800017408:Int)]) 1 1 ([(4611686018427387904:Int)]) 0 1 [] 4607182418800017408).2.2.2)==(0:Int))) (Ax (P7 (((Mk 1 1 ([(4607182418800017408:Int)]) 1 1 ([(4611686018427387904:Int)]) 0 1 [] 4607182418800017408).2.2.2)==(0:Int))) (Ax (tt2 (((Mk 1 1 ([(4607182418800017408:Int)]) 1 1 ([(4611686018427387904:Int)]) 0 1 [] 4607182418800017408).2.2.2)==(0:Int))) (Ax (Bag (((Mk 1 1 ([(4607182418800017408:Int)]) 1 1 ([(4611686018427387904:Int)]) 0 1 [] 4607182418800017408).2.2.2)==(0:Int)) ((length ((Mk 1 1 ([(4607182418800017408:Int)]) 1 1 ([(4611686018427387904:Int)]) 0 1 [] 4607182418800017408).2.2.1):Int)==(1:Int))) (Ax (Aym (((Mk 1 1 ([(4607182418800017408:Int)]) 1 1 ([(4611686018427387904:Int)]) 0 1 [] 4607182418800017408).2.2.2)==(0:Int)) ((length ((Mk 1 1 ([(4607182418800017408:Int)]) 1 1 ([(4611686018427387904:Int)]) 0 1 [] 4607182418800017408).2.2.1):Int)==(1:Int))) (Co (Bc3 _ _ _) (Ax (Aym (((Mk 1 1 ([(4607182418800017408:Int)]) 1 1 ([(4611686018427387904:Int)]) 0 1 [] 4607182418800017408).2.2.2)==(0:Int)) ((length ((Mk 1 1 ([(4607182418800017408:Int)]) 1 1 ([(4611686018427387904:Int)]) 0 1 [] 4607182418800017408).2.2.1):Int)==(1:Int))) (Ax (Aym (((Mk 1 1 ([(4607182418800017408:Int)]) 1 1 ([(4611686018427387904:Int)]) 0 1 [] 4607182418800017408).2.2.2)==(0:Int)) ((length ((Mk 1 1 ([(4607182418800017408:Int)]) 1 1 ([(4611686018427387904:Int)]) 0 1 [] 4607182418800017408).2.2.1):Int)==(1:Int))) (Ax (Bah (((Mk 1 1 ([(4607182418800017408:Int)]) 1 1 ([(4611686018427387904:Int)]) 0 1 [] 4607182418800017408).2.2.2)==(0:Int)) ((length ((Mk 1 1 ([(4607182418800017408:Int)]) 1 1 ([(4611686018427387904:Int)]) 0 1 [] 4607182418800017408).2.2.1):Int)==(1:Int))) rfl))) rfl)))))))) rfl)
abbrev Er.Ji.Kn:=E8 prog 33 Er.Ji.spec
theorem Er.Ji.Ei(hk:Hh prog Er.Ji.J4)(h:Unit->Hyp Er.Ji.E f33 Er.Ji.ts Er.Ji.pre Er.Ji.out):Er.Ji.Kn :=Ij (Pq hk _ _ _) func33 (by kernel_rfl) (by kernel_rfl) (h ())
theorem Er.one.Ae:Kq 89 Er.one.spec:=Eb Er.one.E Tryz.func89 .nil fun b _ =>
 ⟨0,_,[4],Er.one.ev 0 b,Uu (zf.2 rfl)⟩
theorem A4a:Mk 1 1 [4607182418800017408] 1 1 [4611686018427387904] 0 1 [] 4607182418800017408=(1,1,[4611686018427387904],0):=by decide +kernel
theorem Ats{x:Int}(h:decide (0<=x/\x<18446744073709551616)=true):Ah [x]=true:=Ak.2 fun y hy=>by rw[zf.1 hy]; exact Ak.2 (Bff h)
theorem Er.Ji.Ae:Er.Ji.Kn:=Er.Ji.Ei (kc Er.one.Ae (kc B8.Yq.Ae .nil)) fun _ _=>by
 have a1:Ar6 [4607182418800017408] [4611686018427387904] []=true:=by unfold Ar6;rw[Ats (by decide),Ats (x:=4611686018427387904) (by decide),Vy]; rfl
 have a2:Af 4607182418800017408=true:=Ak.2 (by decide);refine⟨0,Er.Ji.out [],[],?_,.bool⟩;rw[Er.Ji.ev,a1,a2,A4a];rfl
def B8.Fl.two.hint:Nat->Option A9
 | 0=>some { keep:=[6,7,8],objs:=[],boxes:=[] }
 | _=>none
def B8.Fl.two.E:=C6 (Cw [(69,D2.Check.spec)]) (fun _=>false) B8.Fl.two.hint (fun _=>none)
theorem B8.Fl.two.ev(N:Nat)(r c:Int)(l:List Int)(p q:Int)(m:List Int):Bv B8.Fl.two.E (N+4) f76 (Aj f76) [.recs .arg 3 [[.int .i64 r,.int .i64 c,.ints .arg .u64 l],[.int .i64 p,.int .i64 q,.ints .arg .u64 m]]]=cond (Ah l) (bif ((Ci r c l) !=(0:Int)) then some (.int .i64 (Ci r c l)) else bif (Ah m) then cond ((Ci p q m) !=(0:Int)) (some (.int .i64 (Ci p q m))) (some (.int .i64 0)) else none) none:=by kernel_rfl
def B8.Total.hint:Nat->Option A9
 | 0=>some { keep:=[4,15,16,83,84,85],objs:=[(17,2,117002,.ints 43 .u64 [])],boxes:=[4,16] }
 | _=>none
def B8.Total.J4:List (Nat × Fy):=[(80,compare.Nc.spec),(78,compare.Ta.spec),(77,Aa.Cs.spec),(68,Aa.Fi.spec),(76,B8.Fl.two.spec),(81,soft.Eg.spec),(64,Cn.A2.spec),(82,Ai.Div.spec),(66,Ai.Finite.spec),(79,Ai.Cc.spec)]
def B8.Total.live:Nat->Option (List Nat)
 | 7=>some [2,3,4,7]
 | 8=>some [4,7,8]
 | 11=>some [4,7,11]
 | 21=>some [4,16]
 | _=>none
def B8.Total.E:Env:=C6 (Cw B8.Total.J4) (fun _=>false) B8.Total.hint B8.Total.live
section
variable(N M:Nat)(r c:Int)(l:List Int)(p q:Int)(m:List Int)(p8 p8_1:Int)(p8_2:List Int)(p11 p11_1:Int)(p11_2:List Int)(p85:Int)(p2:List Int)(p10 p10_1:Int)(p10_2:List Int)
def B8.Total.C7:Option DV:=cutAt B8.Total.E N f31 (Aj f31) [1,1,1,1] [] ⟨F3 105 [(2,.ptr 2 0 0),(3,.ptr 3 0 0),(4,.ptr 4 0 0),(7,.int .i64 c)],[(21,false,.recs 24 3 [[.int .i64 r,.int .i64 c,.ints .arg .u64 l],[.int .i64 p,.int .i64 q,.ints .arg .u64 m]]),(4,false,.box [.int .i64 0,.int .i64 0,.nil]),(3,false,.box [.int .i64 p,.int .i64 q,.ints .arg .u64 m]),(2,false,.box [.int .i64 r,.int .i64 c,.ints .arg .u64 l])]⟩
def B8.Total.C8:Option DV:=cutAt B8.Total.E N f31 (Aj f31) [1,1,1,1,1] [] ⟨F3 105 [(4,.ptr 4 0 0),(7,.int .i64 c),(8,.ptr 8 0 0)],[(8,false,.box [.int .i64 p8,.int .i64 p8_1,.ints .fresh .u64 p8_2]),(21,false,.recs 24 3 [[.int .i64 r,.int .i64 c,.ints .arg .u64 l],[.int .i64 p,.int .i64 q,.ints .arg .u64 m]]),(4,false,.box [.int .i64 0,.int .i64 0,.nil]),(3,false,.box [.int .i64 p,.int .i64 q,.ints .arg .u64 m]),(2,false,.box [.int .i64 r,.int .i64 c,.ints .arg .u64 l])]⟩
def B8.Total.C11:Option DV:=cutAt B8.Total.E N f31 (Aj f31) [1,1,1,1,1,1,1] [] ⟨F3 105 [(4,.ptr 4 0 0),(7,.int .i64 c),(11,.ptr 11 0 0)],[(11,false,.box [.int .i64 p11,.int .i64 p11_1,.ints .fresh .u64 p11_2]),(10,false,.box [.int .i64 p10,.int .i64 p10_1,.ints .arg .u64 p10_2]),(8,false,.box [.int .i64 p8,.int .i64 p8_1,.ints .fresh .u64 p8_2]),(21,false,.recs 24 3 [[.int .i64 r,.int .i64 c,.ints .arg .u64 l],[.int .i64 p,.int .i64 q,.ints .arg .u64 m]]),(4,false,.box [.int .i64 0,.int .i64 0,.nil]),(3,false,.box [.int .i64 p,.int .i64 q,.ints .arg .u64 m]),(2,false,.box [.int .i64 r,.int .i64 c,.ints .arg .u64 l])]⟩
def B8.Total.L0:Option DV:=B2 B8.Total.E N f31 (Aj f31) [1,1,1,1,1,1,1,1,1,1,1,0,1,0] [] M ⟨F3 105 [(4,.ptr 4 0 0),(15,.int .u64 (getD (B3 p11_1 p11_2 c 0 (toNat (p11-0))) (toNat c) 0)),(16,.ptr 16 0 0),(83,.ints .fresh .u64 (zt (toNat c) (B3 p11_1 p11_2 c 0 (toNat (p11-0))))),(84,.int .i64 (length (zt (toNat c) (B3 p11_1 p11_2 c 0 (toNat (p11-0)))):Int)),(85,.int .i64 p85)],[(4,false,.box [.int .i64 0,.int .i64 0,.nil]),(16,false,.box [.int .i64 c,.int .i64 1,.oref 117002]),(117002,false,.ints 43 .u64 p2)]⟩
def B8.Total.C21:Option DV:=cutAt B8.Total.E N f31 (Aj f31) [1,1,1,1,1,1,1,1,1,1,1,1,0] [] ⟨F3 105 [(4,.ptr 4 0 0),(16,.ptr 16 0 0)],[(4,false,.box [.int .i64 0,.int .i64 0,.nil]),(16,false,.box [.int .i64 c,.int .i64 1,.oref 117002]),(117002,false,.ints 43 .u64 p2)]⟩
theorem B8.Total.Ao0:B8.Total.C7 N r c l p q m =
 B8.Total.C8 N r c l p q m ((Kb r c l p q m).1) ((Kb r c l p q m).2.1) ((Kb r c l p q m).2.2.1):=(D3 _ _ _ _ _ _ _).trans (by kernel_rfl)
theorem B8.Total.Ai9:B8.Total.C8 N r c l p q m p8 p8_1 p8_2=cond (Ah p8_2) (bif ((Jy p8 p8_1 p8_2) !=(0:Int)) then some (.tup [.agg [.int .i64 0,.int .i64 0,.nil],.int .i64 (Jy p8 p8_1 p8_2)]) else B8.Total.C11 N r c l p q m p8 p8_1 p8_2 ((I8 p8 p8_1 p8_2).1) ((I8 p8 p8_1 p8_2).2.1) ((I8 p8 p8_1 p8_2).2.2.1) ((Iw p8 p8_1 p8_2).1) ((Iw p8 p8_1 p8_2).2.1) ((Iw p8 p8_1 p8_2).2.2.1)) none:=(D3 _ _ _ _ _ _ _).trans (by kernel_rfl)
theorem B8.Total.Ags:B8.Total.C11 N r c l p q m p8 p8_1 p8_2 p11 p11_1 p11_2 p10 p10_1 p10_2=cond (Gu p11 p11_1 p11_2 c&&Bq (0<=(0:Int)/\(0:Int)<=p11)) (bif ((decide (0<=c))&&(decide (c<(length (B3 p11_1 p11_2 c 0 (toNat (p11-0))):Int)))) then cond (Dk 4607182418800017408 (-20:Int)) (bif (Af (getD (B3 p11_1 p11_2 c 0 (toNat (p11-0))) (toNat c) 0)) then cond (Af (A7 4607182418800017408 (-20:Int))&&Af (Hq (getD (B3 p11_1 p11_2 c 0 (toNat (p11-0))) (toNat c) 0))) (bif (!(decide (Hp (A7 4607182418800017408 (-20:Int)) (Hq (getD (B3 p11_1 p11_2 c 0 (toNat (p11-0))) (toNat c) 0))<0))) then some (.tup [.agg [.int .i64 0,.int .i64 0,.nil],.int .i64 7]) else bif ((decide ((0:Int)<=c))&&(decide (c<=(length (B3 p11_1 p11_2 c 0 (toNat (p11-0))):Int)))) then B8.Total.L0 N N c p11 p11_1 p11_2 0 [] else none) none else none) none else none) none :=
 yL ((D3 _ _ _ _ _ _ _).trans (by kernel_rfl))
 (Es (Es (Es (Es (Es (Es rfl (Co (Kz _ _) rfl rfl)) rfl) rfl) rfl) rfl) rfl)
theorem B8.Total.Ar:B8.Total.L0 N (M+1) c p11 p11_1 p11_2 p85 p2=cond (Bc p85 (length (zt (toNat c) (B3 p11_1 p11_2 c 0 (toNat (p11-0)))):Int)) (bif ((decide (0<=p85))&&(decide (p85<(length (zt (toNat c) (B3 p11_1 p11_2 c 0 (toNat (p11-0)))):Int)))) then cond (Af (getD (zt (toNat c) (B3 p11_1 p11_2 c 0 (toNat (p11-0)))) (toNat p85) 0)&&Af (getD (B3 p11_1 p11_2 c 0 (toNat (p11-0))) (toNat c) 0)) (bif (Af (E2 (getD (zt (toNat c) (B3 p11_1 p11_2 c 0 (toNat (p11-0)))) (toNat p85) 0) (getD (B3 p11_1 p11_2 c 0 (toNat (p11-0))) (toNat c) 0))) then cond (decide ((length p2)+1<=G2)) (B8.Total.L0 N M c p11 p11_1 p11_2 (Ad (p85+1)) (p2++[(B7 (E2 (getD (zt (toNat c) (B3 p11_1 p11_2 c 0 (toNat (p11-0)))) (toNat p85) 0) (getD (B3 p11_1 p11_2 c 0 (toNat (p11-0))) (toNat c) 0)))])) none else none) none else none) (B8.Total.C21 N c p2) :=Et (Es (Es (Co (Cb _) (Co (Cb _) (Co (Cb _) rfl rfl) rfl) rfl) rfl) rfl)
theorem B8.Total.A86:B8.Total.C21 N c p2=cond (By p2) (bif (!(Ds p2)) then some (.tup [.agg [.int .i64 0,.int .i64 0,.nil],.int .i64 2]) else some (.tup [.agg [.int .i64 c,.int .i64 1,.ints (.own 117002 43) .u64 p2],.int .i64 0])) none:=(D3 _ _ _ _ _ _ _).trans (by kernel_rfl)
theorem B8.Total.ev:Bv B8.Total.E N f31 (Aj f31) [.agg [.int .i64 r,.int .i64 c,.ints .arg .u64 l],.agg [.int .i64 p,.int .i64 q,.ints .arg .u64 m]]=cond (Ah l&&Ah m) (bif ((Ac2 r c l p q m) !=(0:Int)) then some (.tup [.agg [.int .i64 0,.int .i64 0,.nil],.int .i64 (Ac2 r c l p q m)]) else bif ((((p !=r)||(q !=(1:Int)))||(c==(0:Int)))||(Bc 6 (Ad (c+1)))) then some (.tup [.agg [.int .i64 0,.int .i64 0,.nil],.int .i64 3]) else B8.Total.C7 N r c l p q m) none :=Et (Es (Es rfl (Ax (Uw (p !=r)) (Ax (Te (p !=r)) (Ax (Te (p !=r)) (Ax (tt6 (p !=r)) (Ax (Agu (p !=r) (q !=(1:Int))) (Ax (Agv (p !=r) (q !=(1:Int))) (Ax (Apj (p !=r) (q !=(1:Int))) (Ax (Apk (p !=r) (q !=(1:Int)) (c==(0:Int))) (Ax (Aly (p !=r) (q !=(1:Int)) (c==(0:Int))) (Ax (Aly (p !=r) (q !=(1:Int)) (c==(0:Int))) (Ax (Ayn (p !=r) (q !=(1:Int)) (c==(0:Int))) (Co (Baa _ _ _ _) rfl rfl))))))))))))) rfl)
end
theorem B8.Fl.two.Ae:Kq 76 B8.Fl.two.spec:=Eb B8.Fl.two.E Tryz.func76 (kc D2.Check.Ae .nil) fun r c l p q m hp=>by
 obtain⟨al,am⟩:=Ac.1 (show(Ah l&&Ah m)=true from hp);refine⟨0+4,.int .i64 (Ac2 r c l p q m),[],?_,.int⟩;rw[B8.Fl.two.ev,al,am,Bep,Bep];unfold Ac2;by_cases k1:Ci r c l=0
 ·rw[Kh k1,Bet,Bfb (fun h=>h k1)];by_cases k2:Ci p q m=0
  ·rw[Kh k2,Bet,k2]
  ·rw[neI k2,Bep]
 ·rw[neI k1,Bep,Bfc k1]
theorem Aj3{c b:Int}{l:List Int}{n j:Nat}(h:j<n):(B3 c l b 0 n).getD j 0=C1 c l (j:Int) b:=by unfold B3;rw[Bez,Bf6,yv h];show C1 c l (0+(j:Int)) b=_;rw[Int.zero_add]
theorem A15{r c:Int}{l:List Int}(h:Ci r c l=0):Az r c l=true/\Ds l=true:=by
 unfold Ci at h;by_cases h1:Az r c l=true
 ·rw[Bfc h1] at h;by_cases h2:Ds l=true
  ·exact⟨h1,h2⟩
  ·rw[Bfb h2] at h; cases h
 ·rw[Bfb h1] at h; cases h
theorem Atv{c i k:Int}{l:List Int}(h:Ds l=true):Dl (C1 c l i k)=true:=by
 unfold C1;rw[Bez];rcases Bfm (i*c+k).toNat l.length with g | g
 ·rw[Be6 g]; exact zJ.1 h _ (List.getElem_mem g)
 ·rw[Bf7 g]; rfl
def Dn(R C:Nat)(l m:List Int):List Int:=B0 R (C+1) fun i k=>C9 (C:Int) l 1 m (i:Int) (k:Int)
theorem Aae(R C:Nat)(l m:List Int):(Dn R C l m).length=R*(C+1):=B5 _ _ _
theorem Ala{R C:Nat}{l m:List Int}(al:Ah l=true)(am:Ah m=true):Ah (Dn R C l m)=true:=I3 fun i k=>by
 unfold C9;split
 ·exact Hn al
 ·exact Hn am
theorem A19{R C:Nat}{l m:List Int}(al:Ds l=true)(am:Ds m=true):Ds (Dn R C l m)=true:=zJ.2 fun x hx=>by
 obtain⟨j,_,rfl⟩:=zw.1 hx;show Dl (C9 _ _ _ _ _ _)=true;unfold C9;split
 ·exact Atv al
 ·exact Atv am
def A3r(C:Nat)(V:List Int)(i:Nat):Int:=B7 (E2 (C1 ((C:Int)+1) V (i:Int) (C:Int)) (C1 ((C:Int)+1) V (C:Int) (C:Int)))
theorem Yx(C:Nat)(V:List Int):Rl (C:Int) V=(zh C).map (A3r C V):=by unfold Rl; rw[Ber]; rfl
theorem A7h(C:Nat)(V:List Int):Ah (Rl (C:Int) V)=true:=by rw[Yx]; exact Vz fun _=>O6 (J9 _ _)
theorem Asu(C:Nat)(V:List Int):(Rl (C:Int) V).length=C:=by rw[Yx,Bfv,Bfs]
section
variable{C:Nat}{V:List Int}(c6:C<6)(hV:V.length=(C+1)*(C+1))(aV:Ah V=true)(N:Nat)
include c6 aV
theorem A7i:∀(d k F:Nat),k+d=C->d<F ->
 B8.Total.L0 N F (C:Int) ((C:Int)+1) ((C:Int)+1) V (k:Int) ((zh k).map (A3r C V))=B8.Total.C21 N (C:Int) (Rl (C:Int) V):=by
 have e1:toNat (((C:Int)+1)-(0:Int))=C+1:=by omega
 have lt:(zt C (B3 ((C:Int)+1) V (C:Int) 0 (C+1))).length=C:=by rw[zI,E1]; omega
 have eu:getD (B3 ((C:Int)+1) V (C:Int) 0 (C+1)) C 0=C1 ((C:Int)+1) V (C:Int) (C:Int):=Aj3 (by omega);intro d
 induction d with
 | zero =>
   intro k F hk hF;obtain⟨F,rfl⟩:∃G,F=G+1:=⟨F-1,by omega⟩
   obtain rfl:k=C:=by omega
   rw[B8.Total.Ar,e1,Ber,lt,As,Beu (by omega),Bet,Yx]
 | succ d ih =>
   intro k F hk hF;obtain⟨F,rfl⟩:∃G,F=G+1:=⟨F-1,by omega⟩
   have ek:getD (zt C (B3 ((C:Int)+1) V (C:Int) 0 (C+1))) k 0=C1 ((C:Int)+1) V (k:Int) (C:Int):=by rw[Bez,List.getElem?_take_of_lt (by omega),<- Bez];exact Aj3 (by omega)
   have a1:decide ((0:Int)<=(k:Int))=true:=Beq (by omega);have a2:decide ((k:Int)<(C:Int))=true:=Beq (by omega);rw[B8.Total.Ar,e1,show toNat ((C:Nat):Int)=C from Ber C,lt,As,a1,a2,Bep,Bev,Bep,show toNat ((k:Nat):Int)=k from Ber k,ek,eu,Hn aV,Hn aV,Bev,Bep,J9,Bep,Beq (by rw[Bfv,Bfs]; unfold G2; omega),Bep,An (by omega) (by omega)];have:=ih (k+1) F (by omega) (by omega);rw[y7,yq] at this;exact this
include hV
theorem A3o(r c:Int)(l:List Int)(p q:Int)(m:List Int)(p8 p8_1:Int)(p8_2:List Int)(p10 p10_1:Int)(p10_2:List Int)(hN:6<N)(hc:c=(C:Int)) :
 ∃dv,B8.Total.C11 N r c l p q m p8 p8_1 p8_2 ((C:Int)+1) ((C:Int)+1) V p10 p10_1 p10_2=some dv/\Wk [117002] dv (Uo (Ays (C:Int) V)):=by
 subst hc;have e1:toNat (((C:Int)+1)-(0:Int))=C+1:=by omega
 have eC:(C:Int)+1=((C+1:Nat):Int):=by omega
 have ln:(B3 ((C:Int)+1) V (C:Int) 0 (C+1)).length=C+1:=E1 ..;have eu:getD (B3 ((C:Int)+1) V (C:Int) 0 (C+1)) C 0=C1 ((C:Int)+1) V (C:Int) (C:Int):=Aj3 (by omega)
 have cp:(Gu ((C:Int)+1) ((C:Int)+1) V (C:Int)&&Bq (0<=(0:Int)/\(0:Int)<=(C:Int)+1))=true:=by refine Ac.2 ⟨Ac.2 ⟨?_,Ak.2 (by omega)⟩,Ak.2 (by omega)⟩;rw[eC]; exact Ep (by omega) (by omega) hV
 have sp:Dk (4607182418800017408:Int) (-20:Int)=true:=Ac.2 ⟨Pk,Ak.2 (by decide)⟩;rw[B8.Total.Ags,cp,Bep,e1,ln,Beq (show(0:Int)<=(C:Int) by omega),Beq (show(C:Int)<((C+1:Nat):Int) by omega),Bev,Bep,sp,Bep,show toNat ((C:Nat):Int)=C from Ber C,eu,Hn aV,Bep,Hs Pk,Q7,Bev,Bep];unfold Ays;show ∃dv,(cond (!(Sz (A7 Va (-20)) (Hq (C1 ((C:Int)+1) V (C:Int) (C:Int))))) _ _)=some dv/\_;cases Sz (A7 Va (-20)) (Hq (C1 ((C:Int)+1) V (C:Int) (C:Int))) with
 | false =>rw[Bfb (by decide)];exact⟨_,rfl,Jm⟩
 | true =>
   rw[Bfc rfl,Bfo,Bet,Beq (show(C:Int)<=((C+1:Nat):Int) by omega),Bev,Bep];have:=A7i c6 aV N C 0 N (by omega) (by omega);have this:B8.Total.L0 N N (C:Int) ((C:Int)+1) ((C:Int)+1) V (0:Int) []=_:=this;rw[this,B8.Total.A86,Gz (A7h C V) (by rw[Asu]; omega),Bep];unfold W9;cases Ds (Rl (C:Int) V) with
   | true =>rw[Bfc rfl];exact⟨_,rfl,Wk.Ik (.cons (Uu (zf.2 rfl)) (.cons .int .nil))⟩
   | false =>rw[Bfb (by decide)];exact⟨_,rfl,Jm⟩
end
theorem B8.Total.Ae:Kq 31 B8.Total.spec:=Eb B8.Total.E Tryz.func31 (kc compare.Nc.Ae (kc compare.Ta.Ae (kc Aa.Cs.Ae (kc Aa.Fi.Ae (kc B8.Fl.two.Ae (kc soft.Eg.Ae (kc Cn.A2.Ae (kc Ai.Div.Ae (kc Ai.Finite.Ae (kc Ai.Cc.Ae .nil)))))))))) fun r c l p q m hp=>by
 have hall:(Ah l&&Ah m)=true:=hp;obtain⟨al,am⟩:=Ac.1 hall;show ∃N dv drops,_=some dv/\Wk drops dv (Uo (D9 r c l p q m));unfold D9;by_cases k:Ac2 r c l p q m=0
 ·have k1:Ci r c l=0:=by
   unfold Ac2 at k;by_cases h:Ci r c l=0
   ·exact h
   ·rw[Bfc h] at k; exact k
  have k2:Ci p q m=0:=by unfold Ac2 at k; rw[Bfb (fun h=>h k1)] at k; exact k
  obtain⟨hr,_⟩:=A15 k1;obtain⟨hm,_⟩:=A15 k2;rw[Bfb (fun h=>h k)];obtain⟨R,C,rfl,rfl,r6,c6,hl⟩:=Cp hr;have ew:Ad ((C:Int)+1)=(C:Int)+1:=An (by omega) (by omega);by_cases g:p≠(R:Int)\/q≠1\/(C:Int)=0\/6<=(C:Int)
  ·rw[Bfc g]
   have e:((((p !=(R:Int))||(q !=(1:Int)))||((C:Int)==(0:Int)))||(Bc (6:Int) ((C:Int)+1)))=true:=by rw[As];simp only[zK,bne_iff_ne,beq_iff_eq,Bew];omega
   exact⟨0,_,[],by rw[B8.Total.ev,hall,Bep,Kh k,Bet,ew,e,Bep]; rfl,Jm⟩
  ·have g1:p=(R:Int)/\q=1/\(C:Int)≠0/\(C:Int)<6:=by omega
   obtain⟨rfl,rfl,g3,g4⟩:=g1;rw[Bfb g]
   have e:((((((R:Int)) !=(R:Int))||(((1:Int)) !=(1:Int)))||((C:Int)==(0:Int)))||(Bc (6:Int) ((C:Int)+1)))=false:=by rw[As,Beu (by omega),show((R:Int) !=(R:Int))=false by simp,show((C:Int)==(0:Int))=false by simpa using g3];rfl
   have eC:(C:Int)+1=((C+1:Nat):Int):=by omega
   have eb:Kb (R:Int) (C:Int) l (R:Int) 1 m=((R:Int),(C:Int)+1,Dn R C l m,0):=by unfold Kb Dn;rw[hr,hm,Bev,Bfc rfl,Bfc ⟨rfl,by omega⟩,eC,Ber,Ber]
   have ab:=Ala (R:=R) (C:=C) al am
   have e0:Bv B8.Total.E 8 Tryz.f31 (Aj Tryz.f31) [.agg [.int .i64 (R:Int),.int .i64 (C:Int),.ints .arg .u64 l],.agg [.int .i64 (R:Int),.int .i64 1,.ints .arg .u64 m]] =
    B8.Total.C8 8 (R:Int) (C:Int) l (R:Int) 1 m (R:Int) ((C:Int)+1) (Dn R C l m):=by
    rw[B8.Total.ev,hall,Bep,Kh k,Bet,ew,e,Bet,B8.Total.Ao0,eb]
   rw[eb];unfold A3p;by_cases hE:Jy (R:Int) ((C:Int)+1) (Dn R C l m)=0
   ·rw[Bfb (fun h=>h hE)];have hi:Jk R (C+1) ((Dj R (C+1) (Dn R C l m)).1,(Dj R (C+1) (Dn R C l m)).2.1,true):=Jk.Ec 60 (V6 (Aae R C l m) ab);have hV:(Gw R (C+1) (Dn R C l m)).length=(C+1)*(C+1):=Hd ..;have aV:Ah (Gw R (C+1) (Dn R C l m))=true:=Oi hi.2.2;obtain⟨dv,h1,h2⟩:=A3o (by omega) hV aV 8 (R:Int) (C:Int) l (R:Int) 1 m (R:Int) ((C:Int)+1) (Dn R C l m) ((Iw (R:Int) ((C:Int)+1) (Dn R C l m)).1) ((Iw (R:Int) ((C:Int)+1) (Dn R C l m)).2.1) ((Iw (R:Int) ((C:Int)+1) (Dn R C l m)).2.2.1) (by decide) rfl
    have ev:I8 (R:Int) ((C:Int)+1) (Dn R C l m)=((C:Int)+1,(C:Int)+1,Gw R (C+1) (Dn R C l m),0):=by unfold I8;rw[Bfb (fun h=>h hE),eC,Ber,Ber]
    refine⟨8,dv,[117002],e0.trans ?_,?_⟩
    ·rw[B8.Total.Ai9,ab,Bep,Kh hE,Bet,ev];exact h1
    ·rw[Ber,eC,Ber];exact h2
   ·rw[Bfc hE];exact⟨8,_,[],e0.trans (by rw[B8.Total.Ai9,ab,Bep,neI hE,Bep]; rfl),Jm⟩
 ·rw[Bfc k];exact⟨0,_,[],by rw[B8.Total.ev,hall,Bep,neI k,Bep]; rfl,Jm⟩
section
variable{C:Nat}{V:List Int}(c6:C<6)(hV:V.length=(C+1)*(C+1))(aV:Ah V=true)(N:Nat)(p7 p7_1:Int)(p7_2 p7_6:List Int)(p7_7:Int)
include c6 hV aV
end
end Go.Proofs.S1
namespace Go.Ct
open Go.Den
structure Fw(x:Int):Prop where
 word:Af x=true
 fin:Dl x=true
end Go.Ct
namespace Go.Proofs.S1
open Go Go.Den Go.Ct Go.Proofs
theorem Amr{R C:Nat}{l:List Int}(hl:l.length=R*C){I:Nat}(hI:I<R):F6 (C:Int) l (I:Int)=(zh C).map fun k:Nat=>C1 (C:Int) l (I:Int) (k:Int):=by
 have hlen:=Xz hl hI;have e1:((I:Int)*(C:Int)).toNat=I*C:=by rw[<- Bfa,Ber]
 have e2:(((I:Int)+1)*(C:Int)).toNat=(I+1)*C:=by
  have:((I:Int)+1)*(C:Int)=(((I+1)*C:Nat):Int):=by rw[Bfa]; rfl
  rw[this,Ber]
 refine Vj (by rw[hlen,Bfv,Bfs]) fun j hj=>?_
 rw[hlen] at hj;have hp:=Hk hI hj;have h1:(I+1)*C=I*C+C:=by rw[Bft,Nat.one_mul]
 rw[Bf6,yv hj];unfold F6;rw[List.getElem?_drop,e1,e2,List.getElem?_take,Bfc (by omega)];show l[I*C+j]?=some (C1 (C:Int) l (I:Int) (j:Int));rw[T6,Bez,Be6 (by omega)];rfl
open Go Go.Den Go.Ct Go.Proofs
def BL(k:Nat)(l:List Int):Prop:=∀x∈l,Bd k x.toNat
theorem A3v{k:Nat}{x:Int}(h:Ahq (k:Int) x=true):Bd k x.toNat:=by
 unfold Ahq at h;rw[Be0,zK,Be0,Bew,Bew,Bew] at h;obtain⟨hf,h⟩:=h;refine .A77 hf fun h0=>?_
 have kn:Ag x.toNat≠0:=fun e=>by
  unfold Ag at e;unfold Ap at h0;split at e
  ·split at e<;>omega
  ·split at e
   ·omega
   ·split at e
    ·omega
    ·rw[Bfc (by omega)] at h0; omega
 rcases h with h | ⟨_,h⟩
 ·exact absurd (show Ag x.toNat=0 by unfold Bb at h; omega) kn
 ·unfold Bs Pp at h;rw[Bfc ⟨hf,kn⟩] at h;exact h
theorem Aav{k:Nat}{l:List Int}(h:Mr l (k:Int)=true):BL k l/\Ds l=true:=by unfold Mr at h;rw[zJ] at h;refine⟨fun x hx=>A3v (h x hx),?_⟩;unfold Ds;rw[zJ];exact fun x hx=>(Ac.1 (h x hx)).1
end Go.Proofs.S1
namespace Go.Ct
open Go.Den Go.Proofs.S1
theorem Alb{R C:Nat}{l m:List Int}{i k:Nat}(hi:i<R)(hk:k<C+1):C1 ((C+1:Nat):Int) (Dn R C l m) (i:Int) (k:Int)=if k<C then C1 (C:Int) l (i:Int) (k:Int) else C1 1 m (i:Int) 0:=by
 unfold Dn;rw[Ju hi hk];unfold C9;by_cases h:k<C
 ·rw[Bfc (by omega),Bfc h]
 ·rw[Bfb (by omega),Bfb h,show(k:Int)-(C:Int)=0 by omega]
theorem Aoo{R C:Nat}{l m:List Int}{P:Int->Prop}(hl:l.length=R*C)(hm:m.length=R*1)(h:∀x∈l,P x)(g:∀x∈m,P x):∀x∈Dn R C l m,P x:=fun x hx=>by
 obtain⟨i,k,hi,hk,rfl⟩:=Wo (Aae R C l m) hx;rw[Alb hi hk];split
 ·exact h _ (La hl hi ‹_›)
 ·exact g _ (La (n:=1) hm hi (k:=0) (by decide))
theorem A24{R n:Nat}{l:List Int}(bl:Bl 20 l)(al:Ah l=true)(hl:l.length=R*n)(r6:R<=6)(n6:n<=6):(Ds (Gv R n l)&&Ds (Gw R n l))=true:=by obtain⟨F,m,_,_,_,pi,_⟩:=Ahf bl al hl r6 n6;rw[(A27 pi bl (by decide)).Pu,(A28 pi).Pu];rfl
theorem Apn{r c p q:Int}{l m:List Int}(hr:Az r c l=true)(hr2:Az p q m=true)(al:Ah l=true)(am:Ah m=true)(t1:Mr l 20=true)(t2:Mr m 20=true) :
 D9 r c l p q m=N6 3\/D9 r c l p q m=N6 6\/D9 r c l p q m=N6 7 \/
 ∃R C:Nat,∃X,r=R/\c=C/\p=R/\q=1/\R<=6/\C+1<=6/\l.length=R*C/\m.length=R*1/\Jy (R:Int) ((C+1:Nat):Int) (Dn R C l m)=0 /\
  D9 r c l p q m=((C:Int),1,X,0)/\X.length=C*1/\Bl 26 X /\
  Zb R C 1 l X m<=(Fo (Bk (Dz R (C+1) (Gv R (C+1) (Dn R C l m)) C))*Fo (Bk (Dz R (C+1) (Gv R (C+1) (Dn R C l m)) C))+R8 (Dn R C l m)*tw (-30))*(R8 X+1):=by
 have f:=fun {z:List Int} (h:Mr z 20=true)=>Aav (k:=20) h
 have g:=fun {z:List Int} (h:Mr z 20=true)=>A3u (k:=20) h
 have k1:=Ak8 hr (f t1).2;have k2:=Ak8 hr2 (f t2).2;have ck:Ac2 r c l p q m=0:=by unfold Ac2; rw[Bfb (fun k=>k k1)]; exact k2
 unfold D9;rw[Bfb (fun k=>k ck)];by_cases ks:p≠r\/q≠1\/c=0\/6<=c
 ·exact .inl (Bfc ks)
 rw[Bfb ks];obtain⟨R,C,rfl,rfl,r6,c6,hl⟩:=Cp hr;obtain⟨P,Q,rfl,rfl,p6,q6,hm⟩:=Cp hr2;obtain rfl:P=R:=by omega
 obtain rfl:Q=1:=by omega
 have eC:(C:Int)+1=((C+1:Nat):Int):=by omega
 have eb:(Kb (P:Int) (C:Int) l (P:Int) ((1:Nat):Int) m).2.2.1=Dn P C l m:=by unfold Kb Dn;rw[hr,hr2,Bev,Bfc rfl,Bfc ⟨rfl,by omega⟩,show(C:Int)+((1:Nat):Int)=((C+1:Nat):Int) by omega,Ber,Ber];rfl
 rw[eb];have ab:=Ala (R:=P) (C:=C) al am;have hb:=Aae P C l m;have bl:Bl 20 (Dn P C l m):=Aoo hl hm (f t1).1 (f t2).1;have tl:TL 20 (Dn P C l m):=Aoo hl hm (g t1) (g t2);have c6:C+1<=6:=by omega
 have ck2:Ci (P:Int) ((C+1:Nat):Int) (Dn P C l m)=0:=Ak8 (Ep r6 c6 hb) bl.Pu;unfold A3p;rw[eC];by_cases e6:(Dj P (C+1) (Dn P C l m)).2.2=0
 case neg =>
  have:Jy (P:Int) ((C+1:Nat):Int) (Dn P C l m)=6:=by unfold Jy;rw[Bfb (fun k=>k ck2),Ber,Ber,Bfc e6]
  rw[this];exact .inr (.inl (Bfc (by decide)))
 have e0:Jy (P:Int) ((C+1:Nat):Int) (Dn P C l m)=0:=by unfold Jy;rw[Bfb (fun k=>k ck2),Ber,Ber,Bfb (fun k=>k e6),A24 bl ab hb r6 c6,Bfc rfl]
 rw[Bfb (fun k=>k e0),Ber,Ber];unfold Ays;rw[eC];by_cases hless:Sz (A7 Va (-20)) (Hq (C1 ((C+1:Nat):Int) (Gw P (C+1) (Dn P C l m)) (C:Int) (C:Int)))=true
 case neg=>exact .inr (.inr (.inl (Bfb hless)))
 rw[Bfc hless];have lX:(Rl (C:Int) (Gw P (C+1) (Dn P C l m))).length=C:=Asu C _
 have xg:∀k,k<C->(Rl (C:Int) (Gw P (C+1) (Dn P C l m))).getD k 0=B7 (E2 (C1 ((C+1:Nat):Int) (Gw P (C+1) (Dn P C l m)) (k:Int) (C:Int)) (C1 ((C+1:Nat):Int) (Gw P (C+1) (Dn P C l m)) (C:Int) (C:Int))):=fun k hk=>by rw[Yx,Bez,Bf6,yv hk];show A3r C _ k=_;unfold A3r; rw[eC]
 obtain⟨n1,n2⟩:=Al1 hb ab bl tl r6 c6 hless (fun k=>(Rl (C:Int) (Gw P (C+1) (Dn P C l m))).getD k 0) xg
 have bX:Bl 26 (Rl (C:Int) (Gw P (C+1) (Dn P C l m))):=fun x hx=>by obtain⟨j,hj,rfl⟩:=List.mem_iff_getElem.1 hx;have:=n1 j (by omega);rw[Bez,Be6 hj] at this;exact this
 refine .inr (.inr (.inr ⟨P,C,Rl (C:Int) (Gw P (C+1) (Dn P C l m)),rfl,rfl,rfl,rfl,r6,c6,hl,hm,e0,?_,by rw[lX]; omega,bX,?_⟩))
 ·unfold W9; rw[Bfc bX.Pu]
 ·have eX:R8 (Rl (C:Int) (Gw P (C+1) (Dn P C l m)))=sm C fun k=>vR ((Rl (C:Int) (Gw P (C+1) (Dn P C l m))).getD k 0).toNat*vR ((Rl (C:Int) (Gw P (C+1) (Dn P C l m))).getD k 0).toNat:=by unfold R8;rw[Aa0,lX];rfl
  have eR:Zb P C 1 l (Rl (C:Int) (Gw P (C+1) (Dn P C l m))) m=sq P (fun i=>(sm C fun k=>Bw (C+1) (Dn P C l m) i k*vR ((Rl (C:Int) (Gw P (C+1) (Dn P C l m))).getD k 0).toNat)-Bw (C+1) (Dn P C l m) i C):=by
   unfold Zb sq;rw[Aa0];refine Ce P fun i hi=>?_
   have k:lkQ C l (Rl (C:Int) (Gw P (C+1) (Dn P C l m))) m 1 i 0=(sm C fun k=>Bw (C+1) (Dn P C l m) i k*vR ((Rl (C:Int) (Gw P (C+1) (Dn P C l m))).getD k 0).toNat)-Bw (C+1) (Dn P C l m) i C:=by
    unfold lkQ;rw[Aa0]
    have e2:Bw (C+1) (Dn P C l m) i C=Fo (C1 ((1:Nat):Int) m (i:Int) ((0:Nat):Int)):=by unfold Bw Fo;rw[Alb hi (Nat.lt_succ_self C),Bfb (Nat.lt_irrefl C)];rfl
    rw[e2];congr 1;refine Ce C fun j hj=>?_
    unfold Bw Fo;rw[Alb hi (by omega),Bfc hj];congr 3;unfold C1;congr 1;show((j:Int)*((1:Nat):Int)+((0:Nat):Int)).toNat=j;omega
   show(0:Rat)+lkQ C l (Rl (C:Int) (Gw P (C+1) (Dn P C l m))) m 1 i 0*lkQ C l (Rl (C:Int) (Gw P (C+1) (Dn P C l m))) m 1 i 0=_;rw[k]; grind
  rw[eX,eR];exact n2
end Go.Ct
namespace Go.Proofs.S1
open Go Go.Den Go.Ct Go.Proofs
set_option maxRecDepth 100000
def Am.single.hint:Nat->Option A9
 | 0=>some { keep:=[0,1,5,6,7],objs:=[(0,5,100005,.ints 121 .u32 [])],boxes:=[] }
 | _=>none
def Am.single.E:=C6 (Cw []) (fun _=>false) Am.single.hint (fun _=>none)
section
variable(N M:Nat)(a:List Int)(x p6 p7:Int)(p5:List Int)
def Am.single.L0:Option DV:=B2 Am.single.E N f115 (Aj f115) [1,1,1,0,1,0] [] M ⟨F3 39 [(0,.ints .arg .u32 a),(1,.int .u32 x),(5,.oref 100005),(6,.int .u64 p6),(7,.int .i64 p7)],[(100005,false,.ints 121 .u32 p5)]⟩
theorem Am.single.Ar:Am.single.L0 N (M+1) a x p6 p7 p5=cond (Bc p7 (length a:Int)) (bif ((decide (0<=p7))&&(decide (p7<(length a:Int)))) then cond (decide ((length p5)+1<=G2)) (Am.single.L0 N M a x (Bo (Int.tdiv (Bo ((Bo ((Bo (getD a (toNat p7) 0))*(Bo x)))+p6)) 4294967296)) (Ad (p7+1)) (p5++[(Ly (Int.tmod (Bo ((Bo ((Bo (getD a (toNat p7) 0))*(Bo x)))+p6)) 4294967296))])) none else none) (bif (decide ((length p5)+1<=G2)) then some (.ints (.own 38 121) .u32 (p5++[(Ly p6)])) else none):=by kernel_rfl
theorem Am.single.ev:Bv Am.single.E N f115 (Aj f115) [.ints .arg .u32 a,.int .u32 x] =
 Am.single.L0 N N a x 0 0 []:=by kernel_rfl
end
def Am.Mul.hint:Nat->Option A9
 | 0=>some { keep:=[2,3,4,5,6],objs:=[(0,5,100005,.ints 121 .u32 [])],boxes:=[2,3,4] }
 | _=>none
def Am.Mul.E:=C6 (Cw [(104,Am.Made.spec),(110,Am.plus.own.spec),(115,Am.single.spec)]) (fun n=>Nat.beq n 29) Am.Mul.hint (fun _=>none)
section
variable(N M:Nat)(n:Bool)(a:List Int)(m:Bool)(b:List Int)(p6:Int)(p5:List Int)
def Am.Mul.L0:Option DV:=B2 Am.Mul.E N f60 (Aj f60) [1,1,0,1,0] [] M ⟨F3 37 [(2,.ptr 2 0 0),(3,.ptr 3 0 0),(4,.ptr 4 0 0),(5,.oref 100005),(6,.int .i64 p6)],[(2,false,.box [.bool n,.ints .arg .u32 a]),(3,false,.box [.bool m,.ints .arg .u32 b]),(4,false,.box [.bool false,.nil]),(100005,false,.ints 121 .u32 p5)]⟩
theorem Am.Mul.Ar:Am.Mul.L0 N (M+1) n a m b p6 p5=cond (Fb 0 p6) (bif (decide (1+(length p5)<=G2)) then cond ((decide (0<=p6))&&(decide (p6<(length b:Int)))) (bif (J8 a&&A08 (getD b (toNat p6) 0)) then cond (J8 ([(0:Int)]++p5)&&J8 (singleL a (getD b (toNat p6) 0))) (Am.Mul.L0 N M n a m b (Ad (p6-1)) (Mw ([(0:Int)]++p5) (singleL a (getD b (toNat p6) 0)))) none else none) none else none) (bif (J8 p5) then some (.agg [.bool (Ba (wv (!(n==m)) p5)),.ints .arg .u32 (Al (wv (!(n==m)) p5))]) else none) :=Et (Es (Es (Co (Kz _ _) (Co (Cb _) (Co (Cb _) rfl rfl) rfl) rfl) rfl) rfl)
theorem Am.Mul.ev:Bv Am.Mul.E N f60 (Aj f60) [.agg [.bool n,.ints .arg .u32 a],.agg [.bool m,.ints .arg .u32 b]] =
 Am.Mul.L0 N N n a m b (Ad ((length b:Int)-1)) []:=by kernel_rfl
end
def Av.Mul.E:=E0 [(60,Am.Mul.spec),(39,Av.Of.spec)]
theorem Av.Mul.ev(N:Nat)(n:Bool)(a:List Int)(e:Int)(m:Bool)(b:List Int)(f:Int):Bv Av.Mul.E N f23 (Aj f23) [.agg [.bool n,.ints .arg .u32 a,.int .i64 e],.agg [.bool m,.ints .arg .u32 b,.int .i64 f]]=cond (okM n a&&okM m b) (bif (Nd (Ba (wv n a*wv m b)) (Al (wv n a*wv m b))&&X6 (Ad (e+f))) then some (.agg [.bool (Ba (mD (wv (Ba (wv n a*wv m b)) (Al (wv n a*wv m b))))),.ints .arg .u32 (Al (mD (wv (Ba (wv n a*wv m b)) (Al (wv n a*wv m b))))),.int .i64 (eD (wv (Ba (wv n a*wv m b)) (Al (wv n a*wv m b))) (Ad (e+f)))]) else none) none :=Et (Co (Cb _) (Co (Cb _) rfl rfl) rfl)
abbrev Av.Mul.q.Kn:Prop:=E8 prog 23 Av.Mul.q.spec
abbrev Am.plus.own.Kn:Prop:=E8 prog 110 Am.plus.own.spec
theorem Am.plus.own.call:∀(args:Array Value) (w:World),(callFunc 110 args).run prog w=.ok (.enter 110 args) w:=Mm func110 (by kernel_rfl) (show f110.body=some (Aj f110) by kernel_rfl)
theorem Am.plus.meets{E:Env}(he:Ke prog E){ts:List AT}{pre:List Hr->Bool}{out:List Hr->DV}(h:∀ats ds,Gb ts ats ds->pre ats=true->∃fuel d drops,Bv E fuel f110 (Aj f110) ds=some d/\Wk drops d (out ats)):Acx prog 110 (A6 ts pre out):=Vf he func110 (show f110.body=some (Aj f110) by kernel_rfl) h
open Go Go.Den Go.Ct Go.Proofs
theorem Adj{n:Bool}{l:List Int}(h:okM n l=true):∃v,n=Ba v/\l=Al v/\Ek v.natAbs<33554432:=by have h:=Ak.1 h;obtain⟨h1,h2,h3⟩:=h;obtain⟨e1,e2⟩:=Abz h2 h3;refine⟨wv n l,e1,e2,?_⟩;rw[e2,C0] at h1;exact h1
theorem Am.plus.own.Ae:Am.plus.own.Kn:=by refine⟨Am.plus.meets (E:=Am.plus.E) (Pq (kc Am.Q8.Ae .nil) _ _ _) fun ats dvs he hp=>?_,Am.plus.own.call⟩;obtain⟨a,_,_,rfl,rfl,he0⟩:=he.Amm;obtain⟨b,_,_,rfl,rfl,he1⟩:=he0.Amm;obtain⟨rfl,rfl⟩:=he1.Lf;obtain⟨ha,hb⟩:=Ac.1 (show(J8 a&&J8 b)=true from hp);refine⟨max a.length b.length+2,.ints (.own 100005 tW) .u32 (Mw a b),[],?_,.keep _ _ _ _ (List.not_mem_nil)⟩;rw[Am.plus.ev];exact Ah3 _ ha hb (max a.length b.length+1) 0 0 _ (by omega) (by omega) (by omega) (by simp)
theorem Ajw{x y c:Nat}(hx:x<4294967296)(hy:y<4294967296)(hc:c<4294967296):x*y+c<18446744073709551616:=by have:=Bfl (show x<=4294967295 by omega) (show y<=4294967295 by omega);omega
theorem Amh(N:Nat){a:List Int}{X:Nat}(ha:J8 a=true)(hX:X<4294967296):∀(k i c F:Nat),i+k=a.length->k<F->c<4294967296 ->
 Cv a / 2^(32*i)*X+c=Cv a*X / 2^(32*i) ->
 Am.single.L0 N F a (X:Int) (c:Int) (i:Int) (digits i (Cv a*X))=some (.ints (.own 38 tW) .u32 (singleL a (X:Int))):=by
 obtain⟨la,ia⟩:=Nl ha;intro k
 induction k with
 | zero =>
   intro i c F hi hF hc h;obtain⟨F,rfl⟩:∃G,F=G+1:=⟨F-1,by omega⟩
   have t0:decide ((i:Int)<(a.length:Int))=false:=Beu (by omega);have t1:decide ((digits i (Cv a*X)).length+1<=G2)=true:=Beq (by rw[Fm]; unfold G2; omega);have hz:Cv a / 2^(32*i)=0:=yc (by rw[show i=a.length by omega]; exact Nf ia);rw[hz,Nat.zero_mul,Bfz] at h;rw[Am.single.Ar,As,t0,Bet,t1,Bep,Lx (by omega) (by omega)];unfold singleL;rw[Ber,M6,<- show i=a.length by omega,<- h,Be2 hc]
 | succ k ih =>
   intro i c F hi hF hc h;obtain⟨F,rfl⟩:∃G,F=G+1:=⟨F-1,by omega⟩
   have t0:decide ((i:Int)<(a.length:Int))=true:=Beq (by omega);have t2:decide ((0:Int)<=(i:Int))=true:=Beq (by omega);have t1:decide ((digits i (Cv a*X)).length+1<=G2)=true:=Beq (by rw[Fm]; unfold G2; omega);rw[Am.single.Ar,As,t0,t1,t2];simp only[Bep,Bev];rw[Ber,R0 ia i];have ih:=ih (i+1);rw[Ps,Bfd 4294967296,<- Bfi,<- Bfi,M6] at ih;generalize Cv a / 2^(32*i)=x at *
   generalize Cv a*X / 2^(32*i)=z at *
   have hb:=Ajw (x:=x%4294967296) (y:=X) (c:=c) (zv _ (by decide)) hX hc
   have hm:x*X=x / 4294967296*X*4294967296+x%4294967296*X:=by rw[Nat.mul_right_comm,<- Bft];congr 1;omega
   have e1:Bo (Bo (Bo ((x%4294967296:Nat):Int)*Bo (X:Int))+(c:Int))=((x%4294967296*X+c:Nat):Int):=by rw[Dx (x:=((x%4294967296:Nat):Int)) (by omega) (by omega),Dx (x:=(X:Int)) (by omega) (by omega),<- Bfa,Dx (x:=((x%4294967296*X:Nat):Int)) (by omega) (by omega),Dx (by omega) (by omega)];omega
   have hlt:(x%4294967296*X+c) / 4294967296<4294967296:=by omega
   rw[e1,Ann,Lz,L4,Lx (by omega) (by omega),Dx (by omega) (by omega),An (by omega) (by omega)];rw[hm] at h;generalize x%4294967296*X=p at *
   generalize x / 4294967296*X=q at *
   have e2:(p+c)%4294967296=z%4294967296:=by omega
   rw[e2];exact ih ((p+c) / 4294967296) F (by omega) (by omega) hlt (by omega)
theorem Am.single.Ae:Kq 115 Am.single.spec:=Eb Am.single.E Tryz.func115 .nil fun a x hp=>by
 obtain⟨ha,hx⟩:=Ac.1 hp;have hx:=Ak.1 hx;obtain⟨X,rfl⟩:∃k:Nat,x=k:=⟨x.toNat,by omega⟩
 refine⟨a.length+1,.ints (.own 38 tW) .u32 (singleL a X),[38],?_,Akc⟩;rw[Am.single.ev];exact Amh _ ha (by omega) a.length 0 0 _ (by omega) (by omega) (by omega) (by simp)
theorem Aef(a:List Int)(x:Int):Z6 (singleL a x):=Qt _ _
theorem U1(a:List Int)(x:Int):(singleL a x).length=a.length+1:=Fm _ _
theorem Ami{a:List Int}(ia:Z6 a){X:Nat}(hX:X<4294967296):Cv (singleL a (X:Int))=Cv a*X:=by have h:=Nf ia;unfold singleL;rw[Mq,Ber,Be2];rw[Ps,Bfd 4294967296];exact wz h hX
theorem A0j(N:Nat){n m:Bool}{a b:List Int}(ha:Z6 a)(hb:Z6 b)(la:a.length<33554432)(lb:b.length<33554432) :
 ∀(j F:Nat) (p:List Int),j<=b.length->j<F->Z6 p->p.length<=a.length+2*(b.length-j)->Cv p=Cv a*(Cv b / 2^(32*j)) ->
 Am.Mul.L0 N F n a m b ((j:Int)-1) p=some (.agg [.bool (Ba (Il (!(n==m)) (Cv a*Cv b))),.ints .arg .u32 (Al (Il (!(n==m)) (Cv a*Cv b)))]):=by
 intro j
 induction j with
 | zero =>
   intro F p hj hF ip lp vp;obtain⟨F,rfl⟩:∃G,F=G+1:=⟨F-1,by omega⟩
   have o:J8 p=true:=Nk (by omega) ip;rw[yB,Bfn,Nat.div_one] at vp;rw[Am.Mul.Ar,Fs,Beu (by omega),Bet,o,Bep];unfold wv;rw[vp]
 | succ j ih =>
   intro F p hj hF ip lp vp;obtain⟨F,rfl⟩:∃G,F=G+1:=⟨F-1,by omega⟩
   have e0:((j+1:Nat):Int)-1=(j:Int):=by omega
   have hX:Cv b / 2^(32*j)%4294967296<4294967296:=zv _ (by decide);have o1:J8 a=true:=Nk (by omega) ha;have i0:Z6 ([(0:Int)]++p):=An0 ip;have o2:J8 ([(0:Int)]++p)=true:=Nk (by rw[Bfh]; show 1+p.length<_; omega) i0;have o3:J8 (singleL a ((Cv b / 2^(32*j)%4294967296:Nat):Int))=true:=Nk (by rw[U1]; omega) (Aef _ _);have o4:A08 ((Cv b / 2^(32*j)%4294967296:Nat):Int)=true:=Ak.2 (by omega)
   have vz:Cv ([(0:Int)]++p)=4294967296*Cv p:=by show(0:Int).toNat+4294967296*Cv p=_;rw[show(0:Int).toNat=0 from rfl,Bfz]
   have c1:decide (1+p.length<=G2)=true:=Beq (by unfold G2; omega);have c2:decide ((j:Int)<(b.length:Int))=true:=Beq (by omega);have c3:decide ((0:Int)<=(j:Int))=true:=Beq (by omega);rw[e0,Am.Mul.Ar,Fs,c3,Bep,c1,Bep,c2,Bev,Bep,Ber,R0 hb j,o1,o4,Bev,Bep,o2,o3,Bev,Bep,An (by omega) (by omega)];refine ih F _ (by omega) (by omega) (Aer _ _) ?_ ?_
   ·rw[Tk,Bfh,U1];show max (1+p.length) _+1<=_;omega
   ·rw[Ah4 i0 (Aef _ _),vz,Ami ha hX,vp,Ps,Bfd 4294967296 (2^(32*j)),<- Bfi,Nat.mul_left_comm,<- yh];congr 1;omega
theorem A31(s t:Bool)(x y:Nat):Il (!(s==t)) (x*y)=Il s x*Il t y:=by unfold Il;cases s<;>cases t<;>simp[Bfa,Int.neg_mul,Int.mul_neg]
theorem Am.Mul.Ae:Kq 60 Am.Mul.spec:=Eb Am.Mul.E Tryz.func60 (kc Am.Made.Ae (kc Am.plus.own.Ae (kc Am.single.Ae .nil))) fun n a m b hp=>by obtain⟨h1,h2⟩:=Ac.1 hp;obtain⟨v,rfl,rfl,hv⟩:=Adj h1;obtain⟨w,rfl,rfl,hw⟩:=Adj h2;refine⟨(Al w).length+1,Am.Mul.out [.b (Ba v),.l (Al v),.b (Ba w),.l (Al w)],[],?_,Ajd⟩;have lv:=C0 v;have lw:=C0 w;have iw:=H7 w;have hz:Cv (Al w) / 2^(32*(Al w).length)=0:=yc (Nf iw);rw[Am.Mul.ev,An (by omega) (by omega)];refine(A0j _ (H7 v) iw (by omega) (by omega) (Al w).length _ [] (Bfj _) (by omega) (fun x h=>by cases h) (by show 0<=_; omega) (by rw[hz,yB]; rfl)).trans ?_;rw[A31];rfl
theorem A0y(n m:Nat):Ek (n*m)<=Ek n+Ek m:=by refine Ou ?_;rw[yh,Bfe];exact wz (Nt n) (Nt m)
theorem Av.Mul.Ae:Kq 23 Av.Mul.spec:=Eb Av.Mul.E Tryz.func23 (kc Am.Mul.Ae (kc Av.Of.Ae .nil)) fun n a e m b f hp=>by obtain⟨h1,h2⟩:=Ac.1 hp;obtain⟨h3,h4⟩:=Ac.1 h2;have he:=Ak.1 h3;have hf:=Ak.1 h4;obtain⟨h5,h6⟩:=Ac.1 h1;obtain⟨v,rfl,rfl,hv⟩:=Adj h5;obtain⟨w,rfl,rfl,hw⟩:=Adj h6;refine⟨0,Av.Mul.out [.b (Ba v),.l (Al v),.i e,.b (Ba w),.l (Al w),.i f],[],?_,wdy⟩;have hl:=A0y v.natAbs w.natAbs;have o1:Nd (Ba (v*w)) (Al (v*w))=true:=J7 (by rw[Int.natAbs_mul]; omega);have o2:X6 (e+f)=true:=Ak.2 (by omega);rw[Av.Mul.ev,h5,h6,Bev,Bep,An (by omega) (by omega)];simp only[Gm];rw[o1,o2,Bev,Bep];show _=some (DV.agg [.bool (Ba (mD (wv (Ba v) (Al v)*wv (Ba w) (Al w)))),.ints .arg .u32 (Al (mD (wv (Ba v) (Al v)*wv (Ba w) (Al w)))),.int .i64 (eD (wv (Ba v) (Al v)*wv (Ba w) (Al w)) (e+f))]);rw[Gm,Gm]
end Go.Proofs.S1
end
