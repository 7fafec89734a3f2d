/- A verified evaluator of the program's form and its use for this seat: S1EqRef11Q, S1PQ, S1PQa, S1PQb, S1PQc, S1EqTame, S1PTame, S1EqLaw22S, S1PLaw22S. -/
import Derived.Test.YthajngaadbanfaaGreatTG
import Derived.Test.YthajngaadbanfaaGreatTK
import Derived.Test.YthajngaadbanfaaGreatTN
import Derived.Test.YthajngaadbanfaaGreatTJ
import Derived.Test.YthajngaadbanfaaGreatTF
import Derived.Test.YthajngaadbanfaaGreatTL
import Derived.Test.YthajngaadbanfaaGreatTM
import Derived.Test.YthajngaadbanfaaGreatTE
set_option linter.unusedVariables false
set_option linter.unusedSimpArgs false
open List renaming getElem?_range->yv,length_cons->zo
noncomputable section
open Int (toNat)
open List (length getD)
open Go.Proofs.Tryz
namespace Go.Proofs.S1
open Go Go.Den Go.Ct Go.Proofs
set_option maxRecDepth 100000
def Aq.Ed.q.hint:Nat->Option A9
 | 0=>some { keep:=[0,2,3,4],objs:=[],boxes:=[2,3] }
 | _=>none
def Aq.Ed.q.E:=C6 (Cw [(11,Av.Add.q.spec),(23,Av.Mul.q.spec),(38,Bg.Value.q.spec)]) (fun _=>false) Aq.Ed.q.hint (fun _=>none)
section
variable(N M:Nat)(x:List Int)(p4:Int)(p3:Bool)(p3_1:List Int)(p3_2:Int)
def Aq.Ed.q.L0:Option DV:=B2 Aq.Ed.q.E N f17 (Aj f17) [1,1,0,1,0] [] M ⟨F3 24 [(0,.ints .arg .u64 x),(2,.ptr 2 0 0),(3,.ptr 3 0 0),(4,.int .i64 0)],[(2,false,.box [.bool false,.nil,.int .i64 0]),(3,false,.box [.bool false,.nil,.int .i64 0])]⟩
def Aq.Ed.q.L1:Option DV:=B2 Aq.Ed.q.E N f17 (Aj f17) [1,1,0,1,0] [] M ⟨F3 24 [(0,.ints .arg .u64 x),(2,.ptr 2 0 0),(3,.ptr 3 0 0),(4,.int .i64 p4)],[(2,false,.box [.bool false,.nil,.int .i64 0]),(3,false,.box [.bool p3,.ints .arg .u32 p3_1,.int .i64 p3_2])]⟩
theorem Aq.Ed.q.Ar:Aq.Ed.q.L0 N (M+1) x=cond (Bc 0 (length x:Int)) (bif (decide ((0:Int)<(length x:Int))) then cond (Af (getD x 0 0)) (bif (Vs (Fo (getD x 0 0))&&Vs (Fo (getD x 0 0))) then cond (dqB false [] 0&&Vs (E3 (Fo (getD x 0 0))*E3 (Fo (getD x 0 0)))) (Aq.Ed.q.L1 N M x 1 (Ba (mQ (vQ false [] 0+E3 (E3 (Fo (getD x 0 0))*E3 (Fo (getD x 0 0)))))) (Al (mQ (vQ false [] 0+E3 (E3 (Fo (getD x 0 0))*E3 (Fo (getD x 0 0)))))) (eQ (vQ false [] 0+E3 (E3 (Fo (getD x 0 0))*E3 (Fo (getD x 0 0)))))) none else none) none else none) (some (.agg [.bool false,.nil,.int .i64 0])) :=Et (Es (Es (Es (Co (Cb _) (Co (Cb _) rfl rfl) rfl) rfl) rfl) rfl)
theorem Aq.Ed.q.B6:Aq.Ed.q.L1 N (M+1) x p4 p3 p3_1 p3_2=cond (Bc p4 (length x:Int)) (bif ((decide (0<=p4))&&(decide (p4<(length x:Int)))) then cond (Af (getD x (toNat p4) 0)) (bif (Vs (Fo (getD x (toNat p4) 0))&&Vs (Fo (getD x (toNat p4) 0))) then cond (dqB p3 p3_1 p3_2&&Vs (E3 (Fo (getD x (toNat p4) 0))*E3 (Fo (getD x (toNat p4) 0)))) (Aq.Ed.q.L1 N M x (Ad (p4+1)) (Ba (mQ (vQ p3 p3_1 p3_2+E3 (E3 (Fo (getD x (toNat p4) 0))*E3 (Fo (getD x (toNat p4) 0)))))) (Al (mQ (vQ p3 p3_1 p3_2+E3 (E3 (Fo (getD x (toNat p4) 0))*E3 (Fo (getD x (toNat p4) 0)))))) (eQ (vQ p3 p3_1 p3_2+E3 (E3 (Fo (getD x (toNat p4) 0))*E3 (Fo (getD x (toNat p4) 0)))))) none else none) none else none) (some (.agg [.bool p3,.ints .arg .u32 p3_1,.int .i64 p3_2])) :=Et (Es (Es (Es (Co (Cb _) (Co (Cb _) rfl rfl) rfl) rfl) rfl) rfl)
theorem Aq.Ed.q.ev:Bv Aq.Ed.q.E N f17 (Aj f17) [.ints .arg .u64 x] =
 Aq.Ed.q.L0 N N x:=by kernel_rfl
end
def Bt.Mn.E:=E0 [(17,Aq.Ed.q.spec)]
theorem Bt.Mn.ev(N:Nat)(r c:Int)(l:List Int):Bv Bt.Mn.E N f12 (Aj f12) [.agg [.int .i64 r,.int .i64 c,.ints .arg .u64 l]]=cond (By l&&Bq (length l<=64)) (some (.agg [.bool (Ba (mQ (R8 l))),.ints .arg .u32 (Al (mQ (R8 l))),.int .i64 (eQ (R8 l))])) none:=by kernel_rfl
def Bt.H6.q.hint:Nat->Option A9
 | 0=>some { keep:=[0,1,4,5,6],objs:=[],boxes:=[4,5] }
 | _=>none
def Bt.H6.q.E:=C6 (Cw [(11,Av.Add.q.spec),(23,Av.Mul.q.spec),(38,Bg.Value.q.spec)]) (fun _=>false) Bt.H6.q.hint (fun _=>none)
section
variable(N M:Nat)(x y:List Int)(p6:Int)(p5:Bool)(p5_1:List Int)(p5_2:Int)
def Bt.H6.q.L0:Option DV:=B2 Bt.H6.q.E N f21 (Aj f21) [1,1,0,1,0] [] M ⟨F3 28 [(0,.ints .arg .u64 x),(1,.ints .arg .u64 y),(4,.ptr 4 0 0),(5,.ptr 5 0 0),(6,.int .i64 0)],[(4,false,.box [.bool false,.nil,.int .i64 0]),(5,false,.box [.bool false,.nil,.int .i64 0])]⟩
def Bt.H6.q.L1:Option DV:=B2 Bt.H6.q.E N f21 (Aj f21) [1,1,0,1,0] [] M ⟨F3 28 [(0,.ints .arg .u64 x),(1,.ints .arg .u64 y),(4,.ptr 4 0 0),(5,.ptr 5 0 0),(6,.int .i64 p6)],[(4,false,.box [.bool false,.nil,.int .i64 0]),(5,false,.box [.bool p5,.ints .arg .u32 p5_1,.int .i64 p5_2])]⟩
theorem Bt.H6.q.Ar:Bt.H6.q.L0 N (M+1) x y=cond (Bc 0 (length x:Int)) (bif (decide ((0:Int)<(length x:Int))) then cond (Af (getD x 0 0)) (bif (decide ((0:Int)<(length y:Int))) then cond (Af (getD y 0 0)) (bif (Vs (Fo (getD x 0 0))&&Vs (Fo (getD y 0 0))) then cond (dqB false [] 0&&Vs (E3 (Fo (getD x 0 0))*E3 (Fo (getD y 0 0)))) (Bt.H6.q.L1 N M x y 1 (Ba (mQ (vQ false [] 0+E3 (E3 (Fo (getD x 0 0))*E3 (Fo (getD y 0 0)))))) (Al (mQ (vQ false [] 0+E3 (E3 (Fo (getD x 0 0))*E3 (Fo (getD y 0 0)))))) (eQ (vQ false [] 0+E3 (E3 (Fo (getD x 0 0))*E3 (Fo (getD y 0 0)))))) none else none) none else none) none else none) (some (.agg [.bool false,.nil,.int .i64 0])) :=Et (Es (Co (Cb _) (Co (Cb _) (Co (Cb _) (Co (Cb _) (Co (Cb _) (Co (Cb _) rfl rfl) rfl) rfl) rfl) rfl) rfl) rfl)
theorem Bt.H6.q.B6:Bt.H6.q.L1 N (M+1) x y p6 p5 p5_1 p5_2=cond (Bc p6 (length x:Int)) (bif ((decide (0<=p6))&&(decide (p6<(length x:Int)))) then cond (Af (getD x (toNat p6) 0)) (bif ((decide (0<=p6))&&(decide (p6<(length y:Int)))) then cond (Af (getD y (toNat p6) 0)) (bif (Vs (Fo (getD x (toNat p6) 0))&&Vs (Fo (getD y (toNat p6) 0))) then cond (dqB p5 p5_1 p5_2&&Vs (E3 (Fo (getD x (toNat p6) 0))*E3 (Fo (getD y (toNat p6) 0)))) (Bt.H6.q.L1 N M x y (Ad (p6+1)) (Ba (mQ (vQ p5 p5_1 p5_2+E3 (E3 (Fo (getD x (toNat p6) 0))*E3 (Fo (getD y (toNat p6) 0)))))) (Al (mQ (vQ p5 p5_1 p5_2+E3 (E3 (Fo (getD x (toNat p6) 0))*E3 (Fo (getD y (toNat p6) 0)))))) (eQ (vQ p5 p5_1 p5_2+E3 (E3 (Fo (getD x (toNat p6) 0))*E3 (Fo (getD y (toNat p6) 0)))))) none else none) none else none) none else none) (some (.agg [.bool p5,.ints .arg .u32 p5_1,.int .i64 p5_2])) :=Et (Es (Co (Kz _ _) (Co (Cb _) (Co (Kz _ _) (Co (Cb _) (Co (Cb _) (Co (Cb _) rfl rfl) rfl) rfl) rfl) rfl) rfl) rfl)
theorem Bt.H6.q.ev:Bv Bt.H6.q.E N f21 (Aj f21) [.ints .arg .u64 x,.ints .arg .u64 y] =
 Bt.H6.q.L0 N N x y:=by kernel_rfl
end
def Bt.Cg.q.hint:Nat->Option A9
 | 0=>some { keep:=[3,4,5,6,7,8],objs:=[],boxes:=[3,4,5,6,7] }
 | 2=>some { keep:=[3,4,5,6,7,8,9],objs:=[],boxes:=[3,4,5,6,7] }
 | _=>none
def Bt.Cg.q.E:=C6 (Cw [(11,Av.Add.q.spec),(23,Av.Mul.q.spec),(56,Av.Sub.q.spec),(38,Bg.Value.q.spec),(55,A0.At.spec),(22,A0.Ys.spec),(107,A0.Row.spec),(21,Bt.H6.q.spec)]) (fun _=>false) Bt.Cg.q.hint (fun _=>none)
section
variable(N M0 M:Nat)(r c:Int)(l:List Int)(p q:Int)(m:List Int)(u v:Int)(h:List Int)(p8_3:Int)(p7_3:Bool)(p7_4:List Int)(p7_5 p9:Int)(p7:Bool)(p7_1:List Int)(p7_2 p8_1 p8_2 p8:Int)
def Bt.Cg.q.L0:Option DV:=B2 Bt.Cg.q.E N f42 (Aj f42) [1,1,0,1,0] [] M ⟨F3 43 [(3,.ptr 3 0 0),(4,.ptr 4 0 0),(5,.ptr 5 0 0),(6,.ptr 6 0 0),(7,.ptr 7 0 0),(8,.int .i64 p8)],[(3,false,.box [.int .i64 r,.int .i64 c,.ints .arg .u64 l]),(4,false,.box [.int .i64 p,.int .i64 q,.ints .arg .u64 m]),(5,false,.box [.int .i64 u,.int .i64 v,.ints .arg .u64 h]),(6,false,.box [.bool false,.nil,.int .i64 0]),(7,false,.box [.bool false,.nil,.int .i64 0])]⟩
def Bt.Cg.q.L1:Option DV:=B2 Bt.Cg.q.E N f42 (Aj f42) [1,1,0,1,0,0,1,0,0,1,0] [M0] M ⟨F3 43 [(3,.ptr 3 0 0),(4,.ptr 4 0 0),(5,.ptr 5 0 0),(6,.ptr 6 0 0),(7,.ptr 7 0 0),(8,.int .i64 p8_2),(9,.int .i64 0)],[(3,false,.box [.int .i64 r,.int .i64 c,.ints .arg .u64 l]),(4,false,.box [.int .i64 p,.int .i64 q,.ints .arg .u64 m]),(5,false,.box [.int .i64 u,.int .i64 v,.ints .arg .u64 h]),(6,false,.box [.bool false,.nil,.int .i64 0]),(7,false,.box [.bool false,.nil,.int .i64 0])]⟩
def Bt.Cg.q.L2:Option DV:=B2 Bt.Cg.q.E N f42 (Aj f42) [1,1,0,1,0,0,1,0,0,1,0] [M0] M ⟨F3 43 [(3,.ptr 3 0 0),(4,.ptr 4 0 0),(5,.ptr 5 0 0),(6,.ptr 6 0 0),(7,.ptr 7 0 0),(8,.int .i64 p8_1),(9,.int .i64 p9)],[(3,false,.box [.int .i64 r,.int .i64 c,.ints .arg .u64 l]),(4,false,.box [.int .i64 p,.int .i64 q,.ints .arg .u64 m]),(5,false,.box [.int .i64 u,.int .i64 v,.ints .arg .u64 h]),(6,false,.box [.bool false,.nil,.int .i64 0]),(7,false,.box [.bool p7,.ints .arg .u32 p7_1,.int .i64 p7_2])]⟩
def Bt.Cg.q.L3:Option DV:=B2 Bt.Cg.q.E N f42 (Aj f42) [1,1,0,1,0] [] M ⟨F3 43 [(3,.ptr 3 0 0),(4,.ptr 4 0 0),(5,.ptr 5 0 0),(6,.ptr 6 0 0),(7,.ptr 7 0 0),(8,.int .i64 p8_3)],[(3,false,.box [.int .i64 r,.int .i64 c,.ints .arg .u64 l]),(4,false,.box [.int .i64 p,.int .i64 q,.ints .arg .u64 m]),(5,false,.box [.int .i64 u,.int .i64 v,.ints .arg .u64 h]),(6,false,.box [.bool false,.nil,.int .i64 0]),(7,false,.box [.bool p7_3,.ints .arg .u32 p7_4,.int .i64 p7_5])]⟩
theorem Bt.Cg.q.Ar:Bt.Cg.q.L0 N (M+1) r c l p q m u v h p8=cond (Bc p8 r) (Bt.Cg.q.L1 N M N r c l p q m u v h p8) (some (.agg [.bool false,.nil,.int .i64 0])):=by kernel_rfl
theorem Bt.Cg.q.B6:Bt.Cg.q.L1 N M0 (M+1) r c l p q m u v h p8_2=cond (Bc 0 c) (bif (E6 r c l p8_2 0) then cond (Af (C1 c l p8_2 0)) (bif (Tj p q m p8_2) then cond (Gu u v h 0&&Bq (0<=(0:Int)/\(0:Int)<=u)) (bif ((Ah (F6 q m p8_2)&&Ah (B3 v h 0 0 (toNat (u-0))))&&Bq (length (F6 q m p8_2)=length (B3 v h 0 0 (toNat (u-0)))/\length (F6 q m p8_2)<=64)) then cond (Vs (Fo (C1 c l p8_2 0))&&Vs (Us (F6 q m p8_2) (B3 v h 0 0 (toNat (u-0))))) (bif (Vs (E3 (Fo (C1 c l p8_2 0))-E3 (Us (F6 q m p8_2) (B3 v h 0 0 (toNat (u-0)))))&&Vs (E3 (Fo (C1 c l p8_2 0))-E3 (Us (F6 q m p8_2) (B3 v h 0 0 (toNat (u-0)))))) then cond (dqB false [] 0&&Vs (E3 (E3 (Fo (C1 c l p8_2 0))-E3 (Us (F6 q m p8_2) (B3 v h 0 0 (toNat (u-0)))))*E3 (E3 (Fo (C1 c l p8_2 0))-E3 (Us (F6 q m p8_2) (B3 v h 0 0 (toNat (u-0))))))) (Bt.Cg.q.L2 N M0 M r c l p q m u v h 1 (Ba (mQ (vQ false [] 0+E3 (E3 (E3 (Fo (C1 c l p8_2 0))-E3 (Us (F6 q m p8_2) (B3 v h 0 0 (toNat (u-0)))))*E3 (E3 (Fo (C1 c l p8_2 0))-E3 (Us (F6 q m p8_2) (B3 v h 0 0 (toNat (u-0))))))))) (Al (mQ (vQ false [] 0+E3 (E3 (E3 (Fo (C1 c l p8_2 0))-E3 (Us (F6 q m p8_2) (B3 v h 0 0 (toNat (u-0)))))*E3 (E3 (Fo (C1 c l p8_2 0))-E3 (Us (F6 q m p8_2) (B3 v h 0 0 (toNat (u-0))))))))) (eQ (vQ false [] 0+E3 (E3 (E3 (Fo (C1 c l p8_2 0))-E3 (Us (F6 q m p8_2) (B3 v h 0 0 (toNat (u-0)))))*E3 (E3 (Fo (C1 c l p8_2 0))-E3 (Us (F6 q m p8_2) (B3 v h 0 0 (toNat (u-0)))))))) p8_2) none else none) none else none) none else none) none else none) (Bt.Cg.q.L0 N M0 r c l p q m u v h (Ad (p8_2+1))) :=Et (Es (Co (Cb _) (Co (Cb _) (Co (Cb _) (Co (Cb _) (Co (Cb _) (Co (Cb _) (Co (Cb _) (Co (Cb _) rfl rfl) rfl) rfl) rfl) rfl) rfl) rfl) rfl) rfl)
theorem Bt.Cg.q.Jw:Bt.Cg.q.L2 N M0 (M+1) r c l p q m u v h p9 p7 p7_1 p7_2 p8_1=cond (Bc p9 c) (bif (E6 r c l p8_1 p9) then cond (Af (C1 c l p8_1 p9)) (bif (Tj p q m p8_1) then cond (Gu u v h p9&&Bq (0<=(0:Int)/\(0:Int)<=u)) (bif ((Ah (F6 q m p8_1)&&Ah (B3 v h p9 0 (toNat (u-0))))&&Bq (length (F6 q m p8_1)=length (B3 v h p9 0 (toNat (u-0)))/\length (F6 q m p8_1)<=64)) then cond (Vs (Fo (C1 c l p8_1 p9))&&Vs (Us (F6 q m p8_1) (B3 v h p9 0 (toNat (u-0))))) (bif (Vs (E3 (Fo (C1 c l p8_1 p9))-E3 (Us (F6 q m p8_1) (B3 v h p9 0 (toNat (u-0)))))&&Vs (E3 (Fo (C1 c l p8_1 p9))-E3 (Us (F6 q m p8_1) (B3 v h p9 0 (toNat (u-0)))))) then cond (dqB p7 p7_1 p7_2&&Vs (E3 (E3 (Fo (C1 c l p8_1 p9))-E3 (Us (F6 q m p8_1) (B3 v h p9 0 (toNat (u-0)))))*E3 (E3 (Fo (C1 c l p8_1 p9))-E3 (Us (F6 q m p8_1) (B3 v h p9 0 (toNat (u-0))))))) (Bt.Cg.q.L2 N M0 M r c l p q m u v h (Ad (p9+1)) (Ba (mQ (vQ p7 p7_1 p7_2+E3 (E3 (E3 (Fo (C1 c l p8_1 p9))-E3 (Us (F6 q m p8_1) (B3 v h p9 0 (toNat (u-0)))))*E3 (E3 (Fo (C1 c l p8_1 p9))-E3 (Us (F6 q m p8_1) (B3 v h p9 0 (toNat (u-0))))))))) (Al (mQ (vQ p7 p7_1 p7_2+E3 (E3 (E3 (Fo (C1 c l p8_1 p9))-E3 (Us (F6 q m p8_1) (B3 v h p9 0 (toNat (u-0)))))*E3 (E3 (Fo (C1 c l p8_1 p9))-E3 (Us (F6 q m p8_1) (B3 v h p9 0 (toNat (u-0))))))))) (eQ (vQ p7 p7_1 p7_2+E3 (E3 (E3 (Fo (C1 c l p8_1 p9))-E3 (Us (F6 q m p8_1) (B3 v h p9 0 (toNat (u-0)))))*E3 (E3 (Fo (C1 c l p8_1 p9))-E3 (Us (F6 q m p8_1) (B3 v h p9 0 (toNat (u-0)))))))) p8_1) none else none) none else none) none else none) none else none) (Bt.Cg.q.L3 N M0 r c l p q m u v h (Ad (p8_1+1)) p7 p7_1 p7_2) :=Et (Es (Co (Cb _) (Co (Cb _) (Co (Cb _) (Co (Cb _) (Co (Cb _) (Co (Cb _) (Co (Cb _) (Co (Cb _) rfl rfl) rfl) rfl) rfl) rfl) rfl) rfl) rfl) rfl)
theorem Bt.Cg.q.W4:Bt.Cg.q.L3 N (M+1) r c l p q m u v h p8_3 p7_3 p7_4 p7_5=cond (Bc p8_3 r) (Bt.Cg.q.L2 N M N r c l p q m u v h 0 p7_3 p7_4 p7_5 p8_3) (some (.agg [.bool p7_3,.ints .arg .u32 p7_4,.int .i64 p7_5])):=by kernel_rfl
theorem Bt.Cg.q.ev:Bv Bt.Cg.q.E N f42 (Aj f42) [.agg [.int .i64 r,.int .i64 c,.ints .arg .u64 l],.agg [.int .i64 p,.int .i64 q,.ints .arg .u64 m],.agg [.int .i64 u,.int .i64 v,.ints .arg .u64 h]] =
 Bt.Cg.q.L0 N N r c l p q m u v h 0:=by kernel_rfl
end
open Go Go.Den Go.Ct Go.Proofs
theorem _root_.Go.Ct.Dq.val{x:Rat}(h:Dq x):((mQ x:Int):Rat)*tw (eQ x)=x:=h.parts.1.symm
theorem wq{drops:List Nat}{m m' e e':Int}(h1:m=m')(h2:e=e'):Wk drops (.agg [.bool (Ba m),.ints .arg .u32 (Al m),.int .i64 e]) (.agg [.bool (Ba m'),.ints .arg .u32 (Al m'),.int .i64 e']):=by subst h1 h2;exact wdy
theorem ok4{a b c d:Bool}(h1:a=true)(h2:b=true)(h3:c=true)(h4:d=true):(((a&&b)&&c)&&d)=true:=by rw[h1,h2,h3,h4]; rfl
theorem Av.Add.q.Ae:Av.Add.q.Kn:=E8.Aar (P:=_) (pre:=Av.Add.pre) (out:=Av.Add.out) Av.Add.Ae [] fun ats h=>by
 unfold Av.Add.q.pre at h;split at h
 ·rename_i n a e m b f;obtain⟨h1,h2⟩:=Ac.1 h;obtain⟨x,hx,rfl,rfl,rfl⟩:=Qi h1;obtain⟨y,hy,rfl,rfl,rfl⟩:=Qi h2;refine⟨ok4 hx.okV hy.okV hx.Ts hy.Ts,?_⟩;have:=Bb1 (mQ x) (eQ x) (mQ y) (eQ y);rw[hx.val,hy.val] at this;show Wk [] (DV.agg [.bool (Ba (Ro (wv _ _) _ (wv _ _) _)),.ints .arg .u32 (Al (Ro (wv _ _) _ (wv _ _) _)),.int .i64 (Aoy (wv _ _) _ (wv _ _) _)]) (DV.agg [.bool (Ba (mQ (vQ _ _ _+vQ _ _ _))),.ints .arg .u32 (Al (mQ (vQ _ _ _+vQ _ _ _))),.int .i64 (eQ (vQ _ _ _+vQ _ _ _))]);rw[Gm,Gm,Ud hx,Ud hy];exact wq this.1 this.2
 ·cases h
theorem Av.Sub.q.Ae:Av.Sub.q.Kn:=E8.Aar (P:=_) (pre:=Av.Sub.pre) (out:=Av.Sub.out) Av.Sub.Ae [] fun ats h=>by
 unfold Av.Sub.q.pre at h;split at h
 ·rename_i n a e m b f;obtain⟨h1,h2⟩:=Ac.1 h;obtain⟨x,hx,rfl,rfl,rfl⟩:=Qi h1;obtain⟨y,hy,rfl,rfl,rfl⟩:=Qi h2;refine⟨ok4 hx.okV hy.okV hx.Ts hy.Ts,?_⟩;have:=Bb1 (mQ x) (eQ x) (-(mQ y)) (eQ y)
  have e:((mQ x:Int):Rat)*tw (eQ x)+((-(mQ y):Int):Rat)*tw (eQ y)=x-y:=by rw[hx.val,Rat.intCast_neg];have:=hy.val;grind
  rw[e] at this;show Wk [] (DV.agg [.bool (Ba (Ro (wv _ _) _ (-(wv _ _)) _)),.ints .arg .u32 (Al (Ro (wv _ _) _ (-(wv _ _)) _)),.int .i64 (Aoy (wv _ _) _ (-(wv _ _)) _)]) (DV.agg [.bool (Ba (mQ (vQ _ _ _-vQ _ _ _))),.ints .arg .u32 (Al (mQ (vQ _ _ _-vQ _ _ _))),.int .i64 (eQ (vQ _ _ _-vQ _ _ _))]);rw[Gm,Gm,Ud hx,Ud hy];exact wq this.1 this.2
 ·cases h
theorem Av.Mul.q.Ae:Av.Mul.q.Kn:=E8.Aar (P:=_) (pre:=Av.Mul.pre) (out:=Av.Mul.out) Av.Mul.Ae [] fun ats h=>by
 unfold Av.Mul.q.pre at h;split at h
 ·rename_i n a e m b f;obtain⟨h1,h2⟩:=Ac.1 h;obtain⟨x,hx,rfl,rfl,rfl⟩:=Qi h1;obtain⟨y,hy,rfl,rfl,rfl⟩:=Qi h2;refine⟨show((okM _ _&&okM _ _)&&(Ts _&&Ts _))=true by rw[hx.okM,hy.okM,hx.Ts,hy.Ts]; rfl,?_⟩;have:=Bdt (mQ x) (eQ x) (mQ y) (eQ y);rw[hx.val,hy.val] at this;show Wk [] (DV.agg [.bool (Ba (mD (wv _ _*wv _ _))),.ints .arg .u32 (Al (mD (wv _ _*wv _ _))),.int .i64 (eD (wv _ _*wv _ _) _)]) (DV.agg [.bool (Ba (mQ (vQ _ _ _*vQ _ _ _))),.ints .arg .u32 (Al (mQ (vQ _ _ _*vQ _ _ _))),.int .i64 (eQ (vQ _ _ _*vQ _ _ _))]);rw[Gm,Gm,Ud hx,Ud hy];exact wq this.1 this.2
 ·cases h
theorem Av.D8.q.Ae:Av.D8.q.Kn:=E8.Aar (P:=_) (pre:=Av.D8.pre) (out:=Av.D8.out) Av.D8.Ae [] fun ats h=>by
 unfold Av.D8.q.pre at h;split at h
 ·rename_i n a e k;obtain⟨h1,h2⟩:=Ac.1 h;obtain⟨x,hx,rfl,rfl,rfl⟩:=Qi h1;have hk:=Ak.1 h2;have ok:Ts k=true:=Ak.2 (by omega);refine⟨show((Nd _ _&&Ts _)&&Ts _)=true by rw[hx.Nd,hx.Ts,ok]; rfl,?_⟩;have:=A75 (mQ x) (eQ x+k)
  have e:((mQ x:Int):Rat)*tw (eQ x+k)=x*tw k:=by rw[G3];have:=hx.val;grind
  rw[e] at this;show Wk [] (DV.agg [.bool (Ba (mD (wv _ _))),.ints .arg .u32 (Al (mD (wv _ _))),.int .i64 (eD (wv _ _) _)]) (DV.agg [.bool (Ba (mQ (vQ _ _ _*tw k))),.ints .arg .u32 (Al (mQ (vQ _ _ _*tw k))),.int .i64 (eQ (vQ _ _ _*tw k))]);rw[Gm,Ud hx];exact wq this.1 this.2
 ·cases h
theorem Av.Compare.q.Ae:Av.Compare.q.Kn:=E8.Aar (P:=_) (pre:=Av.Compare.pre) (out:=Av.Compare.out) Av.Compare.Ae [] fun ats h=>by
 unfold Av.Compare.q.pre at h;split at h
 ·rename_i n a e m b f;obtain⟨h1,h2⟩:=Ac.1 h;obtain⟨x,hx,rfl,rfl,rfl⟩:=Qi h1;obtain⟨y,hy,rfl,rfl,rfl⟩:=Qi h2;refine⟨ok4 hx.okV hy.okV hx.Ts hy.Ts,?_⟩;show Wk [] (DV.int .i64 (Aac (wv _ _) _ (wv _ _) _)) (DV.int .i64 (Ak7 (vQ _ _ _) (vQ _ _ _)));rw[Gm,Gm,Ud hx,Ud hy,Bdx hx hy];exact .int
 ·cases h
theorem Av.Of.q.Ae:Av.Of.q.Kn:=E8.Aar (P:=_) (pre:=Av.Of.pre) (out:=Av.Of.out) Av.Of.Ae [] fun ats h=>by
 unfold Av.Of.q.pre at h;split at h
 ·rename_i n a e;obtain⟨h1,h2⟩:=Ac.1 h;have hk:=Ak.1 h2;have ok:X6 e=true:=Ak.2 (by omega);refine⟨show(Nd _ _&&X6 _)=true by rw[h1,ok]; rfl,?_⟩;have:=A75 (wv n a) e;show Wk [] (DV.agg [.bool (Ba (mD (wv _ _))),.ints .arg .u32 (Al (mD (wv _ _))),.int .i64 (eD (wv _ _) _)]) (DV.agg [.bool (Ba (mQ (vQ _ _ _))),.ints .arg .u32 (Al (mQ (vQ _ _ _))),.int .i64 (eQ (vQ _ _ _))]);exact wq this.1 this.2
 ·cases h
theorem Bg.Value.q.Ae:Bg.Value.q.Kn:=E8.Aar (P:=_) (pre:=Bg.Value.pre) (out:=Bg.Value.out) Bg.Value.Ae [] fun ats h=>by
 unfold Bg.Value.q.pre at h;split at h
 ·rename_i x;refine⟨h,?_⟩;have:=A75 (Gf x) (Bn x)
  have e:((Gf x:Int):Rat)*tw (Bn x)=Fo x:=by unfold Gf Bn Fo vR;rw[Aj1]
  rw[e] at this;show Wk [] (DV.agg [.bool (Ba (mD (Gf x))),.ints .arg .u32 (Al (mD (Gf x))),.int .i64 (eD (Gf x) (Bn x))]) (DV.agg [.bool (Ba (mQ (Fo x))),.ints .arg .u32 (Al (mQ (Fo x))),.int .i64 (eQ (Fo x))]);exact wq this.1 this.2
 ·cases h
theorem Zu:mQ 0=0/\eQ 0=0:=by
 have h:(0:Rat)=((0:Int):Rat)*tw 0:=by have:((0:Int):Rat)=0:=rfl;rw[this]; grind
 obtain⟨h1,h2⟩:=Aid h;exact⟨h1.trans (Ns.2 rfl),h2⟩
theorem Aqv:Ba (mQ 0)=false:=by rw[Zu.1]; rfl
theorem Akp:Al (mQ 0)=[]:=by rw[Zu.1]; rfl
theorem Atz:Dq 0:=(Dg.zero 0 0 0).dq (by decide) (by decide) (by decide)
theorem Apb:vQ false [] 0=0:=by have:=Ud Atz;rw[Aqv,Akp,Zu.2] at this;exact this
theorem Ak1:dqB false [] 0=true:=by have:=Arm Atz;rw[Aqv,Akp,Zu.2] at this;exact this
def dqO(x:Rat):DV:=.agg [.bool (Ba (mQ x)),.ints .arg .u32 (Al (mQ x)),.int .i64 (eQ x)]
theorem wqO{drops:List Nat}{x:Rat}:Wk drops (dqO x) (dqO x):=wdy
theorem wqN{drops:List Nat}:Wk drops (.agg [.bool false,.nil,.int .i64 0]) (dqO 0):=by unfold dqO;rw[Aqv,Akp,Zu.2];exact Wk.H3 (.cons .bool (.cons (.nil _ _) (.cons .int .nil)))
theorem Ap0{n k:Nat}{f:Nat->Rat}{g t m:Nat}(h:∀i,Dg g t m (f i))(hg:g<=40000)(ht:t<=40000)(hn:n<=k)(hm:k*m<=1073741824):Dq (N4 n f):=(Dg.Ux hn fun i _=>h i).dq hg ht hm
theorem Aco(x:Int):Dq (Fo x):=(Dg.wv x).dq (by decide) (by decide) (by decide)
theorem Ak0(x y:Int):Dq (Fo x*Fo y):=(Dg.wv2 x y).dq (by decide) (by decide) (by decide)
section
variable{x:List Int}(ax:Ah x=true)(hx:x.length<=64)
include ax hx
theorem Ajr(N:Nat):∀k i F,i+k=x.length->k<F->Aq.Ed.q.L1 N F x (i:Int) (Ba (mQ (N4 i fun j=>Fo (x.getD j 0)*Fo (x.getD j 0)))) (Al (mQ (N4 i fun j=>Fo (x.getD j 0)*Fo (x.getD j 0)))) (eQ (N4 i fun j=>Fo (x.getD j 0)*Fo (x.getD j 0)))=some (dqO (R8 x)):=by
 intro k
 induction k with
 | zero =>
   intro i F hi hF;obtain⟨F,rfl⟩:∃G,F=G+1:=⟨F-1,by omega⟩
   obtain rfl:i=x.length:=by omega
   rw[Aq.Ed.q.B6,As,Beu (by omega),Bet];rfl
 | succ k ih =>
   intro i F hi hF;obtain⟨F,rfl⟩:∃G,F=G+1:=⟨F-1,by omega⟩
   have d1:=Aco (x.getD i 0);have d2:=Ak0 (x.getD i 0) (x.getD i 0);have d3:Dq (N4 i fun j=>Fo (x.getD j 0)*Fo (x.getD j 0)):=Ap0 (k:=64) (m:=1) (fun j=>Dg.wv2 _ _) (by decide) (by decide) (by omega) (by decide);have e1:(i:Int)+1=((i+1:Nat):Int):=by omega
   have hu:=Lj ax (show i<x.length by omega);rw[Aq.Ed.q.B6,As,Beq (show(i:Int)<(x.length:Int) by omega),Beq (show(0:Int)<=(i:Int) by omega),Ber,An (by omega) (by omega),e1];simp only[hu,Ic d1,Ic d2,Ic d3,Ih d1,Ih d2,Ih d3,Bev,Bep];exact ih (i+1) F (by omega) (by omega)
end
theorem Agx(N F:Nat){x:List Int}(h0:0<x.length)(ax:Ah x=true):Aq.Ed.q.L0 N (F+1) x=Aq.Ed.q.L1 N F x 1 (Ba (mQ (0+Fo (x.getD 0 0)*Fo (x.getD 0 0)))) (Al (mQ (0+Fo (x.getD 0 0)*Fo (x.getD 0 0)))) (eQ (0+Fo (x.getD 0 0)*Fo (x.getD 0 0))):=by have d1:=Aco (x.getD 0 0);have d2:=Ak0 (x.getD 0 0) (x.getD 0 0);have hu:=Lj ax h0;rw[Aq.Ed.q.Ar,As,Beq (show(0:Int)<(x.length:Int) by omega)];simp only[hu,Apb,Ic d1,Ic d2,Ak1,Ih d1,Ih d2,Bev,Bep]
theorem Aq.Ed.q.Ae:Kq 17 Aq.Ed.q.spec:=Eb Aq.Ed.q.E Tryz.func17 (kc Av.Add.q.Ae (kc Av.Mul.q.Ae (kc Bg.Value.q.Ae .nil))) fun x hp=>by
 obtain⟨ox,h⟩:=Ac.1 (show(By x&&Bq (x.length<=64))=true from hp);have hx:=Ak.1 h;have ax:=W0 ox;show ∃N dv drops,_=some dv/\Wk drops dv (dqO (R8 x));by_cases h0:x.length=0
 ·refine⟨1,.agg [.bool false,.nil,.int .i64 0],[],?_,?_⟩
  ·rw[Aq.Ed.q.ev,Aq.Ed.q.Ar,As,Beu (by omega),Bet]
  ·have:R8 x=0:=by unfold R8; rw[h0]; rfl
   rw[this]; exact wqN
 ·exact⟨66,_,[],(Aq.Ed.q.ev 66 x).trans ((Agx 66 65 (by omega) ax).trans (Ajr ax hx 66 (x.length-1) 1 65 (by omega) (by omega))),wqO⟩
theorem Bt.Mn.Ae:Kq 12 Bt.Mn.spec:=Eb Bt.Mn.E Tryz.func12 (kc Aq.Ed.q.Ae .nil) fun r c l hp=>by obtain⟨al,hr⟩:=Ac.1 (show(Ah l&&Az r c l)=true from hp);have hl:=Mt hr;show ∃N dv drops,_=some dv/\Wk drops dv (dqO (R8 l));refine⟨0,_,[],?_,wqO⟩;rw[Bt.Mn.ev,Gz al (by omega),show Bq (l.length<=64)=true from Ak.2 (by omega)];rfl
section
variable{x y:List Int}(ax:Ah x=true)(ay:Ah y=true)(hx:x.length<=64)(hy:x.length=y.length)
include ax ay hx hy
theorem Aw7(N:Nat):∀k i F,i+k=x.length->k<F->Bt.H6.q.L1 N F x y (i:Int) (Ba (mQ (N4 i fun j=>Fo (x.getD j 0)*Fo (y.getD j 0)))) (Al (mQ (N4 i fun j=>Fo (x.getD j 0)*Fo (y.getD j 0)))) (eQ (N4 i fun j=>Fo (x.getD j 0)*Fo (y.getD j 0)))=some (dqO (Us x y)):=by
 intro k
 induction k with
 | zero =>
   intro i F hi hF;obtain⟨F,rfl⟩:∃G,F=G+1:=⟨F-1,by omega⟩
   obtain rfl:i=x.length:=by omega
   rw[Bt.H6.q.B6,As,Beu (by omega),Bet];rfl
 | succ k ih =>
   intro i F hi hF;obtain⟨F,rfl⟩:∃G,F=G+1:=⟨F-1,by omega⟩
   have d1:=Aco (x.getD i 0);have d4:=Aco (y.getD i 0);have d2:=Ak0 (x.getD i 0) (y.getD i 0);have d3:Dq (N4 i fun j=>Fo (x.getD j 0)*Fo (y.getD j 0)):=Ap0 (k:=64) (m:=1) (fun j=>Dg.wv2 _ _) (by decide) (by decide) (by omega) (by decide);have e1:(i:Int)+1=((i+1:Nat):Int):=by omega
   have hu:=Lj ax (show i<x.length by omega);have hv:=Lj ay (show i<y.length by omega);rw[Bt.H6.q.B6,As,Beq (show(i:Int)<(x.length:Int) by omega),Beq (show(i:Int)<(y.length:Int) by omega),Beq (show(0:Int)<=(i:Int) by omega),Ber,An (by omega) (by omega),e1];simp only[hu,hv,Ic d1,Ic d2,Ic d3,Ic d4,Ih d1,Ih d2,Ih d3,Ih d4,Bev,Bep];exact ih (i+1) F (by omega) (by omega)
end
theorem Aro(N F:Nat){x y:List Int}(h0:0<x.length)(h1:0<y.length)(ax:Ah x=true)(ay:Ah y=true):Bt.H6.q.L0 N (F+1) x y=Bt.H6.q.L1 N F x y 1 (Ba (mQ (0+Fo (x.getD 0 0)*Fo (y.getD 0 0)))) (Al (mQ (0+Fo (x.getD 0 0)*Fo (y.getD 0 0)))) (eQ (0+Fo (x.getD 0 0)*Fo (y.getD 0 0))):=by have d1:=Aco (x.getD 0 0);have d4:=Aco (y.getD 0 0);have d2:=Ak0 (x.getD 0 0) (y.getD 0 0);have hu:=Lj ax h0;have hv:=Lj ay h1;rw[Bt.H6.q.Ar,As,Beq (show(0:Int)<(x.length:Int) by omega),Beq (show(0:Int)<(y.length:Int) by omega)];simp only[hu,hv,Apb,Ic d1,Ic d2,Ic d4,Ak1,Ih d1,Ih d2,Ih d4,Bev,Bep]
theorem Bt.H6.q.Ae:Kq 21 Bt.H6.q.spec:=Eb Bt.H6.q.E Tryz.func21 (kc Av.Add.q.Ae (kc Av.Mul.q.Ae (kc Bg.Value.q.Ae .nil))) fun x y hp=>by
 obtain⟨h1,h⟩:=Ac.1 (show((Ah x&&Ah y)&&Bq (x.length=y.length/\x.length<=64))=true from hp);obtain⟨ax,ay⟩:=Ac.1 h1;obtain⟨hy,hx⟩:=Ak.1 h;show ∃N dv drops,_=some dv/\Wk drops dv (dqO (Us x y));by_cases h0:x.length=0
 ·refine⟨1,.agg [.bool false,.nil,.int .i64 0],[],?_,?_⟩
  ·rw[Bt.H6.q.ev,Bt.H6.q.Ar,As,Beu (by omega),Bet]
  ·have:Us x y=0:=by unfold Us; rw[h0]; rfl
   rw[this]; exact wqN
 ·exact⟨66,_,[],(Bt.H6.q.ev 66 x y).trans ((Aro 66 65 (by omega) (by omega) ax ay).trans (Aw7 ax ay hx hy 66 (x.length-1) 1 65 (by omega) (by omega))),wqO⟩
section
variable{x:List Int}{y:List (List DV)}(ax:Ah x=true)(hy:Bbg y x.length=true)
include ax hy
end
section
variable{C K:Nat}{l m h:List Int}
theorem A37{R:Nat}(hl:l.length=R*C){i j:Nat}(hi:i<R)(hj:j<C):(F6 (C:Int) l (i:Int)).getD j 0=C1 (C:Int) l (i:Int) (j:Int):=by rw[Amr hl hi,Bez,Bf6,yv hj];rfl
theorem Oq{R:Nat}(hl:l.length=R*C){i:Nat}(hi:i<R):(F6 (C:Int) l (i:Int)).length=C:=by rw[Amr hl hi,Bfv,Bfs]
theorem Bbh{i:Int}(al:Ah l=true):Ah (F6 (C:Int) l i)=true:=by
 refine Ak.2 fun z hz=>?_
 unfold F6 at hz;exact Ak.1 al z (List.mem_of_mem_take (List.mem_of_mem_drop hz))
theorem Ay4{b n j:Nat}(hj:j<n):(B3 (K:Int) m (b:Int) 0 n).getD j 0=C1 (K:Int) m (j:Int) (b:Int):=by rw[A32 hj,Int.zero_add]
theorem A49{R:Nat}(hl:l.length=R*C){i k:Nat}(hi:i<R):Us (F6 (C:Int) l (i:Int)) (B3 (K:Int) m (k:Int) 0 C)-Fo (C1 (K:Int) h (i:Int) (k:Int))=lkQ C l m h K i k:=by unfold Us lkQ;rw[Oq hl hi,Au4 C fun j hj=>by rw[A37 hl hi hj,Ay4 hj]]
theorem Bbu(x y:List Int)(hx:x.length<=64):Dq (Us x y):=Ap0 (k:=64) (m:=1) (fun j=>Dg.wv2 _ _) (by decide) (by decide) hx (by decide)
end
section
variable{R C K:Nat}{l m h:List Int}(r6:R<=6)(c6:C<=6)(k6:K<=6)(hl:l.length=R*C)(hm:m.length=C*K)(hh:h.length=R*K)(al:Ah l=true)(am:Ah m=true)(ah:Ah h=true)
include r6 c6 k6 hl hm hh al am ah
theorem Ans{i k:Nat}(hi:i<R)(hk:k<K):Tj (R:Int) (C:Int) l (i:Int)=true/\(Gu (C:Int) (K:Int) m (k:Int)&&Bq (0<=(0:Int)/\(0:Int)<=(C:Int)))=true /\
 ((Ah (F6 (C:Int) l (i:Int))&&Ah (B3 (K:Int) m (k:Int) 0 C))&&Bq (length (F6 (C:Int) l (i:Int))=length (B3 (K:Int) m (k:Int) 0 C)/\length (F6 (C:Int) l (i:Int))<=64))=true /\
 E6 (R:Int) (K:Int) h (i:Int) (k:Int)=true/\Af (C1 (K:Int) h (i:Int) (k:Int))=true /\
 Dq (Us (F6 (C:Int) l (i:Int)) (B3 (K:Int) m (k:Int) 0 C)):=by
 refine⟨?_,?_,?_,Gi r6 k6 hh hi hk,T5 ah,Bbu _ _ (by rw[Oq hl hi]; omega)⟩
 ·unfold Tj;rw[Ep r6 c6 hl,Bf2];exact Ak.2 ⟨by omega,by omega⟩
 ·unfold Gu;rw[Ep c6 k6 hm,Bf2,Ac];exact⟨Ak.2 ⟨by omega,by omega⟩,Ak.2 ⟨by decide,by omega⟩⟩
 ·rw[Bbh al,Pj am,Bev,Bf2];exact Ak.2 ⟨by rw[Oq hl hi,E1],by rw[Oq hl hi]; omega⟩
omit hh am ah in
omit hh am ah in
end
def rsG(C:Nat)(l m h:List Int)(K i k:Nat):Rat:=lkQ C l m h K i k*lkQ C l m h K i k
section
variable{R C K:Nat}{l m h:List Int}
theorem As4{i k:Nat}(hC:C<=6):Dg 4296 8400 49 (rsG C l m h K i k):=(Dg.lk hC).mul (Dg.lk hC)
theorem A7s(hC:C<=6){i k:Nat}(hi:i<=6)(hK:K<=6)(hk:k<=6):Dg 4296 8400 2058 ((N4 i fun a=>N4 K fun b=>rsG C l m h K a b)+N4 k fun b=>rsG C l m h K i b) :=(Dg.Ux (m:=294) hi fun a _=>Dg.Ux (m:=49) hK fun b _=>As4 hC).add (Dg.Ux (m:=49) hk fun b _=>As4 hC)
theorem Aih(hl:l.length=R*C){i k:Nat}(hi:i<R):Fo (C1 (K:Int) h (i:Int) (k:Int))-Us (F6 (C:Int) l (i:Int)) (B3 (K:Int) m (k:Int) 0 C)=-lkQ C l m h K i k:=by rw[<- A49 hl hi]; grind
theorem A0d(x:Rat):-x*-x=x*x:=by grind
end
section
variable{R C K:Nat}{l m h:List Int}(r6:R<=6)(c6:C<=6)(k6:K<=6)(hl:l.length=R*C)(hm:m.length=C*K)(hh:h.length=R*K)(al:Ah l=true)(am:Ah m=true)(ah:Ah h=true)
include r6 c6 k6 hl hm hh al am ah
theorem Azp(N M0:Nat){i:Nat}(hi:i<R):∀d k F,k+d=K->d<F->∀s,s=(N4 i fun a=>N4 K fun b=>rsG C l m h K a b)+N4 k (fun b=>rsG C l m h K i b) ->
 Bt.Cg.q.L2 N M0 F (R:Int) (K:Int) h (R:Int) (C:Int) l (C:Int) (K:Int) m (k:Int) (Ba (mQ s)) (Al (mQ s)) (eQ s) (i:Int) =
 Bt.Cg.q.L3 N M0 (R:Int) (K:Int) h (R:Int) (C:Int) l (C:Int) (K:Int) m ((i+1:Nat):Int) (Ba (mQ (N4 (i+1) fun a=>N4 K fun b=>rsG C l m h K a b))) (Al (mQ (N4 (i+1) fun a=>N4 K fun b=>rsG C l m h K a b))) (eQ (N4 (i+1) fun a=>N4 K fun b=>rsG C l m h K a b)):=by
 intro d
 induction d with
 | zero =>
   intro k F hk hF s hs;obtain⟨F,rfl⟩:∃G,F=G+1:=⟨F-1,by omega⟩
   obtain rfl:k=K:=by omega
   have e:s=N4 (i+1) fun a=>N4 k fun b=>rsG C l m h k a b:=hs
   rw[Bt.Cg.q.Jw,As,Beu (by omega),Bet,An (by omega) (by omega),e];rfl
 | succ d ih =>
   intro k F hk hF s hs;obtain⟨F,rfl⟩:∃G,F=G+1:=⟨F-1,by omega⟩
   obtain⟨p1,p2,p3,p4,p5,p6⟩:=Ans r6 c6 k6 hl hm hh al am ah hi (show k<K by omega);have dw:=Aco (C1 (K:Int) h (i:Int) (k:Int));have ds:Dq s:=by rw[hs]; exact(A7s c6 (by omega) k6 (by omega)).dq (by decide) (by decide) (by decide)
   have e1:(k:Int)+1=((k+1:Nat):Int):=by omega
   have eC:toNat ((C:Int)-0)=C:=by rw[Int.sub_zero,Ber]
   have lk:=Aih (C:=C) (K:=K) (m:=m) (h:=h) (k:=k) hl hi;have d7:Dq (-lkQ C l m h K i k):=(Dg.lk c6).neg.dq (by decide) (by decide) (by decide);have d8:Dq (rsG C l m h K i k):=(As4 c6).dq (by decide) (by decide) (by decide);have eg:lkQ C l m h K i k*lkQ C l m h K i k=rsG C l m h K i k:=rfl;rw[Bt.Cg.q.Jw,As,Beq (show(k:Int)<(K:Int) by omega),Bep,p4,Bep,p5,Bep,p1,Bep,p2,Bep,eC,p3,Bep,Ih dw,Ih p6,Bev,Bep,Ic dw,Ic p6,lk,Ih d7,Bev,Bep,Ic d7,A0d,eg,Arm ds,Ih d8,Bev,Bep,Ud ds,Ic d8,An (by omega) (by omega),e1];refine ih (k+1) F (by omega) (by omega) _ ?_;rw[hs];show _=_+(N4 k (fun b=>rsG C l m h K i b)+rsG C l m h K i k)
   grind
theorem A7z(N:Nat)(hN:7<N):∀d i F,i+d=R->d<F ->
 Bt.Cg.q.L3 N F (R:Int) (K:Int) h (R:Int) (C:Int) l (C:Int) (K:Int) m (i:Int) (Ba (mQ (N4 i fun a=>N4 K fun b=>rsG C l m h K a b))) (Al (mQ (N4 i fun a=>N4 K fun b=>rsG C l m h K a b))) (eQ (N4 i fun a=>N4 K fun b=>rsG C l m h K a b)) =
 some (dqO (N4 R fun a=>N4 K fun b=>rsG C l m h K a b)):=by
 intro d
 induction d with
 | zero =>
   intro i F hi hF;obtain⟨F,rfl⟩:∃G,F=G+1:=⟨F-1,by omega⟩
   obtain rfl:i=R:=by omega
   rw[Bt.Cg.q.W4,As,Beu (by omega),Bet];rfl
 | succ d ih =>
   intro i F hi hF;obtain⟨F,rfl⟩:∃G,F=G+1:=⟨F-1,by omega⟩
   rw[Bt.Cg.q.W4,As,Beq (show(i:Int)<(R:Int) by omega),Bep]
   have h2:=Azp r6 c6 k6 hl hm hh al am ah N F (show i<R by omega) K 0 N (by omega) (by omega) (N4 i fun a=>N4 K fun b=>rsG C l m h K a b) (by show _=_+(0:Rat); grind)
   exact h2.trans (ih (i+1) F (by omega) (by omega))
theorem A70(N:Nat)(hN:7<N):∀d i F,i+d=R->d<F->(N4 i fun a=>N4 K fun b=>rsG C l m h K a b)=0 ->
 ∃dv,Bt.Cg.q.L0 N F (R:Int) (K:Int) h (R:Int) (C:Int) l (C:Int) (K:Int) m (i:Int)=some dv/\Wk [] dv (dqO (N4 R fun a=>N4 K fun b=>rsG C l m h K a b)):=by
 intro d
 induction d with
 | zero =>
   intro i F hi hF h0;obtain⟨F,rfl⟩:∃G,F=G+1:=⟨F-1,by omega⟩
   obtain rfl:i=R:=by omega
   refine⟨_,by rw[Bt.Cg.q.Ar,As,Beu (by omega),Bet],?_⟩;rw[h0]; exact wqN
 | succ d ih =>
   intro i F hi hF h0;obtain⟨F,rfl⟩:∃G,F=G+1:=⟨F-1,by omega⟩
   rw[Bt.Cg.q.Ar,As,Beq (show(i:Int)<(R:Int) by omega),Bep];obtain⟨G,hG⟩:∃G,N=G+1:=⟨N-1,by omega⟩
   have hL1:Bt.Cg.q.L1 N F N (R:Int) (K:Int) h (R:Int) (C:Int) l (C:Int) (K:Int) m (i:Int)=Bt.Cg.q.L1 N F (G+1) (R:Int) (K:Int) h (R:Int) (C:Int) l (C:Int) (K:Int) m (i:Int):=congrArg (fun z=>Bt.Cg.q.L1 N F z (R:Int) (K:Int) h (R:Int) (C:Int) l (C:Int) (K:Int) m (i:Int)) hG;rw[hL1,Bt.Cg.q.B6];by_cases k0:K=0
   ·rw[As,Beu (by omega),Bet,An (by omega) (by omega)];refine ih (i+1) F (by omega) (by omega) ?_;show _+N4 K _=0;rw[h0];subst k0;show 0+(0:Rat)=0;grind
   ·obtain⟨p1,p2,p3,p4,p5,p6⟩:=Ans r6 c6 k6 hl hm hh al am ah (show i<R by omega) (show 0<K by omega);have p2:(Gu (C:Int) (K:Int) m 0&&Bq (0<=(0:Int)/\(0:Int)<=(C:Int)))=true:=p2;have p3:((Ah (F6 (C:Int) l (i:Int))&&Ah (B3 (K:Int) m 0 0 C))&&Bq (length (F6 (C:Int) l (i:Int))=length (B3 (K:Int) m 0 0 C)/\length (F6 (C:Int) l (i:Int))<=64))=true:=p3;have p4:E6 (R:Int) (K:Int) h (i:Int) 0=true:=p4;have p5:Af (C1 (K:Int) h (i:Int) 0)=true:=p5;have p6:Dq (Us (F6 (C:Int) l (i:Int)) (B3 (K:Int) m 0 0 C)):=p6;have dw:=Aco (C1 (K:Int) h (i:Int) 0);have eC:toNat ((C:Int)-0)=C:=by rw[Int.sub_zero,Ber]
    have lk:Fo (C1 (K:Int) h (i:Int) 0)-Us (F6 (C:Int) l (i:Int)) (B3 (K:Int) m 0 0 C)=-lkQ C l m h K i 0:=Aih (k:=0) hl (show i<R by omega);have d7:Dq (-lkQ C l m h K i 0):=(Dg.lk c6).neg.dq (by decide) (by decide) (by decide);have d8:Dq (rsG C l m h K i 0):=(As4 c6).dq (by decide) (by decide) (by decide);have eg:lkQ C l m h K i 0*lkQ C l m h K i 0=rsG C l m h K i 0:=rfl
    have es:(0:Rat)+rsG C l m h K i 0=(N4 i fun a=>N4 K fun b=>rsG C l m h K a b)+N4 1 fun b=>rsG C l m h K i b:=by
     rw[h0];show _=0+((0:Rat)+rsG C l m h K i 0)
     grind
    rw[As,Beq (show(0:Int)<(K:Int) by omega),Bep,p4,Bep,p5,Bep,p1,Bep,p2,Bep,eC,p3,Bep,Ih dw,Ih p6,Bev,Bep,Ic dw,Ic p6,lk,Ih d7,Bev,Bep,Ic d7,A0d,eg,Ak1,Ih d8,Bev,Bep,Apb,Ic d8];have h4:=Azp r6 c6 k6 hl hm hh al am ah N F (show i<R by omega) (K-1) 1 G (by omega) (by omega) _ es;have h6:=A7z r6 c6 k6 hl hm hh al am ah N hN d (i+1) F (by omega) (by omega);exact⟨_,h4.trans h6,wqO⟩
end
theorem A4c(R C K:Nat)(l m h:List Int):Zb R C K l m h=N4 R fun a=>N4 K fun b=>rsG C l m h K a b:=rfl
theorem Bt.Cg.q.Ae:Kq 42 Bt.Cg.q.spec:=Eb Bt.Cg.q.E Tryz.func42 (kc Av.Add.q.Ae (kc Av.Mul.q.Ae (kc Av.Sub.q.Ae (kc Bg.Value.q.Ae (kc A0.At.Ae (kc A0.Ys.Ae (kc A0.Row.Ae (kc Bt.H6.q.Ae .nil)))))))) fun r c l p q m u v h hp=>by
 obtain⟨h1,h2⟩:=Ac.1 (show(((Az r c l&&Az p q m)&&(Az u v h&&(Ah l&&(Ah m&&Ah h))))&&decide (p=r/\u=q/\v=c))=true from hp);obtain⟨h3,h4⟩:=Ac.1 h1;obtain⟨hl,hm⟩:=Ac.1 h3;obtain⟨hh,h5⟩:=Ac.1 h4;obtain⟨al,h6⟩:=Ac.1 h5;obtain⟨am,ah⟩:=Ac.1 h6;obtain⟨rfl,rfl,rfl⟩:=Bff h2;obtain⟨R,K,rfl,rfl,r6,k6,ll⟩:=Cp hl;obtain⟨P,C,eP,rfl,_,c6,lm⟩:=Cp hm;obtain rfl:P=R:=by omega
 obtain⟨U,V,eU,eV,_,_,lh⟩:=Cp hh;obtain rfl:U=C:=by omega
 obtain rfl:V=K:=by omega
 obtain⟨dv,e,w⟩:=A70 r6 c6 k6 lm lh ll am ah al 8 (by omega) P 0 8 (by omega) (by omega) rfl;refine⟨8,dv,[],(Bt.Cg.q.ev 8 _ _ _ _ _ _ _ _ _).trans e,?_⟩;show Wk [] dv (dqO (Zb (toNat (P:Int)) (toNat (U:Int)) (toNat (V:Int)) m h l));rw[Ber,Ber,Ber,A4c];exact w
set_option maxRecDepth 100000
def Aq.I1.hint:Nat->Option A9
 | 0=>some { keep:=[0,1,5],objs:=[],boxes:=[] }
 | _=>none
def Aq.I1.E:=C6 (Cw [(114,Bg.Finite.spec),(58,Bg.Kind.spec),(92,Cy.Tc.spec)]) (fun _=>false) Aq.I1.hint (fun _=>none)
section
variable(N M:Nat)(x:List Int)(k p5:Int)
def Aq.I1.L0:Option DV:=B2 Aq.I1.E N f91 (Aj f91) [1,0,1,0] [] M ⟨F3 43 [(0,.ints .arg .u64 x),(1,.int .i64 k),(5,.int .i64 p5)],[]⟩
theorem Aq.I1.Ar:Aq.I1.L0 N (M+1) x k p5=cond (Bc p5 (length x:Int)) (bif ((decide (0<=p5))&&(decide (p5<(length x:Int)))) then cond (Af (getD x (toNat p5) 0)) (bif (!(Dl (getD x (toNat p5) 0))) then some (.bool false) else bif ((decide (0<=p5))&&(decide (p5<(length x:Int)))) then cond (R9 (getD x (toNat p5) 0)) (bif ((!((Bb (getD x (toNat p5) 0)) !=(0:Int)))||((decide (0<=p5))&&(decide (p5<(length x:Int))))) then cond ((!((Bb (getD x (toNat p5) 0)) !=(0:Int)))||(Af (getD x (toNat p5) 0))) (bif ((!(((Bb (getD x (toNat p5) 0)) !=(0:Int))&&(!(Bc (Bs (getD x (toNat p5) 0)) (Ad ((0:Int)-k))))))||((decide (0<=p5))&&(decide (p5<(length x:Int))))) then cond ((!(((Bb (getD x (toNat p5) 0)) !=(0:Int))&&(!(Bc (Bs (getD x (toNat p5) 0)) (Ad ((0:Int)-k))))))||(Af (getD x (toNat p5) 0))) (bif (((Bb (getD x (toNat p5) 0)) !=(0:Int))&&((Bc (Bs (getD x (toNat p5) 0)) (Ad ((0:Int)-k)))||(Fb k (Bs (getD x (toNat p5) 0))))) then some (.bool false) else Aq.I1.L0 N M x k (Ad (p5+1))) none else none) none else none) none else none) none else none) (some (.bool true)) :=Et (Es (Es (Es (Es rfl (Es (Es (Ax (Un ((Bb (getD x (toNat p5) 0)) !=(0:Int))) (Ax (Un ((Bb (getD x (toNat p5) 0)) !=(0:Int))) (Co (Baf _ _ _) (Ax (P7 ((Bb (getD x (toNat p5) 0)) !=(0:Int))) (Co (Bad _ _) (Ax (Un ((Bb (getD x (toNat p5) 0)) !=(0:Int))) (Ax (P7 ((Bb (getD x (toNat p5) 0)) !=(0:Int))) (Ax (Auo ((Bb (getD x (toNat p5) 0)) !=(0:Int))) (Ax (P7 ((Bb (getD x (toNat p5) 0)) !=(0:Int))) (Ax (Ayo ((Bb (getD x (toNat p5) 0)) !=(0:Int)) (Bc (Bs (getD x (toNat p5) 0)) (Ad ((0:Int)-k)))) (Ax (Ayo ((Bb (getD x (toNat p5) 0)) !=(0:Int)) (Bc (Bs (getD x (toNat p5) 0)) (Ad ((0:Int)-k)))) (Co (Bc0 _ _ _ _) (Ax (Bay ((Bb (getD x (toNat p5) 0)) !=(0:Int)) (Bc (Bs (getD x (toNat p5) 0)) (Ad ((0:Int)-k)))) (Co (Bc1 _ _ _) (Ax (Ayo ((Bb (getD x (toNat p5) 0)) !=(0:Int)) (Bc (Bs (getD x (toNat p5) 0)) (Ad ((0:Int)-k)))) (Ax (Bax ((Bb (getD x (toNat p5) 0)) !=(0:Int)) (Bc (Bs (getD x (toNat p5) 0)) (Ad ((0:Int)-k)))) (Ax (Ba3 ((Bb (getD x (toNat p5) 0)) !=(0:Int)) (Bc (Bs (getD x (toNat p5) 0)) (Ad ((0:Int)-k)))) (Ax (tt2 ((Bb (getD x (toNat p5) 0)) !=(0:Int))) (Co (Bc2 _ _ _) rfl rfl))))) rfl)) rfl))))))) rfl)) rfl))) rfl) rfl)) rfl) rfl) rfl)
theorem Aq.I1.ev:Bv Aq.I1.E N f91 (Aj f91) [.ints .arg .u64 x,.int .i64 k] =
 Aq.I1.L0 N N x k 0:=by kernel_rfl
end
def Bt.I1.E:=E0 [(91,Aq.I1.spec),(90,A0.Oa.spec)]
theorem Bt.I1.ev(N:Nat)(r c:Int)(l:List Int)(k:Int):Bv Bt.I1.E N f34 (Aj f34) [.agg [.int .i64 r,.int .i64 c,.ints .arg .u64 l],.int .i64 k]=cond ((!(Az r c l))||(By l&&Bq (0<=k/\k<=1000))) (some (.bool (cond (Az r c l) (Mr l k) false))) none :=Et (Ax (Un (Az r c l)) (Ax (P7 (Az r c l)) (Ax (Un (Az r c l)) (Co (Bcz _ _) (Ax (tt2 (Az r c l)) rfl) rfl))))
theorem Aut{k b:Int}(hk:0<=k/\k<=1000):((Bb b !=(0:Int))&&((Bc (Bs b) (Ad ((0:Int)-k)))||(Fb k (Bs b))))=!(decide (Bb b=0)||(decide (-k<=Bs b)&&decide (Bs b<k))):=by rw[An (by omega) (by omega),As,Fs,Be5];simp only[Be0,Bool.or_eq_true,Bool.not_eq_true',Bool.or_eq_false_iff,Bool.and_eq_false_iff,Bew,Be8,bne_iff_ne,ne_eq];omega
theorem Aus(N:Nat){x:List Int}(ax:Ah x=true)(hx:x.length<4611686018427387904){k:Int}(hk:0<=k/\k<=1000):∀(t d:List Int) (F:Nat),x=d++t->t.length<F ->
 Aq.I1.L0 N F x k (d.length:Int)=some (.bool (t.all (Ahq k))):=by
 intro t
 induction t with
 | nil =>
   intro d F hy hF;obtain⟨F,rfl⟩:∃G,F=G+1:=⟨F-1,by omega⟩
   rw[List.append_nil] at hy;subst hy;rw[Aq.I1.Ar,As,Beu (by omega),Bet];rfl
 | cons b t ih =>
   intro d F hy hF;obtain⟨F,rfl⟩:∃G,F=G+1:=⟨F-1,by omega⟩
   have hl:d.length<x.length:=by rw[hy,Bfh,zo]; omega
   have hb:getD x d.length 0=b:=by rw[hy,Bez,Bf3 (Bfj _),Nat.sub_self]; rfl
   have ib:Af b=true:=by rw[<- hb]; exact Lj ax hl
   obtain⟨n,hn,_⟩:=Bu ib;have nb:R9 b=true:=by rw[hn]; exact No n
   rw[Aq.I1.Ar,As,Beq (show(d.length:Int)<(x.length:Int) by omega),Beq (show(0:Int)<=(d.length:Int) by omega),Ber,hb,ib,nb,Aut hk];simp only[Bep,Bev,Bf1];show(cond (!Dl b) (some (DV.bool false)) _)=some (DV.bool ((Dl b&&(decide (Bb b=0)||(decide (-k<=Bs b)&&decide (Bs b<k))))&&t.all (Ahq k)));cases Dl b with
   | false=>rfl
   | true =>
     rw[Bfo,Bet,Bf2];cases (decide (Bb b=0)||(decide (-k<=Bs b)&&decide (Bs b<k))) with
     | false=>rfl
     | true =>have:=ih (d++[b]) F (by rw[hy,List.append_assoc]; rfl) (by simp only[zo] at hF; omega);rw[Bfh] at this;rw[Bfo,Bet,Bf2,An (by omega) (by omega)];exact this
theorem Aq.I1.Ae:Kq 91 Aq.I1.spec:=Eb Aq.I1.E Tryz.func91 (kc Bg.Finite.Ae (kc Bg.Kind.Ae (kc Cy.Tc.Ae .nil))) fun x k hp=>by obtain⟨ox,hk⟩:=Ac.1 (show(By x&&Bq (0<=k/\k<=1000))=true from hp);refine⟨x.length+1,.bool (Mr x k),[],?_,.bool⟩;rw[Aq.I1.ev];exact Aus (x.length+1) (W0 ox) (Ak.1 ox).1 (Ak.1 hk) x [] (x.length+1) rfl (by omega)
theorem Bt.I1.Ae:Kq 34 Bt.I1.spec:=Eb Bt.I1.E Tryz.func34 (kc Aq.I1.Ae (kc A0.Oa.Ae .nil)) fun r c l k hp=>by
 obtain⟨al,hk⟩:=Ac.1 (show(Ah l&&Bq (0<=k/\k<=1000))=true from hp);refine⟨0,.bool (Az r c l&&Mr l k),[],?_,.bool⟩;rw[Bt.I1.ev,hk];cases hr:Az r c l with
 | false=>rfl
 | true =>rw[Gz al (by have:=Mt hr; omega)];rfl
def Er.G7.E:=E0 [(33,Er.Ji.spec),(40,Am.Of.spec),(11,Av.Add.q.spec),(43,Av.Compare.q.spec),(23,Av.Mul.q.spec),(39,Av.Of.q.spec),(41,Av.D8.q.spec),(38,Bg.Value.q.spec),(36,A0.Cs.spec),(35,Bt.Check.spec),(42,Bt.Cg.q.spec),(12,Bt.Mn.spec),(34,Bt.I1.spec),(37,Ay.A2.spec),(31,B8.Total.spec)]
theorem Er.G7.ev(N:Nat)(r c:Int)(l:List Int)(p q:Int)(m:List Int):Bv Er.G7.E N f8 (Aj f8) [.agg [.int .i64 r,.int .i64 c,.ints .arg .u64 l],.agg [.int .i64 p,.int .i64 q,.ints .arg .u64 m]]=cond (Ah l&&Bq (0<=(20:Int)/\(20:Int)<=1000)) (bif ((!(Az r c l&&Mr l 20))||(Ah m&&Bq (0<=(20:Int)/\(20:Int)<=1000))) then cond ((!(Az r c l&&Mr l 20))||(!(Az p q m&&Mr m 20))) (some (.bool true)) (bif (Ah l&&Ah m) then cond (((D9 r c l p q m).2.2.2) !=(0:Int)) (some (.bool (cond (bif (cond (((D9 r c l p q m).2.2.2)==(3:Int)) true (((D9 r c l p q m).2.2.2)==(7:Int))) then true else (((D9 r c l p q m).2.2.2)==(6:Int))) true false))) (bif (Ah ((D9 r c l p q m).2.2.1)) then cond ((((Ci ((D9 r c l p q m).1) ((D9 r c l p q m).2.1) ((D9 r c l p q m).2.2.1)) !=(0:Int))||(((D9 r c l p q m).1) !=c))||(((D9 r c l p q m).2.1) !=(1:Int))) (some (.bool false)) (bif ((Az r c l&&Az p q m)&&decide (p=r/\c+q<=6)) then cond (Az r (c+q) (B0 (toNat r) (toNat (c+q)) (fun j1 j2=>C9 c l q m j1 j2))&&(Ah (B0 (toNat r) (toNat (c+q)) (fun j1 j2=>C9 c l q m j1 j2))&&decide (Ds (B0 (toNat r) (toNat (c+q)) (fun j1 j2=>C9 c l q m j1 j2))=true))) (bif ((Jy r (c+q) (B0 (toNat r) (toNat (c+q)) (fun j1 j2=>C9 c l q m j1 j2))) !=(0:Int)) then some (.bool false) else bif ((decide (0<=c))&&(decide (c<(length (M9 r (c+q) (B0 (toNat r) (toNat (c+q)) (fun j1 j2=>C9 c l q m j1 j2))):Int)))) then cond (Af (getD (M9 r (c+q) (B0 (toNat r) (toNat (c+q)) (fun j1 j2=>C9 c l q m j1 j2))) (toNat c) 0)) (bif (Ah ((D9 r c l p q m).2.2.1)&&Az ((D9 r c l p q m).1) ((D9 r c l p q m).2.1) ((D9 r c l p q m).2.2.1)) then cond (Aip 1) (bif (Nd (Ba ((1:Int))) (Al ((1:Int)))&&Bq (-5000<=(0:Int)/\(0:Int)<=5000)) then cond (Vs (R8 ((D9 r c l p q m).2.2.1))&&Vs (vQ (Ba ((1:Int))) (Al ((1:Int))) 0)) (bif (Vs (Fo (getD (M9 r (c+q) (B0 (toNat r) (toNat (c+q)) (fun j1 j2=>C9 c l q m j1 j2))) (toNat c) 0))&&Vs (Fo (getD (M9 r (c+q) (B0 (toNat r) (toNat (c+q)) (fun j1 j2=>C9 c l q m j1 j2))) (toNat c) 0))) then cond (Ah (B0 (toNat r) (toNat (c+q)) (fun j1 j2=>C9 c l q m j1 j2))&&Az r (c+q) (B0 (toNat r) (toNat (c+q)) (fun j1 j2=>C9 c l q m j1 j2))) (bif (Vs (R8 (B0 (toNat r) (toNat (c+q)) (fun j1 j2=>C9 c l q m j1 j2)))&&Bq (-2000<=(-30:Int)/\(-30:Int)<=2000)) then cond (Vs (E3 (Fo (getD (M9 r (c+q) (B0 (toNat r) (toNat (c+q)) (fun j1 j2=>C9 c l q m j1 j2))) (toNat c) 0))*E3 (Fo (getD (M9 r (c+q) (B0 (toNat r) (toNat (c+q)) (fun j1 j2=>C9 c l q m j1 j2))) (toNat c) 0)))&&Vs (E3 (R8 (B0 (toNat r) (toNat (c+q)) (fun j1 j2=>C9 c l q m j1 j2)))*tw (-30:Int))) (bif (((Az p q m&&Az r c l)&&(Az ((D9 r c l p q m).1) ((D9 r c l p q m).2.1) ((D9 r c l p q m).2.2.1)&&(Ah m&&(Ah l&&Ah ((D9 r c l p q m).2.2.1)))))&&decide (r=p/\((D9 r c l p q m).1)=c/\((D9 r c l p q m).2.1)=q)) then cond (Vs (E3 (E3 (Fo (getD (M9 r (c+q) (B0 (toNat r) (toNat (c+q)) (fun j1 j2=>C9 c l q m j1 j2))) (toNat c) 0))*E3 (Fo (getD (M9 r (c+q) (B0 (toNat r) (toNat (c+q)) (fun j1 j2=>C9 c l q m j1 j2))) (toNat c) 0)))+E3 (E3 (R8 (B0 (toNat r) (toNat (c+q)) (fun j1 j2=>C9 c l q m j1 j2)))*tw (-30:Int)))&&Vs (E3 (R8 ((D9 r c l p q m).2.2.1))+E3 (vQ (Ba ((1:Int))) (Al ((1:Int))) 0))) (bif (Vs (Zb (toNat p) (toNat c) (toNat q) l ((D9 r c l p q m).2.2.1) m)&&Vs (E3 (E3 (E3 (Fo (getD (M9 r (c+q) (B0 (toNat r) (toNat (c+q)) (fun j1 j2=>C9 c l q m j1 j2))) (toNat c) 0))*E3 (Fo (getD (M9 r (c+q) (B0 (toNat r) (toNat (c+q)) (fun j1 j2=>C9 c l q m j1 j2))) (toNat c) 0)))+E3 (E3 (R8 (B0 (toNat r) (toNat (c+q)) (fun j1 j2=>C9 c l q m j1 j2)))*tw (-30:Int)))*E3 (E3 (R8 ((D9 r c l p q m).2.2.1))+E3 (vQ (Ba ((1:Int))) (Al ((1:Int))) 0)))) then some (.bool (cond (Fb (Ak7 (E3 (Zb (toNat p) (toNat c) (toNat q) l ((D9 r c l p q m).2.2.1) m)) (E3 (E3 (E3 (E3 (Fo (getD (M9 r (c+q) (B0 (toNat r) (toNat (c+q)) (fun j1 j2=>C9 c l q m j1 j2))) (toNat c) 0))*E3 (Fo (getD (M9 r (c+q) (B0 (toNat r) (toNat (c+q)) (fun j1 j2=>C9 c l q m j1 j2))) (toNat c) 0)))+E3 (E3 (R8 (B0 (toNat r) (toNat (c+q)) (fun j1 j2=>C9 c l q m j1 j2)))*tw (-30:Int)))*E3 (E3 (R8 ((D9 r c l p q m).2.2.1))+E3 (vQ (Ba ((1:Int))) (Al ((1:Int))) 0))))) 0) true false)) else none) none else none) none else none) none else none) none else none) none else none) none else none) none else none) else none) else none) else none) none :=
 Et (Es (Ax (Xw (Az r c l&&Mr l 20)) (Co (Apl _ _) (Ax (R7 (Az r c l&&Mr l 20)) (Ax (Aau (Az r c l&&Mr l 20)) (Co (Apm _ _) rfl (Es (Es (Ax (Uw (((D9 r c l p q m).2.2.2)==(3:Int))) (Ax (Te (((D9 r c l p q m).2.2.2)==(3:Int))) (Ax (tt6 (((D9 r c l p q m).2.2.2)==(3:Int))) (Ax (Agu (((D9 r c l p q m).2.2.2)==(3:Int)) (((D9 r c l p q m).2.2.2)==(7:Int))) (Ax (Agv (((D9 r c l p q m).2.2.2)==(3:Int)) (((D9 r c l p q m).2.2.2)==(7:Int))) (Ax (Apj (((D9 r c l p q m).2.2.2)==(3:Int)) (((D9 r c l p q m).2.2.2)==(7:Int))) (Ax (Ba1 (((D9 r c l p q m).2.2.2)==(3:Int)) (((D9 r c l p q m).2.2.2)==(7:Int)) (((D9 r c l p q m).2.2.2)==(6:Int))) (Ax (Ba2 (((D9 r c l p q m).2.2.2)==(3:Int)) (((D9 r c l p q m).2.2.2)==(7:Int)) (((D9 r c l p q m).2.2.2)==(6:Int))) rfl)))))))) (Es (Ax (Uw ((Ci ((D9 r c l p q m).1) ((D9 r c l p q m).2.1) ((D9 r c l p q m).2.2.1)) !=(0:Int))) (Ax (Te ((Ci ((D9 r c l p q m).1) ((D9 r c l p q m).2.1) ((D9 r c l p q m).2.2.1)) !=(0:Int))) (Ax (Uw ((Ci ((D9 r c l p q m).1) ((D9 r c l p q m).2.1) ((D9 r c l p q m).2.2.1)) !=(0:Int))) (Ax (Te ((Ci ((D9 r c l p q m).1) ((D9 r c l p q m).2.1) ((D9 r c l p q m).2.2.1)) !=(0:Int))) (Ax (tt8 ((Ci ((D9 r c l p q m).1) ((D9 r c l p q m).2.1) ((D9 r c l p q m).2.2.1)) !=(0:Int))) (Ax (tt6 ((Ci ((D9 r c l p q m).1) ((D9 r c l p q m).2.1) ((D9 r c l p q m).2.2.1)) !=(0:Int))) (Ax (Agu ((Ci ((D9 r c l p q m).1) ((D9 r c l p q m).2.1) ((D9 r c l p q m).2.2.1)) !=(0:Int)) (((D9 r c l p q m).1) !=c)) (Ax (Agv ((Ci ((D9 r c l p q m).1) ((D9 r c l p q m).2.1) ((D9 r c l p q m).2.2.1)) !=(0:Int)) (((D9 r c l p q m).1) !=c)) (Ax (Agv ((Ci ((D9 r c l p q m).1) ((D9 r c l p q m).2.1) ((D9 r c l p q m).2.2.1)) !=(0:Int)) (((D9 r c l p q m).1) !=c)) (Ax (Apj ((Ci ((D9 r c l p q m).1) ((D9 r c l p q m).2.1) ((D9 r c l p q m).2.2.1)) !=(0:Int)) (((D9 r c l p q m).1) !=c)) (Co (Ba0 _ _ _) rfl (Es (Es (Es rfl (Es (Es (Es (Es (Es (Es (Co (Cb _) (Co (Cb _) (Co (Cb _) (Co (Cb _) (Es (Co (Cb _) (Co (Cb _) (Ax (Ahl (Fb (Ak7 (E3 (Zb (toNat p) (toNat c) (toNat q) l ((D9 r c l p q m).2.2.1) m)) (E3 (E3 (E3 (E3 (Fo (getD (M9 r (c+q) (B0 (toNat r) (toNat (c+q)) (fun j1 j2=>C9 c l q m j1 j2))) (toNat c) 0))*E3 (Fo (getD (M9 r (c+q) (B0 (toNat r) (toNat (c+q)) (fun j1 j2=>C9 c l q m j1 j2))) (toNat c) 0)))+E3 (E3 (R8 (B0 (toNat r) (toNat (c+q)) (fun j1 j2=>C9 c l q m j1 j2)))*tw (-30:Int)))*E3 (E3 (R8 ((D9 r c l p q m).2.2.1))+E3 (vQ (Ba ((1:Int))) (Al ((1:Int))) 0))))) 0)) (Ax (A98 (Fb (Ak7 (E3 (Zb (toNat p) (toNat c) (toNat q) l ((D9 r c l p q m).2.2.1) m)) (E3 (E3 (E3 (E3 (Fo (getD (M9 r (c+q) (B0 (toNat r) (toNat (c+q)) (fun j1 j2=>C9 c l q m j1 j2))) (toNat c) 0))*E3 (Fo (getD (M9 r (c+q) (B0 (toNat r) (toNat (c+q)) (fun j1 j2=>C9 c l q m j1 j2))) (toNat c) 0)))+E3 (E3 (R8 (B0 (toNat r) (toNat (c+q)) (fun j1 j2=>C9 c l q m j1 j2)))*tw (-30:Int)))*E3 (E3 (R8 ((D9 r c l p q m).2.2.1))+E3 (vQ (Ba ((1:Int))) (Al ((1:Int))) 0))))) 0)) rfl)) rfl) rfl) rfl) rfl) rfl) rfl) rfl) rfl) rfl) rfl) rfl) rfl) rfl)) rfl) rfl)))))))))))) rfl)) rfl)))) rfl)) rfl)
theorem Zk:vQ (Ba ((1:Int))) (Al ((1:Int))) (0:Int)=1:=by unfold vQ;rw[Gm];have:tw 0=1:=Yw;rw[this];show((1:Int):Rat)*1=1;decide +kernel
theorem Agm:Ah []=true:=Ak.2 fun _ h=>by cases h
theorem A3q(r c:Int)(l:List Int)(p q:Int)(m:List Int):Ah (D9 r c l p q m).2.2.1=true:=by
 unfold D9;split
 ·exact Agm
 ·split
  ·exact Agm
  ·unfold A3p;split
   ·exact Agm
   ·unfold Ays;split
    ·unfold W9;split
     ·unfold Rl; exact Vz fun _=>O6 (J9 _ _)
     ·exact Agm
    ·exact Agm
theorem A8y{x y:Rat}(h:x<=y):Fb (Ak7 x y) 0=true:=by
 rw[Fs];refine Beq ?_;unfold Ak7;split
 ·decide
 ·split
  ·exact absurd h (Rat.not_le.2 ‹_›)
  ·decide
theorem Er.G7.Ae:Kq 8 Er.G7.spec:=Eb Er.G7.E Tryz.func8 (kc Er.Ji.Ae (kc Am.Of.Ae (kc Av.Add.q.Ae (kc Av.Compare.q.Ae (kc Av.Mul.q.Ae (kc Av.Of.q.Ae (kc Av.D8.q.Ae (kc Bg.Value.q.Ae (kc A0.Cs.Ae (kc Bt.Check.Ae (kc Bt.Cg.q.Ae (kc Bt.Mn.Ae (kc Bt.I1.Ae (kc Ay.A2.Ae (kc B8.Total.Ae .nil))))))))))))))) fun r c l p q m hp=>by
 have hall:(Ah l&&Ah m)=true:=hp;obtain⟨al,am⟩:=Ac.1 hall;refine⟨0,.bool true,[],?_,.bool⟩;have k1:Bq (0<=(20:Int)/\(20:Int)<=1000)=true:=Ak.2 (by decide);rw[Er.G7.ev,hall,al,am,k1,Bev,Bep,Bf1,Bep];cases t1:Az r c l&&Mr l 20 with
 | false=>rfl
 | true =>
 cases t2:Az p q m&&Mr m 20 with
 | false=>rfl
 | true =>
 obtain⟨hr,ht⟩:=Ac.1 t1;obtain⟨hr2,ht2⟩:=Ac.1 t2;rcases Apn hr hr2 al am ht ht2 with e | e | e | ⟨R,C,X,rfl,rfl,rfl,rfl,r6,c6,hl,hm,eU,e,lX,bX,g⟩
 ·rw[e]; rfl
 ·rw[e]; rfl
 ·rw[e]; rfl
 ·have aX:Ah X=true:=by have a:Ah (D9 (R:Int) (C:Int) l (R:Int) 1 m).2.2.1=true:=A3q _ _ _ _ _ _;rw[e] at a; exact a
  rw[e];dsimp only;have eC:(C:Int)+1=((C+1:Nat):Int):=by omega
  have rX:Az (C:Int) 1 X=true:=Ep (c:=1) (by omega) (by decide) lX;have ab:=Ala (R:=R) (C:=C) al am;have rb:Az (R:Int) ((C+1:Nat):Int) (Dn R C l m)=true:=Ep r6 c6 (Aae R C l m);have fb:Ds (Dn R C l m)=true:=A19 (Aav (k:=20) ht).2 (Aav (k:=20) ht2).2;have eg:(B0 R (C+1) fun j1 j2=>C9 (C:Int) l 1 m (j1:Int) (j2:Int))=Dn R C l m:=rfl;have cX:Ci (C:Int) 1 X=0:=Ak8 rX bX.Pu
  have lS:(M9 (R:Int) ((C+1:Nat):Int) (Dn R C l m)).length=C+1:=by unfold M9;rw[Bfb (fun k=>k eU),Tt,Ber]
  have gS:(M9 (R:Int) ((C+1:Nat):Int) (Dn R C l m)).getD C 0=Bk (Dz R (C+1) (Gv R (C+1) (Dn R C l m)) C):=by unfold M9;rw[Bfb (fun k=>k eU),Ber,Ber];unfold Ch;rw[Bez,Bf6,yv (Nat.lt_succ_self C)];rfl
  have i1:toNat 1=1:=rfl;have n1:((0:Int) !=0)=false:=rfl;have n2:((C:Int) !=(C:Int))=false:=by simp
  have n3:((1:Int) !=1)=false:=rfl;have e1:decide ((R:Int)=(R:Int)/\(C:Int)+1<=6)=true:=Beq ⟨rfl,by omega⟩;have e2:decide ((0:Int)<=(C:Int))=true:=Beq (by omega);have e3:decide ((C:Int)<((C+1:Nat):Int))=true:=Beq (by omega);have e4:Af (Bk (Dz R (C+1) (Gv R (C+1) (Dn R C l m)) C))=true:=Le _;have e5:Aip (1:Int)=true:=Ak.2 (by decide)
  have e6:(Nd (Ba ((1:Int))) (Al ((1:Int)))&&Bq (-5000<=(0:Int)/\(0:Int)<=5000))=true:=by rw[Ac];exact⟨J7 (by decide),Ak.2 (by decide)⟩
  have e7:Bq (-2000<=(-30:Int)/\(-30:Int)<=2000)=true:=Ak.2 (by decide);have e8:decide ((R:Int)=(R:Int)/\(C:Int)=(C:Int)/\(1:Int)=1)=true:=Beq ⟨rfl,rfl,rfl⟩;have e9:decide (Ds (Dn R C l m)=true)=true:=Beq fb;have W:=Dg.wv (Bk (Dz R (C+1) (Gv R (C+1) (Dn R C l m)) C));have WW:=W.mul W;have l36:X.length<=36:=Mt rX;have lb:(Dn R C l m).length<=36:=Mt rb;have B:=Dg.sq (x:=Dn R C l m) (by omega);have Xq:=Dg.sq (x:=X) (by omega);have BS:=B.scale 30;have B30:R8 (Dn R C l m)*tw (-((30:Nat):Int))=R8 (Dn R C l m)*tw (-30):=rfl;rw[B30] at BS;have S1:=((WW.up 30).wide (s:=4230) (by decide)).add (BS.wide (s:=4230) (by decide));have O1:Dg (0+2148) 4200 1 (1:Rat):=(Dg.one.up 2148).wide (by decide);have X1:=Xq.add (O1:Dg 2148 4200 1 (1:Rat));have M1:=S1.mul X1;have dW:Dq (Fo (Bk (Dz R (C+1) (Gv R (C+1) (Dn R C l m)) C))):=W.dq (by decide) (by decide) (by decide);have dWW:Dq (Fo (Bk (Dz R (C+1) (Gv R (C+1) (Dn R C l m)) C))*Fo (Bk (Dz R (C+1) (Gv R (C+1) (Dn R C l m)) C))):=WW.dq (by decide) (by decide) (by decide);have dB:Dq (R8 (Dn R C l m)):=B.dq (by decide) (by decide) (by decide);have dX:Dq (R8 X):=Xq.dq (by decide) (by decide) (by decide);have dBS:Dq (R8 (Dn R C l m)*tw (-30)):=BS.dq (by decide) (by decide) (by decide);have d1:Dq (1:Rat):=Dg.one.dq (by decide) (by decide) (by decide);have dS1:=S1.dq (by decide) (by decide) (by decide);have dX1:=X1.dq (by decide) (by decide) (by decide);have dM1:=M1.dq (by decide) (by decide) (by decide);have dR:Dq (Zb R C 1 l X m):=(Dg.res r6 (by omega) (by decide)).dq (by decide) (by decide) (by decide);have o1:Vs (vQ (Ba ((1:Int))) (Al ((1:Int))) (0:Int))=true:=by rw[Zk]; exact Ih d1
  have o2:E3 (vQ (Ba ((1:Int))) (Al ((1:Int))) (0:Int))=1:=by rw[Zk]; exact Ic d1
  rw[hr,hr2,rX,aX,cX,n1,n2,n3,e1,eC,Ber,Ber,Ber,i1,eg,rb,ab,e9,eU,n1,lS,e2,e3,gS,e4,e5,e6,e7,e8,o1,o2];simp only[Bool.or_self,Bev,Bep,Bet,Ih dW,Ih dWW,Ih dB,Ih dX,Ih dBS,Ih dS1,Ih dX1,Ih dM1,Ih dR,Ic dW,Ic dWW,Ic dB,Ic dX,Ic dBS,Ic dS1,Ic dX1,Ic dM1,Ic dR];rw[A8y g];rfl
end Go.Proofs.S1
end
