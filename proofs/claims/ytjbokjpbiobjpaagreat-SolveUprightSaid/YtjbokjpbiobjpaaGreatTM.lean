/- A verified evaluator of the program's form and its use for this seat: S1EqRef11Q, S1PQ, S1PQa, S1PQb, FacW, FacX, FacY, FroV, UpV, UpW, UpX, GradV, S1PExaA, S1PExaB, LeaV, LeaW, LeaX, LeaY, LeaZ, UprV. -/
import Derived.Test.YtjbokjpbiobjpaaGreatTE
import Derived.Test.YtjbokjpbiobjpaaGreatTF
import Derived.Test.YtjbokjpbiobjpaaGreatTK
import Derived.Test.YtjbokjpbiobjpaaGreatTL
import Derived.Test.YtjbokjpbiobjpaaGreatTJ
set_option linter.unusedVariables false
set_option linter.unusedSimpArgs false
noncomputable section
open Int (toNat)
open List (length getD)
open Go.Proofs.Tryz
namespace Go.Proofs.S1
open Go Go.Den Go.Cv Go.Proofs
set_option maxRecDepth 100000
namespace EqRef11Q
def Bq.Cs.q.hint:Nat→Option Bf
 | 0=>some { keep:=[0,2,3,4],objs:=[],boxes:=[2,3] }
 | _=>none
def Bq.Cs.q.Bi:List (Nat × Entry):=[(42,Ai.Add.q.spec),(41,Ai.Mul.q.spec),(63,A1.Value.q.spec)]
def Bq.Cs.q.E:Env:=Bn (Bh Bq.Cs.q.Bi) (fun _=>false) Bq.Cs.q.hint (fun _=>none)
section
variable (N M:Nat) (x:List Int) (p4:Int) (p3:Bool) (p3_1:List Int) (p3_2:Int)
def Bq.Cs.q.L0:Option DV:=Ce Bq.Cs.q.E N f55 (Au f55) [1,1,0,1,0] [] M ⟨Ik 24 [(0,.ints .arg .u64 x),(2,.ptr 2 0 0),(3,.ptr 3 0 0),(4,.int .i64 0)],[(2,false,.box [.bool false,.nil,.int .i64 0]),(3,false,.box [.bool false,.nil,.int .i64 0])]⟩
def Bq.Cs.q.L1:Option DV:=Ce Bq.Cs.q.E N f55 (Au f55) [1,1,0,1,0] [] M ⟨Ik 24 [(0,.ints .arg .u64 x),(2,.ptr 2 0 0),(3,.ptr 3 0 0),(4,.int .i64 p4)],[(2,false,.box [.bool false,.nil,.int .i64 0]),(3,false,.box [.bool p3,.ints .arg .u32 p3_1,.int .i64 p3_2])]⟩
theorem Bq.Cs.q.Ax:Bq.Cs.q.L0 N (M+1) x=bif (Ba 0 (length x:Int)) then bif (decide ((0:Int)<(length x:Int))) then bif (Ao (getD x 0 0)) then bif (Q2 (D8 (getD x 0 0))&&Q2 (D8 (getD x 0 0))) then bif (Yk false [] 0&&Q2 (D9 (D8 (getD x 0 0))*D9 (D8 (getD x 0 0)))) then Bq.Cs.q.L1 N M x 1 (Az (mQ (vQ false [] 0+D9 (D9 (D8 (getD x 0 0))*D9 (D8 (getD x 0 0)))))) (Ah (mQ (vQ false [] 0+D9 (D9 (D8 (getD x 0 0))*D9 (D8 (getD x 0 0)))))) (eQ (vQ false [] 0+D9 (D9 (D8 (getD x 0 0))*D9 (D8 (getD x 0 0))))) else none else none else none else none else some (.agg [.bool false,.nil,.int .i64 0]) :=
 Eq.trans (by kernel_rfl)
 (Fe (Fe (Fe (C4 (Cr _) (C4 (Cr _) rfl rfl) rfl) rfl) rfl) rfl)
theorem Bq.Cs.q.Cy:Bq.Cs.q.L1 N (M+1) x p4 p3 p3_1 p3_2=bif (Ba p4 (length x:Int)) then bif ((decide (0≤p4))&&(decide (p4<(length x:Int)))) then bif (Ao (getD x (toNat p4) 0)) then bif (Q2 (D8 (getD x (toNat p4) 0))&&Q2 (D8 (getD x (toNat p4) 0))) then bif (Yk p3 p3_1 p3_2&&Q2 (D9 (D8 (getD x (toNat p4) 0))*D9 (D8 (getD x (toNat p4) 0)))) then Bq.Cs.q.L1 N M x (Ac (p4+1)) (Az (mQ (vQ p3 p3_1 p3_2+D9 (D9 (D8 (getD x (toNat p4) 0))*D9 (D8 (getD x (toNat p4) 0)))))) (Ah (mQ (vQ p3 p3_1 p3_2+D9 (D9 (D8 (getD x (toNat p4) 0))*D9 (D8 (getD x (toNat p4) 0)))))) (eQ (vQ p3 p3_1 p3_2+D9 (D9 (D8 (getD x (toNat p4) 0))*D9 (D8 (getD x (toNat p4) 0))))) else none else none else none else none else some (.agg [.bool p3,.ints .arg .u32 p3_1,.int .i64 p3_2]) :=
 Eq.trans (by kernel_rfl)
 (Fe (Fe (Fe (C4 (Cr _) (C4 (Cr _) rfl rfl) rfl) rfl) rfl) rfl)
theorem Bq.Cs.q.ev:Ci Bq.Cs.q.E N f55 (Au f55) [.ints .arg .u64 x] =
 Bq.Cs.q.L0 N N x:=by kernel_rfl
end
abbrev _root_.Go.Proofs.S1.Bq.Cs.q.Kn:=A8 prog 55 Bq.Cs.q.spec
theorem Bq.Cs.q.Ae (hk:A4 prog Bq.Cs.q.Bi) (h:Hyp Bq.Cs.q.E f55 Bq.Cs.q.ts Bq.Cs.q.pre Bq.Cs.q.out):Bq.Cs.q.Kn :=
 Ar (A5 hk _ _ _) func55 (by kernel_rfl) (by kernel_rfl) h
def Aq.F0.Bi:List (Nat × Entry):=[(55,Bq.Cs.q.spec)]
def Aq.F0.E:Env:=Bn (Bh Aq.F0.Bi) (fun _=>false) (fun _=>none) (fun _=>none)
theorem Aq.F0.ev (N:Nat) (r c:Int) (l:List Int):Ci Aq.F0.E N f40 (Au f40) [.agg [.int .i64 r,.int .i64 c,.ints .arg .u64 l]]=bif (D7 l&&Cz (length l≤64)) then some (.agg [.bool (Az (mQ (J7 l))),.ints .arg .u32 (Ah (mQ (J7 l))),.int .i64 (eQ (J7 l))]) else none:=by kernel_rfl
abbrev _root_.Go.Proofs.S1.Aq.F0.Kn:=A8 prog 40 Aq.F0.spec
theorem Aq.F0.Ae (hk:A4 prog Aq.F0.Bi) (h:Hyp Aq.F0.E f40 Aq.F0.ts Aq.F0.pre Aq.F0.out):Aq.F0.Kn :=
 Ar (A5 hk _ _ _) func40 (by kernel_rfl) (by kernel_rfl) h
def Aq.G9.q.hint:Nat→Option Bf
 | 0=>some { keep:=[0,1,4,5,6],objs:=[],boxes:=[4,5] }
 | _=>none
def Aq.G9.q.Bi:List (Nat × Entry):=[(42,Ai.Add.q.spec),(41,Ai.Mul.q.spec),(63,A1.Value.q.spec)]
def Aq.G9.q.E:Env:=Bn (Bh Aq.G9.q.Bi) (fun _=>false) Aq.G9.q.hint (fun _=>none)
section
variable (N M:Nat) (x y:List Int) (p6:Int) (p5:Bool) (p5_1:List Int) (p5_2:Int)
def Aq.G9.q.L0:Option DV:=Ce Aq.G9.q.E N f106 (Au f106) [1,1,0,1,0] [] M ⟨Ik 28 [(0,.ints .arg .u64 x),(1,.ints .arg .u64 y),(4,.ptr 4 0 0),(5,.ptr 5 0 0),(6,.int .i64 0)],[(4,false,.box [.bool false,.nil,.int .i64 0]),(5,false,.box [.bool false,.nil,.int .i64 0])]⟩
def Aq.G9.q.L1:Option DV:=Ce Aq.G9.q.E N f106 (Au f106) [1,1,0,1,0] [] M ⟨Ik 28 [(0,.ints .arg .u64 x),(1,.ints .arg .u64 y),(4,.ptr 4 0 0),(5,.ptr 5 0 0),(6,.int .i64 p6)],[(4,false,.box [.bool false,.nil,.int .i64 0]),(5,false,.box [.bool p5,.ints .arg .u32 p5_1,.int .i64 p5_2])]⟩
theorem Aq.G9.q.Ax:Aq.G9.q.L0 N (M+1) x y=bif (Ba 0 (length x:Int)) then bif (decide ((0:Int)<(length x:Int))) then bif (Ao (getD x 0 0)) then bif (decide ((0:Int)<(length y:Int))) then bif (Ao (getD y 0 0)) then bif (Q2 (D8 (getD x 0 0))&&Q2 (D8 (getD y 0 0))) then bif (Yk false [] 0&&Q2 (D9 (D8 (getD x 0 0))*D9 (D8 (getD y 0 0)))) then Aq.G9.q.L1 N M x y 1 (Az (mQ (vQ false [] 0+D9 (D9 (D8 (getD x 0 0))*D9 (D8 (getD y 0 0)))))) (Ah (mQ (vQ false [] 0+D9 (D9 (D8 (getD x 0 0))*D9 (D8 (getD y 0 0)))))) (eQ (vQ false [] 0+D9 (D9 (D8 (getD x 0 0))*D9 (D8 (getD y 0 0))))) else none else none else none else none else none else none else some (.agg [.bool false,.nil,.int .i64 0]) :=
 Eq.trans (by kernel_rfl)
 (Fe (C4 (Cr _) (C4 (Cr _) (C4 (Cr _) (C4 (Cr _) (C4 (Cr _) (C4 (Cr _) rfl rfl) rfl) rfl) rfl) rfl) rfl) rfl)
theorem Aq.G9.q.Cy:Aq.G9.q.L1 N (M+1) x y p6 p5 p5_1 p5_2=bif (Ba p6 (length x:Int)) then bif ((decide (0≤p6))&&(decide (p6<(length x:Int)))) then bif (Ao (getD x (toNat p6) 0)) then bif ((decide (0≤p6))&&(decide (p6<(length y:Int)))) then bif (Ao (getD y (toNat p6) 0)) then bif (Q2 (D8 (getD x (toNat p6) 0))&&Q2 (D8 (getD y (toNat p6) 0))) then bif (Yk p5 p5_1 p5_2&&Q2 (D9 (D8 (getD x (toNat p6) 0))*D9 (D8 (getD y (toNat p6) 0)))) then Aq.G9.q.L1 N M x y (Ac (p6+1)) (Az (mQ (vQ p5 p5_1 p5_2+D9 (D9 (D8 (getD x (toNat p6) 0))*D9 (D8 (getD y (toNat p6) 0)))))) (Ah (mQ (vQ p5 p5_1 p5_2+D9 (D9 (D8 (getD x (toNat p6) 0))*D9 (D8 (getD y (toNat p6) 0)))))) (eQ (vQ p5 p5_1 p5_2+D9 (D9 (D8 (getD x (toNat p6) 0))*D9 (D8 (getD y (toNat p6) 0))))) else none else none else none else none else none else none else some (.agg [.bool p5,.ints .arg .u32 p5_1,.int .i64 p5_2]) :=
 Eq.trans (by kernel_rfl)
 (Fe (C4 (Rj _ _) (C4 (Cr _) (C4 (Rj _ _) (C4 (Cr _) (C4 (Cr _) (C4 (Cr _) rfl rfl) rfl) rfl) rfl) rfl) rfl) rfl)
theorem Aq.G9.q.ev:Ci Aq.G9.q.E N f106 (Au f106) [.ints .arg .u64 x,.ints .arg .u64 y] =
 Aq.G9.q.L0 N N x y:=by kernel_rfl
end
abbrev _root_.Go.Proofs.S1.Aq.G9.q.Kn:=A8 prog 106 Aq.G9.q.spec
theorem Aq.G9.q.Ae (hk:A4 prog Aq.G9.q.Bi) (h:Hyp Aq.G9.q.E f106 Aq.G9.q.ts Aq.G9.q.pre Aq.G9.q.out):Aq.G9.q.Kn :=
 Ar (A5 hk _ _ _) func106 (by kernel_rfl) (by kernel_rfl) h
def Aq.Gs.hint:Nat→Option Bf
 | 0=>some { keep:=[0,1,4,5,6],objs:=[],boxes:=[4,5] }
 | _=>none
def Aq.Gs.Bi:List (Nat × Entry):=[(42,Ai.Add.q.spec),(41,Ai.Mul.q.spec),(63,A1.Value.q.spec)]
def Aq.Gs.E:Env:=Abv (Bh Aq.Gs.Bi) (fun _=>false) Aq.Gs.hint (fun _=>none) (Am8 [(45,[.b,.s .u32]),(47,[.b,.s .u32,.i .i64])])
section
variable (N M:Nat) (x:List Int) (y:List (List DV)) (p6:Int) (p5:Bool) (p5_1:List Int) (p5_2:Int)
def Aq.Gs.L0:Option DV:=Ce Aq.Gs.E N f117 (Au f117) [1,1,0,1,0] [] M ⟨Ik 27 [(0,.ints .arg .u64 x),(1,.recs .arg 3 y),(4,.ptr 4 0 0),(5,.ptr 5 0 0),(6,.int .i64 0)],[(4,false,.box [.bool false,.nil,.int .i64 0]),(5,false,.box [.bool false,.nil,.int .i64 0])]⟩
def Aq.Gs.L1:Option DV:=Ce Aq.Gs.E N f117 (Au f117) [1,1,0,1,0] [] M ⟨Ik 27 [(0,.ints .arg .u64 x),(1,.recs .arg 3 y),(4,.ptr 4 0 0),(5,.ptr 5 0 0),(6,.int .i64 p6)],[(4,false,.box [.bool false,.nil,.int .i64 0]),(5,false,.box [.bool p5,.ints .arg .u32 p5_1,.int .i64 p5_2])]⟩
theorem Aq.Gs.Ax:Aq.Gs.L0 N (M+1) x y=bif (Ba 0 (length x:Int)) then bif (decide ((0:Int)<(length x:Int))) then bif (Ao (getD x 0 0)) then bif (decide ((0:Int)<(length y:Int))) then bif ((isC .b (getD (getD y 0 []) 0 .undef))&&((isC (.s .u32) (getD (getD y 0 []) 1 .undef))&&(isC (.i .i64) (getD (getD y 0 []) 2 .undef)))) then bif (Q2 (D8 (getD x 0 0))&&Yk (Lw (getD (getD y 0 []) 0 .undef)) (Iv (getD (getD y 0 []) 1 .undef)) (Ol (getD (getD y 0 []) 2 .undef))) then bif (Yk false [] 0&&Q2 (D9 (D8 (getD x 0 0))*vQ (Lw (getD (getD y 0 []) 0 .undef)) (Iv (getD (getD y 0 []) 1 .undef)) (Ol (getD (getD y 0 []) 2 .undef)))) then Aq.Gs.L1 N M x y 1 (Az (mQ (vQ false [] 0+D9 (D9 (D8 (getD x 0 0))*vQ (Lw (getD (getD y 0 []) 0 .undef)) (Iv (getD (getD y 0 []) 1 .undef)) (Ol (getD (getD y 0 []) 2 .undef)))))) (Ah (mQ (vQ false [] 0+D9 (D9 (D8 (getD x 0 0))*vQ (Lw (getD (getD y 0 []) 0 .undef)) (Iv (getD (getD y 0 []) 1 .undef)) (Ol (getD (getD y 0 []) 2 .undef)))))) (eQ (vQ false [] 0+D9 (D9 (D8 (getD x 0 0))*vQ (Lw (getD (getD y 0 []) 0 .undef)) (Iv (getD (getD y 0 []) 1 .undef)) (Ol (getD (getD y 0 []) 2 .undef))))) else none else none else none else none else none else none else some (.agg [.bool false,.nil,.int .i64 0]) :=
 Eq.trans (by kernel_rfl)
 (Fe (C4 (Cr _) (C4 (Cr _) (C4 (Cr _) (C4 (Ax5 _ _ _) (C4 (Cr _) (C4 (Cr _) rfl rfl) rfl) rfl) rfl) rfl) rfl) rfl)
theorem Aq.Gs.Cy:Aq.Gs.L1 N (M+1) x y p6 p5 p5_1 p5_2=bif (Ba p6 (length x:Int)) then bif ((decide (0≤p6))&&(decide (p6<(length x:Int)))) then bif (Ao (getD x (toNat p6) 0)) then bif ((decide (0≤p6))&&(decide (p6<(length y:Int)))) then bif ((isC .b (getD (getD y (toNat p6) []) 0 .undef))&&((isC (.s .u32) (getD (getD y (toNat p6) []) 1 .undef))&&(isC (.i .i64) (getD (getD y (toNat p6) []) 2 .undef)))) then bif (Q2 (D8 (getD x (toNat p6) 0))&&Yk (Lw (getD (getD y (toNat p6) []) 0 .undef)) (Iv (getD (getD y (toNat p6) []) 1 .undef)) (Ol (getD (getD y (toNat p6) []) 2 .undef))) then bif (Yk p5 p5_1 p5_2&&Q2 (D9 (D8 (getD x (toNat p6) 0))*vQ (Lw (getD (getD y (toNat p6) []) 0 .undef)) (Iv (getD (getD y (toNat p6) []) 1 .undef)) (Ol (getD (getD y (toNat p6) []) 2 .undef)))) then Aq.Gs.L1 N M x y (Ac (p6+1)) (Az (mQ (vQ p5 p5_1 p5_2+D9 (D9 (D8 (getD x (toNat p6) 0))*vQ (Lw (getD (getD y (toNat p6) []) 0 .undef)) (Iv (getD (getD y (toNat p6) []) 1 .undef)) (Ol (getD (getD y (toNat p6) []) 2 .undef)))))) (Ah (mQ (vQ p5 p5_1 p5_2+D9 (D9 (D8 (getD x (toNat p6) 0))*vQ (Lw (getD (getD y (toNat p6) []) 0 .undef)) (Iv (getD (getD y (toNat p6) []) 1 .undef)) (Ol (getD (getD y (toNat p6) []) 2 .undef)))))) (eQ (vQ p5 p5_1 p5_2+D9 (D9 (D8 (getD x (toNat p6) 0))*vQ (Lw (getD (getD y (toNat p6) []) 0 .undef)) (Iv (getD (getD y (toNat p6) []) 1 .undef)) (Ol (getD (getD y (toNat p6) []) 2 .undef))))) else none else none else none else none else none else none else some (.agg [.bool p5,.ints .arg .u32 p5_1,.int .i64 p5_2]) :=
 Eq.trans (by kernel_rfl)
 (Fe (C4 (Rj _ _) (C4 (Cr _) (C4 (Rj _ _) (C4 (Ax5 _ _ _) (C4 (Cr _) (C4 (Cr _) rfl rfl) rfl) rfl) rfl) rfl) rfl) rfl)
theorem Aq.Gs.ev:Ci Aq.Gs.E N f117 (Au f117) [.ints .arg .u64 x,.recs .arg 3 y] =
 Aq.Gs.L0 N N x y:=by kernel_rfl
end
abbrev _root_.Go.Proofs.S1.Aq.Gs.Kn:=A8 prog 117 Aq.Gs.spec
theorem Aq.Gs.Ae (hk:A4 prog Aq.Gs.Bi) (h:Hyp Aq.Gs.E f117 Aq.Gs.ts Aq.Gs.pre Aq.Gs.out):Aq.Gs.Kn :=
 Ar (Afz hk _ _ _ _) func117 (by kernel_rfl) (by kernel_rfl) h
def Aq.A2.hint:Nat→Option Bf
 | 0=>some { keep:=[3,4,5,6,7,8],objs:=[],boxes:=[3,4,5,6,7] }
 | 2=>some { keep:=[3,4,5,6,7,8,9,10],objs:=[(0,9,100009,.recs 47 3 [])],boxes:=[3,4,5,6,7] }
 | 4=>some { keep:=[3,4,5,6,7,8,9,11],objs:=[(0,9,100009,.recs 47 3 [])],boxes:=[3,4,5,6,7] }
 | _=>none
def Aq.A2.Bi:List (Nat × Entry):=[(42,Ai.Add.q.spec),(41,Ai.Mul.q.spec),(105,Ai.Sub.q.spec),(63,A1.Value.q.spec),(80,Bo.At.spec),(108,Bo.Rn.spec),(107,Bo.Row.spec),(106,Aq.G9.q.spec),(117,Aq.Gs.spec)]
def Aq.A2.E:Env:=Abv (Bh Aq.A2.Bi) (fun _=>false) Aq.A2.hint (fun _=>none) (Am8 [(45,[.b,.s .u32]),(47,[.b,.s .u32,.i .i64])])
section
variable (N M0 M:Nat) (r c:Int) (l:List Int) (p q:Int) (m:List Int) (u v:Int) (h:List Int) (p8_2:Int) (p7_3:Bool) (p7_4:List Int) (p7_5 p8_6:Int) (p7_9:Bool) (p7_10:List Int) (p7_11:Int) (p9_4:List (List DV)) (p11:Int) (p7:Bool) (p7_1:List Int) (p7_2 p8_1:Int) (p9_3:List (List DV)) (p8_4:Int) (p9_2:List (List DV)) (p10_1:Int) (p9_1:List (List DV)) (p8_5:Int) (p7_6:Bool) (p7_7:List Int) (p7_8 p10:Int) (p9:List (List DV)) (p8_3 p8:Int)
def Aq.A2.L0:Option DV:=Ce Aq.A2.E N f44 (Au f44) [1,1,0,1,0] [] M ⟨Ik 60 [(3,.ptr 3 0 0),(4,.ptr 4 0 0),(5,.ptr 5 0 0),(6,.ptr 6 0 0),(7,.ptr 7 0 0),(8,.int .i64 p8)],[(3,false,.box [.int .i64 r,.int .i64 c,.ints .arg .u64 l]),(4,false,.box [.int .i64 p,.int .i64 q,.ints .arg .u64 m]),(5,false,.box [.int .i64 u,.int .i64 v,.ints .arg .u64 h]),(6,false,.box [.bool false,.nil,.int .i64 0]),(7,false,.box [.bool false,.nil,.int .i64 0])]⟩
def Aq.A2.L1:Option DV:=Ce Aq.A2.E N f44 (Au f44) [1,1,0,1,0,0,1,0,0,1,0,1,0] [M0] M ⟨Ik 60 [(3,.ptr 3 0 0),(4,.ptr 4 0 0),(5,.ptr 5 0 0),(6,.ptr 6 0 0),(7,.ptr 7 0 0),(8,.int .i64 p8_3),(9,.oref 100009),(10,.int .i64 p10)],[(3,false,.box [.int .i64 r,.int .i64 c,.ints .arg .u64 l]),(4,false,.box [.int .i64 p,.int .i64 q,.ints .arg .u64 m]),(5,false,.box [.int .i64 u,.int .i64 v,.ints .arg .u64 h]),(6,false,.box [.bool false,.nil,.int .i64 0]),(7,false,.box [.bool false,.nil,.int .i64 0]),(100009,false,.recs 47 3 p9)]⟩
def Aq.A2.L2:Option DV:=Ce Aq.A2.E N f44 (Au f44) [1,1,0,1,0,0,1,0,0,1,0,1,0] [M0] M ⟨Ik 60 [(3,.ptr 3 0 0),(4,.ptr 4 0 0),(5,.ptr 5 0 0),(6,.ptr 6 0 0),(7,.ptr 7 0 0),(8,.int .i64 p8_5),(9,.oref 100009),(10,.int .i64 p10_1)],[(3,false,.box [.int .i64 r,.int .i64 c,.ints .arg .u64 l]),(4,false,.box [.int .i64 p,.int .i64 q,.ints .arg .u64 m]),(5,false,.box [.int .i64 u,.int .i64 v,.ints .arg .u64 h]),(6,false,.box [.bool false,.nil,.int .i64 0]),(7,false,.box [.bool p7_6,.ints .arg .u32 p7_7,.int .i64 p7_8]),(100009,false,.recs 47 3 p9_1)]⟩
def Aq.A2.L3:Option DV:=Ce Aq.A2.E N f44 (Au f44) [1,1,0,1,0,0,1,0,0,1,1,1,0] [M0] M ⟨Ik 60 [(3,.ptr 3 0 0),(4,.ptr 4 0 0),(5,.ptr 5 0 0),(6,.ptr 6 0 0),(7,.ptr 7 0 0),(8,.int .i64 p8_4),(9,.oref 100009),(11,.int .i64 0)],[(3,false,.box [.int .i64 r,.int .i64 c,.ints .arg .u64 l]),(4,false,.box [.int .i64 p,.int .i64 q,.ints .arg .u64 m]),(5,false,.box [.int .i64 u,.int .i64 v,.ints .arg .u64 h]),(6,false,.box [.bool false,.nil,.int .i64 0]),(7,false,.box [.bool false,.nil,.int .i64 0]),(100009,false,.recs 47 3 p9_2)]⟩
def Aq.A2.L4:Option DV:=Ce Aq.A2.E N f44 (Au f44) [1,1,0,1,0,0,1,0,0,1,1,1,0] [M0] M ⟨Ik 60 [(3,.ptr 3 0 0),(4,.ptr 4 0 0),(5,.ptr 5 0 0),(6,.ptr 6 0 0),(7,.ptr 7 0 0),(8,.int .i64 p8_1),(9,.recs .fresh 3 p9_3),(11,.int .i64 p11)],[(3,false,.box [.int .i64 r,.int .i64 c,.ints .arg .u64 l]),(4,false,.box [.int .i64 p,.int .i64 q,.ints .arg .u64 m]),(5,false,.box [.int .i64 u,.int .i64 v,.ints .arg .u64 h]),(6,false,.box [.bool false,.nil,.int .i64 0]),(7,false,.box [.bool p7,.ints .arg .u32 p7_1,.int .i64 p7_2])]⟩
def Aq.A2.L5:Option DV:=Ce Aq.A2.E N f44 (Au f44) [1,1,0,1,0,0,1,0,0,1,1,1,0] [M0] M ⟨Ik 60 [(3,.ptr 3 0 0),(4,.ptr 4 0 0),(5,.ptr 5 0 0),(6,.ptr 6 0 0),(7,.ptr 7 0 0),(8,.int .i64 p8_6),(9,.oref 100009),(11,.int .i64 0)],[(3,false,.box [.int .i64 r,.int .i64 c,.ints .arg .u64 l]),(4,false,.box [.int .i64 p,.int .i64 q,.ints .arg .u64 m]),(5,false,.box [.int .i64 u,.int .i64 v,.ints .arg .u64 h]),(6,false,.box [.bool false,.nil,.int .i64 0]),(7,false,.box [.bool p7_9,.ints .arg .u32 p7_10,.int .i64 p7_11]),(100009,false,.recs 47 3 p9_4)]⟩
def Aq.A2.L6:Option DV:=Ce Aq.A2.E N f44 (Au f44) [1,1,0,1,0] [] M ⟨Ik 60 [(3,.ptr 3 0 0),(4,.ptr 4 0 0),(5,.ptr 5 0 0),(6,.ptr 6 0 0),(7,.ptr 7 0 0),(8,.int .i64 p8_2)],[(3,false,.box [.int .i64 r,.int .i64 c,.ints .arg .u64 l]),(4,false,.box [.int .i64 p,.int .i64 q,.ints .arg .u64 m]),(5,false,.box [.int .i64 u,.int .i64 v,.ints .arg .u64 h]),(6,false,.box [.bool false,.nil,.int .i64 0]),(7,false,.box [.bool p7_3,.ints .arg .u32 p7_4,.int .i64 p7_5])]⟩
theorem Aq.A2.Ax:Aq.A2.L0 N (M+1) r c l p q m u v h p8=bif (Ba p8 q) then Aq.A2.L1 N M N r c l p q m u v h 0 [] p8 else some (.agg [.bool false,.nil,.int .i64 0]):=by kernel_rfl
theorem Aq.A2.Cy:Aq.A2.L1 N M0 (M+1) r c l p q m u v h p10 p9 p8_3=bif (Ba p10 r) then bif (Qo r c l p10) then bif (Gw p q m p8_3&&Cz (0≤(0:Int)∧(0:Int)≤p)) then bif ((Ak (Gt c l p10)&&Ak (By q m p8_3 0 (toNat (p-0))))&&Cz (length (Gt c l p10)=length (By q m p8_3 0 (toNat (p-0)))∧length (Gt c l p10)≤64)) then bif (Hi u v h p10 p8_3) then bif (Ao (Co v h p10 p8_3)) then bif (Q2 (dtL (Gt c l p10) (By q m p8_3 0 (toNat (p-0))))&&Q2 (D8 (Co v h p10 p8_3))) then bif (decide ((length p9)+1≤Abb)) then Aq.A2.L1 N M0 M r c l p q m u v h (Ac (p10+1)) (p9++[[.bool (Az (mQ (D9 (dtL (Gt c l p10) (By q m p8_3 0 (toNat (p-0))))-D9 (D8 (Co v h p10 p8_3))))),.ints .arg .u32 (Ah (mQ (D9 (dtL (Gt c l p10) (By q m p8_3 0 (toNat (p-0))))-D9 (D8 (Co v h p10 p8_3))))),.int .i64 (eQ (D9 (dtL (Gt c l p10) (By q m p8_3 0 (toNat (p-0))))-D9 (D8 (Co v h p10 p8_3))))]]) p8_3 else none else none else none else none else none else none else none else Aq.A2.L3 N M0 N r c l p q m u v h p8_3 p9 :=
 Eq.trans (by kernel_rfl)
 (Fe (C4 (Cr _) (C4 (Cr _) (C4 (Cr _) (C4 (Cr _) (C4 (Cr _) (C4 (Cr _) (C4 (Cr _) rfl rfl) rfl) rfl) rfl) rfl) rfl) rfl) rfl)
theorem Aq.A2.J0:Aq.A2.L2 N M0 (M+1) r c l p q m u v h p10_1 p9_1 p8_5 p7_6 p7_7 p7_8=bif (Ba p10_1 r) then bif (Qo r c l p10_1) then bif (Gw p q m p8_5&&Cz (0≤(0:Int)∧(0:Int)≤p)) then bif ((Ak (Gt c l p10_1)&&Ak (By q m p8_5 0 (toNat (p-0))))&&Cz (length (Gt c l p10_1)=length (By q m p8_5 0 (toNat (p-0)))∧length (Gt c l p10_1)≤64)) then bif (Hi u v h p10_1 p8_5) then bif (Ao (Co v h p10_1 p8_5)) then bif (Q2 (dtL (Gt c l p10_1) (By q m p8_5 0 (toNat (p-0))))&&Q2 (D8 (Co v h p10_1 p8_5))) then bif (decide ((length p9_1)+1≤Abb)) then Aq.A2.L2 N M0 M r c l p q m u v h (Ac (p10_1+1)) (p9_1++[[.bool (Az (mQ (D9 (dtL (Gt c l p10_1) (By q m p8_5 0 (toNat (p-0))))-D9 (D8 (Co v h p10_1 p8_5))))),.ints .arg .u32 (Ah (mQ (D9 (dtL (Gt c l p10_1) (By q m p8_5 0 (toNat (p-0))))-D9 (D8 (Co v h p10_1 p8_5))))),.int .i64 (eQ (D9 (dtL (Gt c l p10_1) (By q m p8_5 0 (toNat (p-0))))-D9 (D8 (Co v h p10_1 p8_5))))]]) p8_5 p7_6 p7_7 p7_8 else none else none else none else none else none else none else none else Aq.A2.L5 N M0 N r c l p q m u v h p8_5 p7_6 p7_7 p7_8 p9_1 :=
 Eq.trans (by kernel_rfl)
 (Fe (C4 (Cr _) (C4 (Cr _) (C4 (Cr _) (C4 (Cr _) (C4 (Cr _) (C4 (Cr _) (C4 (Cr _) rfl rfl) rfl) rfl) rfl) rfl) rfl) rfl) rfl)
theorem Aq.A2.Wx:Aq.A2.L3 N M0 (M+1) r c l p q m u v h p8_4 p9_2=bif (Ba 0 c) then bif (Gw r c l 0&&Cz (0≤(0:Int)∧(0:Int)≤r)) then bif (Ak (By c l 0 0 (toNat (r-0)))&&Re p9_2 (length (By c l 0 0 (toNat (r-0))))) then bif (Q2 (Qd (By c l 0 0 (toNat (r-0))) p9_2)&&Q2 (Qd (By c l 0 0 (toNat (r-0))) p9_2)) then bif (Yk false [] 0&&Q2 (D9 (Qd (By c l 0 0 (toNat (r-0))) p9_2)*D9 (Qd (By c l 0 0 (toNat (r-0))) p9_2))) then Aq.A2.L4 N M0 M r c l p q m u v h 1 (Az (mQ (vQ false [] 0+D9 (D9 (Qd (By c l 0 0 (toNat (r-0))) p9_2)*D9 (Qd (By c l 0 0 (toNat (r-0))) p9_2))))) (Ah (mQ (vQ false [] 0+D9 (D9 (Qd (By c l 0 0 (toNat (r-0))) p9_2)*D9 (Qd (By c l 0 0 (toNat (r-0))) p9_2))))) (eQ (vQ false [] 0+D9 (D9 (Qd (By c l 0 0 (toNat (r-0))) p9_2)*D9 (Qd (By c l 0 0 (toNat (r-0))) p9_2)))) p8_4 p9_2 else none else none else none else none else Aq.A2.L0 N M0 r c l p q m u v h (Ac (p8_4+1)) :=
 Eq.trans (by kernel_rfl)
 (Fe (Fe (Fe (C4 (Cr _) (C4 (Cr _) rfl rfl) rfl) rfl) rfl) rfl)
theorem Aq.A2.Anc:Aq.A2.L4 N M0 (M+1) r c l p q m u v h p11 p7 p7_1 p7_2 p8_1 p9_3=bif (Ba p11 c) then bif (Gw r c l p11&&Cz (0≤(0:Int)∧(0:Int)≤r)) then bif (Ak (By c l p11 0 (toNat (r-0)))&&Re p9_3 (length (By c l p11 0 (toNat (r-0))))) then bif (Q2 (Qd (By c l p11 0 (toNat (r-0))) p9_3)&&Q2 (Qd (By c l p11 0 (toNat (r-0))) p9_3)) then bif (Yk p7 p7_1 p7_2&&Q2 (D9 (Qd (By c l p11 0 (toNat (r-0))) p9_3)*D9 (Qd (By c l p11 0 (toNat (r-0))) p9_3))) then Aq.A2.L4 N M0 M r c l p q m u v h (Ac (p11+1)) (Az (mQ (vQ p7 p7_1 p7_2+D9 (D9 (Qd (By c l p11 0 (toNat (r-0))) p9_3)*D9 (Qd (By c l p11 0 (toNat (r-0))) p9_3))))) (Ah (mQ (vQ p7 p7_1 p7_2+D9 (D9 (Qd (By c l p11 0 (toNat (r-0))) p9_3)*D9 (Qd (By c l p11 0 (toNat (r-0))) p9_3))))) (eQ (vQ p7 p7_1 p7_2+D9 (D9 (Qd (By c l p11 0 (toNat (r-0))) p9_3)*D9 (Qd (By c l p11 0 (toNat (r-0))) p9_3)))) p8_1 p9_3 else none else none else none else none else Aq.A2.L6 N M0 r c l p q m u v h (Ac (p8_1+1)) p7 p7_1 p7_2 :=
 Eq.trans (by kernel_rfl)
 (Fe (Fe (Fe (C4 (Cr _) (C4 (Cr _) rfl rfl) rfl) rfl) rfl) rfl)
theorem Aq.A2.Anb:Aq.A2.L5 N M0 (M+1) r c l p q m u v h p8_6 p7_9 p7_10 p7_11 p9_4=bif (Ba 0 c) then bif (Gw r c l 0&&Cz (0≤(0:Int)∧(0:Int)≤r)) then bif (Ak (By c l 0 0 (toNat (r-0)))&&Re p9_4 (length (By c l 0 0 (toNat (r-0))))) then bif (Q2 (Qd (By c l 0 0 (toNat (r-0))) p9_4)&&Q2 (Qd (By c l 0 0 (toNat (r-0))) p9_4)) then bif (Yk p7_9 p7_10 p7_11&&Q2 (D9 (Qd (By c l 0 0 (toNat (r-0))) p9_4)*D9 (Qd (By c l 0 0 (toNat (r-0))) p9_4))) then Aq.A2.L4 N M0 M r c l p q m u v h 1 (Az (mQ (vQ p7_9 p7_10 p7_11+D9 (D9 (Qd (By c l 0 0 (toNat (r-0))) p9_4)*D9 (Qd (By c l 0 0 (toNat (r-0))) p9_4))))) (Ah (mQ (vQ p7_9 p7_10 p7_11+D9 (D9 (Qd (By c l 0 0 (toNat (r-0))) p9_4)*D9 (Qd (By c l 0 0 (toNat (r-0))) p9_4))))) (eQ (vQ p7_9 p7_10 p7_11+D9 (D9 (Qd (By c l 0 0 (toNat (r-0))) p9_4)*D9 (Qd (By c l 0 0 (toNat (r-0))) p9_4)))) p8_6 p9_4 else none else none else none else none else Aq.A2.L6 N M0 r c l p q m u v h (Ac (p8_6+1)) p7_9 p7_10 p7_11 :=
 Eq.trans (by kernel_rfl)
 (Fe (Fe (Fe (C4 (Cr _) (C4 (Cr _) rfl rfl) rfl) rfl) rfl) rfl)
theorem Aq.A2.Ana:Aq.A2.L6 N (M+1) r c l p q m u v h p8_2 p7_3 p7_4 p7_5=bif (Ba p8_2 q) then Aq.A2.L2 N M N r c l p q m u v h 0 [] p8_2 p7_3 p7_4 p7_5 else some (.agg [.bool p7_3,.ints .arg .u32 p7_4,.int .i64 p7_5]):=by kernel_rfl
theorem Aq.A2.ev:Ci Aq.A2.E N f44 (Au f44) [.agg [.int .i64 r,.int .i64 c,.ints .arg .u64 l],.agg [.int .i64 p,.int .i64 q,.ints .arg .u64 m],.agg [.int .i64 u,.int .i64 v,.ints .arg .u64 h]] =
 Aq.A2.L0 N N r c l p q m u v h 0:=by kernel_rfl
end
abbrev _root_.Go.Proofs.S1.Aq.A2.Kn:=A8 prog 44 Aq.A2.spec
theorem Aq.A2.Ae (hk:A4 prog Aq.A2.Bi) (h:Hyp Aq.A2.E f44 Aq.A2.ts Aq.A2.pre Aq.A2.out):Aq.A2.Kn :=
 Ar (Afz hk _ _ _ _) func44 (by kernel_rfl) (by kernel_rfl) h
def Aq.Fo.Bi:List (Nat × Entry):=[(115,Ad.Of.spec),(42,Ai.Add.q.spec),(116,Ai.Compare.q.spec),(109,Ai.Of.q.spec),(114,Ai.Cn.q.spec)]
def Aq.Fo.E:Env:=Bn (Bh Aq.Fo.Bi) (fun _=>false) (fun _=>none) (fun _=>none)
theorem Aq.Fo.ev (N:Nat) (n:Bool) (a:List Int) (e:Int) (m:Bool) (b:List Int) (f k:Int):Ci Aq.Fo.E N f43 (Au f43) [.agg [.bool n,.ints .arg .u32 a,.int .i64 e],.agg [.bool m,.ints .arg .u32 b,.int .i64 f],.int .i64 k]=bif (Yk m b f&&Cz (-2000≤(Ac ((0:Int)-(Ac ((2:Int)*k))))∧(Ac ((0:Int)-(Ac ((2:Int)*k))))≤2000)) then bif (Adw 1) then bif (Ks (Az ((1:Int))) (Ah ((1:Int)))&&Cz (-5000≤(-4000:Int)∧(-4000:Int)≤5000)) then bif (Q2 (vQ m b f*tw (Ac ((0:Int)-(Ac ((2:Int)*k)))))&&Q2 (vQ (Az ((1:Int))) (Ah ((1:Int))) (-4000:Int))) then bif (Yk n a e&&Q2 (D9 (vQ m b f*tw (Ac ((0:Int)-(Ac ((2:Int)*k)))))+D9 (vQ (Az ((1:Int))) (Ah ((1:Int))) (-4000:Int)))) then some (.bool (Ev (Ak5 (vQ n a e) (D9 (D9 (vQ m b f*tw (Ac ((0:Int)-(Ac ((2:Int)*k)))))+D9 (vQ (Az ((1:Int))) (Ah ((1:Int))) (-4000:Int))))) 0)) else none else none else none else none else none:=by kernel_rfl
abbrev _root_.Go.Proofs.S1.Aq.Fo.Kn:=A8 prog 43 Aq.Fo.spec
theorem Aq.Fo.Ae (hk:A4 prog Aq.Fo.Bi) (h:Hyp Aq.Fo.E f43 Aq.Fo.ts Aq.Fo.pre Aq.Fo.out):Aq.Fo.Kn :=
 Ar (A5 hk _ _ _) func43 (by kernel_rfl) (by kernel_rfl) h
end EqRef11Q
open Go Go.Den Go.Cv Go.Proofs
open EqRef11Q
theorem _root_.Go.Cv.Dq.val {x:Rat} (h:Dq x):((mQ x:Int):Rat)*tw (eQ x)=x:=h.parts.1.symm
theorem wq {drops:List Nat} {m m' e e':Int} (h1:m=m') (h2:e=e'):Wk drops (.agg [.bool (Az m),.ints .arg .u32 (Ah m),.int .i64 e]) (.agg [.bool (Az m'),.ints .arg .u32 (Ah m'),.int .i64 e']):=by
 subst h1 h2
 exact wdy
theorem ok4 {a b c d:Bool} (h1:a=true) (h2:b=true) (h3:c=true) (h4:d=true):(((a&&b)&&c)&&d)=true:=by
 rw [h1,h2,h3,h4]; rfl
theorem Ai.Add.q.known:Ai.Add.q.Kn:=A8.Acb (P:=_) (pre:=Ai.Add.pre) (out:=Ai.Add.out) Ai.Add.known [] fun ats h=>by
 unfold Ai.Add.q.pre at h
 split at h
 ·rename_i n a e m b f
  obtain ⟨h1,h2⟩:=Ag.1 h
  obtain ⟨x,hx,rfl,rfl,rfl⟩:=Nq h1
  obtain ⟨y,hy,rfl,rfl,rfl⟩:=Nq h2
  refine ⟨ok4 hx.Yc hy.Yc hx.Rk hy.Rk,?_⟩
  have:=A22 (mQ x) (eQ x) (mQ y) (eQ y)
  rw [hx.val,hy.val] at this
  show Wk [] (DV.agg [.bool (Az (Ow (wv _ _) _ (wv _ _) _)),.ints .arg .u32 (Ah (Ow (wv _ _) _ (wv _ _) _)),.int .i64 (Ai1 (wv _ _) _ (wv _ _) _)]) (DV.agg [.bool (Az (mQ (vQ _ _ _+vQ _ _ _))),.ints .arg .u32 (Ah (mQ (vQ _ _ _+vQ _ _ _))),.int .i64 (eQ (vQ _ _ _+vQ _ _ _))])
  rw [Ff,Ff,Oy hx,Oy hy]
  exact wq this.1 this.2
 ·cases h
theorem Ai.Sub.q.known:Ai.Sub.q.Kn:=A8.Acb (P:=_) (pre:=Ai.Sub.pre) (out:=Ai.Sub.out) Ai.Sub.known [] fun ats h=>by
 unfold Ai.Sub.q.pre at h
 split at h
 ·rename_i n a e m b f
  obtain ⟨h1,h2⟩:=Ag.1 h
  obtain ⟨x,hx,rfl,rfl,rfl⟩:=Nq h1
  obtain ⟨y,hy,rfl,rfl,rfl⟩:=Nq h2
  refine ⟨ok4 hx.Yc hy.Yc hx.Rk hy.Rk,?_⟩
  have:=A22 (mQ x) (eQ x) (-(mQ y)) (eQ y)
  have e:((mQ x:Int):Rat)*tw (eQ x)+((-(mQ y):Int):Rat)*tw (eQ y)=x-y:=by
   rw [hx.val,Rat.intCast_neg]
   have:=hy.val
   grind
  rw [e] at this
  show Wk [] (DV.agg [.bool (Az (Ow (wv _ _) _ (-(wv _ _)) _)),.ints .arg .u32 (Ah (Ow (wv _ _) _ (-(wv _ _)) _)),.int .i64 (Ai1 (wv _ _) _ (-(wv _ _)) _)]) (DV.agg [.bool (Az (mQ (vQ _ _ _-vQ _ _ _))),.ints .arg .u32 (Ah (mQ (vQ _ _ _-vQ _ _ _))),.int .i64 (eQ (vQ _ _ _-vQ _ _ _))])
  rw [Ff,Ff,Oy hx,Oy hy]
  exact wq this.1 this.2
 ·cases h
theorem Ai.Mul.q.known:Ai.Mul.q.Kn:=A8.Acb (P:=_) (pre:=Ai.Mul.pre) (out:=Ai.Mul.out) Ai.Mul.known [] fun ats h=>by
 unfold Ai.Mul.q.pre at h
 split at h
 ·rename_i n a e m b f
  obtain ⟨h1,h2⟩:=Ag.1 h
  obtain ⟨x,hx,rfl,rfl,rfl⟩:=Nq h1
  obtain ⟨y,hy,rfl,rfl,rfl⟩:=Nq h2
  refine ⟨show ((okM _ _&&okM _ _)&&(Rk _&&Rk _))=true by rw [hx.okM,hy.okM,hx.Rk,hy.Rk]; rfl,?_⟩
  have:=A4s (mQ x) (eQ x) (mQ y) (eQ y)
  rw [hx.val,hy.val] at this
  show Wk [] (DV.agg [.bool (Az (mD (wv _ _*wv _ _))),.ints .arg .u32 (Ah (mD (wv _ _*wv _ _))),.int .i64 (eD (wv _ _*wv _ _) _)]) (DV.agg [.bool (Az (mQ (vQ _ _ _*vQ _ _ _))),.ints .arg .u32 (Ah (mQ (vQ _ _ _*vQ _ _ _))),.int .i64 (eQ (vQ _ _ _*vQ _ _ _))])
  rw [Ff,Ff,Oy hx,Oy hy]
  exact wq this.1 this.2
 ·cases h
theorem Ai.Cn.q.known:Ai.Cn.q.Kn:=A8.Acb (P:=_) (pre:=Ai.Cn.pre) (out:=Ai.Cn.out) Ai.Cn.known [] fun ats h=>by
 unfold Ai.Cn.q.pre at h
 split at h
 ·rename_i n a e k
  obtain ⟨h1,h2⟩:=Ag.1 h
  obtain ⟨x,hx,rfl,rfl,rfl⟩:=Nq h1
  have hk:=As.1 h2
  have ok:Rk k=true:=As.2 (by omega)
  refine ⟨show ((Ks _ _&&Rk _)&&Rk _)=true by rw [hx.Ks,hx.Rk,ok]; rfl,?_⟩
  have:=Azh (mQ x) (eQ x+k)
  have e:((mQ x:Int):Rat)*tw (eQ x+k)=x*tw k:=by
   rw [Ep]
   have:=hx.val
   grind
  rw [e] at this
  show Wk [] (DV.agg [.bool (Az (mD (wv _ _))),.ints .arg .u32 (Ah (mD (wv _ _))),.int .i64 (eD (wv _ _) _)]) (DV.agg [.bool (Az (mQ (vQ _ _ _*tw k))),.ints .arg .u32 (Ah (mQ (vQ _ _ _*tw k))),.int .i64 (eQ (vQ _ _ _*tw k))])
  rw [Ff,Oy hx]
  exact wq this.1 this.2
 ·cases h
theorem Ai.Compare.q.known:Ai.Compare.q.Kn:=A8.Acb (P:=_) (pre:=Ai.Compare.pre) (out:=Ai.Compare.out) Ai.Compare.known [] fun ats h=>by
 unfold Ai.Compare.q.pre at h
 split at h
 ·rename_i n a e m b f
  obtain ⟨h1,h2⟩:=Ag.1 h
  obtain ⟨x,hx,rfl,rfl,rfl⟩:=Nq h1
  obtain ⟨y,hy,rfl,rfl,rfl⟩:=Nq h2
  refine ⟨ok4 hx.Yc hy.Yc hx.Rk hy.Rk,?_⟩
  show Wk [] (DV.int .i64 (Yx (wv _ _) _ (wv _ _) _)) (DV.int .i64 (Ak5 (vQ _ _ _) (vQ _ _ _)))
  rw [Ff,Ff,Oy hx,Oy hy,A4w hx hy]
  exact .int
 ·cases h
theorem Ai.Of.q.known:Ai.Of.q.Kn:=A8.Acb (P:=_) (pre:=Ai.Of.pre) (out:=Ai.Of.out) Ai.Of.known [] fun ats h=>by
 unfold Ai.Of.q.pre at h
 split at h
 ·rename_i n a e
  obtain ⟨h1,h2⟩:=Ag.1 h
  have hk:=As.1 h2
  have ok:Un e=true:=As.2 (by omega)
  refine ⟨show (Ks _ _&&Un _)=true by rw [h1,ok]; rfl,?_⟩
  have:=Azh (wv n a) e
  show Wk [] (DV.agg [.bool (Az (mD (wv _ _))),.ints .arg .u32 (Ah (mD (wv _ _))),.int .i64 (eD (wv _ _) _)]) (DV.agg [.bool (Az (mQ (vQ _ _ _))),.ints .arg .u32 (Ah (mQ (vQ _ _ _))),.int .i64 (eQ (vQ _ _ _))])
  exact wq this.1 this.2
 ·cases h
theorem A1.Value.q.known:A1.Value.q.Kn:=A8.Acb (P:=_) (pre:=A1.Value.pre) (out:=A1.Value.out) A1.Value.known [] fun ats h=>by
 unfold A1.Value.q.pre at h
 split at h
 ·rename_i x
  refine ⟨h,?_⟩
  have:=Azh (Ho x) (Bb x)
  have e:((Ho x:Int):Rat)*tw (Bb x)=D8 x:=by
   unfold Ho Bb D8 vR
   rw [Ae5]
  rw [e] at this
  show Wk [] (DV.agg [.bool (Az (mD (Ho x))),.ints .arg .u32 (Ah (mD (Ho x))),.int .i64 (eD (Ho x) (Bb x))]) (DV.agg [.bool (Az (mQ (D8 x))),.ints .arg .u32 (Ah (mQ (D8 x))),.int .i64 (eQ (D8 x))])
  exact wq this.1 this.2
 ·cases h
theorem Vy:mQ 0=0∧eQ 0=0:=by
 have h:(0:Rat)=((0:Int):Rat)*tw 0:=by
  have:((0:Int):Rat)=0:=rfl
  rw [this]; grind
 obtain ⟨h1,h2⟩:=Adq h
 exact ⟨h1.trans (O4.2 rfl),h2⟩
theorem Aj5:Az (mQ 0)=false:=by rw [Vy.1]; rfl
theorem Afn:Ah (mQ 0)=[]:=by rw [Vy.1]; rfl
theorem Amw:Dq 0:=(Dg.zero 0 0 0).dq (by decide) (by decide) (by decide)
theorem Ael:vQ false [] 0=0:=by
 have:=Oy Amw
 rw [Aj5,Afn,Vy.2] at this
 exact this
theorem Zn:Yk false [] 0=true:=by
 have:=Af3 Amw
 rw [Aj5,Afn,Vy.2] at this
 exact this
def dqO (x:Rat):DV:=.agg [.bool (Az (mQ x)),.ints .arg .u32 (Ah (mQ x)),.int .i64 (eQ x)]
theorem wqO {drops:List Nat} {x:Rat}:Wk drops (dqO x) (dqO x):=wdy
theorem wqN {drops:List Nat}:Wk drops (.agg [.bool false,.nil,.int .i64 0]) (dqO 0):=by
 unfold dqO
 rw [Aj5,Afn,Vy.2]
 exact Wk.M9 (.cons .bool (.cons (.nil _ _) (.cons .int .nil)))
theorem Ajl {n k:Nat} {f:Nat→Rat} {g t m:Nat} (h:∀ i,Dg g t m (f i)) (hg:g≤40000) (ht:t≤40000) (hn:n≤k) (hm:k*m≤1073741824):Dq (Gq n f):=(Dg.Pg hn fun i _=>h i).dq hg ht hm
theorem Ub (x:Int):Dq (D8 x):=(Dg.wv x).dq (by decide) (by decide) (by decide)
theorem Af2 (x y:Int):Dq (D8 x*D8 y):=(Dg.wv2 x y).dq (by decide) (by decide) (by decide)
section
variable {x:List Int} (ax:Ak x=true) (hx:x.length≤64)
include ax hx
theorem Aev (N:Nat):∀ k i F,i+k=x.length→k<F→Bq.Cs.q.L1 N F x (i:Int) (Az (mQ (Gq i fun j=>D8 (x.getD j 0)*D8 (x.getD j 0)))) (Ah (mQ (Gq i fun j=>D8 (x.getD j 0)*D8 (x.getD j 0)))) (eQ (Gq i fun j=>D8 (x.getD j 0)*D8 (x.getD j 0)))=some (dqO (J7 x)):=by
 intro k
 induction k with
 | zero =>
   intro i F hi hF
   obtain ⟨F,rfl⟩:∃ G,F=G+1:=⟨F-1,by omega⟩
   obtain rfl:i=x.length:=by omega
   rw [Bq.Cs.q.Cy,Aw,A5q (by omega),A5p]
   rfl
 | succ k ih =>
   intro i F hi hF
   obtain ⟨F,rfl⟩:∃ G,F=G+1:=⟨F-1,by omega⟩
   have d1:=Ub (x.getD i 0)
   have d2:=Af2 (x.getD i 0) (x.getD i 0)
   have d3:Dq (Gq i fun j=>D8 (x.getD j 0)*D8 (x.getD j 0)):=Ajl (k:=64) (m:=1) (fun j=>Dg.wv2 _ _) (by decide) (by decide) (by omega) (by decide)
   have e1:(i:Int)+1=((i+1:Nat):Int):=by omega
   have hu:=Jy ax (show i<x.length by omega)
   rw [Bq.Cs.q.Cy,Aw,A5m (show (i:Int)<(x.length:Int) by omega),A5m (show (0:Int)≤(i:Int) by omega),A5n,Ap (by omega) (by omega),e1]
   simp only [hu,Ez d1,Ez d2,Ez d3,E8 d1,E8 d2,E8 d3,A5r,A5l]
   exact ih (i+1) F (by omega) (by omega)
end
theorem Acd (N F:Nat) {x:List Int} (h0:0<x.length) (ax:Ak x=true):Bq.Cs.q.L0 N (F+1) x=Bq.Cs.q.L1 N F x 1 (Az (mQ (0+D8 (x.getD 0 0)*D8 (x.getD 0 0)))) (Ah (mQ (0+D8 (x.getD 0 0)*D8 (x.getD 0 0)))) (eQ (0+D8 (x.getD 0 0)*D8 (x.getD 0 0))):=by
 have d1:=Ub (x.getD 0 0)
 have d2:=Af2 (x.getD 0 0) (x.getD 0 0)
 have hu:=Jy ax h0
 rw [Bq.Cs.q.Ax,Aw,A5m (show (0:Int)<(x.length:Int) by omega)]
 simp only [hu,Ael,Ez d1,Ez d2,Zn,E8 d1,E8 d2,A5r,A5l]
theorem Bq.Cs.q.known:Bq.Cs.q.Kn:=Bq.Cs.q.Ae (.cons Ai.Add.q.known (.cons Ai.Mul.q.known (.cons A1.Value.q.known .nil))) fun x hp=>by
 obtain ⟨ox,h⟩:=Ag.1 (show (D7 x&&Cz (x.length≤64))=true from hp)
 have hx:=As.1 h
 have ax:=Xy ox
 show ∃ N dv drops,_=some dv∧Wk drops dv (dqO (J7 x))
 by_cases h0:x.length=0
 ·refine ⟨1,.agg [.bool false,.nil,.int .i64 0],[],?_,?_⟩
  ·rw [Bq.Cs.q.ev,Bq.Cs.q.Ax,Aw,A5q (by omega),A5p]
  ·have:J7 x=0:=by unfold J7; rw [h0]; rfl
   rw [this]; exact wqN
 ·exact ⟨66,_,[],(Bq.Cs.q.ev 66 x).trans ((Acd 66 65 (by omega) ax).trans (Aev ax hx 66 (x.length-1) 1 65 (by omega) (by omega))),wqO⟩
theorem Aq.F0.known:Aq.F0.Kn:=Aq.F0.Ae (.cons Bq.Cs.q.known .nil) fun r c l hp=>by
 obtain ⟨al,hr⟩:=Ag.1 (show (Ak l&&Be r c l)=true from hp)
 have hl:=I2 hr
 show ∃ N dv drops,_=some dv∧Wk drops dv (dqO (J7 l))
 refine ⟨0,_,[],?_,wqO⟩
 rw [Aq.F0.ev,Mz al (by omega),show Cz (l.length≤64)=true from As.2 (by omega)]
 rfl
section
variable {x y:List Int} (ax:Ak x=true) (ay:Ak y=true) (hx:x.length≤64) (hy:x.length=y.length)
include ax ay hx hy
theorem Apj (N:Nat):∀ k i F,i+k=x.length→k<F→Aq.G9.q.L1 N F x y (i:Int) (Az (mQ (Gq i fun j=>D8 (x.getD j 0)*D8 (y.getD j 0)))) (Ah (mQ (Gq i fun j=>D8 (x.getD j 0)*D8 (y.getD j 0)))) (eQ (Gq i fun j=>D8 (x.getD j 0)*D8 (y.getD j 0)))=some (dqO (dtL x y)):=by
 intro k
 induction k with
 | zero =>
   intro i F hi hF
   obtain ⟨F,rfl⟩:∃ G,F=G+1:=⟨F-1,by omega⟩
   obtain rfl:i=x.length:=by omega
   rw [Aq.G9.q.Cy,Aw,A5q (by omega),A5p]
   rfl
 | succ k ih =>
   intro i F hi hF
   obtain ⟨F,rfl⟩:∃ G,F=G+1:=⟨F-1,by omega⟩
   have d1:=Ub (x.getD i 0)
   have d4:=Ub (y.getD i 0)
   have d2:=Af2 (x.getD i 0) (y.getD i 0)
   have d3:Dq (Gq i fun j=>D8 (x.getD j 0)*D8 (y.getD j 0)):=Ajl (k:=64) (m:=1) (fun j=>Dg.wv2 _ _) (by decide) (by decide) (by omega) (by decide)
   have e1:(i:Int)+1=((i+1:Nat):Int):=by omega
   have hu:=Jy ax (show i<x.length by omega)
   have hv:=Jy ay (show i<y.length by omega)
   rw [Aq.G9.q.Cy,Aw,A5m (show (i:Int)<(x.length:Int) by omega),A5m (show (i:Int)<(y.length:Int) by omega),A5m (show (0:Int)≤(i:Int) by omega),A5n,Ap (by omega) (by omega),e1]
   simp only [hu,hv,Ez d1,Ez d2,Ez d3,Ez d4,E8 d1,E8 d2,E8 d3,E8 d4,A5r,A5l]
   exact ih (i+1) F (by omega) (by omega)
end
theorem Aky (N F:Nat) {x y:List Int} (h0:0<x.length) (h1:0<y.length) (ax:Ak x=true) (ay:Ak y=true):Aq.G9.q.L0 N (F+1) x y=Aq.G9.q.L1 N F x y 1 (Az (mQ (0+D8 (x.getD 0 0)*D8 (y.getD 0 0)))) (Ah (mQ (0+D8 (x.getD 0 0)*D8 (y.getD 0 0)))) (eQ (0+D8 (x.getD 0 0)*D8 (y.getD 0 0))):=by
 have d1:=Ub (x.getD 0 0)
 have d4:=Ub (y.getD 0 0)
 have d2:=Af2 (x.getD 0 0) (y.getD 0 0)
 have hu:=Jy ax h0
 have hv:=Jy ay h1
 rw [Aq.G9.q.Ax,Aw,A5m (show (0:Int)<(x.length:Int) by omega),A5m (show (0:Int)<(y.length:Int) by omega)]
 simp only [hu,hv,Ael,Ez d1,Ez d2,Ez d4,Zn,E8 d1,E8 d2,E8 d4,A5r,A5l]
theorem Aq.G9.q.known:Aq.G9.q.Kn:=Aq.G9.q.Ae (.cons Ai.Add.q.known (.cons Ai.Mul.q.known (.cons A1.Value.q.known .nil))) fun x y hp=>by
 obtain ⟨h1,h⟩:=Ag.1 (show ((Ak x&&Ak y)&&Cz (x.length=y.length∧x.length≤64))=true from hp)
 obtain ⟨ax,ay⟩:=Ag.1 h1
 obtain ⟨hy,hx⟩:=As.1 h
 show ∃ N dv drops,_=some dv∧Wk drops dv (dqO (dtL x y))
 by_cases h0:x.length=0
 ·refine ⟨1,.agg [.bool false,.nil,.int .i64 0],[],?_,?_⟩
  ·rw [Aq.G9.q.ev,Aq.G9.q.Ax,Aw,A5q (by omega),A5p]
  ·have:dtL x y=0:=by unfold dtL; rw [h0]; rfl
   rw [this]; exact wqN
 ·exact ⟨66,_,[],(Aq.G9.q.ev 66 x y).trans ((Aky 66 65 (by omega) (by omega) ax ay).trans (Apj ax ay hx hy 66 (x.length-1) 1 65 (by omega) (by omega))),wqO⟩
open Go Go.Den Go.Cv Go.Proofs
open EqRef11Q
theorem Aam {y:List (List DV)} {n i:Nat} (h:Re y n=true) (hi:i<n):∃ z,Dg 2148 4300 100 z∧y.getD i []=dyR z:=by
 obtain ⟨_,h2,h3⟩:=As.1 h
 have:y.getD i []∈y:=by
  rw [A5v,A52 (by omega)]; exact List.getElem_mem (by omega)
 exact h3 _ this
theorem At4 {z:Rat} (h:Dg 2148 4300 100 z):Dq z:=h.dq (by decide) (by decide) (by decide)
theorem At3 {x:Int} {z:Rat} (h:Dg 2148 4300 100 z):Dq (D8 x*z):=by
 have:=(Dg.wv x).mul h
 exact this.dq (by decide) (by decide) (by decide)
section
variable {x:List Int} {y:List (List DV)} (ax:Ak x=true) (hy:Re y x.length=true)
include ax hy
omit ax in
theorem Avo (i:Nat) (hi:i≤x.length):Dq (Gq i fun j=>D8 (x.getD j 0)*Tx (y.getD j [])):=by
 obtain ⟨h1,h2,h3⟩:=As.1 hy
 have h:∀ j,j<i→Dg 3222 6400 100 (D8 (x.getD j 0)*Tx (y.getD j [])):=fun j hj=>by
  obtain ⟨z,hz,e⟩:=Aam hy (show j<x.length by omega)
  rw [e,Zb (At4 hz)]
  exact (Dg.wv _).mul hz
 exact (Dg.Pg (k:=64) (by omega) h).dq (by decide) (by decide) (by decide)
theorem Ano (N:Nat):∀ k i F,i+k=x.length→k<F→Aq.Gs.L1 N F x y (i:Int) (Az (mQ (Gq i fun j=>D8 (x.getD j 0)*Tx (y.getD j [])))) (Ah (mQ (Gq i fun j=>D8 (x.getD j 0)*Tx (y.getD j [])))) (eQ (Gq i fun j=>D8 (x.getD j 0)*Tx (y.getD j [])))=some (dqO (Qd x y)):=by
 intro k
 induction k with
 | zero =>
   intro i F hi hF
   obtain ⟨F,rfl⟩:∃ G,F=G+1:=⟨F-1,by omega⟩
   obtain rfl:i=x.length:=by omega
   rw [Aq.Gs.Cy,Aw,A5q (by omega),A5p]
   rfl
 | succ k ih =>
   intro i F hi hF
   obtain ⟨F,rfl⟩:∃ G,F=G+1:=⟨F-1,by omega⟩
   obtain ⟨z,hz,ez⟩:=Aam hy (show i<x.length by omega)
   obtain ⟨h1,h2,h3⟩:=As.1 hy
   have d1:=Ub (x.getD i 0)
   have d4:=At4 hz
   have d2:=At3 (x:=x.getD i 0) hz
   have d3:=Avo hy i (by omega)
   have e1:(i:Int)+1=((i+1:Nat):Int):=by omega
   have hu:=Jy ax (show i<x.length by omega)
   have c0:getD (dyR z) 0 .undef=.bool (Az (mQ z)):=rfl
   have c1:getD (dyR z) 1 .undef=.ints .arg .u32 (Ah (mQ z)):=rfl
   have c2:getD (dyR z) 2 .undef=.int .i64 (eQ z):=rfl
   have b0:isC .b (.bool (Az (mQ z)))=true:=rfl
   have b1:isC (.s .u32) (.ints .arg .u32 (Ah (mQ z)))=true:=rfl
   have b2:isC (.i .i64) (.int .i64 (eQ z))=true:=rfl
   have v0:Lw (.bool (Az (mQ z)))=Az (mQ z):=rfl
   have v1:Iv (.ints .arg .u32 (Ah (mQ z)))=Ah (mQ z):=rfl
   have v2:Ol (.int .i64 (eQ z))=eQ z:=rfl
   have es:(Gq i fun j=>D8 (x.getD j 0)*Tx (y.getD j []))+D8 (x.getD i 0)*z=Gq (i+1) fun j=>D8 (x.getD j 0)*Tx (y.getD j []):=by
    show _=(Gq i fun j=>D8 (x.getD j 0)*Tx (y.getD j []))+D8 (x.getD i 0)*Tx (y.getD i [])
    rw [ez,Zb d4]
   rw [Aq.Gs.Cy,Aw,A5m (show (i:Int)<(x.length:Int) by omega),A5m (show (i:Int)<(y.length:Int) by omega),A5m (show (0:Int)≤(i:Int) by omega),A5n,Ap (by omega) (by omega),e1,ez,c0,c1,c2,b0,b1,b2,v0,v1,v2]
   simp only [hu,Ez d1,Ez d2,Ez d3,Ez d4,E8 d1,E8 d2,E8 d3,E8 d4,A5r,A5l,es]
   exact ih (i+1) F (by omega) (by omega)
end
theorem Ajd (N F:Nat) {x:List Int} {y:List (List DV)} (ax:Ak x=true) (hy:Re y x.length=true) (h0:0<x.length):Aq.Gs.L0 N (F+1) x y=Aq.Gs.L1 N F x y 1 (Az (mQ (Gq 1 fun j=>D8 (x.getD j 0)*Tx (y.getD j [])))) (Ah (mQ (Gq 1 fun j=>D8 (x.getD j 0)*Tx (y.getD j [])))) (eQ (Gq 1 fun j=>D8 (x.getD j 0)*Tx (y.getD j []))):=by
 obtain ⟨_,h2,_⟩:=As.1 hy
 obtain ⟨z,hz,ez⟩:=Aam hy (show 0<x.length by omega)
 have d1:=Ub (x.getD 0 0)
 have d4:=At4 hz
 have d2:=At3 (x:=x.getD 0 0) hz
 have hu:=Jy ax (show 0<x.length by omega)
 have c0:getD (dyR z) 0 .undef=.bool (Az (mQ z)):=rfl
 have c1:getD (dyR z) 1 .undef=.ints .arg .u32 (Ah (mQ z)):=rfl
 have c2:getD (dyR z) 2 .undef=.int .i64 (eQ z):=rfl
 have b0:isC .b (.bool (Az (mQ z)))=true:=rfl
 have b1:isC (.s .u32) (.ints .arg .u32 (Ah (mQ z)))=true:=rfl
 have b2:isC (.i .i64) (.int .i64 (eQ z))=true:=rfl
 have v0:Lw (.bool (Az (mQ z)))=Az (mQ z):=rfl
 have v1:Iv (.ints .arg .u32 (Ah (mQ z)))=Ah (mQ z):=rfl
 have v2:Ol (.int .i64 (eQ z))=eQ z:=rfl
 have es:0+D8 (x.getD 0 0)*z=Gq 1 fun j=>D8 (x.getD j 0)*Tx (y.getD j []):=by
  show _=0+D8 (x.getD 0 0)*Tx (y.getD 0 [])
  rw [ez,Zb d4]
 rw [Aq.Gs.Ax,Aw,A5m (show (0:Int)<(x.length:Int) by omega),A5m (show (0:Int)<(y.length:Int) by omega),ez,c0,c1,c2,b0,b1,b2,v0,v1,v2]
 simp only [hu,Ael,Ez d1,Ez d2,Ez d4,Zn,E8 d1,E8 d2,E8 d4,A5r,A5l,es]
theorem Aq.Gs.known:Aq.Gs.Kn:=Aq.Gs.Ae (.cons Ai.Add.q.known (.cons Ai.Mul.q.known (.cons A1.Value.q.known .nil))) fun x y hp=>by
 obtain ⟨ax,hy⟩:=Ag.1 (show (Ak x&&Re y x.length)=true from hp)
 obtain ⟨hx,h2,h3⟩:=As.1 hy
 show ∃ N dv drops,_=some dv∧Wk drops dv (dqO (Qd x y))
 by_cases h0:x.length=0
 ·refine ⟨1,.agg [.bool false,.nil,.int .i64 0],[],?_,?_⟩
  ·rw [Aq.Gs.ev,Aq.Gs.Ax,Aw,A5q (by omega),A5p]
  ·have:Qd x y=0:=by unfold Qd; rw [h0]; rfl
   rw [this]; exact wqN
 ·exact ⟨66,_,[],(Aq.Gs.ev 66 x y).trans ((Ajd 66 65 ax hy (by omega)).trans (Ano ax hy 66 (x.length-1) 1 65 (by omega) (by omega))),wqO⟩
theorem Azs {y:Rat} {k:Nat} (h:Ds y) (hk:k≤2000):Dq (y*tw (-(k:Int)))∧Dq (y*tw (-(k:Int))+tw (-4000)):=by
 obtain ⟨g,t,n,h1,h2,h3,h⟩:=h
 have s:=h.scale k
 refine ⟨s.dq (by omega) (by omega) (by omega),?_⟩
 have a:=s.up (20000-(g+k))
 rw [show g+k+(20000-(g+k))=20000 by omega] at a
 have b:=(Dg.tw 4000).up 16000
 have c:=(a.wide (s:=40000) (by omega)).add (b.wide (s:=40000) (by omega))
 exact c.dq (by omega) (by omega) (by omega)
theorem Aq.Fo.known:Aq.Fo.Kn:=Aq.Fo.Ae (.cons Ad.Of.known (.cons Ai.Add.q.known (.cons Ai.Compare.q.known (.cons Ai.Of.q.known (.cons Ai.Cn.q.known .nil))))) fun n a e m b f k hp=>by
 obtain ⟨h1,h2⟩:=Ag.1 (show ((dsB n a e&&dsB m b f)&&Cz (0≤k∧k≤1000))=true from hp)
 obtain ⟨h3,h4⟩:=Ag.1 h1
 obtain ⟨x,hx,rfl,rfl,rfl⟩:=Amv h3
 obtain ⟨y,hy,rfl,rfl,rfl⟩:=Amv h4
 have hk:=As.1 h2
 obtain ⟨j,rfl⟩:∃ j:Nat,k=j:=⟨k.toNat,by omega⟩
 have dx:=hx.dq
 have dy:=hy.dq
 obtain ⟨l1,l2⟩:=Azs (k:=2*j) hy (by omega)
 have ej:(-2*(j:Int))=-((2*j:Nat):Int):=by omega
 have e1:Ac ((0:Int)-Ac ((2:Int)*(j:Int)))=-((2*j:Nat):Int):=by
  rw [Ap (x:=2*(j:Int)) (by omega) (by omega),Ap (by omega) (by omega)]; omega
 have t4:Dq (tw (-4000)):=(Dg.tw 4000).dq (by decide) (by decide) (by decide)
 have v1:vQ (Az 1) (Ah 1) (-4000)=tw (-4000):=by
  unfold vQ
  rw [Ff]
  have:((1:Int):Rat)=1:=rfl
  rw [this]; grind
 refine ⟨0,Aq.Fo.out [.b (Az (mQ x)),.l (Ah (mQ x)),.i (eQ x),.b (Az (mQ y)),.l (Ah (mQ y)),.i (eQ y),.i (j:Int)],[],?_,.bool⟩
 show _=some (DV.bool (decide (vQ (Az (mQ x)) (Ah (mQ x)) (eQ x)≤vQ (Az (mQ y)) (Ah (mQ y)) (eQ y)*tw (-2*(j:Int))+tw (-4000))))
 have i1:Adw (1:Int)=true:=As.2 (by decide)
 have w1:Ks (Az (1:Int)) (Ah (1:Int))=true:=Ie (by decide)
 have c1:Cz (-5000≤(-4000:Int)∧(-4000:Int)≤5000)=true:=As.2 (by decide)
 have c2:Cz (-2000≤-((2*j:Nat):Int)∧-((2*j:Nat):Int)≤2000)=true:=As.2 (by omega)
 rw [Aq.Fo.ev,e1,ej]
 simp only [Ez dx,Ez dy,v1,Ez l1,Ez l2,Ez t4,E8 dx,E8 dy,E8 l1,E8 l2,E8 t4,i1,w1,c1,c2,A5r,A5l,E3]
 congr 2
 exact decide_eq_decide.2 (Axh _ _)
open Go Go.Den Go.Cv Go.Proofs
open EqRef11Q
section
variable {C K:Nat} {l m h:List Int}
theorem Av2 {R:Nat} (hl:l.length=R*C) {i j:Nat} (hi:i<R) (hj:j<C):(Gt (C:Int) l (i:Int)).getD j 0=Co (C:Int) l (i:Int) (j:Int):=by
 rw [Aan hl hi,A5v,A62,List.getElem?_range hj]
 rfl
theorem Kw {R:Nat} (hl:l.length=R*C) {i:Nat} (hi:i<R):(Gt (C:Int) l (i:Int)).length=C:=by
 rw [Aan hl hi,A6r,A6o]
theorem A2i {i:Int} (al:Ak l=true):Ak (Gt (C:Int) l i)=true:=by
 refine As.2 fun z hz=>?_
 unfold Gt at hz
 exact As.1 al z (List.mem_of_mem_take (List.mem_of_mem_drop hz))
theorem Ahd {b n j:Nat} (hj:j<n):(By (K:Int) m (b:Int) 0 n).getD j 0=Co (K:Int) m (j:Int) (b:Int):=by
 rw [Avx hj,Int.zero_add]
theorem Aml {R:Nat} (hl:l.length=R*C) {i k:Nat} (hi:i<R):dtL (Gt (C:Int) l (i:Int)) (By (K:Int) m (k:Int) 0 C)-D8 (Co (K:Int) h (i:Int) (k:Int))=Zk C l m h K i k:=by
 unfold dtL Zk
 rw [Kw hl hi,Ac2 C fun j hj=>by rw [Av2 hl hi hj,Ahd hj]]
theorem A2y (x y:List Int) (hx:x.length≤64):Dq (dtL x y):=Ajl (k:=64) (m:=1) (fun j=>Dg.wv2 _ _) (by decide) (by decide) hx (by decide)
theorem A2s {i k:Nat} (hC:C≤6):Dq (Zk C l m h K i k):=(Dg.lk hC).dq (by decide) (by decide) (by decide)
def Fl (C:Nat) (l m h:List Int) (K k i:Nat):List (List DV):=(List.range i).map fun j=>dyR (Zk C l m h K j k)
theorem Xn (k i:Nat):(Fl C l m h K k i).length=i:=by unfold Fl; rw [A6r,A6o]
theorem Abh (k i:Nat):Fl C l m h K k i++[dyR (Zk C l m h K i k)]=Fl C l m h K k (i+1):=by
 unfold Fl
 rw [List.range_succ,List.map_append]
 rfl
theorem Ao6 {k i j:Nat} (hj:j<i):(Fl C l m h K k i).getD j []=dyR (Zk C l m h K j k):=by
 unfold Fl
 rw [A5v,A62,List.getElem?_range hj]
 rfl
theorem As4 {k i:Nat} (hC:C≤6) (hi:i≤64):Re (Fl C l m h K k i) i=true:=by
 refine As.2 ⟨hi,Xn k i,fun r hr=>?_⟩
 unfold Fl at hr
 obtain ⟨j,_,rfl⟩:=List.mem_map.1 hr
 exact ⟨_,((Dg.lk hC).mono (by decide)).wide (by decide),rfl⟩
def Tq (R C:Nat) (l m h:List Int) (K k j:Nat):Rat:=(Gq R fun i=>D8 (Co (C:Int) l (i:Int) (j:Int))*Zk C l m h K i k)*(Gq R fun i=>D8 (Co (C:Int) l (i:Int) (j:Int))*Zk C l m h K i k)
theorem Aft {R j k:Nat} (hC:C≤6):Qd (By (C:Int) l (j:Int) 0 R) (Fl C l m h K k R)=Gq R fun i=>D8 (Co (C:Int) l (i:Int) (j:Int))*Zk C l m h K i k:=by
 unfold Qd
 rw [Gl]
 exact Ac2 R fun i hi=>by rw [Ahd hi,Ao6 hi,Zb (A2s hC)]
theorem Ati {R j k:Nat} (hR:R≤6) (hC:C≤6):Dg 6444 12600 1764 (Tq R C l m h K k j):=(Dg.grow hR hC).mul (Dg.grow hR hC)
theorem Ath {R:Nat} (hR:R≤6) (hC:C≤6) {j k:Nat} (hj:j≤6) (hk:k≤6):Dg 6444 12600 74088 ((Gq k fun a=>Gq C fun b=>Tq R C l m h K a b)+Gq j fun b=>Tq R C l m h K k b) :=
 (Dg.Pg (m:=10584) hk fun a _=>Dg.Pg (m:=1764) hC fun b _=>Ati hR hC).add (Dg.Pg (m:=1764) hj fun b _=>Ati hR hC)
end
section
variable {R C K:Nat} {l m h:List Int} (r6:R≤6) (c6:C≤6) (k6:K≤6) (hl:l.length=R*C) (hm:m.length=C*K) (hh:h.length=R*K) (al:Ak l=true) (am:Ak m=true) (ah:Ak h=true)
include r6 c6 k6 hl hm hh al am ah
theorem Ah7 {i k:Nat} (hi:i<R) (hk:k<K):Qo (R:Int) (C:Int) l (i:Int)=true∧(Gw (C:Int) (K:Int) m (k:Int)&&Cz (0≤(0:Int)∧(0:Int)≤(C:Int)))=true ∧
 ((Ak (Gt (C:Int) l (i:Int))&&Ak (By (K:Int) m (k:Int) 0 C))&&Cz (length (Gt (C:Int) l (i:Int))=length (By (K:Int) m (k:Int) 0 C)∧length (Gt (C:Int) l (i:Int))≤64))=true ∧
 Hi (R:Int) (K:Int) h (i:Int) (k:Int)=true∧Ao (Co (K:Int) h (i:Int) (k:Int))=true ∧
 Dq (dtL (Gt (C:Int) l (i:Int)) (By (K:Int) m (k:Int) 0 C)):=by
 refine ⟨?_,?_,?_,Ix r6 k6 hh hi hk,Q7 ah,A2y _ _ (by rw [Kw hl hi]; omega)⟩
 ·unfold Qo
  rw [E0 r6 c6 hl,A6y]
  exact As.2 ⟨by omega,by omega⟩
 ·unfold Gw
  rw [E0 c6 k6 hm,A6y,Ag]
  exact ⟨As.2 ⟨by omega,by omega⟩,As.2 ⟨by decide,by omega⟩⟩
 ·rw [A2i al,Oa am,A5r,A6y]
  exact As.2 ⟨by rw [Kw hl hi,Gl],by rw [Kw hl hi]; omega⟩
theorem Awy (N M0:Nat) {k:Nat} (hk:k<K):∀ d i F,i+d=R→d<F →
 Aq.A2.L1 N M0 F (R:Int) (C:Int) l (C:Int) (K:Int) m (R:Int) (K:Int) h (i:Int) (Fl C l m h K k i) (k:Int)=Aq.A2.L3 N M0 N (R:Int) (C:Int) l (C:Int) (K:Int) m (R:Int) (K:Int) h (k:Int) (Fl C l m h K k R):=by
 intro d
 induction d with
 | zero =>
   intro i F hi hF
   obtain ⟨F,rfl⟩:∃ G,F=G+1:=⟨F-1,by omega⟩
   obtain rfl:i=R:=by omega
   rw [Aq.A2.Cy,Aw,A5q (by omega),A5p]
 | succ d ih =>
   intro i F hi hF
   obtain ⟨F,rfl⟩:∃ G,F=G+1:=⟨F-1,by omega⟩
   obtain ⟨p1,p2,p3,p4,p5,p6⟩:=Ah7 r6 c6 k6 hl hm hh al am ah (show i<R by omega) hk
   have dw:=Ub (Co (K:Int) h (i:Int) (k:Int))
   have e1:(i:Int)+1=((i+1:Nat):Int):=by omega
   have eC:toNat ((C:Int)-0)=C:=by rw [Int.sub_zero,A5n]
   have lk:=Aml (C:=C) (K:=K) (m:=m) (h:=h) (k:=k) hl (show i<R by omega)
   have ll:decide ((Fl C l m h K k i).length+1≤Abb)=true:=A5m (by rw [Xn]; unfold Abb; omega)
   rw [Aq.A2.Cy,Aw,A5m (show (i:Int)<(R:Int) by omega),A5l,p1,A5l,p2,A5l,eC,p3,A5l,p4,A5l,p5,A5l,E8 p6,E8 dw,A5r,A5l,ll,A5l,Ez p6,Ez dw,lk,Ap (by omega) (by omega),e1]
   exact (congrArg (fun z=>Aq.A2.L1 N M0 F (R:Int) (C:Int) l (C:Int) (K:Int) m (R:Int) (K:Int) h ((i+1:Nat):Int) z (k:Int)) (Abh k i)).trans (ih (i+1) F (by omega) (by omega))
theorem Awx (N M0:Nat) {k:Nat} (hk:k<K) (s:Rat):∀ d i F,i+d=R→d<F →
 Aq.A2.L2 N M0 F (R:Int) (C:Int) l (C:Int) (K:Int) m (R:Int) (K:Int) h (i:Int) (Fl C l m h K k i) (k:Int) (Az (mQ s)) (Ah (mQ s)) (eQ s)=Aq.A2.L5 N M0 N (R:Int) (C:Int) l (C:Int) (K:Int) m (R:Int) (K:Int) h (k:Int) (Az (mQ s)) (Ah (mQ s)) (eQ s) (Fl C l m h K k R):=by
 intro d
 induction d with
 | zero =>
   intro i F hi hF
   obtain ⟨F,rfl⟩:∃ G,F=G+1:=⟨F-1,by omega⟩
   obtain rfl:i=R:=by omega
   rw [Aq.A2.J0,Aw,A5q (by omega),A5p]
 | succ d ih =>
   intro i F hi hF
   obtain ⟨F,rfl⟩:∃ G,F=G+1:=⟨F-1,by omega⟩
   obtain ⟨p1,p2,p3,p4,p5,p6⟩:=Ah7 r6 c6 k6 hl hm hh al am ah (show i<R by omega) hk
   have dw:=Ub (Co (K:Int) h (i:Int) (k:Int))
   have e1:(i:Int)+1=((i+1:Nat):Int):=by omega
   have eC:toNat ((C:Int)-0)=C:=by rw [Int.sub_zero,A5n]
   have lk:=Aml (C:=C) (K:=K) (m:=m) (h:=h) (k:=k) hl (show i<R by omega)
   have ll:decide ((Fl C l m h K k i).length+1≤Abb)=true:=A5m (by rw [Xn]; unfold Abb; omega)
   rw [Aq.A2.J0,Aw,A5m (show (i:Int)<(R:Int) by omega),A5l,p1,A5l,p2,A5l,eC,p3,A5l,p4,A5l,p5,A5l,E8 p6,E8 dw,A5r,A5l,ll,A5l,Ez p6,Ez dw,lk,Ap (by omega) (by omega),e1]
   exact (congrArg (fun z=>Aq.A2.L2 N M0 F (R:Int) (C:Int) l (C:Int) (K:Int) m (R:Int) (K:Int) h ((i+1:Nat):Int) z (k:Int) (Az (mQ s)) (Ah (mQ s)) (eQ s)) (Abh k i)).trans (ih (i+1) F (by omega) (by omega))
omit k6 hm hh am ah in
theorem Akq {j k:Nat} (hj:j<C):(Gw (R:Int) (C:Int) l (j:Int)&&Cz (0≤(0:Int)∧(0:Int)≤(R:Int)))=true ∧
 (Ak (By (C:Int) l (j:Int) 0 R)&&Re (Fl C l m h K k R) (length (By (C:Int) l (j:Int) 0 R)))=true∧Dq (Gq R fun i=>D8 (Co (C:Int) l (i:Int) (j:Int))*Zk C l m h K i k)∧Dq (Tq R C l m h K k j):=by
 refine ⟨?_,?_,(Dg.grow r6 c6).dq (by decide) (by decide) (by decide),(Ati r6 c6).dq (by decide) (by decide) (by decide)⟩
 ·unfold Gw
  rw [E0 r6 c6 hl,A6y,Ag]
  exact ⟨As.2 ⟨by omega,by omega⟩,As.2 ⟨by decide,by omega⟩⟩
 ·rw [Oa al,Gl,As4 c6 (by omega)]; rfl
omit hh am ah in
theorem Amo (N M0:Nat) {k:Nat} (hk:k<K):∀ d j F,j+d=C→d<F→∀ s,s=(Gq k fun a=>Gq C fun b=>Tq R C l m h K a b)+Gq j (fun b=>Tq R C l m h K k b) →
 Aq.A2.L4 N M0 F (R:Int) (C:Int) l (C:Int) (K:Int) m (R:Int) (K:Int) h (j:Int) (Az (mQ s)) (Ah (mQ s)) (eQ s) (k:Int) (Fl C l m h K k R) =
 Aq.A2.L6 N M0 (R:Int) (C:Int) l (C:Int) (K:Int) m (R:Int) (K:Int) h ((k+1:Nat):Int) (Az (mQ (Gq (k+1) fun a=>Gq C fun b=>Tq R C l m h K a b))) (Ah (mQ (Gq (k+1) fun a=>Gq C fun b=>Tq R C l m h K a b))) (eQ (Gq (k+1) fun a=>Gq C fun b=>Tq R C l m h K a b)):=by
 intro d
 induction d with
 | zero =>
   intro j F hj hF s hs
   obtain ⟨F,rfl⟩:∃ G,F=G+1:=⟨F-1,by omega⟩
   obtain rfl:j=C:=by omega
   have e:s=Gq (k+1) fun a=>Gq j fun b=>Tq R j l m h K a b:=hs
   rw [Aq.A2.Anc,Aw,A5q (by omega),A5p,Ap (by omega) (by omega),e]
   rfl
 | succ d ih =>
   intro j F hj hF s hs
   obtain ⟨F,rfl⟩:∃ G,F=G+1:=⟨F-1,by omega⟩
   obtain ⟨p1,p2,p3,p4⟩:=Akq (k:=k) r6 c6 hl al (show j<C by omega)
   have ds:Dq s:=by rw [hs]; exact (Ath r6 c6 (by omega) (by omega)).dq (by decide) (by decide) (by decide)
   have e1:(j:Int)+1=((j+1:Nat):Int):=by omega
   have eR:toNat ((R:Int)-0)=R:=by rw [Int.sub_zero,A5n]
   have eg:(Gq R fun i=>D8 (Co (C:Int) l (i:Int) (j:Int))*Zk C l m h K i k)*(Gq R fun i=>D8 (Co (C:Int) l (i:Int) (j:Int))*Zk C l m h K i k)=Tq R C l m h K k j:=rfl
   rw [Aq.A2.Anc,Aw,A5m (show (j:Int)<(C:Int) by omega),A5l,p1,A5l,eR,p2,A5l,Aft c6,E8 p3,A5r,A5l,Ez p3,eg,Af3 ds,E8 p4,A5r,A5l,Oy ds,Ez p4,Ap (by omega) (by omega),e1]
   refine ih (j+1) F (by omega) (by omega) _ ?_
   rw [hs]
   show _=_+(Gq j (fun b=>Tq R C l m h K k b)+Tq R C l m h K k j)
   grind
omit hh am ah in
theorem Aww (N M0 F:Nat) {k:Nat} (hk:k<K) (hF:C<F):∀ s,s=(Gq k fun a=>Gq C fun b=>Tq R C l m h K a b) →
 Aq.A2.L5 N M0 F (R:Int) (C:Int) l (C:Int) (K:Int) m (R:Int) (K:Int) h (k:Int) (Az (mQ s)) (Ah (mQ s)) (eQ s) (Fl C l m h K k R) =
 Aq.A2.L6 N M0 (R:Int) (C:Int) l (C:Int) (K:Int) m (R:Int) (K:Int) h ((k+1:Nat):Int) (Az (mQ (Gq (k+1) fun a=>Gq C fun b=>Tq R C l m h K a b))) (Ah (mQ (Gq (k+1) fun a=>Gq C fun b=>Tq R C l m h K a b))) (eQ (Gq (k+1) fun a=>Gq C fun b=>Tq R C l m h K a b)):=by
 intro s hs
 obtain ⟨F,rfl⟩:∃ G,F=G+1:=⟨F-1,by omega⟩
 by_cases h0:C=0
 ·have e:s=Gq (k+1) fun a=>Gq C fun b=>Tq R C l m h K a b:=by
   rw [hs]
   show _=_+Gq C _
   subst h0
   show _=_+(0:Rat)
   grind
  rw [Aq.A2.Anb,Aw,A5q (by omega),A5p,Ap (by omega) (by omega),e]
  rfl
 ·obtain ⟨p1,p2,p3,p4⟩:=Akq (k:=k) r6 c6 hl al (show 0<C by omega)
  have ds:Dq s:=by
   have:=(Ath (l:=l) (m:=m) (h:=h) (K:=K) r6 c6 (j:=0) (k:=k) (by omega) (by omega)).dq (by decide) (by decide) (by decide)
   have e:s=(Gq k fun a=>Gq C fun b=>Tq R C l m h K a b)+Gq 0 fun b=>Tq R C l m h K k b:=by
    rw [hs]; show _=_+(0:Rat); grind
   rw [e]; exact this
  have eR:toNat ((R:Int)-0)=R:=by rw [Int.sub_zero,A5n]
  have p1:(Gw (R:Int) (C:Int) l 0&&Cz (0≤(0:Int)∧(0:Int)≤(R:Int)))=true:=p1
  have p2:(Ak (By (C:Int) l 0 0 R)&&Re (Fl C l m h K k R) (length (By (C:Int) l 0 0 R)))=true:=p2
  have g0:Qd (By (C:Int) l 0 0 R) (Fl C l m h K k R)=Gq R fun i=>D8 (Co (C:Int) l (i:Int) ((0:Nat):Int))*Zk C l m h K i k:=Aft (j:=0) c6
  have eg:(Gq R fun i=>D8 (Co (C:Int) l (i:Int) ((0:Nat):Int))*Zk C l m h K i k)*(Gq R fun i=>D8 (Co (C:Int) l (i:Int) ((0:Nat):Int))*Zk C l m h K i k)=Tq R C l m h K k 0:=rfl
  rw [Aq.A2.Anb,Aw,A5m (show (0:Int)<(C:Int) by omega),A5l,p1,A5l,eR,p2,A5l,g0,E8 p3,A5r,A5l,Ez p3,eg,Af3 ds,E8 p4,A5r,A5l,Oy ds,Ez p4]
  refine Amo r6 c6 k6 hl hm al N M0 hk (C-1) 1 F (by omega) (by omega) _ ?_
  rw [hs]
  show _=_+((0:Rat)+Tq R C l m h K k 0)
  grind
theorem Awv (N:Nat) (hN:7<N):∀ d k F,k+d=K→d<F →
 Aq.A2.L6 N F (R:Int) (C:Int) l (C:Int) (K:Int) m (R:Int) (K:Int) h (k:Int) (Az (mQ (Gq k fun a=>Gq C fun b=>Tq R C l m h K a b))) (Ah (mQ (Gq k fun a=>Gq C fun b=>Tq R C l m h K a b))) (eQ (Gq k fun a=>Gq C fun b=>Tq R C l m h K a b)) =
 some (dqO (Gq K fun a=>Gq C fun b=>Tq R C l m h K a b)):=by
 intro d
 induction d with
 | zero =>
   intro k F hk hF
   obtain ⟨F,rfl⟩:∃ G,F=G+1:=⟨F-1,by omega⟩
   obtain rfl:k=K:=by omega
   rw [Aq.A2.Ana,Aw,A5q (by omega),A5p]
   rfl
 | succ d ih =>
   intro k F hk hF
   obtain ⟨F,rfl⟩:∃ G,F=G+1:=⟨F-1,by omega⟩
   rw [Aq.A2.Ana,Aw,A5m (show (k:Int)<(K:Int) by omega),A5l]
   exact (Awx r6 c6 k6 hl hm hh al am ah N F (show k<K by omega) _ R 0 N (by omega) (by omega)).trans
    ((Aww r6 c6 k6 hl hm al N F N (by omega) (by omega) _ rfl).trans (ih (k+1) F (by omega) (by omega)))
theorem Awz (N:Nat) (hN:7<N):∀ d k F,k+d=K→d<F→(Gq k fun a=>Gq C fun b=>Tq R C l m h K a b)=0 →
 ∃ dv,Aq.A2.L0 N F (R:Int) (C:Int) l (C:Int) (K:Int) m (R:Int) (K:Int) h (k:Int)=some dv∧Wk [] dv (dqO (Gq K fun a=>Gq C fun b=>Tq R C l m h K a b)):=by
 intro d
 induction d with
 | zero =>
   intro k F hk hF h0
   obtain ⟨F,rfl⟩:∃ G,F=G+1:=⟨F-1,by omega⟩
   obtain rfl:k=K:=by omega
   refine ⟨_,by rw [Aq.A2.Ax,Aw,A5q (by omega),A5p],?_⟩
   rw [h0]; exact wqN
 | succ d ih =>
   intro k F hk hF h0
   obtain ⟨F,rfl⟩:∃ G,F=G+1:=⟨F-1,by omega⟩
   rw [Aq.A2.Ax,Aw,A5m (show (k:Int)<(K:Int) by omega),A5l]
   have hL1:Aq.A2.L1 N F N (R:Int) (C:Int) l (C:Int) (K:Int) m (R:Int) (K:Int) h 0 [] (k:Int)=Aq.A2.L3 N F N (R:Int) (C:Int) l (C:Int) (K:Int) m (R:Int) (K:Int) h (k:Int) (Fl C l m h K k R):=Awy r6 c6 k6 hl hm hh al am ah N F (show k<K by omega) R 0 N (by omega) (by omega)
   rw [hL1]
   obtain ⟨G,hG⟩:∃ G,N=G+1:=⟨N-1,by omega⟩
   have hL3:Aq.A2.L3 N F N (R:Int) (C:Int) l (C:Int) (K:Int) m (R:Int) (K:Int) h (k:Int) (Fl C l m h K k R)=Aq.A2.L3 N F (G+1) (R:Int) (C:Int) l (C:Int) (K:Int) m (R:Int) (K:Int) h (k:Int) (Fl C l m h K k R):=congrArg (fun z=>Aq.A2.L3 N F z (R:Int) (C:Int) l (C:Int) (K:Int) m (R:Int) (K:Int) h (k:Int) (Fl C l m h K k R)) hG
   rw [hL3,Aq.A2.Wx]
   by_cases c0:C=0
   ·rw [Aw,A5q (by omega),A5p,Ap (by omega) (by omega)]
    refine ih (k+1) F (by omega) (by omega) ?_
    show _+Gq C _=0
    rw [h0]
    subst c0
    show 0+(0:Rat)=0
    grind
   ·obtain ⟨p1,p2,p3,p4⟩:=Akq (k:=k) r6 c6 hl al (show 0<C by omega)
    have eR:toNat ((R:Int)-0)=R:=by rw [Int.sub_zero,A5n]
    have p1:(Gw (R:Int) (C:Int) l 0&&Cz (0≤(0:Int)∧(0:Int)≤(R:Int)))=true:=p1
    have p2:(Ak (By (C:Int) l 0 0 R)&&Re (Fl C l m h K k R) (length (By (C:Int) l 0 0 R)))=true:=p2
    have g0:Qd (By (C:Int) l 0 0 R) (Fl C l m h K k R)=Gq R fun i=>D8 (Co (C:Int) l (i:Int) ((0:Nat):Int))*Zk C l m h K i k:=Aft (j:=0) c6
    have eg:(Gq R fun i=>D8 (Co (C:Int) l (i:Int) ((0:Nat):Int))*Zk C l m h K i k)*(Gq R fun i=>D8 (Co (C:Int) l (i:Int) ((0:Nat):Int))*Zk C l m h K i k)=Tq R C l m h K k 0:=rfl
    have es:(0:Rat)+Tq R C l m h K k 0=(Gq k fun a=>Gq C fun b=>Tq R C l m h K a b)+Gq 1 fun b=>Tq R C l m h K k b:=by
     rw [h0]
     show _=0+((0:Rat)+Tq R C l m h K k 0)
     grind
    rw [Aw,A5m (show (0:Int)<(C:Int) by omega),A5l,p1,A5l,eR,p2,A5l,g0,E8 p3,A5r,A5l,Ez p3,eg,Zn,E8 p4,A5r,A5l,Ael,Ez p4]
    have h4:=Amo r6 c6 k6 hl hm al N F (show k<K by omega) (C-1) 1 G (by omega) (by omega) _ es
    have h6:=Awv r6 c6 k6 hl hm hh al am ah N hN d (k+1) F (by omega) (by omega)
    exact ⟨_,h4.trans h6,wqO⟩
end
theorem Atg (R C K:Nat) (l m h:List Int):Oi R C K l m h=Gq K fun a=>Gq C fun b=>Tq R C l m h K a b:=rfl
theorem Aq.A2.known:Aq.A2.Kn:=Aq.A2.Ae (.cons Ai.Add.q.known (.cons Ai.Mul.q.known (.cons Ai.Sub.q.known (.cons A1.Value.q.known (.cons Bo.At.known (.cons Bo.Rn.known (.cons Bo.Row.known (.cons Aq.G9.q.known (.cons Aq.Gs.known .nil))))))))) fun r c l p q m u v h hp=>by
 obtain ⟨h1,h2⟩:=Ag.1 (show (((Be r c l&&Be p q m)&&(Be u v h&&(Ak l&&(Ak m&&Ak h))))&&decide (p=c∧u=r∧v=q))=true from hp)
 obtain ⟨h3,h4⟩:=Ag.1 h1
 obtain ⟨hl,hm⟩:=Ag.1 h3
 obtain ⟨hh,h5⟩:=Ag.1 h4
 obtain ⟨al,h6⟩:=Ag.1 h5
 obtain ⟨am,ah⟩:=Ag.1 h6
 obtain ⟨rfl,rfl,rfl⟩:=A6b h2
 obtain ⟨R,C,rfl,rfl,r6,c6,ll⟩:=Ef hl
 obtain ⟨P,K,eP,rfl,_,k6,lm⟩:=Ef hm
 obtain rfl:P=C:=by omega
 obtain ⟨U,V,eU,eV,_,_,lh⟩:=Ef hh
 obtain rfl:U=R:=by omega
 obtain rfl:V=K:=by omega
 obtain ⟨dv,e,w⟩:=Awz r6 c6 k6 ll lm lh al am ah 8 (by omega) V 0 8 (by omega) (by omega) rfl
 refine ⟨8,dv,[],(Aq.A2.ev 8 _ _ _ _ _ _ _ _ _).trans e,?_⟩
 show Wk [] dv (dqO (Oi (toNat (U:Int)) (toNat (P:Int)) (toNat (V:Int)) l m h))
 rw [A5n,A5n,A5n,Atg]
 exact w
end Go.Proofs.S1
namespace Go.Cv
open Go.Den
theorem Awi {k:Nat} {x:List Int} (hk:k+4≤1000) (hx:Bl k x) (hl:x.length≤7) (h0:x.length≠0):(Bu x).2.2.2=0:=by
 unfold Bu
 have hf:=hx.Nc
 rw [A57 (by omega),A58 hf]
 unfold Ahn
 by_cases h3:Fx (x.drop 1)=true
 ·rw [A58 h3]
 ·rw [A57 h3]
  have hs:=Ts h3
  obtain ⟨m1,-⟩:=Adn hf hl hs
  have hb:Bd (k+4) (Gp x).toNat:=by
   unfold Gp
   rw [Dr]
   exact Bd.scale (by omega) m1 (by have:=Atu hx hs; omega)
  rw [A58 (show Dm (Gp x)=true from hb.fin)]
theorem Amy {r c:Nat} (hr:r≤7):∀ (n j k:Nat) (l:List Int),Bl k l→Ak l=true→k+11*n≤990→j+n<r→∃ x,I9 r c n j l=some x
 | 0,_,_,l,_,_,_,_=>⟨(l,[]),rfl⟩
 | n+1,j,k,l,hl,al,hk,hj=>by
   have h1:(Bu (De r c l j)).2.2.2=0:=by
    have e:(De r c l j).length=r-j:=by unfold De; rw [Gl]
    exact Awi (k:=k) (by omega) (Aah hl) (by omega) (by omega)
   obtain ⟨b1,-⟩:=Afk (by omega) hl al hr h1
   obtain ⟨x,hx⟩:=Amy (c:=c) hr n (j+1) (k+11) _ b1 (Tj al j) (by omega) (by omega)
   refine ⟨(x.1,((Bu (De r c l j)).1,(Bu (De r c l j)).2.1)::x.2),?_⟩
   unfold I9
   rw [A58 h1,hx]
   rfl
theorem Atz {r c:Nat} (h:r≠0):0+Fj r c<r:=by unfold Fj; omega
theorem Azw {r c:Nat} {l:List Int} (hr:r≤6) (h:Bl 60 l) (al:Ak l=true):∃ x,Im r c l=some x:=by
 unfold Im
 by_cases h0:r=0
 ·have:Fj r c=0:=by unfold Fj; omega
  rw [this]; exact ⟨_,rfl⟩
 ·have h5:Fj r c≤5:=by unfold Fj; omega
  exact Amy (by omega) _ 0 60 l h al (by omega) (Atz h0)
def dl (a m:Nat):Rat:=if a=m then 1 else 0
section
variable {r c j k b K:Nat} {q v:List Int} {t:Int} {s:Rat}
theorem Ay1 (hn:j+(k+1)=r) (hr:r≤6) (hb:b<r) (aq:Ak q=true) (hq:Bl K q) (hK:K≤900) (vl:v.length=k+1) (mb1:Bl 1 v) (mb2:Bd 5 t.toNat) (M:Mi r (vx j (rv v)) (vR t.toNat)) (hs:Ln r (cl r q b) s) :
 Ln r (fun i=>cl r (Ga r r q (j:Int) 0 v t) b i-vH r (vx j (rv v)) (vR t.toNat) (cl r q b) i) (120*uR*s+100*B7):=by
 subst hn
 have hsb:=hs.behind
 have vv:=M.vv
 rw [Ap9] at vv
 have A:=Aeb (c:=((j+(k+1):Nat):Int)) (i:=(j:Int)) (b:=(b:Int)) (t:=t) (s:=s) vl (by omega) hK aq hq mb1 mb2 vv M.tb (hsb.congr fun m hm=>Aag hm)
 refine Ln.tail (s:=120*uR*s+100*B7) (fun i hi=>?_) ?_
 ·rw [Acq,A58 hi]
  unfold cl
  rw [Xw (by omega) hb]
  unfold Hj
  rw [A57 (by omega)]; grind
 ·refine A.congr fun m hm=>?_
  rw [Acq,A57 (by omega),Nat.add_sub_cancel_left]
  have e:vH (k+1) (rv v) (vR t.toNat) (fun m=>cl (j+(k+1)) q b (j+m)) m=vH (k+1) (rv v) (vR t.toNat) (rv (By ((j+(k+1):Nat):Int) q (b:Int) (j:Int) (k+1))) m:=U8 (fun m hm=>(Aag hm).symm) hm
  rw [e]
  unfold cl
  rw [Xw (by omega) hb]
  unfold Hj
  rw [A58 (by omega),show (((j+m:Nat):Int)-(j:Int)).toNat=m by omega,Int.natCast_add j m]
end
structure Auy (r c n:Nat) (l R Q:List Int):Prop where
 q1:∀ m,m<r→Ln r (cl r Q m) (1+1000*uR*(n:Rat))
 q2:∀ a m,a<r→m<r→av ((sm r fun i=>cl r Q a i*cl r Q m i)-dl a m)≤1000*uR*(n:Rat)
 f1:∀ b s,b<c→tw (-900)≤s→Ln r (cl c l b) s→Ln r (cl c R b) ((1+1000*uR*(n:Rat))*s)
 f2:∀ b s,b<c→tw (-900)≤s→Ln r (cl c l b) s→Ln r (fun i=>cl c l b i-sm r fun m=>cl r Q m i*cl c R b m) (1400*uR*(n:Rat)*s)
theorem Ab0 {r a i:Nat} (ha:a<r) (hi:i<r):cl r (K9 r) a i=dl a i:=by
 unfold cl K9
 rw [I5 hi ha]
 unfold Uy dl
 by_cases h:a=i
 ·rw [A58 (by omega),A58 h]; exact Ai8
 ·rw [A57 (by omega),A57 h]; exact Jv false
theorem Ato (r c:Nat) (l:List Int):Auy r c 0 l l (K9 r):=by
 have z:((0:Nat):Rat)=0:=rfl
 have d:∀ a m,a<r→m<r→(sm r fun i=>cl r (K9 r) a i*cl r (K9 r) m i)=dl a m:=fun a m ha hm=>by
  rw [Ajj (k:=a) ha fun i hi h=>by
   rw [Ab0 ha hi]
   unfold dl
   rw [A57 (by omega)]; grind]
  rw [Ab0 ha ha,Ab0 hm ha]
  unfold dl
  rw [A58 rfl]
  by_cases h:a=m
  ·rw [A58 h,A58 h.symm]; grind
  ·rw [A57 h,A57 (fun e=>h e.symm)]; grind
 refine ⟨fun m hm=>⟨by rw [z]; grind,?_⟩,fun a m ha hm=>?_,fun b s hb hs h=>h.mono (by rw [z]; grind),fun b s hb hs h=>?_⟩
 ·have:=d m m hm hm
  unfold sq
  rw [this,z]
  unfold dl
  rw [A58 rfl]; grind
 ·rw [d a m ha hm,z]
  have:av (dl a m-dl a m)=0:=by
   rw [Rat.sub_self]; decide
  rw [this]; grind
 ·refine ((Ln.zero r).congr fun i hi=>?_).mono (by rw [z]; grind)
  rw [Ajj (k:=i) hi fun m hm hne=>by
   rw [Ab0 hm hi]
   unfold dl
   rw [A57 hne]; grind]
  rw [Ab0 hi hi]
  unfold dl
  rw [A58 rfl]; grind
end Go.Cv
namespace Go.Cv
open Go.Den
theorem Azz {s:Rat} (h:tw (-900)≤s):100*B7≤uR*s:=by
 have h1:100*B7≤uR*tw (-900):=by decide +kernel
 have h2:=Ij h
 grind
theorem A4r {u N s:Rat} (hu:0≤u) (hu2:u≤1 / 1000000) (hN:0≤N) (hN5:N≤5) (hs:0≤s):(1+250*u)*(1400*u*N*((1+456*u)*s))≤1400*u*N*s+20*u*s:=by
 have U:=Rat.mul_nonneg hu hs
 have p1:=D3 hN5 hu2 (by decide) hu
 have p2:=Rat.mul_le_mul_of_nonneg_right p1 U
 have p3:=D3 hu2 hu2 (by decide +kernel) hu
 have p4:=Rat.mul_le_mul_of_nonneg_right p3 U
 have p5:=Rat.mul_le_mul_of_nonneg_right hu2 (Rat.mul_nonneg (Rat.mul_nonneg hN hu) U)
 grind
theorem A2m {u N s:Rat} (hu:0≤u) (hu2:u≤1 / 1000000) (hN5:N≤5) (hs:0≤s):(1+1000*u*N)*((1+456*u)*s)≤(1+1000*u*(N+1))*s:=by
 have U:=Rat.mul_nonneg hu hs
 have p1:=D3 hN5 hu2 (by decide) hu
 have p2:=Rat.mul_le_mul_of_nonneg_right p1 U
 grind
theorem A4q {u N:Rat} (hu:0≤u) (hu2:u≤1 / 1000000) (hN:0≤N) (hN5:N≤5):1000*u*N≤1 / 100∧0≤u*N:=by
 have p1:=D3 hN5 hu2 (by decide) hu
 have:=Rat.mul_nonneg hu hN
 grind
section
variable {r c n:Nat} {l l1 R Q Q':List Int} {w:Nat→Rat} {t:Rat}
theorem Atn (n4:n≤5) (r9:r≤9) (M:Mi r w t)
 (hl:∀ b s,b<c→Ln r (cl c l b) s→Ln r (fun i=>cl c l1 b i-vH r w t (cl c l b) i) (205*uR*s+100*B7))
 (hQ:∀ b s,b<r→Ln r (cl r Q' b) s→Ln r (fun i=>cl r Q b i-vH r w t (cl r Q' b) i) (120*uR*s+100*B7))
 (ih:Auy r c n l1 R Q'):Auy r c (n+1) l R Q:=by
 have u0:=Rat.le_of_lt Ey
 have us:=G4
 have e0:=Ej
 have N1:((n+1:Nat):Rat)=(n:Rat)+1:=Rat.natCast_add n 1
 have N0:(0:Rat)≤(n:Rat):=Lt n
 have N5:(n:Rat)≤5:=Ct n4
 obtain ⟨s1,s2⟩:=A4q u0 us N0 N5
 have e1:100*B7≤uR:=by decide +kernel
 have hx:120*uR*(1+1000*uR*(n:Rat))+100*B7≤123*uR:=by
  have:=Ij s1
  grind
 have e:=fun b (hb:b<r)=>(hQ b _ hb (ih.q1 b hb)).mono hx
 have hh:=fun b (hb:b<r)=>Aem M (ih.q1 b hb)
 have q1:∀ m,m<r→Ln r (cl r Q m) (1+1000*uR*((n:Rat)+1)):=fun m hm=>by
  refine (((e m hm).add (hh m hm)).congr fun i _=>by grind).mono ?_
  have:=Ij s1
  grind
 have s1':=fun (b:Nat) (s:Rat) (hb:b<c) (hs:tw (-900)≤s) (h:Ln r (cl c l b) s)=>by
  have h1:=(hl b s hb h).mono (t:=206*uR*s) (by have:=Azz hs; grind)
  have h2:Ln r (cl c l1 b) ((1+456*uR)*s):=((h1.add (Aem M h)).congr fun i _=>by grind).mono (by grind)
  exact And.intro h1 h2
 have ss:=fun (s:Rat) (hs:tw (-900)≤s)=>by
  have t0:=Dp (-900)
  have:=Rat.mul_nonneg u0 (show 0≤s by grind)
  exact (show 0≤s∧0≤uR*s∧tw (-900)≤(1+456*uR)*s by grind)
 refine ⟨by rw [N1]; exact q1,fun a m ha hm=>?_,fun b s hb hs h=>?_,fun b s hb hs h=>?_⟩
 ·rw [N1]
  have d:=Aqj (r:=r) (v:=w) (t:=t) (a:=cl r Q' a) (cl r Q' m)
  have i2:=ih.q2 a m ha hm
  have da:=M.lv.dot (ih.q1 a ha)
  have dm:=M.lv.dot (ih.q1 m hm)
  have x1:=(hh a ha).dot (e m hm)
  have x2:=(e a ha).dot (q1 m hm)
  have es:(sm r fun i=>cl r Q a i*cl r Q m i)=(sm r fun i=>vH r w t (cl r Q' a) i*vH r w t (cl r Q' m) i)+((sm r fun i=>vH r w t (cl r Q' a) i*(cl r Q m i-vH r w t (cl r Q' m) i))+(sm r fun i=>(cl r Q a i-vH r w t (cl r Q' a) i)*cl r Q m i)):=by
   rw [← Ha,← Ha]
   exact Bk r fun i _=>by grind
  rw [es,d]
  clear es d
  have k1:av (t*(t*sq r w-2)*((sm r fun i=>w i*cl r Q' a i)*sm r fun i=>w i*cl r Q' m i))≤220*uR*(24 / 10):=by
   have b1:av (sm r fun i=>w i*cl r Q' a i)≤3 / 2*(101 / 100):=by have:=Ko da; grind
   have b2:av (sm r fun i=>w i*cl r Q' m i)≤3 / 2*(101 / 100):=by have:=Ko dm; grind
   have b3:=D3 b1 b2 (by decide +kernel) (Ed _)
   rw [← Dy] at b3
   have b4:=D3 M.tt b3 (by grind) (Ed _)
   rw [← Dy] at b4
   have:220*uR*(3 / 2*(101 / 100)*(3 / 2*(101 / 100)))≤220*uR*(24 / 10):=by grind
   exact Rat.le_trans b4 this
  have x1':=Ko x1
  have x2':=Ko x2
  have n1:(1+250*uR)*(1+1000*uR*(n:Rat))*(123*uR)≤126*uR:=by
   have h1:(1+250*uR)*(1+1000*uR*(n:Rat))≤102 / 100:=by
    have:=Ij s1
    grind
   have:=Rat.mul_le_mul_of_nonneg_right h1 (show 0≤123*uR by grind)
   grind
  have n2:123*uR*(1+1000*uR*((n:Rat)+1))≤126*uR:=by
   have h1:1+1000*uR*((n:Rat)+1)≤102 / 100:=by grind
   have:=Rat.mul_le_mul_of_nonneg_right h1 (show 0≤123*uR by grind)
   grind
  generalize (sm r fun i=>cl r Q' a i*cl r Q' m i)=A at *
  generalize t*(t*sq r w-2)*((sm r fun i=>w i*cl r Q' a i)*sm r fun i=>w i*cl r Q' m i)=B at *
  generalize (sm r fun i=>vH r w t (cl r Q' a) i*(cl r Q m i-vH r w t (cl r Q' m) i))=C at *
  generalize (sm r fun i=>(cl r Q a i-vH r w t (cl r Q' a) i)*cl r Q m i)=D at *
  have g1:=Ih (A-dl a m) (B+(C+D))
  have g2:=Ih B (C+D)
  have g3:=Ih C D
  have g4:A+B+(C+D)-dl a m=A-dl a m+(B+(C+D)):=by grind
  rw [g4]
  clear g4 da dm x1 x2 e hh q1 s1' ss hl hQ M ih
  grind
 ·rw [N1]
  obtain ⟨z1,z2,z3⟩:=ss s hs
  exact (ih.f1 b _ hb z3 (s1' b s hb hs h).2).mono (A2m u0 us N5 z1)
 ·rw [N1]
  obtain ⟨z1,z2,z3⟩:=ss s hs
  obtain ⟨h1,h2⟩:=s1' b s hb hs h
  have p1:=Au3 M h
  have p2:=Aem M h1
  have p3:=Aem M (ih.f2 b _ hb z3 h2)
  have R1:=(ih.f1 b _ hb z3 h2).mono (A2m u0 us N5 z1)
  have p4:=Azp (e:=fun m i=>cl r Q m i-vH r w t (cl r Q' m) i) (show 0≤123*uR by grind) r9 e R1
  have hall:=((p1.sub p2).add p3).sub p4
  refine (hall.congr fun i hi=>?_).mono ?_
  ·have y1:=Aqh (r:=r) (v:=w) (t:=t) (a:=cl c l1 b) (vH r w t (cl c l b)) i
   have y2:=Aqh (r:=r) (v:=w) (t:=t) (a:=cl c l1 b) (fun i=>sm r fun m=>cl r Q' m i*cl c R b m) i
   have y3:=Aqg (r:=r) (v:=w) (t:=t) (fun m=>cl r Q' m) (fun m=>cl c R b m) i r
   have y4:(sm r fun m=>cl r Q m i*cl c R b m)=(sm r fun m=>vH r w t (cl r Q' m) i*cl c R b m)+(sm r fun m=>(cl r Q m i-vH r w t (cl r Q' m) i)*cl c R b m):=by
    rw [← Ha]
    exact Bk r fun m _=>by grind
   rw [y1,y2,y4,y3]
   grind
  ·have q1:=A4r u0 us N0 N5 z1
   have q2:(1+250*uR)*(206*uR*s)≤210*uR*s:=by
    have:=Rat.mul_le_mul_of_nonneg_right us z2
    grind
   have q3:3*(123*uR)*((1+1000*uR*((n:Rat)+1))*s)≤380*uR*s:=by
    have h1:1+1000*uR*((n:Rat)+1)≤102 / 100:=by grind
    have:=Rat.mul_le_mul_of_nonneg_right h1 z2
    grind
   grind
end
end Go.Cv
namespace Go.Cv
open Go.Den
theorem Avs (n:Nat) (x:Nat→Rat):Ln n x (sq n x+1):=by
 have h0:=Mc n x
 refine ⟨by grind,?_⟩
 generalize sq n x=q at *
 have:=Bw q
 grind
theorem Az6 {r c j k:Nat} {l:List Int} (hn:j+(k+1)=r) (hr:r≤6) (al:Ak l=true) (he:(Bu (De r c l j)).2.2.2=0):Mi r (vx j (rv (Bu (De r c l j)).1)) (vR (Bu (De r c l j)).2.1.toNat)∧(Bu (De r c l j)).1.length=k+1:=by
 have lc:(De r c l j).length=k+1:=by unfold De; rw [Gl]; omega
 have ac:Ak (De r c l j)=true:=Oa al
 have ml:=P5 he
 subst hn
 exact ⟨Aos (Aa4 lc (by omega) ac he (Avs _ _)),by omega⟩
theorem Amr {r c:Nat} (hr:r≤6):∀ (n j K:Nat) (l:List Int) (x:List Int × List (List Int × Int)),Bl K l→Ak l=true→K+11*n≤900→(∀ b i:Nat,b<j→b<i→i<r→cl c l b i=0)→j+n≤c→n=0∨j+n<r→I9 r c n j l=some x →
 Auy r c n l x.1 (Kl r j x.2 (K9 r))∧∀ b i:Nat,b<j+n→b<i→i<r→cl c x.1 b i=0
 | 0,j,K,l,x,_,_,_,hz,_,_,h=>by
   cases h
   exact ⟨Ato r c l,hz⟩
 | n+1,j,K,l,x,hK,al,hK9,hz,hc,hj,h=>by
   unfold I9 at h
   by_cases h1:(Bu (De r c l j)).2.2.2=0
   ·rw [A58 h1,Option.map_eq_some_iff] at h
    obtain ⟨y,hy,rfl⟩:=h
    have hj:j+(n+1)<r:=by omega
    obtain ⟨k,hk⟩:∃ k,j+(k+1)=r:=⟨r-j-1,by omega⟩
    obtain ⟨M,ml⟩:=Az6 hk hr al h1
    obtain ⟨b1,b2,b3,b4⟩:=Afk (by omega) hK al (by omega) h1
    have al1:=Tj (r:=r) (c:=c) al j
    obtain ⟨ih1,ih2⟩:=Amr hr n (j+1) (K+11) (Ov r c l j) y b1 al1 (by omega) (Ant (by omega) hz) (by omega) (by omega) hy
    obtain ⟨d1,d2,d3⟩:=Aby (by omega) n (j+1) (K+11) _ y b1 al1 (by omega) hy
    have qb:=Ab8 (n:=r) y.2 (j+1) 0 (K9 r) d2 (Amu r) (by omega)
    have qi:=(Wr r y.2 (j+1) (K9 r) (Zm r) (by unfold K9; exact Cf _ _ _)).1
    refine ⟨?_,fun b i hb=>ih2 b i (by omega)⟩
    exact Atn (by omega) (by omega) M (fun b s hb hs=>Aq4 hk hr (by omega) hb al hK (by omega) h1 hz hs)
     (fun b s hb hs=>Ay1 hk hr hb qi qb (by omega) ml b2 b3 M hs) ih1
   ·rw [A57 h1] at h; cases h
theorem Akt {r c:Nat} {l:List Int} (hr:r≤6) (hK:Bl 60 l) (al:Ak l=true) :
 Auy r c 5 l (Hq r c l) (I6 r c l)∧(∀ b i:Nat,b<c→b<i→i<r→cl c (Hq r c l) b i=0)∧Bl 115 (Hq r c l)∧Bl 55 (I6 r c l)∧(Im r c l).isSome=true:=by
 obtain ⟨x,hx⟩:=Azw (c:=c) hr hK al
 have eR:Hq r c l=x.1:=by unfold Hq; rw [hx]
 have eQ:I6 r c l=Kl r 0 x.2 (K9 r):=by unfold I6; rw [hx]
 rw [eR,eQ]
 unfold Im at hx
 have h5:Fj r c≤5:=by unfold Fj; omega
 have hz:Fj r c=0∨0+Fj r c<r:=by unfold Fj; omega
 obtain ⟨h1,h2⟩:=Amr hr (Fj r c) 0 60 l x hK al (by omega) (fun b i hb=>by omega) (by unfold Fj; omega) hz hx
 obtain ⟨d1,d2,d3⟩:=Aby (by omega) (Fj r c) 0 60 l x hK al (by omega) hx
 have qb:=Ab8 (n:=r) x.2 0 0 (K9 r) d2 (Amu r) (by omega)
 have N:((Fj r c:Nat):Rat)≤((5:Nat):Rat):=Ct h5
 have u0:=Rat.le_of_lt Ey
 have uN:=Ij N
 refine ⟨⟨fun m hm=>(h1.q1 m hm).mono (by grind),fun a m ha hm=>Rat.le_trans (h1.q2 a m ha hm) (by grind),fun b s hb hs h=>(h1.f1 b s hb hs h).mono ?_,fun b s hb hs h=>(h1.f2 b s hb hs h).mono ?_⟩,fun b i hb hbi hi=>?_,d1.mono (by omega),qb.mono (by omega),?_⟩
 ·have:=Rat.mul_le_mul_of_nonneg_right uN h.1
  grind
 ·have:=Rat.mul_le_mul_of_nonneg_right uN h.1
  grind
 ·by_cases hb2:b<0+Fj r c
  ·exact h2 b i hb2 hbi hi
  ·exfalso
   unfold Fj at hb2
   omega
 ·show (I9 r c (Fj r c) 0 l).isSome=true
  rw [hx]; rfl
end Go.Cv
namespace Go.Cv
theorem Y7 (f:Nat→Nat→Rat) (r:Nat):∀ c,(sm c fun b=>sm r fun i=>f b i)=sm r fun i=>sm c fun b=>f b i
 | 0=>by
   show (0:Rat)=sm r fun _=>0
   rw [Iy]
 | c+1=>by
   show (sm c fun b=>sm r fun i=>f b i)+(sm r fun i=>f c i)=sm r fun i=>(sm c fun b=>f b i)+f c i
   rw [Y7 f r c,← Ha]
def Fn (r c:Nat) (M:Nat→Nat→Rat) (S:Rat):Prop:=0≤S∧(sm c fun b=>sq r (M b))≤S*S
section
variable {r c:Nat} {M N:Nat→Nat→Rat} {S T t:Rat} {x y:Nat→Rat}
theorem Fn.of {s:Nat→Rat} (h:∀ b,b<c→Ln r (M b) (s b)) (hS:0≤S) (k:(sm c fun b=>s b*s b)≤S*S):Fn r c M S :=
 ⟨hS,Rat.le_trans (Rv c fun b hb=>(h b hb).2) k⟩
theorem Fn.same {x:Rat} (h:∀ b,b<c→Ln r (M b) x) (hx:0≤x) (c9:c≤9):Fn r c M (3*x):=by
 refine Fn.of (s:=fun _=>x) h (by grind) ?_
 rw [N9]
 have h2:(c:Rat)≤9:=Ct c9
 have:=Rat.mul_le_mul_of_nonneg_right h2 (Bw x)
 grind
theorem Fn.Aqv (h:Fn r c M S):Fn c r (fun i b=>M b i) S:=by
 refine ⟨h.1,?_⟩
 have:=h.2
 unfold sq at this ⊢
 rw [Y7 (fun b i=>M b i*M b i)] at this
 exact this
theorem Fn.mul (h:Fn r c M S) (hx:Ln c x t):Ln r (fun i=>sm c fun b=>M b i*x b) (S*t):=by
 refine ⟨Rat.mul_nonneg h.1 hx.1,?_⟩
 have h1:sq r (fun i=>sm c fun b=>M b i*x b)≤sm r fun i=>sq c x*sq c (fun b=>M b i):=Rv r fun i _=>by
  have:=cs (fun b=>M b i) x c
  grind
 rw [F7] at h1
 have h2:=h.Aqv.2
 have h3:=D3 h2 hx.2 (Bw S) (Mc c x)
 grind
theorem Fn.Ayr (h:Fn r c M S) (hy:Ln r y t):Ln c (fun b=>sm r fun i=>M b i*y i) (S*t):=h.Aqv.mul hy
theorem Fn.avs (h:Fn r c M S):Fn r c (fun b i=>av (M b i)) S:=by
 refine ⟨h.1,?_⟩
 have:=h.2
 unfold sq at this ⊢
 rw [Bk c (g:=fun b=>sm r fun i=>M b i*M b i) fun b _=>Bk r fun i _=>Km _]
 exact this
theorem Fn.congr (h:Fn r c M S) (e:∀ b i,b<c→i<r→N b i=M b i):Fn r c N S:=by
 refine ⟨h.1,?_⟩
 have:=h.2
 unfold sq at this ⊢
 rw [Bk c (g:=fun b=>sm r fun i=>M b i*M b i) fun b hb=>Bk r fun i hi=>by rw [e b i hb hi]]
 exact this
theorem Fn.M3 {B:Rat} (hB:0≤B) (h:∀ b i,b<c→i<r→Ab (M b i) B) (c6:c≤6) (r6:r≤6):Fn r c M (6*B):=by
 refine ⟨by grind,?_⟩
 have sqa:∀ {y:Rat},Ab y B→y*y≤B*B:=fun {y} hy=>by
  unfold Ab at hy
  rcases (Rat.le_total:(0:Rat)≤y∨y≤0) with g | g
  ·exact O0 g hy.2
  ·have:=O0 (x:=-y) (y:=B) (by grind) (by grind)
   grind
 have h1:(sm c fun b=>sq r (M b))≤sm c fun _=>sm r fun _=>B*B:=Rv c fun b hb=>Rv r fun i hi=>sqa (h b i hb hi)
 rw [N9,N9] at h1
 have h2:(c:Rat)≤6:=Ct c6
 have h3:(r:Rat)≤6:=Ct r6
 have h4:=D3 h2 h3 (by decide) (Lt r)
 have:=Rat.mul_le_mul_of_nonneg_right h4 (Bw B)
 grind
end
theorem Ac9 {q:Rat} (hq:0<q):∃ s:Rat,0<s∧q≤s*s∧s*s≤103 / 100*q:=by
 have hd:(0:Rat)<(q.den:Rat):=by
  have:=q.den_pos
  exact Rat.natCast_pos.2 this
 have hn:0<q.num:=by
  have h1:=Rat.num_nonneg.2 (Rat.le_of_lt hq)
  have h2:q.num≠0:=fun e=>by
   have:=Rat.num_eq_zero.1 e
   rw [this] at hq
   exact absurd hq (by decide)
  omega
 obtain ⟨N,hN⟩:∃ N:Nat,q.num=(N:Int):=⟨q.num.toNat,by omega⟩
 have e1:q*(q.den:Rat)=(N:Rat):=by
  have h:q=mkRat q.num q.den:=(Rat.mkRat_self q).symm
  rw [Rat.mkRat_eq_div,hN] at h
  have h2:q*(q.den:Rat)=((N:Int):Rat) / (q.den:Rat)*(q.den:Rat):=congrArg (·*(q.den:Rat)) h
  rw [h2,Ms (by grind)]
  exact Rat.intCast_natCast N
 have hN1:1≤N:=by omega
 have hD1:1≤q.den:=q.den_pos
 generalize q.den=D at *
 have hs:=Mo (N*D*10000)
 have h100:100≤Lj (N*D*10000):=Afq (by
  have:=A6h hN1 hD1
  omega)
 have e2:q*((100*(D:Rat))*(100*(D:Rat)))=((N*D*10000:Nat):Rat):=by
  rw [Rat.natCast_mul,Rat.natCast_mul]
  have:((10000:Nat):Rat)=10000:=rfl
  rw [this]
  grind
 generalize N*D*10000=n at *
 generalize Lj n=r at *
 have a1:=Ct (Nat.le_of_lt hs.2)
 have a2:=Ct hs.1
 have a3:=Ct h100
 rw [Rat.natCast_mul,Rat.natCast_add] at a1
 rw [Rat.natCast_mul] at a2
 have o1:((1:Nat):Rat)=1:=rfl
 have o2:((100:Nat):Rat)=100:=rfl
 rw [o1] at a1
 rw [o2] at a3
 have hp:0<100*(D:Rat):=by grind
 generalize 100*(D:Rat)=p at *
 generalize (r:Rat)=ρ at *
 generalize (n:Rat)=ν at *
 have pp:0<p*p:=Rat.mul_pos hp hp
 have hs':(ρ+1) / p*p=ρ+1:=by grind
 generalize (ρ+1) / p=s at *
 have hs0:0<s:=by
  rcases (Rat.le_total:s≤0∨0≤s) with h | h
  ·have:=Rat.mul_nonneg (show 0≤-s by grind) (Rat.le_of_lt hp)
   grind
  ·have:s≠0:=fun e=>by rw [e] at hs'; grind
   grind
 have e3:s*s*(p*p)=(ρ+1)*(ρ+1):=by
  have:s*s*(p*p)=(s*p)*(s*p):=by grind
  rw [this,hs']
 refine ⟨s,hs0,?_,?_⟩
 ·refine Rat.le_of_mul_le_mul_right ?_ pp
  rw [e2,e3]; exact a1
 ·refine Rat.le_of_mul_le_mul_right ?_ pp
  rw [show 103 / 100*q*(p*p)=103 / 100*(q*(p*p)) by grind,e2,e3]
  have b1:=Rat.mul_le_mul_of_nonneg_right a3 (show 0≤ρ by grind)
  grind
end Go.Cv
namespace Go.Cv
open Go.Den
theorem Aiv {k a:Nat} (k3:Aj a≠3) (k4:Aj a≠4) (h:Ab (vR a) (tw k)):Bd k a:=by
 refine ⟨k3,k4,?_⟩
 rw [Y0,Ae6 (Pl _ _)] at h
 have h2:=Rat.mul_le_mul_of_nonneg_right h (Rat.le_of_lt (Dp 1074))
 rw [show (Jr a:Rat)*tw (-1074)*tw 1074=(Jr a:Rat)*(tw (-1074)*tw 1074) by grind,← Ep,← Ep] at h2
 have e:(-1074:Int)+1074=0:=rfl
 have e2:(k:Int)+1074=((k+1074:Nat):Int):=rfl
 rw [e,S3,e2,Jb] at h2
 exact Rat.natCast_le_natCast.1 (by grind)
theorem Lo.val {t a:Nat} (h:Lo t a):vR a≠0:=by
 intro e
 have h1:av (vR a)=0:=by rw [e]; decide
 unfold vR at h1
 rw [Dy,Dy] at h1
 have s1:av (Ps (Br a))≠0:=by cases Br a<;>decide +kernel
 have p1:av (tw (Av a))≠0:=by
  have:=Dp (Av a)
  rw [Qh (Rat.le_of_lt this)]; grind
 have m1:av ((An a:Nat):Rat)≠0:=by
  rw [Qh (Lt _)]
  intro h2
  exact h.m0 (Rat.natCast_inj.1 h2)
 rcases Rat.mul_eq_zero.1 h1 with h2 | h2
 ·rcases Rat.mul_eq_zero.1 h2 with h3 | h3
  ·exact s1 h3
  ·exact m1 h3
 ·exact p1 h2
section
variable {c:Int} {l:List Int} {i:Int} {p P:Nat}
theorem V3 (hl:Bl p l) (hp:p+P≤1000):∀ (xs:List Int) (s j:Int) (t:Nat),Bl P xs→Bm t (p+P) s.toNat→0<t→t+xs.length≤1000→Bm (t+xs.length) (p+P) (Og c l i s j xs).toNat
 | [],s,j,t,_,hs,_,_=>hs
 | x::xs,s,j,t,hx,hs,h0,ht=>by
   simp only [List.length_cons] at ht ⊢
   have h1:Bd (p+P) (Em (Co c l i j) x).toNat:=by
    rw [K3]
    exact Bd.mul (by omega) (Mt hl) (hx x A60)
   have h2:Bm (t+1) (p+P) (Eh s (Em (Co c l i j) x)).toNat:=by
    rw [Qm]
    exact Bm.add (by omega) (by omega) hp hs (Bm.minus (Kt (K4 _ _)) h1.bm)
   have:=V3 hl hp xs _ (j+1) (t+1) (fun z hz=>hx z (A6q _ hz)) h2 (by omega) (by omega)
   rw [show t+(xs.length+1)=t+1+xs.length by omega]
   exact this
theorem Agu {b:Nat→Int} {n t:Nat} (hl:Bl p l) (hb:∀ i,i<n→Bd p (b i).toNat) (hd:∀ i,i<n→Lo t (Co c l (i:Int) (i:Int)).toNat) (hp:(p+t+3)*6≤1000):∀ k,k≤n→k≤6→Bl ((p+t+3)*k) (Qk c l b n k)
 | 0,_,_=>fun x hx=>by cases hx
 | k+1,hk,h6=>by
   have ih:=Agu hl hb hd hp k (by omega) (by omega)
   have hlen:=Lm c l b n k
   have e1:(p+t+3)*(k+1)=(p+t+3)*k+(p+t+3):=Nat.mul_succ _ _
   have e2:(p+t+3)*k≤(p+t+3)*5:=Nat.mul_le_mul_left _ (by omega)
   generalize (p+t+3)*k=P at *
   intro x hx
   rw [Qk] at hx
   rcases List.mem_cons.1 hx with hx | hx
   ·rw [hx,Pa]
    have h1:=V3 (c:=c) (i:=((n-1-k:Nat):Int)) hl (P:=P) (by omega) (Qk c l b n k) (b (n-1-k)) ((n-k:Nat):Int) 1 ih ((hb (n-1-k) (by omega)).mono (by omega)).bm (by decide) (by omega)
    have h2:=h1.bd (j:=3) (by omega)
    exact (Bd.div (by omega) h2 (hd (n-1-k) (by omega))).mono (by omega)
   ·exact (ih x hx).mono (by omega)
theorem Ah4 (hl:Bl p l) (hp:p+P≤1000):∀ (xs:List Int) (s:Int) (j t:Nat) (T A a:Rat),Bl P xs→Bm t (p+P) s.toNat→0<t→t+xs.length≤1000→av T≤A→0≤a→a+(xs.length:Rat)≤20→Nr (vR s.toNat) T (3*a*uR*A+2*a*B7) →
 Nr (vR (Og c l i s (j:Int) xs).toNat) (T-sm xs.length fun m=>vR (Co c l i ((j+m:Nat):Int)).toNat*rv xs m) (3*(a+(xs.length:Rat))*uR*(A+sm xs.length fun m=>av (vR (Co c l i ((j+m:Nat):Int)).toNat)*av (rv xs m))+2*(a+(xs.length:Rat))*B7)
 | [],s,j,t,T,A,a,_,_,_,_,_,_,_,h=>by
   have z:((([]:List Int).length:Nat):Rat)=0:=rfl
   have e:∀ f,sm ([]:List Int).length f=0:=fun f=>rfl
   rw [z,e,e,Rat.add_zero,Rat.add_zero,show T-0=T by grind]
   exact h
 | x::xs,s,j,t,T,A,a,hx,hs,h0,ht,hT,ha,ha2,h=>by
   have el:(((x::xs).length:Nat):Rat)=(xs.length:Rat)+1:=by
    rw [List.length_cons]; exact Rat.natCast_add _ 1
   simp only [List.length_cons] at ht
   rw [el] at ha2 ⊢
   have hln:=Lt xs.length
   have ba:=Mt (c:=c) (i:=i) (j:=(j:Int)) hl
   have bb:=hx x A60
   have b2:=Bd.mul (show p+P≤1023 by omega) ba bb
   have lt2:=Kt (K4 (Co c l i (j:Int)) x)
   rw [K3] at lt2
   have b3:=Bm.add (k:=p+P) (by omega) (by omega) hp hs (Bm.minus lt2 b2.bm)
   have m1:=Ti ba.1 ba.2.1 bb.1 bb.2.1 b2.1 (B:=av (vR (Co c l i (j:Int)).toNat*vR x.toNat)) (Hv _)
   have u0:=Ey
   have e0:=Ej
   have m2:=Va lt2 hs.1 hs.2.1 b2.1 b2.2.1 b3.1 (B:=A+(3*a*uR*A+2*a*B7)+(av (vR (Co c l i (j:Int)).toNat*vR x.toNat)+(uR*av (vR (Co c l i (j:Int)).toNat*vR x.toNat)+B7))) (by
    have n1:=I8 (z:=0) h
    have n3:=I8 (z:=0) m1
    have n4:=Ih (vR s.toNat) (-(vR (H7 (Co c l i (j:Int)).toNat x.toNat).1))
    rw [Pp] at n4
    have n5:=Hv (vR s.toNat+-(vR (H7 (Co c l i (j:Int)).toNat x.toNat).1))
    unfold Ab at *
    grind)
   obtain ⟨st,sT⟩:=Wj (z:=-(vR (Co c l i (j:Int)).toNat*vR x.toNat)) (q:=-(vR (H7 (Co c l i (j:Int)).toNat x.toNat).1)) ha (by grind) hT u0 G4 e0 h (by rw [Pp]; exact m1.neg) (by
    rw [Pp,show vR s.toNat+-(vR (H7 (Co c l i (j:Int)).toNat x.toNat).1)=vR s.toNat-vR (H7 (Co c l i (j:Int)).toNat x.toNat).1 by grind]
    exact m2)
   rw [Pp] at st sT
   have es1:(Eh s (Em (Co c l i (j:Int)) x)).toNat=(Z5 s.toNat (H7 (Co c l i (j:Int)).toNat x.toNat).1).1:=by rw [Qm,K3]
   have ih:=Ah4 hl hp xs (Eh s (Em (Co c l i (j:Int)) x)) (j+1) (t+1) (T+-(vR (Co c l i (j:Int)).toNat*vR x.toNat)) (A+av (vR (Co c l i (j:Int)).toNat*vR x.toNat)) (a+1) (fun z hz=>hx z (A6q _ hz)) (by rw [es1]; exact b3) (by omega) (by omega) sT (by grind) (by grind) (by rw [es1]; exact st)
   have ej:∀ m:Nat,((j+1+m:Nat):Int)=((j+(m+1):Nat):Int):=fun m=>by omega
   have es:(sm (x::xs).length fun m=>vR (Co c l i ((j+m:Nat):Int)).toNat*rv (x::xs) m)=vR (Co c l i (j:Int)).toNat*vR x.toNat+sm xs.length fun m=>vR (Co c l i ((j+1+m:Nat):Int)).toNat*rv xs m:=by
    rw [List.length_cons,Jl]
    exact congrArg (fun z=>vR (Co c l i (j:Int)).toNat*vR x.toNat+z) (Bk xs.length (f:=fun m=>vR (Co c l i ((j+(m+1):Nat):Int)).toNat*rv (x::xs) (m+1)) (g:=fun m=>vR (Co c l i ((j+1+m:Nat):Int)).toNat*rv xs m) fun m _=>by rw [ej]; rfl)
   have es':(sm (x::xs).length fun m=>av (vR (Co c l i ((j+m:Nat):Int)).toNat)*av (rv (x::xs) m))=av (vR (Co c l i (j:Int)).toNat*vR x.toNat)+sm xs.length fun m=>av (vR (Co c l i ((j+1+m:Nat):Int)).toNat)*av (rv xs m):=by
    rw [List.length_cons,Jl,Dy]
    exact congrArg (fun z=>av (vR (Co c l i (j:Int)).toNat)*av (vR x.toNat)+z) (Bk xs.length (f:=fun m=>av (vR (Co c l i ((j+(m+1):Nat):Int)).toNat)*av (rv (x::xs) (m+1))) (g:=fun m=>av (vR (Co c l i ((j+1+m:Nat):Int)).toNat)*av (rv xs m)) fun m _=>by rw [ej]; rfl)
   have eq:Og c l i s (j:Int) (x::xs)=Og c l i (Eh s (Em (Co c l i (j:Int)) x)) ((j+1:Nat):Int) xs:=rfl
   rw [es,es',eq]
   generalize (sm xs.length fun m=>vR (Co c l i ((j+1+m:Nat):Int)).toNat*rv xs m)=Z1 at *
   generalize (sm xs.length fun m=>av (vR (Co c l i ((j+1+m:Nat):Int)).toNat)*av (rv xs m))=Z2 at *
   generalize vR (Co c l i (j:Int)).toNat*vR x.toNat=z at *
   rw [show T-(z+Z1)=T+-z-Z1 by grind,show A+(av z+Z2)=A+av z+Z2 by grind,show a+((xs.length:Rat)+1)=a+1+(xs.length:Rat) by grind]
   exact ih
end
end Go.Cv
namespace Go.Cv
open Go.Den
theorem Av0 (l:List Int) (d m:Nat):rv (l.drop d) m=rv l (d+m):=by
 unfold rv
 rw [A5v,A5v,List.getElem?_drop]
section
variable {c n p t:Nat} {l:List Int} {b:Nat→Int}
theorem Av3 (h6:n≤6) (hl:Bl p l) (hb:∀ i,i<n→Bd p (b i).toNat) (hd:∀ i:Nat,i<n→Lo t (Co (c:Int) l (i:Int) (i:Int)).toNat) (hp:(p+t+3)*6≤1000) (hz:∀ m i:Nat,m<i→i<n→cl c l m i=0) {i:Nat} (hi:i<n) :
 Nr (sm n fun m=>cl c l m i*rv (Qk (c:Int) l b n n) m) (vR (b i).toNat) (18*uR*(av (vR (b i).toNat)+sm n fun m=>av (cl c l m i)*av (rv (Qk (c:Int) l b n n) m))+(12+tw p)*B7):=by
 have ub:=Agu (c:=(c:Int)) hl hb hd hp
 have ur:=All (c:=(c:Int)) (l:=l) (b:=b) hi
 obtain ⟨k,hk⟩:∃ k,n=i+(k+1):=⟨n-i-1,by omega⟩
 have et:=Zy (c:=(c:Int)) (l:=l) (b:=b) (n:=n) (k:=k) (by omega)
 rw [show n-k=i+1 by omega] at et
 have ubn:=ub n (A6f n) h6
 have ubk:=ub k (by omega) (by omega)
 have lk:(Qk (c:Int) l b n k).length=k:=Lm _ _ _ _ _
 have P6:(p+t+3)*k≤(p+t+3)*5:=Nat.mul_le_mul_left _ (by omega)
 have xi:=Q5 ubn i
 rw [ur,et,Pa] at xi
 generalize hX:Qk (c:Int) l b n n=X at *
 have rx:∀ m,rv (Qk (c:Int) l b n k) m=rv X (i+(m+1)):=fun m=>by
  rw [← et,Av0,show i+1+m=i+(m+1) by omega]
 generalize Qk (c:Int) l b n k=xs at *
 generalize hP:(p+t+3)*k=P at *
 have bi:=hb i hi
 have kR:(k:Rat)≤5:=Ct (show k≤5 by omega)
 have kn:=Lt k
 have z0:((0:Nat):Rat)=0:=rfl
 have h1:=Ah4 (c:=(c:Int)) (i:=(i:Int)) hl (P:=P) (by omega) xs (b i) (i+1) 1 (vR (b i).toNat) (av (vR (b i).toNat)) 0 ubk (bi.mono (by omega)).bm (by decide) (by omega) Rat.le_refl Rat.le_refl (by rw [lk]; grind) (by unfold Nr; grind)
 have h2:=(V3 (c:=(c:Int)) (i:=(i:Int)) hl (P:=P) (by omega) xs (b i) ((i+1:Nat):Int) 1 ubk (bi.mono (by omega)).bm (by decide) (by omega)).bd (j:=3) (by omega)
 have di:=hd i hi
 have dn:=Mt (c:=(c:Int)) (i:=(i:Int)) (j:=(i:Int)) hl
 have dv:=di.val
 rw [lk] at h1
 generalize hs:Og (c:Int) l (i:Int) (b i) ((i+1:Nat):Int) xs=s at *
 generalize hD:Co (c:Int) l (i:Int) (i:Int)=D at *
 have h3:=Zo h2.1 h2.2.1 di.k3 di.k4 di.k0 xi.1 (q:=vR s.toNat / vR D.toNat) (B:=av (vR s.toNat / vR D.toNat)) (Ms dv) (Hv _)
 have ex:rv X i=vR (Rl s.toNat D.toNat).1:=by
  show vR (X.getD i 0).toNat=_
  rw [ur,et,Pa,hs]
 rw [← ex] at h3
 have ec:cl c l i i=vR D.toNat:=by unfold cl; rw [hD]
 have e1:(sm n fun m=>cl c l m i*rv X m)=vR D.toNat*rv X i+sm k fun m=>vR (Co (c:Int) l (i:Int) ((i+1+m:Nat):Int)).toNat*rv xs m:=by
  rw [hk,Ve fun m hm=>by rw [hz m i hm hi]; grind,Jl,A6t,ec]
  refine congrArg (fun z=>vR D.toNat*rv X i+z) (Bk k fun m _=>?_)
  rw [rx]
  unfold cl
  rw [show i+1+m=i+(m+1) by omega]
 have e2:(sm n fun m=>av (cl c l m i)*av (rv X m))=av (vR D.toNat)*av (rv X i)+sm k fun m=>av (vR (Co (c:Int) l (i:Int) ((i+1+m:Nat):Int)).toNat)*av (rv xs m):=by
  rw [hk,Ve fun m hm=>by rw [hz m i hm hi,show av 0=0 by decide]; grind,Jl,A6t,ec]
  refine congrArg (fun z=>av (vR D.toNat)*av (rv X i)+z) (Bk k fun m _=>?_)
  rw [rx]
  unfold cl
  rw [show i+1+m=i+(m+1) by omega]
 rw [e1,e2]
 have hn:0≤sm k fun m=>av (vR (Co (c:Int) l (i:Int) ((i+1+m:Nat):Int)).toNat)*av (rv xs m):=Px _ fun m _=>Rat.mul_nonneg (Ed _) (Ed _)
 have h4:Ab (sm k fun m=>vR (Co (c:Int) l (i:Int) ((i+1+m:Nat):Int)).toNat*rv xs m) (sm k fun m=>av (vR (Co (c:Int) l (i:Int) ((i+1+m:Nat):Int)).toNat)*av (rv xs m)):=by
  have:=Vf (f:=fun m=>vR (Co (c:Int) l (i:Int) ((i+1+m:Nat):Int)).toNat*rv xs m) (g:=fun _=>0) (d:=fun m=>av (vR (Co (c:Int) l (i:Int) ((i+1+m:Nat):Int)).toNat)*av (rv xs m)) k fun m _=>by
   rw [← Dy]
   have:=Hv (vR (Co (c:Int) l (i:Int) ((i+1+m:Nat):Int)).toNat*rv xs m)
   unfold Nr Ab at *
   grind
  rw [Iy] at this
  unfold Nr Ab at *
  grind
 generalize (sm k fun m=>vR (Co (c:Int) l (i:Int) ((i+1+m:Nat):Int)).toNat*rv xs m)=Z at *
 generalize (sm k fun m=>av (vR (Co (c:Int) l (i:Int) ((i+1+m:Nat):Int)).toNat)*av (rv xs m))=W at *
 have dB:=Ko (Ab7 dn)
 have dq:av (vR s.toNat / vR D.toNat)*av (vR D.toNat)=av (vR s.toNat):=by rw [← Dy,Ms dv]
 have h5:Nr (vR D.toNat*rv X i) (vR s.toNat) (2*uR*av (vR s.toNat)+tw p*B7):=by
  have h6:=H6.1 h3
  have h7:=D3 h6 (Rat.le_refl (a:=av (vR D.toNat))) (Rat.le_trans (Ed _) h6) (Ed _)
  rw [← Dy] at h7
  have h8:(rv X i-vR s.toNat / vR D.toNat)*vR D.toNat=vR D.toNat*rv X i-vR s.toNat:=by
   have:=Ms (a:=vR s.toNat) dv
   grind
  rw [h8] at h7
  refine H6.2 (Rat.le_trans h7 ?_)
  have h9:=Rat.mul_le_mul_of_nonneg_left dB (Rat.le_of_lt Ej)
  generalize av (vR s.toNat / vR D.toNat)=q at *
  rw [← dq]
  grind
 clear h3 dq e1 e2 ex ec ur et hz hd ub ubn ubk hl rx xi h2 di dn bi
 have u0:=Ey
 have us:=G4
 have e0:=Ej
 have an:=Ed (vR (b i).toNat)
 have sn:=I8 (z:=0) h1
 have sn2:=Ih (vR (b i).toNat) (-Z)
 rw [Pp] at sn2
 have zn:=Ko h4
 generalize vR (b i).toNat=β at *
 generalize vR s.toNat=σ at *
 generalize vR D.toNat*rv X i=ξ at *
 have pn:=Rat.mul_nonneg (Rat.le_of_lt (Dp p)) (Rat.le_of_lt e0)
 have uA:0≤uR*(av β+W):=Rat.mul_nonneg (Rat.le_of_lt u0) (by grind)
 have k1:3*(0+(k:Rat))*uR*(av β+W)+2*(0+(k:Rat))*B7≤15*(uR*(av β+W))+10*B7:=by
  have g1:=Rat.mul_le_mul_of_nonneg_right kR uA
  have g2:=Rat.mul_le_mul_of_nonneg_right kR (Rat.le_of_lt e0)
  grind
 have k2:2*uR*av σ≤3*(uR*(av β+W))+B7:=by
  have g3:av σ≤(av β+W)+(15*(uR*(av β+W))+10*B7):=by
   have e:β-Z=β+-Z:=by grind
   rw [e] at sn
   grind
  have g4:=Ij g3
  have g5:=Rat.mul_le_mul_of_nonneg_right us uA
  have g6:=Rat.mul_le_mul_of_nonneg_right us (Rat.le_of_lt e0)
  grind
 have h1':=h1.mono k1
 have dx:0≤uR*(av (vR D.toNat)*av (rv X i)):=Rat.mul_nonneg (Rat.le_of_lt u0) (Rat.mul_nonneg (Ed _) (Ed _))
 generalize av (vR D.toNat)*av (rv X i)=δ at *
 clear h1 k1 sn sn2 zn h4 hb hn
 unfold Nr at *
 grind
end
end Go.Cv
namespace Go.Cv
open Go.Den
theorem Ax8 {a:Nat} (h:Ab (vR a) B7):vR a=0:=by
 rw [Y0,Ae6 (Pl _ _)] at h
 have m0:Jr a=0:=by
  rcases Nat.eq_zero_or_pos (Jr a) with h0 | h0
  ·exact h0
  ·exfalso
   have h1:=Ct h0
   have o:((1:Nat):Rat)=1:=rfl
   have h2:=Rat.mul_le_mul_of_nonneg_right h1 (Rat.le_of_lt (Dp (-1074)))
   have e:tw (-1074)=2*B7:=by decide +kernel
   have e0:=Ej
   rw [e] at h h2
   have h3:((1:Nat):Rat)≤(Jr a:Rat):=h1
   rw [o] at h2
   grind
 rw [Y0,m0]
 have z:((0:Nat):Rat)=0:=rfl
 rw [z]; grind
theorem Zw:Ab 0 0:=by unfold Ab; grind
theorem Amb {x:Rat} (h:Nr x 0 (uR*0)):x=0:=by unfold Nr at h; grind
theorem Adm {a b:Nat} (a3:Aj a≠3) (a4:Aj a≠4) (b3:Aj b≠3) (b4:Aj b≠4) (hf:Aj (H7 a b).1≠3) (h:vR a*vR b=0):vR (H7 a b).1=0:=by
 have:=Ti a3 a4 b3 b4 hf (B:=0) (by rw [h]; exact Zw)
 rw [h] at this
 exact Ax8 (by unfold Nr at this; unfold Ab; grind)
section
variable {c:Int} {l:List Int} {i:Int} {p P:Nat}
theorem Abd (hl:Bl p l) (hp:p+P≤1000):∀ (xs:List Int) (s j:Int) (t:Nat),Bl P xs→Bm t (p+P) s.toNat→0<t→t+xs.length≤1000→vR s.toNat=0→(∀ x∈xs,vR x.toNat=0)→vR (Og c l i s j xs).toNat=0
 | [],s,j,t,_,_,_,_,h,_=>h
 | x::xs,s,j,t,hx,hs,h0,ht,h,hz=>by
   simp only [List.length_cons] at ht
   have ba:=Mt (c:=c) (i:=i) (j:=j) hl
   have bb:=hx x A60
   have b2:=Bd.mul (show p+P≤1023 by omega) ba bb
   have lt2:=Kt (K4 (Co c l i j) x)
   rw [K3] at lt2
   have b3:=Bm.add (k:=p+P) (by omega) (by omega) hp hs (Bm.minus lt2 b2.bm)
   have es1:(Eh s (Em (Co c l i j) x)).toNat=(Z5 s.toNat (H7 (Co c l i j).toNat x.toNat).1).1:=by rw [Qm,K3]
   refine Abd hl hp xs (Eh s (Em (Co c l i j) x)) (j+1) (t+1) (fun z hz=>hx z (A6q _ hz)) (by rw [es1]; exact b3) (by omega) (by omega) ?_ (fun y hy=>hz y (A6q _ hy))
   have m0:=Adm ba.1 ba.2.1 bb.1 bb.2.1 b2.1 (by rw [hz x A60]; grind)
   rw [es1]
   have e0:vR s.toNat-vR (H7 (Co c l i j).toNat x.toNat).1=0:=by rw [h,m0]; grind
   have:=Va lt2 hs.1 hs.2.1 b2.1 b2.2.1 b3.1 (B:=0) (by rw [e0]; exact Zw)
   rw [e0] at this
   exact Amb this
theorem Alj {b:Nat→Int} {n t:Nat} (hl:Bl p l) (hb:∀ i,i<n→Bd p (b i).toNat) (hd:∀ i,i<n→Lo t (Co c l (i:Int) (i:Int)).toNat) (hp:(p+t+3)*6≤1000) (hz:∀ i,i<n→vR (b i).toNat=0):∀ k,k≤n→k≤6→∀ x∈Qk c l b n k,vR x.toNat=0
 | 0,_,_=>fun x hx=>by cases hx
 | k+1,hk,h6=>by
   have ih:=Alj hl hb hd hp hz k (by omega) (by omega)
   have ub:=Agu hl hb hd hp k (by omega) (by omega)
   have ub':=Agu hl hb hd hp (k+1) hk h6
   have hlen:=Lm c l b n k
   have e1:(p+t+3)*(k+1)=(p+t+3)*k+(p+t+3):=Nat.mul_succ _ _
   have e2:(p+t+3)*k≤(p+t+3)*5:=Nat.mul_le_mul_left _ (by omega)
   intro x hx
   have bx:=ub' x hx
   generalize (p+t+3)*k=P at *
   rw [Qk] at hx
   rcases List.mem_cons.1 hx with hx | hx
   ·have s0:=Abd (c:=c) (i:=((n-1-k:Nat):Int)) hl (P:=P) (by omega) (Qk c l b n k) (b (n-1-k)) ((n-k:Nat):Int) 1 ub ((hb (n-1-k) (by omega)).mono (by omega)).bm (by decide) (by omega) (hz (n-1-k) (by omega)) ih
    have h1:=(V3 (c:=c) (i:=((n-1-k:Nat):Int)) hl (P:=P) (by omega) (Qk c l b n k) (b (n-1-k)) ((n-k:Nat):Int) 1 ub ((hb (n-1-k) (by omega)).mono (by omega)).bm (by decide) (by omega)).bd (j:=3) (by omega)
    have di:=hd (n-1-k) (by omega)
    rw [hx,Pa] at bx ⊢
    have:=Zo h1.1 h1.2.1 di.k3 di.k4 di.k0 bx.1 (q:=0) (B:=0) (by rw [s0]; grind) Zw
    exact Ax8 (by unfold Nr at this; unfold Ab; grind)
   ·exact ih x hx
end
section
variable {c n p t:Nat} {l:List Int} {b:Nat→Int} {T x B:Rat}
theorem Ayk (h6:n≤6) (hl:Bl p l) (hb:∀ i,i<n→Bd p (b i).toNat) (hd:∀ i:Nat,i<n→Lo t (Co (c:Int) l (i:Int) (i:Int)).toNat) (hp:(p+t+3)*6≤1000) (hz:∀ m i:Nat,m<i→i<n→cl c l m i=0)
 (hF:Fn n n (cl c l) T) (hx:Ln n (rv (Qk (c:Int) l b n n)) x) (hB:Ln n (fun i=>vR (b i).toNat) B) :
 Ln n (fun i=>(sm n fun m=>cl c l m i*rv (Qk (c:Int) l b n n) m)-vR (b i).toNat) (18*uR*(B+T*x)+3*((12+tw p)*B7)):=by
 have u0:=Rat.le_of_lt Ey
 have pe:0≤(12+tw p)*B7:=Rat.mul_nonneg (by have:=Dp p; grind) (Rat.le_of_lt Ej)
 have h1:=(hB.avs.add (hF.avs.mul hx.avs)).scale (c:=18*uR) (B:=18*uR) (by unfold Ab; grind)
 have h2:Ln n (fun _=>(12+tw p)*B7) (3*((12+tw p)*B7)):=Ln.M3 pe (fun _ _=>by unfold Ab; grind) (by omega)
 refine Ln.Ama (fun i hi=>?_) (h1.add h2)
 exact H6.1 (Av3 h6 hl hb hd hp hz hi)
end
end Go.Cv
namespace Go.Cv
theorem Af4 (f y:Nat→Rat) (q:Nat→Nat→Rat) (r c:Nat):(sm r fun i=>f i*sm c fun k=>q k i*y k)=sm c fun k=>(sm r fun i=>f i*q k i)*y k:=by
 have e1:(sm r fun i=>f i*sm c fun k=>q k i*y k)=sm r fun i=>sm c fun k=>f i*q k i*y k:=Bk r fun i _=>by
  rw [← F7]
  exact Bk c fun k _=>by grind
 rw [e1,← Y7 (fun k i=>f i*q k i*y k)]
 refine Bk c fun k _=>?_
 have e2:(sm r fun i=>f i*q k i*y k)=y k*sm r fun i=>f i*q k i:=by
  rw [← F7]
  exact Bk r fun i _=>by grind
 rw [e2]; grind
theorem Ard (f g:Nat→Rat) (n:Nat):sm n (fun i=>f i-g i)=sm n f-sm n g:=by
 have h:=Ha f (fun i=>-1*g i) n
 rw [F7] at h
 rw [Bk n (g:=fun i=>f i+-1*g i) fun i _=>by grind,h]; grind
theorem Ajk {c r:Nat} {f:Nat→Rat} (h:c≤r) (hz:∀ m,c≤m→m<r→f m=0):sm r f=sm c f:=by
 obtain ⟨d,rfl⟩:∃ d,r=c+d:=⟨r-c,by omega⟩
 rw [Pw,Bk d (g:=fun _=>0) fun m hm=>hz (c+m) (by omega) (by omega),Iy]
 grind
section
variable {r c:Nat} {M R q:Nat→Nat→Rat} {x b c1:Nat→Rat} {S X B P e:Rat}
def G6 (c:Nat) (M:Nat→Nat→Rat) (x b:Nat→Rat) (i:Nat):Rat:=(sm c fun k=>M k i*x k)-b i
def V4 (r:Nat) (M R q:Nat→Nat→Rat) (k i:Nat):Rat:=M k i-sm r fun m=>q m i*R k m
theorem Ate (c6:c≤6) (hc:c≤r) (hM:Fn r c M S) (hE:Fn r c (V4 r M R q) (7000*uR*S)) (hR:Fn r c R ((1+5000*uR)*S)) (hz:∀ k m,k<c→k<m→m<r→R k m=0)
 (q1:∀ m,m<r→Ln r (q m) (1+5000*uR)) (q2:∀ a m,a<r→m<r→av ((sm r fun i=>q a i*q m i)-dl a m)≤5000*uR)
 (hx:Ln c x X) (hb:Ln r b B) (hp:Ln c (fun i=>(sm c fun m=>R m i*x m)-c1 i) P) (he:Ln c (fun i=>c1 i-sm r fun j=>q i j*b j) e) :
 Ln c (fun k=>sm r fun i=>M k i*G6 c M x b i) ((1+5000*uR)*S*(30000*uR*((1+5000*uR)*S*X)+P+e+3*(1+5000*uR)*(7000*uR*S*X))+7000*uR*S*(S*X+B)):=by
 have u0:=Rat.le_of_lt Ey
 have colc:∀ k i,k<c→M k i=(sm c fun m=>q m i*R k m)+V4 r M R q k i:=fun k i hk=>by
  unfold V4
  rw [← Ajk (f:=fun m=>q m i*R k m) hc fun m h1 h2=>by rw [hz k m hk (by omega) h2]; grind]
  grind
 have lack:∀ i,G6 c M x b i=(sm c fun m=>q m i*sm c fun k=>R k m*x k)+(sm c fun k=>V4 r M R q k i*x k)-b i:=fun i=>by
  unfold G6
  have e1:(sm c fun k=>M k i*x k)=(sm c fun k=>x k*sm c fun m=>R k m*q m i)+sm c fun k=>V4 r M R q k i*x k:=by
   rw [← Ha]
   refine Bk c fun k hk=>?_
   rw [colc k i hk,Bk c (f:=fun m=>q m i*R k m) (g:=fun m=>R k m*q m i) fun m _=>by grind]
   grind
  have e2:=Af4 x (fun m=>q m i) (fun m k=>R k m) c c
  have e3:(sm c fun m=>q m i*sm c fun k=>R k m*x k)=sm c fun m=>(sm c fun k=>x k*R k m)*q m i:=Bk c fun m _=>by
   rw [Bk c (f:=fun k=>R k m*x k) (g:=fun k=>x k*R k m) fun k _=>by grind]
   grind
  rw [e1,e2,e3]
 have hw:Ln r (G6 c M x b) (S*X+B):=(hM.mul hx).sub hb
 have hy:Ln c (fun m=>sm c fun k=>R k m*x k) ((1+5000*uR)*S*X):=by
  have h1:=hR.mul hx
  obtain ⟨d,hd⟩:∃ d,r=c+d:=⟨r-c,by omega⟩
  refine ⟨h1.1,Rat.le_trans ?_ h1.2⟩
  unfold sq
  rw [hd,Pw]
  have:=Px (f:=fun m=>(sm c fun k=>R k (c+m)*x k)*(sm c fun k=>R k (c+m)*x k)) d fun m _=>Bw _
  grind
 have hex:=hE.mul hx
 have hq:Fn r c q (3*(1+5000*uR)):=Fn.same (fun m hm=>q1 m (by omega)) (by grind) (by omega)
 have hD:Fn c c (fun k m=>(sm r fun i=>q m i*q k i)-dl m k) (6*(5000*uR)):=Fn.M3 (by grind) (fun k m hk hm=>by
  have:=q2 m k (by omega) (by omega)
  have h2:=Hv ((sm r fun i=>q m i*q k i)-dl m k)
  unfold Ab at *
  grind) c6 c6
 have hz2:∀ m,m<c→(sm r fun i=>q m i*G6 c M x b i)=(sm c fun k=>((sm r fun i=>q m i*q k i)-dl m k)*sm c fun j=>R j k*x j)+((sm c fun k=>R k m*x k)-c1 m)+(c1 m-sm r fun j=>q m j*b j)+sm r fun i=>q m i*sm c fun k=>V4 r M R q k i*x k:=fun m hm=>by
  have e1:(sm r fun i=>q m i*G6 c M x b i)=(sm r fun i=>q m i*sm c fun k=>q k i*sm c fun j=>R j k*x j)+((sm r fun i=>q m i*sm c fun k=>V4 r M R q k i*x k)-sm r fun i=>q m i*b i):=by
   rw [← Ard,← Ha]
   exact Bk r fun i _=>by rw [lack]; grind
  have e2:=Af4 (q m) (fun k=>sm c fun j=>R j k*x j) q r c
  have e3:(sm c fun k=>((sm r fun i=>q m i*q k i)-dl m k)*sm c fun j=>R j k*x j)=(sm c fun k=>(sm r fun i=>q m i*q k i)*sm c fun j=>R j k*x j)-sm c fun k=>dl m k*sm c fun j=>R j k*x j:=by
   rw [← Ard]
   exact Bk c fun k _=>by grind
  have e4:(sm c fun k=>dl m k*sm c fun j=>R j k*x j)=sm c fun j=>R j m*x j:=by
   rw [Ajj (k:=m) hm fun k hk hne=>by
    unfold dl
    rw [A57 (fun e=>hne e.symm)]; grind]
   unfold dl
   rw [A58 rfl]; grind
  rw [e1,e2,e3,e4]; grind
 have hzl:Ln c (fun m=>sm r fun i=>q m i*G6 c M x b i) (30000*uR*((1+5000*uR)*S*X)+P+e+3*(1+5000*uR)*(7000*uR*S*X)):=by
  have h1:=(hD.mul hy).add hp
  have h2:=(h1.add he).add (hq.Ayr hex)
  refine (h2.congr fun m hm=>hz2 m hm).mono ?_
  grind
 have hall:=(hR.Ayr (r:=r) (y:=fun m=>if m<c then sm r fun i=>q m i*G6 c M x b i else 0) (t:=30000*uR*((1+5000*uR)*S*X)+P+e+3*(1+5000*uR)*(7000*uR*S*X)) (by
  refine ⟨hzl.1,Rat.le_trans ?_ hzl.2⟩
  unfold sq
  rw [Ajk hc fun m h1 _=>by
   dsimp only
   rw [A57 (by omega)]; grind]
  exact Rv c fun m hm=>by
   dsimp only
   rw [A58 hm]; exact Rat.le_refl)).add (hE.Ayr hw)
 refine hall.congr fun k hk=>?_
 have e1:(sm r fun i=>M k i*G6 c M x b i)=(sm r fun i=>G6 c M x b i*sm c fun m=>q m i*R k m)+sm r fun i=>V4 r M R q k i*G6 c M x b i:=by
  rw [← Ha]
  exact Bk r fun i _=>by rw [colc k i hk]; grind
 have e2:=Af4 (G6 c M x b) (R k) q r c
 have e3:(sm r fun m=>R k m*if m<c then sm r fun i=>q m i*G6 c M x b i else 0)=sm c fun m=>(sm r fun i=>G6 c M x b i*q m i)*R k m:=by
  rw [Ajk hc fun m h1 _=>by rw [A57 (by omega)]; grind]
  refine Bk c fun m hm=>?_
  rw [A58 hm,Bk r (f:=fun i=>q m i*G6 c M x b i) (g:=fun i=>G6 c M x b i*q m i) fun i _=>by grind]
  grind
 rw [e1,e2,e3]
end
end Go.Cv
namespace Go.Proofs.S1
open Go Go.Den Go.Cv Go.Proofs
def BL (k:Nat) (l:List Int):Prop:=∀ x∈l,Bd k x.toNat
theorem Avn {k:Nat} {x:Int} (h:Ac0 (k:Int) x=true):Bd k x.toNat:=by
 unfold Ac0 at h
 rw [A5w,Bool.or_eq_true,A5w,A5s,A5s,A5s] at h
 obtain ⟨hf,h⟩:=h
 refine .Azj hf fun h0=>?_
 have kn:Aj x.toNat≠0:=fun e=>by
  unfold Aj at e
  unfold An at h0
  split at e
  ·split at e<;>omega
  ·split at e
   ·omega
   ·split at e
    ·omega
    ·rw [A58 (by omega)] at h0; omega
 rcases h with h | ⟨_,h⟩
 ·exact absurd (show Aj x.toNat=0 by unfold A3 at h; omega) kn
 ·unfold Bj Eu at h
  rw [A58 ⟨hf,kn⟩] at h
  exact h
theorem Anm {k:Nat} {l:List Int} (h:Mb l (k:Int)=true):BL k l∧Fm l=true:=by
 unfold Mb at h
 rw [List.all_eq_true] at h
 refine ⟨fun x hx=>Avn (h x hx),?_⟩
 unfold Fm
 rw [List.all_eq_true]
 exact fun x hx=>(Ag.1 (h x hx)).1
open Go Go.Den Go.Cv Go.Proofs
end Go.Proofs.S1
namespace Go.Cv
open Go.Den Go.Proofs.S1
theorem Amq {c n:Nat} {l:List Int} (fl:Fm l=true) (hd:Wc (En (c:Int) l n)=false):∀ i,i<n→A3 (Co (c:Int) l (i:Int) (i:Int))≠0:=by
 intro i hi k0
 have fin_a:∀ i:Nat,Aj (Co (c:Int) l (i:Int) (i:Int)).toNat≠3∧Aj (Co (c:Int) l (i:Int) (i:Int)).toNat≠4:=fun i=>by
  by_cases k:A3 (Co (c:Int) l (i:Int) (i:Int))=0
  ·unfold A3 at k; omega
  ·exact Rh (K8 fl _ (at_mem k))
 have hdf:Fm (En (c:Int) l n)=true:=List.all_eq_true.2 fun x hx=>by
  obtain ⟨j,_,rfl⟩:=List.mem_map.1 hx
  have k:=fin_a j
  show H0 (toNat ((Dn _:Nat):Int))=true
  rw [A5n,Kh,Xo]
  simp [k.1,k.2]
 obtain ⟨b3,b4,ba,hb⟩:=Wq hdf
 have hmem:∀ i:Nat,i<n→Sc (Co (c:Int) l (i:Int) (i:Int))∈En (c:Int) l n:=fun i hi=>List.mem_map.2 ⟨i,List.mem_range.2 hi,rfl⟩
 have hs:=List.any_eq_false.1 hd _ (hmem i hi)
 have hs:Xf (Cc (A9 (En (c:Int) l n)) (-40)) (Sc (Co (c:Int) l (i:Int) (i:Int)))<0:=by
  rcases Int.lt_or_le (Xf (Cc (A9 (En (c:Int) l n)) (-40)) (Sc (Co (c:Int) l (i:Int) (i:Int)))) 0 with h | h
  ·exact h
  ·exact absurd h (by simpa using hs)
 have hsc:=Dr (A9 (En (c:Int) l n)) (-40)
 have nB:Br (A9 (En (c:Int) l n)).toNat=false:=by
  unfold Br
  refine A5q ?_
  unfold Dn at ba; omega
 have a0:=Ia (show Aj (Co (c:Int) l (i:Int) (i:Int)).toNat=0 by unfold A3 at k0; omega)
 unfold Xf Arz at hs
 split at hs
 ·omega
 ·split at hs
  ·rename_i hlt
   have e2:(Sc (Co (c:Int) l (i:Int) (i:Int))).toNat=Dn (Co (c:Int) l (i:Int) (i:Int)).toNat:=A5n _
   rw [e2] at hlt
   have n2:Br (Dn (Co (c:Int) l (i:Int) (i:Int)).toNat)=false:=A5q (by unfold Dn; omega)
   have n1:Br (Cc (A9 (En (c:Int) l n)) (-40)).toNat=false:=by rw [hsc,S9 b4,nB]
   unfold It at hlt
   rw [n1,n2] at hlt
   have hlt:(((Cc (A9 (En (c:Int) l n)) (-40)).toNat%2^63:Nat):Int)<((Dn (Co (c:Int) l (i:Int) (i:Int)).toNat%2^63:Nat):Int):=hlt
   unfold Dn at hlt a0
   omega
  ·split at hs<;>omega
theorem Aw2 {r c:Nat} {l:List Int} (hr:r≤6) (hK:Bl 60 l) (al:Ak l=true) {i b:Nat} (hi:i<r) (hb:b<c):Bd 62 (Co (c:Int) (Hq r c l) (i:Int) (b:Int)).toNat:=by
 obtain ⟨F,_,bR,_,_⟩:=Akt (c:=c) hr hK al
 have t0:=Dp 60
 have h1:Ln r (cl c l b) (3*tw 60):=Ln.M3 (Rat.le_of_lt t0) (fun i _=>Ab7 (Mt hK)) (by omega)
 have h2:=(F.f1 b (3*tw 60) hb (by have:=Acu (show (-900:Int)≤60 by decide); grind) h1).at hi
 have k:=Mt (c:=(c:Int)) (i:=(i:Int)) (j:=(b:Int)) bR
 refine Aiv k.1 k.2.1 ?_
 have e:tw ((62:Nat):Int)=4*tw 60:=by decide +kernel
 have u:(1+1000*uR*((5:Nat):Rat))*(3*tw 60)≤4*tw 60:=by decide +kernel
 rw [e]
 show Ab (cl c (Hq r c l) b i) _
 unfold Ab at *
 grind
end Go.Cv
namespace Go.Cv
open Go.Den Go.Proofs.S1
def Ex (r c:Nat) (l:List Int):List Int:=Di c c fun i k=>Co (c:Int) (Hq r c l) (i:Int) (k:Int)
def Acz (r c:Nat) (l:List Int):List Int:=Di r c fun i k=>Co (r:Int) (I6 r c l) (i:Int) (k:Int)
def Gd (r c q:Nat) (l m:List Int):List Int:=Di c q fun i k=>Lx (Gt (r:Int) (Di c r fun i k=>Co (c:Int) (Acz r c l) (k:Int) (i:Int)) (i:Int)) (Rm (r:Int) (q:Int) m (k:Int))
theorem Adg {R C a b:Nat} {l:List Int} (hr:Be (R:Int) (C:Int) l=true) (ha:a≤R) (hb:b≤C):Ir (R:Int) (C:Int) l 0 0 (a:Int) (b:Int)=((a:Int),(b:Int),Di a b fun i k=>Co (C:Int) l (i:Int) (k:Int),0):=by
 unfold Ir
 rw [A58 hr,A58 (show Pz (R:Int) (C:Int) 0 0 (a:Int) (b:Int)=true from A5m (by omega)),A5n,A5n]
 have:(fun i k:Nat=>Co (C:Int) l (0+(i:Int)) (0+(k:Int)))=fun i k:Nat=>Co (C:Int) l (i:Int) (k:Int):=funext fun i=>funext fun k=>by rw [Int.zero_add,Int.zero_add]
 rw [this]
theorem Ani {R C:Nat} {l:List Int} (hr:Be (R:Int) (C:Int) l=true):Gc (R:Int) (C:Int) l=((C:Int),(R:Int),Di C R fun i k=>Co (C:Int) l (k:Int) (i:Int),0):=by
 unfold Gc
 rw [A58 hr,A5n,A5n]
theorem Asj {R C K:Nat} {l m:List Int} (hl:Be (R:Int) (K:Int) l=true) (hm:Be (K:Int) (C:Int) m=true):Uq (R:Int) (K:Int) l (K:Int) (C:Int) m=((R:Int),(C:Int),Di R C fun i k=>Lx (Gt (K:Int) l (i:Int)) (Rm (K:Int) (C:Int) m (k:Int)),0):=by
 unfold Uq
 rw [hl,hm,A5r,A58 rfl,A58 rfl,A5n,A5n]
section
variable {r c q:Nat} {l m:List Int}
theorem Abr (r6:r≤6) (c6:c≤6) (hl:l.length=r*c) (al:Ak l=true) (bA:Bl 60 l):Hb (r:Int) (c:Int) l=0∧(Hq r c l).length=r*c∧(I6 r c l).length=r*r∧Ak (Hq r c l)=true∧Ak (I6 r c l)=true:=by
 obtain ⟨F,_,bR,bQ,hs⟩:=Akt (c:=c) r6 bA al
 obtain ⟨a1,a2⟩:=Ams al hl hs
 obtain ⟨a3,a4⟩:=Amt (c:=c) (l:=l) hs
 refine ⟨?_,a2,a4,a1,a3⟩
 unfold Hb
 rw [A57 (fun k=>k (Sn (E0 r6 c6 hl) bA.Nc)),A5n,A5n,A58]
 unfold Sj
 rw [hs,bQ.Nc,bR.Nc]; rfl
theorem Avi (r6:r≤6) (c6:c≤6) (hc:c≤r) (hl:l.length=r*c) (al:Ak l=true) (bA:Bl 60 l):N7 (r:Int) (c:Int) l=((c:Int),(c:Int),Ex r c l,0):=by
 obtain ⟨h0,hR,hQ,aR,aQ⟩:=Abr r6 c6 hl al bA
 unfold N7
 rw [A57 (fun k=>k h0),show min (r:Int) (c:Int)=(c:Int) by omega,A5n,A5n,Adg (E0 r6 c6 hR) hc (A6f c)]
 rfl
theorem Avj (r6:r≤6) (c6:c≤6) (hc:c≤r) (hl:l.length=r*c) (al:Ak l=true) (bA:Bl 60 l):Jd (r:Int) (c:Int) l=((r:Int),(c:Int),Acz r c l,0):=by
 obtain ⟨h0,hR,hQ,aR,aQ⟩:=Abr r6 c6 hl al bA
 unfold Jd
 rw [A57 (fun k=>k h0),show min (r:Int) (c:Int)=(c:Int) by omega,A5n,A5n,Adg (E0 r6 r6 hQ) (A6f r) hc]
 rfl
theorem Anz (r6:r≤6) (c6:c≤6) (q6:q≤6) (hm:m.length=r*q):Dw (r:Int) (c:Int) (Acz r c l) (r:Int) (q:Int) m=((c:Int),(q:Int),Gd r c q l m,0):=by
 have h1:Be (r:Int) (c:Int) (Acz r c l)=true:=E0 r6 c6 (Cf _ _ _)
 unfold Dw
 rw [Ani h1]
 rw [A57 (fun k=>k rfl),Asj (E0 c6 r6 (Cf _ _ _)) (E0 r6 q6 hm)]
 rfl
theorem U9 {i b:Nat} (hi:i<c) (hb:b<c):cl c (Ex r c l) b i=cl c (Hq r c l) b i:=by
 unfold cl Ex
 rw [I5 hi hb]
theorem Z4 (r6:r≤6) (hc:c≤r) (al:Ak l=true) (bA:Bl 60 l):Bl 62 (Ex r c l):=fun x hx=>by
 unfold Ex Di at hx
 obtain ⟨j,hj,rfl⟩:=List.mem_map.1 hx
 have hj:=List.mem_range.1 hj
 have h0:0<c:=by
  rcases Nat.eq_zero_or_pos c with h | h
  ·subst h; omega
  ·exact h
 have h1:j / c<c:=Nat.div_lt_of_lt_mul hj
 have h2:j%c<c:=Nat.mod_lt _ h0
 exact Aw2 r6 bA al (by omega) h2
theorem Aha {i k:Nat} (hi:i<c) (hk:k<q) :
 Co (q:Int) (Gd r c q l m) (i:Int) (k:Int)=Lx ((List.range r).map fun j:Nat=>Co (r:Int) (I6 r c l) (j:Int) (i:Int)) ((List.range r).map fun j:Nat=>Co (q:Int) m (j:Int) (k:Int)):=by
 unfold Gd
 rw [I5 hi hk,Aan (Cf _ _ _) hi]
 have e1:(List.range r).map (fun k:Nat=>Co (r:Int) (Di c r fun i k=>Co (c:Int) (Acz r c l) (k:Int) (i:Int)) (i:Int) (k:Int))=(List.range r).map fun j:Nat=>Co (r:Int) (I6 r c l) (j:Int) (i:Int):=List.map_congr_left fun j hj=>by
  have hj:=List.mem_range.1 hj
  rw [I5 hi hj]
  unfold Acz
  rw [I5 hj hi]
 rw [e1]
 unfold Rm
 rw [A5n]
theorem Ae8 {n j:Nat} {f:Nat→Int} (hj:j<n):rv ((List.range n).map f) j=vR (f j).toNat:=by
 unfold rv
 rw [A5v,A62,List.getElem?_range hj]
 rfl
theorem Ag9 (r6:r≤6) (hc:c≤r) (al:Ak l=true) (bA:Bl 60 l) (bB:Bl 60 m) {i k:Nat} {B:Rat} (hi:i<c) (hk:k<q) (hB:Ln r (cl q m k) B) :
 Nr (cl q (Gd r c q l m) k i) (sm r fun j=>cl r (I6 r c l) i j*cl q m k j) (21*uR*((1+5000*uR)*B)+14*B7)∧Bd 125 (Co (q:Int) (Gd r c q l m) (i:Int) (k:Int)).toNat:=by
 obtain ⟨F,_,_,bQ,_⟩:=Akt (c:=c) r6 bA al
 have five:((5:Nat):Rat)=5:=rfl
 have q1:=F.q1 i (by omega)
 rw [five] at q1
 have l1:((List.range r).map fun j:Nat=>Co (r:Int) (I6 r c l) (j:Int) (i:Int)).length=r:=by rw [A6r,A6o]
 have l2:((List.range r).map fun j:Nat=>Co (q:Int) m (j:Int) (k:Int)).length=r:=by rw [A6r,A6o]
 have L1:Ln r (rv ((List.range r).map fun j:Nat=>Co (r:Int) (I6 r c l) (j:Int) (i:Int))) (1+5000*uR):=(q1.congr fun j hj=>Ae8 hj).mono (by grind)
 have L2:Ln r (rv ((List.range r).map fun j:Nat=>Co (q:Int) m (j:Int) (k:Int))) B:=hB.congr fun j hj=>Ae8 hj
 have b1:Bl 55 ((List.range r).map fun j:Nat=>Co (r:Int) (I6 r c l) (j:Int) (i:Int)):=Xv fun j=>Mt bQ
 have b2:Bl 60 ((List.range r).map fun j:Nat=>Co (q:Int) m (j:Int) (k:Int)):=Xv fun j=>Mt bB
 have h:=Amz (j:=55) (k:=60) (by decide) (l1.trans l2.symm) (by omega) b1 b2 (by rw [l1]; exact L1) (by rw [l1]; exact L2)
 have hb:=Af7 (j:=55) (k:=60) (by decide) b1 b2 (by omega)
 have e:=Aha (r:=r) (l:=l) (m:=m) hi hk
 rw [← e] at h hb
 rw [l1] at h
 rw [Bk r (g:=fun j=>cl r (I6 r c l) i j*cl q m k j) fun j hj=>by rw [Ae8 hj,Ae8 hj]; rfl] at h
 exact ⟨h,hb.mono (by decide)⟩
theorem Ae1 (r6:r≤6) (hc:c≤r) (al:Ak l=true) (bA:Bl 60 l) (bB:Bl 60 m) {i k:Nat} (hi:i<c) (hk:k<q):Bd 62 (Co (q:Int) (Gd r c q l m) (i:Int) (k:Int)).toNat:=by
 obtain ⟨F,_,_,bQ,_⟩:=Akt (c:=c) r6 bA al
 have five:((5:Nat):Rat)=5:=rfl
 have t0:=Dp 60
 have h1:Ln r (cl q m k) (3*tw 60):=Ln.M3 (Rat.le_of_lt t0) (fun i _=>Ab7 (Mt bB)) (by omega)
 obtain ⟨h2,h3⟩:=Ag9 r6 hc al bA bB hi hk h1
 have q1:=F.q1 i (by omega)
 have d:=q1.dot h1
 refine Aiv h3.1 h3.2.1 ?_
 have e:tw ((62:Nat):Int)=4*tw 60:=by decide +kernel
 have u:(1+1000*uR*((5:Nat):Rat))*(3*tw 60)+(21*uR*((1+5000*uR)*(3*tw 60))+14*B7)≤4*tw 60:=by decide +kernel
 rw [e]
 show Ab (cl q (Gd r c q l m) k i) _
 unfold Ab Nr at *
 grind
end
end Go.Cv
namespace Go.Cv
open Go.Den Go.Proofs.S1
section
variable {r c q:Nat} {l m:List Int}
theorem Aw8 (hr:0<r) (hc0:0<c) (r6:r≤6) (tA:TL 60 l) (fl:Fm (Ex r c l)=true) (hd:Wc (En (c:Int) (Ex r c l) c)=false):∀ i,i<c→Lo 100 (Co (c:Int) (Ex r c l) (i:Int) (i:Int)).toNat:=by
 have k0:=Amq fl hd 0 hc0
 have e:Co (c:Int) (Ex r c l) ((0:Nat):Int) ((0:Nat):Int)=Co (c:Int) (Hq r c l) 0 0:=by
  unfold Ex
  rw [I5 hc0 hc0]
  rfl
 rw [e] at k0
 have l0:=Aku (t:=60) (by decide) hr hc0 (by omega) tA k0
 rw [← e] at l0
 exact Aw9 (t:=60) (by decide) fl hc0 l0 hd
theorem Akl (r6:r≤6) (c6:c≤6) (q6:q≤6) (hc:c≤r) (hl:l.length=r*c) (hm:m.length=r*q) (al:Ak l=true) (bA:Bl 60 l) (tA:TL 60 l) (bB:Bl 60 m) :
 (Wc (En (c:Int) (Ex r c l) c)=true→A7 (r:Int) (c:Int) l (r:Int) (q:Int) m=Pu 5) ∧
 (Wc (En (c:Int) (Ex r c l) c)=false→(∀ i,i<c→Lo 100 (Co (c:Int) (Ex r c l) (i:Int) (i:Int)).toNat) ∧
  A7 (r:Int) (c:Int) l (r:Int) (q:Int) m=((c:Int),(q:Int),Y1 (c:Int) (Ex r c l) (q:Int) (Gd r c q l m) c q,0)∧Bl 990 (Y1 (c:Int) (Ex r c l) (q:Int) (Gd r c q l m) c q)):=by
 obtain ⟨h0,hR,hQ,aR,aQ⟩:=Abr r6 c6 hl al bA
 have bT:=Z4 r6 hc al bA
 have fT:=bT.Nc
 have cT:Da (c:Int) (c:Int) (Ex r c l)=0:=Sn (E0 c6 c6 (Cf _ _ _)) fT
 have ef:(Ok (c:Int) (c:Int) (Ex r c l)).1=Wc (En (c:Int) (Ex r c l) c):=by
  rw [Ape cT]
  unfold Afv
  rw [A5n,Nat.min_self]
 have start:A7 (r:Int) (c:Int) l (r:Int) (q:Int) m=if (Ok (N7 (r:Int) (c:Int) l).1 (N7 (r:Int) (c:Int) l).2.1 (N7 (r:Int) (c:Int) l).2.2.1).1=true then Pu 5 else Aql (Jd (r:Int) (c:Int) l) (N7 (r:Int) (c:Int) l) (r:Int) (q:Int) m:=by
  unfold A7
  rw [A57 (fun k=>k (Sn (E0 r6 c6 hl) bA.Nc)),A57 (fun k=>k (Sn (E0 r6 q6 hm) bB.Nc)),A57 (by omega),A57 (fun k=>k h0)]
 rw [Avi r6 c6 hc hl al bA,Avj r6 c6 hc hl al bA] at start
 dsimp only at start
 rw [ef] at start
 refine ⟨fun h=>by rw [start,A58 h],fun h=>?_⟩
 rw [h,A57 (by decide)] at start
 have dg:∀ i,i<c→Lo 100 (Co (c:Int) (Ex r c l) (i:Int) (i:Int)).toNat:=fun i hi=>Aw8 (by omega) (by omega) r6 tA fT h i hi
 have sb:∀ i k:Nat,i<c→k<q→Bd 62 (Co (q:Int) (Gd r c q l m) (i:Int) (k:Int)).toNat:=fun i k hi hk=>Ae1 r6 hc al bA bB hi hk
 have bS:Bl 62 (Gd r c q l m):=fun x hx=>by
  have hx':=hx
  unfold Gd Di at hx'
  obtain ⟨j,hj,-⟩:=List.mem_map.1 hx'
  have hj:=List.mem_range.1 hj
  obtain ⟨i,hi,rfl⟩:=List.mem_iff_getElem.1 hx
  have len:(Gd r c q l m).length=c*q:=Cf _ _ _
  rw [len] at hi
  have hq:0<q:=by
   rcases Nat.eq_zero_or_pos q with h | h
   ·subst h; omega
   ·exact h
  have h1:i / q<c:=Nat.div_lt_of_lt_mul (by rw [A59]; exact hi)
  have h2:i%q<q:=Nat.mod_lt _ hq
  have:=sb (i / q) (i%q) h1 h2
  unfold Co at this
  have e:((i / q:Nat):Int)*(q:Int)+((i%q:Nat):Int)=(i:Int):=by
   have:=Nat.div_add_mod i q
   rw [A59] at this
   rw [← A56,← Int.natCast_add,this]
  rw [e,A5n,A5v,A52 (by omega)] at this
  exact this
 have kt:Wn (c:Int) (c:Int) (Ex r c l) (c:Int) (q:Int) (Gd r c q l m)=0:=by
  unfold Wn
  rw [A57 (fun k=>k cT),A57 (fun k=>k (Sn (E0 c6 q6 (Cf _ _ _)) bS.Nc)),A57 (by omega),A5n,A57]
  intro hn
  unfold Amc at hn
  obtain ⟨i,hi,hk⟩:=List.any_eq_true.1 hn
  exact Amq fT h i (List.mem_range.1 hi) (A6b hk)
 have bU:Bl 990 (Y1 (c:Int) (Ex r c l) (q:Int) (Gd r c q l m) c q):=fun x hx=>by
  unfold Y1 Di at hx
  obtain ⟨j,hj,rfl⟩:=List.mem_map.1 hx
  have hj:=List.mem_range.1 hj
  have hq:0<q:=by
   rcases Nat.eq_zero_or_pos q with h | h
   ·subst h; omega
   ·exact h
  have h2:j%q<q:=Nat.mod_lt _ hq
  have ub:=Agu (c:=(c:Int)) (l:=Ex r c l) (b:=fun i=>Co (q:Int) (Gd r c q l m) (i:Int) ((j%q:Nat):Int)) (n:=c) (p:=62) (t:=100) bT (fun i hi=>sb i _ hi h2) dg (by decide) c (A6f c) c6
  exact (Q5 ub _).mono (by omega)
 refine ⟨dg,?_,bU⟩
 rw [start]
 unfold Aql
 dsimp only
 rw [Anz r6 c6 q6 hm,A57 (fun k=>k rfl)]
 dsimp only
 unfold upX
 rw [A57 (fun k=>k kt),A5n,A5n]
 unfold Ux
 rw [bU.Nc,A58 rfl]
end
end Go.Cv
namespace Go.Cv
open Go.Den Go.Proofs.S1
theorem Fn.scaled {r c:Nat} {M:Nat→Nat→Rat} {s:Nat→Rat} {S k:Rat} (hk:0≤k) (h:∀ b,b<c→Ln r (M b) (k*s b)) (hS:0≤S) (hs:(sm c fun b=>s b*s b)≤S*S):Fn r c M (k*S):=by
 refine Fn.of (s:=fun b=>k*s b) h (Rat.mul_nonneg hk hS) ?_
 have e:(sm c fun b=>k*s b*(k*s b))=k*k*sm c fun b=>s b*s b:=by
  rw [← F7]
  exact Bk c fun b _=>by grind
 rw [e]
 have:=Rat.mul_le_mul_of_nonneg_left hs (Bw k)
 grind
theorem Fn.front {r c d:Nat} {M:Nat→Nat→Rat} {S:Rat} (h:Fn (d+r) c M S):Fn d c M S:=by
 refine ⟨h.1,Rat.le_trans (Rv c fun b _=>?_) h.2⟩
 unfold sq
 rw [Pw]
 have:=Px (f:=fun m=>M b (d+m)*M b (d+m)) r fun m _=>Bw _
 grind
theorem Ar7 {u S x B v e:Rat} (hu:0≤u) (hS:0≤S) (hx:0≤x) (hB:0≤B) (v0:0≤v) (hv:v≤101 / 100) (he:0≤e) (he2:e≤u*B) :
 v*S*(30000*u*(v*S*x)+(18*u*(3*(2*B)+v*S*x)+e)+(3*(21*u*(v*B))+e)+3*v*(7000*u*S*x))+7000*u*S*(S*x+B)≤u*S*(60000*(S*x)+8000*B):=by
 have Y:=Rat.mul_nonneg hu (Rat.mul_nonneg (Rat.mul_nonneg hS hS) hx)
 have Z:=Rat.mul_nonneg hu (Rat.mul_nonneg hS hB)
 have vv:=D3 hv hv (by decide +kernel) v0
 have y1:=Rat.mul_le_mul_of_nonneg_right vv Y
 have z1:=Rat.mul_le_mul_of_nonneg_right hv Z
 have z2:=Rat.mul_le_mul_of_nonneg_right vv Z
 have w1:=Rat.mul_le_mul_of_nonneg_left he2 hS
 have w2:=Rat.mul_le_mul_of_nonneg_right hv (Rat.mul_nonneg hS he)
 grind
section
variable {r c q k:Nat} {l m:List Int} {s:Nat→Rat} {S B x:Rat}
theorem Akk (r6:r≤6) (c6:c≤6) (hc:c≤r) (hk:k<q) (al:Ak l=true) (bA:Bl 60 l) (bB:Bl 60 m)
 (dg:∀ i,i<c→Lo 100 (Co (c:Int) (Ex r c l) (i:Int) (i:Int)).toNat)
 (hs9:∀ b,b<c→tw (-900)≤s b) (hs:∀ b,b<c→Ln r (cl c l b) (s b)) (hS:0≤S) (hSs:(sm c fun b=>s b*s b)≤S*S)
 (hB:Ln r (cl q m k) B) (hB8:tw (-800)≤B) (hx:Ln c (rv (Qk (c:Int) (Ex r c l) (fun i=>Co (q:Int) (Gd r c q l m) (i:Int) (k:Int)) c c)) x) :
 Ln c (fun b=>sm r fun i=>cl c l b i*G6 c (cl c l) (rv (Qk (c:Int) (Ex r c l) (fun i=>Co (q:Int) (Gd r c q l m) (i:Int) (k:Int)) c c)) (cl q m k) i) (uR*S*(60000*(S*x)+8000*B)):=by
 obtain ⟨F,hz,_,_,_⟩:=Akt (c:=c) r6 bA al
 have five:((5:Nat):Rat)=5:=rfl
 have u0:=Rat.le_of_lt Ey
 have us:=G4
 have e0:=Rat.le_of_lt Ej
 have B0:=hB.1
 have bT:=Z4 r6 hc al bA
 have q1:=F.q1
 have q2:=F.q2
 have f1:=fun b hb=>F.f1 b (s b) hb (hs9 b hb) (hs b hb)
 have f2:=fun b hb=>F.f2 b (s b) hb (hs9 b hb) (hs b hb)
 rw [five] at q1 q2 f1 f2
 have v0:(0:Rat)≤1+5000*uR:=by grind
 have hM:Fn r c (cl c l) S:=Fn.of hs hS hSs
 have hE:Fn r c (V4 r (cl c l) (cl c (Hq r c l)) (cl r (I6 r c l))) (7000*uR*S):=Fn.scaled (by grind) (fun b hb=>(f2 b hb).mono (by grind)) hS hSs
 have hR:Fn r c (cl c (Hq r c l)) ((1+5000*uR)*S):=Fn.scaled v0 (fun b hb=>(f1 b hb).mono (by grind)) hS hSs
 have hT:Fn c c (cl c (Ex r c l)) ((1+5000*uR)*S):=by
  obtain ⟨d,hd⟩:∃ d,r=c+d:=⟨r-c,by omega⟩
  have h1:Fn (c+d) c (cl c (Hq r c l)) ((1+5000*uR)*S):=by rw [← hd]; exact hR
  exact h1.front.congr fun b i hb hi=>U9 hi hb
 have sv:=fun i (hi:i<c)=>Ag9 (k:=k) (l:=l) r6 hc al bA bB hi hk hB
 have ee:42*B7≤3*((12+tw 62)*B7):=by decide +kernel
 have eb:3*((12+tw 62)*B7)≤uR*B:=by
  have h1:3*((12+tw 62)*B7)≤uR*tw (-800):=by decide +kernel
  exact Rat.le_trans h1 (Ij hB8)
 have he:Ln c (fun i=>cl q (Gd r c q l m) k i-sm r fun j=>cl r (I6 r c l) i j*cl q m k j) (3*(21*uR*((1+5000*uR)*B))+3*((12+tw 62)*B7)):=by
  refine (Ln.M3 (B:=21*uR*((1+5000*uR)*B)+14*B7) ?_ (fun i hi=>?_) (by omega)).mono (by grind)
  ·have:=Rat.mul_nonneg u0 (Rat.mul_nonneg v0 B0); grind
  ·have:=(sv i hi).1
   unfold Nr at this; unfold Ab; grind
 have hcl:Ln c (fun i=>vR (Co (q:Int) (Gd r c q l m) (i:Int) (k:Int)).toNat) (3*(2*B)):=by
  refine Ln.M3 (by grind) (fun i hi=>?_) (by omega)
  have h1:=(sv i hi).1
  have h2:=(q1 i (by omega)).dot hB
  have h3:(1+1000*uR*5)*B+(21*uR*((1+5000*uR)*B)+14*B7)≤2*B:=by
   have g1:=Rat.mul_le_mul_of_nonneg_right us B0
   have g2:=D3 us g1 (by decide +kernel) (Rat.mul_nonneg u0 B0)
   grind
  show Ab (cl q (Gd r c q l m) k i) _
  unfold Ab Nr at *
  grind
 have hzT:∀ m i:Nat,m<i→i<c→cl c (Ex r c l) m i=0:=fun m i hm hi=>by
  rw [U9 hi (by omega)]
  exact hz m i (by omega) hm (by omega)
 have hp:=Ayk (c:=c) (n:=c) (p:=62) (t:=100) (b:=fun i=>Co (q:Int) (Gd r c q l m) (i:Int) (k:Int)) c6 bT (fun i hi=>Ae1 r6 hc al bA bB hi hk) dg (by decide) hzT hT hx hcl
 have x0:=hx.1
 generalize rv (Qk (c:Int) (Ex r c l) (fun i=>Co (q:Int) (Gd r c q l m) (i:Int) (k:Int)) c c)=X at *
 have hp':Ln c (fun i=>(sm c fun m=>cl c (Hq r c l) m i*X m)-cl q (Gd r c q l m) k i) (18*uR*(3*(2*B)+(1+5000*uR)*S*x)+3*((12+tw 62)*B7)):=by
  refine hp.congr fun i hi=>?_
  rw [Bk c (f:=fun m=>cl c (Hq r c l) m i*X m) (g:=fun m=>cl c (Ex r c l) m i*X m) fun m hm=>by rw [U9 hi hm]]
  rfl
 have h:=Ate c6 hc hM hE hR hz (fun m hm=>(q1 m hm).mono (by grind)) (fun a m ha hm=>Rat.le_trans (q2 a m ha hm) (by grind)) hx hB hp' he
 refine h.mono ?_
 have pe:0≤3*((12+tw 62)*B7):=Rat.le_trans (by grind) ee
 exact Ar7 u0 hS x0 B0 v0 (by grind) pe eb
end
end Go.Cv
namespace Go.Cv
open Go.Den Go.Proofs.S1
theorem Ad3 {j k:Nat} (hjk:j+k≤1000):∀ (x y:List Int) (s t:Nat),x.length=y.length→Bl j x→Bl k y→Bm t (j+k) s→0<t→t+x.length≤1000→vR s=0→(∀ z∈y,vR z.toNat=0)→vR (Tz s x y)=0
 | [],[],s,t,_,_,_,_,_,_,h,_=>h
 | [],_::_,_,_,hl,_,_,_,_,_,_,_=>by simp at hl
 | _::_,[],_,_,hl,_,_,_,_,_,_,_=>by simp at hl
 | a::x,b::y,s,t,hl,hx,hy,hs,h0,ht,h,hz=>by
   simp only [List.length_cons] at ht hl
   have ba:=hx a A60
   have bb:=hy b A60
   have b2:=Bd.mul (show j+k≤1023 by omega) ba bb
   have b3:=Bm.add (k:=j+k) (by omega) (by omega) hjk hs b2.bm
   have m0:=Adm ba.1 ba.2.1 bb.1 bb.2.1 b2.1 (by rw [hz b A60]; grind)
   have e0:vR s+vR (H7 a.toNat b.toNat).1=0:=by rw [h,m0]; grind
   have m2:=Zu hs.1 hs.2.1 b2.1 b2.2.1 b3.1 (B:=0) (by rw [e0]; exact Zw)
   rw [e0] at m2
   exact Ad3 hjk x y _ (t+1) (by omega) (fun z hz=>hx z (A6q _ hz)) (fun z hz=>hy z (A6q _ hz)) b3 (by omega) (by omega) (Amb m2) (fun z h=>hz z (A6q _ h))
theorem Lo.lower {t a:Nat} (h:Lo t a):tw (-(t:Int))≤av (vR a):=by
 have h1:=Asv h.m0
 have h2:=Rat.mul_le_mul_of_nonneg_right h1 (Rat.le_of_lt (Dp (Av a)))
 rw [← Ep] at h2
 have h3:=Acu h.log
 have h4:av (vR a)=((An a:Nat):Rat)*tw (Av a):=by
  unfold vR
  rw [Dy,Dy,Qh (Lt _),Qh (Rat.le_of_lt (Dp _))]
  have:av (Ps (Br a))=1:=by cases Br a<;>decide +kernel
  rw [this]; grind
 rw [h4]
 exact Rat.le_trans h3 h2
section
variable {r c q k:Nat} {l m:List Int}
theorem Anx (r6:r≤6) (al:Ak l=true) (bA:Bl 60 l) (bB:Bl 60 m) (hk:k<q) (hz:∀ j,j<r→cl q m k j=0) {i:Nat} (hi:i<c):vR (Co (q:Int) (Gd r c q l m) (i:Int) (k:Int)).toNat=0:=by
 obtain ⟨F,_,_,bQ,_⟩:=Akt (c:=c) r6 bA al
 rw [Aha hi hk]
 have l1:((List.range r).map fun j:Nat=>Co (r:Int) (I6 r c l) (j:Int) (i:Int)).length=r:=by rw [A6r,A6o]
 have l2:((List.range r).map fun j:Nat=>Co (q:Int) m (j:Int) (k:Int)).length=r:=by rw [A6r,A6o]
 have e:(Lx ((List.range r).map fun j:Nat=>Co (r:Int) (I6 r c l) (j:Int) (i:Int)) ((List.range r).map fun j:Nat=>Co (q:Int) m (j:Int) (k:Int))).toNat=Tz 0 ((List.range r).map fun j:Nat=>Co (r:Int) (I6 r c l) (j:Int) (i:Int)) ((List.range r).map fun j:Nat=>Co (q:Int) m (j:Int) (k:Int)):=A5n _
 rw [e]
 exact Ad3 (j:=55) (k:=60) (by decide) _ _ 0 1 (l1.trans l2.symm) (Xv fun j=>Mt bQ) (Xv fun j=>Mt bB) (Bd.zero false (55+60)).bm (by decide) (by omega) (Jv false) fun z hz'=>by
  obtain ⟨j,hj,rfl⟩:=List.mem_map.1 hz'
  exact hz j (List.mem_range.1 hj)
def Wl (r c q:Nat) (l m:List Int) (k i:Nat):Rat:=rv (Qk (c:Int) (Ex r c l) (fun i=>Co (q:Int) (Gd r c q l m) (i:Int) (k:Int)) c c) i
theorem Apk (r6:r≤6) (c6:c≤6) (hc:c≤r) (al:Ak l=true) (bA:Bl 60 l) (bB:Bl 60 m) (hk:k<q)
 (dg:∀ i,i<c→Lo 100 (Co (c:Int) (Ex r c l) (i:Int) (i:Int)).toNat) (hz:∀ j,j<r→cl q m k j=0) (i:Nat):Wl r c q l m k i=0:=by
 have bT:=Z4 r6 hc al bA
 have h:=Alj (c:=(c:Int)) (l:=Ex r c l) (b:=fun i=>Co (q:Int) (Gd r c q l m) (i:Int) (k:Int)) (n:=c) (p:=62) (t:=100) bT (fun i hi=>Ae1 r6 hc al bA bB hi hk) dg (by decide) (fun i hi=>Anx r6 al bA bB hk hz hi) c (A6f c) c6
 unfold Wl rv
 by_cases hi:i<(Qk (c:Int) (Ex r c l) (fun i=>Co (q:Int) (Gd r c q l m) (i:Int) (k:Int)) c c).length
 ·rw [A5v,A52 hi]
  exact h _ (List.getElem_mem hi)
 ·rw [A5v,A63 (by omega)]
  exact Jv false
theorem Axd (hk:k<q) {i:Nat} (hi:i<c):cl q (Y1 (c:Int) (Ex r c l) (q:Int) (Gd r c q l m) c q) k i=Wl r c q l m k i:=by
 unfold cl Y1
 rw [I5 hi hk]
 rfl
end
theorem roots {r:Nat} (f:Nat→Rat):∃ s,tw (-900)≤s∧Ln r f s∧s*s≤103 / 100*(sq r f+tw (-1800)):=by
 have t0:=Dp (-1800)
 have q0:=Mc r f
 obtain ⟨s,s0,h1,h2⟩:=Ac9 (q:=sq r f+tw (-1800)) (by grind)
 refine ⟨s,Oh (Rat.le_of_lt s0) ?_,⟨Rat.le_of_lt s0,by grind⟩,h2⟩
 rw [← Ep]
 have e:(-900:Int)+-900=-1800:=rfl
 rw [e]
 grind
theorem Apo {n:Nat} {P:Nat→Rat→Prop} (h:∀ b,b<n→∃ s,P b s):∃ s:Nat→Rat,∀ b,b<n→P b (s b) :=
 ⟨fun b=>if hb:b<n then Classical.choose (h b hb) else 0,fun b hb=>by
  dsimp only
  rw [dif_pos hb]
  exact Classical.choose_spec (h b hb)⟩
end Go.Cv
namespace Go.Cv
open Go.Den Go.Proofs.S1
theorem Azl {u S x B A X2 B2 G t:Rat} (hu2:u*u=tw (-106)) (hA:0≤A) (hX:0≤X2) (hS:S*S≤107 / 100*A) (hx:x*x≤103 / 100*(X2+t)) (hB:B*B≤103 / 100*(B2+t))
 (h1:A*t≤B2) (h2:t≤B2) (ht:0≤t) (hG:G≤(u*S*(60000*(S*x)+8000*B))*(u*S*(60000*(S*x)+8000*B))):G≤tw (-70)*(A*(A*X2+B2)):=by
 have W:=Rat.mul_nonneg hA hX
 have a1:=D3 hS hx (Rat.mul_nonneg (by decide +kernel) hA) (Bw x)
 have a2:S*S*(x*x)≤12 / 10*(A*X2+B2):=by grind
 have a3:B*B≤3*B2:=by grind
 have d:=Bw (60000*(S*x)-8000*B)
 have a4:(60000*(S*x)+8000*B)*(60000*(S*x)+8000*B)≤10000000000*(A*X2+B2):=by grind
 have a5:=D3 hS a4 (Rat.mul_nonneg (by decide +kernel) hA) (Bw _)
 have a6:=Rat.mul_le_mul_of_nonneg_left a5 (Rat.le_of_lt (Dp (-106)))
 rw [← hu2] at a6
 have e:(u*S*(60000*(S*x)+8000*B))*(u*S*(60000*(S*x)+8000*B))=u*u*(S*S*((60000*(S*x)+8000*B)*(60000*(S*x)+8000*B))):=by grind
 have n:tw (-106)*(107 / 100*10000000000)≤tw (-70):=by decide +kernel
 have a7:=Rat.mul_le_mul_of_nonneg_right n (show 0≤A*(A*X2+B2) from Rat.mul_nonneg hA (by grind))
 have e2:u*u*(107 / 100*A*(10000000000*(A*X2+B2)))=tw (-106)*(107 / 100*10000000000)*(A*(A*X2+B2)):=by rw [hu2]; grind
 rw [e2,← e] at a6
 exact Rat.le_trans hG (Rat.le_trans a6 a7)
theorem A2l {Q T A t w:Rat} (h1:Q≤103 / 100*(T+t)) (h2:T≤103 / 100*(A+6*t)) (h3:1000*t≤w) (h4:w≤A) (ht:0≤t):Q≤107 / 100*A:=by grind
theorem A2k {a q A t w y:Rat} (h:a*a≤101 / 100*y*(101 / 100*y)) (h2:y*y≤103 / 100*(q+t)) (h3:q≤A) (n:w+t≤a*a*(8 / 10)) (ht:0≤t) (hq:0≤q):w≤A:=by grind
section
variable {r c q k:Nat} {l m:List Int}
def H4 (r c:Nat) (l:List Int):Rat:=sm c fun b=>sq r (cl c l b)
theorem Arc (r c:Nat) (l:List Int):0≤H4 r c l:=Px c fun _ _=>Mc _ _
theorem Arb (r6:r≤6) (c6:c≤6) (bA:Bl 60 l):H4 r c l≤tw 126:=by
 have t0:=Rat.le_of_lt (Dp 60)
 have h:Fn r c (cl c l) (6*tw 60):=Fn.M3 t0 (fun b i _ _=>Ab7 (Mt bA)) c6 r6
 refine Rat.le_trans h.2 ?_
 decide +kernel
theorem Aci (r6:r≤6) (c6:c≤6) (hc:c≤r) (hk:k<q) (al:Ak l=true) (bA:Bl 60 l) (bB:Bl 60 m) (tB:TL 60 m)
 (dg:∀ i,i<c→Lo 100 (Co (c:Int) (Ex r c l) (i:Int) (i:Int)).toNat) :
 sq c (fun b=>sm r fun i=>cl c l b i*G6 c (cl c l) (Wl r c q l m k) (cl q m k) i)≤tw (-70)*(H4 r c l*(H4 r c l*sq c (Wl r c q l m k)+sq r (cl q m k))):=by
 have A0:=Arc r c l
 have X0:=Mc c (Wl r c q l m k)
 have B0:=Mc r (cl q m k)
 have R0:0≤tw (-70)*(H4 r c l*(H4 r c l*sq c (Wl r c q l m k)+sq r (cl q m k))) :=
  Rat.mul_nonneg (Rat.le_of_lt (Dp _)) (Rat.mul_nonneg A0 (by have:=Rat.mul_nonneg A0 X0; grind))
 by_cases c0:c=0
 ·subst c0; exact R0
 by_cases hz:∀ j,j<r→cl q m k j=0
 ·refine Rat.le_trans ?_ R0
  have xz:=Apk r6 c6 hc al bA bB hk dg hz
  have g:∀ b,(sm r fun i=>cl c l b i*G6 c (cl c l) (Wl r c q l m k) (cl q m k) i)=0:=fun b=>by
   rw [Bk r (g:=fun _=>0) fun i hi=>?_]
   ·exact Iy r
   ·unfold G6
    rw [hz i hi,Bk c (g:=fun _=>0) fun j _=>by rw [xz]; grind]
    rw [Iy]; grind
  unfold sq
  rw [Bk c (g:=fun _=>0) fun b _=>by
   dsimp only
   rw [g]; grind]
  rw [Iy]; exact Rat.le_refl
 ·obtain ⟨j,hj⟩:=Classical.not_forall.1 hz
  obtain ⟨hj,hb⟩:j<r∧cl q m k j≠0:=by
   rcases A6i j r with h | h
   ·exact ⟨h,fun e=>hj fun _=>e⟩
   ·exact absurd (fun h2=>by omega) hj
  have t0:=Dp (-1800)
  obtain ⟨s,hs⟩:=Apo (n:=c) (P:=fun b s=>tw (-900)≤s∧Ln r (cl c l b) s∧s*s≤103 / 100*(sq r (cl c l b)+tw (-1800))) fun b _=>roots (cl c l b)
  have S0:0≤sm c fun b=>s b*s b:=Px c fun b _=>Bw _
  obtain ⟨S,Sp,S1,S2⟩:=Ac9 (q:=(sm c fun b=>s b*s b)+tw (-1800)) (by grind)
  obtain ⟨x,-,hx,x2⟩:=roots (r:=c) (Wl r c q l m k)
  obtain ⟨B,-,hB,hB2⟩:=roots (r:=r) (cl q m k)
  have hss:(sm c fun b=>s b*s b)≤103 / 100*(H4 r c l+6*tw (-1800)):=by
   have h1:=Rv (f:=fun b=>s b*s b) (g:=fun b=>103 / 100*(sq r (cl c l b)+tw (-1800))) c fun b hb=>(hs b hb).2.2
   rw [F7,Ha,N9] at h1
   have h2:=Rat.mul_le_mul_of_nonneg_right (Ct c6) (Rat.le_of_lt t0)
   have e6:((6:Nat):Rat)=6:=rfl
   rw [e6] at h2
   have e7:(sm c fun i=>sq r (cl c l i))=H4 r c l:=rfl
   rw [e7] at h1
   grind
  have hbl:tw (-60)≤av (cl q m k j):=by
   have k0:A3 (Co (q:Int) m (j:Int) (k:Int))≠0:=fun e=>hb (Rr (by unfold A3 at e; omega))
   exact (tB _ (at_mem k0) k0).lower
  have hB0:tw (-120)≤sq r (cl q m k):=by
   have h1:=Y6 (f:=fun i=>cl q m k i*cl q m k i) hj fun i _=>Bw _
   have h2:=D3 hbl hbl (Ed _) (Rat.le_of_lt (Dp _))
   rw [← Ep,Km] at h2
   exact Rat.le_trans h2 h1
  have hA0:tw (-204)≤H4 r c l:=by
   have h0:0<c:=by omega
   have h1:=(dg 0 h0).lower
   obtain ⟨F,_⟩:=Akt (c:=c) r6 bA al
   obtain ⟨a1,a2,a3⟩:=hs 0 h0
   have h2:=Ko ((F.f1 0 (s 0) h0 a1 a2).at (show 0<r by omega))
   have h3:av (cl c (Hq r c l) 0 0)=av (vR (Co (c:Int) (Ex r c l) ((0:Nat):Int) ((0:Nat):Int)).toNat):=by
    rw [← U9 h0 h0]; rfl
   rw [h3] at h2
   have h4:(1+1000*uR*((5:Nat):Rat))≤101 / 100:=by decide +kernel
   have h5:=Rat.mul_le_mul_of_nonneg_right h4 a2.1
   have h6:tw (-100)≤101 / 100*s 0:=Rat.le_trans h1 (Rat.le_trans h2 h5)
   have h7:=D3 h6 h6 (Rat.le_trans (Rat.le_of_lt (Dp _)) h6) (Rat.le_of_lt (Dp _))
   have h8:=Y6 (f:=fun b=>sq r (cl c l b)) h0 fun b _=>Mc r (cl c l b)
   have h9:sq r (cl c l 0)≤H4 r c l:=h8
   have n:tw (-204)+tw (-1800)≤tw (-100)*tw (-100)*(8 / 10):=by decide +kernel
   exact A2k h7 a3 h9 n (Rat.le_of_lt t0) (Mc _ _)
  have hA1:=Arb r6 c6 bA
  have hS:S*S≤107 / 100*H4 r c l:=by
   have n:1000*tw (-1800)≤tw (-204):=by decide +kernel
   exact A2l S2 hss n hA0 (Rat.le_of_lt t0)
  have hSs:(sm c fun b=>s b*s b)≤S*S:=by
   clear hS hA1 hA0 hB0 hbl hss hs hx x2 hB hB2 hb
   grind
  have hAt:H4 r c l*tw (-1800)≤sq r (cl q m k):=by
   have h1:=Rat.mul_le_mul_of_nonneg_right hA1 (Rat.le_of_lt t0)
   have n:tw 126*tw (-1800)≤tw (-120):=by decide +kernel
   exact Rat.le_trans h1 (Rat.le_trans n hB0)
  have ht:tw (-1800)≤sq r (cl q m k):=Rat.le_trans (Acu (by decide)) hB0
  have hB8:tw (-800)≤B:=by
   refine Oh hB.1 ?_
   rw [← Ep]
   exact Rat.le_trans (Acu (by decide)) (Rat.le_trans hB0 hB.2)
  have h:=Akk r6 c6 hc hk al bA bB dg (fun b hb=>(hs b hb).1) (fun b hb=>(hs b hb).2.1) (Rat.le_of_lt Sp) hSs hB hB8 hx
  have hu:uR*uR=tw (-106):=by decide +kernel
  exact Azl hu A0 X0 hS x2 hB2 hAt ht (Rat.le_of_lt t0) h.2
end
end Go.Cv
end
