/- A verified evaluator of the program's form and its use for this seat: S1EqLaw21, S1PLaw21, S1PLaw21S. -/
import Derived.Test.YtjbokjpbiobjpaaGreatTE
import Derived.Test.YtjbokjpbiobjpaaGreatTF
import Derived.Test.YtjbokjpbiobjpaaGreatTM
import Derived.Test.YtjbokjpbiobjpaaGreatTJ
set_option linter.unusedVariables false
set_option linter.unusedSimpArgs false
noncomputable section
open Int (toNat)
open List (length getD)
open Go.Proofs.Tryz
namespace Go.Proofs.S1
open Go Go.Den Go.Rnd Go.Proofs
set_option maxRecDepth 100000
namespace EqLaw21
def Ai.C9.hint:Nat→Option Bg
 | 0=>some { keep:=[0,2,3,4],objs:=[],boxes:=[2,3] }
 | _=>none
def Ai.C9.Bc:List (Nat × Entry):=[(42,Aq.Add.spec),(41,Aq.Mul.spec),(63,A5.Value.spec)]
def Ai.C9.E:Env:=Be (Bb Ai.C9.Bc) (fun _=>false) Ai.C9.hint (fun _=>none)
section
variable (N M:Nat) (x:List Int) (p4:Int) (p3:Bool) (p3_1:List Int) (p3_2:Int)
def Ai.C9.L0:Option DV:=Bx Ai.C9.E N f55 (Am f55) [1,1,0,1,0] [] M ⟨E5 24 [(0,.ints .arg .u64 x),(2,.ptr 2 0 0),(3,.ptr 3 0 0),(4,.int .i64 0)],[(2,false,.box [.bool false,.nil,.int .i64 0]),(3,false,.box [.bool false,.nil,.int .i64 0])]⟩
def Ai.C9.L1:Option DV:=Bx Ai.C9.E N f55 (Am f55) [1,1,0,1,0] [] M ⟨E5 24 [(0,.ints .arg .u64 x),(2,.ptr 2 0 0),(3,.ptr 3 0 0),(4,.int .i64 p4)],[(2,false,.box [.bool false,.nil,.int .i64 0]),(3,false,.box [.bool p3,.ints .arg .u32 p3_1,.int .i64 p3_2])]⟩
theorem Ai.C9.Av:Ai.C9.L0 N (M+1) x=bif (Bd 0 (length x:Int)) then bif (decide ((0:Int)<(length x:Int))) then bif (Ak (getD x 0 0)) then bif ((okM (A6 (mD (Bj (getD x 0 0)))) (Aj (mD (Bj (getD x 0 0))))&&okM (A6 (mD (Bj (getD x 0 0)))) (Aj (mD (Bj (getD x 0 0)))))&&(Nl (eD (Bj (getD x 0 0)) (Ba (getD x 0 0)))&&Nl (eD (Bj (getD x 0 0)) (Ba (getD x 0 0))))) then bif (((R8 false []&&R8 (A6 (mD (wv (A6 (mD (Bj (getD x 0 0)))) (Aj (mD (Bj (getD x 0 0))))*wv (A6 (mD (Bj (getD x 0 0)))) (Aj (mD (Bj (getD x 0 0))))))) (Aj (mD (wv (A6 (mD (Bj (getD x 0 0)))) (Aj (mD (Bj (getD x 0 0))))*wv (A6 (mD (Bj (getD x 0 0)))) (Aj (mD (Bj (getD x 0 0))))))))&&Nl 0)&&Nl (eD (wv (A6 (mD (Bj (getD x 0 0)))) (Aj (mD (Bj (getD x 0 0))))*wv (A6 (mD (Bj (getD x 0 0)))) (Aj (mD (Bj (getD x 0 0))))) ((eD (Bj (getD x 0 0)) (Ba (getD x 0 0)))+(eD (Bj (getD x 0 0)) (Ba (getD x 0 0)))))) then Ai.C9.L1 N M x 1 (A6 (N1 (wv false []) 0 (wv (A6 (mD (wv (A6 (mD (Bj (getD x 0 0)))) (Aj (mD (Bj (getD x 0 0))))*wv (A6 (mD (Bj (getD x 0 0)))) (Aj (mD (Bj (getD x 0 0))))))) (Aj (mD (wv (A6 (mD (Bj (getD x 0 0)))) (Aj (mD (Bj (getD x 0 0))))*wv (A6 (mD (Bj (getD x 0 0)))) (Aj (mD (Bj (getD x 0 0)))))))) (eD (wv (A6 (mD (Bj (getD x 0 0)))) (Aj (mD (Bj (getD x 0 0))))*wv (A6 (mD (Bj (getD x 0 0)))) (Aj (mD (Bj (getD x 0 0))))) ((eD (Bj (getD x 0 0)) (Ba (getD x 0 0)))+(eD (Bj (getD x 0 0)) (Ba (getD x 0 0))))))) (Aj (N1 (wv false []) 0 (wv (A6 (mD (wv (A6 (mD (Bj (getD x 0 0)))) (Aj (mD (Bj (getD x 0 0))))*wv (A6 (mD (Bj (getD x 0 0)))) (Aj (mD (Bj (getD x 0 0))))))) (Aj (mD (wv (A6 (mD (Bj (getD x 0 0)))) (Aj (mD (Bj (getD x 0 0))))*wv (A6 (mD (Bj (getD x 0 0)))) (Aj (mD (Bj (getD x 0 0)))))))) (eD (wv (A6 (mD (Bj (getD x 0 0)))) (Aj (mD (Bj (getD x 0 0))))*wv (A6 (mD (Bj (getD x 0 0)))) (Aj (mD (Bj (getD x 0 0))))) ((eD (Bj (getD x 0 0)) (Ba (getD x 0 0)))+(eD (Bj (getD x 0 0)) (Ba (getD x 0 0))))))) (Ahv (wv false []) 0 (wv (A6 (mD (wv (A6 (mD (Bj (getD x 0 0)))) (Aj (mD (Bj (getD x 0 0))))*wv (A6 (mD (Bj (getD x 0 0)))) (Aj (mD (Bj (getD x 0 0))))))) (Aj (mD (wv (A6 (mD (Bj (getD x 0 0)))) (Aj (mD (Bj (getD x 0 0))))*wv (A6 (mD (Bj (getD x 0 0)))) (Aj (mD (Bj (getD x 0 0)))))))) (eD (wv (A6 (mD (Bj (getD x 0 0)))) (Aj (mD (Bj (getD x 0 0))))*wv (A6 (mD (Bj (getD x 0 0)))) (Aj (mD (Bj (getD x 0 0))))) ((eD (Bj (getD x 0 0)) (Ba (getD x 0 0)))+(eD (Bj (getD x 0 0)) (Ba (getD x 0 0)))))) else none else none else none else none else some (.agg [.bool false,.nil,.int .i64 0]) :=
 Eq.trans (by kernel_rfl)
 (Ec (Ec (Ec (Cp (Cd ((okM (A6 (mD (Bj (getD x 0 0)))) (Aj (mD (Bj (getD x 0 0))))&&okM (A6 (mD (Bj (getD x 0 0)))) (Aj (mD (Bj (getD x 0 0)))))&&(Nl (eD (Bj (getD x 0 0)) (Ba (getD x 0 0)))&&Nl (eD (Bj (getD x 0 0)) (Ba (getD x 0 0)))))) (Cp (Cd (((R8 false []&&R8 (A6 (mD (wv (A6 (mD (Bj (getD x 0 0)))) (Aj (mD (Bj (getD x 0 0))))*wv (A6 (mD (Bj (getD x 0 0)))) (Aj (mD (Bj (getD x 0 0))))))) (Aj (mD (wv (A6 (mD (Bj (getD x 0 0)))) (Aj (mD (Bj (getD x 0 0))))*wv (A6 (mD (Bj (getD x 0 0)))) (Aj (mD (Bj (getD x 0 0))))))))&&Nl 0)&&Nl (eD (wv (A6 (mD (Bj (getD x 0 0)))) (Aj (mD (Bj (getD x 0 0))))*wv (A6 (mD (Bj (getD x 0 0)))) (Aj (mD (Bj (getD x 0 0))))) ((eD (Bj (getD x 0 0)) (Ba (getD x 0 0)))+(eD (Bj (getD x 0 0)) (Ba (getD x 0 0))))))) rfl rfl) rfl) rfl) rfl) rfl)
theorem Ai.C9.B6:Ai.C9.L1 N (M+1) x p4 p3 p3_1 p3_2=bif (Bd p4 (length x:Int)) then bif ((decide (0≤p4))&&(decide (p4<(length x:Int)))) then bif (Ak (getD x (toNat p4) 0)) then bif ((okM (A6 (mD (Bj (getD x (toNat p4) 0)))) (Aj (mD (Bj (getD x (toNat p4) 0))))&&okM (A6 (mD (Bj (getD x (toNat p4) 0)))) (Aj (mD (Bj (getD x (toNat p4) 0)))))&&(Nl (eD (Bj (getD x (toNat p4) 0)) (Ba (getD x (toNat p4) 0)))&&Nl (eD (Bj (getD x (toNat p4) 0)) (Ba (getD x (toNat p4) 0))))) then bif (((R8 p3 p3_1&&R8 (A6 (mD (wv (A6 (mD (Bj (getD x (toNat p4) 0)))) (Aj (mD (Bj (getD x (toNat p4) 0))))*wv (A6 (mD (Bj (getD x (toNat p4) 0)))) (Aj (mD (Bj (getD x (toNat p4) 0))))))) (Aj (mD (wv (A6 (mD (Bj (getD x (toNat p4) 0)))) (Aj (mD (Bj (getD x (toNat p4) 0))))*wv (A6 (mD (Bj (getD x (toNat p4) 0)))) (Aj (mD (Bj (getD x (toNat p4) 0))))))))&&Nl p3_2)&&Nl (eD (wv (A6 (mD (Bj (getD x (toNat p4) 0)))) (Aj (mD (Bj (getD x (toNat p4) 0))))*wv (A6 (mD (Bj (getD x (toNat p4) 0)))) (Aj (mD (Bj (getD x (toNat p4) 0))))) ((eD (Bj (getD x (toNat p4) 0)) (Ba (getD x (toNat p4) 0)))+(eD (Bj (getD x (toNat p4) 0)) (Ba (getD x (toNat p4) 0)))))) then Ai.C9.L1 N M x (Ab (p4+1)) (A6 (N1 (wv p3 p3_1) p3_2 (wv (A6 (mD (wv (A6 (mD (Bj (getD x (toNat p4) 0)))) (Aj (mD (Bj (getD x (toNat p4) 0))))*wv (A6 (mD (Bj (getD x (toNat p4) 0)))) (Aj (mD (Bj (getD x (toNat p4) 0))))))) (Aj (mD (wv (A6 (mD (Bj (getD x (toNat p4) 0)))) (Aj (mD (Bj (getD x (toNat p4) 0))))*wv (A6 (mD (Bj (getD x (toNat p4) 0)))) (Aj (mD (Bj (getD x (toNat p4) 0)))))))) (eD (wv (A6 (mD (Bj (getD x (toNat p4) 0)))) (Aj (mD (Bj (getD x (toNat p4) 0))))*wv (A6 (mD (Bj (getD x (toNat p4) 0)))) (Aj (mD (Bj (getD x (toNat p4) 0))))) ((eD (Bj (getD x (toNat p4) 0)) (Ba (getD x (toNat p4) 0)))+(eD (Bj (getD x (toNat p4) 0)) (Ba (getD x (toNat p4) 0))))))) (Aj (N1 (wv p3 p3_1) p3_2 (wv (A6 (mD (wv (A6 (mD (Bj (getD x (toNat p4) 0)))) (Aj (mD (Bj (getD x (toNat p4) 0))))*wv (A6 (mD (Bj (getD x (toNat p4) 0)))) (Aj (mD (Bj (getD x (toNat p4) 0))))))) (Aj (mD (wv (A6 (mD (Bj (getD x (toNat p4) 0)))) (Aj (mD (Bj (getD x (toNat p4) 0))))*wv (A6 (mD (Bj (getD x (toNat p4) 0)))) (Aj (mD (Bj (getD x (toNat p4) 0)))))))) (eD (wv (A6 (mD (Bj (getD x (toNat p4) 0)))) (Aj (mD (Bj (getD x (toNat p4) 0))))*wv (A6 (mD (Bj (getD x (toNat p4) 0)))) (Aj (mD (Bj (getD x (toNat p4) 0))))) ((eD (Bj (getD x (toNat p4) 0)) (Ba (getD x (toNat p4) 0)))+(eD (Bj (getD x (toNat p4) 0)) (Ba (getD x (toNat p4) 0))))))) (Ahv (wv p3 p3_1) p3_2 (wv (A6 (mD (wv (A6 (mD (Bj (getD x (toNat p4) 0)))) (Aj (mD (Bj (getD x (toNat p4) 0))))*wv (A6 (mD (Bj (getD x (toNat p4) 0)))) (Aj (mD (Bj (getD x (toNat p4) 0))))))) (Aj (mD (wv (A6 (mD (Bj (getD x (toNat p4) 0)))) (Aj (mD (Bj (getD x (toNat p4) 0))))*wv (A6 (mD (Bj (getD x (toNat p4) 0)))) (Aj (mD (Bj (getD x (toNat p4) 0)))))))) (eD (wv (A6 (mD (Bj (getD x (toNat p4) 0)))) (Aj (mD (Bj (getD x (toNat p4) 0))))*wv (A6 (mD (Bj (getD x (toNat p4) 0)))) (Aj (mD (Bj (getD x (toNat p4) 0))))) ((eD (Bj (getD x (toNat p4) 0)) (Ba (getD x (toNat p4) 0)))+(eD (Bj (getD x (toNat p4) 0)) (Ba (getD x (toNat p4) 0)))))) else none else none else none else none else some (.agg [.bool p3,.ints .arg .u32 p3_1,.int .i64 p3_2]) :=
 Eq.trans (by kernel_rfl)
 (Ec (Ec (Ec (Cp (Cd ((okM (A6 (mD (Bj (getD x (toNat p4) 0)))) (Aj (mD (Bj (getD x (toNat p4) 0))))&&okM (A6 (mD (Bj (getD x (toNat p4) 0)))) (Aj (mD (Bj (getD x (toNat p4) 0)))))&&(Nl (eD (Bj (getD x (toNat p4) 0)) (Ba (getD x (toNat p4) 0)))&&Nl (eD (Bj (getD x (toNat p4) 0)) (Ba (getD x (toNat p4) 0)))))) (Cp (Cd (((R8 p3 p3_1&&R8 (A6 (mD (wv (A6 (mD (Bj (getD x (toNat p4) 0)))) (Aj (mD (Bj (getD x (toNat p4) 0))))*wv (A6 (mD (Bj (getD x (toNat p4) 0)))) (Aj (mD (Bj (getD x (toNat p4) 0))))))) (Aj (mD (wv (A6 (mD (Bj (getD x (toNat p4) 0)))) (Aj (mD (Bj (getD x (toNat p4) 0))))*wv (A6 (mD (Bj (getD x (toNat p4) 0)))) (Aj (mD (Bj (getD x (toNat p4) 0))))))))&&Nl p3_2)&&Nl (eD (wv (A6 (mD (Bj (getD x (toNat p4) 0)))) (Aj (mD (Bj (getD x (toNat p4) 0))))*wv (A6 (mD (Bj (getD x (toNat p4) 0)))) (Aj (mD (Bj (getD x (toNat p4) 0))))) ((eD (Bj (getD x (toNat p4) 0)) (Ba (getD x (toNat p4) 0)))+(eD (Bj (getD x (toNat p4) 0)) (Ba (getD x (toNat p4) 0))))))) rfl rfl) rfl) rfl) rfl) rfl)
theorem Ai.C9.ev:Bu Ai.C9.E N f55 (Am f55) [.ints .arg .u64 x] =
 Ai.C9.L0 N N x:=by kernel_rfl
end
abbrev _root_.Go.Proofs.S1.Ai.C9.Kn:=A7 prog 55 Ai.C9.spec
theorem Ai.C9.Ac (hk:A1 prog Ai.C9.Bc) (h:Hyp Ai.C9.E f55 Ai.C9.ts Ai.C9.pre Ai.C9.out):Ai.C9.Kn :=
 Al (A2 hk _ _ _) func55 (by kernel_rfl) (by kernel_rfl) h
def B8.one.Bc:List (Nat × Entry):=[]
def B8.one.E:Env:=Be (Bb B8.one.Bc) (fun _=>false) (fun _=>none) (fun _=>none)
theorem B8.one.ev (N:Nat) (b:Int):Bu B8.one.E N f134 (Am f134) [.int .u64 b]=some (.agg [.int .i64 1,.int .i64 1,.ints (.own 4 37) .u64 [b]]):=by kernel_rfl
abbrev _root_.Go.Proofs.S1.B8.one.Kn:=A7 prog 134 B8.one.spec
theorem B8.one.Ac (hk:A1 prog B8.one.Bc) (h:Hyp B8.one.E f134 B8.one.ts B8.one.pre B8.one.out):B8.one.Kn :=
 Al (A2 hk _ _ _) func134 (by kernel_rfl) (by kernel_rfl) h
def B8.Ha.Bc:List (Nat × Entry):=[(60,Bh.Solve.one.spec),(134,B8.one.spec),(54,Aq.Cn.spec),(55,Ai.C9.spec)]
def B8.Ha.E:Env:=Be (Bb B8.Ha.Bc) (fun _=>false) (fun _=>none) (fun _=>none)
theorem B8.Ha.ev (N:Nat):Bu B8.Ha.E N f59 (Am f59) []=bif (Pn [] ([(4607182418800017408:Int)]) ([(4613937818241073152:Int)])&&Co ((1:Int)=1∧(0:Int)=0∧length ((0:Int)::[])=1∧(1:Int)=1∧(1:Int)=1∧([(4607182418800017408:Int)])=[4607182418800017408]∧(1:Int)=1∧(1:Int)=1∧([(4613937818241073152:Int)])=[4613937818241073152])) then bif ((!((length ([(4613937818241073152:Int)]):Int)==(1:Int)))||(Cy ([(4613937818241073152:Int)])&&Co (length ([(4613937818241073152:Int)])=1))) then bif ((length ([(4613937818241073152:Int)]):Int)==(1:Int)) then bif (((length ([(4613937818241073152:Int)]):Int)==(1:Int))&&(Cy [(4613937818241073152:Int)]&&Co (length [(4613937818241073152:Int)]=1))) then bif ((!((length ([(4613937818241073152:Int)]):Int)==(1:Int)))||(Hs (A6 (sqM (getD ([(4613937818241073152:Int)]) 0 0))) (Aj (sqM (getD ([(4613937818241073152:Int)]) 0 0)))&&Hs (A6 (sqM (getD [(4613937818241073152:Int)] 0 0))) (Aj (sqM (getD [(4613937818241073152:Int)] 0 0))))) then some (.bool (bif ((length ([(4613937818241073152:Int)]):Int)==(1:Int)) then (((decide ((sqE (getD ([(4613937818241073152:Int)]) 0 0))=(sqE (getD [(4613937818241073152:Int)] 0 0))))&&Ys (wv (A6 (sqM (getD ([(4613937818241073152:Int)]) 0 0))) (Aj (sqM (getD ([(4613937818241073152:Int)]) 0 0)))) (wv (A6 (sqM (getD [(4613937818241073152:Int)] 0 0))) (Aj (sqM (getD [(4613937818241073152:Int)] 0 0)))))) else false)) else none else none else none else none else none :=
 Eq.trans (by kernel_rfl)
 (Ec (Ax (Oj ((length ([(4613937818241073152:Int)]):Int)==(1:Int))) (Ax (L7 ((length ([(4613937818241073152:Int)]):Int)==(1:Int))) (Cp (Au4 ((length ([(4613937818241073152:Int)]):Int)==(1:Int)) (Cy ([(4613937818241073152:Int)])&&Co (length ([(4613937818241073152:Int)])=1))) (Cp (Ax7 ((length ([(4613937818241073152:Int)]):Int)==(1:Int))) (Cp (Ax8 ((length ([(4613937818241073152:Int)]):Int)==(1:Int)) (Cy [(4613937818241073152:Int)]&&Co (length [(4613937818241073152:Int)]=1))) (Cp (Au3 ((length ([(4613937818241073152:Int)]):Int)==(1:Int)) (Hs (A6 (sqM (getD ([(4613937818241073152:Int)]) 0 0))) (Aj (sqM (getD ([(4613937818241073152:Int)]) 0 0)))&&Hs (A6 (sqM (getD [(4613937818241073152:Int)] 0 0))) (Aj (sqM (getD [(4613937818241073152:Int)] 0 0))))) (Ax (Th ((length ([(4613937818241073152:Int)]):Int)==(1:Int))) rfl) rfl) rfl) rfl) rfl))) rfl)
abbrev _root_.Go.Proofs.S1.B8.Ha.Kn:=A7 prog 59 B8.Ha.spec
theorem B8.Ha.Ac (hk:A1 prog B8.Ha.Bc) (h:Unit→Hyp B8.Ha.E f59 B8.Ha.ts B8.Ha.pre B8.Ha.out):B8.Ha.Kn :=
 Al (A2 hk _ _ _) func59 (by kernel_rfl) (by kernel_rfl) (h ())
def B8.task.Bc:List (Nat × Entry):=[]
def B8.task.E:Env:=Be (Bb B8.task.Bc) (fun _=>false) (fun _=>none) (fun _=>none)
theorem B8.task.ev (N:Nat) (r c:Int) (l:List Int) (p q:Int) (m:List Int) (u v:Int) (h:List Int):Bu B8.task.E N f58 (Am f58) [.agg [.int .i64 r,.int .i64 c,.ints .arg .u64 l,.int .i64 p,.int .i64 q,.ints .arg .u64 m,.int .i64 u,.int .i64 v,.ints .arg .u64 h]]=some (.agg [.int .i64 r,.int .i64 c,.ints .arg .u64 l,.int .i64 p,.int .i64 q,.ints .arg .u64 m,.int .i64 u,.int .i64 v,.ints .arg .u64 h]):=by kernel_rfl
abbrev _root_.Go.Proofs.S1.B8.task.Kn:=A7 prog 58 B8.task.spec
theorem B8.task.Ac (hk:A1 prog B8.task.Bc) (h:Hyp B8.task.E f58 B8.task.ts B8.task.pre B8.task.out):B8.task.Kn :=
 Al (A2 hk _ _ _) func58 (by kernel_rfl) (by kernel_rfl) h
def B8.Dd.Bc:List (Nat × Entry):=[(60,Bh.Solve.spec),(59,B8.Ha.spec),(58,B8.task.spec),(29,Af.L5.spec),(31,Af.Cn.spec),(61,A8.Solve.spec)]
def B8.Dd.E:Env:=Be (Bb B8.Dd.Bc) (fun _=>false) (fun _=>none) (fun _=>none)
theorem B8.Dd.ev (N:Nat) (r c:Int) (l:List Int) (p q:Int) (m:List Int) (u v:Int) (h:List Int):Bu B8.Dd.E N f14 (Am f14) [.agg [.int .i64 r,.int .i64 c,.ints .arg .u64 l,.int .i64 p,.int .i64 q,.ints .arg .u64 m,.int .i64 u,.int .i64 v,.ints .arg .u64 h]]=bif (Gp l) then bif (Gp m) then bif (Gp h) then bif (Pn l m h) then bif (Gp l) then bif ((!(Ee r c l r c l))||(Gp m)) then bif (((!(Ee r c l r c l))||(!(Ee p q m p q m)))||(Gp h)) then bif (((!(Ee r c l r c l))||(!(Ee p q m p q m)))||(!(Ee u v h u v h))) then some (.bool false) else bif (Pn l m h) then bif ((!(((gX r c l p q m u v h).2.2.2)==((gX r c l p q m u v h).2.2.2)))||(Gp ((gX r c l p q m u v h).2.2.1))) then bif ((!((((gX r c l p q m u v h).2.2.2)==((gX r c l p q m u v h).2.2.2))&&(Ee ((gX r c l p q m u v h).1) ((gX r c l p q m u v h).2.1) ((gX r c l p q m u v h).2.2.1) ((gX r c l p q m u v h).1) ((gX r c l p q m u v h).2.1) ((gX r c l p q m u v h).2.2.1))))||(Gp ((gY r c l p q m u v h).2.2.1))) then some (.bool (bif (bif (bif (((gX r c l p q m u v h).2.2.2)==((gX r c l p q m u v h).2.2.2)) then (Ee ((gX r c l p q m u v h).1) ((gX r c l p q m u v h).2.1) ((gX r c l p q m u v h).2.2.1) ((gX r c l p q m u v h).1) ((gX r c l p q m u v h).2.1) ((gX r c l p q m u v h).2.2.1)) else false) then (Ee ((gY r c l p q m u v h).1) ((gY r c l p q m u v h).2.1) ((gY r c l p q m u v h).2.2.1) ((gY r c l p q m u v h).1) ((gY r c l p q m u v h).2.1) ((gY r c l p q m u v h).2.2.1)) else false) then true else false)) else none else none else none else none else none else none else none else none else none else none :=
 Eq.trans (by kernel_rfl)
 (Cp (Cd (Gp l)) (Cp (Cd (Gp m)) (Cp (Cd (Gp h)) (Ec (Ec (Ax (Aaw (Ee r c l r c l)) (Ax (Q0 (Ee r c l r c l)) (Ax (Aaw (Ee r c l r c l)) (Ax (Q0 (Ee r c l r c l)) (Cp (Ax9 (Ee r c l r c l) (Gp m)) (Ax (Q0 (Ee r c l r c l)) (Ax (Ac1 (Ee r c l r c l)) (Ax (Aok (Ee r c l r c l) (Ee p q m p q m)) (Ax (Ah9 (Ee r c l r c l) (Ee p q m p q m)) (Ax (Aok (Ee r c l r c l) (Ee p q m p q m)) (Ax (Ah9 (Ee r c l r c l) (Ee p q m p q m)) (Cp (Aya (Ee r c l r c l) (Ee p q m p q m) (Gp h)) (Ax (Ah9 (Ee r c l r c l) (Ee p q m p q m)) (Ax (Axx (Ee r c l r c l) (Ee p q m p q m)) (Cp (Ax6 (Ee r c l r c l) (Ee p q m p q m) (Ee u v h u v h)) rfl (Ec (Ax (Oj (((gX r c l p q m u v h).2.2.2)==((gX r c l p q m u v h).2.2.2))) (Ax (Oj (((gX r c l p q m u v h).2.2.2)==((gX r c l p q m u v h).2.2.2))) (Ax (L7 (((gX r c l p q m u v h).2.2.2)==((gX r c l p q m u v h).2.2.2))) (Cp (Au3 (((gX r c l p q m u v h).2.2.2)==((gX r c l p q m u v h).2.2.2)) (Gp ((gX r c l p q m u v h).2.2.1))) (Ax (Th (((gX r c l p q m u v h).2.2.2)==((gX r c l p q m u v h).2.2.2))) (Ax (Aoi (((gX r c l p q m u v h).2.2.2)==((gX r c l p q m u v h).2.2.2)) (Ee ((gX r c l p q m u v h).1) ((gX r c l p q m u v h).2.1) ((gX r c l p q m u v h).2.2.1) ((gX r c l p q m u v h).1) ((gX r c l p q m u v h).2.1) ((gX r c l p q m u v h).2.2.1))) (Ax (Aoi (((gX r c l p q m u v h).2.2.2)==((gX r c l p q m u v h).2.2.2)) (Ee ((gX r c l p q m u v h).1) ((gX r c l p q m u v h).2.1) ((gX r c l p q m u v h).2.2.1) ((gX r c l p q m u v h).1) ((gX r c l p q m u v h).2.1) ((gX r c l p q m u v h).2.2.1))) (Ax (Aoj (((gX r c l p q m u v h).2.2.2)==((gX r c l p q m u v h).2.2.2)) (Ee ((gX r c l p q m u v h).1) ((gX r c l p q m u v h).2.1) ((gX r c l p q m u v h).2.2.1) ((gX r c l p q m u v h).1) ((gX r c l p q m u v h).2.1) ((gX r c l p q m u v h).2.2.1))) (Cp (Axn (((gX r c l p q m u v h).2.2.2)==((gX r c l p q m u v h).2.2.2)) (Ee ((gX r c l p q m u v h).1) ((gX r c l p q m u v h).2.1) ((gX r c l p q m u v h).2.2.1) ((gX r c l p q m u v h).1) ((gX r c l p q m u v h).2.1) ((gX r c l p q m u v h).2.2.1)) (Gp ((gY r c l p q m u v h).2.2.1))) (Ax (Au6 (((gX r c l p q m u v h).2.2.2)==((gX r c l p q m u v h).2.2.2)) (Ee ((gX r c l p q m u v h).1) ((gX r c l p q m u v h).2.1) ((gX r c l p q m u v h).2.2.1) ((gX r c l p q m u v h).1) ((gX r c l p q m u v h).2.1) ((gX r c l p q m u v h).2.2.1))) (Ax (Axo (((gX r c l p q m u v h).2.2.2)==((gX r c l p q m u v h).2.2.2)) (Ee ((gX r c l p q m u v h).1) ((gX r c l p q m u v h).2.1) ((gX r c l p q m u v h).2.2.1) ((gX r c l p q m u v h).1) ((gX r c l p q m u v h).2.1) ((gX r c l p q m u v h).2.2.1)) (Ee ((gY r c l p q m u v h).1) ((gY r c l p q m u v h).2.1) ((gY r c l p q m u v h).2.2.1) ((gY r c l p q m u v h).1) ((gY r c l p q m u v h).2.1) ((gY r c l p q m u v h).2.2.1))) (Ax (Axq (((gX r c l p q m u v h).2.2.2)==((gX r c l p q m u v h).2.2.2)) (Ee ((gX r c l p q m u v h).1) ((gX r c l p q m u v h).2.1) ((gX r c l p q m u v h).2.2.1) ((gX r c l p q m u v h).1) ((gX r c l p q m u v h).2.1) ((gX r c l p q m u v h).2.2.1)) (Ee ((gY r c l p q m u v h).1) ((gY r c l p q m u v h).2.1) ((gY r c l p q m u v h).2.2.1) ((gY r c l p q m u v h).1) ((gY r c l p q m u v h).2.1) ((gY r c l p q m u v h).2.2.1))) rfl))) rfl))))) rfl)))) rfl)))) rfl))))))) rfl))))) rfl) rfl) rfl) rfl) rfl)
abbrev _root_.Go.Proofs.S1.B8.Dd.Kn:=A7 prog 14 B8.Dd.spec
theorem B8.Dd.Ac (hk:A1 prog B8.Dd.Bc) (h:Hyp B8.Dd.E f14 B8.Dd.ts B8.Dd.pre B8.Dd.out):B8.Dd.Kn :=
 Al (A2 hk _ _ _) func14 (by kernel_rfl) (by kernel_rfl) h
abbrev _root_.Go.Proofs.S1.Bh.Solve.one.Kn:Prop:=A7 prog 60 Bh.Solve.one.spec
end EqLaw21
open EqLaw21
theorem Aq0 {v e:Int} {t:Nat} (h:v.natAbs<2^t) (h0:0<t) (he:-3000≤e∧e≤3000) (ht:t≤300):Nl (eD v e)=true:=by
 refine Au.2 ?_
 unfold eD
 by_cases k:v=0
 ·rw [A1r k]; omega
 ·rw [A1q k]
  have:=Yc (m:=v.natAbs) (t:=t) h (by omega)
  omega
theorem Aos (b:Nat):(mD (Bj (b:Int))*mD (Bj (b:Int))).natAbs<2^106:=by
 have hm:=E1 b
 have ha:=Ug b
 have h1:(mD (Bj (b:Int))).natAbs<2^53:=by
  have:=Pd (Bj (b:Int))
  omega
 rw [Int.natAbs_mul]
 exact A2f (Nat.mul_lt_mul'' h1 h1) (by decide)
theorem Ai.C9.known:Ai.C9.Kn:=Ai.C9.Ac (.cons Aq.Add.known (.cons Aq.Mul.known (.cons A5.Value.known .nil))) fun x hp=>by
 obtain ⟨h1,h2⟩:=Ad.1 (show (Cy x&&Co (length x=1))=true from hp)
 obtain ⟨b,rfl⟩:=List.length_eq_one_iff.1 (Au.1 h2)
 have hb:Ak b=true:=Au.1 (W0 h1) b A2j
 obtain ⟨n,rfl,hn⟩:=Bo hb
 obtain ⟨v1,v2,v3⟩:=An6 n
 have pe:=Ey n
 have hv:=Ug n
 have hm:=E1 n
 have hl:Dv (mD (Bj (n:Int))).natAbs<3:=A16 (Ka (Pd _)) v1
 have oM:okM (A6 (mD (Bj (n:Int)))) (Aj (mD (Bj (n:Int))))=true:=Avw (by omega)
 have oE:Nl (eD (Bj (n:Int)) (Ba (n:Int)))=true:=Au.2 ⟨v2,v3⟩
 have hs:=Aos n
 have hl2:Dv (mD (mD (Bj (n:Int))*mD (Bj (n:Int)))).natAbs<5:=A16 (Ka (Pd _)) (Ad7 (k:=4) (A2f hs (by decide)) (by omega))
 have oV:R8 (A6 (mD (mD (Bj (n:Int))*mD (Bj (n:Int))))) (Aj (mD (mD (Bj (n:Int))*mD (Bj (n:Int)))))=true:=Adu (by omega)
 have ee:-1074≤eD (Bj (n:Int)) (Ba (n:Int))∨eD (Bj (n:Int)) (Ba (n:Int))=0:=by
  by_cases k:Bj (n:Int)=0
  ·right; unfold eD; rw [A1r k]
  ·left; exact Aqz pe.1 k
 have e2:eD (Bj (n:Int)) (Ba (n:Int))≤1025:=by
  unfold eD
  by_cases k:Bj (n:Int)=0
  ·rw [A1r k]; omega
  ·rw [A1q k]
   have:=Yc (m:=(Bj (n:Int)).natAbs) (t:=53) (by rw [hv]; exact hm) (by omega)
   have:Ba (n:Int)≤972:=pe.2
   omega
 have oE2:Nl (eD (mD (Bj (n:Int))*mD (Bj (n:Int))) (eD (Bj (n:Int)) (Ba (n:Int))+eD (Bj (n:Int)) (Ba (n:Int))))=true:=Aq0 hs (by decide) (by omega) (by decide)
 have z:wv false []=0:=by decide
 refine ⟨2,Ai.C9.out [.l [(n:Int)]],[],?_,Wk.Gy (.cons .bool (.cons .Qv (.cons .int .nil)))⟩
 rw [Ai.C9.ev,Ai.C9.Av,Aw]
 simp only [F1,List.getD_cons_zero,List.length_singleton]
 rw [A05 (show (0:Int)<((1:Nat):Int) by decide),A04,A04,hb,A04,oM,oE,A1a,A1a,A04,oV,oE2,show R8 false []=true from Adu (v:=0) (by decide),show Nl 0=true from Au.2 (by decide),A1a,A1a,A1a,A04,Ai.C9.B6,Aw,A09 (by simp),A08]
 rfl
theorem B8.one.known:B8.one.Kn:=B8.one.Ac .nil fun b _ =>
 ⟨0,_,[4],B8.one.ev 0 b,Tf (List.mem_singleton.2 rfl)⟩
theorem B8.task.known:B8.task.Kn:=B8.task.Ac .nil fun r c l p q m u v h _ =>
 ⟨0,_,[],B8.task.ev 0 r c l p q m u v h,Wk.Gy (.cons .int (.cons .int (.cons .Qv (.cons .int (.cons .int (.cons .Qv (.cons .int (.cons .int (.cons .Qv .nil)))))))))⟩
theorem Av7:gX 1 0 [] 1 1 [4607182418800017408] 1 1 [4613937818241073152]=(0,1,[],0):=by decide +kernel
theorem Av6:gY 1 0 [] 1 1 [4607182418800017408] 1 1 [4613937818241073152]=(1,1,[4613937818241073152],0):=by decide +kernel
theorem Aqi {x:Int} (h:decide (0≤x∧x<18446744073709551616)=true):Ag [x]=true:=Au.2 fun y hy=>by
 rw [List.mem_singleton.1 hy]; exact Au.2 (A1u h)
theorem Avu {x:Int} (h:decide (0≤x∧x<18446744073709551616)=true):Cy [x]=true:=Au.2 ⟨by simp,fun y hy=>by
 rw [List.mem_singleton.1 hy]; exact Au.2 (A1u h)⟩
theorem Aor:sqM 4613937818241073152=9:=by decide +kernel
theorem Bh.Solve.one.known:Bh.Solve.one.Kn:=A7.Yb (P:=_) (pre:=Bh.Solve.pre) (out:=Bh.Solve.out) Bh.Solve.known [] fun ats h=>by
 unfold Bh.Solve.one.pre at h
 split at h
 ·obtain ⟨h1,h2⟩:=Ad.1 h
  obtain ⟨rfl,rfl,hl,rfl,rfl,rfl,rfl,rfl,rfl⟩:=Au.1 h2
  obtain rfl:=A15 (by simpa using hl)
  refine ⟨h1,?_⟩
  show Wk [] (Xp (gX 1 0 [] 1 1 [4607182418800017408] 1 1 [4613937818241073152]) (gY 1 0 [] 1 1 [4607182418800017408] 1 1 [4613937818241073152]) (gX 1 0 [] 1 1 [4607182418800017408] 1 1 [4613937818241073152]).2.2.2) _
  rw [Av7,Av6]
  exact Wk.Gv (.cons Uf (.cons Uf (.cons .int .nil)))
 ·cases h
theorem B8.Ha.known:B8.Ha.Kn:=B8.Ha.Ac (.cons Bh.Solve.one.known (.cons B8.one.known (.cons Aq.Cn.known (.cons Ai.C9.known .nil)))) fun _ _=>by
 have a1:Pn [] [4607182418800017408] [4613937818241073152]=true:=by
  unfold Pn
  rw [Aqi (by decide),Aqi (x:=4613937818241073152) (by decide),F8]; rfl
 have a2:Co ((1:Int)=1∧(0:Int)=0∧length ((0:Int)::[])=1∧(1:Int)=1∧(1:Int)=1∧([(4607182418800017408:Int)])=[4607182418800017408]∧(1:Int)=1∧(1:Int)=1∧([(4613937818241073152:Int)])=[4613937818241073152])=true:=Au.2 (by decide)
 have o1:Cy [4613937818241073152]=true:=Avu (by decide)
 have o2:Co (length [(4613937818241073152:Int)]=1)=true:=Au.2 rfl
 have o3:Hs (A6 9) (Aj 9)=true:=Iz (by decide)
 refine ⟨0,B8.Ha.out [],[],?_,.bool⟩
 rw [B8.Ha.ev,a1,a2,o1,show Co (length ([4613937818241073152]:List Int)=1)=true from Au.2 rfl]
 simp only [List.getD_cons_zero,Aor,F1,o3]
 rfl
open EqLaw21
theorem Alo (r c:Int) (l:List Int) (p q:Int) (m:List Int):(E8 r c l p q m).2.2.1.length≤36:=by
 unfold E8 Fo
 split
 ·exact Nat.zero_le _
 ·split
  ·rename_i k
   obtain ⟨h1,h2⟩:=Ad.1 k
   obtain ⟨R,C,e1,e2,r6,c6,_⟩:=Ck h1
   obtain ⟨P,Q,e3,e4,p6,q6,_⟩:=Ck h2
   split
   ·dsimp only
    rw [Ca,e1,e4,A06,A06]
    exact A10 r6 q6
   ·exact Nat.zero_le _
  ·exact Nat.zero_le _
theorem Awx (r c:Int) (l:List Int) (p q:Int) (m:List Int):(Sz r c l p q m).2.2.1.length≤36:=by
 by_cases h:(Sz r c l p q m).2.2.2=0
 ·obtain ⟨R,Q,Y,_,_,r6,q6,e,hl,_,_⟩:=Ae2 h
  rw [e]
  have:=A10 r6 q6
  show Y.length≤36
  omega
 ·rw [Aob h]; exact Nat.zero_le _
theorem Ko {e:Int}:(Ga e).2.2.1.length≤36:=Nat.zero_le _
theorem Iq {P:Prop} [Decidable P] {x y:MX} (h1:x.2.2.1.length≤36) (h2:y.2.2.1.length≤36):(if P then x else y).2.2.1.length≤36:=by
 by_cases k:P
 ·rw [A1r k]; exact h1
 ·rw [A1q k]; exact h2
theorem Atr {x:MX} (h:x.2.2.1.length≤36):(Z5 x).2.2.1.length≤36:=by
 unfold Z5 Ag9
 exact Iq Ko (Iq Ko h)
theorem Ayr (x y:MX):(Tc x y).2.2.1.length≤36:=by
 unfold Tc
 exact Iq Ko (Iq Ko (Iq Ko (Atr (Alo _ _ _ _ _ _))))
theorem Ayq (r c:Int) (l:List Int) (p q:Int) (m:List Int) (u v:Int) (h:List Int):Gp (gX r c l p q m u v h).2.2.1=true:=by
 refine Au.2 (A2b (m:=36) ?_ (by decide))
 unfold gX gX2
 exact Iq Ko (Iq Ko (Iq Ko (Iq Ko (Awx _ _ _ _ _ _))))
theorem Ayp (r c:Int) (l:List Int) (p q:Int) (m:List Int) (u v:Int) (h:List Int):Gp (gY r c l p q m u v h).2.2.1=true:=by
 refine Au.2 (A2b (m:=36) ?_ (by decide))
 unfold gY gY2
 exact Iq Ko (Iq Ko (Iq Ko (Iq Ko (Iq Ko (Ayr _ _)))))
theorem B8.Dd.known:B8.Dd.Kn:=B8.Dd.Ac (.cons Bh.Solve.known (.cons B8.Ha.known (.cons B8.task.known (.cons Af.L5.known (.cons Af.Cn.known (.cons A8.Solve.known .nil)))))) fun r c l p q m u v h hp=>by
 obtain ⟨h0,h1⟩:=Ad.1 (show (Pn l m h&&((Gp l&&Gp m)&&Gp h))=true from hp)
 obtain ⟨h2,oh⟩:=Ad.1 h1
 obtain ⟨ol,om⟩:=Ad.1 h2
 refine ⟨0,B8.Dd.out [.i r,.i c,.l l,.i p,.i q,.l m,.i u,.i v,.l h],[],?_,.bool⟩
 show _=some (DV.bool true)
 rw [B8.Dd.ev,ol,om,oh,h0,Ayq,Ayp,O0,O0,O0,O0,O0,A14]
 rfl
end Go.Proofs.S1
end
