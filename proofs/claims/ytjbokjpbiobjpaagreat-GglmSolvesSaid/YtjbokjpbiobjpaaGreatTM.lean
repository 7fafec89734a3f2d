/- A verified evaluator of the program's form and its use for this seat: S1EqGg, S1PGg, S1PGgA, S1EqRef21, S1PRef21, S1PRef21A, S1PRef21B, S1EqRefM, S1PRefM, S1EqLaw17, S1PLaw17. -/
import Derived.Test.YtjbokjpbiobjpaaGreatTE
import Derived.Test.YtjbokjpbiobjpaaGreatTF
import Derived.Test.YtjbokjpbiobjpaaGreatTL
import Derived.Test.YtjbokjpbiobjpaaGreatTG
import Derived.Test.YtjbokjpbiobjpaaGreatTK
set_option linter.unusedVariables false
set_option linter.unusedSimpArgs false
noncomputable section
open Int (toNat)
open List (length getD)
open Go.Proofs.Tryz
namespace Go.Proofs.S1
open Go Go.Den Go.Rnd Go.Proofs
set_option maxRecDepth 100000
namespace EqGg
def rq.both.Bc:List (Nat × Entry):=[(167,Aa.Cb.spec)]
def rq.both.E:Env:=Be (Bb rq.both.Bc) (fun _=>false) (fun _=>none) (fun _=>none)
theorem rq.both.ev (N:Nat) (r c:Int) (l:List Int) (p q:Int) (m:List Int):Bu rq.both.E N f231 (Am f231) [.agg [.int .i64 r,.int .i64 c,.ints .arg .u64 l],.agg [.int .i64 p,.int .i64 q,.ints .arg .u64 m]]=some (.tup [.agg [.int .i64 ((Ap p q m).1),.int .i64 ((Ap p q m).2.1),.ints .fresh .u64 ((Ap p q m).2.2.1)],.agg [.int .i64 ((Ap r c l).1),.int .i64 ((Ap r c l).2.1),.ints .fresh .u64 ((Ap r c l).2.2.1)]]):=by kernel_rfl
abbrev _root_.Go.Proofs.S1.rq.both.Kn:=A7 prog 231 rq.both.spec
theorem rq.both.Ac (hk:A1 prog rq.both.Bc) (h:Hyp rq.both.E f231 rq.both.ts rq.both.pre rq.both.out):rq.both.Kn :=
 Al (A2 hk _ _ _) func231 (by kernel_rfl) (by kernel_rfl) h
def rq.Lq.Bc:List (Nat × Entry):=[(167,Aa.Cb.spec),(166,qr.By.spec),(231,rq.both.spec)]
def rq.Lq.E:Env:=Be (Bb rq.Lq.Bc) (fun _=>false) (fun _=>none) (fun _=>none)
theorem rq.Lq.ev (N:Nat) (r c:Int) (l:List Int):Bu rq.Lq.E N f200 (Am f200) [.agg [.int .i64 r,.int .i64 c,.ints .arg .u64 l]]=bif (((Ap r c l).2.2.2) !=(0:Int)) then some (.tup [.agg [.int .i64 0,.int .i64 0,.nil],.agg [.int .i64 0,.int .i64 0,.nil],.int .i64 ((Ap r c l).2.2.2)]) else bif (Ag ((Ap r c l).2.2.1)) then bif ((Gs ((Ap r c l).1) ((Ap r c l).2.1) ((Ap r c l).2.2.1)) !=(0:Int)) then some (.tup [.agg [.int .i64 0,.int .i64 0,.nil],.agg [.int .i64 0,.int .i64 0,.nil],.int .i64 (Gs ((Ap r c l).1) ((Ap r c l).2.1) ((Ap r c l).2.2.1))]) else some (.tup [.agg [.int .i64 ((Ap ((rX ((Ap r c l).1) ((Ap r c l).2.1) ((Ap r c l).2.2.1)).1) ((rX ((Ap r c l).1) ((Ap r c l).2.1) ((Ap r c l).2.2.1)).2.1) ((rX ((Ap r c l).1) ((Ap r c l).2.1) ((Ap r c l).2.2.1)).2.2.1)).1),.int .i64 ((Ap ((rX ((Ap r c l).1) ((Ap r c l).2.1) ((Ap r c l).2.2.1)).1) ((rX ((Ap r c l).1) ((Ap r c l).2.1) ((Ap r c l).2.2.1)).2.1) ((rX ((Ap r c l).1) ((Ap r c l).2.1) ((Ap r c l).2.2.1)).2.2.1)).2.1),.ints .fresh .u64 ((Ap ((rX ((Ap r c l).1) ((Ap r c l).2.1) ((Ap r c l).2.2.1)).1) ((rX ((Ap r c l).1) ((Ap r c l).2.1) ((Ap r c l).2.2.1)).2.1) ((rX ((Ap r c l).1) ((Ap r c l).2.1) ((Ap r c l).2.2.1)).2.2.1)).2.2.1)],.agg [.int .i64 ((Ap ((qX ((Ap r c l).1) ((Ap r c l).2.1) ((Ap r c l).2.2.1)).1) ((qX ((Ap r c l).1) ((Ap r c l).2.1) ((Ap r c l).2.2.1)).2.1) ((qX ((Ap r c l).1) ((Ap r c l).2.1) ((Ap r c l).2.2.1)).2.2.1)).1),.int .i64 ((Ap ((qX ((Ap r c l).1) ((Ap r c l).2.1) ((Ap r c l).2.2.1)).1) ((qX ((Ap r c l).1) ((Ap r c l).2.1) ((Ap r c l).2.2.1)).2.1) ((qX ((Ap r c l).1) ((Ap r c l).2.1) ((Ap r c l).2.2.1)).2.2.1)).2.1),.ints .fresh .u64 ((Ap ((qX ((Ap r c l).1) ((Ap r c l).2.1) ((Ap r c l).2.2.1)).1) ((qX ((Ap r c l).1) ((Ap r c l).2.1) ((Ap r c l).2.2.1)).2.1) ((qX ((Ap r c l).1) ((Ap r c l).2.1) ((Ap r c l).2.2.1)).2.2.1)).2.2.1)],.int .i64 0]) else none:=by kernel_rfl
abbrev _root_.Go.Proofs.S1.rq.Lq.Kn:=A7 prog 200 rq.Lq.spec
theorem rq.Lq.Ac (hk:A1 prog rq.Lq.Bc) (h:Hyp rq.Lq.E f200 rq.Lq.ts rq.Lq.pre rq.Lq.out):rq.Lq.Kn :=
 Al (A2 hk _ _ _) func200 (by kernel_rfl) (by kernel_rfl) h
def Bh.Check.hint:Nat→Option Bg
 | 0=>some { keep:=[1,14,15],objs:=[],boxes:=[1] }
 | _=>none
def Bh.Check.Bc:List (Nat × Entry):=[(86,Cu.Check.spec)]
def Bh.Check.E:Env:=Be (Bb Bh.Check.Bc) (fun _=>false) Bh.Check.hint (fun _=>none)
theorem Bh.Check.ev (N:Nat) (r c:Int) (l:List Int) (p q:Int) (m:List Int) (u v:Int) (h:List Int):Bu Bh.Check.E (N+5) f56 (Am f56) [.agg [.int .i64 r,.int .i64 c,.ints .arg .u64 l,.int .i64 p,.int .i64 q,.ints .arg .u64 m,.int .i64 u,.int .i64 v,.ints .arg .u64 h]]=bif (Ag l) then bif ((B4 r c l) !=(0:Int)) then some (.int .i64 (B4 r c l)) else bif (Ag m) then bif ((B4 p q m) !=(0:Int)) then some (.int .i64 (B4 p q m)) else bif (Ag h) then bif ((B4 u v h) !=(0:Int)) then some (.int .i64 (B4 u v h)) else bif (((((p !=r)||(u !=r))||(v !=(1:Int)))||(Bd r c))||(Bd (Ab (c+q)) r)) then some (.int .i64 3) else some (.int .i64 0) else none else none else none :=
 Eq.trans (by kernel_rfl)
 (Ec (Ec rfl (Ec (Ec rfl (Ec (Ec rfl (Ax (Uc (p !=r)) (Ax (Sr (p !=r)) (Ax (Sr (p !=r)) (Ax (Uc (p !=r)) (Ax (tt8 (p !=r)) (Ax (Ye (p !=r)) (Ax (Alq (p !=r) (u !=r)) (Ax (Ac0 (p !=r) (u !=r)) (Ax (Ac0 (p !=r) (u !=r)) (Ax (Ac0 (p !=r) (u !=r)) (Ax (Ar6 (p !=r) (u !=r)) (Ax (Alr (p !=r) (u !=r) (v !=(1:Int))) (Ax (Alr (p !=r) (u !=r) (v !=(1:Int))) (Ax (Auj (p !=r) (u !=r) (v !=(1:Int))) (Ax (Ar7 (p !=r) (u !=r) (v !=(1:Int))) (Ax (Aau (p !=r) (u !=r) (v !=(1:Int)) (Bd r c)) (Ax (Aau (p !=r) (u !=r) (v !=(1:Int)) (Bd r c)) (Ax (Aau (p !=r) (u !=r) (v !=(1:Int)) (Bd r c)) (Ax (Aav (p !=r) (u !=r) (v !=(1:Int)) (Bd r c)) (Ax (Aav (p !=r) (u !=r) (v !=(1:Int)) (Bd r c)) (Ax (Alu (p !=r) (u !=r) (v !=(1:Int)) (Bd r c)) (Ax (Alu (p !=r) (u !=r) (v !=(1:Int)) (Bd r c)) (Ax (Ar8 (p !=r) (u !=r) (v !=(1:Int)) (Bd r c)) (Cp (Au1 (p !=r) (u !=r) (v !=(1:Int)) (Bd r c) (Bd (Ab (c+q)) r)) rfl rfl))))))))))))))))))))))))) rfl)) rfl)) rfl)
abbrev _root_.Go.Proofs.S1.Bh.Check.Kn:=A7 prog 56 Bh.Check.spec
theorem Bh.Check.Ac (hk:A1 prog Bh.Check.Bc) (h:Hyp Bh.Check.E f56 Bh.Check.ts Bh.Check.pre Bh.Check.out):Bh.Check.Kn :=
 Al (A2 hk _ _ _) func56 (by kernel_rfl) (by kernel_rfl) h
def Bh.Et.Bc:List (Nat × Entry):=[(124,Aa.Part.spec)]
def Bh.Et.E:Env:=Be (Bb Bh.Et.Bc) (fun _=>false) (fun _=>none) (fun _=>none)
theorem Bh.Et.ev (N:Nat) (r c:Int) (l:List Int) (x y:Int):Bu Bh.Et.E N f199 (Am f199) [.agg [.int .i64 r,.int .i64 c,.ints .arg .u64 l],.int .i64 x,.int .i64 y]=some (.agg [.int .i64 ((Az r c l x 0 (Ab (y-x)) c).1),.int .i64 ((Az r c l x 0 (Ab (y-x)) c).2.1),.ints .fresh .u64 ((Az r c l x 0 (Ab (y-x)) c).2.2.1)]):=by kernel_rfl
abbrev _root_.Go.Proofs.S1.Bh.Et.Kn:=A7 prog 199 Bh.Et.spec
theorem Bh.Et.Ac (hk:A1 prog Bh.Et.Bc) (h:Hyp Bh.Et.E f199 Bh.Et.ts Bh.Et.pre Bh.Et.out):Bh.Et.Kn :=
 Al (A2 hk _ _ _) func199 (by kernel_rfl) (by kernel_rfl) h
def Bh.apart.Bc:List (Nat × Entry):=[(86,Cu.Check.spec),(199,Bh.Et.spec),(166,qr.By.spec),(98,qr.Fi.spec),(24,solve.Flat.spec)]
def Bh.apart.live:Nat→Option (List Nat)
 | 2=>some [1,2,4,5,6]
 | 7=>some [1,2,4,7,8,9,10]
 | 11=>some [1,2,4,7,8,9,10,13]
 | 12=>some [2,7,8,9,10,13,15]
 | 14=>some [2,7,8,9,10,13,15]
 | _=>none
def Bh.apart.E:Env:=Be (Bb Bh.apart.Bc) (fun _=>false) (fun _=>none) Bh.apart.live
section
variable (N:Nat) (r c:Int) (l:List Int) (p q:Int) (m:List Int) (u v:Int) (h:List Int) (p6 p5 p5_1:Int) (p5_2:List Int) (p4 p4_1:Int) (p4_2:List Int) (p10 p10_1:Int) (p10_2:List Int) (p13 p13_1:Int) (p13_2:List Int) (p15 p15_1:Int) (p15_2:List Int)
def Bh.apart.C2:Option DV:=cutAt Bh.apart.E N f135 (Am f135) [1,1,0] [] ⟨E5 88 [(1,.ptr 1 0 0),(2,.ptr 2 0 0),(4,.ptr 4 0 0),(5,.ptr 5 0 0),(6,.int .i64 p6)],[(5,false,.box [.int .i64 p5,.int .i64 p5_1,.ints .arg .u64 p5_2]),(4,false,.box [.int .i64 p4,.int .i64 p4_1,.ints .arg .u64 p4_2]),(2,false,.box [.int .i64 0,.int .i64 0,.nil,.int .i64 0,.int .i64 0,.nil,.int .i64 0,.int .i64 0,.nil,.int .i64 0,.int .i64 0,.nil,.int .i64 0,.int .i64 0,.nil]),(1,false,.box [.int .i64 r,.int .i64 c,.ints .arg .u64 l,.int .i64 p,.int .i64 q,.ints .arg .u64 m,.int .i64 u,.int .i64 v,.ints .arg .u64 h])]⟩
def Bh.apart.C7:Option DV:=cutAt Bh.apart.E N f135 (Am f135) [1,1,1,1,1,1,0] [] ⟨E5 88 [(1,.ptr 1 0 0),(2,.ptr 2 0 0),(4,.ptr 4 0 0),(7,.int .i64 r),(8,.int .i64 c),(9,.fn 199 [] []),(10,.ptr 10 0 0)],[(10,false,.box [.int .i64 p10,.int .i64 p10_1,.ints .fresh .u64 p10_2]),(5,false,.box [.int .i64 p5,.int .i64 p5_1,.ints .arg .u64 p5_2]),(4,false,.box [.int .i64 p4,.int .i64 p4_1,.ints .arg .u64 p4_2]),(2,false,.box [.int .i64 0,.int .i64 0,.nil,.int .i64 0,.int .i64 0,.nil,.int .i64 0,.int .i64 0,.nil,.int .i64 0,.int .i64 0,.nil,.int .i64 0,.int .i64 0,.nil]),(1,false,.box [.int .i64 r,.int .i64 c,.ints .arg .u64 l,.int .i64 p,.int .i64 q,.ints .arg .u64 m,.int .i64 u,.int .i64 v,.ints .arg .u64 h])]⟩
def Bh.apart.C11:Option DV:=cutAt Bh.apart.E N f135 (Am f135) [1,1,1,1,1,1,1,1] [] ⟨E5 88 [(1,.ptr 1 0 0),(2,.ptr 2 0 0),(4,.ptr 4 0 0),(7,.int .i64 r),(8,.int .i64 c),(9,.fn 199 [] []),(10,.ptr 10 0 0),(13,.ptr 13 0 0)],[(13,false,.box [.int .i64 p13,.int .i64 p13_1,.ints .fresh .u64 p13_2]),(10,false,.box [.int .i64 p10,.int .i64 p10_1,.ints .fresh .u64 p10_2]),(5,false,.box [.int .i64 p5,.int .i64 p5_1,.ints .arg .u64 p5_2]),(4,false,.box [.int .i64 p4,.int .i64 p4_1,.ints .arg .u64 p4_2]),(2,false,.box [.int .i64 0,.int .i64 0,.nil,.int .i64 0,.int .i64 0,.nil,.int .i64 0,.int .i64 0,.nil,.int .i64 0,.int .i64 0,.nil,.int .i64 0,.int .i64 0,.nil]),(1,false,.box [.int .i64 r,.int .i64 c,.ints .arg .u64 l,.int .i64 p,.int .i64 q,.ints .arg .u64 m,.int .i64 u,.int .i64 v,.ints .arg .u64 h])]⟩
def Bh.apart.C12:Option DV:=cutAt Bh.apart.E N f135 (Am f135) [1,1,1,1,1,1,1,1,1,0] [] ⟨E5 88 [(2,.ptr 2 0 0),(7,.int .i64 r),(8,.int .i64 c),(9,.fn 199 [] []),(10,.ptr 10 0 0),(13,.ptr 13 0 0),(15,.ptr 15 0 0)],[(15,false,.box [.int .i64 p15,.int .i64 p15_1,.ints .fresh .u64 p15_2]),(13,false,.box [.int .i64 p13,.int .i64 p13_1,.ints .fresh .u64 p13_2]),(10,false,.box [.int .i64 p10,.int .i64 p10_1,.ints .fresh .u64 p10_2]),(5,false,.box [.int .i64 p5,.int .i64 p5_1,.ints .arg .u64 p5_2]),(4,false,.box [.int .i64 p4,.int .i64 p4_1,.ints .arg .u64 p4_2]),(2,false,.box [.int .i64 0,.int .i64 0,.nil,.int .i64 0,.int .i64 0,.nil,.int .i64 0,.int .i64 0,.nil,.int .i64 0,.int .i64 0,.nil,.int .i64 0,.int .i64 0,.nil]),(1,false,.box [.int .i64 r,.int .i64 c,.ints .arg .u64 l,.int .i64 p,.int .i64 q,.ints .arg .u64 m,.int .i64 u,.int .i64 v,.ints .arg .u64 h])]⟩
def Bh.apart.C14:Option DV:=cutAt Bh.apart.E N f135 (Am f135) [1,1,1,1,1,1,1,1,1,1] [] ⟨E5 88 [(2,.ptr 2 0 0),(7,.int .i64 r),(8,.int .i64 c),(9,.fn 199 [] []),(10,.ptr 10 0 0),(13,.ptr 13 0 0),(15,.ptr 15 0 0)],[(15,false,.box [.int .i64 p15,.int .i64 p15_1,.ints .fresh .u64 p15_2]),(13,false,.box [.int .i64 p13,.int .i64 p13_1,.ints .fresh .u64 p13_2]),(10,false,.box [.int .i64 p10,.int .i64 p10_1,.ints .fresh .u64 p10_2]),(5,false,.box [.int .i64 p5,.int .i64 p5_1,.ints .arg .u64 p5_2]),(4,false,.box [.int .i64 p4,.int .i64 p4_1,.ints .arg .u64 p4_2]),(2,false,.box [.int .i64 0,.int .i64 0,.nil,.int .i64 0,.int .i64 0,.nil,.int .i64 0,.int .i64 0,.nil,.int .i64 0,.int .i64 0,.nil,.int .i64 0,.int .i64 0,.nil]),(1,false,.box [.int .i64 r,.int .i64 c,.ints .arg .u64 l,.int .i64 p,.int .i64 q,.ints .arg .u64 m,.int .i64 u,.int .i64 v,.ints .arg .u64 h])]⟩
theorem Bh.apart.Ahy:Bh.apart.C2 N r c l p q m u v h p6 p5 p5_1 p5_2 p4 p4_1 p4_2=bif (p6 !=(0:Int)) then some (.tup [.agg [.int .i64 0,.int .i64 0,.nil,.int .i64 0,.int .i64 0,.nil,.int .i64 0,.int .i64 0,.nil,.int .i64 0,.int .i64 0,.nil,.int .i64 0,.int .i64 0,.nil],.int .i64 p6]) else bif (Co (-100≤(0:Int)∧(0:Int)≤100∧-100≤c∧c≤100)) then Bh.apart.C7 N r c l p q m u v h p5 p5_1 p5_2 p4 p4_1 p4_2 ((Az p5 p5_1 p5_2 0 0 (c-0) p5_1).1) ((Az p5 p5_1 p5_2 0 0 (c-0) p5_1).2.1) ((Az p5 p5_1 p5_2 0 0 (c-0) p5_1).2.2.1) else none:=(Dt _ _ _ _ _ _ _).trans (by kernel_rfl)
theorem Bh.apart.Aru:Bh.apart.C7 N r c l p q m u v h p5 p5_1 p5_2 p4 p4_1 p4_2 p10 p10_1 p10_2=bif (Ag p10_2) then bif ((Jv p10 p10_1 p10_2).1) then some (.tup [.agg [.int .i64 0,.int .i64 0,.nil,.int .i64 0,.int .i64 0,.nil,.int .i64 0,.int .i64 0,.nil,.int .i64 0,.int .i64 0,.nil,.int .i64 0,.int .i64 0,.nil],.int .i64 5]) else bif (Ag p4_2&&Ag h) then Bh.apart.C11 N r c l p q m u v h p5 p5_1 p5_2 p4 p4_1 p4_2 p10 p10_1 p10_2 ((E8 p4 p4_1 p4_2 u v h).1) ((E8 p4 p4_1 p4_2 u v h).2.1) ((E8 p4 p4_1 p4_2 u v h).2.2.1) else none else none:=(Dt _ _ _ _ _ _ _).trans (by kernel_rfl)
theorem Bh.apart.Ub:Bh.apart.C11 N r c l p q m u v h p5 p5_1 p5_2 p4 p4_1 p4_2 p10 p10_1 p10_2 p13 p13_1 p13_2=bif (Ag p4_2&&Ag m) then Bh.apart.C12 N r c l p q m u v h p5 p5_1 p5_2 p4 p4_1 p4_2 p10 p10_1 p10_2 p13 p13_1 p13_2 ((E8 p4 p4_1 p4_2 p q m).1) ((E8 p4 p4_1 p4_2 p q m).2.1) ((E8 p4 p4_1 p4_2 p q m).2.2.1) else none:=(Dt _ _ _ _ _ _ _).trans (by kernel_rfl)
theorem Bh.apart.Ua:Bh.apart.C12 N r c l p q m u v h p5 p5_1 p5_2 p4 p4_1 p4_2 p10 p10_1 p10_2 p13 p13_1 p13_2 p15 p15_1 p15_2=bif (Ag p13_2) then bif (((B4 p13 p13_1 p13_2) !=(0:Int))||(Ag p15_2)) then bif (((B4 p13 p13_1 p13_2) !=(0:Int))||((B4 p15 p15_1 p15_2) !=(0:Int))) then some (.tup [.agg [.int .i64 0,.int .i64 0,.nil,.int .i64 0,.int .i64 0,.nil,.int .i64 0,.int .i64 0,.nil,.int .i64 0,.int .i64 0,.nil,.int .i64 0,.int .i64 0,.nil],.int .i64 2]) else Bh.apart.C14 N r c l p q m u v h p5 p5_1 p5_2 p4 p4_1 p4_2 p10 p10_1 p10_2 p13 p13_1 p13_2 p15 p15_1 p15_2 else none else none :=
 Eq.trans ((Dt _ _ _ _ _ _ _).trans (by kernel_rfl))
 (Ec (Ax (Uc ((B4 p13 p13_1 p13_2) !=(0:Int))) (Cp (Alp ((B4 p13 p13_1 p13_2) !=(0:Int)) (Ag p15_2)) (Ax (Sr ((B4 p13 p13_1 p13_2) !=(0:Int))) (Ax (Ye ((B4 p13 p13_1 p13_2) !=(0:Int))) (Cp (tt5 ((B4 p13 p13_1 p13_2) !=(0:Int)) ((B4 p15 p15_1 p15_2) !=(0:Int))) rfl rfl))) rfl)) rfl)
theorem Bh.apart.Aat:Bh.apart.C14 N r c l p q m u v h p5 p5_1 p5_2 p4 p4_1 p4_2 p10 p10_1 p10_2 p13 p13_1 p13_2 p15 p15_1 p15_2=bif (Co (-100≤(0:Int)∧(0:Int)≤100∧-100≤c∧c≤100)) then bif (Co (-100≤c∧c≤100∧-100≤r∧r≤100)) then bif (Co (-100≤(0:Int)∧(0:Int)≤100∧-100≤c∧c≤100)) then bif (Co (-100≤c∧c≤100∧-100≤r∧r≤100)) then some (.tup [.agg [.int .i64 p10,.int .i64 p10_1,.ints .fresh .u64 p10_2,.int .i64 ((Az p13 p13_1 p13_2 0 0 (c-0) p13_1).1),.int .i64 ((Az p13 p13_1 p13_2 0 0 (c-0) p13_1).2.1),.ints .fresh .u64 ((Az p13 p13_1 p13_2 0 0 (c-0) p13_1).2.2.1),.int .i64 ((Az p13 p13_1 p13_2 c 0 (r-c) p13_1).1),.int .i64 ((Az p13 p13_1 p13_2 c 0 (r-c) p13_1).2.1),.ints .fresh .u64 ((Az p13 p13_1 p13_2 c 0 (r-c) p13_1).2.2.1),.int .i64 ((Az p15 p15_1 p15_2 0 0 (c-0) p15_1).1),.int .i64 ((Az p15 p15_1 p15_2 0 0 (c-0) p15_1).2.1),.ints .fresh .u64 ((Az p15 p15_1 p15_2 0 0 (c-0) p15_1).2.2.1),.int .i64 ((Az p15 p15_1 p15_2 c 0 (r-c) p15_1).1),.int .i64 ((Az p15 p15_1 p15_2 c 0 (r-c) p15_1).2.1),.ints .fresh .u64 ((Az p15 p15_1 p15_2 c 0 (r-c) p15_1).2.2.1)],.int .i64 0]) else none else none else none else none :=
 Eq.trans ((Dt _ _ _ _ _ _ _).trans (by kernel_rfl))
 (Cp (Cd (Co (-100≤(0:Int)∧(0:Int)≤100∧-100≤c∧c≤100))) (Cp (Cd (Co (-100≤c∧c≤100∧-100≤r∧r≤100))) (Cp (Cd (Co (-100≤(0:Int)∧(0:Int)≤100∧-100≤c∧c≤100))) (Cp (Cd (Co (-100≤c∧c≤100∧-100≤r∧r≤100))) rfl rfl) rfl) rfl) rfl)
theorem Bh.apart.ev:Bu Bh.apart.E N f135 (Am f135) [.agg [.int .i64 r,.int .i64 c,.ints .arg .u64 l,.int .i64 p,.int .i64 q,.ints .arg .u64 m,.int .i64 u,.int .i64 v,.ints .arg .u64 h]]=bif (Ag l) then Bh.apart.C2 N r c l p q m u v h (Gs r c l) ((rX r c l).1) ((rX r c l).2.1) ((rX r c l).2.2.1) ((qX r c l).1) ((qX r c l).2.1) ((qX r c l).2.2.1) else none:=by kernel_rfl
end
abbrev _root_.Go.Proofs.S1.Bh.apart.Kn:=A7 prog 135 Bh.apart.spec
theorem Bh.apart.Ac (hk:A1 prog Bh.apart.Bc) (h:Hyp Bh.apart.E f135 Bh.apart.ts Bh.apart.pre Bh.apart.out):Bh.apart.Kn :=
 Al (A2 hk _ _ _) func135 (by kernel_rfl) (by kernel_rfl) h
def Bh.errors.Bc:List (Nat × Entry):=[(86,Cu.Check.spec),(124,Aa.Part.spec),(98,qr.Fi.spec),(200,rq.Lq.spec),(24,solve.Flat.spec),(22,solve.Ct.spec)]
def Bh.errors.live:Nat→Option (List Nat)
 | 2=>some [2,3,4,6,7,8]
 | 6=>some [3,4,7,9,10]
 | 10=>some [4,7,8,9,14]
 | 13=>some [4,14,15]
 | 14=>some [4,8,17]
 | _=>none
def Bh.errors.E:Env:=Be (Bb Bh.errors.Bc) (fun _=>false) (fun _=>none) Bh.errors.live
section
variable (N:Nat) (r c:Int) (l:List Int) (p q:Int) (m:List Int) (p8 p7 p7_1:Int) (p7_2:List Int) (p6 p6_1:Int) (p6_2:List Int) (p10 p10_1:Int) (p10_2:List Int) (p8_1 p14 p14_1:Int) (p14_2:List Int) (p15 p15_1:Int) (p15_2:List Int) (p8_2 p17 p17_1:Int) (p17_2:List Int)
def Bh.errors.C2:Option DV:=cutAt Bh.errors.E N f136 (Am f136) [1,1,0] [] ⟨E5 77 [(2,.ptr 2 0 0),(3,.ptr 3 0 0),(4,.ptr 4 0 0),(6,.ptr 6 0 0),(7,.ptr 7 0 0),(8,.int .i64 p8)],[(7,false,.box [.int .i64 p7,.int .i64 p7_1,.ints .fresh .u64 p7_2]),(6,false,.box [.int .i64 p6,.int .i64 p6_1,.ints .fresh .u64 p6_2]),(4,false,.box [.int .i64 0,.int .i64 0,.nil]),(3,false,.box [.int .i64 p,.int .i64 q,.ints .arg .u64 m]),(2,false,.box [.int .i64 r,.int .i64 c,.ints .arg .u64 l])]⟩
def Bh.errors.C6:Option DV:=cutAt Bh.errors.E N f136 (Am f136) [1,1,1,1,1,0] [] ⟨E5 77 [(3,.ptr 3 0 0),(4,.ptr 4 0 0),(7,.ptr 7 0 0),(9,.int .i64 r),(10,.ptr 10 0 0)],[(10,false,.box [.int .i64 p10,.int .i64 p10_1,.ints .fresh .u64 p10_2]),(7,false,.box [.int .i64 p7,.int .i64 p7_1,.ints .fresh .u64 p7_2]),(6,false,.box [.int .i64 p6,.int .i64 p6_1,.ints .fresh .u64 p6_2]),(4,false,.box [.int .i64 0,.int .i64 0,.nil]),(3,false,.box [.int .i64 p,.int .i64 q,.ints .arg .u64 m]),(2,false,.box [.int .i64 r,.int .i64 c,.ints .arg .u64 l])]⟩
def Bh.errors.C10:Option DV:=cutAt Bh.errors.E N f136 (Am f136) [1,1,1,1,1,1,1,0] [] ⟨E5 77 [(4,.ptr 4 0 0),(7,.ptr 7 0 0),(8,.int .i64 p8_1),(9,.int .i64 r),(14,.ptr 14 0 0)],[(14,false,.box [.int .i64 p14,.int .i64 p14_1,.ints .fresh .u64 p14_2]),(10,false,.box [.int .i64 p10,.int .i64 p10_1,.ints .fresh .u64 p10_2]),(7,false,.box [.int .i64 p7,.int .i64 p7_1,.ints .fresh .u64 p7_2]),(6,false,.box [.int .i64 p6,.int .i64 p6_1,.ints .fresh .u64 p6_2]),(4,false,.box [.int .i64 0,.int .i64 0,.nil]),(3,false,.box [.int .i64 p,.int .i64 q,.ints .arg .u64 m]),(2,false,.box [.int .i64 r,.int .i64 c,.ints .arg .u64 l])]⟩
def Bh.errors.C13:Option DV:=cutAt Bh.errors.E N f136 (Am f136) [1,1,1,1,1,1,1,1,1] [] ⟨E5 77 [(4,.ptr 4 0 0),(14,.ptr 14 0 0),(15,.ptr 15 0 0)],[(15,false,.box [.int .i64 p15,.int .i64 p15_1,.ints .fresh .u64 p15_2]),(14,false,.box [.int .i64 p14,.int .i64 p14_1,.ints .fresh .u64 p14_2]),(10,false,.box [.int .i64 p10,.int .i64 p10_1,.ints .fresh .u64 p10_2]),(7,false,.box [.int .i64 p7,.int .i64 p7_1,.ints .fresh .u64 p7_2]),(6,false,.box [.int .i64 p6,.int .i64 p6_1,.ints .fresh .u64 p6_2]),(4,false,.box [.int .i64 0,.int .i64 0,.nil]),(3,false,.box [.int .i64 p,.int .i64 q,.ints .arg .u64 m]),(2,false,.box [.int .i64 r,.int .i64 c,.ints .arg .u64 l])]⟩
def Bh.errors.C14:Option DV:=cutAt Bh.errors.E N f136 (Am f136) [1,1,1,1,1,1,1,1,1,1,0] [] ⟨E5 77 [(4,.ptr 4 0 0),(8,.int .i64 p8_2),(17,.ptr 17 0 0)],[(17,false,.box [.int .i64 p17,.int .i64 p17_1,.ints .fresh .u64 p17_2]),(15,false,.box [.int .i64 p15,.int .i64 p15_1,.ints .fresh .u64 p15_2]),(14,false,.box [.int .i64 p14,.int .i64 p14_1,.ints .fresh .u64 p14_2]),(10,false,.box [.int .i64 p10,.int .i64 p10_1,.ints .fresh .u64 p10_2]),(7,false,.box [.int .i64 p7,.int .i64 p7_1,.ints .fresh .u64 p7_2]),(6,false,.box [.int .i64 p6,.int .i64 p6_1,.ints .fresh .u64 p6_2]),(4,false,.box [.int .i64 0,.int .i64 0,.nil]),(3,false,.box [.int .i64 p,.int .i64 q,.ints .arg .u64 m]),(2,false,.box [.int .i64 r,.int .i64 c,.ints .arg .u64 l])]⟩
theorem Bh.errors.Ahy:Bh.errors.C2 N r c l p q m p8 p7 p7_1 p7_2 p6 p6_1 p6_2=bif (p8 !=(0:Int)) then some (.tup [.agg [.int .i64 0,.int .i64 0,.nil],.int .i64 p8]) else Bh.errors.C6 N r c l p q m p7 p7_1 p7_2 p6 p6_1 p6_2 ((Az p6 p6_1 p6_2 0 0 r r).1) ((Az p6 p6_1 p6_2 0 0 r r).2.1) ((Az p6 p6_1 p6_2 0 0 r r).2.2.1):=(Dt _ _ _ _ _ _ _).trans (by kernel_rfl)
theorem Bh.errors.Alk:Bh.errors.C6 N r c l p q m p7 p7_1 p7_2 p6 p6_1 p6_2 p10 p10_1 p10_2=bif (Ag p10_2) then bif ((Jv p10 p10_1 p10_2).1) then some (.tup [.agg [.int .i64 0,.int .i64 0,.nil],.int .i64 5]) else bif (Ag p10_2&&Ag m) then Bh.errors.C10 N r c l p q m p7 p7_1 p7_2 p6 p6_1 p6_2 p10 p10_1 p10_2 ((Ud p10 p10_1 p10_2 p q m).2.2.2) ((Ud p10 p10_1 p10_2 p q m).1) ((Ud p10 p10_1 p10_2 p q m).2.1) ((Ud p10 p10_1 p10_2 p q m).2.2.1) else none else none:=(Dt _ _ _ _ _ _ _).trans (by kernel_rfl)
theorem Bh.errors.Aws:Bh.errors.C10 N r c l p q m p7 p7_1 p7_2 p6 p6_1 p6_2 p10 p10_1 p10_2 p8_1 p14 p14_1 p14_2=bif (p8_1 !=(0:Int)) then some (.tup [.agg [.int .i64 0,.int .i64 0,.nil],.int .i64 p8_1]) else Bh.errors.C13 N r c l p q m p7 p7_1 p7_2 p6 p6_1 p6_2 p10 p10_1 p10_2 p14 p14_1 p14_2 ((Az p7 p7_1 p7_2 0 0 r p7_1).1) ((Az p7 p7_1 p7_2 0 0 r p7_1).2.1) ((Az p7 p7_1 p7_2 0 0 r p7_1).2.2.1):=(Dt _ _ _ _ _ _ _).trans (by kernel_rfl)
theorem Bh.errors.Awr:Bh.errors.C13 N r c l p q m p7 p7_1 p7_2 p6 p6_1 p6_2 p10 p10_1 p10_2 p14 p14_1 p14_2 p15 p15_1 p15_2=bif (Ag p15_2&&Ag p14_2) then Bh.errors.C14 N r c l p q m p7 p7_1 p7_2 p6 p6_1 p6_2 p10 p10_1 p10_2 p14 p14_1 p14_2 p15 p15_1 p15_2 ((E8 p15 p15_1 p15_2 p14 p14_1 p14_2).2.2.2) ((E8 p15 p15_1 p15_2 p14 p14_1 p14_2).1) ((E8 p15 p15_1 p15_2 p14 p14_1 p14_2).2.1) ((E8 p15 p15_1 p15_2 p14 p14_1 p14_2).2.2.1) else none:=(Dt _ _ _ _ _ _ _).trans (by kernel_rfl)
theorem Bh.errors.Aat:Bh.errors.C14 N r c l p q m p7 p7_1 p7_2 p6 p6_1 p6_2 p10 p10_1 p10_2 p14 p14_1 p14_2 p15 p15_1 p15_2 p8_2 p17 p17_1 p17_2=bif ((!(p8_2==(0:Int)))||(Ag p17_2)) then bif ((p8_2==(0:Int))&&((B4 p17 p17_1 p17_2) !=(0:Int))) then some (.tup [.agg [.int .i64 p17,.int .i64 p17_1,.ints .fresh .u64 p17_2],.int .i64 2]) else some (.tup [.agg [.int .i64 p17,.int .i64 p17_1,.ints .fresh .u64 p17_2],.int .i64 p8_2]) else none :=
 Eq.trans ((Dt _ _ _ _ _ _ _).trans (by kernel_rfl))
 (Ax (Oj (p8_2==(0:Int))) (Cp (Au4 (p8_2==(0:Int)) (Ag p17_2)) (Ax (L7 (p8_2==(0:Int))) (Ax (Th (p8_2==(0:Int))) (Cp (tt1 (p8_2==(0:Int)) ((B4 p17 p17_1 p17_2) !=(0:Int))) rfl rfl))) rfl))
theorem Bh.errors.ev:Bu Bh.errors.E N f136 (Am f136) [.agg [.int .i64 r,.int .i64 c,.ints .arg .u64 l],.agg [.int .i64 p,.int .i64 q,.ints .arg .u64 m]]=bif (Ag l) then Bh.errors.C2 N r c l p q m (Qp r c l) ((P8 r c l).1) ((P8 r c l).2.1) ((P8 r c l).2.2.1) ((Nm r c l).1) ((Nm r c l).2.1) ((Nm r c l).2.2.1) else none:=by kernel_rfl
end
abbrev _root_.Go.Proofs.S1.Bh.errors.Kn:=A7 prog 136 Bh.errors.spec
theorem Bh.errors.Ac (hk:A1 prog Bh.errors.Bc) (h:Hyp Bh.errors.E f136 Bh.errors.ts Bh.errors.pre Bh.errors.out):Bh.errors.Kn :=
 Al (A2 hk _ _ _) func136 (by kernel_rfl) (by kernel_rfl) h
def Bh.Solve.Bc:List (Nat × Entry):=[(86,Cu.Check.spec),(56,Bh.Check.spec),(135,Bh.apart.spec),(136,Bh.errors.spec),(123,Aa.Mul.spec),(125,Aa.Sub.spec),(36,solve.Cq.spec)]
def Bh.Solve.live:Nat→Option (List Nat)
 | 5=>some [2,3,4,5]
 | 8=>some [2,3,4,5]
 | 11=>some [2,3,5,6]
 | 12=>some [2,3,5,8]
 | 15=>some [2,3,4]
 | _=>none
def Bh.Solve.E:Env:=Be (Bb Bh.Solve.Bc) (fun _=>false) (fun _=>none) Bh.Solve.live
section
variable (N:Nat) (r c:Int) (l:List Int) (p q:Int) (m:List Int) (u v:Int) (h:List Int) (p4 p5 p5_1:Int) (p5_2:List Int) (p5_3 p5_4:Int) (p5_5:List Int) (p5_6 p5_7:Int) (p5_8:List Int) (p5_9 p5_10:Int) (p5_11:List Int) (p5_12 p5_13:Int) (p5_14:List Int) (p4_1 p3 p3_1:Int) (p3_2:List Int) (p6 p6_1:Int) (p6_2:List Int) (p8 p8_1:Int) (p8_2:List Int) (p4_2 p2 p2_1:Int) (p2_2:List Int)
def Bh.Solve.C5:Option DV:=cutAt Bh.Solve.E N f60 (Am f60) [1,1,1,0] [] ⟨E5 73 [(2,.ptr 2 0 0),(3,.ptr 3 0 0),(4,.int .i64 p4),(5,.ptr 5 0 0)],[(5,false,.box [.int .i64 p5,.int .i64 p5_1,.ints .fresh .u64 p5_2,.int .i64 p5_3,.int .i64 p5_4,.ints .fresh .u64 p5_5,.int .i64 p5_6,.int .i64 p5_7,.ints .fresh .u64 p5_8,.int .i64 p5_9,.int .i64 p5_10,.ints .fresh .u64 p5_11,.int .i64 p5_12,.int .i64 p5_13,.ints .fresh .u64 p5_14]),(3,false,.box [.int .i64 0,.int .i64 0,.nil]),(2,false,.box [.int .i64 0,.int .i64 0,.nil]),(1,false,.box [.int .i64 r,.int .i64 c,.ints .arg .u64 l,.int .i64 p,.int .i64 q,.ints .arg .u64 m,.int .i64 u,.int .i64 v,.ints .arg .u64 h])]⟩
def Bh.Solve.C8:Option DV:=cutAt Bh.Solve.E N f60 (Am f60) [1,1,1,1,0,1] [] ⟨E5 73 [(2,.ptr 2 0 0),(3,.ptr 3 0 0),(4,.int .i64 p4_1),(5,.ptr 5 0 0)],[(5,false,.box [.int .i64 p5,.int .i64 p5_1,.ints .fresh .u64 p5_2,.int .i64 p5_3,.int .i64 p5_4,.ints .fresh .u64 p5_5,.int .i64 p5_6,.int .i64 p5_7,.ints .fresh .u64 p5_8,.int .i64 p5_9,.int .i64 p5_10,.ints .fresh .u64 p5_11,.int .i64 p5_12,.int .i64 p5_13,.ints .fresh .u64 p5_14]),(3,false,.box [.int .i64 p3,.int .i64 p3_1,.ints .fresh .u64 p3_2]),(2,false,.box [.int .i64 0,.int .i64 0,.nil]),(1,false,.box [.int .i64 r,.int .i64 c,.ints .arg .u64 l,.int .i64 p,.int .i64 q,.ints .arg .u64 m,.int .i64 u,.int .i64 v,.ints .arg .u64 h])]⟩
def Bh.Solve.C11:Option DV:=cutAt Bh.Solve.E N f60 (Am f60) [1,1,1,1,1,1] [] ⟨E5 73 [(2,.ptr 2 0 0),(3,.ptr 3 0 0),(5,.ptr 5 0 0),(6,.ptr 6 0 0)],[(6,false,.box [.int .i64 p6,.int .i64 p6_1,.ints .fresh .u64 p6_2]),(5,false,.box [.int .i64 p5,.int .i64 p5_1,.ints .fresh .u64 p5_2,.int .i64 p5_3,.int .i64 p5_4,.ints .fresh .u64 p5_5,.int .i64 p5_6,.int .i64 p5_7,.ints .fresh .u64 p5_8,.int .i64 p5_9,.int .i64 p5_10,.ints .fresh .u64 p5_11,.int .i64 p5_12,.int .i64 p5_13,.ints .fresh .u64 p5_14]),(3,false,.box [.int .i64 p3,.int .i64 p3_1,.ints .fresh .u64 p3_2]),(2,false,.box [.int .i64 0,.int .i64 0,.nil]),(1,false,.box [.int .i64 r,.int .i64 c,.ints .arg .u64 l,.int .i64 p,.int .i64 q,.ints .arg .u64 m,.int .i64 u,.int .i64 v,.ints .arg .u64 h])]⟩
def Bh.Solve.C12:Option DV:=cutAt Bh.Solve.E N f60 (Am f60) [1,1,1,1,1,1,1,0] [] ⟨E5 73 [(2,.ptr 2 0 0),(3,.ptr 3 0 0),(5,.ptr 5 0 0),(8,.ptr 8 0 0)],[(8,false,.box [.int .i64 p8,.int .i64 p8_1,.ints .fresh .u64 p8_2]),(6,false,.box [.int .i64 p6,.int .i64 p6_1,.ints .fresh .u64 p6_2]),(5,false,.box [.int .i64 p5,.int .i64 p5_1,.ints .fresh .u64 p5_2,.int .i64 p5_3,.int .i64 p5_4,.ints .fresh .u64 p5_5,.int .i64 p5_6,.int .i64 p5_7,.ints .fresh .u64 p5_8,.int .i64 p5_9,.int .i64 p5_10,.ints .fresh .u64 p5_11,.int .i64 p5_12,.int .i64 p5_13,.ints .fresh .u64 p5_14]),(3,false,.box [.int .i64 p3,.int .i64 p3_1,.ints .fresh .u64 p3_2]),(2,false,.box [.int .i64 0,.int .i64 0,.nil]),(1,false,.box [.int .i64 r,.int .i64 c,.ints .arg .u64 l,.int .i64 p,.int .i64 q,.ints .arg .u64 m,.int .i64 u,.int .i64 v,.ints .arg .u64 h])]⟩
def Bh.Solve.C15:Option DV:=cutAt Bh.Solve.E N f60 (Am f60) [1,1,1,1,1,1,1,1,0,1] [] ⟨E5 73 [(2,.ptr 2 0 0),(3,.ptr 3 0 0),(4,.int .i64 p4_2)],[(8,false,.box [.int .i64 p8,.int .i64 p8_1,.ints .fresh .u64 p8_2]),(6,false,.box [.int .i64 p6,.int .i64 p6_1,.ints .fresh .u64 p6_2]),(5,false,.box [.int .i64 p5,.int .i64 p5_1,.ints .fresh .u64 p5_2,.int .i64 p5_3,.int .i64 p5_4,.ints .fresh .u64 p5_5,.int .i64 p5_6,.int .i64 p5_7,.ints .fresh .u64 p5_8,.int .i64 p5_9,.int .i64 p5_10,.ints .fresh .u64 p5_11,.int .i64 p5_12,.int .i64 p5_13,.ints .fresh .u64 p5_14]),(3,false,.box [.int .i64 p3,.int .i64 p3_1,.ints .fresh .u64 p3_2]),(2,false,.box [.int .i64 p2,.int .i64 p2_1,.ints .fresh .u64 p2_2]),(1,false,.box [.int .i64 r,.int .i64 c,.ints .arg .u64 l,.int .i64 p,.int .i64 q,.ints .arg .u64 m,.int .i64 u,.int .i64 v,.ints .arg .u64 h])]⟩
theorem Bh.Solve.Arv:Bh.Solve.C5 N r c l p q m u v h p4 p5 p5_1 p5_2 p5_3 p5_4 p5_5 p5_6 p5_7 p5_8 p5_9 p5_10 p5_11 p5_12 p5_13 p5_14=bif (p4 !=(0:Int)) then some (.tup [.agg [.int .i64 0,.int .i64 0,.nil],.agg [.int .i64 0,.int .i64 0,.nil],.int .i64 p4]) else bif (Ag p5_14&&Ag p5_8) then Bh.Solve.C8 N r c l p q m u v h p5 p5_1 p5_2 p5_3 p5_4 p5_5 p5_6 p5_7 p5_8 p5_9 p5_10 p5_11 p5_12 p5_13 p5_14 ((erZ (p5_12,p5_13,p5_14,0) (p5_6,p5_7,p5_8,0)).2.2.2) ((erZ (p5_12,p5_13,p5_14,0) (p5_6,p5_7,p5_8,0)).1) ((erZ (p5_12,p5_13,p5_14,0) (p5_6,p5_7,p5_8,0)).2.1) ((erZ (p5_12,p5_13,p5_14,0) (p5_6,p5_7,p5_8,0)).2.2.1) else none:=(Dt _ _ _ _ _ _ _).trans (by kernel_rfl)
theorem Bh.Solve.Alj:Bh.Solve.C8 N r c l p q m u v h p5 p5_1 p5_2 p5_3 p5_4 p5_5 p5_6 p5_7 p5_8 p5_9 p5_10 p5_11 p5_12 p5_13 p5_14 p4_1 p3 p3_1 p3_2=bif (p4_1 !=(0:Int)) then some (.tup [.agg [.int .i64 0,.int .i64 0,.nil],.agg [.int .i64 0,.int .i64 0,.nil],.int .i64 p4_1]) else bif (Ag p5_11&&Ag p3_2) then Bh.Solve.C11 N r c l p q m u v h p5 p5_1 p5_2 p5_3 p5_4 p5_5 p5_6 p5_7 p5_8 p5_9 p5_10 p5_11 p5_12 p5_13 p5_14 p3 p3_1 p3_2 ((Fo p5_9 p5_10 p5_11 p3 p3_1 p3_2).1) ((Fo p5_9 p5_10 p5_11 p3 p3_1 p3_2).2.1) ((Fo p5_9 p5_10 p5_11 p3 p3_1 p3_2).2.2.1) else none:=(Dt _ _ _ _ _ _ _).trans (by kernel_rfl)
theorem Bh.Solve.Ub:Bh.Solve.C11 N r c l p q m u v h p5 p5_1 p5_2 p5_3 p5_4 p5_5 p5_6 p5_7 p5_8 p5_9 p5_10 p5_11 p5_12 p5_13 p5_14 p3 p3_1 p3_2 p6 p6_1 p6_2=bif (Ag p5_5&&Ag p6_2) then Bh.Solve.C12 N r c l p q m u v h p5 p5_1 p5_2 p5_3 p5_4 p5_5 p5_6 p5_7 p5_8 p5_9 p5_10 p5_11 p5_12 p5_13 p5_14 p3 p3_1 p3_2 p6 p6_1 p6_2 ((Ok p5_3 p5_4 p5_5 p6 p6_1 p6_2).1) ((Ok p5_3 p5_4 p5_5 p6 p6_1 p6_2).2.1) ((Ok p5_3 p5_4 p5_5 p6 p6_1 p6_2).2.2.1) else none:=(Dt _ _ _ _ _ _ _).trans (by kernel_rfl)
theorem Bh.Solve.Ua:Bh.Solve.C12 N r c l p q m u v h p5 p5_1 p5_2 p5_3 p5_4 p5_5 p5_6 p5_7 p5_8 p5_9 p5_10 p5_11 p5_12 p5_13 p5_14 p3 p3_1 p3_2 p6 p6_1 p6_2 p8 p8_1 p8_2=bif (Ag p8_2) then bif ((B4 p8 p8_1 p8_2) !=(0:Int)) then some (.tup [.agg [.int .i64 0,.int .i64 0,.nil],.agg [.int .i64 0,.int .i64 0,.nil],.int .i64 2]) else bif (Ag p5_2&&Ag p8_2) then Bh.Solve.C15 N r c l p q m u v h p5 p5_1 p5_2 p5_3 p5_4 p5_5 p5_6 p5_7 p5_8 p5_9 p5_10 p5_11 p5_12 p5_13 p5_14 p3 p3_1 p3_2 p6 p6_1 p6_2 p8 p8_1 p8_2 ((Sz p5 p5_1 p5_2 p8 p8_1 p8_2).2.2.2) ((Sz p5 p5_1 p5_2 p8 p8_1 p8_2).1) ((Sz p5 p5_1 p5_2 p8 p8_1 p8_2).2.1) ((Sz p5 p5_1 p5_2 p8 p8_1 p8_2).2.2.1) else none else none:=(Dt _ _ _ _ _ _ _).trans (by kernel_rfl)
theorem Bh.Solve.Ajz:Bh.Solve.C15 N r c l p q m u v h p5 p5_1 p5_2 p5_3 p5_4 p5_5 p5_6 p5_7 p5_8 p5_9 p5_10 p5_11 p5_12 p5_13 p5_14 p3 p3_1 p3_2 p6 p6_1 p6_2 p8 p8_1 p8_2 p4_2 p2 p2_1 p2_2=bif (p4_2 !=(0:Int)) then some (.tup [.agg [.int .i64 0,.int .i64 0,.nil],.agg [.int .i64 0,.int .i64 0,.nil],.int .i64 p4_2]) else some (.tup [.agg [.int .i64 p2,.int .i64 p2_1,.ints .fresh .u64 p2_2],.agg [.int .i64 p3,.int .i64 p3_1,.ints .fresh .u64 p3_2],.int .i64 0]):=(Dt _ _ _ _ _ _ _).trans (by kernel_rfl)
theorem Bh.Solve.ev:Bu Bh.Solve.E N f60 (Am f60) [.agg [.int .i64 r,.int .i64 c,.ints .arg .u64 l,.int .i64 p,.int .i64 q,.ints .arg .u64 m,.int .i64 u,.int .i64 v,.ints .arg .u64 h]]=bif (Pn l m h) then bif ((Ix r c l p q m u v h) !=(0:Int)) then some (.tup [.agg [.int .i64 0,.int .i64 0,.nil],.agg [.int .i64 0,.int .i64 0,.nil],.int .i64 (Ix r c l p q m u v h)]) else bif (Pn l m h&&decide (Ix r c l p q m u v h=0)) then Bh.Solve.C5 N r c l p q m u v h (gE r c l p q m u v h) ((Ou (gE r c l p q m u v h) (gT r c l)).1) ((Ou (gE r c l p q m u v h) (gT r c l)).2.1) ((Ou (gE r c l p q m u v h) (gT r c l)).2.2.1) ((Ou (gE r c l p q m u v h) (Dx c (gC r c l u v h))).1) ((Ou (gE r c l p q m u v h) (Dx c (gC r c l u v h))).2.1) ((Ou (gE r c l p q m u v h) (Dx c (gC r c l u v h))).2.2.1) ((Ou (gE r c l p q m u v h) (Eg r c (gC r c l u v h))).1) ((Ou (gE r c l p q m u v h) (Eg r c (gC r c l u v h))).2.1) ((Ou (gE r c l p q m u v h) (Eg r c (gC r c l u v h))).2.2.1) ((Ou (gE r c l p q m u v h) (Dx c (gC r c l p q m))).1) ((Ou (gE r c l p q m u v h) (Dx c (gC r c l p q m))).2.1) ((Ou (gE r c l p q m u v h) (Dx c (gC r c l p q m))).2.2.1) ((Ou (gE r c l p q m u v h) (Eg r c (gC r c l p q m))).1) ((Ou (gE r c l p q m u v h) (Eg r c (gC r c l p q m))).2.1) ((Ou (gE r c l p q m u v h) (Eg r c (gC r c l p q m))).2.2.1) else none else none:=by kernel_rfl
end
abbrev _root_.Go.Proofs.S1.Bh.Solve.Kn:=A7 prog 60 Bh.Solve.spec
theorem Bh.Solve.Ac (hk:A1 prog Bh.Solve.Bc) (h:Hyp Bh.Solve.E f60 Bh.Solve.ts Bh.Solve.pre Bh.Solve.out):Bh.Solve.Kn :=
 Al (A2 hk _ _ _) func60 (by kernel_rfl) (by kernel_rfl) h
end EqGg
open EqGg
def Lz (o:Option DV) (d:DV):Prop:=∃ dv drops,o=some dv∧Wk drops dv d
theorem Nj {E:Env} {fn:Func} {ds:List DV} {d:DV} (h:Lz (Bu E 0 fn (Am fn) ds) d):Art E fn ds d:=by
 obtain ⟨dv,drops,e1,e2⟩:=h
 exact ⟨0,dv,drops,e1,e2⟩
def Xp (x y:MX) (e:Int):DV:=.tup [.agg [.int .i64 x.1,.int .i64 x.2.1,.ints .fresh .u64 x.2.2.1],.agg [.int .i64 y.1,.int .i64 y.2.1,.ints .fresh .u64 y.2.2.1],.int .i64 e]
theorem Uf {drops:List Nat} {r c:Int} {l:List Int}:Wk drops (.agg [.int .i64 r,.int .i64 c,.ints .fresh .u64 l]) (.agg [.int .i64 r,.int .i64 c,.ints .fresh .u64 l]):=Wk.Gy (.cons .int (.cons .int (.cons .Mb .nil)))
theorem Akl {o:Option DV} {x y:MX} {e:Int} (h:o=some (Xp x y e)):Lz o (Xp x y e):=⟨_,[],h,Wk.Gv (.cons Uf (.cons Uf (.cons .int .nil)))⟩
theorem N7 {o:Option DV} {e e1 e2:Int} (h:o=some (Abz e)):Lz o (Xp (Ga e1) (Ga e2) e):=⟨_,[],h,Acv⟩
theorem rq.both.known:rq.both.Kn:=rq.both.Ac (.cons Aa.Cb.known .nil) fun r c l p q m _ =>
 ⟨0,_,[],rq.both.ev 0 r c l p q m,Wk.Gv (.cons Uf (.cons Uf .nil))⟩
theorem rq.Lq.known:rq.Lq.Kn:=rq.Lq.Ac (.cons Aa.Cb.known (.cons qr.By.known (.cons rq.both.known .nil))) fun r c l hp=>Nj (by
 have al:Ag l=true:=hp
 show Lz _ (Xp (Nm r c l) (P8 r c l) (Qp r c l))
 rw [rq.Lq.ev]
 by_cases k:(Ap r c l).2.2.2=0
 ·rw [E0 k,A08,Rz al,A04]
  by_cases kf:Gs (Ap r c l).1 (Ap r c l).2.1 (Ap r c l).2.2.1=0
  ·have e:Qp r c l=0:=by unfold Qp; rw [A1q (fun h=>h k)]; exact kf
   have d1:Nm r c l=Gg (rX (Ap r c l).1 (Ap r c l).2.1 (Ap r c l).2.2.1):=by unfold Nm; rw [A1q (fun h=>h e)]
   have d2:P8 r c l=Gg (qX (Ap r c l).1 (Ap r c l).2.1 (Ap r c l).2.2.1):=by unfold P8; rw [A1q (fun h=>h e)]
   rw [E0 kf,A08,d1,d2,e]
   exact Akl rfl
  ·have e:Qp r c l=Gs (Ap r c l).1 (Ap r c l).2.1 (Ap r c l).2.2.1:=by unfold Qp; rw [A1q (fun h=>h k)]
   have d1:Nm r c l=Ga (Qp r c l):=by unfold Nm; rw [A1r (by rw [e]; exact kf)]
   have d2:P8 r c l=Ga (Qp r c l):=by unfold P8; rw [A1r (by rw [e]; exact kf)]
   rw [Pa kf,A04,d1,d2,e]
   exact N7 rfl
 ·have e:Qp r c l=(Ap r c l).2.2.2:=by unfold Qp; rw [A1r k]
  have d1:Nm r c l=Ga (Qp r c l):=by unfold Nm; rw [A1r (by rw [e]; exact k)]
  have d2:P8 r c l=Ga (Qp r c l):=by unfold P8; rw [A1r (by rw [e]; exact k)]
  rw [Pa k,A04,d1,d2,e]
  exact N7 rfl)
theorem Auo {r c:Int} {l:List Int} (al:Ag l=true):Ag (Nm r c l).2.2.1=true∧Ag (P8 r c l).2.2.1=true:=by
 unfold Nm P8
 by_cases k:Qp r c l=0
 ·rw [A1q (fun h=>h k),A1q (fun h=>h k)]
  exact ⟨Rz (Af2 (Rz al)).2,Rz (Af2 (Rz al)).1⟩
 ·rw [A1r k,A1r k]; exact ⟨F8,F8⟩
theorem Ab8 {r c p q u v:Int} (h:0≤c∧c≤6) (h':0≤q∧q≤6) :
 (((((p !=r)||(u !=r))||(v !=(1:Int)))||(Bd r c))||(Bd (Ab (c+q)) r))=decide (p≠r∨u≠r∨v≠1∨r<c∨c+q<r):=by
 rw [An (by omega) (by omega),Aw,Aw,A1k]
 simp [or_assoc]
theorem Bh.Check.known:Bh.Check.Kn:=Bh.Check.Ac (.cons Cu.Check.known .nil) fun r c l p q m u v h hp=>by
 obtain ⟨h1,ah⟩:=Ad.1 (show ((Ag l&&Ag m)&&Ag h)=true from hp)
 obtain ⟨al,am⟩:=Ad.1 h1
 refine ⟨0+5,Bh.Check.out [.i r,.i c,.l l,.i p,.i q,.l m,.i u,.i v,.l h],[],?_,.int⟩
 show _=some (DV.int .i64 (Ix r c l p q m u v h))
 rw [Bh.Check.ev,al,am,ah,A04,A04,A04]
 unfold Ix
 by_cases k1:B4 r c l=0
 ·rw [E0 k1,A08,A1q (fun h=>h k1)]
  by_cases k2:B4 p q m=0
  ·rw [E0 k2,A08,A1q (fun h=>h k2)]
   by_cases k4:B4 u v h=0
   ·rw [E0 k4,A08,A1q (fun h=>h k4)]
    have s1:=Q7 (Gt k1).1
    have s2:=Q7 (Gt k2).1
    rw [Ab8 s1.2.2 s2.2.2]
    by_cases k5:p≠r∨u≠r∨v≠1∨r<c∨c+q<r
    ·rw [A05 k5,A04,A1r k5]
    ·rw [A09 k5,A08,A1q k5]
   ·rw [Pa k4,A04,A1r k4]
  ·rw [Pa k2,A04,A1r k2]
 ·rw [Pa k1,A04,A1r k1]
theorem Yg {r c:Int} {l:List Int} {p q:Int} {m:List Int} {u v:Int} {h:List Int} (e:Ix r c l p q m u v h=0) :
 B4 r c l=0∧B4 p q m=0∧B4 u v h=0∧p=r∧u=r∧v=1∧c≤r∧r≤c+q:=by
 unfold Ix at e
 by_cases k1:B4 r c l=0
 ·rw [A1q (fun h=>h k1)] at e
  by_cases k2:B4 p q m=0
  ·rw [A1q (fun h=>h k2)] at e
   by_cases k4:B4 u v h=0
   ·rw [A1q (fun h=>h k4)] at e
    by_cases k5:p≠r∨u≠r∨v≠1∨r<c∨c+q<r
    ·rw [A1r k5] at e; exact absurd e (by decide)
    ·exact ⟨k1,k2,k4,by omega⟩
   ·rw [A1r k4] at e; exact absurd e k4
  ·rw [A1r k2] at e; exact absurd e k2
 ·rw [A1r k1] at e; exact absurd e k1
theorem Bh.Et.known:Bh.Et.Kn:=Bh.Et.Ac (.cons Aa.Part.known .nil) fun r c l x y hp=>by
 have h:=Au.1 (show Co (-100≤x∧x≤100∧-100≤y∧y≤100)=true from hp)
 have e:=Bh.Et.ev 0 r c l x y
 rw [An (by omega) (by omega)] at e
 exact ⟨0,_,[],e,Uf⟩
def As0 (a b c d f:MX) (e:Int):DV:=.tup [.agg [.int .i64 a.1,.int .i64 a.2.1,.ints .fresh .u64 a.2.2.1,.int .i64 b.1,.int .i64 b.2.1,.ints .fresh .u64 b.2.2.1,.int .i64 c.1,.int .i64 c.2.1,.ints .fresh .u64 c.2.2.1,.int .i64 d.1,.int .i64 d.2.1,.ints .fresh .u64 d.2.2.1,.int .i64 f.1,.int .i64 f.2.1,.ints .fresh .u64 f.2.2.1],.int .i64 e]
def Ayi (e:Int):DV:=.tup [.agg [.int .i64 0,.int .i64 0,.nil,.int .i64 0,.int .i64 0,.nil,.int .i64 0,.int .i64 0,.nil,.int .i64 0,.int .i64 0,.nil,.int .i64 0,.int .i64 0,.nil],.int .i64 e]
theorem Asy {o:Option DV} {a b c d f:MX} {e:Int} (h:o=some (As0 a b c d f e)):Lz o (As0 a b c d f e) :=
 ⟨_,[],h,Wk.Gv (.cons (Wk.Gy (.cons .int (.cons .int (.cons .Mb (.cons .int (.cons .int (.cons .Mb (.cons .int (.cons .int (.cons .Mb (.cons .int (.cons .int (.cons .Mb (.cons .int (.cons .int (.cons .Mb .nil)))))))))))))))) (.cons .int .nil))⟩
theorem Asz {o:Option DV} {e:Int} (h:o=some (Ayi e)) {a b c d f:Int}:Lz o (As0 (Ga a) (Ga b) (Ga c) (Ga d) (Ga f) e) :=
 ⟨_,[],h,Wk.Gv (.cons (Wk.Gy (.cons .int (.cons .int (.cons Hb (.cons .int (.cons .int (.cons Hb (.cons .int (.cons .int (.cons Hb (.cons .int (.cons .int (.cons Hb (.cons .int (.cons .int (.cons Hb .nil)))))))))))))))) (.cons .int .nil))⟩
theorem No {e:Int} (h:e=0) (x:MX):Ou e x=x:=by unfold Ou; rw [A1q (fun k=>k h)]
theorem Z0 {e:Int} (h:e≠0) (x:MX):Ou e x=Ga e:=by unfold Ou; rw [A1r h]
def Amf (e:Int) (a b c d f:MX):DV:=As0 (Ou e a) (Ou e b) (Ou e c) (Ou e d) (Ou e f) e
theorem Xy {o:Option DV} {e:Int} {a b c d f:MX} (he:e≠0) (h:o=some (Ayi e)):Lz o (Amf e a b c d f):=by
 unfold Amf
 rw [Z0 he,Z0 he,Z0 he,Z0 he,Z0 he]
 exact Asz h
section
variable {N:Nat} {r c p q u v:Int} {l m h:List Int} {R Q T C W:MX}
theorem Av8 (hr:0≤r∧r≤6) (hc:0≤c∧c≤6):Lz (Bh.apart.C14 N r c l p q m u v h R.1 R.2.1 R.2.2.1 Q.1 Q.2.1 Q.2.2.1 T.1 T.2.1 T.2.2.1 C.1 C.2.1 C.2.2.1 W.1 W.2.1 W.2.2.1) (Amf 0 T (Dx c C) (Eg r c C) (Dx c W) (Eg r c W)):=by
 rw [Bh.apart.Aat,Au.2 (show -100≤(0:Int)∧(0:Int)≤100∧-100≤c∧c≤100 by omega),Au.2 (show -100≤c∧c≤100∧-100≤r∧r≤100 by omega),A04,A04,A04,A04,Int.sub_zero]
 exact Asy rfl
theorem Av9 (hr:0≤r∧r≤6) (hc:0≤c∧c≤6) (aC:Ag C.2.2.1=true) (aW:Ag W.2.2.1=true):Lz (Bh.apart.C12 N r c l p q m u v h R.1 R.2.1 R.2.2.1 Q.1 Q.2.1 Q.2.2.1 T.1 T.2.1 T.2.2.1 C.1 C.2.1 C.2.2.1 W.1 W.2.1 W.2.2.1)
 (Amf (if Jh C≠0∨Jh W≠0 then 2 else 0) T (Dx c C) (Eg r c C) (Dx c W) (Eg r c W)):=by
 rw [Bh.apart.Ua,aC,aW,A2g,A04,A04]
 by_cases k1:Jh C=0
 ·rw [E0 (show B4 C.1 C.2.1 C.2.2.1=0 from k1),Bool.false_or]
  by_cases k2:Jh W=0
  ·rw [E0 (show B4 W.1 W.2.1 W.2.2.1=0 from k2),A08,A1q (fun h=>h.elim (fun h=>h k1) (fun h=>h k2))]
   exact Av8 hr hc
  ·rw [Pa (show B4 W.1 W.2.1 W.2.2.1≠0 from k2),A04,A1r (.inr k2)]
   exact Xy (by decide) rfl
 ·rw [Pa (show B4 C.1 C.2.1 C.2.2.1≠0 from k1),Bool.true_or,A04,A1r (.inl k1)]
  exact Xy (by decide) rfl
theorem Ayo (hr:0≤r∧r≤6) (hc:0≤c∧c≤6) (aT:Ag T.2.2.1=true) (aQ:Ag Q.2.2.1=true) (ah:Ag h=true) (am:Ag m=true):Lz (Bh.apart.C7 N r c l p q m u v h R.1 R.2.1 R.2.2.1 Q.1 Q.2.1 Q.2.2.1 T.1 T.2.1 T.2.2.1)
 (Amf (if Qt T=true then 5 else if Jh (C4 Q (u,v,h,0))≠0∨Jh (C4 Q (p,q,m,0))≠0 then 2 else 0) T (Dx c (C4 Q (u,v,h,0))) (Eg r c (C4 Q (u,v,h,0))) (Dx c (C4 Q (p,q,m,0))) (Eg r c (C4 Q (p,q,m,0)))):=by
 rw [Bh.apart.Aru,aT,A04]
 cases k:Qt T with
 | true =>
   rw [show (Jv T.1 T.2.1 T.2.2.1).1=true from k,A04,A1r rfl]
   exact Xy (by decide) rfl
 | false =>
   rw [show (Jv T.1 T.2.1 T.2.2.1).1=false from k,A08,A1q (by decide),aQ,ah,A1a,A04,Bh.apart.Ub,aQ,am,A1a,A04]
   exact Av9 (C:=C4 Q (u,v,h,0)) (W:=C4 Q (p,q,m,0)) hr hc (Mw _ _ _ _ _ _) (Mw _ _ _ _ _ _)
theorem Bh.apart.known:Bh.apart.Kn:=Bh.apart.Ac (.cons Cu.Check.known (.cons Bh.Et.known (.cons qr.By.known (.cons qr.Fi.known (.cons solve.Flat.known .nil))))) fun r c l p q m u v h hp=>Nj (by
 obtain ⟨h0,hz⟩:=Ad.1 (show (Pn l m h&&decide (Ix r c l p q m u v h=0))=true from hp)
 obtain ⟨h1,ah⟩:=Ad.1 (show ((Ag l&&Ag m)&&Ag h)=true from h0)
 obtain ⟨al,am⟩:=Ad.1 h1
 obtain ⟨k1,_⟩:=Yg (A1u hz)
 have s1:=Q7 (Gt k1).1
 show Lz _ (Amf (gE r c l p q m u v h) (gT r c l) (Dx c (gC r c l u v h)) (Eg r c (gC r c l u v h)) (Dx c (gC r c l p q m)) (Eg r c (gC r c l p q m)))
 rw [Bh.apart.ev,al,A04,Bh.apart.Ahy]
 unfold gE
 by_cases k:Gs r c l=0
 ·rw [E0 k,A08,A1q (fun h=>h k),Au.2 (show -100≤(0:Int)∧(0:Int)≤100∧-100≤c∧c≤100 by omega),A04,Int.sub_zero]
  exact Ayo (R:=rX r c l) (Q:=qX r c l) (T:=gT r c l) ⟨s1.1,s1.2.1⟩ s1.2.2 (N6 (Af2 al).2 _ _ _ _) (Af2 al).1 ah am
 ·rw [Pa k,A04,A1r k]
  exact Xy k rfl)
end
def Ahw (o:Option DV) (x:MX):Prop:=Lz o (Su x)
theorem Adq {o:Option DV} {x:MX} (h:o=some (Su x)):Ahw o x:=⟨_,[],h,Pq⟩
theorem Adr {o:Option DV} {e:Int} (h:o=some (Af8 e)):Ahw o (Ga e):=⟨_,[],h,N3⟩
section
variable {N:Nat} {r c p q:Int} {l m:List Int} {Q L S w o y:MX}
theorem Awd (ay:Ag y.2.2.1=true):Ahw (Bh.errors.C14 N r c l p q m Q.1 Q.2.1 Q.2.2.1 L.1 L.2.1 L.2.2.1 S.1 S.2.1 S.2.2.1 w.1 w.2.1 w.2.2.1 o.1 o.2.1 o.2.2.1 y.2.2.2 y.1 y.2.1 y.2.2.1) (y.1,y.2.1,y.2.2.1,(Z5 y).2.2.2):=by
 rw [Bh.errors.Aat,ay,A2g,A04]
 unfold Z5 Ag9
 by_cases k:y.2.2.2=0
 ·rw [k,A1q (fun h=>h rfl),show ((0:Int)==0)=true from rfl,A2h]
  by_cases k1:B4 y.1 y.2.1 y.2.2.1=0
  ·rw [E0 k1,A08,A1q (fun h=>h k1)]; exact Adq rfl
  ·rw [Pa k1,A04,A1r k1]; exact Adq rfl
 ·rw [show (y.2.2.2==(0:Int))=false from by rw [A1z]; exact k,Bool.false_and,A08,A1r k]; exact Adq rfl
theorem Bh.errors.known:Bh.errors.Kn:=Bh.errors.Ac (.cons Cu.Check.known (.cons Aa.Part.known (.cons qr.Fi.known (.cons rq.Lq.known (.cons solve.Flat.known (.cons solve.Ct.known .nil)))))) fun r c l p q m hp=>Nj (by
 obtain ⟨al,am⟩:=Ad.1 (show (Ag l&&Ag m)=true from hp)
 show Ahw _ (erZ (r,c,l,0) (p,q,m,0))
 rw [Bh.errors.ev,al,A04,Bh.errors.Ahy]
 unfold erZ
 by_cases k:Qp r c l=0
 ·rw [E0 k,A08,A1q (fun h=>h k),Bh.errors.Alk,N6 (Auo al).1,A04]
  cases kf:Qt (T0 (r,c,l,0)) with
  | true =>
    refine (congrArg (fun o=>Ahw o _) ((congrArg (fun x=>bif x then _ else _) (show _=true from kf)).trans (A04 _ _))).mpr ?_
    rw [A1r rfl]
    exact Adr rfl
  | false =>
    refine (congrArg (fun o=>Ahw o _) ((congrArg (fun x=>bif x then _ else _) (show _=false from kf)).trans (A08 _ _))).mpr ?_
    rw [A1q (by decide),am,Bool.and_true,A04,Bh.errors.Aws]
    by_cases k2:(V2 (T0 (r,c,l,0)) (p,q,m,0)).2.2.2=0
    ·refine (congrArg (fun o=>Ahw o _) ((congrArg (fun x=>bif x then _ else _) (E0 k2)).trans (A08 _ _))).mpr ?_
     rw [A1q (fun h=>h k2),Bh.errors.Awr,N6 (Auo al).2,Ap4,A1a,A04]
     exact Awd (Q:=P8 r c l) (L:=Nm r c l) (S:=T0 (r,c,l,0)) (w:=V2 (T0 (r,c,l,0)) (p,q,m,0)) (o:=erO (r,c,l,0)) (y:=C4 (erO (r,c,l,0)) (V2 (T0 (r,c,l,0)) (p,q,m,0))) (Mw _ _ _ _ _ _)
    ·refine (congrArg (fun o=>Ahw o _) ((congrArg (fun x=>bif x then _ else _) (Pa k2)).trans (A04 _ _))).mpr ?_
     rw [A1r k2]; exact Adr rfl
 ·rw [Pa k,A04,A1r k]; exact Adr rfl)
end
open EqGg
theorem Aob {r c:Int} {l:List Int} {p q:Int} {m:List Int} (h:(Sz r c l p q m).2.2.2≠0):Sz r c l p q m=Ga (Sz r c l p q m).2.2.2:=by
 unfold Sz Gx at h ⊢
 by_cases k:Ld r c l p q m=0
 ·rw [A1q (fun h=>h k)] at h ⊢
  by_cases k2:Dj (upG c l q m r.toNat q.toNat)=true
  ·rw [A1r k2] at h; exact absurd rfl h
  ·rw [A1q k2]; rfl
 ·rw [A1r k]; rfl
theorem Atx (x y:MX):(erZ x y).2.2.2=(Tc x y).2.2.2∧((Tc x y).2.2.2=0→erZ x y=Tc x y):=by
 unfold erZ Tc
 by_cases k1:Qp x.1 x.2.1 x.2.2.1≠0
 ·rw [A1r k1,A1r k1]; exact ⟨rfl,fun _=>rfl⟩
 ·rw [A1q k1,A1q k1]
  by_cases k2:Qt (T0 x)=true
  ·rw [A1r k2,A1r k2]; exact ⟨rfl,fun _=>rfl⟩
  ·rw [A1q k2,A1q k2]
   by_cases k3:(V2 (T0 x) y).2.2.2≠0
   ·rw [A1r k3,A1r k3]; exact ⟨rfl,fun _=>rfl⟩
   ·rw [A1q k3,A1q k3]
    generalize C4 (erO x) (V2 (T0 x) y)=z
    refine ⟨rfl,?_⟩
    unfold Z5 Ag9
    by_cases k4:z.2.2.2≠0
    ·rw [A1r k4]; intro h; exact absurd h k4
    ·rw [A1q k4]
     by_cases k5:B4 z.1 z.2.1 z.2.2.1≠0
     ·rw [A1r k5]; intro h; exact absurd h (by decide)
     ·rw [A1q k5]; intro _; rfl
theorem Awe (x y:MX):Ag (Tc x y).2.2.1=true:=by
 unfold Tc
 split
 ·exact F8
 ·split
  ·exact F8
  ·split
   ·exact F8
   ·exact Ats (Mw _ _ _ _ _ _)
section
variable {N:Nat} {r c p q u v:Int} {l m h:List Int} {T C E c1 c2 e1 e2 y d f x:MX}
theorem Ave (hx:x.2.2.2≠0→x=Ga x.2.2.2) :
 Lz (Bh.Solve.C15 N r c l p q m u v h T.1 T.2.1 T.2.2.1 c1.1 c1.2.1 c1.2.2.1 c2.1 c2.2.1 c2.2.2.1 e1.1 e1.2.1 e1.2.2.1 e2.1 e2.2.1 e2.2.2.1 y.1 y.2.1 y.2.2.1 d.1 d.2.1 d.2.2.1 f.1 f.2.1 f.2.2.1 x.2.2.2 x.1 x.2.1 x.2.2.1) (Xp x (if x.2.2.2≠0 then Ga x.2.2.2 else y) x.2.2.2):=by
 rw [Bh.Solve.Ajz]
 by_cases k:x.2.2.2=0
 ·rw [E0 k,A08,A1q (fun h=>h k),k]; exact Akl rfl
 ·have e:Xp x (Ga x.2.2.2) x.2.2.2=Xp (Ga x.2.2.2) (Ga x.2.2.2) x.2.2.2:=congrArg (fun z=>Xp z (Ga x.2.2.2) x.2.2.2) (hx k)
  rw [Pa k,A04,A1r k,e]; exact N7 rfl
theorem Avf (aT:Ag T.2.2.1=true) (af:Ag f.2.2.1=true) :
 Lz (Bh.Solve.C12 N r c l p q m u v h T.1 T.2.1 T.2.2.1 c1.1 c1.2.1 c1.2.2.1 c2.1 c2.2.1 c2.2.2.1 e1.1 e1.2.1 e1.2.2.1 e2.1 e2.2.1 e2.2.2.1 y.1 y.2.1 y.2.2.1 d.1 d.2.1 d.2.2.1 f.1 f.2.1 f.2.2.1)
  (Xp (if Jh f≠0 then Ga 2 else upM T f) (if Jh f≠0 then Ga 2 else if (upM T f).2.2.2≠0 then Ga (upM T f).2.2.2 else y) (if Jh f≠0 then Ga 2 else upM T f).2.2.2):=by
 rw [Bh.Solve.Ua,aT,af,A1a,A04,A04]
 by_cases k:Jh f=0
 ·have k':¬ (Jh f≠0):=fun h=>h k
  rw [E0 (show B4 f.1 f.2.1 f.2.2.1=0 from k),A08,A1q k',A1q k']
  exact Ave (x:=upM T f) Aob
 ·rw [Pa (show B4 f.1 f.2.1 f.2.2.1≠0 from k),A04,A1r k,A1r k]; exact N7 rfl
theorem Ayg (aT:Ag T.2.2.1=true) (aC:Ag (Dx c C).2.2.1=true) (aE:Ag (Dx c E).2.2.1=true) (ay:Ag y.2.2.1=true) :
 Lz (Bh.Solve.C8 N r c l p q m u v h T.1 T.2.1 T.2.2.1 (Dx c C).1 (Dx c C).2.1 (Dx c C).2.2.1 c2.1 c2.2.1 c2.2.2.1 (Dx c E).1 (Dx c E).2.1 (Dx c E).2.2.1 e2.1 e2.2.1 e2.2.2.1 y.2.2.2 y.1 y.2.1 y.2.2.1)
  (Xp (gX2 r c T C E y) (gY2 r c T C E y) (gX2 r c T C E y).2.2.2):=by
 rw [Bh.Solve.Alj]
 unfold gX2 gY2
 by_cases k:y.2.2.2=0
 ·have k':¬ (y.2.2.2≠0):=fun h=>h k
  rw [E0 k,A08,A1q k',A1q k',aE,ay,A1a,A04,Bh.Solve.Ub,aC,Ad2,A1a,A04]
  exact Avf (c1:=Dx c C) (e1:=Dx c E) (d:=mulM (Dx c E) y) (f:=gF r c C E y) aT (Ase aC (Ad2 _ _ _ _ _ _))
 ·rw [Pa k,A04,A1r k,A1r k]; exact N7 rfl
end
theorem Bh.Solve.known:Bh.Solve.Kn:=Bh.Solve.Ac (.cons Cu.Check.known (.cons Bh.Check.known (.cons Bh.apart.known (.cons Bh.errors.known (.cons Aa.Mul.known (.cons Aa.Sub.known (.cons solve.Cq.known .nil))))))) fun r c l p q m u v h hp=>Nj (by
 have h0:Pn l m h=true:=hp
 obtain ⟨h1,ah⟩:=Ad.1 (show ((Ag l&&Ag m)&&Ag h)=true from h0)
 obtain ⟨al,am⟩:=Ad.1 h1
 show Lz _ (Xp (gX r c l p q m u v h) (gY r c l p q m u v h) (gX r c l p q m u v h).2.2.2)
 rw [Bh.Solve.ev,h0,A04]
 unfold gX gY
 by_cases k:Ix r c l p q m u v h=0
 ·have k':¬ (Ix r c l p q m u v h≠0):=fun h=>h k
  rw [E0 k,A08,A05 k,A1a,A04,A1q k',A1q k',Bh.Solve.Arv]
  by_cases k2:gE r c l p q m u v h=0
  ·have aC:Ag (gC r c l u v h).2.2.1=true:=Mw _ _ _ _ _ _
   have aE:Ag (gC r c l p q m).2.2.1=true:=Mw _ _ _ _ _ _
   have aT:Ag (gT r c l).2.2.1=true:=N6 (Af2 al).2 _ _ _ _
   have k2':¬ (gE r c l p q m u v h≠0):=fun h=>h k2
   rw [E0 k2,A08,A1q k2',A1q k2',No k2,No k2,No k2,No k2,No k2,
    show Ag (Eg r c (gC r c l p q m)).2.2.1=true from N6 aE _ _ _ _,show Ag (Eg r c (gC r c l u v h)).2.2.1=true from N6 aC _ _ _ _,A1a,A04]
   obtain ⟨s1,s2⟩:=Atx (Eg r c (gC r c l p q m)) (Eg r c (gC r c l u v h))
   by_cases k3:(Tc (Eg r c (gC r c l p q m)) (Eg r c (gC r c l u v h))).2.2.2=0
   ·have e:erZ ((Eg r c (gC r c l p q m)).1,(Eg r c (gC r c l p q m)).2.1,(Eg r c (gC r c l p q m)).2.2.1,0) ((Eg r c (gC r c l u v h)).1,(Eg r c (gC r c l u v h)).2.1,(Eg r c (gC r c l u v h)).2.2.1,0)=gY0 r c l p q m u v h:=s2 k3
    rw [e]
    exact Ayg (c2:=Eg r c (gC r c l u v h)) (e2:=Eg r c (gC r c l p q m)) aT (N6 aC _ _ _ _) (N6 aE _ _ _ _) (Awe _ _)
   ·have e:(erZ ((Eg r c (gC r c l p q m)).1,(Eg r c (gC r c l p q m)).2.1,(Eg r c (gC r c l p q m)).2.2.1,0) ((Eg r c (gC r c l u v h)).1,(Eg r c (gC r c l u v h)).2.1,(Eg r c (gC r c l u v h)).2.2.1,0)).2.2.2=(gY0 r c l p q m u v h).2.2.2:=s1
    have k4:(gY0 r c l p q m u v h).2.2.2≠0:=k3
    rw [Bh.Solve.Alj,e,Pa k4,A04]
    unfold gX2 gY2
    rw [A1r k4,A1r k4]
    exact N7 rfl
  ·rw [Pa k2,A04,A1r k2,A1r k2]; exact N7 rfl
 ·rw [Pa k,A04,A1r k,A1r k]
  exact N7 rfl)
namespace EqRef21
def Hw.Lq.Bc:List (Nat × Entry):=[(37,Af.Cb.m.spec),(127,Cm.By.spec)]
def Hw.Lq.E:Env:=Be (Bb Hw.Lq.Bc) (fun _=>false) (fun _=>none) (fun _=>none)
theorem Hw.Lq.ev (N:Nat) (r c:Int) (l:List Int):Bu Hw.Lq.E N f201 (Am f201) [.agg [.int .i64 r,.int .i64 c,.ints .arg .u64 l]]=bif (A0 r c l) then bif ((A0 ((Ap r c l).1) ((Ap r c l).2.1) ((Ap r c l).2.2.1)&&Dj ((Ap r c l).2.2.1))&&Ag ((Ap r c l).2.2.1)) then bif (!(decide (Gs ((Ap r c l).1) ((Ap r c l).2.1) ((Ap r c l).2.2.1)=0))) then some (.agg [.int .i64 ((qX ((Ap r c l).1) ((Ap r c l).2.1) ((Ap r c l).2.2.1)).1),.int .i64 ((qX ((Ap r c l).1) ((Ap r c l).2.1) ((Ap r c l).2.2.1)).2.1),.ints .arg .u64 ((qX ((Ap r c l).1) ((Ap r c l).2.1) ((Ap r c l).2.2.1)).2.2.1),.int .i64 ((rX ((Ap r c l).1) ((Ap r c l).2.1) ((Ap r c l).2.2.1)).1),.int .i64 ((rX ((Ap r c l).1) ((Ap r c l).2.1) ((Ap r c l).2.2.1)).2.1),.ints .arg .u64 ((rX ((Ap r c l).1) ((Ap r c l).2.1) ((Ap r c l).2.2.1)).2.2.1),.bool (decide (Gs ((Ap r c l).1) ((Ap r c l).2.1) ((Ap r c l).2.2.1)=0))]) else bif (A0 ((rX ((Ap r c l).1) ((Ap r c l).2.1) ((Ap r c l).2.2.1)).1) ((rX ((Ap r c l).1) ((Ap r c l).2.1) ((Ap r c l).2.2.1)).2.1) ((rX ((Ap r c l).1) ((Ap r c l).2.1) ((Ap r c l).2.2.1)).2.2.1)) then bif (A0 ((qX ((Ap r c l).1) ((Ap r c l).2.1) ((Ap r c l).2.2.1)).1) ((qX ((Ap r c l).1) ((Ap r c l).2.1) ((Ap r c l).2.2.1)).2.1) ((qX ((Ap r c l).1) ((Ap r c l).2.1) ((Ap r c l).2.2.1)).2.2.1)) then some (.agg [.int .i64 ((Ap ((qX ((Ap r c l).1) ((Ap r c l).2.1) ((Ap r c l).2.2.1)).1) ((qX ((Ap r c l).1) ((Ap r c l).2.1) ((Ap r c l).2.2.1)).2.1) ((qX ((Ap r c l).1) ((Ap r c l).2.1) ((Ap r c l).2.2.1)).2.2.1)).1),.int .i64 ((Ap ((qX ((Ap r c l).1) ((Ap r c l).2.1) ((Ap r c l).2.2.1)).1) ((qX ((Ap r c l).1) ((Ap r c l).2.1) ((Ap r c l).2.2.1)).2.1) ((qX ((Ap r c l).1) ((Ap r c l).2.1) ((Ap r c l).2.2.1)).2.2.1)).2.1),.ints .fresh .u64 ((Ap ((qX ((Ap r c l).1) ((Ap r c l).2.1) ((Ap r c l).2.2.1)).1) ((qX ((Ap r c l).1) ((Ap r c l).2.1) ((Ap r c l).2.2.1)).2.1) ((qX ((Ap r c l).1) ((Ap r c l).2.1) ((Ap r c l).2.2.1)).2.2.1)).2.2.1),.int .i64 ((Ap ((rX ((Ap r c l).1) ((Ap r c l).2.1) ((Ap r c l).2.2.1)).1) ((rX ((Ap r c l).1) ((Ap r c l).2.1) ((Ap r c l).2.2.1)).2.1) ((rX ((Ap r c l).1) ((Ap r c l).2.1) ((Ap r c l).2.2.1)).2.2.1)).1),.int .i64 ((Ap ((rX ((Ap r c l).1) ((Ap r c l).2.1) ((Ap r c l).2.2.1)).1) ((rX ((Ap r c l).1) ((Ap r c l).2.1) ((Ap r c l).2.2.1)).2.1) ((rX ((Ap r c l).1) ((Ap r c l).2.1) ((Ap r c l).2.2.1)).2.2.1)).2.1),.ints .fresh .u64 ((Ap ((rX ((Ap r c l).1) ((Ap r c l).2.1) ((Ap r c l).2.2.1)).1) ((rX ((Ap r c l).1) ((Ap r c l).2.1) ((Ap r c l).2.2.1)).2.1) ((rX ((Ap r c l).1) ((Ap r c l).2.1) ((Ap r c l).2.2.1)).2.2.1)).2.2.1),.bool true]) else none else none else none else none :=
 Eq.trans (by kernel_rfl)
 (Ec (Ec (Ec rfl (Cp (Cd (A0 ((rX ((Ap r c l).1) ((Ap r c l).2.1) ((Ap r c l).2.2.1)).1) ((rX ((Ap r c l).1) ((Ap r c l).2.1) ((Ap r c l).2.2.1)).2.1) ((rX ((Ap r c l).1) ((Ap r c l).2.1) ((Ap r c l).2.2.1)).2.2.1))) (Cp (Cd (A0 ((qX ((Ap r c l).1) ((Ap r c l).2.1) ((Ap r c l).2.2.1)).1) ((qX ((Ap r c l).1) ((Ap r c l).2.1) ((Ap r c l).2.2.1)).2.1) ((qX ((Ap r c l).1) ((Ap r c l).2.1) ((Ap r c l).2.2.1)).2.2.1))) rfl rfl) rfl)) rfl) rfl)
abbrev _root_.Go.Proofs.S1.Hw.Lq.Kn:=A7 prog 201 Hw.Lq.spec
theorem Hw.Lq.Ac (hk:A1 prog Hw.Lq.Bc) (h:Hyp Hw.Lq.E f201 Hw.Lq.ts Hw.Lq.pre Hw.Lq.out):Hw.Lq.Kn :=
 Al (A2 hk _ _ _) func201 (by kernel_rfl) (by kernel_rfl) h
def A8.Check.hint:Nat→Option Bg
 | 0=>some { keep:=[1,3,4],objs:=[(0,3,100003,.recs 24 3 [])],boxes:=[1] }
 | _=>none
def A8.Check.Bc:List (Nat × Entry):=[(25,F7.Check.spec)]
def A8.Check.E:Env:=Be (Bb A8.Check.Bc) (fun _=>false) A8.Check.hint (fun _=>none)
theorem A8.Check.ev (N:Nat) (r c:Int) (l:List Int) (p q:Int) (m:List Int) (u v:Int) (h:List Int):Bu A8.Check.E (N+5) f57 (Am f57) [.agg [.int .i64 r,.int .i64 c,.ints .arg .u64 l,.int .i64 p,.int .i64 q,.ints .arg .u64 m,.int .i64 u,.int .i64 v,.ints .arg .u64 h]]=bif (Ag l) then bif ((B4 r c l) !=(0:Int)) then bif (Ag l) then some (.int .i64 (B4 r c l)) else none else bif (Ag m) then bif ((B4 p q m) !=(0:Int)) then bif (Ag m) then some (.int .i64 (B4 p q m)) else none else bif (Ag h) then bif ((B4 u v h) !=(0:Int)) then bif (Ag h) then some (.int .i64 (B4 u v h)) else none else bif (((((r !=p)||(r !=u))||(v !=(1:Int)))||(Bd r c))||(Bd (Ab (c+q)) r)) then some (.int .i64 3) else some (.int .i64 0) else none else none else none :=
 Eq.trans (by kernel_rfl)
 (Ec (Ec rfl (Ec (Ec rfl (Ec (Ec rfl (Ax (Uc (r !=p)) (Ax (Sr (r !=p)) (Ax (Sr (r !=p)) (Ax (Uc (r !=p)) (Ax (Sr (r !=p)) (Ax (Sr (r !=p)) (Ax (tt8 (r !=p)) (Ax (Ye (r !=p)) (Ax (Alq (r !=p) (r !=u)) (Ax (Ac0 (r !=p) (r !=u)) (Ax (Ac0 (r !=p) (r !=u)) (Ax (Ac0 (r !=p) (r !=u)) (Ax (Ar6 (r !=p) (r !=u)) (Ax (Alr (r !=p) (r !=u) (v !=(1:Int))) (Ax (Als (r !=p) (r !=u) (v !=(1:Int))) (Ax (Als (r !=p) (r !=u) (v !=(1:Int))) (Ax (Alr (r !=p) (r !=u) (v !=(1:Int))) (Ax (Als (r !=p) (r !=u) (v !=(1:Int))) (Ax (Als (r !=p) (r !=u) (v !=(1:Int))) (Ax (Auj (r !=p) (r !=u) (v !=(1:Int))) (Ax (Ar7 (r !=p) (r !=u) (v !=(1:Int))) (Ax (Aau (r !=p) (r !=u) (v !=(1:Int)) (Bd r c)) (Ax (Aav (r !=p) (r !=u) (v !=(1:Int)) (Bd r c)) (Ax (Aav (r !=p) (r !=u) (v !=(1:Int)) (Bd r c)) (Ax (Aau (r !=p) (r !=u) (v !=(1:Int)) (Bd r c)) (Ax (Aav (r !=p) (r !=u) (v !=(1:Int)) (Bd r c)) (Ax (Aav (r !=p) (r !=u) (v !=(1:Int)) (Bd r c)) (Ax (Aau (r !=p) (r !=u) (v !=(1:Int)) (Bd r c)) (Ax (Aav (r !=p) (r !=u) (v !=(1:Int)) (Bd r c)) (Ax (Aav (r !=p) (r !=u) (v !=(1:Int)) (Bd r c)) (Ax (Alu (r !=p) (r !=u) (v !=(1:Int)) (Bd r c)) (Ax (Alu (r !=p) (r !=u) (v !=(1:Int)) (Bd r c)) (Ax (Ar8 (r !=p) (r !=u) (v !=(1:Int)) (Bd r c)) (Cp (Au1 (r !=p) (r !=u) (v !=(1:Int)) (Bd r c) (Bd (Ab (c+q)) r)) rfl rfl))))))))))))))))))))))))))))))))))) rfl)) rfl)) rfl)
abbrev _root_.Go.Proofs.S1.A8.Check.Kn:=A7 prog 57 A8.Check.spec
theorem A8.Check.Ac (hk:A1 prog A8.Check.Bc) (h:Hyp A8.Check.E f57 A8.Check.ts A8.Check.pre A8.Check.out):A8.Check.Kn :=
 Al (A2 hk _ _ _) func57 (by kernel_rfl) (by kernel_rfl) h
def A8.Hz.Bc:List (Nat × Entry):=[]
def A8.Hz.E:Env:=Be (Bb A8.Hz.Bc) (fun _=>false) (fun _=>none) (fun _=>none)
theorem A8.Hz.ev (N:Nat) (e:Int):Bu A8.Hz.E N f137 (Am f137) [.int .i64 e]=some (.agg [.int .i64 0,.int .i64 0,.nil,.int .i64 0,.int .i64 0,.nil,.int .i64 e]):=by kernel_rfl
abbrev _root_.Go.Proofs.S1.A8.Hz.Kn:=A7 prog 137 A8.Hz.spec
theorem A8.Hz.Ac (hk:A1 prog A8.Hz.Bc) (h:Hyp A8.Hz.E f137 A8.Hz.ts A8.Hz.pre A8.Hz.out):A8.Hz.Kn :=
 Al (A2 hk _ _ _) func137 (by kernel_rfl) (by kernel_rfl) h
def A8.rows.Bc:List (Nat × Entry):=[(128,Af.Part.m.spec)]
def A8.rows.E:Env:=Be (Bb A8.rows.Bc) (fun _=>false) (fun _=>none) (fun _=>none)
theorem A8.rows.ev (N:Nat) (r c:Int) (l:List Int) (x y:Int):Bu A8.rows.E N f138 (Am f138) [.agg [.int .i64 r,.int .i64 c,.ints .arg .u64 l],.int .i64 x,.int .i64 y]=bif (A0 r c l&&E7 r c x 0 (Ab (y-x)) c) then some (.agg [.int .i64 ((Az r c l x 0 (Ab (y-x)) c).1),.int .i64 ((Az r c l x 0 (Ab (y-x)) c).2.1),.ints .fresh .u64 ((Az r c l x 0 (Ab (y-x)) c).2.2.1)]) else none:=by kernel_rfl
abbrev _root_.Go.Proofs.S1.A8.rows.Kn:=A7 prog 138 A8.rows.spec
theorem A8.rows.Ac (hk:A1 prog A8.rows.Bc) (h:Hyp A8.rows.E f138 A8.rows.ts A8.rows.pre A8.rows.out):A8.rows.Kn :=
 Al (A2 hk _ _ _) func138 (by kernel_rfl) (by kernel_rfl) h
def A8.least.Bc:List (Nat × Entry):=[(45,Af.Mul.m.spec),(128,Af.Part.m.spec),(37,Af.Cb.m.spec),(25,F7.Check.spec),(201,Hw.Lq.spec),(26,A3.Flat.m.spec),(23,A3.Ct.spec),(138,A8.rows.spec)]
def A8.least.live:Nat→Option (List Nat)
 | 2=>some [2,3,4,6]
 | 5=>some [2,3,4,6,7]
 | 8=>some [2,4,6,8,9]
 | 11=>some [4,10]
 | _=>none
def A8.least.E:Env:=Be (Bb A8.least.Bc) (fun _=>false) (fun _=>none) A8.least.live
section
variable (N:Nat) (r c:Int) (l:List Int) (p q:Int) (m:List Int) (p6 p6_1:Int) (p6_2:List Int) (p6_3 p6_4:Int) (p6_5:List Int) (p6_6:Bool) (p7 p7_1:Int) (p7_2:List Int) (p9 p8 p8_1:Int) (p8_2:List Int) (p10 p10_1:Int) (p10_2:List Int)
def A8.least.C2:Option DV:=cutAt A8.least.E N f139 (Am f139) [1,1,0] [] ⟨E5 50 [(2,.ptr 2 0 0),(3,.ptr 3 0 0),(4,.ptr 4 0 0),(6,.ptr 6 0 0)],[(6,false,.box [.int .i64 p6,.int .i64 p6_1,.ints .arg .u64 p6_2,.int .i64 p6_3,.int .i64 p6_4,.ints .arg .u64 p6_5,.bool p6_6]),(4,false,.box [.int .i64 0,.int .i64 0,.nil]),(3,false,.box [.int .i64 p,.int .i64 q,.ints .arg .u64 m]),(2,false,.box [.int .i64 r,.int .i64 c,.ints .arg .u64 l])]⟩
def A8.least.C5:Option DV:=cutAt A8.least.E N f139 (Am f139) [1,1,1,1,0] [] ⟨E5 50 [(2,.ptr 2 0 0),(3,.ptr 3 0 0),(4,.ptr 4 0 0),(6,.ptr 6 0 0),(7,.ptr 7 0 0)],[(7,false,.box [.int .i64 p7,.int .i64 p7_1,.ints .fresh .u64 p7_2]),(6,false,.box [.int .i64 p6,.int .i64 p6_1,.ints .arg .u64 p6_2,.int .i64 p6_3,.int .i64 p6_4,.ints .arg .u64 p6_5,.bool p6_6]),(4,false,.box [.int .i64 0,.int .i64 0,.nil]),(3,false,.box [.int .i64 p,.int .i64 q,.ints .arg .u64 m]),(2,false,.box [.int .i64 r,.int .i64 c,.ints .arg .u64 l])]⟩
def A8.least.C8:Option DV:=cutAt A8.least.E N f139 (Am f139) [1,1,1,1,1,1,0] [] ⟨E5 50 [(2,.ptr 2 0 0),(4,.ptr 4 0 0),(6,.ptr 6 0 0),(8,.ptr 8 0 0),(9,.int .i64 p9)],[(8,false,.box [.int .i64 p8,.int .i64 p8_1,.ints .arg .u64 p8_2]),(7,false,.box [.int .i64 p7,.int .i64 p7_1,.ints .fresh .u64 p7_2]),(6,false,.box [.int .i64 p6,.int .i64 p6_1,.ints .arg .u64 p6_2,.int .i64 p6_3,.int .i64 p6_4,.ints .arg .u64 p6_5,.bool p6_6]),(4,false,.box [.int .i64 0,.int .i64 0,.nil]),(3,false,.box [.int .i64 p,.int .i64 q,.ints .arg .u64 m]),(2,false,.box [.int .i64 r,.int .i64 c,.ints .arg .u64 l])]⟩
def A8.least.C11:Option DV:=cutAt A8.least.E N f139 (Am f139) [1,1,1,1,1,1,1,1,0] [] ⟨E5 50 [(4,.ptr 4 0 0),(10,.ptr 10 0 0)],[(10,false,.box [.int .i64 p10,.int .i64 p10_1,.ints .fresh .u64 p10_2]),(8,false,.box [.int .i64 p8,.int .i64 p8_1,.ints .arg .u64 p8_2]),(7,false,.box [.int .i64 p7,.int .i64 p7_1,.ints .fresh .u64 p7_2]),(6,false,.box [.int .i64 p6,.int .i64 p6_1,.ints .arg .u64 p6_2,.int .i64 p6_3,.int .i64 p6_4,.ints .arg .u64 p6_5,.bool p6_6]),(4,false,.box [.int .i64 0,.int .i64 0,.nil]),(3,false,.box [.int .i64 p,.int .i64 q,.ints .arg .u64 m]),(2,false,.box [.int .i64 r,.int .i64 c,.ints .arg .u64 l])]⟩
theorem A8.least.Ahy:A8.least.C2 N r c l p q m p6 p6_1 p6_2 p6_3 p6_4 p6_5 p6_6=bif (!p6_6) then some (.tup [.agg [.int .i64 0,.int .i64 0,.nil],.int .i64 2]) else bif (A0 p6_3 p6_4 p6_5&&E7 p6_3 p6_4 0 0 r r) then A8.least.C5 N r c l p q m p6 p6_1 p6_2 p6_3 p6_4 p6_5 p6_6 ((Az p6_3 p6_4 p6_5 0 0 r r).1) ((Az p6_3 p6_4 p6_5 0 0 r r).2.1) ((Az p6_3 p6_4 p6_5 0 0 r r).2.2.1) else none:=(Dt _ _ _ _ _ _ _).trans (by kernel_rfl)
theorem A8.least.Arv:A8.least.C5 N r c l p q m p6 p6_1 p6_2 p6_3 p6_4 p6_5 p6_6 p7 p7_1 p7_2=bif ((A0 p7 p7_1 p7_2&&Ag p7_2)&&Dj p7_2) then bif ((Jv p7 p7_1 p7_2).1) then some (.tup [.agg [.int .i64 0,.int .i64 0,.nil],.int .i64 5]) else bif (Ag p7_2&&Ag m) then A8.least.C8 N r c l p q m p6 p6_1 p6_2 p6_3 p6_4 p6_5 p6_6 p7 p7_1 p7_2 ((Ud p7 p7_1 p7_2 p q m).2.2.2) ((Ud p7 p7_1 p7_2 p q m).1) ((Ud p7 p7_1 p7_2 p q m).2.1) ((Ud p7 p7_1 p7_2 p q m).2.2.1) else none else none:=(Dt _ _ _ _ _ _ _).trans (by kernel_rfl)
theorem A8.least.Alj:A8.least.C8 N r c l p q m p6 p6_1 p6_2 p6_3 p6_4 p6_5 p6_6 p7 p7_1 p7_2 p9 p8 p8_1 p8_2=bif (p9 !=(0:Int)) then some (.tup [.agg [.int .i64 0,.int .i64 0,.nil],.int .i64 p9]) else bif ((A0 p6 p6_1 p6_2&&Co (-100≤(0:Int)∧(0:Int)≤100∧-100≤r∧r≤100))&&E7 p6 p6_1 0 0 (r-0) p6_1) then bif (A0 ((Az p6 p6_1 p6_2 0 0 (r-0) p6_1).1) ((Az p6 p6_1 p6_2 0 0 (r-0) p6_1).2.1) ((Az p6 p6_1 p6_2 0 0 (r-0) p6_1).2.2.1)) then bif ((A0 ((Ap ((Az p6 p6_1 p6_2 0 0 (r-0) p6_1).1) ((Az p6 p6_1 p6_2 0 0 (r-0) p6_1).2.1) ((Az p6 p6_1 p6_2 0 0 (r-0) p6_1).2.2.1)).1) ((Ap ((Az p6 p6_1 p6_2 0 0 (r-0) p6_1).1) ((Az p6 p6_1 p6_2 0 0 (r-0) p6_1).2.1) ((Az p6 p6_1 p6_2 0 0 (r-0) p6_1).2.2.1)).2.1) ((Ap ((Az p6 p6_1 p6_2 0 0 (r-0) p6_1).1) ((Az p6 p6_1 p6_2 0 0 (r-0) p6_1).2.1) ((Az p6 p6_1 p6_2 0 0 (r-0) p6_1).2.2.1)).2.2.1)&&A0 p8 p8_1 p8_2)&&((Ag ((Ap ((Az p6 p6_1 p6_2 0 0 (r-0) p6_1).1) ((Az p6 p6_1 p6_2 0 0 (r-0) p6_1).2.1) ((Az p6 p6_1 p6_2 0 0 (r-0) p6_1).2.2.1)).2.2.1)&&Ag p8_2)&&decide (((Ap ((Az p6 p6_1 p6_2 0 0 (r-0) p6_1).1) ((Az p6 p6_1 p6_2 0 0 (r-0) p6_1).2.1) ((Az p6 p6_1 p6_2 0 0 (r-0) p6_1).2.2.1)).2.1)=p8))) then A8.least.C11 N r c l p q m p6 p6_1 p6_2 p6_3 p6_4 p6_5 p6_6 p7 p7_1 p7_2 p8 p8_1 p8_2 ((Fo ((Ap ((Az p6 p6_1 p6_2 0 0 (r-0) p6_1).1) ((Az p6 p6_1 p6_2 0 0 (r-0) p6_1).2.1) ((Az p6 p6_1 p6_2 0 0 (r-0) p6_1).2.2.1)).1) ((Ap ((Az p6 p6_1 p6_2 0 0 (r-0) p6_1).1) ((Az p6 p6_1 p6_2 0 0 (r-0) p6_1).2.1) ((Az p6 p6_1 p6_2 0 0 (r-0) p6_1).2.2.1)).2.1) ((Ap ((Az p6 p6_1 p6_2 0 0 (r-0) p6_1).1) ((Az p6 p6_1 p6_2 0 0 (r-0) p6_1).2.1) ((Az p6 p6_1 p6_2 0 0 (r-0) p6_1).2.2.1)).2.2.1) p8 p8_1 p8_2).1) ((Fo ((Ap ((Az p6 p6_1 p6_2 0 0 (r-0) p6_1).1) ((Az p6 p6_1 p6_2 0 0 (r-0) p6_1).2.1) ((Az p6 p6_1 p6_2 0 0 (r-0) p6_1).2.2.1)).1) ((Ap ((Az p6 p6_1 p6_2 0 0 (r-0) p6_1).1) ((Az p6 p6_1 p6_2 0 0 (r-0) p6_1).2.1) ((Az p6 p6_1 p6_2 0 0 (r-0) p6_1).2.2.1)).2.1) ((Ap ((Az p6 p6_1 p6_2 0 0 (r-0) p6_1).1) ((Az p6 p6_1 p6_2 0 0 (r-0) p6_1).2.1) ((Az p6 p6_1 p6_2 0 0 (r-0) p6_1).2.2.1)).2.2.1) p8 p8_1 p8_2).2.1) ((Fo ((Ap ((Az p6 p6_1 p6_2 0 0 (r-0) p6_1).1) ((Az p6 p6_1 p6_2 0 0 (r-0) p6_1).2.1) ((Az p6 p6_1 p6_2 0 0 (r-0) p6_1).2.2.1)).1) ((Ap ((Az p6 p6_1 p6_2 0 0 (r-0) p6_1).1) ((Az p6 p6_1 p6_2 0 0 (r-0) p6_1).2.1) ((Az p6 p6_1 p6_2 0 0 (r-0) p6_1).2.2.1)).2.1) ((Ap ((Az p6 p6_1 p6_2 0 0 (r-0) p6_1).1) ((Az p6 p6_1 p6_2 0 0 (r-0) p6_1).2.1) ((Az p6 p6_1 p6_2 0 0 (r-0) p6_1).2.2.1)).2.2.1) p8 p8_1 p8_2).2.2.1) else none else none else none :=
 Eq.trans ((Dt _ _ _ _ _ _ _).trans (by kernel_rfl))
 (Ec rfl (Cp (Cd ((A0 p6 p6_1 p6_2&&Co (-100≤(0:Int)∧(0:Int)≤100∧-100≤r∧r≤100))&&E7 p6 p6_1 0 0 (r-0) p6_1)) (Cp (Cd (A0 ((Az p6 p6_1 p6_2 0 0 (r-0) p6_1).1) ((Az p6 p6_1 p6_2 0 0 (r-0) p6_1).2.1) ((Az p6 p6_1 p6_2 0 0 (r-0) p6_1).2.2.1))) (Cp (Cd ((A0 ((Ap ((Az p6 p6_1 p6_2 0 0 (r-0) p6_1).1) ((Az p6 p6_1 p6_2 0 0 (r-0) p6_1).2.1) ((Az p6 p6_1 p6_2 0 0 (r-0) p6_1).2.2.1)).1) ((Ap ((Az p6 p6_1 p6_2 0 0 (r-0) p6_1).1) ((Az p6 p6_1 p6_2 0 0 (r-0) p6_1).2.1) ((Az p6 p6_1 p6_2 0 0 (r-0) p6_1).2.2.1)).2.1) ((Ap ((Az p6 p6_1 p6_2 0 0 (r-0) p6_1).1) ((Az p6 p6_1 p6_2 0 0 (r-0) p6_1).2.1) ((Az p6 p6_1 p6_2 0 0 (r-0) p6_1).2.2.1)).2.2.1)&&A0 p8 p8_1 p8_2)&&((Ag ((Ap ((Az p6 p6_1 p6_2 0 0 (r-0) p6_1).1) ((Az p6 p6_1 p6_2 0 0 (r-0) p6_1).2.1) ((Az p6 p6_1 p6_2 0 0 (r-0) p6_1).2.2.1)).2.2.1)&&Ag p8_2)&&decide (((Ap ((Az p6 p6_1 p6_2 0 0 (r-0) p6_1).1) ((Az p6 p6_1 p6_2 0 0 (r-0) p6_1).2.1) ((Az p6 p6_1 p6_2 0 0 (r-0) p6_1).2.2.1)).2.1)=p8)))) rfl rfl) rfl) rfl))
theorem A8.least.Ub:A8.least.C11 N r c l p q m p6 p6_1 p6_2 p6_3 p6_4 p6_5 p6_6 p7 p7_1 p7_2 p8 p8_1 p8_2 p10 p10_1 p10_2=bif (Ag p10_2) then bif ((B4 p10 p10_1 p10_2) !=(0:Int)) then some (.tup [.agg [.int .i64 0,.int .i64 0,.nil],.int .i64 2]) else some (.tup [.agg [.int .i64 p10,.int .i64 p10_1,.ints .fresh .u64 p10_2],.int .i64 0]) else none:=(Dt _ _ _ _ _ _ _).trans (by kernel_rfl)
theorem A8.least.ev:Bu A8.least.E N f139 (Am f139) [.agg [.int .i64 r,.int .i64 c,.ints .arg .u64 l],.agg [.int .i64 p,.int .i64 q,.ints .arg .u64 m]]=bif ((A0 r c l&&Dj l)&&Ag l) then A8.least.C2 N r c l p q m ((P8 r c l).1) ((P8 r c l).2.1) ((P8 r c l).2.2.1) ((Nm r c l).1) ((Nm r c l).2.1) ((Nm r c l).2.2.1) (decide (Qp r c l=0)) else none:=by kernel_rfl
end
abbrev _root_.Go.Proofs.S1.A8.least.Kn:=A7 prog 139 A8.least.spec
theorem A8.least.Ac (hk:A1 prog A8.least.Bc) (h:Hyp A8.least.E f139 A8.least.ts A8.least.pre A8.least.out):A8.least.Kn :=
 Al (A2 hk _ _ _) func139 (by kernel_rfl) (by kernel_rfl) h
def A8.Solve.Bc:List (Nat × Entry):=[(45,Af.Mul.m.spec),(129,Af.Sub.m.spec),(37,Af.Cb.m.spec),(25,F7.Check.spec),(127,Cm.By.spec),(26,A3.Flat.m.spec),(101,A3.Cq.spec),(57,A8.Check.spec),(137,A8.Hz.spec),(139,A8.least.spec),(138,A8.rows.spec)]
def A8.Solve.live:Nat→Option (List Nat)
 | 6=>some [1,2,3,4,5]
 | 11=>some [1,2,3,4,5,6]
 | 12=>some [2,3,4,5,6,7]
 | 15=>some [2,4,5,6,7,8,9]
 | 18=>some [2,4,5,8,10]
 | 21=>some [2,8,11,12]
 | _=>none
def A8.Solve.E:Env:=Be (Bb A8.Solve.Bc) (fun _=>false) (fun _=>none) A8.Solve.live
section
variable (N:Nat) (r c:Int) (l:List Int) (p q:Int) (m:List Int) (u v:Int) (h:List Int) (p5 p5_1:Int) (p5_2:List Int) (p5_3 p5_4:Int) (p5_5:List Int) (p5_6:Bool) (p6 p6_1:Int) (p6_2:List Int) (p7 p7_1:Int) (p7_2:List Int) (p9 p8 p8_1:Int) (p8_2:List Int) (p10 p10_1:Int) (p10_2:List Int) (p12 p11 p11_1:Int) (p11_2:List Int)
def A8.Solve.C6:Option DV:=cutAt A8.Solve.E N f61 (Am f61) [1,1,1,1,1,0] [] ⟨E5 104 [(1,.ptr 1 0 0),(2,.ptr 2 0 0),(3,.int .i64 r),(4,.int .i64 c),(5,.ptr 5 0 0)],[(5,false,.box [.int .i64 p5,.int .i64 p5_1,.ints .arg .u64 p5_2,.int .i64 p5_3,.int .i64 p5_4,.ints .arg .u64 p5_5,.bool p5_6]),(2,false,.box [.int .i64 0,.int .i64 0,.nil,.int .i64 0,.int .i64 0,.nil,.int .i64 0]),(1,false,.box [.int .i64 r,.int .i64 c,.ints .arg .u64 l,.int .i64 p,.int .i64 q,.ints .arg .u64 m,.int .i64 u,.int .i64 v,.ints .arg .u64 h])]⟩
def A8.Solve.C11:Option DV:=cutAt A8.Solve.E N f61 (Am f61) [1,1,1,1,1,1,1,1] [] ⟨E5 104 [(1,.ptr 1 0 0),(2,.ptr 2 0 0),(3,.int .i64 r),(4,.int .i64 c),(5,.ptr 5 0 0),(6,.ptr 6 0 0)],[(6,false,.box [.int .i64 p6,.int .i64 p6_1,.ints .fresh .u64 p6_2]),(5,false,.box [.int .i64 p5,.int .i64 p5_1,.ints .arg .u64 p5_2,.int .i64 p5_3,.int .i64 p5_4,.ints .arg .u64 p5_5,.bool p5_6]),(2,false,.box [.int .i64 0,.int .i64 0,.nil,.int .i64 0,.int .i64 0,.nil,.int .i64 0]),(1,false,.box [.int .i64 r,.int .i64 c,.ints .arg .u64 l,.int .i64 p,.int .i64 q,.ints .arg .u64 m,.int .i64 u,.int .i64 v,.ints .arg .u64 h])]⟩
def A8.Solve.C12:Option DV:=cutAt A8.Solve.E N f61 (Am f61) [1,1,1,1,1,1,1,1,1,0] [] ⟨E5 104 [(2,.ptr 2 0 0),(3,.int .i64 r),(4,.int .i64 c),(5,.ptr 5 0 0),(6,.ptr 6 0 0),(7,.ptr 7 0 0)],[(7,false,.box [.int .i64 p7,.int .i64 p7_1,.ints .fresh .u64 p7_2]),(6,false,.box [.int .i64 p6,.int .i64 p6_1,.ints .fresh .u64 p6_2]),(5,false,.box [.int .i64 p5,.int .i64 p5_1,.ints .arg .u64 p5_2,.int .i64 p5_3,.int .i64 p5_4,.ints .arg .u64 p5_5,.bool p5_6]),(2,false,.box [.int .i64 0,.int .i64 0,.nil,.int .i64 0,.int .i64 0,.nil,.int .i64 0]),(1,false,.box [.int .i64 r,.int .i64 c,.ints .arg .u64 l,.int .i64 p,.int .i64 q,.ints .arg .u64 m,.int .i64 u,.int .i64 v,.ints .arg .u64 h])]⟩
def A8.Solve.C15:Option DV:=cutAt A8.Solve.E N f61 (Am f61) [1,1,1,1,1,1,1,1,1,1,1,0] [] ⟨E5 104 [(2,.ptr 2 0 0),(4,.int .i64 c),(5,.ptr 5 0 0),(6,.ptr 6 0 0),(7,.ptr 7 0 0),(8,.ptr 8 0 0),(9,.int .i64 p9)],[(8,false,.box [.int .i64 p8,.int .i64 p8_1,.ints .arg .u64 p8_2]),(7,false,.box [.int .i64 p7,.int .i64 p7_1,.ints .fresh .u64 p7_2]),(6,false,.box [.int .i64 p6,.int .i64 p6_1,.ints .fresh .u64 p6_2]),(5,false,.box [.int .i64 p5,.int .i64 p5_1,.ints .arg .u64 p5_2,.int .i64 p5_3,.int .i64 p5_4,.ints .arg .u64 p5_5,.bool p5_6]),(2,false,.box [.int .i64 0,.int .i64 0,.nil,.int .i64 0,.int .i64 0,.nil,.int .i64 0]),(1,false,.box [.int .i64 r,.int .i64 c,.ints .arg .u64 l,.int .i64 p,.int .i64 q,.ints .arg .u64 m,.int .i64 u,.int .i64 v,.ints .arg .u64 h])]⟩
def A8.Solve.C18:Option DV:=cutAt A8.Solve.E N f61 (Am f61) [1,1,1,1,1,1,1,1,1,1,1,1,1,0] [] ⟨E5 104 [(2,.ptr 2 0 0),(4,.int .i64 c),(5,.ptr 5 0 0),(8,.ptr 8 0 0),(10,.ptr 10 0 0)],[(10,false,.box [.int .i64 p10,.int .i64 p10_1,.ints .fresh .u64 p10_2]),(8,false,.box [.int .i64 p8,.int .i64 p8_1,.ints .arg .u64 p8_2]),(7,false,.box [.int .i64 p7,.int .i64 p7_1,.ints .fresh .u64 p7_2]),(6,false,.box [.int .i64 p6,.int .i64 p6_1,.ints .fresh .u64 p6_2]),(5,false,.box [.int .i64 p5,.int .i64 p5_1,.ints .arg .u64 p5_2,.int .i64 p5_3,.int .i64 p5_4,.ints .arg .u64 p5_5,.bool p5_6]),(2,false,.box [.int .i64 0,.int .i64 0,.nil,.int .i64 0,.int .i64 0,.nil,.int .i64 0]),(1,false,.box [.int .i64 r,.int .i64 c,.ints .arg .u64 l,.int .i64 p,.int .i64 q,.ints .arg .u64 m,.int .i64 u,.int .i64 v,.ints .arg .u64 h])]⟩
def A8.Solve.C21:Option DV:=cutAt A8.Solve.E N f61 (Am f61) [1,1,1,1,1,1,1,1,1,1,1,1,1,1,1,0] [] ⟨E5 104 [(2,.ptr 2 0 0),(8,.ptr 8 0 0),(11,.ptr 11 0 0),(12,.int .i64 p12)],[(11,false,.box [.int .i64 p11,.int .i64 p11_1,.ints .arg .u64 p11_2]),(10,false,.box [.int .i64 p10,.int .i64 p10_1,.ints .fresh .u64 p10_2]),(8,false,.box [.int .i64 p8,.int .i64 p8_1,.ints .arg .u64 p8_2]),(7,false,.box [.int .i64 p7,.int .i64 p7_1,.ints .fresh .u64 p7_2]),(6,false,.box [.int .i64 p6,.int .i64 p6_1,.ints .fresh .u64 p6_2]),(5,false,.box [.int .i64 p5,.int .i64 p5_1,.ints .arg .u64 p5_2,.int .i64 p5_3,.int .i64 p5_4,.ints .arg .u64 p5_5,.bool p5_6]),(2,false,.box [.int .i64 0,.int .i64 0,.nil,.int .i64 0,.int .i64 0,.nil,.int .i64 0]),(1,false,.box [.int .i64 r,.int .i64 c,.ints .arg .u64 l,.int .i64 p,.int .i64 q,.ints .arg .u64 m,.int .i64 u,.int .i64 v,.ints .arg .u64 h])]⟩
theorem A8.Solve.Alk:A8.Solve.C6 N r c l p q m u v h p5 p5_1 p5_2 p5_3 p5_4 p5_5 p5_6=bif (!p5_6) then some (.agg [.int .i64 0,.int .i64 0,.ints .arg .u64 [],.int .i64 0,.int .i64 0,.ints .arg .u64 [],.int .i64 2]) else bif ((A0 p5_3 p5_4 p5_5&&Co (-100≤(0:Int)∧(0:Int)≤100∧-100≤c∧c≤100))&&E7 p5_3 p5_4 0 0 (c-0) p5_4) then bif ((A0 ((Az p5_3 p5_4 p5_5 0 0 (c-0) p5_4).1) ((Az p5_3 p5_4 p5_5 0 0 (c-0) p5_4).2.1) ((Az p5_3 p5_4 p5_5 0 0 (c-0) p5_4).2.2.1)&&Ag ((Az p5_3 p5_4 p5_5 0 0 (c-0) p5_4).2.2.1))&&Dj ((Az p5_3 p5_4 p5_5 0 0 (c-0) p5_4).2.2.1)) then bif ((Jv ((Az p5_3 p5_4 p5_5 0 0 (c-0) p5_4).1) ((Az p5_3 p5_4 p5_5 0 0 (c-0) p5_4).2.1) ((Az p5_3 p5_4 p5_5 0 0 (c-0) p5_4).2.2.1)).1) then some (.agg [.int .i64 0,.int .i64 0,.ints .arg .u64 [],.int .i64 0,.int .i64 0,.ints .arg .u64 [],.int .i64 5]) else bif (A0 p5 p5_1 p5_2) then bif ((A0 ((Ap p5 p5_1 p5_2).1) ((Ap p5 p5_1 p5_2).2.1) ((Ap p5 p5_1 p5_2).2.2.1)&&A0 u v h)&&((Ag ((Ap p5 p5_1 p5_2).2.2.1)&&Ag h)&&decide (((Ap p5 p5_1 p5_2).2.1)=u))) then A8.Solve.C11 N r c l p q m u v h p5 p5_1 p5_2 p5_3 p5_4 p5_5 p5_6 ((Fo ((Ap p5 p5_1 p5_2).1) ((Ap p5 p5_1 p5_2).2.1) ((Ap p5 p5_1 p5_2).2.2.1) u v h).1) ((Fo ((Ap p5 p5_1 p5_2).1) ((Ap p5 p5_1 p5_2).2.1) ((Ap p5 p5_1 p5_2).2.2.1) u v h).2.1) ((Fo ((Ap p5 p5_1 p5_2).1) ((Ap p5 p5_1 p5_2).2.1) ((Ap p5 p5_1 p5_2).2.2.1) u v h).2.2.1) else none else none else none else none :=
 Eq.trans ((Dt _ _ _ _ _ _ _).trans (by kernel_rfl))
 (Ec rfl (Ec (Ec (Ec rfl (Cp (Cd (A0 p5 p5_1 p5_2)) (Cp (Cd ((A0 ((Ap p5 p5_1 p5_2).1) ((Ap p5 p5_1 p5_2).2.1) ((Ap p5 p5_1 p5_2).2.2.1)&&A0 u v h)&&((Ag ((Ap p5 p5_1 p5_2).2.2.1)&&Ag h)&&decide (((Ap p5 p5_1 p5_2).2.1)=u)))) rfl rfl) rfl)) rfl) rfl))
theorem A8.Solve.Ub:A8.Solve.C11 N r c l p q m u v h p5 p5_1 p5_2 p5_3 p5_4 p5_5 p5_6 p6 p6_1 p6_2=bif (A0 p5 p5_1 p5_2) then bif ((A0 ((Ap p5 p5_1 p5_2).1) ((Ap p5 p5_1 p5_2).2.1) ((Ap p5 p5_1 p5_2).2.2.1)&&A0 p q m)&&((Ag ((Ap p5 p5_1 p5_2).2.2.1)&&Ag m)&&decide (((Ap p5 p5_1 p5_2).2.1)=p))) then A8.Solve.C12 N r c l p q m u v h p5 p5_1 p5_2 p5_3 p5_4 p5_5 p5_6 p6 p6_1 p6_2 ((Fo ((Ap p5 p5_1 p5_2).1) ((Ap p5 p5_1 p5_2).2.1) ((Ap p5 p5_1 p5_2).2.2.1) p q m).1) ((Fo ((Ap p5 p5_1 p5_2).1) ((Ap p5 p5_1 p5_2).2.1) ((Ap p5 p5_1 p5_2).2.2.1) p q m).2.1) ((Fo ((Ap p5 p5_1 p5_2).1) ((Ap p5 p5_1 p5_2).2.1) ((Ap p5 p5_1 p5_2).2.2.1) p q m).2.2.1) else none else none :=
 Eq.trans ((Dt _ _ _ _ _ _ _).trans (by kernel_rfl))
 (Cp (Cd (A0 p5 p5_1 p5_2)) (Cp (Cd ((A0 ((Ap p5 p5_1 p5_2).1) ((Ap p5 p5_1 p5_2).2.1) ((Ap p5 p5_1 p5_2).2.2.1)&&A0 p q m)&&((Ag ((Ap p5 p5_1 p5_2).2.2.1)&&Ag m)&&decide (((Ap p5 p5_1 p5_2).2.1)=p)))) rfl rfl) rfl)
theorem A8.Solve.Ua:A8.Solve.C12 N r c l p q m u v h p5 p5_1 p5_2 p5_3 p5_4 p5_5 p5_6 p6 p6_1 p6_2 p7 p7_1 p7_2=bif (Ag p6_2) then bif (((B4 p6 p6_1 p6_2) !=(0:Int))||(Ag p7_2)) then bif (((B4 p6 p6_1 p6_2) !=(0:Int))||((B4 p7 p7_1 p7_2) !=(0:Int))) then some (.agg [.int .i64 0,.int .i64 0,.ints .arg .u64 [],.int .i64 0,.int .i64 0,.ints .arg .u64 [],.int .i64 2]) else bif ((A0 p7 p7_1 p7_2&&Co (-100≤c∧c≤100∧-100≤r∧r≤100))&&E7 p7 p7_1 c 0 (r-c) p7_1) then bif ((A0 p6 p6_1 p6_2&&Co (-100≤c∧c≤100∧-100≤r∧r≤100))&&E7 p6 p6_1 c 0 (r-c) p6_1) then bif (((A0 ((Az p7 p7_1 p7_2 c 0 (r-c) p7_1).1) ((Az p7 p7_1 p7_2 c 0 (r-c) p7_1).2.1) ((Az p7 p7_1 p7_2 c 0 (r-c) p7_1).2.2.1)&&Dj ((Az p7 p7_1 p7_2 c 0 (r-c) p7_1).2.2.1))&&(Ag ((Az p7 p7_1 p7_2 c 0 (r-c) p7_1).2.2.1)&&Ag ((Az p6 p6_1 p6_2 c 0 (r-c) p6_1).2.2.1)))&&decide (((Az p7 p7_1 p7_2 c 0 (r-c) p7_1).1)≤((Az p7 p7_1 p7_2 c 0 (r-c) p7_1).2.1))) then A8.Solve.C15 N r c l p q m u v h p5 p5_1 p5_2 p5_3 p5_4 p5_5 p5_6 p6 p6_1 p6_2 p7 p7_1 p7_2 ((Tc (((Az p7 p7_1 p7_2 c 0 (r-c) p7_1).1),((Az p7 p7_1 p7_2 c 0 (r-c) p7_1).2.1),((Az p7 p7_1 p7_2 c 0 (r-c) p7_1).2.2.1),0) (((Az p6 p6_1 p6_2 c 0 (r-c) p6_1).1),((Az p6 p6_1 p6_2 c 0 (r-c) p6_1).2.1),((Az p6 p6_1 p6_2 c 0 (r-c) p6_1).2.2.1),0)).2.2.2) ((Tc (((Az p7 p7_1 p7_2 c 0 (r-c) p7_1).1),((Az p7 p7_1 p7_2 c 0 (r-c) p7_1).2.1),((Az p7 p7_1 p7_2 c 0 (r-c) p7_1).2.2.1),0) (((Az p6 p6_1 p6_2 c 0 (r-c) p6_1).1),((Az p6 p6_1 p6_2 c 0 (r-c) p6_1).2.1),((Az p6 p6_1 p6_2 c 0 (r-c) p6_1).2.2.1),0)).1) ((Tc (((Az p7 p7_1 p7_2 c 0 (r-c) p7_1).1),((Az p7 p7_1 p7_2 c 0 (r-c) p7_1).2.1),((Az p7 p7_1 p7_2 c 0 (r-c) p7_1).2.2.1),0) (((Az p6 p6_1 p6_2 c 0 (r-c) p6_1).1),((Az p6 p6_1 p6_2 c 0 (r-c) p6_1).2.1),((Az p6 p6_1 p6_2 c 0 (r-c) p6_1).2.2.1),0)).2.1) ((Tc (((Az p7 p7_1 p7_2 c 0 (r-c) p7_1).1),((Az p7 p7_1 p7_2 c 0 (r-c) p7_1).2.1),((Az p7 p7_1 p7_2 c 0 (r-c) p7_1).2.2.1),0) (((Az p6 p6_1 p6_2 c 0 (r-c) p6_1).1),((Az p6 p6_1 p6_2 c 0 (r-c) p6_1).2.1),((Az p6 p6_1 p6_2 c 0 (r-c) p6_1).2.2.1),0)).2.2.1) else none else none else none else none else none :=
 Eq.trans ((Dt _ _ _ _ _ _ _).trans (by kernel_rfl))
 (Ec (Ax (Uc ((B4 p6 p6_1 p6_2) !=(0:Int))) (Cp (Alp ((B4 p6 p6_1 p6_2) !=(0:Int)) (Ag p7_2)) (Ax (Sr ((B4 p6 p6_1 p6_2) !=(0:Int))) (Ax (Ye ((B4 p6 p6_1 p6_2) !=(0:Int))) (Cp (tt5 ((B4 p6 p6_1 p6_2) !=(0:Int)) ((B4 p7 p7_1 p7_2) !=(0:Int))) rfl (Cp (Cd ((A0 p7 p7_1 p7_2&&Co (-100≤c∧c≤100∧-100≤r∧r≤100))&&E7 p7 p7_1 c 0 (r-c) p7_1)) (Cp (Cd ((A0 p6 p6_1 p6_2&&Co (-100≤c∧c≤100∧-100≤r∧r≤100))&&E7 p6 p6_1 c 0 (r-c) p6_1)) (Cp (Cd (((A0 ((Az p7 p7_1 p7_2 c 0 (r-c) p7_1).1) ((Az p7 p7_1 p7_2 c 0 (r-c) p7_1).2.1) ((Az p7 p7_1 p7_2 c 0 (r-c) p7_1).2.2.1)&&Dj ((Az p7 p7_1 p7_2 c 0 (r-c) p7_1).2.2.1))&&(Ag ((Az p7 p7_1 p7_2 c 0 (r-c) p7_1).2.2.1)&&Ag ((Az p6 p6_1 p6_2 c 0 (r-c) p6_1).2.2.1)))&&decide (((Az p7 p7_1 p7_2 c 0 (r-c) p7_1).1)≤((Az p7 p7_1 p7_2 c 0 (r-c) p7_1).2.1)))) rfl rfl) rfl) rfl)))) rfl)) rfl)
theorem A8.Solve.Ajz:A8.Solve.C15 N r c l p q m u v h p5 p5_1 p5_2 p5_3 p5_4 p5_5 p5_6 p6 p6_1 p6_2 p7 p7_1 p7_2 p9 p8 p8_1 p8_2=bif (p9 !=(0:Int)) then some (.agg [.int .i64 0,.int .i64 0,.ints .arg .u64 [],.int .i64 0,.int .i64 0,.ints .arg .u64 [],.int .i64 p9]) else bif ((A0 p6 p6_1 p6_2&&Co (-100≤(0:Int)∧(0:Int)≤100∧-100≤c∧c≤100))&&E7 p6 p6_1 0 0 (c-0) p6_1) then bif ((A0 p7 p7_1 p7_2&&Co (-100≤(0:Int)∧(0:Int)≤100∧-100≤c∧c≤100))&&E7 p7 p7_1 0 0 (c-0) p7_1) then bif ((A0 ((Az p7 p7_1 p7_2 0 0 (c-0) p7_1).1) ((Az p7 p7_1 p7_2 0 0 (c-0) p7_1).2.1) ((Az p7 p7_1 p7_2 0 0 (c-0) p7_1).2.2.1)&&A0 p8 p8_1 p8_2)&&((Ag ((Az p7 p7_1 p7_2 0 0 (c-0) p7_1).2.2.1)&&Ag p8_2)&&decide (((Az p7 p7_1 p7_2 0 0 (c-0) p7_1).2.1)=p8))) then bif ((A0 ((Az p6 p6_1 p6_2 0 0 (c-0) p6_1).1) ((Az p6 p6_1 p6_2 0 0 (c-0) p6_1).2.1) ((Az p6 p6_1 p6_2 0 0 (c-0) p6_1).2.2.1)&&A0 ((Fo ((Az p7 p7_1 p7_2 0 0 (c-0) p7_1).1) ((Az p7 p7_1 p7_2 0 0 (c-0) p7_1).2.1) ((Az p7 p7_1 p7_2 0 0 (c-0) p7_1).2.2.1) p8 p8_1 p8_2).1) ((Fo ((Az p7 p7_1 p7_2 0 0 (c-0) p7_1).1) ((Az p7 p7_1 p7_2 0 0 (c-0) p7_1).2.1) ((Az p7 p7_1 p7_2 0 0 (c-0) p7_1).2.2.1) p8 p8_1 p8_2).2.1) ((Fo ((Az p7 p7_1 p7_2 0 0 (c-0) p7_1).1) ((Az p7 p7_1 p7_2 0 0 (c-0) p7_1).2.1) ((Az p7 p7_1 p7_2 0 0 (c-0) p7_1).2.2.1) p8 p8_1 p8_2).2.2.1))&&((Ag ((Az p6 p6_1 p6_2 0 0 (c-0) p6_1).2.2.1)&&Ag ((Fo ((Az p7 p7_1 p7_2 0 0 (c-0) p7_1).1) ((Az p7 p7_1 p7_2 0 0 (c-0) p7_1).2.1) ((Az p7 p7_1 p7_2 0 0 (c-0) p7_1).2.2.1) p8 p8_1 p8_2).2.2.1))&&decide (((Fo ((Az p7 p7_1 p7_2 0 0 (c-0) p7_1).1) ((Az p7 p7_1 p7_2 0 0 (c-0) p7_1).2.1) ((Az p7 p7_1 p7_2 0 0 (c-0) p7_1).2.2.1) p8 p8_1 p8_2).1)=((Az p6 p6_1 p6_2 0 0 (c-0) p6_1).1)∧((Fo ((Az p7 p7_1 p7_2 0 0 (c-0) p7_1).1) ((Az p7 p7_1 p7_2 0 0 (c-0) p7_1).2.1) ((Az p7 p7_1 p7_2 0 0 (c-0) p7_1).2.2.1) p8 p8_1 p8_2).2.1)=((Az p6 p6_1 p6_2 0 0 (c-0) p6_1).2.1)))) then A8.Solve.C18 N r c l p q m u v h p5 p5_1 p5_2 p5_3 p5_4 p5_5 p5_6 p6 p6_1 p6_2 p7 p7_1 p7_2 p8 p8_1 p8_2 ((Ok ((Az p6 p6_1 p6_2 0 0 (c-0) p6_1).1) ((Az p6 p6_1 p6_2 0 0 (c-0) p6_1).2.1) ((Az p6 p6_1 p6_2 0 0 (c-0) p6_1).2.2.1) ((Fo ((Az p7 p7_1 p7_2 0 0 (c-0) p7_1).1) ((Az p7 p7_1 p7_2 0 0 (c-0) p7_1).2.1) ((Az p7 p7_1 p7_2 0 0 (c-0) p7_1).2.2.1) p8 p8_1 p8_2).1) ((Fo ((Az p7 p7_1 p7_2 0 0 (c-0) p7_1).1) ((Az p7 p7_1 p7_2 0 0 (c-0) p7_1).2.1) ((Az p7 p7_1 p7_2 0 0 (c-0) p7_1).2.2.1) p8 p8_1 p8_2).2.1) ((Fo ((Az p7 p7_1 p7_2 0 0 (c-0) p7_1).1) ((Az p7 p7_1 p7_2 0 0 (c-0) p7_1).2.1) ((Az p7 p7_1 p7_2 0 0 (c-0) p7_1).2.2.1) p8 p8_1 p8_2).2.2.1)).1) ((Ok ((Az p6 p6_1 p6_2 0 0 (c-0) p6_1).1) ((Az p6 p6_1 p6_2 0 0 (c-0) p6_1).2.1) ((Az p6 p6_1 p6_2 0 0 (c-0) p6_1).2.2.1) ((Fo ((Az p7 p7_1 p7_2 0 0 (c-0) p7_1).1) ((Az p7 p7_1 p7_2 0 0 (c-0) p7_1).2.1) ((Az p7 p7_1 p7_2 0 0 (c-0) p7_1).2.2.1) p8 p8_1 p8_2).1) ((Fo ((Az p7 p7_1 p7_2 0 0 (c-0) p7_1).1) ((Az p7 p7_1 p7_2 0 0 (c-0) p7_1).2.1) ((Az p7 p7_1 p7_2 0 0 (c-0) p7_1).2.2.1) p8 p8_1 p8_2).2.1) ((Fo ((Az p7 p7_1 p7_2 0 0 (c-0) p7_1).1) ((Az p7 p7_1 p7_2 0 0 (c-0) p7_1).2.1) ((Az p7 p7_1 p7_2 0 0 (c-0) p7_1).2.2.1) p8 p8_1 p8_2).2.2.1)).2.1) ((Ok ((Az p6 p6_1 p6_2 0 0 (c-0) p6_1).1) ((Az p6 p6_1 p6_2 0 0 (c-0) p6_1).2.1) ((Az p6 p6_1 p6_2 0 0 (c-0) p6_1).2.2.1) ((Fo ((Az p7 p7_1 p7_2 0 0 (c-0) p7_1).1) ((Az p7 p7_1 p7_2 0 0 (c-0) p7_1).2.1) ((Az p7 p7_1 p7_2 0 0 (c-0) p7_1).2.2.1) p8 p8_1 p8_2).1) ((Fo ((Az p7 p7_1 p7_2 0 0 (c-0) p7_1).1) ((Az p7 p7_1 p7_2 0 0 (c-0) p7_1).2.1) ((Az p7 p7_1 p7_2 0 0 (c-0) p7_1).2.2.1) p8 p8_1 p8_2).2.1) ((Fo ((Az p7 p7_1 p7_2 0 0 (c-0) p7_1).1) ((Az p7 p7_1 p7_2 0 0 (c-0) p7_1).2.1) ((Az p7 p7_1 p7_2 0 0 (c-0) p7_1).2.2.1) p8 p8_1 p8_2).2.2.1)).2.2.1) else none else none else none else none :=
 Eq.trans ((Dt _ _ _ _ _ _ _).trans (by kernel_rfl))
 (Ec rfl (Cp (Cd ((A0 p6 p6_1 p6_2&&Co (-100≤(0:Int)∧(0:Int)≤100∧-100≤c∧c≤100))&&E7 p6 p6_1 0 0 (c-0) p6_1)) (Cp (Cd ((A0 p7 p7_1 p7_2&&Co (-100≤(0:Int)∧(0:Int)≤100∧-100≤c∧c≤100))&&E7 p7 p7_1 0 0 (c-0) p7_1)) (Cp (Cd ((A0 ((Az p7 p7_1 p7_2 0 0 (c-0) p7_1).1) ((Az p7 p7_1 p7_2 0 0 (c-0) p7_1).2.1) ((Az p7 p7_1 p7_2 0 0 (c-0) p7_1).2.2.1)&&A0 p8 p8_1 p8_2)&&((Ag ((Az p7 p7_1 p7_2 0 0 (c-0) p7_1).2.2.1)&&Ag p8_2)&&decide (((Az p7 p7_1 p7_2 0 0 (c-0) p7_1).2.1)=p8)))) (Cp (Cd ((A0 ((Az p6 p6_1 p6_2 0 0 (c-0) p6_1).1) ((Az p6 p6_1 p6_2 0 0 (c-0) p6_1).2.1) ((Az p6 p6_1 p6_2 0 0 (c-0) p6_1).2.2.1)&&A0 ((Fo ((Az p7 p7_1 p7_2 0 0 (c-0) p7_1).1) ((Az p7 p7_1 p7_2 0 0 (c-0) p7_1).2.1) ((Az p7 p7_1 p7_2 0 0 (c-0) p7_1).2.2.1) p8 p8_1 p8_2).1) ((Fo ((Az p7 p7_1 p7_2 0 0 (c-0) p7_1).1) ((Az p7 p7_1 p7_2 0 0 (c-0) p7_1).2.1) ((Az p7 p7_1 p7_2 0 0 (c-0) p7_1).2.2.1) p8 p8_1 p8_2).2.1) ((Fo ((Az p7 p7_1 p7_2 0 0 (c-0) p7_1).1) ((Az p7 p7_1 p7_2 0 0 (c-0) p7_1).2.1) ((Az p7 p7_1 p7_2 0 0 (c-0) p7_1).2.2.1) p8 p8_1 p8_2).2.2.1))&&((Ag ((Az p6 p6_1 p6_2 0 0 (c-0) p6_1).2.2.1)&&Ag ((Fo ((Az p7 p7_1 p7_2 0 0 (c-0) p7_1).1) ((Az p7 p7_1 p7_2 0 0 (c-0) p7_1).2.1) ((Az p7 p7_1 p7_2 0 0 (c-0) p7_1).2.2.1) p8 p8_1 p8_2).2.2.1))&&decide (((Fo ((Az p7 p7_1 p7_2 0 0 (c-0) p7_1).1) ((Az p7 p7_1 p7_2 0 0 (c-0) p7_1).2.1) ((Az p7 p7_1 p7_2 0 0 (c-0) p7_1).2.2.1) p8 p8_1 p8_2).1)=((Az p6 p6_1 p6_2 0 0 (c-0) p6_1).1)∧((Fo ((Az p7 p7_1 p7_2 0 0 (c-0) p7_1).1) ((Az p7 p7_1 p7_2 0 0 (c-0) p7_1).2.1) ((Az p7 p7_1 p7_2 0 0 (c-0) p7_1).2.2.1) p8 p8_1 p8_2).2.1)=((Az p6 p6_1 p6_2 0 0 (c-0) p6_1).2.1))))) rfl rfl) rfl) rfl) rfl))
theorem A8.Solve.Ajy:A8.Solve.C18 N r c l p q m u v h p5 p5_1 p5_2 p5_3 p5_4 p5_5 p5_6 p6 p6_1 p6_2 p7 p7_1 p7_2 p8 p8_1 p8_2 p10 p10_1 p10_2=bif (Ag p10_2) then bif ((B4 p10 p10_1 p10_2) !=(0:Int)) then some (.agg [.int .i64 0,.int .i64 0,.ints .arg .u64 [],.int .i64 0,.int .i64 0,.ints .arg .u64 [],.int .i64 2]) else bif ((A0 p5_3 p5_4 p5_5&&Co (-100≤(0:Int)∧(0:Int)≤100∧-100≤c∧c≤100))&&E7 p5_3 p5_4 0 0 (c-0) p5_4) then bif (Ag ((Az p5_3 p5_4 p5_5 0 0 (c-0) p5_4).2.2.1)&&Ag p10_2) then A8.Solve.C21 N r c l p q m u v h p5 p5_1 p5_2 p5_3 p5_4 p5_5 p5_6 p6 p6_1 p6_2 p7 p7_1 p7_2 p8 p8_1 p8_2 p10 p10_1 p10_2 ((Sz ((Az p5_3 p5_4 p5_5 0 0 (c-0) p5_4).1) ((Az p5_3 p5_4 p5_5 0 0 (c-0) p5_4).2.1) ((Az p5_3 p5_4 p5_5 0 0 (c-0) p5_4).2.2.1) p10 p10_1 p10_2).2.2.2) ((Sz ((Az p5_3 p5_4 p5_5 0 0 (c-0) p5_4).1) ((Az p5_3 p5_4 p5_5 0 0 (c-0) p5_4).2.1) ((Az p5_3 p5_4 p5_5 0 0 (c-0) p5_4).2.2.1) p10 p10_1 p10_2).1) ((Sz ((Az p5_3 p5_4 p5_5 0 0 (c-0) p5_4).1) ((Az p5_3 p5_4 p5_5 0 0 (c-0) p5_4).2.1) ((Az p5_3 p5_4 p5_5 0 0 (c-0) p5_4).2.2.1) p10 p10_1 p10_2).2.1) ((Sz ((Az p5_3 p5_4 p5_5 0 0 (c-0) p5_4).1) ((Az p5_3 p5_4 p5_5 0 0 (c-0) p5_4).2.1) ((Az p5_3 p5_4 p5_5 0 0 (c-0) p5_4).2.2.1) p10 p10_1 p10_2).2.2.1) else none else none else none :=
 Eq.trans ((Dt _ _ _ _ _ _ _).trans (by kernel_rfl))
 (Ec (Ec rfl (Cp (Cd ((A0 p5_3 p5_4 p5_5&&Co (-100≤(0:Int)∧(0:Int)≤100∧-100≤c∧c≤100))&&E7 p5_3 p5_4 0 0 (c-0) p5_4)) (Cp (Cd (Ag ((Az p5_3 p5_4 p5_5 0 0 (c-0) p5_4).2.2.1)&&Ag p10_2)) rfl rfl) rfl)) rfl)
theorem A8.Solve.Awo:A8.Solve.C21 N r c l p q m u v h p5 p5_1 p5_2 p5_3 p5_4 p5_5 p5_6 p6 p6_1 p6_2 p7 p7_1 p7_2 p8 p8_1 p8_2 p10 p10_1 p10_2 p12 p11 p11_1 p11_2=bif (p12 !=(0:Int)) then some (.agg [.int .i64 0,.int .i64 0,.ints .arg .u64 [],.int .i64 0,.int .i64 0,.ints .arg .u64 [],.int .i64 p12]) else some (.agg [.int .i64 p11,.int .i64 p11_1,.ints .arg .u64 p11_2,.int .i64 p8,.int .i64 p8_1,.ints .arg .u64 p8_2,.int .i64 0]):=(Dt _ _ _ _ _ _ _).trans (by kernel_rfl)
theorem A8.Solve.ev:Bu A8.Solve.E N f61 (Am f61) [.agg [.int .i64 r,.int .i64 c,.ints .arg .u64 l,.int .i64 p,.int .i64 q,.ints .arg .u64 m,.int .i64 u,.int .i64 v,.ints .arg .u64 h]]=bif (Pn l m h) then bif ((Ix r c l p q m u v h) !=(0:Int)) then bif (Pn l m h) then some (.agg [.int .i64 0,.int .i64 0,.ints .arg .u64 [],.int .i64 0,.int .i64 0,.ints .arg .u64 [],.int .i64 (Ix r c l p q m u v h)]) else none else bif ((A0 r c l&&Dj l)&&Ag l) then A8.Solve.C6 N r c l p q m u v h ((qX r c l).1) ((qX r c l).2.1) ((qX r c l).2.2.1) ((rX r c l).1) ((rX r c l).2.1) ((rX r c l).2.2.1) (decide (Gs r c l=0)) else none else none:=by kernel_rfl
end
abbrev _root_.Go.Proofs.S1.A8.Solve.Kn:=A7 prog 61 A8.Solve.spec
theorem A8.Solve.Ac (hk:A1 prog A8.Solve.Bc) (h:Hyp A8.Solve.E f61 A8.Solve.ts A8.Solve.pre A8.Solve.out):A8.Solve.Kn :=
 Al (A2 hk _ _ _) func61 (by kernel_rfl) (by kernel_rfl) h
abbrev _root_.Go.Proofs.S1.Af.Part.m.Kn:Prop:=A7 prog 128 Af.Part.m.spec
abbrev _root_.Go.Proofs.S1.Af.Mul.m.Kn:Prop:=A7 prog 45 Af.Mul.m.spec
abbrev _root_.Go.Proofs.S1.Af.Sub.m.Kn:Prop:=A7 prog 129 Af.Sub.m.spec
abbrev _root_.Go.Proofs.S1.Af.Cb.m.Kn:Prop:=A7 prog 37 Af.Cb.m.spec
abbrev _root_.Go.Proofs.S1.A3.Flat.m.Kn:Prop:=A7 prog 26 A3.Flat.m.spec
end EqRef21
open EqRef21
theorem Aj2 {drops:List Nat} {x:MX} {r c:Int} {l:List Int} (e:x=(r,c,l,0)):Wk drops (.agg [.int .i64 r,.int .i64 c,.ints .fresh .u64 l]) (.agg [.int .i64 x.1,.int .i64 x.2.1,.ints .fresh .u64 x.2.2.1]):=by rw [e]; exact Uf
theorem Af.Part.m.known:Af.Part.m.Kn:=A7.Yb (P:=_) (pre:=Af.Part.pre) (out:=Af.Part.out) Af.Part.known [] fun ats h=>by
 unfold Af.Part.m.pre at h
 split at h
 ·obtain ⟨h1,h2⟩:=Ad.1 h
  exact ⟨h,Aj2 (by unfold Az; rw [A1r h1,A1r h2])⟩
 ·cases h
theorem Af.Mul.m.known:Af.Mul.m.Kn:=A7.Yb (P:=_) (pre:=Af.Mul.pre) (out:=Af.Mul.out) Af.Mul.known [] fun ats h=>by
 unfold Af.Mul.m.pre at h
 split at h
 ·obtain ⟨h1,h2⟩:=Ad.1 h
  exact ⟨h,Aj2 (by unfold Fo; rw [A1r h1,A1r (A1u (Ad.1 h2).2)])⟩
 ·cases h
theorem Af.Sub.m.known:Af.Sub.m.Kn:=A7.Yb (P:=_) (pre:=Af.Sub.pre) (out:=Af.Sub.out) Af.Sub.known [] fun ats h=>by
 unfold Af.Sub.m.pre at h
 split at h
 ·obtain ⟨h1,h2⟩:=Ad.1 h
  obtain ⟨h3,h4⟩:=A1u (Ad.1 h2).2
  exact ⟨h,Aj2 (by unfold Ok; rw [A1r h1,A1r ⟨h3.symm,h4.symm⟩])⟩
 ·cases h
theorem Af.Cb.m.known:Af.Cb.m.Kn:=A7.Yb (P:=_) (pre:=Af.Cb.pre) (out:=Af.Cb.out) Af.Cb.known [] fun ats h=>by
 unfold Af.Cb.m.pre at h
 split at h
 ·exact ⟨h,Aj2 (by unfold Ap; rw [A1r h])⟩
 ·cases h
theorem A3.Flat.m.known:A3.Flat.m.Kn:=A7.Yb (P:=_) (pre:=A3.Flat.pre) (out:=A3.Flat.out) A3.Flat.known [] fun ats h=>by
 unfold A3.Flat.m.pre at h
 split at h
 ·refine ⟨h,?_⟩
  obtain ⟨h1,h2⟩:=Ad.1 h
  have e:=Am8 (Aai (Ad.1 h1).1 h2)
  show Wk [] (.bool _) (.bool _)
  rw [e]
  exact .bool
 ·cases h
theorem Hw.Lq.known:Hw.Lq.Kn:=Hw.Lq.Ac (.cons Af.Cb.m.known (.cons Cm.By.known .nil)) fun r c l hp=>Nj (by
 obtain ⟨h1,al⟩:=Ad.1 (show ((A0 r c l&&Dj l)&&Ag l)=true from hp)
 obtain ⟨hr,hf⟩:=Ad.1 h1
 obtain ⟨R,C,rfl,rfl,hm,_⟩:=F6.Y8 (Aai hr hf) al
 have ft:Dj (Ap (R:Int) (C:Int) l).2.2.1=true:=FM.Ox hm hf
 have ht:F6 C R (Ap (R:Int) (C:Int) l):=hm.Ox
 rw [Hw.Lq.ev,hr,A04,ht.right,ft,ht.inn,A1a,A1a,A04]
 have el:=Ai0 hm
 by_cases k:Qp (R:Int) (C:Int) l=0
 ·have kf:Gs (Ap (R:Int) (C:Int) l).1 (Ap (R:Int) (C:Int) l).2.1 (Ap (R:Int) (C:Int) l).2.2.1=0:=el.symm.trans k
  obtain ⟨f1,f2,_,_⟩:=ht.fac kf
  have d1:Nm (R:Int) (C:Int) l=Gg (rX (Ap (R:Int) (C:Int) l).1 (Ap (R:Int) (C:Int) l).2.1 (Ap (R:Int) (C:Int) l).2.2.1):=by unfold Nm; rw [A1q (fun h=>h k)]
  have d2:P8 (R:Int) (C:Int) l=Gg (qX (Ap (R:Int) (C:Int) l).1 (Ap (R:Int) (C:Int) l).2.1 (Ap (R:Int) (C:Int) l).2.2.1):=by unfold P8; rw [A1q (fun h=>h k)]
  rw [A05 kf,A13,A08,f1.right,f2.right,A04,A04]
  show Lz _ (.agg [.int .i64 (P8 (R:Int) (C:Int) l).1,.int .i64 (P8 (R:Int) (C:Int) l).2.1,.ints .arg .u64 (P8 (R:Int) (C:Int) l).2.2.1,.int .i64 (Nm (R:Int) (C:Int) l).1,.int .i64 (Nm (R:Int) (C:Int) l).2.1,.ints .arg .u64 (Nm (R:Int) (C:Int) l).2.2.1,.bool (decide (Qp (R:Int) (C:Int) l=0))])
  rw [d1,d2,A05 k]
  exact ⟨_,[],rfl,Wk.Gy (.cons .int (.cons .int (.cons (.fresh _ _) (.cons .int (.cons .int (.cons (.fresh _ _) (.cons .bool .nil)))))))⟩
 ·have kf:Gs (Ap (R:Int) (C:Int) l).1 (Ap (R:Int) (C:Int) l).2.1 (Ap (R:Int) (C:Int) l).2.2.1≠0:=fun h=>k (el.trans h)
  obtain ⟨b1,b2⟩:=Tl rfl kf
  have d1:Nm (R:Int) (C:Int) l=Ga (Qp (R:Int) (C:Int) l):=by unfold Nm; rw [A1r k]
  have d2:P8 (R:Int) (C:Int) l=Ga (Qp (R:Int) (C:Int) l):=by unfold P8; rw [A1r k]
  rw [A09 kf,A2n,A04,b1,b2]
  show Lz _ (.agg [.int .i64 (P8 (R:Int) (C:Int) l).1,.int .i64 (P8 (R:Int) (C:Int) l).2.1,.ints .arg .u64 (P8 (R:Int) (C:Int) l).2.2.1,.int .i64 (Nm (R:Int) (C:Int) l).1,.int .i64 (Nm (R:Int) (C:Int) l).2.1,.ints .arg .u64 (Nm (R:Int) (C:Int) l).2.2.1,.bool (decide (Qp (R:Int) (C:Int) l=0))])
  rw [d1,d2,A09 k]
  exact ⟨_,[],rfl,Wk.Gy (.cons .int (.cons .int (.cons .Qv (.cons .int (.cons .int (.cons .Qv (.cons .bool .nil)))))))⟩)
theorem Aja {r c p q u v:Int} (h:0≤c∧c≤6) (h':0≤q∧q≤6) :
 (((((r !=p)||(r !=u))||(v !=(1:Int)))||(Bd r c))||(Bd (Ab (c+q)) r))=decide (p≠r∨u≠r∨v≠1∨r<c∨c+q<r):=by
 rw [← Ab8 h h',bne_comm (a:=r) (b:=p),bne_comm (a:=r) (b:=u)]
theorem A8.Check.known:A8.Check.Kn:=A8.Check.Ac (.cons F7.Check.known .nil) fun r c l p q m u v h hp=>by
 obtain ⟨h1,ah⟩:=Ad.1 (show ((Ag l&&Ag m)&&Ag h)=true from hp)
 obtain ⟨al,am⟩:=Ad.1 h1
 refine ⟨0+5,A8.Check.out [.i r,.i c,.l l,.i p,.i q,.l m,.i u,.i v,.l h],[],?_,.int⟩
 show _=some (DV.int .i64 (Ix r c l p q m u v h))
 rw [A8.Check.ev,al,am,ah]
 simp only [A04]
 unfold Ix
 by_cases k1:B4 r c l=0
 ·rw [E0 k1,A08,A1q (fun h=>h k1)]
  by_cases k2:B4 p q m=0
  ·rw [E0 k2,A08,A1q (fun h=>h k2)]
   by_cases k4:B4 u v h=0
   ·rw [E0 k4,A08,A1q (fun h=>h k4)]
    have s1:=Q7 (Gt k1).1
    have s2:=Q7 (Gt k2).1
    rw [Aja s1.2.2 s2.2.2]
    by_cases k5:p≠r∨u≠r∨v≠1∨r<c∨c+q<r
    ·rw [A05 k5,A04,A1r k5]
    ·rw [A09 k5,A08,A1q k5]
   ·rw [Pa k4,A04,A1r k4]
  ·rw [Pa k2,A04,A1r k2]
 ·rw [Pa k1,A04,A1r k1]
theorem A8.Hz.known:A8.Hz.Kn:=A8.Hz.Ac .nil fun e _ =>
 ⟨0,_,[],A8.Hz.ev 0 e,Wk.Gy (.cons .int (.cons .int (.cons Hb (.cons .int (.cons .int (.cons Hb (.cons .int .nil)))))))⟩
theorem A8.rows.known:A8.rows.Kn:=A8.rows.Ac (.cons Af.Part.m.known .nil) fun r c l x y hp=>Nj (by
 obtain ⟨h1,hq⟩:=Ad.1 (show ((A0 r c l&&Co (-100≤x∧x≤100∧-100≤y∧y≤100))&&E7 r c x 0 (y-x) c)=true from hp)
 obtain ⟨hr,hb⟩:=Ad.1 h1
 have hb:=Au.1 hb
 rw [A8.rows.ev,An (by omega) (by omega),hr,hq,A1a,A04]
 exact ⟨_,[],rfl,Uf⟩)
open EqRef21
theorem F6.lo' {R:Nat} {x y:MX} (h:F6 R R x) (e:(V2 x y).2.2.2=0):∃ C,F6 R C (V2 x y)∧FM (V2 x y):=by
 obtain ⟨l,rfl,r6,c6,hl,al⟩:=h
 obtain ⟨P,Q,Y,e1,e2,a6,b6,e3,e4,e5,e6⟩:=Agj e
 dsimp only at e1 e2
 obtain rfl:P=R:=by omega
 have e7:V2 ((P:Int),(P:Int),l,0) y=((P:Int),(Q:Int),Y,0):=e3
 rw [e7]
 exact ⟨Q,.mk a6 b6 e4 e6,e5⟩
theorem Avq {o:Option DV} {x:MX} (h:o=some (Su x)):Out o x:=⟨_,[],h,Wk.Gv (.cons (Wk.Gy (.cons .int (.cons .int (.cons (.fresh _ _) .nil)))) (.cons .int .nil))⟩
section
variable {N R C:Nat} {p q:Int} {l m:List Int} {Q L S w y:MX} {ok:Bool}
theorem Av1 (ay:Ag y.2.2.1=true) (ey:y.2.2.2=0):Out (A8.least.C11 N (R:Int) (C:Int) l p q m Q.1 Q.2.1 Q.2.2.1 L.1 L.2.1 L.2.2.1 ok S.1 S.2.1 S.2.2.1 w.1 w.2.1 w.2.2.1 y.1 y.2.1 y.2.2.1) (Z5 y):=by
 rw [A8.least.Ub,ay,A04]
 unfold Z5 Ag9
 rw [A1q (fun k=>k ey)]
 by_cases k:B4 y.1 y.2.1 y.2.2.1=0
 ·rw [E0 k,A08,A1q (fun h=>h k)]; exact Avq rfl
 ·rw [Pa k,A04,A1r k]; exact Adp rfl
theorem Ayn (r6:R≤6) (hrc:R≤C) (hQ:F6 C C Q) (hw:w.2.2.2=0→∃ K,F6 R K w):Out (A8.least.C8 N (R:Int) (C:Int) l p q m Q.1 Q.2.1 Q.2.2.1 L.1 L.2.1 L.2.2.1 ok S.1 S.2.1 S.2.2.1 w.2.2.2 w.1 w.2.1 w.2.2.1) (if w.2.2.2≠0 then Ga w.2.2.2 else Z5 (C4 (Jz Q 0 0 (R:Int) Q.2.1) w)):=by
 rw [A8.least.Alj]
 by_cases k:w.2.2.2=0
 ·obtain ⟨K,hw⟩:=hw k
  have hO:F6 R C (Jz Q 0 0 (R:Int) Q.2.1):=by rw [hQ.Md]; exact hQ.part (i:=0) (k:=0) (by omega) (by omega)
  have pb:E7 Q.1 Q.2.1 0 0 (R:Int) Q.2.1=true:=by rw [hQ.Md,hQ.rows]; exact Js (i:=0) (k:=0) (by omega) (by omega)
  rw [E0 k,A08,A1q (fun h=>h k),Int.sub_zero,hQ.right,Au.2 (show -100≤(0:Int)∧(0:Int)≤100∧-100≤(R:Int)∧(R:Int)≤100 by omega),pb,A1a,A1a,A04]
  have e1:Az Q.1 Q.2.1 Q.2.2.1 0 0 (R:Int) Q.2.1=Jz Q 0 0 (R:Int) Q.2.1:=rfl
  rw [e1,hO.right,A04]
  generalize Jz Q 0 0 (R:Int) Q.2.1=O at hO ⊢
  have e2:Ap O.1 O.2.1 O.2.2.1=Gg O:=rfl
  rw [e2,hO.Ox.right,hw.right,hO.Ox.inn,hw.inn,A05 (show (Gg O).2.1=w.1 by rw [hO.Ox.Md,hw.rows]),A1a,A1a,A1a,A04,Nd hO]
  exact Av1 (y:=mulM (Gg O) w) (hO.Ox.mul hw).inn (hO.Ox.mul hw).err
 ·rw [Pa k,A04,A1r k]; exact Adp rfl
end
theorem A8.least.known:A8.least.Kn:=A8.least.Ac (.cons Af.Mul.m.known (.cons Af.Part.m.known (.cons Af.Cb.m.known (.cons F7.Check.known (.cons Hw.Lq.known (.cons A3.Flat.m.known (.cons A3.Ct.known (.cons A8.rows.known .nil)))))))) fun r c l p q m hp=>by
 obtain ⟨h1,hrc⟩:=Ad.1 (show (((A0 r c l&&Dj l)&&(Ag l&&Ag m))&&decide (r≤c))=true from hp)
 obtain ⟨h1,h2⟩:=Ad.1 h1
 obtain ⟨hr,hf⟩:=Ad.1 h1
 obtain ⟨al,am⟩:=Ad.1 h2
 have hrc:=A1u hrc
 obtain ⟨R,C,rfl,rfl,hm,_⟩:=F6.Y8 (Aai hr hf) al
 suffices hs:Out (Bu A8.least.E 0 _ _ _) (Tc ((R:Int),(C:Int),l,0) (p,q,m,0)) by
  obtain ⟨dv,drops,e1,e2⟩:=hs
  exact ⟨0,dv,drops,e1,e2⟩
 rw [A8.least.ev,hr,hf,al,A1a,A1a,A04,A8.least.Ahy]
 unfold Tc
 by_cases k:Qp (R:Int) (C:Int) l=0
 ·obtain ⟨hL,hQ,fL,fQ⟩:=hm.lq k
  have hS:F6 R R (T0 ((R:Int),(C:Int),l,0)):=hL.part (i:=0) (k:=0) (by omega) (by omega)
  have fS:FM (T0 ((R:Int),(C:Int),l,0)):=FM.part (i:=0) (k:=0) hL fL (by omega) (by omega)
  have pb:E7 (Nm (R:Int) (C:Int) l).1 (Nm (R:Int) (C:Int) l).2.1 0 0 (R:Int) (R:Int)=true:=by
   rw [show (Nm (R:Int) (C:Int) l).1=(R:Int) from hL.rows,show (Nm (R:Int) (C:Int) l).2.1=(C:Int) from hL.Md]; exact Js (i:=0) (k:=0) (by omega) (by omega)
  rw [A05 k,A13,A08,A1q (fun h=>h k),show A0 (Nm (R:Int) (C:Int) l).1 (Nm (R:Int) (C:Int) l).2.1 (Nm (R:Int) (C:Int) l).2.2.1=true from hL.right,pb,A1a,A04,A8.least.Arv,
   show Az (Nm (R:Int) (C:Int) l).1 (Nm (R:Int) (C:Int) l).2.1 (Nm (R:Int) (C:Int) l).2.2.1 0 0 (R:Int) (R:Int)=T0 ((R:Int),(C:Int),l,0) from rfl]
  have hw:(V2 (T0 ((R:Int),(C:Int),l,0)) (p,q,m,0)).2.2.2=0→∃ K,F6 R K (V2 (T0 ((R:Int),(C:Int),l,0)) (p,q,m,0)):=fun e=>by
   obtain ⟨K,h,_⟩:=hS.lo' e; exact ⟨K,h⟩
  rw [show erO ((R:Int),(C:Int),l,0)=Jz (P8 (R:Int) (C:Int) l) 0 0 (R:Int) (P8 (R:Int) (C:Int) l).2.1 from rfl]
  generalize T0 ((R:Int),(C:Int),l,0)=S at hS fS hw ⊢
  rw [hS.right,hS.inn,show Dj S.2.2.1=true from fS,A1a,A1a,A04,A2h,am,A04]
  cases kf:Qt S with
  | true=>rw [show (Jv S.1 S.2.1 S.2.2.1).1=true from kf,A04,A1r rfl]; exact Adp rfl
  | false =>
    rw [show (Jv S.1 S.2.1 S.2.2.1).1=false from kf,A08,A1q (by decide)]
    exact Ayn (w:=V2 S (p,q,m,0)) (L:=Nm (R:Int) (C:Int) l) hm.r6 (by omega) hQ hw
 ·have el:Qp (R:Int) (C:Int) l=2:=by
   have hc:=hm.Ox.chk (FM.Ox hm hf)
   have e2:Qp (R:Int) (C:Int) l=Gs (Gg ((R:Int),(C:Int),l,0)).1 (Gg ((R:Int),(C:Int),l,0)).2.1 (Gg ((R:Int),(C:Int),l,0)).2.2.1:=Ai0 hm
   rw [e2] at k ⊢
   rw [Qe hc] at k ⊢
   split at k
   ·exact absurd rfl k
   ·rename_i g; rw [A1q g]
  rw [A09 k,A2n,A04,A1r k,el]; exact Adp rfl
open EqRef21
def U3 (x y:MX) (e:Int):DV:=.agg [.int .i64 x.1,.int .i64 x.2.1,.ints .arg .u64 x.2.2.1,.int .i64 y.1,.int .i64 y.2.1,.ints .arg .u64 y.2.2.1,.int .i64 e]
theorem Ml {o:Option DV} {x y:MX} {e:Int} (h:o=some (U3 x y e)):Lz o (U3 x y e):=⟨_,[],h,Wk.Gy (.cons .int (.cons .int (.cons .Qv (.cons .int (.cons .int (.cons .Qv (.cons .int .nil)))))))⟩
theorem Aqx {R C K:Nat} {x y:MX} (h:F6 R C x) (g:F6 R K y) (hrc:R≤C) (e:(Tc x y).2.2.2=0):F6 C K (Tc x y):=by
 unfold Tc at e ⊢
 by_cases k1:Qp x.1 x.2.1 x.2.2.1≠0
 ·rw [A1r k1] at e; exact absurd e k1
 ·rw [A1q k1] at e ⊢
  by_cases k2:Qt (T0 x)=true
  ·rw [A1r k2] at e; exact absurd e (by decide)
  ·rw [A1q k2] at e ⊢
   by_cases k3:(V2 (T0 x) y).2.2.2≠0
   ·rw [A1r k3] at e; exact absurd e k3
   ·rw [A1q k3] at e ⊢
    obtain ⟨hL,hQ,_,_⟩:=h.lq (Decidable.byContradiction k1)
    have hS:F6 R R (T0 x):=by
     have:=hL.part (i:=0) (k:=0) (a:=R) (b:=R) (by omega) (by omega)
     unfold T0; rw [h.rows] at this ⊢; exact this
    have hO:F6 R C (erO x):=by
     have:=hQ.part (i:=0) (k:=0) (a:=R) (b:=C) (by omega) (by omega)
     unfold erO; rw [hQ.Md]; rw [h.rows] at this ⊢; exact this
    obtain ⟨hw,_⟩:=hS.lo g (Decidable.byContradiction k3)
    have hm:F6 C K (C4 (erO x) (V2 (T0 x) y)):=by rw [Nd hO]; exact hO.Ox.mul hw
    revert e hm
    generalize C4 (erO x) (V2 (T0 x) y)=z
    intro e hm
    unfold Z5 Ag9 at e ⊢
    rw [A1q (fun k=>k hm.err)] at e ⊢
    by_cases k4:B4 z.1 z.2.1 z.2.2.1≠0
    ·rw [A1r k4] at e; exact absurd e (by decide)
    ·rw [A1q k4]
     obtain ⟨l,rfl,h1,h2,h3,h4⟩:=hm
     exact .mk h1 h2 h3 h4
section
variable {N n k b:Nat} {l m h:List Int} {Q R C W y f x:MX} {ok:Bool}
theorem Asn (hx:x.2.2.2≠0→x=Ga x.2.2.2) :
 Lz (A8.Solve.C21 N (n:Int) (k:Int) l (n:Int) (b:Int) m (n:Int) 1 h Q.1 Q.2.1 Q.2.2.1 R.1 R.2.1 R.2.2.1 ok C.1 C.2.1 C.2.2.1 W.1 W.2.1 W.2.2.1 y.1 y.2.1 y.2.2.1 f.1 f.2.1 f.2.2.1 x.2.2.2 x.1 x.2.1 x.2.2.1) (U3 x (if x.2.2.2≠0 then Ga x.2.2.2 else y) x.2.2.2):=by
 rw [A8.Solve.Awo]
 by_cases k:x.2.2.2=0
 ·rw [E0 k,A08,A1q (fun h=>h k),k]; exact Ml rfl
 ·have e:U3 x (Ga x.2.2.2) x.2.2.2=U3 (Ga x.2.2.2) (Ga x.2.2.2) x.2.2.2:=congrArg (fun z=>U3 z (Ga x.2.2.2) x.2.2.2) (hx k)
  rw [Pa k,A04,A1r k,e]; exact Ml rfl
theorem Aso (hkn:k≤n) (n6:n≤6) (hR:F6 n k R) (hf:F6 k 1 f) :
 Lz (A8.Solve.C18 N (n:Int) (k:Int) l (n:Int) (b:Int) m (n:Int) 1 h Q.1 Q.2.1 Q.2.2.1 R.1 R.2.1 R.2.2.1 ok C.1 C.2.1 C.2.2.1 W.1 W.2.1 W.2.2.1 y.1 y.2.1 y.2.2.1 f.1 f.2.1 f.2.2.1)
  (U3 (if Jh f≠0 then Ga 2 else upM (Dx (k:Int) R) f) (if Jh f≠0 then Ga 2 else if (upM (Dx (k:Int) R) f).2.2.2≠0 then Ga (upM (Dx (k:Int) R) f).2.2.2 else y) (if Jh f≠0 then Ga 2 else upM (Dx (k:Int) R) f).2.2.2):=by
 have hT:F6 k k (Dx (k:Int) R):=by unfold Dx; rw [hR.Md]; exact hR.part (i:=0) (k:=0) (by omega) (by omega)
 rw [A8.Solve.Ajy,hf.inn,A04]
 by_cases k1:Jh f=0
 ·have k1':¬ (Jh f≠0):=fun h=>h k1
  have pb:E7 R.1 R.2.1 0 0 (k:Int) R.2.1=true:=by rw [hR.rows,hR.Md]; exact Js (i:=0) (k:=0) (by omega) (by omega)
  rw [E0 (show B4 f.1 f.2.1 f.2.2.1=0 from k1),A08,A1q k1',A1q k1',Int.sub_zero,hR.right,Au.2 (show -100≤(0:Int)∧(0:Int)≤100∧-100≤(k:Int)∧(k:Int)≤100 by omega),pb,A1a,A1a,A04,
   show Az R.1 R.2.1 R.2.2.1 0 0 (k:Int) R.2.1=Dx (k:Int) R from rfl,hT.inn,A1a,A04]
  exact Asn (x:=upM (Dx (k:Int) R) f) Aob
 ·rw [Pa (show B4 f.1 f.2.1 f.2.2.1≠0 from k1),A04,A1r k1,A1r k1]; exact Ml rfl
theorem Asp (hkn:k≤n) (n6:n≤6) (hR:F6 n k R) (hC:F6 n 1 C) (hW:F6 n b W) (hy:y.2.2.2=0→F6 b 1 y) :
 Lz (A8.Solve.C15 N (n:Int) (k:Int) l (n:Int) (b:Int) m (n:Int) 1 h Q.1 Q.2.1 Q.2.2.1 R.1 R.2.1 R.2.2.1 ok C.1 C.2.1 C.2.2.1 W.1 W.2.1 W.2.2.1 y.2.2.2 y.1 y.2.1 y.2.2.1)
  (U3 (gX2 (n:Int) (k:Int) (Dx (k:Int) R) C W y) (gY2 (n:Int) (k:Int) (Dx (k:Int) R) C W y) (gX2 (n:Int) (k:Int) (Dx (k:Int) R) C W y).2.2.2):=by
 rw [A8.Solve.Ajz]
 unfold gX2 gY2
 by_cases k1:y.2.2.2=0
 ·have k1':¬ (y.2.2.2≠0):=fun h=>h k1
  have hy:=hy k1
  have pb1:E7 C.1 C.2.1 0 0 (k:Int) C.2.1=true:=by rw [hC.rows,hC.Md]; exact Js (i:=0) (k:=0) (by omega) (by omega)
  have pb2:E7 W.1 W.2.1 0 0 (k:Int) W.2.1=true:=by rw [hW.rows,hW.Md]; exact Js (i:=0) (k:=0) (by omega) (by omega)
  have hTC:F6 k 1 (Dx (k:Int) C):=by unfold Dx; rw [hC.Md]; exact hC.part (i:=0) (k:=0) (by omega) (by omega)
  have hTW:F6 k b (Dx (k:Int) W):=by unfold Dx; rw [hW.Md]; exact hW.part (i:=0) (k:=0) (by omega) (by omega)
  rw [E0 k1,A08,A1q k1',A1q k1',Int.sub_zero,hC.right,hW.right,Au.2 (show -100≤(0:Int)∧(0:Int)≤100∧-100≤(k:Int)∧(k:Int)≤100 by omega),pb1,pb2,A1a,A1a,A04,A04,
   show Az C.1 C.2.1 C.2.2.1 0 0 (k:Int) C.2.1=Dx (k:Int) C from rfl,show Az W.1 W.2.1 W.2.2.1 0 0 (k:Int) W.2.1=Dx (k:Int) W from rfl]
  have hD:=hTW.mul hy
  have e1:Fo (Dx (k:Int) W).1 (Dx (k:Int) W).2.1 (Dx (k:Int) W).2.2.1 y.1 y.2.1 y.2.2.1=mulM (Dx (k:Int) W) y:=rfl
  have hF:F6 k 1 (gF (n:Int) (k:Int) C W y):=hTC.sub hD
  have e2:Ok (Dx (k:Int) C).1 (Dx (k:Int) C).2.1 (Dx (k:Int) C).2.2.1 (mulM (Dx (k:Int) W) y).1 (mulM (Dx (k:Int) W) y).2.1 (mulM (Dx (k:Int) W) y).2.2.1=gF (n:Int) (k:Int) C W y:=rfl
  rw [e1,hTW.right,hy.right,hTW.inn,hy.inn,A05 (show (Dx (k:Int) W).2.1=y.1 by rw [hTW.Md,hy.rows]),hTC.right,hD.right,hTC.inn,hD.inn,A05 (show (mulM (Dx (k:Int) W) y).1=(Dx (k:Int) C).1∧(mulM (Dx (k:Int) W) y).2.1=(Dx (k:Int) C).2.1 by rw [hD.rows,hD.Md,hTC.rows,hTC.Md]; exact ⟨rfl,rfl⟩),e2]
  exact Aso hkn n6 hR hF
 ·rw [Pa k1,A04,A1r k1,A1r k1]; exact Ml rfl
theorem Asq (hkn:k≤n) (n6:n≤6) (hb:n≤k+b) (hR:F6 n k R) (hC:F6 n 1 C) (hW:F6 n b W) :
 Lz (A8.Solve.C12 N (n:Int) (k:Int) l (n:Int) (b:Int) m (n:Int) 1 h Q.1 Q.2.1 Q.2.2.1 R.1 R.2.1 R.2.2.1 ok C.1 C.2.1 C.2.2.1 W.1 W.2.1 W.2.2.1)
  (if Jh C≠0∨Jh W≠0 then U3 (Ga 2) (Ga 2) 2 else U3 (gX2 (n:Int) (k:Int) (Dx (k:Int) R) C W (Tc (Eg (n:Int) (k:Int) W) (Eg (n:Int) (k:Int) C))) (gY2 (n:Int) (k:Int) (Dx (k:Int) R) C W (Tc (Eg (n:Int) (k:Int) W) (Eg (n:Int) (k:Int) C))) (gX2 (n:Int) (k:Int) (Dx (k:Int) R) C W (Tc (Eg (n:Int) (k:Int) W) (Eg (n:Int) (k:Int) C))).2.2.2):=by
 have ek:(n:Int)-(k:Int)=((n-k:Nat):Int):=by omega
 have hLC:F6 (n-k) 1 (Eg (n:Int) (k:Int) C):=by unfold Eg; rw [hC.Md,ek]; exact hC.part (i:=k) (k:=0) (by omega) (by omega)
 have hLW:F6 (n-k) b (Eg (n:Int) (k:Int) W):=by unfold Eg; rw [hW.Md,ek]; exact hW.part (i:=k) (k:=0) (by omega) (by omega)
 rw [A8.Solve.Ua,hC.inn,A04,hW.inn,A2g,A04]
 by_cases k1:Jh C=0
 ·rw [E0 (show B4 C.1 C.2.1 C.2.2.1=0 from k1),Bool.false_or]
  by_cases k2:Jh W=0
  ·have pb1:E7 C.1 C.2.1 (k:Int) 0 ((n:Int)-(k:Int)) C.2.1=true:=by rw [hC.rows,hC.Md,ek]; exact Js (i:=k) (k:=0) (by omega) (by omega)
   have pb2:E7 W.1 W.2.1 (k:Int) 0 ((n:Int)-(k:Int)) W.2.1=true:=by rw [hW.rows,hW.Md,ek]; exact Js (i:=k) (k:=0) (by omega) (by omega)
   have fL:Dj (Eg (n:Int) (k:Int) W).2.2.1=true:=by
    have:=FM.part (i:=k) (k:=0) (a:=n-k) (b:=b) hW (F6.fin k2) (by omega) (by omega)
    unfold Eg; rw [hW.Md,ek]; exact this
   have hrc:(Eg (n:Int) (k:Int) W).1≤(Eg (n:Int) (k:Int) W).2.1:=by rw [hLW.rows,hLW.Md]; omega
   rw [E0 (show B4 W.1 W.2.1 W.2.2.1=0 from k2),A08,A1q (fun h=>h.elim (fun h=>h k1) (fun h=>h k2)),hC.right,hW.right,Au.2 (show -100≤(k:Int)∧(k:Int)≤100∧-100≤(n:Int)∧(n:Int)≤100 by omega),pb1,pb2,A1a,A1a,A04,A04,
    show Az C.1 C.2.1 C.2.2.1 (k:Int) 0 ((n:Int)-(k:Int)) C.2.1=Eg (n:Int) (k:Int) C from rfl,show Az W.1 W.2.1 W.2.2.1 (k:Int) 0 ((n:Int)-(k:Int)) W.2.1=Eg (n:Int) (k:Int) W from rfl,hLW.right,fL,hLW.inn,hLC.inn,A05 hrc]
   have hy:(Tc (Eg (n:Int) (k:Int) W) (Eg (n:Int) (k:Int) C)).2.2.2=0→F6 b 1 (Tc (Eg (n:Int) (k:Int) W) (Eg (n:Int) (k:Int) C)):=fun e=>Aqx hLW hLC (by omega) e
   exact Asp hkn n6 hR hC hW hy
  ·rw [Pa (show B4 W.1 W.2.1 W.2.2.1≠0 from k2),A04,A1r (.inr k2)]
   exact Ml rfl
 ·rw [Pa (show B4 C.1 C.2.1 C.2.2.1≠0 from k1),Bool.true_or,A04,A1r (.inl k1)]
  exact Ml rfl
theorem Asr (hkn:k≤n) (n6:n≤6) (hb:n≤k+b) (hQ:F6 n n Q) (hB:F6 n b ((n:Int),(b:Int),m,0)) (hR:F6 n k R) (hC:F6 n 1 C) :
 Lz (A8.Solve.C11 N (n:Int) (k:Int) l (n:Int) (b:Int) m (n:Int) 1 h Q.1 Q.2.1 Q.2.2.1 R.1 R.2.1 R.2.2.1 ok C.1 C.2.1 C.2.2.1)
  (if Jh C≠0∨Jh (C4 Q ((n:Int),(b:Int),m,0))≠0 then U3 (Ga 2) (Ga 2) 2 else U3 (gX2 (n:Int) (k:Int) (Dx (k:Int) R) C (C4 Q ((n:Int),(b:Int),m,0)) (Tc (Eg (n:Int) (k:Int) (C4 Q ((n:Int),(b:Int),m,0))) (Eg (n:Int) (k:Int) C))) (gY2 (n:Int) (k:Int) (Dx (k:Int) R) C (C4 Q ((n:Int),(b:Int),m,0)) (Tc (Eg (n:Int) (k:Int) (C4 Q ((n:Int),(b:Int),m,0))) (Eg (n:Int) (k:Int) C))) (gX2 (n:Int) (k:Int) (Dx (k:Int) R) C (C4 Q ((n:Int),(b:Int),m,0)) (Tc (Eg (n:Int) (k:Int) (C4 Q ((n:Int),(b:Int),m,0))) (Eg (n:Int) (k:Int) C))).2.2.2):=by
 have hT:=hQ.Ox
 have hBr:A0 (n:Int) (b:Int) m=true:=hB.right
 have hBi:Ag m=true:=hB.inn
 rw [A8.Solve.Ub,hQ.right,A04,show Ap Q.1 Q.2.1 Q.2.2.1=Gg Q from rfl,hT.right,hT.inn,hBr,hBi,A05 (show (Gg Q).2.1=(n:Int) from hT.Md),Nd hQ]
 exact Asq (W:=mulM (Gg Q) ((n:Int),(b:Int),m,0)) hkn n6 hb hR hC (hT.mul hB)
theorem Avo (hkn:k≤n) (n6:n≤6) (hb:n≤k+b) (hQ:F6 n n Q) (hB:F6 n b ((n:Int),(b:Int),m,0)) (hD:F6 n 1 ((n:Int),1,h,0)) (hR:F6 n k R) (fR:FM R) {e:Int}
 (he:e=if Qt (Dx (k:Int) R)=true then 5 else if Jh (C4 Q ((n:Int),1,h,0))≠0∨Jh (C4 Q ((n:Int),(b:Int),m,0))≠0 then 2 else 0) {y:MX}
 (hy:y=Tc (Eg (n:Int) (k:Int) (C4 Q ((n:Int),(b:Int),m,0))) (Eg (n:Int) (k:Int) (C4 Q ((n:Int),1,h,0)))) :
 Lz (A8.Solve.C6 N (n:Int) (k:Int) l (n:Int) (b:Int) m (n:Int) 1 h Q.1 Q.2.1 Q.2.2.1 R.1 R.2.1 R.2.2.1 true)
  (U3 (Ou e (gX2 (n:Int) (k:Int) (Dx (k:Int) R) (C4 Q ((n:Int),1,h,0)) (C4 Q ((n:Int),(b:Int),m,0)) y)) (Ou e (gY2 (n:Int) (k:Int) (Dx (k:Int) R) (C4 Q ((n:Int),1,h,0)) (C4 Q ((n:Int),(b:Int),m,0)) y)) (Ou e (gX2 (n:Int) (k:Int) (Dx (k:Int) R) (C4 Q ((n:Int),1,h,0)) (C4 Q ((n:Int),(b:Int),m,0)) y)).2.2.2):=by
 have hT:=hQ.Ox
 have hDr:A0 (n:Int) 1 h=true:=hD.right
 have hDi:Ag h=true:=hD.inn
 have hTR:F6 k k (Dx (k:Int) R):=by unfold Dx; rw [hR.Md]; exact hR.part (i:=0) (k:=0) (by omega) (by omega)
 have fT:Dj (Dx (k:Int) R).2.2.1=true:=by
  have:=FM.part (i:=0) (k:=0) (a:=k) (b:=k) hR fR (by omega) (by omega)
  unfold Dx; rw [hR.Md]; exact this
 have pb:E7 R.1 R.2.1 0 0 (k:Int) R.2.1=true:=by rw [hR.rows,hR.Md]; exact Js (i:=0) (k:=0) (by omega) (by omega)
 rw [A8.Solve.Alk,A13,A08,Int.sub_zero,hR.right,Au.2 (show -100≤(0:Int)∧(0:Int)≤100∧-100≤(k:Int)∧(k:Int)≤100 by omega),pb,A1a,A1a,A04,
  show Az R.1 R.2.1 R.2.2.1 0 0 (k:Int) R.2.1=Dx (k:Int) R from rfl,hTR.right,hTR.inn,fT,A1a,A1a,A04]
 cases kt:Qt (Dx (k:Int) R) with
 | true =>
   rw [kt,A1r rfl] at he
   rw [show (Jv (Dx (k:Int) R).1 (Dx (k:Int) R).2.1 (Dx (k:Int) R).2.2.1).1=true from kt,A04,he]
   exact Ml rfl
 | false =>
   rw [kt,A1q (by simp)] at he
   rw [show (Jv (Dx (k:Int) R).1 (Dx (k:Int) R).2.1 (Dx (k:Int) R).2.2.1).1=false from kt,A08,hQ.right,A04,show Ap Q.1 Q.2.1 Q.2.2.1=Gg Q from rfl,hT.right,hT.inn,hDr,hDi,A05 (show (Gg Q).2.1=(n:Int) from hT.Md),
    show Fo (Gg Q).1 (Gg Q).2.1 (Gg Q).2.2.1 (n:Int) 1 h=mulM (Gg Q) ((n:Int),1,h,0) from rfl,← Nd hQ]
   have key:=Asr (N:=N) (l:=l) (h:=h) (ok:=true) (C:=C4 Q ((n:Int),1,h,0)) hkn n6 hb hQ hB hR (by rw [Nd hQ]; exact hT.mul hD)
   rw [← hy] at key
   by_cases kc:Jh (C4 Q ((n:Int),1,h,0))≠0∨Jh (C4 Q ((n:Int),(b:Int),m,0))≠0
   ·rw [A1r kc] at he key
    rw [he]
    exact key
   ·rw [A1q kc] at he key
    rw [he,No rfl,No rfl]
    exact key
end
theorem A8.Solve.known:A8.Solve.Kn:=A8.Solve.Ac (.cons Af.Mul.m.known (.cons Af.Sub.m.known (.cons Af.Cb.m.known (.cons F7.Check.known (.cons Cm.By.known (.cons A3.Flat.m.known (.cons A3.Cq.known (.cons A8.Check.known (.cons A8.Hz.known (.cons A8.least.known (.cons A8.rows.known .nil))))))))))) fun r c l p q m u v h hp=>Nj (by
 have h0:Pn l m h=true:=hp
 obtain ⟨h1,ah⟩:=Ad.1 (show ((Ag l&&Ag m)&&Ag h)=true from h0)
 obtain ⟨al,am⟩:=Ad.1 h1
 show Lz _ (U3 (gX r c l p q m u v h) (gY r c l p q m u v h) (gX r c l p q m u v h).2.2.2)
 rw [A8.Solve.ev,h0,A04]
 unfold gX gY
 by_cases k0:Ix r c l p q m u v h=0
 ·obtain ⟨k1,k2,k3,e1,e2,e3,e4,e5⟩:=Yg k0
  obtain ⟨n,k,rfl,rfl,hA,fA⟩:=F6.Y8 k1 al
  obtain ⟨n',b,rfl,rfl,hB,fB⟩:=F6.Y8 k2 am
  obtain ⟨n'',o,rfl,rfl,hD,fD⟩:=F6.Y8 k3 ah
  obtain rfl:n'=n:=by omega
  obtain rfl:n''=n':=by omega
  obtain rfl:o=1:=by omega
  have k0':¬ (Ix (n'':Int) (k:Int) l (n'':Int) (b:Int) m (n'':Int) ((1:Nat):Int) h≠0):=fun h=>h k0
  rw [E0 k0,A08,hA.right,show Dj l=true from fA,al,A1a,A1a,A04,A1q k0',A1q k0']
  by_cases kf:Gs (n'':Int) (k:Int) l=0
  ·obtain ⟨hQ,hR,fQ,fR⟩:=hA.fac kf
   have kf':¬ (Gs (n'':Int) (k:Int) l≠0):=fun h=>h kf
   have eg:gE (n'':Int) (k:Int) l (n'':Int) (b:Int) m (n'':Int) ((1:Nat):Int) h=if Qt (Dx (k:Int) (rX (n'':Int) (k:Int) l))=true then 5 else if Jh (C4 (qX (n'':Int) (k:Int) l) ((n'':Int),1,h,0))≠0∨Jh (C4 (qX (n'':Int) (k:Int) l) ((n'':Int),(b:Int),m,0))≠0 then 2 else 0:=by
    unfold gE
    rw [A1q kf']
    rfl
   rw [A05 kf]
   exact Avo (by omega) hA.r6 (by omega) hQ hB hD hR fR eg (y:=gY0 (n'':Int) (k:Int) l (n'':Int) (b:Int) m (n'':Int) ((1:Nat):Int) h) rfl
  ·have el:Gs (n'':Int) (k:Int) l=2:=by
    have hc:B4 (n'':Int) (k:Int) l=0:=k1
    rw [Qe hc] at kf ⊢
    split at kf
    ·exact absurd rfl kf
    ·rename_i g; rw [A1q g]
   have eg:gE (n'':Int) (k:Int) l (n'':Int) (b:Int) m (n'':Int) ((1:Nat):Int) h=2:=by
    unfold gE
    rw [A1r kf,el]
   rw [A8.Solve.Alk,A09 kf,A2n,A04,eg]
   exact Ml rfl
 ·rw [Pa k0,A04,A04,A1r k0,A1r k0]
  exact Ml rfl)
namespace EqRefM
def Ae.single.hint:Nat→Option Bg
 | 0=>some { keep:=[0,1,5,6,7],objs:=[(0,5,100005,.ints 173 .u32 [])],boxes:=[] }
 | _=>none
def Ae.single.Bc:List (Nat × Entry):=[]
def Ae.single.E:Env:=Be (Bb Ae.single.Bc) (fun _=>false) Ae.single.hint (fun _=>none)
section
variable (N M:Nat) (a:List Int) (x p6 p7:Int) (p5:List Int)
def Ae.single.L0:Option DV:=Bx Ae.single.E N f175 (Am f175) [1,1,1,0,1,0] [] M ⟨E5 39 [(0,.ints .arg .u32 a),(1,.int .u32 x),(5,.oref 100005),(6,.int .u64 p6),(7,.int .i64 p7)],[(100005,false,.ints 173 .u32 p5)]⟩
theorem Ae.single.Av:Ae.single.L0 N (M+1) a x p6 p7 p5=bif (Bd p7 (length a:Int)) then bif ((decide (0≤p7))&&(decide (p7<(length a:Int)))) then bif (decide ((length p5)+1≤Gw)) then Ae.single.L0 N M a x (Bm (Int.tdiv (Bm ((Bm ((Bm (getD a (toNat p7) 0))*(Bm x)))+p6)) 4294967296)) (Ab (p7+1)) (p5++[(Jm (Int.tmod (Bm ((Bm ((Bm (getD a (toNat p7) 0))*(Bm x)))+p6)) 4294967296))]) else none else none else bif (decide ((length p5)+1≤Gw)) then some (.ints (.own 38 173) .u32 (p5++[(Jm p6)])) else none:=by kernel_rfl
theorem Ae.single.ev:Bu Ae.single.E N f175 (Am f175) [.ints .arg .u32 a,.int .u32 x] =
 Ae.single.L0 N N a x 0 0 []:=by kernel_rfl
end
abbrev _root_.Go.Proofs.S1.Ae.single.Kn:=A7 prog 175 Ae.single.spec
theorem Ae.single.Ac (hk:A1 prog Ae.single.Bc) (h:Hyp Ae.single.E f175 Ae.single.ts Ae.single.pre Ae.single.out):Ae.single.Kn :=
 Al (A2 hk _ _ _) func175 (by kernel_rfl) (by kernel_rfl) h
def Ae.Mul.hint:Nat→Option Bg
 | 0=>some { keep:=[2,3,4,5,6],objs:=[(0,5,100005,.ints 173 .u32 [])],boxes:=[2,3,4] }
 | _=>none
def Ae.Mul.Bc:List (Nat × Entry):=[(171,Ae.Made.spec),(174,Ae.plus.own.spec),(175,Ae.single.spec)]
def Ae.Mul.E:Env:=Be (Bb Ae.Mul.Bc) (fun n=>Nat.beq n 29) Ae.Mul.hint (fun _=>none)
section
variable (N M:Nat) (n:Bool) (a:List Int) (m:Bool) (b:List Int) (p6:Int) (p5:List Int)
def Ae.Mul.L0:Option DV:=Bx Ae.Mul.E N f110 (Am f110) [1,1,0,1,0] [] M ⟨E5 37 [(2,.ptr 2 0 0),(3,.ptr 3 0 0),(4,.ptr 4 0 0),(5,.oref 100005),(6,.int .i64 p6)],[(2,false,.box [.bool n,.ints .arg .u32 a]),(3,false,.box [.bool m,.ints .arg .u32 b]),(4,false,.box [.bool false,.nil]),(100005,false,.ints 173 .u32 p5)]⟩
theorem Ae.Mul.Av:Ae.Mul.L0 N (M+1) n a m b p6 p5=bif (Es 0 p6) then bif (decide (1+(length p5)≤Gw)) then bif ((decide (0≤p6))&&(decide (p6<(length b:Int)))) then bif (Gq a&&Akz (getD b (toNat p6) 0)) then bif (Gq ([(0:Int)]++p5)&&Gq (singleL a (getD b (toNat p6) 0))) then Ae.Mul.L0 N M n a m b (Ab (p6-1)) (Jj ([(0:Int)]++p5) (singleL a (getD b (toNat p6) 0))) else none else none else none else none else bif (Gq p5) then some (.agg [.bool (A6 (wv (!(n==m)) p5)),.ints .arg .u32 (Aj (wv (!(n==m)) p5))]) else none :=
 Eq.trans (by kernel_rfl)
 (Ec (Ec (Cp (I9 (decide (0≤p6)) (decide (p6<(length b:Int)))) (Cp (Cd (Gq a&&Akz (getD b (toNat p6) 0))) (Cp (Cd (Gq ([(0:Int)]++p5)&&Gq (singleL a (getD b (toNat p6) 0)))) rfl rfl) rfl) rfl) rfl) rfl)
theorem Ae.Mul.ev:Bu Ae.Mul.E N f110 (Am f110) [.agg [.bool n,.ints .arg .u32 a],.agg [.bool m,.ints .arg .u32 b]] =
 Ae.Mul.L0 N N n a m b (Ab ((length b:Int)-1)) []:=by kernel_rfl
end
abbrev _root_.Go.Proofs.S1.Ae.Mul.Kn:=A7 prog 110 Ae.Mul.spec
theorem Ae.Mul.Ac (hk:A1 prog Ae.Mul.Bc) (h:Hyp Ae.Mul.E f110 Ae.Mul.ts Ae.Mul.pre Ae.Mul.out):Ae.Mul.Kn :=
 Al (A2 hk _ _ _) func110 (by kernel_rfl) (by kernel_rfl) h
def Aq.Mul.Bc:List (Nat × Entry):=[(110,Ae.Mul.spec),(109,Aq.Of.spec)]
def Aq.Mul.E:Env:=Be (Bb Aq.Mul.Bc) (fun _=>false) (fun _=>none) (fun _=>none)
theorem Aq.Mul.ev (N:Nat) (n:Bool) (a:List Int) (e:Int) (m:Bool) (b:List Int) (f:Int):Bu Aq.Mul.E N f41 (Am f41) [.agg [.bool n,.ints .arg .u32 a,.int .i64 e],.agg [.bool m,.ints .arg .u32 b,.int .i64 f]]=bif (okM n a&&okM m b) then bif (Hs (A6 (wv n a*wv m b)) (Aj (wv n a*wv m b))&&Wh (Ab (e+f))) then some (.agg [.bool (A6 (mD (wv (A6 (wv n a*wv m b)) (Aj (wv n a*wv m b))))),.ints .arg .u32 (Aj (mD (wv (A6 (wv n a*wv m b)) (Aj (wv n a*wv m b))))),.int .i64 (eD (wv (A6 (wv n a*wv m b)) (Aj (wv n a*wv m b))) (Ab (e+f)))]) else none else none :=
 Eq.trans (by kernel_rfl)
 (Cp (Cd (okM n a&&okM m b)) (Cp (Cd (Hs (A6 (wv n a*wv m b)) (Aj (wv n a*wv m b))&&Wh (Ab (e+f)))) rfl rfl) rfl)
abbrev _root_.Go.Proofs.S1.Aq.Mul.Kn:=A7 prog 41 Aq.Mul.spec
theorem Aq.Mul.Ac (hk:A1 prog Aq.Mul.Bc) (h:Hyp Aq.Mul.E f41 Aq.Mul.ts Aq.Mul.pre Aq.Mul.out):Aq.Mul.Kn :=
 Al (A2 hk _ _ _) func41 (by kernel_rfl) (by kernel_rfl) h
abbrev _root_.Go.Proofs.S1.Ae.plus.own.Kn:Prop:=A7 prog 174 Ae.plus.own.spec
theorem _root_.Go.Proofs.S1.Ae.plus.own.call:∀ (args:Array Value) (w:World),(callFunc 174 args).run prog w=.ok (.enter 174 args) w:=Qh func174 (by kernel_rfl) (show f174.body=some (Am f174) by kernel_rfl)
theorem _root_.Go.Proofs.S1.Ae.plus.meets {E:Env} (he:Ke prog E) {ts:List AT} {pre:List Atom→Bool} {out:List Atom→DV} (h:∀ ats ds,F0 ts ats ds→pre ats=true→∃ fuel d drops,Bu E fuel f174 (Am f174) ds=some d∧Wk drops d (out ats)):Xn prog 174 (entry ts pre out):=Rb he func174 (show f174.body=some (Am f174) by kernel_rfl) h
end EqRefM
open EqRefM
theorem Xz {n:Bool} {l:List Int} (h:okM n l=true):∃ v,n=A6 v∧l=Aj v∧Dv v.natAbs<33554432:=by
 have h:=Au.1 h
 obtain ⟨h1,h2,h3⟩:=h
 obtain ⟨e1,e2⟩:=Wy h2 h3
 refine ⟨wv n l,e1,e2,?_⟩
 rw [e2,Ch] at h1
 exact h1
theorem Avw {v:Int} (h:Dv v.natAbs<33554432):okM (A6 v) (Aj v)=true :=
 Au.2 ⟨by rw [Ch]; exact h,Aak v⟩
theorem Ae.plus.own.known:Ae.plus.own.Kn:=by
 refine ⟨Ae.plus.meets (E:=EqRefA.Ae.plus.E) (A2 (.cons Ae.Jf.known .nil) _ _ _) fun ats dvs he hp=>?_,Ae.plus.own.call⟩
 obtain ⟨a,_,_,rfl,rfl,he0⟩:=he.Aul
 obtain ⟨b,_,_,rfl,rfl,he1⟩:=he0.Aul
 obtain ⟨rfl,rfl⟩:=he1.X1
 obtain ⟨ha,hb⟩:=Ad.1 (show (Gq a&&Gq b)=true from hp)
 refine ⟨max a.length b.length+2,.ints (.own 100005 tW) .u32 (Jj a b),[],?_,.keep _ _ _ _ (List.not_mem_nil)⟩
 rw [EqRefA.Ae.plus.ev]
 exact Abt _ ha hb (max a.length b.length+1) 0 0 _ (by omega) (by omega) (by omega) (by simp)
theorem Ac9 {x y c:Nat} (hx:x<4294967296) (hy:y<4294967296) (hc:c<4294967296):x*y+c<18446744073709551616:=by
 have:=A10 (show x≤4294967295 by omega) (show y≤4294967295 by omega)
 omega
theorem Afl (N:Nat) {a:List Int} {X:Nat} (ha:Gq a=true) (hX:X<4294967296):∀ (k i c F:Nat),i+k=a.length→k<F→c<4294967296 →
 Cf a / 2^(32*i)*X+c=Cf a*X / 2^(32*i) →
 Ae.single.L0 N F a (X:Int) (c:Int) (i:Int) (digits i (Cf a*X))=some (.ints (.own 38 tW) .u32 (singleL a (X:Int))):=by
 obtain ⟨la,ia⟩:=Km ha
 intro k
 induction k with
 | zero =>
   intro i c F hi hF hc h
   obtain ⟨F,rfl⟩:∃ G,F=G+1:=⟨F-1,by omega⟩
   have t0:decide ((i:Int)<(a.length:Int))=false:=A09 (by omega)
   have t1:decide ((digits i (Cf a*X)).length+1≤Gw)=true:=A05 (by rw [Ef]; unfold Gw; omega)
   have hz:Cf a / 2^(32*i)=0:=Nat.div_eq_of_lt (by rw [show i=a.length by omega]; exact Kg ia)
   rw [hz,Nat.zero_mul,A2e] at h
   rw [Ae.single.Av,Aw,t0,A08,t1,A04,Jl (by omega) (by omega)]
   unfold singleL
   rw [A06,Kc,← show i=a.length by omega,← h,A1h hc]
 | succ k ih =>
   intro i c F hi hF hc h
   obtain ⟨F,rfl⟩:∃ G,F=G+1:=⟨F-1,by omega⟩
   have t0:decide ((i:Int)<(a.length:Int))=true:=A05 (by omega)
   have t2:decide ((0:Int)≤(i:Int))=true:=A05 (by omega)
   have t1:decide ((digits i (Cf a*X)).length+1≤Gw)=true:=A05 (by rw [Ef]; unfold Gw; omega)
   rw [Ae.single.Av,Aw,t0,t1,t2]
   simp only [A04,A1a]
   rw [A06,Oc ia i]
   have ih:=ih (i+1)
   rw [Mg,A1s 4294967296,← A1x,← A1x,Kc] at ih
   generalize Cf a / 2^(32*i)=x at *
   generalize Cf a*X / 2^(32*i)=z at *
   have hb:=Ac9 (x:=x%4294967296) (y:=X) (c:=c) (Nat.mod_lt _ (by decide)) hX hc
   have hm:x*X=x / 4294967296*X*4294967296+x%4294967296*X:=by
    rw [Nat.mul_right_comm,← A18]
    congr 1
    omega
   have e1:Bm (Bm (Bm ((x%4294967296:Nat):Int)*Bm (X:Int))+(c:Int))=((x%4294967296*X+c:Nat):Int):=by
    rw [Dh (x:=((x%4294967296:Nat):Int)) (by omega) (by omega),Dh (x:=(X:Int)) (by omega) (by omega),← A1p,Dh (x:=((x%4294967296*X:Nat):Int)) (by omega) (by omega),Dh (by omega) (by omega)]
    omega
   have hlt:(x%4294967296*X+c) / 4294967296<4294967296:=by omega
   rw [e1,Agp,Jn,Jo,Jl (by omega) (by omega),Dh (by omega) (by omega),An (by omega) (by omega)]
   rw [hm] at h
   generalize x%4294967296*X=p at *
   generalize x / 4294967296*X=q at *
   have e2:(p+c)%4294967296=z%4294967296:=by omega
   rw [e2]
   exact ih ((p+c) / 4294967296) F (by omega) (by omega) hlt (by omega)
theorem Ae.single.known:Ae.single.Kn:=Ae.single.Ac .nil fun a x hp=>by
 obtain ⟨ha,hx⟩:=Ad.1 hp
 have hx:=Au.1 hx
 obtain ⟨X,rfl⟩:∃ k:Nat,x=k:=⟨x.toNat,by omega⟩
 refine ⟨a.length+1,.ints (.own 38 tW) .u32 (singleL a X),[38],?_,Ado⟩
 rw [Ae.single.ev]
 exact Afl _ ha (by omega) a.length 0 0 _ (by omega) (by omega) (by omega) (by simp)
theorem Yn (a:List Int) (x:Int):Vm (singleL a x):=M9 _ _
theorem Q4 (a:List Int) (x:Int):(singleL a x).length=a.length+1:=Ef _ _
theorem Afm {a:List Int} (ia:Vm a) {X:Nat} (hX:X<4294967296):Cf (singleL a (X:Int))=Cf a*X:=by
 have h:=Kg ia
 unfold singleL
 rw [J4,A06,A1h]
 rw [Mg,A1s 4294967296]
 exact Nat.mul_lt_mul'' h hX
theorem Aps (N:Nat) {n m:Bool} {a b:List Int} (ha:Vm a) (hb:Vm b) (la:a.length<33554432) (lb:b.length<33554432) :
 ∀ (j F:Nat) (p:List Int),j≤b.length→j<F→Vm p→p.length≤a.length+2*(b.length-j)→Cf p=Cf a*(Cf b / 2^(32*j)) →
 Ae.Mul.L0 N F n a m b ((j:Int)-1) p=some (.agg [.bool (A6 (Hv (!(n==m)) (Cf a*Cf b))),.ints .arg .u32 (Aj (Hv (!(n==m)) (Cf a*Cf b)))]):=by
 intro j
 induction j with
 | zero =>
   intro F p hj hF ip lp vp
   obtain ⟨F,rfl⟩:∃ G,F=G+1:=⟨F-1,by omega⟩
   have o:Gq p=true:=Kl (by omega) ip
   rw [Nat.mul_zero,A12,Nat.div_one] at vp
   rw [Ae.Mul.Av,Ej,A09 (by omega),A08,o,A04]
   unfold wv
   rw [vp]
 | succ j ih =>
   intro F p hj hF ip lp vp
   obtain ⟨F,rfl⟩:∃ G,F=G+1:=⟨F-1,by omega⟩
   have e0:((j+1:Nat):Int)-1=(j:Int):=by omega
   have hX:Cf b / 2^(32*j)%4294967296<4294967296:=Nat.mod_lt _ (by decide)
   have o1:Gq a=true:=Kl (by omega) ha
   have i0:Vm ([(0:Int)]++p):=Agy ip
   have o2:Gq ([(0:Int)]++p)=true:=Kl (by rw [A1w]; show 1+p.length<_; omega) i0
   have o3:Gq (singleL a ((Cf b / 2^(32*j)%4294967296:Nat):Int))=true:=Kl (by rw [Q4]; omega) (Yn _ _)
   have o4:Akz ((Cf b / 2^(32*j)%4294967296:Nat):Int)=true:=Au.2 (by omega)
   have vz:Cf ([(0:Int)]++p)=4294967296*Cf p:=by
    show (0:Int).toNat+4294967296*Cf p=_
    rw [show (0:Int).toNat=0 from rfl,A2e]
   have c1:decide (1+p.length≤Gw)=true:=A05 (by unfold Gw; omega)
   have c2:decide ((j:Int)<(b.length:Int))=true:=A05 (by omega)
   have c3:decide ((0:Int)≤(j:Int))=true:=A05 (by omega)
   rw [e0,Ae.Mul.Av,Ej,c3,A04,c1,A04,c2,A1a,A04,A06,Oc hb j,o1,o4,A1a,A04,o2,o3,A1a,A04,An (by omega) (by omega)]
   refine ih F _ (by omega) (by omega) (Y3 _ _) ?_ ?_
   ·rw [P0,A1w,Q4]
    show max (1+p.length) _+1≤_
    omega
   ·rw [Abu i0 (Yn _ _),vz,Afm ha hX,vp,Mg,A1s 4294967296 (2^(32*j)),← A1x,Nat.mul_left_comm,← Nat.mul_add]
    congr 1
    omega
theorem Asg (s t:Bool) (x y:Nat):Hv (!(s==t)) (x*y)=Hv s x*Hv t y:=by
 unfold Hv
 cases s<;>cases t<;>simp [A1p,Int.neg_mul,Int.mul_neg]
theorem Ae.Mul.known:Ae.Mul.Kn:=Ae.Mul.Ac (.cons Ae.Made.known (.cons Ae.plus.own.known (.cons Ae.single.known .nil))) fun n a m b hp=>by
 obtain ⟨h1,h2⟩:=Ad.1 hp
 obtain ⟨v,rfl,rfl,hv⟩:=Xz h1
 obtain ⟨w,rfl,rfl,hw⟩:=Xz h2
 refine ⟨(Aj w).length+1,Ae.Mul.out [.b (A6 v),.l (Aj v),.b (A6 w),.l (Aj w)],[],?_,Acx⟩
 have lv:=Ch v
 have lw:=Ch w
 have iw:=Gl w
 have hz:Cf (Aj w) / 2^(32*(Aj w).length)=0:=Nat.div_eq_of_lt (Kg iw)
 rw [Ae.Mul.ev,An (by omega) (by omega)]
 refine (Aps _ (Gl v) iw (by omega) (by omega) (Aj w).length _ [] (A1y _) (by omega) (fun x h=>by cases h) (by show 0≤_; omega) (by rw [hz,Nat.mul_zero]; rfl)).trans ?_
 rw [Asg]
 rfl
theorem Aqa (n m:Nat):Dv (n*m)≤Dv n+Dv m:=by
 refine Mq ?_
 rw [Nat.mul_add,A1t]
 exact Nat.mul_lt_mul'' (Kq n) (Kq m)
theorem Aq.Mul.known:Aq.Mul.Kn:=Aq.Mul.Ac (.cons Ae.Mul.known (.cons Aq.Of.known .nil)) fun n a e m b f hp=>by
 obtain ⟨h1,h2⟩:=Ad.1 hp
 obtain ⟨h3,h4⟩:=Ad.1 h2
 have he:=Au.1 h3
 have hf:=Au.1 h4
 obtain ⟨h5,h6⟩:=Ad.1 h1
 obtain ⟨v,rfl,rfl,hv⟩:=Xz h5
 obtain ⟨w,rfl,rfl,hw⟩:=Xz h6
 refine ⟨0,Aq.Mul.out [.b (A6 v),.l (Aj v),.i e,.b (A6 w),.l (Aj w),.i f],[],?_,wdy⟩
 have hl:=Aqa v.natAbs w.natAbs
 have o1:Hs (A6 (v*w)) (Aj (v*w))=true:=Iz (by rw [Int.natAbs_mul]; omega)
 have o2:Wh (e+f)=true:=Au.2 (by omega)
 rw [Aq.Mul.ev,h5,h6,A1a,A04,An (by omega) (by omega)]
 simp only [F1]
 rw [o1,o2,A1a,A04]
 show _=some (DV.agg [.bool (A6 (mD (wv (A6 v) (Aj v)*wv (A6 w) (Aj w)))),.ints .arg .u32 (Aj (mD (wv (A6 v) (Aj v)*wv (A6 w) (Aj w)))),.int .i64 (eD (wv (A6 v) (Aj v)*wv (A6 w) (Aj w)) (e+f))])
 rw [F1,F1]
namespace EqLaw17
end EqLaw17
open EqLaw17
theorem O0 (r c:Int) (l:List Int):Ee r c l r c l=true:=by unfold Ee; simp
end Go.Proofs.S1
end
