/- A verified evaluator of the program's form and its use for this seat: S1EqRef10, S1PRef10, S1PFill, S1EqRefA, S1PRefA, S1PRefAa, S1EqRefB, S1PRefB, S1PRefBa, S1EqRefC, S1PRefC, S1PRefCa, S1EqRefE, S1PRefV, S1EqCmp. -/
import Derived.Test.YthajngaadbanfaaGreatTE
import Derived.Test.YthajngaadbanfaaGreatTF
import Derived.Test.YthajngaadbanfaaGreatTI
set_option linter.unusedVariables false
set_option linter.unusedSimpArgs false
noncomputable section
open Int (toNat)
open List (length getD)
open Go.Proofs.Tryz
namespace Go.Proofs.S1
open Go Go.Den Go.Rnd Go.Proofs
set_option maxRecDepth 100000
namespace EqRef10
def Ae.Ip.Bc:List (Nat × Entry):=[]
def Ae.Ip.E:Env:=Bi (Be Ae.Ip.Bc) (fun _=>false) (fun _=>none) (fun _=>none)
theorem Ae.Ip.ev (N:Nat) (r c:Int) (l:List Int):B0 Ae.Ip.E N f90 (Ak f90) [.agg [.int .i64 r,.int .i64 c,.ints .arg .u64 l]]=some (.bool (bif (bif (bif (bif (Ex 0 r) then (Ex r 6) else false) then (Ex 0 c) else false) then (Ex c 6) else false) then ((length l:Int)==(Ab (r*c))) else false)) :=
 Eq.trans (by kernel_rfl)
 (Ax (R6 (Ex 0 r)) (Ax (No (Ex 0 r)) (Ax (No (Ex 0 r)) (Ax (W5 (Ex 0 r)) (Ax (Aqi (Ex 0 r) (Ex r 6)) (Ax (Ajs (Ex 0 r) (Ex r 6)) (Ax (Ajs (Ex 0 r) (Ex r 6)) (Ax (Auv (Ex 0 r) (Ex r 6)) (Ax (A0b (Ex 0 r) (Ex r 6) (Ex 0 c)) (Ax (Aqj (Ex 0 r) (Ex r 6) (Ex 0 c)) (Ax (Aqj (Ex 0 r) (Ex r 6) (Ex 0 c)) (Ax (A0c (Ex 0 r) (Ex r 6) (Ex 0 c)) (Ax (Auw (Ex 0 r) (Ex r 6) (Ex 0 c) (Ex c 6)) (Ax (Aqk (Ex 0 r) (Ex r 6) (Ex 0 c) (Ex c 6)) (Ax (Aqk (Ex 0 r) (Ex r 6) (Ex 0 c) (Ex c 6)) (Ax (Auw (Ex 0 r) (Ex r 6) (Ex 0 c) (Ex c 6)) (Ax (Aqk (Ex 0 r) (Ex r 6) (Ex 0 c) (Ex c 6)) (Ax (Auw (Ex 0 r) (Ex r 6) (Ex 0 c) (Ex c 6)) (Ax (Aqk (Ex 0 r) (Ex r 6) (Ex 0 c) (Ex c 6)) (Ax (A0d (Ex 0 r) (Ex r 6) (Ex 0 c) (Ex c 6)) (Ax (A0d (Ex 0 r) (Ex r 6) (Ex 0 c) (Ex c 6)) (Ax (A0e (Ex 0 r) (Ex r 6) (Ex 0 c) (Ex c 6)) rfl))))))))))))))))))))))
abbrev _root_.Go.Proofs.S1.Ae.Ip.Kn:=A8 prog 90 Ae.Ip.spec
theorem Ae.Ip.Ad (hk:A2 prog Ae.Ip.Bc) (h:Hyp Ae.Ip.E f90 Ae.Ip.ts Ae.Ip.pre Ae.Ip.out):Ae.Ip.Kn :=
 Am (A5 hk _ _ _) func90 (by kernel_rfl) (by kernel_rfl) h
def Ae.At.Bc:List (Nat × Entry):=[]
def Ae.At.E:Env:=Bi (Be Ae.At.Bc) (fun _=>false) (fun _=>none) (fun _=>none)
theorem Ae.At.ev (N:Nat) (r c:Int) (l:List Int) (i k:Int):B0 Ae.At.E N f55 (Ak f55) [.agg [.int .i64 r,.int .i64 c,.ints .arg .u64 l],.int .i64 i,.int .i64 k]=bif ((decide (0≤(Ab ((Ab (i*c))+k))))&&(decide ((Ab ((Ab (i*c))+k))<(length l:Int)))) then some (.int .u64 (getD l (toNat (Ab ((Ab (i*c))+k))) 0)) else none:=by kernel_rfl
abbrev _root_.Go.Proofs.S1.Ae.At.Kn:=A8 prog 55 Ae.At.spec
theorem Ae.At.Ad (hk:A2 prog Ae.At.Bc) (h:Hyp Ae.At.E f55 Ae.At.ts Ae.At.pre Ae.At.out):Ae.At.Kn :=
 Am (A5 hk _ _ _) func55 (by kernel_rfl) (by kernel_rfl) h
def Ae.Dm.Bc:List (Nat × Entry):=[]
def Ae.Dm.E:Env:=Bi (Be Ae.Dm.Bc) (fun _=>false) (fun _=>none) (fun _=>none)
theorem Ae.Dm.ev (N:Nat) (a b:Int):B0 Ae.Dm.E N f53 (Ak f53) [.int .i64 a,.int .i64 b]=bif (((decide ((0:Int)≤(Ab (a*b))))&&(decide ((Ab (a*b))≤(Ab (a*b)))))&&(decide ((Ab (a*b))≤Ha))) then some (.agg [.int .i64 a,.int .i64 b,.ints (.own 10 43) .u64 (List.replicate (toNat (Ab (a*b))) 0)]) else none:=by kernel_rfl
abbrev _root_.Go.Proofs.S1.Ae.Dm.Kn:=A8 prog 53 Ae.Dm.spec
theorem Ae.Dm.Ad (hk:A2 prog Ae.Dm.Bc) (h:Hyp Ae.Dm.E f53 Ae.Dm.ts Ae.Dm.pre Ae.Dm.out):Ae.Dm.Kn :=
 Am (A5 hk _ _ _) func53 (by kernel_rfl) (by kernel_rfl) h
def Ae.Gk.Bc:List (Nat × Entry):=[]
def Ae.Gk.E:Env:=Bi (Be Ae.Gk.Bc) (fun _=>false) (fun _=>none) (fun _=>none)
theorem Ae.Gk.ev (N:Nat) (r c:Int) (l:List Int) (i k b:Int):B0 Ae.Gk.E N f54 (Ak f54) [.agg [.int .i64 r,.int .i64 c,.ints .arg .u64 l],.int .i64 i,.int .i64 k,.int .u64 b]=bif (decide (0+(length l)≤Ha)) then bif ((decide (0≤(Ab ((Ab (i*c))+k))))&&(decide ((Ab ((Ab (i*c))+k))<(length ([]++l):Int)))) then bif (decide ((toNat (Ab ((Ab (i*c))+k)))<(length ([]++l)))) then some (.agg [.int .i64 r,.int .i64 c,.ints (.own 13 43) .u64 (List.set ([]++l) (toNat (Ab ((Ab (i*c))+k))) b)]) else none else none else none:=by kernel_rfl
abbrev _root_.Go.Proofs.S1.Ae.Gk.Kn:=A8 prog 54 Ae.Gk.spec
theorem Ae.Gk.Ad (hk:A2 prog Ae.Gk.Bc) (h:Hyp Ae.Gk.E f54 Ae.Gk.ts Ae.Gk.pre Ae.Gk.out):Ae.Gk.Kn :=
 Am (A5 hk _ _ _) func54 (by kernel_rfl) (by kernel_rfl) h
def Ae.E9.hint:Nat→Option Ba
 | 0=>some { keep:=[0,2,3,4],objs:=[],boxes:=[2,3] }
 | _=>none
def Ae.E9.Bc:List (Nat × Entry):=[(54,Ae.Gk.spec),(53,Ae.Dm.spec)]
def Ae.E9.E:Env:=Bi (Be Ae.E9.Bc) (fun _=>false) Ae.E9.hint (fun _=>none)
section
variable (N M:Nat) (n p4:Int) (p3:List Int)
def Ae.E9.L0:Option DV:=B8 Ae.E9.E N f95 (Ak f95) [1,1,0,1,0] [] M ⟨Ff 18 [(0,.int .i64 n),(2,.ptr 2 0 0),(3,.ptr 3 0 0),(4,.int .i64 p4)],[(2,false,.box [.int .i64 0,.int .i64 0,.nil]),(3,false,.box [.int .i64 n,.int .i64 n,.ints .fresh .u64 p3])]⟩
theorem Ae.E9.Ar:Ae.E9.L0 N (M+1) n p4 p3=bif (Bb p4 n) then bif (En n n p3 p4 p4) then Ae.E9.L0 N M n (Ab (p4+1)) (List.set p3 (toNat (p4*n+p4)) 4607182418800017408) else none else some (.agg [.int .i64 n,.int .i64 n,.ints .fresh .u64 p3]):=by kernel_rfl
theorem Ae.E9.ev:B0 Ae.E9.E N f95 (Ak f95) [.int .i64 n]=bif (Cg n&&Cg n) then Ae.E9.L0 N N n 0 (Cx (toNat n) (toNat n) (fun _ _=>0)) else none:=by kernel_rfl
end
abbrev _root_.Go.Proofs.S1.Ae.E9.Kn:=A8 prog 95 Ae.E9.spec
theorem Ae.E9.Ad (hk:A2 prog Ae.E9.Bc) (h:Hyp Ae.E9.E f95 Ae.E9.ts Ae.E9.pre Ae.E9.out):Ae.E9.Kn :=
 Am (A5 hk _ _ _) func95 (by kernel_rfl) (by kernel_rfl) h
def Ae.E8.Bc:List (Nat × Entry):=[(30,Ah.E8.spec)]
def Ae.E8.E:Env:=Bi (Be Ae.E8.Bc) (fun _=>false) (fun _=>none) (fun _=>none)
theorem Ae.E8.ev (N:Nat) (r c:Int) (l:List Int) (p q:Int) (m:List Int):B0 Ae.E8.E N f26 (Ak f26) [.agg [.int .i64 r,.int .i64 c,.ints .arg .u64 l],.agg [.int .i64 p,.int .i64 q,.ints .arg .u64 m]]=bif ((!((r==p)&&(c==q)))||(Hz l)) then some (.bool (bif (bif (r==p) then (c==q) else false) then (Ka l m) else false)) else none :=
 Eq.trans (by kernel_rfl)
 (Ax (R6 (r==p)) (Ax (No (r==p)) (Ax (R6 (r==p)) (Ax (No (r==p)) (Ax (Ang (r==p)) (Ax (W5 (r==p)) (Ax (Aqi (r==p) (c==q)) (Ax (Ajs (r==p) (c==q)) (Ax (Aqi (r==p) (c==q)) (Ax (Ajs (r==p) (c==q)) (Cw (A20 _ _ _) (Ax (Auv (r==p) (c==q)) rfl) rfl)))))))))))
abbrev _root_.Go.Proofs.S1.Ae.E8.Kn:=A8 prog 26 Ae.E8.spec
theorem Ae.E8.Ad (hk:A2 prog Ae.E8.Bc) (h:Hyp Ae.E8.E f26 Ae.E8.ts Ae.E8.pre Ae.E8.out):Ae.E8.Kn :=
 Am (A5 hk _ _ _) func26 (by kernel_rfl) (by kernel_rfl) h
def Ae.Ng.Bc:List (Nat × Entry):=[]
def Ae.Ng.E:Env:=Bi (Be Ae.Ng.Bc) (fun _=>false) (fun _=>none) (fun _=>none)
theorem Ae.Ng.ev (N:Nat) (r c:Int) (l:List Int):B0 Ae.Ng.E N f24 (Ak f24) [.agg [.int .i64 r,.int .i64 c,.ints .arg .u64 l]]=bif (decide (0+(length l)≤Ha)) then some (.agg [.int .i64 r,.int .i64 c,.ints (.own 10 43) .u64 ([]++l)]) else none :=
 Eq.trans (by kernel_rfl)
 (Cw (Cy _) rfl rfl)
abbrev _root_.Go.Proofs.S1.Ae.Ng.Kn:=A8 prog 24 Ae.Ng.spec
theorem Ae.Ng.Ad (hk:A2 prog Ae.Ng.Bc) (h:Hyp Ae.Ng.E f24 Ae.Ng.ts Ae.Ng.pre Ae.Ng.out):Ae.Ng.Kn :=
 Am (A5 hk _ _ _) func24 (by kernel_rfl) (by kernel_rfl) h
def Ae.Row.Bc:List (Nat × Entry):=[]
def Ae.Row.E:Env:=Bi (Be Ae.Row.Bc) (fun _=>false) (fun _=>none) (fun _=>none)
theorem Ae.Row.ev (N:Nat) (r c:Int) (l:List Int) (i:Int):B0 Ae.Row.E N f107 (Ak f107) [.agg [.int .i64 r,.int .i64 c,.ints .arg .u64 l],.int .i64 i]=bif (((decide ((0:Int)≤(Ab (i*c))))&&(decide ((Ab (i*c))≤(Ab ((Ab (i+1))*c)))))&&((decide ((0:Int)≤(Ab ((Ab (i+1))*c))))&&(decide ((Ab ((Ab (i+1))*c))≤(length l:Int))))) then some (.ints .arg .u64 (List.drop (toNat (Ab (i*c))) (List.take (toNat (Ab ((Ab (i+1))*c))) l))) else none :=
 Eq.trans (by kernel_rfl)
 (Cw (A0j _ _ _ _) rfl rfl)
abbrev _root_.Go.Proofs.S1.Ae.Row.Kn:=A8 prog 107 Ae.Row.spec
theorem Ae.Row.Ad (hk:A2 prog Ae.Row.Bc) (h:Hyp Ae.Row.E f107 Ae.Row.ts Ae.Row.pre Ae.Row.out):Ae.Row.Kn :=
 Am (A5 hk _ _ _) func107 (by kernel_rfl) (by kernel_rfl) h
def Ae.Pc.hint:Nat→Option Ba
 | 0=>some { keep:=[1,3,7,8],objs:=[(0,7,100007,.ints 43 .u64 [])],boxes:=[3] }
 | _=>none
def Ae.Pc.Bc:List (Nat × Entry):=[(55,Ae.At.spec)]
def Ae.Pc.E:Env:=Bi (Be Ae.Pc.Bc) (fun _=>false) Ae.Pc.hint (fun _=>none)
section
variable (N M:Nat) (r c:Int) (l:List Int) (k f p8:Int) (p7:List Int)
def Ae.Pc.L0:Option DV:=B8 Ae.Pc.E N f22 (Ak f22) [1,1,0,1,0] [] M ⟨Ff 25 [(1,.int .i64 k),(3,.ptr 3 0 0),(7,.oref 100007),(8,.int .i64 p8)],[(3,false,.box [.int .i64 r,.int .i64 c,.ints .arg .u64 l]),(100007,false,.ints 43 .u64 p7)]⟩
theorem Ae.Pc.Ar:Ae.Pc.L0 N (M+1) r c l k p8 p7=bif (Bb p8 r) then bif (En r c l p8 k) then bif (decide ((length p7)+1≤Ha)) then Ae.Pc.L0 N M r c l k (Ab (p8+1)) (p7++[(Fp c l p8 k)]) else none else none else some (.ints (.own 100007 43) .u64 p7):=by kernel_rfl
theorem Ae.Pc.ev:B0 Ae.Pc.E N f22 (Ak f22) [.agg [.int .i64 r,.int .i64 c,.ints .arg .u64 l],.int .i64 k,.int .i64 f] =
 Ae.Pc.L0 N N r c l k f []:=by kernel_rfl
end
abbrev _root_.Go.Proofs.S1.Ae.Pc.Kn:=A8 prog 22 Ae.Pc.spec
theorem Ae.Pc.Ad (hk:A2 prog Ae.Pc.Bc) (h:Hyp Ae.Pc.E f22 Ae.Pc.ts Ae.Pc.pre Ae.Pc.out):Ae.Pc.Kn :=
 Am (A5 hk _ _ _) func22 (by kernel_rfl) (by kernel_rfl) h
def Ae.Mul.hint:Nat→Option Ba
 | 0=>some { keep:=[2,3,4,5,6],objs:=[],boxes:=[2,3,4,5] }
 | 2=>some { keep:=[2,3,4,5,6,7],objs:=[],boxes:=[2,3,4,5] }
 | _=>none
def Ae.Mul.Bc:List (Nat × Entry):=[(141,Ah.H9.spec),(22,Ae.Pc.spec),(107,Ae.Row.spec),(54,Ae.Gk.spec),(53,Ae.Dm.spec)]
def Ae.Mul.E:Env:=Bi (Be Ae.Mul.Bc) (fun _=>false) Ae.Mul.hint (fun _=>none)
section
variable (N M0 M:Nat) (r c:Int) (l:List Int) (p q:Int) (m:List Int) (p7:Int) (p5:List Int) (p6_1 p6:Int) (p5_1:List Int)
def Ae.Mul.L0:Option DV:=B8 Ae.Mul.E N f73 (Ak f73) [1,1,0,1,0] [] M ⟨Ff 37 [(2,.ptr 2 0 0),(3,.ptr 3 0 0),(4,.ptr 4 0 0),(5,.ptr 5 0 0),(6,.int .i64 p6)],[(2,false,.box [.int .i64 r,.int .i64 c,.ints .arg .u64 l]),(3,false,.box [.int .i64 p,.int .i64 q,.ints .arg .u64 m]),(4,false,.box [.int .i64 0,.int .i64 0,.nil]),(5,false,.box [.int .i64 r,.int .i64 q,.ints .fresh .u64 p5_1])]⟩
def Ae.Mul.L1:Option DV:=B8 Ae.Mul.E N f73 (Ak f73) [1,1,0,1,0,0,1,0,0,1,0] [M0] M ⟨Ff 37 [(2,.ptr 2 0 0),(3,.ptr 3 0 0),(4,.ptr 4 0 0),(5,.ptr 5 0 0),(6,.int .i64 p6_1),(7,.int .i64 p7)],[(2,false,.box [.int .i64 r,.int .i64 c,.ints .arg .u64 l]),(3,false,.box [.int .i64 p,.int .i64 q,.ints .arg .u64 m]),(4,false,.box [.int .i64 0,.int .i64 0,.nil]),(5,false,.box [.int .i64 r,.int .i64 q,.ints .fresh .u64 p5])]⟩
theorem Ae.Mul.Ar:Ae.Mul.L0 N (M+1) r c l p q m p6 p5_1=bif (Bb p6 r) then Ae.Mul.L1 N M N r c l p q m 0 p5_1 p6 else some (.agg [.int .i64 r,.int .i64 q,.ints .fresh .u64 p5_1]):=by kernel_rfl
theorem Ae.Mul.Cd:Ae.Mul.L1 N M0 (M+1) r c l p q m p7 p5 p6_1=bif (Bb p7 q) then bif (Uq r c l p6_1) then bif (Fv p q m p7&&B5 (0≤(0:Int)∧(0:Int)≤p)) then bif ((Mb (Lx c l p6_1) (Ci q m p7 0 (toNat (p-0)))&&Al (Lx c l p6_1))&&Al (Ci q m p7 0 (toNat (p-0)))) then bif (En r q p5 p6_1 p7) then Ae.Mul.L1 N M0 M r c l p q m (Ab (p7+1)) (List.set p5 (toNat (p6_1*q+p7)) (Hj (Lx c l p6_1) (Ci q m p7 0 (toNat (p-0))))) p6_1 else none else none else none else none else Ae.Mul.L0 N M0 r c l p q m (Ab (p6_1+1)) p5 :=
 Eq.trans (by kernel_rfl)
 (E1 (Cw (Cy _) (Cw (Cy _) (Cw (Cy _) (Cw (Cy _) rfl rfl) rfl) rfl) rfl) rfl)
theorem Ae.Mul.ev:B0 Ae.Mul.E N f73 (Ak f73) [.agg [.int .i64 r,.int .i64 c,.ints .arg .u64 l],.agg [.int .i64 p,.int .i64 q,.ints .arg .u64 m]]=bif (Cg r&&Cg q) then Ae.Mul.L0 N N r c l p q m 0 (Cx (toNat r) (toNat q) (fun _ _=>0)) else none:=by kernel_rfl
end
abbrev _root_.Go.Proofs.S1.Ae.Mul.Kn:=A8 prog 73 Ae.Mul.spec
theorem Ae.Mul.Ad (hk:A2 prog Ae.Mul.Bc) (h:Hyp Ae.Mul.E f73 Ae.Mul.ts Ae.Mul.pre Ae.Mul.out):Ae.Mul.Kn :=
 Am (A5 hk _ _ _) func73 (by kernel_rfl) (by kernel_rfl) h
def Ae.Db.hint:Nat→Option Ba
 | 0=>some { keep:=[1,2,3,4],objs:=[],boxes:=[1,2,3] }
 | 2=>some { keep:=[1,2,3,4,5],objs:=[],boxes:=[1,2,3] }
 | _=>none
def Ae.Db.Bc:List (Nat × Entry):=[(55,Ae.At.spec),(54,Ae.Gk.spec),(53,Ae.Dm.spec)]
def Ae.Db.E:Env:=Bi (Be Ae.Db.Bc) (fun _=>false) Ae.Db.hint (fun _=>none)
section
variable (N M0 M:Nat) (r c:Int) (l:List Int) (p5:Int) (p3:List Int) (p4_1 p4:Int) (p3_1:List Int)
def Ae.Db.L0:Option DV:=B8 Ae.Db.E N f14 (Ak f14) [1,1,0,1,0] [] M ⟨Ff 32 [(1,.ptr 1 0 0),(2,.ptr 2 0 0),(3,.ptr 3 0 0),(4,.int .i64 p4)],[(1,false,.box [.int .i64 r,.int .i64 c,.ints .arg .u64 l]),(2,false,.box [.int .i64 0,.int .i64 0,.nil]),(3,false,.box [.int .i64 c,.int .i64 r,.ints .fresh .u64 p3_1])]⟩
def Ae.Db.L1:Option DV:=B8 Ae.Db.E N f14 (Ak f14) [1,1,0,1,0,0,1,0,0,1,0] [M0] M ⟨Ff 32 [(1,.ptr 1 0 0),(2,.ptr 2 0 0),(3,.ptr 3 0 0),(4,.int .i64 p4_1),(5,.int .i64 p5)],[(1,false,.box [.int .i64 r,.int .i64 c,.ints .arg .u64 l]),(2,false,.box [.int .i64 0,.int .i64 0,.nil]),(3,false,.box [.int .i64 c,.int .i64 r,.ints .fresh .u64 p3])]⟩
theorem Ae.Db.Ar:Ae.Db.L0 N (M+1) r c l p4 p3_1=bif (Bb p4 r) then Ae.Db.L1 N M N r c l 0 p3_1 p4 else some (.agg [.int .i64 c,.int .i64 r,.ints .fresh .u64 p3_1]):=by kernel_rfl
theorem Ae.Db.Cd:Ae.Db.L1 N M0 (M+1) r c l p5 p3 p4_1=bif (Bb p5 c) then bif (En r c l p4_1 p5) then bif (En c r p3 p5 p4_1) then Ae.Db.L1 N M0 M r c l (Ab (p5+1)) (List.set p3 (toNat (p5*r+p4_1)) (Fp c l p4_1 p5)) p4_1 else none else none else Ae.Db.L0 N M0 r c l (Ab (p4_1+1)) p3 :=
 Eq.trans (by kernel_rfl)
 (E1 (Cw (Cy _) (Cw (Cy _) rfl rfl) rfl) rfl)
theorem Ae.Db.ev:B0 Ae.Db.E N f14 (Ak f14) [.agg [.int .i64 r,.int .i64 c,.ints .arg .u64 l]]=bif (Cg c&&Cg r) then Ae.Db.L0 N N r c l 0 (Cx (toNat c) (toNat r) (fun _ _=>0)) else none:=by kernel_rfl
end
abbrev _root_.Go.Proofs.S1.Ae.Db.Kn:=A8 prog 14 Ae.Db.spec
theorem Ae.Db.Ad (hk:A2 prog Ae.Db.Bc) (h:Hyp Ae.Db.E f14 Ae.Db.ts Ae.Db.pre Ae.Db.out):Ae.Db.Kn :=
 Am (A5 hk _ _ _) func14 (by kernel_rfl) (by kernel_rfl) h
def Ae.Part.hint:Nat→Option Ba
 | 0=>some { keep:=[1,2,3,4,5,10,11,12],objs:=[],boxes:=[5,10,11] }
 | 2=>some { keep:=[1,2,3,4,5,10,11,12,13],objs:=[],boxes:=[5,10,11] }
 | _=>none
def Ae.Part.Bc:List (Nat × Entry):=[(55,Ae.At.spec),(54,Ae.Gk.spec),(53,Ae.Dm.spec)]
def Ae.Part.E:Env:=Bi (Be Ae.Part.Bc) (fun _=>false) Ae.Part.hint (fun _=>none)
section
variable (N M0 M:Nat) (r c:Int) (l:List Int) (x y a b p13:Int) (p11:List Int) (p12_1 p12:Int) (p11_1:List Int)
def Ae.Part.L0:Option DV:=B8 Ae.Part.E N f72 (Ak f72) [1,1,0,1,0] [] M ⟨Ff 40 [(1,.int .i64 x),(2,.int .i64 y),(3,.int .i64 a),(4,.int .i64 b),(5,.ptr 5 0 0),(10,.ptr 10 0 0),(11,.ptr 11 0 0),(12,.int .i64 p12)],[(5,false,.box [.int .i64 r,.int .i64 c,.ints .arg .u64 l]),(10,false,.box [.int .i64 0,.int .i64 0,.nil]),(11,false,.box [.int .i64 a,.int .i64 b,.ints .fresh .u64 p11_1])]⟩
def Ae.Part.L1:Option DV:=B8 Ae.Part.E N f72 (Ak f72) [1,1,0,1,0,0,1,0,0,1,0] [M0] M ⟨Ff 40 [(1,.int .i64 x),(2,.int .i64 y),(3,.int .i64 a),(4,.int .i64 b),(5,.ptr 5 0 0),(10,.ptr 10 0 0),(11,.ptr 11 0 0),(12,.int .i64 p12_1),(13,.int .i64 p13)],[(5,false,.box [.int .i64 r,.int .i64 c,.ints .arg .u64 l]),(10,false,.box [.int .i64 0,.int .i64 0,.nil]),(11,false,.box [.int .i64 a,.int .i64 b,.ints .fresh .u64 p11])]⟩
theorem Ae.Part.Ar:Ae.Part.L0 N (M+1) r c l x y a b p12 p11_1=bif (Bb p12 a) then Ae.Part.L1 N M N r c l x y a b 0 p11_1 p12 else some (.agg [.int .i64 a,.int .i64 b,.ints .fresh .u64 p11_1]):=by kernel_rfl
theorem Ae.Part.Cd:Ae.Part.L1 N M0 (M+1) r c l x y a b p13 p11 p12_1=bif (Bb p13 b) then bif (En r c l (Ab (x+p12_1)) (Ab (y+p13))) then bif (En a b p11 p12_1 p13) then Ae.Part.L1 N M0 M r c l x y a b (Ab (p13+1)) (List.set p11 (toNat (p12_1*b+p13)) (Fp c l (Ab (x+p12_1)) (Ab (y+p13)))) p12_1 else none else none else Ae.Part.L0 N M0 r c l x y a b (Ab (p12_1+1)) p11 :=
 Eq.trans (by kernel_rfl)
 (E1 (Cw (Cy _) (Cw (Cy _) rfl rfl) rfl) rfl)
theorem Ae.Part.ev:B0 Ae.Part.E N f72 (Ak f72) [.agg [.int .i64 r,.int .i64 c,.ints .arg .u64 l],.int .i64 x,.int .i64 y,.int .i64 a,.int .i64 b]=bif (Cg a&&Cg b) then Ae.Part.L0 N N r c l x y a b 0 (Cx (toNat a) (toNat b) (fun _ _=>0)) else none:=by kernel_rfl
end
abbrev _root_.Go.Proofs.S1.Ae.Part.Kn:=A8 prog 72 Ae.Part.spec
theorem Ae.Part.Ad (hk:A2 prog Ae.Part.Bc) (h:Hyp Ae.Part.E f72 Ae.Part.ts Ae.Part.pre Ae.Part.out):Ae.Part.Kn :=
 Am (A5 hk _ _ _) func72 (by kernel_rfl) (by kernel_rfl) h
abbrev _root_.Go.Proofs.S1.Ae.Gk.arg.Kn:Prop:=A8 prog 54 Ae.Gk.arg.spec
abbrev _root_.Go.Proofs.S1.Ae.Dm.arg.Kn:Prop:=A8 prog 53 Ae.Dm.arg.spec
abbrev _root_.Go.Proofs.S1.Ae.E9.arg.Kn:Prop:=A8 prog 95 Ae.E9.arg.spec
end EqRef10
open EqRef10
theorem Ae.Ip.known:Ae.Ip.Kn:=Ae.Ip.Ad .nil fun r c l _=>by
 refine ⟨0,Ae.Ip.out [.i r,.i c,.l l],[],?_,.bool⟩
 have e:(bif (bif (bif (bif (Ex (0:Int) r) then (Ex r (6:Int)) else false) then (Ex (0:Int) c) else false) then (Ex c (6:Int)) else false) then ((length l:Int)==(Ab (r*c))) else false)=A0 r c l:=by
  have:=Ai0 r c l
  have h:(bif (bif (bif (bif (Ex (0:Int) r) then (Ex r (6:Int)) else false) then (Ex (0:Int) c) else false) then (Ex c (6:Int)) else false) then ((length l:Int)==(Ab (r*c))) else false)=!(((!(Cg r))||(!(Cg c)))||((length l:Int) !=(Ab (r*c)))):=by
   unfold Cg bne
   rw [Fk,Fk,Fk,Fk]
   cases decide (0≤r)<;>cases decide (r≤6)<;>cases decide (0≤c)<;>cases decide (c≤6)<;>cases ((length l:Int)==(Ab (r*c)))<;>rfl
  rw [h,this,Bool.not_not]
 rw [Ae.Ip.ev,e]; rfl
theorem Ae.At.known:Ae.At.Kn:=Ae.At.Ad .nil fun r c l i k hp=>by
 obtain ⟨e,h1,h2⟩:=Af4 (R:=r) (show En r c l i k=true from hp)
 refine ⟨0,Ae.At.out [.i r,.i c,.l l,.i i,.i k],[],?_,.int⟩
 rw [Ae.At.ev,e,A4h h1,A4h h2]
 rfl
theorem Uk {drops:List Nat} {i:Nat} {e:TypeId} {a b:Int} {l:List Int} (h:i∈drops):Wk drops (.agg [.int .i64 a,.int .i64 b,.ints (.own i e) .u64 l]) (.agg [.int .i64 a,.int .i64 b,.ints .fresh .u64 l]) :=
 Wk.F7 (.cons .int (.cons .int (.cons (.drop _ _ _ _ h) .nil)))
theorem R8 {drops:List Nat} {a b:Int} {l:List Int}:Wk drops (.agg [.int .i64 a,.int .i64 b,.ints .fresh .u64 l]) (.agg [.int .i64 a,.int .i64 b,.ints .fresh .u64 l]) :=
 Wk.F7 (.cons .int (.cons .int (.cons .Jh .nil)))
theorem Ae.Dm.known:Ae.Dm.Kn:=Ae.Dm.Ad .nil fun a b hp=>by
 obtain ⟨ha,hb⟩:=Ac.1 (show (Cg a&&Cg b)=true from hp)
 obtain ⟨A,rfl,hA⟩:=Gv ha
 obtain ⟨B,rfl,hB⟩:=Gv hb
 have hm:=J2 (a:=(A:Int)) (b:=(B:Int)) (by omega) (by omega) (by omega) (by omega)
 have e:((A:Int)*(B:Int)).toNat=A*B:=by rw [← A41,A4i]
 refine ⟨0,.agg [.int .i64 (A:Int),.int .i64 (B:Int),.ints (.own 10 tB) .u64 (Cx A B fun _ _=>0)],[10],?_,Uk (List.mem_singleton.2 rfl)⟩
 rw [Ae.Dm.ev,An (by omega) (by omega),A4h hm.1,A4h (Int.le_refl _),A4h (show (A:Int)*(B:Int)≤(Ha:Int) by unfold Ha; omega),e,Abg]
 rfl
theorem Ae.Gk.known:Ae.Gk.Kn:=Ae.Gk.Ad .nil fun r c l i k b hp=>by
 obtain ⟨_,_,_,_,_,_,_,h8⟩:=Aq.1 (show En r c l i k=true from hp)
 obtain ⟨e,g1,g2⟩:=Af4 (R:=r) (show En r c l i k=true from hp)
 refine ⟨0,.agg [.int .i64 r,.int .i64 c,.ints (.own 13 tB) .u64 (List.set l (i*c+k).toNat b)],[13],?_,Uk (List.mem_singleton.2 rfl)⟩
 rw [Ae.Gk.ev,e,List.nil_append,A4h (show 0+l.length≤Ha by unfold Ha; omega),A4h g1,A4h g2,A4h (show (i*c+k).toNat<l.length by omega)]
 rfl
theorem Ato {r c i k:Nat} (hk:k<c) {d d':Nat→Nat→Bool} {f:Nat→Nat→Int} {x:Int} (hx:x=f i k)
 (h:∀ a b,a<r→b<c→(d' a b=true↔d a b=true∨(a=i∧b=k))) :
 List.set (Cx r c fun a b=>if d a b=true then f a b else 0) (toNat ((i:Int)*(c:Int)+(k:Int))) x=Cx r c fun a b=>if d' a b=true then f a b else 0:=by
 have e:((i:Int)*(c:Int)+(k:Int)).toNat=i*c+k:=by rw [← A41,← Int.natCast_add,A4i]
 rw [e,Qr hk]
 refine Eu fun a b ha hb=>?_
 have h:=h a b ha hb
 by_cases hab:a=i∧b=k
 ·rw [A43 hab,A43 (h.2 (.inr hab)),hx,hab.1,hab.2]
 ·rw [A42 hab]
  by_cases hd:d a b=true
  ·rw [A43 hd,A43 (h.2 (.inl hd))]
  ·rw [A42 hd,A42 (fun k=>(h.1 k).elim hd hab)]
theorem Ae.Ng.known:Ae.Ng.Kn:=Ae.Ng.Ad .nil fun r c l hp=>by
 have hp:=Aq.1 (show Hz l=true from hp)
 refine ⟨0,.agg [.int .i64 r,.int .i64 c,.ints (.own 10 tB) .u64 l],[10],?_,Uk (List.mem_singleton.2 rfl)⟩
 rw [Ae.Ng.ev,List.nil_append,A4h (show 0+l.length≤Ha by unfold Ha; omega)]
 rfl
theorem Anu (r c:Int) (l:List Int) (p q:Int) (m:List Int):(bif (bif (r==p) then (c==q) else false) then (Ka l m) else false)=Ds r c l p q m:=by
 unfold Ds Ka
 have e1:(r==p)=decide (r=p):=by rw [A4w]; simp
 have e2:(c==q)=decide (c=q):=by rw [A4w]; simp
 rw [e1,e2]
 cases decide (r=p)<;>cases decide (c=q)<;>cases decide (l=m)<;>rfl
theorem Ae.E8.known:Ae.E8.Kn:=Ae.E8.Ad (.cons Ah.E8.known .nil) fun r c l p q m hp=>by
 have hp:Hz l=true:=hp
 refine ⟨0,Ae.E8.out [.i r,.i c,.l l,.i p,.i q,.l m],[],?_,.bool⟩
 rw [Ae.E8.ev,hp,A5s,A4g,Anu]
 rfl
theorem Ae4 (N:Nat) {R C K f:Nat} {l:List Int} (r6:R≤6) (c6:C≤6) (hl:l.length=R*C) (hk:K<C):∀ (k i F:Nat),f+i+k=R→k<F →
 Ae.Pc.L0 N F (R:Int) (C:Int) l (K:Int) ((f+i:Nat):Int) (Ci (C:Int) l (K:Int) (f:Int) i)=some (.ints (.own 100007 tB) .u64 (Ci (C:Int) l (K:Int) (f:Int) (R-f))):=by
 intro k
 induction k with
 | zero =>
   intro i F hi hF
   obtain ⟨F,rfl⟩:∃ G,F=G+1:=⟨F-1,by omega⟩
   rw [Ae.Pc.Ar,Av,A4l (by omega),A4k,show R-f=i by omega]
 | succ k ih =>
   intro i F hi hF
   obtain ⟨F,rfl⟩:∃ G,F=G+1:=⟨F-1,by omega⟩
   have d:decide ((Ci (C:Int) l (K:Int) (f:Int) i).length+1≤Ha)=true:=A4h (by rw [Hn]; unfold Ha; omega)
   rw [Ae.Pc.Ar,Av,A4h (by omega),A4g,Gy r6 c6 hl (show f+i<R by omega) hk,A4g,d,A4g,An (by omega) (by omega)]
   have:=ih (i+1) F (by omega) (by omega)
   unfold Ci at this ⊢
   rw [List.range_succ,List.map_append] at this
   exact this
theorem Ae.Pc.known:Ae.Pc.Kn:=Ae.Pc.Ad (.cons Ae.At.known .nil) fun r c l k f hp=>by
 obtain ⟨h0,hf⟩:=Ac.1 (show (Fv r c l k&&B5 (0≤f∧f≤r))=true from hp)
 have hf:=Aq.1 hf
 obtain ⟨hr,hi⟩:=Ac.1 h0
 have hi:=Aq.1 hi
 obtain ⟨R,C,rfl,rfl,r6,c6,hl⟩:=Co hr
 obtain ⟨K,rfl⟩:∃ j:Nat,k=j:=⟨k.toNat,by omega⟩
 obtain ⟨f,rfl⟩:∃ j:Nat,f=j:=⟨f.toNat,by omega⟩
 refine ⟨8,.ints (.own 100007 tB) .u64 (Ci (C:Int) l (K:Int) (f:Int) (R-f)),[100007],?_,?_⟩
 ·rw [Ae.Pc.ev]
  exact Ae4 8 r6 c6 hl (by omega) (R-f) 0 8 (by omega) (by omega)
 ·show Wk _ _ (DV.ints .fresh .u64 (Ci (C:Int) l (K:Int) (f:Int) (toNat ((R:Int)-(f:Int)))))
  rw [show toNat ((R:Int)-(f:Int))=R-f by omega]
  exact .drop _ _ _ _ (List.mem_singleton.2 rfl)
theorem Ae.Row.known:Ae.Row.Kn:=Ae.Row.Ad .nil fun r c l i hp=>by
 obtain ⟨hr,hi⟩:=Ac.1 (show Uq r c l i=true from hp)
 have hi:=Aq.1 hi
 obtain ⟨R,C,rfl,rfl,r6,c6,hl⟩:=Co hr
 obtain ⟨I,rfl⟩:∃ k:Nat,i=k:=⟨i.toNat,by omega⟩
 have hm:=J2 (a:=(I:Int)) (b:=(C:Int)) (by omega) (by omega) (by omega) (by omega)
 have hm2:=J2 (a:=(I:Int)+1) (b:=(C:Int)) (by omega) (by omega) (by omega) (by omega)
 have hle:(I+1)*C≤R*C:=A4s C (by omega)
 have hle2:I*C≤(I+1)*C:=A4s C (by omega)
 have e1:(I:Int)*(C:Int)=((I*C:Nat):Int):=(A41 _ _).symm
 have e2:((I:Int)+1)*(C:Int)=(((I+1)*C:Nat):Int):=by rw [A41]; rfl
 refine ⟨0,Ae.Row.out [.i (R:Int),.i (C:Int),.l l,.i (I:Int)],[],?_,.N1⟩
 rw [Ae.Row.ev,An (x:=(I:Int)+1) (by omega) (by omega),An (x:=(I:Int)*(C:Int)) (by omega) (by omega),An (x:=((I:Int)+1)*(C:Int)) (by omega) (by omega)]
 have d1:decide ((0:Int)≤(I:Int)*(C:Int))=true:=A4h (by omega)
 have d2:decide ((I:Int)*(C:Int)≤((I:Int)+1)*(C:Int))=true:=A4h (by rw [e1,e2]; omega)
 have d3:decide ((0:Int)≤((I:Int)+1)*(C:Int))=true:=A4h (by omega)
 have d4:decide (((I:Int)+1)*(C:Int)≤(l.length:Int))=true:=A4h (by rw [e2]; omega)
 rw [d1,d2,d3,d4]
 rfl
open EqRef10
def dR (i k a b:Nat):Bool:=decide (a<i∨(a=i∧b<k))
def dC (i k a b:Nat):Bool:=decide (b<i∨(b=i∧a<k))
def fill (r c:Nat) (f:Nat→Nat→Int) (d:Nat→Nat→Bool):List Int:=Cx r c fun a b=>if d a b=true then f a b else 0
theorem M9 (r c:Nat) (f:Nat→Nat→Int) (d:Nat→Nat→Bool):(fill r c f d).length=r*c:=Cl _ _ _
theorem Sr {r c i k:Nat} (hk:k<c) {d d':Nat→Nat→Bool} {f:Nat→Nat→Int} {x:Int} (hx:x=f i k) (h:∀ a b,a<r→b<c→(d' a b=true↔d a b=true∨(a=i∧b=k))) :
 List.set (fill r c f d) (toNat ((i:Int)*(c:Int)+(k:Int))) x=fill r c f d':=Ato hk hx h
theorem Rk {r c:Nat} {f:Nat→Nat→Int} {d d':Nat→Nat→Bool} (h:∀ a b,a<r→b<c→(d a b=true↔d' a b=true)):fill r c f d=fill r c f d':=by
 refine Eu fun a b ha hb=>?_
 have:=h a b ha hb
 by_cases hd:d a b=true
 ·rw [A43 hd,A43 (this.1 hd)]
 ·rw [A42 hd,A42 (fun k=>hd (this.2 k))]
theorem Wp {r c:Nat} {f:Nat→Nat→Int} {d:Nat→Nat→Bool} (h:∀ a b,a<r→b<c→d a b=true):fill r c f d=Cx r c f :=
 Eu fun a b ha hb=>by rw [A43 (h a b ha hb)]
theorem Qt {r c:Nat} {f:Nat→Nat→Int} {d:Nat→Nat→Bool} (h:∀ a b,a<r→b<c→¬ d a b=true):fill r c f d=Cx r c fun _ _=>0 :=
 Eu fun a b ha hb=>by rw [A42 (h a b ha hb)]
theorem Afs.inner (N:Nat) {R C Q:Nat} {l:List Int} {p:Int} {m:List Int} (h6:R≤6∧C≤6∧Q≤6) (hl:l.length=R*C) (hr:A0 (R:Int) (C:Int) l=true) (hm:A0 p (Q:Int) m=true) (ep:p=(C:Int)) (al:Al l=true) (am:Al m=true) {F:Nat→Nat→Int} (hF:F=fun (i j:Nat)=>Hj (Lx (C:Int) l (i:Int)) (Qw p (Q:Int) m (j:Int))) {i:Nat} (hi:i<R):∀ (k j M0 M:Nat),j+k=Q→k<M →
 Ae.Mul.L1 N M0 M (R:Int) (C:Int) l p (Q:Int) m (j:Int) (fill R Q F (dR i j)) (i:Int)=Ae.Mul.L0 N M0 (R:Int) (C:Int) l p (Q:Int) m ((i+1:Nat):Int) (fill R Q F (dR (i+1) 0)):=by
 intro k
 induction k with
 | zero =>
   intro j M0 M hj hM
   obtain ⟨M,rfl⟩:∃ G,M=G+1:=⟨M-1,by omega⟩
   have e:fill R Q F (dR i j)=fill R Q F (dR (i+1) 0):=Rk fun a b ha hb=>by simp only [dR,A4n]; omega
   rw [Ae.Mul.Cd,Av,A4l (by omega),A4k,An (by omega) (by omega),e]
   rfl
 | succ k ih =>
   intro j M0 M hj hM
   obtain ⟨M,rfl⟩:∃ G,M=G+1:=⟨M-1,by omega⟩
   have c1:Uq (R:Int) (C:Int) l (i:Int)=true:=Ac.2 ⟨hr,Aq.2 (by omega)⟩
   have c2:Fv p (Q:Int) m (j:Int)=true:=Ac.2 ⟨hm,Aq.2 (by omega)⟩
   have c3:Mb (Lx (C:Int) l (i:Int)) (Qw p (Q:Int) m (j:Int))=true:=Tv.2 ⟨by rw [Q4 hl hi,ep,Abu],by rw [Q4 hl hi]; omega⟩
   have c9:En (R:Int) (Q:Int) (fill R Q F (dR i j)) (i:Int) (j:Int)=true:=Gy (by omega) (by omega) (M9 _ _ _ _) (by omega) (by omega)
   rw [Ae.Mul.Cd,Av,A4h (by omega),A4g,c1,A4g,c2,Zo (show 0≤p by omega),A4m,A4g,Amt,c3,Al2 al,Amu am,A4m,A4m,A4g,c9,A4g,An (x:=(j:Int)+1) (by omega) (by omega),Sr (d':=dR i (j+1)) (by omega) (by rw [hF]) (fun a b ha hb=>by simp only [dR,A4n]; omega)]
   exact ih (j+1) M0 M (by omega) (by omega)
theorem Afs.outer (N:Nat) (hN:6<N) {R C Q:Nat} {l:List Int} {p:Int} {m:List Int} (h6:R≤6∧C≤6∧Q≤6) (hl:l.length=R*C) (hr:A0 (R:Int) (C:Int) l=true) (hm:A0 p (Q:Int) m=true) (ep:p=(C:Int)) (al:Al l=true) (am:Al m=true) {F:Nat→Nat→Int} (hF:F=fun (i j:Nat)=>Hj (Lx (C:Int) l (i:Int)) (Qw p (Q:Int) m (j:Int))):∀ (k i M:Nat),i+k=R→k<M →
 Ae.Mul.L0 N M (R:Int) (C:Int) l p (Q:Int) m (i:Int) (fill R Q F (dR i 0))=some (.agg [.int .i64 (R:Int),.int .i64 (Q:Int),.ints .fresh .u64 (Cx R Q F)]):=by
 intro k
 induction k with
 | zero =>
   intro i M hi hM
   obtain ⟨M,rfl⟩:∃ G,M=G+1:=⟨M-1,by omega⟩
   rw [Ae.Mul.Ar,Av,A4l (by omega),A4k,Wp (fun a b ha hb=>by simp only [dR,A4n]; omega)]
 | succ k ih =>
   intro i M hi hM
   obtain ⟨M,rfl⟩:∃ G,M=G+1:=⟨M-1,by omega⟩
   have n:=Afs.inner N h6 hl hr hm ep al am hF (show i<R by omega) Q 0 M N (by omega) (by omega)
   rw [Ae.Mul.Ar,Av,A4h (by omega),A4g]
   exact n.trans (ih (i+1) M (by omega) (by omega))
theorem Abl.inner (N:Nat) {r c x y:Int} {l:List Int} {A B:Nat} (h6:A≤6∧B≤6) (hr:A0 r c l=true) (hp:Ia r c x y (A:Int) (B:Int)=true) {F:Nat→Nat→Int} (hF:F=fun (i j:Nat)=>Fp c l (x+(i:Int)) (y+(j:Int))) {i:Nat} (hi:i<A):∀ (k j M0 M:Nat),j+k=B→k<M →
 Ae.Part.L1 N M0 M r c l x y (A:Int) (B:Int) (j:Int) (fill A B F (dR i j)) (i:Int)=Ae.Part.L0 N M0 r c l x y (A:Int) (B:Int) ((i+1:Nat):Int) (fill A B F (dR (i+1) 0)):=by
 intro k
 induction k with
 | zero =>
   intro j M0 M hj hM
   obtain ⟨M,rfl⟩:∃ G,M=G+1:=⟨M-1,by omega⟩
   have e:fill A B F (dR i j)=fill A B F (dR (i+1) 0):=Rk fun a b ha hb=>by simp only [dR,A4n]; omega
   rw [Ae.Part.Cd,Av,A4l (by omega),A4k,An (by omega) (by omega),e]
   rfl
 | succ k ih =>
   intro j M0 M hj hM
   obtain ⟨M,rfl⟩:∃ G,M=G+1:=⟨M-1,by omega⟩
   have hs:=Hx.1 hr
   have hq:=A46 hp
   have c1:En r c l (x+(i:Int)) (y+(j:Int))=true:=Nc hr (by omega) (by omega) (by omega) (by omega) r
   have c9:En (A:Int) (B:Int) (fill A B F (dR i j)) (i:Int) (j:Int)=true:=Gy (by omega) (by omega) (M9 _ _ _ _) (by omega) (by omega)
   rw [Ae.Part.Cd,Av,A4h (by omega),A4g,An (x:=x+(i:Int)) (by omega) (by omega),An (x:=y+(j:Int)) (by omega) (by omega),c1,A4g,c9,A4g,An (x:=(j:Int)+1) (by omega) (by omega),Sr (d':=dR i (j+1)) (by omega) (by rw [hF]) (fun a b ha hb=>by simp only [dR,A4n]; omega)]
   exact ih (j+1) M0 M (by omega) (by omega)
theorem Abl.outer (N:Nat) (hN:6<N) {r c x y:Int} {l:List Int} {A B:Nat} (h6:A≤6∧B≤6) (hr:A0 r c l=true) (hp:Ia r c x y (A:Int) (B:Int)=true) {F:Nat→Nat→Int} (hF:F=fun (i j:Nat)=>Fp c l (x+(i:Int)) (y+(j:Int))):∀ (k i M:Nat),i+k=A→k<M →
 Ae.Part.L0 N M r c l x y (A:Int) (B:Int) (i:Int) (fill A B F (dR i 0))=some (.agg [.int .i64 (A:Int),.int .i64 (B:Int),.ints .fresh .u64 (Cx A B F)]):=by
 intro k
 induction k with
 | zero =>
   intro i M hi hM
   obtain ⟨M,rfl⟩:∃ G,M=G+1:=⟨M-1,by omega⟩
   rw [Ae.Part.Ar,Av,A4l (by omega),A4k,Wp (fun a b ha hb=>by simp only [dR,A4n]; omega)]
 | succ k ih =>
   intro i M hi hM
   obtain ⟨M,rfl⟩:∃ G,M=G+1:=⟨M-1,by omega⟩
   have n:=Abl.inner N h6 hr hp hF (show i<A by omega) B 0 M N (by omega) (by omega)
   rw [Ae.Part.Ar,Av,A4h (by omega),A4g]
   exact n.trans (ih (i+1) M (by omega) (by omega))
theorem Abk.inner (N:Nat) {R C:Nat} {l:List Int} (h6:R≤6∧C≤6) (hl:l.length=R*C) {F:Nat→Nat→Int} (hF:F=fun (i j:Nat)=>Fp (C:Int) l (j:Int) (i:Int)) {i:Nat} (hi:i<R):∀ (k j M0 M:Nat),j+k=C→k<M →
 Ae.Db.L1 N M0 M (R:Int) (C:Int) l (j:Int) (fill C R F (dC i j)) (i:Int)=Ae.Db.L0 N M0 (R:Int) (C:Int) l ((i+1:Nat):Int) (fill C R F (dC (i+1) 0)):=by
 intro k
 induction k with
 | zero =>
   intro j M0 M hj hM
   obtain ⟨M,rfl⟩:∃ G,M=G+1:=⟨M-1,by omega⟩
   have e:fill C R F (dC i j)=fill C R F (dC (i+1) 0):=Rk fun a b ha hb=>by simp only [dC,A4n]; omega
   rw [Ae.Db.Cd,Av,A4l (by omega),A4k,An (by omega) (by omega),e]
   rfl
 | succ k ih =>
   intro j M0 M hj hM
   obtain ⟨M,rfl⟩:∃ G,M=G+1:=⟨M-1,by omega⟩
   have c1:En (R:Int) (C:Int) l (i:Int) (j:Int)=true:=Gy h6.1 h6.2 hl hi (by omega)
   have c9:En (C:Int) (R:Int) (fill C R F (dC i j)) (j:Int) (i:Int)=true:=Gy (by omega) (by omega) (M9 _ _ _ _) (by omega) (by omega)
   rw [Ae.Db.Cd,Av,A4h (by omega),A4g,c1,A4g,c9,A4g,An (x:=(j:Int)+1) (by omega) (by omega),Sr (d':=dC i (j+1)) (by omega) (by rw [hF]) (fun a b ha hb=>by simp only [dC,A4n]; omega)]
   exact ih (j+1) M0 M (by omega) (by omega)
theorem Abk.outer (N:Nat) (hN:6<N) {R C:Nat} {l:List Int} (h6:R≤6∧C≤6) (hl:l.length=R*C) {F:Nat→Nat→Int} (hF:F=fun (i j:Nat)=>Fp (C:Int) l (j:Int) (i:Int)):∀ (k i M:Nat),i+k=R→k<M →
 Ae.Db.L0 N M (R:Int) (C:Int) l (i:Int) (fill C R F (dC i 0))=some (.agg [.int .i64 (C:Int),.int .i64 (R:Int),.ints .fresh .u64 (Cx C R F)]):=by
 intro k
 induction k with
 | zero =>
   intro i M hi hM
   obtain ⟨M,rfl⟩:∃ G,M=G+1:=⟨M-1,by omega⟩
   rw [Ae.Db.Ar,Av,A4l (by omega),A4k,Wp (fun a b ha hb=>by simp only [dC,A4n]; omega)]
 | succ k ih =>
   intro i M hi hM
   obtain ⟨M,rfl⟩:∃ G,M=G+1:=⟨M-1,by omega⟩
   have n:=Abk.inner N h6 hl hF (show i<R by omega) C 0 M N (by omega) (by omega)
   rw [Ae.Db.Ar,Av,A4h (by omega),A4g]
   exact n.trans (ih (i+1) M (by omega) (by omega))
theorem Ae.Db.known:Ae.Db.Kn:=Ae.Db.Ad (.cons Ae.At.known (.cons Ae.Gk.known (.cons Ae.Dm.known .nil))) fun r c l hp=>by
 have hr:A0 r c l=true:=hp
 obtain ⟨R,C,rfl,rfl,r6,c6,hl⟩:=Co hr
 refine ⟨8,.agg [.int .i64 (C:Int),.int .i64 (R:Int),.ints .fresh .u64 (Cx C R fun (i j:Nat)=>Fp (C:Int) l (j:Int) (i:Int))],[],?_,R8⟩
 have n:=Abk.outer 8 (by omega) ⟨r6,c6⟩ hl rfl R 0 8 (by omega) (by omega)
 rw [Qt (fun a b ha hb=>by simp only [dC,A4n]; omega)] at n
 rw [Ae.Db.ev,Lf r6,Lf c6,A4m,A4g,A4i,A4i]
 exact n
theorem Ae.Part.known:Ae.Part.Kn:=Ae.Part.Ad (.cons Ae.At.known (.cons Ae.Gk.known (.cons Ae.Dm.known .nil))) fun r c l x y a b hp=>by
 obtain ⟨hr,hq⟩:=Ac.1 (show (A0 r c l&&Ia r c x y a b)=true from hp)
 obtain ⟨s1,s2⟩:=Aai hr hq
 obtain ⟨A,rfl,hA⟩:=Gv s1
 obtain ⟨B,rfl,hB⟩:=Gv s2
 refine ⟨8,.agg [.int .i64 (A:Int),.int .i64 (B:Int),.ints .fresh .u64 (Cx A B fun (i j:Nat)=>Fp c l (x+(i:Int)) (y+(j:Int)))],[],?_,R8⟩
 have n:=Abl.outer 8 (by omega) ⟨hA,hB⟩ hr hq rfl A 0 8 (by omega) (by omega)
 rw [Qt (fun a b ha hb=>by simp only [dR,A4n]; omega)] at n
 rw [Ae.Part.ev,s1,s2,A4m,A4g,A4i,A4i]
 exact n
theorem Ae.Mul.known:Ae.Mul.Kn:=Ae.Mul.Ad (.cons Ah.H9.known (.cons Ae.Pc.known (.cons Ae.Row.known (.cons Ae.Gk.known (.cons Ae.Dm.known .nil))))) fun r c l p q m hp=>by
 obtain ⟨h1,h2⟩:=Ac.1 (show ((A0 r c l&&A0 p q m)&&((Al l&&Al m)&&decide (c=p)))=true from hp)
 obtain ⟨hr,hm⟩:=Ac.1 h1
 obtain ⟨h3,h4⟩:=Ac.1 h2
 obtain ⟨al,am⟩:=Ac.1 h3
 have ec:=A46 h4
 obtain ⟨R,C,rfl,rfl,r6,c6,hl⟩:=Co hr
 obtain ⟨P,Q,rfl,rfl,p6,q6,_⟩:=Co hm
 refine ⟨8,.agg [.int .i64 (R:Int),.int .i64 (Q:Int),.ints .fresh .u64 (Cx R Q fun (i j:Nat)=>Hj (Lx (C:Int) l (i:Int)) (Qw (P:Int) (Q:Int) m (j:Int)))],[],?_,R8⟩
 have n:=Afs.outer 8 (by omega) ⟨r6,c6,q6⟩ hl hr hm ec.symm al am rfl R 0 8 (by omega) (by omega)
 rw [Qt (fun a b ha hb=>by simp only [dR,A4n]; omega)] at n
 rw [Ae.Mul.ev,Lf r6,Lf q6,A4m,A4g,A4i,A4i]
 exact n
theorem Av6 (N:Nat) {n:Nat} (h6:n≤6):∀ (k i M:Nat),i+k=n→k<M →
 Ae.E9.L0 N M (n:Int) (i:Int) (fill n n (fun (a b:Nat)=>N0 (a:Int) (b:Int)) fun a b=>decide (a=b∧a<i))=some (.agg [.int .i64 (n:Int),.int .i64 (n:Int),.ints .fresh .u64 (Cx n n fun (a b:Nat)=>N0 (a:Int) (b:Int))]):=by
 intro k
 induction k with
 | zero =>
   intro i M hi hM
   obtain ⟨M,rfl⟩:∃ G,M=G+1:=⟨M-1,by omega⟩
   have e:fill n n (fun (a b:Nat)=>N0 (a:Int) (b:Int)) (fun a b=>decide (a=b∧a<i))=Cx n n fun (a b:Nat)=>N0 (a:Int) (b:Int):=by
    refine Eu fun a b ha hb=>?_
    by_cases h:a=b
    ·rw [A43 (A4h ⟨h,by omega⟩)]
    ·rw [A42 (fun k=>h (A46 k).1)]
     unfold N0
     rw [A42 (by omega)]
   rw [Ae.E9.Ar,Av,A4l (by omega),A4k,e]
 | succ k ih =>
   intro i M hi hM
   obtain ⟨M,rfl⟩:∃ G,M=G+1:=⟨M-1,by omega⟩
   have c9:En (n:Int) (n:Int) (fill n n (fun (a b:Nat)=>N0 (a:Int) (b:Int)) fun a b=>decide (a=b∧a<i)) (i:Int) (i:Int)=true:=Gy h6 h6 (M9 _ _ _ _) (by omega) (by omega)
   have one:(4607182418800017408:Int)=(fun (a b:Nat)=>N0 (a:Int) (b:Int)) i i:=(A43 rfl).symm
   rw [Ae.E9.Ar,Av,A4h (by omega),A4g,c9,A4g,An (by omega) (by omega),Sr (d':=fun a b=>decide (a=b∧a<i+1)) (by omega) one (fun a b ha hb=>by simp only [A4n]; omega)]
   exact ih (i+1) M (by omega) (by omega)
theorem Ae.E9.known:Ae.E9.Kn:=Ae.E9.Ad (.cons Ae.Gk.known (.cons Ae.Dm.known .nil)) fun n hp=>by
 have hp:Cg n=true:=hp
 obtain ⟨n,rfl,h6⟩:=Gv hp
 refine ⟨8,.agg [.int .i64 (n:Int),.int .i64 (n:Int),.ints .fresh .u64 (Cx n n fun (a b:Nat)=>N0 (a:Int) (b:Int))],[],?_,R8⟩
 have e:=Av6 8 h6 n 0 8 (by omega) (by omega)
 rw [Qt (fun a b ha hb=>by simp only [A4n]; omega)] at e
 rw [Ae.E9.ev,hp,A4m,A4g,A4i]
 exact e
namespace EqRefA
def Ai.Kc.Bc:List (Nat × Entry):=[]
def Ai.Kc.E:Env:=Bi (Be Ai.Kc.Bc) (fun _=>false) (fun _=>none) (fun _=>none)
theorem Ai.Kc.ev (N:Nat) (l:List Int) (i:Int):B0 Ai.Kc.E N f159 (Ak f159) [.ints .arg .u32 l,.int .i64 i]=bif ((Ex 0 i)&&(Bb i (length l:Int))) then bif ((decide (0≤i))&&(decide (i<(length l:Int)))) then some (.int .u64 (Bq (getD l (toNat i) 0))) else none else some (.int .u64 0) :=
 Eq.trans (by kernel_rfl)
 (Ax (R6 (Ex 0 i)) (Ax (R6 (Ex 0 i)) (Ax (No (Ex 0 i)) (Ax (Ang (Ex 0 i)) (Ax (W5 (Ex 0 i)) (Cw (tt1 _ _) rfl rfl))))))
abbrev _root_.Go.Proofs.S1.Ai.Kc.Kn:=A8 prog 159 Ai.Kc.spec
theorem Ai.Kc.Ad (hk:A2 prog Ai.Kc.Bc) (h:Hyp Ai.Kc.E f159 Ai.Kc.ts Ai.Kc.pre Ai.Kc.out):Ai.Kc.Kn :=
 Am (A5 hk _ _ _) func159 (by kernel_rfl) (by kernel_rfl) h
def Ai.Made.hint:Nat→Option Ba
 | 0=>some { keep:=[0,1,4,5],objs:=[],boxes:=[4] }
 | _=>none
def Ai.Made.Bc:List (Nat × Entry):=[]
def Ai.Made.E:Env:=Bi (Be Ai.Made.Bc) (fun _=>false) Ai.Made.hint (fun _=>none)
section
variable (N M:Nat) (n:Bool) (l:List Int) (p5:Int)
def Ai.Made.L0:Option DV:=B8 Ai.Made.E N f104 (Ak f104) [1,1,0,0] [] M ⟨Ff 28 [(0,.bool n),(1,.ints .arg .u32 l),(4,.ptr 4 0 0),(5,.int .i64 p5)],[(4,false,.box [.bool false,.nil])]⟩
theorem Ai.Made.Ar:Ai.Made.L0 N (M+1) n l p5=bif ((!(Bb 0 p5))||((decide (0≤(Ab (p5-1))))&&(decide ((Ab (p5-1))<(length l:Int))))) then bif ((Bb 0 p5)&&((getD l (toNat (Ab (p5-1))) 0)==(0:Int))) then Ai.Made.L0 N M n l (Ab (p5-1)) else bif (p5==(0:Int)) then some (.agg [.bool false,.nil]) else bif ((decide ((0:Int)≤p5))&&(decide (p5≤(length l:Int)))) then some (.agg [.bool n,.ints .arg .u32 (List.take (toNat p5) l)]) else none else none :=
 Eq.trans (by kernel_rfl)
 (Ax (R6 (Bb 0 p5)) (Ax (R6 (Bb 0 p5)) (Ax (No (Bb 0 p5)) (Cw (A2z _ _ _) (Ax (No (Bb 0 p5)) (Ax (No (Bb 0 p5)) (Ax (W5 (Bb 0 p5)) (Cw (tt1 _ _) rfl (E1 rfl (Cw (J1 _ _) rfl rfl)))))) rfl))))
theorem Ai.Made.ev:B0 Ai.Made.E N f104 (Ak f104) [.bool n,.ints .arg .u32 l] =
 Ai.Made.L0 N N n l (length l:Int):=by kernel_rfl
end
abbrev _root_.Go.Proofs.S1.Ai.Made.Kn:=A8 prog 104 Ai.Made.spec
theorem Ai.Made.Ad (hk:A2 prog Ai.Made.Bc) (h:Hyp Ai.Made.E f104 Ai.Made.ts Ai.Made.pre Ai.Made.out):Ai.Made.Kn :=
 Am (A5 hk _ _ _) func104 (by kernel_rfl) (by kernel_rfl) h
def Ai.Of.Bc:List (Nat × Entry):=[(104,Ai.Made.spec)]
def Ai.Of.E:Env:=Bi (Be Ai.Of.Bc) (fun _=>false) (fun _=>none) (fun _=>none)
theorem Ai.Of.ev (N:Nat) (n:Int):B0 Ai.Of.E N f40 (Ak f40) [.int .i64 n]=bif (Bb n 0) then bif (La [(Lc (Int.tmod (Bq ((Bq (Ab (0-(Ab (n+1)))))+1)) 4294967296)),(Lc (Bq (Int.tdiv (Bq ((Bq (Ab (0-(Ab (n+1)))))+1)) 4294967296)))]) then some (.agg [.bool (Bv (wv true [(Lc (Int.tmod (Bq ((Bq (Ab (0-(Ab (n+1)))))+1)) 4294967296)),(Lc (Bq (Int.tdiv (Bq ((Bq (Ab (0-(Ab (n+1)))))+1)) 4294967296)))])),.ints .arg .u32 (Aw (wv true [(Lc (Int.tmod (Bq ((Bq (Ab (0-(Ab (n+1)))))+1)) 4294967296)),(Lc (Bq (Int.tdiv (Bq ((Bq (Ab (0-(Ab (n+1)))))+1)) 4294967296)))]))]) else none else bif (La [(Lc (Int.tmod n 4294967296)),(Lc (Ab (Int.tdiv n 4294967296)))]) then some (.agg [.bool (Bv (wv false [(Lc (Int.tmod n 4294967296)),(Lc (Ab (Int.tdiv n 4294967296)))])),.ints .arg .u32 (Aw (wv false [(Lc (Int.tmod n 4294967296)),(Lc (Ab (Int.tdiv n 4294967296)))]))]) else none:=by kernel_rfl
abbrev _root_.Go.Proofs.S1.Ai.Of.Kn:=A8 prog 40 Ai.Of.spec
theorem Ai.Of.Ad (hk:A2 prog Ai.Of.Bc) (h:Hyp Ai.Of.E f40 Ai.Of.ts Ai.Of.pre Ai.Of.out):Ai.Of.Kn :=
 Am (A5 hk _ _ _) func40 (by kernel_rfl) (by kernel_rfl) h
def Ai.Jd.hint:Nat→Option Ba
 | 0=>some { keep:=[0,1,5],objs:=[],boxes:=[] }
 | _=>none
def Ai.Jd.Bc:List (Nat × Entry):=[(159,Ai.Kc.spec)]
def Ai.Jd.E:Env:=Bi (Be Ai.Jd.Bc) (fun _=>false) Ai.Jd.hint (fun _=>none)
section
variable (N M:Nat) (a b:List Int) (p5:Int)
def Ai.Jd.L0:Option DV:=B8 Ai.Jd.E N f111 (Ak f111) [1,0,1,0] [] M ⟨Ff 29 [(0,.ints .arg .u32 a),(1,.ints .arg .u32 b),(5,.int .i64 p5)],[]⟩
theorem Ai.Jd.Ar:Ai.Jd.L0 N (M+1) a b p5=bif (Ex 0 p5) then bif (La a) then bif (La b) then bif (Bb (Io a p5) (Io b p5)) then some (.int .i64 (-1:Int)) else bif (La a) then bif (La b) then bif (Bb (Io b p5) (Io a p5)) then some (.int .i64 1) else Ai.Jd.L0 N M a b (Ab (p5-1)) else none else none else none else none else some (.int .i64 0):=by kernel_rfl
theorem Ai.Jd.ev:B0 Ai.Jd.E N f111 (Ak f111) [.ints .arg .u32 a,.ints .arg .u32 b] =
 Ai.Jd.L0 N N a b (max (length a:Int) (length b:Int)):=by kernel_rfl
end
abbrev _root_.Go.Proofs.S1.Ai.Jd.Kn:=A8 prog 111 Ai.Jd.spec
theorem Ai.Jd.Ad (hk:A2 prog Ai.Jd.Bc) (h:Hyp Ai.Jd.E f111 Ai.Jd.ts Ai.Jd.pre Ai.Jd.out):Ai.Jd.Kn :=
 Am (A5 hk _ _ _) func111 (by kernel_rfl) (by kernel_rfl) h
def Ai.plus.hint:Nat→Option Ba
 | 0=>some { keep:=[0,1,5,6,7],objs:=[(0,5,100005,.ints 121 .u32 [])],boxes:=[] }
 | _=>none
def Ai.plus.Bc:List (Nat × Entry):=[(159,Ai.Kc.spec)]
def Ai.plus.E:Env:=Bi (Be Ai.plus.Bc) (fun _=>false) Ai.plus.hint (fun _=>none)
section
variable (N M:Nat) (a b:List Int) (p6 p7:Int) (p5:List Int)
def Ai.plus.L0:Option DV:=B8 Ai.plus.E N f110 (Ak f110) [1,1,1,0,1,0] [] M ⟨Ff 37 [(0,.ints .arg .u32 a),(1,.ints .arg .u32 b),(5,.oref 100005),(6,.int .u64 p6),(7,.int .i64 p7)],[(100005,false,.ints 121 .u32 p5)]⟩
theorem Ai.plus.Ar:Ai.plus.L0 N (M+1) a b p6 p7 p5=bif (Ex p7 (max (length a:Int) (length b:Int))) then bif (La a) then bif (La b) then bif (decide ((length p5)+1≤Ha)) then Ai.plus.L0 N M a b (Bq (Int.tdiv (Bq ((Bq ((Io a p7)+(Io b p7)))+p6)) 4294967296)) (Ab (p7+1)) (p5++[(Lc (Int.tmod (Bq ((Bq ((Io a p7)+(Io b p7)))+p6)) 4294967296))]) else none else none else none else some (.ints (.own 100005 121) .u32 p5):=by kernel_rfl
theorem Ai.plus.ev:B0 Ai.plus.E N f110 (Ak f110) [.ints .arg .u32 a,.ints .arg .u32 b] =
 Ai.plus.L0 N N a b 0 0 []:=by kernel_rfl
end
abbrev _root_.Go.Proofs.S1.Ai.plus.Kn:=A8 prog 110 Ai.plus.spec
theorem Ai.plus.Ad (hk:A2 prog Ai.plus.Bc) (h:Hyp Ai.plus.E f110 Ai.plus.ts Ai.plus.pre Ai.plus.out):Ai.plus.Kn :=
 Am (A5 hk _ _ _) func110 (by kernel_rfl) (by kernel_rfl) h
def Ai.minus.hint:Nat→Option Ba
 | 0=>some { keep:=[0,1,5,6,7],objs:=[(0,5,100005,.ints 121 .u32 [])],boxes:=[] }
 | _=>none
def Ai.minus.Bc:List (Nat × Entry):=[(159,Ai.Kc.spec)]
def Ai.minus.E:Env:=Bi (Be Ai.minus.Bc) (fun _=>false) Ai.minus.hint (fun _=>none)
section
variable (N M:Nat) (a b:List Int) (p6 p7:Int) (p5:List Int)
def Ai.minus.L0:Option DV:=B8 Ai.minus.E N f112 (Ak f112) [1,1,1,0,1,0] [] M ⟨Ff 36 [(0,.ints .arg .u32 a),(1,.ints .arg .u32 b),(5,.oref 100005),(6,.int .u64 p6),(7,.int .i64 p7)],[(100005,false,.ints 121 .u32 p5)]⟩
theorem Ai.minus.Ar:Ai.minus.L0 N (M+1) a b p6 p7 p5=bif (Bb p7 (length a:Int)) then bif (La a) then bif (La b) then bif (decide ((length p5)+1≤Ha)) then Ai.minus.L0 N M a b (Bq ((1:Int)-(Bq (Int.tdiv (Bq ((Bq ((Bq ((4294967296:Int)+(Io a p7)))-(Io b p7)))-p6)) 4294967296)))) (Ab (p7+1)) (p5++[(Lc (Int.tmod (Bq ((Bq ((Bq ((4294967296:Int)+(Io a p7)))-(Io b p7)))-p6)) 4294967296))]) else none else none else none else some (.ints (.own 100005 121) .u32 p5):=by kernel_rfl
theorem Ai.minus.ev:B0 Ai.minus.E N f112 (Ak f112) [.ints .arg .u32 a,.ints .arg .u32 b] =
 Ai.minus.L0 N N a b 0 0 []:=by kernel_rfl
end
abbrev _root_.Go.Proofs.S1.Ai.minus.Kn:=A8 prog 112 Ai.minus.spec
theorem Ai.minus.Ad (hk:A2 prog Ai.minus.Bc) (h:Hyp Ai.minus.E f112 Ai.minus.ts Ai.minus.pre Ai.minus.out):Ai.minus.Kn :=
 Am (A5 hk _ _ _) func112 (by kernel_rfl) (by kernel_rfl) h
def Ai.Add.Bc:List (Nat × Entry):=[(104,Ai.Made.spec),(111,Ai.Jd.spec),(112,Ai.minus.spec),(110,Ai.plus.spec)]
def Ai.Add.E:Env:=Bi (Be Ai.Add.Bc) (fun _=>false) (fun _=>none) (fun _=>none)
theorem Ai.Add.ev (N:Nat) (n:Bool) (a:List Int) (m:Bool) (b:List Int):B0 Ai.Add.E N f48 (Ak f48) [.agg [.bool n,.ints .arg .u32 a],.agg [.bool m,.ints .arg .u32 b]]=bif (n==m) then bif (La a&&La b) then bif (La (Mu a b)) then some (.agg [.bool (Bv (wv n (Mu a b))),.ints .arg .u32 (Aw (wv n (Mu a b)))]) else none else none else bif (La a&&La b) then bif (Bb (X4 (De a) (De b)) 0) then bif ((La b&&La a)&&leL a b) then bif (La (Ju b a)) then some (.agg [.bool (Bv (wv m (Ju b a))),.ints .arg .u32 (Aw (wv m (Ju b a)))]) else none else none else bif ((La a&&La b)&&leL b a) then bif (La (Ju a b)) then some (.agg [.bool (Bv (wv n (Ju a b))),.ints .arg .u32 (Aw (wv n (Ju a b)))]) else none else none else none :=
 Eq.trans (by kernel_rfl)
 (E1 (Cw (Cy _) (Cw (Cy _) rfl rfl) rfl) (E1 (E1 (Cw (Cy _) (Cw (Cy _) rfl rfl) rfl) (Cw (Cy _) (Cw (Cy _) rfl rfl) rfl)) rfl))
abbrev _root_.Go.Proofs.S1.Ai.Add.Kn:=A8 prog 48 Ai.Add.spec
theorem Ai.Add.Ad (hk:A2 prog Ai.Add.Bc) (h:Hyp Ai.Add.E f48 Ai.Add.ts Ai.Add.pre Ai.Add.out):Ai.Add.Kn :=
 Am (A5 hk _ _ _) func48 (by kernel_rfl) (by kernel_rfl) h
def Ai.Neg.Bc:List (Nat × Entry):=[(104,Ai.Made.spec)]
def Ai.Neg.E:Env:=Bi (Be Ai.Neg.Bc) (fun _=>false) (fun _=>none) (fun _=>none)
theorem Ai.Neg.ev (N:Nat) (n:Bool) (a:List Int):B0 Ai.Neg.E N f103 (Ak f103) [.agg [.bool n,.ints .arg .u32 a]]=bif (La a) then some (.agg [.bool (Bv (wv (!n) a)),.ints .arg .u32 (Aw (wv (!n) a))]) else none:=by kernel_rfl
abbrev _root_.Go.Proofs.S1.Ai.Neg.Kn:=A8 prog 103 Ai.Neg.spec
theorem Ai.Neg.Ad (hk:A2 prog Ai.Neg.Bc) (h:Hyp Ai.Neg.E f103 Ai.Neg.ts Ai.Neg.pre Ai.Neg.out):Ai.Neg.Kn :=
 Am (A5 hk _ _ _) func103 (by kernel_rfl) (by kernel_rfl) h
end EqRefA
open EqRefA
theorem Ai.Kc.known:Ai.Kc.Kn:=Ai.Kc.Ad .nil fun l i hp=>by
 obtain ⟨hl,hi⟩:=Mj hp
 refine ⟨0,Ai.Kc.out [.l l,.i i],[],?_,.int⟩
 rw [Ai.Kc.ev,Fk,Av]
 show _=some (DV.int .u64 (Io l i))
 by_cases h0:0≤i
 ·obtain ⟨k,rfl⟩:∃ k:Nat,i=k:=⟨i.toNat,by omega⟩
  have hv:=I8 hi k
  have hg:=Tu hi k
  rw [hv,A4i,hg,A4h h0,A5t]
  by_cases h1:(k:Int)<(l.length:Int)
  ·rw [A4h h1,A4g,A4g,Eh (by omega) (by omega)]
  ·have h2:l.getD k 0=0:=by
    rw [A4q,A5y (by omega)]; rfl
   rw [h2] at hg
   rw [A4l h1,A4k,← hg]
 ·have:Io l i=0:=by unfold Io; rw [A42 h0]
  rw [A4l h0,Bool.false_and,A4k,this]
theorem Agm {drops:List Nat} {b:Bool} {l:List Int}:Wk drops (.agg [.bool b,.ints .arg .u32 l]) (.agg [.bool b,.ints .arg .u32 l]):=Wk.F7 (.cons .bool (.cons .N1 .nil))
theorem Aol:Bv 0=false:=rfl
theorem Ah3:Aw 0=[]:=rfl
theorem Aow (N:Nat) (n:Bool) {l:List Int} (hl:l.length<1073741824) (hi:inL l):∀ (p F:Nat),p≤l.length→p<F→De l<2^(32*p) →
 ∃ dv,Ai.Made.L0 N F n l (p:Int)=some dv∧Wk [] dv (.agg [.bool (Bv (wv n l)),.ints .arg .u32 (Aw (wv n l))]):=by
 have hlast:∀ p,p≤l.length→Ep (De l)=p→p≠0→some (DV.agg [.bool n,.ints .arg .u32 (l.take p)])=some (DV.agg [.bool (Bv (wv n l)),.ints .arg .u32 (Aw (wv n l))]):=by
  intro p hp hq h0
  have h1:=Akw hi
  rw [hq] at h1
  have h2:De l≠0:=fun h=>by rw [h] at hq; exact h0 hq.symm
  have e:(wv n l).natAbs=De l:=by unfold wv Ja; split<;>omega
  have e1:Aw (wv n l)=Sk (De l):=by unfold Aw; rw [e]
  have e2:Bv (wv n l)=n:=by unfold Bv wv Ja; cases n<;>simp<;>omega
  rw [h1,e1,e2]
 intro p
 induction p with
 | zero =>
   intro F hp hF hv
   obtain ⟨F,rfl⟩:∃ G,F=G+1:=⟨F-1,by omega⟩
   have hz:wv n l=0:=by
    have:De l=0:=by rw [Nat.mul_zero,A5e] at hv; omega
    unfold wv Ja; rw [this]; cases n<;>rfl
   refine ⟨.agg [.bool false,.nil],?_,?_⟩
   ·rw [Ai.Made.Ar,Av]; rfl
   ·rw [hz,Aol,Ah3]
    exact Wk.F7 (.cons .bool (.cons (.nil _ _) .nil))
 | succ p ih =>
   intro F hp hF hv
   obtain ⟨F,rfl⟩:∃ G,F=G+1:=⟨F-1,by omega⟩
   rw [Ai.Made.Ar,Av,An (by omega) (by omega)]
   have e0:((p+1:Nat):Int)-1=(p:Int):=by omega
   have t0:decide ((0:Int)<((p+1:Nat):Int))=true:=A4h (by omega)
   have t1:decide ((0:Int)≤(p:Int))=true:=by simp
   have t2:decide ((p:Int)<(l.length:Int))=true:=by simp; omega
   have hg:=Tu hi p
   have hq:De l / 2^(32*p)<4294967296:=by
    rw [Nat.div_lt_iff_lt_mul (Cp _),← Qb]; exact hv
   rw [A4t hq] at hg
   rw [e0,t0,t1,t2,A4i,hg]
   simp only [A5f,A4m,Bool.false_or,A4g,A5t]
   by_cases hz:De l / 2^(32*p)=0
   ·have:(((De l / 2^(32*p):Nat):Int)==0)=true:=by rw [hz]; rfl
    rw [this,A4g]
    refine ih F (by omega) (by omega) ?_
    rcases A5d (De l) (2^(32*p)) with h | h
    ·exact h
    ·have:=Nat.div_pos h (Cp _); omega
   ·have:(((De l / 2^(32*p):Nat):Int)==0)=false:=by simp only [A5b,ne_eq]; omega
    have t3:(((p+1:Nat):Int)==0)=false:=by simp only [A5b,ne_eq]; omega
    have t4:decide (((p+1:Nat):Int)≤(l.length:Int))=true:=by simp; omega
    have t5:decide ((0:Int)≤((p+1:Nat):Int))=true:=A4h (by omega)
    rw [this,A4k,t3,A4k,t4,t5,A4m,A4g,A4i]
    have hlen:Ep (De l)=p+1:=by
     have a1:=Pp hv
     have a2:=Avt (n:=De l) (k:=p) (by
      rcases A5d (De l) (2^(32*p)) with h | h
      ·exact absurd (Nat.div_eq_of_lt h) hz
      ·exact h)
     omega
    exact ⟨_,hlast (p+1) hp hlen (by omega),Agm⟩
theorem Ai.Made.known:Ai.Made.Kn:=Ai.Made.Ad .nil fun n l hp=>by
 obtain ⟨hl,hi⟩:=Mj hp
 obtain ⟨dv,h1,h2⟩:=Aow (l.length+1) n hl hi l.length (l.length+1) (A5a _) (by omega) (Pe hi)
 exact ⟨l.length+1,dv,[],by rw [Ai.Made.ev]; exact h1,h2⟩
theorem Acw {a b:Int} (ha:0≤a∧a<4294967296) (hb:0≤b∧b<4294967296):La [a,b]=true :=
 Px (show 2<1073741824 by decide) fun x hx=>by
  rcases List.mem_cons.1 hx with rfl | hx
  ·exact ha
  ·rcases List.mem_cons.1 hx with rfl | hx
   ·exact hb
   ·cases hx
theorem Amh:(4294967296:Int)=((4294967296:Nat):Int):=rfl
theorem Ai.Of.known:Ai.Of.Kn:=Ai.Of.Ad (.cons Ai.Made.known .nil) fun n hp=>by
 have hp:=Aq.1 hp
 refine ⟨0,Ai.Of.out [.i n],[],?_,Agm⟩
 rw [Ai.Of.ev,Av]
 show _=some (DV.agg [.bool (Bv n),.ints .arg .u32 (Aw n)])
 by_cases h:n<0
 ·obtain ⟨k,rfl⟩:∃ k:Nat,n=-(k:Int):=⟨(-n).toNat,by omega⟩
  have e1:Bq (Bq (Ab (0-Ab (-(k:Int)+1)))+1)=(k:Int):=by
   rw [An (x:=-(k:Int)+1) (by omega) (by omega),An (by omega) (by omega),Eh (x:=0-(-(k:Int)+1)) (by omega) (by omega),Eh (by omega) (by omega)]; omega
  rw [A4h h,A4g,e1,Amh,Ld,Le,Mp (by omega) (by omega),Eh (by omega) (by omega),Mp (by omega) (by omega),
   Acw (by omega) (by omega),A4g]
  have e2:wv true [((k%4294967296:Nat):Int),((k / 4294967296:Nat):Int)]=-(k:Int):=by
   unfold wv Ja De De De
   rw [A43 rfl,A4i,A4i]
   omega
  rw [e2]
 ·obtain ⟨k,rfl⟩:∃ k:Nat,n=(k:Int):=⟨n.toNat,by omega⟩
  rw [A4l h,A4k,Amh,Ld,Le,Mp (by omega) (by omega),An (by omega) (by omega),Mp (by omega) (by omega),
   Acw (by omega) (by omega),A4g]
  have e2:wv false [((k%4294967296:Nat):Int),((k / 4294967296:Nat):Int)]=(k:Int):=by
   unfold wv Ja De De De
   rw [A42 (by decide),A4i,A4i]
   omega
  rw [e2]
theorem Ai.Neg.known:Ai.Neg.Kn:=Ai.Neg.Ad (.cons Ai.Made.known .nil) fun n a hp=>by
 obtain ⟨v,rfl,rfl,hv⟩:=Ko hp
 refine ⟨0,Ai.Neg.out [.b (Bv v),.l (Aw v)],[],?_,Agm⟩
 rw [Ai.Neg.ev,Qi (by omega),A4g,Axk]
 rfl
open EqRefA
theorem Aou (N:Nat) {a b:List Int} (ha:La a=true) (hb:La b=true):∀ (j F:Nat),j<4000000000→j<F→De a / 2^(32*j)=De b / 2^(32*j) →
 Ai.Jd.L0 N F a b ((j:Int)-1)=some (.int .i64 (X4 (De a) (De b))):=by
 have ia:=(Mj ha).2
 have ib:=(Mj hb).2
 intro j
 induction j with
 | zero =>
   intro F hj hF h
   obtain ⟨F,rfl⟩:∃ G,F=G+1:=⟨F-1,by omega⟩
   rw [Nat.mul_zero,A5e,Nat.div_one,Nat.div_one] at h
   have e:X4 (De a) (De b)=0:=by unfold X4; rw [A42 (by omega),A42 (by omega)]
   rw [Ai.Jd.Ar,Fk,e]
   rfl
 | succ j ih =>
   intro F hj hF h
   obtain ⟨F,rfl⟩:∃ G,F=G+1:=⟨F-1,by omega⟩
   have e0:((j+1:Nat):Int)-1=(j:Int):=by omega
   have t0:decide ((0:Int)≤(j:Int))=true:=A4h (by omega)
   rw [Qb,A44,← A49,← A49] at h
   have up:De a / 2^(32*j)<De b / 2^(32*j)→De a<De b:=fun k=>by
    rcases A5d (De a) (De b) with h1 | h1
    ·exact h1
    ·have:=Nat.div_le_div_right (c:=2^(32*j)) h1; omega
   have down:De b / 2^(32*j)<De a / 2^(32*j)→De b<De a:=fun k=>by
    rcases A5d (De b) (De a) with h1 | h1
    ·exact h1
    ·have:=Nat.div_le_div_right (c:=2^(32*j)) h1; omega
   rw [Ai.Jd.Ar,e0,Fk,t0,A4g,ha,hb,A4g,A4g,Av,Av,I8 ia,I8 ib,An (by omega) (by omega)]
   have ih:=ih F (by omega) (by omega)
   generalize De a / 2^(32*j)=x at *
   generalize De b / 2^(32*j)=y at *
   by_cases h1:x%4294967296<y%4294967296
   ·have e:X4 (De a) (De b)=-1:=by unfold X4; rw [A43 (up (by omega))]
    rw [A4h (by omega),A4g,e]
   ·rw [A4l (by omega),A4k]
    by_cases h2:y%4294967296<x%4294967296
    ·have:=down (by omega)
     have e:X4 (De a) (De b)=1:=by unfold X4; rw [A42 (by omega),A43 this]
     rw [A4h (by omega),A4g,e]
     rfl
    ·rw [A4l (by omega),A4k]
     exact ih (by omega)
theorem Amp {l:List Int} (h:inL l) {j:Nat} (hj:l.length≤j):De l / 2^(32*j)=0 :=
 Nat.div_eq_of_lt (A5r (Pe h) (A4v (by decide) (by omega)))
theorem Ai.Jd.known:Ai.Jd.Kn:=Ai.Jd.Ad (.cons Ai.Kc.known .nil) fun a b hp=>by
 obtain ⟨ha,hb⟩:=Ac.1 hp
 obtain ⟨la,ia⟩:=Mj ha
 obtain ⟨lb,ib⟩:=Mj hb
 refine ⟨max a.length b.length+2,Ai.Jd.out [.l a,.l b],[],?_,.int⟩
 rw [Ai.Jd.ev]
 have e:max (a.length:Int) (b.length:Int)=((max a.length b.length+1:Nat):Int)-1:=by omega
 rw [e]
 exact Aou _ ha hb _ _ (by omega) (by omega) (by rw [Amp ia (by omega),Amp ib (by omega)])
theorem Aob (N:Nat) {a b:List Int} (ha:La a=true) (hb:La b=true):∀ (k i c F:Nat),i+k=max a.length b.length+1→k<F→c≤1 →
 De a / 2^(32*i)+De b / 2^(32*i)+c=(De a+De b) / 2^(32*i) →
 Ai.plus.L0 N F a b (c:Int) (i:Int) (digits i (De a+De b))=some (.ints (.own 100005 tW) .u32 (Mu a b)):=by
 obtain ⟨la,ia⟩:=Mj ha
 obtain ⟨lb,ib⟩:=Mj hb
 intro k
 induction k with
 | zero =>
   intro i c F hi hF hc h
   obtain ⟨F,rfl⟩:∃ G,F=G+1:=⟨F-1,by omega⟩
   have t0:decide ((i:Int)≤max (a.length:Int) (b.length:Int))=false:=A4l (by omega)
   rw [Ai.plus.Ar,Fk,t0,A4k]
   unfold Mu
   rw [show i=max a.length b.length+1 by omega]
 | succ k ih =>
   intro i c F hi hF hc h
   obtain ⟨F,rfl⟩:∃ G,F=G+1:=⟨F-1,by omega⟩
   have t0:decide ((i:Int)≤max (a.length:Int) (b.length:Int))=true:=A4h (by omega)
   have t1:decide ((digits i (De a+De b)).length+1≤Ha)=true:=A4h (by rw [Gt]; unfold Ha; omega)
   rw [Ai.plus.Ar,Fk,t0,ha,hb,t1]
   simp only [A4g]
   rw [I8 ia,I8 ib]
   have ih:=ih (i+1)
   rw [Qb,A44 4294967296,← A49,← A49,← A49,Pr] at ih
   generalize De a / 2^(32*i)=x at *
   generalize De b / 2^(32*i)=y at *
   generalize (De a+De b) / 2^(32*i)=z at *
   have e1:Bq (Bq (((x%4294967296:Nat):Int)+((y%4294967296:Nat):Int))+(c:Int))=((x%4294967296+y%4294967296+c:Nat):Int):=by
    rw [Eh (x:=((x%4294967296:Nat):Int)+((y%4294967296:Nat):Int)) (by omega) (by omega),Eh (by omega) (by omega)]; omega
   rw [e1,Amh,Ld,Le,Mp (by omega) (by omega),Eh (by omega) (by omega),An (by omega) (by omega)]
   have e2:(x%4294967296+y%4294967296+c)%4294967296=z%4294967296:=by omega
   rw [e2]
   exact ih ((x%4294967296+y%4294967296+c) / 4294967296) F (by omega) (by omega) (by omega) (by omega)
theorem Al9 {i:Nat} {e:TypeId} {k:IntKind} {l:List Int}:Wk [i] (.ints (.own i e) k l) (.ints .arg k l):=.dropA i e k l (List.mem_singleton.2 rfl)
theorem Ai.plus.known:Ai.plus.Kn:=Ai.plus.Ad (.cons Ai.Kc.known .nil) fun a b hp=>by
 obtain ⟨ha,hb⟩:=Ac.1 hp
 refine ⟨max a.length b.length+2,.ints (.own 100005 tW) .u32 (Mu a b),[100005],?_,Al9⟩
 rw [Ai.plus.ev]
 exact Aob _ ha hb (max a.length b.length+1) 0 0 _ (by omega) (by omega) (by omega) (by simp)
theorem Ako (N:Nat) {a b:List Int} (ha:La a=true) (hb:La b=true):∀ (k i w F:Nat),i+k=a.length→k<F→w≤1 →
 De a / 2^(32*i)=De b / 2^(32*i)+(De a-De b) / 2^(32*i)+w →
 Ai.minus.L0 N F a b (w:Int) (i:Int) (digits i (De a-De b))=some (.ints (.own 100005 tW) .u32 (Ju a b)):=by
 obtain ⟨la,ia⟩:=Mj ha
 obtain ⟨lb,ib⟩:=Mj hb
 intro k
 induction k with
 | zero =>
   intro i c F hi hF hc h
   obtain ⟨F,rfl⟩:∃ G,F=G+1:=⟨F-1,by omega⟩
   have t0:decide ((i:Int)<(a.length:Int))=false:=A4l (by omega)
   rw [Ai.minus.Ar,Av,t0,A4k]
   unfold Ju
   rw [show i=a.length by omega]
 | succ k ih =>
   intro i w F hi hF hc h
   obtain ⟨F,rfl⟩:∃ G,F=G+1:=⟨F-1,by omega⟩
   have t0:decide ((i:Int)<(a.length:Int))=true:=A4h (by omega)
   have t1:decide ((digits i (De a-De b)).length+1≤Ha)=true:=A4h (by rw [Gt]; unfold Ha; omega)
   rw [Ai.minus.Ar,Av,t0,ha,hb,t1]
   simp only [A4g]
   rw [I8 ia,I8 ib]
   have ih:=ih (i+1)
   rw [Qb,A44 4294967296,← A49,← A49,← A49,Pr] at ih
   generalize De a / 2^(32*i)=x at *
   generalize De b / 2^(32*i)=y at *
   generalize (De a-De b) / 2^(32*i)=z at *
   have e1:Bq (Bq (Bq ((4294967296:Int)+((x%4294967296:Nat):Int))-((y%4294967296:Nat):Int))-(w:Int))=((4294967296+x%4294967296-y%4294967296-w:Nat):Int):=by
    rw [Eh (x:=(4294967296:Int)+((x%4294967296:Nat):Int)) (by omega) (by omega),Eh (x:=(4294967296:Int)+((x%4294967296:Nat):Int)-((y%4294967296:Nat):Int)) (by omega) (by omega),Eh (by omega) (by omega)]; omega
   have e2:(4294967296+x%4294967296-y%4294967296-w)%4294967296=z%4294967296:=by omega
   have e3:Bq ((1:Int)-(((4294967296+x%4294967296-y%4294967296-w) / 4294967296:Nat):Int))=((1-(4294967296+x%4294967296-y%4294967296-w) / 4294967296:Nat):Int):=by
    rw [Eh (by omega) (by omega)]; omega
   rw [e1,Amh,Ld,Le,Mp (by omega) (by omega),Eh (x:=(((4294967296+x%4294967296-y%4294967296-w) / 4294967296:Nat):Int)) (by omega) (by omega),An (by omega) (by omega),e2,e3]
   exact ih (1-(4294967296+x%4294967296-y%4294967296-w) / 4294967296) F (by omega) (by omega) (by omega) (by omega)
theorem Ai.minus.known:Ai.minus.Kn:=Ai.minus.Ad (.cons Ai.Kc.known .nil) fun a b hp=>by
 obtain ⟨h1,hle⟩:=Ac.1 hp
 obtain ⟨ha,hb⟩:=Ac.1 h1
 have hle:=Aq.1 hle
 refine ⟨a.length+1,.ints (.own 100005 tW) .u32 (Ju a b),[100005],?_,Al9⟩
 rw [Ai.minus.ev]
 exact Ako _ ha hb a.length 0 0 _ (by omega) (by omega) (by omega) (by simp; omega)
theorem Im (v:Int):inL (Aw v):=Ah2 _
theorem Ap6 {v w:Int} (h:Bv v=Bv w):wv (Bv v) (Mu (Aw v) (Aw w))=v+w:=by
 unfold wv
 rw [Aoc (Im _) (Im _),Et,Et]
 unfold Bv at h ⊢
 unfold Ja
 rw [decide_eq_decide] at h
 by_cases hv:v<0
 ·have hw:=h.1 hv
  rw [A4h hv,A43 rfl]; omega
 ·have hw:¬ w<0:=fun k=>hv (h.2 k)
  rw [A4l hv,A42 (by decide)]; omega
theorem Alo {v w:Int} (h:Bv v≠Bv w) (hl:w.natAbs≤v.natAbs):wv (Bv v) (Ju (Aw v) (Aw w))=v+w:=by
 unfold wv
 rw [Akq _ (Im _),Et,Et]
 unfold Bv at h ⊢
 unfold Ja
 rw [ne_eq,decide_eq_decide] at h
 by_cases hv:v<0
 ·have hw:¬ w<0:=fun k=>h ⟨fun _=>k,fun _=>hv⟩
  rw [A4h hv,A43 rfl]; omega
 ·have hw:w<0:=by
   rcases Int.lt_or_le w 0 with k | k
   ·exact k
   ·exact absurd ⟨fun k'=>absurd k' hv,fun k'=>by omega⟩ h
  rw [A4l hv,A42 (by decide)]; omega
theorem Ai.Add.known:Ai.Add.Kn:=Ai.Add.Ad (.cons Ai.Made.known (.cons Ai.Jd.known (.cons Ai.minus.known (.cons Ai.plus.known .nil)))) fun n a m b hp=>by
 obtain ⟨h1,h2⟩:=Ac.1 hp
 obtain ⟨v,rfl,rfl,hv⟩:=Ko h1
 obtain ⟨w,rfl,rfl,hw⟩:=Ko h2
 refine ⟨0,Ai.Add.out [.b (Bv v),.l (Aw v),.b (Bv w),.l (Aw w)],[],?_,Agm⟩
 have o1:La (Aw v)=true:=Qi (by omega)
 have o2:La (Aw w)=true:=Qi (by omega)
 rw [Ai.Add.ev,o1,o2,A4m,A4g]
 show _=some (DV.agg [.bool (Bv (wv (Bv v) (Aw v)+wv (Bv w) (Aw w))),.ints .arg .u32 (Aw (wv (Bv v) (Aw v)+wv (Bv w) (Aw w)))])
 rw [Jb,Jb]
 by_cases hs:Bv v=Bv w
 ·have:(Bv v==Bv w)=true:=by simp [hs]
  have o3:La (Mu (Aw v) (Aw w))=true:=Px (by rw [Vu,Dq,Dq]; omega) (Ahj _ _)
  rw [this,A4g,o3,A4g,Ap6 hs]
 ·have:(Bv v==Bv w)=false:=by simp [hs]
  rw [this,A4k,A4g,Av,Et,Et,A5t,A5t]
  by_cases hl:v.natAbs<w.natAbs
  ·have e:decide (X4 v.natAbs w.natAbs<0)=true:=A4h (by unfold X4; rw [A43 hl]; decide)
   have o3:La (Ju (Aw w) (Aw v))=true:=Px (by rw [Ud,Dq]; omega) (Adk _ _)
   have o4:leL (Aw v) (Aw w)=true:=Aq.2 (by rw [Et,Et]; omega)
   rw [e,A4g,o4,A4g,o3,A4g,Alo (fun k=>hs k.symm) (by omega),Int.add_comm]
  ·have e:decide (X4 v.natAbs w.natAbs<0)=false:=A4l (by unfold X4; rw [A42 hl]; split<;>decide)
   have o3:La (Ju (Aw v) (Aw w))=true:=Px (by rw [Ud,Dq]; omega) (Adk _ _)
   have o4:leL (Aw w) (Aw v)=true:=Aq.2 (by rw [Et,Et]; omega)
   rw [e,A4k,o4,A4g,o3,A4g,Alo hs (by omega)]
namespace EqRefB
def Ai.Gq.Bc:List (Nat × Entry):=[(104,Ai.Made.spec),(110,Ai.plus.spec)]
def Ai.Gq.E:Env:=Bi (Be Ai.Gq.Bc) (fun _=>false) (fun _=>none) (fun _=>none)
theorem Ai.Gq.ev (N:Nat) (n:Bool) (a:List Int):B0 Ai.Gq.E N f161 (Ak f161) [.agg [.bool n,.ints .arg .u32 a]]=bif (La a&&La a) then bif (La (Mu a a)) then some (.agg [.bool (Bv (wv n (Mu a a))),.ints .arg .u32 (Aw (wv n (Mu a a)))]) else none else none :=
 Eq.trans (by kernel_rfl)
 (Cw (Cy _) (Cw (Cy _) rfl rfl) rfl)
abbrev _root_.Go.Proofs.S1.Ai.Gq.Kn:=A8 prog 161 Ai.Gq.spec
theorem Ai.Gq.Ad (hk:A2 prog Ai.Gq.Bc) (h:Hyp Ai.Gq.E f161 Ai.Gq.ts Ai.Gq.pre Ai.Gq.out):Ai.Gq.Kn :=
 Am (A5 hk _ _ _) func161 (by kernel_rfl) (by kernel_rfl) h
def Ai.Ix.hint:Nat→Option Ba
 | 0=>some { keep:=[1,2,3,4],objs:=[(0,3,100003,.ints 121 .u32 [])],boxes:=[1,2] }
 | _=>none
def Ai.Ix.Bc:List (Nat × Entry):=[(104,Ai.Made.spec),(159,Ai.Kc.spec)]
def Ai.Ix.E:Env:=Bi (Be Ai.Ix.Bc) (fun _=>false) Ai.Ix.hint (fun _=>none)
section
variable (N M:Nat) (n:Bool) (a:List Int) (p4:Int) (p3:List Int)
def Ai.Ix.L0:Option DV:=B8 Ai.Ix.E N f106 (Ak f106) [1,1,0,1,0] [] M ⟨Ff 37 [(1,.ptr 1 0 0),(2,.ptr 2 0 0),(3,.oref 100003),(4,.int .i64 p4)],[(1,false,.box [.bool n,.ints .arg .u32 a]),(2,false,.box [.bool false,.nil]),(100003,false,.ints 121 .u32 p3)]⟩
theorem Ai.Ix.Ar:Ai.Ix.L0 N (M+1) n a p4 p3=bif (Bb p4 (length a:Int)) then bif (La a) then bif (La a) then bif ((decide (0≤p4))&&(decide (p4<(length p3:Int)))) then bif (decide ((toNat p4)<(length p3))) then Ai.Ix.L0 N M n a (Ab (p4+1)) (List.set p3 (toNat p4) (Lc (Bq (Int.tdiv (Bq ((Bq ((Int.tmod (Io a (Ab (p4+1))) 2)*4294967296))+(Io a p4))) 2)))) else none else none else none else none else bif (La p3) then some (.agg [.bool (Bv (wv n p3)),.ints .arg .u32 (Aw (wv n p3))]) else none :=
 Eq.trans (by kernel_rfl)
 (E1 (Cw (Cy _) (Cw (Cy _) (Cw (J1 _ _) (Cw (Cy _) rfl rfl) rfl) rfl) rfl) rfl)
theorem Ai.Ix.ev:B0 Ai.Ix.E N f106 (Ak f106) [.agg [.bool n,.ints .arg .u32 a]]=bif (((decide ((0:Int)≤(length a:Int)))&&(decide ((length a:Int)≤(length a:Int))))&&(decide ((length a:Int)≤Ha))) then Ai.Ix.L0 N N n a 0 (List.replicate (toNat (length a:Int)) 0) else none:=by kernel_rfl
end
abbrev _root_.Go.Proofs.S1.Ai.Ix.Kn:=A8 prog 106 Ai.Ix.spec
theorem Ai.Ix.Ad (hk:A2 prog Ai.Ix.Bc) (h:Hyp Ai.Ix.E f106 Ai.Ix.ts Ai.Ix.pre Ai.Ix.out):Ai.Ix.Kn :=
 Am (A5 hk _ _ _) func106 (by kernel_rfl) (by kernel_rfl) h
def Ai.Bu.hint:Nat→Option Ba
 | 0=>some { keep:=[1,2,4],objs:=[],boxes:=[2,4] }
 | 2=>some { keep:=[1,2,4],objs:=[],boxes:=[2,4] }
 | 4=>some { keep:=[1,2,4],objs:=[],boxes:=[2,4] }
 | 6=>some { keep:=[1,2,4],objs:=[],boxes:=[2,4] }
 | _=>none
def Ai.Bu.Bc:List (Nat × Entry):=[(161,Ai.Gq.spec),(106,Ai.Ix.spec),(104,Ai.Made.spec)]
def Ai.Bu.E:Env:=Bi (Be Ai.Bu.Bc) (fun _=>false) Ai.Bu.hint (fun _=>none)
section
variable (N:Nat) (n:Bool) (a:List Int) (k:Int) (M:Nat) (p1_3:Int) (p2_6:Bool) (p2_7:List Int) (p1_2:Int) (p2_4:Bool) (p2_5:List Int) (p1_1:Int) (p2_2:Bool) (p2_3:List Int) (p1:Int) (p2:Bool) (p2_1:List Int)
def Ai.Bu.L0:Option DV:=B8 Ai.Bu.E N f113 (Ak f113) [1,0,0] [] M ⟨Ff 63 [(1,.int .i64 p1),(2,.ptr 2 0 0),(4,.ptr 4 0 0)],[(2,false,.box [.bool p2,.ints .arg .u32 p2_1]),(4,false,.box [.bool false,.nil])]⟩
def Ai.Bu.L1:Option DV:=B8 Ai.Bu.E N f113 (Ak f113) [1,1,0,0] [] M ⟨Ff 63 [(1,.int .i64 p1_1),(2,.ptr 2 0 0),(4,.ptr 4 0 0)],[(2,false,.box [.bool p2_2,.ints .arg .u32 p2_3]),(4,false,.box [.bool false,.nil])]⟩
def Ai.Bu.L2:Option DV:=B8 Ai.Bu.E N f113 (Ak f113) [1,1,1,0,0] [] M ⟨Ff 63 [(1,.int .i64 p1_2),(2,.ptr 2 0 0),(4,.ptr 4 0 0)],[(2,false,.box [.bool p2_4,.ints .arg .u32 p2_5]),(4,false,.box [.bool false,.nil])]⟩
def Ai.Bu.L3:Option DV:=B8 Ai.Bu.E N f113 (Ak f113) [1,1,1,1,0,0] [] M ⟨Ff 63 [(1,.int .i64 p1_3),(2,.ptr 2 0 0),(4,.ptr 4 0 0)],[(2,false,.box [.bool p2_6,.ints .arg .u32 p2_7]),(4,false,.box [.bool false,.nil])]⟩
theorem Ai.Bu.Ar:Ai.Bu.L0 N (M+1) p1 p2 p2_1=bif ((Ex 32 p1)&&(Bb 0 (length p2_1:Int))) then bif (decide (1+(length p2_1)≤Ha)) then bif (La ([(0:Int)]++p2_1)) then Ai.Bu.L0 N M (Ab (p1-32)) (Bv (wv p2 ([(0:Int)]++p2_1))) (Aw (wv p2 ([(0:Int)]++p2_1))) else none else none else Ai.Bu.L1 N N p1 p2 p2_1 :=
 Eq.trans (by kernel_rfl)
 (Ax (R6 (Ex 32 p1)) (Ax (No (Ex 32 p1)) (Ax (No (Ex 32 p1)) (Ax (No (Ex 32 p1)) (Ax (W5 (Ex 32 p1)) (Cw (tt1 _ _) (Cw (Cy _) (Cw (Cy _) rfl rfl) rfl) rfl))))))
theorem Ai.Bu.Cd:Ai.Bu.L1 N (M+1) p1_1 p2_2 p2_3=bif ((Bb 0 p1_1)&&(Bb 0 (length p2_3:Int))) then bif (N9 p2_2 p2_3) then Ai.Bu.L1 N M (Ab (p1_1-1)) (Bv (2*wv p2_2 p2_3)) (Aw (2*wv p2_2 p2_3)) else none else Ai.Bu.L2 N N p1_1 p2_2 p2_3 :=
 Eq.trans (by kernel_rfl)
 (Ax (R6 (Bb 0 p1_1)) (Ax (No (Bb 0 p1_1)) (Ax (No (Bb 0 p1_1)) (Ax (No (Bb 0 p1_1)) (Ax (W5 (Bb 0 p1_1)) (Cw (tt1 _ _) rfl rfl))))))
theorem Ai.Bu.Lv:Ai.Bu.L2 N (M+1) p1_2 p2_4 p2_5=bif ((Ex p1_2 (-32:Int))&&(Bb 0 (length p2_5:Int))) then bif (decide ((1:Int)≤(length p2_5:Int))) then bif (La (List.drop 1 p2_5)) then Ai.Bu.L2 N M (Ab (p1_2+32)) (Bv (wv p2_4 (List.drop 1 p2_5))) (Aw (wv p2_4 (List.drop 1 p2_5))) else none else none else Ai.Bu.L3 N N p1_2 p2_4 p2_5 :=
 Eq.trans (by kernel_rfl)
 (Ax (R6 (Ex p1_2 (-32:Int))) (Ax (No (Ex p1_2 (-32:Int))) (Ax (No (Ex p1_2 (-32:Int))) (Ax (No (Ex p1_2 (-32:Int))) (Ax (W5 (Ex p1_2 (-32:Int))) (Cw (tt1 _ _) (Cw (A0a _) (Cw (Cy _) rfl rfl) rfl) rfl))))))
theorem Ai.Bu.Agc:Ai.Bu.L3 N (M+1) p1_3 p2_6 p2_7=bif ((Bb p1_3 0)&&(Bb 0 (length p2_7:Int))) then bif (N9 p2_6 p2_7) then Ai.Bu.L3 N M (Ab (p1_3+1)) (Bv (Mh (wv p2_6 p2_7) 1)) (Aw (Mh (wv p2_6 p2_7) 1)) else none else some (.agg [.bool p2_6,.ints .arg .u32 p2_7]) :=
 Eq.trans (by kernel_rfl)
 (Ax (R6 (Bb p1_3 0)) (Ax (No (Bb p1_3 0)) (Ax (No (Bb p1_3 0)) (Ax (No (Bb p1_3 0)) (Ax (W5 (Bb p1_3 0)) (Cw (tt1 _ _) rfl rfl))))))
theorem Ai.Bu.ev:B0 Ai.Bu.E N f113 (Ak f113) [.agg [.bool n,.ints .arg .u32 a],.int .i64 k] =
 Ai.Bu.L0 N N k n a:=by kernel_rfl
end
abbrev _root_.Go.Proofs.S1.Ai.Bu.Kn:=A8 prog 113 Ai.Bu.spec
theorem Ai.Bu.Ad (hk:A2 prog Ai.Bu.Bc) (h:Hyp Ai.Bu.E f113 Ai.Bu.ts Ai.Bu.pre Ai.Bu.out):Ai.Bu.Kn :=
 Am (A5 hk _ _ _) func113 (by kernel_rfl) (by kernel_rfl) h
def Ai.R0.hint:Nat→Option Ba
 | 0=>some { keep:=[3,4],objs:=[],boxes:=[] }
 | _=>none
def Ai.R0.Bc:List (Nat × Entry):=[]
def Ai.R0.E:Env:=Bi (Be Ai.R0.Bc) (fun _=>false) Ai.R0.hint (fun _=>none)
def Ai.R0.L0 (N M:Nat) (p3 p4:Int):Option DV:=B8 Ai.R0.E N f160 (Ak f160) [1,1,1,0,1,0] [] M ⟨Ff 29 [(3,.int .i64 p3),(4,.int .u32 p4)],[]⟩
theorem Ai.R0.Ar (N M:Nat) (p3 p4:Int):Ai.R0.L0 N (M+1) p3 p4=bif (Bb 0 p4) then Ai.R0.L0 N M (Ab (p3+1)) (Lc (Int.tdiv p4 2)) else some (.int .i64 p3):=by kernel_rfl
theorem Ai.R0.ev (N:Nat) (n:Bool) (a:List Int):B0 Ai.R0.E N f160 (Ak f160) [.agg [.bool n,.ints .arg .u32 a]]=bif ((length a:Int)==(0:Int)) then some (.int .i64 0) else bif ((decide (0≤(Ab ((length a:Int)-1))))&&(decide ((Ab ((length a:Int)-1))<(length a:Int)))) then Ai.R0.L0 N N (Ab ((32:Int)*(Ab ((length a:Int)-1)))) (getD a (toNat (Ab ((length a:Int)-1))) 0) else none:=by kernel_rfl
abbrev _root_.Go.Proofs.S1.Ai.R0.Kn:=A8 prog 160 Ai.R0.spec
theorem Ai.R0.Ad (hk:A2 prog Ai.R0.Bc) (h:Hyp Ai.R0.E f160 Ai.R0.ts Ai.R0.pre Ai.R0.out):Ai.R0.Kn :=
 Am (A5 hk _ _ _) func160 (by kernel_rfl) (by kernel_rfl) h
def Ai.Ya.Bc:List (Nat × Entry):=[]
def Ai.Ya.E:Env:=Bi (Be Ai.Ya.Bc) (fun _=>false) (fun _=>none) (fun _=>none)
theorem Ai.Ya.ev (N:Nat) (n:Bool) (a:List Int):B0 Ai.Ya.E N f105 (Ak f105) [.agg [.bool n,.ints .arg .u32 a]]=bif ((!(Bb 0 (length a:Int)))||(decide ((0:Int)<(length a:Int)))) then some (.bool (bif (Bb 0 (length a:Int)) then ((Int.tmod (getD a 0 0) 2)==(1:Int)) else false)) else none :=
 Eq.trans (by kernel_rfl)
 (Ax (R6 (Bb 0 (length a:Int))) (Ax (No (Bb 0 (length a:Int))) (Cw (A2y _ _) (Ax (No (Bb 0 (length a:Int))) (Ax (No (Bb 0 (length a:Int))) (Ax (No (Bb 0 (length a:Int))) (Ax (W5 (Bb 0 (length a:Int))) rfl)))) rfl)))
abbrev _root_.Go.Proofs.S1.Ai.Ya.Kn:=A8 prog 105 Ai.Ya.spec
theorem Ai.Ya.Ad (hk:A2 prog Ai.Ya.Bc) (h:Hyp Ai.Ya.E f105 Ai.Ya.ts Ai.Ya.pre Ai.Ya.out):Ai.Ya.Kn :=
 Am (A5 hk _ _ _) func105 (by kernel_rfl) (by kernel_rfl) h
end EqRefB
open EqRefB
theorem Ai.Gq.known:Ai.Gq.Kn:=Ai.Gq.Ad (.cons Ai.Made.known (.cons Ai.plus.known .nil)) fun n a hp=>by
 obtain ⟨v,rfl,rfl,hv⟩:=Ko hp
 refine ⟨0,Ai.Gq.out [.b (Bv v),.l (Aw v)],[],?_,Agm⟩
 have o1:La (Aw v)=true:=Qi (by omega)
 have o3:La (Mu (Aw v) (Aw v))=true:=Px (by rw [Vu,Dq]; omega) (Ahj _ _)
 rw [Ai.Gq.ev,o1,o3,A4m,A4g,A4g,Ap6 rfl]
 show _=some (DV.agg [.bool (Bv (2*wv (Bv v) (Aw v))),.ints .arg .u32 (Aw (2*wv (Bv v) (Aw v)))])
 rw [Jb,Int.two_mul]
theorem Aya (l:List Int) (y x:Int) (r:List Int):∀ i,i=l.length→(l++y::r).set i x=l++x::r:=by
 induction l with
 | nil=>intro i h; subst h; rfl
 | cons z l ih =>
   intro i h
   obtain ⟨j,rfl⟩:∃ j,i=j+1:=⟨i-1,by rw [List.length_cons] at h; omega⟩
   show z::(l++y::r).set j x=z::(l++x::r)
   rw [ih j (by rw [List.length_cons] at h; omega)]
theorem Ao9 (N:Nat) {v:Int} (hv:Ep v.natAbs<268435456):∀ (k i F:Nat),i+k=Ep v.natAbs→k<F →
 Ai.Ix.L0 N F (Bv v) (Aw v) (i:Int) (digits i (v.natAbs / 2)++List.replicate k 0)=some (.agg [.bool (Bv (Mh v 1)),.ints .arg .u32 (Aw (Mh v 1))]):=by
 have o1:La (Aw v)=true:=Qi (by omega)
 have ia:=Im v
 intro k
 induction k with
 | zero =>
   intro i F hi hF
   obtain ⟨F,rfl⟩:∃ G,F=G+1:=⟨F-1,by omega⟩
   have t0:decide ((i:Int)<((Aw v).length:Int))=false:=A4l (by rw [Dq]; omega)
   rw [List.replicate_zero,List.append_nil,Ai.Ix.Ar,Av,t0,A4k]
   have o3:La (digits i (v.natAbs / 2))=true:=Px (by rw [Gt]; omega) (Qu _ _)
   have e:wv (Bv v) (digits i (v.natAbs / 2))=Mh v 1:=by
    unfold wv Mh
    rw [Mq,A4t,Nat.pow_one]
    have:=Ny v.natAbs
    rw [show i=Ep v.natAbs by omega]
    exact A5i (Nat.div_le_self _ _) this
   rw [o3,A4g,e]
 | succ k ih =>
   intro i F hi hF
   obtain ⟨F,rfl⟩:∃ G,F=G+1:=⟨F-1,by omega⟩
   have hlen:(digits i (v.natAbs / 2)++List.replicate (k+1) (0:Int)).length=i+(k+1):=by rw [A48,Gt,List.length_replicate]
   have t0:decide ((i:Int)<((Aw v).length:Int))=true:=A4h (by rw [Dq]; omega)
   have t1:decide ((0:Int)≤(i:Int))=true:=A4h (by omega)
   have t2:decide ((i:Int)<((digits i (v.natAbs / 2)++List.replicate (k+1) (0:Int)).length:Int))=true:=A4h (by rw [hlen]; omega)
   have t3:decide (i<(digits i (v.natAbs / 2)++List.replicate (k+1) (0:Int)).length)=true:=A4h (by rw [hlen]; omega)
   have e0:Ab ((i:Int)+1)=((i+1:Nat):Int):=by rw [An (by omega) (by omega)]; omega
   rw [Ai.Ix.Ar,Av,t0,o1,A4i,t1,t2,t3,A4m]
   simp only [A4g]
   rw [e0,I8 ia,I8 ia,Et]
   have ih:=ih (i+1) F (by omega) (by omega)
   rw [Pr,A49,A44 2,← A49] at ih
   rw [Qb,A44 4294967296,← A49,List.replicate_succ,Aya _ _ _ _ i (Gt _ _).symm]
   rw [List.append_assoc] at ih
   generalize v.natAbs / 2^(32*i)=x at *
   have e1:Int.tmod ((x / 4294967296%4294967296:Nat):Int) 2=((x / 4294967296%4294967296%2:Nat):Int):=Ld _ 2
   have e2:Bq (Bq (((x / 4294967296%4294967296%2:Nat):Int)*4294967296)+((x%4294967296:Nat):Int))=((x / 4294967296%4294967296%2*4294967296+x%4294967296:Nat):Int):=by
    rw [Eh (x:=((x / 4294967296%4294967296%2:Nat):Int)*4294967296) (by omega) (by omega),Eh (by omega) (by omega)]; omega
   have e3:Int.tdiv ((x / 4294967296%4294967296%2*4294967296+x%4294967296:Nat):Int) 2=(((x / 4294967296%4294967296%2*4294967296+x%4294967296) / 2:Nat):Int):=Le _ 2
   have e4:(x / 4294967296%4294967296%2*4294967296+x%4294967296) / 2=x / 2%4294967296:=by omega
   rw [e1,e2,e3,e4,Eh (by omega) (by omega),Mp (by omega) (by omega)]
   exact ih
theorem Ai.Ix.known:Ai.Ix.Kn:=Ai.Ix.Ad (.cons Ai.Made.known (.cons Ai.Kc.known .nil)) fun n a hp=>by
 obtain ⟨v,rfl,rfl,hv⟩:=Ko hp
 refine ⟨Ep v.natAbs+1,Ai.Ix.out [.b (Bv v),.l (Aw v)],[],?_,Agm⟩
 show _=some (DV.agg [.bool (Bv (Mh (wv (Bv v) (Aw v)) 1)),.ints .arg .u32 (Aw (Mh (wv (Bv v) (Aw v)) 1))])
 rw [Ai.Ix.ev,Jb,Dq,A4h (by omega),A4h (by omega),A4h (by unfold Ha; omega),A4m,A4m,A4g,A4i]
 have h:=Ao9 (Ep v.natAbs+1) hv (Ep v.natAbs) 0 (Ep v.natAbs+1) (by omega) (by omega)
 rw [digits,List.nil_append] at h
 exact h
def Ajl (v:Int):Option DV:=some (.agg [.bool (Bv v),.ints .arg .u32 (Aw v)])
theorem Wl (v:Int):Bb (0:Int) ((Aw v).length:Int)=decide (v≠0):=by
 rw [Av,Dq,decide_eq_decide]
 constructor
 ·intro h e
  rw [e] at h
  exact absurd h (by decide)
 ·intro h
  have:=Ki (n:=v.natAbs) (by omega)
  omega
theorem Ax4 (N:Nat):∀ (j F:Nat) (v:Int),j<F→j<2000000→Ep v.natAbs<268435456→Ai.Bu.L3 N F (-(j:Int)) (Bv v) (Aw v)=Ajl (Mh v j):=by
 intro j
 induction j with
 | zero =>
   intro F v hF _ hv
   obtain ⟨F,rfl⟩:∃ G,F=G+1:=⟨F-1,by omega⟩
   rw [Ai.Bu.Agc,Av,A4l (by omega),Bool.false_and,A4k,Ag3]
   rfl
 | succ j ih =>
   intro F v hF hj hv
   obtain ⟨F,rfl⟩:∃ G,F=G+1:=⟨F-1,by omega⟩
   rw [Ai.Bu.Agc,Av,A4h (by omega),A5t,Wl]
   by_cases h0:v=0
   ·rw [A4l (by omega),A4k,h0,Td]
    rfl
   ·rw [A4h h0,A4g,Ku hv,A4g,Jb,An (by omega) (by omega)]
    have e:-((j+1:Nat):Int)+1=-(j:Int):=by omega
    have hl:Ep (Mh v 1).natAbs<268435456:=by
     rw [Ns]
     exact A5i (Ob (Nat.div_le_self _ _)) hv
    rw [e,ih F (Mh v 1) (by omega) (by omega) hl,Aew,Nat.add_comm]
theorem Aln (v:Int):wv (Bv v) ((Aw v).drop 1)=Mh v 32:=by
 unfold wv Mh
 rw [Ana (Im v),Et,two32]
theorem Ax5 (N:Nat):∀ (F j:Nat) (v:Int),j<F→j<N→j<2000000→Ep v.natAbs<268435456→Ai.Bu.L2 N F (-(j:Int)) (Bv v) (Aw v)=Ajl (Mh v j):=by
 intro F
 induction F with
 | zero=>intro j v h; omega
 | succ F ih =>
   intro j v hF hN hj hv
   rw [Ai.Bu.Lv,Fk,Wl]
   by_cases hc:32≤j∧v≠0
   ·have o3:La ((Aw v).drop 1)=true:=Px (by rw [List.length_drop,Dq]; omega) (Aie (Im v))
    have t1:decide ((1:Int)≤((Aw v).length:Int))=true:=A4h (by
     rw [Dq]
     have:=Ki (n:=v.natAbs) (by omega)
     omega)
    have hl:Ep (Mh v 32).natAbs<268435456:=by
     rw [Ns]
     exact A5i (Ob (Nat.div_le_self _ _)) hv
    rw [A4h (by omega),A4h hc.2,A4m,A4g,t1,A4g,o3,A4g,Aln,An (by omega) (by omega)]
    have e:-(j:Int)+32=-((j-32:Nat):Int):=by omega
    rw [e,ih (j-32) (Mh v 32) (by omega) (by omega) (by omega) hl,Aew]
    congr 2
    omega
   ·have:(decide (-(j:Int)≤-32)&&decide (v≠0))=false:=by
     rw [Bool.and_eq_false_iff,A4z,A4z]
     omega
    rw [this,A4k]
    exact Ax4 N j N v hN hj hv
theorem Yh (N F:Nat) {k:Int} (hk:0≤k) (hN:0<N) (v:Int):Ai.Bu.L2 N (F+1) k (Bv v) (Aw v)=Ajl v:=by
 obtain ⟨M,rfl⟩:∃ M,N=M+1:=⟨N-1,by omega⟩
 rw [Ai.Bu.Lv,Fk,A4l (by omega),Bool.false_and,A4k,Ai.Bu.Agc,Av,A4l (by omega),Bool.false_and,A4k]
 rfl
theorem Ax6 (N:Nat) (hN:0<N):∀ (j F:Nat) (v:Int),j<F→j<2000000→Ep v.natAbs+j<268435456→Ai.Bu.L1 N F (j:Int) (Bv v) (Aw v)=Ajl (v*((2^j:Nat):Int)):=by
 obtain ⟨M,rfl⟩:∃ M,N=M+1:=⟨N-1,by omega⟩
 intro j
 induction j with
 | zero =>
   intro F v hF _ hv
   obtain ⟨F,rfl⟩:∃ G,F=G+1:=⟨F-1,by omega⟩
   rw [Ai.Bu.Cd,Av,A4l (by omega),Bool.false_and,A4k,Yh _ _ (by omega) (by omega),A5e]
   congr 1
   omega
 | succ j ih =>
   intro F v hF hj hv
   obtain ⟨F,rfl⟩:∃ G,F=G+1:=⟨F-1,by omega⟩
   rw [Ai.Bu.Cd,Av,A4h (by omega),A5t,Wl]
   by_cases h0:v=0
   ·rw [A4l (by omega),A4k,h0,Int.zero_mul,Yh _ _ (by omega) (by omega)]
   ·have hl:=Asn v.natAbs
    have e2:(2*v).natAbs=2*v.natAbs:=by omega
    have e:((j+1:Nat):Int)-1=(j:Int):=by omega
    rw [A4h h0,A4g,Ku (by omega),A4g,Jb,An (by omega) (by omega),e,ih F (2*v) (by omega) (by omega) (by rw [e2]; omega)]
    congr 1
    rw [Nat.pow_succ,A41,Int.mul_comm 2 v,Int.mul_assoc,Int.mul_comm ((2^j:Nat):Int)]
    rfl
theorem Azi (v:Int):wv (Bv v) ([(0:Int)]++Aw v)=v*((2^32:Nat):Int):=by
 have e:De ([(0:Int)]++Aw v)=4294967296*v.natAbs:=by
  show De (0::Aw v)=_
  rw [De,Et]
  exact A5q _
 unfold wv
 rw [e,two32]
 by_cases h:v<0
 ·rw [Vo h]; omega
 ·rw [Vn h]; omega
theorem Ax7 (N:Nat):∀ (F j:Nat) (v:Int),j<F→j<N→j<2000000→Ep v.natAbs+j<268435456→Ai.Bu.L0 N F (j:Int) (Bv v) (Aw v)=Ajl (v*((2^j:Nat):Int)):=by
 intro F
 induction F with
 | zero=>intro j v h; omega
 | succ F ih =>
   intro j v hF hN hj hv
   rw [Ai.Bu.Ar,Fk,Wl]
   by_cases hc:32≤j∧v≠0
   ·have o3:La ([(0:Int)]++Aw v)=true:=Px (by rw [A48,Dq]; show 1+_<_; omega) (Asz (Im v))
    have t1:decide (1+(Aw v).length≤Ha)=true:=A4h (by rw [Dq]; unfold Ha; omega)
    have e2:(v*((2^32:Nat):Int)).natAbs=v.natAbs*4294967296:=by rw [Int.natAbs_mul,Int.natAbs_natCast,two32]
    have hl:=Avs v.natAbs
    rw [A4h (by omega),A4h hc.2,A4m,A4g,t1,A4g,o3,A4g,Azi,An (by omega) (by omega)]
    have e:(j:Int)-32=((j-32:Nat):Int):=by omega
    rw [e,ih (j-32) _ (by omega) (by omega) (by omega) (by rw [e2]; omega)]
    have e3:2^j=2^32*2^(j-32):=by rw [← A45]; congr 1; omega
    rw [e3,A41,Int.mul_assoc]
   ·have:(decide ((32:Int)≤(j:Int))&&decide (v≠0))=false:=by
     rw [Bool.and_eq_false_iff,A4z,A4z]
     omega
    rw [this,A4k]
    exact Ax6 N (by omega) j N v hN hj hv
theorem Aj0 (N j:Nat) (v:Int) (hj:0<j) (hN:j<N) (hj2:j<2000000) (hv:Ep v.natAbs<268435456):Ai.Bu.L0 N N (-(j:Int)) (Bv v) (Aw v)=Ajl (Mh v j):=by
 obtain ⟨M,rfl⟩:∃ M,N=M+1:=⟨N-1,by omega⟩
 rw [Ai.Bu.Ar,Fk,A4l (by omega),Bool.false_and,A4k,Ai.Bu.Cd,Av,A4l (by omega),Bool.false_and,A4k]
 exact Ax5 _ _ j v hN hN hj2 hv
theorem Ai.Bu.known:Ai.Bu.Kn:=Ai.Bu.Ad (.cons Ai.Gq.known (.cons Ai.Ix.known (.cons Ai.Made.known .nil))) fun n a k hp=>by
 obtain ⟨h1,h2⟩:=Ac.1 hp
 obtain ⟨v,rfl,rfl,hv⟩:=Rc h1
 have h2:=Aq.1 h2
 refine ⟨k.natAbs+1,Ai.Bu.out [.b (Bv v),.l (Aw v),.i k],[],?_,Agm⟩
 show _=some (DV.agg [.bool (Bv (Jm (wv (Bv v) (Aw v)) k)),.ints .arg .u32 (Aw (Jm (wv (Bv v) (Aw v)) k))])
 rw [Ai.Bu.ev,Jb]
 unfold Jm
 by_cases h:0≤k
 ·obtain ⟨j,rfl⟩:∃ j:Nat,k=j:=⟨k.toNat,by omega⟩
  rw [A43 h,A4i,Int.natAbs_natCast]
  exact Ax7 _ _ j v (by omega) (by omega) (by omega) (by omega)
 ·obtain ⟨j,rfl⟩:∃ j:Nat,k=-(j:Int):=⟨(-k).toNat,by omega⟩
  have e:(-(-(j:Int))).toNat=j:=by omega
  rw [A42 h,e,Int.natAbs_neg,Int.natAbs_natCast]
  exact Aj0 _ j v (by omega) (by omega) (by omega) (by omega)
open EqRefB
theorem Ao1 {t:Nat} (h:2≤t):(t / 2).log2+1=t.log2:=by
 have:=Ah0 (n:=t) (m:=1) (by omega)
 rw [Nat.pow_one] at this
 exact this
theorem Asm (N:Nat):∀ (F:Nat) (t:Nat) (p:Int),t<2^32→0<t→t.log2+1<F→-1000≤p→p+t.log2<4611686018427387904 →
 Ai.R0.L0 N F p (t:Int)=some (.int .i64 (p+t.log2+1)):=by
 intro F
 induction F with
 | zero=>intro t p _ _ h; omega
 | succ F ih =>
   intro t p ht h0 hF hp1 hp2
   have e2:Int.tdiv (t:Int) 2=((t / 2:Nat):Int):=Le t 2
   rw [two32] at ht
   rw [Ai.R0.Ar,Av,A4h (by omega),A4g,e2,Mp (by omega) (by omega),An (by omega) (by omega)]
   by_cases h1:t=1
   ·subst h1
    obtain ⟨G,rfl⟩:∃ G,F=G+1:=⟨F-1,by omega⟩
    rw [Ai.R0.Ar,Av,A4l (by decide),A4k]
    have:(1:Nat).log2=0:=by decide
    rw [this]
    congr 2
    omega
   ·have hl:=Ao1 (t:=t) (by omega)
    rw [ih (t / 2) (p+1) (by rw [two32]; omega) (by omega) (by omega) (by omega) (by omega)]
    congr 2
    omega
theorem Ai.R0.known:Ai.R0.Kn:=Ai.R0.Ad .nil fun n a hp=>by
 obtain ⟨v,rfl,rfl,hv⟩:=Ko hp
 refine ⟨40,Ai.R0.out [.b (Bv v),.l (Aw v)],[],?_,.int⟩
 show _=some (DV.int .i64 (Aa5 (wv (Bv v) (Aw v))))
 rw [Ai.R0.ev,Jb,Dq]
 unfold Aa5
 by_cases h0:v=0
 ·rw [A43 h0,h0]; rfl
 ·have hn:v.natAbs≠0:=by omega
  have hl:=Ki hn
  have e0:((Ep v.natAbs:Int)==0)=false:=by simp only [A5b,ne_eq]; omega
  have e1:(Ep v.natAbs:Int)-1=((Ep v.natAbs-1:Nat):Int):=by omega
  have hlen:Ep v.natAbs=v.natAbs.log2 / 32+1:=by unfold Ep; rw [A42 hn]
  have hge:2^(32*(Ep v.natAbs-1))≤v.natAbs:=A5n (A4v (by decide) (by omega)) (Nat.log2_self_le hn)
  have hq:v.natAbs / 2^(32*(Ep v.natAbs-1))<2^32:=by
   rw [Nat.div_lt_iff_lt_mul (Cp _),← A45]
   have:=Ny v.natAbs
   have e:32+32*(Ep v.natAbs-1)=32*Ep v.natAbs:=by omega
   rw [e]; exact this
  have hlog:=Ah0 hge
  have hg:=Tu (Im v) (Ep v.natAbs-1)
  have hq':=hq
  rw [two32] at hq'
  rw [Et,A4t hq'] at hg
  have hpos:=Nat.div_pos hge (Cp _)
  have h32:(v.natAbs / 2^(32*(Ep v.natAbs-1))).log2<32:=(A5w (by omega)).2 hq
  rw [A42 h0,e0,A4k,An (by omega) (by omega),e1,A4h (by omega),A4h (by omega),A4m,A4g,A4i,hg,An (by omega) (by omega)]
  rw [Asm 40 40 _ _ hq hpos (by omega) (by omega) (by omega)]
  congr 2
  omega
theorem Ai.Ya.known:Ai.Ya.Kn:=Ai.Ya.Ad .nil fun n a hp=>by
 obtain ⟨v,rfl,rfl,hv⟩:=Ko hp
 refine ⟨0,Ai.Ya.out [.b (Bv v),.l (Aw v)],[],?_,.bool⟩
 show _=some (DV.bool (Aog (wv (Bv v) (Aw v))))
 rw [Ai.Ya.ev,Jb,Wl]
 have hg:=Tu (Im v) 0
 rw [Et,Nat.mul_zero,A5e,Nat.div_one] at hg
 have e2:Int.tmod ((v.natAbs%4294967296:Nat):Int) 2=((v.natAbs%4294967296%2:Nat):Int):=Ld _ 2
 unfold Aog
 by_cases h0:v=0
 ·rw [h0]; rfl
 ·have hl:=Ki (n:=v.natAbs) (by omega)
  rw [hg,e2,A4h h0,Dq,A4h (by omega),A5s,A4g,A4g]
  congr 2
  rw [A4w]
  simp only [beq_iff_eq,A4n]
  omega
namespace EqRefC
def A1.Of.hint:Nat→Option Ba
 | 0=>some { keep:=[1,2,4],objs:=[],boxes:=[2,4] }
 | 2=>some { keep:=[1,2,4],objs:=[],boxes:=[2,4] }
 | _=>none
def A1.Of.Bc:List (Nat × Entry):=[(106,Ai.Ix.spec),(104,Ai.Made.spec),(105,Ai.Ya.spec)]
def A1.Of.E:Env:=Bi (Be A1.Of.Bc) (fun _=>false) A1.Of.hint (fun _=>none)
section
variable (N:Nat) (n:Bool) (a:List Int) (e:Int) (M:Nat) (p1_1:Int) (p2_2:Bool) (p2_3:List Int) (p1:Int) (p2:Bool) (p2_1:List Int)
def A1.Of.L0:Option DV:=B8 A1.Of.E N f39 (Ak f39) [1,1,0,0] [] M ⟨Ff 33 [(1,.int .i64 p1),(2,.ptr 2 0 0),(4,.ptr 4 0 0)],[(2,false,.box [.bool p2,.ints .arg .u32 p2_1]),(4,false,.box [.bool false,.nil,.int .i64 0])]⟩
def A1.Of.L1:Option DV:=B8 A1.Of.E N f39 (Ak f39) [1,1,1,0,0] [] M ⟨Ff 33 [(1,.int .i64 p1_1),(2,.ptr 2 0 0),(4,.ptr 4 0 0)],[(2,false,.box [.bool p2_2,.ints .arg .u32 p2_3]),(4,false,.box [.bool false,.nil,.int .i64 0])]⟩
theorem A1.Of.Ar:A1.Of.L0 N (M+1) p1 p2 p2_1=bif (decide ((0:Int)<(length p2_1:Int))) then bif ((getD p2_1 0 0)==(0:Int)) then bif (decide ((1:Int)≤(length p2_1:Int))) then bif (La (List.drop 1 p2_1)) then A1.Of.L0 N M (Ab (p1+32)) (Bv (wv p2 (List.drop 1 p2_1))) (Aw (wv p2 (List.drop 1 p2_1))) else none else none else A1.Of.L1 N N p1 p2 p2_1 else none :=
 Eq.trans (by kernel_rfl)
 (E1 (E1 (Cw (A0a _) (Cw (Cy _) rfl rfl) rfl) rfl) rfl)
theorem A1.Of.Cd:A1.Of.L1 N (M+1) p1_1 p2_2 p2_3=bif (N9 p2_2 p2_3) then bif (!(Aog (wv p2_2 p2_3))) then bif (N9 p2_2 p2_3) then A1.Of.L1 N M (Ab (p1_1+1)) (Bv (Mh (wv p2_2 p2_3) 1)) (Aw (Mh (wv p2_2 p2_3) 1)) else none else some (.agg [.bool p2_2,.ints .arg .u32 p2_3,.int .i64 p1_1]) else none:=by kernel_rfl
theorem A1.Of.ev:B0 A1.Of.E N f39 (Ak f39) [.agg [.bool n,.ints .arg .u32 a],.int .i64 e]=bif ((length a:Int)==(0:Int)) then some (.agg [.bool false,.nil,.int .i64 0]) else A1.Of.L0 N N e n a:=by kernel_rfl
end
abbrev _root_.Go.Proofs.S1.A1.Of.Kn:=A8 prog 39 A1.Of.spec
theorem A1.Of.Ad (hk:A2 prog A1.Of.Bc) (h:Hyp A1.Of.E f39 A1.Of.ts A1.Of.pre A1.Of.out):A1.Of.Kn :=
 Am (A5 hk _ _ _) func39 (by kernel_rfl) (by kernel_rfl) h
def A1.Neg.Bc:List (Nat × Entry):=[(103,Ai.Neg.spec)]
def A1.Neg.E:Env:=Bi (Be A1.Neg.Bc) (fun _=>false) (fun _=>none) (fun _=>none)
theorem A1.Neg.ev (N:Nat) (n:Bool) (a:List Int) (e:Int):B0 A1.Neg.E N f57 (Ak f57) [.agg [.bool n,.ints .arg .u32 a,.int .i64 e]]=bif (N9 n a) then some (.agg [.bool (Bv (- wv n a)),.ints .arg .u32 (Aw (- wv n a)),.int .i64 e]) else none :=
 Eq.trans (by kernel_rfl)
 (Cw (Cy _) rfl rfl)
abbrev _root_.Go.Proofs.S1.A1.Neg.Kn:=A8 prog 57 A1.Neg.spec
theorem A1.Neg.Ad (hk:A2 prog A1.Neg.Bc) (h:Hyp A1.Neg.E f57 A1.Neg.ts A1.Neg.pre A1.Neg.out):A1.Neg.Kn :=
 Am (A5 hk _ _ _) func57 (by kernel_rfl) (by kernel_rfl) h
def A1.Yb.Bc:List (Nat × Entry):=[]
def A1.Yb.E:Env:=Bi (Be A1.Yb.Bc) (fun _=>false) (fun _=>none) (fun _=>none)
theorem A1.Yb.ev (N:Nat) (n:Bool) (a:List Int) (e:Int) (m:Bool) (b:List Int) (f:Int):B0 A1.Yb.E N f47 (Ak f47) [.agg [.bool n,.ints .arg .u32 a,.int .i64 e],.agg [.bool m,.ints .arg .u32 b,.int .i64 f]]=bif ((length a:Int)==(0:Int)) then some (.int .i64 f) else bif ((length b:Int)==(0:Int)) then some (.int .i64 e) else some (.int .i64 (min e f)):=by kernel_rfl
abbrev _root_.Go.Proofs.S1.A1.Yb.Kn:=A8 prog 47 A1.Yb.spec
theorem A1.Yb.Ad (hk:A2 prog A1.Yb.Bc) (h:Hyp A1.Yb.E f47 A1.Yb.ts A1.Yb.pre A1.Yb.out):A1.Yb.Kn :=
 Am (A5 hk _ _ _) func47 (by kernel_rfl) (by kernel_rfl) h
def A1.Level.Bc:List (Nat × Entry):=[(113,Ai.Bu.spec)]
def A1.Level.E:Env:=Bi (Be A1.Level.Bc) (fun _=>false) (fun _=>none) (fun _=>none)
theorem A1.Level.ev (N:Nat) (n:Bool) (a:List Int) (e f:Int):B0 A1.Level.E N f49 (Ak f49) [.agg [.bool n,.ints .arg .u32 a,.int .i64 e],.int .i64 f]=bif ((length a:Int)==(0:Int)) then some (.agg [.bool n,.ints .arg .u32 a]) else bif (okV n a&&Ayi (Ab (e-f))) then some (.agg [.bool (Bv (Jm (wv n a) (Ab (e-f)))),.ints .arg .u32 (Aw (Jm (wv n a) (Ab (e-f))))]) else none:=by kernel_rfl
abbrev _root_.Go.Proofs.S1.A1.Level.Kn:=A8 prog 49 A1.Level.spec
theorem A1.Level.Ad (hk:A2 prog A1.Level.Bc) (h:Hyp A1.Level.E f49 A1.Level.ts A1.Level.pre A1.Level.out):A1.Level.Kn :=
 Am (A5 hk _ _ _) func49 (by kernel_rfl) (by kernel_rfl) h
def A1.Add.Bc:List (Nat × Entry):=[(48,Ai.Add.spec),(49,A1.Level.spec),(47,A1.Yb.spec),(39,A1.Of.spec)]
def A1.Add.E:Env:=Bi (Be A1.Add.Bc) (fun _=>false) (fun _=>none) (fun _=>none)
theorem A1.Add.ev (N:Nat) (n:Bool) (a:List Int) (e:Int) (m:Bool) (b:List Int) (f:Int):B0 A1.Add.E N f11 (Ak f11) [.agg [.bool n,.ints .arg .u32 a,.int .i64 e],.agg [.bool m,.ints .arg .u32 b,.int .i64 f]]=bif (N9 n a&&N9 m b) then bif (okV n a&&Aof (wv n a) e (Ee (wv n a) e (wv m b) f)) then bif (okV m b&&Aof (wv m b) f (Ee (wv n a) e (wv m b) f)) then bif (N9 (Bv (Jm (wv n a) (e-(Ee (wv n a) e (wv m b) f)))) (Aw (Jm (wv n a) (e-(Ee (wv n a) e (wv m b) f))))&&N9 (Bv (Jm (wv m b) (f-(Ee (wv n a) e (wv m b) f)))) (Aw (Jm (wv m b) (f-(Ee (wv n a) e (wv m b) f))))) then bif (N9 (Bv (wv (Bv (Jm (wv n a) (e-(Ee (wv n a) e (wv m b) f)))) (Aw (Jm (wv n a) (e-(Ee (wv n a) e (wv m b) f))))+wv (Bv (Jm (wv m b) (f-(Ee (wv n a) e (wv m b) f)))) (Aw (Jm (wv m b) (f-(Ee (wv n a) e (wv m b) f)))))) (Aw (wv (Bv (Jm (wv n a) (e-(Ee (wv n a) e (wv m b) f)))) (Aw (Jm (wv n a) (e-(Ee (wv n a) e (wv m b) f))))+wv (Bv (Jm (wv m b) (f-(Ee (wv n a) e (wv m b) f)))) (Aw (Jm (wv m b) (f-(Ee (wv n a) e (wv m b) f))))))&&Afc (Ee (wv n a) e (wv m b) f)) then some (.agg [.bool (Bv (mD (wv (Bv (wv (Bv (Jm (wv n a) (e-(Ee (wv n a) e (wv m b) f)))) (Aw (Jm (wv n a) (e-(Ee (wv n a) e (wv m b) f))))+wv (Bv (Jm (wv m b) (f-(Ee (wv n a) e (wv m b) f)))) (Aw (Jm (wv m b) (f-(Ee (wv n a) e (wv m b) f)))))) (Aw (wv (Bv (Jm (wv n a) (e-(Ee (wv n a) e (wv m b) f)))) (Aw (Jm (wv n a) (e-(Ee (wv n a) e (wv m b) f))))+wv (Bv (Jm (wv m b) (f-(Ee (wv n a) e (wv m b) f)))) (Aw (Jm (wv m b) (f-(Ee (wv n a) e (wv m b) f))))))))),.ints .arg .u32 (Aw (mD (wv (Bv (wv (Bv (Jm (wv n a) (e-(Ee (wv n a) e (wv m b) f)))) (Aw (Jm (wv n a) (e-(Ee (wv n a) e (wv m b) f))))+wv (Bv (Jm (wv m b) (f-(Ee (wv n a) e (wv m b) f)))) (Aw (Jm (wv m b) (f-(Ee (wv n a) e (wv m b) f)))))) (Aw (wv (Bv (Jm (wv n a) (e-(Ee (wv n a) e (wv m b) f)))) (Aw (Jm (wv n a) (e-(Ee (wv n a) e (wv m b) f))))+wv (Bv (Jm (wv m b) (f-(Ee (wv n a) e (wv m b) f)))) (Aw (Jm (wv m b) (f-(Ee (wv n a) e (wv m b) f))))))))),.int .i64 (eD (wv (Bv (wv (Bv (Jm (wv n a) (e-(Ee (wv n a) e (wv m b) f)))) (Aw (Jm (wv n a) (e-(Ee (wv n a) e (wv m b) f))))+wv (Bv (Jm (wv m b) (f-(Ee (wv n a) e (wv m b) f)))) (Aw (Jm (wv m b) (f-(Ee (wv n a) e (wv m b) f)))))) (Aw (wv (Bv (Jm (wv n a) (e-(Ee (wv n a) e (wv m b) f)))) (Aw (Jm (wv n a) (e-(Ee (wv n a) e (wv m b) f))))+wv (Bv (Jm (wv m b) (f-(Ee (wv n a) e (wv m b) f)))) (Aw (Jm (wv m b) (f-(Ee (wv n a) e (wv m b) f))))))) (Ee (wv n a) e (wv m b) f))]) else none else none else none else none else none :=
 Eq.trans (by kernel_rfl)
 (E1 (Cw (Cy _) (Cw (Cy _) (Cw (Cy _) (Cw (Cy _) rfl rfl) rfl) rfl) rfl) rfl)
abbrev _root_.Go.Proofs.S1.A1.Add.Kn:=A8 prog 11 A1.Add.spec
theorem A1.Add.Ad (hk:A2 prog A1.Add.Bc) (h:Hyp A1.Add.E f11 A1.Add.ts A1.Add.pre A1.Add.out):A1.Add.Kn :=
 Am (A5 hk _ _ _) func11 (by kernel_rfl) (by kernel_rfl) h
def A1.Sub.Bc:List (Nat × Entry):=[(11,A1.Add.spec),(57,A1.Neg.spec)]
def A1.Sub.E:Env:=Bi (Be A1.Sub.Bc) (fun _=>false) (fun _=>none) (fun _=>none)
theorem A1.Sub.ev (N:Nat) (n:Bool) (a:List Int) (e:Int) (m:Bool) (b:List Int) (f:Int):B0 A1.Sub.E N f56 (Ak f56) [.agg [.bool n,.ints .arg .u32 a,.int .i64 e],.agg [.bool m,.ints .arg .u32 b,.int .i64 f]]=bif (N9 m b) then bif (((okV n a&&okV (Bv (- wv m b)) (Aw (- wv m b)))&&okE e)&&okE f) then some (.agg [.bool (Bv (S2 (wv n a) e (wv (Bv (- wv m b)) (Aw (- wv m b))) f)),.ints .arg .u32 (Aw (S2 (wv n a) e (wv (Bv (- wv m b)) (Aw (- wv m b))) f)),.int .i64 (Auf (wv n a) e (wv (Bv (- wv m b)) (Aw (- wv m b))) f)]) else none else none :=
 Eq.trans (by kernel_rfl)
 (Cw (Cy _) (Cw (Cy _) rfl rfl) rfl)
abbrev _root_.Go.Proofs.S1.A1.Sub.Kn:=A8 prog 56 A1.Sub.spec
theorem A1.Sub.Ad (hk:A2 prog A1.Sub.Bc) (h:Hyp A1.Sub.E f56 A1.Sub.ts A1.Sub.pre A1.Sub.out):A1.Sub.Kn :=
 Am (A5 hk _ _ _) func56 (by kernel_rfl) (by kernel_rfl) h
def A1.W2.Bc:List (Nat × Entry):=[(160,Ai.R0.spec)]
def A1.W2.E:Env:=Bi (Be A1.W2.Bc) (fun _=>false) (fun _=>none) (fun _=>none)
theorem A1.W2.ev (N:Nat) (n:Bool) (a:List Int) (e:Int):B0 A1.W2.E N f109 (Ak f109) [.agg [.bool n,.ints .arg .u32 a,.int .i64 e]]=bif ((length a:Int)==(0:Int)) then some (.int .i64 0) else bif (N9 n a) then some (.int .i64 (Ab ((Aa5 (wv n a))+e))) else none :=
 Eq.trans (by kernel_rfl)
 (E1 rfl (Cw (Cy _) rfl rfl))
abbrev _root_.Go.Proofs.S1.A1.W2.Kn:=A8 prog 109 A1.W2.spec
theorem A1.W2.Ad (hk:A2 prog A1.W2.Bc) (h:Hyp A1.W2.E f109 A1.W2.ts A1.W2.pre A1.W2.out):A1.W2.Kn :=
 Am (A5 hk _ _ _) func109 (by kernel_rfl) (by kernel_rfl) h
def A1.Sign.Bc:List (Nat × Entry):=[]
def A1.Sign.E:Env:=Bi (Be A1.Sign.Bc) (fun _=>false) (fun _=>none) (fun _=>none)
theorem A1.Sign.ev (N:Nat) (n:Bool) (a:List Int) (e:Int):B0 A1.Sign.E N f108 (Ak f108) [.agg [.bool n,.ints .arg .u32 a,.int .i64 e]]=bif n then some (.int .i64 (-1:Int)) else some (.int .i64 (min (length a:Int) 1)):=by kernel_rfl
abbrev _root_.Go.Proofs.S1.A1.Sign.Kn:=A8 prog 108 A1.Sign.spec
theorem A1.Sign.Ad (hk:A2 prog A1.Sign.Bc) (h:Hyp A1.Sign.E f108 A1.Sign.ts A1.Sign.pre A1.Sign.out):A1.Sign.Kn :=
 Am (A5 hk _ _ _) func108 (by kernel_rfl) (by kernel_rfl) h
def A1.Compare.Bc:List (Nat × Entry):=[(108,A1.Sign.spec),(56,A1.Sub.spec),(109,A1.W2.spec)]
def A1.Compare.E:Env:=Bi (Be A1.Compare.Bc) (fun _=>false) (fun _=>none) (fun _=>none)
theorem A1.Compare.ev (N:Nat) (n:Bool) (a:List Int) (e:Int) (m:Bool) (b:List Int) (f:Int):B0 A1.Compare.E N f43 (Ak f43) [.agg [.bool n,.ints .arg .u32 a,.int .i64 e],.agg [.bool m,.ints .arg .u32 b,.int .i64 f]]=bif (N9 n a) then bif (N9 m b) then bif ((O4 (wv n a)) !=(O4 (wv m b))) then bif (N9 n a) then bif (N9 m b) then some (.int .i64 (min 1 (max (-1:Int) (Ab ((O4 (wv n a))-(O4 (wv m b))))))) else none else none else bif (N9 n a&&okE e) then bif (N9 m b&&okE f) then bif ((Jo (wv n a) e) !=(Jo (wv m b) f)) then bif (N9 n a&&okE e) then bif (N9 m b&&okE f) then bif (N9 n a) then bif ((Bb (Jo (wv m b) f) (Jo (wv n a) e))==(Bb 0 (O4 (wv n a)))) then some (.int .i64 1) else some (.int .i64 (-1:Int)) else none else none else none else bif (((okV n a&&okV m b)&&okE e)&&okE f) then bif (N9 (Bv (S2 (wv n a) e (- wv m b) f)) (Aw (S2 (wv n a) e (- wv m b) f))) then some (.int .i64 (O4 (wv (Bv (S2 (wv n a) e (- wv m b) f)) (Aw (S2 (wv n a) e (- wv m b) f))))) else none else none else none else none else none else none :=
 Eq.trans (by kernel_rfl)
 (Cw (Cy _) (Cw (Cy _) (E1 (Cw (Cy _) (Cw (Cy _) rfl rfl) rfl) (Cw (Cy _) (Cw (Cy _) (E1 (Cw (Cy _) (Cw (Cy _) (Cw (Cy _) rfl rfl) rfl) rfl) rfl) rfl) rfl)) rfl) rfl)
abbrev _root_.Go.Proofs.S1.A1.Compare.Kn:=A8 prog 43 A1.Compare.spec
theorem A1.Compare.Ad (hk:A2 prog A1.Compare.Bc) (h:Hyp A1.Compare.E f43 A1.Compare.ts A1.Compare.pre A1.Compare.out):A1.Compare.Kn :=
 Am (A5 hk _ _ _) func43 (by kernel_rfl) (by kernel_rfl) h
end EqRefC
open EqRefC
def Apk (v e:Int):Option DV:=some (.agg [.bool (Bv v),.ints .arg .u32 (Aw v),.int .i64 e])
theorem wdy {drops:List Nat} {b:Bool} {l:List Int} {e:Int}:Wk drops (.agg [.bool b,.ints .arg .u32 l,.int .i64 e]) (.agg [.bool b,.ints .arg .u32 l,.int .i64 e]):=Wk.F7 (.cons .bool (.cons .N1 (.cons .int .nil)))
theorem As1 (v:Int):(Aw v).getD 0 0=((v.natAbs%4294967296:Nat):Int):=by
 have hg:=Tu (Im v) 0
 rw [Et,Nat.mul_zero,A5e,Nat.div_one] at hg
 exact hg
theorem Aly {v:Int} {k:Nat} (h:Ep v.natAbs<268435456):Ep (Mh v k).natAbs<268435456:=by
 rw [Ns]
 exact A5i (Ob (Nat.div_le_self _ _)) h
theorem Aq4 {v:Int} {k:Nat} (h0:v≠0) (h:v.natAbs%2^k=0):Mh v k≠0∧T3 (Mh v k).natAbs+k=T3 v.natAbs:=by
 have hv:=Nat.div_add_mod v.natAbs (2^k)
 rw [h,A5o,A44] at hv
 have hq:v.natAbs / 2^k≠0:=by
  intro e; rw [e] at hv; omega
 have ht:=Aeo hq k
 rw [hv] at ht
 have ha:=Ns v k
 refine ⟨by omega,?_⟩
 rw [ha]
 omega
theorem Ary (N:Nat):∀ (F:Nat) (v e:Int),v≠0→T3 v.natAbs<F→Ep v.natAbs<268435456→-4000000000000≤e→e+T3 v.natAbs≤400000000000000 →
 A1.Of.L1 N F e (Bv v) (Aw v)=Apk (mD v) (eD v e):=by
 intro F
 induction F with
 | zero=>intro v e _ h; omega
 | succ F ih =>
   intro v e h0 hF hv h1 h2
   rw [A1.Of.Cd,Ku hv,A4g,Jb]
   by_cases ho:v%2=1
   ·have:Aog v=true:=A4h ho
    rw [this,A5f,A4k,Ayn ho,Ayy ho]
    rfl
   ·have:Aog v=false:=A4l ho
    have hm:v.natAbs%2^1=0:=by rw [Nat.pow_one]; omega
    obtain ⟨n1,n2⟩:=Aq4 h0 hm
    rw [this,A5z,A4g,A4g,An (by omega) (by omega),ih (Mh v 1) (e+1) n1 (by omega) (Aly hv) (by omega) (by omega),Ash hm]
    have:=Atk (e:=e) hm h0
    rw [← this]
    rfl
theorem Arz (N:Nat):∀ (F:Nat) (v e:Int),v≠0→T3 v.natAbs<F→T3 v.natAbs<N→Ep v.natAbs<268435456→-4000000000000≤e→e+T3 v.natAbs≤400000000000000 →
 A1.Of.L0 N F e (Bv v) (Aw v)=Apk (mD v) (eD v e):=by
 intro F
 induction F with
 | zero=>intro v e _ h; omega
 | succ F ih =>
   intro v e h0 hF hN hv h1 h2
   have hl:=Ki (n:=v.natAbs) (by omega)
   rw [A1.Of.Ar,Dq,A4h (by omega),A4g,As1]
   by_cases hz:v.natAbs%4294967296=0
   ·have e0:(((v.natAbs%4294967296:Nat):Int)==0)=true:=by rw [hz]; rfl
    have o3:La ((Aw v).drop 1)=true:=Px (by rw [List.length_drop,Dq]; omega) (Aie (Im v))
    have hm:v.natAbs%2^32=0:=by rw [two32]; exact hz
    obtain ⟨n1,n2⟩:=Aq4 h0 hm
    rw [e0,A4g,A4h (by omega),A4g,o3,A4g,Aln,An (by omega) (by omega),ih (Mh v 32) (e+32) n1 (by omega) (by omega) (Aly hv) (by omega) (by omega),Ash hm]
    have:=Atk (e:=e) hm h0
    rw [← this]
    rfl
   ·have e0:(((v.natAbs%4294967296:Nat):Int)==0)=false:=by simp only [A5b,ne_eq]; omega
    rw [e0,A4k]
    exact Ary N N v e h0 hN hv h1 h2
theorem Aqc {v:Int} (h0:v≠0) (h:Ep v.natAbs<268435456):T3 v.natAbs<8589934592:=by
 have h1:=Awy (n:=v.natAbs) (by omega)
 have h2:=Adm (n:=v.natAbs)
 omega
theorem A1.Of.known:A1.Of.Kn:=A1.Of.Ad (.cons Ai.Ix.known (.cons Ai.Made.known (.cons Ai.Ya.known .nil))) fun n a e hp=>by
 obtain ⟨h1,h2⟩:=Ac.1 hp
 obtain ⟨v,rfl,rfl,hv⟩:=Ko h1
 have h2:=Aq.1 h2
 by_cases h0:v=0
 ·subst h0
  refine ⟨0,.agg [.bool false,.nil,.int .i64 (0:Int)],[],?_,?_⟩
  ·rw [A1.Of.ev]; rfl
  ·show Wk [] _ (.agg [.bool (Bv (mD (wv (Bv 0) (Aw 0)))),.ints .arg .u32 (Aw (mD (wv (Bv 0) (Aw 0)))),.int .i64 (eD (wv (Bv 0) (Aw 0)) e)])
   rw [Jb,Re.2 rfl]
   exact Wk.F7 (.cons .bool (.cons (.nil _ _) (.cons .int .nil)))
 ·refine ⟨T3 v.natAbs+1,A1.Of.out [.b (Bv v),.l (Aw v),.i e],[],?_,wdy⟩
  have ht:=Aqc h0 hv
  have hl:=Ki (n:=v.natAbs) (by omega)
  have e0:(((Aw v).length:Int)==0)=false:=by rw [Dq]; simp only [A5b,ne_eq]; omega
  show _=Apk (mD (wv (Bv v) (Aw v))) (eD (wv (Bv v) (Aw v)) e)
  rw [A1.Of.ev,e0,A4k,Jb]
  exact Arz _ _ v e h0 (by omega) (by omega) hv (by omega) (by omega)
theorem A1.Neg.known:A1.Neg.Kn:=A1.Neg.Ad (.cons Ai.Neg.known .nil) fun n a e hp=>by
 refine ⟨0,A1.Neg.out [.b n,.l a,.i e],[],?_,wdy⟩
 have hp:N9 n a=true:=hp
 rw [A1.Neg.ev,hp,A4g]
 rfl
theorem Wj (v:Int):(((Aw v).length:Int)==0)=decide (v=0):=by
 rw [Dq,A4w]
 simp only [beq_iff_eq,A4n]
 constructor
 ·intro h
  rcases Int.lt_trichotomy v 0 with k | k | k
  ·have:=Ki (n:=v.natAbs) (by omega); omega
  ·exact k
  ·have:=Ki (n:=v.natAbs) (by omega); omega
 ·intro h; rw [h]; rfl
theorem A1.Yb.known:A1.Yb.Kn:=A1.Yb.Ad .nil fun n a e m b f hp=>by
 obtain ⟨h1,h2⟩:=Ac.1 hp
 obtain ⟨v,rfl,rfl,hv⟩:=Ko h1
 obtain ⟨w,rfl,rfl,hw⟩:=Ko h2
 refine ⟨0,A1.Yb.out [.b (Bv v),.l (Aw v),.i e,.b (Bv w),.l (Aw w),.i f],[],?_,.int⟩
 show _=some (DV.int .i64 (Ee (wv (Bv v) (Aw v)) e (wv (Bv w) (Aw w)) f))
 rw [A1.Yb.ev,Jb,Jb,Wj,Wj]
 unfold Ee
 by_cases h:v=0
 ·rw [A4h h,A4g,A43 h]
 ·rw [A4l h,A4k,A42 h]
  by_cases h':w=0
  ·rw [A4h h',A4g,A43 h']
  ·rw [A4l h',A4k,A42 h']
theorem Z4 (k:Int):Jm 0 k=0:=by
 unfold Jm
 split
 ·exact Int.zero_mul _
 ·exact Td _
theorem A1.Level.known:A1.Level.Kn:=A1.Level.Ad (.cons Ai.Bu.known .nil) fun n a e f hp=>by
 obtain ⟨h1,h2⟩:=Ac.1 hp
 obtain ⟨v,rfl,rfl,hv⟩:=Rc h1
 refine ⟨0,A1.Level.out [.b (Bv v),.l (Aw v),.i e,.i f],[],?_,Agm⟩
 show _=Ajl (Jm (wv (Bv v) (Aw v)) (e-f))
 unfold Aof at h2
 rw [Jb] at h2
 obtain ⟨h3,h4⟩:=Ac.1 h2
 have h3:=Aq.1 h3
 have h4:=Aq.1 h4
 rw [A1.Level.ev,Jb,Wj]
 by_cases h:v=0
 ·rw [A4h h,A4g,h,Z4]; rfl
 ·have o:Ayi (Ab (e-f))=true:=by rw [An (by omega) (by omega)]; exact Aq.2 (by omega)
  rw [A4l h,A4k,h1,o,A4m,A4g,An (by omega) (by omega)]
  rfl
theorem Aso (n k:Nat):Ep (n*2^k)≤Ep n+k:=by
 refine Pp ?_
 have h1:=Ny n
 have h2:n*2^k<2^(32*Ep n)*2^k:=(Nat.mul_lt_mul_right (Cp k)).2 h1
 rw [← A45] at h2
 exact A5r h2 (A4v (by decide) (by omega))
theorem Asp (v k:Int):Ep (Jm v k).natAbs≤Ep v.natAbs+k.toNat:=by
 unfold Jm
 by_cases h:0≤k
 ·rw [A43 h,Int.natAbs_mul,Int.natAbs_natCast]
  exact Aso _ _
 ·rw [A42 h,Ns]
  exact A5n (Ob (Nat.div_le_self _ _)) (Nat.le_add_right _ _)
theorem Ah5 (v w:Int):Ep (v+w).natAbs≤max (Ep v.natAbs) (Ep w.natAbs)+1:=by
 refine Pp ?_
 have h1:=Ny v.natAbs
 have h2:=Ny w.natAbs
 have h3:2^(32*Ep v.natAbs)≤2^(32*max (Ep v.natAbs) (Ep w.natAbs)):=A4v (by decide) (by omega)
 have h4:2^(32*Ep w.natAbs)≤2^(32*max (Ep v.natAbs) (Ep w.natAbs)):=A4v (by decide) (by omega)
 rw [Qb]
 omega
theorem Aaz {v e w f:Int} (he:-400000≤e∧e≤400000) (hf:-400000≤f∧f≤400000):-400000≤Ee v e w f∧Ee v e w f≤400000:=by
 unfold Ee
 split
 ·exact hf
 ·split
  ·exact he
  ·omega
theorem Zb {v e l:Int} (hv:Ep v.natAbs<134217728) (h:e-l≤800000):Ep (Jm v (e-l)).natAbs<140000000:=by
 have:=Asp v (e-l)
 omega
theorem A1.Add.known:A1.Add.Kn:=A1.Add.Ad (.cons Ai.Add.known (.cons A1.Level.known (.cons A1.Yb.known (.cons A1.Of.known .nil)))) fun n a e m b f hp=>by
 obtain ⟨h1,hf⟩:=Ac.1 hp
 obtain ⟨h2,he⟩:=Ac.1 h1
 obtain ⟨h3,h4⟩:=Ac.1 h2
 obtain ⟨v,rfl,rfl,hv⟩:=Rc h3
 obtain ⟨w,rfl,rfl,hw⟩:=Rc h4
 have he:=Aq.1 he
 have hf:=Aq.1 hf
 refine ⟨0,A1.Add.out [.b (Bv v),.l (Aw v),.i e,.b (Bv w),.l (Aw w),.i f],[],?_,wdy⟩
 show _=Apk (S2 (wv (Bv v) (Aw v)) e (wv (Bv w) (Aw w)) f) (Auf (wv (Bv v) (Aw v)) e (wv (Bv w) (Aw w)) f)
 have hlo:=Aaz (v:=v) (w:=w) he hf
 have l1:=Zb (l:=Ee v e w f) hv (show e-Ee v e w f≤800000 by omega)
 have l2:=Zb (l:=Ee v e w f) hw (show f-Ee v e w f≤800000 by omega)
 have l3:=Ah5 (Jm v (e-Ee v e w f)) (Jm w (f-Ee v e w f))
 have o1:Aof v e (Ee v e w f)=true:=Ac.2 ⟨Aq.2 (by omega),Aq.2 (by omega)⟩
 have o2:Aof w f (Ee v e w f)=true:=Ac.2 ⟨Aq.2 (by omega),Aq.2 (by omega)⟩
 have o3:Afc (Ee v e w f)=true:=Aq.2 (by omega)
 rw [A1.Add.ev]
 simp only [Jb]
 rw [Ku (v:=v) (by omega),Ku (v:=w) (by omega),h3,h4,o1,o2,Ku (v:=Jm v (e-Ee v e w f)) (by omega),Ku (v:=Jm w (f-Ee v e w f)) (by omega),Ku (v:=Jm v (e-Ee v e w f)+Jm w (f-Ee v e w f)) (by omega),o3]
 simp only [A4m,A4g]
 rfl
theorem A1.Sub.known:A1.Sub.Kn:=A1.Sub.Ad (.cons A1.Add.known (.cons A1.Neg.known .nil)) fun n a e m b f hp=>by
 obtain ⟨h1,hf⟩:=Ac.1 hp
 obtain ⟨h2,he⟩:=Ac.1 h1
 obtain ⟨h3,h4⟩:=Ac.1 h2
 obtain ⟨w,rfl,rfl,hw⟩:=Rc h4
 refine ⟨0,A1.Sub.out [.b n,.l a,.i e,.b (Bv w),.l (Aw w),.i f],[],?_,wdy⟩
 show _=Apk (S2 (wv n a) e (- wv (Bv w) (Aw w)) f) (Auf (wv n a) e (- wv (Bv w) (Aw w)) f)
 rw [A1.Sub.ev]
 simp only [Jb]
 rw [Ku (v:=w) (by omega),h3,Arx (v:=-w) (by rw [Int.natAbs_neg]; exact hw),he,hf]
 rfl
theorem Ah6 {v:Int} (h:Ep v.natAbs<268435456):0≤Aa5 v∧Aa5 v≤8589934593:=by
 have h2:=Adm (n:=v.natAbs)
 unfold Aa5
 split
 ·omega
 ·constructor<;>omega
theorem A1.W2.known:A1.W2.Kn:=A1.W2.Ad (.cons Ai.R0.known .nil) fun n a e hp=>by
 obtain ⟨h1,he⟩:=Ac.1 hp
 obtain ⟨v,rfl,rfl,hv⟩:=Ko h1
 have he:=Aq.1 he
 refine ⟨0,A1.W2.out [.b (Bv v),.l (Aw v),.i e],[],?_,.int⟩
 show _=some (DV.int .i64 (Jo (wv (Bv v) (Aw v)) e))
 have hb:=Ah6 hv
 rw [A1.W2.ev,Jb,Wj,h1]
 unfold Jo
 by_cases h:v=0
 ·rw [A4h h,A4g,A43 h]
 ·rw [A4l h,A4k,A4g,A42 h,An (by omega) (by omega)]
theorem A1.Sign.known:A1.Sign.Kn:=A1.Sign.Ad .nil fun n a e hp=>by
 obtain ⟨v,rfl,rfl,hv⟩:=Ko hp
 refine ⟨0,A1.Sign.out [.b (Bv v),.l (Aw v),.i e],[],?_,.int⟩
 show _=some (DV.int .i64 (O4 (wv (Bv v) (Aw v))))
 rw [A1.Sign.ev,Jb,Dq]
 unfold O4 Bv
 by_cases h:v<0
 ·rw [A4h h,A4g,A43 h]
 ·rw [A4l h,A4k,A42 h]
  by_cases h':v=0
  ·rw [A43 h',h']; rfl
  ·have:=Ki (n:=v.natAbs) (by omega)
   rw [A42 h']
   congr 2
   omega
open EqRefC
theorem Akt {v e w f:Int}:(v≠0→0≤e-Ee v e w f)∧(w≠0→0≤f-Ee v e w f):=by
 unfold Ee
 constructor
 ·intro h
  rw [A42 h]
  split<;>omega
 ·intro h
  split
  ·omega
  ·omega
theorem Z5 {v k:Int} (h:v≠0→0≤k):∃ j:Nat,Jm v k=v*((2^j:Nat):Int)∧(v≠0→(j:Int)=k):=by
 by_cases h0:v=0
 ·exact ⟨0,by rw [h0,Z4,Int.zero_mul],fun k=>absurd h0 k⟩
 ·have hk:=h h0
  refine ⟨k.toNat,?_,fun _=>by omega⟩
  unfold Jm
  rw [A43 hk]
theorem Aat (v:Int) (j:Nat):(v*((2^j:Nat):Int)<0↔v<0)∧(v*((2^j:Nat):Int)=0↔v=0):=by
 have hp:=Cp j
 constructor
 ·constructor
  ·intro h
   rcases Int.lt_or_le v 0 with h1 | h1
   ·exact h1
   ·have:=Int.mul_nonneg h1 (Int.natCast_nonneg (2^j)); omega
  ·intro h
   exact Int.mul_neg_of_neg_of_pos h (by omega)
 ·constructor
  ·intro h
   rcases Int.mul_eq_zero.1 h with h | h
   ·exact h
   ·omega
  ·intro h; rw [h,Int.zero_mul]
theorem Aex (v:Int) (j:Nat):O4 (v*((2^j:Nat):Int))=O4 v:=by
 obtain ⟨h1,h2⟩:=Aat v j
 unfold O4
 simp only [h1,h2]
theorem Ax9 (v:Int):O4 (mD v)=O4 v:=by
 have:=Aex (mD v) (T3 v.natAbs)
 rw [← Zg] at this
 exact this.symm
theorem Awk (x y:Int):O4 (x+-y)=Y5 x y:=by
 unfold O4 Y5
 by_cases h:x<y
 ·rw [A43 (by omega),A43 h]
 ·rw [A42 (by omega),A42 h]
  by_cases h':y<x
  ·rw [A42 (by omega),A43 h']
  ·rw [A43 (by omega),A42 h']
theorem Avp (v e w f:Int):Ee v e (-w) f=Ee v e w f:=by
 unfold Ee
 have:(-w=0)=(w=0):=propext ⟨fun h=>by omega,fun h=>by omega⟩
 simp only [this]
theorem Atw {x y:Int} (h:O4 x≠O4 y):Y5 x y=min 1 (max (-1) (O4 x-O4 y)):=by
 unfold O4 at h ⊢
 unfold Y5
 rcases Int.lt_trichotomy x 0 with h1 | h1 | h1<;>rcases Int.lt_trichotomy y 0 with h2 | h2 | h2
 all_goals
  first
  | (exfalso; apply h; simp [show x<0 by omega,show y<0 by omega]; done)
  | (exfalso; apply h; subst h1; subst h2; rfl)
  | (exfalso; apply h; rw [A42 (by omega),A42 (by omega),A42 (by omega),A42 (by omega)]; done)
  | skip
 ·rw [A43 (by omega),A43 (by omega),A42 (by omega),A43 (by omega)]; decide
 ·rw [A43 (by omega),A43 (by omega),A42 (by omega),A42 (by omega)]; decide
 ·rw [A42 (by omega),A43 (by omega),A42 (by omega),A43 (by omega),A43 (by omega)]; decide
 ·rw [A43 (by omega),A42 (by omega),A43 (by omega),A42 (by omega),A42 (by omega)]; decide
 ·rw [A42 (by omega),A43 (by omega),A42 (by omega),A42 (by omega),A43 (by omega)]; decide
 ·rw [A42 (by omega),A43 (by omega),A42 (by omega),A42 (by omega),A42 (by omega),A43 (by omega)]; decide
theorem Aa1 {a b:Nat} (ha:a≠0) (h:a.log2<b.log2):a<b:=by
 rcases A5d a b with k | k
 ·exact k
 ·have hb:b≠0:=by
   intro e; rw [e] at h
   exact absurd h (by rw [show (0:Nat).log2=0 by decide]; omega)
  have:=(Nat.le_log2 ha).2 (A5n (Nat.log2_self_le hb) k)
  omega
theorem Awj {v e w f:Int} (hs:O4 v=O4 w) (ht:Jo v e≠Jo w f) :
 Y6 v e w f=if (decide (Jo w f<Jo v e)==decide (0<O4 v))=true then 1 else -1:=by
 obtain ⟨u1,u2⟩:=Akt (v:=v) (e:=e) (w:=w) (f:=f)
 obtain ⟨j,hx,hj⟩:=Z5 u1
 obtain ⟨k,hy,hk⟩:=Z5 u2
 unfold Y6
 rw [hx,hy]
 have z:v=0↔w=0:=by
  unfold O4 at hs
  constructor
  ·intro h; subst h
   revert hs
   simp
   split<;>simp_all
  ·intro h; subst h
   revert hs
   simp
   split<;>simp_all
 by_cases v0:v=0
 ·exfalso
  apply ht
  unfold Jo
  rw [A43 v0,A43 (z.1 v0)]
 ·have w0:w≠0:=fun h=>v0 (z.2 h)
  have hj:=hj v0
  have hk:=hk w0
  have nv:v.natAbs≠0:=by omega
  have nw:w.natAbs≠0:=by omega
  have l1:=M5 v.natAbs j nv
  have l2:=M5 w.natAbs k nw
  have ax:(v*((2^j:Nat):Int)).natAbs=v.natAbs*2^j:=by rw [Int.natAbs_mul,Int.natAbs_natCast]
  have ay:(w*((2^k:Nat):Int)).natAbs=w.natAbs*2^k:=by rw [Int.natAbs_mul,Int.natAbs_natCast]
  have sx:=(Aat v j).1
  have sy:=(Aat w k).1
  have zx:=Asc v0 j
  have zy:=Asc w0 k
  have tv:Jo v e=(v.natAbs.log2:Int)+1+e:=by unfold Jo Aa5; rw [A42 v0,A42 v0]
  have tw:Jo w f=(w.natAbs.log2:Int)+1+f:=by unfold Jo Aa5; rw [A42 w0,A42 w0]
  have big:Jo w f<Jo v e→w.natAbs*2^k<v.natAbs*2^j:=fun h=>Aa1 (Jt nw) (by omega)
  have lit:Jo v e<Jo w f→v.natAbs*2^j<w.natAbs*2^k:=fun h=>Aa1 (Jt nv) (by omega)
  generalize v*((2^j:Nat):Int)=x at *
  generalize w*((2^k:Nat):Int)=y at *
  by_cases hv:v<0
  ·have sv:O4 v=-1:=by unfold O4; rw [A43 hv]
   have hw:w<0:=by
    rw [sv] at hs
    unfold O4 at hs
    rcases Int.lt_or_le w 0 with q | q
    ·exact q
    ·rw [A42 (by omega),A42 w0] at hs; omega
   rw [sv]
   unfold Y5
   by_cases h:Jo w f<Jo v e
   ·have:=big h
    rw [A4h h,A43 (by omega)]; rfl
   ·have:=lit (by omega)
    rw [A4l h,A42 (by omega),A43 (by omega)]; rfl
  ·have sv:O4 v=1:=by unfold O4; rw [A42 hv,A42 v0]
   have hw:¬ w<0:=by
    intro q
    rw [sv] at hs
    unfold O4 at hs
    rw [A43 q] at hs; omega
   rw [sv]
   unfold Y5
   by_cases h:Jo w f<Jo v e
   ·have:=big h
    rw [A4h h,A42 (by omega),A43 (by omega)]; rfl
   ·have:=lit (by omega)
    rw [A4l h,A43 (by omega)]; rfl
theorem Au1 (v e w f:Int):O4 (S2 v e (-w) f)=Y6 v e w f:=by
 obtain ⟨u1,u2⟩:=Akt (v:=v) (e:=e) (w:=w) (f:=f)
 obtain ⟨k,hy,hk⟩:=Z5 u2
 have hy':Jm (-w) (f-Ee v e w f)=-(Jm w (f-Ee v e w f)):=by
  by_cases w0:w=0
  ·rw [w0]; show Jm 0 _=_; rw [Z4]; rfl
  ·unfold Jm
   rw [A43 (u2 w0),A43 (u2 w0),Int.neg_mul]
 unfold S2 Aub Y6
 rw [Ax9,Avp,hy',Awk]
theorem Apn {v e w f:Int} (h:O4 v≠O4 w):Y6 v e w f=min 1 (max (-1) (O4 v-O4 w)):=by
 obtain ⟨u1,u2⟩:=Akt (v:=v) (e:=e) (w:=w) (f:=f)
 obtain ⟨j,hx,hj⟩:=Z5 u1
 obtain ⟨k,hy,hk⟩:=Z5 u2
 have e1:=Aex v j
 have e2:=Aex w k
 unfold Y6
 rw [hx,hy,← e1,← e2]
 exact Atw (by rw [e1,e2]; exact h)
theorem Z6 (v:Int):-1≤O4 v∧O4 v≤1:=by unfold O4; split<;>(try split)<;>omega
theorem Aue {v e w f:Int} (hv:Ep v.natAbs<134217728) (hw:Ep w.natAbs<134217728) (he:-400000≤e∧e≤400000) (hf:-400000≤f∧f≤400000):Ep (S2 v e w f).natAbs<140000001:=by
 have hlo:=Aaz (v:=v) (w:=w) he hf
 have l1:=Zb (l:=Ee v e w f) hv (show e-Ee v e w f≤800000 by omega)
 have l2:=Zb (l:=Ee v e w f) hw (show f-Ee v e w f≤800000 by omega)
 have l3:=Ah5 (Jm v (e-Ee v e w f)) (Jm w (f-Ee v e w f))
 have l4:=Ob (Adl (Aub v e w f))
 unfold S2
 unfold Aub at l4 ⊢
 omega
theorem A1.Compare.known:A1.Compare.Kn:=A1.Compare.Ad (.cons A1.Sign.known (.cons A1.Sub.known (.cons A1.W2.known .nil))) fun n a e m b f hp=>by
 obtain ⟨h1,hf⟩:=Ac.1 hp
 obtain ⟨h2,he⟩:=Ac.1 h1
 obtain ⟨h3,h4⟩:=Ac.1 h2
 obtain ⟨v,rfl,rfl,hv⟩:=Rc h3
 obtain ⟨w,rfl,rfl,hw⟩:=Rc h4
 refine ⟨0,A1.Compare.out [.b (Bv v),.l (Aw v),.i e,.b (Bv w),.l (Aw w),.i f],[],?_,.int⟩
 show _=some (DV.int .i64 (Y6 (wv (Bv v) (Aw v)) e (wv (Bv w) (Aw w)) f))
 have bv:=Z6 v
 have bw:=Z6 w
 have hm:=Aue (v:=v) (w:=-w) hv (by rw [Int.natAbs_neg]; exact hw) (Aq.1 he) (Aq.1 hf)
 rw [A1.Compare.ev]
 simp only [Jb]
 rw [Ku (v:=v) (by omega),Ku (v:=w) (by omega),Ku (v:=S2 v e (-w) f) (by omega),h3,h4,he,hf,Av,Av]
 simp only [A4m,A4g]
 by_cases hs:O4 v=O4 w
 ·have e0:(O4 v !=O4 w)=false:=by simp [hs]
  rw [e0,A4k]
  by_cases ht:Jo v e=Jo w f
  ·have e1:(Jo v e !=Jo w f)=false:=by simp [ht]
   rw [e1,A4k,Au1]
  ·have e1:(Jo v e !=Jo w f)=true:=by simp [ht]
   rw [e1,A4g,Awj hs ht]
   cases (decide (Jo w f<Jo v e)==decide (0<O4 v))<;>rfl
 ·have e0:(O4 v !=O4 w)=true:=by simp [hs]
  rw [e0,A4g,Apn hs,An (by omega) (by omega)]
namespace EqRefE
def A6.Value.Bc:List (Nat × Entry):=[(103,Ai.Neg.spec),(40,Ai.Of.spec),(39,A1.Of.spec),(100,A6.Lw.spec),(102,A6.Neg.spec),(101,A6.Power.spec)]
def A6.Value.E:Env:=Bi (Be A6.Value.Bc) (fun _=>false) (fun _=>none) (fun _=>none)
theorem A6.Value.ev (N:Nat) (x:Int):B0 A6.Value.E N f38 (Ak f38) [.int .u64 x]=bif (Oo x) then bif (Aml (Ab (Dw x))) then bif (Oo x) then bif (Bb 0 (Nt x)) then bif (Oo x) then bif (Aml (Ab (Bq ((Dw x)+4503599627370496)))) then bif (Oo x) then bif (Af x) then bif (Eb x) then bif (N9 (Bv ((Ab (Bq ((Dw x)+4503599627370496))))) (Aw ((Ab (Bq ((Dw x)+4503599627370496)))))) then bif (N9 (Bv (- wv (Bv ((Ab (Bq ((Dw x)+4503599627370496))))) (Aw ((Ab (Bq ((Dw x)+4503599627370496))))))) (Aw (- wv (Bv ((Ab (Bq ((Dw x)+4503599627370496))))) (Aw ((Ab (Bq ((Dw x)+4503599627370496)))))))&&Afc (Ab ((Nt x)-1075))) then some (.agg [.bool (Bv (mD (wv (Bv (- wv (Bv ((Ab (Bq ((Dw x)+4503599627370496))))) (Aw ((Ab (Bq ((Dw x)+4503599627370496))))))) (Aw (- wv (Bv ((Ab (Bq ((Dw x)+4503599627370496))))) (Aw ((Ab (Bq ((Dw x)+4503599627370496)))))))))),.ints .arg .u32 (Aw (mD (wv (Bv (- wv (Bv ((Ab (Bq ((Dw x)+4503599627370496))))) (Aw ((Ab (Bq ((Dw x)+4503599627370496))))))) (Aw (- wv (Bv ((Ab (Bq ((Dw x)+4503599627370496))))) (Aw ((Ab (Bq ((Dw x)+4503599627370496)))))))))),.int .i64 (eD (wv (Bv (- wv (Bv ((Ab (Bq ((Dw x)+4503599627370496))))) (Aw ((Ab (Bq ((Dw x)+4503599627370496))))))) (Aw (- wv (Bv ((Ab (Bq ((Dw x)+4503599627370496))))) (Aw ((Ab (Bq ((Dw x)+4503599627370496)))))))) (Ab ((Nt x)-1075)))]) else none else none else bif (N9 (Bv ((Ab (Bq ((Dw x)+4503599627370496))))) (Aw ((Ab (Bq ((Dw x)+4503599627370496)))))&&Afc (Ab ((Nt x)-1075))) then some (.agg [.bool (Bv (mD (wv (Bv ((Ab (Bq ((Dw x)+4503599627370496))))) (Aw ((Ab (Bq ((Dw x)+4503599627370496)))))))),.ints .arg .u32 (Aw (mD (wv (Bv ((Ab (Bq ((Dw x)+4503599627370496))))) (Aw ((Ab (Bq ((Dw x)+4503599627370496)))))))),.int .i64 (eD (wv (Bv ((Ab (Bq ((Dw x)+4503599627370496))))) (Aw ((Ab (Bq ((Dw x)+4503599627370496)))))) (Ab ((Nt x)-1075)))]) else none else none else none else none else none else bif (Af x) then bif (Eb x) then bif (N9 (Bv ((Ab (Dw x)))) (Aw ((Ab (Dw x))))) then bif (N9 (Bv (- wv (Bv ((Ab (Dw x)))) (Aw ((Ab (Dw x)))))) (Aw (- wv (Bv ((Ab (Dw x)))) (Aw ((Ab (Dw x))))))&&Afc (-1074:Int)) then some (.agg [.bool (Bv (mD (wv (Bv (- wv (Bv ((Ab (Dw x)))) (Aw ((Ab (Dw x)))))) (Aw (- wv (Bv ((Ab (Dw x)))) (Aw ((Ab (Dw x))))))))),.ints .arg .u32 (Aw (mD (wv (Bv (- wv (Bv ((Ab (Dw x)))) (Aw ((Ab (Dw x)))))) (Aw (- wv (Bv ((Ab (Dw x)))) (Aw ((Ab (Dw x))))))))),.int .i64 (eD (wv (Bv (- wv (Bv ((Ab (Dw x)))) (Aw ((Ab (Dw x)))))) (Aw (- wv (Bv ((Ab (Dw x)))) (Aw ((Ab (Dw x))))))) (-1074:Int))]) else none else none else bif (N9 (Bv ((Ab (Dw x)))) (Aw ((Ab (Dw x))))&&Afc (-1074:Int)) then some (.agg [.bool (Bv (mD (wv (Bv ((Ab (Dw x)))) (Aw ((Ab (Dw x))))))),.ints .arg .u32 (Aw (mD (wv (Bv ((Ab (Dw x)))) (Aw ((Ab (Dw x))))))),.int .i64 (eD (wv (Bv ((Ab (Dw x)))) (Aw ((Ab (Dw x))))) (-1074:Int))]) else none else none else none else none else none:=by kernel_rfl
abbrev _root_.Go.Proofs.S1.A6.Value.Kn:=A8 prog 38 A6.Value.spec
theorem A6.Value.Ad (hk:A2 prog A6.Value.Bc) (h:Hyp A6.Value.E f38 A6.Value.ts A6.Value.pre A6.Value.out):A6.Value.Kn :=
 Am (A5 hk _ _ _) func38 (by kernel_rfl) (by kernel_rfl) h
end EqRefE
open EqRefE
theorem Ami {n k:Nat} (h:n<2^(32*k)) {m:Nat} (hk:k<m):Ep n<m:=A5i (Pp h) hk
theorem Vm (m:Nat):Ja false m=(m:Int):=rfl
theorem Ag4 (m:Nat):Ja true m=-(m:Int):=rfl
theorem A6.Value.known:A6.Value.Kn:=A6.Value.Ad (.cons Ai.Neg.known (.cons Ai.Of.known (.cons A1.Of.known (.cons A6.Lw.known (.cons A6.Neg.known (.cons A6.Power.known .nil)))))) fun x hp=>by
 obtain ⟨n,rfl,hn⟩:=Bw (x:=x) hp
 refine ⟨0,A6.Value.out [.i n],[],?_,wdy⟩
 show _=Apk (mD (Gc n)) (eD (Gc n) (Bp n))
 have hf:=Kj n
 have hw:=J4 n
 have small:∀ k:Nat,k<2^54→Ep k<268435456:=fun k hk=>Ami (k:=2) (Nat.lt_trans hk (by decide)) (by omega)
 have o1:∀ k:Nat,k<2^54→N9 (Bv (k:Int)) (Aw (k:Int))=true:=fun k hk=>Ku (by rw [Int.natAbs_natCast]; exact small k hk)
 have o2:∀ k:Nat,k<2^54→N9 (Bv (-(k:Int))) (Aw (-(k:Int)))=true:=fun k hk=>Ku (by rw [Int.natAbs_neg,Int.natAbs_natCast]; exact small k hk)
 rw [A6.Value.ev]
 unfold Dw Nt Eb Gc Bp
 simp only [Jb,A4i]
 have e1:Ab ((Dr n:Nat):Int)=((Dr n:Nat):Int):=An (by omega) (by omega)
 have e2:Ab (Bq (((Dr n:Nat):Int)+4503599627370496))=((Dr n+2^52:Nat):Int):=by
  rw [Eh (by omega) (by omega),An (by omega) (by omega)]; omega
 have i1:∀ k:Nat,k<2^54→Aml (k:Int)=true:=fun k hk=>Aq.2 (by omega)
 rw [Kh,Cm hn,e1,e2,i1 _ (by omega),i1 _ (by omega),Av,An (by omega) (by omega)]
 simp only [A4g]
 unfold Ay A3
 by_cases h:Ea n=0
 ·have o3:Afc (-1074)=true:=Aq.2 (by omega)
  rw [A43 h,A43 h,A4l (by omega),A4k,o1 _ (by omega),o2 _ (by omega),o3]
  cases By n
  ·rw [A4k,Vm]; rfl
  ·rw [A4g,Ag4]; rfl
 ·have o3:Afc ((Ea n:Int)-1075)=true:=Aq.2 (by omega)
  rw [A42 h,A42 h,A4h (by omega),A4g,o1 _ (by omega),o2 _ (by omega),o3]
  cases By n
  ·rw [A4k,Vm]; rfl
  ·rw [A4g,Ag4]; rfl
theorem Aqd {m t:Nat} (h:m<2^t) (h0:m≠0):T3 m<t:=A5i (Awy h0) ((A5w h0).2 h)
theorem Ap8 (b:Nat) (g:Int):Hl b g=vAt (Gc (b:Int)) (A3 b) g:=by
 unfold Hl vAt Gc
 rw [A4i]
 generalize 2^(A3 b-g).toNat=p
 unfold Ja
 cases By b
 ·exact A41 _ _
 ·show -((Ay b*p:Nat):Int)=-(Ay b:Int)*(p:Int)
  rw [A41,Int.neg_mul]
theorem Aen (b:Nat):(Gc (b:Int)).natAbs=Ay b:=by
 unfold Gc Ja
 rw [A4i]
 split<;>omega
theorem Axn (b:Nat):Ep (Gc (b:Int)).natAbs<3∧-400000≤eD (Gc (b:Int)) (A3 b)∧eD (Gc (b:Int)) (A3 b)≤400000:=by
 have hm:=Ge b
 have he:=Dy b
 have ha:=Aen b
 refine ⟨Ami (k:=2) (by rw [ha]; exact Nat.lt_trans hm (by decide)) (by omega),?_⟩
 unfold eD
 by_cases h:Gc (b:Int)=0
 ·rw [A43 h]; omega
 ·rw [A42 h]
  have:=Aqd (m:=(Gc (b:Int)).natAbs) (t:=53) (by rw [ha]; exact hm) (by omega)
  omega
namespace EqCmp
def compare.L7.Bc:List (Nat × Entry):=[(181,soft.Sign.spec)]
def compare.L7.E:Env:=Bi (Be compare.L7.Bc) (fun _=>false) (fun _=>none) (fun _=>none)
theorem compare.L7.ev (N:Nat) (b:Int):B0 compare.L7.E N f172 (Ak f172) [.int .u64 b]=bif (Af b) then bif (Eb b) then some (.int .i64 (Ab (0-(Ab (Ie .u64 b 9223372036854775808))))) else some (.int .i64 (Ab b)) else none:=by kernel_rfl
abbrev _root_.Go.Proofs.S1.compare.L7.Kn:=A8 prog 172 compare.L7.spec
theorem compare.L7.Ad (hk:A2 prog compare.L7.Bc) (h:Hyp compare.L7.E f172 compare.L7.ts compare.L7.pre compare.L7.out):compare.L7.Kn :=
 Am (A5 hk _ _ _) func172 (by kernel_rfl) (by kernel_rfl) h
def compare.Order.Bc:List (Nat × Entry):=[(172,compare.L7.spec),(165,soft.Kind.spec)]
def compare.Order.E:Env:=Bi (Be compare.Order.Bc) (fun _=>false) (fun _=>none) (fun _=>none)
theorem compare.Order.ev (N:Nat) (a b:Int):B0 compare.Order.E N f131 (Ak f131) [.int .u64 a,.int .u64 b]=bif (Af a) then bif ((Bz a)==(4:Int)) then some (.tup [.int .i64 0,.bool false]) else bif (Af b) then bif ((Bz b)==(4:Int)) then some (.tup [.int .i64 0,.bool false]) else bif (Af a) then bif (Af b) then bif (Bb (Adb a) (Adb b)) then some (.tup [.int .i64 (-1:Int),.bool true]) else bif (Af a) then bif (Af b) then bif (Bb (Adb b) (Adb a)) then some (.tup [.int .i64 1,.bool true]) else some (.tup [.int .i64 0,.bool true]) else none else none else none else none else none else none:=by kernel_rfl
abbrev _root_.Go.Proofs.S1.compare.Order.Kn:=A8 prog 131 compare.Order.spec
theorem compare.Order.Ad (hk:A2 prog compare.Order.Bc) (h:Hyp compare.Order.E f131 compare.Order.ts compare.Order.pre compare.Order.out):compare.Order.Kn :=
 Am (A5 hk _ _ _) func131 (by kernel_rfl) (by kernel_rfl) h
def compare.Lt.Bc:List (Nat × Entry):=[(131,compare.Order.spec)]
def compare.Lt.E:Env:=Bi (Be compare.Lt.Bc) (fun _=>false) (fun _=>none) (fun _=>none)
theorem compare.Lt.ev (N:Nat) (a b:Int):B0 compare.Lt.E N f78 (Ak f78) [.int .u64 a,.int .u64 b]=bif (Af a&&Af b) then some (.bool (Bb (Hq a b) 0)) else none:=by kernel_rfl
abbrev _root_.Go.Proofs.S1.compare.Lt.Kn:=A8 prog 78 compare.Lt.spec
theorem compare.Lt.Ad (hk:A2 prog compare.Lt.Bc) (h:Hyp compare.Lt.E f78 compare.Lt.ts compare.Lt.pre compare.Lt.out):compare.Lt.Kn :=
 Am (A5 hk _ _ _) func78 (by kernel_rfl) (by kernel_rfl) h
def compare.Hy.Bc:List (Nat × Entry):=[]
def compare.Hy.E:Env:=Bi (Be compare.Hy.Bc) (fun _=>false) (fun _=>none) (fun _=>none)
theorem compare.Hy.ev (N:Nat) (a:Int):B0 compare.Hy.E N f80 (Ak f80) [.int .u64 a]=some (.int .u64 (Ie .u64 a 9223372036854775808)):=by kernel_rfl
abbrev _root_.Go.Proofs.S1.compare.Hy.Kn:=A8 prog 80 compare.Hy.spec
theorem compare.Hy.Ad (hk:A2 prog compare.Hy.Bc) (h:Hyp compare.Hy.E f80 compare.Hy.ts compare.Hy.pre compare.Hy.out):compare.Hy.Kn :=
 Am (A5 hk _ _ _) func80 (by kernel_rfl) (by kernel_rfl) h
def compare.Ft.hint:Nat→Option Ba
 | 1=>some { keep:=[0,6,7,8],objs:=[],boxes:=[] }
 | _=>none
def compare.Ft.Bc:List (Nat × Entry):=[(165,soft.Kind.spec),(180,soft.D9.spec),(166,soft.G0.spec),(181,soft.Sign.spec)]
def compare.Ft.E:Env:=Bi (Be compare.Ft.Bc) (fun _=>false) compare.Ft.hint (fun _=>none)
section
variable (N M:Nat) (a n p6 p7:Int) (p8:Bool)
def compare.Ft.L0:Option DV:=B8 compare.Ft.E N f143 (Ak f143) [1,1,1,1,1,1,0,0] [] M ⟨Ff 59 [(0,.int .u64 a),(6,.int .u64 p6),(7,.int .i64 p7),(8,.bool p8)],[]⟩
theorem compare.Ft.Ar:compare.Ft.L0 N (M+1) a p6 p7 p8=bif ((Bb p7 (-1130:Int))&&(Bb 1 p6)) then compare.Ft.L0 N M a (Ef .u64 p6 1) (Ab (p7+1)) (bif p8 then true else ((Fx .u64 p6 1)==(1:Int))) else bif (Bb p7 (-1130:Int)) then bif (Af a) then bif (Fe 0 (-1074:Int) true) then some (.tup [.int .u64 (F0 (Eb a) 0 (-1074:Int) true),.int .u8 (Fz (Eb a) 0 (-1074:Int) true)]) else none else none else bif (Af a) then bif (Fe p6 p7 p8) then some (.tup [.int .u64 (F0 (Eb a) p6 p7 p8),.int .u8 (Fz (Eb a) p6 p7 p8)]) else none else none :=
 Eq.trans (by kernel_rfl)
 (Ax (R6 (Bb p7 (-1130:Int))) (Ax (No (Bb p7 (-1130:Int))) (Ax (W5 (Bb p7 (-1130:Int))) (Cw (tt1 _ _) (Ax (W4 p8) (Ax (T8 p8) (Ax (T8 p8) (Ax (tt6 p8) rfl)))) rfl))))
theorem compare.Ft.ev:B0 compare.Ft.E N f143 (Ak f143) [.int .u64 a,.int .i64 n]=bif (Af a) then bif ((Bz a)==(4:Int)) then some (.tup [.int .u64 9221120237041090560,.int .u8 0]) else bif ((Bz a)==(3:Int)) then bif ((Bz a)==(3:Int)) then some (.tup [.int .u64 a,.int .u8 0]) else bif (Af a) then compare.Ft.L0 N N a (B6 a) (Ab ((Bp a)+(max (-2300:Int) (min 2300 n)))) false else none else bif ((Bz a)==(0:Int)) then some (.tup [.int .u64 a,.int .u8 0]) else bif (Af a) then compare.Ft.L0 N N a (B6 a) (Ab ((Bp a)+(max (-2300:Int) (min 2300 n)))) false else none else none:=by kernel_rfl
end
abbrev _root_.Go.Proofs.S1.compare.Ft.Kn:=A8 prog 143 compare.Ft.spec
theorem compare.Ft.Ad (hk:A2 prog compare.Ft.Bc) (h:Hyp compare.Ft.E f143 compare.Ft.ts compare.Ft.pre compare.Ft.out):compare.Ft.Kn :=
 Am (A5 hk _ _ _) func143 (by kernel_rfl) (by kernel_rfl) h
def Ag.Bu.Bc:List (Nat × Entry):=[(143,compare.Ft.spec)]
def Ag.Bu.E:Env:=Bi (Be Ag.Bu.Bc) (fun _=>false) (fun _=>none) (fun _=>none)
theorem Ag.Bu.ev (N:Nat) (a n:Int):B0 Ag.Bu.E N f79 (Ak f79) [.int .u64 a,.int .i64 n]=bif (Df a n) then some (.int .u64 (Bg a n)) else none:=by kernel_rfl
abbrev _root_.Go.Proofs.S1.Ag.Bu.Kn:=A8 prog 79 Ag.Bu.spec
theorem Ag.Bu.Ad (hk:A2 prog Ag.Bu.Bc) (h:Hyp Ag.Bu.E f79 Ag.Bu.ts Ag.Bu.pre Ag.Bu.out):Ag.Bu.Kn :=
 Am (A5 hk _ _ _) func79 (by kernel_rfl) (by kernel_rfl) h
def Ag.Div.Bc:List (Nat × Entry):=[(144,times.Div.spec)]
def Ag.Div.E:Env:=Bi (Be Ag.Div.Bc) (fun _=>false) (fun _=>none) (fun _=>none)
theorem Ag.Div.ev (N:Nat) (a b:Int):B0 Ag.Div.E N f82 (Ak f82) [.int .u64 a,.int .u64 b]=bif (Af a&&Af b) then some (.int .u64 (Ey a b)) else none:=by kernel_rfl
abbrev _root_.Go.Proofs.S1.Ag.Div.Kn:=A8 prog 82 Ag.Div.spec
theorem Ag.Div.Ad (hk:A2 prog Ag.Div.Bc) (h:Hyp Ag.Div.E f82 Ag.Div.ts Ag.Div.pre Ag.Div.out):Ag.Div.Kn :=
 Am (A5 hk _ _ _) func82 (by kernel_rfl) (by kernel_rfl) h
def Ag.Bx.hint:Nat→Option Ba
 | 0=>some { keep:=[3,6,7,8],objs:=[],boxes:=[] }
 | _=>none
def Ag.Bx.Bc:List (Nat × Entry):=[(80,compare.Hy.spec),(165,soft.Kind.spec)]
def Ag.Bx.E:Env:=Bi (Be Ag.Bx.Bc) (fun _=>false) Ag.Bx.hint (fun _=>none)
section
variable (N M:Nat) (x:List Int) (p3 p8:Int)
def Ag.Bx.L0:Option DV:=B8 Ag.Bx.E N f124 (Ak f124) [1,1,0,1,0] [] M ⟨Ff 21 [(3,.int .u64 p3),(6,.ints .arg .u64 x),(7,.int .i64 (length x:Int)),(8,.int .i64 p8)],[]⟩
theorem Ag.Bx.Ar:Ag.Bx.L0 N (M+1) x p3 p8=bif (Bb p8 (length x:Int)) then bif ((decide (0≤p8))&&(decide (p8<(length x:Int)))) then bif (Af (getD x (toNat p8) 0)) then bif ((Bz (getD x (toNat p8) 0))==(4:Int)) then some (.int .u64 9221120237041090560) else bif (Af (getD x (toNat p8) 0)) then Ag.Bx.L0 N M x (max p3 (Iw (getD x (toNat p8) 0))) (Ab (p8+1)) else none else none else none else some (.int .u64 p3):=by kernel_rfl
theorem Ag.Bx.ev:B0 Ag.Bx.E N f124 (Ak f124) [.ints .arg .u64 x] =
 Ag.Bx.L0 N N x 0 0:=by kernel_rfl
end
abbrev _root_.Go.Proofs.S1.Ag.Bx.Kn:=A8 prog 124 Ag.Bx.spec
theorem Ag.Bx.Ad (hk:A2 prog Ag.Bx.Bc) (h:Hyp Ag.Bx.E f124 Ag.Bx.ts Ag.Bx.pre Ag.Bx.out):Ag.Bx.Kn :=
 Am (A5 hk _ _ _) func124 (by kernel_rfl) (by kernel_rfl) h
def Ag.Finite.hint:Nat→Option Ba
 | 0=>some { keep:=[5,6,7],objs:=[],boxes:=[] }
 | _=>none
def Ag.Finite.Bc:List (Nat × Entry):=[(136,soft.Finite.spec)]
def Ag.Finite.E:Env:=Bi (Be Ag.Finite.Bc) (fun _=>false) Ag.Finite.hint (fun _=>none)
section
variable (N M:Nat) (x:List Int) (p7:Int)
def Ag.Finite.L0:Option DV:=B8 Ag.Finite.E N f66 (Ak f66) [1,0,1,0] [] M ⟨Ff 15 [(5,.ints .arg .u64 x),(6,.int .i64 (length x:Int)),(7,.int .i64 p7)],[]⟩
theorem Ag.Finite.Ar:Ag.Finite.L0 N (M+1) x p7=bif (Bb p7 (length x:Int)) then bif ((decide (0≤p7))&&(decide (p7<(length x:Int)))) then bif (Af (getD x (toNat p7) 0)) then bif (!(Dz (getD x (toNat p7) 0))) then some (.bool false) else Ag.Finite.L0 N M x (Ab (p7+1)) else none else none else some (.bool true):=by kernel_rfl
theorem Ag.Finite.ev:B0 Ag.Finite.E N f66 (Ak f66) [.ints .arg .u64 x] =
 Ag.Finite.L0 N N x 0:=by kernel_rfl
end
abbrev _root_.Go.Proofs.S1.Ag.Finite.Kn:=A8 prog 66 Ag.Finite.spec
theorem Ag.Finite.Ad (hk:A2 prog Ag.Finite.Bc) (h:Hyp Ag.Finite.E f66 Ag.Finite.ts Ag.Finite.pre Ag.Finite.out):Ag.Finite.Kn :=
 Am (A5 hk _ _ _) func66 (by kernel_rfl) (by kernel_rfl) h
def Dv.Check.hint:Nat→Option Ba
 | 0=>some { keep:=[9,10,11],objs:=[],boxes:=[] }
 | _=>none
def Dv.Check.Bc:List (Nat × Entry):=[(121,Aa.Check.spec),(136,soft.Finite.spec)]
def Dv.Check.E:Env:=Bi (Be Dv.Check.Bc) (fun _=>false) Dv.Check.hint (fun _=>none)
section
variable (N:Nat) (r c:Int) (M:Nat) (l:List Int) (p11:Int)
def Dv.Check.L0:Option DV:=B8 Dv.Check.E N f69 (Ak f69) [1,1,0,1,0] [] M ⟨Ff 19 [(9,.ints .arg .u64 l),(10,.int .i64 (length l:Int)),(11,.int .i64 p11)],[]⟩
theorem Dv.Check.Ar:Dv.Check.L0 N (M+1) l p11=bif (Bb p11 (length l:Int)) then bif ((decide (0≤p11))&&(decide (p11<(length l:Int)))) then bif (Af (getD l (toNat p11) 0)) then bif (!(Dz (getD l (toNat p11) 0))) then some (.int .i64 4) else Dv.Check.L0 N M l (Ab (p11+1)) else none else none else some (.int .i64 0):=by kernel_rfl
theorem Dv.Check.ev:B0 Dv.Check.E N f69 (Ak f69) [.agg [.int .i64 r,.int .i64 c,.ints .arg .u64 l]]=bif ((Lq r c l) !=(0:Int)) then some (.int .i64 1) else Dv.Check.L0 N N l 0:=by kernel_rfl
end
abbrev _root_.Go.Proofs.S1.Dv.Check.Kn:=A8 prog 69 Dv.Check.spec
theorem Dv.Check.Ad (hk:A2 prog Dv.Check.Bc) (h:Hyp Dv.Check.E f69 Dv.Check.ts Dv.Check.pre Dv.Check.out):Dv.Check.Kn :=
 Am (A5 hk _ _ _) func69 (by kernel_rfl) (by kernel_rfl) h
end EqCmp
end Go.Proofs.S1
end
