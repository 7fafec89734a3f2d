/- A verified evaluator of the program's form and its use for this seat: S1EqOf, S1POf, S1PMatA, S1EqRef10, S1PRef10, S1PFill, S1EqHouse, S1PHouse, S1PApply, S1EqSol, S1PTri, S1EqFew. -/
import Derived.Test.YtjbokjpbiobjpaaGreatTE
import Derived.Test.YtjbokjpbiobjpaaGreatTF
import Derived.Test.YtjbokjpbiobjpaaGreatTI
set_option linter.unusedVariables false
set_option linter.unusedSimpArgs false
noncomputable section
open Int (toNat)
open List (length getD)
open Go.Proofs.Tryz
namespace Go.Proofs.S1
open Go Go.Den Go.C4 Go.Proofs
set_option maxRecDepth 100000
namespace EqOf
def Aa.of.Bc.hint:Nat→Option A9
 | 0=>some { keep:=[1,2,6,7,13,14],objs:=[(8,2,108002,.ints 37 .u64 [])],boxes:=[6,7] }
 | 2=>some { keep:=[1,2,6,7,8,13,14,17,18],objs:=[(8,2,108002,.ints 37 .u64 [])],boxes:=[6,7] }
 | _=>none
def Aa.of.Bc.Bf:List (Nat × Entry):=[(205,Aa.Df.spec)]
def Aa.of.Bc.E:Env:=Bg (Be Aa.of.Bc.Bf) (fun _=>false) Aa.of.Bc.hint (fun _=>none)
section
variable (N M0 M:Nat) (a b p8 p14_1 p18:Int) (p2:List Int) (p14:Int) (p2_1:List Int)
def Aa.of.Bc.L0:Option DV:=Bx Aa.of.Bc.E N f187 (An f187) [1,1,0,1,0] [] M ⟨Gm 33 [(1,.int .i64 b),(2,.fn 205 [] []),(6,.ptr 6 0 0),(7,.ptr 7 0 0),(13,.int .i64 a),(14,.int .i64 p14)],[(6,false,.box [.int .i64 0,.int .i64 0,.nil]),(7,false,.box [.int .i64 a,.int .i64 b,.oref 108002]),(108002,false,.ints 37 .u64 p2_1)]⟩
def Aa.of.Bc.L1:Option DV:=Bx Aa.of.Bc.E N f187 (An f187) [1,1,0,1,0,0,1,1,0,0,1,1,0] [M0] M ⟨Gm 33 [(1,.int .i64 b),(2,.fn 205 [] []),(6,.ptr 6 0 0),(7,.ptr 7 0 0),(8,.int .i64 p8),(13,.int .i64 a),(14,.int .i64 p14_1),(17,.int .i64 b),(18,.int .i64 p18)],[(6,false,.box [.int .i64 0,.int .i64 0,.nil]),(7,false,.box [.int .i64 a,.int .i64 b,.oref 108002]),(108002,false,.ints 37 .u64 p2)]⟩
theorem Aa.of.Bc.Ax:Aa.of.Bc.L0 N (M+1) a b p14 p2_1=bif (A6 p14 a) then Aa.of.Bc.L1 N M N a b p14 p14 0 p2_1 else some (.agg [.int .i64 a,.int .i64 b,.ints (.own 108002 37) .u64 p2_1]):=by kernel_rfl
theorem Aa.of.Bc.Cc:Aa.of.Bc.L1 N M0 (M+1) a b p8 p14_1 p18 p2=bif (A6 p18 b) then bif (decide ((length p2)+1≤Ga)) then Aa.of.Bc.L1 N M0 M a b p8 p14_1 (Ab (p18+1)) (p2++[(0:Int)]) else none else Aa.of.Bc.L0 N M0 a b (Ab (p14_1+1)) p2 :=
 Eq.trans (by kernel_rfl)
 (Fq (Cy (Cr (decide ((length p2)+1≤Ga))) rfl rfl) rfl)
theorem Aa.of.Bc.ev:By Aa.of.Bc.E N f187 (An f187) [.int .i64 a,.int .i64 b,.fn 205 [] []] =
 Aa.of.Bc.L0 N N a b 0 []:=by kernel_rfl
end
def Aa.of.D8.hint:Nat→Option A9
 | 0=>some { keep:=[1,2,6,7,13,14],objs:=[(8,2,108002,.ints 37 .u64 [])],boxes:=[6,7] }
 | 2=>some { keep:=[1,2,6,7,8,13,14,17,18],objs:=[(8,2,108002,.ints 37 .u64 [])],boxes:=[6,7] }
 | _=>none
def Aa.of.D8.Bf:List (Nat × Entry):=[(246,Aa.F9.spec)]
def Aa.of.D8.E:Env:=Bg (Be Aa.of.D8.Bf) (fun _=>false) Aa.of.D8.hint (fun _=>none)
section
variable (N M0 M:Nat) (a b p8 p14_1 p18:Int) (p2:List Int) (p14:Int) (p2_1:List Int)
def Aa.of.D8.L0:Option DV:=Bx Aa.of.D8.E N f187 (An f187) [1,1,0,1,0] [] M ⟨Gm 33 [(1,.int .i64 b),(2,.fn 246 [] []),(6,.ptr 6 0 0),(7,.ptr 7 0 0),(13,.int .i64 a),(14,.int .i64 p14)],[(6,false,.box [.int .i64 0,.int .i64 0,.nil]),(7,false,.box [.int .i64 a,.int .i64 b,.oref 108002]),(108002,false,.ints 37 .u64 p2_1)]⟩
def Aa.of.D8.L1:Option DV:=Bx Aa.of.D8.E N f187 (An f187) [1,1,0,1,0,0,1,1,0,0,1,1,0] [M0] M ⟨Gm 33 [(1,.int .i64 b),(2,.fn 246 [] []),(6,.ptr 6 0 0),(7,.ptr 7 0 0),(8,.int .i64 p8),(13,.int .i64 a),(14,.int .i64 p14_1),(17,.int .i64 b),(18,.int .i64 p18)],[(6,false,.box [.int .i64 0,.int .i64 0,.nil]),(7,false,.box [.int .i64 a,.int .i64 b,.oref 108002]),(108002,false,.ints 37 .u64 p2)]⟩
theorem Aa.of.D8.Ax:Aa.of.D8.L0 N (M+1) a b p14 p2_1=bif (A6 p14 a) then Aa.of.D8.L1 N M N a b p14 p14 0 p2_1 else some (.agg [.int .i64 a,.int .i64 b,.ints (.own 108002 37) .u64 p2_1]):=by kernel_rfl
theorem Aa.of.D8.Cc:Aa.of.D8.L1 N M0 (M+1) a b p8 p14_1 p18 p2=bif (A6 p18 b) then bif (decide ((length p2)+1≤Ga)) then Aa.of.D8.L1 N M0 M a b p8 p14_1 (Ab (p18+1)) (p2++[(Ln p8 p18)]) else none else Aa.of.D8.L0 N M0 a b (Ab (p14_1+1)) p2 :=
 Eq.trans (by kernel_rfl)
 (Fq (Cy (Cr (decide ((length p2)+1≤Ga))) rfl rfl) rfl)
theorem Aa.of.D8.ev:By Aa.of.D8.E N f187 (An f187) [.int .i64 a,.int .i64 b,.fn 246 [] []] =
 Aa.of.D8.L0 N N a b 0 []:=by kernel_rfl
end
abbrev _root_.Go.Proofs.S1.Aa.of.D8.Kn:=A7 prog 187 Aa.of.D8.spec
theorem Aa.of.D8.Ae (hk:A1 prog Aa.of.D8.Bf) (h:Hyp Aa.of.D8.E f187 Aa.of.D8.ts Aa.of.D8.pre Aa.of.D8.out):Aa.of.D8.Kn :=
 Am (A3 hk _ _ _) func187 (by kernel_rfl) (by kernel_rfl) h
def Aa.of.B7.hint:Nat→Option A9
 | 0=>some { keep:=[1,2,6,7,13,14],objs:=[(8,2,108002,.ints 37 .u64 [])],boxes:=[6,7] }
 | 2=>some { keep:=[1,2,6,7,8,13,14,17,18],objs:=[(8,2,108002,.ints 37 .u64 [])],boxes:=[6,7] }
 | _=>none
def Aa.of.B7.Bf:List (Nat × Entry):=[(220,Aa.Ed.spec)]
def Aa.of.B7.E:Env:=Bg (Be Aa.of.B7.Bf) (fun _=>false) Aa.of.B7.hint (fun _=>none)
section
variable (N M0 M:Nat) (a b r c:Int) (l:List Int) (p8 p14_1 p18:Int) (p2:List Int) (p14:Int) (p2_1:List Int)
def Aa.of.B7.L0:Option DV:=Bx Aa.of.B7.E N f187 (An f187) [1,1,0,1,0] [] M ⟨Gm 33 [(1,.int .i64 b),(2,.fn 220 [] [.cellp [.int .i64 r,.int .i64 c,.ints .arg .u64 l]]),(6,.ptr 6 0 0),(7,.ptr 7 0 0),(13,.int .i64 a),(14,.int .i64 p14)],[(6,false,.box [.int .i64 0,.int .i64 0,.nil]),(7,false,.box [.int .i64 a,.int .i64 b,.oref 108002]),(108002,false,.ints 37 .u64 p2_1)]⟩
def Aa.of.B7.L1:Option DV:=Bx Aa.of.B7.E N f187 (An f187) [1,1,0,1,0,0,1,1,0,0,1,1,0] [M0] M ⟨Gm 33 [(1,.int .i64 b),(2,.fn 220 [] [.cellp [.int .i64 r,.int .i64 c,.ints .arg .u64 l]]),(6,.ptr 6 0 0),(7,.ptr 7 0 0),(8,.int .i64 p8),(13,.int .i64 a),(14,.int .i64 p14_1),(17,.int .i64 b),(18,.int .i64 p18)],[(6,false,.box [.int .i64 0,.int .i64 0,.nil]),(7,false,.box [.int .i64 a,.int .i64 b,.oref 108002]),(108002,false,.ints 37 .u64 p2)]⟩
theorem Aa.of.B7.Ax:Aa.of.B7.L0 N (M+1) a b r c l p14 p2_1=bif (A6 p14 a) then Aa.of.B7.L1 N M N a b r c l p14 p14 0 p2_1 else some (.agg [.int .i64 a,.int .i64 b,.ints (.own 108002 37) .u64 p2_1]):=by kernel_rfl
theorem Aa.of.B7.Cc:Aa.of.B7.L1 N M0 (M+1) a b r c l p8 p14_1 p18 p2=bif (A6 p18 b) then bif (Ds r c l p18 p8) then bif (decide ((length p2)+1≤Ga)) then Aa.of.B7.L1 N M0 M a b r c l p8 p14_1 (Ab (p18+1)) (p2++[(Cv c l p18 p8)]) else none else none else Aa.of.B7.L0 N M0 a b r c l (Ab (p14_1+1)) p2 :=
 Eq.trans (by kernel_rfl)
 (Fq (Cy (Cr (Ds r c l p18 p8)) (Cy (Cr (decide ((length p2)+1≤Ga))) rfl rfl) rfl) rfl)
theorem Aa.of.B7.ev:By Aa.of.B7.E N f187 (An f187) [.int .i64 a,.int .i64 b,.fn 220 [] [.cellp [.int .i64 r,.int .i64 c,.ints .arg .u64 l]]] =
 Aa.of.B7.L0 N N a b r c l 0 []:=by kernel_rfl
end
abbrev _root_.Go.Proofs.S1.Aa.of.B7.Kn:=A7 prog 187 Aa.of.B7.spec
theorem Aa.of.B7.Ae (hk:A1 prog Aa.of.B7.Bf) (h:Hyp Aa.of.B7.E f187 Aa.of.B7.ts Aa.of.B7.pre Aa.of.B7.out):Aa.of.B7.Kn :=
 Am (A3 hk _ _ _) func187 (by kernel_rfl) (by kernel_rfl) h
def Aa.of.Part.hint:Nat→Option A9
 | 0=>some { keep:=[1,2,6,7,13,14],objs:=[(8,2,108002,.ints 37 .u64 [])],boxes:=[6,7] }
 | 2=>some { keep:=[1,2,6,7,8,13,14,17,18],objs:=[(8,2,108002,.ints 37 .u64 [])],boxes:=[6,7] }
 | _=>none
def Aa.of.Part.Bf:List (Nat × Entry):=[(192,Aa.Ee.spec)]
def Aa.of.Part.E:Env:=Bg (Be Aa.of.Part.Bf) (fun _=>false) Aa.of.Part.hint (fun _=>none)
section
variable (N M0 M:Nat) (a b r c:Int) (l:List Int) (x y p8 p14_1 p18:Int) (p2:List Int) (p14:Int) (p2_1:List Int)
def Aa.of.Part.L0:Option DV:=Bx Aa.of.Part.E N f187 (An f187) [1,1,0,1,0] [] M ⟨Gm 33 [(1,.int .i64 b),(2,.fn 192 [] [.cellp [.int .i64 r,.int .i64 c,.ints .arg .u64 l],.cellp [.int .i64 x],.cellp [.int .i64 y]]),(6,.ptr 6 0 0),(7,.ptr 7 0 0),(13,.int .i64 a),(14,.int .i64 p14)],[(6,false,.box [.int .i64 0,.int .i64 0,.nil]),(7,false,.box [.int .i64 a,.int .i64 b,.oref 108002]),(108002,false,.ints 37 .u64 p2_1)]⟩
def Aa.of.Part.L1:Option DV:=Bx Aa.of.Part.E N f187 (An f187) [1,1,0,1,0,0,1,1,0,0,1,1,0] [M0] M ⟨Gm 33 [(1,.int .i64 b),(2,.fn 192 [] [.cellp [.int .i64 r,.int .i64 c,.ints .arg .u64 l],.cellp [.int .i64 x],.cellp [.int .i64 y]]),(6,.ptr 6 0 0),(7,.ptr 7 0 0),(8,.int .i64 p8),(13,.int .i64 a),(14,.int .i64 p14_1),(17,.int .i64 b),(18,.int .i64 p18)],[(6,false,.box [.int .i64 0,.int .i64 0,.nil]),(7,false,.box [.int .i64 a,.int .i64 b,.oref 108002]),(108002,false,.ints 37 .u64 p2)]⟩
theorem Aa.of.Part.Ax:Aa.of.Part.L0 N (M+1) a b r c l x y p14 p2_1=bif (A6 p14 a) then Aa.of.Part.L1 N M N a b r c l x y p14 p14 0 p2_1 else some (.agg [.int .i64 a,.int .i64 b,.ints (.own 108002 37) .u64 p2_1]):=by kernel_rfl
theorem Aa.of.Part.Cc:Aa.of.Part.L1 N M0 (M+1) a b r c l x y p8 p14_1 p18 p2=bif (A6 p18 b) then bif (Ds r c l (x+p8) (y+p18)&&R7 x y p8 p18) then bif (decide ((length p2)+1≤Ga)) then Aa.of.Part.L1 N M0 M a b r c l x y p8 p14_1 (Ab (p18+1)) (p2++[(Cv c l (x+p8) (y+p18))]) else none else none else Aa.of.Part.L0 N M0 a b r c l x y (Ab (p14_1+1)) p2 :=
 Eq.trans (by kernel_rfl)
 (Fq (Cy (Cr (Ds r c l (x+p8) (y+p18)&&R7 x y p8 p18)) (Cy (Cr (decide ((length p2)+1≤Ga))) rfl rfl) rfl) rfl)
theorem Aa.of.Part.ev:By Aa.of.Part.E N f187 (An f187) [.int .i64 a,.int .i64 b,.fn 192 [] [.cellp [.int .i64 r,.int .i64 c,.ints .arg .u64 l],.cellp [.int .i64 x],.cellp [.int .i64 y]]] =
 Aa.of.Part.L0 N N a b r c l x y 0 []:=by kernel_rfl
end
abbrev _root_.Go.Proofs.S1.Aa.of.Part.Kn:=A7 prog 187 Aa.of.Part.spec
theorem Aa.of.Part.Ae (hk:A1 prog Aa.of.Part.Bf) (h:Hyp Aa.of.Part.E f187 Aa.of.Part.ts Aa.of.Part.pre Aa.of.Part.out):Aa.of.Part.Kn :=
 Am (A3 hk _ _ _) func187 (by kernel_rfl) (by kernel_rfl) h
def Aa.of.Mul.hint:Nat→Option A9
 | 0=>some { keep:=[1,2,6,7,13,14],objs:=[(8,2,108002,.ints 37 .u64 [])],boxes:=[6,7] }
 | 2=>some { keep:=[1,2,6,7,8,13,14,17,18],objs:=[(8,2,108002,.ints 37 .u64 [])],boxes:=[6,7] }
 | _=>none
def Aa.of.Mul.Bf:List (Nat × Entry):=[(188,Aa.F6.spec)]
def Aa.of.Mul.E:Env:=Bg (Be Aa.of.Mul.Bf) (fun _=>false) Aa.of.Mul.hint (fun _=>none)
section
variable (N M0 M:Nat) (a b r c:Int) (l:List Int) (p q:Int) (m:List Int) (p8 p14_1 p18:Int) (p2:List Int) (p14:Int) (p2_1:List Int)
def Aa.of.Mul.L0:Option DV:=Bx Aa.of.Mul.E N f187 (An f187) [1,1,0,1,0] [] M ⟨Gm 33 [(1,.int .i64 b),(2,.fn 188 [] [.cellp [.int .i64 r,.int .i64 c,.ints .arg .u64 l],.cellp [.int .i64 p,.int .i64 q,.ints .arg .u64 m]]),(6,.ptr 6 0 0),(7,.ptr 7 0 0),(13,.int .i64 a),(14,.int .i64 p14)],[(6,false,.box [.int .i64 0,.int .i64 0,.nil]),(7,false,.box [.int .i64 a,.int .i64 b,.oref 108002]),(108002,false,.ints 37 .u64 p2_1)]⟩
def Aa.of.Mul.L1:Option DV:=Bx Aa.of.Mul.E N f187 (An f187) [1,1,0,1,0,0,1,1,0,0,1,1,0] [M0] M ⟨Gm 33 [(1,.int .i64 b),(2,.fn 188 [] [.cellp [.int .i64 r,.int .i64 c,.ints .arg .u64 l],.cellp [.int .i64 p,.int .i64 q,.ints .arg .u64 m]]),(6,.ptr 6 0 0),(7,.ptr 7 0 0),(8,.int .i64 p8),(13,.int .i64 a),(14,.int .i64 p14_1),(17,.int .i64 b),(18,.int .i64 p18)],[(6,false,.box [.int .i64 0,.int .i64 0,.nil]),(7,false,.box [.int .i64 a,.int .i64 b,.oref 108002]),(108002,false,.ints 37 .u64 p2)]⟩
theorem Aa.of.Mul.Ax:Aa.of.Mul.L0 N (M+1) a b r c l p q m p14 p2_1=bif (A6 p14 a) then Aa.of.Mul.L1 N M N a b r c l p q m p14 p14 0 p2_1 else some (.agg [.int .i64 a,.int .i64 b,.ints (.own 108002 37) .u64 p2_1]):=by kernel_rfl
theorem Aa.of.Mul.Cc:Aa.of.Mul.L1 N M0 (M+1) a b r c l p q m p8 p14_1 p18 p2=bif (A6 p18 b) then bif (P9 r c l p q m p8 p18) then bif (decide ((length p2)+1≤Ga)) then Aa.of.Mul.L1 N M0 M a b r c l p q m p8 p14_1 (Ab (p18+1)) (p2++[(Pl (Dh c l p8) (Qj p q m p18))]) else none else none else Aa.of.Mul.L0 N M0 a b r c l p q m (Ab (p14_1+1)) p2 :=
 Eq.trans (by kernel_rfl)
 (Fq (Cy (Cr (P9 r c l p q m p8 p18)) (Cy (Cr (decide ((length p2)+1≤Ga))) rfl rfl) rfl) rfl)
theorem Aa.of.Mul.ev:By Aa.of.Mul.E N f187 (An f187) [.int .i64 a,.int .i64 b,.fn 188 [] [.cellp [.int .i64 r,.int .i64 c,.ints .arg .u64 l],.cellp [.int .i64 p,.int .i64 q,.ints .arg .u64 m]]] =
 Aa.of.Mul.L0 N N a b r c l p q m 0 []:=by kernel_rfl
end
abbrev _root_.Go.Proofs.S1.Aa.of.Mul.Kn:=A7 prog 187 Aa.of.Mul.spec
theorem Aa.of.Mul.Ae (hk:A1 prog Aa.of.Mul.Bf) (h:Hyp Aa.of.Mul.E f187 Aa.of.Mul.ts Aa.of.Mul.pre Aa.of.Mul.out):Aa.of.Mul.Kn :=
 Am (A3 hk _ _ _) func187 (by kernel_rfl) (by kernel_rfl) h
def Aa.D8.Bf:List (Nat × Entry):=[(187,Aa.of.D8.spec),(204,Aa.size.spec)]
def Aa.D8.E:Env:=Bg (Be Aa.D8.Bf) (fun _=>false) (fun _=>none) (fun _=>none)
theorem Aa.D8.ev (N:Nat) (n:Int):By Aa.D8.E N f218 (An f218) [.int .i64 n]=bif (!(Bn n)) then some (.tup [.agg [.int .i64 0,.int .i64 0,.nil],.int .i64 3]) else bif ((Bn n&&Bn n)) then some (.tup [.agg [.int .i64 n,.int .i64 n,.ints .fresh .u64 (Cj (toNat n) (toNat n) (fun j1 j2=>Ln j1 j2))],.int .i64 0]) else none:=by kernel_rfl
abbrev _root_.Go.Proofs.S1.Aa.D8.Kn:=A7 prog 218 Aa.D8.spec
theorem Aa.D8.Ae (hk:A1 prog Aa.D8.Bf) (h:Hyp Aa.D8.E f218 Aa.D8.ts Aa.D8.pre Aa.D8.out):Aa.D8.Kn :=
 Am (A3 hk _ _ _) func218 (by kernel_rfl) (by kernel_rfl) h
def Aa.B7.Bf:List (Nat × Entry):=[(160,Aa.Check.spec),(187,Aa.of.B7.spec)]
def Aa.B7.E:Env:=Bg (Be Aa.B7.Bf) (fun _=>false) (fun _=>none) (fun _=>none)
theorem Aa.B7.ev (N:Nat) (r c:Int) (l:List Int):By Aa.B7.E N f167 (An f167) [.agg [.int .i64 r,.int .i64 c,.ints .arg .u64 l]]=bif ((I2 r c l) !=(0:Int)) then some (.tup [.agg [.int .i64 0,.int .i64 0,.nil],.int .i64 (I2 r c l)]) else bif ((Bn c&&Bn r)&&Bj r c l&&decide (c=c∧r=r)) then some (.tup [.agg [.int .i64 c,.int .i64 r,.ints .fresh .u64 (Cj (toNat c) (toNat r) (fun j1 j2=>Cv c l j2 j1))],.int .i64 0]) else none:=by kernel_rfl
abbrev _root_.Go.Proofs.S1.Aa.B7.Kn:=A7 prog 167 Aa.B7.spec
theorem Aa.B7.Ae (hk:A1 prog Aa.B7.Bf) (h:Hyp Aa.B7.E f167 Aa.B7.ts Aa.B7.pre Aa.B7.out):Aa.B7.Kn :=
 Am (A3 hk _ _ _) func167 (by kernel_rfl) (by kernel_rfl) h
def Aa.Part.Bf:List (Nat × Entry):=[(160,Aa.Check.spec),(187,Aa.of.Part.spec)]
def Aa.Part.E:Env:=Bg (Be Aa.Part.Bf) (fun _=>false) (fun _=>none) (fun _=>none)
theorem Aa.Part.ev (N:Nat) (r c:Int) (l:List Int) (x y:Int) (a b:Int):By Aa.Part.E N f124 (An f124) [.agg [.int .i64 r,.int .i64 c,.ints .arg .u64 l],.int .i64 x,.int .i64 y,.int .i64 a,.int .i64 b]=bif ((I2 r c l) !=(0:Int)) then some (.tup [.agg [.int .i64 0,.int .i64 0,.nil],.int .i64 (I2 r c l)]) else bif ((((((((A6 x 0)||(A6 y 0))||(A6 a 0))||(A6 b 0))||(A6 r x))||(A6 c y))||(A6 (Ab (r-x)) a))||(A6 (Ab (c-y)) b)) then some (.tup [.agg [.int .i64 0,.int .i64 0,.nil],.int .i64 3]) else bif ((Bn a&&Bn b)&&Bj r c l&&Nl r c x y a b) then some (.tup [.agg [.int .i64 a,.int .i64 b,.ints .fresh .u64 (Cj (toNat a) (toNat b) (fun j1 j2=>Cv c l (x+j1) (y+j2)))],.int .i64 0]) else none :=
 Eq.trans (by kernel_rfl)
 (Fq rfl (Ay (Wl (A6 x 0)) (Ay (Un (A6 x 0)) (Ay (tt6 (A6 x 0)) (Ay (Aio (A6 x 0) (A6 y 0)) (Ay (Amj (A6 x 0) (A6 y 0)) (Ay (Apm (A6 x 0) (A6 y 0)) (Ay (Apn (A6 x 0) (A6 y 0) (A6 a 0)) (Ay (Apo (A6 x 0) (A6 y 0) (A6 a 0)) (Ay (Apq (A6 x 0) (A6 y 0) (A6 a 0)) (Ay (Afx (A6 x 0) (A6 y 0) (A6 a 0) (A6 b 0)) (Ay (Afx (A6 x 0) (A6 y 0) (A6 a 0) (A6 b 0)) (Ay (Amk (A6 x 0) (A6 y 0) (A6 a 0) (A6 b 0)) (Ay (Apr (A6 x 0) (A6 y 0) (A6 a 0) (A6 b 0)) (Ay (Aps (A6 x 0) (A6 y 0) (A6 a 0) (A6 b 0)) (Ay (Aml (A6 x 0) (A6 y 0) (A6 a 0) (A6 b 0) (A6 r x)) (Ay (Aml (A6 x 0) (A6 y 0) (A6 a 0) (A6 b 0) (A6 r x)) (Ay (Apt (A6 x 0) (A6 y 0) (A6 a 0) (A6 b 0) (A6 r x)) (Ay (Ar3 (A6 x 0) (A6 y 0) (A6 a 0) (A6 b 0) (A6 r x)) (Ay (Ar4 (A6 x 0) (A6 y 0) (A6 a 0) (A6 b 0) (A6 r x)) (Ay (Amm (A6 x 0) (A6 y 0) (A6 a 0) (A6 b 0) (A6 r x) (A6 c y)) (Ay (Amm (A6 x 0) (A6 y 0) (A6 a 0) (A6 b 0) (A6 r x) (A6 c y)) (Ay (Apu (A6 x 0) (A6 y 0) (A6 a 0) (A6 b 0) (A6 r x) (A6 c y)) (Ay (Amm (A6 x 0) (A6 y 0) (A6 a 0) (A6 b 0) (A6 r x) (A6 c y)) (Ay (Ar5 (A6 x 0) (A6 y 0) (A6 a 0) (A6 b 0) (A6 r x) (A6 c y)) (Ay (Ar5 (A6 x 0) (A6 y 0) (A6 a 0) (A6 b 0) (A6 r x) (A6 c y)) (Ay (Ar6 (A6 x 0) (A6 y 0) (A6 a 0) (A6 b 0) (A6 r x) (A6 c y)) (Ay (Amo (A6 x 0) (A6 y 0) (A6 a 0) (A6 b 0) (A6 r x) (A6 c y) (A6 (Ab (r-x)) a)) (Ay (Amo (A6 x 0) (A6 y 0) (A6 a 0) (A6 b 0) (A6 r x) (A6 c y) (A6 (Ab (r-x)) a)) (Ay (Apv (A6 x 0) (A6 y 0) (A6 a 0) (A6 b 0) (A6 r x) (A6 c y) (A6 (Ab (r-x)) a)) (Ay (Amo (A6 x 0) (A6 y 0) (A6 a 0) (A6 b 0) (A6 r x) (A6 c y) (A6 (Ab (r-x)) a)) (Ay (Ar7 (A6 x 0) (A6 y 0) (A6 a 0) (A6 b 0) (A6 r x) (A6 c y) (A6 (Ab (r-x)) a)) (Ay (Ar7 (A6 x 0) (A6 y 0) (A6 a 0) (A6 b 0) (A6 r x) (A6 c y) (A6 (Ab (r-x)) a)) (Ay (Ar8 (A6 x 0) (A6 y 0) (A6 a 0) (A6 b 0) (A6 r x) (A6 c y) (A6 (Ab (r-x)) a)) (Cy (Ar9 (A6 x 0) (A6 y 0) (A6 a 0) (A6 b 0) (A6 r x) (A6 c y) (A6 (Ab (r-x)) a) (A6 (Ab (c-y)) b)) rfl rfl)))))))))))))))))))))))))))))))))))
abbrev _root_.Go.Proofs.S1.Aa.Part.Kn:=A7 prog 124 Aa.Part.spec
theorem Aa.Part.Ae (hk:A1 prog Aa.Part.Bf) (h:Hyp Aa.Part.E f124 Aa.Part.ts Aa.Part.pre Aa.Part.out):Aa.Part.Kn :=
 Am (A3 hk _ _ _) func124 (by kernel_rfl) (by kernel_rfl) h
def Aa.Mul.Bf:List (Nat × Entry):=[(187,Aa.of.Mul.spec),(186,Aa.two.spec)]
def Aa.Mul.E:Env:=Bg (Be Aa.Mul.Bf) (fun _=>false) (fun _=>none) (fun _=>none)
theorem Aa.Mul.ev (N:Nat) (r c:Int) (l:List Int) (p q:Int) (m:List Int):By Aa.Mul.E N f123 (An f123) [.agg [.int .i64 r,.int .i64 c,.ints .arg .u64 l],.agg [.int .i64 p,.int .i64 q,.ints .arg .u64 m]]=bif ((Yl r c l p q m) !=(0:Int)) then some (.tup [.agg [.int .i64 0,.int .i64 0,.nil],.int .i64 (Yl r c l p q m)]) else bif (c !=p) then some (.tup [.agg [.int .i64 0,.int .i64 0,.nil],.int .i64 3]) else bif ((Bn r&&Bn q)&&((Bj r c l&&Bj p q m)&&(Ap l&&Ap m))&&decide (r=r∧q=q∧c=p)) then some (.tup [.agg [.int .i64 r,.int .i64 q,.ints .fresh .u64 (Cj (toNat r) (toNat q) (fun j1 j2=>Pl (Dh c l j1) (Qj p q m j2)))],.int .i64 0]) else none:=by kernel_rfl
abbrev _root_.Go.Proofs.S1.Aa.Mul.Kn:=A7 prog 123 Aa.Mul.spec
theorem Aa.Mul.Ae (hk:A1 prog Aa.Mul.Bf) (h:Hyp Aa.Mul.E f123 Aa.Mul.ts Aa.Mul.pre Aa.Mul.out):Aa.Mul.Kn :=
 Am (A3 hk _ _ _) func123 (by kernel_rfl) (by kernel_rfl) h
end EqOf
open Go Go.Den Go.C4 Go.Proofs
open EqOf
theorem of.Bc.inner (N:Nat)  {A B:Nat} (hA:A≤6) (hB:B≤6) {F:Nat→Nat→Int} (hF:∀ i j:Nat,F i j=(0:Int)) {i:Nat} (hi:i<A):∀ (k j M0 M:Nat),j+k=B→k<M →
 Aa.of.Bc.L1 N M0 M (A:Int) (B:Int) (i:Int) (i:Int) (j:Int) (Cj i B F++(List.range j).map (F i))=Aa.of.Bc.L0 N M0 (A:Int) (B:Int) ((i+1:Nat):Int) (Cj (i+1) B F):=by
 intro k
 induction k with
 | zero =>
   intro j M0 M hj hM
   obtain ⟨M,rfl⟩:∃ G,M=G+1:=⟨M-1,by omega⟩
   obtain rfl:j=B:=by omega
   rw [Aa.of.Bc.Cc,Av,Avc (by omega),Avb,Al (by omega) (by omega),← Mc]
   rfl
 | succ k ih =>
   intro j M0 M hj hM
   obtain ⟨M,rfl⟩:∃ G,M=G+1:=⟨M-1,by omega⟩
   have d:decide ((Cj i B F++(List.range j).map (F i)).length+1≤Ga)=true:=by
    refine Au8 ?_
    have:=Av3 (show i≤6 by omega) hB
    rw [Avz,B6,Awd,Awa]; unfold Ga; omega
   rw [Aa.of.Bc.Cc,Av,Au8 (by omega),Au7,d,Au7,Al (by omega) (by omega),← hF i j]
   have:=ih (j+1) M0 M (by omega) (by omega)
   rw [Jc,← List.append_assoc] at this
   exact this
theorem of.Bc.outer (N:Nat)  {A B:Nat} (hA:A≤6) (hB:B≤6) (hN:6<N) {F:Nat→Nat→Int} (hF:∀ i j:Nat,F i j=(0:Int)):∀ (k i M:Nat),i+k=A→k<M →
 Aa.of.Bc.L0 N M (A:Int) (B:Int) (i:Int) (Cj i B F)=some (.agg [.int .i64 (A:Int),.int .i64 (B:Int),.ints (.own 108002 tB) .u64 (Cj A B F)]):=by
 intro k
 induction k with
 | zero =>
   intro i M hi hM
   obtain ⟨M,rfl⟩:∃ G,M=G+1:=⟨M-1,by omega⟩
   obtain rfl:i=A:=by omega
   rw [Aa.of.Bc.Ax,Av,Avc (by omega),Avb]
 | succ k ih =>
   intro i M hi hM
   obtain ⟨M,rfl⟩:∃ G,M=G+1:=⟨M-1,by omega⟩
   have n:=of.Bc.inner N hA hB hF (show i<A by omega) B 0 M N (by omega) (by omega)
   rw [List.range_zero,List.map_nil,List.append_nil] at n
   rw [Aa.of.Bc.Ax,Av,Au8 (by omega),Au7]
   exact n.trans (ih (i+1) M (by omega) (by omega))
theorem of.D8.inner (N:Nat)  {A B:Nat} (hA:A≤6) (hB:B≤6) {F:Nat→Nat→Int} (hF:∀ i j:Nat,F i j=Ln (i:Int) (j:Int)) {i:Nat} (hi:i<A):∀ (k j M0 M:Nat),j+k=B→k<M →
 Aa.of.D8.L1 N M0 M (A:Int) (B:Int) (i:Int) (i:Int) (j:Int) (Cj i B F++(List.range j).map (F i))=Aa.of.D8.L0 N M0 (A:Int) (B:Int) ((i+1:Nat):Int) (Cj (i+1) B F):=by
 intro k
 induction k with
 | zero =>
   intro j M0 M hj hM
   obtain ⟨M,rfl⟩:∃ G,M=G+1:=⟨M-1,by omega⟩
   obtain rfl:j=B:=by omega
   rw [Aa.of.D8.Cc,Av,Avc (by omega),Avb,Al (by omega) (by omega),← Mc]
   rfl
 | succ k ih =>
   intro j M0 M hj hM
   obtain ⟨M,rfl⟩:∃ G,M=G+1:=⟨M-1,by omega⟩
   have d:decide ((Cj i B F++(List.range j).map (F i)).length+1≤Ga)=true:=by
    refine Au8 ?_
    have:=Av3 (show i≤6 by omega) hB
    rw [Avz,B6,Awd,Awa]; unfold Ga; omega
   rw [Aa.of.D8.Cc,Av,Au8 (by omega),Au7,d,Au7,Al (by omega) (by omega),← hF i j]
   have:=ih (j+1) M0 M (by omega) (by omega)
   rw [Jc,← List.append_assoc] at this
   exact this
theorem of.D8.outer (N:Nat)  {A B:Nat} (hA:A≤6) (hB:B≤6) (hN:6<N) {F:Nat→Nat→Int} (hF:∀ i j:Nat,F i j=Ln (i:Int) (j:Int)):∀ (k i M:Nat),i+k=A→k<M →
 Aa.of.D8.L0 N M (A:Int) (B:Int) (i:Int) (Cj i B F)=some (.agg [.int .i64 (A:Int),.int .i64 (B:Int),.ints (.own 108002 tB) .u64 (Cj A B F)]):=by
 intro k
 induction k with
 | zero =>
   intro i M hi hM
   obtain ⟨M,rfl⟩:∃ G,M=G+1:=⟨M-1,by omega⟩
   obtain rfl:i=A:=by omega
   rw [Aa.of.D8.Ax,Av,Avc (by omega),Avb]
 | succ k ih =>
   intro i M hi hM
   obtain ⟨M,rfl⟩:∃ G,M=G+1:=⟨M-1,by omega⟩
   have n:=of.D8.inner N hA hB hF (show i<A by omega) B 0 M N (by omega) (by omega)
   rw [List.range_zero,List.map_nil,List.append_nil] at n
   rw [Aa.of.D8.Ax,Av,Au8 (by omega),Au7]
   exact n.trans (ih (i+1) M (by omega) (by omega))
theorem Aa.of.D8.known:Aa.of.D8.Kn:=Aa.of.D8.Ae (.cons Aa.F9.known .nil) fun a b hp=>by
 have h1:(Bn a&&Bn b)=true:=hp
 obtain ⟨ha,hb⟩:=Ag.1 h1
 obtain ⟨A,rfl,hA⟩:=E7 ha
 obtain ⟨B,rfl,hB⟩:=E7 hb
 refine ⟨8,.agg [.int .i64 (A:Int),.int .i64 (B:Int),.ints (.own 108002 tB) .u64 (Cj A B fun (i j:Nat)=>Ln (i:Int) (j:Int))],[108002],?_,Wk.G0 (.cons .int (.cons .int (.cons (.drop _ _ _ _ (List.mem_singleton.2 rfl)) .nil)))⟩
 rw [Aa.of.D8.ev]
 have n:=of.D8.outer 8 hA hB (by omega) (F:=fun (i j:Nat)=>Ln (i:Int) (j:Int)) (fun _ _=>rfl) A 0 8 (by omega) (by omega)
 rw [Mb] at n
 exact n
theorem of.B7.inner (N:Nat) (r c:Int) (l:List Int) {A B:Nat} (hA:A≤6) (hB:B≤6) {F:Nat→Nat→Int} (hF:∀ i j:Nat,F i j=Cv c l (j:Int) (i:Int)) {i:Nat} (hi:i<A) (hp:∀ j:Nat,j<B→Ds r c l (j:Int) (i:Int)=true):∀ (k j M0 M:Nat),j+k=B→k<M →
 Aa.of.B7.L1 N M0 M (A:Int) (B:Int) r c l (i:Int) (i:Int) (j:Int) (Cj i B F++(List.range j).map (F i))=Aa.of.B7.L0 N M0 (A:Int) (B:Int) r c l ((i+1:Nat):Int) (Cj (i+1) B F):=by
 intro k
 induction k with
 | zero =>
   intro j M0 M hj hM
   obtain ⟨M,rfl⟩:∃ G,M=G+1:=⟨M-1,by omega⟩
   obtain rfl:j=B:=by omega
   rw [Aa.of.B7.Cc,Av,Avc (by omega),Avb,Al (by omega) (by omega),← Mc]
   rfl
 | succ k ih =>
   intro j M0 M hj hM
   obtain ⟨M,rfl⟩:∃ G,M=G+1:=⟨M-1,by omega⟩
   have d:decide ((Cj i B F++(List.range j).map (F i)).length+1≤Ga)=true:=by
    refine Au8 ?_
    have:=Av3 (show i≤6 by omega) hB
    rw [Avz,B6,Awd,Awa]; unfold Ga; omega
   rw [Aa.of.B7.Cc,Av,Au8 (by omega),Au7,hp j (by omega),Au7,d,Au7,Al (by omega) (by omega),← hF i j]
   have:=ih (j+1) M0 M (by omega) (by omega)
   rw [Jc,← List.append_assoc] at this
   exact this
theorem of.B7.outer (N:Nat) (r c:Int) (l:List Int) {A B:Nat} (hA:A≤6) (hB:B≤6) (hN:6<N) {F:Nat→Nat→Int} (hF:∀ i j:Nat,F i j=Cv c l (j:Int) (i:Int)) (hp:∀ i j:Nat,i<A→j<B→Ds r c l (j:Int) (i:Int)=true):∀ (k i M:Nat),i+k=A→k<M →
 Aa.of.B7.L0 N M (A:Int) (B:Int) r c l (i:Int) (Cj i B F)=some (.agg [.int .i64 (A:Int),.int .i64 (B:Int),.ints (.own 108002 tB) .u64 (Cj A B F)]):=by
 intro k
 induction k with
 | zero =>
   intro i M hi hM
   obtain ⟨M,rfl⟩:∃ G,M=G+1:=⟨M-1,by omega⟩
   obtain rfl:i=A:=by omega
   rw [Aa.of.B7.Ax,Av,Avc (by omega),Avb]
 | succ k ih =>
   intro i M hi hM
   obtain ⟨M,rfl⟩:∃ G,M=G+1:=⟨M-1,by omega⟩
   have n:=of.B7.inner N r c l hA hB hF (show i<A by omega) (fun j hj=>hp i j (by omega) hj) B 0 M N (by omega) (by omega)
   rw [List.range_zero,List.map_nil,List.append_nil] at n
   rw [Aa.of.B7.Ax,Av,Au8 (by omega),Au7]
   exact n.trans (ih (i+1) M (by omega) (by omega))
theorem Aa.of.B7.known:Aa.of.B7.Kn:=Aa.of.B7.Ae (.cons Aa.Ed.known .nil) fun a b r c l hp=>by
 obtain ⟨h12,hy⟩:=Ag.1 (show (((Bn a&&Bn b)&&Bj r c l)&&decide (a=c∧b=r))=true from hp)
 obtain ⟨h1,hx⟩:=Ag.1 h12
 have h2:=Ag.2 ⟨hx,hy⟩
 obtain ⟨ha,hb⟩:=Ag.1 h1
 obtain ⟨A,rfl,hA⟩:=E7 ha
 obtain ⟨B,rfl,hB⟩:=E7 hb
 obtain ⟨hr,he⟩:=Ag.1 h2
 obtain ⟨e1,e2⟩:=Avx he
 have hp:∀ i j:Nat,i<A→j<B→Ds r c l (j:Int) (i:Int)=true:=fun i j hi hj=>Ts hr (by omega) (by omega) (by omega) (by omega) r
 refine ⟨8,.agg [.int .i64 (A:Int),.int .i64 (B:Int),.ints (.own 108002 tB) .u64 (Cj A B fun (i j:Nat)=>Cv c l (j:Int) (i:Int))],[108002],?_,Wk.G0 (.cons .int (.cons .int (.cons (.drop _ _ _ _ (List.mem_singleton.2 rfl)) .nil)))⟩
 rw [Aa.of.B7.ev]
 have n:=of.B7.outer 8 r c l hA hB (by omega) (F:=fun (i j:Nat)=>Cv c l (j:Int) (i:Int)) (fun _ _=>rfl) hp A 0 8 (by omega) (by omega)
 rw [Mb] at n
 exact n
theorem of.Part.inner (N:Nat) (r c:Int) (l:List Int) (x y:Int) {A B:Nat} (hA:A≤6) (hB:B≤6) {F:Nat→Nat→Int} (hF:∀ i j:Nat,F i j=Cv c l (x+(i:Int)) (y+(j:Int))) {i:Nat} (hi:i<A) (hp:∀ j:Nat,j<B→(Ds r c l (x+(i:Int)) (y+(j:Int))&&R7 x y (i:Int) (j:Int))=true):∀ (k j M0 M:Nat),j+k=B→k<M →
 Aa.of.Part.L1 N M0 M (A:Int) (B:Int) r c l x y (i:Int) (i:Int) (j:Int) (Cj i B F++(List.range j).map (F i))=Aa.of.Part.L0 N M0 (A:Int) (B:Int) r c l x y ((i+1:Nat):Int) (Cj (i+1) B F):=by
 intro k
 induction k with
 | zero =>
   intro j M0 M hj hM
   obtain ⟨M,rfl⟩:∃ G,M=G+1:=⟨M-1,by omega⟩
   obtain rfl:j=B:=by omega
   rw [Aa.of.Part.Cc,Av,Avc (by omega),Avb,Al (by omega) (by omega),← Mc]
   rfl
 | succ k ih =>
   intro j M0 M hj hM
   obtain ⟨M,rfl⟩:∃ G,M=G+1:=⟨M-1,by omega⟩
   have d:decide ((Cj i B F++(List.range j).map (F i)).length+1≤Ga)=true:=by
    refine Au8 ?_
    have:=Av3 (show i≤6 by omega) hB
    rw [Avz,B6,Awd,Awa]; unfold Ga; omega
   rw [Aa.of.Part.Cc,Av,Au8 (by omega),Au7,hp j (by omega),Au7,d,Au7,Al (by omega) (by omega),← hF i j]
   have:=ih (j+1) M0 M (by omega) (by omega)
   rw [Jc,← List.append_assoc] at this
   exact this
theorem of.Part.outer (N:Nat) (r c:Int) (l:List Int) (x y:Int) {A B:Nat} (hA:A≤6) (hB:B≤6) (hN:6<N) {F:Nat→Nat→Int} (hF:∀ i j:Nat,F i j=Cv c l (x+(i:Int)) (y+(j:Int))) (hp:∀ i j:Nat,i<A→j<B→(Ds r c l (x+(i:Int)) (y+(j:Int))&&R7 x y (i:Int) (j:Int))=true):∀ (k i M:Nat),i+k=A→k<M →
 Aa.of.Part.L0 N M (A:Int) (B:Int) r c l x y (i:Int) (Cj i B F)=some (.agg [.int .i64 (A:Int),.int .i64 (B:Int),.ints (.own 108002 tB) .u64 (Cj A B F)]):=by
 intro k
 induction k with
 | zero =>
   intro i M hi hM
   obtain ⟨M,rfl⟩:∃ G,M=G+1:=⟨M-1,by omega⟩
   obtain rfl:i=A:=by omega
   rw [Aa.of.Part.Ax,Av,Avc (by omega),Avb]
 | succ k ih =>
   intro i M hi hM
   obtain ⟨M,rfl⟩:∃ G,M=G+1:=⟨M-1,by omega⟩
   have n:=of.Part.inner N r c l x y hA hB hF (show i<A by omega) (fun j hj=>hp i j (by omega) hj) B 0 M N (by omega) (by omega)
   rw [List.range_zero,List.map_nil,List.append_nil] at n
   rw [Aa.of.Part.Ax,Av,Au8 (by omega),Au7]
   exact n.trans (ih (i+1) M (by omega) (by omega))
theorem Aa.of.Part.known:Aa.of.Part.Kn:=Aa.of.Part.Ae (.cons Aa.Ee.known .nil) fun a b r c l x y hp=>by
 obtain ⟨h12,hy⟩:=Ag.1 (show (((Bn a&&Bn b)&&Bj r c l)&&Nl r c x y a b)=true from hp)
 obtain ⟨h1,hx⟩:=Ag.1 h12
 have h2:=Ag.2 ⟨hx,hy⟩
 obtain ⟨ha,hb⟩:=Ag.1 h1
 obtain ⟨A,rfl,hA⟩:=E7 ha
 obtain ⟨B,rfl,hB⟩:=E7 hb
 obtain ⟨hr,he⟩:=Ag.1 h2
 have he:=Avx he
 have hs:=Ki.1 hr
 have hp:∀ i j:Nat,i<A→j<B→(Ds r c l (x+(i:Int)) (y+(j:Int))&&R7 x y (i:Int) (j:Int))=true:=fun i j hi hj =>
  Ag.2 ⟨Ts hr (by omega) (by omega) (by omega) (by omega) r,Ao.2 (by omega)⟩
 refine ⟨8,.agg [.int .i64 (A:Int),.int .i64 (B:Int),.ints (.own 108002 tB) .u64 (Cj A B fun (i j:Nat)=>Cv c l (x+(i:Int)) (y+(j:Int)))],[108002],?_,Wk.G0 (.cons .int (.cons .int (.cons (.drop _ _ _ _ (List.mem_singleton.2 rfl)) .nil)))⟩
 rw [Aa.of.Part.ev]
 have n:=of.Part.outer 8 r c l x y hA hB (by omega) (F:=fun (i j:Nat)=>Cv c l (x+(i:Int)) (y+(j:Int))) (fun _ _=>rfl) hp A 0 8 (by omega) (by omega)
 rw [Mb] at n
 exact n
theorem of.Mul.inner (N:Nat) (r c:Int) (l:List Int) (p q:Int) (m:List Int) {A B:Nat} (hA:A≤6) (hB:B≤6) {F:Nat→Nat→Int} (hF:∀ i j:Nat,F i j=Pl (Dh c l (i:Int)) (Qj p q m (j:Int))) {i:Nat} (hi:i<A) (hp:∀ j:Nat,j<B→P9 r c l p q m (i:Int) (j:Int)=true):∀ (k j M0 M:Nat),j+k=B→k<M →
 Aa.of.Mul.L1 N M0 M (A:Int) (B:Int) r c l p q m (i:Int) (i:Int) (j:Int) (Cj i B F++(List.range j).map (F i))=Aa.of.Mul.L0 N M0 (A:Int) (B:Int) r c l p q m ((i+1:Nat):Int) (Cj (i+1) B F):=by
 intro k
 induction k with
 | zero =>
   intro j M0 M hj hM
   obtain ⟨M,rfl⟩:∃ G,M=G+1:=⟨M-1,by omega⟩
   obtain rfl:j=B:=by omega
   rw [Aa.of.Mul.Cc,Av,Avc (by omega),Avb,Al (by omega) (by omega),← Mc]
   rfl
 | succ k ih =>
   intro j M0 M hj hM
   obtain ⟨M,rfl⟩:∃ G,M=G+1:=⟨M-1,by omega⟩
   have d:decide ((Cj i B F++(List.range j).map (F i)).length+1≤Ga)=true:=by
    refine Au8 ?_
    have:=Av3 (show i≤6 by omega) hB
    rw [Avz,B6,Awd,Awa]; unfold Ga; omega
   rw [Aa.of.Mul.Cc,Av,Au8 (by omega),Au7,hp j (by omega),Au7,d,Au7,Al (by omega) (by omega),← hF i j]
   have:=ih (j+1) M0 M (by omega) (by omega)
   rw [Jc,← List.append_assoc] at this
   exact this
theorem of.Mul.outer (N:Nat) (r c:Int) (l:List Int) (p q:Int) (m:List Int) {A B:Nat} (hA:A≤6) (hB:B≤6) (hN:6<N) {F:Nat→Nat→Int} (hF:∀ i j:Nat,F i j=Pl (Dh c l (i:Int)) (Qj p q m (j:Int))) (hp:∀ i j:Nat,i<A→j<B→P9 r c l p q m (i:Int) (j:Int)=true):∀ (k i M:Nat),i+k=A→k<M →
 Aa.of.Mul.L0 N M (A:Int) (B:Int) r c l p q m (i:Int) (Cj i B F)=some (.agg [.int .i64 (A:Int),.int .i64 (B:Int),.ints (.own 108002 tB) .u64 (Cj A B F)]):=by
 intro k
 induction k with
 | zero =>
   intro i M hi hM
   obtain ⟨M,rfl⟩:∃ G,M=G+1:=⟨M-1,by omega⟩
   obtain rfl:i=A:=by omega
   rw [Aa.of.Mul.Ax,Av,Avc (by omega),Avb]
 | succ k ih =>
   intro i M hi hM
   obtain ⟨M,rfl⟩:∃ G,M=G+1:=⟨M-1,by omega⟩
   have n:=of.Mul.inner N r c l p q m hA hB hF (show i<A by omega) (fun j hj=>hp i j (by omega) hj) B 0 M N (by omega) (by omega)
   rw [List.range_zero,List.map_nil,List.append_nil] at n
   rw [Aa.of.Mul.Ax,Av,Au8 (by omega),Au7]
   exact n.trans (ih (i+1) M (by omega) (by omega))
theorem Aa.of.Mul.known:Aa.of.Mul.Kn:=Aa.of.Mul.Ae (.cons Aa.F6.known .nil) fun a b r c l p q m hp=>by
 obtain ⟨h12,hy⟩:=Ag.1 (show (((Bn a&&Bn b)&&((Bj r c l&&Bj p q m)&&(Ap l&&Ap m)))&&decide (a=r∧b=q∧c=p))=true from hp)
 obtain ⟨h1,hx⟩:=Ag.1 h12
 have h2:=Ag.2 ⟨hx,hy⟩
 obtain ⟨ha,hb⟩:=Ag.1 h1
 obtain ⟨A,rfl,hA⟩:=E7 ha
 obtain ⟨B,rfl,hB⟩:=E7 hb
 obtain ⟨h3,he⟩:=Ag.1 h2
 obtain ⟨h4,h5⟩:=Ag.1 h3
 obtain ⟨hr,hm⟩:=Ag.1 h4
 obtain ⟨e1,e2,e3⟩:=Avx he
 have hp:∀ i j:Nat,i<A→j<B→P9 r c l p q m (i:Int) (j:Int)=true:=fun i j hi hj =>
  Ag.2 ⟨Ag.2 ⟨Ag.2 ⟨hr,Ao.2 (by omega)⟩,Ag.2 ⟨hm,Ao.2 (by omega)⟩⟩,Ag.2 ⟨h5,Ao.2 e3⟩⟩
 refine ⟨8,.agg [.int .i64 (A:Int),.int .i64 (B:Int),.ints (.own 108002 tB) .u64 (Cj A B fun (i j:Nat)=>Pl (Dh c l (i:Int)) (Qj p q m (j:Int)))],[108002],?_,Wk.G0 (.cons .int (.cons .int (.cons (.drop _ _ _ _ (List.mem_singleton.2 rfl)) .nil)))⟩
 rw [Aa.of.Mul.ev]
 have n:=of.Mul.outer 8 r c l p q m hA hB (by omega) (F:=fun (i j:Nat)=>Pl (Dh c l (i:Int)) (Qj p q m (j:Int))) (fun _ _=>rfl) hp A 0 8 (by omega) (by omega)
 rw [Mb] at n
 exact n
open Go Go.Den Go.C4 Go.Proofs
open EqOf
def Sj (x:MX):DV:=.tup [.agg [.int .i64 x.1,.int .i64 x.2.1,.ints .fresh .u64 x.2.2.1],.int .i64 x.2.2.2]
def Ajo (e:Int):DV:=.tup [.agg [.int .i64 0,.int .i64 0,.nil],.int .i64 e]
theorem Nt {drops:List Nat} {x:MX}:Wk drops (Sj x) (Sj x) :=
 Wk.G1 (.cons (Wk.G0 (.cons .int (.cons .int (.cons .Oh .nil)))) (.cons .int .nil))
theorem I8 {drops:List Nat} {e:Int}:Wk drops (Ajo e) (Sj (Nm e)) :=
 Wk.G1 (.cons (Wk.G0 (.cons .int (.cons .int (.cons (.nil _ _) .nil)))) (.cons .int .nil))
theorem Aa.D8.known:Aa.D8.Kn:=Aa.D8.Ae (.cons Aa.of.D8.known (.cons Aa.size.known .nil)) fun n _=>by
 show ∃ N dv drops,_=some dv∧Wk drops dv (Sj (K1 n))
 unfold K1
 by_cases h:Bn n=true
 ·rw [Avu h]
  exact ⟨0,_,[],by rw [Aa.D8.ev,h]; rfl,Nt⟩
 ·have e:Bn n=false:=by simpa using h
  rw [Avt h]
  exact ⟨0,_,[],by rw [Aa.D8.ev,e]; rfl,I8⟩
theorem Gx {r c:Int} {l:List Int} (h:Bj r c l=true):Bn r=true∧Bn c=true:=by
 obtain ⟨h1,h2,_⟩:=Ki.1 h
 exact ⟨Hc.2 h1,Hc.2 h2⟩
theorem Aa.B7.known:Aa.B7.Kn:=Aa.B7.Ae (.cons Aa.Check.known (.cons Aa.of.B7.known .nil)) fun r c l _=>by
 show ∃ N dv drops,_=some dv∧Wk drops dv (Sj (E6 r c l))
 unfold E6
 by_cases h:Bj r c l=true
 ·obtain ⟨h1,h2⟩:=Gx h
  rw [Avu h]
  exact ⟨0,_,[],by rw [Aa.B7.ev,Qk,h,h1,h2,Au8 ⟨rfl,rfl⟩]; rfl,Nt⟩
 ·have e:Bj r c l=false:=by simpa using h
  have ec:I2 r c l=1:=by unfold I2; rw [e]; rfl
  rw [Avt h]
  exact ⟨0,_,[],by rw [Aa.B7.ev,Qk,e,ec]; rfl,I8⟩
theorem Xg {r c x y a b:Int} (hr:0≤r∧r≤6) (hc:0≤c∧c≤6) :
 ((((((((A6 x (0:Int))||(A6 y (0:Int)))||(A6 a (0:Int)))||(A6 b (0:Int)))||(A6 r x))||(A6 c y))||(A6 (Ab (r-x)) a))||(A6 (Ab (c-y)) b))=!(Nl r c x y a b):=by
 unfold Nl
 simp only [Av]
 by_cases h:0≤x∧0≤y∧x≤r∧y≤c
 ·rw [Al (x:=r-x) (by omega) (by omega),Al (x:=c-y) (by omega) (by omega),Avn]
  simp only [Bool.or_eq_true,Ave,Bool.not_eq_true',Avq]
  omega
 ·have e:decide (0≤x∧0≤y∧0≤a∧0≤b∧x≤r∧y≤c∧a≤r-x∧b≤c-y)=false:=Avc (by omega)
  rw [e,Avn]
  simp only [Bool.or_eq_true,Ave,Awq,iff_true]
  omega
theorem Ac1 {r c x y a b:Int} {l:List Int} (h:Bj r c l=true) (hp:Nl r c x y a b=true):Bn a=true∧Bn b=true:=by
 obtain ⟨h1,h2,_⟩:=Ki.1 h
 have:=Avx hp
 exact ⟨Hc.2 (by omega),Hc.2 (by omega)⟩
theorem Aa.Part.known:Aa.Part.Kn:=Aa.Part.Ae (.cons Aa.Check.known (.cons Aa.of.Part.known .nil)) fun r c l x y a b _=>by
 show ∃ N dv drops,_=some dv∧Wk drops dv (Sj (Hd r c l x y a b))
 unfold Hd
 by_cases h:Bj r c l=true
 ·obtain ⟨h1,h2,_⟩:=Ki.1 h
  by_cases hp:Nl r c x y a b=true
  ·obtain ⟨s1,s2⟩:=Ac1 h hp
   rw [Avu h,Avu hp]
   exact ⟨0,_,[],by rw [Aa.Part.ev,Qk,Xg h1 h2,h,hp,s1,s2]; rfl,Nt⟩
  ·have e:Nl r c x y a b=false:=by simpa using hp
   rw [Avu h,Avt hp]
   exact ⟨0,_,[],by rw [Aa.Part.ev,Qk,Xg h1 h2,h,e]; rfl,I8⟩
 ·have e:Bj r c l=false:=by simpa using h
  have ec:I2 r c l=1:=by unfold I2; rw [e]; rfl
  rw [Avt h]
  exact ⟨0,_,[],by rw [Aa.Part.ev,Qk,e,ec]; rfl,I8⟩
theorem Ack (r c:Int) (l:List Int) (p q:Int) (m:List Int):((Yl r c l p q m) !=(0:Int))=!(Bj r c l&&Bj p q m):=by
 unfold Yl
 cases Bj r c l&&Bj p q m<;>rfl
theorem Api {r c:Int} {l:List Int} {p q:Int} {m:List Int} (h:(Bj r c l&&Bj p q m)=false):Yl r c l p q m=1:=by
 unfold Yl; rw [h]; rfl
theorem Aa.Mul.known:Aa.Mul.Kn:=Aa.Mul.Ae (.cons Aa.of.Mul.known (.cons Aa.two.known .nil)) fun r c l p q m hp=>by
 show ∃ N dv drops,_=some dv∧Wk drops dv (Sj (Sn r c l p q m))
 unfold Sn
 have hp:(Ap l&&Ap m)=true:=hp
 by_cases h:(Bj r c l&&Bj p q m)=true
 ·obtain ⟨h1,h2⟩:=Ag.1 h
  by_cases hc:c=p
  ·have e:(c !=p)=false:=by rw [hc]; simp
   rw [Avu h,Avu hc]
   exact ⟨0,_,[],by rw [Aa.Mul.ev,Ack,h,e,(Gx h1).1,(Gx h2).2,hp,Au8 ⟨rfl,rfl,hc⟩]; rfl,Nt⟩
  ·have e:(c !=p)=true:=by simpa using hc
   rw [Avu h,Avt hc]
   exact ⟨0,_,[],by rw [Aa.Mul.ev,Ack,h,e]; rfl,I8⟩
 ·have e:(Bj r c l&&Bj p q m)=false:=by simpa using h
  rw [Avt h]
  exact ⟨0,_,[],by rw [Aa.Mul.ev,Ack,e,Api e]; rfl,I8⟩
open Go Go.Den Go.C4 Go.Proofs
set_option maxRecDepth 100000
namespace EqRef10
def Ak.F5.Bf:List (Nat × Entry):=[]
def Ak.F5.E:Env:=Bg (Be Ak.F5.Bf) (fun _=>false) (fun _=>none) (fun _=>none)
theorem Ak.F5.ev (N:Nat) (r c:Int) (l:List Int):By Ak.F5.E N f91 (An f91) [.agg [.int .i64 r,.int .i64 c,.ints .arg .u64 l]]=some (.bool (bif (bif (bif (bif (Dy 0 r) then (Dy r 6) else false) then (Dy 0 c) else false) then (Dy c 6) else false) then ((length l:Int)==(Ab (r*c))) else false)) :=
 Eq.trans (by kernel_rfl)
 (Ay (Nv (Dy 0 r)) (Ay (Kf (Dy 0 r)) (Ay (Kf (Dy 0 r)) (Ay (S9 (Dy 0 r)) (Ay (Arz (Dy 0 r) (Dy r 6)) (Ay (Ain (Dy 0 r) (Dy r 6)) (Ay (Ain (Dy 0 r) (Dy r 6)) (Ay (Ar0 (Dy 0 r) (Dy r 6)) (Ay (At6 (Dy 0 r) (Dy r 6) (Dy 0 c)) (Ay (Ar1 (Dy 0 r) (Dy r 6) (Dy 0 c)) (Ay (Ar1 (Dy 0 r) (Dy r 6) (Dy 0 c)) (Ay (At7 (Dy 0 r) (Dy r 6) (Dy 0 c)) (Ay (Apl (Dy 0 r) (Dy r 6) (Dy 0 c) (Dy c 6)) (Ay (Ami (Dy 0 r) (Dy r 6) (Dy 0 c) (Dy c 6)) (Ay (Ami (Dy 0 r) (Dy r 6) (Dy 0 c) (Dy c 6)) (Ay (Apl (Dy 0 r) (Dy r 6) (Dy 0 c) (Dy c 6)) (Ay (Ami (Dy 0 r) (Dy r 6) (Dy 0 c) (Dy c 6)) (Ay (Apl (Dy 0 r) (Dy r 6) (Dy 0 c) (Dy c 6)) (Ay (Ami (Dy 0 r) (Dy r 6) (Dy 0 c) (Dy c 6)) (Ay (Ar2 (Dy 0 r) (Dy r 6) (Dy 0 c) (Dy c 6)) (Ay (Ar2 (Dy 0 r) (Dy r 6) (Dy 0 c) (Dy c 6)) (Ay (At8 (Dy 0 r) (Dy r 6) (Dy 0 c) (Dy c 6)) rfl))))))))))))))))))))))
abbrev _root_.Go.Proofs.S1.Ak.F5.Kn:=A7 prog 91 Ak.F5.spec
theorem Ak.F5.Ae (hk:A1 prog Ak.F5.Bf) (h:Hyp Ak.F5.E f91 Ak.F5.ts Ak.F5.pre Ak.F5.out):Ak.F5.Kn :=
 Am (A3 hk _ _ _) func91 (by kernel_rfl) (by kernel_rfl) h
def Ak.At.Bf:List (Nat × Entry):=[]
def Ak.At.E:Env:=Bg (Be Ak.At.Bf) (fun _=>false) (fun _=>none) (fun _=>none)
theorem Ak.At.ev (N:Nat) (r c:Int) (l:List Int) (i k:Int):By Ak.At.E N f80 (An f80) [.agg [.int .i64 r,.int .i64 c,.ints .arg .u64 l],.int .i64 i,.int .i64 k]=bif ((decide (0≤(Ab ((Ab (i*c))+k))))&&(decide ((Ab ((Ab (i*c))+k))<(length l:Int)))) then some (.int .u64 (getD l (toNat (Ab ((Ab (i*c))+k))) 0)) else none:=by kernel_rfl
abbrev _root_.Go.Proofs.S1.Ak.At.Kn:=A7 prog 80 Ak.At.spec
theorem Ak.At.Ae (hk:A1 prog Ak.At.Bf) (h:Hyp Ak.At.E f80 Ak.At.ts Ak.At.pre Ak.At.out):Ak.At.Kn :=
 Am (A3 hk _ _ _) func80 (by kernel_rfl) (by kernel_rfl) h
def Ak.Bc.Bf:List (Nat × Entry):=[]
def Ak.Bc.E:Env:=Bg (Be Ak.Bc.Bf) (fun _=>false) (fun _=>none) (fun _=>none)
theorem Ak.Bc.ev (N:Nat) (a b:Int):By Ak.Bc.E N f35 (An f35) [.int .i64 a,.int .i64 b]=bif (((decide ((0:Int)≤(Ab (a*b))))&&(decide ((Ab (a*b))≤(Ab (a*b)))))&&(decide ((Ab (a*b))≤Ga))) then some (.agg [.int .i64 a,.int .i64 b,.ints (.own 10 37) .u64 (List.replicate (toNat (Ab (a*b))) 0)]) else none:=by kernel_rfl
abbrev _root_.Go.Proofs.S1.Ak.Bc.Kn:=A7 prog 35 Ak.Bc.spec
theorem Ak.Bc.Ae (hk:A1 prog Ak.Bc.Bf) (h:Hyp Ak.Bc.E f35 Ak.Bc.ts Ak.Bc.pre Ak.Bc.out):Ak.Bc.Kn :=
 Am (A3 hk _ _ _) func35 (by kernel_rfl) (by kernel_rfl) h
def Ak.Eo.Bf:List (Nat × Entry):=[]
def Ak.Eo.E:Env:=Bg (Be Ak.Eo.Bf) (fun _=>false) (fun _=>none) (fun _=>none)
theorem Ak.Eo.ev (N:Nat) (r c:Int) (l:List Int) (i k b:Int):By Ak.Eo.E N f83 (An f83) [.agg [.int .i64 r,.int .i64 c,.ints .arg .u64 l],.int .i64 i,.int .i64 k,.int .u64 b]=bif (decide (0+(length l)≤Ga)) then bif ((decide (0≤(Ab ((Ab (i*c))+k))))&&(decide ((Ab ((Ab (i*c))+k))<(length ([]++l):Int)))) then bif (decide ((toNat (Ab ((Ab (i*c))+k)))<(length ([]++l)))) then some (.agg [.int .i64 r,.int .i64 c,.ints (.own 13 37) .u64 (List.set ([]++l) (toNat (Ab ((Ab (i*c))+k))) b)]) else none else none else none:=by kernel_rfl
abbrev _root_.Go.Proofs.S1.Ak.Eo.Kn:=A7 prog 83 Ak.Eo.spec
theorem Ak.Eo.Ae (hk:A1 prog Ak.Eo.Bf) (h:Hyp Ak.Eo.E f83 Ak.Eo.ts Ak.Eo.pre Ak.Eo.out):Ak.Eo.Kn :=
 Am (A3 hk _ _ _) func83 (by kernel_rfl) (by kernel_rfl) h
def Ak.D8.hint:Nat→Option A9
 | 0=>some { keep:=[0,2,3,4],objs:=[],boxes:=[2,3] }
 | _=>none
def Ak.Row.Bf:List (Nat × Entry):=[]
def Ak.Row.E:Env:=Bg (Be Ak.Row.Bf) (fun _=>false) (fun _=>none) (fun _=>none)
theorem Ak.Row.ev (N:Nat) (r c:Int) (l:List Int) (i:Int):By Ak.Row.E N f107 (An f107) [.agg [.int .i64 r,.int .i64 c,.ints .arg .u64 l],.int .i64 i]=bif (((decide ((0:Int)≤(Ab (i*c))))&&(decide ((Ab (i*c))≤(Ab ((Ab (i+1))*c)))))&&((decide ((0:Int)≤(Ab ((Ab (i+1))*c))))&&(decide ((Ab ((Ab (i+1))*c))≤(length l:Int))))) then some (.ints .arg .u64 (List.drop (toNat (Ab (i*c))) (List.take (toNat (Ab ((Ab (i+1))*c))) l))) else none :=
 Eq.trans (by kernel_rfl)
 (Cy (Asa (decide ((0:Int)≤(Ab (i*c)))) (decide ((Ab (i*c))≤(Ab ((Ab (i+1))*c)))) (decide ((0:Int)≤(Ab ((Ab (i+1))*c)))) (decide ((Ab ((Ab (i+1))*c))≤(length l:Int)))) rfl rfl)
abbrev _root_.Go.Proofs.S1.Ak.Row.Kn:=A7 prog 107 Ak.Row.spec
theorem Ak.Row.Ae (hk:A1 prog Ak.Row.Bf) (h:Hyp Ak.Row.E f107 Ak.Row.ts Ak.Row.pre Ak.Row.out):Ak.Row.Kn :=
 Am (A3 hk _ _ _) func107 (by kernel_rfl) (by kernel_rfl) h
def Ak.Nr.hint:Nat→Option A9
 | 0=>some { keep:=[1,3,7,8],objs:=[(0,7,100007,.ints 37 .u64 [])],boxes:=[3] }
 | _=>none
def Ak.Nr.Bf:List (Nat × Entry):=[(80,Ak.At.spec)]
def Ak.Nr.E:Env:=Bg (Be Ak.Nr.Bf) (fun _=>false) Ak.Nr.hint (fun _=>none)
section
variable (N M:Nat) (r c:Int) (l:List Int) (k f p8:Int) (p7:List Int)
def Ak.Nr.L0:Option DV:=Bx Ak.Nr.E N f108 (An f108) [1,1,0,1,0] [] M ⟨Gm 25 [(1,.int .i64 k),(3,.ptr 3 0 0),(7,.oref 100007),(8,.int .i64 p8)],[(3,false,.box [.int .i64 r,.int .i64 c,.ints .arg .u64 l]),(100007,false,.ints 37 .u64 p7)]⟩
theorem Ak.Nr.Ax:Ak.Nr.L0 N (M+1) r c l k p8 p7=bif (A6 p8 r) then bif (Ds r c l p8 k) then bif (decide ((length p7)+1≤Ga)) then Ak.Nr.L0 N M r c l k (Ab (p8+1)) (p7++[(Cv c l p8 k)]) else none else none else some (.ints (.own 100007 37) .u64 p7):=by kernel_rfl
theorem Ak.Nr.ev:By Ak.Nr.E N f108 (An f108) [.agg [.int .i64 r,.int .i64 c,.ints .arg .u64 l],.int .i64 k,.int .i64 f] =
 Ak.Nr.L0 N N r c l k f []:=by kernel_rfl
end
abbrev _root_.Go.Proofs.S1.Ak.Nr.Kn:=A7 prog 108 Ak.Nr.spec
theorem Ak.Nr.Ae (hk:A1 prog Ak.Nr.Bf) (h:Hyp Ak.Nr.E f108 Ak.Nr.ts Ak.Nr.pre Ak.Nr.out):Ak.Nr.Kn :=
 Am (A3 hk _ _ _) func108 (by kernel_rfl) (by kernel_rfl) h
def Ak.Mul.hint:Nat→Option A9
 | 0=>some { keep:=[2,3,4,5,6],objs:=[],boxes:=[2,3,4,5] }
 | 2=>some { keep:=[2,3,4,5,6,7],objs:=[],boxes:=[2,3,4,5] }
 | _=>none
def Ak.B7.hint:Nat→Option A9
 | 0=>some { keep:=[1,2,3,4],objs:=[],boxes:=[1,2,3] }
 | 2=>some { keep:=[1,2,3,4,5],objs:=[],boxes:=[1,2,3] }
 | _=>none
def Ak.B7.Bf:List (Nat × Entry):=[(80,Ak.At.spec),(83,Ak.Eo.spec),(35,Ak.Bc.spec)]
def Ak.B7.E:Env:=Bg (Be Ak.B7.Bf) (fun _=>false) Ak.B7.hint (fun _=>none)
section
variable (N M0 M:Nat) (r c:Int) (l:List Int) (p5:Int) (p3:List Int) (p4_1 p4:Int) (p3_1:List Int)
def Ak.B7.L0:Option DV:=Bx Ak.B7.E N f37 (An f37) [1,1,0,1,0] [] M ⟨Gm 32 [(1,.ptr 1 0 0),(2,.ptr 2 0 0),(3,.ptr 3 0 0),(4,.int .i64 p4)],[(1,false,.box [.int .i64 r,.int .i64 c,.ints .arg .u64 l]),(2,false,.box [.int .i64 0,.int .i64 0,.nil]),(3,false,.box [.int .i64 c,.int .i64 r,.ints .fresh .u64 p3_1])]⟩
def Ak.B7.L1:Option DV:=Bx Ak.B7.E N f37 (An f37) [1,1,0,1,0,0,1,0,0,1,0] [M0] M ⟨Gm 32 [(1,.ptr 1 0 0),(2,.ptr 2 0 0),(3,.ptr 3 0 0),(4,.int .i64 p4_1),(5,.int .i64 p5)],[(1,false,.box [.int .i64 r,.int .i64 c,.ints .arg .u64 l]),(2,false,.box [.int .i64 0,.int .i64 0,.nil]),(3,false,.box [.int .i64 c,.int .i64 r,.ints .fresh .u64 p3])]⟩
theorem Ak.B7.Ax:Ak.B7.L0 N (M+1) r c l p4 p3_1=bif (A6 p4 r) then Ak.B7.L1 N M N r c l 0 p3_1 p4 else some (.agg [.int .i64 c,.int .i64 r,.ints .fresh .u64 p3_1]):=by kernel_rfl
theorem Ak.B7.Cc:Ak.B7.L1 N M0 (M+1) r c l p5 p3 p4_1=bif (A6 p5 c) then bif (Ds r c l p4_1 p5) then bif (Ds c r p3 p5 p4_1) then Ak.B7.L1 N M0 M r c l (Ab (p5+1)) (List.set p3 (toNat (p5*r+p4_1)) (Cv c l p4_1 p5)) p4_1 else none else none else Ak.B7.L0 N M0 r c l (Ab (p4_1+1)) p3 :=
 Eq.trans (by kernel_rfl)
 (Fq (Cy (Cr (Ds r c l p4_1 p5)) (Cy (Cr (Ds c r p3 p5 p4_1)) rfl rfl) rfl) rfl)
theorem Ak.B7.ev:By Ak.B7.E N f37 (An f37) [.agg [.int .i64 r,.int .i64 c,.ints .arg .u64 l]]=bif (Bn c&&Bn r) then Ak.B7.L0 N N r c l 0 (Cj (toNat c) (toNat r) (fun _ _=>0)) else none:=by kernel_rfl
end
abbrev _root_.Go.Proofs.S1.Ak.B7.Kn:=A7 prog 37 Ak.B7.spec
theorem Ak.B7.Ae (hk:A1 prog Ak.B7.Bf) (h:Hyp Ak.B7.E f37 Ak.B7.ts Ak.B7.pre Ak.B7.out):Ak.B7.Kn :=
 Am (A3 hk _ _ _) func37 (by kernel_rfl) (by kernel_rfl) h
end EqRef10
open Go Go.Den Go.C4 Go.Proofs
open EqRef10
theorem Ak.F5.known:Ak.F5.Kn:=Ak.F5.Ae .nil fun r c l _=>by
 refine ⟨0,Ak.F5.out [.i r,.i c,.l l],[],?_,.bool⟩
 have e:(bif (bif (bif (bif (Dy (0:Int) r) then (Dy r (6:Int)) else false) then (Dy (0:Int) c) else false) then (Dy c (6:Int)) else false) then ((length l:Int)==(Ab (r*c))) else false)=Bj r c l:=by
  have:=Ab2 r c l
  have h:(bif (bif (bif (bif (Dy (0:Int) r) then (Dy r (6:Int)) else false) then (Dy (0:Int) c) else false) then (Dy c (6:Int)) else false) then ((length l:Int)==(Ab (r*c))) else false)=!(((!(Bn r))||(!(Bn c)))||((length l:Int) !=(Ab (r*c)))):=by
   unfold Bn bne
   rw [D9,D9,D9,D9]
   cases decide (0≤r)<;>cases decide (r≤6)<;>cases decide (0≤c)<;>cases decide (c≤6)<;>cases ((length l:Int)==(Ab (r*c)))<;>rfl
  rw [h,this,Bool.not_not]
 rw [Ak.F5.ev,e]; rfl
theorem Ak.At.known:Ak.At.Kn:=Ak.At.Ae .nil fun r c l i k hp=>by
 obtain ⟨e,h1,h2⟩:=Fx (R:=r) (show Ds r c l i k=true from hp)
 refine ⟨0,Ak.At.out [.i r,.i c,.l l,.i i,.i k],[],?_,.int⟩
 rw [Ak.At.ev,e,Au8 h1,Au8 h2]
 rfl
theorem Yg {drops:List Nat} {i:Nat} {e:TypeId} {a b:Int} {l:List Int} (h:i∈drops):Wk drops (.agg [.int .i64 a,.int .i64 b,.ints (.own i e) .u64 l]) (.agg [.int .i64 a,.int .i64 b,.ints .fresh .u64 l]) :=
 Wk.G0 (.cons .int (.cons .int (.cons (.drop _ _ _ _ h) .nil)))
theorem Ah7 {drops:List Nat} {a b:Int} {l:List Int}:Wk drops (.agg [.int .i64 a,.int .i64 b,.ints .fresh .u64 l]) (.agg [.int .i64 a,.int .i64 b,.ints .fresh .u64 l]) :=
 Wk.G0 (.cons .int (.cons .int (.cons .Oh .nil)))
theorem Ak.Bc.known:Ak.Bc.Kn:=Ak.Bc.Ae .nil fun a b hp=>by
 obtain ⟨ha,hb⟩:=Ag.1 (show (Bn a&&Bn b)=true from hp)
 obtain ⟨A,rfl,hA⟩:=E7 ha
 obtain ⟨B,rfl,hB⟩:=E7 hb
 have hm:=G2 (a:=(A:Int)) (b:=(B:Int)) (by omega) (by omega) (by omega) (by omega)
 have e:((A:Int)*(B:Int)).toNat=A*B:=by rw [← Avs,Au9]
 refine ⟨0,.agg [.int .i64 (A:Int),.int .i64 (B:Int),.ints (.own 10 tB) .u64 (Cj A B fun _ _=>0)],[10],?_,Yg (List.mem_singleton.2 rfl)⟩
 rw [Ak.Bc.ev,Al (by omega) (by omega),Au8 hm.1,Au8 (Int.le_refl _),Au8 (show (A:Int)*(B:Int)≤(Ga:Int) by unfold Ga; omega),e,Vx]
 rfl
theorem Ak.Eo.known:Ak.Eo.Kn:=Ak.Eo.Ae .nil fun r c l i k b hp=>by
 obtain ⟨_,_,_,_,_,_,_,h8⟩:=Ao.1 (show Ds r c l i k=true from hp)
 obtain ⟨e,g1,g2⟩:=Fx (R:=r) (show Ds r c l i k=true from hp)
 refine ⟨0,.agg [.int .i64 r,.int .i64 c,.ints (.own 13 tB) .u64 (List.set l (i*c+k).toNat b)],[13],?_,Yg (List.mem_singleton.2 rfl)⟩
 rw [Ak.Eo.ev,e,List.nil_append,Au8 (show 0+l.length≤Ga by unfold Ga; omega),Au8 g1,Au8 g2,Au8 (show (i*c+k).toNat<l.length by omega)]
 rfl
theorem V7 {r c i k:Nat} (hk:k<c) {d d':Nat→Nat→Bool} {f:Nat→Nat→Int} {x:Int} (hx:x=f i k)
 (h:∀ a b,a<r→b<c→(d' a b=true↔d a b=true∨(a=i∧b=k))) :
 List.set (Cj r c fun a b=>if d a b=true then f a b else 0) (toNat ((i:Int)*(c:Int)+(k:Int))) x=Cj r c fun a b=>if d' a b=true then f a b else 0:=by
 have e:((i:Int)*(c:Int)+(k:Int)).toNat=i*c+k:=by rw [← Avs,← Int.natCast_add,Au9]
 rw [e,Ro hk]
 refine C8 fun a b ha hb=>?_
 have h:=h a b ha hb
 by_cases hab:a=i∧b=k
 ·rw [Avu hab,Avu (h.2 (.inr hab)),hx,hab.1,hab.2]
 ·rw [Avt hab]
  by_cases hd:d a b=true
  ·rw [Avu hd,Avu (h.2 (.inl hd))]
  ·rw [Avt hd,Avt (fun k=>(h.1 k).elim hd hab)]
theorem Yv (N:Nat) {R C K f:Nat} {l:List Int} (r6:R≤6) (c6:C≤6) (hl:l.length=R*C) (hk:K<C):∀ (k i F:Nat),f+i+k=R→k<F →
 Ak.Nr.L0 N F (R:Int) (C:Int) l (K:Int) ((f+i:Nat):Int) (Cb (C:Int) l (K:Int) (f:Int) i)=some (.ints (.own 100007 tB) .u64 (Cb (C:Int) l (K:Int) (f:Int) (R-f))):=by
 intro k
 induction k with
 | zero =>
   intro i F hi hF
   obtain ⟨F,rfl⟩:∃ G,F=G+1:=⟨F-1,by omega⟩
   rw [Ak.Nr.Ax,Av,Avc (by omega),Avb,show R-f=i by omega]
 | succ k ih =>
   intro i F hi hF
   obtain ⟨F,rfl⟩:∃ G,F=G+1:=⟨F-1,by omega⟩
   have d:decide ((Cb (C:Int) l (K:Int) (f:Int) i).length+1≤Ga)=true:=Au8 (by rw [Hj]; unfold Ga; omega)
   rw [Ak.Nr.Ax,Av,Au8 (by omega),Au7,D7 r6 c6 hl (show f+i<R by omega) hk,Au7,d,Au7,Al (by omega) (by omega)]
   have:=ih (i+1) F (by omega) (by omega)
   unfold Cb at this ⊢
   rw [List.range_succ,List.map_append] at this
   exact this
theorem Ak.Nr.known:Ak.Nr.Kn:=Ak.Nr.Ae (.cons Ak.At.known .nil) fun r c l k f hp=>by
 obtain ⟨h0,hf⟩:=Ag.1 (show (Gk r c l k&&Cf (0≤f∧f≤r))=true from hp)
 have hf:=Ao.1 hf
 obtain ⟨hr,hi⟩:=Ag.1 h0
 have hi:=Ao.1 hi
 obtain ⟨R,C,rfl,rfl,r6,c6,hl⟩:=Dc hr
 obtain ⟨K,rfl⟩:∃ j:Nat,k=j:=⟨k.toNat,by omega⟩
 obtain ⟨f,rfl⟩:∃ j:Nat,f=j:=⟨f.toNat,by omega⟩
 refine ⟨8,.ints (.own 100007 tB) .u64 (Cb (C:Int) l (K:Int) (f:Int) (R-f)),[100007],?_,?_⟩
 ·rw [Ak.Nr.ev]
  exact Yv 8 r6 c6 hl (by omega) (R-f) 0 8 (by omega) (by omega)
 ·show Wk _ _ (DV.ints .fresh .u64 (Cb (C:Int) l (K:Int) (f:Int) (toNat ((R:Int)-(f:Int)))))
  rw [show toNat ((R:Int)-(f:Int))=R-f by omega]
  exact .drop _ _ _ _ (List.mem_singleton.2 rfl)
theorem Ak.Row.known:Ak.Row.Kn:=Ak.Row.Ae .nil fun r c l i hp=>by
 obtain ⟨hr,hi⟩:=Ag.1 (show Jq r c l i=true from hp)
 have hi:=Ao.1 hi
 obtain ⟨R,C,rfl,rfl,r6,c6,hl⟩:=Dc hr
 obtain ⟨I,rfl⟩:∃ k:Nat,i=k:=⟨i.toNat,by omega⟩
 have hm:=G2 (a:=(I:Int)) (b:=(C:Int)) (by omega) (by omega) (by omega) (by omega)
 have hm2:=G2 (a:=(I:Int)+1) (b:=(C:Int)) (by omega) (by omega) (by omega) (by omega)
 have hle:(I+1)*C≤R*C:=Avj C (by omega)
 have hle2:I*C≤(I+1)*C:=Avj C (by omega)
 have e1:(I:Int)*(C:Int)=((I*C:Nat):Int):=(Avs _ _).symm
 have e2:((I:Int)+1)*(C:Int)=(((I+1)*C:Nat):Int):=by rw [Avs]; rfl
 refine ⟨0,Ak.Row.out [.i (R:Int),.i (C:Int),.l l,.i (I:Int)],[],?_,.Ww⟩
 rw [Ak.Row.ev,Al (x:=(I:Int)+1) (by omega) (by omega),Al (x:=(I:Int)*(C:Int)) (by omega) (by omega),Al (x:=((I:Int)+1)*(C:Int)) (by omega) (by omega)]
 have d1:decide ((0:Int)≤(I:Int)*(C:Int))=true:=Au8 (by omega)
 have d2:decide ((I:Int)*(C:Int)≤((I:Int)+1)*(C:Int))=true:=Au8 (by rw [e1,e2]; omega)
 have d3:decide ((0:Int)≤((I:Int)+1)*(C:Int))=true:=Au8 (by omega)
 have d4:decide (((I:Int)+1)*(C:Int)≤(l.length:Int))=true:=Au8 (by rw [e2]; omega)
 rw [d1,d2,d3,d4]
 rfl
open Go Go.Den Go.C4 Go.Proofs
open EqRef10
def dC (i k a b:Nat):Bool:=decide (b<i∨(b=i∧a<k))
def fill (r c:Nat) (f:Nat→Nat→Int) (d:Nat→Nat→Bool):List Int:=Cj r c fun a b=>if d a b=true then f a b else 0
theorem Tn (r c:Nat) (f:Nat→Nat→Int) (d:Nat→Nat→Bool):(fill r c f d).length=r*c:=B6 _ _ _
theorem Abo {r c i k:Nat} (hk:k<c) {d d':Nat→Nat→Bool} {f:Nat→Nat→Int} {x:Int} (hx:x=f i k) (h:∀ a b,a<r→b<c→(d' a b=true↔d a b=true∨(a=i∧b=k))) :
 List.set (fill r c f d) (toNat ((i:Int)*(c:Int)+(k:Int))) x=fill r c f d':=V7 hk hx h
theorem Adq {r c:Nat} {f:Nat→Nat→Int} {d d':Nat→Nat→Bool} (h:∀ a b,a<r→b<c→(d a b=true↔d' a b=true)):fill r c f d=fill r c f d':=by
 refine C8 fun a b ha hb=>?_
 have:=h a b ha hb
 by_cases hd:d a b=true
 ·rw [Avu hd,Avu (this.1 hd)]
 ·rw [Avt hd,Avt (fun k=>hd (this.2 k))]
theorem Akx {r c:Nat} {f:Nat→Nat→Int} {d:Nat→Nat→Bool} (h:∀ a b,a<r→b<c→d a b=true):fill r c f d=Cj r c f :=
 C8 fun a b ha hb=>by rw [Avu (h a b ha hb)]
theorem Xx {r c:Nat} {f:Nat→Nat→Int} {d:Nat→Nat→Bool} (h:∀ a b,a<r→b<c→¬ d a b=true):fill r c f d=Cj r c fun _ _=>0 :=
 C8 fun a b ha hb=>by rw [Avt (h a b ha hb)]
theorem V0.inner (N:Nat) {R C:Nat} {l:List Int} (h6:R≤6∧C≤6) (hl:l.length=R*C) {F:Nat→Nat→Int} (hF:F=fun (i j:Nat)=>Cv (C:Int) l (j:Int) (i:Int)) {i:Nat} (hi:i<R):∀ (k j M0 M:Nat),j+k=C→k<M →
 Ak.B7.L1 N M0 M (R:Int) (C:Int) l (j:Int) (fill C R F (dC i j)) (i:Int)=Ak.B7.L0 N M0 (R:Int) (C:Int) l ((i+1:Nat):Int) (fill C R F (dC (i+1) 0)):=by
 intro k
 induction k with
 | zero =>
   intro j M0 M hj hM
   obtain ⟨M,rfl⟩:∃ G,M=G+1:=⟨M-1,by omega⟩
   have e:fill C R F (dC i j)=fill C R F (dC (i+1) 0):=Adq fun a b ha hb=>by simp only [dC,Ave]; omega
   rw [Ak.B7.Cc,Av,Avc (by omega),Avb,Al (by omega) (by omega),e]
   rfl
 | succ k ih =>
   intro j M0 M hj hM
   obtain ⟨M,rfl⟩:∃ G,M=G+1:=⟨M-1,by omega⟩
   have c1:Ds (R:Int) (C:Int) l (i:Int) (j:Int)=true:=D7 h6.1 h6.2 hl hi (by omega)
   have c9:Ds (C:Int) (R:Int) (fill C R F (dC i j)) (j:Int) (i:Int)=true:=D7 (by omega) (by omega) (Tn _ _ _ _) (by omega) (by omega)
   rw [Ak.B7.Cc,Av,Au8 (by omega),Au7,c1,Au7,c9,Au7,Al (x:=(j:Int)+1) (by omega) (by omega),Abo (d':=dC i (j+1)) (by omega) (by rw [hF]) (fun a b ha hb=>by simp only [dC,Ave]; omega)]
   exact ih (j+1) M0 M (by omega) (by omega)
theorem V0.outer (N:Nat) (hN:6<N) {R C:Nat} {l:List Int} (h6:R≤6∧C≤6) (hl:l.length=R*C) {F:Nat→Nat→Int} (hF:F=fun (i j:Nat)=>Cv (C:Int) l (j:Int) (i:Int)):∀ (k i M:Nat),i+k=R→k<M →
 Ak.B7.L0 N M (R:Int) (C:Int) l (i:Int) (fill C R F (dC i 0))=some (.agg [.int .i64 (C:Int),.int .i64 (R:Int),.ints .fresh .u64 (Cj C R F)]):=by
 intro k
 induction k with
 | zero =>
   intro i M hi hM
   obtain ⟨M,rfl⟩:∃ G,M=G+1:=⟨M-1,by omega⟩
   rw [Ak.B7.Ax,Av,Avc (by omega),Avb,Akx (fun a b ha hb=>by simp only [dC,Ave]; omega)]
 | succ k ih =>
   intro i M hi hM
   obtain ⟨M,rfl⟩:∃ G,M=G+1:=⟨M-1,by omega⟩
   have n:=V0.inner N h6 hl hF (show i<R by omega) C 0 M N (by omega) (by omega)
   rw [Ak.B7.Ax,Av,Au8 (by omega),Au7]
   exact n.trans (ih (i+1) M (by omega) (by omega))
theorem Ak.B7.known:Ak.B7.Kn:=Ak.B7.Ae (.cons Ak.At.known (.cons Ak.Eo.known (.cons Ak.Bc.known .nil))) fun r c l hp=>by
 have hr:Bj r c l=true:=hp
 obtain ⟨R,C,rfl,rfl,r6,c6,hl⟩:=Dc hr
 refine ⟨8,.agg [.int .i64 (C:Int),.int .i64 (R:Int),.ints .fresh .u64 (Cj C R fun (i j:Nat)=>Cv (C:Int) l (j:Int) (i:Int))],[],?_,Ah7⟩
 have n:=V0.outer 8 (by omega) ⟨r6,c6⟩ hl rfl R 0 8 (by omega) (by omega)
 rw [Xx (fun a b ha hb=>by simp only [dC,Ave]; omega)] at n
 rw [Ak.B7.ev,O0 r6,O0 c6,Avd,Au7,Au9,Au9]
 exact n
open Go Go.Den Go.C4 Go.Proofs
set_option maxRecDepth 100000
namespace EqHouse
def Ai.Cu.hint:Nat→Option A9
 | 0=>some { keep:=[5,6,7],objs:=[],boxes:=[] }
 | _=>none
def Ai.Cu.Bf:List (Nat × Entry):=[(155,soft.Kind.spec)]
def Ai.Cu.E:Env:=Bg (Be Ai.Cu.Bf) (fun _=>false) Ai.Cu.hint (fun _=>none)
section
variable (N M:Nat) (x:List Int) (p7:Int)
def Ai.Cu.L0:Option DV:=Bx Ai.Cu.E N f252 (An f252) [1,0,1,0] [] M ⟨Gm 15 [(5,.ints .arg .u64 x),(6,.int .i64 (length x:Int)),(7,.int .i64 p7)],[]⟩
theorem Ai.Cu.Ax:Ai.Cu.L0 N (M+1) x p7=bif (A6 p7 (length x:Int)) then bif ((decide (0≤p7))&&(decide (p7<(length x:Int)))) then bif (Ah (getD x (toNat p7) 0)) then bif ((Bd (getD x (toNat p7) 0)) !=(0:Int)) then some (.bool false) else Ai.Cu.L0 N M x (Ab (p7+1)) else none else none else some (.bool true):=by kernel_rfl
theorem Ai.Cu.ev:By Ai.Cu.E N f252 (An f252) [.ints .arg .u64 x] =
 Ai.Cu.L0 N N x 0:=by kernel_rfl
end
abbrev _root_.Go.Proofs.S1.Ai.Cu.Kn:=A7 prog 252 Ai.Cu.spec
theorem Ai.Cu.Ae (hk:A1 prog Ai.Cu.Bf) (h:Hyp Ai.Cu.E f252 Ai.Cu.ts Ai.Cu.pre Ai.Cu.out):Ai.Cu.Kn :=
 Am (A3 hk _ _ _) func252 (by kernel_rfl) (by kernel_rfl) h
def Ai.lead.hint:Nat→Option A9
 | 0=>some { keep:=[5,6,7],objs:=[],boxes:=[] }
 | _=>none
def Ai.lead.Bf:List (Nat × Entry):=[(155,soft.Kind.spec)]
def Ai.lead.E:Env:=Bg (Be Ai.lead.Bf) (fun _=>false) Ai.lead.hint (fun _=>none)
section
variable (N M:Nat) (x:List Int) (p7:Int)
def Ai.lead.L0:Option DV:=Bx Ai.lead.E N f258 (An f258) [1,0,1,0] [] M ⟨Gm 16 [(5,.ints .arg .u64 x),(6,.int .i64 (length x:Int)),(7,.int .i64 p7)],[]⟩
theorem Ai.lead.Ax:Ai.lead.L0 N (M+1) x p7=bif (A6 p7 (length x:Int)) then bif ((decide (0≤p7))&&(decide (p7<(length x:Int)))) then bif (Ah (getD x (toNat p7) 0)) then bif ((Bd (getD x (toNat p7) 0)) !=(0:Int)) then some (.int .u64 (getD x (toNat p7) 0)) else Ai.lead.L0 N M x (Ab (p7+1)) else none else none else some (.int .u64 0):=by kernel_rfl
theorem Ai.lead.ev:By Ai.lead.E N f258 (An f258) [.ints .arg .u64 x] =
 Ai.lead.L0 N N x 0:=by kernel_rfl
end
abbrev _root_.Go.Proofs.S1.Ai.lead.Kn:=A7 prog 258 Ai.lead.spec
theorem Ai.lead.Ae (hk:A1 prog Ai.lead.Bf) (h:Hyp Ai.lead.E f258 Ai.lead.ts Ai.lead.pre Ai.lead.out):Ai.lead.Kn :=
 Am (A3 hk _ _ _) func258 (by kernel_rfl) (by kernel_rfl) h
def Ai.Cw.hint:Nat→Option A9
 | 0=>some { keep:=[1,5,8,9,10],objs:=[(0,5,100005,.ints 37 .u64 [])],boxes:=[] }
 | _=>none
def Ai.Cw.Bf:List (Nat × Entry):=[(88,Af.Bs.spec)]
def Ai.Cw.E:Env:=Bg (Be Ai.Cw.Bf) (fun _=>false) Ai.Cw.hint (fun _=>none)
section
variable (N M:Nat) (x:List Int) (k p10:Int) (p5:List Int)
def Ai.Cw.L0:Option DV:=Bx Ai.Cw.E N f256 (An f256) [1,1,0,1,0] [] M ⟨Gm 22 [(1,.int .i64 k),(5,.oref 100005),(8,.ints .arg .u64 x),(9,.int .i64 (length x:Int)),(10,.int .i64 p10)],[(100005,false,.ints 37 .u64 p5)]⟩
theorem Ai.Cw.Ax:Ai.Cw.L0 N (M+1) x k p10 p5=bif (A6 p10 (length x:Int)) then bif ((decide (0≤p10))&&(decide (p10<(length x:Int)))) then bif (Eu (getD x (toNat p10) 0) k) then bif (decide ((length p5)+1≤Ga)) then Ai.Cw.L0 N M x k (Ab (p10+1)) (p5++[(Ck (getD x (toNat p10) 0) k)]) else none else none else none else some (.ints (.own 100005 37) .u64 p5):=by kernel_rfl
theorem Ai.Cw.ev:By Ai.Cw.E N f256 (An f256) [.ints .arg .u64 x,.int .i64 k] =
 Ai.Cw.L0 N N x k 0 []:=by kernel_rfl
end
abbrev _root_.Go.Proofs.S1.Ai.Cw.Kn:=A7 prog 256 Ai.Cw.spec
theorem Ai.Cw.Ae (hk:A1 prog Ai.Cw.Bf) (h:Hyp Ai.Cw.E f256 Ai.Cw.ts Ai.Cw.pre Ai.Cw.out):Ai.Cw.Kn :=
 Am (A3 hk _ _ _) func256 (by kernel_rfl) (by kernel_rfl) h
def Ai.Eg.Bf:List (Nat × Entry):=[]
def Ai.Eg.E:Env:=Bg (Be Ai.Eg.Bf) (fun _=>false) (fun _=>none) (fun _=>none)
theorem Ai.Eg.ev (N:Nat) (i:Int):By Ai.Eg.E N f254 (An f254) [.int .i64 i]=some (.int .u64 0):=by kernel_rfl
abbrev _root_.Go.Proofs.S1.Ai.Eg.Kn:=A7 prog 254 Ai.Eg.spec
theorem Ai.Eg.Ae (hk:A1 prog Ai.Eg.Bf) (h:Hyp Ai.Eg.E f254 Ai.Eg.ts Ai.Eg.pre Ai.Eg.out):Ai.Eg.Kn :=
 Am (A3 hk _ _ _) func254 (by kernel_rfl) (by kernel_rfl) h
def Ai.Ef.Bf:List (Nat × Entry):=[(158,Af.Div.spec)]
def Ai.Ef.E:Env:=Bg (Be Ai.Ef.Bf) (fun _=>false) (fun _=>none) (fun _=>none)
theorem Ai.Ef.ev (N:Nat) (i:Int) (y:List Int) (d:Int):By Ai.Ef.E N f259 (An f259) [.int .i64 i,.cellp [.ints .arg .u64 y],.cellp [.int .u64 d]]=bif ((decide (0≤i))&&(decide (i<(length y:Int)))) then bif (Ah (getD y (toNat i) 0)&&Ah d) then some (.int .u64 (Ek (getD y (toNat i) 0) d)) else none else none :=
 Eq.trans (by kernel_rfl)
 (Cy (J1 (decide (0≤i)) (decide (i<(length y:Int)))) (Cy (Cr (Ah (getD y (toNat i) 0)&&Ah d)) rfl rfl) rfl)
abbrev _root_.Go.Proofs.S1.Ai.Ef.Kn:=A7 prog 259 Ai.Ef.spec
theorem Ai.Ef.Ae (hk:A1 prog Ai.Ef.Bf) (h:Hyp Ai.Ef.E f259 Ai.Ef.ts Ai.Ef.pre Ai.Ef.out):Ai.Ef.Kn :=
 Am (A3 hk _ _ _) func259 (by kernel_rfl) (by kernel_rfl) h
def Ai.row.Zero.hint:Nat→Option A9
 | 0=>some { keep:=[0,1,5,6],objs:=[(0,5,100005,.ints 37 .u64 [])],boxes:=[] }
 | _=>none
def Ai.row.Zero.Bf:List (Nat × Entry):=[(254,Ai.Eg.spec)]
def Ai.row.Zero.E:Env:=Bg (Be Ai.row.Zero.Bf) (fun _=>false) Ai.row.Zero.hint (fun _=>none)
section
variable (N M:Nat) (n p6:Int) (p5:List Int)
def Ai.row.Zero.L0:Option DV:=Bx Ai.row.Zero.E N f253 (An f253) [1,1,0,1,0] [] M ⟨Gm 23 [(0,.int .i64 n),(1,.fn 254 [] []),(5,.oref 100005),(6,.int .i64 p6)],[(100005,false,.ints 37 .u64 p5)]⟩
theorem Ai.row.Zero.Ax:Ai.row.Zero.L0 N (M+1) n p6 p5=bif (A6 p6 n) then bif (decide ((length p5)+1≤Ga)) then Ai.row.Zero.L0 N M n (Ab (p6+1)) (p5++[(0:Int)]) else none else bif (((decide ((0:Int)≤n))&&(decide (n≤n)))&&((decide ((0:Int)≤n))&&(decide (n≤(length p5:Int))))) then some (.ints .fresh .u64 (List.take (toNat (n-0)) (List.drop 0 p5))) else none :=
 Eq.trans (by kernel_rfl)
 (Fq rfl (Cy (Apk (decide ((0:Int)≤n)) (decide (n≤n)) (decide (n≤(length p5:Int)))) rfl rfl))
theorem Ai.row.Zero.ev:By Ai.row.Zero.E N f253 (An f253) [.int .i64 n,.fn 254 [] []] =
 Ai.row.Zero.L0 N N n 1 [(4607182418800017408:Int)]:=by kernel_rfl
end
abbrev _root_.Go.Proofs.S1.Ai.row.Zero.Kn:=A7 prog 253 Ai.row.Zero.spec
theorem Ai.row.Zero.Ae (hk:A1 prog Ai.row.Zero.Bf) (h:Hyp Ai.row.Zero.E f253 Ai.row.Zero.ts Ai.row.Zero.pre Ai.row.Zero.out):Ai.row.Zero.Kn :=
 Am (A3 hk _ _ _) func253 (by kernel_rfl) (by kernel_rfl) h
def Ai.row.Div.hint:Nat→Option A9
 | 0=>some { keep:=[0,1,5,6],objs:=[(0,5,100005,.ints 37 .u64 [])],boxes:=[] }
 | _=>none
def Ai.row.Div.Bf:List (Nat × Entry):=[(259,Ai.Ef.spec)]
def Ai.row.Div.E:Env:=Bg (Be Ai.row.Div.Bf) (fun _=>false) Ai.row.Div.hint (fun _=>none)
section
variable (N M:Nat) (n:Int) (y:List Int) (d p6:Int) (p5:List Int)
def Ai.row.Div.L0:Option DV:=Bx Ai.row.Div.E N f253 (An f253) [1,1,0,1,0] [] M ⟨Gm 23 [(0,.int .i64 n),(1,.fn 259 [] [.cellp [.ints .arg .u64 y],.cellp [.int .u64 d]]),(5,.oref 100005),(6,.int .i64 p6)],[(100005,false,.ints 37 .u64 p5)]⟩
theorem Ai.row.Div.Ax:Ai.row.Div.L0 N (M+1) n y d p6 p5=bif (A6 p6 n) then bif ((Cf (0≤p6∧p6<length y)&&Ap y)&&Ah d) then bif (decide ((length p5)+1≤Ga)) then Ai.row.Div.L0 N M n y d (Ab (p6+1)) (p5++[(Ek (getD y (toNat p6) 0) d)]) else none else none else bif (((decide ((0:Int)≤n))&&(decide (n≤n)))&&((decide ((0:Int)≤n))&&(decide (n≤(length p5:Int))))) then some (.ints .fresh .u64 (List.take (toNat (n-0)) (List.drop 0 p5))) else none :=
 Eq.trans (by kernel_rfl)
 (Fq rfl (Cy (Apk (decide ((0:Int)≤n)) (decide (n≤n)) (decide (n≤(length p5:Int)))) rfl rfl))
theorem Ai.row.Div.ev:By Ai.row.Div.E N f253 (An f253) [.int .i64 n,.fn 259 [] [.cellp [.ints .arg .u64 y],.cellp [.int .u64 d]]] =
 Ai.row.Div.L0 N N n y d 1 [(4607182418800017408:Int)]:=by kernel_rfl
end
abbrev _root_.Go.Proofs.S1.Ai.row.Div.Kn:=A7 prog 253 Ai.row.Div.spec
theorem Ai.row.Div.Ae (hk:A1 prog Ai.row.Div.Bf) (h:Hyp Ai.row.Div.E f253 Ai.row.Div.ts Ai.row.Div.pre Ai.row.Div.out):Ai.row.Div.Kn :=
 Am (A3 hk _ _ _) func253 (by kernel_rfl) (by kernel_rfl) h
def Ai.Hz.Bf:List (Nat × Entry):=[(255,compare.Rx.spec),(258,Ai.lead.spec),(252,Ai.Cu.spec),(253,(Aqz [.i .i64,.fn 254 []] Ai.row.Zero.spec Ai.row.Div.spec)),(256,Ai.Cw.spec),(148,soft.Finite.spec),(233,soft.Ew.spec),(213,soft.Sign.spec),(89,Af.Ci.spec),(158,Af.Div.spec),(150,Af.Finite.spec),(257,Af.Norm.spec),(88,Af.Bs.spec),(156,Af.Sub.spec)]
def Ai.Hz.E:Env:=Bg (Be Ai.Hz.Bf) (fun _=>false) (fun _=>none) (fun _=>none)
theorem Ai.Hz.ev (N:Nat) (x:List Int):By Ai.Hz.E N f245 (An f245) [.ints .arg .u64 x]=bif (((length x:Int)==(0:Int))||(A6 64 (length x:Int))) then some (.tup [.nil,.int .u64 0,.int .u64 0,.int .i64 3]) else bif (Dq x) then bif (!(Fg x)) then some (.tup [.nil,.int .u64 0,.int .u64 0,.int .i64 4]) else bif (decide ((1:Int)≤(length x:Int))) then bif (Dq (List.drop 1 x)) then bif (Jf (List.drop 1 x)) then bif (Cf (1≤(length x:Int)∧(length x:Int)≤64)) then bif (decide ((0:Int)<(length x:Int))) then some (.tup [.ints .fresh .u64 (It (toNat (length x:Int)) (fun _=>0)),.int .u64 0,.int .u64 (getD x 0 0),.int .i64 0]) else none else none else bif (Dq x) then bif (Ah (Bq x)) then bif (Dq x&&Cf (length x≤1000∧-2300≤(Ab (0-(B8 (Bq x))))∧(Ab (0-(B8 (Bq x))))≤2300)) then bif (Dq (Bo x (Ab (0-(B8 (Bq x)))))&&Cf (length (Bo x (Ab (0-(B8 (Bq x)))))≤64)) then bif (Dq x) then bif (Ah (Pu x)) then bif (!(Dk (Pu x))) then bif (Ah (Ei (Bo x (Ab (0-(B8 (Bq x))))))) then bif (Eu (C6 (Ei (Bo x (Ab (0-(B8 (Bq x))))))) (B8 (Bq x))) then bif (Ah (Ck (C6 (Ei (Bo x (Ab (0-(B8 (Bq x))))))) (B8 (Bq x)))) then bif (!(Dd (Ck (C6 (Ei (Bo x (Ab (0-(B8 (Bq x))))))) (B8 (Bq x))))) then some (.tup [.nil,.int .u64 0,.int .u64 0,.int .i64 2]) else bif (decide ((0:Int)<(length (Bo x (Ab (0-(B8 (Bq x))))):Int))) then bif (Ah (getD (Bo x (Ab (0-(B8 (Bq x))))) 0 0)&&Ah (C6 (Ei (Bo x (Ab (0-(B8 (Bq x)))))))) then bif ((Cf (1≤(length (Bo x (Ab (0-(B8 (Bq x))))):Int)∧(length (Bo x (Ab (0-(B8 (Bq x))))):Int)≤64∧(length (Bo x (Ab (0-(B8 (Bq x))))):Int)=length (Bo x (Ab (0-(B8 (Bq x))))))&&Ap (Bo x (Ab (0-(B8 (Bq x))))))&&Ah (El (getD (Bo x (Ab (0-(B8 (Bq x))))) 0 0) (C6 (Ei (Bo x (Ab (0-(B8 (Bq x))))))))) then bif (decide ((0:Int)<(length (Bo x (Ab (0-(B8 (Bq x))))):Int))) then bif (Ah (C6 (Ei (Bo x (Ab (0-(B8 (Bq x)))))))&&Ah (getD (Bo x (Ab (0-(B8 (Bq x))))) 0 0)) then bif (Ah (El (C6 (Ei (Bo x (Ab (0-(B8 (Bq x))))))) (getD (Bo x (Ab (0-(B8 (Bq x))))) 0 0))&&Ah (C6 (Ei (Bo x (Ab (0-(B8 (Bq x)))))))) then some (.tup [.ints .fresh .u64 (It (toNat (length (Bo x (Ab (0-(B8 (Bq x))))):Int)) (fun j=>Ek (getD (Bo x (Ab (0-(B8 (Bq x))))) j 0) (El (getD (Bo x (Ab (0-(B8 (Bq x))))) 0 0) (C6 (Ei (Bo x (Ab (0-(B8 (Bq x)))))))))),.int .u64 (Ek (El (C6 (Ei (Bo x (Ab (0-(B8 (Bq x))))))) (getD (Bo x (Ab (0-(B8 (Bq x))))) 0 0)) (C6 (Ei (Bo x (Ab (0-(B8 (Bq x)))))))),.int .u64 (Ck (C6 (Ei (Bo x (Ab (0-(B8 (Bq x))))))) (B8 (Bq x))),.int .i64 0]) else none else none else none else none else none else none else none else none else none else bif (Eu (Ei (Bo x (Ab (0-(B8 (Bq x)))))) (B8 (Bq x))) then bif (Ah (Ck (Ei (Bo x (Ab (0-(B8 (Bq x)))))) (B8 (Bq x)))) then bif (!(Dd (Ck (Ei (Bo x (Ab (0-(B8 (Bq x)))))) (B8 (Bq x))))) then some (.tup [.nil,.int .u64 0,.int .u64 0,.int .i64 2]) else bif (decide ((0:Int)<(length (Bo x (Ab (0-(B8 (Bq x))))):Int))) then bif (Ah (getD (Bo x (Ab (0-(B8 (Bq x))))) 0 0)&&Ah (Ei (Bo x (Ab (0-(B8 (Bq x))))))) then bif ((Cf (1≤(length (Bo x (Ab (0-(B8 (Bq x))))):Int)∧(length (Bo x (Ab (0-(B8 (Bq x))))):Int)≤64∧(length (Bo x (Ab (0-(B8 (Bq x))))):Int)=length (Bo x (Ab (0-(B8 (Bq x))))))&&Ap (Bo x (Ab (0-(B8 (Bq x))))))&&Ah (El (getD (Bo x (Ab (0-(B8 (Bq x))))) 0 0) (Ei (Bo x (Ab (0-(B8 (Bq x)))))))) then bif (decide ((0:Int)<(length (Bo x (Ab (0-(B8 (Bq x))))):Int))) then bif (Ah (Ei (Bo x (Ab (0-(B8 (Bq x))))))&&Ah (getD (Bo x (Ab (0-(B8 (Bq x))))) 0 0)) then bif (Ah (El (Ei (Bo x (Ab (0-(B8 (Bq x)))))) (getD (Bo x (Ab (0-(B8 (Bq x))))) 0 0))&&Ah (Ei (Bo x (Ab (0-(B8 (Bq x))))))) then some (.tup [.ints .fresh .u64 (It (toNat (length (Bo x (Ab (0-(B8 (Bq x))))):Int)) (fun j=>Ek (getD (Bo x (Ab (0-(B8 (Bq x))))) j 0) (El (getD (Bo x (Ab (0-(B8 (Bq x))))) 0 0) (Ei (Bo x (Ab (0-(B8 (Bq x))))))))),.int .u64 (Ek (El (Ei (Bo x (Ab (0-(B8 (Bq x)))))) (getD (Bo x (Ab (0-(B8 (Bq x))))) 0 0)) (Ei (Bo x (Ab (0-(B8 (Bq x))))))),.int .u64 (Ck (Ei (Bo x (Ab (0-(B8 (Bq x)))))) (B8 (Bq x))),.int .i64 0]) else none else none else none else none else none else none else none else none else none else none else none else none else none else none else none else none else none :=
 Eq.trans (by kernel_rfl)
 (Ay (Wl ((length x:Int)==(0:Int))) (Ay (Un ((length x:Int)==(0:Int))) (Ay (Un ((length x:Int)==(0:Int))) (Ay (tt6 ((length x:Int)==(0:Int))) (Cy (tt5 ((length x:Int)==(0:Int)) (A6 64 (length x:Int))) rfl (Fq (Fq rfl (Cy (At1 (decide ((1:Int)≤(length x:Int)))) (Fq (Fq (Cy (Cr (Cf (1≤(length x:Int)∧(length x:Int)≤64))) (Cy (Cr (decide ((0:Int)<(length x:Int)))) rfl rfl) rfl) rfl) rfl) rfl)) rfl))))))
abbrev _root_.Go.Proofs.S1.Ai.Hz.Kn:=A7 prog 245 Ai.Hz.spec
theorem Ai.Hz.Ae (hk:A1 prog Ai.Hz.Bf) (h:Hyp Ai.Hz.E f245 Ai.Hz.ts Ai.Hz.pre Ai.Hz.out):Ai.Hz.Kn :=
 Am (A3 hk _ _ _) func245 (by kernel_rfl) (by kernel_rfl) h
def Ai.Apply.hint:Nat→Option A9
 | 0=>some { keep:=[1,3,4,5,10,13,14],objs:=[(14,2,114002,.ints 37 .u64 [])],boxes:=[5,10,13] }
 | 2=>some { keep:=[1,3,4,5,10,13,14,18,90,91,92],objs:=[(14,2,114002,.ints 37 .u64 [])],boxes:=[5,10,13] }
 | _=>none
def Ai.Apply.Bf:List (Nat × Entry):=[(160,Aa.Check.spec),(191,Aa.C2.spec),(189,Af.Fs.spec),(157,Af.Mul.spec),(156,Af.Sub.spec)]
def Ai.Apply.E:Env:=Bg (Be Ai.Apply.Bf) (fun _=>false) Ai.Apply.hint (fun _=>none)
section
variable (N M0 M:Nat) (r c:Int) (l:List Int) (i k:Int) (v:List Int) (t p92:Int) (p2:List Int) (p14_1 p18:Int) (p90:List Int) (p91 p14:Int) (p2_1:List Int)
def Ai.Apply.L0:Option DV:=Bx Ai.Apply.E N f219 (An f219) [1,1,1,1,0,1,0] [] M ⟨Gm 118 [(1,.int .i64 i),(3,.ints .arg .u64 v),(4,.int .u64 t),(5,.ptr 5 0 0),(10,.ptr 10 0 0),(13,.ptr 13 0 0),(14,.int .i64 p14)],[(5,false,.box [.int .i64 r,.int .i64 c,.ints .arg .u64 l]),(10,false,.box [.int .i64 0,.int .i64 0,.nil]),(13,false,.box [.int .i64 r,.int .i64 c,.oref 114002]),(114002,false,.ints 37 .u64 p2_1)]⟩
def Ai.Apply.L1:Option DV:=Bx Ai.Apply.E N f219 (An f219) [1,1,1,1,0,1,0,0,1,0,0,1,1,1,1,0] [M0] M ⟨Gm 118 [(1,.int .i64 i),(3,.ints .arg .u64 v),(4,.int .u64 t),(5,.ptr 5 0 0),(10,.ptr 10 0 0),(13,.ptr 13 0 0),(14,.int .i64 p14_1),(18,.int .u64 p18),(90,.ints .fresh .u64 p90),(91,.int .i64 p91),(92,.int .i64 p92)],[(5,false,.box [.int .i64 r,.int .i64 c,.ints .arg .u64 l]),(10,false,.box [.int .i64 0,.int .i64 0,.nil]),(13,false,.box [.int .i64 r,.int .i64 c,.oref 114002]),(114002,false,.ints 37 .u64 p2)]⟩
theorem Ai.Apply.Ax:Ai.Apply.L0 N (M+1) r c l i v t p14 p2_1=bif (A6 p14 c) then bif (Gk r c l p14&&Cf (0≤i∧i≤r)) then bif (((decide ((0:Int)≤(length v:Int)))&&(decide ((length v:Int)≤(length v:Int))))&&((decide ((0:Int)≤(length v:Int)))&&(decide ((length v:Int)≤(length (Cb c l p14 i (toNat (r-i))):Int))))) then bif ((Ss v (List.take (toNat (length v:Int)) (Cb c l p14 i (toNat (r-i))))&&Ap v)&&Ap (List.take (toNat (length v:Int)) (Cb c l p14 i (toNat (r-i))))) then bif (Ah t&&Ah (Pl v (List.take (toNat (length v:Int)) (Cb c l p14 i (toNat (r-i)))))) then Ai.Apply.L1 N M N r c l i v t 0 p2_1 p14 (Ej t (Pl v (List.take (toNat (length v:Int)) (Cb c l p14 i (toNat (r-i)))))) (List.take (toNat (length v:Int)) (Cb c l p14 i (toNat (r-i)))) (length (List.take (toNat (length v:Int)) (Cb c l p14 i (toNat (r-i)))):Int) else none else none else none else none else some (.tup [.agg [.int .i64 r,.int .i64 c,.ints (.own 114002 37) .u64 p2_1],.int .i64 0]) :=
 Eq.trans (by kernel_rfl)
 (Fq (Fq (Cy (Apk (decide ((0:Int)≤(length v:Int))) (decide ((length v:Int)≤(length v:Int))) (decide ((length v:Int)≤(length (Cb c l p14 i (toNat (r-i))):Int)))) rfl rfl) rfl) rfl)
theorem Ai.Apply.Cc:Ai.Apply.L1 N M0 (M+1) r c l i v t p92 p2 p14_1 p18 p90 p91=bif (A6 p92 p91) then bif ((decide (0≤p92))&&(decide (p92<(length p90:Int)))) then bif ((decide (0≤p92))&&(decide (p92<(length v:Int)))) then bif (Ah p18&&Ah (getD v (toNat p92) 0)) then bif (Ah (getD p90 (toNat p92) 0)&&Ah (Ej p18 (getD v (toNat p92) 0))) then bif ((decide (0≤(Ab ((Ab ((Ab (i+p92))*c))+p14_1))))&&(decide ((Ab ((Ab ((Ab (i+p92))*c))+p14_1))<(length p2:Int)))) then bif (decide ((toNat (Ab ((Ab ((Ab (i+p92))*c))+p14_1)))<(length p2))) then Ai.Apply.L1 N M0 M r c l i v t (Ab (p92+1)) (List.set p2 (toNat (Ab ((Ab ((Ab (i+p92))*c))+p14_1))) (El (getD p90 (toNat p92) 0) (Ej p18 (getD v (toNat p92) 0)))) p14_1 p18 p90 p91 else none else none else none else none else none else none else Ai.Apply.L0 N M0 r c l i v t (Ab (p14_1+1)) p2 :=
 Eq.trans (by kernel_rfl)
 (Fq (Fq (Cy (J1 (decide (0≤p92)) (decide (p92<(length v:Int)))) (Cy (Cr (Ah p18&&Ah (getD v (toNat p92) 0))) (Cy (Cr (Ah (getD p90 (toNat p92) 0)&&Ah (Ej p18 (getD v (toNat p92) 0)))) (Cy (J1 (decide (0≤(Ab ((Ab ((Ab (i+p92))*c))+p14_1)))) (decide ((Ab ((Ab ((Ab (i+p92))*c))+p14_1))<(length p2:Int)))) (Cy (Cr (decide ((toNat (Ab ((Ab ((Ab (i+p92))*c))+p14_1)))<(length p2)))) rfl rfl) rfl) rfl) rfl) rfl) rfl) rfl)
theorem Ai.Apply.ev:By Ai.Apply.E N f219 (An f219) [.agg [.int .i64 r,.int .i64 c,.ints .arg .u64 l],.int .i64 i,.int .i64 k,.ints .arg .u64 v,.int .u64 t]=bif ((I2 r c l) !=(0:Int)) then some (.tup [.agg [.int .i64 0,.int .i64 0,.nil],.int .i64 (I2 r c l)]) else bif (((((A6 i 0)||(A6 r (length v:Int)))||(A6 (Ab (r-(length v:Int))) i))||(A6 k 0))||(A6 c k)) then some (.tup [.agg [.int .i64 0,.int .i64 0,.nil],.int .i64 3]) else bif (decide (0+(length l)≤Ga)) then Ai.Apply.L0 N N r c l i v t k ([]++l) else none :=
 Eq.trans (by kernel_rfl)
 (Fq rfl (Ay (Wl (A6 i 0)) (Ay (Un (A6 i 0)) (Ay (Wl (A6 i 0)) (Ay (Un (A6 i 0)) (Ay (tt8 (A6 i 0)) (Ay (tt6 (A6 i 0)) (Ay (Aio (A6 i 0) (A6 r (length v:Int))) (Ay (Aio (A6 i 0) (A6 r (length v:Int))) (Ay (Amj (A6 i 0) (A6 r (length v:Int))) (Ay (Aio (A6 i 0) (A6 r (length v:Int))) (Ay (Amj (A6 i 0) (A6 r (length v:Int))) (Ay (Arw (A6 i 0) (A6 r (length v:Int))) (Ay (Arw (A6 i 0) (A6 r (length v:Int))) (Ay (Apm (A6 i 0) (A6 r (length v:Int))) (Ay (Apn (A6 i 0) (A6 r (length v:Int)) (A6 (Ab (r-(length v:Int))) i)) (Ay (Apo (A6 i 0) (A6 r (length v:Int)) (A6 (Ab (r-(length v:Int))) i)) (Ay (Apq (A6 i 0) (A6 r (length v:Int)) (A6 (Ab (r-(length v:Int))) i)) (Ay (Afx (A6 i 0) (A6 r (length v:Int)) (A6 (Ab (r-(length v:Int))) i) (A6 k 0)) (Ay (Afx (A6 i 0) (A6 r (length v:Int)) (A6 (Ab (r-(length v:Int))) i) (A6 k 0)) (Ay (Amk (A6 i 0) (A6 r (length v:Int)) (A6 (Ab (r-(length v:Int))) i) (A6 k 0)) (Ay (Apr (A6 i 0) (A6 r (length v:Int)) (A6 (Ab (r-(length v:Int))) i) (A6 k 0)) (Ay (Aps (A6 i 0) (A6 r (length v:Int)) (A6 (Ab (r-(length v:Int))) i) (A6 k 0)) (Cy (At0 (A6 i 0) (A6 r (length v:Int)) (A6 (Ab (r-(length v:Int))) i) (A6 k 0) (A6 c k)) rfl (Cy (Cr (decide (0+(length l)≤Ga))) rfl rfl)))))))))))))))))))))))))
end
abbrev _root_.Go.Proofs.S1.Ai.Apply.Kn:=A7 prog 219 Ai.Apply.spec
theorem Ai.Apply.Ae (hk:A1 prog Ai.Apply.Bf) (h:Hyp Ai.Apply.E f219 Ai.Apply.ts Ai.Apply.pre Ai.Apply.out):Ai.Apply.Kn :=
 Am (A3 hk _ _ _) func219 (by kernel_rfl) (by kernel_rfl) h
end EqHouse
open Go Go.Den Go.C4 Go.Proofs
open EqHouse
theorem Afc (x:Int):((Bd x) !=(0:Int))=!(decide (Bd x=0)):=by
 rw [Avn]; simp
theorem Y0 (N:Nat) {x:List Int} (hx:Dq x=true):∀ (k i F:Nat),i+k=x.length→k<F→Ai.Cu.L0 N F x (i:Int)=some (.bool (Jf (x.drop i))):=by
 obtain ⟨hl,hu⟩:=J6 hx
 intro k
 induction k with
 | zero =>
   intro i F hi hF
   obtain ⟨F,rfl⟩:∃ G,F=G+1:=⟨F-1,by omega⟩
   rw [Ai.Cu.Ax,Av,Avc (by omega),Avb,Avl (by omega)]; rfl
 | succ k ih =>
   intro i F hi hF
   obtain ⟨F,rfl⟩:∃ G,F=G+1:=⟨F-1,by omega⟩
   rw [Ai.Cu.Ax,Av,Au8 (show (i:Int)<(x.length:Int) by omega),Au7,Au8 (show (0:Int)≤(i:Int) by omega),Avd,Au7,Au9,hu i (by omega),Au7,Afc,Hv (by omega)]
   unfold Jf
   rw [List.all_cons]
   cases decide (Bd (x.getD i 0)=0) with
   | false=>rfl
   | true =>
     rw [Av6,Avb,Awk,Al (by omega) (by omega)]
     exact ih (i+1) F (by omega) (by omega)
theorem Ai.Cu.known:Ai.Cu.Kn:=Ai.Cu.Ae (.cons soft.Kind.known .nil) fun x hp=>by
 refine ⟨x.length+1,Ai.Cu.out [.l x],[],?_,.bool⟩
 rw [Ai.Cu.ev]
 exact Y0 (x.length+1) hp x.length 0 (x.length+1) (by omega) (by omega)
theorem Ag8 (N:Nat) {x:List Int} (hx:Dq x=true):∀ (k i F:Nat),i+k=x.length→k<F→Ai.lead.L0 N F x (i:Int)=some (.int .u64 (Pu (x.drop i))):=by
 obtain ⟨hl,hu⟩:=J6 hx
 intro k
 induction k with
 | zero =>
   intro i F hi hF
   obtain ⟨F,rfl⟩:∃ G,F=G+1:=⟨F-1,by omega⟩
   rw [Ai.lead.Ax,Av,Avc (by omega),Avb,Avl (by omega)]; rfl
 | succ k ih =>
   intro i F hi hF
   obtain ⟨F,rfl⟩:∃ G,F=G+1:=⟨F-1,by omega⟩
   rw [Ai.lead.Ax,Av,Au8 (show (i:Int)<(x.length:Int) by omega),Au7,Au8 (show (0:Int)≤(i:Int) by omega),Avd,Au7,Au9,hu i (by omega),Au7,Afc,Hv (by omega),Pu]
   by_cases h:Bd (x.getD i 0)=0
   ·rw [Au8 h,Avu h,Av6,Avb,Al (by omega) (by omega)]
    exact ih (i+1) F (by omega) (by omega)
   ·rw [Avc h,Avt h]; rfl
theorem Ai.lead.known:Ai.lead.Kn:=Ai.lead.Ae (.cons soft.Kind.known .nil) fun x hp=>by
 refine ⟨x.length+1,Ai.lead.out [.l x],[],?_,.int⟩
 rw [Ai.lead.ev]
 exact Ag8 (x.length+1) hp x.length 0 (x.length+1) (by omega) (by omega)
theorem Acl {x:List Int} {i:Nat} (h:i<x.length) (f:Int→Int):(x.take (i+1)).map f=(x.take i).map f++[f (x.getD i 0)]:=by
 rw [List.take_succ_eq_append_getElem h,List.map_append,Avh,Avo h]; rfl
theorem Ys (N:Nat) {x:List Int} {e:Int} (hx:Dq x=true) (hl:x.length≤1000) (he:-2300≤e∧e≤2300):∀ (k i F:Nat),i+k=x.length→k<F →
 Ai.Cw.L0 N F x e (i:Int) ((x.take i).map fun b=>Ck b e)=some (.ints (.own 100005 tB) .u64 (Bo x e)):=by
 obtain ⟨_,hu⟩:=J6 hx
 intro k
 induction k with
 | zero =>
   intro i F hi hF
   obtain ⟨F,rfl⟩:∃ G,F=G+1:=⟨F-1,by omega⟩
   rw [Ai.Cw.Ax,Av,Avc (by omega),Avb,List.take_of_length_le (by omega)]; rfl
 | succ k ih =>
   intro i F hi hF
   obtain ⟨F,rfl⟩:∃ G,F=G+1:=⟨F-1,by omega⟩
   rw [Ai.Cw.Ax,Av,Au8 (show (i:Int)<(x.length:Int) by omega),Au7,Au8 (show (0:Int)≤(i:Int) by omega),Avd,Au7,Au9,
    show Eu (getD x i 0) e=true from Ag.2 ⟨hu i (by omega),Ao.2 he⟩,Au7,Au8 (by rw [Awd,List.length_take]; unfold Ga; omega),Au7,Al (by omega) (by omega)]
   have:=ih (i+1) F (by omega) (by omega)
   rw [Acl (by omega)] at this
   exact this
theorem Ai.Cw.known:Ai.Cw.Kn:=Ai.Cw.Ae (.cons Af.Bs.known .nil) fun x k hp=>by
 obtain ⟨h1,h2⟩:=Ag.1 hp
 have h2:=Ao.1 h2
 refine ⟨x.length+1,.ints (.own 100005 tB) .u64 (Bo x k),[100005],?_,.drop _ _ _ _ (List.mem_singleton.2 rfl)⟩
 rw [Ai.Cw.ev]
 exact Ys (x.length+1) h1 h2.1 h2.2 x.length 0 (x.length+1) (by omega) (by omega)
theorem Ai.Eg.known:Ai.Eg.Kn:=Ai.Eg.Ae .nil fun i _=>⟨0,Ai.Eg.out [.i i],[],by rw [Ai.Eg.ev]; rfl,.int⟩
theorem Ai.Ef.known:Ai.Ef.Kn:=Ai.Ef.Ae (.cons Af.Div.known .nil) fun i y d hp=>by
 obtain ⟨h1,h2⟩:=Ag.1 (show ((Cf (0≤i∧i<length y)&&Ap y)&&Ah d)=true from hp)
 obtain ⟨h3,h4⟩:=Ag.1 h1
 have h3:=Ao.1 h3
 refine ⟨0,Ai.Ef.out [.i i,.l y,.i d],[],?_,.int⟩
 rw [Ai.Ef.ev,Au8 h3.1,Au8 h3.2,Mi h4,h2]; rfl
theorem O3 (n i:Nat) (f:Nat→Int) (h:i+1=n):It n f=Wo::(List.range i).map fun j=>f (j+1):=by unfold It; rw [show n-1=i by omega]
theorem Aer {n:Nat} (f:Nat→Int) (h:n≠0):(((decide ((0:Int)≤(n:Int)))&&(decide ((n:Int)≤(n:Int))))&&((decide ((0:Int)≤(n:Int)))&&(decide ((n:Int)≤(length (It n f):Int)))))=true ∧
 List.take (toNat ((n:Int)-(0:Int))) (List.drop 0 (It n f))=It n f:=by
 have:=Q2 h f
 refine ⟨?_,?_⟩
 ·rw [Au8 (by omega),Au8 (by omega),Au8 (by omega)]; rfl
 ·rw [List.drop_zero,List.take_of_length_le (by omega)]
theorem Wm (N:Nat) {n:Nat} (h64:n≤64) (h0:n≠0):∀ (k i F:Nat),i+1+k=n→k<F →
 Ai.row.Zero.L0 N F (n:Int) ((i+1:Nat):Int) (It (i+1) fun _=>0)=some (.ints .fresh .u64 (It n fun _=>0)):=by
 intro k
 induction k with
 | zero =>
   intro i F hi hF
   obtain ⟨F,rfl⟩:∃ G,F=G+1:=⟨F-1,by omega⟩
   obtain rfl:i+1=n:=by omega
   obtain ⟨e1,e2⟩:=Aer (fun _=>0) h0
   rw [Ai.row.Zero.Ax,Av,Avc (by omega),Avb,e1,Au7,e2]
 | succ k ih =>
   intro i F hi hF
   obtain ⟨F,rfl⟩:∃ G,F=G+1:=⟨F-1,by omega⟩
   rw [Ai.row.Zero.Ax,Av,Au8 (by omega),Au7,Au8 (by rw [Q2 (by omega)]; unfold Ga; omega),Au7,Al (by omega) (by omega)]
   have:=ih (i+1) F (by omega) (by omega)
   rw [O3 (i+1+1) (i+1) _ rfl,Jc] at this
   rw [O3 (i+1) i _ rfl]
   exact this
theorem Ai.row.Zero.known:Ai.row.Zero.Kn:=Ai.row.Zero.Ae (.cons Ai.Eg.known .nil) fun n hp=>by
 have hp:=Ao.1 (show Cf (1≤n∧n≤64)=true from hp)
 obtain ⟨m,rfl⟩:∃ m:Nat,n=m:=⟨n.toNat,by omega⟩
 refine ⟨65,Ai.row.Zero.out [.i m],[],?_,.Oh⟩
 show _=some (DV.ints .fresh .u64 (It (toNat (m:Int)) fun _=>0))
 rw [Ai.row.Zero.ev,Au9]
 exact Wm 65 (by omega) (by omega) (m-1) 0 65 (by omega) (by omega)
theorem Yu (N:Nat) {n:Nat} {y:List Int} {d:Int} (h64:n≤64) (h0:n≠0) (hy:n=y.length) (al:Ap y=true) (hd:Ah d=true):∀ (k i F:Nat),i+1+k=n→k<F →
 Ai.row.Div.L0 N F (n:Int) y d ((i+1:Nat):Int) (It (i+1) fun j=>Ek (y.getD j 0) d)=some (.ints .fresh .u64 (It n fun j=>Ek (y.getD j 0) d)):=by
 intro k
 induction k with
 | zero =>
   intro i F hi hF
   obtain ⟨F,rfl⟩:∃ G,F=G+1:=⟨F-1,by omega⟩
   obtain rfl:i+1=n:=by omega
   obtain ⟨e1,e2⟩:=Aer (fun j=>Ek (y.getD j 0) d) h0
   rw [Ai.row.Div.Ax,Av,Avc (by omega),Avb,e1,Au7,e2]
 | succ k ih =>
   intro i F hi hF
   obtain ⟨F,rfl⟩:∃ G,F=G+1:=⟨F-1,by omega⟩
   rw [Ai.row.Div.Ax,Av,Au8 (by omega),Au7,Ao.2 (show 0≤((i+1:Nat):Int)∧((i+1:Nat):Int)<(y.length:Int) by omega),al,hd,Avd,Avd,Au7,Au8 (by rw [Q2 (by omega)]; unfold Ga; omega),Au7,Al (by omega) (by omega),Au9]
   have:=ih (i+1) F (by omega) (by omega)
   rw [O3 (i+1+1) (i+1) _ rfl,Jc] at this
   rw [O3 (i+1) i _ rfl]
   exact this
theorem Ai.row.Div.known:Ai.row.Div.Kn:=Ai.row.Div.Ae (.cons Ai.Ef.known .nil) fun n y d hp=>by
 obtain ⟨h1,h2⟩:=Ag.1 (show ((Cf (1≤n∧n≤64∧n=length y)&&Ap y)&&Ah d)=true from hp)
 obtain ⟨h3,h4⟩:=Ag.1 h1
 have h3:=Ao.1 h3
 obtain ⟨m,rfl⟩:∃ m:Nat,n=m:=⟨n.toNat,by omega⟩
 refine ⟨65,Ai.row.Div.out [.i m,.l y,.i d],[],?_,.Oh⟩
 show _=some (DV.ints .fresh .u64 (It (toNat (m:Int)) fun j=>Ek (getD y j 0) d))
 rw [Ai.row.Div.ev,Au9]
 exact Yu 65 (by omega) (by omega) (by omega) h4 h2 (m-1) 0 65 (by omega) (by omega)
theorem W8 {x:List Int} {k:Int} {j:Nat} (h:j<x.length):(Bo x k).getD j 0=Ck (x.getD j 0) k:=by
 unfold Bo
 rw [Avh,Awo,Avo h,Avh,Avo h]; rfl
theorem Af7 (x:List Int) (k:Int):(Bo x k).length=x.length:=by unfold Bo; rw [Awd]
theorem Af8 {x:List Int} (k:Int) (h:Ap x=true):Ap (Bo x k)=true:=Pd fun y hy=>by
 obtain ⟨b,hb,rfl⟩:=List.mem_map.1 hy
 exact Ja (Ao.1 h b hb)
theorem Za:∀ {x:List Int},Ap x=true→Ah (Pu x)=true
 | [],_=>I5
 | b::l,h=>by
   unfold Pu
   split
   ·exact Za (Pd fun y hy=>Ao.1 h y (Awc _ hy))
   ·exact Ao.1 h b Awm
theorem Ahw {x:List Int} (h:Dq x=true):Ap x=true:=Ao.2 (Ao.1 h).2
theorem Oy {drops:List Nat} {g:Ab9}:Wk drops .nil (.ints g .u64 []):=.nil g .u64
theorem Age {n:Nat} {f g:Nat→Int} (h:∀ j,j<n→f j=g j):It n f=It n g:=by
 unfold It
 congr 1
 exact List.map_congr_left fun j hj=>h _ (by have:=List.mem_range.1 hj; omega)
theorem Ai.Hz.known:Ai.Hz.Kn:=Ai.Hz.Ae (.cons compare.Rx.known (.cons Ai.lead.known (.cons Ai.Cu.known (.cons (A7.alt Ai.row.Zero.known Ai.row.Div.known) (.cons Ai.Cw.known (.cons soft.Finite.known (.cons soft.Ew.known (.cons soft.Sign.known (.cons Af.Ci.known (.cons Af.Div.known (.cons Af.Finite.known (.cons Af.Norm.known (.cons Af.Bs.known (.cons Af.Sub.known .nil)))))))))))))) fun x hp=>by
 have hx:Dq x=true:=hp
 have al:=Ahw hx
 have he:=Ak3 (Bq x)
 show ∃ N dv drops,_=some dv∧Wk drops dv (DV.tup [.ints .fresh .u64 (Ch x).1,.int .u64 (Ch x).2.1,.int .u64 (Ch x).2.2.1,.int .i64 (Ch x).2.2.2])
 unfold Ch
 by_cases h1:x.length=0∨64<x.length
 ·rw [Avu h1]
  refine ⟨0,.tup [.nil,.int .u64 0,.int .u64 0,.int .i64 3],[],?_,Wk.G1 (.cons Oy (.cons .int (.cons .int (.cons .int .nil))))⟩
  have:(((length x:Int)==(0:Int))||(A6 (64:Int) (length x:Int)))=true:=by
   rw [Av,Bool.or_eq_true,beq_iff_eq,Ave]; omega
  rw [Ai.Hz.ev,this,Au7]
 have c1:(((length x:Int)==(0:Int))||(A6 (64:Int) (length x:Int)))=false:=by
  rw [Av,Bool.or_eq_false_iff,Av2,Avq]; omega
 rw [Avt h1]
 by_cases h2:Fg x=true
 ·rw [Avu h2]
  unfold Anh
  have ok1:Dq (x.drop 1)=true:=Kt (Pd fun y hy=>Ao.1 al y (List.mem_of_mem_drop hy)) (by rw [List.length_drop]; omega)
  have d1:decide ((1:Int)≤(x.length:Int))=true:=Au8 (by omega)
  have d0:decide ((0:Int)<(x.length:Int))=true:=Au8 (by omega)
  by_cases h3:Jf (x.drop 1)=true
  ·rw [Avu h3]
   refine ⟨0,.tup [.ints .fresh .u64 (It x.length fun _=>0),.int .u64 0,.int .u64 (x.getD 0 0),.int .i64 0],[],?_,Wk.G1 (.cons .Oh (.cons .int (.cons .int (.cons .int .nil))))⟩
   rw [Ai.Hz.ev,c1,Avb,hx,Au7,h2,Av6,Avb,d1,Au7,ok1,Au7,h3,Au7,Ao.2 (show 1≤(x.length:Int)∧(x.length:Int)≤64 by omega),Au7,d0,Au7,Au9]
  ·rw [Avt h3]
   have h3:Jf (x.drop 1)=false:=by simpa using h3
   have ew:Ab (0-B8 (Bq x))=-B8 (Bq x):=by rw [Al (by omega) (by omega)]; omega
   have ly:=Af7 x (-B8 (Bq x))
   have ay:=Af8 (-B8 (Bq x)) al
   have oky:Dq (Bo x (-B8 (Bq x)))=true:=Kt ay (by omega)
   have gy:=W8 (x:=x) (k:=-B8 (Bq x)) (j:=0) (by omega)
   have iy:=Mi ay 0
   have key:∀ mu:Int,muI x=mu→Ah mu=true→∀ b:Bool,Dd (He x)=b→∃ dv:DV,(bif (!b) then
    some (.tup [.nil,.int .u64 (0:Int),.int .u64 (0:Int),.int .i64 (2:Int)])
    else some (.tup [.ints .fresh .u64 (It (toNat (length (Bo x (-B8 (Bq x))):Int)) (fun j=>Ek (getD (Bo x (-B8 (Bq x))) j 0) (El (getD (Bo x (-B8 (Bq x))) 0 0) mu))),.int .u64 (Ek (El mu (getD (Bo x (-B8 (Bq x))) 0 0)) mu),.int .u64 (Ck mu (B8 (Bq x))),.int .i64 (0:Int)]))=some dv ∧
    Wk [] dv (DV.tup [.ints .fresh .u64 (if Dd (He x)=true then (Aa0 x,Ada x,He x,(0:Int)) else ([],0,0,2)).1,.int .u64 (if Dd (He x)=true then (Aa0 x,Ada x,He x,(0:Int)) else ([],0,0,2)).2.1,.int .u64 (if Dd (He x)=true then (Aa0 x,Ada x,He x,(0:Int)) else ([],0,0,2)).2.2.1,.int .i64 (if Dd (He x)=true then (Aa0 x,Ada x,He x,(0:Int)) else ([],0,0,2)).2.2.2]):=by
    intro mu hmu _ b hb
    rw [hb]
    cases b with
    | false=>exact ⟨_,rfl,Wk.G1 (.cons Oy (.cons .int (.cons .int (.cons .int .nil))))⟩
    | true =>
      refine ⟨_,rfl,?_⟩
      rw [Avu rfl]
      dsimp only
      have e1:It (toNat (length (Bo x (-B8 (Bq x))):Int)) (fun j=>Ek (getD (Bo x (-B8 (Bq x))) j 0) (El (getD (Bo x (-B8 (Bq x))) 0 0) mu))=Aa0 x:=by
       unfold Aa0
       rw [Au9,ly,gy,← hmu]
       exact Age fun j hj=>by rw [W8 hj]; rfl
      have e2:Ek (El mu (getD (Bo x (-B8 (Bq x))) 0 0)) mu=Ada x:=by
       unfold Ada
       rw [gy,hmu]; rfl
      have e3:Ck mu (B8 (Bq x))=He x:=by unfold He; rw [hmu]
      rw [e1,e2,e3]
      exact Wk.G1 (.cons .Oh (.cons .int (.cons .int (.cons .int .nil))))
   have dz:decide ((0:Int)<((Bo x (-B8 (Bq x))).length:Int))=true:=Au8 (by omega)
   have cz':Cf (1≤((Bo x (-B8 (Bq x))).length:Int)∧((Bo x (-B8 (Bq x))).length:Int)≤64∧True)=true:=Ao.2 ⟨by omega,by omega,trivial⟩
   have p1:Cf (x.length≤1000∧-2300≤-B8 (Bq x)∧-B8 (Bq x)≤2300)=true:=Ao.2 (by omega)
   have p2:Cf ((Bo x (-B8 (Bq x))).length≤64)=true:=Ao.2 (by omega)
   have sp:∀ mu:Int,Ah mu=true→Eu mu (B8 (Bq x))=true:=fun mu h=>Ag.2 ⟨h,Ao.2 (by omega)⟩
   have ny:=Y3 (Bo x (-B8 (Bq x)))
   cases hn:Dk (Pu x) with
   | true =>
     have hm:muI x=Ei (Bo x (-B8 (Bq x))):=by unfold muI; rw [Avu hn]
     obtain ⟨dv,k1,k2⟩:=key _ hm ny (Dd (He x)) rfl
     refine ⟨0,dv,[],?_,k2⟩
     rw [← k1]
     have eb:He x=Ck (Ei (Bo x (-B8 (Bq x)))) (B8 (Bq x)):=by unfold He; rw [hm]
     rw [Ai.Hz.ev,ew,eb]
     simp only [c1,Avb,hx,Au7,h2,Av6,d1,ok1,h3,Qn,p1,oky,p2,Avd,Za al,hn,sp _ ny,Ja ny,dz,cz',ay,iy,ny,P2 iy ny,P2 ny iy]
   | false =>
     have hm:muI x=C6 (Ei (Bo x (-B8 (Bq x)))):=by unfold muI; rw [Avt (by rw [hn]; decide)]
     have my:=Vf ny
     obtain ⟨dv,k1,k2⟩:=key _ hm my (Dd (He x)) rfl
     refine ⟨0,dv,[],?_,k2⟩
     rw [← k1]
     have eb:He x=Ck (C6 (Ei (Bo x (-B8 (Bq x))))) (B8 (Bq x)):=by unfold He; rw [hm]
     rw [Ai.Hz.ev,ew,eb]
     simp only [c1,Avb,hx,Au7,h2,Av6,d1,ok1,h3,Qn,p1,oky,p2,Avd,Za al,hn,Awq,sp _ my,Ja my,dz,cz',ay,iy,ny,my,P2 iy my,P2 my iy]
 ·rw [Avt h2]
  have h2:Fg x=false:=by simpa using h2
  refine ⟨0,.tup [.nil,.int .u64 0,.int .u64 0,.int .i64 4],[],?_,Wk.G1 (.cons Oy (.cons .int (.cons .int (.cons .int .nil))))⟩
  rw [Ai.Hz.ev,c1,Avb,hx,Au7,h2,Awq,Au7]
open Go Go.Den Go.C4 Go.Proofs
open EqHouse
def apD (i k c j a b:Nat):Bool:=decide (k≤b∧i≤a∧(b<c∨(b=c∧a<i+j)))
def apS (R C:Nat) (l:List Int) (i k:Nat) (v:List Int) (t:Int) (c j:Nat):List Int :=
 Cj R C fun a b=>if apD i k c j a b=true∧a<i+v.length then Oq (C:Int) l (i:Int) (k:Int) v t (a:Int) (b:Int) else Cv (C:Int) l (a:Int) (b:Int)
section
variable {R C i k:Nat} {l v:List Int} {t:Int}
theorem Aop (c j:Nat):(apS R C l i k v t c j).length=R*C:=B6 _ _ _
theorem Alq (h:l.length=R*C):apS R C l i k v t k 0=l:=by
 unfold apS
 conv=>rhs; rw [← Xu h]
 refine C8 fun a b ha hb=>?_
 rw [Avt]
 rintro ⟨h,_⟩
 have:=Avx h
 omega
theorem Alr (c:Nat):apS R C l i k v t c v.length=apS R C l i k v t (c+1) 0:=by
 unfold apS
 refine C8 fun a b ha hb=>?_
 have:(apD i k c v.length a b=true∧a<i+v.length)↔(apD i k (c+1) 0 a b=true∧a<i+v.length):=by
  unfold apD
  rw [Ave,Ave]
  omega
 by_cases h:apD i k c v.length a b=true∧a<i+v.length
 ·rw [Avu h,Avu (this.1 h)]
 ·rw [Avt h,Avt (fun hh=>h (this.2 hh))]
theorem Aoq:apS R C l i k v t C 0=F4 R C l (i:Int) (k:Int) v t:=by
 unfold apS F4
 refine C8 fun a b ha hb=>?_
 by_cases h:apD i k C 0 a b=true∧a<i+v.length
 ·rw [Avu h]
 ·rw [Avt h]
  unfold Oq
  rw [Avt]
  intro hh
  refine h ⟨?_,by omega⟩
  unfold apD
  rw [Ave]; omega
theorem Aoo {c j:Nat} (hc:c<C) (hk:k≤c) (hj:j<v.length) {x:Int} (hx:x=Oq (C:Int) l (i:Int) (k:Int) v t ((i+j:Nat):Int) (c:Int)) :
 List.set (apS R C l i k v t c j) ((i+j)*C+c) x=apS R C l i k v t c (j+1):=by
 unfold apS
 rw [Ro hc]
 refine C8 fun a b ha hb=>?_
 by_cases h:a=i+j∧b=c
 ·obtain ⟨rfl,rfl⟩:=h
  rw [Avu ⟨rfl,rfl⟩,Avu ⟨by unfold apD; rw [Ave]; omega,by omega⟩,hx]
 ·rw [Avt h]
  have:(apD i k c j a b=true∧a<i+v.length)↔(apD i k c (j+1) a b=true∧a<i+v.length):=by
   unfold apD
   rw [Ave,Ave]
   omega
  by_cases h2:apD i k c j a b=true∧a<i+v.length
  ·rw [Avu h2,Avu (this.1 h2)]
  ·rw [Avt h2,Avt (fun hh=>h2 (this.2 hh))]
theorem Alp {c j:Nat} (hk:k≤c) (hj:j<v.length):Oq (C:Int) l (i:Int) (k:Int) v t ((i+j:Nat):Int) (c:Int) =
 El ((Cb (C:Int) l (c:Int) (i:Int) v.length).getD j 0) (Ej (Zv (C:Int) l (i:Int) v t (c:Int)) (v.getD j 0)):=by
 unfold Oq
 rw [Avu ⟨by omega,by omega,by omega⟩]
 have e1:(((i+j:Nat):Int)-(i:Int)).toNat=j:=by omega
 have e2:(Cb (C:Int) l (c:Int) (i:Int) v.length).getD j 0=Cv (C:Int) l ((i+j:Nat):Int) (c:Int):=by
  unfold Cb
  rw [Avh,Awo,List.getElem?_range hj]
  show Cv (C:Int) l ((i:Int)+(j:Int)) (c:Int)=_
  rw [← Int.natCast_add]
 rw [e1,e2]
theorem Aiz {c b i:Int} {l:List Int} {m n:Nat} (h:m≤n):List.take m (Cb c l b i n)=Cb c l b i m:=by
 unfold Cb
 rw [← List.map_take,List.take_range,Nat.min_eq_left h]
theorem Ad5 (N M0:Nat) (r6:R≤6) (c6:C≤6) (al:Ap l=true) (av:Ap v=true) (hv:i+v.length≤R) {c:Nat} (hc:c<C) (hk:k≤c):∀ (cnt j F:Nat),j+cnt=v.length→cnt<F →
 Ai.Apply.L1 N M0 F (R:Int) (C:Int) l (i:Int) v t (j:Int) (apS R C l i k v t c j) (c:Int) (Zv (C:Int) l (i:Int) v t (c:Int)) (Cb (C:Int) l (c:Int) (i:Int) v.length) (v.length:Int) =
 Ai.Apply.L0 N M0 (R:Int) (C:Int) l (i:Int) v t ((c+1:Nat):Int) (apS R C l i k v t (c+1) 0):=by
 intro cnt
 induction cnt with
 | zero =>
   intro j F hj hF
   obtain ⟨F,rfl⟩:∃ G,F=G+1:=⟨F-1,by omega⟩
   obtain rfl:j=v.length:=by omega
   rw [Ai.Apply.Cc,Av,Avc (by omega),Avb,Al (by omega) (by omega),Alr]
   rfl
 | succ cnt ih =>
   intro j F hj hF
   obtain ⟨F,rfl⟩:∃ G,F=G+1:=⟨F-1,by omega⟩
   have hm:=G2 (a:=((i+j:Nat):Int)) (b:=(C:Int)) (by omega) (by omega) (by omega) (by omega)
   have hpl:=Gq (show i+j<R by omega) hc
   have e1:Ab ((i:Int)+(j:Int))=((i+j:Nat):Int):=by rw [Al (by omega) (by omega)]; omega
   have e2:Ab (((i+j:Nat):Int)*(C:Int))=(((i+j)*C:Nat):Int):=by rw [Al (by omega) (by omega)]; exact (Avs _ _).symm
   have h36:=Av3 r6 c6
   have e3:Ab ((((i+j)*C:Nat):Int)+(c:Int))=(((i+j)*C+c:Nat):Int):=by rw [Al (by omega) (by omega)]; omega
   have hlen:=Aop (R:=R) (C:=C) (l:=l) (i:=i) (k:=k) (v:=v) (t:=t) c j
   have sl:=Hj (C:Int) (c:Int) (i:Int) v.length l
   rw [Ai.Apply.Cc,Av,Au8 (show (j:Int)<(v.length:Int) by omega),Au7,e1,e2,e3,sl,Au8 (show (0:Int)≤(j:Int) by omega),Au8 (show (j:Int)<(v.length:Int) by omega),Avd,Au7,Au9,Au9]
   have a1:=Mi av j
   have a2:=Mi (R9 (c:=(C:Int)) (b:=(c:Int)) (i:=(i:Int)) (n:=v.length) al) j
   have a3:Ah (Zv (C:Int) l (i:Int) v t (c:Int))=true:=Ll _ _
   rw [Au7,a3,a1,Avd,Au7,a2,Ll,Avd,Au7,Au8 (by omega),Au8 (by omega),Avd,Au7,Au8 (by omega),Au7,
    Aoo hc hk (by omega) (Alp hk (by omega)).symm,Al (by omega) (by omega)]
   exact ih (j+1) F (by omega) (by omega)
theorem Ad6 (N:Nat) (r6:R≤6) (c6:C≤6) (hN:7<N) (hr:Bj (R:Int) (C:Int) l=true) (al:Ap l=true) (av:Ap v=true) (ht:Ah t=true) (hv:i+v.length≤R):∀ (cnt c F:Nat),c+cnt=C→k≤c→cnt<F →
 Ai.Apply.L0 N F (R:Int) (C:Int) l (i:Int) v t (c:Int) (apS R C l i k v t c 0) =
 some (.tup [.agg [.int .i64 (R:Int),.int .i64 (C:Int),.ints (.own 114002 tB) .u64 (F4 R C l (i:Int) (k:Int) v t)],.int .i64 (0:Int)]):=by
 intro cnt
 induction cnt with
 | zero =>
   intro c F hc hk hF
   obtain ⟨F,rfl⟩:∃ G,F=G+1:=⟨F-1,by omega⟩
   obtain rfl:c=C:=by omega
   rw [Ai.Apply.Ax,Av,Avc (by omega),Avb,Aoq]
 | succ cnt ih =>
   intro c F hc hk hF
   obtain ⟨F,rfl⟩:∃ G,F=G+1:=⟨F-1,by omega⟩
   have cp:Gk (R:Int) (C:Int) l (c:Int)=true:=Ag.2 ⟨hr,Ao.2 (by omega)⟩
   have e0:toNat ((R:Int)-(i:Int))=R-i:=by omega
   have st:=Aiz (c:=(C:Int)) (b:=(c:Int)) (i:=(i:Int)) (l:=l) (m:=v.length) (n:=R-i) (by omega)
   have sl:=Hj (C:Int) (c:Int) (i:Int) v.length l
   have sl2:=Hj (C:Int) (c:Int) (i:Int) (R-i) l
   have sa:=R9 (c:=(C:Int)) (b:=(c:Int)) (i:=(i:Int)) (n:=v.length) al
   have ft:Ss v (Cb (C:Int) l (c:Int) (i:Int) v.length)=true:=Zf.2 ⟨by omega,by omega⟩
   rw [Ai.Apply.Ax,Av,Au8 (by omega),Au7,cp,Ao.2 (show 0≤(i:Int)∧(i:Int)≤(R:Int) by omega),Avd,Au7,e0,Au9,st,sl2,sl,
    Au8 (show (0:Int)≤(v.length:Int) by omega),Au8 (show (v.length:Int)≤(v.length:Int) by omega),Au8 (show (v.length:Int)≤((R-i:Nat):Int) by omega),Avd,Avd,Au7,ft,av,sa,Avd,Avd,Au7,ht,Zm,Avd,Au7]
   have:=Ad5 (t:=t) N F r6 c6 al av hv (show c<C by omega) hk v.length 0 N (by omega) (by omega)
   exact this.trans (ih (c+1) F (by omega) (by omega) (by omega))
end
theorem Ai.Apply.known:Ai.Apply.Kn:=Ai.Apply.Ae (.cons Aa.Check.known (.cons Aa.C2.known (.cons Af.Fs.known (.cons Af.Mul.known (.cons Af.Sub.known .nil))))) fun r c l i k v t hp=>by
 obtain ⟨h1,ht⟩:=Ag.1 (show (((Bj r c l&&Ls r c i k v)&&(Ap l&&Ap v))&&Ah t)=true from hp)
 obtain ⟨h2,h3⟩:=Ag.1 h1
 obtain ⟨hr,hb⟩:=Ag.1 h2
 obtain ⟨al,av⟩:=Ag.1 h3
 have hb:=Avx hb
 have hc:I2 r c l=0:=by unfold I2; rw [Avu hr]
 have h36:=O4 hr
 obtain ⟨R,C,rfl,rfl,r6,c6,hl⟩:=Dc hr
 obtain ⟨i,rfl⟩:∃ j:Nat,i=j:=⟨i.toNat,by omega⟩
 obtain ⟨k,rfl⟩:∃ j:Nat,k=j:=⟨k.toNat,by omega⟩
 refine ⟨8,Ai.Apply.out [.i (R:Int),.i (C:Int),.l l,.i (i:Int),.i (k:Int),.l v,.i t],[],?_,Wk.G1 (.cons (Wk.G0 (.cons .int (.cons .int (.cons (.keep _ _ _ _ List.not_mem_nil) .nil)))) (.cons .int .nil))⟩
 show _=some (DV.tup [.agg [.int .i64 (R:Int),.int .i64 (C:Int),.ints (.own 114002 tB) .u64 (F4 (toNat (R:Int)) (toNat (C:Int)) l (i:Int) (k:Int) v t)],.int .i64 0])
 have hlt:(((((A6 (i:Int) (0:Int))||(A6 (R:Int) (length v:Int)))||(A6 (Ab ((R:Int)-(length v:Int))) (i:Int)))||(A6 (k:Int) (0:Int)))||(A6 (C:Int) (k:Int)))=false:=by
  rw [Av,Av,Av,Av,Av,Al (by omega) (by omega),Avc (by omega),Avc (by omega),Avc (by omega),Avc (by omega),Avc (by omega)]; rfl
 rw [Ai.Apply.ev,hc,show ((0:Int) !=(0:Int))=false from rfl,Avb,hlt,Avb,Au8 (show 0+l.length≤Ga by unfold Ga; omega),Au7,List.nil_append,Au9,Au9]
 have:=Ad6 (R:=R) (C:=C) (i:=i) (k:=k) (l:=l) (v:=v) (t:=t) 8 r6 c6 (by omega) hr al av ht (by omega) (C-k) k 8 (by omega) (by omega) (by omega)
 rw [Alq hl] at this
 exact this
open Go Go.Den Go.C4 Go.Proofs
set_option maxRecDepth 100000
namespace EqSol
def solve.check.hint:Nat→Option A9
 | 0=>some { keep:=[2,3,11,12],objs:=[],boxes:=[2,3] }
 | 2=>some { keep:=[2,34,35],objs:=[],boxes:=[2] }
 | _=>none
def solve.check.Bf:List (Nat × Entry):=[(86,Cg.Check.spec),(155,soft.Kind.spec)]
def solve.check.E:Env:=Bg (Be solve.check.Bf) (fun _=>false) solve.check.hint (fun _=>none)
section
variable (N M:Nat) (r c:Int) (l:List Int) (p q:Int) (m:List Int) (p35:Int)
def solve.check.L0:Option DV:=Bx solve.check.E N f75 (An f75) [1,1,1,0,1,0] [] M ⟨Gm 51 [(2,.ptr 2 0 0),(34,.int .i64 r),(35,.int .i64 p35)],[(2,false,.box [.int .i64 r,.int .i64 c,.ints .arg .u64 l])]⟩
theorem solve.check.Ax:solve.check.L0 (N+4) (M+1) r c l p35=bif (A6 p35 r) then bif ((decide (0≤(Ab ((Ab (p35*c))+p35))))&&(decide ((Ab ((Ab (p35*c))+p35))<(length l:Int)))) then bif (Ah (getD l (toNat (Ab ((Ab (p35*c))+p35))) 0)) then bif ((Bd (getD l (toNat (Ab ((Ab (p35*c))+p35))) 0))==(0:Int)) then some (.int .i64 5) else solve.check.L0 (N+4) M r c l (Ab (p35+1)) else none else none else some (.int .i64 0):=by kernel_rfl
theorem solve.check.ev:By solve.check.E (N+4) f75 (An f75) [.agg [.int .i64 r,.int .i64 c,.ints .arg .u64 l],.agg [.int .i64 p,.int .i64 q,.ints .arg .u64 m]]=bif (Ap l) then bif ((Bt r c l) !=(0:Int)) then some (.int .i64 (Bt r c l)) else bif (Ap m) then bif ((Bt p q m) !=(0:Int)) then some (.int .i64 (Bt p q m)) else bif ((r !=c)||(r !=p)) then some (.int .i64 3) else solve.check.L0 (N+4) (N+4) r c l (0:Int) else none else none :=
 Eq.trans (by kernel_rfl)
 (Fq (Fq rfl (Fq (Fq rfl (Ay (Wl (r !=c)) (Ay (Un (r !=c)) (Ay (Wl (r !=c)) (Ay (Un (r !=c)) (Ay (tt8 (r !=c)) (Ay (tt6 (r !=c)) (Cy (tt5 (r !=c) (r !=p)) rfl rfl)))))))) rfl)) rfl)
end
abbrev _root_.Go.Proofs.S1.solve.check.Kn:=A7 prog 75 solve.check.spec
theorem solve.check.Ae (hk:A1 prog solve.check.Bf) (h:Hyp solve.check.E f75 solve.check.ts solve.check.pre solve.check.out):solve.check.Kn :=
 Am (A3 hk _ _ _) func75 (by kernel_rfl) (by kernel_rfl) h
def Cn.Cm.up.Bf:List (Nat × Entry):=[]
def Cn.Cm.up.E:Env:=Bg (Be Cn.Cm.up.Bf) (fun _=>false) (fun _=>none) (fun _=>none)
theorem Cn.Cm.up.ev (N:Nat) (n k:Int):By Cn.Cm.up.E N f103 (An f103) [.int .i64 n,.int .i64 k]=some (.int .i64 (Ab ((Ab (n-1))-k))):=by kernel_rfl
abbrev _root_.Go.Proofs.S1.Cn.Cm.up.Kn:=A7 prog 103 Cn.Cm.up.spec
theorem Cn.Cm.up.Ae (hk:A1 prog Cn.Cm.up.Bf) (h:Hyp Cn.Cm.up.E f103 Cn.Cm.up.ts Cn.Cm.up.pre Cn.Cm.up.out):Cn.Cm.up.Kn :=
 Am (A3 hk _ _ _) func103 (by kernel_rfl) (by kernel_rfl) h
def solve.Dm.Bf:List (Nat × Entry):=[]
def solve.Dm.E:Env:=Bg (Be solve.Dm.Bf) (fun _=>false) (fun _=>none) (fun _=>none)
theorem solve.Dm.ev (N:Nat) (i k:Int):By solve.Dm.E N f104 (An f104) [.int .i64 i,.int .i64 k]=some (.bool (A6 i k)):=by kernel_rfl
abbrev _root_.Go.Proofs.S1.solve.Dm.Kn:=A7 prog 104 solve.Dm.spec
theorem solve.Dm.Ae (hk:A1 prog solve.Dm.Bf) (h:Hyp solve.Dm.E f104 solve.Dm.ts solve.Dm.pre solve.Dm.out):solve.Dm.Kn :=
 Am (A3 hk _ _ _) func104 (by kernel_rfl) (by kernel_rfl) h
def Aa.of.Bc.own.hint:Nat→Option A9
 | 0=>some { keep:=[1,2,6,7,13,14],objs:=[(8,2,108002,.ints 37 .u64 [])],boxes:=[6,7] }
 | 2=>some { keep:=[1,2,6,7,8,13,14,17,18],objs:=[(8,2,108002,.ints 37 .u64 [])],boxes:=[6,7] }
 | _=>none
def Aa.of.Bc.own.Bf:List (Nat × Entry):=[(205,Aa.Df.spec)]
def Aa.of.Bc.own.E:Env:=Bg (Be Aa.of.Bc.own.Bf) (fun _=>false) Aa.of.Bc.own.hint (fun _=>none)
abbrev _root_.Go.Proofs.S1.Aa.of.Bc.own.Kn:=A7 prog 187 Aa.of.Bc.own.spec
theorem Aa.of.Bc.own.Ae (hk:A1 prog Aa.of.Bc.own.Bf) (h:Hyp Aa.of.Bc.own.E f187 Aa.of.Bc.own.ts Aa.of.Bc.own.pre Aa.of.Bc.own.out):Aa.of.Bc.own.Kn :=
 Am (A3 hk _ _ _) func187 (by kernel_rfl) (by kernel_rfl) h
def Aa.Bc.own.Bf:List (Nat × Entry):=[(187,Aa.of.Bc.own.spec),(204,Aa.size.spec)]
def Aa.Bc.own.E:Env:=Bg (Be Aa.Bc.own.Bf) (fun n=>Nat.beq n 17) (fun _=>none) (fun _=>none)
theorem Aa.Bc.own.ev (N:Nat) (a b:Int):By Aa.Bc.own.E N f151 (An f151) [.int .i64 a,.int .i64 b]=bif ((!(Bn a))||(!(Bn b))) then some (.tup [.agg [.int .i64 0,.int .i64 0,.nil],.int .i64 3]) else bif (Bn a&&Bn b) then some (.tup [.agg [.int .i64 a,.int .i64 b,.ints (.own 1136 37) .u64 (Cj (toNat a) (toNat b) (fun _ _=>0))],.int .i64 0]) else none :=
 Eq.trans (by kernel_rfl)
 (Ay (Afy (Bn a)) (Ay (Uo (Bn a)) (Ay (Uo (Bn a)) (Ay (Afz (Bn a)) (Cy (Apy (Bn a) (Bn b)) rfl rfl)))))
abbrev _root_.Go.Proofs.S1.Aa.Bc.own.Kn:=A7 prog 151 Aa.Bc.own.spec
theorem Aa.Bc.own.Ae (hk:A1 prog Aa.Bc.own.Bf) (h:Hyp Aa.Bc.own.E f151 Aa.Bc.own.ts Aa.Bc.own.pre Aa.Bc.own.out):Aa.Bc.own.Kn :=
 Am (A3 hk _ _ _) func151 (by kernel_rfl) (by kernel_rfl) h
def solve.Au.Up.hint:Nat→Option A9
 | 0=>some { keep:=[2,3,4,5,8,10,11,28,29],objs:=[(12,2,112002,.ints 37 .u64 [])],boxes:=[4,5,8,11] }
 | 2=>some { keep:=[2,3,4,5,8,10,11,13,28,29,32,33],objs:=[(12,2,112002,.ints 37 .u64 [])],boxes:=[4,5,8,11] }
 | 4=>some { keep:=[2,3,4,5,8,10,11,13,15,16,28,29,32,33,49,50],objs:=[(12,2,112002,.ints 37 .u64 [])],boxes:=[4,5,8,11] }
 | _=>none
def solve.Au.Up.Bf:List (Nat × Entry):=[(103,Cn.Cm.up.spec),(151,Aa.Bc.own.spec),(104,solve.Dm.spec),(158,Af.Div.spec),(150,Af.Finite.spec),(157,Af.Mul.spec),(156,Af.Sub.spec)]
def solve.Au.Up.E:Env:=Bg (Be solve.Au.Up.Bf) (fun n=>Nat.beq n 24) solve.Au.Up.hint (fun _=>none)
section
variable (N M0 M1 M:Nat) (r c:Int) (l:List Int) (p q:Int) (m:List Int) (n p16 p50 p13_1 p15 p29_2 p33_1:Int) (p2_1:List Int) (p33:Int) (p2:List Int) (p13 p29_1 p29:Int) (p2_2:List Int)
def solve.Au.Up.L0:Option DV:=Bx solve.Au.Up.E N f76 (An f76) [1,1,1,0,1,0] [] M ⟨Gm 108 [(2,.fn 103 [.int .i64 n] []),(3,.fn 104 [] []),(4,.ptr 4 0 0),(5,.ptr 5 0 0),(8,.ptr 8 0 0),(10,.int .i64 r),(11,.ptr 11 0 0),(28,.int .i64 q),(29,.int .i64 p29)],[(4,false,.box [.int .i64 r,.int .i64 c,.ints .arg .u64 l]),(5,false,.box [.int .i64 p,.int .i64 q,.ints .arg .u64 m]),(8,false,.box [.int .i64 0,.int .i64 0,.nil]),(11,false,.box [.int .i64 r,.int .i64 q,.oref 112002]),(112002,false,.ints 37 .u64 p2_2)]⟩
def solve.Au.Up.L1:Option DV:=Bx solve.Au.Up.E N f76 (An f76) [1,1,1,0,1,0,0,1,1,0,0,1,0,1,1,0] [M0] M ⟨Gm 108 [(2,.fn 103 [.int .i64 n] []),(3,.fn 104 [] []),(4,.ptr 4 0 0),(5,.ptr 5 0 0),(8,.ptr 8 0 0),(10,.int .i64 r),(11,.ptr 11 0 0),(13,.int .i64 p13),(28,.int .i64 q),(29,.int .i64 p29_1),(32,.int .i64 r),(33,.int .i64 p33)],[(4,false,.box [.int .i64 r,.int .i64 c,.ints .arg .u64 l]),(5,false,.box [.int .i64 p,.int .i64 q,.ints .arg .u64 m]),(8,false,.box [.int .i64 0,.int .i64 0,.nil]),(11,false,.box [.int .i64 r,.int .i64 q,.oref 112002]),(112002,false,.ints 37 .u64 p2)]⟩
def solve.Au.Up.L2:Option DV:=Bx solve.Au.Up.E N f76 (An f76) [1,1,1,0,1,0,0,1,1,0,0,1,0,1,1,0,0,1,1,0,0,1,1,1,0,1,0] [M0,M1] M ⟨Gm 108 [(2,.fn 103 [.int .i64 n] []),(3,.fn 104 [] []),(4,.ptr 4 0 0),(5,.ptr 5 0 0),(8,.ptr 8 0 0),(10,.int .i64 r),(11,.ptr 11 0 0),(13,.int .i64 p13_1),(15,.int .i64 p15),(16,.int .u64 p16),(28,.int .i64 q),(29,.int .i64 p29_2),(32,.int .i64 r),(33,.int .i64 p33_1),(49,.int .i64 r),(50,.int .i64 p50)],[(4,false,.box [.int .i64 r,.int .i64 c,.ints .arg .u64 l]),(5,false,.box [.int .i64 p,.int .i64 q,.ints .arg .u64 m]),(8,false,.box [.int .i64 0,.int .i64 0,.nil]),(11,false,.box [.int .i64 r,.int .i64 q,.oref 112002]),(112002,false,.ints 37 .u64 p2_1)]⟩
theorem solve.Au.Up.Ax:solve.Au.Up.L0 N (M+1) r c l p q m n p29 p2_2=bif (A6 p29 q) then solve.Au.Up.L1 N M N r c l p q m n 0 p2_2 p29 p29 else bif (Dq p2_2) then bif (!(Fg p2_2)) then some (.tup [.agg [.int .i64 0,.int .i64 0,.nil],.int .i64 2]) else some (.tup [.agg [.int .i64 r,.int .i64 q,.ints (.own 112002 37) .u64 p2_2],.int .i64 0]) else none:=by kernel_rfl
theorem solve.Au.Up.Cc:solve.Au.Up.L1 N M0 (M+1) r c l p q m n p33 p2 p13 p29_1=bif (A6 p33 r) then bif (Cf (0≤p33∧p33<n∧n≤10)) then bif ((decide (0≤(Ab ((Ab ((n-1-p33)*q))+p13))))&&(decide ((Ab ((Ab ((n-1-p33)*q))+p13))<(length m:Int)))) then solve.Au.Up.L2 N M0 M N r c l p q m n (getD m (toNat (Ab ((Ab ((n-1-p33)*q))+p13))) 0) 0 p13 (n-1-p33) p29_1 p33 p2 else none else none else solve.Au.Up.L0 N M0 r c l p q m n (Ab (p29_1+1)) p2:=by kernel_rfl
theorem solve.Au.Up.E1:solve.Au.Up.L2 N M0 M1 (M+1) r c l p q m n p16 p50 p13_1 p15 p29_2 p33_1 p2_1=bif (A6 p50 r) then bif (decide (p15<p50)) then bif ((decide (0≤(Ab ((Ab (p15*r))+p50))))&&(decide ((Ab ((Ab (p15*r))+p50))<(length l:Int)))) then bif ((decide (0≤(Ab ((Ab (p50*q))+p13_1))))&&(decide ((Ab ((Ab (p50*q))+p13_1))<(length p2_1:Int)))) then bif (decide ((toNat (Ab ((Ab (p50*q))+p13_1)))<(length p2_1))) then bif (Ah (getD l (toNat (Ab ((Ab (p15*r))+p50))) 0)&&Ah (getD p2_1 (toNat (Ab ((Ab (p50*q))+p13_1))) 0)) then bif (Ah p16&&Ah (Ej (getD l (toNat (Ab ((Ab (p15*r))+p50))) 0) (getD p2_1 (toNat (Ab ((Ab (p50*q))+p13_1))) 0))) then solve.Au.Up.L2 N M0 M1 M r c l p q m n (El p16 (Ej (getD l (toNat (Ab ((Ab (p15*r))+p50))) 0) (getD p2_1 (toNat (Ab ((Ab (p50*q))+p13_1))) 0))) (Ab (p50+1)) p13_1 p15 p29_2 p33_1 p2_1 else none else none else none else none else none else solve.Au.Up.L2 N M0 M1 M r c l p q m n p16 (Ab (p50+1)) p13_1 p15 p29_2 p33_1 p2_1 else bif ((decide (0≤(Ab ((Ab (p15*r))+p15))))&&(decide ((Ab ((Ab (p15*r))+p15))<(length l:Int)))) then bif (Ah p16&&Ah (getD l (toNat (Ab ((Ab (p15*r))+p15))) 0)) then bif ((decide (0≤(Ab ((Ab (p15*q))+p13_1))))&&(decide ((Ab ((Ab (p15*q))+p13_1))<(length p2_1:Int)))) then bif (decide ((toNat (Ab ((Ab (p15*q))+p13_1)))<(length p2_1))) then solve.Au.Up.L1 N M0 M1 r c l p q m n (Ab (p33_1+1)) (List.set p2_1 (toNat (Ab ((Ab (p15*q))+p13_1))) (Ek p16 (getD l (toNat (Ab ((Ab (p15*r))+p15))) 0))) p13_1 p29_2 else none else none else none else none :=
 Eq.trans (by kernel_rfl)
 (Fq (Fq (Cy (J1 (decide (0≤(Ab ((Ab (p15*r))+p50)))) (decide ((Ab ((Ab (p15*r))+p50))<(length l:Int)))) (Cy (J1 (decide (0≤(Ab ((Ab (p50*q))+p13_1)))) (decide ((Ab ((Ab (p50*q))+p13_1))<(length p2_1:Int)))) (Cy (Cr (decide ((toNat (Ab ((Ab (p50*q))+p13_1)))<(length p2_1)))) (Cy (Cr (Ah (getD l (toNat (Ab ((Ab (p15*r))+p50))) 0)&&Ah (getD p2_1 (toNat (Ab ((Ab (p50*q))+p13_1))) 0))) (Cy (Cr (Ah p16&&Ah (Ej (getD l (toNat (Ab ((Ab (p15*r))+p50))) 0) (getD p2_1 (toNat (Ab ((Ab (p50*q))+p13_1))) 0)))) rfl rfl) rfl) rfl) rfl) rfl) rfl) (Cy (J1 (decide (0≤(Ab ((Ab (p15*r))+p15)))) (decide ((Ab ((Ab (p15*r))+p15))<(length l:Int)))) (Cy (Cr (Ah p16&&Ah (getD l (toNat (Ab ((Ab (p15*r))+p15))) 0))) (Cy (J1 (decide (0≤(Ab ((Ab (p15*q))+p13_1)))) (decide ((Ab ((Ab (p15*q))+p13_1))<(length p2_1:Int)))) (Cy (Cr (decide ((toNat (Ab ((Ab (p15*q))+p13_1)))<(length p2_1)))) rfl rfl) rfl) rfl) rfl))
theorem solve.Au.Up.ev:By solve.Au.Up.E N f76 (An f76) [.agg [.int .i64 r,.int .i64 c,.ints .arg .u64 l],.agg [.int .i64 p,.int .i64 q,.ints .arg .u64 m],.fn 103 [.int .i64 n] [],.fn 104 [] []]=bif (Bn r&&Bn q) then solve.Au.Up.L0 N N r c l p q m n 0 (Cj (toNat r) (toNat q) (fun _ _=>0)) else none:=by kernel_rfl
end
abbrev _root_.Go.Proofs.S1.solve.Au.Up.Kn:=A7 prog 76 solve.Au.Up.spec
theorem solve.Au.Up.Ae (hk:A1 prog solve.Au.Up.Bf) (h:Hyp solve.Au.Up.E f76 solve.Au.Up.ts solve.Au.Up.pre solve.Au.Up.out):solve.Au.Up.Kn :=
 Am (A3 hk _ _ _) func76 (by kernel_rfl) (by kernel_rfl) h
def solve.Fo.Bf:List (Nat × Entry):=[(75,solve.check.spec),(76,solve.Au.Up.spec)]
def solve.Fo.E:Env:=Bg (Be solve.Fo.Bf) (fun _=>false) (fun _=>none) (fun _=>none)
theorem solve.Fo.ev (N:Nat) (r c:Int) (l:List Int) (p q:Int) (m:List Int):By solve.Fo.E N f36 (An f36) [.agg [.int .i64 r,.int .i64 c,.ints .arg .u64 l],.agg [.int .i64 p,.int .i64 q,.ints .arg .u64 m]]=bif (Ap l&&Ap m) then bif ((Om r c l p q m) !=(0:Int)) then some (.tup [.agg [.int .i64 0,.int .i64 0,.nil],.int .i64 (Om r c l p q m)]) else bif (Nw r c l p q m&&decide (r=r)) then some (.tup [.agg [.int .i64 ((Kc r q (upG c l q m (toNat r) (toNat q))).1),.int .i64 ((Kc r q (upG c l q m (toNat r) (toNat q))).2.1),.ints .fresh .u64 ((Kc r q (upG c l q m (toNat r) (toNat q))).2.2.1)],.int .i64 ((Kc r q (upG c l q m (toNat r) (toNat q))).2.2.2)]) else none else none:=by kernel_rfl
abbrev _root_.Go.Proofs.S1.solve.Fo.Kn:=A7 prog 36 solve.Fo.spec
theorem solve.Fo.Ae (hk:A1 prog solve.Fo.Bf) (h:Hyp solve.Fo.E f36 solve.Fo.ts solve.Fo.pre solve.Fo.out):solve.Fo.Kn :=
 Am (A3 hk _ _ _) func36 (by kernel_rfl) (by kernel_rfl) h
def solve.Flat.hint:Nat→Option A9
 | 0=>some { keep:=[1,5,6],objs:=[(0,5,100005,.ints 37 .u64 [])],boxes:=[1] }
 | 2=>some { keep:=[7,44,45,46],objs:=[(0,44,100044,.ints 37 .u64 [])],boxes:=[] }
 | _=>none
def solve.Flat.Bf:List (Nat × Entry):=[(86,Cg.Check.spec),(87,compare.Ry.spec),(90,compare.I4.spec),(89,Af.Ci.spec),(88,Af.Bs.spec)]
def solve.Flat.E:Env:=Bg (Be solve.Flat.Bf) (fun _=>false) solve.Flat.hint (fun _=>none)
section
variable (N M:Nat) (r c:Int) (l:List Int) (p6:Int) (p5:List Int) (p46:Int)
def solve.Flat.L0:Option DV:=Bx solve.Flat.E N f24 (An f24) [1,1,1,0,1,0] [] M ⟨Gm 55 [(1,.ptr 1 0 0),(5,.oref 100005),(6,.int .i64 p6)],[(1,false,.box [.int .i64 r,.int .i64 c,.ints .arg .u64 l]),(100005,false,.ints 37 .u64 p5)]⟩
def solve.Flat.L1:Option DV:=Bx solve.Flat.E N f24 (An f24) [1,1,1,1,1,0,1,0] [] M ⟨Gm 55 [(7,.int .u64 (Ck (Bq p5) (-40:Int))),(44,.oref 100044),(45,.int .i64 (length p5:Int)),(46,.int .i64 p46)],[(100044,false,.ints 37 .u64 p5)]⟩
theorem solve.Flat.Ax:solve.Flat.L0 N (M+1) r c l p6 p5=bif ((A6 p6 r)&&(A6 p6 c)) then bif ((decide (0≤(Ab ((Ab (p6*c))+p6))))&&(decide ((Ab ((Ab (p6*c))+p6))<(length l:Int)))) then bif (Ah (getD l (toNat (Ab ((Ab (p6*c))+p6))) 0)) then bif (decide ((length p5)+1≤Ga)) then solve.Flat.L0 N M r c l (Ab (p6+1)) (p5++[(Aa7 (getD l (toNat (Ab ((Ab (p6*c))+p6))) 0))]) else none else none else none else bif (Dq p5) then bif (Eu (Bq p5) (-40:Int)) then solve.Flat.L1 N N p5 (0:Int) else none else none :=
 Eq.trans (by kernel_rfl)
 (Ay (Nv (A6 p6 r)) (Ay (Nv (A6 p6 r)) (Ay (Kf (A6 p6 r)) (Ay (Af0 (A6 p6 r)) (Ay (S9 (A6 p6 r)) (Cy (tt1 (A6 p6 r) (A6 p6 c)) rfl rfl))))))
theorem solve.Flat.Cc:solve.Flat.L1 N (M+1) p5 p46=bif (A6 p46 (length p5:Int)) then bif ((decide (0≤p46))&&(decide (p46<(length p5:Int)))) then bif (decide ((toNat p46)<(length p5))) then bif (Ah (Ck (Bq p5) (-40:Int))&&Ah (getD p5 (toNat p46) 0)) then bif (!(decide (Ac4 (Ck (Bq p5) (-40:Int)) (getD p5 (toNat p46) 0)<0))) then some (.tup [.bool true,.int .i64 0]) else solve.Flat.L1 N M p5 (Ab (p46+1)) else none else none else none else some (.tup [.bool false,.int .i64 0]):=by kernel_rfl
theorem solve.Flat.ev:By solve.Flat.E N f24 (An f24) [.agg [.int .i64 r,.int .i64 c,.ints .arg .u64 l]]=bif (Ap l) then bif ((Bt r c l) !=(0:Int)) then some (.tup [.bool false,.int .i64 (Bt r c l)]) else solve.Flat.L0 N N r c l 0 [] else none:=by kernel_rfl
end
abbrev _root_.Go.Proofs.S1.solve.Flat.Kn:=A7 prog 24 solve.Flat.spec
theorem solve.Flat.Ae (hk:A1 prog solve.Flat.Bf) (h:Hyp solve.Flat.E f24 solve.Flat.ts solve.Flat.pre solve.Flat.out):solve.Flat.Kn :=
 Am (A3 hk _ _ _) func24 (by kernel_rfl) (by kernel_rfl) h
end EqSol
open Go Go.Den Go.C4 Go.Proofs
open EqSol
theorem solve.Dm.known:solve.Dm.Kn:=solve.Dm.Ae .nil fun i k _=>by
 refine ⟨0,solve.Dm.out [.i i,.i k],[],?_,.bool⟩
 rw [solve.Dm.ev,Av]; rfl
theorem Aje.known:Cn.Cm.up.Kn:=Cn.Cm.up.Ae .nil fun n k hp=>by
 have hp:=Ao.1 (show Cf (0≤k∧k<n∧n≤10)=true from hp)
 refine ⟨0,Cn.Cm.up.out [.i n,.i k],[],?_,.int⟩
 rw [Cn.Cm.up.ev,Al (x:=n-1) (by omega) (by omega),Al (by omega) (by omega)]; rfl
theorem Aa.of.Bc.own.known:Aa.of.Bc.own.Kn:=Aa.of.Bc.own.Ae (.cons Aa.Df.known .nil) fun a b hp=>by
 have h1:(Bn a&&Bn b)=true:=hp
 obtain ⟨ha,hb⟩:=Ag.1 h1
 obtain ⟨A,rfl,hA⟩:=E7 ha
 obtain ⟨B,rfl,hB⟩:=E7 hb
 refine ⟨8,.agg [.int .i64 (A:Int),.int .i64 (B:Int),.ints (.own 108002 tB) .u64 (Cj A B fun (i j:Nat)=>(0:Int))],[],?_,Wk.G0 (.cons .int (.cons .int (.cons (.keep _ _ _ _ List.not_mem_nil) .nil)))⟩
 have n:=of.Bc.outer 8 hA hB (by omega) (F:=fun (i j:Nat)=>(0:Int)) (fun _ _=>rfl) A 0 8 (by omega) (by omega)
 rw [Mb] at n
 exact (EqOf.Aa.of.Bc.ev 8 (A:Int) (B:Int)).trans n
theorem Aa.Bc.own.known:Aa.Bc.own.Kn:=Aa.Bc.own.Ae (.cons Aa.of.Bc.own.known (.cons Aa.size.known .nil)) fun a b hp=>by
 have hp:(Bn a&&Bn b)=true:=hp
 obtain ⟨ha,hb⟩:=Ag.1 hp
 refine ⟨0,Aa.Bc.own.out [.i a,.i b],[],?_,?_⟩
 ·rw [Aa.Bc.own.ev,ha,hb]; rfl
 ·exact Wk.G1 (.cons (Wk.G0 (.cons .int (.cons .int (.cons (.keep _ _ _ _ List.not_mem_nil) .nil)))) (.cons .int .nil))
section
variable {n Q:Nat} {l m:List Int}
def upF (n Q:Nat) (l m:List Int) (i j:Nat):Int:=(Rz (n:Int) l (fun i=>Cv (Q:Int) m (i:Int) (j:Int)) n n).getD i 0
def upD (n j k a b:Nat):Bool:=decide (b<j∨(b=j∧n-k≤a))
def S8 (n Q:Nat) (l m:List Int) (j k:Nat):List Int:=Cj n Q fun a b=>if upD n j k a b=true then upF n Q l m a b else 0
theorem Aih (i j:Nat):Ah (upF n Q l m i j)=true:=Ze (Aig _ _ _ _ _) i
theorem Apf (j k:Nat):Ap (S8 n Q l m j k)=true:=Le fun a b=>by
 split
 ·exact Aih _ _
 ·exact B2 (n:=0) (by decide)
theorem Ame {j k t:Nat} (ht:t<n) (hj:j<Q) (hk:n-k≤t):Cv (Q:Int) (S8 n Q l m j k) (t:Int) (j:Int)=upF n Q l m t j:=by
 unfold S8
 have hd:upD n j k t j=true:=Au8 (.inr ⟨rfl,hk⟩)
 rw [Ud ht hj,hd,Avu rfl]
theorem Yj (j k:Nat):(S8 n Q l m j k).length=n*Q:=B6 _ _ _
theorem Aic (N:Nat) (n6:n≤6) (q6:Q≤6) (hl:l.length=n*n) (al:Ap l=true) {i j k:Nat} (hi:i+k+1=n) (hj:j<Q) (M0 M1:Nat) (p29 p33:Int) :
 ∀ (cnt t F:Nat) (s:Int),t+cnt=n→cnt<F→i+1≤t→Ah s=true →
 solve.Au.Up.L2 N M0 M1 F (n:Int) (n:Int) l (n:Int) (Q:Int) m (n:Int) s (t:Int) (j:Int) (i:Int) p29 p33 (S8 n Q l m j k) =
 solve.Au.Up.L1 N M0 M1 (n:Int) (n:Int) l (n:Int) (Q:Int) m (n:Int) (Ab (p33+(1:Int))) (List.set (S8 n Q l m j k) (toNat ((i:Int)*(Q:Int)+(j:Int))) (Ek (Iq (n:Int) l (i:Int) s (t:Int) ((Rz (n:Int) l (fun i=>Cv (Q:Int) m (i:Int) (j:Int)) n n).drop t)) (Cv (n:Int) l (i:Int) (i:Int)))) (j:Int) p29:=by
 intro cnt
 induction cnt with
 | zero =>
   intro t F s ht hF hit hs
   obtain ⟨F,rfl⟩:∃ G,F=G+1:=⟨F-1,by omega⟩
   obtain ⟨e1,g1,g2⟩:=Fx (R:=(n:Int)) (D7 n6 n6 hl (show i<n by omega) (show i<n by omega))
   obtain ⟨e2,g3,g4⟩:=Fx (R:=(n:Int)) (D7 n6 q6 (Yj (l:=l) (m:=m) j k) (show i<n by omega) hj)
   rw [Avl (by rw [Hi]; omega),Iq]
   rw [solve.Au.Up.E1,Av,Avc (show ¬ (t:Int)<(n:Int) by omega),Avb,e1,Au8 g1,Au8 g2,Avd,Au7,hs,show Ah (getD l (toNat ((i:Int)*(n:Int)+(i:Int))) 0)=true from K3 (c:=(n:Int)) al,Avd,Au7,
    e2,Au8 g3,Au8 g4,Avd,Au7,Au8 (show toNat ((i:Int)*(Q:Int)+(j:Int))<(S8 n Q l m j k).length by omega),Au7]
   rfl
 | succ cnt ih =>
   intro t F s ht hF hit hs
   obtain ⟨F,rfl⟩:∃ G,F=G+1:=⟨F-1,by omega⟩
   obtain ⟨e1,g1,g2⟩:=Fx (R:=(n:Int)) (D7 n6 n6 hl (show i<n by omega) (show t<n by omega))
   obtain ⟨e2,g3,g4⟩:=Fx (R:=(n:Int)) (D7 n6 q6 (Yj (l:=l) (m:=m) j k) (show t<n by omega) hj)
   have hx:getD (S8 n Q l m j k) (toNat ((t:Int)*(Q:Int)+(j:Int))) 0=upF n Q l m t j:=Ame (by omega) hj (by omega)
   rw [solve.Au.Up.E1,Av,Au8 (show (t:Int)<(n:Int) by omega),Au7,Au8 (show (i:Int)<(t:Int) by omega),Au7,e1,Au8 g1,Au8 g2,Avd,Au7,
    e2,Au8 g3,Au8 g4,Avd,Au7,Au8 (show toNat ((t:Int)*(Q:Int)+(j:Int))<(S8 n Q l m j k).length by omega),Au7,hx,
    show Ah (getD l (toNat ((i:Int)*(n:Int)+(t:Int))) 0)=true from K3 (c:=(n:Int)) al,Aih,Avd,Au7,hs,Ll,Avd,Au7,Al (x:=(t:Int)+1) (by omega) (by omega)]
   have:=ih (t+1) F (El s (Ej (Cv (n:Int) l (i:Int) (t:Int)) (upF n Q l m t j))) (by omega) (by omega) (by omega) (P2 hs (Ll _ _))
   rw [Xp (by rw [Hi]; omega)]
   exact this
theorem Al9 (N:Nat) (n6:n≤6) {i j k:Nat} (hi:i<n) (M0 M1:Nat) (p29 p33 s:Int):∀ (cnt t F:Nat),t+cnt=i+1 →
 solve.Au.Up.L2 N M0 M1 (F+cnt) (n:Int) (n:Int) l (n:Int) (Q:Int) m (n:Int) s (t:Int) (j:Int) (i:Int) p29 p33 (S8 n Q l m j k) =
 solve.Au.Up.L2 N M0 M1 F (n:Int) (n:Int) l (n:Int) (Q:Int) m (n:Int) s ((i+1:Nat):Int) (j:Int) (i:Int) p29 p33 (S8 n Q l m j k):=by
 intro cnt
 induction cnt with
 | zero =>
   intro t F ht
   obtain rfl:t=i+1:=by omega
   rfl
 | succ cnt ih =>
   intro t F ht
   rw [← Nat.add_assoc,solve.Au.Up.E1,Av,Au8 (show (t:Int)<(n:Int) by omega),Au7,Avc (show ¬ (i:Int)<(t:Int) by omega),Avb,Al (by omega) (by omega)]
   exact ih (t+1) F (by omega)
theorem Amd {i j k:Nat} (hi:i+k+1=n) (hj:j<Q) {x:Int} (hx:x=upF n Q l m i j):List.set (S8 n Q l m j k) (toNat ((i:Int)*(Q:Int)+(j:Int))) x=S8 n Q l m j (k+1):=by
 refine V7 hj hx fun a b ha hb=>?_
 unfold upD
 rw [Ave,Ave]
 omega
theorem Ama (N:Nat) (n6:n≤6) (q6:Q≤6) (hN:7<N) (hl:l.length=n*n) (hm:m.length=n*Q) (al:Ap l=true) (am:Ap m=true) {j:Nat} (hj:j<Q) (M0:Nat):∀ (cnt k F:Nat),k+cnt=n→cnt<F →
 solve.Au.Up.L1 N M0 F (n:Int) (n:Int) l (n:Int) (Q:Int) m (n:Int) (k:Int) (S8 n Q l m j k) (j:Int) (j:Int) =
 solve.Au.Up.L0 N M0 (n:Int) (n:Int) l (n:Int) (Q:Int) m (n:Int) ((j+1:Nat):Int) (S8 n Q l m j n):=by
 intro cnt
 induction cnt with
 | zero =>
   intro k F hk hF
   obtain ⟨F,rfl⟩:∃ G,F=G+1:=⟨F-1,by omega⟩
   obtain rfl:k=n:=by omega
   rw [solve.Au.Up.Cc,Av,Avc (by omega),Avb,Al (by omega) (by omega)]
   rfl
 | succ cnt ih =>
   intro k F hk hF
   obtain ⟨F,rfl⟩:∃ G,F=G+1:=⟨F-1,by omega⟩
   obtain ⟨i,hi⟩:∃ i:Nat,i+k+1=n:=⟨n-k-1,by omega⟩
   have ei:(n:Int)-1-(k:Int)=(i:Int):=by omega
   obtain ⟨e2,g3,g4⟩:=Fx (R:=(n:Int)) (D7 n6 q6 hm (show i<n by omega) hj)
   rw [solve.Au.Up.Cc,Av,Au8 (show (k:Int)<(n:Int) by omega),Au7,Ao.2 (show 0≤(k:Int)∧(k:Int)<(n:Int)∧(n:Int)≤10 by omega),Au7,ei,e2,Au8 g3,Au8 g4,Avd,Au7]
   obtain ⟨G,rfl⟩:∃ G,N=G+(i+1):=⟨N-(i+1),by omega⟩
   have hs:=Al9 (n:=n) (Q:=Q) (l:=l) (m:=m) (G+(i+1)) n6 (i:=i) (j:=j) (k:=k) (by omega) M0 F (j:Int) (k:Int) (Cv (Q:Int) m (i:Int) (j:Int)) (i+1) 0 G (by omega)
   have hr:=Aic (n:=n) (Q:=Q) (l:=l) (m:=m) (G+(i+1)) n6 q6 hl al hi hj M0 F (j:Int) (k:Int) (n-(i+1)) (i+1) G (Cv (Q:Int) m (i:Int) (j:Int)) (by omega) (by omega) (by omega) (K3 (c:=(Q:Int)) am)
   rw [Amd hi hj (Aeh (show i<n by omega)).symm,Al (by omega) (by omega)] at hr
   exact (hs.trans hr).trans (ih (k+1) F (by omega) (by omega))
theorem Aif (j:Nat):S8 n Q l m j n=S8 n Q l m (j+1) 0:=by
 unfold S8
 refine C8 fun a b ha hb=>?_
 have:upD n j n a b=upD n (j+1) 0 a b:=by
  unfold upD
  rw [decide_eq_decide]
  omega
 rw [this]
theorem Aie:S8 n Q l m 0 0=Cj n Q fun _ _=>0:=by
 unfold S8
 refine C8 fun a b ha hb=>?_
 have:upD n 0 0 a b=false:=Avc (by omega)
 rw [this]; rfl
theorem Amf:S8 n Q l m Q 0=upG (n:Int) l (Q:Int) m n Q:=by
 unfold S8 upG
 refine C8 fun a b ha hb=>?_
 have:upD n Q 0 a b=true:=Au8 (.inl hb)
 rw [this]; rfl
theorem Amc (N:Nat) (n6:n≤6) (q6:Q≤6) (hN:7<N) (hl:l.length=n*n) (hm:m.length=n*Q) (al:Ap l=true) (am:Ap m=true):∀ (cnt j F:Nat),j+cnt=Q→cnt<F →
 solve.Au.Up.L0 N F (n:Int) (n:Int) l (n:Int) (Q:Int) m (n:Int) (j:Int) (S8 n Q l m j 0) =
 bif Fg (S8 n Q l m Q 0) then some (.tup [.agg [.int .i64 (n:Int),.int .i64 (Q:Int),.ints (.own 112002 tB) .u64 (S8 n Q l m Q 0)],.int .i64 (0:Int)]) else some (Ajo 2):=by
 intro cnt
 induction cnt with
 | zero =>
   intro j F hj hF
   obtain ⟨F,rfl⟩:∃ G,F=G+1:=⟨F-1,by omega⟩
   obtain rfl:j=Q:=by omega
   have h36:=Av3 n6 q6
   rw [solve.Au.Up.Ax,Av,Avc (by omega),Avb,Kt (Apf _ _) (by rw [Yj]; omega),Au7]
   cases Fg (S8 n j l m j 0)<;>rfl
 | succ cnt ih =>
   intro j F hj hF
   obtain ⟨F,rfl⟩:∃ G,F=G+1:=⟨F-1,by omega⟩
   have hr:=Ama N n6 q6 hN hl hm al am (show j<Q by omega) F n 0 N (by omega) (by omega)
   rw [Aif] at hr
   rw [solve.Au.Up.Ax,Av,Au8 (show (j:Int)<(Q:Int) by omega),Au7]
   exact hr.trans (ih (j+1) F (by omega) (by omega))
end
theorem solve.Au.Up.known:solve.Au.Up.Kn:=solve.Au.Up.Ae (.cons Aje.known (.cons Aa.Bc.own.known (.cons solve.Dm.known (.cons Af.Div.known (.cons Af.Finite.known (.cons Af.Mul.known (.cons Af.Sub.known .nil))))))) fun r c l p q m n hp=>by
 show ∃ N dv drops,_=some dv∧Wk drops dv (Sj (Kc r q (upG c l q m (toNat r) (toNat q))))
 obtain ⟨h1,hn⟩:=Ag.1 (show (Nw r c l p q m&&decide (n=r))=true from hp)
 obtain ⟨h2,h3⟩:=Ag.1 h1
 obtain ⟨hr,hm⟩:=Ag.1 h2
 obtain ⟨h4,h5⟩:=Ag.1 h3
 obtain ⟨al,am⟩:=Ag.1 h4
 obtain ⟨rfl,rfl⟩:=Ao.1 h5
 obtain rfl:=Avx hn
 have s1:=(Gx hr).1
 have s2:=(Gx hm).2
 obtain ⟨R,C,rfl,hC,r6,c6,hl⟩:=Dc hr
 obtain ⟨P,Q,hP,rfl,p6,q6,hl2⟩:=Dc hm
 obtain rfl:R=C:=by omega
 obtain rfl:R=P:=by omega
 have h:=Amc (n:=R) (Q:=Q) (l:=l) (m:=m) 8 r6 q6 (by omega) hl hl2 al am Q 0 8 (by omega) (by omega)
 rw [Aie,Amf,show ((0:Nat):Int)=0 from rfl] at h
 rw [Au9,Au9]
 unfold Kc
 cases hf:Fg (upG (R:Int) l (Q:Int) m R Q) with
 | true =>
   rw [hf,Au7] at h
   rw [Avu rfl]
   refine ⟨8,.tup [.agg [.int .i64 (R:Int),.int .i64 (Q:Int),.ints (.own 112002 tB) .u64 (upG (R:Int) l (Q:Int) m R Q)],.int .i64 0],[112002],?_,Wk.G1 (.cons (Yg (List.mem_singleton.2 rfl)) (.cons .int .nil))⟩
   rw [solve.Au.Up.ev,s1,s2,Avd,Au7,Au9,Au9]
   exact h
 | false =>
   rw [hf,Avb] at h
   rw [Avt (by decide)]
   refine ⟨8,Ajo 2,[],?_,I8⟩
   rw [solve.Au.Up.ev,s1,s2,Avd,Au7,Au9,Au9]
   exact h
open Go Go.Den Go.C4 Go.Proofs
set_option maxRecDepth 100000
namespace EqFew
def qr.Ec.Bf:List (Nat × Entry):=[(123,Aa.Mul.spec),(167,Aa.B7.spec)]
def qr.Ec.E:Env:=Bg (Be qr.Ec.Bf) (fun _=>false) (fun _=>none) (fun _=>none)
theorem qr.Ec.ev (N:Nat) (r c:Int) (l:List Int) (p q:Int) (m:List Int):By qr.Ec.E N f98 (An f98) [.agg [.int .i64 r,.int .i64 c,.ints .arg .u64 l],.agg [.int .i64 p,.int .i64 q,.ints .arg .u64 m]]=bif (((E6 r c l).2.2.2) !=(0:Int)) then some (.tup [.agg [.int .i64 0,.int .i64 0,.nil],.int .i64 ((E6 r c l).2.2.2)]) else bif (Ap ((E6 r c l).2.2.1)&&Ap m) then some (.tup [.agg [.int .i64 ((Sn ((E6 r c l).1) ((E6 r c l).2.1) ((E6 r c l).2.2.1) p q m).1),.int .i64 ((Sn ((E6 r c l).1) ((E6 r c l).2.1) ((E6 r c l).2.2.1) p q m).2.1),.ints .fresh .u64 ((Sn ((E6 r c l).1) ((E6 r c l).2.1) ((E6 r c l).2.2.1) p q m).2.2.1)],.int .i64 ((Sn ((E6 r c l).1) ((E6 r c l).2.1) ((E6 r c l).2.2.1) p q m).2.2.2)]) else none:=by kernel_rfl
abbrev _root_.Go.Proofs.S1.qr.Ec.Kn:=A7 prog 98 qr.Ec.spec
theorem qr.Ec.Ae (hk:A1 prog qr.Ec.Bf) (h:Hyp qr.Ec.E f98 qr.Ec.ts qr.Ec.pre qr.Ec.out):qr.Ec.Kn :=
 Am (A3 hk _ _ _) func98 (by kernel_rfl) (by kernel_rfl) h
end EqFew
end Go.Proofs.S1
end
