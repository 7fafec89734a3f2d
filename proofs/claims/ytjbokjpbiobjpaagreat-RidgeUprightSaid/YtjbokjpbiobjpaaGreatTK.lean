/- A verified evaluator of the program's form and its use for this seat: S1EqOf, S1POf, S1PMatA, S1EqRef10, S1PRef10, S1PFill, S1EqHouse, S1PHouse, S1PApply, S1EqSol, S1PTri, S1EqFew. -/
import Derived.Test.YtjbokjpbiobjpaaGreatTE
import Derived.Test.YtjbokjpbiobjpaaGreatTF
import Derived.Test.YtjbokjpbiobjpaaGreatTJ
set_option linter.unusedVariables false
set_option linter.unusedSimpArgs false
noncomputable section
open Int (toNat)
open List (length getD)
open Go.Proofs.Tryz
namespace Go.Proofs.S1
open Go Go.Den Go.Cv Go.Proofs
set_option maxRecDepth 100000
namespace EqOf
def Aa.of.Bb.hint:Nat→Option Bh
 | 0=>some { keep:=[1,2,6,7,13,14],objs:=[(8,2,108002,.ints 37 .u64 [])],boxes:=[6,7] }
 | 2=>some { keep:=[1,2,6,7,8,13,14,17,18],objs:=[(8,2,108002,.ints 37 .u64 [])],boxes:=[6,7] }
 | _=>none
def Aa.of.Bb.Bf:List (Nat × Entry):=[(205,Aa.Ej.spec)]
def Aa.of.Bb.E:Env:=Bk (Be Aa.of.Bb.Bf) (fun _=>false) Aa.of.Bb.hint (fun _=>none)
section
variable (N M0 M:Nat) (a b p8 p14_1 p18:Int) (p2:List Int) (p14:Int) (p2_1:List Int)
def Aa.of.Bb.L0:Option DV:=Cd Aa.of.Bb.E N f187 (As f187) [1,1,0,1,0] [] M ⟨Il 33 [(1,.int .i64 b),(2,.fn 205 [] []),(6,.ptr 6 0 0),(7,.ptr 7 0 0),(13,.int .i64 a),(14,.int .i64 p14)],[(6,false,.box [.int .i64 0,.int .i64 0,.nil]),(7,false,.box [.int .i64 a,.int .i64 b,.oref 108002]),(108002,false,.ints 37 .u64 p2_1)]⟩
def Aa.of.Bb.L1:Option DV:=Cd Aa.of.Bb.E N f187 (As f187) [1,1,0,1,0,0,1,1,0,0,1,1,0] [M0] M ⟨Il 33 [(1,.int .i64 b),(2,.fn 205 [] []),(6,.ptr 6 0 0),(7,.ptr 7 0 0),(8,.int .i64 p8),(13,.int .i64 a),(14,.int .i64 p14_1),(17,.int .i64 b),(18,.int .i64 p18)],[(6,false,.box [.int .i64 0,.int .i64 0,.nil]),(7,false,.box [.int .i64 a,.int .i64 b,.oref 108002]),(108002,false,.ints 37 .u64 p2)]⟩
theorem Aa.of.Bb.A1:Aa.of.Bb.L0 N (M+1) a b p14 p2_1=bif (Bc p14 a) then Aa.of.Bb.L1 N M N a b p14 p14 0 p2_1 else some (.agg [.int .i64 a,.int .i64 b,.ints (.own 108002 37) .u64 p2_1]):=by kernel_rfl
theorem Aa.of.Bb.Cy:Aa.of.Bb.L1 N M0 (M+1) a b p8 p14_1 p18 p2=bif (Bc p18 b) then bif (decide ((length p2)+1≤Im)) then Aa.of.Bb.L1 N M0 M a b p8 p14_1 (Ad (p18+1)) (p2++[(0:Int)]) else none else Aa.of.Bb.L0 N M0 a b (Ad (p14_1+1)) p2 :=
 Eq.trans (by kernel_rfl)
 (Fg (C5 (Cn _) rfl rfl) rfl)
theorem Aa.of.Bb.ev:B6 Aa.of.Bb.E N f187 (As f187) [.int .i64 a,.int .i64 b,.fn 205 [] []] =
 Aa.of.Bb.L0 N N a b 0 []:=by kernel_rfl
end
abbrev _root_.Go.Proofs.S1.Aa.of.Bb.Kn:=A9 prog 187 Aa.of.Bb.spec
theorem Aa.of.Bb.Ae (hk:A3 prog Aa.of.Bb.Bf) (h:Hyp Aa.of.Bb.E f187 Aa.of.Bb.ts Aa.of.Bb.pre Aa.of.Bb.out):Aa.of.Bb.Kn :=
 Am (A5 hk _ _ _) func187 (by kernel_rfl) (by kernel_rfl) h
def Aa.of.Ic.hint:Nat→Option Bh
 | 0=>some { keep:=[1,2,6,7,13,14],objs:=[(8,2,108002,.ints 37 .u64 [])],boxes:=[6,7] }
 | 2=>some { keep:=[1,2,6,7,8,13,14,17,18],objs:=[(8,2,108002,.ints 37 .u64 [])],boxes:=[6,7] }
 | _=>none
def Aa.of.Ic.Bf:List (Nat × Entry):=[(246,Aa.H4.spec)]
def Aa.of.Ic.E:Env:=Bk (Be Aa.of.Ic.Bf) (fun _=>false) Aa.of.Ic.hint (fun _=>none)
section
variable (N M0 M:Nat) (a b p8 p14_1 p18:Int) (p2:List Int) (p14:Int) (p2_1:List Int)
def Aa.of.Ic.L0:Option DV:=Cd Aa.of.Ic.E N f187 (As f187) [1,1,0,1,0] [] M ⟨Il 33 [(1,.int .i64 b),(2,.fn 246 [] []),(6,.ptr 6 0 0),(7,.ptr 7 0 0),(13,.int .i64 a),(14,.int .i64 p14)],[(6,false,.box [.int .i64 0,.int .i64 0,.nil]),(7,false,.box [.int .i64 a,.int .i64 b,.oref 108002]),(108002,false,.ints 37 .u64 p2_1)]⟩
def Aa.of.Ic.L1:Option DV:=Cd Aa.of.Ic.E N f187 (As f187) [1,1,0,1,0,0,1,1,0,0,1,1,0] [M0] M ⟨Il 33 [(1,.int .i64 b),(2,.fn 246 [] []),(6,.ptr 6 0 0),(7,.ptr 7 0 0),(8,.int .i64 p8),(13,.int .i64 a),(14,.int .i64 p14_1),(17,.int .i64 b),(18,.int .i64 p18)],[(6,false,.box [.int .i64 0,.int .i64 0,.nil]),(7,false,.box [.int .i64 a,.int .i64 b,.oref 108002]),(108002,false,.ints 37 .u64 p2)]⟩
theorem Aa.of.Ic.A1:Aa.of.Ic.L0 N (M+1) a b p14 p2_1=bif (Bc p14 a) then Aa.of.Ic.L1 N M N a b p14 p14 0 p2_1 else some (.agg [.int .i64 a,.int .i64 b,.ints (.own 108002 37) .u64 p2_1]):=by kernel_rfl
theorem Aa.of.Ic.Cy:Aa.of.Ic.L1 N M0 (M+1) a b p8 p14_1 p18 p2=bif (Bc p18 b) then bif (decide ((length p2)+1≤Im)) then Aa.of.Ic.L1 N M0 M a b p8 p14_1 (Ad (p18+1)) (p2++[(V0 p8 p18)]) else none else Aa.of.Ic.L0 N M0 a b (Ad (p14_1+1)) p2 :=
 Eq.trans (by kernel_rfl)
 (Fg (C5 (Cn _) rfl rfl) rfl)
theorem Aa.of.Ic.ev:B6 Aa.of.Ic.E N f187 (As f187) [.int .i64 a,.int .i64 b,.fn 246 [] []] =
 Aa.of.Ic.L0 N N a b 0 []:=by kernel_rfl
end
abbrev _root_.Go.Proofs.S1.Aa.of.Ic.Kn:=A9 prog 187 Aa.of.Ic.spec
theorem Aa.of.Ic.Ae (hk:A3 prog Aa.of.Ic.Bf) (h:Hyp Aa.of.Ic.E f187 Aa.of.Ic.ts Aa.of.Ic.pre Aa.of.Ic.out):Aa.of.Ic.Kn :=
 Am (A5 hk _ _ _) func187 (by kernel_rfl) (by kernel_rfl) h
def Aa.of.Ea.hint:Nat→Option Bh
 | 0=>some { keep:=[1,2,6,7,13,14],objs:=[(8,2,108002,.ints 37 .u64 [])],boxes:=[6,7] }
 | 2=>some { keep:=[1,2,6,7,8,13,14,17,18],objs:=[(8,2,108002,.ints 37 .u64 [])],boxes:=[6,7] }
 | _=>none
def Aa.of.Ea.Bf:List (Nat × Entry):=[(220,Aa.F4.spec)]
def Aa.of.Ea.E:Env:=Bk (Be Aa.of.Ea.Bf) (fun _=>false) Aa.of.Ea.hint (fun _=>none)
section
variable (N M0 M:Nat) (a b r c:Int) (l:List Int) (p8 p14_1 p18:Int) (p2:List Int) (p14:Int) (p2_1:List Int)
def Aa.of.Ea.L0:Option DV:=Cd Aa.of.Ea.E N f187 (As f187) [1,1,0,1,0] [] M ⟨Il 33 [(1,.int .i64 b),(2,.fn 220 [] [.cellp [.int .i64 r,.int .i64 c,.ints .arg .u64 l]]),(6,.ptr 6 0 0),(7,.ptr 7 0 0),(13,.int .i64 a),(14,.int .i64 p14)],[(6,false,.box [.int .i64 0,.int .i64 0,.nil]),(7,false,.box [.int .i64 a,.int .i64 b,.oref 108002]),(108002,false,.ints 37 .u64 p2_1)]⟩
def Aa.of.Ea.L1:Option DV:=Cd Aa.of.Ea.E N f187 (As f187) [1,1,0,1,0,0,1,1,0,0,1,1,0] [M0] M ⟨Il 33 [(1,.int .i64 b),(2,.fn 220 [] [.cellp [.int .i64 r,.int .i64 c,.ints .arg .u64 l]]),(6,.ptr 6 0 0),(7,.ptr 7 0 0),(8,.int .i64 p8),(13,.int .i64 a),(14,.int .i64 p14_1),(17,.int .i64 b),(18,.int .i64 p18)],[(6,false,.box [.int .i64 0,.int .i64 0,.nil]),(7,false,.box [.int .i64 a,.int .i64 b,.oref 108002]),(108002,false,.ints 37 .u64 p2)]⟩
theorem Aa.of.Ea.A1:Aa.of.Ea.L0 N (M+1) a b r c l p14 p2_1=bif (Bc p14 a) then Aa.of.Ea.L1 N M N a b r c l p14 p14 0 p2_1 else some (.agg [.int .i64 a,.int .i64 b,.ints (.own 108002 37) .u64 p2_1]):=by kernel_rfl
theorem Aa.of.Ea.Cy:Aa.of.Ea.L1 N M0 (M+1) a b r c l p8 p14_1 p18 p2=bif (Bc p18 b) then bif (Ha r c l p18 p8) then bif (decide ((length p2)+1≤Im)) then Aa.of.Ea.L1 N M0 M a b r c l p8 p14_1 (Ad (p18+1)) (p2++[(Cp c l p18 p8)]) else none else none else Aa.of.Ea.L0 N M0 a b r c l (Ad (p14_1+1)) p2 :=
 Eq.trans (by kernel_rfl)
 (Fg (C5 (Cn _) (C5 (Cn _) rfl rfl) rfl) rfl)
theorem Aa.of.Ea.ev:B6 Aa.of.Ea.E N f187 (As f187) [.int .i64 a,.int .i64 b,.fn 220 [] [.cellp [.int .i64 r,.int .i64 c,.ints .arg .u64 l]]] =
 Aa.of.Ea.L0 N N a b r c l 0 []:=by kernel_rfl
end
abbrev _root_.Go.Proofs.S1.Aa.of.Ea.Kn:=A9 prog 187 Aa.of.Ea.spec
theorem Aa.of.Ea.Ae (hk:A3 prog Aa.of.Ea.Bf) (h:Hyp Aa.of.Ea.E f187 Aa.of.Ea.ts Aa.of.Ea.pre Aa.of.Ea.out):Aa.of.Ea.Kn :=
 Am (A5 hk _ _ _) func187 (by kernel_rfl) (by kernel_rfl) h
def Aa.of.Part.hint:Nat→Option Bh
 | 0=>some { keep:=[1,2,6,7,13,14],objs:=[(8,2,108002,.ints 37 .u64 [])],boxes:=[6,7] }
 | 2=>some { keep:=[1,2,6,7,8,13,14,17,18],objs:=[(8,2,108002,.ints 37 .u64 [])],boxes:=[6,7] }
 | _=>none
def Aa.of.Part.Bf:List (Nat × Entry):=[(192,Aa.F5.spec)]
def Aa.of.Part.E:Env:=Bk (Be Aa.of.Part.Bf) (fun _=>false) Aa.of.Part.hint (fun _=>none)
section
variable (N M0 M:Nat) (a b r c:Int) (l:List Int) (x y p8 p14_1 p18:Int) (p2:List Int) (p14:Int) (p2_1:List Int)
def Aa.of.Part.L0:Option DV:=Cd Aa.of.Part.E N f187 (As f187) [1,1,0,1,0] [] M ⟨Il 33 [(1,.int .i64 b),(2,.fn 192 [] [.cellp [.int .i64 r,.int .i64 c,.ints .arg .u64 l],.cellp [.int .i64 x],.cellp [.int .i64 y]]),(6,.ptr 6 0 0),(7,.ptr 7 0 0),(13,.int .i64 a),(14,.int .i64 p14)],[(6,false,.box [.int .i64 0,.int .i64 0,.nil]),(7,false,.box [.int .i64 a,.int .i64 b,.oref 108002]),(108002,false,.ints 37 .u64 p2_1)]⟩
def Aa.of.Part.L1:Option DV:=Cd Aa.of.Part.E N f187 (As f187) [1,1,0,1,0,0,1,1,0,0,1,1,0] [M0] M ⟨Il 33 [(1,.int .i64 b),(2,.fn 192 [] [.cellp [.int .i64 r,.int .i64 c,.ints .arg .u64 l],.cellp [.int .i64 x],.cellp [.int .i64 y]]),(6,.ptr 6 0 0),(7,.ptr 7 0 0),(8,.int .i64 p8),(13,.int .i64 a),(14,.int .i64 p14_1),(17,.int .i64 b),(18,.int .i64 p18)],[(6,false,.box [.int .i64 0,.int .i64 0,.nil]),(7,false,.box [.int .i64 a,.int .i64 b,.oref 108002]),(108002,false,.ints 37 .u64 p2)]⟩
theorem Aa.of.Part.A1:Aa.of.Part.L0 N (M+1) a b r c l x y p14 p2_1=bif (Bc p14 a) then Aa.of.Part.L1 N M N a b r c l x y p14 p14 0 p2_1 else some (.agg [.int .i64 a,.int .i64 b,.ints (.own 108002 37) .u64 p2_1]):=by kernel_rfl
theorem Aa.of.Part.Cy:Aa.of.Part.L1 N M0 (M+1) a b r c l x y p8 p14_1 p18 p2=bif (Bc p18 b) then bif (Ha r c l (x+p8) (y+p18)&&Abj x y p8 p18) then bif (decide ((length p2)+1≤Im)) then Aa.of.Part.L1 N M0 M a b r c l x y p8 p14_1 (Ad (p18+1)) (p2++[(Cp c l (x+p8) (y+p18))]) else none else none else Aa.of.Part.L0 N M0 a b r c l x y (Ad (p14_1+1)) p2 :=
 Eq.trans (by kernel_rfl)
 (Fg (C5 (Cn _) (C5 (Cn _) rfl rfl) rfl) rfl)
theorem Aa.of.Part.ev:B6 Aa.of.Part.E N f187 (As f187) [.int .i64 a,.int .i64 b,.fn 192 [] [.cellp [.int .i64 r,.int .i64 c,.ints .arg .u64 l],.cellp [.int .i64 x],.cellp [.int .i64 y]]] =
 Aa.of.Part.L0 N N a b r c l x y 0 []:=by kernel_rfl
end
abbrev _root_.Go.Proofs.S1.Aa.of.Part.Kn:=A9 prog 187 Aa.of.Part.spec
theorem Aa.of.Part.Ae (hk:A3 prog Aa.of.Part.Bf) (h:Hyp Aa.of.Part.E f187 Aa.of.Part.ts Aa.of.Part.pre Aa.of.Part.out):Aa.of.Part.Kn :=
 Am (A5 hk _ _ _) func187 (by kernel_rfl) (by kernel_rfl) h
def Aa.of.Stack.hint:Nat→Option Bh
 | 0=>some { keep:=[1,2,6,7,13,14],objs:=[(8,2,108002,.ints 37 .u64 [])],boxes:=[6,7] }
 | 2=>some { keep:=[1,2,6,7,8,13,14,17,18],objs:=[(8,2,108002,.ints 37 .u64 [])],boxes:=[6,7] }
 | _=>none
def Aa.of.Stack.Bf:List (Nat × Entry):=[(195,Aa.Et.spec)]
def Aa.of.Stack.E:Env:=Bk (Be Aa.of.Stack.Bf) (fun _=>false) Aa.of.Stack.hint (fun _=>none)
section
variable (N M0 M:Nat) (a b r c:Int) (l:List Int) (p q:Int) (m:List Int) (p8 p14_1 p18:Int) (p2:List Int) (p14:Int) (p2_1:List Int)
def Aa.of.Stack.L0:Option DV:=Cd Aa.of.Stack.E N f187 (As f187) [1,1,0,1,0] [] M ⟨Il 33 [(1,.int .i64 b),(2,.fn 195 [] [.cellp [.int .i64 r,.int .i64 c,.ints .arg .u64 l],.cellp [.int .i64 p,.int .i64 q,.ints .arg .u64 m]]),(6,.ptr 6 0 0),(7,.ptr 7 0 0),(13,.int .i64 a),(14,.int .i64 p14)],[(6,false,.box [.int .i64 0,.int .i64 0,.nil]),(7,false,.box [.int .i64 a,.int .i64 b,.oref 108002]),(108002,false,.ints 37 .u64 p2_1)]⟩
def Aa.of.Stack.L1:Option DV:=Cd Aa.of.Stack.E N f187 (As f187) [1,1,0,1,0,0,1,1,0,0,1,1,0] [M0] M ⟨Il 33 [(1,.int .i64 b),(2,.fn 195 [] [.cellp [.int .i64 r,.int .i64 c,.ints .arg .u64 l],.cellp [.int .i64 p,.int .i64 q,.ints .arg .u64 m]]),(6,.ptr 6 0 0),(7,.ptr 7 0 0),(8,.int .i64 p8),(13,.int .i64 a),(14,.int .i64 p14_1),(17,.int .i64 b),(18,.int .i64 p18)],[(6,false,.box [.int .i64 0,.int .i64 0,.nil]),(7,false,.box [.int .i64 a,.int .i64 b,.oref 108002]),(108002,false,.ints 37 .u64 p2)]⟩
theorem Aa.of.Stack.A1:Aa.of.Stack.L0 N (M+1) a b r c l p q m p14 p2_1=bif (Bc p14 a) then Aa.of.Stack.L1 N M N a b r c l p q m p14 p14 0 p2_1 else some (.agg [.int .i64 a,.int .i64 b,.ints (.own 108002 37) .u64 p2_1]):=by kernel_rfl
theorem Aa.of.Stack.Cy:Aa.of.Stack.L1 N M0 (M+1) a b r c l p q m p8 p14_1 p18 p2=bif (Bc p18 b) then bif (Qu r c l p q m p8 p18) then bif (decide ((length p2)+1≤Im)) then Aa.of.Stack.L1 N M0 M a b r c l p q m p8 p14_1 (Ad (p18+1)) (p2++[(J5 r c l q m p8 p18)]) else none else none else Aa.of.Stack.L0 N M0 a b r c l p q m (Ad (p14_1+1)) p2 :=
 Eq.trans (by kernel_rfl)
 (Fg (C5 (Cn _) (C5 (Cn _) rfl rfl) rfl) rfl)
theorem Aa.of.Stack.ev:B6 Aa.of.Stack.E N f187 (As f187) [.int .i64 a,.int .i64 b,.fn 195 [] [.cellp [.int .i64 r,.int .i64 c,.ints .arg .u64 l],.cellp [.int .i64 p,.int .i64 q,.ints .arg .u64 m]]] =
 Aa.of.Stack.L0 N N a b r c l p q m 0 []:=by kernel_rfl
end
abbrev _root_.Go.Proofs.S1.Aa.of.Stack.Kn:=A9 prog 187 Aa.of.Stack.spec
theorem Aa.of.Stack.Ae (hk:A3 prog Aa.of.Stack.Bf) (h:Hyp Aa.of.Stack.E f187 Aa.of.Stack.ts Aa.of.Stack.pre Aa.of.Stack.out):Aa.of.Stack.Kn :=
 Am (A5 hk _ _ _) func187 (by kernel_rfl) (by kernel_rfl) h
def Aa.of.Mul.hint:Nat→Option Bh
 | 0=>some { keep:=[1,2,6,7,13,14],objs:=[(8,2,108002,.ints 37 .u64 [])],boxes:=[6,7] }
 | 2=>some { keep:=[1,2,6,7,8,13,14,17,18],objs:=[(8,2,108002,.ints 37 .u64 [])],boxes:=[6,7] }
 | _=>none
def Aa.of.Mul.Bf:List (Nat × Entry):=[(188,Aa.H2.spec)]
def Aa.of.Mul.E:Env:=Bk (Be Aa.of.Mul.Bf) (fun _=>false) Aa.of.Mul.hint (fun _=>none)
section
variable (N M0 M:Nat) (a b r c:Int) (l:List Int) (p q:Int) (m:List Int) (p8 p14_1 p18:Int) (p2:List Int) (p14:Int) (p2_1:List Int)
def Aa.of.Mul.L0:Option DV:=Cd Aa.of.Mul.E N f187 (As f187) [1,1,0,1,0] [] M ⟨Il 33 [(1,.int .i64 b),(2,.fn 188 [] [.cellp [.int .i64 r,.int .i64 c,.ints .arg .u64 l],.cellp [.int .i64 p,.int .i64 q,.ints .arg .u64 m]]),(6,.ptr 6 0 0),(7,.ptr 7 0 0),(13,.int .i64 a),(14,.int .i64 p14)],[(6,false,.box [.int .i64 0,.int .i64 0,.nil]),(7,false,.box [.int .i64 a,.int .i64 b,.oref 108002]),(108002,false,.ints 37 .u64 p2_1)]⟩
def Aa.of.Mul.L1:Option DV:=Cd Aa.of.Mul.E N f187 (As f187) [1,1,0,1,0,0,1,1,0,0,1,1,0] [M0] M ⟨Il 33 [(1,.int .i64 b),(2,.fn 188 [] [.cellp [.int .i64 r,.int .i64 c,.ints .arg .u64 l],.cellp [.int .i64 p,.int .i64 q,.ints .arg .u64 m]]),(6,.ptr 6 0 0),(7,.ptr 7 0 0),(8,.int .i64 p8),(13,.int .i64 a),(14,.int .i64 p14_1),(17,.int .i64 b),(18,.int .i64 p18)],[(6,false,.box [.int .i64 0,.int .i64 0,.nil]),(7,false,.box [.int .i64 a,.int .i64 b,.oref 108002]),(108002,false,.ints 37 .u64 p2)]⟩
theorem Aa.of.Mul.A1:Aa.of.Mul.L0 N (M+1) a b r c l p q m p14 p2_1=bif (Bc p14 a) then Aa.of.Mul.L1 N M N a b r c l p q m p14 p14 0 p2_1 else some (.agg [.int .i64 a,.int .i64 b,.ints (.own 108002 37) .u64 p2_1]):=by kernel_rfl
theorem Aa.of.Mul.Cy:Aa.of.Mul.L1 N M0 (M+1) a b r c l p q m p8 p14_1 p18 p2=bif (Bc p18 b) then bif (Ym r c l p q m p8 p18) then bif (decide ((length p2)+1≤Im)) then Aa.of.Mul.L1 N M0 M a b r c l p q m p8 p14_1 (Ad (p18+1)) (p2++[(M5 (G7 c l p8) (Sn p q m p18))]) else none else none else Aa.of.Mul.L0 N M0 a b r c l p q m (Ad (p14_1+1)) p2 :=
 Eq.trans (by kernel_rfl)
 (Fg (C5 (Cn _) (C5 (Cn _) rfl rfl) rfl) rfl)
theorem Aa.of.Mul.ev:B6 Aa.of.Mul.E N f187 (As f187) [.int .i64 a,.int .i64 b,.fn 188 [] [.cellp [.int .i64 r,.int .i64 c,.ints .arg .u64 l],.cellp [.int .i64 p,.int .i64 q,.ints .arg .u64 m]]] =
 Aa.of.Mul.L0 N N a b r c l p q m 0 []:=by kernel_rfl
end
abbrev _root_.Go.Proofs.S1.Aa.of.Mul.Kn:=A9 prog 187 Aa.of.Mul.spec
theorem Aa.of.Mul.Ae (hk:A3 prog Aa.of.Mul.Bf) (h:Hyp Aa.of.Mul.E f187 Aa.of.Mul.ts Aa.of.Mul.pre Aa.of.Mul.out):Aa.of.Mul.Kn :=
 Am (A5 hk _ _ _) func187 (by kernel_rfl) (by kernel_rfl) h
def Aa.Bb.Bf:List (Nat × Entry):=[(187,Aa.of.Bb.spec),(204,Aa.size.spec)]
def Aa.Bb.E:Env:=Bk (Be Aa.Bb.Bf) (fun _=>false) (fun _=>none) (fun _=>none)
theorem Aa.Bb.ev (N:Nat) (a b:Int):B6 Aa.Bb.E N f151 (As f151) [.int .i64 a,.int .i64 b]=bif ((!(Br a))||(!(Br b))) then some (.tup [.agg [.int .i64 0,.int .i64 0,.nil],.int .i64 3]) else bif ((Br a&&Br b)) then some (.tup [.agg [.int .i64 a,.int .i64 b,.ints .fresh .u64 (C4 (toNat a) (toNat b) (fun _ _=>0))],.int .i64 0]) else none :=
 Eq.trans (by kernel_rfl)
 (Ay (Af4 (Br a)) (Ay (Ux (Br a)) (Ay (Ux (Br a)) (Ay (Af5 (Br a)) (C5 (Axq _ _) rfl rfl)))))
abbrev _root_.Go.Proofs.S1.Aa.Bb.Kn:=A9 prog 151 Aa.Bb.spec
theorem Aa.Bb.Ae (hk:A3 prog Aa.Bb.Bf) (h:Hyp Aa.Bb.E f151 Aa.Bb.ts Aa.Bb.pre Aa.Bb.out):Aa.Bb.Kn :=
 Am (A5 hk _ _ _) func151 (by kernel_rfl) (by kernel_rfl) h
def Aa.Ic.Bf:List (Nat × Entry):=[(187,Aa.of.Ic.spec),(204,Aa.size.spec)]
def Aa.Ic.E:Env:=Bk (Be Aa.Ic.Bf) (fun _=>false) (fun _=>none) (fun _=>none)
theorem Aa.Ic.ev (N:Nat) (n:Int):B6 Aa.Ic.E N f218 (As f218) [.int .i64 n]=bif (!(Br n)) then some (.tup [.agg [.int .i64 0,.int .i64 0,.nil],.int .i64 3]) else bif ((Br n&&Br n)) then some (.tup [.agg [.int .i64 n,.int .i64 n,.ints .fresh .u64 (C4 (toNat n) (toNat n) (fun j1 j2=>V0 j1 j2))],.int .i64 0]) else none:=by kernel_rfl
abbrev _root_.Go.Proofs.S1.Aa.Ic.Kn:=A9 prog 218 Aa.Ic.spec
theorem Aa.Ic.Ae (hk:A3 prog Aa.Ic.Bf) (h:Hyp Aa.Ic.E f218 Aa.Ic.ts Aa.Ic.pre Aa.Ic.out):Aa.Ic.Kn :=
 Am (A5 hk _ _ _) func218 (by kernel_rfl) (by kernel_rfl) h
def Aa.Ea.Bf:List (Nat × Entry):=[(160,Aa.Check.spec),(187,Aa.of.Ea.spec)]
def Aa.Ea.E:Env:=Bk (Be Aa.Ea.Bf) (fun _=>false) (fun _=>none) (fun _=>none)
theorem Aa.Ea.ev (N:Nat) (r c:Int) (l:List Int):B6 Aa.Ea.E N f167 (As f167) [.agg [.int .i64 r,.int .i64 c,.ints .arg .u64 l]]=bif ((N6 r c l) !=(0:Int)) then some (.tup [.agg [.int .i64 0,.int .i64 0,.nil],.int .i64 (N6 r c l)]) else bif ((Br c&&Br r)&&Az r c l&&decide (c=c∧r=r)) then some (.tup [.agg [.int .i64 c,.int .i64 r,.ints .fresh .u64 (C4 (toNat c) (toNat r) (fun j1 j2=>Cp c l j2 j1))],.int .i64 0]) else none:=by kernel_rfl
abbrev _root_.Go.Proofs.S1.Aa.Ea.Kn:=A9 prog 167 Aa.Ea.spec
theorem Aa.Ea.Ae (hk:A3 prog Aa.Ea.Bf) (h:Hyp Aa.Ea.E f167 Aa.Ea.ts Aa.Ea.pre Aa.Ea.out):Aa.Ea.Kn :=
 Am (A5 hk _ _ _) func167 (by kernel_rfl) (by kernel_rfl) h
def Aa.Part.Bf:List (Nat × Entry):=[(160,Aa.Check.spec),(187,Aa.of.Part.spec)]
def Aa.Part.E:Env:=Bk (Be Aa.Part.Bf) (fun _=>false) (fun _=>none) (fun _=>none)
theorem Aa.Part.ev (N:Nat) (r c:Int) (l:List Int) (x y:Int) (a b:Int):B6 Aa.Part.E N f124 (As f124) [.agg [.int .i64 r,.int .i64 c,.ints .arg .u64 l],.int .i64 x,.int .i64 y,.int .i64 a,.int .i64 b]=bif ((N6 r c l) !=(0:Int)) then some (.tup [.agg [.int .i64 0,.int .i64 0,.nil],.int .i64 (N6 r c l)]) else bif ((((((((Bc x 0)||(Bc y 0))||(Bc a 0))||(Bc b 0))||(Bc r x))||(Bc c y))||(Bc (Ad (r-x)) a))||(Bc (Ad (c-y)) b)) then some (.tup [.agg [.int .i64 0,.int .i64 0,.nil],.int .i64 3]) else bif ((Br a&&Br b)&&Az r c l&&Qy r c x y a b) then some (.tup [.agg [.int .i64 a,.int .i64 b,.ints .fresh .u64 (C4 (toNat a) (toNat b) (fun j1 j2=>Cp c l (x+j1) (y+j2)))],.int .i64 0]) else none :=
 Eq.trans (by kernel_rfl)
 (Fg rfl (Ay (Za (Bc x 0)) (Ay (Vh (Bc x 0)) (Ay (tt6 (Bc x 0)) (Ay (Akv (Bc x 0) (Bc y 0)) (Ay (Akw (Bc x 0) (Bc y 0)) (Ay (Axl (Bc x 0) (Bc y 0)) (Ay (Axm (Bc x 0) (Bc y 0) (Bc a 0)) (Ay (Asy (Bc x 0) (Bc y 0) (Bc a 0)) (Ay (A04 (Bc x 0) (Bc y 0) (Bc a 0)) (Ay (Axn (Bc x 0) (Bc y 0) (Bc a 0) (Bc b 0)) (Ay (Axn (Bc x 0) (Bc y 0) (Bc a 0) (Bc b 0)) (Ay (A31 (Bc x 0) (Bc y 0) (Bc a 0) (Bc b 0)) (Ay (A32 (Bc x 0) (Bc y 0) (Bc a 0) (Bc b 0)) (Ay (A33 (Bc x 0) (Bc y 0) (Bc a 0) (Bc b 0)) (Ay (A34 (Bc x 0) (Bc y 0) (Bc a 0) (Bc b 0) (Bc r x)) (Ay (A34 (Bc x 0) (Bc y 0) (Bc a 0) (Bc b 0) (Bc r x)) (Ay (A6t (Bc x 0) (Bc y 0) (Bc a 0) (Bc b 0) (Bc r x)) (Ay (A6u (Bc x 0) (Bc y 0) (Bc a 0) (Bc b 0) (Bc r x)) (Ay (A6v (Bc x 0) (Bc y 0) (Bc a 0) (Bc b 0) (Bc r x)) (Ay (A05 (Bc x 0) (Bc y 0) (Bc a 0) (Bc b 0) (Bc r x) (Bc c y)) (Ay (A05 (Bc x 0) (Bc y 0) (Bc a 0) (Bc b 0) (Bc r x) (Bc c y)) (Ay (A6w (Bc x 0) (Bc y 0) (Bc a 0) (Bc b 0) (Bc r x) (Bc c y)) (Ay (A05 (Bc x 0) (Bc y 0) (Bc a 0) (Bc b 0) (Bc r x) (Bc c y)) (Ay (A35 (Bc x 0) (Bc y 0) (Bc a 0) (Bc b 0) (Bc r x) (Bc c y)) (Ay (A35 (Bc x 0) (Bc y 0) (Bc a 0) (Bc b 0) (Bc r x) (Bc c y)) (Ay (A6x (Bc x 0) (Bc y 0) (Bc a 0) (Bc b 0) (Bc r x) (Bc c y)) (Ay (A06 (Bc x 0) (Bc y 0) (Bc a 0) (Bc b 0) (Bc r x) (Bc c y) (Bc (Ad (r-x)) a)) (Ay (A06 (Bc x 0) (Bc y 0) (Bc a 0) (Bc b 0) (Bc r x) (Bc c y) (Bc (Ad (r-x)) a)) (Ay (A6y (Bc x 0) (Bc y 0) (Bc a 0) (Bc b 0) (Bc r x) (Bc c y) (Bc (Ad (r-x)) a)) (Ay (A06 (Bc x 0) (Bc y 0) (Bc a 0) (Bc b 0) (Bc r x) (Bc c y) (Bc (Ad (r-x)) a)) (Ay (A36 (Bc x 0) (Bc y 0) (Bc a 0) (Bc b 0) (Bc r x) (Bc c y) (Bc (Ad (r-x)) a)) (Ay (A36 (Bc x 0) (Bc y 0) (Bc a 0) (Bc b 0) (Bc r x) (Bc c y) (Bc (Ad (r-x)) a)) (Ay (A6z (Bc x 0) (Bc y 0) (Bc a 0) (Bc b 0) (Bc r x) (Bc c y) (Bc (Ad (r-x)) a)) (C5 (A60 _ _ _ _ _ _ _ _) rfl rfl)))))))))))))))))))))))))))))))))))
abbrev _root_.Go.Proofs.S1.Aa.Part.Kn:=A9 prog 124 Aa.Part.spec
theorem Aa.Part.Ae (hk:A3 prog Aa.Part.Bf) (h:Hyp Aa.Part.E f124 Aa.Part.ts Aa.Part.pre Aa.Part.out):Aa.Part.Kn :=
 Am (A5 hk _ _ _) func124 (by kernel_rfl) (by kernel_rfl) h
def Aa.Stack.Bf:List (Nat × Entry):=[(187,Aa.of.Stack.spec),(186,Aa.two.spec)]
def Aa.Stack.E:Env:=Bk (Be Aa.Stack.Bf) (fun _=>false) (fun _=>none) (fun _=>none)
theorem Aa.Stack.ev (N:Nat) (r c:Int) (l:List Int) (p q:Int) (m:List Int):B6 Aa.Stack.E N f126 (As f126) [.agg [.int .i64 r,.int .i64 c,.ints .arg .u64 l],.agg [.int .i64 p,.int .i64 q,.ints .arg .u64 m]]=bif ((Aba r c l p q m) !=(0:Int)) then some (.tup [.agg [.int .i64 0,.int .i64 0,.nil],.int .i64 (Aba r c l p q m)]) else bif ((c !=q)||(Bc 6 (Ad (r+p)))) then some (.tup [.agg [.int .i64 0,.int .i64 0,.nil],.int .i64 3]) else bif ((Br (Ad (r+p))&&Br c)&&(Az r c l&&Az p q m)&&decide ((Ad (r+p))=r+p∧c=c∧q=c)) then some (.tup [.agg [.int .i64 (Ad (r+p)),.int .i64 c,.ints .fresh .u64 (C4 (toNat (Ad (r+p))) (toNat c) (fun j1 j2=>J5 r c l q m j1 j2))],.int .i64 0]) else none :=
 Eq.trans (by kernel_rfl)
 (Fg rfl (Ay (Za (c !=q)) (Ay (Vh (c !=q)) (Ay (Za (c !=q)) (Ay (Vh (c !=q)) (Ay (tt8 (c !=q)) (Ay (Vh (c !=q)) (Ay (tt6 (c !=q)) (C5 (tt5 _ _) rfl rfl)))))))))
abbrev _root_.Go.Proofs.S1.Aa.Stack.Kn:=A9 prog 126 Aa.Stack.spec
theorem Aa.Stack.Ae (hk:A3 prog Aa.Stack.Bf) (h:Hyp Aa.Stack.E f126 Aa.Stack.ts Aa.Stack.pre Aa.Stack.out):Aa.Stack.Kn :=
 Am (A5 hk _ _ _) func126 (by kernel_rfl) (by kernel_rfl) h
def Aa.Mul.Bf:List (Nat × Entry):=[(187,Aa.of.Mul.spec),(186,Aa.two.spec)]
def Aa.Mul.E:Env:=Bk (Be Aa.Mul.Bf) (fun _=>false) (fun _=>none) (fun _=>none)
theorem Aa.Mul.ev (N:Nat) (r c:Int) (l:List Int) (p q:Int) (m:List Int):B6 Aa.Mul.E N f123 (As f123) [.agg [.int .i64 r,.int .i64 c,.ints .arg .u64 l],.agg [.int .i64 p,.int .i64 q,.ints .arg .u64 m]]=bif ((Aba r c l p q m) !=(0:Int)) then some (.tup [.agg [.int .i64 0,.int .i64 0,.nil],.int .i64 (Aba r c l p q m)]) else bif (c !=p) then some (.tup [.agg [.int .i64 0,.int .i64 0,.nil],.int .i64 3]) else bif ((Br r&&Br q)&&((Az r c l&&Az p q m)&&(Ak l&&Ak m))&&decide (r=r∧q=q∧c=p)) then some (.tup [.agg [.int .i64 r,.int .i64 q,.ints .fresh .u64 (C4 (toNat r) (toNat q) (fun j1 j2=>M5 (G7 c l j1) (Sn p q m j2)))],.int .i64 0]) else none:=by kernel_rfl
abbrev _root_.Go.Proofs.S1.Aa.Mul.Kn:=A9 prog 123 Aa.Mul.spec
theorem Aa.Mul.Ae (hk:A3 prog Aa.Mul.Bf) (h:Hyp Aa.Mul.E f123 Aa.Mul.ts Aa.Mul.pre Aa.Mul.out):Aa.Mul.Kn :=
 Am (A5 hk _ _ _) func123 (by kernel_rfl) (by kernel_rfl) h
end EqOf
open Go Go.Den Go.Cv Go.Proofs
open EqOf
theorem of.Bb.inner (N:Nat)  {A B:Nat} (hA:A≤6) (hB:B≤6) {F:Nat→Nat→Int} (hF:∀ i j:Nat,F i j=(0:Int)) {i:Nat} (hi:i<A):∀ (k j M0 M:Nat),j+k=B→k<M →
 Aa.of.Bb.L1 N M0 M (A:Int) (B:Int) (i:Int) (i:Int) (j:Int) (C4 i B F++(List.range j).map (F i))=Aa.of.Bb.L0 N M0 (A:Int) (B:Int) ((i+1:Nat):Int) (C4 (i+1) B F):=by
 intro k
 induction k with
 | zero =>
   intro j M0 M hj hM
   obtain ⟨M,rfl⟩:∃ G,M=G+1:=⟨M-1,by omega⟩
   obtain rfl:j=B:=by omega
   rw [Aa.of.Bb.Cy,Aw,A8c (by omega),A8b,Ar (by omega) (by omega),← O0]
   rfl
 | succ k ih =>
   intro j M0 M hj hM
   obtain ⟨M,rfl⟩:∃ G,M=G+1:=⟨M-1,by omega⟩
   have d:decide ((C4 i B F++(List.range j).map (F i)).length+1≤Im)=true:=by
    refine A78 ?_
    have:=A83 (show i≤6 by omega) hB
    rw [A8z,Cf,A9d,A9a]; unfold Im; omega
   rw [Aa.of.Bb.Cy,Aw,A78 (by omega),A77,d,A77,Ar (by omega) (by omega),← hF i j]
   have:=ih (j+1) M0 M (by omega) (by omega)
   rw [Je,← List.append_assoc] at this
   exact this
theorem of.Bb.outer (N:Nat)  {A B:Nat} (hA:A≤6) (hB:B≤6) (hN:6<N) {F:Nat→Nat→Int} (hF:∀ i j:Nat,F i j=(0:Int)):∀ (k i M:Nat),i+k=A→k<M →
 Aa.of.Bb.L0 N M (A:Int) (B:Int) (i:Int) (C4 i B F)=some (.agg [.int .i64 (A:Int),.int .i64 (B:Int),.ints (.own 108002 tB) .u64 (C4 A B F)]):=by
 intro k
 induction k with
 | zero =>
   intro i M hi hM
   obtain ⟨M,rfl⟩:∃ G,M=G+1:=⟨M-1,by omega⟩
   obtain rfl:i=A:=by omega
   rw [Aa.of.Bb.A1,Aw,A8c (by omega),A8b]
 | succ k ih =>
   intro i M hi hM
   obtain ⟨M,rfl⟩:∃ G,M=G+1:=⟨M-1,by omega⟩
   have n:=of.Bb.inner N hA hB hF (show i<A by omega) B 0 M N (by omega) (by omega)
   rw [List.range_zero,List.map_nil,List.append_nil] at n
   rw [Aa.of.Bb.A1,Aw,A78 (by omega),A77]
   exact n.trans (ih (i+1) M (by omega) (by omega))
theorem Aa.of.Bb.known:Aa.of.Bb.Kn:=Aa.of.Bb.Ae (.cons Aa.Ej.known .nil) fun a b hp=>by
 have h1:(Br a&&Br b)=true:=hp
 obtain ⟨ha,hb⟩:=Af.1 h1
 obtain ⟨A,rfl,hA⟩:=Gb ha
 obtain ⟨B,rfl,hB⟩:=Gb hb
 refine ⟨8,.agg [.int .i64 (A:Int),.int .i64 (B:Int),.ints (.own 108002 tB) .u64 (C4 A B fun (i j:Nat)=>(0:Int))],[108002],?_,Wk.Mk (.cons .int (.cons .int (.cons (.drop _ _ _ _ (List.mem_singleton.2 rfl)) .nil)))⟩
 rw [Aa.of.Bb.ev]
 have n:=of.Bb.outer 8 hA hB (by omega) (F:=fun (i j:Nat)=>(0:Int)) (fun _ _=>rfl) A 0 8 (by omega) (by omega)
 rw [Mz] at n
 exact n
theorem of.Ic.inner (N:Nat)  {A B:Nat} (hA:A≤6) (hB:B≤6) {F:Nat→Nat→Int} (hF:∀ i j:Nat,F i j=V0 (i:Int) (j:Int)) {i:Nat} (hi:i<A):∀ (k j M0 M:Nat),j+k=B→k<M →
 Aa.of.Ic.L1 N M0 M (A:Int) (B:Int) (i:Int) (i:Int) (j:Int) (C4 i B F++(List.range j).map (F i))=Aa.of.Ic.L0 N M0 (A:Int) (B:Int) ((i+1:Nat):Int) (C4 (i+1) B F):=by
 intro k
 induction k with
 | zero =>
   intro j M0 M hj hM
   obtain ⟨M,rfl⟩:∃ G,M=G+1:=⟨M-1,by omega⟩
   obtain rfl:j=B:=by omega
   rw [Aa.of.Ic.Cy,Aw,A8c (by omega),A8b,Ar (by omega) (by omega),← O0]
   rfl
 | succ k ih =>
   intro j M0 M hj hM
   obtain ⟨M,rfl⟩:∃ G,M=G+1:=⟨M-1,by omega⟩
   have d:decide ((C4 i B F++(List.range j).map (F i)).length+1≤Im)=true:=by
    refine A78 ?_
    have:=A83 (show i≤6 by omega) hB
    rw [A8z,Cf,A9d,A9a]; unfold Im; omega
   rw [Aa.of.Ic.Cy,Aw,A78 (by omega),A77,d,A77,Ar (by omega) (by omega),← hF i j]
   have:=ih (j+1) M0 M (by omega) (by omega)
   rw [Je,← List.append_assoc] at this
   exact this
theorem of.Ic.outer (N:Nat)  {A B:Nat} (hA:A≤6) (hB:B≤6) (hN:6<N) {F:Nat→Nat→Int} (hF:∀ i j:Nat,F i j=V0 (i:Int) (j:Int)):∀ (k i M:Nat),i+k=A→k<M →
 Aa.of.Ic.L0 N M (A:Int) (B:Int) (i:Int) (C4 i B F)=some (.agg [.int .i64 (A:Int),.int .i64 (B:Int),.ints (.own 108002 tB) .u64 (C4 A B F)]):=by
 intro k
 induction k with
 | zero =>
   intro i M hi hM
   obtain ⟨M,rfl⟩:∃ G,M=G+1:=⟨M-1,by omega⟩
   obtain rfl:i=A:=by omega
   rw [Aa.of.Ic.A1,Aw,A8c (by omega),A8b]
 | succ k ih =>
   intro i M hi hM
   obtain ⟨M,rfl⟩:∃ G,M=G+1:=⟨M-1,by omega⟩
   have n:=of.Ic.inner N hA hB hF (show i<A by omega) B 0 M N (by omega) (by omega)
   rw [List.range_zero,List.map_nil,List.append_nil] at n
   rw [Aa.of.Ic.A1,Aw,A78 (by omega),A77]
   exact n.trans (ih (i+1) M (by omega) (by omega))
theorem Aa.of.Ic.known:Aa.of.Ic.Kn:=Aa.of.Ic.Ae (.cons Aa.H4.known .nil) fun a b hp=>by
 have h1:(Br a&&Br b)=true:=hp
 obtain ⟨ha,hb⟩:=Af.1 h1
 obtain ⟨A,rfl,hA⟩:=Gb ha
 obtain ⟨B,rfl,hB⟩:=Gb hb
 refine ⟨8,.agg [.int .i64 (A:Int),.int .i64 (B:Int),.ints (.own 108002 tB) .u64 (C4 A B fun (i j:Nat)=>V0 (i:Int) (j:Int))],[108002],?_,Wk.Mk (.cons .int (.cons .int (.cons (.drop _ _ _ _ (List.mem_singleton.2 rfl)) .nil)))⟩
 rw [Aa.of.Ic.ev]
 have n:=of.Ic.outer 8 hA hB (by omega) (F:=fun (i j:Nat)=>V0 (i:Int) (j:Int)) (fun _ _=>rfl) A 0 8 (by omega) (by omega)
 rw [Mz] at n
 exact n
theorem of.Ea.inner (N:Nat) (r c:Int) (l:List Int) {A B:Nat} (hA:A≤6) (hB:B≤6) {F:Nat→Nat→Int} (hF:∀ i j:Nat,F i j=Cp c l (j:Int) (i:Int)) {i:Nat} (hi:i<A) (hp:∀ j:Nat,j<B→Ha r c l (j:Int) (i:Int)=true):∀ (k j M0 M:Nat),j+k=B→k<M →
 Aa.of.Ea.L1 N M0 M (A:Int) (B:Int) r c l (i:Int) (i:Int) (j:Int) (C4 i B F++(List.range j).map (F i))=Aa.of.Ea.L0 N M0 (A:Int) (B:Int) r c l ((i+1:Nat):Int) (C4 (i+1) B F):=by
 intro k
 induction k with
 | zero =>
   intro j M0 M hj hM
   obtain ⟨M,rfl⟩:∃ G,M=G+1:=⟨M-1,by omega⟩
   obtain rfl:j=B:=by omega
   rw [Aa.of.Ea.Cy,Aw,A8c (by omega),A8b,Ar (by omega) (by omega),← O0]
   rfl
 | succ k ih =>
   intro j M0 M hj hM
   obtain ⟨M,rfl⟩:∃ G,M=G+1:=⟨M-1,by omega⟩
   have d:decide ((C4 i B F++(List.range j).map (F i)).length+1≤Im)=true:=by
    refine A78 ?_
    have:=A83 (show i≤6 by omega) hB
    rw [A8z,Cf,A9d,A9a]; unfold Im; omega
   rw [Aa.of.Ea.Cy,Aw,A78 (by omega),A77,hp j (by omega),A77,d,A77,Ar (by omega) (by omega),← hF i j]
   have:=ih (j+1) M0 M (by omega) (by omega)
   rw [Je,← List.append_assoc] at this
   exact this
theorem of.Ea.outer (N:Nat) (r c:Int) (l:List Int) {A B:Nat} (hA:A≤6) (hB:B≤6) (hN:6<N) {F:Nat→Nat→Int} (hF:∀ i j:Nat,F i j=Cp c l (j:Int) (i:Int)) (hp:∀ i j:Nat,i<A→j<B→Ha r c l (j:Int) (i:Int)=true):∀ (k i M:Nat),i+k=A→k<M →
 Aa.of.Ea.L0 N M (A:Int) (B:Int) r c l (i:Int) (C4 i B F)=some (.agg [.int .i64 (A:Int),.int .i64 (B:Int),.ints (.own 108002 tB) .u64 (C4 A B F)]):=by
 intro k
 induction k with
 | zero =>
   intro i M hi hM
   obtain ⟨M,rfl⟩:∃ G,M=G+1:=⟨M-1,by omega⟩
   obtain rfl:i=A:=by omega
   rw [Aa.of.Ea.A1,Aw,A8c (by omega),A8b]
 | succ k ih =>
   intro i M hi hM
   obtain ⟨M,rfl⟩:∃ G,M=G+1:=⟨M-1,by omega⟩
   have n:=of.Ea.inner N r c l hA hB hF (show i<A by omega) (fun j hj=>hp i j (by omega) hj) B 0 M N (by omega) (by omega)
   rw [List.range_zero,List.map_nil,List.append_nil] at n
   rw [Aa.of.Ea.A1,Aw,A78 (by omega),A77]
   exact n.trans (ih (i+1) M (by omega) (by omega))
theorem Aa.of.Ea.known:Aa.of.Ea.Kn:=Aa.of.Ea.Ae (.cons Aa.F4.known .nil) fun a b r c l hp=>by
 obtain ⟨h12,hy⟩:=Af.1 (show (((Br a&&Br b)&&Az r c l)&&decide (a=c∧b=r))=true from hp)
 obtain ⟨h1,hx⟩:=Af.1 h12
 have h2:=Af.2 ⟨hx,hy⟩
 obtain ⟨ha,hb⟩:=Af.1 h1
 obtain ⟨A,rfl,hA⟩:=Gb ha
 obtain ⟨B,rfl,hB⟩:=Gb hb
 obtain ⟨hr,he⟩:=Af.1 h2
 obtain ⟨e1,e2⟩:=A8x he
 have hp:∀ i j:Nat,i<A→j<B→Ha r c l (j:Int) (i:Int)=true:=fun i j hi hj=>Qc hr (by omega) (by omega) (by omega) (by omega) r
 refine ⟨8,.agg [.int .i64 (A:Int),.int .i64 (B:Int),.ints (.own 108002 tB) .u64 (C4 A B fun (i j:Nat)=>Cp c l (j:Int) (i:Int))],[108002],?_,Wk.Mk (.cons .int (.cons .int (.cons (.drop _ _ _ _ (List.mem_singleton.2 rfl)) .nil)))⟩
 rw [Aa.of.Ea.ev]
 have n:=of.Ea.outer 8 r c l hA hB (by omega) (F:=fun (i j:Nat)=>Cp c l (j:Int) (i:Int)) (fun _ _=>rfl) hp A 0 8 (by omega) (by omega)
 rw [Mz] at n
 exact n
theorem of.Part.inner (N:Nat) (r c:Int) (l:List Int) (x y:Int) {A B:Nat} (hA:A≤6) (hB:B≤6) {F:Nat→Nat→Int} (hF:∀ i j:Nat,F i j=Cp c l (x+(i:Int)) (y+(j:Int))) {i:Nat} (hi:i<A) (hp:∀ j:Nat,j<B→(Ha r c l (x+(i:Int)) (y+(j:Int))&&Abj x y (i:Int) (j:Int))=true):∀ (k j M0 M:Nat),j+k=B→k<M →
 Aa.of.Part.L1 N M0 M (A:Int) (B:Int) r c l x y (i:Int) (i:Int) (j:Int) (C4 i B F++(List.range j).map (F i))=Aa.of.Part.L0 N M0 (A:Int) (B:Int) r c l x y ((i+1:Nat):Int) (C4 (i+1) B F):=by
 intro k
 induction k with
 | zero =>
   intro j M0 M hj hM
   obtain ⟨M,rfl⟩:∃ G,M=G+1:=⟨M-1,by omega⟩
   obtain rfl:j=B:=by omega
   rw [Aa.of.Part.Cy,Aw,A8c (by omega),A8b,Ar (by omega) (by omega),← O0]
   rfl
 | succ k ih =>
   intro j M0 M hj hM
   obtain ⟨M,rfl⟩:∃ G,M=G+1:=⟨M-1,by omega⟩
   have d:decide ((C4 i B F++(List.range j).map (F i)).length+1≤Im)=true:=by
    refine A78 ?_
    have:=A83 (show i≤6 by omega) hB
    rw [A8z,Cf,A9d,A9a]; unfold Im; omega
   rw [Aa.of.Part.Cy,Aw,A78 (by omega),A77,hp j (by omega),A77,d,A77,Ar (by omega) (by omega),← hF i j]
   have:=ih (j+1) M0 M (by omega) (by omega)
   rw [Je,← List.append_assoc] at this
   exact this
theorem of.Part.outer (N:Nat) (r c:Int) (l:List Int) (x y:Int) {A B:Nat} (hA:A≤6) (hB:B≤6) (hN:6<N) {F:Nat→Nat→Int} (hF:∀ i j:Nat,F i j=Cp c l (x+(i:Int)) (y+(j:Int))) (hp:∀ i j:Nat,i<A→j<B→(Ha r c l (x+(i:Int)) (y+(j:Int))&&Abj x y (i:Int) (j:Int))=true):∀ (k i M:Nat),i+k=A→k<M →
 Aa.of.Part.L0 N M (A:Int) (B:Int) r c l x y (i:Int) (C4 i B F)=some (.agg [.int .i64 (A:Int),.int .i64 (B:Int),.ints (.own 108002 tB) .u64 (C4 A B F)]):=by
 intro k
 induction k with
 | zero =>
   intro i M hi hM
   obtain ⟨M,rfl⟩:∃ G,M=G+1:=⟨M-1,by omega⟩
   obtain rfl:i=A:=by omega
   rw [Aa.of.Part.A1,Aw,A8c (by omega),A8b]
 | succ k ih =>
   intro i M hi hM
   obtain ⟨M,rfl⟩:∃ G,M=G+1:=⟨M-1,by omega⟩
   have n:=of.Part.inner N r c l x y hA hB hF (show i<A by omega) (fun j hj=>hp i j (by omega) hj) B 0 M N (by omega) (by omega)
   rw [List.range_zero,List.map_nil,List.append_nil] at n
   rw [Aa.of.Part.A1,Aw,A78 (by omega),A77]
   exact n.trans (ih (i+1) M (by omega) (by omega))
theorem Aa.of.Part.known:Aa.of.Part.Kn:=Aa.of.Part.Ae (.cons Aa.F5.known .nil) fun a b r c l x y hp=>by
 obtain ⟨h12,hy⟩:=Af.1 (show (((Br a&&Br b)&&Az r c l)&&Qy r c x y a b)=true from hp)
 obtain ⟨h1,hx⟩:=Af.1 h12
 have h2:=Af.2 ⟨hx,hy⟩
 obtain ⟨ha,hb⟩:=Af.1 h1
 obtain ⟨A,rfl,hA⟩:=Gb ha
 obtain ⟨B,rfl,hB⟩:=Gb hb
 obtain ⟨hr,he⟩:=Af.1 h2
 have he:=A8x he
 have hs:=Js.1 hr
 have hp:∀ i j:Nat,i<A→j<B→(Ha r c l (x+(i:Int)) (y+(j:Int))&&Abj x y (i:Int) (j:Int))=true:=fun i j hi hj =>
  Af.2 ⟨Qc hr (by omega) (by omega) (by omega) (by omega) r,Ao.2 (by omega)⟩
 refine ⟨8,.agg [.int .i64 (A:Int),.int .i64 (B:Int),.ints (.own 108002 tB) .u64 (C4 A B fun (i j:Nat)=>Cp c l (x+(i:Int)) (y+(j:Int)))],[108002],?_,Wk.Mk (.cons .int (.cons .int (.cons (.drop _ _ _ _ (List.mem_singleton.2 rfl)) .nil)))⟩
 rw [Aa.of.Part.ev]
 have n:=of.Part.outer 8 r c l x y hA hB (by omega) (F:=fun (i j:Nat)=>Cp c l (x+(i:Int)) (y+(j:Int))) (fun _ _=>rfl) hp A 0 8 (by omega) (by omega)
 rw [Mz] at n
 exact n
theorem of.Stack.inner (N:Nat) (r c:Int) (l:List Int) (p q:Int) (m:List Int) {A B:Nat} (hA:A≤6) (hB:B≤6) {F:Nat→Nat→Int} (hF:∀ i j:Nat,F i j=J5 r c l q m (i:Int) (j:Int)) {i:Nat} (hi:i<A) (hp:∀ j:Nat,j<B→Qu r c l p q m (i:Int) (j:Int)=true):∀ (k j M0 M:Nat),j+k=B→k<M →
 Aa.of.Stack.L1 N M0 M (A:Int) (B:Int) r c l p q m (i:Int) (i:Int) (j:Int) (C4 i B F++(List.range j).map (F i))=Aa.of.Stack.L0 N M0 (A:Int) (B:Int) r c l p q m ((i+1:Nat):Int) (C4 (i+1) B F):=by
 intro k
 induction k with
 | zero =>
   intro j M0 M hj hM
   obtain ⟨M,rfl⟩:∃ G,M=G+1:=⟨M-1,by omega⟩
   obtain rfl:j=B:=by omega
   rw [Aa.of.Stack.Cy,Aw,A8c (by omega),A8b,Ar (by omega) (by omega),← O0]
   rfl
 | succ k ih =>
   intro j M0 M hj hM
   obtain ⟨M,rfl⟩:∃ G,M=G+1:=⟨M-1,by omega⟩
   have d:decide ((C4 i B F++(List.range j).map (F i)).length+1≤Im)=true:=by
    refine A78 ?_
    have:=A83 (show i≤6 by omega) hB
    rw [A8z,Cf,A9d,A9a]; unfold Im; omega
   rw [Aa.of.Stack.Cy,Aw,A78 (by omega),A77,hp j (by omega),A77,d,A77,Ar (by omega) (by omega),← hF i j]
   have:=ih (j+1) M0 M (by omega) (by omega)
   rw [Je,← List.append_assoc] at this
   exact this
theorem of.Stack.outer (N:Nat) (r c:Int) (l:List Int) (p q:Int) (m:List Int) {A B:Nat} (hA:A≤6) (hB:B≤6) (hN:6<N) {F:Nat→Nat→Int} (hF:∀ i j:Nat,F i j=J5 r c l q m (i:Int) (j:Int)) (hp:∀ i j:Nat,i<A→j<B→Qu r c l p q m (i:Int) (j:Int)=true):∀ (k i M:Nat),i+k=A→k<M →
 Aa.of.Stack.L0 N M (A:Int) (B:Int) r c l p q m (i:Int) (C4 i B F)=some (.agg [.int .i64 (A:Int),.int .i64 (B:Int),.ints (.own 108002 tB) .u64 (C4 A B F)]):=by
 intro k
 induction k with
 | zero =>
   intro i M hi hM
   obtain ⟨M,rfl⟩:∃ G,M=G+1:=⟨M-1,by omega⟩
   obtain rfl:i=A:=by omega
   rw [Aa.of.Stack.A1,Aw,A8c (by omega),A8b]
 | succ k ih =>
   intro i M hi hM
   obtain ⟨M,rfl⟩:∃ G,M=G+1:=⟨M-1,by omega⟩
   have n:=of.Stack.inner N r c l p q m hA hB hF (show i<A by omega) (fun j hj=>hp i j (by omega) hj) B 0 M N (by omega) (by omega)
   rw [List.range_zero,List.map_nil,List.append_nil] at n
   rw [Aa.of.Stack.A1,Aw,A78 (by omega),A77]
   exact n.trans (ih (i+1) M (by omega) (by omega))
theorem Aa.of.Stack.known:Aa.of.Stack.Kn:=Aa.of.Stack.Ae (.cons Aa.Et.known .nil) fun a b r c l p q m hp=>by
 obtain ⟨h12,hy⟩:=Af.1 (show (((Br a&&Br b)&&(Az r c l&&Az p q m))&&decide (a=r+p∧b=c∧q=c))=true from hp)
 obtain ⟨h1,hx⟩:=Af.1 h12
 have h2:=Af.2 ⟨hx,hy⟩
 obtain ⟨ha,hb⟩:=Af.1 h1
 obtain ⟨A,rfl,hA⟩:=Gb ha
 obtain ⟨B,rfl,hB⟩:=Gb hb
 obtain ⟨h3,he⟩:=Af.1 h2
 obtain ⟨hr,hm⟩:=Af.1 h3
 obtain ⟨e1,e2,e3⟩:=A8x he
 have hs:=Js.1 hr
 have hp:∀ i j:Nat,i<A→j<B→Qu r c l p q m (i:Int) (j:Int)=true:=fun i j hi hj=>by
  refine Ao.2 ⟨by omega,by omega,by omega,by omega,?_⟩
  by_cases h:(i:Int)<r
  ·rw [A8u h]; exact Qc hr (by omega) (by omega) (by omega) (by omega) r
  ·rw [A8t h]; exact Qc hm (by omega) (by omega) (by omega) (by omega) p
 refine ⟨8,.agg [.int .i64 (A:Int),.int .i64 (B:Int),.ints (.own 108002 tB) .u64 (C4 A B fun (i j:Nat)=>J5 r c l q m (i:Int) (j:Int))],[108002],?_,Wk.Mk (.cons .int (.cons .int (.cons (.drop _ _ _ _ (List.mem_singleton.2 rfl)) .nil)))⟩
 rw [Aa.of.Stack.ev]
 have n:=of.Stack.outer 8 r c l p q m hA hB (by omega) (F:=fun (i j:Nat)=>J5 r c l q m (i:Int) (j:Int)) (fun _ _=>rfl) hp A 0 8 (by omega) (by omega)
 rw [Mz] at n
 exact n
theorem of.Mul.inner (N:Nat) (r c:Int) (l:List Int) (p q:Int) (m:List Int) {A B:Nat} (hA:A≤6) (hB:B≤6) {F:Nat→Nat→Int} (hF:∀ i j:Nat,F i j=M5 (G7 c l (i:Int)) (Sn p q m (j:Int))) {i:Nat} (hi:i<A) (hp:∀ j:Nat,j<B→Ym r c l p q m (i:Int) (j:Int)=true):∀ (k j M0 M:Nat),j+k=B→k<M →
 Aa.of.Mul.L1 N M0 M (A:Int) (B:Int) r c l p q m (i:Int) (i:Int) (j:Int) (C4 i B F++(List.range j).map (F i))=Aa.of.Mul.L0 N M0 (A:Int) (B:Int) r c l p q m ((i+1:Nat):Int) (C4 (i+1) B F):=by
 intro k
 induction k with
 | zero =>
   intro j M0 M hj hM
   obtain ⟨M,rfl⟩:∃ G,M=G+1:=⟨M-1,by omega⟩
   obtain rfl:j=B:=by omega
   rw [Aa.of.Mul.Cy,Aw,A8c (by omega),A8b,Ar (by omega) (by omega),← O0]
   rfl
 | succ k ih =>
   intro j M0 M hj hM
   obtain ⟨M,rfl⟩:∃ G,M=G+1:=⟨M-1,by omega⟩
   have d:decide ((C4 i B F++(List.range j).map (F i)).length+1≤Im)=true:=by
    refine A78 ?_
    have:=A83 (show i≤6 by omega) hB
    rw [A8z,Cf,A9d,A9a]; unfold Im; omega
   rw [Aa.of.Mul.Cy,Aw,A78 (by omega),A77,hp j (by omega),A77,d,A77,Ar (by omega) (by omega),← hF i j]
   have:=ih (j+1) M0 M (by omega) (by omega)
   rw [Je,← List.append_assoc] at this
   exact this
theorem of.Mul.outer (N:Nat) (r c:Int) (l:List Int) (p q:Int) (m:List Int) {A B:Nat} (hA:A≤6) (hB:B≤6) (hN:6<N) {F:Nat→Nat→Int} (hF:∀ i j:Nat,F i j=M5 (G7 c l (i:Int)) (Sn p q m (j:Int))) (hp:∀ i j:Nat,i<A→j<B→Ym r c l p q m (i:Int) (j:Int)=true):∀ (k i M:Nat),i+k=A→k<M →
 Aa.of.Mul.L0 N M (A:Int) (B:Int) r c l p q m (i:Int) (C4 i B F)=some (.agg [.int .i64 (A:Int),.int .i64 (B:Int),.ints (.own 108002 tB) .u64 (C4 A B F)]):=by
 intro k
 induction k with
 | zero =>
   intro i M hi hM
   obtain ⟨M,rfl⟩:∃ G,M=G+1:=⟨M-1,by omega⟩
   obtain rfl:i=A:=by omega
   rw [Aa.of.Mul.A1,Aw,A8c (by omega),A8b]
 | succ k ih =>
   intro i M hi hM
   obtain ⟨M,rfl⟩:∃ G,M=G+1:=⟨M-1,by omega⟩
   have n:=of.Mul.inner N r c l p q m hA hB hF (show i<A by omega) (fun j hj=>hp i j (by omega) hj) B 0 M N (by omega) (by omega)
   rw [List.range_zero,List.map_nil,List.append_nil] at n
   rw [Aa.of.Mul.A1,Aw,A78 (by omega),A77]
   exact n.trans (ih (i+1) M (by omega) (by omega))
theorem Aa.of.Mul.known:Aa.of.Mul.Kn:=Aa.of.Mul.Ae (.cons Aa.H2.known .nil) fun a b r c l p q m hp=>by
 obtain ⟨h12,hy⟩:=Af.1 (show (((Br a&&Br b)&&((Az r c l&&Az p q m)&&(Ak l&&Ak m)))&&decide (a=r∧b=q∧c=p))=true from hp)
 obtain ⟨h1,hx⟩:=Af.1 h12
 have h2:=Af.2 ⟨hx,hy⟩
 obtain ⟨ha,hb⟩:=Af.1 h1
 obtain ⟨A,rfl,hA⟩:=Gb ha
 obtain ⟨B,rfl,hB⟩:=Gb hb
 obtain ⟨h3,he⟩:=Af.1 h2
 obtain ⟨h4,h5⟩:=Af.1 h3
 obtain ⟨hr,hm⟩:=Af.1 h4
 obtain ⟨e1,e2,e3⟩:=A8x he
 have hp:∀ i j:Nat,i<A→j<B→Ym r c l p q m (i:Int) (j:Int)=true:=fun i j hi hj =>
  Af.2 ⟨Af.2 ⟨Af.2 ⟨hr,Ao.2 (by omega)⟩,Af.2 ⟨hm,Ao.2 (by omega)⟩⟩,Af.2 ⟨h5,Ao.2 e3⟩⟩
 refine ⟨8,.agg [.int .i64 (A:Int),.int .i64 (B:Int),.ints (.own 108002 tB) .u64 (C4 A B fun (i j:Nat)=>M5 (G7 c l (i:Int)) (Sn p q m (j:Int)))],[108002],?_,Wk.Mk (.cons .int (.cons .int (.cons (.drop _ _ _ _ (List.mem_singleton.2 rfl)) .nil)))⟩
 rw [Aa.of.Mul.ev]
 have n:=of.Mul.outer 8 r c l p q m hA hB (by omega) (F:=fun (i j:Nat)=>M5 (G7 c l (i:Int)) (Sn p q m (j:Int))) (fun _ _=>rfl) hp A 0 8 (by omega) (by omega)
 rw [Mz] at n
 exact n
open Go Go.Den Go.Cv Go.Proofs
open EqOf
def Vo (x:MX):DV:=.tup [.agg [.int .i64 x.1,.int .i64 x.2.1,.ints .fresh .u64 x.2.2.1],.int .i64 x.2.2.2]
def Ayq (e:Int):DV:=.tup [.agg [.int .i64 0,.int .i64 0,.nil],.int .i64 e]
theorem Qg {drops:List Nat} {x:MX}:Wk drops (Vo x) (Vo x) :=
 Wk.Jp (.cons (Wk.Mk (.cons .int (.cons .int (.cons .Rw .nil)))) (.cons .int .nil))
theorem Lp {drops:List Nat} {e:Int}:Wk drops (Ayq e) (Vo (N9 e)) :=
 Wk.Jp (.cons (Wk.Mk (.cons .int (.cons .int (.cons (.nil _ _) .nil)))) (.cons .int .nil))
theorem Aa.Bb.known:Aa.Bb.Kn:=Aa.Bb.Ae (.cons Aa.of.Bb.known (.cons Aa.size.known .nil)) fun a b _=>by
 show ∃ N dv drops,_=some dv∧Wk drops dv (Vo (C8 a b))
 unfold C8
 by_cases h:(Br a&&Br b)=true
 ·obtain ⟨h1,h2⟩:=Af.1 h
  rw [A8u h]
  exact ⟨0,_,[],by rw [Aa.Bb.ev,h1,h2]; rfl,Qg⟩
 ·have e:((!(Br a))||(!(Br b)))=true:=by
   cases h1:Br a<;>cases h2:Br b<;>simp_all
  rw [A8t h]
  exact ⟨0,_,[],by rw [Aa.Bb.ev,e]; rfl,Lp⟩
theorem Aa.Ic.known:Aa.Ic.Kn:=Aa.Ic.Ae (.cons Aa.of.Ic.known (.cons Aa.size.known .nil)) fun n _=>by
 show ∃ N dv drops,_=some dv∧Wk drops dv (Vo (Rz n))
 unfold Rz
 by_cases h:Br n=true
 ·rw [A8u h]
  exact ⟨0,_,[],by rw [Aa.Ic.ev,h]; rfl,Qg⟩
 ·have e:Br n=false:=by simpa using h
  rw [A8t h]
  exact ⟨0,_,[],by rw [Aa.Ic.ev,e]; rfl,Lp⟩
theorem K2 {r c:Int} {l:List Int} (h:Az r c l=true):Br r=true∧Br c=true:=by
 obtain ⟨h1,h2,_⟩:=Js.1 h
 exact ⟨Jc.2 h1,Jc.2 h2⟩
theorem Aa.Ea.known:Aa.Ea.Kn:=Aa.Ea.Ae (.cons Aa.Check.known (.cons Aa.of.Ea.known .nil)) fun r c l _=>by
 show ∃ N dv drops,_=some dv∧Wk drops dv (Vo (Gr r c l))
 unfold Gr
 by_cases h:Az r c l=true
 ·obtain ⟨h1,h2⟩:=K2 h
  rw [A8u h]
  exact ⟨0,_,[],by rw [Aa.Ea.ev,V4,h,h1,h2,A78 ⟨rfl,rfl⟩]; rfl,Qg⟩
 ·have e:Az r c l=false:=by simpa using h
  have ec:N6 r c l=1:=by unfold N6; rw [e]; rfl
  rw [A8t h]
  exact ⟨0,_,[],by rw [Aa.Ea.ev,V4,e,ec]; rfl,Lp⟩
theorem Aex {r c x y a b:Int} (hr:0≤r∧r≤6) (hc:0≤c∧c≤6) :
 ((((((((Bc x (0:Int))||(Bc y (0:Int)))||(Bc a (0:Int)))||(Bc b (0:Int)))||(Bc r x))||(Bc c y))||(Bc (Ad (r-x)) a))||(Bc (Ad (c-y)) b))=!(Qy r c x y a b):=by
 unfold Qy
 simp only [Aw]
 by_cases h:0≤x∧0≤y∧x≤r∧y≤c
 ·rw [Ar (x:=r-x) (by omega) (by omega),Ar (x:=c-y) (by omega) (by omega),A8n]
  simp only [Bool.or_eq_true,A8e,Bool.not_eq_true',A8q]
  omega
 ·have e:decide (0≤x∧0≤y∧0≤a∧0≤b∧x≤r∧y≤c∧a≤r-x∧b≤c-y)=false:=A8c (by omega)
  rw [e,A8n]
  simp only [Bool.or_eq_true,A8e,A9q,iff_true]
  omega
theorem Alp {r c x y a b:Int} {l:List Int} (h:Az r c l=true) (hp:Qy r c x y a b=true):Br a=true∧Br b=true:=by
 obtain ⟨h1,h2,_⟩:=Js.1 h
 have:=A8x hp
 exact ⟨Jc.2 (by omega),Jc.2 (by omega)⟩
theorem Aa.Part.known:Aa.Part.Kn:=Aa.Part.Ae (.cons Aa.Check.known (.cons Aa.of.Part.known .nil)) fun r c l x y a b _=>by
 show ∃ N dv drops,_=some dv∧Wk drops dv (Vo (Jf r c l x y a b))
 unfold Jf
 by_cases h:Az r c l=true
 ·obtain ⟨h1,h2,_⟩:=Js.1 h
  by_cases hp:Qy r c x y a b=true
  ·obtain ⟨s1,s2⟩:=Alp h hp
   rw [A8u h,A8u hp]
   exact ⟨0,_,[],by rw [Aa.Part.ev,V4,Aex h1 h2,h,hp,s1,s2]; rfl,Qg⟩
  ·have e:Qy r c x y a b=false:=by simpa using hp
   rw [A8u h,A8t hp]
   exact ⟨0,_,[],by rw [Aa.Part.ev,V4,Aex h1 h2,h,e]; rfl,Lp⟩
 ·have e:Az r c l=false:=by simpa using h
  have ec:N6 r c l=1:=by unfold N6; rw [e]; rfl
  rw [A8t h]
  exact ⟨0,_,[],by rw [Aa.Part.ev,V4,e,ec]; rfl,Lp⟩
theorem Sw (r c:Int) (l:List Int) (p q:Int) (m:List Int):((Aba r c l p q m) !=(0:Int))=!(Az r c l&&Az p q m):=by
 unfold Aba
 cases Az r c l&&Az p q m<;>rfl
theorem Ast {r c:Int} {l:List Int} {p q:Int} {m:List Int} (h:(Az r c l&&Az p q m)=false):Aba r c l p q m=1:=by
 unfold Aba; rw [h]; rfl
theorem Aa.Mul.known:Aa.Mul.Kn:=Aa.Mul.Ae (.cons Aa.of.Mul.known (.cons Aa.two.known .nil)) fun r c l p q m hp=>by
 show ∃ N dv drops,_=some dv∧Wk drops dv (Vo (Vs r c l p q m))
 unfold Vs
 have hp:(Ak l&&Ak m)=true:=hp
 by_cases h:(Az r c l&&Az p q m)=true
 ·obtain ⟨h1,h2⟩:=Af.1 h
  by_cases hc:c=p
  ·have e:(c !=p)=false:=by rw [hc]; simp
   rw [A8u h,A8u hc]
   exact ⟨0,_,[],by rw [Aa.Mul.ev,Sw,h,e,(K2 h1).1,(K2 h2).2,hp,A78 ⟨rfl,rfl,hc⟩]; rfl,Qg⟩
  ·have e:(c !=p)=true:=by simpa using hc
   rw [A8u h,A8t hc]
   exact ⟨0,_,[],by rw [Aa.Mul.ev,Sw,h,e]; rfl,Lp⟩
 ·have e:(Az r c l&&Az p q m)=false:=by simpa using h
  rw [A8t h]
  exact ⟨0,_,[],by rw [Aa.Mul.ev,Sw,e,Ast e]; rfl,Lp⟩
theorem Aa.Stack.known:Aa.Stack.Kn:=Aa.Stack.Ae (.cons Aa.of.Stack.known (.cons Aa.two.known .nil)) fun r c l p q m _=>by
 show ∃ N dv drops,_=some dv∧Wk drops dv (Vo (Ed r c l p q m))
 unfold Ed
 by_cases h:(Az r c l&&Az p q m)=true
 ·obtain ⟨h1,h2⟩:=Af.1 h
  obtain ⟨r1,c1,_⟩:=Js.1 h1
  obtain ⟨p1,q1,_⟩:=Js.1 h2
  have ew:Ad (r+p)=r+p:=Ar (by omega) (by omega)
  by_cases hc:c=q∧r+p≤6
  ·have e:((c !=q)||(Bc (6:Int) (r+p)))=false:=by rw [Aw,hc.1]; simp; omega
   rw [A8u h,A8u hc]
   exact ⟨0,_,[],by rw [Aa.Stack.ev,ew,Sw,h,e,(K2 h1).2,Jc.2 (show 0≤r+p∧r+p≤6 by omega),A78 ⟨rfl,rfl,hc.1.symm⟩]; rfl,Qg⟩
  ·have e:((c !=q)||(Bc (6:Int) (r+p)))=true:=by rw [Aw]; simp; omega
   rw [A8u h,A8t hc]
   exact ⟨0,_,[],by rw [Aa.Stack.ev,ew,Sw,h,e]; rfl,Lp⟩
 ·have e:(Az r c l&&Az p q m)=false:=by simpa using h
  rw [A8t h]
  exact ⟨0,_,[],by rw [Aa.Stack.ev,Sw,e,Ast e]; rfl,Lp⟩
open Go Go.Den Go.Cv Go.Proofs
set_option maxRecDepth 100000
namespace EqRef10
def A8.Hl.Bf:List (Nat × Entry):=[]
def A8.Hl.E:Env:=Bk (Be A8.Hl.Bf) (fun _=>false) (fun _=>none) (fun _=>none)
theorem A8.Hl.ev (N:Nat) (r c:Int) (l:List Int):B6 A8.Hl.E N f91 (As f91) [.agg [.int .i64 r,.int .i64 c,.ints .arg .u64 l]]=some (.bool (bif (bif (bif (bif (E8 0 r) then (E8 r 6) else false) then (E8 0 c) else false) then (E8 c 6) else false) then ((length l:Int)==(Ad (r*c))) else false)) :=
 Eq.trans (by kernel_rfl)
 (Ay (Sy (E8 0 r)) (Ay (O4 (E8 0 r)) (Ay (O4 (E8 0 r)) (Ay (Zb (E8 0 r)) (Ay (A3x (E8 0 r) (E8 r 6)) (Ay (Asx (E8 0 r) (E8 r 6)) (Ay (Asx (E8 0 r) (E8 r 6)) (Ay (A3y (E8 0 r) (E8 r 6)) (Ay (A6q (E8 0 r) (E8 r 6) (E8 0 c)) (Ay (A3z (E8 0 r) (E8 r 6) (E8 0 c)) (Ay (A3z (E8 0 r) (E8 r 6) (E8 0 c)) (Ay (A6r (E8 0 r) (E8 r 6) (E8 0 c)) (Ay (A03 (E8 0 r) (E8 r 6) (E8 0 c) (E8 c 6)) (Ay (Axk (E8 0 r) (E8 r 6) (E8 0 c) (E8 c 6)) (Ay (Axk (E8 0 r) (E8 r 6) (E8 0 c) (E8 c 6)) (Ay (A03 (E8 0 r) (E8 r 6) (E8 0 c) (E8 c 6)) (Ay (Axk (E8 0 r) (E8 r 6) (E8 0 c) (E8 c 6)) (Ay (A03 (E8 0 r) (E8 r 6) (E8 0 c) (E8 c 6)) (Ay (Axk (E8 0 r) (E8 r 6) (E8 0 c) (E8 c 6)) (Ay (A30 (E8 0 r) (E8 r 6) (E8 0 c) (E8 c 6)) (Ay (A30 (E8 0 r) (E8 r 6) (E8 0 c) (E8 c 6)) (Ay (A6s (E8 0 r) (E8 r 6) (E8 0 c) (E8 c 6)) rfl))))))))))))))))))))))
abbrev _root_.Go.Proofs.S1.A8.Hl.Kn:=A9 prog 91 A8.Hl.spec
theorem A8.Hl.Ae (hk:A3 prog A8.Hl.Bf) (h:Hyp A8.Hl.E f91 A8.Hl.ts A8.Hl.pre A8.Hl.out):A8.Hl.Kn :=
 Am (A5 hk _ _ _) func91 (by kernel_rfl) (by kernel_rfl) h
def A8.At.Bf:List (Nat × Entry):=[]
def A8.At.E:Env:=Bk (Be A8.At.Bf) (fun _=>false) (fun _=>none) (fun _=>none)
theorem A8.At.ev (N:Nat) (r c:Int) (l:List Int) (i k:Int):B6 A8.At.E N f80 (As f80) [.agg [.int .i64 r,.int .i64 c,.ints .arg .u64 l],.int .i64 i,.int .i64 k]=bif ((decide (0≤(Ad ((Ad (i*c))+k))))&&(decide ((Ad ((Ad (i*c))+k))<(length l:Int)))) then some (.int .u64 (getD l (toNat (Ad ((Ad (i*c))+k))) 0)) else none:=by kernel_rfl
abbrev _root_.Go.Proofs.S1.A8.At.Kn:=A9 prog 80 A8.At.spec
theorem A8.At.Ae (hk:A3 prog A8.At.Bf) (h:Hyp A8.At.E f80 A8.At.ts A8.At.pre A8.At.out):A8.At.Kn :=
 Am (A5 hk _ _ _) func80 (by kernel_rfl) (by kernel_rfl) h
def A8.Bb.Bf:List (Nat × Entry):=[]
def A8.Bb.E:Env:=Bk (Be A8.Bb.Bf) (fun _=>false) (fun _=>none) (fun _=>none)
theorem A8.Bb.ev (N:Nat) (a b:Int):B6 A8.Bb.E N f35 (As f35) [.int .i64 a,.int .i64 b]=bif (((decide ((0:Int)≤(Ad (a*b))))&&(decide ((Ad (a*b))≤(Ad (a*b)))))&&(decide ((Ad (a*b))≤Im))) then some (.agg [.int .i64 a,.int .i64 b,.ints (.own 10 37) .u64 (List.replicate (toNat (Ad (a*b))) 0)]) else none:=by kernel_rfl
abbrev _root_.Go.Proofs.S1.A8.Bb.Kn:=A9 prog 35 A8.Bb.spec
theorem A8.Bb.Ae (hk:A3 prog A8.Bb.Bf) (h:Hyp A8.Bb.E f35 A8.Bb.ts A8.Bb.pre A8.Bb.out):A8.Bb.Kn :=
 Am (A5 hk _ _ _) func35 (by kernel_rfl) (by kernel_rfl) h
def A8.Ic.hint:Nat→Option Bh
 | 0=>some { keep:=[0,2,3,4],objs:=[],boxes:=[2,3] }
 | _=>none
def A8.Row.Bf:List (Nat × Entry):=[]
def A8.Row.E:Env:=Bk (Be A8.Row.Bf) (fun _=>false) (fun _=>none) (fun _=>none)
theorem A8.Row.ev (N:Nat) (r c:Int) (l:List Int) (i:Int):B6 A8.Row.E N f107 (As f107) [.agg [.int .i64 r,.int .i64 c,.ints .arg .u64 l],.int .i64 i]=bif (((decide ((0:Int)≤(Ad (i*c))))&&(decide ((Ad (i*c))≤(Ad ((Ad (i+1))*c)))))&&((decide ((0:Int)≤(Ad ((Ad (i+1))*c))))&&(decide ((Ad ((Ad (i+1))*c))≤(length l:Int))))) then some (.ints .arg .u64 (List.drop (toNat (Ad (i*c))) (List.take (toNat (Ad ((Ad (i+1))*c))) l))) else none :=
 Eq.trans (by kernel_rfl)
 (C5 (A37 _ _ _ _) rfl rfl)
abbrev _root_.Go.Proofs.S1.A8.Row.Kn:=A9 prog 107 A8.Row.spec
theorem A8.Row.Ae (hk:A3 prog A8.Row.Bf) (h:Hyp A8.Row.E f107 A8.Row.ts A8.Row.pre A8.Row.out):A8.Row.Kn :=
 Am (A5 hk _ _ _) func107 (by kernel_rfl) (by kernel_rfl) h
def A8.Ss.hint:Nat→Option Bh
 | 0=>some { keep:=[1,3,7,8],objs:=[(0,7,100007,.ints 37 .u64 [])],boxes:=[3] }
 | _=>none
def A8.Ss.Bf:List (Nat × Entry):=[(80,A8.At.spec)]
def A8.Ss.E:Env:=Bk (Be A8.Ss.Bf) (fun _=>false) A8.Ss.hint (fun _=>none)
section
variable (N M:Nat) (r c:Int) (l:List Int) (k f p8:Int) (p7:List Int)
def A8.Ss.L0:Option DV:=Cd A8.Ss.E N f108 (As f108) [1,1,0,1,0] [] M ⟨Il 25 [(1,.int .i64 k),(3,.ptr 3 0 0),(7,.oref 100007),(8,.int .i64 p8)],[(3,false,.box [.int .i64 r,.int .i64 c,.ints .arg .u64 l]),(100007,false,.ints 37 .u64 p7)]⟩
theorem A8.Ss.A1:A8.Ss.L0 N (M+1) r c l k p8 p7=bif (Bc p8 r) then bif (Ha r c l p8 k) then bif (decide ((length p7)+1≤Im)) then A8.Ss.L0 N M r c l k (Ad (p8+1)) (p7++[(Cp c l p8 k)]) else none else none else some (.ints (.own 100007 37) .u64 p7):=by kernel_rfl
theorem A8.Ss.ev:B6 A8.Ss.E N f108 (As f108) [.agg [.int .i64 r,.int .i64 c,.ints .arg .u64 l],.int .i64 k,.int .i64 f] =
 A8.Ss.L0 N N r c l k f []:=by kernel_rfl
end
abbrev _root_.Go.Proofs.S1.A8.Ss.Kn:=A9 prog 108 A8.Ss.spec
theorem A8.Ss.Ae (hk:A3 prog A8.Ss.Bf) (h:Hyp A8.Ss.E f108 A8.Ss.ts A8.Ss.pre A8.Ss.out):A8.Ss.Kn :=
 Am (A5 hk _ _ _) func108 (by kernel_rfl) (by kernel_rfl) h
end EqRef10
open Go Go.Den Go.Cv Go.Proofs
open EqRef10
theorem A8.Hl.known:A8.Hl.Kn:=A8.Hl.Ae .nil fun r c l _=>by
 refine ⟨0,A8.Hl.out [.i r,.i c,.l l],[],?_,.bool⟩
 have e:(bif (bif (bif (bif (E8 (0:Int) r) then (E8 r (6:Int)) else false) then (E8 (0:Int) c) else false) then (E8 c (6:Int)) else false) then ((length l:Int)==(Ad (r*c))) else false)=Az r c l:=by
  have:=Akc r c l
  have h:(bif (bif (bif (bif (E8 (0:Int) r) then (E8 r (6:Int)) else false) then (E8 (0:Int) c) else false) then (E8 c (6:Int)) else false) then ((length l:Int)==(Ad (r*c))) else false)=!(((!(Br r))||(!(Br c)))||((length l:Int) !=(Ad (r*c)))):=by
   unfold Br bne
   rw [Fe,Fe,Fe,Fe]
   cases decide (0≤r)<;>cases decide (r≤6)<;>cases decide (0≤c)<;>cases decide (c≤6)<;>cases ((length l:Int)==(Ad (r*c)))<;>rfl
  rw [h,this,Bool.not_not]
 rw [A8.Hl.ev,e]; rfl
theorem A8.At.known:A8.At.Kn:=A8.At.Ae .nil fun r c l i k hp=>by
 obtain ⟨e,h1,h2⟩:=Oq (R:=r) (show Ha r c l i k=true from hp)
 refine ⟨0,A8.At.out [.i r,.i c,.l l,.i i,.i k],[],?_,.int⟩
 rw [A8.At.ev,e,A78 h1,A78 h2]
 rfl
theorem Aft {drops:List Nat} {i:Nat} {e:TypeId} {a b:Int} {l:List Int} (h:i∈drops):Wk drops (.agg [.int .i64 a,.int .i64 b,.ints (.own i e) .u64 l]) (.agg [.int .i64 a,.int .i64 b,.ints .fresh .u64 l]) :=
 Wk.Mk (.cons .int (.cons .int (.cons (.drop _ _ _ _ h) .nil)))
theorem A8.Bb.known:A8.Bb.Kn:=A8.Bb.Ae .nil fun a b hp=>by
 obtain ⟨ha,hb⟩:=Af.1 (show (Br a&&Br b)=true from hp)
 obtain ⟨A,rfl,hA⟩:=Gb ha
 obtain ⟨B,rfl,hB⟩:=Gb hb
 have hm:=K0 (a:=(A:Int)) (b:=(B:Int)) (by omega) (by omega) (by omega) (by omega)
 have e:((A:Int)*(B:Int)).toNat=A*B:=by rw [← A8s,A79]
 refine ⟨0,.agg [.int .i64 (A:Int),.int .i64 (B:Int),.ints (.own 10 tB) .u64 (C4 A B fun _ _=>0)],[10],?_,Aft (List.mem_singleton.2 rfl)⟩
 rw [A8.Bb.ev,Ar (by omega) (by omega),A78 hm.1,A78 (Int.le_refl _),A78 (show (A:Int)*(B:Int)≤(Im:Int) by unfold Im; omega),e,Vx]
 rfl
theorem Av6 {r c i k:Nat} (hk:k<c) {d d':Nat→Nat→Bool} {f:Nat→Nat→Int} {x:Int} (hx:x=f i k)
 (h:∀ a b,a<r→b<c→(d' a b=true↔d a b=true∨(a=i∧b=k))) :
 List.set (C4 r c fun a b=>if d a b=true then f a b else 0) (toNat ((i:Int)*(c:Int)+(k:Int))) x=C4 r c fun a b=>if d' a b=true then f a b else 0:=by
 have e:((i:Int)*(c:Int)+(k:Int)).toNat=i*c+k:=by rw [← A8s,← Int.natCast_add,A79]
 rw [e,Xg hk]
 refine F1 fun a b ha hb=>?_
 have h:=h a b ha hb
 by_cases hab:a=i∧b=k
 ·rw [A8u hab,A8u (h.2 (.inr hab)),hx,hab.1,hab.2]
 ·rw [A8t hab]
  by_cases hd:d a b=true
  ·rw [A8u hd,A8u (h.2 (.inl hd))]
  ·rw [A8t hd,A8t (fun k=>(h.1 k).elim hd hab)]
theorem Agp (N:Nat) {R C K f:Nat} {l:List Int} (r6:R≤6) (c6:C≤6) (hl:l.length=R*C) (hk:K<C):∀ (k i F:Nat),f+i+k=R→k<F →
 A8.Ss.L0 N F (R:Int) (C:Int) l (K:Int) ((f+i:Nat):Int) (B4 (C:Int) l (K:Int) (f:Int) i)=some (.ints (.own 100007 tB) .u64 (B4 (C:Int) l (K:Int) (f:Int) (R-f))):=by
 intro k
 induction k with
 | zero =>
   intro i F hi hF
   obtain ⟨F,rfl⟩:∃ G,F=G+1:=⟨F-1,by omega⟩
   rw [A8.Ss.A1,Aw,A8c (by omega),A8b,show R-f=i by omega]
 | succ k ih =>
   intro i F hi hF
   obtain ⟨F,rfl⟩:∃ G,F=G+1:=⟨F-1,by omega⟩
   have d:decide ((B4 (C:Int) l (K:Int) (f:Int) i).length+1≤Im)=true:=A78 (by rw [Ks]; unfold Im; omega)
   rw [A8.Ss.A1,Aw,A78 (by omega),A77,Jn r6 c6 hl (show f+i<R by omega) hk,A77,d,A77,Ar (by omega) (by omega)]
   have:=ih (i+1) F (by omega) (by omega)
   unfold B4 at this ⊢
   rw [List.range_succ,List.map_append] at this
   exact this
theorem A8.Ss.known:A8.Ss.Kn:=A8.Ss.Ae (.cons A8.At.known .nil) fun r c l k f hp=>by
 obtain ⟨h0,hf⟩:=Af.1 (show (G9 r c l k&&Cr (0≤f∧f≤r))=true from hp)
 have hf:=Ao.1 hf
 obtain ⟨hr,hi⟩:=Af.1 h0
 have hi:=Ao.1 hi
 obtain ⟨R,C,rfl,rfl,r6,c6,hl⟩:=Dl hr
 obtain ⟨K,rfl⟩:∃ j:Nat,k=j:=⟨k.toNat,by omega⟩
 obtain ⟨f,rfl⟩:∃ j:Nat,f=j:=⟨f.toNat,by omega⟩
 refine ⟨8,.ints (.own 100007 tB) .u64 (B4 (C:Int) l (K:Int) (f:Int) (R-f)),[100007],?_,?_⟩
 ·rw [A8.Ss.ev]
  exact Agp 8 r6 c6 hl (by omega) (R-f) 0 8 (by omega) (by omega)
 ·show Wk _ _ (DV.ints .fresh .u64 (B4 (C:Int) l (K:Int) (f:Int) (toNat ((R:Int)-(f:Int)))))
  rw [show toNat ((R:Int)-(f:Int))=R-f by omega]
  exact .drop _ _ _ _ (List.mem_singleton.2 rfl)
theorem A8.Row.known:A8.Row.Kn:=A8.Row.Ae .nil fun r c l i hp=>by
 obtain ⟨hr,hi⟩:=Af.1 (show Rk r c l i=true from hp)
 have hi:=Ao.1 hi
 obtain ⟨R,C,rfl,rfl,r6,c6,hl⟩:=Dl hr
 obtain ⟨I,rfl⟩:∃ k:Nat,i=k:=⟨i.toNat,by omega⟩
 have hm:=K0 (a:=(I:Int)) (b:=(C:Int)) (by omega) (by omega) (by omega) (by omega)
 have hm2:=K0 (a:=(I:Int)+1) (b:=(C:Int)) (by omega) (by omega) (by omega) (by omega)
 have hle:(I+1)*C≤R*C:=A8j C (by omega)
 have hle2:I*C≤(I+1)*C:=A8j C (by omega)
 have e1:(I:Int)*(C:Int)=((I*C:Nat):Int):=(A8s _ _).symm
 have e2:((I:Int)+1)*(C:Int)=(((I+1)*C:Nat):Int):=by rw [A8s]; rfl
 refine ⟨0,A8.Row.out [.i (R:Int),.i (C:Int),.l l,.i (I:Int)],[],?_,.Awq⟩
 rw [A8.Row.ev,Ar (x:=(I:Int)+1) (by omega) (by omega),Ar (x:=(I:Int)*(C:Int)) (by omega) (by omega),Ar (x:=((I:Int)+1)*(C:Int)) (by omega) (by omega)]
 have d1:decide ((0:Int)≤(I:Int)*(C:Int))=true:=A78 (by omega)
 have d2:decide ((I:Int)*(C:Int)≤((I:Int)+1)*(C:Int))=true:=A78 (by rw [e1,e2]; omega)
 have d3:decide ((0:Int)≤((I:Int)+1)*(C:Int))=true:=A78 (by omega)
 have d4:decide (((I:Int)+1)*(C:Int)≤(l.length:Int))=true:=A78 (by rw [e2]; omega)
 rw [d1,d2,d3,d4]
 rfl
open Go Go.Den Go.Cv Go.Proofs
open EqRef10
open Go Go.Den Go.Cv Go.Proofs
set_option maxRecDepth 100000
namespace EqHouse
def Aq.Dh.hint:Nat→Option Bh
 | 0=>some { keep:=[5,6,7],objs:=[],boxes:=[] }
 | _=>none
def Aq.Dh.Bf:List (Nat × Entry):=[(155,soft.Kind.spec)]
def Aq.Dh.E:Env:=Bk (Be Aq.Dh.Bf) (fun _=>false) Aq.Dh.hint (fun _=>none)
section
variable (N M:Nat) (x:List Int) (p7:Int)
def Aq.Dh.L0:Option DV:=Cd Aq.Dh.E N f252 (As f252) [1,0,1,0] [] M ⟨Il 15 [(5,.ints .arg .u64 x),(6,.int .i64 (length x:Int)),(7,.int .i64 p7)],[]⟩
theorem Aq.Dh.A1:Aq.Dh.L0 N (M+1) x p7=bif (Bc p7 (length x:Int)) then bif ((decide (0≤p7))&&(decide (p7<(length x:Int)))) then bif (Al (getD x (toNat p7) 0)) then bif ((A7 (getD x (toNat p7) 0)) !=(0:Int)) then some (.bool false) else Aq.Dh.L0 N M x (Ad (p7+1)) else none else none else some (.bool true):=by kernel_rfl
theorem Aq.Dh.ev:B6 Aq.Dh.E N f252 (As f252) [.ints .arg .u64 x] =
 Aq.Dh.L0 N N x 0:=by kernel_rfl
end
abbrev _root_.Go.Proofs.S1.Aq.Dh.Kn:=A9 prog 252 Aq.Dh.spec
theorem Aq.Dh.Ae (hk:A3 prog Aq.Dh.Bf) (h:Hyp Aq.Dh.E f252 Aq.Dh.ts Aq.Dh.pre Aq.Dh.out):Aq.Dh.Kn :=
 Am (A5 hk _ _ _) func252 (by kernel_rfl) (by kernel_rfl) h
def Aq.lead.hint:Nat→Option Bh
 | 0=>some { keep:=[5,6,7],objs:=[],boxes:=[] }
 | _=>none
def Aq.lead.Bf:List (Nat × Entry):=[(155,soft.Kind.spec)]
def Aq.lead.E:Env:=Bk (Be Aq.lead.Bf) (fun _=>false) Aq.lead.hint (fun _=>none)
section
variable (N M:Nat) (x:List Int) (p7:Int)
def Aq.lead.L0:Option DV:=Cd Aq.lead.E N f258 (As f258) [1,0,1,0] [] M ⟨Il 16 [(5,.ints .arg .u64 x),(6,.int .i64 (length x:Int)),(7,.int .i64 p7)],[]⟩
theorem Aq.lead.A1:Aq.lead.L0 N (M+1) x p7=bif (Bc p7 (length x:Int)) then bif ((decide (0≤p7))&&(decide (p7<(length x:Int)))) then bif (Al (getD x (toNat p7) 0)) then bif ((A7 (getD x (toNat p7) 0)) !=(0:Int)) then some (.int .u64 (getD x (toNat p7) 0)) else Aq.lead.L0 N M x (Ad (p7+1)) else none else none else some (.int .u64 0):=by kernel_rfl
theorem Aq.lead.ev:B6 Aq.lead.E N f258 (As f258) [.ints .arg .u64 x] =
 Aq.lead.L0 N N x 0:=by kernel_rfl
end
abbrev _root_.Go.Proofs.S1.Aq.lead.Kn:=A9 prog 258 Aq.lead.spec
theorem Aq.lead.Ae (hk:A3 prog Aq.lead.Bf) (h:Hyp Aq.lead.E f258 Aq.lead.ts Aq.lead.pre Aq.lead.out):Aq.lead.Kn :=
 Am (A5 hk _ _ _) func258 (by kernel_rfl) (by kernel_rfl) h
def Aq.Dj.hint:Nat→Option Bh
 | 0=>some { keep:=[1,5,8,9,10],objs:=[(0,5,100005,.ints 37 .u64 [])],boxes:=[] }
 | _=>none
def Aq.Dj.Bf:List (Nat × Entry):=[(88,Ac.B9.spec)]
def Aq.Dj.E:Env:=Bk (Be Aq.Dj.Bf) (fun _=>false) Aq.Dj.hint (fun _=>none)
section
variable (N M:Nat) (x:List Int) (k p10:Int) (p5:List Int)
def Aq.Dj.L0:Option DV:=Cd Aq.Dj.E N f256 (As f256) [1,1,0,1,0] [] M ⟨Il 22 [(1,.int .i64 k),(5,.oref 100005),(8,.ints .arg .u64 x),(9,.int .i64 (length x:Int)),(10,.int .i64 p10)],[(100005,false,.ints 37 .u64 p5)]⟩
theorem Aq.Dj.A1:Aq.Dj.L0 N (M+1) x k p10 p5=bif (Bc p10 (length x:Int)) then bif ((decide (0≤p10))&&(decide (p10<(length x:Int)))) then bif (Gt (getD x (toNat p10) 0) k) then bif (decide ((length p5)+1≤Im)) then Aq.Dj.L0 N M x k (Ad (p10+1)) (p5++[(Ch (getD x (toNat p10) 0) k)]) else none else none else none else some (.ints (.own 100005 37) .u64 p5):=by kernel_rfl
theorem Aq.Dj.ev:B6 Aq.Dj.E N f256 (As f256) [.ints .arg .u64 x,.int .i64 k] =
 Aq.Dj.L0 N N x k 0 []:=by kernel_rfl
end
abbrev _root_.Go.Proofs.S1.Aq.Dj.Kn:=A9 prog 256 Aq.Dj.spec
theorem Aq.Dj.Ae (hk:A3 prog Aq.Dj.Bf) (h:Hyp Aq.Dj.E f256 Aq.Dj.ts Aq.Dj.pre Aq.Dj.out):Aq.Dj.Kn :=
 Am (A5 hk _ _ _) func256 (by kernel_rfl) (by kernel_rfl) h
def Aq.F7.Bf:List (Nat × Entry):=[]
def Aq.F7.E:Env:=Bk (Be Aq.F7.Bf) (fun _=>false) (fun _=>none) (fun _=>none)
theorem Aq.F7.ev (N:Nat) (i:Int):B6 Aq.F7.E N f254 (As f254) [.int .i64 i]=some (.int .u64 0):=by kernel_rfl
abbrev _root_.Go.Proofs.S1.Aq.F7.Kn:=A9 prog 254 Aq.F7.spec
theorem Aq.F7.Ae (hk:A3 prog Aq.F7.Bf) (h:Hyp Aq.F7.E f254 Aq.F7.ts Aq.F7.pre Aq.F7.out):Aq.F7.Kn :=
 Am (A5 hk _ _ _) func254 (by kernel_rfl) (by kernel_rfl) h
def Aq.F6.Bf:List (Nat × Entry):=[(158,Ac.Div.spec)]
def Aq.F6.E:Env:=Bk (Be Aq.F6.Bf) (fun _=>false) (fun _=>none) (fun _=>none)
theorem Aq.F6.ev (N:Nat) (i:Int) (y:List Int) (d:Int):B6 Aq.F6.E N f259 (As f259) [.int .i64 i,.cellp [.ints .arg .u64 y],.cellp [.int .u64 d]]=bif ((decide (0≤i))&&(decide (i<(length y:Int)))) then bif (Al (getD y (toNat i) 0)&&Al d) then some (.int .u64 (Hr (getD y (toNat i) 0) d)) else none else none :=
 Eq.trans (by kernel_rfl)
 (C5 (Rg _ _) (C5 (Cn _) rfl rfl) rfl)
abbrev _root_.Go.Proofs.S1.Aq.F6.Kn:=A9 prog 259 Aq.F6.spec
theorem Aq.F6.Ae (hk:A3 prog Aq.F6.Bf) (h:Hyp Aq.F6.E f259 Aq.F6.ts Aq.F6.pre Aq.F6.out):Aq.F6.Kn :=
 Am (A5 hk _ _ _) func259 (by kernel_rfl) (by kernel_rfl) h
def Aq.row.Zero.hint:Nat→Option Bh
 | 0=>some { keep:=[0,1,5,6],objs:=[(0,5,100005,.ints 37 .u64 [])],boxes:=[] }
 | _=>none
def Aq.row.Zero.Bf:List (Nat × Entry):=[(254,Aq.F7.spec)]
def Aq.row.Zero.E:Env:=Bk (Be Aq.row.Zero.Bf) (fun _=>false) Aq.row.Zero.hint (fun _=>none)
section
variable (N M:Nat) (n p6:Int) (p5:List Int)
def Aq.row.Zero.L0:Option DV:=Cd Aq.row.Zero.E N f253 (As f253) [1,1,0,1,0] [] M ⟨Il 23 [(0,.int .i64 n),(1,.fn 254 [] []),(5,.oref 100005),(6,.int .i64 p6)],[(100005,false,.ints 37 .u64 p5)]⟩
theorem Aq.row.Zero.A1:Aq.row.Zero.L0 N (M+1) n p6 p5=bif (Bc p6 n) then bif (decide ((length p5)+1≤Im)) then Aq.row.Zero.L0 N M n (Ad (p6+1)) (p5++[(0:Int)]) else none else bif (((decide ((0:Int)≤n))&&(decide (n≤n)))&&((decide ((0:Int)≤n))&&(decide (n≤(length p5:Int))))) then some (.ints .fresh .u64 (List.take (toNat (n-0)) (List.drop 0 p5))) else none :=
 Eq.trans (by kernel_rfl)
 (Fg rfl (C5 (A01 _ _ _) rfl rfl))
theorem Aq.row.Zero.ev:B6 Aq.row.Zero.E N f253 (As f253) [.int .i64 n,.fn 254 [] []] =
 Aq.row.Zero.L0 N N n 1 [(4607182418800017408:Int)]:=by kernel_rfl
end
abbrev _root_.Go.Proofs.S1.Aq.row.Zero.Kn:=A9 prog 253 Aq.row.Zero.spec
theorem Aq.row.Zero.Ae (hk:A3 prog Aq.row.Zero.Bf) (h:Hyp Aq.row.Zero.E f253 Aq.row.Zero.ts Aq.row.Zero.pre Aq.row.Zero.out):Aq.row.Zero.Kn :=
 Am (A5 hk _ _ _) func253 (by kernel_rfl) (by kernel_rfl) h
def Aq.row.Div.hint:Nat→Option Bh
 | 0=>some { keep:=[0,1,5,6],objs:=[(0,5,100005,.ints 37 .u64 [])],boxes:=[] }
 | _=>none
def Aq.row.Div.Bf:List (Nat × Entry):=[(259,Aq.F6.spec)]
def Aq.row.Div.E:Env:=Bk (Be Aq.row.Div.Bf) (fun _=>false) Aq.row.Div.hint (fun _=>none)
section
variable (N M:Nat) (n:Int) (y:List Int) (d p6:Int) (p5:List Int)
def Aq.row.Div.L0:Option DV:=Cd Aq.row.Div.E N f253 (As f253) [1,1,0,1,0] [] M ⟨Il 23 [(0,.int .i64 n),(1,.fn 259 [] [.cellp [.ints .arg .u64 y],.cellp [.int .u64 d]]),(5,.oref 100005),(6,.int .i64 p6)],[(100005,false,.ints 37 .u64 p5)]⟩
theorem Aq.row.Div.A1:Aq.row.Div.L0 N (M+1) n y d p6 p5=bif (Bc p6 n) then bif ((Cr (0≤p6∧p6<length y)&&Ak y)&&Al d) then bif (decide ((length p5)+1≤Im)) then Aq.row.Div.L0 N M n y d (Ad (p6+1)) (p5++[(Hr (getD y (toNat p6) 0) d)]) else none else none else bif (((decide ((0:Int)≤n))&&(decide (n≤n)))&&((decide ((0:Int)≤n))&&(decide (n≤(length p5:Int))))) then some (.ints .fresh .u64 (List.take (toNat (n-0)) (List.drop 0 p5))) else none :=
 Eq.trans (by kernel_rfl)
 (Fg rfl (C5 (A01 _ _ _) rfl rfl))
theorem Aq.row.Div.ev:B6 Aq.row.Div.E N f253 (As f253) [.int .i64 n,.fn 259 [] [.cellp [.ints .arg .u64 y],.cellp [.int .u64 d]]] =
 Aq.row.Div.L0 N N n y d 1 [(4607182418800017408:Int)]:=by kernel_rfl
end
abbrev _root_.Go.Proofs.S1.Aq.row.Div.Kn:=A9 prog 253 Aq.row.Div.spec
theorem Aq.row.Div.Ae (hk:A3 prog Aq.row.Div.Bf) (h:Hyp Aq.row.Div.E f253 Aq.row.Div.ts Aq.row.Div.pre Aq.row.Div.out):Aq.row.Div.Kn :=
 Am (A5 hk _ _ _) func253 (by kernel_rfl) (by kernel_rfl) h
def Aq.Lk.Bf:List (Nat × Entry):=[(255,compare.Mo.spec),(258,Aq.lead.spec),(252,Aq.Dh.spec),(253,(A2p [.i .i64,.fn 254 []] Aq.row.Zero.spec Aq.row.Div.spec)),(256,Aq.Dj.spec),(148,soft.Finite.spec),(233,soft.Gw.spec),(213,soft.Sign.spec),(89,Ac.C6.spec),(158,Ac.Div.spec),(150,Ac.Finite.spec),(257,Ac.Norm.spec),(88,Ac.B9.spec),(156,Ac.Sub.spec)]
def Aq.Lk.E:Env:=Bk (Be Aq.Lk.Bf) (fun _=>false) (fun _=>none) (fun _=>none)
theorem Aq.Lk.ev (N:Nat) (x:List Int):B6 Aq.Lk.E N f245 (As f245) [.ints .arg .u64 x]=bif (((length x:Int)==(0:Int))||(Bc 64 (length x:Int))) then some (.tup [.nil,.int .u64 0,.int .u64 0,.int .i64 3]) else bif (Dp x) then bif (!(Ff x)) then some (.tup [.nil,.int .u64 0,.int .u64 0,.int .i64 4]) else bif (decide ((1:Int)≤(length x:Int))) then bif (Dp (List.drop 1 x)) then bif (Gc (List.drop 1 x)) then bif (Cr (1≤(length x:Int)∧(length x:Int)≤64)) then bif (decide ((0:Int)<(length x:Int))) then some (.tup [.ints .fresh .u64 (Iw (toNat (length x:Int)) (fun _=>0)),.int .u64 0,.int .u64 (getD x 0 0),.int .i64 0]) else none else none else bif (Dp x) then bif (Al (Bg x)) then bif (Dp x&&Cr (length x≤1000∧-2300≤(Ad (0-(Bq (Bg x))))∧(Ad (0-(Bq (Bg x))))≤2300)) then bif (Dp (Bn x (Ad (0-(Bq (Bg x)))))&&Cr (length (Bn x (Ad (0-(Bq (Bg x)))))≤64)) then bif (Dp x) then bif (Al (P7 x)) then bif (!(Em (P7 x))) then bif (Al (Dr (Bn x (Ad (0-(Bq (Bg x))))))) then bif (Gt (Eh (Dr (Bn x (Ad (0-(Bq (Bg x))))))) (Bq (Bg x))) then bif (Al (Ch (Eh (Dr (Bn x (Ad (0-(Bq (Bg x))))))) (Bq (Bg x)))) then bif (!(Dk (Ch (Eh (Dr (Bn x (Ad (0-(Bq (Bg x))))))) (Bq (Bg x))))) then some (.tup [.nil,.int .u64 0,.int .u64 0,.int .i64 2]) else bif (decide ((0:Int)<(length (Bn x (Ad (0-(Bq (Bg x))))):Int))) then bif (Al (getD (Bn x (Ad (0-(Bq (Bg x))))) 0 0)&&Al (Eh (Dr (Bn x (Ad (0-(Bq (Bg x)))))))) then bif ((Cr (1≤(length (Bn x (Ad (0-(Bq (Bg x))))):Int)∧(length (Bn x (Ad (0-(Bq (Bg x))))):Int)≤64∧(length (Bn x (Ad (0-(Bq (Bg x))))):Int)=length (Bn x (Ad (0-(Bq (Bg x))))))&&Ak (Bn x (Ad (0-(Bq (Bg x))))))&&Al (Eu (getD (Bn x (Ad (0-(Bq (Bg x))))) 0 0) (Eh (Dr (Bn x (Ad (0-(Bq (Bg x))))))))) then bif (decide ((0:Int)<(length (Bn x (Ad (0-(Bq (Bg x))))):Int))) then bif (Al (Eh (Dr (Bn x (Ad (0-(Bq (Bg x)))))))&&Al (getD (Bn x (Ad (0-(Bq (Bg x))))) 0 0)) then bif (Al (Eu (Eh (Dr (Bn x (Ad (0-(Bq (Bg x))))))) (getD (Bn x (Ad (0-(Bq (Bg x))))) 0 0))&&Al (Eh (Dr (Bn x (Ad (0-(Bq (Bg x)))))))) then some (.tup [.ints .fresh .u64 (Iw (toNat (length (Bn x (Ad (0-(Bq (Bg x))))):Int)) (fun j=>Hr (getD (Bn x (Ad (0-(Bq (Bg x))))) j 0) (Eu (getD (Bn x (Ad (0-(Bq (Bg x))))) 0 0) (Eh (Dr (Bn x (Ad (0-(Bq (Bg x)))))))))),.int .u64 (Hr (Eu (Eh (Dr (Bn x (Ad (0-(Bq (Bg x))))))) (getD (Bn x (Ad (0-(Bq (Bg x))))) 0 0)) (Eh (Dr (Bn x (Ad (0-(Bq (Bg x)))))))),.int .u64 (Ch (Eh (Dr (Bn x (Ad (0-(Bq (Bg x))))))) (Bq (Bg x))),.int .i64 0]) else none else none else none else none else none else none else none else none else none else bif (Gt (Dr (Bn x (Ad (0-(Bq (Bg x)))))) (Bq (Bg x))) then bif (Al (Ch (Dr (Bn x (Ad (0-(Bq (Bg x)))))) (Bq (Bg x)))) then bif (!(Dk (Ch (Dr (Bn x (Ad (0-(Bq (Bg x)))))) (Bq (Bg x))))) then some (.tup [.nil,.int .u64 0,.int .u64 0,.int .i64 2]) else bif (decide ((0:Int)<(length (Bn x (Ad (0-(Bq (Bg x))))):Int))) then bif (Al (getD (Bn x (Ad (0-(Bq (Bg x))))) 0 0)&&Al (Dr (Bn x (Ad (0-(Bq (Bg x))))))) then bif ((Cr (1≤(length (Bn x (Ad (0-(Bq (Bg x))))):Int)∧(length (Bn x (Ad (0-(Bq (Bg x))))):Int)≤64∧(length (Bn x (Ad (0-(Bq (Bg x))))):Int)=length (Bn x (Ad (0-(Bq (Bg x))))))&&Ak (Bn x (Ad (0-(Bq (Bg x))))))&&Al (Eu (getD (Bn x (Ad (0-(Bq (Bg x))))) 0 0) (Dr (Bn x (Ad (0-(Bq (Bg x)))))))) then bif (decide ((0:Int)<(length (Bn x (Ad (0-(Bq (Bg x))))):Int))) then bif (Al (Dr (Bn x (Ad (0-(Bq (Bg x))))))&&Al (getD (Bn x (Ad (0-(Bq (Bg x))))) 0 0)) then bif (Al (Eu (Dr (Bn x (Ad (0-(Bq (Bg x)))))) (getD (Bn x (Ad (0-(Bq (Bg x))))) 0 0))&&Al (Dr (Bn x (Ad (0-(Bq (Bg x))))))) then some (.tup [.ints .fresh .u64 (Iw (toNat (length (Bn x (Ad (0-(Bq (Bg x))))):Int)) (fun j=>Hr (getD (Bn x (Ad (0-(Bq (Bg x))))) j 0) (Eu (getD (Bn x (Ad (0-(Bq (Bg x))))) 0 0) (Dr (Bn x (Ad (0-(Bq (Bg x))))))))),.int .u64 (Hr (Eu (Dr (Bn x (Ad (0-(Bq (Bg x)))))) (getD (Bn x (Ad (0-(Bq (Bg x))))) 0 0)) (Dr (Bn x (Ad (0-(Bq (Bg x))))))),.int .u64 (Ch (Dr (Bn x (Ad (0-(Bq (Bg x)))))) (Bq (Bg x))),.int .i64 0]) else none else none else none else none else none else none else none else none else none else none else none else none else none else none else none else none else none :=
 Eq.trans (by kernel_rfl)
 (Ay (Za ((length x:Int)==(0:Int))) (Ay (Vh ((length x:Int)==(0:Int))) (Ay (Vh ((length x:Int)==(0:Int))) (Ay (tt6 ((length x:Int)==(0:Int))) (C5 (tt5 _ _) rfl (Fg (Fg rfl (C5 (A6m _) (Fg (Fg (C5 (Cn _) (C5 (Cn _) rfl rfl) rfl) rfl) rfl) rfl)) rfl))))))
abbrev _root_.Go.Proofs.S1.Aq.Lk.Kn:=A9 prog 245 Aq.Lk.spec
theorem Aq.Lk.Ae (hk:A3 prog Aq.Lk.Bf) (h:Hyp Aq.Lk.E f245 Aq.Lk.ts Aq.Lk.pre Aq.Lk.out):Aq.Lk.Kn :=
 Am (A5 hk _ _ _) func245 (by kernel_rfl) (by kernel_rfl) h
def Aq.Apply.hint:Nat→Option Bh
 | 0=>some { keep:=[1,3,4,5,10,13,14],objs:=[(14,2,114002,.ints 37 .u64 [])],boxes:=[5,10,13] }
 | 2=>some { keep:=[1,3,4,5,10,13,14,18,90,91,92],objs:=[(14,2,114002,.ints 37 .u64 [])],boxes:=[5,10,13] }
 | _=>none
def Aq.Apply.Bf:List (Nat × Entry):=[(160,Aa.Check.spec),(191,Aa.D2.spec),(189,Ac.Hn.spec),(157,Ac.Mul.spec),(156,Ac.Sub.spec)]
def Aq.Apply.E:Env:=Bk (Be Aq.Apply.Bf) (fun _=>false) Aq.Apply.hint (fun _=>none)
section
variable (N M0 M:Nat) (r c:Int) (l:List Int) (i k:Int) (v:List Int) (t p92:Int) (p2:List Int) (p14_1 p18:Int) (p90:List Int) (p91 p14:Int) (p2_1:List Int)
def Aq.Apply.L0:Option DV:=Cd Aq.Apply.E N f219 (As f219) [1,1,1,1,0,1,0] [] M ⟨Il 118 [(1,.int .i64 i),(3,.ints .arg .u64 v),(4,.int .u64 t),(5,.ptr 5 0 0),(10,.ptr 10 0 0),(13,.ptr 13 0 0),(14,.int .i64 p14)],[(5,false,.box [.int .i64 r,.int .i64 c,.ints .arg .u64 l]),(10,false,.box [.int .i64 0,.int .i64 0,.nil]),(13,false,.box [.int .i64 r,.int .i64 c,.oref 114002]),(114002,false,.ints 37 .u64 p2_1)]⟩
def Aq.Apply.L1:Option DV:=Cd Aq.Apply.E N f219 (As f219) [1,1,1,1,0,1,0,0,1,0,0,1,1,1,1,0] [M0] M ⟨Il 118 [(1,.int .i64 i),(3,.ints .arg .u64 v),(4,.int .u64 t),(5,.ptr 5 0 0),(10,.ptr 10 0 0),(13,.ptr 13 0 0),(14,.int .i64 p14_1),(18,.int .u64 p18),(90,.ints .fresh .u64 p90),(91,.int .i64 p91),(92,.int .i64 p92)],[(5,false,.box [.int .i64 r,.int .i64 c,.ints .arg .u64 l]),(10,false,.box [.int .i64 0,.int .i64 0,.nil]),(13,false,.box [.int .i64 r,.int .i64 c,.oref 114002]),(114002,false,.ints 37 .u64 p2)]⟩
theorem Aq.Apply.A1:Aq.Apply.L0 N (M+1) r c l i v t p14 p2_1=bif (Bc p14 c) then bif (G9 r c l p14&&Cr (0≤i∧i≤r)) then bif (((decide ((0:Int)≤(length v:Int)))&&(decide ((length v:Int)≤(length v:Int))))&&((decide ((0:Int)≤(length v:Int)))&&(decide ((length v:Int)≤(length (B4 c l p14 i (toNat (r-i))):Int))))) then bif ((Z4 v (List.take (toNat (length v:Int)) (B4 c l p14 i (toNat (r-i))))&&Ak v)&&Ak (List.take (toNat (length v:Int)) (B4 c l p14 i (toNat (r-i))))) then bif (Al t&&Al (M5 v (List.take (toNat (length v:Int)) (B4 c l p14 i (toNat (r-i)))))) then Aq.Apply.L1 N M N r c l i v t 0 p2_1 p14 (D6 t (M5 v (List.take (toNat (length v:Int)) (B4 c l p14 i (toNat (r-i)))))) (List.take (toNat (length v:Int)) (B4 c l p14 i (toNat (r-i)))) (length (List.take (toNat (length v:Int)) (B4 c l p14 i (toNat (r-i)))):Int) else none else none else none else none else some (.tup [.agg [.int .i64 r,.int .i64 c,.ints (.own 114002 37) .u64 p2_1],.int .i64 0]) :=
 Eq.trans (by kernel_rfl)
 (Fg (Fg (C5 (A01 _ _ _) rfl rfl) rfl) rfl)
theorem Aq.Apply.Cy:Aq.Apply.L1 N M0 (M+1) r c l i v t p92 p2 p14_1 p18 p90 p91=bif (Bc p92 p91) then bif ((decide (0≤p92))&&(decide (p92<(length p90:Int)))) then bif ((decide (0≤p92))&&(decide (p92<(length v:Int)))) then bif (Al p18&&Al (getD v (toNat p92) 0)) then bif (Al (getD p90 (toNat p92) 0)&&Al (D6 p18 (getD v (toNat p92) 0))) then bif ((decide (0≤(Ad ((Ad ((Ad (i+p92))*c))+p14_1))))&&(decide ((Ad ((Ad ((Ad (i+p92))*c))+p14_1))<(length p2:Int)))) then bif (decide ((toNat (Ad ((Ad ((Ad (i+p92))*c))+p14_1)))<(length p2))) then Aq.Apply.L1 N M0 M r c l i v t (Ad (p92+1)) (List.set p2 (toNat (Ad ((Ad ((Ad (i+p92))*c))+p14_1))) (Eu (getD p90 (toNat p92) 0) (D6 p18 (getD v (toNat p92) 0)))) p14_1 p18 p90 p91 else none else none else none else none else none else none else Aq.Apply.L0 N M0 r c l i v t (Ad (p14_1+1)) p2 :=
 Eq.trans (by kernel_rfl)
 (Fg (Fg (C5 (Rg _ _) (C5 (Cn _) (C5 (Cn _) (C5 (Rg _ _) (C5 (Cn _) rfl rfl) rfl) rfl) rfl) rfl) rfl) rfl)
theorem Aq.Apply.ev:B6 Aq.Apply.E N f219 (As f219) [.agg [.int .i64 r,.int .i64 c,.ints .arg .u64 l],.int .i64 i,.int .i64 k,.ints .arg .u64 v,.int .u64 t]=bif ((N6 r c l) !=(0:Int)) then some (.tup [.agg [.int .i64 0,.int .i64 0,.nil],.int .i64 (N6 r c l)]) else bif (((((Bc i 0)||(Bc r (length v:Int)))||(Bc (Ad (r-(length v:Int))) i))||(Bc k 0))||(Bc c k)) then some (.tup [.agg [.int .i64 0,.int .i64 0,.nil],.int .i64 3]) else bif (decide (0+(length l)≤Im)) then Aq.Apply.L0 N N r c l i v t k ([]++l) else none :=
 Eq.trans (by kernel_rfl)
 (Fg rfl (Ay (Za (Bc i 0)) (Ay (Vh (Bc i 0)) (Ay (Za (Bc i 0)) (Ay (Vh (Bc i 0)) (Ay (tt8 (Bc i 0)) (Ay (tt6 (Bc i 0)) (Ay (Akv (Bc i 0) (Bc r (length v:Int))) (Ay (Akv (Bc i 0) (Bc r (length v:Int))) (Ay (Akw (Bc i 0) (Bc r (length v:Int))) (Ay (Akv (Bc i 0) (Bc r (length v:Int))) (Ay (Akw (Bc i 0) (Bc r (length v:Int))) (Ay (A00 (Bc i 0) (Bc r (length v:Int))) (Ay (A00 (Bc i 0) (Bc r (length v:Int))) (Ay (Axl (Bc i 0) (Bc r (length v:Int))) (Ay (Axm (Bc i 0) (Bc r (length v:Int)) (Bc (Ad (r-(length v:Int))) i)) (Ay (Asy (Bc i 0) (Bc r (length v:Int)) (Bc (Ad (r-(length v:Int))) i)) (Ay (A04 (Bc i 0) (Bc r (length v:Int)) (Bc (Ad (r-(length v:Int))) i)) (Ay (Axn (Bc i 0) (Bc r (length v:Int)) (Bc (Ad (r-(length v:Int))) i) (Bc k 0)) (Ay (Axn (Bc i 0) (Bc r (length v:Int)) (Bc (Ad (r-(length v:Int))) i) (Bc k 0)) (Ay (A31 (Bc i 0) (Bc r (length v:Int)) (Bc (Ad (r-(length v:Int))) i) (Bc k 0)) (Ay (A32 (Bc i 0) (Bc r (length v:Int)) (Bc (Ad (r-(length v:Int))) i) (Bc k 0)) (Ay (A33 (Bc i 0) (Bc r (length v:Int)) (Bc (Ad (r-(length v:Int))) i) (Bc k 0)) (C5 (A6l _ _ _ _ _) rfl (C5 (Cn _) rfl rfl)))))))))))))))))))))))))
end
abbrev _root_.Go.Proofs.S1.Aq.Apply.Kn:=A9 prog 219 Aq.Apply.spec
theorem Aq.Apply.Ae (hk:A3 prog Aq.Apply.Bf) (h:Hyp Aq.Apply.E f219 Aq.Apply.ts Aq.Apply.pre Aq.Apply.out):Aq.Apply.Kn :=
 Am (A5 hk _ _ _) func219 (by kernel_rfl) (by kernel_rfl) h
end EqHouse
open Go Go.Den Go.Cv Go.Proofs
open EqHouse
theorem Aof (x:Int):((A7 x) !=(0:Int))=!(decide (A7 x=0)):=by
 rw [A8n]; simp
theorem Agv (N:Nat) {x:List Int} (hx:Dp x=true):∀ (k i F:Nat),i+k=x.length→k<F→Aq.Dh.L0 N F x (i:Int)=some (.bool (Gc (x.drop i))):=by
 obtain ⟨hl,hu⟩:=Oh hx
 intro k
 induction k with
 | zero =>
   intro i F hi hF
   obtain ⟨F,rfl⟩:∃ G,F=G+1:=⟨F-1,by omega⟩
   rw [Aq.Dh.A1,Aw,A8c (by omega),A8b,A8l (by omega)]; rfl
 | succ k ih =>
   intro i F hi hF
   obtain ⟨F,rfl⟩:∃ G,F=G+1:=⟨F-1,by omega⟩
   rw [Aq.Dh.A1,Aw,A78 (show (i:Int)<(x.length:Int) by omega),A77,A78 (show (0:Int)≤(i:Int) by omega),A8d,A77,A79,hu i (by omega),A77,Aof,Le (by omega)]
   unfold Gc
   rw [List.all_cons]
   cases decide (A7 (x.getD i 0)=0) with
   | false=>rfl
   | true =>
     rw [A86,A8b,A9k,Ar (by omega) (by omega)]
     exact ih (i+1) F (by omega) (by omega)
theorem Aq.Dh.known:Aq.Dh.Kn:=Aq.Dh.Ae (.cons soft.Kind.known .nil) fun x hp=>by
 refine ⟨x.length+1,Aq.Dh.out [.l x],[],?_,.bool⟩
 rw [Aq.Dh.ev]
 exact Agv (x.length+1) hp x.length 0 (x.length+1) (by omega) (by omega)
theorem Aq1 (N:Nat) {x:List Int} (hx:Dp x=true):∀ (k i F:Nat),i+k=x.length→k<F→Aq.lead.L0 N F x (i:Int)=some (.int .u64 (P7 (x.drop i))):=by
 obtain ⟨hl,hu⟩:=Oh hx
 intro k
 induction k with
 | zero =>
   intro i F hi hF
   obtain ⟨F,rfl⟩:∃ G,F=G+1:=⟨F-1,by omega⟩
   rw [Aq.lead.A1,Aw,A8c (by omega),A8b,A8l (by omega)]; rfl
 | succ k ih =>
   intro i F hi hF
   obtain ⟨F,rfl⟩:∃ G,F=G+1:=⟨F-1,by omega⟩
   rw [Aq.lead.A1,Aw,A78 (show (i:Int)<(x.length:Int) by omega),A77,A78 (show (0:Int)≤(i:Int) by omega),A8d,A77,A79,hu i (by omega),A77,Aof,Le (by omega),P7]
   by_cases h:A7 (x.getD i 0)=0
   ·rw [A78 h,A8u h,A86,A8b,Ar (by omega) (by omega)]
    exact ih (i+1) F (by omega) (by omega)
   ·rw [A8c h,A8t h]; rfl
theorem Aq.lead.known:Aq.lead.Kn:=Aq.lead.Ae (.cons soft.Kind.known .nil) fun x hp=>by
 refine ⟨x.length+1,Aq.lead.out [.l x],[],?_,.int⟩
 rw [Aq.lead.ev]
 exact Aq1 (x.length+1) hp x.length 0 (x.length+1) (by omega) (by omega)
theorem Akz {x:List Int} {i:Nat} (h:i<x.length) (f:Int→Int):(x.take (i+1)).map f=(x.take i).map f++[f (x.getD i 0)]:=by
 rw [List.take_succ_eq_append_getElem h,List.map_append,A8h,A8o h]; rfl
theorem Agg (N:Nat) {x:List Int} {e:Int} (hx:Dp x=true) (hl:x.length≤1000) (he:-2300≤e∧e≤2300):∀ (k i F:Nat),i+k=x.length→k<F →
 Aq.Dj.L0 N F x e (i:Int) ((x.take i).map fun b=>Ch b e)=some (.ints (.own 100005 tB) .u64 (Bn x e)):=by
 obtain ⟨_,hu⟩:=Oh hx
 intro k
 induction k with
 | zero =>
   intro i F hi hF
   obtain ⟨F,rfl⟩:∃ G,F=G+1:=⟨F-1,by omega⟩
   rw [Aq.Dj.A1,Aw,A8c (by omega),A8b,List.take_of_length_le (by omega)]; rfl
 | succ k ih =>
   intro i F hi hF
   obtain ⟨F,rfl⟩:∃ G,F=G+1:=⟨F-1,by omega⟩
   rw [Aq.Dj.A1,Aw,A78 (show (i:Int)<(x.length:Int) by omega),A77,A78 (show (0:Int)≤(i:Int) by omega),A8d,A77,A79,
    show Gt (getD x i 0) e=true from Af.2 ⟨hu i (by omega),Ao.2 he⟩,A77,A78 (by rw [A9d,List.length_take]; unfold Im; omega),A77,Ar (by omega) (by omega)]
   have:=ih (i+1) F (by omega) (by omega)
   rw [Akz (by omega)] at this
   exact this
theorem Aq.Dj.known:Aq.Dj.Kn:=Aq.Dj.Ae (.cons Ac.B9.known .nil) fun x k hp=>by
 obtain ⟨h1,h2⟩:=Af.1 hp
 have h2:=Ao.1 h2
 refine ⟨x.length+1,.ints (.own 100005 tB) .u64 (Bn x k),[100005],?_,.drop _ _ _ _ (List.mem_singleton.2 rfl)⟩
 rw [Aq.Dj.ev]
 exact Agg (x.length+1) h1 h2.1 h2.2 x.length 0 (x.length+1) (by omega) (by omega)
theorem Aq.F7.known:Aq.F7.Kn:=Aq.F7.Ae .nil fun i _=>⟨0,Aq.F7.out [.i i],[],by rw [Aq.F7.ev]; rfl,.int⟩
theorem Aq.F6.known:Aq.F6.Kn:=Aq.F6.Ae (.cons Ac.Div.known .nil) fun i y d hp=>by
 obtain ⟨h1,h2⟩:=Af.1 (show ((Cr (0≤i∧i<length y)&&Ak y)&&Al d)=true from hp)
 obtain ⟨h3,h4⟩:=Af.1 h1
 have h3:=Ao.1 h3
 refine ⟨0,Aq.F6.out [.i i,.l y,.i d],[],?_,.int⟩
 rw [Aq.F6.ev,A78 h3.1,A78 h3.2,Nu h4,h2]; rfl
theorem Uc (n i:Nat) (f:Nat→Int) (h:i+1=n):Iw n f=At5::(List.range i).map fun j=>f (j+1):=by unfold Iw; rw [show n-1=i by omega]
theorem Ant {n:Nat} (f:Nat→Int) (h:n≠0):(((decide ((0:Int)≤(n:Int)))&&(decide ((n:Int)≤(n:Int))))&&((decide ((0:Int)≤(n:Int)))&&(decide ((n:Int)≤(length (Iw n f):Int)))))=true ∧
 List.take (toNat ((n:Int)-(0:Int))) (List.drop 0 (Iw n f))=Iw n f:=by
 have:=Lt h f
 refine ⟨?_,?_⟩
 ·rw [A78 (by omega),A78 (by omega),A78 (by omega)]; rfl
 ·rw [List.drop_zero,List.take_of_length_le (by omega)]
theorem Ads (N:Nat) {n:Nat} (h64:n≤64) (h0:n≠0):∀ (k i F:Nat),i+1+k=n→k<F →
 Aq.row.Zero.L0 N F (n:Int) ((i+1:Nat):Int) (Iw (i+1) fun _=>0)=some (.ints .fresh .u64 (Iw n fun _=>0)):=by
 intro k
 induction k with
 | zero =>
   intro i F hi hF
   obtain ⟨F,rfl⟩:∃ G,F=G+1:=⟨F-1,by omega⟩
   obtain rfl:i+1=n:=by omega
   obtain ⟨e1,e2⟩:=Ant (fun _=>0) h0
   rw [Aq.row.Zero.A1,Aw,A8c (by omega),A8b,e1,A77,e2]
 | succ k ih =>
   intro i F hi hF
   obtain ⟨F,rfl⟩:∃ G,F=G+1:=⟨F-1,by omega⟩
   rw [Aq.row.Zero.A1,Aw,A78 (by omega),A77,A78 (by rw [Lt (by omega)]; unfold Im; omega),A77,Ar (by omega) (by omega)]
   have:=ih (i+1) F (by omega) (by omega)
   rw [Uc (i+1+1) (i+1) _ rfl,Je] at this
   rw [Uc (i+1) i _ rfl]
   exact this
theorem Aq.row.Zero.known:Aq.row.Zero.Kn:=Aq.row.Zero.Ae (.cons Aq.F7.known .nil) fun n hp=>by
 have hp:=Ao.1 (show Cr (1≤n∧n≤64)=true from hp)
 obtain ⟨m,rfl⟩:∃ m:Nat,n=m:=⟨n.toNat,by omega⟩
 refine ⟨65,Aq.row.Zero.out [.i m],[],?_,.Rw⟩
 show _=some (DV.ints .fresh .u64 (Iw (toNat (m:Int)) fun _=>0))
 rw [Aq.row.Zero.ev,A79]
 exact Ads 65 (by omega) (by omega) (m-1) 0 65 (by omega) (by omega)
theorem Agn (N:Nat) {n:Nat} {y:List Int} {d:Int} (h64:n≤64) (h0:n≠0) (hy:n=y.length) (al:Ak y=true) (hd:Al d=true):∀ (k i F:Nat),i+1+k=n→k<F →
 Aq.row.Div.L0 N F (n:Int) y d ((i+1:Nat):Int) (Iw (i+1) fun j=>Hr (y.getD j 0) d)=some (.ints .fresh .u64 (Iw n fun j=>Hr (y.getD j 0) d)):=by
 intro k
 induction k with
 | zero =>
   intro i F hi hF
   obtain ⟨F,rfl⟩:∃ G,F=G+1:=⟨F-1,by omega⟩
   obtain rfl:i+1=n:=by omega
   obtain ⟨e1,e2⟩:=Ant (fun j=>Hr (y.getD j 0) d) h0
   rw [Aq.row.Div.A1,Aw,A8c (by omega),A8b,e1,A77,e2]
 | succ k ih =>
   intro i F hi hF
   obtain ⟨F,rfl⟩:∃ G,F=G+1:=⟨F-1,by omega⟩
   rw [Aq.row.Div.A1,Aw,A78 (by omega),A77,Ao.2 (show 0≤((i+1:Nat):Int)∧((i+1:Nat):Int)<(y.length:Int) by omega),al,hd,A8d,A8d,A77,A78 (by rw [Lt (by omega)]; unfold Im; omega),A77,Ar (by omega) (by omega),A79]
   have:=ih (i+1) F (by omega) (by omega)
   rw [Uc (i+1+1) (i+1) _ rfl,Je] at this
   rw [Uc (i+1) i _ rfl]
   exact this
theorem Aq.row.Div.known:Aq.row.Div.Kn:=Aq.row.Div.Ae (.cons Aq.F6.known .nil) fun n y d hp=>by
 obtain ⟨h1,h2⟩:=Af.1 (show ((Cr (1≤n∧n≤64∧n=length y)&&Ak y)&&Al d)=true from hp)
 obtain ⟨h3,h4⟩:=Af.1 h1
 have h3:=Ao.1 h3
 obtain ⟨m,rfl⟩:∃ m:Nat,n=m:=⟨n.toNat,by omega⟩
 refine ⟨65,Aq.row.Div.out [.i m,.l y,.i d],[],?_,.Rw⟩
 show _=some (DV.ints .fresh .u64 (Iw (toNat (m:Int)) fun j=>Hr (getD y j 0) d))
 rw [Aq.row.Div.ev,A79]
 exact Agn 65 (by omega) (by omega) (by omega) h4 h2 (m-1) 0 65 (by omega) (by omega)
theorem Aen {x:List Int} {k:Int} {j:Nat} (h:j<x.length):(Bn x k).getD j 0=Ch (x.getD j 0) k:=by
 unfold Bn
 rw [A8h,A9o,A8o h,A8h,A8o h]; rfl
theorem Apx (x:List Int) (k:Int):(Bn x k).length=x.length:=by unfold Bn; rw [A9d]
theorem Apy {x:List Int} (k:Int) (h:Ak x=true):Ak (Bn x k)=true:=Ut fun y hy=>by
 obtain ⟨b,hb,rfl⟩:=List.mem_map.1 hy
 exact Kf (Ao.1 h b hb)
theorem Ag3:∀ {x:List Int},Ak x=true→Al (P7 x)=true
 | [],_=>Kl
 | b::l,h=>by
   unfold P7
   split
   ·exact Ag3 (Ut fun y hy=>Ao.1 h y (A9c _ hy))
   ·exact Ao.1 h b A9m
theorem Rc {x:List Int} (h:Dp x=true):Ak x=true:=Ao.2 (Ao.1 h).2
theorem T0 {drops:List Nat} {g:Akn}:Wk drops .nil (.ints g .u64 []):=.nil g .u64
theorem Ap3 {n:Nat} {f g:Nat→Int} (h:∀ j,j<n→f j=g j):Iw n f=Iw n g:=by
 unfold Iw
 congr 1
 exact List.map_congr_left fun j hj=>h _ (by have:=List.mem_range.1 hj; omega)
theorem Aq.Lk.known:Aq.Lk.Kn:=Aq.Lk.Ae (.cons compare.Mo.known (.cons Aq.lead.known (.cons Aq.Dh.known (.cons (A9.alt Aq.row.Zero.known Aq.row.Div.known) (.cons Aq.Dj.known (.cons soft.Finite.known (.cons soft.Gw.known (.cons soft.Sign.known (.cons Ac.C6.known (.cons Ac.Div.known (.cons Ac.Finite.known (.cons Ac.Norm.known (.cons Ac.B9.known (.cons Ac.Sub.known .nil)))))))))))))) fun x hp=>by
 have hx:Dp x=true:=hp
 have al:=Rc hx
 have he:=Avy (Bg x)
 show ∃ N dv drops,_=some dv∧Wk drops dv (DV.tup [.ints .fresh .u64 (Bv x).1,.int .u64 (Bv x).2.1,.int .u64 (Bv x).2.2.1,.int .i64 (Bv x).2.2.2])
 unfold Bv
 by_cases h1:x.length=0∨64<x.length
 ·rw [A8u h1]
  refine ⟨0,.tup [.nil,.int .u64 0,.int .u64 0,.int .i64 3],[],?_,Wk.Jp (.cons T0 (.cons .int (.cons .int (.cons .int .nil))))⟩
  have:(((length x:Int)==(0:Int))||(Bc (64:Int) (length x:Int)))=true:=by
   rw [Aw,Bool.or_eq_true,beq_iff_eq,A8e]; omega
  rw [Aq.Lk.ev,this,A77]
 have c1:(((length x:Int)==(0:Int))||(Bc (64:Int) (length x:Int)))=false:=by
  rw [Aw,Bool.or_eq_false_iff,A82,A8q]; omega
 rw [A8t h1]
 by_cases h2:Ff x=true
 ·rw [A8u h2]
  unfold Ai7
  have ok1:Dp (x.drop 1)=true:=Mt (Ut fun y hy=>Ao.1 al y (List.mem_of_mem_drop hy)) (by rw [List.length_drop]; omega)
  have d1:decide ((1:Int)≤(x.length:Int))=true:=A78 (by omega)
  have d0:decide ((0:Int)<(x.length:Int))=true:=A78 (by omega)
  by_cases h3:Gc (x.drop 1)=true
  ·rw [A8u h3]
   refine ⟨0,.tup [.ints .fresh .u64 (Iw x.length fun _=>0),.int .u64 0,.int .u64 (x.getD 0 0),.int .i64 0],[],?_,Wk.Jp (.cons .Rw (.cons .int (.cons .int (.cons .int .nil))))⟩
   rw [Aq.Lk.ev,c1,A8b,hx,A77,h2,A86,A8b,d1,A77,ok1,A77,h3,A77,Ao.2 (show 1≤(x.length:Int)∧(x.length:Int)≤64 by omega),A77,d0,A77,A79]
  ·rw [A8t h3]
   have h3:Gc (x.drop 1)=false:=by simpa using h3
   have ew:Ad (0-Bq (Bg x))=-Bq (Bg x):=by rw [Ar (by omega) (by omega)]; omega
   have ly:=Apx x (-Bq (Bg x))
   have ay:=Apy (-Bq (Bg x)) al
   have oky:Dp (Bn x (-Bq (Bg x)))=true:=Mt ay (by omega)
   have gy:=Aen (x:=x) (k:=-Bq (Bg x)) (j:=0) (by omega)
   have iy:=Nu ay 0
   have key:∀ mu:Int,Qk x=mu→Al mu=true→∀ b:Bool,Dk (G2 x)=b→∃ dv:DV,(bif (!b) then
    some (.tup [.nil,.int .u64 (0:Int),.int .u64 (0:Int),.int .i64 (2:Int)])
    else some (.tup [.ints .fresh .u64 (Iw (toNat (length (Bn x (-Bq (Bg x))):Int)) (fun j=>Hr (getD (Bn x (-Bq (Bg x))) j 0) (Eu (getD (Bn x (-Bq (Bg x))) 0 0) mu))),.int .u64 (Hr (Eu mu (getD (Bn x (-Bq (Bg x))) 0 0)) mu),.int .u64 (Ch mu (Bq (Bg x))),.int .i64 (0:Int)]))=some dv ∧
    Wk [] dv (DV.tup [.ints .fresh .u64 (if Dk (G2 x)=true then (Yn x,Acd x,G2 x,(0:Int)) else ([],0,0,2)).1,.int .u64 (if Dk (G2 x)=true then (Yn x,Acd x,G2 x,(0:Int)) else ([],0,0,2)).2.1,.int .u64 (if Dk (G2 x)=true then (Yn x,Acd x,G2 x,(0:Int)) else ([],0,0,2)).2.2.1,.int .i64 (if Dk (G2 x)=true then (Yn x,Acd x,G2 x,(0:Int)) else ([],0,0,2)).2.2.2]):=by
    intro mu hmu _ b hb
    rw [hb]
    cases b with
    | false=>exact ⟨_,rfl,Wk.Jp (.cons T0 (.cons .int (.cons .int (.cons .int .nil))))⟩
    | true =>
      refine ⟨_,rfl,?_⟩
      rw [A8u rfl]
      dsimp only
      have e1:Iw (toNat (length (Bn x (-Bq (Bg x))):Int)) (fun j=>Hr (getD (Bn x (-Bq (Bg x))) j 0) (Eu (getD (Bn x (-Bq (Bg x))) 0 0) mu))=Yn x:=by
       unfold Yn
       rw [A79,ly,gy,← hmu]
       exact Ap3 fun j hj=>by rw [Aen hj]; rfl
      have e2:Hr (Eu mu (getD (Bn x (-Bq (Bg x))) 0 0)) mu=Acd x:=by
       unfold Acd
       rw [gy,hmu]; rfl
      have e3:Ch mu (Bq (Bg x))=G2 x:=by unfold G2; rw [hmu]
      rw [e1,e2,e3]
      exact Wk.Jp (.cons .Rw (.cons .int (.cons .int (.cons .int .nil))))
   have dz:decide ((0:Int)<((Bn x (-Bq (Bg x))).length:Int))=true:=A78 (by omega)
   have cz':Cr (1≤((Bn x (-Bq (Bg x))).length:Int)∧((Bn x (-Bq (Bg x))).length:Int)≤64∧True)=true:=Ao.2 ⟨by omega,by omega,trivial⟩
   have p1:Cr (x.length≤1000∧-2300≤-Bq (Bg x)∧-Bq (Bg x)≤2300)=true:=Ao.2 (by omega)
   have p2:Cr ((Bn x (-Bq (Bg x))).length≤64)=true:=Ao.2 (by omega)
   have sp:∀ mu:Int,Al mu=true→Gt mu (Bq (Bg x))=true:=fun mu h=>Af.2 ⟨h,Ao.2 (by omega)⟩
   have ny:=Aar (Bn x (-Bq (Bg x)))
   cases hn:Em (P7 x) with
   | true =>
     have hm:Qk x=Dr (Bn x (-Bq (Bg x))):=by unfold Qk; rw [A8u hn]
     obtain ⟨dv,k1,k2⟩:=key _ hm ny (Dk (G2 x)) rfl
     refine ⟨0,dv,[],?_,k2⟩
     rw [← k1]
     have eb:G2 x=Ch (Dr (Bn x (-Bq (Bg x)))) (Bq (Bg x)):=by unfold G2; rw [hm]
     rw [Aq.Lk.ev,ew,eb]
     simp only [c1,A8b,hx,A77,h2,A86,d1,ok1,h3,V7,p1,oky,p2,A8d,Ag3 al,hn,sp _ ny,Kf ny,dz,cz',ay,iy,ny,X7 iy ny,X7 ny iy]
   | false =>
     have hm:Qk x=Eh (Dr (Bn x (-Bq (Bg x)))):=by unfold Qk; rw [A8t (by rw [hn]; decide)]
     have my:=Ajb ny
     obtain ⟨dv,k1,k2⟩:=key _ hm my (Dk (G2 x)) rfl
     refine ⟨0,dv,[],?_,k2⟩
     rw [← k1]
     have eb:G2 x=Ch (Eh (Dr (Bn x (-Bq (Bg x))))) (Bq (Bg x)):=by unfold G2; rw [hm]
     rw [Aq.Lk.ev,ew,eb]
     simp only [c1,A8b,hx,A77,h2,A86,d1,ok1,h3,V7,p1,oky,p2,A8d,Ag3 al,hn,A9q,sp _ my,Kf my,dz,cz',ay,iy,ny,my,X7 iy my,X7 my iy]
 ·rw [A8t h2]
  have h2:Ff x=false:=by simpa using h2
  refine ⟨0,.tup [.nil,.int .u64 0,.int .u64 0,.int .i64 4],[],?_,Wk.Jp (.cons T0 (.cons .int (.cons .int (.cons .int .nil))))⟩
  rw [Aq.Lk.ev,c1,A8b,hx,A77,h2,A9q,A77]
open Go Go.Den Go.Cv Go.Proofs
open EqHouse
def apD (i k c j a b:Nat):Bool:=decide (k≤b∧i≤a∧(b<c∨(b=c∧a<i+j)))
def apS (R C:Nat) (l:List Int) (i k:Nat) (v:List Int) (t:Int) (c j:Nat):List Int :=
 C4 R C fun a b=>if apD i k c j a b=true∧a<i+v.length then Hy (C:Int) l (i:Int) (k:Int) v t (a:Int) (b:Int) else Cp (C:Int) l (a:Int) (b:Int)
section
variable {R C i k:Nat} {l v:List Int} {t:Int}
theorem Az7 (c j:Nat):(apS R C l i k v t c j).length=R*C:=Cf _ _ _
theorem Aws (h:l.length=R*C):apS R C l i k v t k 0=l:=by
 unfold apS
 conv=>rhs; rw [← Yv h]
 refine F1 fun a b ha hb=>?_
 rw [A8t]
 rintro ⟨h,_⟩
 have:=A8x h
 omega
theorem Awt (c:Nat):apS R C l i k v t c v.length=apS R C l i k v t (c+1) 0:=by
 unfold apS
 refine F1 fun a b ha hb=>?_
 have:(apD i k c v.length a b=true∧a<i+v.length)↔(apD i k (c+1) 0 a b=true∧a<i+v.length):=by
  unfold apD
  rw [A8e,A8e]
  omega
 by_cases h:apD i k c v.length a b=true∧a<i+v.length
 ·rw [A8u h,A8u (this.1 h)]
 ·rw [A8t h,A8t (fun hh=>h (this.2 hh))]
theorem Az8:apS R C l i k v t C 0=Gp R C l (i:Int) (k:Int) v t:=by
 unfold apS Gp
 refine F1 fun a b ha hb=>?_
 by_cases h:apD i k C 0 a b=true∧a<i+v.length
 ·rw [A8u h]
 ·rw [A8t h]
  unfold Hy
  rw [A8t]
  intro hh
  refine h ⟨?_,by omega⟩
  unfold apD
  rw [A8e]; omega
theorem Az6 {c j:Nat} (hc:c<C) (hk:k≤c) (hj:j<v.length) {x:Int} (hx:x=Hy (C:Int) l (i:Int) (k:Int) v t ((i+j:Nat):Int) (c:Int)) :
 List.set (apS R C l i k v t c j) ((i+j)*C+c) x=apS R C l i k v t c (j+1):=by
 unfold apS
 rw [Xg hc]
 refine F1 fun a b ha hb=>?_
 by_cases h:a=i+j∧b=c
 ·obtain ⟨rfl,rfl⟩:=h
  rw [A8u ⟨rfl,rfl⟩,A8u ⟨by unfold apD; rw [A8e]; omega,by omega⟩,hx]
 ·rw [A8t h]
  have:(apD i k c j a b=true∧a<i+v.length)↔(apD i k c (j+1) a b=true∧a<i+v.length):=by
   unfold apD
   rw [A8e,A8e]
   omega
  by_cases h2:apD i k c j a b=true∧a<i+v.length
  ·rw [A8u h2,A8u (this.1 h2)]
  ·rw [A8t h2,A8t (fun hh=>h2 (this.2 hh))]
theorem Awr {c j:Nat} (hk:k≤c) (hj:j<v.length):Hy (C:Int) l (i:Int) (k:Int) v t ((i+j:Nat):Int) (c:Int) =
 Eu ((B4 (C:Int) l (c:Int) (i:Int) v.length).getD j 0) (D6 (M6 (C:Int) l (i:Int) v t (c:Int)) (v.getD j 0)):=by
 unfold Hy
 rw [A8u ⟨by omega,by omega,by omega⟩]
 have e1:(((i+j:Nat):Int)-(i:Int)).toNat=j:=by omega
 have e2:(B4 (C:Int) l (c:Int) (i:Int) v.length).getD j 0=Cp (C:Int) l ((i+j:Nat):Int) (c:Int):=by
  unfold B4
  rw [A8h,A9o,List.getElem?_range hj]
  show Cp (C:Int) l ((i:Int)+(j:Int)) (c:Int)=_
  rw [← Int.natCast_add]
 rw [e1,e2]
theorem Ati {c b i:Int} {l:List Int} {m n:Nat} (h:m≤n):List.take m (B4 c l b i n)=B4 c l b i m:=by
 unfold B4
 rw [← List.map_take,List.take_range,Nat.min_eq_left h]
theorem Am5 (N M0:Nat) (r6:R≤6) (c6:C≤6) (al:Ak l=true) (av:Ak v=true) (hv:i+v.length≤R) {c:Nat} (hc:c<C) (hk:k≤c):∀ (cnt j F:Nat),j+cnt=v.length→cnt<F →
 Aq.Apply.L1 N M0 F (R:Int) (C:Int) l (i:Int) v t (j:Int) (apS R C l i k v t c j) (c:Int) (M6 (C:Int) l (i:Int) v t (c:Int)) (B4 (C:Int) l (c:Int) (i:Int) v.length) (v.length:Int) =
 Aq.Apply.L0 N M0 (R:Int) (C:Int) l (i:Int) v t ((c+1:Nat):Int) (apS R C l i k v t (c+1) 0):=by
 intro cnt
 induction cnt with
 | zero =>
   intro j F hj hF
   obtain ⟨F,rfl⟩:∃ G,F=G+1:=⟨F-1,by omega⟩
   obtain rfl:j=v.length:=by omega
   rw [Aq.Apply.Cy,Aw,A8c (by omega),A8b,Ar (by omega) (by omega),Awt]
   rfl
 | succ cnt ih =>
   intro j F hj hF
   obtain ⟨F,rfl⟩:∃ G,F=G+1:=⟨F-1,by omega⟩
   have hm:=K0 (a:=((i+j:Nat):Int)) (b:=(C:Int)) (by omega) (by omega) (by omega) (by omega)
   have hpl:=K6 (show i+j<R by omega) hc
   have e1:Ad ((i:Int)+(j:Int))=((i+j:Nat):Int):=by rw [Ar (by omega) (by omega)]; omega
   have e2:Ad (((i+j:Nat):Int)*(C:Int))=(((i+j)*C:Nat):Int):=by rw [Ar (by omega) (by omega)]; exact (A8s _ _).symm
   have h36:=A83 r6 c6
   have e3:Ad ((((i+j)*C:Nat):Int)+(c:Int))=(((i+j)*C+c:Nat):Int):=by rw [Ar (by omega) (by omega)]; omega
   have hlen:=Az7 (R:=R) (C:=C) (l:=l) (i:=i) (k:=k) (v:=v) (t:=t) c j
   have sl:=Ks (C:Int) (c:Int) (i:Int) v.length l
   rw [Aq.Apply.Cy,Aw,A78 (show (j:Int)<(v.length:Int) by omega),A77,e1,e2,e3,sl,A78 (show (0:Int)≤(j:Int) by omega),A78 (show (j:Int)<(v.length:Int) by omega),A8d,A77,A79,A79]
   have a1:=Nu av j
   have a2:=Nu (O9 (c:=(C:Int)) (b:=(c:Int)) (i:=(i:Int)) (n:=v.length) al) j
   have a3:Al (M6 (C:Int) l (i:Int) v t (c:Int))=true:=Ku _ _
   rw [A77,a3,a1,A8d,A77,a2,Ku,A8d,A77,A78 (by omega),A78 (by omega),A8d,A77,A78 (by omega),A77,
    Az6 hc hk (by omega) (Awr hk (by omega)).symm,Ar (by omega) (by omega)]
   exact ih (j+1) F (by omega) (by omega)
theorem Am6 (N:Nat) (r6:R≤6) (c6:C≤6) (hN:7<N) (hr:Az (R:Int) (C:Int) l=true) (al:Ak l=true) (av:Ak v=true) (ht:Al t=true) (hv:i+v.length≤R):∀ (cnt c F:Nat),c+cnt=C→k≤c→cnt<F →
 Aq.Apply.L0 N F (R:Int) (C:Int) l (i:Int) v t (c:Int) (apS R C l i k v t c 0) =
 some (.tup [.agg [.int .i64 (R:Int),.int .i64 (C:Int),.ints (.own 114002 tB) .u64 (Gp R C l (i:Int) (k:Int) v t)],.int .i64 (0:Int)]):=by
 intro cnt
 induction cnt with
 | zero =>
   intro c F hc hk hF
   obtain ⟨F,rfl⟩:∃ G,F=G+1:=⟨F-1,by omega⟩
   obtain rfl:c=C:=by omega
   rw [Aq.Apply.A1,Aw,A8c (by omega),A8b,Az8]
 | succ cnt ih =>
   intro c F hc hk hF
   obtain ⟨F,rfl⟩:∃ G,F=G+1:=⟨F-1,by omega⟩
   have cp:G9 (R:Int) (C:Int) l (c:Int)=true:=Af.2 ⟨hr,Ao.2 (by omega)⟩
   have e0:toNat ((R:Int)-(i:Int))=R-i:=by omega
   have st:=Ati (c:=(C:Int)) (b:=(c:Int)) (i:=(i:Int)) (l:=l) (m:=v.length) (n:=R-i) (by omega)
   have sl:=Ks (C:Int) (c:Int) (i:Int) v.length l
   have sl2:=Ks (C:Int) (c:Int) (i:Int) (R-i) l
   have sa:=O9 (c:=(C:Int)) (b:=(c:Int)) (i:=(i:Int)) (n:=v.length) al
   have ft:Z4 v (B4 (C:Int) l (c:Int) (i:Int) v.length)=true:=Ahb.2 ⟨by omega,by omega⟩
   rw [Aq.Apply.A1,Aw,A78 (by omega),A77,cp,Ao.2 (show 0≤(i:Int)∧(i:Int)≤(R:Int) by omega),A8d,A77,e0,A79,st,sl2,sl,
    A78 (show (0:Int)≤(v.length:Int) by omega),A78 (show (v.length:Int)≤(v.length:Int) by omega),A78 (show (v.length:Int)≤((R-i:Nat):Int) by omega),A8d,A8d,A77,ft,av,sa,A8d,A8d,A77,ht,Ahl,A8d,A77]
   have:=Am5 (t:=t) N F r6 c6 al av hv (show c<C by omega) hk v.length 0 N (by omega) (by omega)
   exact this.trans (ih (c+1) F (by omega) (by omega) (by omega))
end
theorem Aq.Apply.known:Aq.Apply.Kn:=Aq.Apply.Ae (.cons Aa.Check.known (.cons Aa.D2.known (.cons Ac.Hn.known (.cons Ac.Mul.known (.cons Ac.Sub.known .nil))))) fun r c l i k v t hp=>by
 obtain ⟨h1,ht⟩:=Af.1 (show (((Az r c l&&Sb r c i k v)&&(Ak l&&Ak v))&&Al t)=true from hp)
 obtain ⟨h2,h3⟩:=Af.1 h1
 obtain ⟨hr,hb⟩:=Af.1 h2
 obtain ⟨al,av⟩:=Af.1 h3
 have hb:=A8x hb
 have hc:N6 r c l=0:=by unfold N6; rw [A8u hr]
 have h36:=It hr
 obtain ⟨R,C,rfl,rfl,r6,c6,hl⟩:=Dl hr
 obtain ⟨i,rfl⟩:∃ j:Nat,i=j:=⟨i.toNat,by omega⟩
 obtain ⟨k,rfl⟩:∃ j:Nat,k=j:=⟨k.toNat,by omega⟩
 refine ⟨8,Aq.Apply.out [.i (R:Int),.i (C:Int),.l l,.i (i:Int),.i (k:Int),.l v,.i t],[],?_,Wk.Jp (.cons (Wk.Mk (.cons .int (.cons .int (.cons (.keep _ _ _ _ List.not_mem_nil) .nil)))) (.cons .int .nil))⟩
 show _=some (DV.tup [.agg [.int .i64 (R:Int),.int .i64 (C:Int),.ints (.own 114002 tB) .u64 (Gp (toNat (R:Int)) (toNat (C:Int)) l (i:Int) (k:Int) v t)],.int .i64 0])
 have hlt:(((((Bc (i:Int) (0:Int))||(Bc (R:Int) (length v:Int)))||(Bc (Ad ((R:Int)-(length v:Int))) (i:Int)))||(Bc (k:Int) (0:Int)))||(Bc (C:Int) (k:Int)))=false:=by
  rw [Aw,Aw,Aw,Aw,Aw,Ar (by omega) (by omega),A8c (by omega),A8c (by omega),A8c (by omega),A8c (by omega),A8c (by omega)]; rfl
 rw [Aq.Apply.ev,hc,show ((0:Int) !=(0:Int))=false from rfl,A8b,hlt,A8b,A78 (show 0+l.length≤Im by unfold Im; omega),A77,List.nil_append,A79,A79]
 have:=Am6 (R:=R) (C:=C) (i:=i) (k:=k) (l:=l) (v:=v) (t:=t) 8 r6 c6 (by omega) hr al av ht (by omega) (C-k) k 8 (by omega) (by omega) (by omega)
 rw [Aws hl] at this
 exact this
open Go Go.Den Go.Cv Go.Proofs
set_option maxRecDepth 100000
namespace EqSol
def solve.check.hint:Nat→Option Bh
 | 0=>some { keep:=[2,3,11,12],objs:=[],boxes:=[2,3] }
 | 2=>some { keep:=[2,34,35],objs:=[],boxes:=[2] }
 | _=>none
def solve.check.Bf:List (Nat × Entry):=[(86,Cz.Check.spec),(155,soft.Kind.spec)]
def solve.check.E:Env:=Bk (Be solve.check.Bf) (fun _=>false) solve.check.hint (fun _=>none)
section
variable (N M:Nat) (r c:Int) (l:List Int) (p q:Int) (m:List Int) (p35:Int)
def solve.check.L0:Option DV:=Cd solve.check.E N f75 (As f75) [1,1,1,0,1,0] [] M ⟨Il 51 [(2,.ptr 2 0 0),(34,.int .i64 r),(35,.int .i64 p35)],[(2,false,.box [.int .i64 r,.int .i64 c,.ints .arg .u64 l])]⟩
theorem solve.check.A1:solve.check.L0 (N+4) (M+1) r c l p35=bif (Bc p35 r) then bif ((decide (0≤(Ad ((Ad (p35*c))+p35))))&&(decide ((Ad ((Ad (p35*c))+p35))<(length l:Int)))) then bif (Al (getD l (toNat (Ad ((Ad (p35*c))+p35))) 0)) then bif ((A7 (getD l (toNat (Ad ((Ad (p35*c))+p35))) 0))==(0:Int)) then some (.int .i64 5) else solve.check.L0 (N+4) M r c l (Ad (p35+1)) else none else none else some (.int .i64 0):=by kernel_rfl
theorem solve.check.ev:B6 solve.check.E (N+4) f75 (As f75) [.agg [.int .i64 r,.int .i64 c,.ints .arg .u64 l],.agg [.int .i64 p,.int .i64 q,.ints .arg .u64 m]]=bif (Ak l) then bif ((Cs r c l) !=(0:Int)) then some (.int .i64 (Cs r c l)) else bif (Ak m) then bif ((Cs p q m) !=(0:Int)) then some (.int .i64 (Cs p q m)) else bif ((r !=c)||(r !=p)) then some (.int .i64 3) else solve.check.L0 (N+4) (N+4) r c l (0:Int) else none else none :=
 Eq.trans (by kernel_rfl)
 (Fg (Fg rfl (Fg (Fg rfl (Ay (Za (r !=c)) (Ay (Vh (r !=c)) (Ay (Za (r !=c)) (Ay (Vh (r !=c)) (Ay (tt8 (r !=c)) (Ay (tt6 (r !=c)) (C5 (tt5 _ _) rfl rfl)))))))) rfl)) rfl)
end
abbrev _root_.Go.Proofs.S1.solve.check.Kn:=A9 prog 75 solve.check.spec
theorem solve.check.Ae (hk:A3 prog solve.check.Bf) (h:Hyp solve.check.E f75 solve.check.ts solve.check.pre solve.check.out):solve.check.Kn :=
 Am (A5 hk _ _ _) func75 (by kernel_rfl) (by kernel_rfl) h
def Gq.Gn.up.Bf:List (Nat × Entry):=[]
def Gq.Gn.up.E:Env:=Bk (Be Gq.Gn.up.Bf) (fun _=>false) (fun _=>none) (fun _=>none)
theorem Gq.Gn.up.ev (N:Nat) (n k:Int):B6 Gq.Gn.up.E N f103 (As f103) [.int .i64 n,.int .i64 k]=some (.int .i64 (Ad ((Ad (n-1))-k))):=by kernel_rfl
abbrev _root_.Go.Proofs.S1.Gq.Gn.up.Kn:=A9 prog 103 Gq.Gn.up.spec
theorem Gq.Gn.up.Ae (hk:A3 prog Gq.Gn.up.Bf) (h:Hyp Gq.Gn.up.E f103 Gq.Gn.up.ts Gq.Gn.up.pre Gq.Gn.up.out):Gq.Gn.up.Kn :=
 Am (A5 hk _ _ _) func103 (by kernel_rfl) (by kernel_rfl) h
def solve.Er.Bf:List (Nat × Entry):=[]
def solve.Er.E:Env:=Bk (Be solve.Er.Bf) (fun _=>false) (fun _=>none) (fun _=>none)
theorem solve.Er.ev (N:Nat) (i k:Int):B6 solve.Er.E N f104 (As f104) [.int .i64 i,.int .i64 k]=some (.bool (Bc i k)):=by kernel_rfl
abbrev _root_.Go.Proofs.S1.solve.Er.Kn:=A9 prog 104 solve.Er.spec
theorem solve.Er.Ae (hk:A3 prog solve.Er.Bf) (h:Hyp solve.Er.E f104 solve.Er.ts solve.Er.pre solve.Er.out):solve.Er.Kn :=
 Am (A5 hk _ _ _) func104 (by kernel_rfl) (by kernel_rfl) h
def Aa.of.Bb.own.hint:Nat→Option Bh
 | 0=>some { keep:=[1,2,6,7,13,14],objs:=[(8,2,108002,.ints 37 .u64 [])],boxes:=[6,7] }
 | 2=>some { keep:=[1,2,6,7,8,13,14,17,18],objs:=[(8,2,108002,.ints 37 .u64 [])],boxes:=[6,7] }
 | _=>none
def Aa.of.Bb.own.Bf:List (Nat × Entry):=[(205,Aa.Ej.spec)]
def Aa.of.Bb.own.E:Env:=Bk (Be Aa.of.Bb.own.Bf) (fun _=>false) Aa.of.Bb.own.hint (fun _=>none)
abbrev _root_.Go.Proofs.S1.Aa.of.Bb.own.Kn:=A9 prog 187 Aa.of.Bb.own.spec
theorem Aa.of.Bb.own.Ae (hk:A3 prog Aa.of.Bb.own.Bf) (h:Hyp Aa.of.Bb.own.E f187 Aa.of.Bb.own.ts Aa.of.Bb.own.pre Aa.of.Bb.own.out):Aa.of.Bb.own.Kn :=
 Am (A5 hk _ _ _) func187 (by kernel_rfl) (by kernel_rfl) h
def Aa.Bb.own.Bf:List (Nat × Entry):=[(187,Aa.of.Bb.own.spec),(204,Aa.size.spec)]
def Aa.Bb.own.E:Env:=Bk (Be Aa.Bb.own.Bf) (fun n=>Nat.beq n 17) (fun _=>none) (fun _=>none)
theorem Aa.Bb.own.ev (N:Nat) (a b:Int):B6 Aa.Bb.own.E N f151 (As f151) [.int .i64 a,.int .i64 b]=bif ((!(Br a))||(!(Br b))) then some (.tup [.agg [.int .i64 0,.int .i64 0,.nil],.int .i64 3]) else bif (Br a&&Br b) then some (.tup [.agg [.int .i64 a,.int .i64 b,.ints (.own 1136 37) .u64 (C4 (toNat a) (toNat b) (fun _ _=>0))],.int .i64 0]) else none :=
 Eq.trans (by kernel_rfl)
 (Ay (Af4 (Br a)) (Ay (Ux (Br a)) (Ay (Ux (Br a)) (Ay (Af5 (Br a)) (C5 (Axq _ _) rfl rfl)))))
abbrev _root_.Go.Proofs.S1.Aa.Bb.own.Kn:=A9 prog 151 Aa.Bb.own.spec
theorem Aa.Bb.own.Ae (hk:A3 prog Aa.Bb.own.Bf) (h:Hyp Aa.Bb.own.E f151 Aa.Bb.own.ts Aa.Bb.own.pre Aa.Bb.own.out):Aa.Bb.own.Kn :=
 Am (A5 hk _ _ _) func151 (by kernel_rfl) (by kernel_rfl) h
def solve.Bt.Up.hint:Nat→Option Bh
 | 0=>some { keep:=[2,3,4,5,8,10,11,28,29],objs:=[(12,2,112002,.ints 37 .u64 [])],boxes:=[4,5,8,11] }
 | 2=>some { keep:=[2,3,4,5,8,10,11,13,28,29,32,33],objs:=[(12,2,112002,.ints 37 .u64 [])],boxes:=[4,5,8,11] }
 | 4=>some { keep:=[2,3,4,5,8,10,11,13,15,16,28,29,32,33,49,50],objs:=[(12,2,112002,.ints 37 .u64 [])],boxes:=[4,5,8,11] }
 | _=>none
def solve.Bt.Up.Bf:List (Nat × Entry):=[(103,Gq.Gn.up.spec),(151,Aa.Bb.own.spec),(104,solve.Er.spec),(158,Ac.Div.spec),(150,Ac.Finite.spec),(157,Ac.Mul.spec),(156,Ac.Sub.spec)]
def solve.Bt.Up.E:Env:=Bk (Be solve.Bt.Up.Bf) (fun n=>Nat.beq n 24) solve.Bt.Up.hint (fun _=>none)
section
variable (N M0 M1 M:Nat) (r c:Int) (l:List Int) (p q:Int) (m:List Int) (n p16 p50 p13_1 p15 p29_2 p33_1:Int) (p2_1:List Int) (p33:Int) (p2:List Int) (p13 p29_1 p29:Int) (p2_2:List Int)
def solve.Bt.Up.L0:Option DV:=Cd solve.Bt.Up.E N f76 (As f76) [1,1,1,0,1,0] [] M ⟨Il 108 [(2,.fn 103 [.int .i64 n] []),(3,.fn 104 [] []),(4,.ptr 4 0 0),(5,.ptr 5 0 0),(8,.ptr 8 0 0),(10,.int .i64 r),(11,.ptr 11 0 0),(28,.int .i64 q),(29,.int .i64 p29)],[(4,false,.box [.int .i64 r,.int .i64 c,.ints .arg .u64 l]),(5,false,.box [.int .i64 p,.int .i64 q,.ints .arg .u64 m]),(8,false,.box [.int .i64 0,.int .i64 0,.nil]),(11,false,.box [.int .i64 r,.int .i64 q,.oref 112002]),(112002,false,.ints 37 .u64 p2_2)]⟩
def solve.Bt.Up.L1:Option DV:=Cd solve.Bt.Up.E N f76 (As f76) [1,1,1,0,1,0,0,1,1,0,0,1,0,1,1,0] [M0] M ⟨Il 108 [(2,.fn 103 [.int .i64 n] []),(3,.fn 104 [] []),(4,.ptr 4 0 0),(5,.ptr 5 0 0),(8,.ptr 8 0 0),(10,.int .i64 r),(11,.ptr 11 0 0),(13,.int .i64 p13),(28,.int .i64 q),(29,.int .i64 p29_1),(32,.int .i64 r),(33,.int .i64 p33)],[(4,false,.box [.int .i64 r,.int .i64 c,.ints .arg .u64 l]),(5,false,.box [.int .i64 p,.int .i64 q,.ints .arg .u64 m]),(8,false,.box [.int .i64 0,.int .i64 0,.nil]),(11,false,.box [.int .i64 r,.int .i64 q,.oref 112002]),(112002,false,.ints 37 .u64 p2)]⟩
def solve.Bt.Up.L2:Option DV:=Cd solve.Bt.Up.E N f76 (As f76) [1,1,1,0,1,0,0,1,1,0,0,1,0,1,1,0,0,1,1,0,0,1,1,1,0,1,0] [M0,M1] M ⟨Il 108 [(2,.fn 103 [.int .i64 n] []),(3,.fn 104 [] []),(4,.ptr 4 0 0),(5,.ptr 5 0 0),(8,.ptr 8 0 0),(10,.int .i64 r),(11,.ptr 11 0 0),(13,.int .i64 p13_1),(15,.int .i64 p15),(16,.int .u64 p16),(28,.int .i64 q),(29,.int .i64 p29_2),(32,.int .i64 r),(33,.int .i64 p33_1),(49,.int .i64 r),(50,.int .i64 p50)],[(4,false,.box [.int .i64 r,.int .i64 c,.ints .arg .u64 l]),(5,false,.box [.int .i64 p,.int .i64 q,.ints .arg .u64 m]),(8,false,.box [.int .i64 0,.int .i64 0,.nil]),(11,false,.box [.int .i64 r,.int .i64 q,.oref 112002]),(112002,false,.ints 37 .u64 p2_1)]⟩
theorem solve.Bt.Up.A1:solve.Bt.Up.L0 N (M+1) r c l p q m n p29 p2_2=bif (Bc p29 q) then solve.Bt.Up.L1 N M N r c l p q m n 0 p2_2 p29 p29 else bif (Dp p2_2) then bif (!(Ff p2_2)) then some (.tup [.agg [.int .i64 0,.int .i64 0,.nil],.int .i64 2]) else some (.tup [.agg [.int .i64 r,.int .i64 q,.ints (.own 112002 37) .u64 p2_2],.int .i64 0]) else none:=by kernel_rfl
theorem solve.Bt.Up.Cy:solve.Bt.Up.L1 N M0 (M+1) r c l p q m n p33 p2 p13 p29_1=bif (Bc p33 r) then bif (Cr (0≤p33∧p33<n∧n≤10)) then bif ((decide (0≤(Ad ((Ad ((n-1-p33)*q))+p13))))&&(decide ((Ad ((Ad ((n-1-p33)*q))+p13))<(length m:Int)))) then solve.Bt.Up.L2 N M0 M N r c l p q m n (getD m (toNat (Ad ((Ad ((n-1-p33)*q))+p13))) 0) 0 p13 (n-1-p33) p29_1 p33 p2 else none else none else solve.Bt.Up.L0 N M0 r c l p q m n (Ad (p29_1+1)) p2:=by kernel_rfl
theorem solve.Bt.Up.Kp:solve.Bt.Up.L2 N M0 M1 (M+1) r c l p q m n p16 p50 p13_1 p15 p29_2 p33_1 p2_1=bif (Bc p50 r) then bif (decide (p15<p50)) then bif ((decide (0≤(Ad ((Ad (p15*r))+p50))))&&(decide ((Ad ((Ad (p15*r))+p50))<(length l:Int)))) then bif ((decide (0≤(Ad ((Ad (p50*q))+p13_1))))&&(decide ((Ad ((Ad (p50*q))+p13_1))<(length p2_1:Int)))) then bif (decide ((toNat (Ad ((Ad (p50*q))+p13_1)))<(length p2_1))) then bif (Al (getD l (toNat (Ad ((Ad (p15*r))+p50))) 0)&&Al (getD p2_1 (toNat (Ad ((Ad (p50*q))+p13_1))) 0)) then bif (Al p16&&Al (D6 (getD l (toNat (Ad ((Ad (p15*r))+p50))) 0) (getD p2_1 (toNat (Ad ((Ad (p50*q))+p13_1))) 0))) then solve.Bt.Up.L2 N M0 M1 M r c l p q m n (Eu p16 (D6 (getD l (toNat (Ad ((Ad (p15*r))+p50))) 0) (getD p2_1 (toNat (Ad ((Ad (p50*q))+p13_1))) 0))) (Ad (p50+1)) p13_1 p15 p29_2 p33_1 p2_1 else none else none else none else none else none else solve.Bt.Up.L2 N M0 M1 M r c l p q m n p16 (Ad (p50+1)) p13_1 p15 p29_2 p33_1 p2_1 else bif ((decide (0≤(Ad ((Ad (p15*r))+p15))))&&(decide ((Ad ((Ad (p15*r))+p15))<(length l:Int)))) then bif (Al p16&&Al (getD l (toNat (Ad ((Ad (p15*r))+p15))) 0)) then bif ((decide (0≤(Ad ((Ad (p15*q))+p13_1))))&&(decide ((Ad ((Ad (p15*q))+p13_1))<(length p2_1:Int)))) then bif (decide ((toNat (Ad ((Ad (p15*q))+p13_1)))<(length p2_1))) then solve.Bt.Up.L1 N M0 M1 r c l p q m n (Ad (p33_1+1)) (List.set p2_1 (toNat (Ad ((Ad (p15*q))+p13_1))) (Hr p16 (getD l (toNat (Ad ((Ad (p15*r))+p15))) 0))) p13_1 p29_2 else none else none else none else none :=
 Eq.trans (by kernel_rfl)
 (Fg (Fg (C5 (Rg _ _) (C5 (Rg _ _) (C5 (Cn _) (C5 (Cn _) (C5 (Cn _) rfl rfl) rfl) rfl) rfl) rfl) rfl) (C5 (Rg _ _) (C5 (Cn _) (C5 (Rg _ _) (C5 (Cn _) rfl rfl) rfl) rfl) rfl))
theorem solve.Bt.Up.ev:B6 solve.Bt.Up.E N f76 (As f76) [.agg [.int .i64 r,.int .i64 c,.ints .arg .u64 l],.agg [.int .i64 p,.int .i64 q,.ints .arg .u64 m],.fn 103 [.int .i64 n] [],.fn 104 [] []]=bif (Br r&&Br q) then solve.Bt.Up.L0 N N r c l p q m n 0 (C4 (toNat r) (toNat q) (fun _ _=>0)) else none:=by kernel_rfl
end
abbrev _root_.Go.Proofs.S1.solve.Bt.Up.Kn:=A9 prog 76 solve.Bt.Up.spec
theorem solve.Bt.Up.Ae (hk:A3 prog solve.Bt.Up.Bf) (h:Hyp solve.Bt.Up.E f76 solve.Bt.Up.ts solve.Bt.Up.pre solve.Bt.Up.out):solve.Bt.Up.Kn :=
 Am (A5 hk _ _ _) func76 (by kernel_rfl) (by kernel_rfl) h
def solve.H0.Bf:List (Nat × Entry):=[(75,solve.check.spec),(76,solve.Bt.Up.spec)]
def solve.H0.E:Env:=Bk (Be solve.H0.Bf) (fun _=>false) (fun _=>none) (fun _=>none)
theorem solve.H0.ev (N:Nat) (r c:Int) (l:List Int) (p q:Int) (m:List Int):B6 solve.H0.E N f36 (As f36) [.agg [.int .i64 r,.int .i64 c,.ints .arg .u64 l],.agg [.int .i64 p,.int .i64 q,.ints .arg .u64 m]]=bif (Ak l&&Ak m) then bif ((Xs r c l p q m) !=(0:Int)) then some (.tup [.agg [.int .i64 0,.int .i64 0,.nil],.int .i64 (Xs r c l p q m)]) else bif (Af6 r c l p q m&&decide (r=r)) then some (.tup [.agg [.int .i64 ((Vz r q (upG c l q m (toNat r) (toNat q))).1),.int .i64 ((Vz r q (upG c l q m (toNat r) (toNat q))).2.1),.ints .fresh .u64 ((Vz r q (upG c l q m (toNat r) (toNat q))).2.2.1)],.int .i64 ((Vz r q (upG c l q m (toNat r) (toNat q))).2.2.2)]) else none else none:=by kernel_rfl
abbrev _root_.Go.Proofs.S1.solve.H0.Kn:=A9 prog 36 solve.H0.spec
theorem solve.H0.Ae (hk:A3 prog solve.H0.Bf) (h:Hyp solve.H0.E f36 solve.H0.ts solve.H0.pre solve.H0.out):solve.H0.Kn :=
 Am (A5 hk _ _ _) func36 (by kernel_rfl) (by kernel_rfl) h
def solve.Flat.hint:Nat→Option Bh
 | 0=>some { keep:=[1,5,6],objs:=[(0,5,100005,.ints 37 .u64 [])],boxes:=[1] }
 | 2=>some { keep:=[7,44,45,46],objs:=[(0,44,100044,.ints 37 .u64 [])],boxes:=[] }
 | _=>none
def solve.Flat.Bf:List (Nat × Entry):=[(86,Cz.Check.spec),(87,compare.X6.spec),(90,compare.M8.spec),(89,Ac.C6.spec),(88,Ac.B9.spec)]
def solve.Flat.E:Env:=Bk (Be solve.Flat.Bf) (fun _=>false) solve.Flat.hint (fun _=>none)
section
variable (N M:Nat) (r c:Int) (l:List Int) (p6:Int) (p5:List Int) (p46:Int)
def solve.Flat.L0:Option DV:=Cd solve.Flat.E N f24 (As f24) [1,1,1,0,1,0] [] M ⟨Il 55 [(1,.ptr 1 0 0),(5,.oref 100005),(6,.int .i64 p6)],[(1,false,.box [.int .i64 r,.int .i64 c,.ints .arg .u64 l]),(100005,false,.ints 37 .u64 p5)]⟩
def solve.Flat.L1:Option DV:=Cd solve.Flat.E N f24 (As f24) [1,1,1,1,1,0,1,0] [] M ⟨Il 55 [(7,.int .u64 (Ch (Bg p5) (-40:Int))),(44,.oref 100044),(45,.int .i64 (length p5:Int)),(46,.int .i64 p46)],[(100044,false,.ints 37 .u64 p5)]⟩
theorem solve.Flat.A1:solve.Flat.L0 N (M+1) r c l p6 p5=bif ((Bc p6 r)&&(Bc p6 c)) then bif ((decide (0≤(Ad ((Ad (p6*c))+p6))))&&(decide ((Ad ((Ad (p6*c))+p6))<(length l:Int)))) then bif (Al (getD l (toNat (Ad ((Ad (p6*c))+p6))) 0)) then bif (decide ((length p5)+1≤Im)) then solve.Flat.L0 N M r c l (Ad (p6+1)) (p5++[(Tg (getD l (toNat (Ad ((Ad (p6*c))+p6))) 0))]) else none else none else none else bif (Dp p5) then bif (Gt (Bg p5) (-40:Int)) then solve.Flat.L1 N N p5 (0:Int) else none else none :=
 Eq.trans (by kernel_rfl)
 (Ay (Sy (Bc p6 r)) (Ay (Sy (Bc p6 r)) (Ay (O4 (Bc p6 r)) (Ay (Apf (Bc p6 r)) (Ay (Zb (Bc p6 r)) (C5 (tt1 _ _) rfl rfl))))))
theorem solve.Flat.Cy:solve.Flat.L1 N (M+1) p5 p46=bif (Bc p46 (length p5:Int)) then bif ((decide (0≤p46))&&(decide (p46<(length p5:Int)))) then bif (decide ((toNat p46)<(length p5))) then bif (Al (Ch (Bg p5) (-40:Int))&&Al (getD p5 (toNat p46) 0)) then bif (!(decide (Yk (Ch (Bg p5) (-40:Int)) (getD p5 (toNat p46) 0)<0))) then some (.tup [.bool true,.int .i64 0]) else solve.Flat.L1 N M p5 (Ad (p46+1)) else none else none else none else some (.tup [.bool false,.int .i64 0]):=by kernel_rfl
theorem solve.Flat.ev:B6 solve.Flat.E N f24 (As f24) [.agg [.int .i64 r,.int .i64 c,.ints .arg .u64 l]]=bif (Ak l) then bif ((Cs r c l) !=(0:Int)) then some (.tup [.bool false,.int .i64 (Cs r c l)]) else solve.Flat.L0 N N r c l 0 [] else none:=by kernel_rfl
end
abbrev _root_.Go.Proofs.S1.solve.Flat.Kn:=A9 prog 24 solve.Flat.spec
theorem solve.Flat.Ae (hk:A3 prog solve.Flat.Bf) (h:Hyp solve.Flat.E f24 solve.Flat.ts solve.Flat.pre solve.Flat.out):solve.Flat.Kn :=
 Am (A5 hk _ _ _) func24 (by kernel_rfl) (by kernel_rfl) h
end EqSol
open Go Go.Den Go.Cv Go.Proofs
open EqSol
theorem solve.Er.known:solve.Er.Kn:=solve.Er.Ae .nil fun i k _=>by
 refine ⟨0,solve.Er.out [.i i,.i k],[],?_,.bool⟩
 rw [solve.Er.ev,Aw]; rfl
theorem At0.known:Gq.Gn.up.Kn:=Gq.Gn.up.Ae .nil fun n k hp=>by
 have hp:=Ao.1 (show Cr (0≤k∧k<n∧n≤10)=true from hp)
 refine ⟨0,Gq.Gn.up.out [.i n,.i k],[],?_,.int⟩
 rw [Gq.Gn.up.ev,Ar (x:=n-1) (by omega) (by omega),Ar (by omega) (by omega)]; rfl
theorem Aa.of.Bb.own.known:Aa.of.Bb.own.Kn:=Aa.of.Bb.own.Ae (.cons Aa.Ej.known .nil) fun a b hp=>by
 have h1:(Br a&&Br b)=true:=hp
 obtain ⟨ha,hb⟩:=Af.1 h1
 obtain ⟨A,rfl,hA⟩:=Gb ha
 obtain ⟨B,rfl,hB⟩:=Gb hb
 refine ⟨8,.agg [.int .i64 (A:Int),.int .i64 (B:Int),.ints (.own 108002 tB) .u64 (C4 A B fun (i j:Nat)=>(0:Int))],[],?_,Wk.Mk (.cons .int (.cons .int (.cons (.keep _ _ _ _ List.not_mem_nil) .nil)))⟩
 have n:=of.Bb.outer 8 hA hB (by omega) (F:=fun (i j:Nat)=>(0:Int)) (fun _ _=>rfl) A 0 8 (by omega) (by omega)
 rw [Mz] at n
 exact (EqOf.Aa.of.Bb.ev 8 (A:Int) (B:Int)).trans n
theorem Aa.Bb.own.known:Aa.Bb.own.Kn:=Aa.Bb.own.Ae (.cons Aa.of.Bb.own.known (.cons Aa.size.known .nil)) fun a b hp=>by
 have hp:(Br a&&Br b)=true:=hp
 obtain ⟨ha,hb⟩:=Af.1 hp
 refine ⟨0,Aa.Bb.own.out [.i a,.i b],[],?_,?_⟩
 ·rw [Aa.Bb.own.ev,ha,hb]; rfl
 ·exact Wk.Jp (.cons (Wk.Mk (.cons .int (.cons .int (.cons (.keep _ _ _ _ List.not_mem_nil) .nil)))) (.cons .int .nil))
section
variable {n Q:Nat} {l m:List Int}
def upF (n Q:Nat) (l m:List Int) (i j:Nat):Int:=(Rf (n:Int) l (fun i=>Cp (Q:Int) m (i:Int) (j:Int)) n n).getD i 0
def upD (n j k a b:Nat):Bool:=decide (b<j∨(b=j∧n-k≤a))
def Y9 (n Q:Nat) (l m:List Int) (j k:Nat):List Int:=C4 n Q fun a b=>if upD n j k a b=true then upF n Q l m a b else 0
theorem Aso (i j:Nat):Al (upF n Q l m i j)=true:=Ag9 (Akt _ _ _ _ _) i
theorem A0v (j k:Nat):Ak (Y9 n Q l m j k)=true:=Nc fun a b=>by
 split
 ·exact Aso _ _
 ·exact Co (n:=0) (by decide)
theorem Axh {j k t:Nat} (ht:t<n) (hj:j<Q) (hk:n-k≤t):Cp (Q:Int) (Y9 n Q l m j k) (t:Int) (j:Int)=upF n Q l m t j:=by
 unfold Y9
 have hd:upD n j k t j=true:=A78 (.inr ⟨rfl,hk⟩)
 rw [Jx ht hj,hd,A8u rfl]
theorem Af1 (j k:Nat):(Y9 n Q l m j k).length=n*Q:=Cf _ _ _
theorem Asj (N:Nat) (n6:n≤6) (q6:Q≤6) (hl:l.length=n*n) (al:Ak l=true) {i j k:Nat} (hi:i+k+1=n) (hj:j<Q) (M0 M1:Nat) (p29 p33:Int) :
 ∀ (cnt t F:Nat) (s:Int),t+cnt=n→cnt<F→i+1≤t→Al s=true →
 solve.Bt.Up.L2 N M0 M1 F (n:Int) (n:Int) l (n:Int) (Q:Int) m (n:Int) s (t:Int) (j:Int) (i:Int) p29 p33 (Y9 n Q l m j k) =
 solve.Bt.Up.L1 N M0 M1 (n:Int) (n:Int) l (n:Int) (Q:Int) m (n:Int) (Ad (p33+(1:Int))) (List.set (Y9 n Q l m j k) (toNat ((i:Int)*(Q:Int)+(j:Int))) (Hr (Pg (n:Int) l (i:Int) s (t:Int) ((Rf (n:Int) l (fun i=>Cp (Q:Int) m (i:Int) (j:Int)) n n).drop t)) (Cp (n:Int) l (i:Int) (i:Int)))) (j:Int) p29:=by
 intro cnt
 induction cnt with
 | zero =>
   intro t F s ht hF hit hs
   obtain ⟨F,rfl⟩:∃ G,F=G+1:=⟨F-1,by omega⟩
   obtain ⟨e1,g1,g2⟩:=Oq (R:=(n:Int)) (Jn n6 n6 hl (show i<n by omega) (show i<n by omega))
   obtain ⟨e2,g3,g4⟩:=Oq (R:=(n:Int)) (Jn n6 q6 (Af1 (l:=l) (m:=m) j k) (show i<n by omega) hj)
   rw [A8l (by rw [Mp]; omega),Pg]
   rw [solve.Bt.Up.Kp,Aw,A8c (show ¬ (t:Int)<(n:Int) by omega),A8b,e1,A78 g1,A78 g2,A8d,A77,hs,show Al (getD l (toNat ((i:Int)*(n:Int)+(i:Int))) 0)=true from Sa (c:=(n:Int)) al,A8d,A77,
    e2,A78 g3,A78 g4,A8d,A77,A78 (show toNat ((i:Int)*(Q:Int)+(j:Int))<(Y9 n Q l m j k).length by omega),A77]
   rfl
 | succ cnt ih =>
   intro t F s ht hF hit hs
   obtain ⟨F,rfl⟩:∃ G,F=G+1:=⟨F-1,by omega⟩
   obtain ⟨e1,g1,g2⟩:=Oq (R:=(n:Int)) (Jn n6 n6 hl (show i<n by omega) (show t<n by omega))
   obtain ⟨e2,g3,g4⟩:=Oq (R:=(n:Int)) (Jn n6 q6 (Af1 (l:=l) (m:=m) j k) (show t<n by omega) hj)
   have hx:getD (Y9 n Q l m j k) (toNat ((t:Int)*(Q:Int)+(j:Int))) 0=upF n Q l m t j:=Axh (by omega) hj (by omega)
   rw [solve.Bt.Up.Kp,Aw,A78 (show (t:Int)<(n:Int) by omega),A77,A78 (show (i:Int)<(t:Int) by omega),A77,e1,A78 g1,A78 g2,A8d,A77,
    e2,A78 g3,A78 g4,A8d,A77,A78 (show toNat ((t:Int)*(Q:Int)+(j:Int))<(Y9 n Q l m j k).length by omega),A77,hx,
    show Al (getD l (toNat ((i:Int)*(n:Int)+(t:Int))) 0)=true from Sa (c:=(n:Int)) al,Aso,A8d,A77,hs,Ku,A8d,A77,Ar (x:=(t:Int)+1) (by omega) (by omega)]
   have:=ih (t+1) F (Eu s (D6 (Cp (n:Int) l (i:Int) (t:Int)) (upF n Q l m t j))) (by omega) (by omega) (by omega) (X7 hs (Ku _ _))
   rw [Aqz (by rw [Mp]; omega)]
   exact this
theorem Axd (N:Nat) (n6:n≤6) {i j k:Nat} (hi:i<n) (M0 M1:Nat) (p29 p33 s:Int):∀ (cnt t F:Nat),t+cnt=i+1 →
 solve.Bt.Up.L2 N M0 M1 (F+cnt) (n:Int) (n:Int) l (n:Int) (Q:Int) m (n:Int) s (t:Int) (j:Int) (i:Int) p29 p33 (Y9 n Q l m j k) =
 solve.Bt.Up.L2 N M0 M1 F (n:Int) (n:Int) l (n:Int) (Q:Int) m (n:Int) s ((i+1:Nat):Int) (j:Int) (i:Int) p29 p33 (Y9 n Q l m j k):=by
 intro cnt
 induction cnt with
 | zero =>
   intro t F ht
   obtain rfl:t=i+1:=by omega
   rfl
 | succ cnt ih =>
   intro t F ht
   rw [← Nat.add_assoc,solve.Bt.Up.Kp,Aw,A78 (show (t:Int)<(n:Int) by omega),A77,A8c (show ¬ (i:Int)<(t:Int) by omega),A8b,Ar (by omega) (by omega)]
   exact ih (t+1) F (by omega)
theorem Axg {i j k:Nat} (hi:i+k+1=n) (hj:j<Q) {x:Int} (hx:x=upF n Q l m i j):List.set (Y9 n Q l m j k) (toNat ((i:Int)*(Q:Int)+(j:Int))) x=Y9 n Q l m j (k+1):=by
 refine Av6 hj hx fun a b ha hb=>?_
 unfold upD
 rw [A8e,A8e]
 omega
theorem Axe (N:Nat) (n6:n≤6) (q6:Q≤6) (hN:7<N) (hl:l.length=n*n) (hm:m.length=n*Q) (al:Ak l=true) (am:Ak m=true) {j:Nat} (hj:j<Q) (M0:Nat):∀ (cnt k F:Nat),k+cnt=n→cnt<F →
 solve.Bt.Up.L1 N M0 F (n:Int) (n:Int) l (n:Int) (Q:Int) m (n:Int) (k:Int) (Y9 n Q l m j k) (j:Int) (j:Int) =
 solve.Bt.Up.L0 N M0 (n:Int) (n:Int) l (n:Int) (Q:Int) m (n:Int) ((j+1:Nat):Int) (Y9 n Q l m j n):=by
 intro cnt
 induction cnt with
 | zero =>
   intro k F hk hF
   obtain ⟨F,rfl⟩:∃ G,F=G+1:=⟨F-1,by omega⟩
   obtain rfl:k=n:=by omega
   rw [solve.Bt.Up.Cy,Aw,A8c (by omega),A8b,Ar (by omega) (by omega)]
   rfl
 | succ cnt ih =>
   intro k F hk hF
   obtain ⟨F,rfl⟩:∃ G,F=G+1:=⟨F-1,by omega⟩
   obtain ⟨i,hi⟩:∃ i:Nat,i+k+1=n:=⟨n-k-1,by omega⟩
   have ei:(n:Int)-1-(k:Int)=(i:Int):=by omega
   obtain ⟨e2,g3,g4⟩:=Oq (R:=(n:Int)) (Jn n6 q6 hm (show i<n by omega) hj)
   rw [solve.Bt.Up.Cy,Aw,A78 (show (k:Int)<(n:Int) by omega),A77,Ao.2 (show 0≤(k:Int)∧(k:Int)<(n:Int)∧(n:Int)≤10 by omega),A77,ei,e2,A78 g3,A78 g4,A8d,A77]
   obtain ⟨G,rfl⟩:∃ G,N=G+(i+1):=⟨N-(i+1),by omega⟩
   have hs:=Axd (n:=n) (Q:=Q) (l:=l) (m:=m) (G+(i+1)) n6 (i:=i) (j:=j) (k:=k) (by omega) M0 F (j:Int) (k:Int) (Cp (Q:Int) m (i:Int) (j:Int)) (i+1) 0 G (by omega)
   have hr:=Asj (n:=n) (Q:=Q) (l:=l) (m:=m) (G+(i+1)) n6 q6 hl al hi hj M0 F (j:Int) (k:Int) (n-(i+1)) (i+1) G (Cp (Q:Int) m (i:Int) (j:Int)) (by omega) (by omega) (by omega) (Sa (c:=(Q:Int)) am)
   rw [Axg hi hj (Anf (show i<n by omega)).symm,Ar (by omega) (by omega)] at hr
   exact (hs.trans hr).trans (ih (k+1) F (by omega) (by omega))
theorem Asn (j:Nat):Y9 n Q l m j n=Y9 n Q l m (j+1) 0:=by
 unfold Y9
 refine F1 fun a b ha hb=>?_
 have:upD n j n a b=upD n (j+1) 0 a b:=by
  unfold upD
  rw [decide_eq_decide]
  omega
 rw [this]
theorem Asm:Y9 n Q l m 0 0=C4 n Q fun _ _=>0:=by
 unfold Y9
 refine F1 fun a b ha hb=>?_
 have:upD n 0 0 a b=false:=A8c (by omega)
 rw [this]; rfl
theorem Axi:Y9 n Q l m Q 0=upG (n:Int) l (Q:Int) m n Q:=by
 unfold Y9 upG
 refine F1 fun a b ha hb=>?_
 have:upD n Q 0 a b=true:=A78 (.inl hb)
 rw [this]; rfl
theorem Axf (N:Nat) (n6:n≤6) (q6:Q≤6) (hN:7<N) (hl:l.length=n*n) (hm:m.length=n*Q) (al:Ak l=true) (am:Ak m=true):∀ (cnt j F:Nat),j+cnt=Q→cnt<F →
 solve.Bt.Up.L0 N F (n:Int) (n:Int) l (n:Int) (Q:Int) m (n:Int) (j:Int) (Y9 n Q l m j 0) =
 bif Ff (Y9 n Q l m Q 0) then some (.tup [.agg [.int .i64 (n:Int),.int .i64 (Q:Int),.ints (.own 112002 tB) .u64 (Y9 n Q l m Q 0)],.int .i64 (0:Int)]) else some (Ayq 2):=by
 intro cnt
 induction cnt with
 | zero =>
   intro j F hj hF
   obtain ⟨F,rfl⟩:∃ G,F=G+1:=⟨F-1,by omega⟩
   obtain rfl:j=Q:=by omega
   have h36:=A83 n6 q6
   rw [solve.Bt.Up.A1,Aw,A8c (by omega),A8b,Mt (A0v _ _) (by rw [Af1]; omega),A77]
   cases Ff (Y9 n j l m j 0)<;>rfl
 | succ cnt ih =>
   intro j F hj hF
   obtain ⟨F,rfl⟩:∃ G,F=G+1:=⟨F-1,by omega⟩
   have hr:=Axe N n6 q6 hN hl hm al am (show j<Q by omega) F n 0 N (by omega) (by omega)
   rw [Asn] at hr
   rw [solve.Bt.Up.A1,Aw,A78 (show (j:Int)<(Q:Int) by omega),A77]
   exact hr.trans (ih (j+1) F (by omega) (by omega))
end
theorem solve.Bt.Up.known:solve.Bt.Up.Kn:=solve.Bt.Up.Ae (.cons At0.known (.cons Aa.Bb.own.known (.cons solve.Er.known (.cons Ac.Div.known (.cons Ac.Finite.known (.cons Ac.Mul.known (.cons Ac.Sub.known .nil))))))) fun r c l p q m n hp=>by
 show ∃ N dv drops,_=some dv∧Wk drops dv (Vo (Vz r q (upG c l q m (toNat r) (toNat q))))
 obtain ⟨h1,hn⟩:=Af.1 (show (Af6 r c l p q m&&decide (n=r))=true from hp)
 obtain ⟨h2,h3⟩:=Af.1 h1
 obtain ⟨hr,hm⟩:=Af.1 h2
 obtain ⟨h4,h5⟩:=Af.1 h3
 obtain ⟨al,am⟩:=Af.1 h4
 obtain ⟨rfl,rfl⟩:=Ao.1 h5
 obtain rfl:=A8x hn
 have s1:=(K2 hr).1
 have s2:=(K2 hm).2
 obtain ⟨R,C,rfl,hC,r6,c6,hl⟩:=Dl hr
 obtain ⟨P,Q,hP,rfl,p6,q6,hl2⟩:=Dl hm
 obtain rfl:R=C:=by omega
 obtain rfl:R=P:=by omega
 have h:=Axf (n:=R) (Q:=Q) (l:=l) (m:=m) 8 r6 q6 (by omega) hl hl2 al am Q 0 8 (by omega) (by omega)
 rw [Asm,Axi,show ((0:Nat):Int)=0 from rfl] at h
 rw [A79,A79]
 unfold Vz
 cases hf:Ff (upG (R:Int) l (Q:Int) m R Q) with
 | true =>
   rw [hf,A77] at h
   rw [A8u rfl]
   refine ⟨8,.tup [.agg [.int .i64 (R:Int),.int .i64 (Q:Int),.ints (.own 112002 tB) .u64 (upG (R:Int) l (Q:Int) m R Q)],.int .i64 0],[112002],?_,Wk.Jp (.cons (Aft (List.mem_singleton.2 rfl)) (.cons .int .nil))⟩
   rw [solve.Bt.Up.ev,s1,s2,A8d,A77,A79,A79]
   exact h
 | false =>
   rw [hf,A8b] at h
   rw [A8t (by decide)]
   refine ⟨8,Ayq 2,[],?_,Lp⟩
   rw [solve.Bt.Up.ev,s1,s2,A8d,A77,A79,A79]
   exact h
open Go Go.Den Go.Cv Go.Proofs
set_option maxRecDepth 100000
namespace EqFew
def qr.F3.Bf:List (Nat × Entry):=[(123,Aa.Mul.spec),(167,Aa.Ea.spec)]
def qr.F3.E:Env:=Bk (Be qr.F3.Bf) (fun _=>false) (fun _=>none) (fun _=>none)
theorem qr.F3.ev (N:Nat) (r c:Int) (l:List Int) (p q:Int) (m:List Int):B6 qr.F3.E N f98 (As f98) [.agg [.int .i64 r,.int .i64 c,.ints .arg .u64 l],.agg [.int .i64 p,.int .i64 q,.ints .arg .u64 m]]=bif (((Gr r c l).2.2.2) !=(0:Int)) then some (.tup [.agg [.int .i64 0,.int .i64 0,.nil],.int .i64 ((Gr r c l).2.2.2)]) else bif (Ak ((Gr r c l).2.2.1)&&Ak m) then some (.tup [.agg [.int .i64 ((Vs ((Gr r c l).1) ((Gr r c l).2.1) ((Gr r c l).2.2.1) p q m).1),.int .i64 ((Vs ((Gr r c l).1) ((Gr r c l).2.1) ((Gr r c l).2.2.1) p q m).2.1),.ints .fresh .u64 ((Vs ((Gr r c l).1) ((Gr r c l).2.1) ((Gr r c l).2.2.1) p q m).2.2.1)],.int .i64 ((Vs ((Gr r c l).1) ((Gr r c l).2.1) ((Gr r c l).2.2.1) p q m).2.2.2)]) else none:=by kernel_rfl
abbrev _root_.Go.Proofs.S1.qr.F3.Kn:=A9 prog 98 qr.F3.spec
theorem qr.F3.Ae (hk:A3 prog qr.F3.Bf) (h:Hyp qr.F3.E f98 qr.F3.ts qr.F3.pre qr.F3.out):qr.F3.Kn :=
 Am (A5 hk _ _ _) func98 (by kernel_rfl) (by kernel_rfl) h
end EqFew
end Go.Proofs.S1
end
