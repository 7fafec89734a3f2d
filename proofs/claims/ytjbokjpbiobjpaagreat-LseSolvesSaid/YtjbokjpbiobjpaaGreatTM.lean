/- A verified evaluator of the program's form and its use for this seat: S1EqLow, S1PLow, S1EqLse, S1PLse, S1POfS, S1EqRef20, S1PSubSt, S1PLseA, S1PRefL, S1PRef20. -/
import Derived.Test.YtjbokjpbiobjpaaGreatTE
import Derived.Test.YtjbokjpbiobjpaaGreatTF
import Derived.Test.YtjbokjpbiobjpaaGreatTL
import Derived.Test.YtjbokjpbiobjpaaGreatTK
set_option linter.unusedVariables false
set_option linter.unusedSimpArgs false
noncomputable section
namespace Go.Proofs.S1
open Go Go.Den Go.Rnd Go.Proofs
set_option maxRecDepth 100000
namespace EqLow
def Dl.Dk.down.A8:List (Nat × Entry):=[]
def Dl.Dk.down.E:Env:=A9 (A7 Dl.Dk.down.A8) (fun _=>false) (fun _=>none) (fun _=>none)
theorem Dl.Dk.down.ev (N:Nat) (n k:Int):Bp Dl.Dk.down.E N Tryz.f77 (Al Tryz.f77) [.int .i64 n,.int .i64 k]=some (.int .i64 k):=by kernel_rfl
abbrev _root_.Go.Proofs.S1.Dl.Dk.down.Kn:=A5 Tryz.prog 77 Dl.Dk.down.spec
theorem Dl.Dk.down.Ac (hk:Ay Tryz.prog Dl.Dk.down.A8) (h:∀ (n k:Int),Dl.Dk.down.pre [.i n,.i k]=true→Ba Dl.Dk.down.E Tryz.f77 [.int .i64 n,.int .i64 k] (Dl.Dk.down.out [.i n,.i k])):Dl.Dk.down.Kn :=
  Aj (A1 hk _ _ _) Tryz.func77 (by kernel_rfl) (by kernel_rfl) h
def solve.E8.A8:List (Nat × Entry):=[]
def solve.E8.E:Env:=A9 (A7 solve.E8.A8) (fun _=>false) (fun _=>none) (fun _=>none)
theorem solve.E8.ev (N:Nat) (i k:Int):Bp solve.E8.E N Tryz.f78 (Al Tryz.f78) [.int .i64 i,.int .i64 k]=some (.bool (A6 k i)):=by kernel_rfl
abbrev _root_.Go.Proofs.S1.solve.E8.Kn:=A5 Tryz.prog 78 solve.E8.spec
theorem solve.E8.Ac (hk:Ay Tryz.prog solve.E8.A8) (h:∀ (i k:Int),solve.E8.pre [.i i,.i k]=true→Ba solve.E8.E Tryz.f78 [.int .i64 i,.int .i64 k] (solve.E8.out [.i i,.i k])):solve.E8.Kn :=
  Aj (A1 hk _ _ _) Tryz.func78 (by kernel_rfl) (by kernel_rfl) h
def solve.A2.Lo.hint:Nat→Option Bb
  | 0=>some { keep:=[2,3,4,5,8,10,11,28,29],objs:=[(12,2,112002,.ints 37 .u64 [])],boxes:=[4,5,8,11] }
  | 2=>some { keep:=[2,3,4,5,8,10,11,13,28,29,32,33],objs:=[(12,2,112002,.ints 37 .u64 [])],boxes:=[4,5,8,11] }
  | 4=>some { keep:=[2,3,4,5,8,10,11,13,15,16,28,29,32,33,49,50],objs:=[(12,2,112002,.ints 37 .u64 [])],boxes:=[4,5,8,11] }
  | _=>none
def solve.A2.Lo.A8:List (Nat × Entry):=[(77,Dl.Dk.down.spec),(151,Aa.Bm.own.spec),(78,solve.E8.spec),(158,Ah.Div.spec),(150,Ah.Finite.spec),(157,Ah.Mul.spec),(156,Ah.Sub.spec)]
def solve.A2.Lo.E:Env:=A9 (A7 solve.A2.Lo.A8) (fun n=>Nat.beq n 24) solve.A2.Lo.hint (fun _=>none)
def solve.A2.Lo.L0 (N M:Nat) (r c:Int) (l:List Int) (p q:Int) (m:List Int) (n p29:Int) (p2_2:List Int):Option DV:=Bv solve.A2.Lo.E N Tryz.f76 (Al Tryz.f76) [1,1,1,0,1,0] [] M ⟨Ft 108 [(2,.fn 77 [.int .i64 n] []),(3,.fn 78 [] []),(4,.ptr 4 0 0),(5,.ptr 5 0 0),(8,.ptr 8 0 0),(10,.int .i64 r),(11,.ptr 11 0 0),(28,.int .i64 q),(29,.int .i64 p29)],[(4,false,.box [.int .i64 r,.int .i64 c,.ints .arg .u64 l]),(5,false,.box [.int .i64 p,.int .i64 q,.ints .arg .u64 m]),(8,false,.box [.int .i64 0,.int .i64 0,.nil]),(11,false,.box [.int .i64 r,.int .i64 q,.oref 112002]),(112002,false,.ints 37 .u64 p2_2)]⟩
def solve.A2.Lo.L1 (N M0 M:Nat) (r c:Int) (l:List Int) (p q:Int) (m:List Int) (n p33:Int) (p2:List Int) (p13 p29_1:Int):Option DV:=Bv solve.A2.Lo.E N Tryz.f76 (Al Tryz.f76) [1,1,1,0,1,0,0,1,1,0,0,1,0,1,1,0] [M0] M ⟨Ft 108 [(2,.fn 77 [.int .i64 n] []),(3,.fn 78 [] []),(4,.ptr 4 0 0),(5,.ptr 5 0 0),(8,.ptr 8 0 0),(10,.int .i64 r),(11,.ptr 11 0 0),(13,.int .i64 p13),(28,.int .i64 q),(29,.int .i64 p29_1),(32,.int .i64 r),(33,.int .i64 p33)],[(4,false,.box [.int .i64 r,.int .i64 c,.ints .arg .u64 l]),(5,false,.box [.int .i64 p,.int .i64 q,.ints .arg .u64 m]),(8,false,.box [.int .i64 0,.int .i64 0,.nil]),(11,false,.box [.int .i64 r,.int .i64 q,.oref 112002]),(112002,false,.ints 37 .u64 p2)]⟩
def solve.A2.Lo.L2 (N M0 M1 M:Nat) (r c:Int) (l:List Int) (p q:Int) (m:List Int) (n p16:Int) (p50 p13_1:Int) (p15 p29_2 p33_1:Int) (p2_1:List Int):Option DV:=Bv solve.A2.Lo.E N Tryz.f76 (Al Tryz.f76) [1,1,1,0,1,0,0,1,1,0,0,1,0,1,1,0,0,1,1,0,0,1,1,1,0,1,0] [M0,M1] M ⟨Ft 108 [(2,.fn 77 [.int .i64 n] []),(3,.fn 78 [] []),(4,.ptr 4 0 0),(5,.ptr 5 0 0),(8,.ptr 8 0 0),(10,.int .i64 r),(11,.ptr 11 0 0),(13,.int .i64 p13_1),(15,.int .i64 p15),(16,.int .u64 p16),(28,.int .i64 q),(29,.int .i64 p29_2),(32,.int .i64 r),(33,.int .i64 p33_1),(49,.int .i64 r),(50,.int .i64 p50)],[(4,false,.box [.int .i64 r,.int .i64 c,.ints .arg .u64 l]),(5,false,.box [.int .i64 p,.int .i64 q,.ints .arg .u64 m]),(8,false,.box [.int .i64 0,.int .i64 0,.nil]),(11,false,.box [.int .i64 r,.int .i64 q,.oref 112002]),(112002,false,.ints 37 .u64 p2_1)]⟩
theorem solve.A2.Lo.Au (N M:Nat) (r c:Int) (l:List Int) (p q:Int) (m:List Int) (n p29:Int) (p2_2:List Int):solve.A2.Lo.L0 N (M+1) r c l p q m n p29 p2_2=bif (A6 p29 q) then solve.A2.Lo.L1 N M N r c l p q m n 0 p2_2 p29 p29 else bif (Cz p2_2) then bif (!(Di p2_2)) then some (.tup [.agg [.int .i64 0,.int .i64 0,.nil],.int .i64 2]) else some (.tup [.agg [.int .i64 r,.int .i64 q,.ints (.own 112002 37) .u64 p2_2],.int .i64 0]) else none:=by kernel_rfl
theorem solve.A2.Lo.B2 (N M0 M:Nat) (r c:Int) (l:List Int) (p q:Int) (m:List Int) (n p33:Int) (p2:List Int) (p13 p29_1:Int):solve.A2.Lo.L1 N M0 (M+1) r c l p q m n p33 p2 p13 p29_1=bif (A6 p33 r) then bif ((decide (0≤(Ab ((Ab (p33*q))+p13))))&&(decide ((Ab ((Ab (p33*q))+p13))<(List.length m:Int)))) then solve.A2.Lo.L2 N M0 M N r c l p q m n (List.getD m (Int.toNat (Ab ((Ab (p33*q))+p13))) 0) 0 p13 p33 p29_1 p33 p2 else none else solve.A2.Lo.L0 N M0 r c l p q m n (Ab (p29_1+1)) p2:=by kernel_rfl
theorem solve.A2.Lo.Fp (N M0 M1 M:Nat) (r c:Int) (l:List Int) (p q:Int) (m:List Int) (n p16:Int) (p50 p13_1:Int) (p15 p29_2 p33_1:Int) (p2_1:List Int):solve.A2.Lo.L2 N M0 M1 (M+1) r c l p q m n p16 p50 p13_1 p15 p29_2 p33_1 p2_1=bif (A6 p50 r) then bif (decide (p50<p15)) then bif ((decide (0≤(Ab ((Ab (p15*r))+p50))))&&(decide ((Ab ((Ab (p15*r))+p50))<(List.length l:Int)))) then bif ((decide (0≤(Ab ((Ab (p50*q))+p13_1))))&&(decide ((Ab ((Ab (p50*q))+p13_1))<(List.length p2_1:Int)))) then bif (decide ((Int.toNat (Ab ((Ab (p50*q))+p13_1)))<(List.length p2_1))) then bif (Ag (List.getD l (Int.toNat (Ab ((Ab (p15*r))+p50))) 0)&&Ag (List.getD p2_1 (Int.toNat (Ab ((Ab (p50*q))+p13_1))) 0)) then bif (Ag p16&&Ag (D1 (List.getD l (Int.toNat (Ab ((Ab (p15*r))+p50))) 0) (List.getD p2_1 (Int.toNat (Ab ((Ab (p50*q))+p13_1))) 0))) then solve.A2.Lo.L2 N M0 M1 M r c l p q m n (Db p16 (D1 (List.getD l (Int.toNat (Ab ((Ab (p15*r))+p50))) 0) (List.getD p2_1 (Int.toNat (Ab ((Ab (p50*q))+p13_1))) 0))) (Ab (p50+1)) p13_1 p15 p29_2 p33_1 p2_1 else none else none else none else none else none else solve.A2.Lo.L2 N M0 M1 M r c l p q m n p16 (Ab (p50+1)) p13_1 p15 p29_2 p33_1 p2_1 else bif ((decide (0≤(Ab ((Ab (p15*r))+p15))))&&(decide ((Ab ((Ab (p15*r))+p15))<(List.length l:Int)))) then bif (Ag p16&&Ag (List.getD l (Int.toNat (Ab ((Ab (p15*r))+p15))) 0)) then bif ((decide (0≤(Ab ((Ab (p15*q))+p13_1))))&&(decide ((Ab ((Ab (p15*q))+p13_1))<(List.length p2_1:Int)))) then bif (decide ((Int.toNat (Ab ((Ab (p15*q))+p13_1)))<(List.length p2_1))) then solve.A2.Lo.L1 N M0 M1 r c l p q m n (Ab (p33_1+1)) (List.set p2_1 (Int.toNat (Ab ((Ab (p15*q))+p13_1))) (Ew p16 (List.getD l (Int.toNat (Ab ((Ab (p15*r))+p15))) 0))) p13_1 p29_2 else none else none else none else none :=
  Eq.trans (by kernel_rfl)
  (Ea (Ea (Cq (Jw (decide (0≤(Ab ((Ab (p15*r))+p50)))) (decide ((Ab ((Ab (p15*r))+p50))<(List.length l:Int)))) (Cq (Jw (decide (0≤(Ab ((Ab (p50*q))+p13_1)))) (decide ((Ab ((Ab (p50*q))+p13_1))<(List.length p2_1:Int)))) (Cq (Ci (decide ((Int.toNat (Ab ((Ab (p50*q))+p13_1)))<(List.length p2_1)))) (Cq (Ci (Ag (List.getD l (Int.toNat (Ab ((Ab (p15*r))+p50))) 0)&&Ag (List.getD p2_1 (Int.toNat (Ab ((Ab (p50*q))+p13_1))) 0))) (Cq (Ci (Ag p16&&Ag (D1 (List.getD l (Int.toNat (Ab ((Ab (p15*r))+p50))) 0) (List.getD p2_1 (Int.toNat (Ab ((Ab (p50*q))+p13_1))) 0)))) rfl rfl) rfl) rfl) rfl) rfl) rfl) (Cq (Jw (decide (0≤(Ab ((Ab (p15*r))+p15)))) (decide ((Ab ((Ab (p15*r))+p15))<(List.length l:Int)))) (Cq (Ci (Ag p16&&Ag (List.getD l (Int.toNat (Ab ((Ab (p15*r))+p15))) 0))) (Cq (Jw (decide (0≤(Ab ((Ab (p15*q))+p13_1)))) (decide ((Ab ((Ab (p15*q))+p13_1))<(List.length p2_1:Int)))) (Cq (Ci (decide ((Int.toNat (Ab ((Ab (p15*q))+p13_1)))<(List.length p2_1)))) rfl rfl) rfl) rfl) rfl))
theorem solve.A2.Lo.ev (N:Nat) (r c:Int) (l:List Int) (p q:Int) (m:List Int) (n:Int):Bp solve.A2.Lo.E N Tryz.f76 (Al Tryz.f76) [.agg [.int .i64 r,.int .i64 c,.ints .arg .u64 l],.agg [.int .i64 p,.int .i64 q,.ints .arg .u64 m],.fn 77 [.int .i64 n] [],.fn 78 [] []]=bif (Bn r&&Bn q) then solve.A2.Lo.L0 N N r c l p q m n 0 (Bg (Int.toNat r) (Int.toNat q) (fun _ _=>0)) else none:=by kernel_rfl
abbrev _root_.Go.Proofs.S1.solve.A2.Lo.Kn:=A5 Tryz.prog 76 solve.A2.Lo.spec
theorem solve.A2.Lo.Ac (hk:Ay Tryz.prog solve.A2.Lo.A8) (h:∀ (r c:Int) (l:List Int) (p q:Int) (m:List Int) (n:Int),solve.A2.Lo.pre [.i r,.i c,.l l,.i p,.i q,.l m,.i n]=true→Ba solve.A2.Lo.E Tryz.f76 [.agg [.int .i64 r,.int .i64 c,.ints .arg .u64 l],.agg [.int .i64 p,.int .i64 q,.ints .arg .u64 m],.fn 77 [.int .i64 n] [],.fn 78 [] []] (solve.A2.Lo.out [.i r,.i c,.l l,.i p,.i q,.l m,.i n])):solve.A2.Lo.Kn :=
  Aj (A1 hk _ _ _) Tryz.func76 (by kernel_rfl) (by kernel_rfl) h
def solve.Cs.A8:List (Nat × Entry):=[(75,solve.check.spec),(76,solve.A2.Lo.spec)]
def solve.Cs.E:Env:=A9 (A7 solve.Cs.A8) (fun _=>false) (fun _=>none) (fun _=>none)
theorem solve.Cs.ev (N:Nat) (r c:Int) (l:List Int) (p q:Int) (m:List Int):Bp solve.Cs.E N Tryz.f22 (Al Tryz.f22) [.agg [.int .i64 r,.int .i64 c,.ints .arg .u64 l],.agg [.int .i64 p,.int .i64 q,.ints .arg .u64 m]]=bif (Ae l&&Ae m) then bif ((Lv r c l p q m) !=(0:Int)) then some (.tup [.agg [.int .i64 0,.int .i64 0,.nil],.int .i64 (Lv r c l p q m)]) else bif (Qr r c l p q m&&decide (r=r)) then some (.tup [.agg [.int .i64 ((G0 r q (loG c l q m (Int.toNat r) (Int.toNat q))).1),.int .i64 ((G0 r q (loG c l q m (Int.toNat r) (Int.toNat q))).2.1),.ints .fresh .u64 ((G0 r q (loG c l q m (Int.toNat r) (Int.toNat q))).2.2.1)],.int .i64 ((G0 r q (loG c l q m (Int.toNat r) (Int.toNat q))).2.2.2)]) else none else none:=by kernel_rfl
abbrev _root_.Go.Proofs.S1.solve.Cs.Kn:=A5 Tryz.prog 22 solve.Cs.spec
theorem solve.Cs.Ac (hk:Ay Tryz.prog solve.Cs.A8) (h:∀ (r c:Int) (l:List Int) (p q:Int) (m:List Int),solve.Cs.pre [.i r,.i c,.l l,.i p,.i q,.l m]=true→Ba solve.Cs.E Tryz.f22 [.agg [.int .i64 r,.int .i64 c,.ints .arg .u64 l],.agg [.int .i64 p,.int .i64 q,.ints .arg .u64 m]] (solve.Cs.out [.i r,.i c,.l l,.i p,.i q,.l m])):solve.Cs.Kn :=
  Aj (A1 hk _ _ _) Tryz.func22 (by kernel_rfl) (by kernel_rfl) h
def A0.Cs.hint:Nat→Option Bb
  | 0=>some { keep:=[2,3,4,6,7],objs:=[],boxes:=[2,3,4,6] }
  | 2=>some { keep:=[2,3,4,6,7,8],objs:=[],boxes:=[2,3,4,6] }
  | 4=>some { keep:=[2,3,4,6,7,8,9,10],objs:=[],boxes:=[2,3,4,6] }
  | _=>none
def A0.Cs.A8:List (Nat × Entry):=[(84,Ak.Div.spec),(82,Ak.Mul.spec),(81,Ak.Sub.spec),(80,Af.At.spec),(83,Af.F5.spec),(35,Af.Bm.spec),(79,A0.Check.spec),(85,A0.finite.spec)]
def A0.Cs.E:Env:=A9 (A7 A0.Cs.A8) (fun _=>false) A0.Cs.hint (fun _=>none)
def A0.Cs.L0 (N M:Nat) (r c:Int) (l:List Int) (p q:Int) (m:List Int) (p7:Int) (p6_2:List Int):Option DV:=Bv A0.Cs.E N Tryz.f23 (Al Tryz.f23) [1,1,1,0,1,0] [] M ⟨Ft 70 [(2,.ptr 2 0 0),(3,.ptr 3 0 0),(4,.ptr 4 0 0),(6,.ptr 6 0 0),(7,.int .i64 p7)],[(2,false,.box [.int .i64 r,.int .i64 c,.ints .arg .u64 l]),(3,false,.box [.int .i64 p,.int .i64 q,.ints .arg .u64 m]),(4,false,.box [.int .i64 0,.int .i64 0,.nil]),(6,false,.box [.int .i64 p,.int .i64 q,.ints .fresh .u64 p6_2])]⟩
def A0.Cs.L1 (N M0 M:Nat) (r c:Int) (l:List Int) (p q:Int) (m:List Int) (p8:Int) (p6:List Int) (p7_1:Int):Option DV:=Bv A0.Cs.E N Tryz.f23 (Al Tryz.f23) [1,1,1,0,1,0,0,1,0,0,1,0] [M0] M ⟨Ft 70 [(2,.ptr 2 0 0),(3,.ptr 3 0 0),(4,.ptr 4 0 0),(6,.ptr 6 0 0),(7,.int .i64 p7_1),(8,.int .i64 p8)],[(2,false,.box [.int .i64 r,.int .i64 c,.ints .arg .u64 l]),(3,false,.box [.int .i64 p,.int .i64 q,.ints .arg .u64 m]),(4,false,.box [.int .i64 0,.int .i64 0,.nil]),(6,false,.box [.int .i64 p,.int .i64 q,.ints .fresh .u64 p6])]⟩
def A0.Cs.L2 (N M0 M1 M:Nat) (r c:Int) (l:List Int) (p q:Int) (m:List Int) (p7_2 p8_1 p9:Int) (p6_1:List Int) (p10:Int):Option DV:=Bv A0.Cs.E N Tryz.f23 (Al Tryz.f23) [1,1,1,0,1,0,0,1,0,0,1,0,0,1,0,0,1,0,1,0] [M0,M1] M ⟨Ft 70 [(2,.ptr 2 0 0),(3,.ptr 3 0 0),(4,.ptr 4 0 0),(6,.ptr 6 0 0),(7,.int .i64 p7_2),(8,.int .i64 p8_1),(9,.int .u64 p9),(10,.int .i64 p10)],[(2,false,.box [.int .i64 r,.int .i64 c,.ints .arg .u64 l]),(3,false,.box [.int .i64 p,.int .i64 q,.ints .arg .u64 m]),(4,false,.box [.int .i64 0,.int .i64 0,.nil]),(6,false,.box [.int .i64 p,.int .i64 q,.ints .fresh .u64 p6_1])]⟩
theorem A0.Cs.Au (N M:Nat) (r c:Int) (l:List Int) (p q:Int) (m:List Int) (p7:Int) (p6_2:List Int):A0.Cs.L0 N (M+1) r c l p q m p7 p6_2=bif (A6 p7 q) then A0.Cs.L1 N M N r c l p q m 0 p6_2 p7 else bif (Ae p6_2&&Av p q p6_2) then some (.tup [.agg [.int .i64 ((G0 p q p6_2).1),.int .i64 ((G0 p q p6_2).2.1),.ints .arg .u64 ((G0 p q p6_2).2.2.1)],.int .i64 ((G0 p q p6_2).2.2.2)]) else none:=by kernel_rfl
theorem A0.Cs.B2 (N M0 M:Nat) (r c:Int) (l:List Int) (p q:Int) (m:List Int) (p8:Int) (p6:List Int) (p7_1:Int):A0.Cs.L1 N M0 (M+1) r c l p q m p8 p6 p7_1=bif (A6 p8 r) then bif (Cd p q m p8 p7_1) then A0.Cs.L2 N M0 M N r c l p q m p7_1 p8 (Cj q m p8 p7_1) p6 (0:Int) else none else A0.Cs.L0 N M0 r c l p q m (Ab (p7_1+1)) p6:=by kernel_rfl
theorem A0.Cs.Fp (N M0 M1 M:Nat) (r c:Int) (l:List Int) (p q:Int) (m:List Int) (p7_2 p8_1 p9:Int) (p6_1:List Int) (p10:Int):A0.Cs.L2 N M0 M1 (M+1) r c l p q m p7_2 p8_1 p9 p6_1 p10=bif (A6 p10 p8_1) then bif (Cd r c l p8_1 p10) then bif (Cd p q p6_1 p10 p7_2) then bif (Ag (Cj c l p8_1 p10)&&Ag (Cj q p6_1 p10 p7_2)) then bif (Ag p9&&Ag (D1 (Cj c l p8_1 p10) (Cj q p6_1 p10 p7_2))) then A0.Cs.L2 N M0 M1 M r c l p q m p7_2 p8_1 (Db p9 (D1 (Cj c l p8_1 p10) (Cj q p6_1 p10 p7_2))) p6_1 (Ab (p10+1)) else none else none else none else none else bif (Cd r c l p8_1 p8_1) then bif (Ag p9&&Ag (Cj c l p8_1 p8_1)) then bif (Cd p q p6_1 p8_1 p7_2) then A0.Cs.L1 N M0 M1 r c l p q m (Ab (p8_1+1)) (List.set p6_1 (Int.toNat (p8_1*q+p7_2)) (Ew p9 (Cj c l p8_1 p8_1))) p7_2 else none else none else none :=
  Eq.trans (by kernel_rfl)
  (Ea (Cq (Ci (Cd r c l p8_1 p10)) (Cq (Ci (Cd p q p6_1 p10 p7_2)) (Cq (Ci (Ag (Cj c l p8_1 p10)&&Ag (Cj q p6_1 p10 p7_2))) (Cq (Ci (Ag p9&&Ag (D1 (Cj c l p8_1 p10) (Cj q p6_1 p10 p7_2)))) rfl rfl) rfl) rfl) rfl) (Cq (Ci (Cd r c l p8_1 p8_1)) (Cq (Ci (Ag p9&&Ag (Cj c l p8_1 p8_1))) (Cq (Ci (Cd p q p6_1 p8_1 p7_2)) rfl rfl) rfl) rfl))
theorem A0.Cs.ev (N:Nat) (r c:Int) (l:List Int) (p q:Int) (m:List Int):Bp A0.Cs.E N Tryz.f23 (Al Tryz.f23) [.agg [.int .i64 r,.int .i64 c,.ints .arg .u64 l],.agg [.int .i64 p,.int .i64 q,.ints .arg .u64 m]]=bif (Ae l&&Ae m) then bif ((Lv r c l p q m) !=(0:Int)) then bif (Ae l&&Ae m) then some (.tup [.agg [.int .i64 0,.int .i64 0,.nil],.int .i64 (Lv r c l p q m)]) else none else bif (Bn p&&Bn q) then A0.Cs.L0 N N r c l p q m 0 (Bg (Int.toNat p) (Int.toNat q) (fun _ _=>0)) else none else none:=by kernel_rfl
abbrev _root_.Go.Proofs.S1.A0.Cs.Kn:=A5 Tryz.prog 23 A0.Cs.spec
theorem A0.Cs.Ac (hk:Ay Tryz.prog A0.Cs.A8) (h:∀ (r c:Int) (l:List Int) (p q:Int) (m:List Int),A0.Cs.pre [.i r,.i c,.l l,.i p,.i q,.l m]=true→Ba A0.Cs.E Tryz.f23 [.agg [.int .i64 r,.int .i64 c,.ints .arg .u64 l],.agg [.int .i64 p,.int .i64 q,.ints .arg .u64 m]] (A0.Cs.out [.i r,.i c,.l l,.i p,.i q,.l m])):A0.Cs.Kn :=
  Aj (A1 hk _ _ _) Tryz.func23 (by kernel_rfl) (by kernel_rfl) h
def A0.Flat.hint:Nat→Option Bb
  | 0=>some { keep:=[1,3,4],objs:=[],boxes:=[1] }
  | 2=>some { keep:=[1,3,5],objs:=[],boxes:=[1] }
  | _=>none
def A0.Flat.A8:List (Nat × Entry):=[(94,Br.H3.spec),(93,Br.Max.spec),(95,Br.Order.spec),(96,Ak.Bt.spec),(80,Af.At.spec)]
def A0.Flat.E:Env:=A9 (A7 A0.Flat.A8) (fun _=>false) A0.Flat.hint (fun _=>none)
def A0.Flat.L0 (N M:Nat) (r c:Int) (l:List Int) (p3 p4:Int):Option DV:=Bv A0.Flat.E N Tryz.f26 (Al Tryz.f26) [1,1,0,1,0] [] M ⟨Ft 52 [(1,.ptr 1 0 0),(3,.int .u64 p3),(4,.int .i64 p4)],[(1,false,.box [.int .i64 r,.int .i64 c,.ints .arg .u64 l])]⟩
def A0.Flat.L1 (N M:Nat) (r c:Int) (l:List Int) (p5 p3_1:Int):Option DV:=Bv A0.Flat.E N Tryz.f26 (Al Tryz.f26) [1,1,1,0,1,0] [] M ⟨Ft 52 [(1,.ptr 1 0 0),(3,.int .u64 p3_1),(5,.int .i64 p5)],[(1,false,.box [.int .i64 r,.int .i64 c,.ints .arg .u64 l])]⟩
theorem A0.Flat.Au (N M:Nat) (r c:Int) (l:List Int) (p3 p4:Int):A0.Flat.L0 N (M+1) r c l p3 p4=bif ((A6 p4 r)&&(A6 p4 c)) then bif (Cd r c l p4 p4) then bif (Ag (Cj c l p4 p4)) then bif (Ag p3&&Ag (Jq (Cj c l p4 p4))) then A0.Flat.L0 N M r c l (O6 p3 (Jq (Cj c l p4 p4))) (Ab (p4+1)) else none else none else none else A0.Flat.L1 N N r c l 0 p3 :=
  Eq.trans (by kernel_rfl)
  (Ar (On (A6 p4 r)) (Ar (On (A6 p4 r)) (Ar (Mb (A6 p4 r)) (Ar (Ab8 (A6 p4 r)) (Ar (Tw (A6 p4 r)) (Cq (tt1 (A6 p4 r) (A6 p4 c)) rfl rfl))))))
theorem A0.Flat.B2 (N M:Nat) (r c:Int) (l:List Int) (p5 p3_1:Int):A0.Flat.L1 N (M+1) r c l p5 p3_1=bif ((A6 p5 r)&&(A6 p5 c)) then bif (Dj p3_1 (-40:Int)) then bif (Cd r c l p5 p5) then bif (Ag (Cj c l p5 p5)) then bif (Ag (By p3_1 (-40:Int))&&Ag (Jq (Cj c l p5 p5))) then bif (Ep 0 (Ta (By p3_1 (-40:Int)) (Jq (Cj c l p5 p5)))) then some (.bool true) else A0.Flat.L1 N M r c l (Ab (p5+1)) p3_1 else none else none else none else none else some (.bool false) :=
  Eq.trans (by kernel_rfl)
  (Ar (On (A6 p5 r)) (Ar (On (A6 p5 r)) (Ar (Mb (A6 p5 r)) (Ar (Ab8 (A6 p5 r)) (Ar (Tw (A6 p5 r)) (Cq (tt1 (A6 p5 r) (A6 p5 c)) (Cq (Ci (Dj p3_1 (-40:Int))) (Cq (Ci (Cd r c l p5 p5)) (Cq (Ci (Ag (Cj c l p5 p5))) (Cq (Ci (Ag (By p3_1 (-40:Int))&&Ag (Jq (Cj c l p5 p5)))) rfl rfl) rfl) rfl) rfl) rfl))))))
theorem A0.Flat.ev (N:Nat) (r c:Int) (l:List Int):Bp A0.Flat.E N Tryz.f26 (Al Tryz.f26) [.agg [.int .i64 r,.int .i64 c,.ints .arg .u64 l]] =
  A0.Flat.L0 N N r c l 0 0:=by kernel_rfl
abbrev _root_.Go.Proofs.S1.A0.Flat.Kn:=A5 Tryz.prog 26 A0.Flat.spec
theorem A0.Flat.Ac (hk:Ay Tryz.prog A0.Flat.A8) (h:∀ (r c:Int) (l:List Int),A0.Flat.pre [.i r,.i c,.l l]=true→Ba A0.Flat.E Tryz.f26 [.agg [.int .i64 r,.int .i64 c,.ints .arg .u64 l]] (A0.Flat.out [.i r,.i c,.l l])):A0.Flat.Kn :=
  Aj (A1 hk _ _ _) Tryz.func26 (by kernel_rfl) (by kernel_rfl) h
end EqLow
open EqLow
theorem solve.E8.known:solve.E8.Kn:=solve.E8.Ac .nil fun i k _=>by
  refine ⟨0,solve.E8.out [.i i,.i k],[],?_,.bool⟩
  rw [solve.E8.ev,Aq]; rfl
theorem Ahs.known:Dl.Dk.down.Kn:=Dl.Dk.down.Ac .nil fun n k _=>⟨0,Dl.Dk.down.out [.i n,.i k],[],by rw [Dl.Dk.down.ev]; rfl,.int⟩
section
variable {n Q:Nat} {l m:List Int}
def loF (n Q:Nat) (l m:List Int) (i j:Nat):Int:=(loL (n:Int) l (fun i=>Cj (Q:Int) m (i:Int) (j:Int)) n).getD i 0
def loD (j k a b:Nat):Bool:=decide (b<j∨(b=j∧a<k))
def Sl (n Q:Nat) (l m:List Int) (j k:Nat):List Int:=Bg n Q fun a b=>if loD j k a b=true then loF n Q l m a b else 0
theorem Ah7 (i j:Nat):Ag (loF n Q l m i j)=true:=U5 (Ah6 _ _ _ _) i
theorem Ao6 (j k:Nat):Ae (Sl n Q l m j k)=true:=Ez fun a b=>by
  split
  · exact Ah7 _ _
  · exact Jd
theorem Ajs {j k t:Nat} (ht:t<n) (hj:j<Q) (hk:t<k):Cj (Q:Int) (Sl n Q l m j k) (t:Int) (j:Int)=loF n Q l m t j:=by
  unfold Sl
  have hd:loD j k t j=true:=Ay7 (.inr ⟨rfl,hk⟩)
  rw [Aj1 ht hj,hd,if_pos rfl]
theorem R5 (j k:Nat):(Sl n Q l m j k).length=n*Q:=Ca _ _ _
theorem Ajr {i j:Nat} (hj:j<Q) {x:Int} (hx:x=loF n Q l m i j):List.set (Sl n Q l m j i) (Int.toNat ((i:Int)*(Q:Int)+(j:Int))) x=Sl n Q l m j (i+1):=by
  refine Zr hj hx fun a b ha hb=>?_
  unfold loD
  rw [Azd,Azd]
  omega
theorem Afo (j:Nat):Sl n Q l m j n=Sl n Q l m (j+1) 0:=by
  unfold Sl
  refine Dx fun a b ha hb=>?_
  have:loD j n a b=loD (j+1) 0 a b:=by
    unfold loD
    rw [decide_eq_decide]
    omega
  rw [this]
theorem Afn:Sl n Q l m 0 0=Bg n Q fun _ _=>0:=by
  unfold Sl
  refine Dx fun a b ha hb=>?_
  have:loD 0 0 a b=false:=Azb (by omega)
  rw [this]; rfl
theorem Ajt:Sl n Q l m Q 0=loG (n:Int) l (Q:Int) m n Q:=by
  unfold Sl loG
  refine Dx fun a b ha hb=>?_
  have:loD Q 0 a b=true:=Ay7 (.inl hb)
  rw [this]; rfl
def loR (n Q:Nat) (l m:List Int) (i j t:Nat) (s:Int):Int:=N0 (n:Int) l (i:Int) s (t:Int) (((loL (n:Int) l (fun i=>Cj (Q:Int) m (i:Int) (j:Int)) n).take i).drop t)
theorem Ac7 {i j:Nat} (hi:i<n) (s:Int):loR n Q l m i j i s=s:=by
  unfold loR
  rw [Azk (by rw [List.length_take,J1]; omega),N0]
theorem Afp {i j t:Nat} (hi:i<n) (ht:t<i) (s:Int):loR n Q l m i j t s=loR n Q l m i j (t+1) (Db s (D1 (Cj (n:Int) l (i:Int) (t:Int)) (loF n Q l m t j))):=by
  unfold loR loF
  rw [V7 (by rw [List.length_take,J1]; omega),Azg,List.getElem?_take_of_lt ht,← Azg]
  rfl
theorem Aju {i j:Nat} (hi:i<n):Ew (loR n Q l m i j 0 (Cj (Q:Int) m (i:Int) (j:Int))) (Cj (n:Int) l (i:Int) (i:Int))=loF n Q l m i j:=by
  unfold loR loF
  rw [List.drop_zero,Asi hi]; rfl
theorem Ao4 (N:Nat) (n6:n≤6) (q6:Q≤6) (hl:l.length=n*n) (al:Ae l=true) {i j:Nat} (hi:i<n) (hj:j<Q) (M0 M1:Nat) (p29 p33:Int) :
    ∀ (cnt t F:Nat) (s:Int),t+cnt=n→cnt<F→Ag s=true→(i<t→t≤n) →
    solve.A2.Lo.L2 N M0 M1 F (n:Int) (n:Int) l (n:Int) (Q:Int) m (n:Int) s (t:Int) (j:Int) (i:Int) p29 p33 (Sl n Q l m j i) =
    solve.A2.Lo.L1 N M0 M1 (n:Int) (n:Int) l (n:Int) (Q:Int) m (n:Int) (Ab (p33+(1:Int))) (List.set (Sl n Q l m j i) (Int.toNat ((i:Int)*(Q:Int)+(j:Int))) (Ew (if t<i then loR n Q l m i j t s else s) (Cj (n:Int) l (i:Int) (i:Int)))) (j:Int) p29:=by
  intro cnt
  induction cnt with
  | zero =>
    intro t F s ht hF hs _
    obtain ⟨F,rfl⟩:∃ G,F=G+1:=⟨F-1,by omega⟩
    obtain ⟨e1,g1,g2⟩:=Hz (R:=(n:Int)) (Cy n6 n6 hl hi hi)
    obtain ⟨e2,g3,g4⟩:=Hz (R:=(n:Int)) (Cy n6 q6 (R5 (l:=l) (m:=m) j i) hi hj)
    rw [if_neg (by omega)]
    rw [solve.A2.Lo.Fp,Aq,Azb (show ¬ (t:Int)<(n:Int) by omega),Aza,e1,Ay7 g1,Ay7 g2,Azc,Ay6,hs,show Ag (List.getD l (Int.toNat ((i:Int)*(n:Int)+(i:Int))) 0)=true from Ey (c:=(n:Int)) al,Azc,Ay6,
      e2,Ay7 g3,Ay7 g4,Azc,Ay6,Ay7 (show Int.toNat ((i:Int)*(Q:Int)+(j:Int))<(Sl n Q l m j i).length by omega),Ay6]
    rfl
  | succ cnt ih =>
    intro t F s ht hF hs _
    obtain ⟨F,rfl⟩:∃ G,F=G+1:=⟨F-1,by omega⟩
    by_cases hti:t<i
    · obtain ⟨e1,g1,g2⟩:=Hz (R:=(n:Int)) (Cy n6 n6 hl hi (show t<n by omega))
      obtain ⟨e2,g3,g4⟩:=Hz (R:=(n:Int)) (Cy n6 q6 (R5 (l:=l) (m:=m) j i) (show t<n by omega) hj)
      have hx:List.getD (Sl n Q l m j i) (Int.toNat ((t:Int)*(Q:Int)+(j:Int))) 0=loF n Q l m t j:=Ajs (by omega) hj hti
      have:=ih (t+1) F (Db s (D1 (Cj (n:Int) l (i:Int) (t:Int)) (loF n Q l m t j))) (by omega) (by omega) (Kz hs (Ia _ _)) (by omega)
      rw [if_pos hti,Afp hi hti]
      rw [solve.A2.Lo.Fp,Aq,Ay7 (show (t:Int)<(n:Int) by omega),Ay6,Ay7 (show (t:Int)<(i:Int) by omega),Ay6,e1,Ay7 g1,Ay7 g2,Azc,Ay6,
        e2,Ay7 g3,Ay7 g4,Azc,Ay6,Ay7 (show Int.toNat ((t:Int)*(Q:Int)+(j:Int))<(Sl n Q l m j i).length by omega),Ay6,hx,
        show Ag (List.getD l (Int.toNat ((i:Int)*(n:Int)+(t:Int))) 0)=true from Ey (c:=(n:Int)) al,Ah7,Azc,Ay6,hs,Ia,Azc,Ay6,Am (x:=(t:Int)+1) (by omega) (by omega)]
      have e:(if t+1<i then loR n Q l m i j (t+1) (Db s (D1 (Cj (n:Int) l (i:Int) (t:Int)) (loF n Q l m t j))) else Db s (D1 (Cj (n:Int) l (i:Int) (t:Int)) (loF n Q l m t j)))=loR n Q l m i j (t+1) (Db s (D1 (Cj (n:Int) l (i:Int) (t:Int)) (loF n Q l m t j))):=by
        by_cases h2:t+1<i
        · rw [if_pos h2]
        · rw [if_neg h2,show t+1=i by omega,Ac7 hi]
      rw [e] at this
      exact this
    · have:=ih (t+1) F s (by omega) (by omega) hs (by omega)
      rw [if_neg hti,solve.A2.Lo.Fp,Aq,Ay7 (show (t:Int)<(n:Int) by omega),Ay6,Azb (show ¬ (t:Int)<(i:Int) by omega),Aza,Am (by omega) (by omega)]
      rw [if_neg (by omega)] at this
      exact this
theorem Asg (N:Nat) (n6:n≤6) (q6:Q≤6) (hN:7<N) (hl:l.length=n*n) (hm:m.length=n*Q) (al:Ae l=true) (am:Ae m=true) {j:Nat} (hj:j<Q) (M0:Nat):∀ (cnt k F:Nat),k+cnt=n→cnt<F →
    solve.A2.Lo.L1 N M0 F (n:Int) (n:Int) l (n:Int) (Q:Int) m (n:Int) (k:Int) (Sl n Q l m j k) (j:Int) (j:Int) =
    solve.A2.Lo.L0 N M0 (n:Int) (n:Int) l (n:Int) (Q:Int) m (n:Int) ((j+1:Nat):Int) (Sl n Q l m j n):=by
  intro cnt
  induction cnt with
  | zero =>
    intro k F hk hF
    obtain ⟨F,rfl⟩:∃ G,F=G+1:=⟨F-1,by omega⟩
    obtain rfl:k=n:=by omega
    rw [solve.A2.Lo.B2,Aq,Azb (by omega),Aza,Am (by omega) (by omega)]
    rfl
  | succ cnt ih =>
    intro k F hk hF
    obtain ⟨F,rfl⟩:∃ G,F=G+1:=⟨F-1,by omega⟩
    obtain ⟨e2,g3,g4⟩:=Hz (R:=(n:Int)) (Cy n6 q6 hm (show k<n by omega) hj)
    have hr:=Ao4 (n:=n) (Q:=Q) (l:=l) (m:=m) N n6 q6 hl al (show k<n by omega) hj M0 F (j:Int) (k:Int) n 0 N (Cj (Q:Int) m (k:Int) (j:Int)) (by omega) (by omega) (Ey (c:=(Q:Int)) am) (by omega)
    have e:(if 0<k then loR n Q l m k j 0 (Cj (Q:Int) m (k:Int) (j:Int)) else Cj (Q:Int) m (k:Int) (j:Int))=loR n Q l m k j 0 (Cj (Q:Int) m (k:Int) (j:Int)):=by
      by_cases h:0<k
      · rw [if_pos h]
      · obtain rfl:k=0:=by omega
        rw [if_neg h,Ac7 (by omega)]
    rw [e,Ajr hj (Aju (by omega)),Am (by omega) (by omega)] at hr
    rw [solve.A2.Lo.B2,Aq,Ay7 (show (k:Int)<(n:Int) by omega),Ay6,e2,Ay7 g3,Ay7 g4,Azc,Ay6]
    exact hr.trans (ih (k+1) F (by omega) (by omega))
theorem Ash (N:Nat) (n6:n≤6) (q6:Q≤6) (hN:7<N) (hl:l.length=n*n) (hm:m.length=n*Q) (al:Ae l=true) (am:Ae m=true):∀ (cnt j F:Nat),j+cnt=Q→cnt<F →
    solve.A2.Lo.L0 N F (n:Int) (n:Int) l (n:Int) (Q:Int) m (n:Int) (j:Int) (Sl n Q l m j 0) =
    bif Di (Sl n Q l m Q 0) then some (.tup [.agg [.int .i64 (n:Int),.int .i64 (Q:Int),.ints (.own 112002 tB) .u64 (Sl n Q l m Q 0)],.int .i64 (0:Int)]) else some (Ahu 2):=by
  intro cnt
  induction cnt with
  | zero =>
    intro j F hj hF
    obtain ⟨F,rfl⟩:∃ G,F=G+1:=⟨F-1,by omega⟩
    obtain rfl:j=Q:=by omega
    have h36:=Nat.mul_le_mul n6 q6
    rw [solve.A2.Lo.Au,Aq,Azb (by omega),Aza,I3 (Ao6 _ _) (by rw [R5]; omega),Ay6]
    cases Di (Sl n j l m j 0)<;>rfl
  | succ cnt ih =>
    intro j F hj hF
    obtain ⟨F,rfl⟩:∃ G,F=G+1:=⟨F-1,by omega⟩
    have hr:=Asg N n6 q6 hN hl hm al am (show j<Q by omega) F n 0 N (by omega) (by omega)
    rw [Afo] at hr
    rw [solve.A2.Lo.Au,Aq,Ay7 (show (j:Int)<(Q:Int) by omega),Ay6]
    exact hr.trans (ih (j+1) F (by omega) (by omega))
end
theorem solve.A2.Lo.known:solve.A2.Lo.Kn:=solve.A2.Lo.Ac (.cons Ahs.known (.cons Aa.Bm.own.known (.cons solve.E8.known (.cons Ah.Div.known (.cons Ah.Finite.known (.cons Ah.Mul.known (.cons Ah.Sub.known .nil))))))) fun r c l p q m n hp=>by
  show ∃ N dv drops,_=some dv∧Wk drops dv (S9 (G0 r q (loG c l q m (Int.toNat r) (Int.toNat q))))
  obtain ⟨h1,hn⟩:=Ad.1 (show (Qr r c l p q m&&decide (n=r))=true from hp)
  obtain ⟨h2,h3⟩:=Ad.1 h1
  obtain ⟨hr,hm⟩:=Ad.1 h2
  obtain ⟨h4,h5⟩:=Ad.1 h3
  obtain ⟨al,am⟩:=Ad.1 h4
  obtain ⟨rfl,rfl⟩:=Aw.1 h5
  obtain rfl:=of_decide_eq_true hn
  have s1:=(E1 hr).1
  have s2:=(E1 hm).2
  obtain ⟨R,C,rfl,hC,r6,c6,hl⟩:=B8 hr
  obtain ⟨P,Q,hP,rfl,p6,q6,hl2⟩:=B8 hm
  obtain rfl:R=C:=by omega
  obtain rfl:R=P:=by omega
  have h:=Ash (n:=R) (Q:=Q) (l:=l) (m:=m) 8 r6 q6 (by omega) hl hl2 al am Q 0 8 (by omega) (by omega)
  rw [Afn,Ajt,show ((0:Nat):Int)=0 from rfl] at h
  rw [Ay8,Ay8]
  unfold G0
  cases hf:Di (loG (R:Int) l (Q:Int) m R Q) with
  | true =>
    rw [hf,Ay6] at h
    rw [if_pos rfl]
    refine ⟨8,.tup [.agg [.int .i64 (R:Int),.int .i64 (Q:Int),.ints (.own 112002 tB) .u64 (loG (R:Int) l (Q:Int) m R Q)],.int .i64 0],[112002],?_,Wk.G6 (.cons (Qo (List.mem_singleton.2 rfl)) (.cons .int .nil))⟩
    rw [solve.A2.Lo.ev,s1,s2,Azc,Ay6,Ay8,Ay8]
    exact h
  | false =>
    rw [hf,Aza] at h
    rw [if_neg (by decide)]
    refine ⟨8,Ahu 2,[],?_,Jo⟩
    rw [solve.A2.Lo.ev,s1,s2,Azc,Ay6,Ay8,Ay8]
    exact h
theorem solve.Cs.known:solve.Cs.Kn:=solve.Cs.Ac (.cons solve.check.known (.cons solve.A2.Lo.known .nil)) fun r c l p q m hp=>by
  have hp:(Ae l&&Ae m)=true:=hp
  show ∃ N dv drops,_=some dv∧Wk drops dv (S9 (Qh r c l p q m))
  unfold Qh
  by_cases h:Lv r c l p q m=0
  · obtain ⟨h1,h2,h3,h4⟩:=M4 h
    have ht:Qr r c l p q m=true:=Ad.2 ⟨Ad.2 ⟨h1,h2⟩,Ad.2 ⟨hp,Aw.2 ⟨h3,h4⟩⟩⟩
    rw [if_neg (by rw [h]; decide)]
    exact ⟨0,_,[],by rw [solve.Cs.ev,hp,Ay6,En h,Aza,ht,Ay7 rfl]; rfl,Oa⟩
  · rw [if_pos h]
    exact ⟨0,_,[],by rw [solve.Cs.ev,hp,Ay6,Od h,Ay6]; rfl,Jo⟩
namespace EqLse
def Dw.Check.hint:Nat→Option Bb
  | 0=>some { keep:=[1,16,17],objs:=[],boxes:=[1] }
  | _=>none
def Dw.Check.A8:List (Nat × Entry):=[(86,Cv.Check.spec)]
def Dw.Check.E:Env:=A9 (A7 Dw.Check.A8) (fun _=>false) Dw.Check.hint (fun _=>none)
theorem Dw.Check.ev (N:Nat) (r c:Int) (l:List Int) (p q:Int) (m:List Int) (a b:Int) (g:List Int) (u v:Int) (h:List Int):Bp Dw.Check.E (N+6) Tryz.f120 (Al Tryz.f120) [.agg [.int .i64 r,.int .i64 c,.ints .arg .u64 l,.int .i64 p,.int .i64 q,.ints .arg .u64 m,.int .i64 a,.int .i64 b,.ints .arg .u64 g,.int .i64 u,.int .i64 v,.ints .arg .u64 h]]=bif (Ae l) then bif ((B1 r c l) !=(0:Int)) then some (.int .i64 (B1 r c l)) else bif (Ae m) then bif ((B1 p q m) !=(0:Int)) then some (.int .i64 (B1 p q m)) else bif (Ae g) then bif ((B1 a b g) !=(0:Int)) then some (.int .i64 (B1 a b g)) else bif (Ae h) then bif ((B1 u v h) !=(0:Int)) then some (.int .i64 (B1 u v h)) else bif (((((((q !=c)||(a !=r))||(u !=p))||(b !=(1:Int)))||(v !=(1:Int)))||(A6 c p))||(A6 (Ab (r+p)) c)) then some (.int .i64 3) else some (.int .i64 0) else none else none else none else none :=
  Eq.trans (by kernel_rfl)
  (Ea (Ea rfl (Ea (Ea rfl (Ea (Ea rfl (Ea (Ea rfl (Ar (Rs (q !=c)) (Ar (Pg (q !=c)) (Ar (Pg (q !=c)) (Ar (Rs (q !=c)) (Ar (Pg (q !=c)) (Ar (Pg (q !=c)) (Ar (tt8 (q !=c)) (Ar (Xb (q !=c)) (Ar (Aeb (q !=c) (a !=r)) (Ar (Ab4 (q !=c) (a !=r)) (Ar (Ab4 (q !=c) (a !=r)) (Ar (Aeb (q !=c) (a !=r)) (Ar (Aq1 (q !=c) (a !=r)) (Ar (Aq5 (q !=c) (a !=r)) (Ar (Aq6 (q !=c) (a !=r) (u !=p)) (Ar (Aec (q !=c) (a !=r) (u !=p)) (Ar (Aec (q !=c) (a !=r) (u !=p)) (Ar (Aec (q !=c) (a !=r) (u !=p)) (Ar (Aq7 (q !=c) (a !=r) (u !=p)) (Ar (Ako (q !=c) (a !=r) (u !=p) (b !=(1:Int))) (Ar (Aed (q !=c) (a !=r) (u !=p) (b !=(1:Int))) (Ar (Aed (q !=c) (a !=r) (u !=p) (b !=(1:Int))) (Ar (Aed (q !=c) (a !=r) (u !=p) (b !=(1:Int))) (Ar (Aq8 (q !=c) (a !=r) (u !=p) (b !=(1:Int))) (Ar (Akp (q !=c) (a !=r) (u !=p) (b !=(1:Int)) (v !=(1:Int))) (Ar (Akp (q !=c) (a !=r) (u !=p) (b !=(1:Int)) (v !=(1:Int))) (Ar (At7 (q !=c) (a !=r) (u !=p) (b !=(1:Int)) (v !=(1:Int))) (Ar (At8 (q !=c) (a !=r) (u !=p) (b !=(1:Int)) (v !=(1:Int))) (Ar (Ab6 (q !=c) (a !=r) (u !=p) (b !=(1:Int)) (v !=(1:Int)) (A6 c p)) (Ar (Ab6 (q !=c) (a !=r) (u !=p) (b !=(1:Int)) (v !=(1:Int)) (A6 c p)) (Ar (Ab5 (q !=c) (a !=r) (u !=p) (b !=(1:Int)) (v !=(1:Int)) (A6 c p)) (Ar (Ab5 (q !=c) (a !=r) (u !=p) (b !=(1:Int)) (v !=(1:Int)) (A6 c p)) (Ar (Ab6 (q !=c) (a !=r) (u !=p) (b !=(1:Int)) (v !=(1:Int)) (A6 c p)) (Ar (Akq (q !=c) (a !=r) (u !=p) (b !=(1:Int)) (v !=(1:Int)) (A6 c p)) (Ar (Akq (q !=c) (a !=r) (u !=p) (b !=(1:Int)) (v !=(1:Int)) (A6 c p)) (Ar (At9 (q !=c) (a !=r) (u !=p) (b !=(1:Int)) (v !=(1:Int)) (A6 c p)) (Cq (Av5 (q !=c) (a !=r) (u !=p) (b !=(1:Int)) (v !=(1:Int)) (A6 c p) (A6 (Ab (r+p)) c)) rfl rfl)))))))))))))))))))))))))))))))))))))) rfl)) rfl)) rfl)) rfl)
abbrev _root_.Go.Proofs.S1.Dw.Check.Kn:=A5 Tryz.prog 120 Dw.Check.spec
theorem Dw.Check.Ac (hk:Ay Tryz.prog Dw.Check.A8) (h:∀ (r c:Int) (l:List Int) (p q:Int) (m:List Int) (a b:Int) (g:List Int) (u v:Int) (h:List Int),Dw.Check.pre [.i r,.i c,.l l,.i p,.i q,.l m,.i a,.i b,.l g,.i u,.i v,.l h]=true→Ba Dw.Check.E Tryz.f120 [.agg [.int .i64 r,.int .i64 c,.ints .arg .u64 l,.int .i64 p,.int .i64 q,.ints .arg .u64 m,.int .i64 a,.int .i64 b,.ints .arg .u64 g,.int .i64 u,.int .i64 v,.ints .arg .u64 h]] (Dw.Check.out [.i r,.i c,.l l,.i p,.i q,.l m,.i a,.i b,.l g,.i u,.i v,.l h])):Dw.Check.Kn :=
  Aj (A1 hk _ _ _) Tryz.func120 (by kernel_rfl) (by kernel_rfl) h
def Dw.finite.A8:List (Nat × Entry):=[(86,Cv.Check.spec)]
def Dw.finite.E:Env:=A9 (A7 Dw.finite.A8) (fun _=>false) (fun _=>none) (fun _=>none)
theorem Dw.finite.ev (N:Nat) (r c:Int) (l:List Int) (e:Int):Bp Dw.finite.E N Tryz.f122 (Al Tryz.f122) [.agg [.int .i64 r,.int .i64 c,.ints .arg .u64 l],.int .i64 e]=bif ((!(e==(0:Int)))||(Ae l)) then bif ((e==(0:Int))&&((B1 r c l) !=(0:Int))) then some (.tup [.agg [.int .i64 0,.int .i64 0,.nil],.int .i64 2]) else bif (e !=(0:Int)) then some (.tup [.agg [.int .i64 0,.int .i64 0,.nil],.int .i64 e]) else some (.tup [.agg [.int .i64 r,.int .i64 c,.ints .arg .u64 l],.int .i64 0]) else none :=
  Eq.trans (by kernel_rfl)
  (Ar (On (e==(0:Int))) (Cq (Av7 (e==(0:Int)) (Ae l)) (Ar (Mb (e==(0:Int))) (Ar (Tw (e==(0:Int))) (Cq (tt1 (e==(0:Int)) ((B1 r c l) !=(0:Int))) rfl rfl))) rfl))
abbrev _root_.Go.Proofs.S1.Dw.finite.Kn:=A5 Tryz.prog 122 Dw.finite.spec
theorem Dw.finite.Ac (hk:Ay Tryz.prog Dw.finite.A8) (h:∀ (r c:Int) (l:List Int) (e:Int),Dw.finite.pre [.i r,.i c,.l l,.i e]=true→Ba Dw.finite.E Tryz.f122 [.agg [.int .i64 r,.int .i64 c,.ints .arg .u64 l],.int .i64 e] (Dw.finite.out [.i r,.i c,.l l,.i e])):Dw.finite.Kn :=
  Aj (A1 hk _ _ _) Tryz.func122 (by kernel_rfl) (by kernel_rfl) h
def Dw.held.A8:List (Nat × Entry):=[(124,Aa.Part.spec),(167,Aa.Co.spec),(166,qr.B0.spec),(24,solve.Flat.spec),(22,solve.Cs.spec)]
def Dw.held.live:Nat→Option (List Nat)
  | 5=>some [1,2,3,4,6]
  | 8=>some [1,2,3,7]
  | 9=>some [1,2,3,9]
  | _=>none
def Dw.held.E:Env:=A9 (A7 Dw.held.A8) (fun _=>false) (fun _=>none) Dw.held.live
def Dw.held.C5 (N:Nat) (r c:Int) (l:List Int) (p q:Int) (m:List Int) (a b:Int) (g:List Int) (u v:Int) (h:List Int) (p4 p6 p6_1:Int) (p6_2:List Int) (p5 p5_1:Int) (p5_2:List Int) (p2 p2_1:Int) (p2_2:List Int):Option DV:=cutAt Dw.held.E N Tryz.f121 (Al Tryz.f121) [1,1,1,1,0] [] ⟨Ft 69 [(1,.ptr 1 0 0),(2,.ptr 2 0 0),(3,.ptr 3 0 0),(4,.int .i64 p4),(6,.ptr 6 0 0)],[(6,false,.box [.int .i64 p6,.int .i64 p6_1,.ints .arg .u64 p6_2]),(5,false,.box [.int .i64 p5,.int .i64 p5_1,.ints .fresh .u64 p5_2]),(3,false,.box [.int .i64 0,.int .i64 0,.nil]),(2,false,.box [.int .i64 p2,.int .i64 p2_1,.ints .arg .u64 p2_2]),(1,false,.box [.int .i64 r,.int .i64 c,.ints .arg .u64 l,.int .i64 p,.int .i64 q,.ints .arg .u64 m,.int .i64 a,.int .i64 b,.ints .arg .u64 g,.int .i64 u,.int .i64 v,.ints .arg .u64 h])]⟩
def Dw.held.C8 (N:Nat) (r c:Int) (l:List Int) (p q:Int) (m:List Int) (a b:Int) (g:List Int) (u v:Int) (h:List Int) (p6 p6_1:Int) (p6_2:List Int) (p5 p5_1:Int) (p5_2:List Int) (p2 p2_1:Int) (p2_2:List Int) (p7 p7_1:Int) (p7_2:List Int):Option DV:=cutAt Dw.held.E N Tryz.f121 (Al Tryz.f121) [1,1,1,1,1,1] [] ⟨Ft 69 [(1,.ptr 1 0 0),(2,.ptr 2 0 0),(3,.ptr 3 0 0),(7,.ptr 7 0 0)],[(7,false,.box [.int .i64 p7,.int .i64 p7_1,.ints .fresh .u64 p7_2]),(6,false,.box [.int .i64 p6,.int .i64 p6_1,.ints .arg .u64 p6_2]),(5,false,.box [.int .i64 p5,.int .i64 p5_1,.ints .fresh .u64 p5_2]),(3,false,.box [.int .i64 0,.int .i64 0,.nil]),(2,false,.box [.int .i64 p2,.int .i64 p2_1,.ints .arg .u64 p2_2]),(1,false,.box [.int .i64 r,.int .i64 c,.ints .arg .u64 l,.int .i64 p,.int .i64 q,.ints .arg .u64 m,.int .i64 a,.int .i64 b,.ints .arg .u64 g,.int .i64 u,.int .i64 v,.ints .arg .u64 h])]⟩
def Dw.held.C9 (N:Nat) (r c:Int) (l:List Int) (p q:Int) (m:List Int) (a b:Int) (g:List Int) (u v:Int) (h:List Int) (p6 p6_1:Int) (p6_2:List Int) (p5 p5_1:Int) (p5_2:List Int) (p2 p2_1:Int) (p2_2:List Int) (p7 p7_1:Int) (p7_2:List Int) (p9 p9_1:Int) (p9_2:List Int):Option DV:=cutAt Dw.held.E N Tryz.f121 (Al Tryz.f121) [1,1,1,1,1,1,1,0] [] ⟨Ft 69 [(1,.ptr 1 0 0),(2,.ptr 2 0 0),(3,.ptr 3 0 0),(9,.ptr 9 0 0)],[(9,false,.box [.int .i64 p9,.int .i64 p9_1,.ints .fresh .u64 p9_2]),(7,false,.box [.int .i64 p7,.int .i64 p7_1,.ints .fresh .u64 p7_2]),(6,false,.box [.int .i64 p6,.int .i64 p6_1,.ints .arg .u64 p6_2]),(5,false,.box [.int .i64 p5,.int .i64 p5_1,.ints .fresh .u64 p5_2]),(3,false,.box [.int .i64 0,.int .i64 0,.nil]),(2,false,.box [.int .i64 p2,.int .i64 p2_1,.ints .arg .u64 p2_2]),(1,false,.box [.int .i64 r,.int .i64 c,.ints .arg .u64 l,.int .i64 p,.int .i64 q,.ints .arg .u64 m,.int .i64 a,.int .i64 b,.ints .arg .u64 g,.int .i64 u,.int .i64 v,.ints .arg .u64 h])]⟩
theorem Dw.held.Aqs (N:Nat) (r c:Int) (l:List Int) (p q:Int) (m:List Int) (a b:Int) (g:List Int) (u v:Int) (h:List Int) (p4 p6 p6_1:Int) (p6_2:List Int) (p5 p5_1:Int) (p5_2:List Int) (p2 p2_1:Int) (p2_2:List Int):Dw.held.C5 N r c l p q m a b g u v h p4 p6 p6_1 p6_2 p5 p5_1 p5_2 p2 p2_1 p2_2=bif (p4 !=(0:Int)) then some (.tup [.agg [.int .i64 0,.int .i64 0,.nil],.agg [.int .i64 0,.int .i64 0,.nil],.int .i64 p4]) else Dw.held.C8 N r c l p q m a b g u v h p6 p6_1 p6_2 p5 p5_1 p5_2 p2 p2_1 p2_2 ((F4 p6 p6_1 p6_2 0 0 p p).1) ((F4 p6 p6_1 p6_2 0 0 p p).2.1) ((F4 p6 p6_1 p6_2 0 0 p p).2.2.1):=(Ej _ _ _ _ _ _ _).trans (by kernel_rfl)
theorem Dw.held.Aw9 (N:Nat) (r c:Int) (l:List Int) (p q:Int) (m:List Int) (a b:Int) (g:List Int) (u v:Int) (h:List Int) (p6 p6_1:Int) (p6_2:List Int) (p5 p5_1:Int) (p5_2:List Int) (p2 p2_1:Int) (p2_2:List Int) (p7 p7_1:Int) (p7_2:List Int):Dw.held.C8 N r c l p q m a b g u v h p6 p6_1 p6_2 p5 p5_1 p5_2 p2 p2_1 p2_2 p7 p7_1 p7_2 =
  Dw.held.C9 N r c l p q m a b g u v h p6 p6_1 p6_2 p5 p5_1 p5_2 p2 p2_1 p2_2 p7 p7_1 p7_2 ((Cx p7 p7_1 p7_2).1) ((Cx p7 p7_1 p7_2).2.1) ((Cx p7 p7_1 p7_2).2.2.1):=(Ej _ _ _ _ _ _ _).trans (by kernel_rfl)
theorem Dw.held.Agx (N:Nat) (r c:Int) (l:List Int) (p q:Int) (m:List Int) (a b:Int) (g:List Int) (u v:Int) (h:List Int) (p6 p6_1:Int) (p6_2:List Int) (p5 p5_1:Int) (p5_2:List Int) (p2 p2_1:Int) (p2_2:List Int) (p7 p7_1:Int) (p7_2:List Int) (p9 p9_1:Int) (p9_2:List Int):Dw.held.C9 N r c l p q m a b g u v h p6 p6_1 p6_2 p5 p5_1 p5_2 p2 p2_1 p2_2 p7 p7_1 p7_2 p9 p9_1 p9_2=bif (Ae p9_2) then bif ((Ko p9 p9_1 p9_2).1) then some (.tup [.agg [.int .i64 0,.int .i64 0,.nil],.agg [.int .i64 0,.int .i64 0,.nil],.int .i64 5]) else bif (Ae p9_2&&Ae h) then some (.tup [.agg [.int .i64 p2,.int .i64 p2_1,.ints .arg .u64 p2_2],.agg [.int .i64 ((Qh p9 p9_1 p9_2 u v h).1),.int .i64 ((Qh p9 p9_1 p9_2 u v h).2.1),.ints .fresh .u64 ((Qh p9 p9_1 p9_2 u v h).2.2.1)],.int .i64 ((Qh p9 p9_1 p9_2 u v h).2.2.2)]) else none else none:=(Ej _ _ _ _ _ _ _).trans (by kernel_rfl)
theorem Dw.held.ev (N:Nat) (r c:Int) (l:List Int) (p q:Int) (m:List Int) (a b:Int) (g:List Int) (u v:Int) (h:List Int):Bp Dw.held.E N Tryz.f121 (Al Tryz.f121) [.agg [.int .i64 r,.int .i64 c,.ints .arg .u64 l,.int .i64 p,.int .i64 q,.ints .arg .u64 m,.int .i64 a,.int .i64 b,.ints .arg .u64 g,.int .i64 u,.int .i64 v,.ints .arg .u64 h]]=bif (((Cx p q m).2.2.2) !=(0:Int)) then some (.tup [.agg [.int .i64 0,.int .i64 0,.nil],.agg [.int .i64 0,.int .i64 0,.nil],.int .i64 ((Cx p q m).2.2.2)]) else bif (Ae ((Cx p q m).2.2.1)) then Dw.held.C5 N r c l p q m a b g u v h (Ei ((Cx p q m).1) ((Cx p q m).2.1) ((Cx p q m).2.2.1)) ((rX ((Cx p q m).1) ((Cx p q m).2.1) ((Cx p q m).2.2.1)).1) ((rX ((Cx p q m).1) ((Cx p q m).2.1) ((Cx p q m).2.2.1)).2.1) ((rX ((Cx p q m).1) ((Cx p q m).2.1) ((Cx p q m).2.2.1)).2.2.1) ((Cx p q m).1) ((Cx p q m).2.1) ((Cx p q m).2.2.1) ((qX ((Cx p q m).1) ((Cx p q m).2.1) ((Cx p q m).2.2.1)).1) ((qX ((Cx p q m).1) ((Cx p q m).2.1) ((Cx p q m).2.2.1)).2.1) ((qX ((Cx p q m).1) ((Cx p q m).2.1) ((Cx p q m).2.2.1)).2.2.1) else none:=by kernel_rfl
abbrev _root_.Go.Proofs.S1.Dw.held.Kn:=A5 Tryz.prog 121 Dw.held.spec
theorem Dw.held.Ac (hk:Ay Tryz.prog Dw.held.A8) (h:∀ (r c:Int) (l:List Int) (p q:Int) (m:List Int) (a b:Int) (g:List Int) (u v:Int) (h:List Int),Dw.held.pre [.i r,.i c,.l l,.i p,.i q,.l m,.i a,.i b,.l g,.i u,.i v,.l h]=true→Ba Dw.held.E Tryz.f121 [.agg [.int .i64 r,.int .i64 c,.ints .arg .u64 l,.int .i64 p,.int .i64 q,.ints .arg .u64 m,.int .i64 a,.int .i64 b,.ints .arg .u64 g,.int .i64 u,.int .i64 v,.ints .arg .u64 h]] (Dw.held.out [.i r,.i c,.l l,.i p,.i q,.l m,.i a,.i b,.l g,.i u,.i v,.l h])):Dw.held.Kn :=
  Aj (A1 hk _ _ _) Tryz.func121 (by kernel_rfl) (by kernel_rfl) h
def Dw.Solve.A8:List (Nat × Entry):=[(120,Dw.Check.spec),(122,Dw.finite.spec),(121,Dw.held.spec),(123,Aa.Mul.spec),(124,Aa.Part.spec),(126,Aa.Stack.spec),(125,Aa.Sub.spec),(30,solve.Eb.spec)]
def Dw.Solve.live:Nat→Option (List Nat)
  | 5=>some [1,2,5,6,7]
  | 9=>some [1,2,5,6,7,8,9,10]
  | 12=>some [1,2,5,6,8,9,10,11]
  | 13=>some [1,2,5,6,11,13]
  | 14=>some [1,2,5,6,13,15]
  | 15=>some [2,5,6,7,13,17]
  | 18=>some [2,5,6,7,18]
  | _=>none
def Dw.Solve.E:Env:=A9 (A7 Dw.Solve.A8) (fun _=>false) (fun _=>none) Dw.Solve.live
def Dw.Solve.C5 (N:Nat) (r c:Int) (l:List Int) (p q:Int) (m:List Int) (a b:Int) (g:List Int) (u v:Int) (h:List Int) (p7 p6 p6_1:Int) (p6_2:List Int) (p5 p5_1:Int) (p5_2:List Int):Option DV:=cutAt Dw.Solve.E N Tryz.f47 (Al Tryz.f47) [1,1,1,0] [] ⟨Ft 125 [(1,.ptr 1 0 0),(2,.ptr 2 0 0),(5,.ptr 5 0 0),(6,.ptr 6 0 0),(7,.int .i64 p7)],[(6,false,.box [.int .i64 p6,.int .i64 p6_1,.ints .fresh .u64 p6_2]),(5,false,.box [.int .i64 p5,.int .i64 p5_1,.ints .arg .u64 p5_2]),(2,false,.box [.int .i64 0,.int .i64 0,.nil]),(1,false,.box [.int .i64 r,.int .i64 c,.ints .arg .u64 l,.int .i64 p,.int .i64 q,.ints .arg .u64 m,.int .i64 a,.int .i64 b,.ints .arg .u64 g,.int .i64 u,.int .i64 v,.ints .arg .u64 h])]⟩
def Dw.Solve.C9 (N:Nat) (r c:Int) (l:List Int) (p q:Int) (m:List Int) (a b:Int) (g:List Int) (u v:Int) (h:List Int) (p6 p6_1:Int) (p6_2:List Int) (p5 p5_1:Int) (p5_2:List Int) (p7_1 p10 p10_1:Int) (p10_2:List Int):Option DV:=cutAt Dw.Solve.E N Tryz.f47 (Al Tryz.f47) [1,1,1,1,1,1,0] [] ⟨Ft 125 [(1,.ptr 1 0 0),(2,.ptr 2 0 0),(5,.ptr 5 0 0),(6,.ptr 6 0 0),(7,.int .i64 p7_1),(8,.int .i64 c),(9,.int .i64 p),(10,.ptr 10 0 0)],[(10,false,.box [.int .i64 p10,.int .i64 p10_1,.ints .arg .u64 p10_2]),(6,false,.box [.int .i64 p6,.int .i64 p6_1,.ints .fresh .u64 p6_2]),(5,false,.box [.int .i64 p5,.int .i64 p5_1,.ints .arg .u64 p5_2]),(2,false,.box [.int .i64 0,.int .i64 0,.nil]),(1,false,.box [.int .i64 r,.int .i64 c,.ints .arg .u64 l,.int .i64 p,.int .i64 q,.ints .arg .u64 m,.int .i64 a,.int .i64 b,.ints .arg .u64 g,.int .i64 u,.int .i64 v,.ints .arg .u64 h])]⟩
def Dw.Solve.C12 (N:Nat) (r c:Int) (l:List Int) (p q:Int) (m:List Int) (a b:Int) (g:List Int) (u v:Int) (h:List Int) (p6 p6_1:Int) (p6_2:List Int) (p5 p5_1:Int) (p5_2:List Int) (p10 p10_1:Int) (p10_2:List Int) (p11 p11_1:Int) (p11_2:List Int):Option DV:=cutAt Dw.Solve.E N Tryz.f47 (Al Tryz.f47) [1,1,1,1,1,1,1,1] [] ⟨Ft 125 [(1,.ptr 1 0 0),(2,.ptr 2 0 0),(5,.ptr 5 0 0),(6,.ptr 6 0 0),(8,.int .i64 c),(9,.int .i64 p),(10,.ptr 10 0 0),(11,.ptr 11 0 0)],[(11,false,.box [.int .i64 p11,.int .i64 p11_1,.ints .fresh .u64 p11_2]),(10,false,.box [.int .i64 p10,.int .i64 p10_1,.ints .arg .u64 p10_2]),(6,false,.box [.int .i64 p6,.int .i64 p6_1,.ints .fresh .u64 p6_2]),(5,false,.box [.int .i64 p5,.int .i64 p5_1,.ints .arg .u64 p5_2]),(2,false,.box [.int .i64 0,.int .i64 0,.nil]),(1,false,.box [.int .i64 r,.int .i64 c,.ints .arg .u64 l,.int .i64 p,.int .i64 q,.ints .arg .u64 m,.int .i64 a,.int .i64 b,.ints .arg .u64 g,.int .i64 u,.int .i64 v,.ints .arg .u64 h])]⟩
def Dw.Solve.C13 (N:Nat) (r c:Int) (l:List Int) (p q:Int) (m:List Int) (a b:Int) (g:List Int) (u v:Int) (h:List Int) (p6 p6_1:Int) (p6_2:List Int) (p5 p5_1:Int) (p5_2:List Int) (p10 p10_1:Int) (p10_2:List Int) (p11 p11_1:Int) (p11_2:List Int) (p13 p13_1:Int) (p13_2:List Int):Option DV:=cutAt Dw.Solve.E N Tryz.f47 (Al Tryz.f47) [1,1,1,1,1,1,1,1,1] [] ⟨Ft 125 [(1,.ptr 1 0 0),(2,.ptr 2 0 0),(5,.ptr 5 0 0),(6,.ptr 6 0 0),(11,.ptr 11 0 0),(13,.ptr 13 0 0)],[(13,false,.box [.int .i64 p13,.int .i64 p13_1,.ints .fresh .u64 p13_2]),(11,false,.box [.int .i64 p11,.int .i64 p11_1,.ints .fresh .u64 p11_2]),(10,false,.box [.int .i64 p10,.int .i64 p10_1,.ints .arg .u64 p10_2]),(6,false,.box [.int .i64 p6,.int .i64 p6_1,.ints .fresh .u64 p6_2]),(5,false,.box [.int .i64 p5,.int .i64 p5_1,.ints .arg .u64 p5_2]),(2,false,.box [.int .i64 0,.int .i64 0,.nil]),(1,false,.box [.int .i64 r,.int .i64 c,.ints .arg .u64 l,.int .i64 p,.int .i64 q,.ints .arg .u64 m,.int .i64 a,.int .i64 b,.ints .arg .u64 g,.int .i64 u,.int .i64 v,.ints .arg .u64 h])]⟩
def Dw.Solve.C14 (N:Nat) (r c:Int) (l:List Int) (p q:Int) (m:List Int) (a b:Int) (g:List Int) (u v:Int) (h:List Int) (p6 p6_1:Int) (p6_2:List Int) (p5 p5_1:Int) (p5_2:List Int) (p10 p10_1:Int) (p10_2:List Int) (p11 p11_1:Int) (p11_2:List Int) (p13 p13_1:Int) (p13_2:List Int) (p15 p15_1:Int) (p15_2:List Int):Option DV:=cutAt Dw.Solve.E N Tryz.f47 (Al Tryz.f47) [1,1,1,1,1,1,1,1,1,1] [] ⟨Ft 125 [(1,.ptr 1 0 0),(2,.ptr 2 0 0),(5,.ptr 5 0 0),(6,.ptr 6 0 0),(13,.ptr 13 0 0),(15,.ptr 15 0 0)],[(15,false,.box [.int .i64 p15,.int .i64 p15_1,.ints .fresh .u64 p15_2]),(13,false,.box [.int .i64 p13,.int .i64 p13_1,.ints .fresh .u64 p13_2]),(11,false,.box [.int .i64 p11,.int .i64 p11_1,.ints .fresh .u64 p11_2]),(10,false,.box [.int .i64 p10,.int .i64 p10_1,.ints .arg .u64 p10_2]),(6,false,.box [.int .i64 p6,.int .i64 p6_1,.ints .fresh .u64 p6_2]),(5,false,.box [.int .i64 p5,.int .i64 p5_1,.ints .arg .u64 p5_2]),(2,false,.box [.int .i64 0,.int .i64 0,.nil]),(1,false,.box [.int .i64 r,.int .i64 c,.ints .arg .u64 l,.int .i64 p,.int .i64 q,.ints .arg .u64 m,.int .i64 a,.int .i64 b,.ints .arg .u64 g,.int .i64 u,.int .i64 v,.ints .arg .u64 h])]⟩
def Dw.Solve.C15 (N:Nat) (r c:Int) (l:List Int) (p q:Int) (m:List Int) (a b:Int) (g:List Int) (u v:Int) (h:List Int) (p6 p6_1:Int) (p6_2:List Int) (p5 p5_1:Int) (p5_2:List Int) (p10 p10_1:Int) (p10_2:List Int) (p11 p11_1:Int) (p11_2:List Int) (p13 p13_1:Int) (p13_2:List Int) (p15 p15_1:Int) (p15_2:List Int) (p7_2 p17 p17_1:Int) (p17_2:List Int):Option DV:=cutAt Dw.Solve.E N Tryz.f47 (Al Tryz.f47) [1,1,1,1,1,1,1,1,1,1,1,0] [] ⟨Ft 125 [(2,.ptr 2 0 0),(5,.ptr 5 0 0),(6,.ptr 6 0 0),(7,.int .i64 p7_2),(13,.ptr 13 0 0),(17,.ptr 17 0 0)],[(17,false,.box [.int .i64 p17,.int .i64 p17_1,.ints .arg .u64 p17_2]),(15,false,.box [.int .i64 p15,.int .i64 p15_1,.ints .fresh .u64 p15_2]),(13,false,.box [.int .i64 p13,.int .i64 p13_1,.ints .fresh .u64 p13_2]),(11,false,.box [.int .i64 p11,.int .i64 p11_1,.ints .fresh .u64 p11_2]),(10,false,.box [.int .i64 p10,.int .i64 p10_1,.ints .arg .u64 p10_2]),(6,false,.box [.int .i64 p6,.int .i64 p6_1,.ints .fresh .u64 p6_2]),(5,false,.box [.int .i64 p5,.int .i64 p5_1,.ints .arg .u64 p5_2]),(2,false,.box [.int .i64 0,.int .i64 0,.nil]),(1,false,.box [.int .i64 r,.int .i64 c,.ints .arg .u64 l,.int .i64 p,.int .i64 q,.ints .arg .u64 m,.int .i64 a,.int .i64 b,.ints .arg .u64 g,.int .i64 u,.int .i64 v,.ints .arg .u64 h])]⟩
def Dw.Solve.C18 (N:Nat) (r c:Int) (l:List Int) (p q:Int) (m:List Int) (a b:Int) (g:List Int) (u v:Int) (h:List Int) (p6 p6_1:Int) (p6_2:List Int) (p5 p5_1:Int) (p5_2:List Int) (p10 p10_1:Int) (p10_2:List Int) (p11 p11_1:Int) (p11_2:List Int) (p13 p13_1:Int) (p13_2:List Int) (p15 p15_1:Int) (p15_2:List Int) (p17 p17_1:Int) (p17_2:List Int) (p7_3 p18 p18_1:Int) (p18_2:List Int):Option DV:=cutAt Dw.Solve.E N Tryz.f47 (Al Tryz.f47) [1,1,1,1,1,1,1,1,1,1,1,1,1,0] [] ⟨Ft 125 [(2,.ptr 2 0 0),(5,.ptr 5 0 0),(6,.ptr 6 0 0),(7,.int .i64 p7_3),(18,.ptr 18 0 0)],[(18,false,.box [.int .i64 p18,.int .i64 p18_1,.ints .fresh .u64 p18_2]),(17,false,.box [.int .i64 p17,.int .i64 p17_1,.ints .arg .u64 p17_2]),(15,false,.box [.int .i64 p15,.int .i64 p15_1,.ints .fresh .u64 p15_2]),(13,false,.box [.int .i64 p13,.int .i64 p13_1,.ints .fresh .u64 p13_2]),(11,false,.box [.int .i64 p11,.int .i64 p11_1,.ints .fresh .u64 p11_2]),(10,false,.box [.int .i64 p10,.int .i64 p10_1,.ints .arg .u64 p10_2]),(6,false,.box [.int .i64 p6,.int .i64 p6_1,.ints .fresh .u64 p6_2]),(5,false,.box [.int .i64 p5,.int .i64 p5_1,.ints .arg .u64 p5_2]),(2,false,.box [.int .i64 0,.int .i64 0,.nil]),(1,false,.box [.int .i64 r,.int .i64 c,.ints .arg .u64 l,.int .i64 p,.int .i64 q,.ints .arg .u64 m,.int .i64 a,.int .i64 b,.ints .arg .u64 g,.int .i64 u,.int .i64 v,.ints .arg .u64 h])]⟩
theorem Dw.Solve.Aqs (N:Nat) (r c:Int) (l:List Int) (p q:Int) (m:List Int) (a b:Int) (g:List Int) (u v:Int) (h:List Int) (p7 p6 p6_1:Int) (p6_2:List Int) (p5 p5_1:Int) (p5_2:List Int):Dw.Solve.C5 N r c l p q m a b g u v h p7 p6 p6_1 p6_2 p5 p5_1 p5_2=bif (p7 !=(0:Int)) then some (.tup [.agg [.int .i64 0,.int .i64 0,.nil],.int .i64 p7]) else bif (Ae l&&Ae p5_2) then bif (Ae ((Fa r c l p5 p5_1 p5_2).2.2.1)) then Dw.Solve.C9 N r c l p q m a b g u v h p6 p6_1 p6_2 p5 p5_1 p5_2 ((Ic ((Fa r c l p5 p5_1 p5_2).1) ((Fa r c l p5 p5_1 p5_2).2.1) ((Fa r c l p5 p5_1 p5_2).2.2.1) ((Fa r c l p5 p5_1 p5_2).2.2.2)).2.2.2) ((Ic ((Fa r c l p5 p5_1 p5_2).1) ((Fa r c l p5 p5_1 p5_2).2.1) ((Fa r c l p5 p5_1 p5_2).2.2.1) ((Fa r c l p5 p5_1 p5_2).2.2.2)).1) ((Ic ((Fa r c l p5 p5_1 p5_2).1) ((Fa r c l p5 p5_1 p5_2).2.1) ((Fa r c l p5 p5_1 p5_2).2.2.1) ((Fa r c l p5 p5_1 p5_2).2.2.2)).2.1) ((Ic ((Fa r c l p5 p5_1 p5_2).1) ((Fa r c l p5 p5_1 p5_2).2.1) ((Fa r c l p5 p5_1 p5_2).2.2.1) ((Fa r c l p5 p5_1 p5_2).2.2.2)).2.2.1) else none else none:=(Ej _ _ _ _ _ _ _).trans (by kernel_rfl)
theorem Dw.Solve.Agx (N:Nat) (r c:Int) (l:List Int) (p q:Int) (m:List Int) (a b:Int) (g:List Int) (u v:Int) (h:List Int) (p6 p6_1:Int) (p6_2:List Int) (p5 p5_1:Int) (p5_2:List Int) (p7_1 p10 p10_1:Int) (p10_2:List Int):Dw.Solve.C9 N r c l p q m a b g u v h p6 p6_1 p6_2 p5 p5_1 p5_2 p7_1 p10 p10_1 p10_2=bif (p7_1 !=(0:Int)) then some (.tup [.agg [.int .i64 0,.int .i64 0,.nil],.int .i64 p7_1]) else Dw.Solve.C12 N r c l p q m a b g u v h p6 p6_1 p6_2 p5 p5_1 p5_2 p10 p10_1 p10_2 ((F4 p10 p10_1 p10_2 0 0 r p).1) ((F4 p10 p10_1 p10_2 0 0 r p).2.1) ((F4 p10 p10_1 p10_2 0 0 r p).2.2.1):=(Ej _ _ _ _ _ _ _).trans (by kernel_rfl)
theorem Dw.Solve.Z5 (N:Nat) (r c:Int) (l:List Int) (p q:Int) (m:List Int) (a b:Int) (g:List Int) (u v:Int) (h:List Int) (p6 p6_1:Int) (p6_2:List Int) (p5 p5_1:Int) (p5_2:List Int) (p10 p10_1:Int) (p10_2:List Int) (p11 p11_1:Int) (p11_2:List Int):Dw.Solve.C12 N r c l p q m a b g u v h p6 p6_1 p6_2 p5 p5_1 p5_2 p10 p10_1 p10_2 p11 p11_1 p11_2 =
  Dw.Solve.C13 N r c l p q m a b g u v h p6 p6_1 p6_2 p5 p5_1 p5_2 p10 p10_1 p10_2 p11 p11_1 p11_2 ((F4 p10 p10_1 p10_2 0 p r (Ab (c-p))).1) ((F4 p10 p10_1 p10_2 0 p r (Ab (c-p))).2.1) ((F4 p10 p10_1 p10_2 0 p r (Ab (c-p))).2.2.1):=(Ej _ _ _ _ _ _ _).trans (by kernel_rfl)
theorem Dw.Solve.Avh (N:Nat) (r c:Int) (l:List Int) (p q:Int) (m:List Int) (a b:Int) (g:List Int) (u v:Int) (h:List Int) (p6 p6_1:Int) (p6_2:List Int) (p5 p5_1:Int) (p5_2:List Int) (p10 p10_1:Int) (p10_2:List Int) (p11 p11_1:Int) (p11_2:List Int) (p13 p13_1:Int) (p13_2:List Int):Dw.Solve.C13 N r c l p q m a b g u v h p6 p6_1 p6_2 p5 p5_1 p5_2 p10 p10_1 p10_2 p11 p11_1 p11_2 p13 p13_1 p13_2=bif (Ae p11_2&&Ae p6_2) then Dw.Solve.C14 N r c l p q m a b g u v h p6 p6_1 p6_2 p5 p5_1 p5_2 p10 p10_1 p10_2 p11 p11_1 p11_2 p13 p13_1 p13_2 ((Fa p11 p11_1 p11_2 p6 p6_1 p6_2).1) ((Fa p11 p11_1 p11_2 p6 p6_1 p6_2).2.1) ((Fa p11 p11_1 p11_2 p6 p6_1 p6_2).2.2.1) else none:=(Ej _ _ _ _ _ _ _).trans (by kernel_rfl)
theorem Dw.Solve.Aiz (N:Nat) (r c:Int) (l:List Int) (p q:Int) (m:List Int) (a b:Int) (g:List Int) (u v:Int) (h:List Int) (p6 p6_1:Int) (p6_2:List Int) (p5 p5_1:Int) (p5_2:List Int) (p10 p10_1:Int) (p10_2:List Int) (p11 p11_1:Int) (p11_2:List Int) (p13 p13_1:Int) (p13_2:List Int) (p15 p15_1:Int) (p15_2:List Int):Dw.Solve.C14 N r c l p q m a b g u v h p6 p6_1 p6_2 p5 p5_1 p5_2 p10 p10_1 p10_2 p11 p11_1 p11_2 p13 p13_1 p13_2 p15 p15_1 p15_2=bif (Ae g&&Ae p15_2) then bif (Ae ((K0 a b g p15 p15_1 p15_2).2.2.1)) then Dw.Solve.C15 N r c l p q m a b g u v h p6 p6_1 p6_2 p5 p5_1 p5_2 p10 p10_1 p10_2 p11 p11_1 p11_2 p13 p13_1 p13_2 p15 p15_1 p15_2 ((Ic ((K0 a b g p15 p15_1 p15_2).1) ((K0 a b g p15 p15_1 p15_2).2.1) ((K0 a b g p15 p15_1 p15_2).2.2.1) ((K0 a b g p15 p15_1 p15_2).2.2.2)).2.2.2) ((Ic ((K0 a b g p15 p15_1 p15_2).1) ((K0 a b g p15 p15_1 p15_2).2.1) ((K0 a b g p15 p15_1 p15_2).2.2.1) ((K0 a b g p15 p15_1 p15_2).2.2.2)).1) ((Ic ((K0 a b g p15 p15_1 p15_2).1) ((K0 a b g p15 p15_1 p15_2).2.1) ((K0 a b g p15 p15_1 p15_2).2.2.1) ((K0 a b g p15 p15_1 p15_2).2.2.2)).2.1) ((Ic ((K0 a b g p15 p15_1 p15_2).1) ((K0 a b g p15 p15_1 p15_2).2.1) ((K0 a b g p15 p15_1 p15_2).2.2.1) ((K0 a b g p15 p15_1 p15_2).2.2.2)).2.2.1) else none else none:=(Ej _ _ _ _ _ _ _).trans (by kernel_rfl)
theorem Dw.Solve.Aiy (N:Nat) (r c:Int) (l:List Int) (p q:Int) (m:List Int) (a b:Int) (g:List Int) (u v:Int) (h:List Int) (p6 p6_1:Int) (p6_2:List Int) (p5 p5_1:Int) (p5_2:List Int) (p10 p10_1:Int) (p10_2:List Int) (p11 p11_1:Int) (p11_2:List Int) (p13 p13_1:Int) (p13_2:List Int) (p15 p15_1:Int) (p15_2:List Int) (p7_2 p17 p17_1:Int) (p17_2:List Int):Dw.Solve.C15 N r c l p q m a b g u v h p6 p6_1 p6_2 p5 p5_1 p5_2 p10 p10_1 p10_2 p11 p11_1 p11_2 p13 p13_1 p13_2 p15 p15_1 p15_2 p7_2 p17 p17_1 p17_2=bif (p7_2 !=(0:Int)) then some (.tup [.agg [.int .i64 0,.int .i64 0,.nil],.int .i64 p7_2]) else bif (Ae p13_2&&Ae p17_2) then Dw.Solve.C18 N r c l p q m a b g u v h p6 p6_1 p6_2 p5 p5_1 p5_2 p10 p10_1 p10_2 p11 p11_1 p11_2 p13 p13_1 p13_2 p15 p15_1 p15_2 p17 p17_1 p17_2 ((Em p13 p13_1 p13_2 p17 p17_1 p17_2).2.2.2) ((Em p13 p13_1 p13_2 p17 p17_1 p17_2).1) ((Em p13 p13_1 p13_2 p17 p17_1 p17_2).2.1) ((Em p13 p13_1 p13_2 p17 p17_1 p17_2).2.2.1) else none:=(Ej _ _ _ _ _ _ _).trans (by kernel_rfl)
theorem Dw.Solve.Z4 (N:Nat) (r c:Int) (l:List Int) (p q:Int) (m:List Int) (a b:Int) (g:List Int) (u v:Int) (h:List Int) (p6 p6_1:Int) (p6_2:List Int) (p5 p5_1:Int) (p5_2:List Int) (p10 p10_1:Int) (p10_2:List Int) (p11 p11_1:Int) (p11_2:List Int) (p13 p13_1:Int) (p13_2:List Int) (p15 p15_1:Int) (p15_2:List Int) (p17 p17_1:Int) (p17_2:List Int) (p7_3 p18 p18_1:Int) (p18_2:List Int):Dw.Solve.C18 N r c l p q m a b g u v h p6 p6_1 p6_2 p5 p5_1 p5_2 p10 p10_1 p10_2 p11 p11_1 p11_2 p13 p13_1 p13_2 p15 p15_1 p15_2 p17 p17_1 p17_2 p7_3 p18 p18_1 p18_2=bif (p7_3 !=(0:Int)) then some (.tup [.agg [.int .i64 0,.int .i64 0,.nil],.int .i64 p7_3]) else bif (((Ch p6 p6_1 p6_2 p18 p18_1 p18_2).2.2.2) !=(0:Int)) then some (.tup [.agg [.int .i64 0,.int .i64 0,.nil],.int .i64 ((Ch p6 p6_1 p6_2 p18 p18_1 p18_2).2.2.2)]) else bif (Ae p5_2&&Ae ((Ch p6 p6_1 p6_2 p18 p18_1 p18_2).2.2.1)) then bif (Ae ((Fa p5 p5_1 p5_2 ((Ch p6 p6_1 p6_2 p18 p18_1 p18_2).1) ((Ch p6 p6_1 p6_2 p18 p18_1 p18_2).2.1) ((Ch p6 p6_1 p6_2 p18 p18_1 p18_2).2.2.1)).2.2.1)) then some (.tup [.agg [.int .i64 ((Ic ((Fa p5 p5_1 p5_2 ((Ch p6 p6_1 p6_2 p18 p18_1 p18_2).1) ((Ch p6 p6_1 p6_2 p18 p18_1 p18_2).2.1) ((Ch p6 p6_1 p6_2 p18 p18_1 p18_2).2.2.1)).1) ((Fa p5 p5_1 p5_2 ((Ch p6 p6_1 p6_2 p18 p18_1 p18_2).1) ((Ch p6 p6_1 p6_2 p18 p18_1 p18_2).2.1) ((Ch p6 p6_1 p6_2 p18 p18_1 p18_2).2.2.1)).2.1) ((Fa p5 p5_1 p5_2 ((Ch p6 p6_1 p6_2 p18 p18_1 p18_2).1) ((Ch p6 p6_1 p6_2 p18 p18_1 p18_2).2.1) ((Ch p6 p6_1 p6_2 p18 p18_1 p18_2).2.2.1)).2.2.1) ((Fa p5 p5_1 p5_2 ((Ch p6 p6_1 p6_2 p18 p18_1 p18_2).1) ((Ch p6 p6_1 p6_2 p18 p18_1 p18_2).2.1) ((Ch p6 p6_1 p6_2 p18 p18_1 p18_2).2.2.1)).2.2.2)).1),.int .i64 ((Ic ((Fa p5 p5_1 p5_2 ((Ch p6 p6_1 p6_2 p18 p18_1 p18_2).1) ((Ch p6 p6_1 p6_2 p18 p18_1 p18_2).2.1) ((Ch p6 p6_1 p6_2 p18 p18_1 p18_2).2.2.1)).1) ((Fa p5 p5_1 p5_2 ((Ch p6 p6_1 p6_2 p18 p18_1 p18_2).1) ((Ch p6 p6_1 p6_2 p18 p18_1 p18_2).2.1) ((Ch p6 p6_1 p6_2 p18 p18_1 p18_2).2.2.1)).2.1) ((Fa p5 p5_1 p5_2 ((Ch p6 p6_1 p6_2 p18 p18_1 p18_2).1) ((Ch p6 p6_1 p6_2 p18 p18_1 p18_2).2.1) ((Ch p6 p6_1 p6_2 p18 p18_1 p18_2).2.2.1)).2.2.1) ((Fa p5 p5_1 p5_2 ((Ch p6 p6_1 p6_2 p18 p18_1 p18_2).1) ((Ch p6 p6_1 p6_2 p18 p18_1 p18_2).2.1) ((Ch p6 p6_1 p6_2 p18 p18_1 p18_2).2.2.1)).2.2.2)).2.1),.ints .arg .u64 ((Ic ((Fa p5 p5_1 p5_2 ((Ch p6 p6_1 p6_2 p18 p18_1 p18_2).1) ((Ch p6 p6_1 p6_2 p18 p18_1 p18_2).2.1) ((Ch p6 p6_1 p6_2 p18 p18_1 p18_2).2.2.1)).1) ((Fa p5 p5_1 p5_2 ((Ch p6 p6_1 p6_2 p18 p18_1 p18_2).1) ((Ch p6 p6_1 p6_2 p18 p18_1 p18_2).2.1) ((Ch p6 p6_1 p6_2 p18 p18_1 p18_2).2.2.1)).2.1) ((Fa p5 p5_1 p5_2 ((Ch p6 p6_1 p6_2 p18 p18_1 p18_2).1) ((Ch p6 p6_1 p6_2 p18 p18_1 p18_2).2.1) ((Ch p6 p6_1 p6_2 p18 p18_1 p18_2).2.2.1)).2.2.1) ((Fa p5 p5_1 p5_2 ((Ch p6 p6_1 p6_2 p18 p18_1 p18_2).1) ((Ch p6 p6_1 p6_2 p18 p18_1 p18_2).2.1) ((Ch p6 p6_1 p6_2 p18 p18_1 p18_2).2.2.1)).2.2.2)).2.2.1)],.int .i64 ((Ic ((Fa p5 p5_1 p5_2 ((Ch p6 p6_1 p6_2 p18 p18_1 p18_2).1) ((Ch p6 p6_1 p6_2 p18 p18_1 p18_2).2.1) ((Ch p6 p6_1 p6_2 p18 p18_1 p18_2).2.2.1)).1) ((Fa p5 p5_1 p5_2 ((Ch p6 p6_1 p6_2 p18 p18_1 p18_2).1) ((Ch p6 p6_1 p6_2 p18 p18_1 p18_2).2.1) ((Ch p6 p6_1 p6_2 p18 p18_1 p18_2).2.2.1)).2.1) ((Fa p5 p5_1 p5_2 ((Ch p6 p6_1 p6_2 p18 p18_1 p18_2).1) ((Ch p6 p6_1 p6_2 p18 p18_1 p18_2).2.1) ((Ch p6 p6_1 p6_2 p18 p18_1 p18_2).2.2.1)).2.2.1) ((Fa p5 p5_1 p5_2 ((Ch p6 p6_1 p6_2 p18 p18_1 p18_2).1) ((Ch p6 p6_1 p6_2 p18 p18_1 p18_2).2.1) ((Ch p6 p6_1 p6_2 p18 p18_1 p18_2).2.2.1)).2.2.2)).2.2.2)]) else none else none:=(Ej _ _ _ _ _ _ _).trans (by kernel_rfl)
theorem Dw.Solve.ev (N:Nat) (r c:Int) (l:List Int) (p q:Int) (m:List Int) (a b:Int) (g:List Int) (u v:Int) (h:List Int):Bp Dw.Solve.E N Tryz.f47 (Al Tryz.f47) [.agg [.int .i64 r,.int .i64 c,.ints .arg .u64 l,.int .i64 p,.int .i64 q,.ints .arg .u64 m,.int .i64 a,.int .i64 b,.ints .arg .u64 g,.int .i64 u,.int .i64 v,.ints .arg .u64 h]]=bif (Qf l m g h) then bif ((Kf r c l p q m a b g u v h) !=(0:Int)) then some (.tup [.agg [.int .i64 0,.int .i64 0,.nil],.int .i64 (Kf r c l p q m a b g u v h)]) else bif (Qf l m g h&&decide (Kf r c l p q m a b g u v h=0)) then Dw.Solve.C5 N r c l p q m a b g u v h ((hY p q m u v h).2.2.2) ((hY p q m u v h).1) ((hY p q m u v h).2.1) ((hY p q m u v h).2.2.1) ((hQ p q m).1) ((hQ p q m).2.1) ((hQ p q m).2.2.1) else none else none:=by kernel_rfl
abbrev _root_.Go.Proofs.S1.Dw.Solve.Kn:=A5 Tryz.prog 47 Dw.Solve.spec
theorem Dw.Solve.Ac (hk:Ay Tryz.prog Dw.Solve.A8) (h:∀ (r c:Int) (l:List Int) (p q:Int) (m:List Int) (a b:Int) (g:List Int) (u v:Int) (h:List Int),Dw.Solve.pre [.i r,.i c,.l l,.i p,.i q,.l m,.i a,.i b,.l g,.i u,.i v,.l h]=true→Ba Dw.Solve.E Tryz.f47 [.agg [.int .i64 r,.int .i64 c,.ints .arg .u64 l,.int .i64 p,.int .i64 q,.ints .arg .u64 m,.int .i64 a,.int .i64 b,.ints .arg .u64 g,.int .i64 u,.int .i64 v,.ints .arg .u64 h]] (Dw.Solve.out [.i r,.i c,.l l,.i p,.i q,.l m,.i a,.i b,.l g,.i u,.i v,.l h])):Dw.Solve.Kn :=
  Aj (A1 hk _ _ _) Tryz.func47 (by kernel_rfl) (by kernel_rfl) h
end EqLse
open EqLse
theorem Ou {r c:Int} {l:List Int} (h:Av r c l=true):0≤r∧r≤6∧0≤c∧c≤6:=by
  obtain ⟨R,C,rfl,rfl,r6,c6,_⟩:=B8 h
  omega
theorem Aeq {r c p q a u b v:Int} (h:0≤r∧r≤6) (h':0≤p∧p≤6) :
    (((((((q !=c)||(a !=r))||(u !=p))||(b !=(1:Int)))||(v !=(1:Int)))||(A6 c p))||(A6 (Ab (r+p)) c))=decide (q≠c∨a≠r∨u≠p∨b≠1∨v≠1∨c<p∨r+p<c):=by
  rw [Am (by omega) (by omega),Aq,Aq,Azm]
  simp [or_assoc]
theorem Dw.Check.known:Dw.Check.Kn:=Dw.Check.Ac (.cons Cv.Check.known .nil) fun r c l p q m a b g u v h hp=>by
  obtain ⟨h1,h2⟩:=Ad.1 (show ((Ae l&&Ae m)&&(Ae g&&Ae h))=true from hp)
  obtain ⟨al,am⟩:=Ad.1 h1
  obtain ⟨ag,ah⟩:=Ad.1 h2
  refine ⟨0+6,Dw.Check.out [.i r,.i c,.l l,.i p,.i q,.l m,.i a,.i b,.l g,.i u,.i v,.l h],[],?_,.int⟩
  show _=some (DV.int .i64 (Kf r c l p q m a b g u v h))
  rw [Dw.Check.ev,al,am,ag,ah,Ay6,Ay6,Ay6,Ay6]
  unfold Kf
  by_cases k1:B1 r c l=0
  · rw [En k1,Aza,if_neg (by rw [k1]; decide)]
    by_cases k2:B1 p q m=0
    · rw [En k2,Aza,if_neg (by rw [k2]; decide)]
      by_cases k3:B1 a b g=0
      · rw [En k3,Aza,if_neg (by rw [k3]; decide)]
        by_cases k4:B1 u v h=0
        · rw [En k4,Aza,if_neg (by rw [k4]; decide)]
          have s1:=Ou (Ex k1).1
          have s2:=Ou (Ex k2).1
          rw [Aeq ⟨s1.1,s1.2.1⟩ ⟨s2.1,s2.2.1⟩]
          by_cases k5:q≠c∨a≠r∨u≠p∨b≠1∨v≠1∨c<p∨r+p<c
          · rw [Ay7 k5,Ay6,if_pos k5]
          · rw [Azb k5,Aza,if_neg k5]
        · rw [Od k4,Ay6,if_pos k4]
      · rw [Od k3,Ay6,if_pos k3]
    · rw [Od k2,Ay6,if_pos k2]
  · rw [Od k1,Ay6,if_pos k1]
theorem Vn {r c:Int} {l:List Int} {p q:Int} {m:List Int} {a b:Int} {g:List Int} {u v:Int} {h:List Int} (e:Kf r c l p q m a b g u v h=0) :
    B1 r c l=0∧B1 p q m=0∧B1 a b g=0∧B1 u v h=0∧q=c∧a=r∧u=p∧b=1∧v=1∧p≤c∧c≤r+p:=by
  unfold Kf at e
  by_cases k1:B1 r c l=0
  · rw [if_neg (by rw [k1]; decide)] at e
    by_cases k2:B1 p q m=0
    · rw [if_neg (by rw [k2]; decide)] at e
      by_cases k3:B1 a b g=0
      · rw [if_neg (by rw [k3]; decide)] at e
        by_cases k4:B1 u v h=0
        · rw [if_neg (by rw [k4]; decide)] at e
          by_cases k5:q≠c∨a≠r∨u≠p∨b≠1∨v≠1∨c<p∨r+p<c
          · rw [if_pos k5] at e; exact absurd e (by decide)
          · exact ⟨k1,k2,k3,k4,by omega⟩
        · rw [if_pos k4] at e; exact absurd e k4
      · rw [if_pos k3] at e; exact absurd e k3
    · rw [if_pos k2] at e; exact absurd e k2
  · rw [if_pos k1] at e; exact absurd e k1
theorem Aj3 {r c:Int} {l:List Int} {e:Int} (al:Ae l=true):Ae (Ic r c l e).2.2.1=true:=by
  unfold Ic
  split
  · exact Ek
  · split
    · exact Ek
    · exact al
theorem Aj2 {r c:Int} {l:List Int} (al:Ae l=true):Ae (G0 r c l).2.2.1=true:=by
  unfold G0
  split
  · exact al
  · exact Ek
theorem Ao5 (r c:Int) (l:List Int) (p q:Int) (m:List Int):Ae (Qh r c l p q m).2.2.1=true:=by
  unfold Qh
  split
  · exact Ek
  · exact Aj2 (Ez fun i k=>U5 (Ah6 _ _ _ _) i)
theorem Ana (r c:Int) (l:List Int) (p q:Int) (m:List Int):Ae (Wm r c l p q m).2.2.1=true:=by
  unfold Wm
  split
  · exact Ek
  · exact Aj2 (Ez fun i k=>U5 (Ag6 _ _ _ _ _) i)
theorem Al4 (r c:Int) (l:List Int) (p q:Int) (m:List Int):Ae (Em r c l p q m).2.2.1=true:=by
  unfold Em
  split
  · exact Ek
  · split
    · exact Ek
    · split
      · exact Ek
      · split
        · exact Ek
        · split
          · exact Ek
          · unfold Anb
            split
            · exact Ek
            · exact Ana _ _ _ _ _ _
theorem Aja {r c:Int} {l:List Int} {p q:Int} {m:List Int} (al:Ae l=true) (am:Ae m=true):Ae (K0 r c l p q m).2.2.1=true:=by
  unfold K0
  by_cases h:(Av r c l&&Av p q m)=true
  · rw [if_pos h]
    by_cases h2:r=p∧c=q
    · rw [if_pos h2]; exact (show Ae (Bg _ _ fun i k=>Db (Cj c l i k) (Cj q m i k))=true from Ez fun _ _=>Kz (N8 al) (N8 am))
    · rw [if_neg h2]; exact Ek
  · rw [if_neg h]; exact Ek
theorem Aku {r c:Int} {l:List Int} {q:Int} {m:List Int} (al:Ae l=true) (am:Ae m=true) (i k:Int):Ag (Jm r c l q m i k)=true:=by
  unfold Jm
  by_cases h:i<r
  · rw [if_pos h]; exact N8 al
  · rw [if_neg h]; exact N8 am
theorem Akt {r c:Int} {l:List Int} {p q:Int} {m:List Int} (al:Ae l=true) (am:Ae m=true):Ae (Ch r c l p q m).2.2.1=true:=by
  unfold Ch
  by_cases h:(Av r c l&&Av p q m)=true
  · rw [if_pos h]
    by_cases h2:c=q∧r+p≤6
    · rw [if_pos h2]; exact (show Ae (Bg _ _ fun i k=>Jm r c l q m i k)=true from Ez fun _ _=>Aku al am _ _)
    · rw [if_neg h2]; exact Ek
  · rw [if_neg h]; exact Ek
theorem Atn {r c:Int} {l:List Int} (al:Ae l=true):Ae (qX r c l).2.2.1=true∧Ae (rX r c l).2.2.1=true:=by
  by_cases k:Ei r c l=0
  · rw [(Pr k).1,(Pr k).2]; exact Apt al k
  · rw [(S7 rfl k).1,(S7 rfl k).2]; exact ⟨Ek,Ek⟩
theorem Dw.finite.known:Dw.finite.Kn:=Dw.finite.Ac (.cons Cv.Check.known .nil) fun r c l e hp=>by
  have al:Ae l=true:=hp
  show ∃ N dv drops,_=some dv∧Wk drops dv (Acv (Ic r c l e))
  have hrun:=Dw.finite.ev 0 r c l e
  rw [al,Bool.or_true,Ay6] at hrun
  unfold Ic
  by_cases k:e=0
  · rw [if_neg (by rw [k]; decide)]
    rw [k] at hrun ⊢
    by_cases k1:B1 r c l=0
    · rw [En k1,Bool.and_false,Aza] at hrun
      rw [if_neg (by rw [k1]; decide)]
      exact ⟨0,_,[],hrun,Rq (x:=(r,c,l,0))⟩
    · rw [Od k1] at hrun
      rw [if_pos k1]
      exact ⟨0,_,[],hrun,M5⟩
  · rw [if_pos k]
    have e1:(e==(0:Int))=false:=by rw [beq_eq_false_iff_ne]; exact k
    rw [e1,Bool.false_and,Aza,Od k,Ay6] at hrun
    exact ⟨0,_,[],hrun,M5⟩
theorem Aq0 {p q:Int} {m:List Int} (h:Av p q m=true):(Cx p q m).1=q∧(Cx p q m).2.1=p∧(Cx p q m).2.2.2=0:=by
  unfold Cx; rw [if_pos h]; exact ⟨rfl,rfl,rfl⟩
theorem Dw.held.known:Dw.held.Kn:=Dw.held.Ac (.cons Aa.Part.known (.cons Aa.Co.known (.cons qr.B0.known (.cons solve.Flat.known (.cons solve.Cs.known .nil))))) fun r c l p q m a b g u v h hp=>by
  obtain ⟨h0,hz⟩:=Ad.1 (show (Qf l m g h&&decide (Kf r c l p q m a b g u v h=0))=true from hp)
  obtain ⟨h1,h2⟩:=Ad.1 (show ((Ae l&&Ae m)&&(Ae g&&Ae h))=true from h0)
  obtain ⟨al,am⟩:=Ad.1 h1
  obtain ⟨ag,ah⟩:=Ad.1 h2
  obtain ⟨k1,k2,k3,k4,_⟩:=Vn (of_decide_eq_true hz)
  obtain ⟨e1,e2,e3⟩:=Aq0 (Ex k2).1
  show ∃ N dv drops,_=some dv∧Wk drops dv (DV.tup [.agg [.int .i64 (hQ p q m).1,.int .i64 (hQ p q m).2.1,.ints .arg .u64 (hQ p q m).2.2.1],.agg [.int .i64 (hY p q m u v h).1,.int .i64 (hY p q m u v h).2.1,.ints .fresh .u64 (hY p q m u v h).2.2.1],.int .i64 (hY p q m u v h).2.2.2])
  have at':Ae (eqT p q m)=true:=T0 am
  have as':Ae (Ra p q m).2.2.1=true:=T0 (Uh (Atn at').2 _ _ _ _)
  have hrun:=Dw.held.ev 0 r c l p q m a b g u v h
  rw [e3,En rfl,Aza,T0 am,Ay6,e1,e2,Dw.held.Aqs] at hrun
  by_cases kf:Ei q p (eqT p q m)=0
  · rw [En (show Ei q p (Cx p q m).2.2.1=0 from kf),Aza,Dw.held.Aw9,Dw.held.Agx] at hrun
    have hrun2:Bp Dw.held.E 0 _ _ _=(bif Ae (Ra p q m).2.2.1 then bif (Ko (Ra p q m).1 (Ra p q m).2.1 (Ra p q m).2.2.1).1 then some (Yn 5) else bif Ae (Ra p q m).2.2.1&&Ae h then
        some (.tup [.agg [.int .i64 (qX q p (eqT p q m)).1,.int .i64 (qX q p (eqT p q m)).2.1,.ints .arg .u64 (qX q p (eqT p q m)).2.2.1],.agg [.int .i64 (Qh (Ra p q m).1 (Ra p q m).2.1 (Ra p q m).2.2.1 u v h).1,.int .i64 (Qh (Ra p q m).1 (Ra p q m).2.1 (Ra p q m).2.2.1 u v h).2.1,.ints .fresh .u64 (Qh (Ra p q m).1 (Ra p q m).2.1 (Ra p q m).2.2.1 u v h).2.2.1],.int .i64 (Qh (Ra p q m).1 (Ra p q m).2.1 (Ra p q m).2.2.1 u v h).2.2.2]) else none else none):=hrun
    rw [as',Ay6,ah,Bool.and_true,Ay6] at hrun2
    cases kb:(Ko (Ra p q m).1 (Ra p q m).2.1 (Ra p q m).2.2.1).1 with
    | true =>
      rw [kb,Ay6] at hrun2
      have d1:hQ p q m=Ij 5:=by unfold hQ; rw [if_neg (by rw [kf]; decide),kb,if_pos rfl]
      have d2:hY p q m u v h=Ij 5:=by unfold hY; rw [if_neg (by rw [kf]; decide),kb,if_pos rfl]
      rw [d1,d2]
      exact ⟨0,_,[],hrun2,Vk⟩
    | false =>
      rw [kb,Aza] at hrun2
      have d1:hQ p q m=qX q p (eqT p q m):=by unfold hQ; rw [if_neg (by rw [kf]; decide),kb,if_neg (by decide)]
      have d2:hY p q m u v h=Qh (Ra p q m).1 (Ra p q m).2.1 (Ra p q m).2.2.1 u v h:=by unfold hY; rw [if_neg (by rw [kf]; decide),kb,if_neg (by decide)]
      rw [d1,d2]
      exact ⟨0,_,[],hrun2,Wk.G6 (.cons (Wk.G2 (.cons .int (.cons .int (.cons .Rh .nil)))) (.cons (Wk.G2 (.cons .int (.cons .int (.cons .P2 .nil)))) (.cons .int .nil)))⟩
  · rw [Od (show Ei q p (Cx p q m).2.2.1≠0 from kf),Ay6] at hrun
    have d1:hQ p q m=Ij (Ei q p (eqT p q m)):=by unfold hQ; rw [if_pos kf]
    have d2:hY p q m u v h=Ij (Ei q p (eqT p q m)):=by unfold hY; rw [if_pos kf]
    rw [d1,d2]
    exact ⟨0,_,[],hrun,Vk⟩
open EqMat EqOf
theorem Aa.Iq.known:Aa.Iq.Kn:=Aa.Iq.Ac (.cons Aa.get.known (.cons Ah.Sub.known .nil)) fun i k r c l p q m hp=>by
  obtain ⟨h1,am⟩:=Ad.1 (show (((Cd r c l i k&&Cd p q m i k)&&Ae l)&&Ae m)=true from hp)
  obtain ⟨h2,al⟩:=Ad.1 h1
  obtain ⟨h3,h4⟩:=Ad.1 h2
  refine ⟨0,Aa.Iq.out [.i i,.i k,.i r,.i c,.l l,.i p,.i q,.l m],[],?_,.int⟩
  rw [Aa.Iq.ev,h3,h4,Ey al,Ey am]; rfl
theorem of.Sub.inner (N:Nat) (r c:Int) (l:List Int) (p q:Int) (m:List Int) {A B:Nat} (hA:A≤6) (hB:B≤6) {F:Nat→Nat→Int} (hF:∀ i j:Nat,F i j=Db (Cj c l (i:Int) (j:Int)) (Cj q m (i:Int) (j:Int))) {i:Nat} (hi:i<A) (hp:∀ j:Nat,j<B→(((Cd r c l (i:Int) (j:Int)&&Cd p q m (i:Int) (j:Int))&&Ae l)&&Ae m)=true):∀ (k j M0 M:Nat),j+k=B→k<M →
    Aa.of.Sub.L1 N M0 M (A:Int) (B:Int) r c l p q m (i:Int) (i:Int) (j:Int) (Bg i B F++(List.range j).map (F i))=Aa.of.Sub.L0 N M0 (A:Int) (B:Int) r c l p q m ((i+1:Nat):Int) (Bg (i+1) B F):=by
  intro k
  induction k with
  | zero =>
    intro j M0 M hj hM
    obtain ⟨M,rfl⟩:∃ G,M=G+1:=⟨M-1,by omega⟩
    obtain rfl:j=B:=by omega
    rw [Aa.of.Sub.B2,Aq,Azb (by omega),Aza,Am (by omega) (by omega),← K9]
    rfl
  | succ k ih =>
    intro j M0 M hj hM
    obtain ⟨M,rfl⟩:∃ G,M=G+1:=⟨M-1,by omega⟩
    have d:decide ((Bg i B F++(List.range j).map (F i)).length+1≤Gu)=true:=by
      refine Ay7 ?_
      have:=Nat.mul_le_mul (show i≤6 by omega) hB
      rw [List.length_append,Ca,List.length_map,List.length_range]; unfold Gu; omega
    rw [Aa.of.Sub.B2,Aq,Ay7 (by omega),Ay6,hp j (by omega),Ay6,d,Ay6,Am (by omega) (by omega),← hF i j]
    have:=ih (j+1) M0 M (by omega) (by omega)
    rw [Hd,← List.append_assoc] at this
    exact this
theorem of.Sub.outer (N:Nat) (r c:Int) (l:List Int) (p q:Int) (m:List Int) {A B:Nat} (hA:A≤6) (hB:B≤6) (hN:6<N) {F:Nat→Nat→Int} (hF:∀ i j:Nat,F i j=Db (Cj c l (i:Int) (j:Int)) (Cj q m (i:Int) (j:Int))) (hp:∀ i j:Nat,i<A→j<B→(((Cd r c l (i:Int) (j:Int)&&Cd p q m (i:Int) (j:Int))&&Ae l)&&Ae m)=true):∀ (k i M:Nat),i+k=A→k<M →
    Aa.of.Sub.L0 N M (A:Int) (B:Int) r c l p q m (i:Int) (Bg i B F)=some (.agg [.int .i64 (A:Int),.int .i64 (B:Int),.ints (.own 108002 tB) .u64 (Bg A B F)]):=by
  intro k
  induction k with
  | zero =>
    intro i M hi hM
    obtain ⟨M,rfl⟩:∃ G,M=G+1:=⟨M-1,by omega⟩
    obtain rfl:i=A:=by omega
    rw [Aa.of.Sub.Au,Aq,Azb (by omega),Aza]
  | succ k ih =>
    intro i M hi hM
    obtain ⟨M,rfl⟩:∃ G,M=G+1:=⟨M-1,by omega⟩
    have n:=of.Sub.inner N r c l p q m hA hB hF (show i<A by omega) (fun j hj=>hp i j (by omega) hj) B 0 M N (by omega) (by omega)
    rw [List.range_zero,List.map_nil,List.append_nil] at n
    rw [Aa.of.Sub.Au,Aq,Ay7 (by omega),Ay6]
    exact n.trans (ih (i+1) M (by omega) (by omega))
theorem Aa.of.Sub.known:Aa.of.Sub.Kn:=Aa.of.Sub.Ac (.cons Aa.Iq.known .nil) fun a b r c l p q m hp=>by
  obtain ⟨h12,hy⟩:=Ad.1 (show (((Bn a&&Bn b)&&((Av r c l&&Av p q m)&&(Ae l&&Ae m)))&&decide (a=r∧b=c∧p=r∧q=c))=true from hp)
  obtain ⟨h1,hx⟩:=Ad.1 h12
  have h2:=Ad.2 ⟨hx,hy⟩
  obtain ⟨ha,hb⟩:=Ad.1 h1
  obtain ⟨A,rfl,hA⟩:=Et ha
  obtain ⟨B,rfl,hB⟩:=Et hb
  obtain ⟨h3,he⟩:=Ad.1 h2
  obtain ⟨h4,h5⟩:=Ad.1 h3
  obtain ⟨hr,hm⟩:=Ad.1 h4
  obtain ⟨al,am⟩:=Ad.1 h5
  obtain ⟨e1,e2,e3,e4⟩:=of_decide_eq_true he
  have hp:∀ i j:Nat,i<A→j<B→(((Cd r c l (i:Int) (j:Int)&&Cd p q m (i:Int) (j:Int))&&Ae l)&&Ae m)=true:=fun i j hi hj =>
    Ad.2 ⟨Ad.2 ⟨Ad.2 ⟨I9 hr (by omega) (by omega) (by omega) (by omega) r,I9 hm (by omega) (by omega) (by omega) (by omega) p⟩,al⟩,am⟩
  refine ⟨8,.agg [.int .i64 (A:Int),.int .i64 (B:Int),.ints (.own 108002 tB) .u64 (Bg A B fun (i j:Nat)=>Db (Cj c l (i:Int) (j:Int)) (Cj q m (i:Int) (j:Int)))],[108002],?_,Wk.G2 (.cons .int (.cons .int (.cons (.drop _ _ _ _ (List.mem_singleton.2 rfl)) .nil)))⟩
  rw [Aa.of.Sub.ev]
  have n:=of.Sub.outer 8 r c l p q m hA hB (by omega) (F:=fun (i j:Nat)=>Db (Cj c l (i:Int) (j:Int)) (Cj q m (i:Int) (j:Int))) (fun _ _=>rfl) hp A 0 8 (by omega) (by omega)
  rw [K8] at n
  exact n
namespace EqRef20
def Af.Bm.own.A8:List (Nat × Entry):=[]
def Af.Bm.own.E:Env:=A9 (A7 Af.Bm.own.A8) (fun _=>false) (fun _=>none) (fun _=>none)
theorem Af.Bm.own.ev (N:Nat) (a b:Int):Bp Af.Bm.own.E N Tryz.f35 (Al Tryz.f35) [.int .i64 a,.int .i64 b]=bif (((decide ((0:Int)≤(Ab (a*b))))&&(decide ((Ab (a*b))≤(Ab (a*b)))))&&(decide ((Ab (a*b))≤Gu))) then some (.agg [.int .i64 a,.int .i64 b,.ints (.own 10 37) .u64 (List.replicate (Int.toNat (Ab (a*b))) 0)]) else none:=by kernel_rfl
abbrev _root_.Go.Proofs.S1.Af.Bm.own.Kn:=A5 Tryz.prog 35 Af.Bm.own.spec
theorem Af.Bm.own.Ac (hk:Ay Tryz.prog Af.Bm.own.A8) (h:∀ (a b:Int),Af.Bm.own.pre [.i a,.i b]=true→Ba Af.Bm.own.E Tryz.f35 [.int .i64 a,.int .i64 b] (Af.Bm.own.out [.i a,.i b])):Af.Bm.own.Kn :=
  Aj (A1 hk _ _ _) Tryz.func35 (by kernel_rfl) (by kernel_rfl) h
def Af.Sub.hint:Nat→Option Bb
  | 0=>some { keep:=[2,3,4,5,6],objs:=[(6,2,106002,.ints 37 .u64 [])],boxes:=[2,3,4,5] }
  | _=>none
def Af.Sub.A8:List (Nat × Entry):=[(81,Ak.Sub.spec),(35,Af.Bm.own.spec)]
def Af.Sub.E:Env:=A9 (A7 Af.Sub.A8) (fun n=>Nat.beq n 11) Af.Sub.hint (fun _=>none)
def Af.Sub.L0 (N M:Nat) (r c:Int) (l:List Int) (p q:Int) (m:List Int) (p6:Int) (p2:List Int):Option DV:=Bv Af.Sub.E N Tryz.f129 (Al Tryz.f129) [1,1,0,1,0] [] M ⟨Ft 35 [(2,.ptr 2 0 0),(3,.ptr 3 0 0),(4,.ptr 4 0 0),(5,.ptr 5 0 0),(6,.int .i64 p6)],[(2,false,.box [.int .i64 r,.int .i64 c,.ints .arg .u64 l]),(3,false,.box [.int .i64 p,.int .i64 q,.ints .arg .u64 m]),(4,false,.box [.int .i64 0,.int .i64 0,.nil]),(5,false,.box [.int .i64 r,.int .i64 c,.oref 106002]),(106002,false,.ints 37 .u64 p2)]⟩
theorem Af.Sub.Au (N M:Nat) (r c:Int) (l:List Int) (p q:Int) (m:List Int) (p6:Int) (p2:List Int):Af.Sub.L0 N (M+1) r c l p q m p6 p2=bif (A6 p6 (List.length l:Int)) then bif ((decide (0≤p6))&&(decide (p6<(List.length l:Int)))) then bif ((decide (0≤p6))&&(decide (p6<(List.length m:Int)))) then bif (Ag (List.getD l (Int.toNat p6) 0)&&Ag (List.getD m (Int.toNat p6) 0)) then bif ((decide (0≤p6))&&(decide (p6<(List.length p2:Int)))) then bif (decide ((Int.toNat p6)<(List.length p2))) then Af.Sub.L0 N M r c l p q m (Ab (p6+1)) (List.set p2 (Int.toNat p6) (Db (List.getD l (Int.toNat p6) 0) (List.getD m (Int.toNat p6) 0))) else none else none else none else none else none else some (.agg [.int .i64 r,.int .i64 c,.ints (.own 106002 37) .u64 p2]) :=
  Eq.trans (by kernel_rfl)
  (Ea (Cq (Jw (decide (0≤p6)) (decide (p6<(List.length l:Int)))) (Cq (Jw (decide (0≤p6)) (decide (p6<(List.length m:Int)))) (Cq (Ci (Ag (List.getD l (Int.toNat p6) 0)&&Ag (List.getD m (Int.toNat p6) 0))) (Cq (Jw (decide (0≤p6)) (decide (p6<(List.length p2:Int)))) (Cq (Ci (decide ((Int.toNat p6)<(List.length p2)))) rfl rfl) rfl) rfl) rfl) rfl) rfl)
theorem Af.Sub.ev (N:Nat) (r c:Int) (l:List Int) (p q:Int) (m:List Int):Bp Af.Sub.E N Tryz.f129 (Al Tryz.f129) [.agg [.int .i64 r,.int .i64 c,.ints .arg .u64 l],.agg [.int .i64 p,.int .i64 q,.ints .arg .u64 m]]=bif (Bn r&&Bn c) then Af.Sub.L0 N N r c l p q m 0 (Bg (Int.toNat r) (Int.toNat c) (fun _ _=>0)) else none:=by kernel_rfl
abbrev _root_.Go.Proofs.S1.Af.Sub.Kn:=A5 Tryz.prog 129 Af.Sub.spec
theorem Af.Sub.Ac (hk:Ay Tryz.prog Af.Sub.A8) (h:∀ (r c:Int) (l:List Int) (p q:Int) (m:List Int),Af.Sub.pre [.i r,.i c,.l l,.i p,.i q,.l m]=true→Ba Af.Sub.E Tryz.f129 [.agg [.int .i64 r,.int .i64 c,.ints .arg .u64 l],.agg [.int .i64 p,.int .i64 q,.ints .arg .u64 m]] (Af.Sub.out [.i r,.i c,.l l,.i p,.i q,.l m])):Af.Sub.Kn :=
  Aj (A1 hk _ _ _) Tryz.func129 (by kernel_rfl) (by kernel_rfl) h
def Af.Stack.A8:List (Nat × Entry):=[]
def Af.Stack.E:Env:=A9 (A7 Af.Stack.A8) (fun _=>false) (fun _=>none) (fun _=>none)
theorem Af.Stack.ev (N:Nat) (r c:Int) (l:List Int) (p q:Int) (m:List Int):Bp Af.Stack.E N Tryz.f72 (Al Tryz.f72) [.agg [.int .i64 r,.int .i64 c,.ints .arg .u64 l],.agg [.int .i64 p,.int .i64 q,.ints .arg .u64 m]]=bif (decide (0+(List.length l)≤Gu)) then bif (decide ((List.length ([]++l))+(List.length m)≤Gu)) then some (.agg [.int .i64 (Ab (r+p)),.int .i64 c,.ints (.own 20 37) .u64 (([]++l)++m)]) else none else none :=
  Eq.trans (by kernel_rfl)
  (Ea (Cq (Ci (decide ((List.length ([]++l))+(List.length m)≤Gu))) rfl rfl) rfl)
abbrev _root_.Go.Proofs.S1.Af.Stack.Kn:=A5 Tryz.prog 72 Af.Stack.spec
theorem Af.Stack.Ac (hk:Ay Tryz.prog Af.Stack.A8) (h:∀ (r c:Int) (l:List Int) (p q:Int) (m:List Int),Af.Stack.pre [.i r,.i c,.l l,.i p,.i q,.l m]=true→Ba Af.Stack.E Tryz.f72 [.agg [.int .i64 r,.int .i64 c,.ints .arg .u64 l],.agg [.int .i64 p,.int .i64 q,.ints .arg .u64 m]] (Af.Stack.out [.i r,.i c,.l l,.i p,.i q,.l m])):Af.Stack.Kn :=
  Aj (A1 hk _ _ _) Tryz.func72 (by kernel_rfl) (by kernel_rfl) h
def B7.Check.hint:Nat→Option Bb
  | 0=>some { keep:=[1,3,4],objs:=[(0,3,100003,.recs 24 3 [])],boxes:=[1] }
  | _=>none
def B7.Check.A8:List (Nat × Entry):=[(25,Gw.Check.spec)]
def B7.Check.E:Env:=A9 (A7 B7.Check.A8) (fun _=>false) B7.Check.hint (fun _=>none)
theorem B7.Check.ev (N:Nat) (r c:Int) (l:List Int) (p q:Int) (m:List Int) (a b:Int) (g:List Int) (u v:Int) (h:List Int):Bp B7.Check.E (N+6) Tryz.f52 (Al Tryz.f52) [.agg [.int .i64 r,.int .i64 c,.ints .arg .u64 l,.int .i64 p,.int .i64 q,.ints .arg .u64 m,.int .i64 a,.int .i64 b,.ints .arg .u64 g,.int .i64 u,.int .i64 v,.ints .arg .u64 h]]=bif (Ae l) then bif ((B1 r c l) !=(0:Int)) then bif (Ae l) then some (.int .i64 (B1 r c l)) else none else bif (Ae m) then bif ((B1 p q m) !=(0:Int)) then bif (Ae m) then some (.int .i64 (B1 p q m)) else none else bif (Ae g) then bif ((B1 a b g) !=(0:Int)) then bif (Ae g) then some (.int .i64 (B1 a b g)) else none else bif (Ae h) then bif ((B1 u v h) !=(0:Int)) then bif (Ae h) then some (.int .i64 (B1 u v h)) else none else bif (((((((c !=q)||(r !=a))||(p !=u))||(b !=(1:Int)))||(v !=(1:Int)))||(A6 c p))||(A6 (Ab (r+p)) c)) then some (.int .i64 3) else some (.int .i64 0) else none else none else none else none :=
  Eq.trans (by kernel_rfl)
  (Ea (Ea rfl (Ea (Ea rfl (Ea (Ea rfl (Ea (Ea rfl (Ar (Rs (c !=q)) (Ar (Pg (c !=q)) (Ar (Pg (c !=q)) (Ar (Rs (c !=q)) (Ar (Pg (c !=q)) (Ar (Pg (c !=q)) (Ar (tt8 (c !=q)) (Ar (Xb (c !=q)) (Ar (Aeb (c !=q) (r !=a)) (Ar (Ab4 (c !=q) (r !=a)) (Ar (Ab4 (c !=q) (r !=a)) (Ar (Aeb (c !=q) (r !=a)) (Ar (Ab4 (c !=q) (r !=a)) (Ar (Ab4 (c !=q) (r !=a)) (Ar (Aq1 (c !=q) (r !=a)) (Ar (Aq5 (c !=q) (r !=a)) (Ar (Aq6 (c !=q) (r !=a) (p !=u)) (Ar (Aec (c !=q) (r !=a) (p !=u)) (Ar (Aec (c !=q) (r !=a) (p !=u)) (Ar (Aec (c !=q) (r !=a) (p !=u)) (Ar (Aq7 (c !=q) (r !=a) (p !=u)) (Ar (Ako (c !=q) (r !=a) (p !=u) (b !=(1:Int))) (Ar (Aed (c !=q) (r !=a) (p !=u) (b !=(1:Int))) (Ar (Aed (c !=q) (r !=a) (p !=u) (b !=(1:Int))) (Ar (Aed (c !=q) (r !=a) (p !=u) (b !=(1:Int))) (Ar (Aq8 (c !=q) (r !=a) (p !=u) (b !=(1:Int))) (Ar (Akp (c !=q) (r !=a) (p !=u) (b !=(1:Int)) (v !=(1:Int))) (Ar (Ank (c !=q) (r !=a) (p !=u) (b !=(1:Int)) (v !=(1:Int))) (Ar (Ank (c !=q) (r !=a) (p !=u) (b !=(1:Int)) (v !=(1:Int))) (Ar (Akp (c !=q) (r !=a) (p !=u) (b !=(1:Int)) (v !=(1:Int))) (Ar (Ank (c !=q) (r !=a) (p !=u) (b !=(1:Int)) (v !=(1:Int))) (Ar (Ank (c !=q) (r !=a) (p !=u) (b !=(1:Int)) (v !=(1:Int))) (Ar (At7 (c !=q) (r !=a) (p !=u) (b !=(1:Int)) (v !=(1:Int))) (Ar (At8 (c !=q) (r !=a) (p !=u) (b !=(1:Int)) (v !=(1:Int))) (Ar (Ab6 (c !=q) (r !=a) (p !=u) (b !=(1:Int)) (v !=(1:Int)) (A6 c p)) (Ar (Ab5 (c !=q) (r !=a) (p !=u) (b !=(1:Int)) (v !=(1:Int)) (A6 c p)) (Ar (Ab5 (c !=q) (r !=a) (p !=u) (b !=(1:Int)) (v !=(1:Int)) (A6 c p)) (Ar (Ab6 (c !=q) (r !=a) (p !=u) (b !=(1:Int)) (v !=(1:Int)) (A6 c p)) (Ar (Ab5 (c !=q) (r !=a) (p !=u) (b !=(1:Int)) (v !=(1:Int)) (A6 c p)) (Ar (Ab5 (c !=q) (r !=a) (p !=u) (b !=(1:Int)) (v !=(1:Int)) (A6 c p)) (Ar (Ab6 (c !=q) (r !=a) (p !=u) (b !=(1:Int)) (v !=(1:Int)) (A6 c p)) (Ar (Ab5 (c !=q) (r !=a) (p !=u) (b !=(1:Int)) (v !=(1:Int)) (A6 c p)) (Ar (Ab5 (c !=q) (r !=a) (p !=u) (b !=(1:Int)) (v !=(1:Int)) (A6 c p)) (Ar (Akq (c !=q) (r !=a) (p !=u) (b !=(1:Int)) (v !=(1:Int)) (A6 c p)) (Ar (Akq (c !=q) (r !=a) (p !=u) (b !=(1:Int)) (v !=(1:Int)) (A6 c p)) (Ar (At9 (c !=q) (r !=a) (p !=u) (b !=(1:Int)) (v !=(1:Int)) (A6 c p)) (Cq (Av5 (c !=q) (r !=a) (p !=u) (b !=(1:Int)) (v !=(1:Int)) (A6 c p) (A6 (Ab (r+p)) c)) rfl rfl)))))))))))))))))))))))))))))))))))))))))))))))) rfl)) rfl)) rfl)) rfl)
abbrev _root_.Go.Proofs.S1.B7.Check.Kn:=A5 Tryz.prog 52 B7.Check.spec
theorem B7.Check.Ac (hk:Ay Tryz.prog B7.Check.A8) (h:∀ (r c:Int) (l:List Int) (p q:Int) (m:List Int) (a b:Int) (g:List Int) (u v:Int) (h:List Int),B7.Check.pre [.i r,.i c,.l l,.i p,.i q,.l m,.i a,.i b,.l g,.i u,.i v,.l h]=true→Ba B7.Check.E Tryz.f52 [.agg [.int .i64 r,.int .i64 c,.ints .arg .u64 l,.int .i64 p,.int .i64 q,.ints .arg .u64 m,.int .i64 a,.int .i64 b,.ints .arg .u64 g,.int .i64 u,.int .i64 v,.ints .arg .u64 h]] (B7.Check.out [.i r,.i c,.l l,.i p,.i q,.l m,.i a,.i b,.l g,.i u,.i v,.l h])):B7.Check.Kn :=
  Aj (A1 hk _ _ _) Tryz.func52 (by kernel_rfl) (by kernel_rfl) h
def B7.Solve.A8:List (Nat × Entry):=[(45,Af.Mul.spec),(128,Af.Part.spec),(72,Af.Stack.spec),(129,Af.Sub.spec),(37,Af.Co.spec),(25,Gw.Check.spec),(127,B4.B0.spec),(26,A0.Flat.spec),(32,A0.Eb.spec),(23,A0.Cs.spec),(52,B7.Check.spec)]
def B7.Solve.live:Nat→Option (List Nat)
  | 6=>some [1,2,4,5,6]
  | 9=>some [1,2,4,5,6,7]
  | 12=>some [1,2,4,5,6,8,9]
  | 15=>some [1,2,4,5,6,8,10]
  | 18=>some [2,4,5,6,8,10,11]
  | 21=>some [2,6,8,12,13]
  | 24=>some [2,14]
  | _=>none
def B7.Solve.E:Env:=A9 (A7 B7.Solve.A8) (fun _=>false) (fun _=>none) B7.Solve.live
def B7.Solve.C6 (N:Nat) (r c:Int) (l:List Int) (p q:Int) (m:List Int) (a b:Int) (g:List Int) (u v:Int) (h:List Int) (p6 p6_1:Int) (p6_2:List Int) (p6_3 p6_4:Int) (p6_5:List Int) (p6_6:Bool):Option DV:=cutAt B7.Solve.E N Tryz.f48 (Al Tryz.f48) [1,1,1,1,1,0] [] ⟨Ft 106 [(1,.ptr 1 0 0),(2,.ptr 2 0 0),(4,.int .i64 c),(5,.int .i64 p),(6,.ptr 6 0 0)],[(6,false,.box [.int .i64 p6,.int .i64 p6_1,.ints .arg .u64 p6_2,.int .i64 p6_3,.int .i64 p6_4,.ints .arg .u64 p6_5,.bool p6_6]),(2,false,.box [.int .i64 0,.int .i64 0,.nil]),(1,false,.box [.int .i64 r,.int .i64 c,.ints .arg .u64 l,.int .i64 p,.int .i64 q,.ints .arg .u64 m,.int .i64 a,.int .i64 b,.ints .arg .u64 g,.int .i64 u,.int .i64 v,.ints .arg .u64 h])]⟩
def B7.Solve.C9 (N:Nat) (r c:Int) (l:List Int) (p q:Int) (m:List Int) (a b:Int) (g:List Int) (u v:Int) (h:List Int) (p6 p6_1:Int) (p6_2:List Int) (p6_3 p6_4:Int) (p6_5:List Int) (p6_6:Bool) (p7:List Int):Option DV:=cutAt B7.Solve.E N Tryz.f48 (Al Tryz.f48) [1,1,1,1,1,1,1,0] [] ⟨Ft 106 [(1,.ptr 1 0 0),(2,.ptr 2 0 0),(4,.int .i64 c),(5,.int .i64 p),(6,.ptr 6 0 0),(7,.ptr 7 0 0)],[(7,false,.box [.int .i64 p,.int .i64 p,.ints .fresh .u64 p7]),(6,false,.box [.int .i64 p6,.int .i64 p6_1,.ints .arg .u64 p6_2,.int .i64 p6_3,.int .i64 p6_4,.ints .arg .u64 p6_5,.bool p6_6]),(2,false,.box [.int .i64 0,.int .i64 0,.nil]),(1,false,.box [.int .i64 r,.int .i64 c,.ints .arg .u64 l,.int .i64 p,.int .i64 q,.ints .arg .u64 m,.int .i64 a,.int .i64 b,.ints .arg .u64 g,.int .i64 u,.int .i64 v,.ints .arg .u64 h])]⟩
def B7.Solve.C12 (N:Nat) (r c:Int) (l:List Int) (p q:Int) (m:List Int) (a b:Int) (g:List Int) (u v:Int) (h:List Int) (p6 p6_1:Int) (p6_2:List Int) (p6_3 p6_4:Int) (p6_5:List Int) (p6_6:Bool) (p7:List Int) (p9 p8 p8_1:Int) (p8_2:List Int):Option DV:=cutAt B7.Solve.E N Tryz.f48 (Al Tryz.f48) [1,1,1,1,1,1,1,1,1,0] [] ⟨Ft 106 [(1,.ptr 1 0 0),(2,.ptr 2 0 0),(4,.int .i64 c),(5,.int .i64 p),(6,.ptr 6 0 0),(8,.ptr 8 0 0),(9,.int .i64 p9)],[(8,false,.box [.int .i64 p8,.int .i64 p8_1,.ints .arg .u64 p8_2]),(7,false,.box [.int .i64 p,.int .i64 p,.ints .fresh .u64 p7]),(6,false,.box [.int .i64 p6,.int .i64 p6_1,.ints .arg .u64 p6_2,.int .i64 p6_3,.int .i64 p6_4,.ints .arg .u64 p6_5,.bool p6_6]),(2,false,.box [.int .i64 0,.int .i64 0,.nil]),(1,false,.box [.int .i64 r,.int .i64 c,.ints .arg .u64 l,.int .i64 p,.int .i64 q,.ints .arg .u64 m,.int .i64 a,.int .i64 b,.ints .arg .u64 g,.int .i64 u,.int .i64 v,.ints .arg .u64 h])]⟩
def B7.Solve.C15 (N:Nat) (r c:Int) (l:List Int) (p q:Int) (m:List Int) (a b:Int) (g:List Int) (u v:Int) (h:List Int) (p6 p6_1:Int) (p6_2:List Int) (p6_3 p6_4:Int) (p6_5:List Int) (p6_6:Bool) (p7:List Int) (p8 p8_1:Int) (p8_2 p10:List Int):Option DV:=cutAt B7.Solve.E N Tryz.f48 (Al Tryz.f48) [1,1,1,1,1,1,1,1,1,1,1,0] [] ⟨Ft 106 [(1,.ptr 1 0 0),(2,.ptr 2 0 0),(4,.int .i64 c),(5,.int .i64 p),(6,.ptr 6 0 0),(8,.ptr 8 0 0),(10,.ptr 10 0 0)],[(10,false,.box [.int .i64 r,.int .i64 p6_1,.ints .fresh .u64 p10]),(8,false,.box [.int .i64 p8,.int .i64 p8_1,.ints .arg .u64 p8_2]),(7,false,.box [.int .i64 p,.int .i64 p,.ints .fresh .u64 p7]),(6,false,.box [.int .i64 p6,.int .i64 p6_1,.ints .arg .u64 p6_2,.int .i64 p6_3,.int .i64 p6_4,.ints .arg .u64 p6_5,.bool p6_6]),(2,false,.box [.int .i64 0,.int .i64 0,.nil]),(1,false,.box [.int .i64 r,.int .i64 c,.ints .arg .u64 l,.int .i64 p,.int .i64 q,.ints .arg .u64 m,.int .i64 a,.int .i64 b,.ints .arg .u64 g,.int .i64 u,.int .i64 v,.ints .arg .u64 h])]⟩
def B7.Solve.C18 (N:Nat) (r c:Int) (l:List Int) (p q:Int) (m:List Int) (a b:Int) (g:List Int) (u v:Int) (h:List Int) (p6 p6_1:Int) (p6_2:List Int) (p6_3 p6_4:Int) (p6_5:List Int) (p6_6:Bool) (p7:List Int) (p8 p8_1:Int) (p8_2 p10 p11:List Int):Option DV:=cutAt B7.Solve.E N Tryz.f48 (Al Tryz.f48) [1,1,1,1,1,1,1,1,1,1,1,1,1,0] [] ⟨Ft 106 [(2,.ptr 2 0 0),(4,.int .i64 c),(5,.int .i64 p),(6,.ptr 6 0 0),(8,.ptr 8 0 0),(10,.ptr 10 0 0),(11,.ptr 11 0 0)],[(11,false,.box [.int .i64 a,.int .i64 b,.ints .fresh .u64 p11]),(10,false,.box [.int .i64 r,.int .i64 p6_1,.ints .fresh .u64 p10]),(8,false,.box [.int .i64 p8,.int .i64 p8_1,.ints .arg .u64 p8_2]),(7,false,.box [.int .i64 p,.int .i64 p,.ints .fresh .u64 p7]),(6,false,.box [.int .i64 p6,.int .i64 p6_1,.ints .arg .u64 p6_2,.int .i64 p6_3,.int .i64 p6_4,.ints .arg .u64 p6_5,.bool p6_6]),(2,false,.box [.int .i64 0,.int .i64 0,.nil]),(1,false,.box [.int .i64 r,.int .i64 c,.ints .arg .u64 l,.int .i64 p,.int .i64 q,.ints .arg .u64 m,.int .i64 a,.int .i64 b,.ints .arg .u64 g,.int .i64 u,.int .i64 v,.ints .arg .u64 h])]⟩
def B7.Solve.C21 (N:Nat) (r c:Int) (l:List Int) (p q:Int) (m:List Int) (a b:Int) (g:List Int) (u v:Int) (h:List Int) (p6 p6_1:Int) (p6_2:List Int) (p6_3 p6_4:Int) (p6_5:List Int) (p6_6:Bool) (p7:List Int) (p8 p8_1:Int) (p8_2 p10 p11:List Int) (p13 p12 p12_1:Int) (p12_2:List Int):Option DV:=cutAt B7.Solve.E N Tryz.f48 (Al Tryz.f48) [1,1,1,1,1,1,1,1,1,1,1,1,1,1,1,0] [] ⟨Ft 106 [(2,.ptr 2 0 0),(6,.ptr 6 0 0),(8,.ptr 8 0 0),(12,.ptr 12 0 0),(13,.int .i64 p13)],[(12,false,.box [.int .i64 p12,.int .i64 p12_1,.ints .arg .u64 p12_2]),(11,false,.box [.int .i64 a,.int .i64 b,.ints .fresh .u64 p11]),(10,false,.box [.int .i64 r,.int .i64 p6_1,.ints .fresh .u64 p10]),(8,false,.box [.int .i64 p8,.int .i64 p8_1,.ints .arg .u64 p8_2]),(7,false,.box [.int .i64 p,.int .i64 p,.ints .fresh .u64 p7]),(6,false,.box [.int .i64 p6,.int .i64 p6_1,.ints .arg .u64 p6_2,.int .i64 p6_3,.int .i64 p6_4,.ints .arg .u64 p6_5,.bool p6_6]),(2,false,.box [.int .i64 0,.int .i64 0,.nil]),(1,false,.box [.int .i64 r,.int .i64 c,.ints .arg .u64 l,.int .i64 p,.int .i64 q,.ints .arg .u64 m,.int .i64 a,.int .i64 b,.ints .arg .u64 g,.int .i64 u,.int .i64 v,.ints .arg .u64 h])]⟩
def B7.Solve.C24 (N:Nat) (r c:Int) (l:List Int) (p q:Int) (m:List Int) (a b:Int) (g:List Int) (u v:Int) (h:List Int) (p6 p6_1:Int) (p6_2:List Int) (p6_3 p6_4:Int) (p6_5:List Int) (p6_6:Bool) (p7:List Int) (p8 p8_1:Int) (p8_2 p10 p11:List Int) (p12 p12_1:Int) (p12_2 p14:List Int):Option DV:=cutAt B7.Solve.E N Tryz.f48 (Al Tryz.f48) [1,1,1,1,1,1,1,1,1,1,1,1,1,1,1,1,1,0] [] ⟨Ft 106 [(2,.ptr 2 0 0),(14,.ptr 14 0 0)],[(14,false,.box [.int .i64 p6,.int .i64 p8_1,.ints .fresh .u64 p14]),(12,false,.box [.int .i64 p12,.int .i64 p12_1,.ints .arg .u64 p12_2]),(11,false,.box [.int .i64 a,.int .i64 b,.ints .fresh .u64 p11]),(10,false,.box [.int .i64 r,.int .i64 p6_1,.ints .fresh .u64 p10]),(8,false,.box [.int .i64 p8,.int .i64 p8_1,.ints .arg .u64 p8_2]),(7,false,.box [.int .i64 p,.int .i64 p,.ints .fresh .u64 p7]),(6,false,.box [.int .i64 p6,.int .i64 p6_1,.ints .arg .u64 p6_2,.int .i64 p6_3,.int .i64 p6_4,.ints .arg .u64 p6_5,.bool p6_6]),(2,false,.box [.int .i64 0,.int .i64 0,.nil]),(1,false,.box [.int .i64 r,.int .i64 c,.ints .arg .u64 l,.int .i64 p,.int .i64 q,.ints .arg .u64 m,.int .i64 a,.int .i64 b,.ints .arg .u64 g,.int .i64 u,.int .i64 v,.ints .arg .u64 h])]⟩
theorem B7.Solve.Axb (N:Nat) (r c:Int) (l:List Int) (p q:Int) (m:List Int) (a b:Int) (g:List Int) (u v:Int) (h:List Int) (p6 p6_1:Int) (p6_2:List Int) (p6_3 p6_4:Int) (p6_5:List Int) (p6_6:Bool):B7.Solve.C6 N r c l p q m a b g u v h p6 p6_1 p6_2 p6_3 p6_4 p6_5 p6_6=bif (!p6_6) then some (.tup [.agg [.int .i64 0,.int .i64 0,.nil],.int .i64 2]) else bif (Av p6_3 p6_4 p6_5&&Gk p6_3 p6_4 0 0 p p) then bif (Av p p (Bg (Int.toNat p) (Int.toNat p) (fun j1 j2=>Cj p6_4 p6_5 ((0:Int)+j1) ((0:Int)+j2)))) then B7.Solve.C9 N r c l p q m a b g u v h p6 p6_1 p6_2 p6_3 p6_4 p6_5 p6_6 (Bg (Int.toNat p) (Int.toNat p) (fun j1 j2=>Cj p (Bg (Int.toNat p) (Int.toNat p) (fun j1 j2=>Cj p6_4 p6_5 ((0:Int)+j1) ((0:Int)+j2))) j2 j1)) else none else none:=(Ej _ _ _ _ _ _ _).trans (by kernel_rfl)
theorem B7.Solve.Agx (N:Nat) (r c:Int) (l:List Int) (p q:Int) (m:List Int) (a b:Int) (g:List Int) (u v:Int) (h:List Int) (p6 p6_1:Int) (p6_2:List Int) (p6_3 p6_4:Int) (p6_5:List Int) (p6_6:Bool) (p7:List Int):B7.Solve.C9 N r c l p q m a b g u v h p6 p6_1 p6_2 p6_3 p6_4 p6_5 p6_6 p7=bif ((Av p p p7&&Ae p7)&&Di p7) then bif (Nh p p p7) then some (.tup [.agg [.int .i64 0,.int .i64 0,.nil],.int .i64 5]) else bif (Ae p7&&Ae h) then B7.Solve.C12 N r c l p q m a b g u v h p6 p6_1 p6_2 p6_3 p6_4 p6_5 p6_6 p7 ((Qh p p p7 u v h).2.2.2) ((Qh p p p7 u v h).1) ((Qh p p p7 u v h).2.1) ((Qh p p p7 u v h).2.2.1) else none else none:=(Ej _ _ _ _ _ _ _).trans (by kernel_rfl)
theorem B7.Solve.Z5 (N:Nat) (r c:Int) (l:List Int) (p q:Int) (m:List Int) (a b:Int) (g:List Int) (u v:Int) (h:List Int) (p6 p6_1:Int) (p6_2:List Int) (p6_3 p6_4:Int) (p6_5:List Int) (p6_6:Bool) (p7:List Int) (p9 p8 p8_1:Int) (p8_2:List Int):B7.Solve.C12 N r c l p q m a b g u v h p6 p6_1 p6_2 p6_3 p6_4 p6_5 p6_6 p7 p9 p8 p8_1 p8_2=bif (p9 !=(0:Int)) then some (.tup [.agg [.int .i64 0,.int .i64 0,.nil],.int .i64 p9]) else bif ((Av r c l&&Av p6 p6_1 p6_2)&&((Ae l&&Ae p6_2)&&decide (c=p6))) then B7.Solve.C15 N r c l p q m a b g u v h p6 p6_1 p6_2 p6_3 p6_4 p6_5 p6_6 p7 p8 p8_1 p8_2 (Bg (Int.toNat r) (Int.toNat p6_1) (fun j1 j2=>G1 (Fw c l j1) (Hk p6 p6_1 p6_2 j2))) else none:=(Ej _ _ _ _ _ _ _).trans (by kernel_rfl)
theorem B7.Solve.Aiy (N:Nat) (r c:Int) (l:List Int) (p q:Int) (m:List Int) (a b:Int) (g:List Int) (u v:Int) (h:List Int) (p6 p6_1:Int) (p6_2:List Int) (p6_3 p6_4:Int) (p6_5:List Int) (p6_6:Bool) (p7:List Int) (p8 p8_1:Int) (p8_2 p10:List Int):B7.Solve.C15 N r c l p q m a b g u v h p6 p6_1 p6_2 p6_3 p6_4 p6_5 p6_6 p7 p8 p8_1 p8_2 p10=bif (Ae p10) then bif ((B1 r p6_1 p10) !=(0:Int)) then some (.tup [.agg [.int .i64 0,.int .i64 0,.nil],.int .i64 2]) else bif (Av r p6_1 p10&&Gk r p6_1 0 0 r p) then bif ((Av r p (Bg (Int.toNat r) (Int.toNat p) (fun j1 j2=>Cj p6_1 p10 ((0:Int)+j1) ((0:Int)+j2)))&&Av p8 p8_1 p8_2)&&((Ae (Bg (Int.toNat r) (Int.toNat p) (fun j1 j2=>Cj p6_1 p10 ((0:Int)+j1) ((0:Int)+j2)))&&Ae p8_2)&&decide (p=p8))) then bif ((Av a b g&&Av r p8_1 (Bg (Int.toNat r) (Int.toNat p8_1) (fun j1 j2=>G1 (Fw p (Bg (Int.toNat r) (Int.toNat p) (fun j1 j2=>Cj p6_1 p10 ((0:Int)+j1) ((0:Int)+j2))) j1) (Hk p8 p8_1 p8_2 j2))))&&((Ae g&&Ae (Bg (Int.toNat r) (Int.toNat p8_1) (fun j1 j2=>G1 (Fw p (Bg (Int.toNat r) (Int.toNat p) (fun j1 j2=>Cj p6_1 p10 ((0:Int)+j1) ((0:Int)+j2))) j1) (Hk p8 p8_1 p8_2 j2))))&&decide (r=a∧p8_1=b))) then B7.Solve.C18 N r c l p q m a b g u v h p6 p6_1 p6_2 p6_3 p6_4 p6_5 p6_6 p7 p8 p8_1 p8_2 p10 (Bg (Int.toNat a) (Int.toNat b) (fun j1 j2=>Db (Cj b g j1 j2) (Cj p8_1 (Bg (Int.toNat r) (Int.toNat p8_1) (fun j1 j2=>G1 (Fw p (Bg (Int.toNat r) (Int.toNat p) (fun j1 j2=>Cj p6_1 p10 ((0:Int)+j1) ((0:Int)+j2))) j1) (Hk p8 p8_1 p8_2 j2))) j1 j2))) else none else none else none else none :=
  Eq.trans ((Ej _ _ _ _ _ _ _).trans (by kernel_rfl))
  (Ea (Ea rfl (Cq (Ci (Av r p6_1 p10&&Gk r p6_1 0 0 r p)) (Cq (Ci ((Av r p (Bg (Int.toNat r) (Int.toNat p) (fun j1 j2=>Cj p6_1 p10 ((0:Int)+j1) ((0:Int)+j2)))&&Av p8 p8_1 p8_2)&&((Ae (Bg (Int.toNat r) (Int.toNat p) (fun j1 j2=>Cj p6_1 p10 ((0:Int)+j1) ((0:Int)+j2)))&&Ae p8_2)&&decide (p=p8)))) (Cq (Ci ((Av a b g&&Av r p8_1 (Bg (Int.toNat r) (Int.toNat p8_1) (fun j1 j2=>G1 (Fw p (Bg (Int.toNat r) (Int.toNat p) (fun j1 j2=>Cj p6_1 p10 ((0:Int)+j1) ((0:Int)+j2))) j1) (Hk p8 p8_1 p8_2 j2))))&&((Ae g&&Ae (Bg (Int.toNat r) (Int.toNat p8_1) (fun j1 j2=>G1 (Fw p (Bg (Int.toNat r) (Int.toNat p) (fun j1 j2=>Cj p6_1 p10 ((0:Int)+j1) ((0:Int)+j2))) j1) (Hk p8 p8_1 p8_2 j2))))&&decide (r=a∧p8_1=b)))) rfl rfl) rfl) rfl)) rfl)
theorem B7.Solve.Z4 (N:Nat) (r c:Int) (l:List Int) (p q:Int) (m:List Int) (a b:Int) (g:List Int) (u v:Int) (h:List Int) (p6 p6_1:Int) (p6_2:List Int) (p6_3 p6_4:Int) (p6_5:List Int) (p6_6:Bool) (p7:List Int) (p8 p8_1:Int) (p8_2 p10 p11:List Int):B7.Solve.C18 N r c l p q m a b g u v h p6 p6_1 p6_2 p6_3 p6_4 p6_5 p6_6 p7 p8 p8_1 p8_2 p10 p11=bif (Ae p11) then bif ((B1 a b p11) !=(0:Int)) then some (.tup [.agg [.int .i64 0,.int .i64 0,.nil],.int .i64 2]) else bif (Av r p6_1 p10&&Gk r p6_1 0 p r (Ab (c-p))) then bif (Ae (Bg (Int.toNat r) (Int.toNat (Ab (c-p))) (fun j1 j2=>Cj p6_1 p10 ((0:Int)+j1) (p+j2)))&&Ae p11) then B7.Solve.C21 N r c l p q m a b g u v h p6 p6_1 p6_2 p6_3 p6_4 p6_5 p6_6 p7 p8 p8_1 p8_2 p10 p11 ((Em r (Ab (c-p)) (Bg (Int.toNat r) (Int.toNat (Ab (c-p))) (fun j1 j2=>Cj p6_1 p10 ((0:Int)+j1) (p+j2))) a b p11).2.2.2) ((Em r (Ab (c-p)) (Bg (Int.toNat r) (Int.toNat (Ab (c-p))) (fun j1 j2=>Cj p6_1 p10 ((0:Int)+j1) (p+j2))) a b p11).1) ((Em r (Ab (c-p)) (Bg (Int.toNat r) (Int.toNat (Ab (c-p))) (fun j1 j2=>Cj p6_1 p10 ((0:Int)+j1) (p+j2))) a b p11).2.1) ((Em r (Ab (c-p)) (Bg (Int.toNat r) (Int.toNat (Ab (c-p))) (fun j1 j2=>Cj p6_1 p10 ((0:Int)+j1) (p+j2))) a b p11).2.2.1) else none else none else none :=
  Eq.trans ((Ej _ _ _ _ _ _ _).trans (by kernel_rfl))
  (Ea (Ea rfl (Cq (Ci (Av r p6_1 p10&&Gk r p6_1 0 p r (Ab (c-p)))) (Cq (Ci (Ae (Bg (Int.toNat r) (Int.toNat (Ab (c-p))) (fun j1 j2=>Cj p6_1 p10 ((0:Int)+j1) (p+j2)))&&Ae p11)) rfl rfl) rfl)) rfl)
theorem B7.Solve.Avd (N:Nat) (r c:Int) (l:List Int) (p q:Int) (m:List Int) (a b:Int) (g:List Int) (u v:Int) (h:List Int) (p6 p6_1:Int) (p6_2:List Int) (p6_3 p6_4:Int) (p6_5:List Int) (p6_6:Bool) (p7:List Int) (p8 p8_1:Int) (p8_2 p10 p11:List Int) (p13 p12 p12_1:Int) (p12_2:List Int):B7.Solve.C21 N r c l p q m a b g u v h p6 p6_1 p6_2 p6_3 p6_4 p6_5 p6_6 p7 p8 p8_1 p8_2 p10 p11 p13 p12 p12_1 p12_2=bif (p13 !=(0:Int)) then some (.tup [.agg [.int .i64 0,.int .i64 0,.nil],.int .i64 p13]) else bif ((Av p8 p8_1 p8_2&&Av p12 p12_1 p12_2)&&decide (p12_1=p8_1)) then bif ((Av p6 p6_1 p6_2&&Av (p8+p12) p8_1 (p8_2++p12_2))&&((Ae p6_2&&Ae (p8_2++p12_2))&&decide (p6_1=(p8+p12)))) then B7.Solve.C24 N r c l p q m a b g u v h p6 p6_1 p6_2 p6_3 p6_4 p6_5 p6_6 p7 p8 p8_1 p8_2 p10 p11 p12 p12_1 p12_2 (Bg (Int.toNat p6) (Int.toNat p8_1) (fun j1 j2=>G1 (Fw p6_1 p6_2 j1) (Hk (p8+p12) p8_1 (p8_2++p12_2) j2))) else none else none :=
  Eq.trans ((Ej _ _ _ _ _ _ _).trans (by kernel_rfl))
  (Ea rfl (Cq (Ci ((Av p8 p8_1 p8_2&&Av p12 p12_1 p12_2)&&decide (p12_1=p8_1))) (Cq (Ci ((Av p6 p6_1 p6_2&&Av (p8+p12) p8_1 (p8_2++p12_2))&&((Ae p6_2&&Ae (p8_2++p12_2))&&decide (p6_1=(p8+p12))))) rfl rfl) rfl))
theorem B7.Solve.Avc (N:Nat) (r c:Int) (l:List Int) (p q:Int) (m:List Int) (a b:Int) (g:List Int) (u v:Int) (h:List Int) (p6 p6_1:Int) (p6_2:List Int) (p6_3 p6_4:Int) (p6_5:List Int) (p6_6:Bool) (p7:List Int) (p8 p8_1:Int) (p8_2 p10 p11:List Int) (p12 p12_1:Int) (p12_2 p14:List Int):B7.Solve.C24 N r c l p q m a b g u v h p6 p6_1 p6_2 p6_3 p6_4 p6_5 p6_6 p7 p8 p8_1 p8_2 p10 p11 p12 p12_1 p12_2 p14=bif (Ae p14) then bif ((B1 p6 p8_1 p14) !=(0:Int)) then some (.tup [.agg [.int .i64 0,.int .i64 0,.nil],.int .i64 2]) else some (.tup [.agg [.int .i64 p6,.int .i64 p8_1,.ints .fresh .u64 p14],.int .i64 0]) else none:=(Ej _ _ _ _ _ _ _).trans (by kernel_rfl)
theorem B7.Solve.ev (N:Nat) (r c:Int) (l:List Int) (p q:Int) (m:List Int) (a b:Int) (g:List Int) (u v:Int) (h:List Int):Bp B7.Solve.E N Tryz.f48 (Al Tryz.f48) [.agg [.int .i64 r,.int .i64 c,.ints .arg .u64 l,.int .i64 p,.int .i64 q,.ints .arg .u64 m,.int .i64 a,.int .i64 b,.ints .arg .u64 g,.int .i64 u,.int .i64 v,.ints .arg .u64 h]]=bif (Qf l m g h) then bif ((Kf r c l p q m a b g u v h) !=(0:Int)) then bif (Qf l m g h) then some (.tup [.agg [.int .i64 0,.int .i64 0,.nil],.int .i64 (Kf r c l p q m a b g u v h)]) else none else bif (Av p q m) then bif ((Av q p (Bg (Int.toNat q) (Int.toNat p) (fun j1 j2=>Cj q m j2 j1))&&Di (Bg (Int.toNat q) (Int.toNat p) (fun j1 j2=>Cj q m j2 j1)))&&Ae (Bg (Int.toNat q) (Int.toNat p) (fun j1 j2=>Cj q m j2 j1))) then B7.Solve.C6 N r c l p q m a b g u v h ((qX q p (Bg (Int.toNat q) (Int.toNat p) (fun j1 j2=>Cj q m j2 j1))).1) ((qX q p (Bg (Int.toNat q) (Int.toNat p) (fun j1 j2=>Cj q m j2 j1))).2.1) ((qX q p (Bg (Int.toNat q) (Int.toNat p) (fun j1 j2=>Cj q m j2 j1))).2.2.1) ((rX q p (Bg (Int.toNat q) (Int.toNat p) (fun j1 j2=>Cj q m j2 j1))).1) ((rX q p (Bg (Int.toNat q) (Int.toNat p) (fun j1 j2=>Cj q m j2 j1))).2.1) ((rX q p (Bg (Int.toNat q) (Int.toNat p) (fun j1 j2=>Cj q m j2 j1))).2.2.1) (decide (Ei q p (Bg (Int.toNat q) (Int.toNat p) (fun j1 j2=>Cj q m j2 j1))=0)) else none else none else none:=by kernel_rfl
abbrev _root_.Go.Proofs.S1.B7.Solve.Kn:=A5 Tryz.prog 48 B7.Solve.spec
theorem B7.Solve.Ac (hk:Ay Tryz.prog B7.Solve.A8) (h:∀ (r c:Int) (l:List Int) (p q:Int) (m:List Int) (a b:Int) (g:List Int) (u v:Int) (h:List Int),B7.Solve.pre [.i r,.i c,.l l,.i p,.i q,.l m,.i a,.i b,.l g,.i u,.i v,.l h]=true→Ba B7.Solve.E Tryz.f48 [.agg [.int .i64 r,.int .i64 c,.ints .arg .u64 l,.int .i64 p,.int .i64 q,.ints .arg .u64 m,.int .i64 a,.int .i64 b,.ints .arg .u64 g,.int .i64 u,.int .i64 v,.ints .arg .u64 h]] (B7.Solve.out [.i r,.i c,.l l,.i p,.i q,.l m,.i a,.i b,.l g,.i u,.i v,.l h])):B7.Solve.Kn :=
  Aj (A1 hk _ _ _) Tryz.func48 (by kernel_rfl) (by kernel_rfl) h
end EqRef20
open EqOf EqRef20
theorem Aa.Sub.known:Aa.Sub.Kn:=Aa.Sub.Ac (.cons Aa.of.Sub.known (.cons Aa.two.known .nil)) fun r c l p q m hp=>by
  show ∃ N dv drops,_=some dv∧Wk drops dv (S9 (K0 r c l p q m))
  unfold K0
  have hp:(Ae l&&Ae m)=true:=hp
  by_cases h:(Av r c l&&Av p q m)=true
  · obtain ⟨h1,h2⟩:=Ad.1 h
    by_cases hc:r=p∧c=q
    · have e:(!((r==p)&&(c==q)))=false:=by rw [hc.1,hc.2]; simp
      rw [if_pos h,if_pos hc]
      exact ⟨0,_,[],by rw [Aa.Sub.ev,Pj,h,e,(E1 h1).1,(E1 h1).2,hp,Ay7 ⟨rfl,rfl,hc.1.symm,hc.2.symm⟩]; rfl,Oa⟩
    · have e:(!((r==p)&&(c==q)))=true:=by
        rw [Bool.not_eq_true',Bool.eq_false_iff]
        intro h
        simp only [Azh,beq_iff_eq] at h
        exact hc h
      rw [if_pos h,if_neg hc]
      exact ⟨0,_,[],by rw [Aa.Sub.ev,Pj,h,e]; rfl,Jo⟩
  · have e:(Av r c l&&Av p q m)=false:=by simpa using h
    rw [if_neg h]
    exact ⟨0,_,[],by rw [Aa.Sub.ev,Pj,e,Ag9 e]; rfl,Jo⟩
theorem Af.Bm.own.known:Af.Bm.own.Kn:=Af.Bm.own.Ac .nil fun a b hp=>by
  obtain ⟨ha,hb⟩:=Ad.1 (show (Bn a&&Bn b)=true from hp)
  obtain ⟨A,rfl,hA⟩:=Et ha
  obtain ⟨B,rfl,hB⟩:=Et hb
  have hm:=Je (a:=(A:Int)) (b:=(B:Int)) (by omega) (by omega) (by omega) (by omega)
  have e:((A:Int)*(B:Int)).toNat=A*B:=by rw [← Azr,Ay8]
  refine ⟨0,.agg [.int .i64 (A:Int),.int .i64 (B:Int),.ints (.own 10 tB) .u64 (Bg A B fun _ _=>0)],[],?_,Wk.G2 (.cons .int (.cons .int (.cons (.keep _ _ _ _ (List.not_mem_nil)) .nil)))⟩
  rw [Af.Bm.own.ev,Am (by omega) (by omega),Ay7 hm.1,Ay7 (Int.le_refl _),Ay7 (show (A:Int)*(B:Int)≤(Gu:Int) by unfold Gu; omega),e,Tj]
  rfl
def S2 (f:Nat→Int) (n i:Nat):List Int:=(List.range i).map f++List.replicate (n-i) 0
theorem Adm {f:Nat→Int} {n i:Nat} (h:i≤n):(S2 f n i).length=n:=by
  unfold S2; rw [List.length_append,List.length_map,List.length_range,List.length_replicate]; omega
theorem Ami {f:Nat→Int} {n i:Nat} (h:i<n):List.set (S2 f n i) i (f i)=S2 f n (i+1):=by
  unfold S2
  have e:n-i=(n-(i+1))+1:=by omega
  rw [e,List.replicate_succ,List.set_append_right _ _ (by rw [List.length_map,List.length_range]; omega),List.length_map,List.length_range,Nat.sub_self,List.set_cons_zero,Hd,List.append_assoc]
  rfl
theorem Aii {f:Nat→Int} {n:Nat}:S2 f n 0=List.replicate n 0:=by unfold S2; rfl
theorem Amj {f:Nat→Int} {n:Nat}:S2 f n n=(List.range n).map f:=by unfold S2; rw [Nat.sub_self]; exact List.append_nil _
theorem Acm (N:Nat) {R C:Nat} {l m:List Int} (al:Ae l=true) (am:Ae m=true) (h36:l.length≤36) (hm:m.length=l.length) (p q:Int):∀ (k i F:Nat),i+k=l.length→k<F →
    Af.Sub.L0 N F (R:Int) (C:Int) l p q m (i:Int) (S2 (fun j=>Db (l.getD j 0) (m.getD j 0)) l.length i)=some (.agg [.int .i64 (R:Int),.int .i64 (C:Int),.ints (.own 106002 tB) .u64 ((List.range l.length).map fun j=>Db (l.getD j 0) (m.getD j 0))]):=by
  intro k
  induction k with
  | zero =>
    intro i F hi hF
    obtain ⟨F,rfl⟩:∃ G,F=G+1:=⟨F-1,by omega⟩
    obtain rfl:i=l.length:=by omega
    rw [Af.Sub.Au,Aq,Azb (by omega),Aza,Amj]
  | succ k ih =>
    intro i F hi hF
    obtain ⟨F,rfl⟩:∃ G,F=G+1:=⟨F-1,by omega⟩
    rw [Af.Sub.Au,Aq,Ay7 (show (i:Int)<(l.length:Int) by omega),Ay6,Ay7 (show (0:Int)≤(i:Int) by omega),Azc,Ay6,Ay7 (show (i:Int)<(m.length:Int) by omega),Azc,Ay6,Ay8,
      Qe al (by omega),Qe am (by omega),Azc,Ay6,Adm (by omega),Ay7 (show (i:Int)<(l.length:Int) by omega),Azc,Ay6,Ay7 (show i<l.length by omega),Ay6,Am (by omega) (by omega)]
    have:=ih (i+1) F (by omega) (by omega)
    rw [← Ami (by omega)] at this
    exact this
theorem Af.Sub.known:Af.Sub.Kn:=Af.Sub.Ac (.cons Ak.Sub.known (.cons Af.Bm.own.known .nil)) fun r c l p q m hp=>by
  obtain ⟨h1,h2⟩:=Ad.1 (show ((Av r c l&&Av p q m)&&((Ae l&&Ae m)&&decide (p=r∧q=c)))=true from hp)
  obtain ⟨hr,hm⟩:=Ad.1 h1
  obtain ⟨h3,h4⟩:=Ad.1 h2
  obtain ⟨al,am⟩:=Ad.1 h3
  obtain ⟨rfl,rfl⟩:=of_decide_eq_true h4
  obtain ⟨s1,s2⟩:=E1 hr
  obtain ⟨R,C,rfl,rfl,r6,c6,hl⟩:=B8 hr
  have hl2:m.length=R*C:=by
    have:=(He.1 hm).2.2
    rw [← Azr] at this
    omega
  have h36:=Nat.mul_le_mul r6 c6
  have n:=Acm 37 (R:=R) (C:=C) al am (by omega) (by omega) (R:Int) (C:Int) l.length 0 37 (by omega) (by omega)
  rw [Aii,hl,← Tj,show ((0:Nat):Int)=0 from rfl] at n
  refine ⟨37,.agg [.int .i64 (R:Int),.int .i64 (C:Int),.ints (.own 106002 tB) .u64 (Bg R C fun (i k:Nat)=>Db (Cj (C:Int) l (i:Int) (k:Int)) (Cj (C:Int) m (i:Int) (k:Int)))],[106002],?_,Qo (List.mem_singleton.2 rfl)⟩
  have e:(List.range (R*C)).map (fun j=>Db (l.getD j 0) (m.getD j 0))=Bg R C fun (i k:Nat)=>Db (Cj (C:Int) l (i:Int) (k:Int)) (Cj (C:Int) m (i:Int) (k:Int)):=by
    unfold Bg
    refine List.map_congr_left fun j _=>?_
    dsimp only
    rw [N6,N6,Nat.div_add_mod']
  rw [e] at n
  rw [Af.Sub.ev,s1,s2,Azc,Ay6,Ay8,Ay8]
  exact n
theorem Af.Stack.known:Af.Stack.Kn:=Af.Stack.Ac .nil fun r c l p q m hp=>by
  obtain ⟨h1,h2⟩:=Ad.1 (show ((Av r c l&&Av p q m)&&decide (q=c))=true from hp)
  obtain ⟨hr,hm⟩:=Ad.1 h1
  obtain ⟨R,C,rfl,rfl,r6,c6,hl⟩:=B8 hr
  obtain ⟨P,Q,rfl,rfl,p6,q6,hl2⟩:=B8 hm
  have h36:=Nat.mul_le_mul r6 c6
  have h36':=Nat.mul_le_mul p6 q6
  refine ⟨0,.agg [.int .i64 ((R:Int)+(P:Int)),.int .i64 (C:Int),.ints (.own 20 tB) .u64 (l++m)],[20],?_,Qo (List.mem_singleton.2 rfl)⟩
  rw [Af.Stack.ev,List.nil_append,Ay7 (show 0+l.length≤Gu by unfold Gu; omega),Ay6,Ay7 (show l.length+m.length≤Gu by unfold Gu; omega),Ay6,Am (by omega) (by omega)]
theorem Ahf {R P C:Nat} {l m:List Int} (hl:l.length=R*C) (hm:m.length=P*C) :
    (Bg (R+P) C fun (i k:Nat)=>Jm (R:Int) (C:Int) l (C:Int) m (i:Int) (k:Int))=l++m:=by
  have h:(l++m).length=(R+P)*C:=by rw [List.length_append,hl,hm,Nat.add_mul]
  conv=>rhs; rw [← Wa h]
  refine Dx fun i k hi hk=>?_
  unfold Jm
  by_cases hlt:(i:Int)<(R:Int)
  · have:=K3 (r:=R) (c:=C) (i:=i) (k:=k) (by omega) hk
    rw [if_pos hlt,N6,N6,Azg,Azg,List.getElem?_append_left (by omega)]
  · have es:(i:Int)-(R:Int)=((i-R:Nat):Int):=by omega
    have e2:i*C=R*C+(i-R)*C:=by rw [← Nat.add_mul]; congr 1; omega
    rw [if_neg hlt,es,N6,N6,Azg,Azg,List.getElem?_append_right (by omega),hl,e2]
    congr 2; omega
open EqLse
def Out (o:Option DV) (x:MX):Prop:=∃ dv drops,o=some dv∧Wk drops dv (Acv x)
theorem Kj {o:Option DV} {e:Int} (h:o=some (Ahu e)):Out o (Ij e):=⟨_,[],h,M5⟩
theorem Aun {o:Option DV} {x:MX} (h:o=some (Acv x)):Out o x:=⟨_,[],h,Rq⟩
section
variable {N:Nat} {r c p q a b u v:Int} {l m g h:List Int} {w one two done f y Q z:MX}
theorem Ar9 (aq:Ae Q.2.2.1=true) (ay:Ae y.2.2.1=true) (az:Ae z.2.2.1=true) :
    Out (Dw.Solve.C18 N r c l p q m a b g u v h y.1 y.2.1 y.2.2.1 Q.1 Q.2.1 Q.2.2.1 w.1 w.2.1 w.2.2.1 one.1 one.2.1 one.2.2.1 two.1 two.2.1 two.2.2.1 done.1 done.2.1 done.2.2.1 f.1 f.2.1 f.2.2.1 z.2.2.2 z.1 z.2.1 z.2.2.1) (Yv Q y z):=by
  rw [Dw.Solve.Z4]
  unfold Yv
  by_cases k:z.2.2.2=0
  · rw [En k,Aza,if_neg (fun h=>h k)]
    by_cases k2:(Vq y z).2.2.2=0
    · rw [En (show (Ch y.1 y.2.1 y.2.2.1 z.1 z.2.1 z.2.2.1).2.2.2=0 from k2),Aza,if_neg (fun h=>h k2),aq,Akt ay az,Azc,Ay6,Pz,Ay6]
      exact Aun rfl
    · rw [Od (show (Ch y.1 y.2.1 y.2.2.1 z.1 z.2.1 z.2.2.1).2.2.2≠0 from k2),Ay6,if_pos k2]; exact Kj rfl
  · rw [Od k,Ay6,if_pos k]; exact Kj rfl
theorem Asa (aq:Ae Q.2.2.1=true) (ay:Ae y.2.2.1=true) (a2:Ae two.2.2.1=true) (af:Ae f.2.2.1=true) :
    Out (Dw.Solve.C15 N r c l p q m a b g u v h y.1 y.2.1 y.2.2.1 Q.1 Q.2.1 Q.2.2.1 w.1 w.2.1 w.2.2.1 one.1 one.2.1 one.2.2.1 two.1 two.2.1 two.2.2.1 done.1 done.2.1 done.2.2.1 f.2.2.2 f.1 f.2.1 f.2.2.1) (if f.2.2.2≠0 then Ij f.2.2.2 else Yv Q y (Ac9 two f)):=by
  rw [Dw.Solve.Aiy]
  by_cases k:f.2.2.2=0
  · rw [En k,Aza,if_neg (fun h=>h k),a2,af,Azc,Ay6]
    exact Ar9 (z:=Ac9 two f) aq ay (Al4 _ _ _ _ _ _)
  · rw [Od k,Ay6,if_pos k]; exact Kj rfl
theorem Asb (aq:Ae Q.2.2.1=true) (ay:Ae y.2.2.1=true) (aw:Ae w.2.2.1=true) (ag:Ae g=true) (hw:Ab (c-p)=c-p) :
    Out (Dw.Solve.C12 N r c l p q m a b g u v h y.1 y.2.1 y.2.2.1 Q.1 Q.2.1 Q.2.2.1 w.1 w.2.1 w.2.2.1 (Jn w 0 0 r p).1 (Jn w 0 0 r p).2.1 (Jn w 0 0 r p).2.2.1) (Afi Q y w (Aoz a b g (Alx w y r p)) r c p):=by
  have a1:Ae (Jn w 0 0 r p).2.2.1=true:=Uh aw _ _ _ _
  have a2:Ae (Jn w 0 p r (c-p)).2.2.1=true:=Uh aw _ _ _ _
  have a3:Ae (Alx w y r p).2.2.1=true:=Pz _ _ _ _ _ _
  rw [Dw.Solve.Z5,hw,Dw.Solve.Avh,a1,ay,Azc,Ay6,Dw.Solve.Aiz,ag,Pz,Azc,Ay6,Aja ag (Pz _ _ _ _ _ _),Ay6]
  exact Asa (two:=Jn w 0 p r (c-p)) (f:=Aoz a b g (Alx w y r p)) (one:=Jn w 0 0 r p) (done:=Alx w y r p) aq ay a2 (Aj3 (Aja ag a3))
theorem Auw (aq:Ae Q.2.2.1=true) (ay:Ae y.2.2.1=true) (al:Ae l=true) (ag:Ae g=true) (hw:Ab (c-p)=c-p) :
    Out (Dw.Solve.C5 N r c l p q m a b g u v h y.2.2.2 y.1 y.2.1 y.2.2.1 Q.1 Q.2.1 Q.2.2.1) (if y.2.2.2≠0 then Ij y.2.2.2 else Yw Q y (Aga (mulM (r,c,l,0) Q)) r c p a b g):=by
  rw [Dw.Solve.Aqs]
  by_cases k:y.2.2.2=0
  · rw [En k,Aza,if_neg (fun h=>h k),al,aq,Azc,Ay6,Pz,Ay6,Dw.Solve.Agx]
    unfold Yw
    by_cases k2:(Aga (mulM (r,c,l,0) Q)).2.2.2=0
    · rw [if_neg (fun h=>h k2)]
      refine (congrArg (fun o=>Out o _) ((congrArg (fun x=>bif x then _ else _) (En k2)).trans (Aza _ _))).mpr ?_
      exact Asb (w:=Aga (mulM (r,c,l,0) Q)) aq ay (Aj3 (Pz _ _ _ _ _ _)) ag hw
    · rw [if_pos k2]
      refine (congrArg (fun o=>Out o _) ((congrArg (fun x=>bif x then _ else _) (Od k2)).trans (Ay6 _ _))).mpr ?_
      exact Kj rfl
  · rw [Od k,Ay6,if_pos k]; exact Kj rfl
end
theorem Aw2 {p q:Int} {m:List Int} (am:Ae m=true):Ae (hQ p q m).2.2.1=true:=by
  unfold hQ
  split
  · exact Ek
  · split
    · exact Ek
    · exact (Atn (T0 am)).1
theorem Aw1 (p q:Int) (m:List Int) (u v:Int) (h:List Int):Ae (hY p q m u v h).2.2.1=true:=by
  unfold hY
  split
  · exact Ek
  · split
    · exact Ek
    · exact Ao5 _ _ _ _ _ _
theorem Dw.Solve.known:Dw.Solve.Kn:=Dw.Solve.Ac (.cons Dw.Check.known (.cons Dw.finite.known (.cons Dw.held.known (.cons Aa.Mul.known (.cons Aa.Part.known (.cons Aa.Stack.known (.cons Aa.Sub.known (.cons solve.Eb.known .nil)))))))) fun r c l p q m a b g u v h hp=>by
  have h0:Qf l m g h=true:=hp
  obtain ⟨h1,h2⟩:=Ad.1 (show ((Ae l&&Ae m)&&(Ae g&&Ae h))=true from h0)
  obtain ⟨al,am⟩:=Ad.1 h1
  obtain ⟨ag,ah⟩:=Ad.1 h2
  suffices hs:Out (Bp Dw.Solve.E 0 _ _ _) (D7 r c l p q m a b g u v h) by
    obtain ⟨dv,drops,e1,e2⟩:=hs
    exact ⟨0,dv,drops,e1,e2⟩
  rw [Dw.Solve.ev,h0,Ay6]
  unfold D7
  by_cases k:Kf r c l p q m a b g u v h=0
  · obtain ⟨k1,k2,_,_,rfl,_,_,_,_,hpc,_⟩:=Vn k
    have s1:=Ou (Ex k1).1
    have s2:=Ou (Ex k2).1
    rw [En k,Aza,Ay7 k,Azc,Ay6,if_neg (fun h=>h k)]
    exact Auw (Q:=hQ p q m) (y:=hY p q m u v h) (Aw2 am) (Aw1 _ _ _ _ _ _) al ag (Am (by omega) (by omega))
  · rw [Od k,Ay6,if_pos k]
    exact Kj rfl
open EqRef14 EqLow
theorem Adf {c:Int} {l:List Int} {i k:Int} (h:Di l=true):Da (Cj c l i k)=true:=by
  unfold Cj
  rw [Azg]
  cases hx:l[(i*c+k).toNat]? with
  | none=>exact (by decide:Da 0=true)
  | some x =>
    unfold Di at h
    exact List.all_eq_true.1 h x (List.mem_of_getElem? hx)
theorem U7 {r c:Nat} {f:Nat→Nat→Int} (h:∀ i k,Da (f i k)=true):Di (Bg r c f)=true:=by
  unfold Di
  rw [List.all_eq_true]
  intro x hx
  obtain ⟨j,_,rfl⟩:=List.mem_map.1 hx
  exact h _ _
theorem Aca {r c:Int} {l:List Int} (al:Ae l=true) (h:Ei r c l=0):∃ R C:Nat,r=R∧c=C∧R≤6∧C≤6∧l.length=R*C ∧
    Ed r c l=((R:Int),((min R C:Nat):Int),Bg R (min R C) (fun i k=>Cj (R:Int) (L8 R C l) (0+(i:Int)) (0+(k:Int))),0) ∧
    H9 r c l=(((min R C:Nat):Int),(C:Int),Bg (min R C) C (fun i k=>Cj (C:Int) (Ix R C l) (0+(i:Int)) (0+(k:Int))),0) ∧
    Ae (L8 R C l)=true∧Ae (Ix R C l)=true∧Di (L8 R C l)=true∧Di (Ix R C l)=true∧(L8 R C l).length=R*R∧(Ix R C l).length=R*C:=by
  have ht:=Vm al h
  obtain ⟨R,C,rfl,rfl,r6,c6,hl,q1,q2,g1,g2,f1,f2⟩:=Va al h
  have p1:Gk (R:Int) (R:Int) 0 0 (R:Int) (min (R:Int) (C:Int))=true:=Ay7 (by omega)
  have p2:Gk (R:Int) (C:Int) 0 0 (min (R:Int) (C:Int)) (C:Int)=true:=Ay7 (by omega)
  rw [Ay8,Ay8,Xh r6 r6 q2 p1,Xh r6 c6 g2 p2] at ht
  have em:min (R:Int) (C:Int)=((min R C:Nat):Int):=by omega
  rw [em,Ay8,Ay8,Ay8] at ht
  exact ⟨R,C,rfl,rfl,r6,c6,hl,ht.1.symm,ht.2.symm,q1,g1,f1,f2,q2,g2⟩
theorem B4.Gq.known:B4.Gq.Kn:=B4.Gq.Ac (.cons Af.Part.known (.cons B4.B0.known .nil)) fun r c l hp=>by
  have h1:((Av r c l&&Di l)&&Ae l)=true:=hp
  obtain ⟨_,al⟩:=Ad.1 h1
  show ∃ N dv drops,_=some dv∧Wk drops dv (DV.agg [.int .i64 (Ed r c l).1,.int .i64 (Ed r c l).2.1,.ints .arg .u64 (Ed r c l).2.2.1,.int .i64 (H9 r c l).1,.int .i64 (H9 r c l).2.1,.ints .arg .u64 (H9 r c l).2.2.1,.bool (decide (Ei r c l=0))])
  have hrun:=B4.Gq.ev 0 r c l
  rw [h1,Ay6] at hrun
  by_cases h:Ei r c l=0
  · obtain ⟨e1,e2⟩:=Pr h
    obtain ⟨R,C,rfl,rfl,r6,c6,hl,t1,t2,q1,g1,f1,f2,q2,g2⟩:=Aca al h
    have p1:Gk (R:Int) (R:Int) 0 0 (R:Int) (min (R:Int) (C:Int))=true:=Ay7 (by omega)
    have p2:Gk (R:Int) (C:Int) 0 0 (min (R:Int) (C:Int)) (C:Int)=true:=Ay7 (by omega)
    have em:min (R:Int) (C:Int)=((min R C:Nat):Int):=by omega
    rw [Ay7 h,Bool.not_true,Aza,e1,e2,Ay8,Ay8,Ef r6 r6 q2,Ef r6 c6 g2,p1,p2,Azc,Ay6,Ay6,em,Ay8] at hrun
    rw [t1,t2,h]
    exact ⟨0,_,[],hrun,Wk.G2 (.cons .int (.cons .int (.cons (.fresh _ _) (.cons .int (.cons .int (.cons (.fresh _ _) (.cons .bool .nil)))))))⟩
  · obtain ⟨e1,e2⟩:=S7 (e:=Ei r c l) rfl h
    have e3:Ed r c l=Ij (Ei r c l):=by unfold Ed; rw [if_pos h]
    have e4:H9 r c l=Ij (Ei r c l):=by unfold H9; rw [if_pos h]
    rw [Azb h,Bool.not_false,Ay6,e1,e2] at hrun
    rw [e3,e4,Azb h]
    exact ⟨0,_,[],hrun,Wk.G2 (.cons .int (.cons .int (.cons .Rh (.cons .int (.cons .int (.cons .Rh (.cons .bool .nil)))))))⟩
section
variable {n Q:Nat} {l m:List Int}
theorem Acn (N:Nat) (n6:n≤6) (q6:Q≤6) (hl:l.length=n*n) (al:Ae l=true) {i j:Nat} (hi:i<n) (hj:j<Q) (M0 M1:Nat) :
    ∀ (cnt t F:Nat) (s:Int),t+cnt=i→cnt<F→Ag s=true →
    A0.Cs.L2 N M0 M1 F (n:Int) (n:Int) l (n:Int) (Q:Int) m (j:Int) (i:Int) s (Sl n Q l m j i) (t:Int) =
    A0.Cs.L1 N M0 M1 (n:Int) (n:Int) l (n:Int) (Q:Int) m (Ab ((i:Int)+(1:Int))) (List.set (Sl n Q l m j i) (Int.toNat ((i:Int)*(Q:Int)+(j:Int))) (Ew (loR n Q l m i j t s) (Cj (n:Int) l (i:Int) (i:Int)))) (j:Int):=by
  intro cnt
  induction cnt with
  | zero =>
    intro t F s ht hF hs
    obtain ⟨F,rfl⟩:∃ G,F=G+1:=⟨F-1,by omega⟩
    obtain rfl:t=i:=by omega
    rw [A0.Cs.Fp,Aq,Azb (by omega),Aza,Cy n6 n6 hl hi hi,Ay6,hs,Ey al,Azc,Ay6,Cy n6 q6 (R5 (l:=l) (m:=m) j t) hi hj,Ay6,Ac7 hi]
  | succ cnt ih =>
    intro t F s ht hF hs
    obtain ⟨F,rfl⟩:∃ G,F=G+1:=⟨F-1,by omega⟩
    have:=ih (t+1) F (Db s (D1 (Cj (n:Int) l (i:Int) (t:Int)) (loF n Q l m t j))) (by omega) (by omega) (Kz hs (Ia _ _))
    rw [A0.Cs.Fp,Aq,Ay7 (show (t:Int)<(i:Int) by omega),Ay6,Cy n6 n6 hl hi (show t<n by omega),Ay6,Cy n6 q6 (R5 (l:=l) (m:=m) j i) (show t<n by omega) hj,Ay6,
      Ajs (show t<n by omega) hj (show t<i by omega),Ey al,Ah7,Azc,Ay6,hs,Ia,Azc,Ay6,Am (by omega) (by omega),Afp hi (show t<i by omega)]
    exact this
theorem Ae4 (N:Nat) (n6:n≤6) (q6:Q≤6) (hN:7<N) (hl:l.length=n*n) (hm:m.length=n*Q) (al:Ae l=true) (am:Ae m=true) {j:Nat} (hj:j<Q) (M0:Nat):∀ (cnt k F:Nat),k+cnt=n→cnt<F →
    A0.Cs.L1 N M0 F (n:Int) (n:Int) l (n:Int) (Q:Int) m (k:Int) (Sl n Q l m j k) (j:Int) =
    A0.Cs.L0 N M0 (n:Int) (n:Int) l (n:Int) (Q:Int) m ((j+1:Nat):Int) (Sl n Q l m j n):=by
  intro cnt
  induction cnt with
  | zero =>
    intro k F hk hF
    obtain ⟨F,rfl⟩:∃ G,F=G+1:=⟨F-1,by omega⟩
    obtain rfl:k=n:=by omega
    rw [A0.Cs.B2,Aq,Azb (by omega),Aza,Am (by omega) (by omega)]
    rfl
  | succ cnt ih =>
    intro k F hk hF
    obtain ⟨F,rfl⟩:∃ G,F=G+1:=⟨F-1,by omega⟩
    have hr:=Acn (n:=n) (Q:=Q) (l:=l) (m:=m) N n6 q6 hl al (show k<n by omega) hj M0 F k 0 N (Cj (Q:Int) m (k:Int) (j:Int)) (by omega) (by omega) (Ey (c:=(Q:Int)) am)
    rw [Ajr hj (Aju (by omega)),Am (by omega) (by omega)] at hr
    rw [A0.Cs.B2,Aq,Ay7 (show (k:Int)<(n:Int) by omega),Ay6,Cy n6 q6 hm (show k<n by omega) hj,Ay6]
    exact hr.trans (ih (k+1) F (by omega) (by omega))
theorem Ae5 (N:Nat) (n6:n≤6) (q6:Q≤6) (hN:7<N) (hl:l.length=n*n) (hm:m.length=n*Q) (al:Ae l=true) (am:Ae m=true):∀ (cnt j F:Nat),j+cnt=Q→cnt<F →
    A0.Cs.L0 N F (n:Int) (n:Int) l (n:Int) (Q:Int) m (j:Int) (Sl n Q l m j 0) =
    some (.tup [.agg [.int .i64 (G0 (n:Int) (Q:Int) (Sl n Q l m Q 0)).1,.int .i64 (G0 (n:Int) (Q:Int) (Sl n Q l m Q 0)).2.1,.ints .arg .u64 (G0 (n:Int) (Q:Int) (Sl n Q l m Q 0)).2.2.1],.int .i64 (G0 (n:Int) (Q:Int) (Sl n Q l m Q 0)).2.2.2]):=by
  intro cnt
  induction cnt with
  | zero =>
    intro j F hj hF
    obtain ⟨F,rfl⟩:∃ G,F=G+1:=⟨F-1,by omega⟩
    obtain rfl:j=Q:=by omega
    rw [A0.Cs.Au,Aq,Azb (by omega),Aza,Ao6,Ef n6 q6 (R5 _ _),Azc,Ay6]
  | succ cnt ih =>
    intro j F hj hF
    obtain ⟨F,rfl⟩:∃ G,F=G+1:=⟨F-1,by omega⟩
    have hr:=Ae4 N n6 q6 hN hl hm al am (show j<Q by omega) F n 0 N (by omega) (by omega)
    rw [Afo] at hr
    rw [A0.Cs.Au,Aq,Ay7 (show (j:Int)<(Q:Int) by omega),Ay6]
    exact hr.trans (ih (j+1) F (by omega) (by omega))
end
theorem A0.Cs.known:A0.Cs.Kn:=A0.Cs.Ac (.cons Ak.Div.known (.cons Ak.Mul.known (.cons Ak.Sub.known (.cons Af.At.known (.cons Af.F5.known (.cons Af.Bm.known (.cons A0.Check.known (.cons A0.finite.known .nil)))))))) fun r c l p q m hp=>by
  have hp:(Ae l&&Ae m)=true:=hp
  obtain ⟨al,am⟩:=Ad.1 hp
  show ∃ N dv drops,_=some dv∧Wk drops dv (DV.tup [.agg [.int .i64 (Qh r c l p q m).1,.int .i64 (Qh r c l p q m).2.1,.ints .arg .u64 (Qh r c l p q m).2.2.1],.int .i64 (Qh r c l p q m).2.2.2])
  have hrun:=A0.Cs.ev 8 r c l p q m
  rw [hp,Ay6] at hrun
  unfold Qh
  by_cases h:Lv r c l p q m=0
  · rw [En h,Aza] at hrun
    rw [if_neg (by rw [h]; decide)]
    obtain ⟨h1,h2,h3,h4⟩:=M4 h
    have s:=E1 h2
    obtain ⟨R,C,rfl,rfl,r6,c6,hl⟩:=B8 h1
    obtain ⟨P,Q,rfl,rfl,p6,q6,hl2⟩:=B8 h2
    obtain rfl:R=C:=by omega
    obtain rfl:R=P:=by omega
    have hc:=Ae5 (n:=R) (Q:=Q) (l:=l) (m:=m) 8 r6 q6 (by omega) hl hl2 al am Q 0 8 (by omega) (by omega)
    rw [Afn,Ajt] at hc
    rw [s.1,s.2,Azc,Ay6,Ay8,Ay8] at hrun
    rw [Ay8,Ay8]
    exact ⟨8,_,[],hrun.trans hc,Rq⟩
  · rw [Od h,Ay6,Ay6] at hrun
    rw [if_pos h]
    exact ⟨8,_,[],hrun,M5⟩
theorem Abl:∀ (d:List Int) (m:Int),(∀ x∈d,∃ n:Nat,x=((Hl n:Nat):Int))→d.foldl (fun m x=>O6 m x) m=d.foldl (fun m x=>O6 m (Jq x)) m
  | [],_,_=>rfl
  | x::d,m,h=>by
    obtain ⟨n,rfl⟩:=h x List.mem_cons_self
    have e:Jq ((Hl n:Nat):Int)=((Hl n:Nat):Int):=by
      unfold Jq
      rw [Ay8]
      congr 1
      unfold Hl
      omega
    rw [List.foldl_cons,List.foldl_cons,e]
    exact Abl d _ fun y hy=>h y (List.mem_cons_of_mem _ hy)
theorem Abm {c:Int} {l:List Int} {n i:Nat} (h:i<n):(Ky c l n).drop i=Jq (Cj c l (i:Int) (i:Int))::(Ky c l n).drop (i+1):=by
  have hl:(Ky c l n).length=n:=I8 c l n
  rw [List.drop_eq_getElem_cons (by rw [hl]; exact h)]
  congr 1
  simp [Ky]
theorem Aco (N:Nat) {R C:Nat} {l:List Int} (r6:R≤6) (c6:C≤6) (hl:l.length=R*C) (al:Ae l=true):∀ (cnt i F:Nat) (g:Int),i+cnt=min R C→cnt<F→Ag g=true →
    A0.Flat.L0 N F (R:Int) (C:Int) l g (i:Int)=A0.Flat.L1 N N (R:Int) (C:Int) l 0 (((Ky (C:Int) l (min R C)).drop i).foldl (fun m x=>O6 m x) g):=by
  intro cnt
  induction cnt with
  | zero =>
    intro i F g hi hF hg
    obtain ⟨F,rfl⟩:∃ G,F=G+1:=⟨F-1,by omega⟩
    have hlt:(A6 (i:Int) (R:Int)&&A6 (i:Int) (C:Int))=false:=by
      rw [Aq,Aq,Bool.and_eq_false_iff,Azp,Azp]; omega
    rw [A0.Flat.Au,hlt,Aza,Azk (by rw [I8]; omega)]
    rfl
  | succ cnt ih =>
    intro i F g hi hF hg
    obtain ⟨F,rfl⟩:∃ G,F=G+1:=⟨F-1,by omega⟩
    have hlt:(A6 (i:Int) (R:Int)&&A6 (i:Int) (C:Int))=true:=by
      rw [Aq,Aq,Ay7 (by omega),Ay7 (by omega)]; rfl
    rw [A0.Flat.Au,hlt,Ay6,Cy r6 c6 hl (by omega) (by omega),Ay6,Ey al,Ay6,hg,Th,Azc,Ay6,Am (by omega) (by omega),Abm (by omega),List.foldl_cons]
    exact ih (i+1) F _ (by omega) (by omega) (Aou hg (Th _))
theorem Acp (N:Nat) {R C:Nat} {l:List Int} {g:Int} (r6:R≤6) (c6:C≤6) (hl:l.length=R*C) (al:Ae l=true) (hg:Ag g=true):∀ (cnt i F:Nat),i+cnt=min R C→cnt<F →
    A0.Flat.L1 N F (R:Int) (C:Int) l (i:Int) g=some (.bool (((Ky (C:Int) l (min R C)).drop i).any fun x=>!(decide (Ta (By g (-40)) x<0)))):=by
  intro cnt
  induction cnt with
  | zero =>
    intro i F hi hF
    obtain ⟨F,rfl⟩:∃ G,F=G+1:=⟨F-1,by omega⟩
    have hlt:(A6 (i:Int) (R:Int)&&A6 (i:Int) (C:Int))=false:=by
      rw [Aq,Aq,Bool.and_eq_false_iff,Azp,Azp]; omega
    rw [A0.Flat.B2,hlt,Aza,Azk (by rw [I8]; omega)]
    rfl
  | succ cnt ih =>
    intro i F hi hF
    obtain ⟨F,rfl⟩:∃ G,F=G+1:=⟨F-1,by omega⟩
    have hlt:(A6 (i:Int) (R:Int)&&A6 (i:Int) (C:Int))=true:=by
      rw [Aq,Aq,Ay7 (by omega),Ay7 (by omega)]; rfl
    have sp:Dj g (-40:Int)=true:=Ad.2 ⟨hg,Aw.2 (by omega)⟩
    rw [A0.Flat.B2,hlt,Ay6,sp,Ay6,Cy r6 c6 hl (by omega) (by omega),Ay6,Ey al,Ay6,H6 hg,Th,Azc,Ay6,Ev,Abm (by omega),List.any_cons,Am (by omega) (by omega)]
    by_cases h:Ta (By g (-40)) (Jq (Cj (C:Int) l (i:Int) (i:Int)))<0
    · rw [Azb (by omega),Aza,Ay7 h,Bool.not_true,Bool.false_or]
      exact ih (i+1) F (by omega) (by omega)
    · rw [Ay7 (by omega),Ay6,Azb h]; rfl
theorem A0.Flat.known:A0.Flat.Kn:=A0.Flat.Ac (.cons Br.H3.known (.cons Br.Max.known (.cons Br.Order.known (.cons Ak.Bt.known (.cons Af.At.known .nil))))) fun r c l hp=>by
  obtain ⟨h1,hf⟩:=Ad.1 (show ((Av r c l&&Ae l)&&Di l)=true from hp)
  obtain ⟨hr,al⟩:=Ad.1 h1
  obtain ⟨R,C,rfl,rfl,r6,c6,hl⟩:=B8 hr
  refine ⟨8,.bool (Nh (R:Int) (C:Int) l),[],?_,.bool⟩
  rw [A0.Flat.ev]
  have h1:=Aco 8 r6 c6 hl al (min R C) 0 8 0 (by omega) (by omega) Jd
  rw [List.drop_zero,Abl _ _ (fun x hx=>by obtain ⟨j,_,rfl⟩:=List.mem_map.1 hx; exact ⟨_,rfl⟩)] at h1
  have h2:=Zf (Ky (C:Int) l (min R C)) 0 (by decide) (by decide +kernel)
  have h2:(Ky (C:Int) l (min R C)).foldl (fun m x=>O6 m (Jq x)) 0=Bf (Ky (C:Int) l (min R C)):=h2
  rw [h2] at h1
  have h3:=Acp 8 (g:=Bf (Ky (C:Int) l (min R C))) r6 c6 hl al (Oi _) (min R C) 0 8 (by omega) (by omega)
  rw [List.drop_zero] at h3
  unfold Nh Apq
  rw [Ay8,Ay8]
  exact h1.trans h3
theorem A0.Eb.known:A0.Eb.Kn:=A0.Eb.Ac (.cons Af.Mul.known (.cons Af.Co.known (.cons Gw.Check.known (.cons B4.Gq.known (.cons A0.Flat.known (.cons A0.Cp.known .nil)))))) fun r c l p q m hp=>by
  obtain ⟨al,am⟩:=Ad.1 (show (Ae l&&Ae m)=true from hp)
  show ∃ N dv drops,_=some dv∧Wk drops dv (DV.tup [.agg [.int .i64 (Em r c l p q m).1,.int .i64 (Em r c l p q m).2.1,.ints .arg .u64 (Em r c l p q m).2.2.1],.int .i64 (Em r c l p q m).2.2.2])
  have hrun:=A0.Eb.ev 0 r c l p q m
  rw [al,Ay6] at hrun
  unfold Em
  by_cases c1:B1 r c l=0
  · obtain ⟨hr,hf⟩:=Ex c1
    rw [En c1,Aza,am,Ay6] at hrun
    rw [if_neg (by rw [c1]; decide)]
    by_cases c2:B1 p q m=0
    · rw [En c2,Aza,Atq] at hrun
      rw [if_neg (by rw [c2]; decide)]
      by_cases c3:r<c∨r≠p
      · rw [Ay7 c3,Ay6] at hrun
        rw [if_pos c3]
        exact ⟨0,_,[],hrun,M5⟩
      · rw [Azb c3,Aza,hr,hf,Azc,Bool.true_and,Ay6] at hrun
        rw [if_neg c3]
        by_cases c4:Ei r c l=0
        · rw [Ay7 c4,Bool.not_true,Aza] at hrun
          rw [if_neg (by rw [c4]; decide)]
          obtain ⟨R,C,rfl,rfl,r6,c6,hl,t1,t2,q1,g1,f1,f2,q2,g2⟩:=Aca al c4
          obtain ⟨hm1,_⟩:=Ex c2
          have hcr:C≤R:=by omega
          obtain rfl:p=(R:Int):=by omega
          have m6:min R C≤6:=by omega
          have aq:Ae (Bg R (min R C) (fun i k=>Cj (R:Int) (L8 R C l) (0+(i:Int)) (0+(k:Int))))=true:=Ez fun _ _=>Ey q1
          have ar:Ae (Bg (min R C) C (fun i k=>Cj (C:Int) (Ix R C l) (0+(i:Int)) (0+(k:Int))))=true:=Ez fun _ _=>Ey g1
          have fr:Di (Bg (min R C) C (fun i k=>Cj (C:Int) (Ix R C l) (0+(i:Int)) (0+(k:Int))))=true:=U7 fun _ _=>Adf f2
          have rr:=Hy (fun i k=>Cj (C:Int) (Ix R C l) (0+(i:Int)) (0+(k:Int))) m6 c6
          have rq:=Hy (fun i k=>Cj (R:Int) (L8 R C l) (0+(i:Int)) (0+(k:Int))) r6 m6
          rw [t1,t2]
          rw [t1,t2] at hrun
          generalize Bg R (min R C) (fun i k=>Cj (R:Int) (L8 R C l) (0+(i:Int)) (0+(k:Int)))=gq at *
          generalize Bg (min R C) C (fun i k=>Cj (C:Int) (Ix R C l) (0+(i:Int)) (0+(k:Int)))=gr at *
          dsimp only at hrun ⊢
          have efl:(Ko ((min R C:Nat):Int) (C:Int) gr).1=Nh ((min R C:Nat):Int) (C:Int) gr:=by
            unfold Ko
            rw [if_neg (by rw [Adr rr fr]; decide)]
          rw [efl]
          rw [rr,ar,fr,Azc,Azc,Ay6] at hrun
          cases c5:Nh ((min R C:Nat):Int) (C:Int) gr with
          | true =>
            rw [c5,Ay6] at hrun
            rw [if_pos rfl]
            exact ⟨0,_,[],hrun,M5⟩
          | false =>
            rw [if_neg (by decide)]
            have rt:=Hy (fun i k=>Cj ((min R C:Nat):Int) gq (k:Int) (i:Int)) m6 r6
            have at':Ae (Bg (min R C) R (fun i k=>Cj ((min R C:Nat):Int) gq (k:Int) (i:Int)))=true:=Ez fun _ _=>Ey aq
            rw [c5,Aza,rq,Ay6,Ay8,Ay8,rt,hm1,at',Ay7 rfl,Azc,Azc,Azc,Ay6,show Ae (Bg (min R C) q.toNat fun (i j:Nat)=>G1 (Fw (R:Int) (Bg (min R C) R fun (i k:Nat)=>Cj ((min R C:Nat):Int) gq (k:Int) (i:Int)) (i:Int)) (Hk (R:Int) q m (j:Int)))=true from Ez fun _ _=>N4 _ _,Azc,Ay6] at hrun
            have e1:Cx (R:Int) ((min R C:Nat):Int) gq=(((min R C:Nat):Int),(R:Int),Bg (min R C) R (fun (i k:Nat)=>Cj ((min R C:Nat):Int) gq (k:Int) (i:Int)),0):=by
              unfold Cx
              rw [if_pos rq,Ay8,Ay8]
            have e2:Dm (R:Int) ((min R C:Nat):Int) gq (R:Int) q m=(((min R C:Nat):Int),q,Bg (min R C) q.toNat (fun (i j:Nat)=>G1 (Fw (R:Int) (Bg (min R C) R fun (i k:Nat)=>Cj ((min R C:Nat):Int) gq (k:Int) (i:Int)) (i:Int)) (Hk (R:Int) q m (j:Int))),0):=by
              unfold Dm
              rw [e1,if_neg (fun h=>h rfl)]
              unfold Fa
              dsimp only
              rw [rt,hm1,Azc,if_pos rfl,if_pos rfl,Ay8]
            unfold Anb
            dsimp only
            rw [e2,if_neg (fun h=>h rfl)]
            exact ⟨0,_,[],hrun,Rq⟩
        · have e2:Ei r c l=2:=by
            rw [P6 c1] at c4 ⊢
            by_cases hk:Lt r.toNat c.toNat l=true
            · rw [if_pos hk] at c4; exact absurd rfl c4
            · rw [if_neg hk]
          rw [Azb c4,Bool.not_false,Ay6] at hrun
          rw [if_pos c4,e2]
          exact ⟨0,_,[],hrun,M5⟩
    · rw [Od c2,Ay6,Ay6] at hrun
      rw [if_pos c2]
      exact ⟨0,_,[],hrun,M5⟩
  · rw [Od c1,Ay6,Ay6] at hrun
    rw [if_pos c1]
    exact ⟨0,_,[],hrun,M5⟩
open EqRef20
theorem Akx {r c p q a u b v:Int} (h:0≤r∧r≤6) (h':0≤p∧p≤6) :
    (((((((c !=q)||(r !=a))||(p !=u))||(b !=(1:Int)))||(v !=(1:Int)))||(A6 c p))||(A6 (Ab (r+p)) c))=decide (q≠c∨a≠r∨u≠p∨b≠1∨v≠1∨c<p∨r+p<c):=by
  rw [← Aeq h h',bne_comm (a:=c),bne_comm (a:=r) (b:=a),bne_comm (a:=p) (b:=u)]
theorem B7.Check.known:B7.Check.Kn:=B7.Check.Ac (.cons Gw.Check.known .nil) fun r c l p q m a b g u v h hp=>by
  obtain ⟨h1,h2⟩:=Ad.1 (show ((Ae l&&Ae m)&&(Ae g&&Ae h))=true from hp)
  obtain ⟨al,am⟩:=Ad.1 h1
  obtain ⟨ag,ah⟩:=Ad.1 h2
  refine ⟨0+6,B7.Check.out [.i r,.i c,.l l,.i p,.i q,.l m,.i a,.i b,.l g,.i u,.i v,.l h],[],?_,.int⟩
  show _=some (DV.int .i64 (Kf r c l p q m a b g u v h))
  rw [B7.Check.ev,al,am,ag,ah]
  simp only [Ay6]
  unfold Kf
  by_cases k1:B1 r c l=0
  · rw [En k1,Aza,if_neg (fun h=>h k1)]
    by_cases k2:B1 p q m=0
    · rw [En k2,Aza,if_neg (fun h=>h k2)]
      by_cases k3:B1 a b g=0
      · rw [En k3,Aza,if_neg (fun h=>h k3)]
        by_cases k4:B1 u v h=0
        · rw [En k4,Aza,if_neg (fun h=>h k4)]
          have s1:=Ou (Ex k1).1
          have s2:=Ou (Ex k2).1
          rw [Akx ⟨s1.1,s1.2.1⟩ ⟨s2.1,s2.2.1⟩]
          by_cases k5:q≠c∨a≠r∨u≠p∨b≠1∨v≠1∨c<p∨r+p<c
          · rw [Ay7 k5,Ay6,if_pos k5]
          · rw [Azb k5,Aza,if_neg k5]
        · rw [Od k4,Ay6,if_pos k4]
      · rw [Od k3,Ay6,if_pos k3]
    · rw [Od k2,Ay6,if_pos k2]
  · rw [Od k1,Ay6,if_pos k1]
theorem Ao3 {r c:Int} {l:List Int} {p q:Int} {m:List Int} (h:(Qh r c l p q m).2.2.2=0) :
    ∃ (R Q:Nat) (Y:List Int),r=R∧q=Q∧R≤6∧Q≤6∧Qh r c l p q m=((R:Int),(Q:Int),Y,0)∧Y.length=R*Q∧Di Y=true∧Ae Y=true:=by
  have hin:=Ao5 r c l p q m
  unfold Qh at h hin ⊢
  by_cases k:Lv r c l p q m=0
  · rw [if_neg (fun h=>h k)] at h hin ⊢
    obtain ⟨h1,h2,rfl,rfl⟩:=M4 k
    obtain ⟨R,C,rfl,hC,r6,c6,hl⟩:=B8 h1
    obtain ⟨P,Q,hP,rfl,p6,q6,hl2⟩:=B8 h2
    unfold G0 at h hin ⊢
    by_cases kf:Di (loG (R:Int) l (Q:Int) m (R:Int).toNat (Q:Int).toNat)=true
    · rw [if_pos kf] at hin ⊢
      exact ⟨R,Q,_,rfl,rfl,r6,q6,rfl,by unfold loG; rw [Ca,Ay8,Ay8],kf,hin⟩
    · rw [if_neg kf] at h; exact absurd h (by decide)
  · rw [if_pos k] at h; exact absurd h k
theorem Am8 {r c:Int} {l:List Int} {p q:Int} {m:List Int} (h:(Wm r c l p q m).2.2.2=0) :
    ∃ (R Q:Nat) (Y:List Int),r=R∧q=Q∧R≤6∧Q≤6∧Wm r c l p q m=((R:Int),(Q:Int),Y,0)∧Y.length=R*Q∧Di Y=true∧Ae Y=true:=by
  have hin:=Ana r c l p q m
  unfold Wm at h hin ⊢
  by_cases k:Lv r c l p q m=0
  · rw [if_neg (fun h=>h k)] at h hin ⊢
    obtain ⟨h1,h2,rfl,rfl⟩:=M4 k
    obtain ⟨R,C,rfl,hC,r6,c6,hl⟩:=B8 h1
    obtain ⟨P,Q,hP,rfl,p6,q6,hl2⟩:=B8 h2
    unfold G0 at h hin ⊢
    by_cases kf:Di (upG (R:Int) l (Q:Int) m (R:Int).toNat (Q:Int).toNat)=true
    · rw [if_pos kf] at hin ⊢
      exact ⟨R,Q,_,rfl,rfl,r6,q6,rfl,by unfold upG; rw [Ca,Ay8,Ay8],kf,hin⟩
    · rw [if_neg kf] at h; exact absurd h (by decide)
  · rw [if_pos k] at h; exact absurd h k
theorem Ar3 {r c:Int} {l:List Int} {p q:Int} {m:List Int} (h:(Fa r c l p q m).2.2.2=0):(Fa r c l p q m).2.1=q:=by
  unfold Fa at h ⊢
  by_cases k:(Av r c l&&Av p q m)=true
  · rw [if_pos k] at h ⊢
    by_cases k2:c=p
    · rw [if_pos k2]
    · rw [if_neg k2] at h; exact absurd h (by decide)
  · rw [if_neg k] at h; exact absurd h (by decide)
theorem Aha {r c:Int} {l:List Int} {p q:Int} {m:List Int} (h:(Dm r c l p q m).2.2.2=0):(Dm r c l p q m).2.1=q:=by
  unfold Dm at h ⊢
  by_cases k:(Cx r c l).2.2.2=0
  · rw [if_neg (fun h=>h k)] at h ⊢; exact Ar3 h
  · rw [if_pos k] at h; exact absurd h k
theorem Afx {r c:Int} {l:List Int} {p q:Int} {m:List Int} (al:Ae l=true) (h:(Em r c l p q m).2.2.2=0) :
    ∃ (C Q:Nat) (Y:List Int),c=C∧q=Q∧C≤6∧Q≤6∧Em r c l p q m=((C:Int),(Q:Int),Y,0)∧Y.length=C*Q∧Di Y=true∧Ae Y=true:=by
  unfold Em at h ⊢
  by_cases c1:B1 r c l=0
  · rw [if_neg (fun h=>h c1)] at h ⊢
    by_cases c2:B1 p q m=0
    · rw [if_neg (fun h=>h c2)] at h ⊢
      by_cases c3:r<c∨r≠p
      · rw [if_pos c3] at h; exact absurd h (by decide)
      · rw [if_neg c3] at h ⊢
        by_cases c4:Ei r c l=0
        · rw [if_neg (fun h=>h c4)] at h ⊢
          by_cases c5:(Ko (H9 r c l).1 (H9 r c l).2.1 (H9 r c l).2.2.1).1=true
          · rw [if_pos c5] at h; exact absurd h (by decide)
          · rw [if_neg c5] at h ⊢
            unfold Anb at h ⊢
            by_cases c6:(Dm (Ed r c l).1 (Ed r c l).2.1 (Ed r c l).2.2.1 p q m).2.2.2=0
            · rw [if_neg (fun h=>h c6)] at h ⊢
              obtain ⟨R,Q,Y,e1,e2,r6,q6,e3,e4,e5,e6⟩:=Am8 h
              rw [Aha c6] at e2
              obtain ⟨A,B,rfl,rfl,_,_,_,_,t2,_⟩:=Aca al c4
              rw [t2] at e1
              have e1':((min A B:Nat):Int)=(R:Int):=e1
              have eR:R=B:=by omega
              subst eR
              exact ⟨R,Q,Y,rfl,e2,r6,q6,e3,e4,e5,e6⟩
            · rw [if_pos c6] at h; exact absurd h c6
        · rw [if_pos c4] at h; exact absurd h c4
    · rw [if_pos c2] at h; exact absurd h c2
  · rw [if_pos c1] at h; exact absurd h c1
end Go.Proofs.S1
end
