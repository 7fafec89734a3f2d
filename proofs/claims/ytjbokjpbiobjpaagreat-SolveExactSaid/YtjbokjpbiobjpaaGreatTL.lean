/- A verified evaluator of the program's form and its use for this seat: S1EqLaw17X, S1PZ, S1PZa, S1PZb, S1PLaw17X. -/
import Derived.Test.YtjbokjpbiobjpaaGreatTE
import Derived.Test.YtjbokjpbiobjpaaGreatTF
import Derived.Test.YtjbokjpbiobjpaaGreatTK
set_option linter.unusedVariables false
set_option linter.unusedSimpArgs false
noncomputable section
open Int (toNat)
open List (length getD)
open Go.Proofs.Tryz
namespace Go.Proofs.S1
open Go Go.Den Go.C4 Go.Proofs
set_option maxRecDepth 100000
namespace EqLaw17X
def Ak.Eo.own.Bf:List (Nat × Entry):=[]
def Ak.Eo.own.E:Env:=Bg (Be Ak.Eo.own.Bf) (fun _=>false) (fun _=>none) (fun _=>none)
theorem Ak.Eo.own.ev (N:Nat) (r c:Int) (l:List Int) (i k b:Int):By Ak.Eo.own.E N f83 (An f83) [.agg [.int .i64 r,.int .i64 c,.ints .arg .u64 l],.int .i64 i,.int .i64 k,.int .u64 b]=bif (decide (0+(length l)≤Ga)) then bif ((decide (0≤(Ab ((Ab (i*c))+k))))&&(decide ((Ab ((Ab (i*c))+k))<(length ([]++l):Int)))) then bif (decide ((toNat (Ab ((Ab (i*c))+k)))<(length ([]++l)))) then some (.agg [.int .i64 r,.int .i64 c,.ints (.own 13 37) .u64 (List.set ([]++l) (toNat (Ab ((Ab (i*c))+k))) b)]) else none else none else none:=by kernel_rfl
abbrev _root_.Go.Proofs.S1.Ak.Eo.own.Kn:=A7 prog 83 Ak.Eo.own.spec
theorem Ak.Eo.own.Ae (hk:A1 prog Ak.Eo.own.Bf) (h:Hyp Ak.Eo.own.E f83 Ak.Eo.own.ts Ak.Eo.own.pre Ak.Eo.own.out):Ak.Eo.own.Kn :=
 Am (A3 hk _ _ _) func83 (by kernel_rfl) (by kernel_rfl) h
def Ak.D8.own.hint:Nat→Option A9
 | 0=>some { keep:=[0,2,3,4],objs:=[(4,2,104002,.ints 37 .u64 [])],boxes:=[2,3] }
 | _=>none
def Ak.D8.own.Bf:List (Nat × Entry):=[(83,Ak.Eo.own.spec),(35,Ak.Bc.own.spec)]
def Ak.D8.own.E:Env:=Bg (Be Ak.D8.own.Bf) (fun n=>Nat.beq n 7||Nat.beq n 16) Ak.D8.own.hint (fun _=>none)
section
variable (N M:Nat) (n p4:Int) (p2:List Int)
def Ak.D8.own.L0:Option DV:=Bx Ak.D8.own.E N f33 (An f33) [1,1,0,1,0] [] M ⟨Gm 18 [(0,.int .i64 n),(2,.ptr 2 0 0),(3,.ptr 3 0 0),(4,.int .i64 p4)],[(2,false,.box [.int .i64 0,.int .i64 0,.nil]),(3,false,.box [.int .i64 n,.int .i64 n,.oref 104002]),(104002,false,.ints 37 .u64 p2)]⟩
theorem Ak.D8.own.Ax:Ak.D8.own.L0 N (M+1) n p4 p2=bif (A6 p4 n) then bif (Ds n n p2 p4 p4) then Ak.D8.own.L0 N M n (Ab (p4+1)) (List.set p2 (toNat (p4*n+p4)) 4607182418800017408) else none else some (.agg [.int .i64 n,.int .i64 n,.ints (.own 104002 37) .u64 p2]):=by kernel_rfl
theorem Ak.D8.own.ev:By Ak.D8.own.E N f33 (An f33) [.int .i64 n]=bif (Bn n&&Bn n) then Ak.D8.own.L0 N N n 0 (Cj (toNat n) (toNat n) (fun _ _=>0)) else none:=by kernel_rfl
end
abbrev _root_.Go.Proofs.S1.Ak.D8.own.Kn:=A7 prog 33 Ak.D8.own.spec
theorem Ak.D8.own.Ae (hk:A1 prog Ak.D8.own.Bf) (h:Hyp Ak.D8.own.E f33 Ak.D8.own.ts Ak.D8.own.pre Ak.D8.own.out):Ak.D8.own.Kn :=
 Am (A3 hk _ _ _) func33 (by kernel_rfl) (by kernel_rfl) h
def Bi.whole.Bf:List (Nat × Entry):=[(102,Cp.B.spec)]
def Bi.whole.E:Env:=Bg (Be Bi.whole.Bf) (fun _=>false) (fun _=>none) (fun _=>none)
theorem Bi.whole.ev (N:Nat) (n:Int):By Bi.whole.E N f34 (An f34) [.int .i64 n]=some (.int .u64 (Na (Ieee.double.write (.number (decide (n<0)) (Int.natAbs n) 0)))):=by kernel_rfl
abbrev _root_.Go.Proofs.S1.Bi.whole.Kn:=A7 prog 34 Bi.whole.spec
theorem Bi.whole.Ae (hk:A1 prog Bi.whole.Bf) (h:Hyp Bi.whole.E f34 Bi.whole.ts Bi.whole.pre Bi.whole.out):Bi.whole.Kn :=
 Am (A3 hk _ _ _) func34 (by kernel_rfl) (by kernel_rfl) h
def Bb.Fs.hint:Nat→Option A9
 | 0=>some { keep:=[0,1,4,5,6],objs:=[],boxes:=[4,5] }
 | _=>none
def Bb.Fs.Bf:List (Nat × Entry):=[(42,Aq.Add.spec),(41,Aq.Mul.spec),(63,A4.Value.spec)]
def Bb.Fs.E:Env:=Bg (Be Bb.Fs.Bf) (fun _=>false) Bb.Fs.hint (fun _=>none)
section
variable (N M:Nat) (x y:List Int) (p6:Int) (p5:Bool) (p5_1:List Int) (p5_2:Int)
def Bb.Fs.L0:Option DV:=Bx Bb.Fs.E N f106 (An f106) [1,1,0,1,0] [] M ⟨Gm 28 [(0,.ints .arg .u64 x),(1,.ints .arg .u64 y),(4,.ptr 4 0 0),(5,.ptr 5 0 0),(6,.int .i64 0)],[(4,false,.box [.bool false,.nil,.int .i64 0]),(5,false,.box [.bool false,.nil,.int .i64 0])]⟩
def Bb.Fs.L1:Option DV:=Bx Bb.Fs.E N f106 (An f106) [1,1,0,1,0] [] M ⟨Gm 28 [(0,.ints .arg .u64 x),(1,.ints .arg .u64 y),(4,.ptr 4 0 0),(5,.ptr 5 0 0),(6,.int .i64 p6)],[(4,false,.box [.bool false,.nil,.int .i64 0]),(5,false,.box [.bool p5,.ints .arg .u32 p5_1,.int .i64 p5_2])]⟩
theorem Bb.Fs.Ax:Bb.Fs.L0 N (M+1) x y=bif (A6 0 (length x:Int)) then bif (decide ((0:Int)<(length x:Int))) then bif (Ah (getD x 0 0)) then bif (decide ((0:Int)<(length y:Int))) then bif (Ah (getD y 0 0)) then bif ((Pj (Ar (mD (Ba (getD x 0 0)))) (Ac (mD (Ba (getD x 0 0))))&&Pj (Ar (mD (Ba (getD y 0 0)))) (Ac (mD (Ba (getD y 0 0)))))&&(H3 (eD (Ba (getD x 0 0)) (Az (getD x 0 0)))&&H3 (eD (Ba (getD y 0 0)) (Az (getD y 0 0))))) then bif (((Je false []&&Je (Ar (mD (wv (Ar (mD (Ba (getD x 0 0)))) (Ac (mD (Ba (getD x 0 0))))*wv (Ar (mD (Ba (getD y 0 0)))) (Ac (mD (Ba (getD y 0 0))))))) (Ac (mD (wv (Ar (mD (Ba (getD x 0 0)))) (Ac (mD (Ba (getD x 0 0))))*wv (Ar (mD (Ba (getD y 0 0)))) (Ac (mD (Ba (getD y 0 0))))))))&&H3 0)&&H3 (eD (wv (Ar (mD (Ba (getD x 0 0)))) (Ac (mD (Ba (getD x 0 0))))*wv (Ar (mD (Ba (getD y 0 0)))) (Ac (mD (Ba (getD y 0 0))))) ((eD (Ba (getD x 0 0)) (Az (getD x 0 0)))+(eD (Ba (getD y 0 0)) (Az (getD y 0 0)))))) then Bb.Fs.L1 N M x y 1 (Ar (Hm (wv false []) 0 (wv (Ar (mD (wv (Ar (mD (Ba (getD x 0 0)))) (Ac (mD (Ba (getD x 0 0))))*wv (Ar (mD (Ba (getD y 0 0)))) (Ac (mD (Ba (getD y 0 0))))))) (Ac (mD (wv (Ar (mD (Ba (getD x 0 0)))) (Ac (mD (Ba (getD x 0 0))))*wv (Ar (mD (Ba (getD y 0 0)))) (Ac (mD (Ba (getD y 0 0)))))))) (eD (wv (Ar (mD (Ba (getD x 0 0)))) (Ac (mD (Ba (getD x 0 0))))*wv (Ar (mD (Ba (getD y 0 0)))) (Ac (mD (Ba (getD y 0 0))))) ((eD (Ba (getD x 0 0)) (Az (getD x 0 0)))+(eD (Ba (getD y 0 0)) (Az (getD y 0 0))))))) (Ac (Hm (wv false []) 0 (wv (Ar (mD (wv (Ar (mD (Ba (getD x 0 0)))) (Ac (mD (Ba (getD x 0 0))))*wv (Ar (mD (Ba (getD y 0 0)))) (Ac (mD (Ba (getD y 0 0))))))) (Ac (mD (wv (Ar (mD (Ba (getD x 0 0)))) (Ac (mD (Ba (getD x 0 0))))*wv (Ar (mD (Ba (getD y 0 0)))) (Ac (mD (Ba (getD y 0 0)))))))) (eD (wv (Ar (mD (Ba (getD x 0 0)))) (Ac (mD (Ba (getD x 0 0))))*wv (Ar (mD (Ba (getD y 0 0)))) (Ac (mD (Ba (getD y 0 0))))) ((eD (Ba (getD x 0 0)) (Az (getD x 0 0)))+(eD (Ba (getD y 0 0)) (Az (getD y 0 0))))))) (K6 (wv false []) 0 (wv (Ar (mD (wv (Ar (mD (Ba (getD x 0 0)))) (Ac (mD (Ba (getD x 0 0))))*wv (Ar (mD (Ba (getD y 0 0)))) (Ac (mD (Ba (getD y 0 0))))))) (Ac (mD (wv (Ar (mD (Ba (getD x 0 0)))) (Ac (mD (Ba (getD x 0 0))))*wv (Ar (mD (Ba (getD y 0 0)))) (Ac (mD (Ba (getD y 0 0)))))))) (eD (wv (Ar (mD (Ba (getD x 0 0)))) (Ac (mD (Ba (getD x 0 0))))*wv (Ar (mD (Ba (getD y 0 0)))) (Ac (mD (Ba (getD y 0 0))))) ((eD (Ba (getD x 0 0)) (Az (getD x 0 0)))+(eD (Ba (getD y 0 0)) (Az (getD y 0 0)))))) else none else none else none else none else none else none else some (.agg [.bool false,.nil,.int .i64 0]) :=
 Eq.trans (by kernel_rfl)
 (Fq (Cy (Cr (decide ((0:Int)<(length x:Int)))) (Cy (Cr (Ah (getD x 0 0))) (Cy (Cr (decide ((0:Int)<(length y:Int)))) (Cy (Cr (Ah (getD y 0 0))) (Cy (Cr ((Pj (Ar (mD (Ba (getD x 0 0)))) (Ac (mD (Ba (getD x 0 0))))&&Pj (Ar (mD (Ba (getD y 0 0)))) (Ac (mD (Ba (getD y 0 0)))))&&(H3 (eD (Ba (getD x 0 0)) (Az (getD x 0 0)))&&H3 (eD (Ba (getD y 0 0)) (Az (getD y 0 0)))))) (Cy (Cr (((Je false []&&Je (Ar (mD (wv (Ar (mD (Ba (getD x 0 0)))) (Ac (mD (Ba (getD x 0 0))))*wv (Ar (mD (Ba (getD y 0 0)))) (Ac (mD (Ba (getD y 0 0))))))) (Ac (mD (wv (Ar (mD (Ba (getD x 0 0)))) (Ac (mD (Ba (getD x 0 0))))*wv (Ar (mD (Ba (getD y 0 0)))) (Ac (mD (Ba (getD y 0 0))))))))&&H3 0)&&H3 (eD (wv (Ar (mD (Ba (getD x 0 0)))) (Ac (mD (Ba (getD x 0 0))))*wv (Ar (mD (Ba (getD y 0 0)))) (Ac (mD (Ba (getD y 0 0))))) ((eD (Ba (getD x 0 0)) (Az (getD x 0 0)))+(eD (Ba (getD y 0 0)) (Az (getD y 0 0))))))) rfl rfl) rfl) rfl) rfl) rfl) rfl) rfl)
theorem Bb.Fs.Cc:Bb.Fs.L1 N (M+1) x y p6 p5 p5_1 p5_2=bif (A6 p6 (length x:Int)) then bif ((decide (0≤p6))&&(decide (p6<(length x:Int)))) then bif (Ah (getD x (toNat p6) 0)) then bif ((decide (0≤p6))&&(decide (p6<(length y:Int)))) then bif (Ah (getD y (toNat p6) 0)) then bif ((Pj (Ar (mD (Ba (getD x (toNat p6) 0)))) (Ac (mD (Ba (getD x (toNat p6) 0))))&&Pj (Ar (mD (Ba (getD y (toNat p6) 0)))) (Ac (mD (Ba (getD y (toNat p6) 0)))))&&(H3 (eD (Ba (getD x (toNat p6) 0)) (Az (getD x (toNat p6) 0)))&&H3 (eD (Ba (getD y (toNat p6) 0)) (Az (getD y (toNat p6) 0))))) then bif (((Je p5 p5_1&&Je (Ar (mD (wv (Ar (mD (Ba (getD x (toNat p6) 0)))) (Ac (mD (Ba (getD x (toNat p6) 0))))*wv (Ar (mD (Ba (getD y (toNat p6) 0)))) (Ac (mD (Ba (getD y (toNat p6) 0))))))) (Ac (mD (wv (Ar (mD (Ba (getD x (toNat p6) 0)))) (Ac (mD (Ba (getD x (toNat p6) 0))))*wv (Ar (mD (Ba (getD y (toNat p6) 0)))) (Ac (mD (Ba (getD y (toNat p6) 0))))))))&&H3 p5_2)&&H3 (eD (wv (Ar (mD (Ba (getD x (toNat p6) 0)))) (Ac (mD (Ba (getD x (toNat p6) 0))))*wv (Ar (mD (Ba (getD y (toNat p6) 0)))) (Ac (mD (Ba (getD y (toNat p6) 0))))) ((eD (Ba (getD x (toNat p6) 0)) (Az (getD x (toNat p6) 0)))+(eD (Ba (getD y (toNat p6) 0)) (Az (getD y (toNat p6) 0)))))) then Bb.Fs.L1 N M x y (Ab (p6+1)) (Ar (Hm (wv p5 p5_1) p5_2 (wv (Ar (mD (wv (Ar (mD (Ba (getD x (toNat p6) 0)))) (Ac (mD (Ba (getD x (toNat p6) 0))))*wv (Ar (mD (Ba (getD y (toNat p6) 0)))) (Ac (mD (Ba (getD y (toNat p6) 0))))))) (Ac (mD (wv (Ar (mD (Ba (getD x (toNat p6) 0)))) (Ac (mD (Ba (getD x (toNat p6) 0))))*wv (Ar (mD (Ba (getD y (toNat p6) 0)))) (Ac (mD (Ba (getD y (toNat p6) 0)))))))) (eD (wv (Ar (mD (Ba (getD x (toNat p6) 0)))) (Ac (mD (Ba (getD x (toNat p6) 0))))*wv (Ar (mD (Ba (getD y (toNat p6) 0)))) (Ac (mD (Ba (getD y (toNat p6) 0))))) ((eD (Ba (getD x (toNat p6) 0)) (Az (getD x (toNat p6) 0)))+(eD (Ba (getD y (toNat p6) 0)) (Az (getD y (toNat p6) 0))))))) (Ac (Hm (wv p5 p5_1) p5_2 (wv (Ar (mD (wv (Ar (mD (Ba (getD x (toNat p6) 0)))) (Ac (mD (Ba (getD x (toNat p6) 0))))*wv (Ar (mD (Ba (getD y (toNat p6) 0)))) (Ac (mD (Ba (getD y (toNat p6) 0))))))) (Ac (mD (wv (Ar (mD (Ba (getD x (toNat p6) 0)))) (Ac (mD (Ba (getD x (toNat p6) 0))))*wv (Ar (mD (Ba (getD y (toNat p6) 0)))) (Ac (mD (Ba (getD y (toNat p6) 0)))))))) (eD (wv (Ar (mD (Ba (getD x (toNat p6) 0)))) (Ac (mD (Ba (getD x (toNat p6) 0))))*wv (Ar (mD (Ba (getD y (toNat p6) 0)))) (Ac (mD (Ba (getD y (toNat p6) 0))))) ((eD (Ba (getD x (toNat p6) 0)) (Az (getD x (toNat p6) 0)))+(eD (Ba (getD y (toNat p6) 0)) (Az (getD y (toNat p6) 0))))))) (K6 (wv p5 p5_1) p5_2 (wv (Ar (mD (wv (Ar (mD (Ba (getD x (toNat p6) 0)))) (Ac (mD (Ba (getD x (toNat p6) 0))))*wv (Ar (mD (Ba (getD y (toNat p6) 0)))) (Ac (mD (Ba (getD y (toNat p6) 0))))))) (Ac (mD (wv (Ar (mD (Ba (getD x (toNat p6) 0)))) (Ac (mD (Ba (getD x (toNat p6) 0))))*wv (Ar (mD (Ba (getD y (toNat p6) 0)))) (Ac (mD (Ba (getD y (toNat p6) 0)))))))) (eD (wv (Ar (mD (Ba (getD x (toNat p6) 0)))) (Ac (mD (Ba (getD x (toNat p6) 0))))*wv (Ar (mD (Ba (getD y (toNat p6) 0)))) (Ac (mD (Ba (getD y (toNat p6) 0))))) ((eD (Ba (getD x (toNat p6) 0)) (Az (getD x (toNat p6) 0)))+(eD (Ba (getD y (toNat p6) 0)) (Az (getD y (toNat p6) 0)))))) else none else none else none else none else none else none else some (.agg [.bool p5,.ints .arg .u32 p5_1,.int .i64 p5_2]) :=
 Eq.trans (by kernel_rfl)
 (Fq (Cy (J1 (decide (0≤p6)) (decide (p6<(length x:Int)))) (Cy (Cr (Ah (getD x (toNat p6) 0))) (Cy (J1 (decide (0≤p6)) (decide (p6<(length y:Int)))) (Cy (Cr (Ah (getD y (toNat p6) 0))) (Cy (Cr ((Pj (Ar (mD (Ba (getD x (toNat p6) 0)))) (Ac (mD (Ba (getD x (toNat p6) 0))))&&Pj (Ar (mD (Ba (getD y (toNat p6) 0)))) (Ac (mD (Ba (getD y (toNat p6) 0)))))&&(H3 (eD (Ba (getD x (toNat p6) 0)) (Az (getD x (toNat p6) 0)))&&H3 (eD (Ba (getD y (toNat p6) 0)) (Az (getD y (toNat p6) 0)))))) (Cy (Cr (((Je p5 p5_1&&Je (Ar (mD (wv (Ar (mD (Ba (getD x (toNat p6) 0)))) (Ac (mD (Ba (getD x (toNat p6) 0))))*wv (Ar (mD (Ba (getD y (toNat p6) 0)))) (Ac (mD (Ba (getD y (toNat p6) 0))))))) (Ac (mD (wv (Ar (mD (Ba (getD x (toNat p6) 0)))) (Ac (mD (Ba (getD x (toNat p6) 0))))*wv (Ar (mD (Ba (getD y (toNat p6) 0)))) (Ac (mD (Ba (getD y (toNat p6) 0))))))))&&H3 p5_2)&&H3 (eD (wv (Ar (mD (Ba (getD x (toNat p6) 0)))) (Ac (mD (Ba (getD x (toNat p6) 0))))*wv (Ar (mD (Ba (getD y (toNat p6) 0)))) (Ac (mD (Ba (getD y (toNat p6) 0))))) ((eD (Ba (getD x (toNat p6) 0)) (Az (getD x (toNat p6) 0)))+(eD (Ba (getD y (toNat p6) 0)) (Az (getD y (toNat p6) 0))))))) rfl rfl) rfl) rfl) rfl) rfl) rfl) rfl)
theorem Bb.Fs.ev:By Bb.Fs.E N f106 (An f106) [.ints .arg .u64 x,.ints .arg .u64 y] =
 Bb.Fs.L0 N N x y:=by kernel_rfl
end
abbrev _root_.Go.Proofs.S1.Bb.Fs.Kn:=A7 prog 106 Bb.Fs.spec
theorem Bb.Fs.Ae (hk:A1 prog Bb.Fs.Bf) (h:Hyp Bb.Fs.E f106 Bb.Fs.ts Bb.Fs.pre Bb.Fs.out):Bb.Fs.Kn :=
 Am (A3 hk _ _ _) func106 (by kernel_rfl) (by kernel_rfl) h
def Bb.Bh.hint:Nat→Option A9
 | 0=>some { keep:=[3,4,5,6,7,8],objs:=[],boxes:=[3,4,5,6,7] }
 | 2=>some { keep:=[3,4,5,6,7,8,9],objs:=[],boxes:=[3,4,5,6,7] }
 | _=>none
def Bb.Bh.Bf:List (Nat × Entry):=[(42,Aq.Add.zero.spec),(41,Aq.Mul.zero.spec),(105,Aq.Sub.zero.spec),(63,A4.Value.spec),(80,Ak.At.spec),(108,Ak.Nr.spec),(107,Ak.Row.spec),(106,Bb.Fs.spec)]
def Bb.Bh.E:Env:=Bg (Be Bb.Bh.Bf) (fun _=>false) Bb.Bh.hint (fun _=>none)
section
variable (N M0 M:Nat) (r c:Int) (l:List Int) (p q:Int) (m:List Int) (u v:Int) (h:List Int) (p8_3 p9 p8_1 p8_2 p8:Int)
def Bb.Bh.L0:Option DV:=Bx Bb.Bh.E N f38 (An f38) [1,1,0,1,0] [] M ⟨Gm 43 [(3,.ptr 3 0 0),(4,.ptr 4 0 0),(5,.ptr 5 0 0),(6,.ptr 6 0 0),(7,.ptr 7 0 0),(8,.int .i64 p8)],[(3,false,.box [.int .i64 r,.int .i64 c,.ints .arg .u64 l]),(4,false,.box [.int .i64 p,.int .i64 q,.ints .arg .u64 m]),(5,false,.box [.int .i64 u,.int .i64 v,.ints .arg .u64 h]),(6,false,.box [.bool false,.nil,.int .i64 0]),(7,false,.box [.bool false,.nil,.int .i64 0])]⟩
def Bb.Bh.L1:Option DV:=Bx Bb.Bh.E N f38 (An f38) [1,1,0,1,0,0,1,0,0,1,0] [M0] M ⟨Gm 43 [(3,.ptr 3 0 0),(4,.ptr 4 0 0),(5,.ptr 5 0 0),(6,.ptr 6 0 0),(7,.ptr 7 0 0),(8,.int .i64 p8_2),(9,.int .i64 0)],[(3,false,.box [.int .i64 r,.int .i64 c,.ints .arg .u64 l]),(4,false,.box [.int .i64 p,.int .i64 q,.ints .arg .u64 m]),(5,false,.box [.int .i64 u,.int .i64 v,.ints .arg .u64 h]),(6,false,.box [.bool false,.nil,.int .i64 0]),(7,false,.box [.bool false,.nil,.int .i64 0])]⟩
def Bb.Bh.L2:Option DV:=Bx Bb.Bh.E N f38 (An f38) [1,1,0,1,0,0,1,0,0,1,0] [M0] M ⟨Gm 43 [(3,.ptr 3 0 0),(4,.ptr 4 0 0),(5,.ptr 5 0 0),(6,.ptr 6 0 0),(7,.ptr 7 0 0),(8,.int .i64 p8_1),(9,.int .i64 p9)],[(3,false,.box [.int .i64 r,.int .i64 c,.ints .arg .u64 l]),(4,false,.box [.int .i64 p,.int .i64 q,.ints .arg .u64 m]),(5,false,.box [.int .i64 u,.int .i64 v,.ints .arg .u64 h]),(6,false,.box [.bool false,.nil,.int .i64 0]),(7,false,.box [.bool (Ar ((0:Int))),.ints .arg .u32 (Ac ((0:Int))),.int .i64 ((0:Int))])]⟩
def Bb.Bh.L3:Option DV:=Bx Bb.Bh.E N f38 (An f38) [1,1,0,1,0] [] M ⟨Gm 43 [(3,.ptr 3 0 0),(4,.ptr 4 0 0),(5,.ptr 5 0 0),(6,.ptr 6 0 0),(7,.ptr 7 0 0),(8,.int .i64 p8_3)],[(3,false,.box [.int .i64 r,.int .i64 c,.ints .arg .u64 l]),(4,false,.box [.int .i64 p,.int .i64 q,.ints .arg .u64 m]),(5,false,.box [.int .i64 u,.int .i64 v,.ints .arg .u64 h]),(6,false,.box [.bool false,.nil,.int .i64 0]),(7,false,.box [.bool (Ar ((0:Int))),.ints .arg .u32 (Ac ((0:Int))),.int .i64 ((0:Int))])]⟩
theorem Bb.Bh.Ax:Bb.Bh.L0 N (M+1) r c l p q m u v h p8=bif (A6 p8 r) then Bb.Bh.L1 N M N r c l p q m u v h p8 else some (.agg [.bool false,.nil,.int .i64 0]):=by kernel_rfl
theorem Bb.Bh.Cc:Bb.Bh.L1 N M0 (M+1) r c l p q m u v h p8_2=bif (A6 0 c) then bif (Ds r c l p8_2 0) then bif (Ah (Cv c l p8_2 0)) then bif (Jq p q m p8_2) then bif (Gk u v h 0&&Cf (0≤(0:Int)∧(0:Int)≤u)) then bif (Qh (Dh q m p8_2) (Cb v h 0 0 (toNat (u-0)))) then bif ((((Je (Ar (mD (Ba (Cv c l p8_2 0)))) (Ac (mD (Ba (Cv c l p8_2 0))))&&Je (Ar (mD (Dv (Dh q m p8_2) (Cb v h 0 0 (toNat (u-0)))))) (Ac (mD (Dv (Dh q m p8_2) (Cb v h 0 0 (toNat (u-0)))))))&&H3 (eD (Ba (Cv c l p8_2 0)) (Az (Cv c l p8_2 0))))&&H3 (eD (Dv (Dh q m p8_2) (Cb v h 0 0 (toNat (u-0)))) 0))&&Cf (Hm (wv (Ar (mD (Ba (Cv c l p8_2 0)))) (Ac (mD (Ba (Cv c l p8_2 0))))) (eD (Ba (Cv c l p8_2 0)) (Az (Cv c l p8_2 0))) (- wv (Ar (mD (Dv (Dh q m p8_2) (Cb v h 0 0 (toNat (u-0)))))) (Ac (mD (Dv (Dh q m p8_2) (Cb v h 0 0 (toNat (u-0))))))) (eD (Dv (Dh q m p8_2) (Cb v h 0 0 (toNat (u-0)))) 0)=0∧K6 (wv (Ar (mD (Ba (Cv c l p8_2 0)))) (Ac (mD (Ba (Cv c l p8_2 0))))) (eD (Ba (Cv c l p8_2 0)) (Az (Cv c l p8_2 0))) (- wv (Ar (mD (Dv (Dh q m p8_2) (Cb v h 0 0 (toNat (u-0)))))) (Ac (mD (Dv (Dh q m p8_2) (Cb v h 0 0 (toNat (u-0))))))) (eD (Dv (Dh q m p8_2) (Cb v h 0 0 (toNat (u-0)))) 0)=0)) then bif (((Pj (Ar ((0:Int))) (Ac ((0:Int)))&&Pj (Ar ((0:Int))) (Ac ((0:Int))))&&(H3 ((0:Int))&&H3 ((0:Int))))&&Cf (wv (Ar ((0:Int))) (Ac ((0:Int)))=0)) then bif ((((Je false []&&Je (Ar ((0:Int))) (Ac ((0:Int))))&&H3 0)&&H3 ((0:Int)))&&Cf (wv false []=0∧wv (Ar ((0:Int))) (Ac ((0:Int)))=0)) then Bb.Bh.L2 N M0 M r c l p q m u v h 1 p8_2 else none else none else none else none else none else none else none else none else Bb.Bh.L0 N M0 r c l p q m u v h (Ab (p8_2+1)) :=
 Eq.trans (by kernel_rfl)
 (Fq (Cy (Cr (Ds r c l p8_2 0)) (Cy (Cr (Ah (Cv c l p8_2 0))) (Cy (Cr (Jq p q m p8_2)) (Cy (Cr (Gk u v h 0&&Cf (0≤(0:Int)∧(0:Int)≤u))) (Cy (Cr (Qh (Dh q m p8_2) (Cb v h 0 0 (toNat (u-0))))) (Cy (Cr ((((Je (Ar (mD (Ba (Cv c l p8_2 0)))) (Ac (mD (Ba (Cv c l p8_2 0))))&&Je (Ar (mD (Dv (Dh q m p8_2) (Cb v h 0 0 (toNat (u-0)))))) (Ac (mD (Dv (Dh q m p8_2) (Cb v h 0 0 (toNat (u-0)))))))&&H3 (eD (Ba (Cv c l p8_2 0)) (Az (Cv c l p8_2 0))))&&H3 (eD (Dv (Dh q m p8_2) (Cb v h 0 0 (toNat (u-0)))) 0))&&Cf (Hm (wv (Ar (mD (Ba (Cv c l p8_2 0)))) (Ac (mD (Ba (Cv c l p8_2 0))))) (eD (Ba (Cv c l p8_2 0)) (Az (Cv c l p8_2 0))) (- wv (Ar (mD (Dv (Dh q m p8_2) (Cb v h 0 0 (toNat (u-0)))))) (Ac (mD (Dv (Dh q m p8_2) (Cb v h 0 0 (toNat (u-0))))))) (eD (Dv (Dh q m p8_2) (Cb v h 0 0 (toNat (u-0)))) 0)=0∧K6 (wv (Ar (mD (Ba (Cv c l p8_2 0)))) (Ac (mD (Ba (Cv c l p8_2 0))))) (eD (Ba (Cv c l p8_2 0)) (Az (Cv c l p8_2 0))) (- wv (Ar (mD (Dv (Dh q m p8_2) (Cb v h 0 0 (toNat (u-0)))))) (Ac (mD (Dv (Dh q m p8_2) (Cb v h 0 0 (toNat (u-0))))))) (eD (Dv (Dh q m p8_2) (Cb v h 0 0 (toNat (u-0)))) 0)=0))) (Cy (Cr (((Pj (Ar ((0:Int))) (Ac ((0:Int)))&&Pj (Ar ((0:Int))) (Ac ((0:Int))))&&(H3 ((0:Int))&&H3 ((0:Int))))&&Cf (wv (Ar ((0:Int))) (Ac ((0:Int)))=0))) (Cy (Cr ((((Je false []&&Je (Ar ((0:Int))) (Ac ((0:Int))))&&H3 0)&&H3 ((0:Int)))&&Cf (wv false []=0∧wv (Ar ((0:Int))) (Ac ((0:Int)))=0))) rfl rfl) rfl) rfl) rfl) rfl) rfl) rfl) rfl) rfl)
theorem Bb.Bh.E1:Bb.Bh.L2 N M0 (M+1) r c l p q m u v h p9 p8_1=bif (A6 p9 c) then bif (Ds r c l p8_1 p9) then bif (Ah (Cv c l p8_1 p9)) then bif (Jq p q m p8_1) then bif (Gk u v h p9&&Cf (0≤(0:Int)∧(0:Int)≤u)) then bif (Qh (Dh q m p8_1) (Cb v h p9 0 (toNat (u-0)))) then bif ((((Je (Ar (mD (Ba (Cv c l p8_1 p9)))) (Ac (mD (Ba (Cv c l p8_1 p9))))&&Je (Ar (mD (Dv (Dh q m p8_1) (Cb v h p9 0 (toNat (u-0)))))) (Ac (mD (Dv (Dh q m p8_1) (Cb v h p9 0 (toNat (u-0)))))))&&H3 (eD (Ba (Cv c l p8_1 p9)) (Az (Cv c l p8_1 p9))))&&H3 (eD (Dv (Dh q m p8_1) (Cb v h p9 0 (toNat (u-0)))) 0))&&Cf (Hm (wv (Ar (mD (Ba (Cv c l p8_1 p9)))) (Ac (mD (Ba (Cv c l p8_1 p9))))) (eD (Ba (Cv c l p8_1 p9)) (Az (Cv c l p8_1 p9))) (- wv (Ar (mD (Dv (Dh q m p8_1) (Cb v h p9 0 (toNat (u-0)))))) (Ac (mD (Dv (Dh q m p8_1) (Cb v h p9 0 (toNat (u-0))))))) (eD (Dv (Dh q m p8_1) (Cb v h p9 0 (toNat (u-0)))) 0)=0∧K6 (wv (Ar (mD (Ba (Cv c l p8_1 p9)))) (Ac (mD (Ba (Cv c l p8_1 p9))))) (eD (Ba (Cv c l p8_1 p9)) (Az (Cv c l p8_1 p9))) (- wv (Ar (mD (Dv (Dh q m p8_1) (Cb v h p9 0 (toNat (u-0)))))) (Ac (mD (Dv (Dh q m p8_1) (Cb v h p9 0 (toNat (u-0))))))) (eD (Dv (Dh q m p8_1) (Cb v h p9 0 (toNat (u-0)))) 0)=0)) then bif (((Pj (Ar ((0:Int))) (Ac ((0:Int)))&&Pj (Ar ((0:Int))) (Ac ((0:Int))))&&(H3 ((0:Int))&&H3 ((0:Int))))&&Cf (wv (Ar ((0:Int))) (Ac ((0:Int)))=0)) then bif ((((Je (Ar ((0:Int))) (Ac ((0:Int)))&&Je (Ar ((0:Int))) (Ac ((0:Int))))&&H3 ((0:Int)))&&H3 ((0:Int)))&&Cf (wv (Ar ((0:Int))) (Ac ((0:Int)))=0∧wv (Ar ((0:Int))) (Ac ((0:Int)))=0)) then Bb.Bh.L2 N M0 M r c l p q m u v h (Ab (p9+1)) p8_1 else none else none else none else none else none else none else none else none else Bb.Bh.L3 N M0 r c l p q m u v h (Ab (p8_1+1)) :=
 Eq.trans (by kernel_rfl)
 (Fq (Cy (Cr (Ds r c l p8_1 p9)) (Cy (Cr (Ah (Cv c l p8_1 p9))) (Cy (Cr (Jq p q m p8_1)) (Cy (Cr (Gk u v h p9&&Cf (0≤(0:Int)∧(0:Int)≤u))) (Cy (Cr (Qh (Dh q m p8_1) (Cb v h p9 0 (toNat (u-0))))) (Cy (Cr ((((Je (Ar (mD (Ba (Cv c l p8_1 p9)))) (Ac (mD (Ba (Cv c l p8_1 p9))))&&Je (Ar (mD (Dv (Dh q m p8_1) (Cb v h p9 0 (toNat (u-0)))))) (Ac (mD (Dv (Dh q m p8_1) (Cb v h p9 0 (toNat (u-0)))))))&&H3 (eD (Ba (Cv c l p8_1 p9)) (Az (Cv c l p8_1 p9))))&&H3 (eD (Dv (Dh q m p8_1) (Cb v h p9 0 (toNat (u-0)))) 0))&&Cf (Hm (wv (Ar (mD (Ba (Cv c l p8_1 p9)))) (Ac (mD (Ba (Cv c l p8_1 p9))))) (eD (Ba (Cv c l p8_1 p9)) (Az (Cv c l p8_1 p9))) (- wv (Ar (mD (Dv (Dh q m p8_1) (Cb v h p9 0 (toNat (u-0)))))) (Ac (mD (Dv (Dh q m p8_1) (Cb v h p9 0 (toNat (u-0))))))) (eD (Dv (Dh q m p8_1) (Cb v h p9 0 (toNat (u-0)))) 0)=0∧K6 (wv (Ar (mD (Ba (Cv c l p8_1 p9)))) (Ac (mD (Ba (Cv c l p8_1 p9))))) (eD (Ba (Cv c l p8_1 p9)) (Az (Cv c l p8_1 p9))) (- wv (Ar (mD (Dv (Dh q m p8_1) (Cb v h p9 0 (toNat (u-0)))))) (Ac (mD (Dv (Dh q m p8_1) (Cb v h p9 0 (toNat (u-0))))))) (eD (Dv (Dh q m p8_1) (Cb v h p9 0 (toNat (u-0)))) 0)=0))) (Cy (Cr (((Pj (Ar ((0:Int))) (Ac ((0:Int)))&&Pj (Ar ((0:Int))) (Ac ((0:Int))))&&(H3 ((0:Int))&&H3 ((0:Int))))&&Cf (wv (Ar ((0:Int))) (Ac ((0:Int)))=0))) (Cy (Cr ((((Je (Ar ((0:Int))) (Ac ((0:Int)))&&Je (Ar ((0:Int))) (Ac ((0:Int))))&&H3 ((0:Int)))&&H3 ((0:Int)))&&Cf (wv (Ar ((0:Int))) (Ac ((0:Int)))=0∧wv (Ar ((0:Int))) (Ac ((0:Int)))=0))) rfl rfl) rfl) rfl) rfl) rfl) rfl) rfl) rfl) rfl)
theorem Bb.Bh.Pf:Bb.Bh.L3 N (M+1) r c l p q m u v h p8_3=bif (A6 p8_3 r) then Bb.Bh.L2 N M N r c l p q m u v h 0 p8_3 else some (.agg [.bool (Ar ((0:Int))),.ints .arg .u32 (Ac ((0:Int))),.int .i64 ((0:Int))]):=by kernel_rfl
theorem Bb.Bh.ev:By Bb.Bh.E N f38 (An f38) [.agg [.int .i64 r,.int .i64 c,.ints .arg .u64 l],.agg [.int .i64 p,.int .i64 q,.ints .arg .u64 m],.agg [.int .i64 u,.int .i64 v,.ints .arg .u64 h]] =
 Bb.Bh.L0 N N r c l p q m u v h 0:=by kernel_rfl
end
abbrev _root_.Go.Proofs.S1.Bb.Bh.Kn:=A7 prog 38 Bb.Bh.spec
theorem Bb.Bh.Ae (hk:A1 prog Bb.Bh.Bf) (h:Hyp Bb.Bh.E f38 Bb.Bh.ts Bb.Bh.pre Bb.Bh.out):Bb.Bh.Kn :=
 Am (A3 hk _ _ _) func38 (by kernel_rfl) (by kernel_rfl) h
def Bi.A0.hint:Nat→Option A9
 | 0=>some { keep:=[1,2,7,8],objs:=[(8,2,108002,.ints 37 .u64 [])],boxes:=[7] }
 | 2=>some { keep:=[1,2,7,8,9],objs:=[(8,2,108002,.ints 37 .u64 [])],boxes:=[7] }
 | 4=>some { keep:=[2,7,10,11],objs:=[(11,2,111002,.ints 37 .u64 []),(8,2,108002,.ints 37 .u64 [])],boxes:=[7,10] }
 | _=>none
def Bi.A0.Bf:List (Nat × Entry):=[(28,Bi.Fu.spec),(34,Bi.whole.spec),(33,Ak.D8.own.spec),(37,Ak.B7.spec),(35,Ak.Bc.own.spec),(25,Bb.Check.spec),(38,Bb.Bh.spec),(22,solve.F8.spec),(36,solve.Fo.spec)]
def Bi.A0.live:Nat→Option (List Nat)
 | 16=>some [7,10,12,13]
 | 17=>some [7,10,12,13,14]
 | 18=>some [7,10,12,13,14,15,16]
 | _=>none
def Bi.A0.E:Env:=Bg (Be Bi.A0.Bf) (fun n=>Nat.beq n 20||Nat.beq n 67) Bi.A0.hint Bi.A0.live
section
variable (N:Nat) (p13 p12 p12_1:Int) (p12_2:List Int) (p7 p7_1 p10:Int) (p2_2 p2_3 p14:List Int) (p16 p15 p15_1:Int) (p15_2:List Int) (M0 M:Nat) (n:Int) (x y:List Int) (p11:Int) (p2_1 p2_5:List Int) (p9:Int) (p2:List Int) (p8_1 p8:Int) (p2_4:List Int)
def Bi.A0.L0:Option DV:=Bx Bi.A0.E N f5 (An f5) [1,1,0,1,0] [] M ⟨Gm 167 [(1,.ints .arg .i8 x),(2,.ints .arg .i8 y),(7,.ptr 7 0 0),(8,.int .i64 p8)],[(7,false,.box [.int .i64 (Ab (Int.tmod n 7)),.int .i64 (Ab (Int.tmod n 7)),.oref 108002]),(108002,false,.ints 37 .u64 p2_4)]⟩
def Bi.A0.L1:Option DV:=Bx Bi.A0.E N f5 (An f5) [1,1,0,1,0,0,1,0,0,1,0] [M0] M ⟨Gm 167 [(1,.ints .arg .i8 x),(2,.ints .arg .i8 y),(7,.ptr 7 0 0),(8,.int .i64 p8_1),(9,.int .i64 p9)],[(7,false,.box [.int .i64 (Ab (Int.tmod n 7)),.int .i64 (Ab (Int.tmod n 7)),.oref 108002]),(108002,false,.ints 37 .u64 p2)]⟩
def Bi.A0.L2:Option DV:=Bx Bi.A0.E N f5 (An f5) [1,1,1,1,0,1,0] [] M ⟨Gm 167 [(2,.ints .arg .i8 y),(7,.ptr 7 0 0),(10,.ptr 10 0 0),(11,.int .i64 p11)],[(7,false,.box [.int .i64 (Ab (Int.tmod n 7)),.int .i64 (Ab (Int.tmod n 7)),.oref 108002]),(10,false,.box [.int .i64 (Ab (Int.tmod n 7)),.int .i64 1,.oref 111002]),(111002,false,.ints 37 .u64 p2_1),(108002,false,.ints 37 .u64 p2_5)]⟩
def Bi.A0.C16:Option DV:=cutAt Bi.A0.E N f5 (An f5) [1,1,1,1,1,1] [] ⟨Gm 167 [(7,.ptr 7 0 0),(10,.ptr 10 0 0),(12,.ptr 12 0 0),(13,.int .i64 p13)],[(12,false,.box [.int .i64 p12,.int .i64 p12_1,.ints .fresh .u64 p12_2]),(7,false,.box [.int .i64 p7,.int .i64 p7_1,.oref 108002]),(10,false,.box [.int .i64 p10,.int .i64 1,.oref 111002]),(111002,false,.ints 37 .u64 p2_2),(108002,false,.ints 37 .u64 p2_3)]⟩
def Bi.A0.C17:Option DV:=cutAt Bi.A0.E N f5 (An f5) [1,1,1,1,1,1,1] [] ⟨Gm 167 [(7,.ptr 7 0 0),(10,.ptr 10 0 0),(12,.ptr 12 0 0),(13,.int .i64 p13),(14,.ptr 14 0 0)],[(14,false,.box [.int .i64 p7_1,.int .i64 p7,.ints .fresh .u64 p14]),(12,false,.box [.int .i64 p12,.int .i64 p12_1,.ints .fresh .u64 p12_2]),(7,false,.box [.int .i64 p7,.int .i64 p7_1,.oref 108002]),(10,false,.box [.int .i64 p10,.int .i64 1,.oref 111002]),(111002,false,.ints 37 .u64 p2_2),(108002,false,.ints 37 .u64 p2_3)]⟩
def Bi.A0.C18:Option DV:=cutAt Bi.A0.E N f5 (An f5) [1,1,1,1,1,1,1,1,0] [] ⟨Gm 167 [(7,.ptr 7 0 0),(10,.ptr 10 0 0),(12,.ptr 12 0 0),(13,.int .i64 p13),(14,.ptr 14 0 0),(15,.ptr 15 0 0),(16,.int .i64 p16)],[(15,false,.box [.int .i64 p15,.int .i64 p15_1,.ints .fresh .u64 p15_2]),(14,false,.box [.int .i64 p7_1,.int .i64 p7,.ints .fresh .u64 p14]),(12,false,.box [.int .i64 p12,.int .i64 p12_1,.ints .fresh .u64 p12_2]),(7,false,.box [.int .i64 p7,.int .i64 p7_1,.oref 108002]),(10,false,.box [.int .i64 p10,.int .i64 1,.oref 111002]),(111002,false,.ints 37 .u64 p2_2),(108002,false,.ints 37 .u64 p2_3)]⟩
theorem Bi.A0.Ax:Bi.A0.L0 N (M+1) n x y p8 p2_4=bif (A6 p8 (Ab (Int.tmod n 7))) then Bi.A0.L1 N M N n x y (Ab (p8+1)) p2_4 p8 else bif (Bn (Ab (Int.tmod n 7))&&Bn 1) then Bi.A0.L2 N N n y 0 (Cj (toNat (Ab (Int.tmod n 7))) (toNat 1) (fun _ _=>0)) p2_4 else none:=by kernel_rfl
theorem Bi.A0.Cc:Bi.A0.L1 N M0 (M+1) n x y p9 p2 p8_1=bif (A6 p9 (Ab (Int.tmod n 7))) then bif (A6 (Ab ((Ab (p8_1*(Ab (Int.tmod n 7))))+p9)) (length x:Int)) then bif ((decide (0≤(Ab ((Ab (p8_1*(Ab (Int.tmod n 7))))+p9))))&&(decide ((Ab ((Ab (p8_1*(Ab (Int.tmod n 7))))+p9))<(length x:Int)))) then bif (Cf (-1000≤(Int.tmod (Ab (getD x (toNat (Ab ((Ab (p8_1*(Ab (Int.tmod n 7))))+p9))) 0)) 4)∧(Int.tmod (Ab (getD x (toNat (Ab ((Ab (p8_1*(Ab (Int.tmod n 7))))+p9))) 0)) 4)≤1000)) then bif ((decide (0≤(Ab ((Ab (p8_1*(Ab (Int.tmod n 7))))+p9))))&&(decide ((Ab ((Ab (p8_1*(Ab (Int.tmod n 7))))+p9))<(length p2:Int)))) then bif (decide ((toNat (Ab ((Ab (p8_1*(Ab (Int.tmod n 7))))+p9)))<(length p2))) then Bi.A0.L1 N M0 M n x y (Ab (p9+1)) (List.set p2 (toNat (Ab ((Ab (p8_1*(Ab (Int.tmod n 7))))+p9))) (Uk (Int.tmod (Ab (getD x (toNat (Ab ((Ab (p8_1*(Ab (Int.tmod n 7))))+p9))) 0)) 4))) p8_1 else none else none else none else none else Bi.A0.L1 N M0 M n x y (Ab (p9+1)) p2 p8_1 else Bi.A0.L0 N M0 n x y (Ab (p8_1+1)) p2 :=
 Eq.trans (by kernel_rfl)
 (Fq (Fq (Cy (J1 (decide (0≤(Ab ((Ab (p8_1*(Ab (Int.tmod n 7))))+p9)))) (decide ((Ab ((Ab (p8_1*(Ab (Int.tmod n 7))))+p9))<(length x:Int)))) (Cy (Cr (Cf (-1000≤(Int.tmod (Ab (getD x (toNat (Ab ((Ab (p8_1*(Ab (Int.tmod n 7))))+p9))) 0)) 4)∧(Int.tmod (Ab (getD x (toNat (Ab ((Ab (p8_1*(Ab (Int.tmod n 7))))+p9))) 0)) 4)≤1000))) (Cy (J1 (decide (0≤(Ab ((Ab (p8_1*(Ab (Int.tmod n 7))))+p9)))) (decide ((Ab ((Ab (p8_1*(Ab (Int.tmod n 7))))+p9))<(length p2:Int)))) (Cy (Cr (decide ((toNat (Ab ((Ab (p8_1*(Ab (Int.tmod n 7))))+p9)))<(length p2)))) rfl rfl) rfl) rfl) rfl) rfl) rfl)
theorem Bi.A0.E1:Bi.A0.L2 N (M+1) n y p11 p2_1 p2_5=bif ((A6 p11 (length p2_1:Int))&&(A6 p11 (length y:Int))) then bif ((decide (0≤p11))&&(decide (p11<(length y:Int)))) then bif (Cf (-1000≤(Int.tmod (Ab (getD y (toNat p11) 0)) 100)∧(Int.tmod (Ab (getD y (toNat p11) 0)) 100)≤1000)) then bif ((decide (0≤p11))&&(decide (p11<(length p2_1:Int)))) then bif (decide ((toNat p11)<(length p2_1))) then Bi.A0.L2 N M n y (Ab (p11+1)) (List.set p2_1 (toNat p11) (Uk (Int.tmod (Ab (getD y (toNat p11) 0)) 100))) p2_5 else none else none else none else none else bif (Ap p2_5&&Ap p2_1) then Bi.A0.C16 N ((Wj (Ab (Int.tmod n 7)) (Ab (Int.tmod n 7)) p2_5 (Ab (Int.tmod n 7)) 1 p2_1).2.2.2) ((Wj (Ab (Int.tmod n 7)) (Ab (Int.tmod n 7)) p2_5 (Ab (Int.tmod n 7)) 1 p2_1).1) ((Wj (Ab (Int.tmod n 7)) (Ab (Int.tmod n 7)) p2_5 (Ab (Int.tmod n 7)) 1 p2_1).2.1) ((Wj (Ab (Int.tmod n 7)) (Ab (Int.tmod n 7)) p2_5 (Ab (Int.tmod n 7)) 1 p2_1).2.2.1) (Ab (Int.tmod n 7)) (Ab (Int.tmod n 7)) (Ab (Int.tmod n 7)) p2_1 p2_5 else none :=
 Eq.trans (by kernel_rfl)
 (Ay (Nv (A6 p11 (length p2_1:Int))) (Ay (Nv (A6 p11 (length p2_1:Int))) (Ay (Kf (A6 p11 (length p2_1:Int))) (Ay (Af0 (A6 p11 (length p2_1:Int))) (Ay (S9 (A6 p11 (length p2_1:Int))) (Cy (tt1 (A6 p11 (length p2_1:Int)) (A6 p11 (length y:Int))) (Cy (J1 (decide (0≤p11)) (decide (p11<(length y:Int)))) (Cy (Cr (Cf (-1000≤(Int.tmod (Ab (getD y (toNat p11) 0)) 100)∧(Int.tmod (Ab (getD y (toNat p11) 0)) 100)≤1000))) (Cy (J1 (decide (0≤p11)) (decide (p11<(length p2_1:Int)))) (Cy (Cr (decide ((toNat p11)<(length p2_1)))) rfl rfl) rfl) rfl) rfl) rfl))))))
theorem Bi.A0.Aea:Bi.A0.C16 N p13 p12 p12_1 p12_2 p7 p7_1 p10 p2_2 p2_3=bif (Bj p7 p7_1 p2_3) then Bi.A0.C17 N p13 p12 p12_1 p12_2 p7 p7_1 p10 p2_2 p2_3 (Cj (toNat p7_1) (toNat p7) (fun j1 j2=>Cv p7_1 p2_3 j2 j1)) else none:=(Jm _ _ _ _ _ _ _).trans (by kernel_rfl)
theorem Bi.A0.Aq0:Bi.A0.C17 N p13 p12 p12_1 p12_2 p7 p7_1 p10 p2_2 p2_3 p14=bif (Ap p14&&Ap p2_2) then Bi.A0.C18 N p13 p12 p12_1 p12_2 p7 p7_1 p10 p2_2 p2_3 p14 ((loX p7_1 p7 p14 p10 1 p2_2).2.2.2) ((loX p7_1 p7 p14 p10 1 p2_2).1) ((loX p7_1 p7 p14 p10 1 p2_2).2.1) ((loX p7_1 p7 p14 p10 1 p2_2).2.2.1) else none:=(Jm _ _ _ _ _ _ _).trans (by kernel_rfl)
theorem Bi.A0.Ad9:Bi.A0.C18 N p13 p12 p12_1 p12_2 p7 p7_1 p10 p2_2 p2_3 p14 p16 p15 p15_1 p15_2=bif (((p13 !=(0:Int))||(p16 !=(0:Int)))||(Ap p12_2)) then bif ((((p13 !=(0:Int))||(p16 !=(0:Int)))||((Bt p12 p12_1 p12_2) !=(0:Int)))||(Ap p15_2)) then bif ((((((((p13 !=(0:Int))||(p16 !=(0:Int)))||((Bt p12 p12_1 p12_2) !=(0:Int)))||((Bt p15 p15_1 p15_2) !=(0:Int)))||(p12 !=p7))||(p15 !=p7))||(p12_1 !=(1:Int)))||(p15_1 !=(1:Int))) then some (.bool false) else bif (N2 p10 1 p2_2 p7 p7_1 p2_3 p12 p12_1 p12_2) then bif (((length (Ac ((0:Int))):Int)==(0:Int))&&(N2 p10 1 p2_2 p7_1 p7 p14 p15 p15_1 p15_2)) then some (.bool (bif (bif ((length (Ac ((0:Int))):Int)==(0:Int)) then ((length (Ac ((0:Int))):Int)==(0:Int)) else false) then true else false)) else none else none else none else none :=
 Eq.trans ((Jm _ _ _ _ _ _ _).trans (by kernel_rfl))
 (Ay (Wl (p13 !=(0:Int))) (Ay (Un (p13 !=(0:Int))) (Ay (tt6 (p13 !=(0:Int))) (Ay (Aio (p13 !=(0:Int)) (p16 !=(0:Int))) (Cy (Asp (p13 !=(0:Int)) (p16 !=(0:Int)) (Ap p12_2)) (Ay (Amj (p13 !=(0:Int)) (p16 !=(0:Int))) (Ay (Apm (p13 !=(0:Int)) (p16 !=(0:Int))) (Ay (Apn (p13 !=(0:Int)) (p16 !=(0:Int)) ((Bt p12 p12_1 p12_2) !=(0:Int))) (Cy (Aso (p13 !=(0:Int)) (p16 !=(0:Int)) ((Bt p12 p12_1 p12_2) !=(0:Int)) (Ap p15_2)) (Ay (Apo (p13 !=(0:Int)) (p16 !=(0:Int)) ((Bt p12 p12_1 p12_2) !=(0:Int))) (Ay (Apq (p13 !=(0:Int)) (p16 !=(0:Int)) ((Bt p12 p12_1 p12_2) !=(0:Int))) (Ay (Afx (p13 !=(0:Int)) (p16 !=(0:Int)) ((Bt p12 p12_1 p12_2) !=(0:Int)) ((Bt p15 p15_1 p15_2) !=(0:Int))) (Ay (Amk (p13 !=(0:Int)) (p16 !=(0:Int)) ((Bt p12 p12_1 p12_2) !=(0:Int)) ((Bt p15 p15_1 p15_2) !=(0:Int))) (Ay (Afx (p13 !=(0:Int)) (p16 !=(0:Int)) ((Bt p12 p12_1 p12_2) !=(0:Int)) ((Bt p15 p15_1 p15_2) !=(0:Int))) (Ay (Amk (p13 !=(0:Int)) (p16 !=(0:Int)) ((Bt p12 p12_1 p12_2) !=(0:Int)) ((Bt p15 p15_1 p15_2) !=(0:Int))) (Ay (Apr (p13 !=(0:Int)) (p16 !=(0:Int)) ((Bt p12 p12_1 p12_2) !=(0:Int)) ((Bt p15 p15_1 p15_2) !=(0:Int))) (Ay (Aps (p13 !=(0:Int)) (p16 !=(0:Int)) ((Bt p12 p12_1 p12_2) !=(0:Int)) ((Bt p15 p15_1 p15_2) !=(0:Int))) (Ay (Aml (p13 !=(0:Int)) (p16 !=(0:Int)) ((Bt p12 p12_1 p12_2) !=(0:Int)) ((Bt p15 p15_1 p15_2) !=(0:Int)) (p12 !=p7)) (Ay (Apt (p13 !=(0:Int)) (p16 !=(0:Int)) ((Bt p12 p12_1 p12_2) !=(0:Int)) ((Bt p15 p15_1 p15_2) !=(0:Int)) (p12 !=p7)) (Ay (Aml (p13 !=(0:Int)) (p16 !=(0:Int)) ((Bt p12 p12_1 p12_2) !=(0:Int)) ((Bt p15 p15_1 p15_2) !=(0:Int)) (p12 !=p7)) (Ay (Apt (p13 !=(0:Int)) (p16 !=(0:Int)) ((Bt p12 p12_1 p12_2) !=(0:Int)) ((Bt p15 p15_1 p15_2) !=(0:Int)) (p12 !=p7)) (Ay (Ar3 (p13 !=(0:Int)) (p16 !=(0:Int)) ((Bt p12 p12_1 p12_2) !=(0:Int)) ((Bt p15 p15_1 p15_2) !=(0:Int)) (p12 !=p7)) (Ay (Ar4 (p13 !=(0:Int)) (p16 !=(0:Int)) ((Bt p12 p12_1 p12_2) !=(0:Int)) ((Bt p15 p15_1 p15_2) !=(0:Int)) (p12 !=p7)) (Ay (Amm (p13 !=(0:Int)) (p16 !=(0:Int)) ((Bt p12 p12_1 p12_2) !=(0:Int)) ((Bt p15 p15_1 p15_2) !=(0:Int)) (p12 !=p7) (p15 !=p7)) (Ay (Apu (p13 !=(0:Int)) (p16 !=(0:Int)) ((Bt p12 p12_1 p12_2) !=(0:Int)) ((Bt p15 p15_1 p15_2) !=(0:Int)) (p12 !=p7) (p15 !=p7)) (Ay (Apu (p13 !=(0:Int)) (p16 !=(0:Int)) ((Bt p12 p12_1 p12_2) !=(0:Int)) ((Bt p15 p15_1 p15_2) !=(0:Int)) (p12 !=p7) (p15 !=p7)) (Ay (Ar6 (p13 !=(0:Int)) (p16 !=(0:Int)) ((Bt p12 p12_1 p12_2) !=(0:Int)) ((Bt p15 p15_1 p15_2) !=(0:Int)) (p12 !=p7) (p15 !=p7)) (Ay (Amo (p13 !=(0:Int)) (p16 !=(0:Int)) ((Bt p12 p12_1 p12_2) !=(0:Int)) ((Bt p15 p15_1 p15_2) !=(0:Int)) (p12 !=p7) (p15 !=p7) (p12_1 !=(1:Int))) (Ay (Apv (p13 !=(0:Int)) (p16 !=(0:Int)) ((Bt p12 p12_1 p12_2) !=(0:Int)) ((Bt p15 p15_1 p15_2) !=(0:Int)) (p12 !=p7) (p15 !=p7) (p12_1 !=(1:Int))) (Ay (Apv (p13 !=(0:Int)) (p16 !=(0:Int)) ((Bt p12 p12_1 p12_2) !=(0:Int)) ((Bt p15 p15_1 p15_2) !=(0:Int)) (p12 !=p7) (p15 !=p7) (p12_1 !=(1:Int))) (Ay (Ar8 (p13 !=(0:Int)) (p16 !=(0:Int)) ((Bt p12 p12_1 p12_2) !=(0:Int)) ((Bt p15 p15_1 p15_2) !=(0:Int)) (p12 !=p7) (p15 !=p7) (p12_1 !=(1:Int))) (Cy (Ar9 (p13 !=(0:Int)) (p16 !=(0:Int)) ((Bt p12 p12_1 p12_2) !=(0:Int)) ((Bt p15 p15_1 p15_2) !=(0:Int)) (p12 !=p7) (p15 !=p7) (p12_1 !=(1:Int)) (p15_1 !=(1:Int))) rfl (Fq (Ay (Nv ((length (Ac ((0:Int))):Int)==(0:Int))) (Ay (Nv ((length (Ac ((0:Int))):Int)==(0:Int))) (Ay (Nv ((length (Ac ((0:Int))):Int)==(0:Int))) (Cy (Asl ((length (Ac ((0:Int))):Int)==(0:Int)) (N2 p10 1 p2_2 p7_1 p7 p14 p15 p15_1 p15_2)) (Ay (Kf ((length (Ac ((0:Int))):Int)==(0:Int))) (Ay (Kf ((length (Ac ((0:Int))):Int)==(0:Int))) (Ay (Kf ((length (Ac ((0:Int))):Int)==(0:Int))) (Ay (Kf ((length (Ac ((0:Int))):Int)==(0:Int))) (Ay (S9 ((length (Ac ((0:Int))):Int)==(0:Int))) (Ay (Asm ((length (Ac ((0:Int))):Int)==(0:Int))) (Ay (Asn ((length (Ac ((0:Int))):Int)==(0:Int))) rfl))))))) rfl)))) rfl)))))))))))))))))))))))) rfl)))) rfl)))))
theorem Bi.A0.ev:By Bi.A0.E N f5 (An f5) [.int .u8 n,.ints .arg .i8 x,.ints .arg .i8 y]=bif (Bn (Ab (Int.tmod n 7))) then Bi.A0.L0 N N n x y 0 (Jv (toNat (Ab (Int.tmod n 7)))) else none:=by kernel_rfl
end
abbrev _root_.Go.Proofs.S1.Bi.A0.Kn:=A7 prog 5 Bi.A0.spec
theorem Bi.A0.Ae (hk:A1 prog Bi.A0.Bf) (h:Hyp Bi.A0.E f5 Bi.A0.ts Bi.A0.pre Bi.A0.out):Bi.A0.Kn :=
 Am (A3 hk _ _ _) func5 (by kernel_rfl) (by kernel_rfl) h
end EqLaw17X
open Go Go.Den Go.C4 Go.Proofs
open EqLaw17X
theorem Ak.Eo.own.known:Ak.Eo.own.Kn:=Ak.Eo.own.Ae .nil fun r c l i k b hp=>by
 obtain ⟨_,_,_,_,_,_,_,h8⟩:=Ao.1 (show Ds r c l i k=true from hp)
 obtain ⟨e,g1,g2⟩:=Fx (R:=r) (show Ds r c l i k=true from hp)
 refine ⟨0,.agg [.int .i64 r,.int .i64 c,.ints (.own 13 tB) .u64 (List.set l (i*c+k).toNat b)],[],?_,Wk.G0 (.cons .int (.cons .int (.cons (.keep _ _ _ _ (List.not_mem_nil)) .nil)))⟩
 rw [Ak.Eo.own.ev,e,List.nil_append,Au8 (show 0+l.length≤Ga by unfold Ga; omega),Au8 g1,Au8 g2,Au8 (show (i*c+k).toNat<l.length by omega)]
 rfl
theorem Aky (N:Nat) {n:Nat} (h6:n≤6):∀ (k i M:Nat),i+k=n→k<M →
 Ak.D8.own.L0 N M (n:Int) (i:Int) (fill n n (fun (a b:Nat)=>Ln (a:Int) (b:Int)) fun a b=>decide (a=b∧a<i))=some (.agg [.int .i64 (n:Int),.int .i64 (n:Int),.ints (.own 104002 tB) .u64 (Jv n)]):=by
 intro k
 induction k with
 | zero =>
   intro i M hi hM
   obtain ⟨M,rfl⟩:∃ G,M=G+1:=⟨M-1,by omega⟩
   have e:fill n n (fun (a b:Nat)=>Ln (a:Int) (b:Int)) (fun a b=>decide (a=b∧a<i))=Cj n n fun (a b:Nat)=>Ln (a:Int) (b:Int):=by
    refine C8 fun a b ha hb=>?_
    by_cases h:a=b
    ·rw [Avu (Au8 ⟨h,by omega⟩)]
    ·rw [Avt (fun k=>h (Avx k).1)]
     unfold Ln
     rw [Avt (by omega)]
   rw [Ak.D8.own.Ax,Av,Avc (by omega),Avb,e]
   rfl
 | succ k ih =>
   intro i M hi hM
   obtain ⟨M,rfl⟩:∃ G,M=G+1:=⟨M-1,by omega⟩
   have c9:Ds (n:Int) (n:Int) (fill n n (fun (a b:Nat)=>Ln (a:Int) (b:Int)) fun a b=>decide (a=b∧a<i)) (i:Int) (i:Int)=true:=D7 h6 h6 (Tn _ _ _ _) (by omega) (by omega)
   have one:(4607182418800017408:Int)=(fun (a b:Nat)=>Ln (a:Int) (b:Int)) i i:=(Avu rfl).symm
   rw [Ak.D8.own.Ax,Av,Au8 (by omega),Au7,c9,Au7,Al (by omega) (by omega),Abo (d':=fun a b=>decide (a=b∧a<i+1)) (by omega) one (fun a b ha hb=>by simp only [Ave]; omega)]
   exact ih (i+1) M (by omega) (by omega)
theorem Ak.D8.own.known:Ak.D8.own.Kn:=Ak.D8.own.Ae (.cons Ak.Eo.own.known (.cons Ak.Bc.own.known .nil)) fun n hp=>by
 have hp:Bn n=true:=hp
 obtain ⟨n,rfl,h6⟩:=E7 hp
 refine ⟨8,.agg [.int .i64 (n:Int),.int .i64 (n:Int),.ints (.own 104002 tB) .u64 (Jv n)],[],?_,Wk.G0 (.cons .int (.cons .int (.cons (.keep _ _ _ _ (List.not_mem_nil)) .nil)))⟩
 have e:=Aky 8 h6 n 0 8 (by omega) (by omega)
 rw [Xx (fun a b ha hb=>by simp only [Ave]; omega)] at e
 rw [Ak.D8.own.ev,hp,Avd,Au7,Au9]
 exact e
theorem Bi.whole.known:Bi.whole.Kn:=Bi.whole.Ae (.cons Cp.B.known .nil) fun n _=>by
 refine ⟨0,.int .u64 (Uk n),[],?_,.int⟩
 rw [Bi.whole.ev,Afr]
 unfold Na
 rw [Ad2 _ (T5 _ _)]
 rfl
theorem _root_.Go.C4.Wh.dy {x z:Int} (h:Wh x z):mD (Ba x)=mD z∧eD (Ba x) (Az x)=eD z 0:=by
 obtain ⟨g,g0,gp,hv⟩:=h.val
 rw [Aef] at hv
 refine Aao (g:=g) gp g0 ?_
 rw [hv]
 unfold Tz
 rw [Int.zero_sub]
theorem Ak6 (a b:Int):mD (mD a*mD b)=mD (a*b)∧eD (mD a*mD b) (eD a 0+eD b 0)=eD (a*b) 0:=by
 by_cases ha:a=0
 ·rw [ha,Mw.2 rfl,Int.zero_mul,Int.zero_mul]; exact ⟨rfl,rfl⟩
 by_cases hb:b=0
 ·rw [hb,Mw.2 rfl,Int.mul_zero,Int.mul_zero]; exact ⟨rfl,rfl⟩
 have e:a*b=mD a*mD b*((2^(Mk a.natAbs+Mk b.natAbs):Nat):Int):=by
  have h1:=Ub a
  have h2:=Ub b
  rw [Avw,Avs]
  calc a*b=(mD a*((2^Mk a.natAbs:Nat):Int))*(mD b*((2^Mk b.natAbs:Nat):Int)):=by rw [← h1,← h2]
   _=_:=by simp only [Int.mul_assoc,Int.mul_left_comm]
 have ea:eD a 0=(Mk a.natAbs:Nat):=by unfold eD; rw [Avt ha,Int.zero_add]
 have eb:eD b 0=(Mk b.natAbs:Nat):=by unfold eD; rw [Avt hb,Int.zero_add]
 refine ⟨by rw [e,Adg],?_⟩
 have:=Adu (mD a*mD b) ((Mk a.natAbs+Mk b.natAbs:Nat):Int) (Mk a.natAbs+Mk b.natAbs)
 rw [← e,Int.sub_self] at this
 rw [this,ea,eb,Int.natCast_add]
theorem Ao8 (z:Int):0≤eD z 0:=by
 unfold eD; split<;>omega
theorem Ak7 (a b:Int):Hm (mD a) (eD a 0) (mD b) (eD b 0)=mD (a+b)∧K6 (mD a) (eD a 0) (mD b) (eD b 0)=eD (a+b) 0:=by
 have h1:=Ao8 a
 have h2:=Ao8 b
 have hl:=Akk (v:=mD a) (w:=mD b) h1 h2
 unfold Hm K6
 refine Aao (g:=0) hl (Int.le_refl 0) ?_
 rw [Alz h1 h2,Aeg (Int.le_refl 0),Aeg (Int.le_refl 0),Ul,Ul,Ul]
theorem Af9 (a:Int) (k:Nat):H2 (-a) k=-(H2 a k):=by
 rcases Int.lt_trichotomy a 0 with h | h | h
 ·unfold H2
  rw [Int.natAbs_neg,La (show ¬ -a<0 by omega),Lb h,Int.neg_neg]
 ·rw [h,Int.neg_zero,Mp]; rfl
 ·unfold H2
  rw [Int.natAbs_neg,Lb (show -a<0 by omega),La (show ¬ a<0 by omega)]
theorem Aqf (a:Int):-(mD a)=mD (-a)∧eD a 0=eD (-a) 0:=by
 unfold mD eD
 rw [Int.natAbs_neg]
 refine ⟨(Af9 a _).symm,?_⟩
 by_cases h:a=0
 ·rw [Avu h,Avu (by omega)]
 ·rw [Avt h,Avt (by omega)]
theorem Rr {z:Int} (h:z.natAbs<2^60):Di (mD z).natAbs<3∧H3 (eD z 0)=true:=by
 refine ⟨Av9 (L9 (Agz _)) (Afb (k:=2) (Awi h (by decide)) (by omega)),Ak5 h (by decide) (by omega) (by decide)⟩
theorem Ae6 (a b:Int):mD (mD a*mD b)=mD (a*b):=(Ak6 a b).1
theorem Ae5 (a b:Int):eD (mD a*mD b) (eD a 0+eD b 0)=eD (a*b) 0:=(Ak6 a b).2
theorem Z2 (a b:Int):Hm (mD a) (eD a 0) (mD b) (eD b 0)=mD (a+b):=(Ak7 a b).1
theorem Z1 (a b:Int):K6 (mD a) (eD a 0) (mD b) (eD b 0)=eD (a+b) 0:=(Ak7 a b).2
theorem Vh:mD 0=0:=Mw.2 rfl
theorem Zj:eD 0 0=0:=rfl
theorem Alx (b:Int):Hm 0 0 (mD b) (eD b 0)=mD b:=by
 have:=Z2 0 b
 rw [Vh,Zj,Int.zero_add] at this
 exact this
theorem Alw (b:Int):K6 0 0 (mD b) (eD b 0)=eD b 0:=by
 have:=Z1 0 b
 rw [Vh,Zj,Int.zero_add] at this
 exact this
theorem Ace:wv false []=0:=by decide
theorem Aay:Ar 0=false:=by decide
theorem Sr:Ac 0=[]:=by decide
theorem Ahl {N:Nat} {x y:List Int} (hxy:x.length=y.length) (h6:x.length≤6) (hx:∀ z∈x,Sm 3 z) (hy:∀ z∈y,Sm 134217728 z):∀ (k i F:Nat) (S:Int),i+k=x.length→k<F→S.natAbs≤i*402653184 →
 Bb.Fs.L1 N F x y (i:Int) (Ar (mD S)) (Ac (mD S)) (eD S 0)=some (.agg [.bool (Ar (mD (S+Dv (x.drop i) (y.drop i)))),.ints .arg .u32 (Ac (mD (S+Dv (x.drop i) (y.drop i)))),.int .i64 (eD (S+Dv (x.drop i) (y.drop i)) 0)]):=by
 intro k
 induction k with
 | zero =>
   intro i F S hi hF hS
   obtain ⟨F,rfl⟩:∃ G,F=G+1:=⟨F-1,by omega⟩
   rw [Bb.Fs.Cc,Av,Avc (by omega),Avb,show i=x.length by omega,V6 rfl,Int.add_zero]
 | succ k ih =>
   intro i F S hi hF hS
   obtain ⟨F,rfl⟩:∃ G,F=G+1:=⟨F-1,by omega⟩
   have ha:=Kv hx (show i<x.length by omega)
   have hb:=Kv hy (show i<y.length by omega)
   have hd:=Mf (xs:=x) (ys:=y) (j:=i) (by omega) (by omega)
   have e1:(i:Int)+1=((i+1:Nat):Int):=by omega
   have dA:=ha.1.dy
   have dB:=hb.1.dy
   have hm:=O8 ha.2 hb.2 (p:=402653184) (by decide)
   have f1:decide ((0:Int)≤(i:Int))=true:=Au8 (by omega)
   have f2:decide ((i:Int)<(x.length:Int))=true:=Au8 (by omega)
   have f3:decide ((i:Int)<(y.length:Int))=true:=Au8 (by omega)
   obtain ⟨p1,p2⟩:=Rr (z:=zI (x.getD i 0)) (by have:=ha.2; omega)
   obtain ⟨p3,p4⟩:=Rr (z:=zI (y.getD i 0)) (by have:=hb.2; omega)
   obtain ⟨p5,p6⟩:=Rr (z:=zI (x.getD i 0)*zI (y.getD i 0)) (by omega)
   obtain ⟨p7,p8⟩:=Rr (z:=S) (by omega)
   have o1:Pj (Ar (mD (zI (x.getD i 0)))) (Ac (mD (zI (x.getD i 0))))=true:=U7 (by omega)
   have o2:Pj (Ar (mD (zI (y.getD i 0)))) (Ac (mD (zI (y.getD i 0))))=true:=U7 (by omega)
   have o3:Je (Ar (mD (zI (x.getD i 0)*zI (y.getD i 0)))) (Ac (mD (zI (x.getD i 0)*zI (y.getD i 0))))=true:=Mv (by omega)
   have o4:Je (Ar (mD S)) (Ac (mD S))=true:=Mv (by omega)
   have ih:=ih (i+1) F (S+zI (x.getD i 0)*zI (y.getD i 0)) (by omega) (by omega) (by omega)
   rw [Int.add_assoc,← hd] at ih
   rw [Bb.Fs.Cc,Av,Au8 (show (i:Int)<(x.length:Int) by omega),Au7,Au9]
   simp only [f1,f2,f3,ha.1.word,hb.1.word,Fl,dA.1,dA.2,dB.1,dB.2,Ae6,Ae5,Z2,Z1,o1,o2,o3,o4,p2,p4,p6,p8,Avd,Au7]
   rw [Al (by omega) (by omega),e1]
   exact ih
theorem Ahn (a b:Int) (t u:List Int):Dv (a::t) (b::u)=zI a*zI b+Dv t u:=by rw [Dv]
theorem Ahm {N F:Nat} {a b:Int} {t u:List Int} (ha:Sm 3 a) (hb:Sm 134217728 b):Bb.Fs.L0 N (F+1) (a::t) (b::u)=Bb.Fs.L1 N F (a::t) (b::u) 1 (Ar (mD (zI a*zI b))) (Ac (mD (zI a*zI b))) (eD (zI a*zI b) 0):=by
 have dA:=ha.1.dy
 have dB:=hb.1.dy
 have hm:=O8 ha.2 hb.2 (p:=402653184) (by decide)
 obtain ⟨p1,p2⟩:=Rr (z:=zI a) (by have:=ha.2; omega)
 obtain ⟨p3,p4⟩:=Rr (z:=zI b) (by have:=hb.2; omega)
 obtain ⟨p5,p6⟩:=Rr (z:=zI a*zI b) (by omega)
 have o1:Pj (Ar (mD (zI a))) (Ac (mD (zI a)))=true:=U7 (by omega)
 have o2:Pj (Ar (mD (zI b))) (Ac (mD (zI b)))=true:=U7 (by omega)
 have o3:Je (Ar (mD (zI a*zI b))) (Ac (mD (zI a*zI b)))=true:=Mv (by omega)
 have lx:(0:Int)<((a::t).length:Int):=by simp only [List.length_cons]; omega
 have ly:(0:Int)<((b::u).length:Int):=by simp only [List.length_cons]; omega
 rw [Bb.Fs.Ax,Av,Au8 lx,Au7,Au7,Au8 ly]
 have oz:Je false []=true:=Mv (v:=0) (by decide)
 have oe:H3 (0:Int)=true:=Ao.2 (by decide)
 simp only [List.getD_cons_zero,ha.1.word,hb.1.word,Fl,Ace,dA.1,dA.2,dB.1,dB.2,Ae6,Ae5,Alx,Alw,o1,o2,o3,oz,oe,p2,p4,p6,Avd,Au7]
theorem Bb.Fs.known:Bb.Fs.Kn:=Bb.Fs.Ae (.cons Aq.Add.known (.cons Aq.Mul.known (.cons A4.Value.known .nil))) fun x y hp=>by
 obtain ⟨hxy,h6,hx,hy⟩:=Ao.1 (show Qh x y=true from hp)
 cases x with
 | nil =>
   refine ⟨1,.agg [.bool false,.nil,.int .i64 0],[],?_,?_⟩
   ·rw [Bb.Fs.ev,Bb.Fs.Ax,Av,Avc (by simp),Avb]
   ·show Wk _ _ (DV.agg [.bool (Ar (mD (Dv [] y))),.ints .arg .u32 (Ac (mD (Dv [] y))),.int .i64 (eD (Dv [] y) 0)])
    have e:Dv [] y=0:=rfl
    rw [e,Vh,Zj,Aay,Sr]
    exact Wk.G0 (.cons .bool (.cons (.nil _ _) (.cons .int .nil)))
 | cons a t =>
   cases y with
   | nil=>exact absurd hxy (by simp)
   | cons b u =>
     have ha:=hx a Awm
     have hb:=hy b Awm
     have hm:=O8 ha.2 hb.2 (p:=402653184) (by decide)
     have h:=Ahl (N:=8) hxy h6 hx hy t.length 1 7 (zI a*zI b) (by simp only [List.length_cons]; omega) (by simp only [List.length_cons] at h6; omega) (by omega)
     have e:zI a*zI b+Dv ((a::t).drop 1) ((b::u).drop 1)=Dv (a::t) (b::u):=(Ahn a b t u).symm
     rw [e] at h
     exact ⟨8,_,[],(Bb.Fs.ev 8 (a::t) (b::u)).trans ((Ahm (N:=8) (F:=7) ha hb).trans h),Wk.G0 (.cons .bool (.cons .Ww (.cons .int .nil)))⟩
open Go Go.Den Go.C4 Go.Proofs
open EqLaw17X
theorem Aq.Sub.zero.known:Aq.Sub.zero.Kn:=A7.Aft (P:=_) (pre:=Aq.Sub.pre) (out:=Aq.Sub.out) Aq.Sub.known [] fun ats h=>by
 unfold Aq.Sub.zero.pre at h
 split at h
 ·rename_i n a e m b f
  obtain ⟨h1,h2⟩:=Ag.1 h
  obtain ⟨z1,z2⟩:=Ao.1 h2
  refine ⟨h1,?_⟩
  show Wk [] (DV.agg [.bool (Ar (Hm (wv n a) e (- wv m b) f)),.ints .arg .u32 (Ac (Hm (wv n a) e (- wv m b) f)),.int .i64 (K6 (wv n a) e (- wv m b) f)]) (DV.agg [.bool (Ar 0),.ints .arg .u32 (Ac 0),.int .i64 0])
  rw [z1,z2]
  exact Wk.G0 (.cons .bool (.cons .Ww (.cons .int .nil)))
 ·cases h
theorem Aq.Add.zero.known:Aq.Add.zero.Kn:=A7.Aft (P:=_) (pre:=Aq.Add.pre) (out:=Aq.Add.out) Aq.Add.known [] fun ats h=>by
 unfold Aq.Add.zero.pre at h
 split at h
 ·rename_i n a e m b f
  obtain ⟨h1,h2⟩:=Ag.1 h
  obtain ⟨z1,z2⟩:=Ao.1 h2
  refine ⟨h1,?_⟩
  show Wk [] (DV.agg [.bool (Ar (Hm (wv n a) e (wv m b) f)),.ints .arg .u32 (Ac (Hm (wv n a) e (wv m b) f)),.int .i64 (K6 (wv n a) e (wv m b) f)]) (DV.agg [.bool (Ar 0),.ints .arg .u32 (Ac 0),.int .i64 0])
  have e0:K6 0 e 0 f=0:=by
   have hz:=Yc e f
   unfold Hm at hz
   unfold K6 eD
   rw [Avu (Mw.1 hz)]
  rw [z1,z2,Yc,e0]
  exact Wk.G0 (.cons .bool (.cons .Ww (.cons .int .nil)))
 ·cases h
theorem Aq.Mul.zero.known:Aq.Mul.zero.Kn:=A7.Aft (P:=_) (pre:=Aq.Mul.pre) (out:=Aq.Mul.out) Aq.Mul.known [] fun ats h=>by
 unfold Aq.Mul.zero.pre at h
 split at h
 ·rename_i n a e m b f
  obtain ⟨h1,h2⟩:=Ag.1 h
  have z1:=Ao.1 h2
  refine ⟨h1,?_⟩
  show Wk [] (DV.agg [.bool (Ar (mD (wv n a*wv m b))),.ints .arg .u32 (Ac (mD (wv n a*wv m b))),.int .i64 (eD (wv n a*wv m b) (e+f))]) (DV.agg [.bool (Ar 0),.ints .arg .u32 (Ac 0),.int .i64 0])
  rw [z1,Int.zero_mul,Vh,show eD 0 (e+f)=0 from rfl]
  exact Wk.G0 (.cons .bool (.cons .Ww (.cons .int .nil)))
 ·cases h
section
variable {R:Nat} {l m h:List Int} (r6:R≤6) (hl:l.length=R*1) (hm:m.length=R*R) (hh:h.length=R*1) (sl:∀ z∈l,Sm 99 z) (sm:∀ z∈m,Sm 3 z) (sh:∀ z∈h,Sm 134217728 z) (hz:∀ i:Nat,i<R→zI (Cv 1 l (i:Int) 0)=Dv (Dh (R:Int) m (i:Int)) (Cb 1 h 0 0 R))
include r6 hl hm hh sl sm sh hz
theorem Xb {i:Nat} (hi:i<R):Ds (R:Int) 1 l (i:Int) 0=true∧Ah (Cv 1 l (i:Int) 0)=true∧Jq (R:Int) (R:Int) m (i:Int)=true∧(Gk (R:Int) 1 h 0&&Cf (0≤(0:Int)∧(0:Int)≤(R:Int)))=true∧Qh (Dh (R:Int) m (i:Int)) (Cb 1 h 0 0 R)=true ∧
 ∃ z:Int,mD (Ba (Cv 1 l (i:Int) 0))=mD z∧eD (Ba (Cv 1 l (i:Int) 0)) (Az (Cv 1 l (i:Int) 0))=eD z 0∧Dv (Dh (R:Int) m (i:Int)) (Cb 1 h 0 0 R)=z∧z.natAbs≤99:=by
 have sa:Sm 99 (Cv 1 l (i:Int) 0):=by
  have e:Cv 1 l (i:Int) 0=l.getD (i*1+0) 0:=Ii 1 l i 0
  rw [e]
  exact Kv sl (by omega)
 have ra:=U0 hm hi
 refine ⟨D7 (c:=1) r6 (by decide) hl hi (by decide),sa.1.word,?_,?_,?_,zI (Cv 1 l (i:Int) 0),sa.1.dy.1,sa.1.dy.2,(hz i hi).symm,sa.2⟩
 ·unfold Jq
  rw [E8 r6 r6 hm,Awk]
  exact Ao.2 ⟨by omega,by omega⟩
 ·unfold Gk
  rw [show Bj (R:Int) 1 h=true from E8 (c:=1) r6 (by decide) hh,Awk,Ag]
  exact ⟨Ao.2 (by decide),Ao.2 ⟨by decide,by omega⟩⟩
 ·refine Ao.2 ⟨?_,?_,?_,?_⟩
  ·rw [ra,Te,Awd,Awa]
  ·rw [ra,Awd,Awa]; exact r6
  ·intro z hz
   unfold Dh at hz
   exact sm z (List.mem_of_mem_take (List.mem_of_mem_drop hz))
  ·intro z hz
   unfold Cb at hz
   obtain ⟨j,hj,rfl⟩:=List.mem_map.1 hz
   have hj:=List.mem_range.1 hj
   have e:Cv 1 h (0+(j:Int)) 0=h.getD (j*1+0) 0:=by rw [Int.zero_add]; exact Ii 1 h j 0
   rw [e]
   exact Kv sh (by omega)
end
theorem Afg {z:Int}:Hm (mD z) (eD z 0) (-(mD z)) (eD z 0)=0∧K6 (mD z) (eD z 0) (-(mD z)) (eD z 0)=0:=by
 obtain ⟨n1,n2⟩:=Aqf z
 have h1:=Z2 z (-z)
 have h2:=Z1 z (-z)
 rw [← n1,← n2,show z+-z=0 by omega] at h1 h2
 exact ⟨h1.trans Vh,h2.trans Zj⟩
open Go Go.Den Go.C4 Go.Proofs
open EqLaw17X
theorem Aeb:Pj (Ar 0) (Ac 0)=true∧Je (Ar 0) (Ac 0)=true∧Je false []=true∧H3 (0:Int)=true∧Cf (wv (Ar 0) (Ac 0)=0)=true∧Cf (wv false []=0∧wv (Ar 0) (Ac 0)=0)=true∧Cf (wv (Ar 0) (Ac 0)=0∧wv (Ar 0) (Ac 0)=0)=true :=
 ⟨U7 (v:=0) (by decide),Mv (v:=0) (by decide),Mv (v:=0) (by decide),Ao.2 (by decide),Ao.2 (Fl 0),Ao.2 ⟨Ace,Fl 0⟩,Ao.2 ⟨Fl 0,Fl 0⟩⟩
section
variable {R:Nat} {l m h:List Int} (r6:R≤6) (hl:l.length=R*1) (hm:m.length=R*R) (hh:h.length=R*1) (sl:∀ z∈l,Sm 99 z) (sm:∀ z∈m,Sm 3 z) (sh:∀ z∈h,Sm 134217728 z) (hz:∀ i:Nat,i<R→zI (Cv 1 l (i:Int) 0)=Dv (Dh (R:Int) m (i:Int)) (Cb 1 h 0 0 R))
include r6 hl hm hh sl sm sh hz
theorem Agg (N M0 M:Nat) {i:Nat} (hi:i<R):Bb.Bh.L1 N M0 (M+1) (R:Int) 1 l (R:Int) (R:Int) m (R:Int) 1 h (i:Int)=Bb.Bh.L2 N M0 M (R:Int) 1 l (R:Int) (R:Int) m (R:Int) 1 h 1 (i:Int):=by
 obtain ⟨k1,k2,k3,k4,k5,z,d1,d2,d3,d4⟩:=Xb r6 hl hm hh sl sm sh hz hi
 obtain ⟨z1,z2,z3,z4,z5,z6,z7⟩:=Aeb
 obtain ⟨p1,p2⟩:=Rr (z:=z) (by omega)
 have o1:Je (Ar (mD z)) (Ac (mD z))=true:=Mv (by omega)
 have g:Cf (Hm (mD z) (eD z 0) (-(mD z)) (eD z 0)=0∧K6 (mD z) (eD z 0) (-(mD z)) (eD z 0)=0)=true:=Ao.2 Afg
 have eR:toNat ((R:Int)-0)=R:=by rw [Int.sub_zero,Au9]
 rw [Bb.Bh.Cc,Av,Au8 (show (0:Int)<1 by decide),Au7,k1,Au7,k2,Au7,k3,Au7,k4,Au7,eR,k5,Au7]
 have tr:Cf True=true:=Ao.2 trivial
 simp only [d1,d2,d3,Fl,Ace,o1,p2,g,z1,z2,z3,z4,tr,and_self,Avd,Au7]
theorem Ai5 (N M0 M:Nat) {i:Nat} (hi:i<R):Bb.Bh.L2 N M0 (M+1) (R:Int) 1 l (R:Int) (R:Int) m (R:Int) 1 h 0 (i:Int)=Bb.Bh.L2 N M0 M (R:Int) 1 l (R:Int) (R:Int) m (R:Int) 1 h 1 (i:Int):=by
 obtain ⟨k1,k2,k3,k4,k5,z,d1,d2,d3,d4⟩:=Xb r6 hl hm hh sl sm sh hz hi
 obtain ⟨z1,z2,z3,z4,z5,z6,z7⟩:=Aeb
 obtain ⟨p1,p2⟩:=Rr (z:=z) (by omega)
 have o1:Je (Ar (mD z)) (Ac (mD z))=true:=Mv (by omega)
 have g:Cf (Hm (mD z) (eD z 0) (-(mD z)) (eD z 0)=0∧K6 (mD z) (eD z 0) (-(mD z)) (eD z 0)=0)=true:=Ao.2 Afg
 have eR:toNat ((R:Int)-0)=R:=by rw [Int.sub_zero,Au9]
 rw [Bb.Bh.E1,Av,Au8 (show (0:Int)<1 by decide),Au7,k1,Au7,k2,Au7,k3,Au7,k4,Au7,eR,k5,Au7]
 have tr:Cf True=true:=Ao.2 trivial
 simp only [d1,d2,d3,Fl,o1,p2,g,z1,z2,z4,tr,and_self,Avd,Au7]
 rw [show Ab (0+(1:Int))=1 from Al (by decide) (by decide)]
omit hl hm hh sl sm sh hz in
theorem Aes (N M0 M:Nat) {i:Nat} (hi:i<R):Bb.Bh.L2 N M0 (M+1) (R:Int) 1 l (R:Int) (R:Int) m (R:Int) 1 h 1 (i:Int)=Bb.Bh.L3 N M0 (R:Int) 1 l (R:Int) (R:Int) m (R:Int) 1 h ((i+1:Nat):Int):=by
 rw [Bb.Bh.E1,Av,Avc (show ¬ (1:Int)<1 by decide),Avb,Al (by omega) (by omega)]
 rfl
theorem Ai6 (N:Nat):∀ (k i F:Nat),i+k=R→k<F→Bb.Bh.L3 (N+2) F (R:Int) 1 l (R:Int) (R:Int) m (R:Int) 1 h (i:Int)=some (.agg [.bool (Ar 0),.ints .arg .u32 (Ac 0),.int .i64 0]):=by
 intro k
 induction k with
 | zero =>
   intro i F hi hF
   obtain ⟨F,rfl⟩:∃ G,F=G+1:=⟨F-1,by omega⟩
   rw [Bb.Bh.Pf,Av,Avc (by omega),Avb]
 | succ k ih =>
   intro i F hi hF
   obtain ⟨F,rfl⟩:∃ G,F=G+1:=⟨F-1,by omega⟩
   rw [Bb.Bh.Pf,Av,Au8 (by omega),Au7,Ai5 r6 hl hm hh sl sm sh hz (N+2) F (N+1) (by omega),Aes r6 (N+2) F N (by omega)]
   exact ih (i+1) F (by omega) (by omega)
theorem Am2 (N F:Nat) (hF:R<F):∃ dv,Bb.Bh.L0 (N+2) F (R:Int) 1 l (R:Int) (R:Int) m (R:Int) 1 h 0=some dv∧Wk [] dv (.agg [.bool (Ar 0),.ints .arg .u32 (Ac 0),.int .i64 0]):=by
 obtain ⟨F,rfl⟩:∃ G,F=G+1:=⟨F-1,by omega⟩
 by_cases h0:R=0
 ·refine ⟨.agg [.bool false,.nil,.int .i64 0],?_,?_⟩
  ·rw [Bb.Bh.Ax,Av,Avc (by omega),Avb]
  ·rw [Aay,Sr]
   exact Wk.G0 (.cons .bool (.cons (.nil _ _) (.cons .int .nil)))
 ·refine ⟨_,?_,Wk.G0 (.cons .bool (.cons .Ww (.cons .int .nil)))⟩
  rw [Bb.Bh.Ax,Av,Au8 (by omega),Au7]
  exact (Agg r6 hl hm hh sl sm sh hz (N+2) F (N+1) (i:=0) (by omega)).trans ((Aes r6 (N+2) F N (i:=0) (by omega)).trans (Ai6 r6 hl hm hh sl sm sh hz N (R-1) 1 F (by omega) (by omega)))
end
theorem Bb.Bh.known:Bb.Bh.Kn:=Bb.Bh.Ae (.cons Aq.Add.zero.known (.cons Aq.Mul.zero.known (.cons Aq.Sub.zero.known (.cons A4.Value.known (.cons Ak.At.known (.cons Ak.Nr.known (.cons Ak.Row.known (.cons Bb.Fs.known .nil)))))))) fun r c l p q m u v h hp=>by
 obtain ⟨h1,h2⟩:=Ag.1 (show (((Bj r c l&&Bj p q m)&&Bj u v h)&&Cf (c=1∧p=r∧q=r∧u=r∧v=1∧(∀ z∈l,Sm 99 z)∧(∀ z∈m,Sm 3 z)∧(∀ z∈h,Sm 134217728 z)∧∀ i:Nat,i<r.toNat→zI (Cv 1 l (i:Int) 0)=Dv (Dh q m (i:Int)) (Cb 1 h 0 0 r.toNat)))=true from hp)
 obtain ⟨h3,hh⟩:=Ag.1 h1
 obtain ⟨hl,hm⟩:=Ag.1 h3
 obtain ⟨rfl,rfl,rfl,rfl,rfl,sl,sm,sh,hz⟩:=Ao.1 h2
 obtain ⟨R,C,rfl,eC,r6,_,ll⟩:=Dc hl
 obtain rfl:C=1:=by omega
 obtain ⟨P,Q,eP,eQ,_,_,lm⟩:=Dc hm
 obtain rfl:P=R:=by omega
 obtain rfl:Q=P:=by omega
 obtain ⟨U,V,eU,eV,_,_,lh⟩:=Dc hh
 obtain rfl:U=Q:=by omega
 obtain rfl:V=1:=by omega
 rw [Au9] at hz
 obtain ⟨dv,e,w⟩:=Am2 r6 ll lm lh sl sm sh hz 6 8 (by omega)
 exact ⟨8,dv,[],(Bb.Bh.ev 8 _ _ _ _ _ _ _ _ _).trans e,w⟩
open Go Go.Den Go.C4 Go.Proofs
open EqLaw17X
structure Up (K:Nat) (p:List Int):Prop where
 len:p.length=K*K
 small:∀ z∈p,Sm 3 z
 one:∀ a:Nat,a<K→Cv (K:Int) p (a:Int) (a:Int)=Wo
 zero:∀ a b:Nat,a<K→b<a→Cv (K:Int) p (a:Int) (b:Int)=0
theorem Ajd {K a b i k:Nat} (hb:b<K) (hk:k<K) (h:a*K+b=i*K+k):a=i∧b=k:=by
 obtain ⟨h1,h2⟩:=Lz (i:=a) hb
 obtain ⟨h3,h4⟩:=Lz (i:=i) hk
 rw [h] at h1 h2
 exact ⟨h1.symm.trans h3,h2.symm.trans h4⟩
theorem Mo {b:Nat} {l:List Int} (h:∀ z∈l,Sm b z):Ap l=true:=Ao.2 fun z hz=>(h z hz).1.word
theorem R8 {b:Nat} {l:List Int} (h:∀ z∈l,Sm b z):Fg l=true:=List.all_eq_true.2 fun z hz=>(h z hz).1.fw
theorem Ape {K:Nat}:Up K (Jv K):=by
 have g:∀ a b:Nat,a<K→b<K→Cv (K:Int) (Jv K) (a:Int) (b:Int)=Ln (a:Int) (b:Int):=fun a b ha hb=>Ud ha hb
 refine ⟨B6 _ _ _,fun z hz=>?_,fun a ha=>?_,fun a b ha hb=>?_⟩
 ·unfold Jv Cj at hz
  obtain ⟨j,_,rfl⟩:=List.mem_map.1 hz
  dsimp only
  unfold Ln
  split
  ·exact .of Ajg (by decide)
  ·exact .of Wh.zero (by decide)
 ·rw [g a a ha ha]; exact Avu rfl
 ·rw [g a b ha (by omega)]; exact Avt (by omega)
theorem Up.set {K i k:Nat} {p:List Int} (h:Up K p) (hik:i<k) (hk:k<K) {w:Int} (hw:Sm 3 w):Up K (p.set (i*K+k) w):=by
 have other:∀ a b:Nat,b<K→¬ (a=i∧b=k)→Cv (K:Int) (p.set (i*K+k) w) (a:Int) (b:Int)=Cv (K:Int) p (a:Int) (b:Int):=fun a b hb hn=>by
  rw [Ii,Ii,Avh,Avh,List.getElem?_set_ne (fun e=>hn (Ajd hb hk e.symm))]
 refine ⟨by rw [List.length_set]; exact h.len,fun z hz=>?_,fun a ha=>?_,fun a b ha hb=>?_⟩
 ·rcases List.mem_or_eq_of_mem_set hz with hz | rfl
  ·exact h.small z hz
  ·exact hw
 ·rw [other a a ha (by omega)]; exact h.one a ha
 ·rw [other a b (by omega) (by omega)]; exact h.zero a b ha hb
theorem Z7 {b:Nat} {v:Int} (h:v.natAbs≤b) (hb:b≤1000):Sm b (Uk v):=by
 have:=Wy (decide (v<0)) (V:=v.natAbs) (by omega)
 rw [Aep] at this
 exact .of this h
theorem Aaa (a:Int) {b:Nat} (hb:0<b):(Int.tmod a (b:Int)).natAbs≤b-1:=by
 have h1:=Int.tmod_lt_of_pos a (show (0:Int)<(b:Int) by omega)
 have h2:=Int.lt_tmod_of_pos a (show (0:Int)<(b:Int) by omega)
 omega
section
variable {K:Nat} {n:Int} {x y:List Int} (h6:K≤6) (hK:Ab (Int.tmod n 7)=(K:Int))
include h6 hK
theorem Abv (N M0:Nat) {i:Nat} (hi:i<K):∀ (d j M:Nat) (p:List Int),j+d=K→i<j→d<M→Up K p→∃ p',Up K p'∧Bi.A0.L1 N M0 M n x y (j:Int) p (i:Int)=Bi.A0.L0 N M0 n x y ((i+1:Nat):Int) p':=by
 intro d
 induction d with
 | zero =>
   intro j M p hj hij hM hp
   obtain ⟨M,rfl⟩:∃ G,M=G+1:=⟨M-1,by omega⟩
   refine ⟨p,hp,?_⟩
   rw [Bi.A0.Cc,hK,Av,Avc (by omega),Avb,Al (by omega) (by omega)]
   rfl
 | succ d ih =>
   intro j M p hj hij hM hp
   obtain ⟨M,rfl⟩:∃ G,M=G+1:=⟨M-1,by omega⟩
   have hpl:=Gq hi (show j<K by omega)
   have h36:=Av3 h6 h6
   have e0:Ab ((Ab ((i:Int)*(K:Int)))+(j:Int))=((i*K+j:Nat):Int):=by
    have e00:Ab ((i*K:Nat):Int)=((i*K:Nat):Int):=Al (by omega) (by omega)
    rw [← Avs,e00,Al (by omega) (by omega)]; rfl
   have e1:(j:Int)+1=((j+1:Nat):Int):=by omega
   rw [Bi.A0.Cc,hK,Av,Au8 (show (j:Int)<(K:Int) by omega),Au7,e0,Av,Al (x:=(j:Int)+1) (by omega) (by omega),e1]
   by_cases hx:i*K+j<x.length
   ·have t:=Aaa (Ab (x.getD (i*K+j) 0)) (b:=4) (by decide)
    have t:(Int.tmod (Ab (x.getD (i*K+j) 0)) 4).natAbs≤3:=t
    have g1:decide (((i*K+j:Nat):Int)<(x.length:Int))=true:=Au8 (by omega)
    have g2:decide ((0:Int)≤((i*K+j:Nat):Int))=true:=Au8 (by omega)
    have g3:Cf (-1000≤Int.tmod (Ab (x.getD (i*K+j) 0)) 4∧Int.tmod (Ab (x.getD (i*K+j) 0)) 4≤1000)=true:=Ao.2 (by omega)
    have g4:decide (((i*K+j:Nat):Int)<(p.length:Int))=true:=Au8 (by have:=hp.len; omega)
    have g5:decide (i*K+j<p.length)=true:=Au8 (by have:=hp.len; omega)
    rw [g1,Au7,g2,Avd,Au7,Au9,g3,Au7,g4,Avd,Au7,g5,Au7]
    exact ih (j+1) M _ (by omega) (by omega) (by omega) (hp.set hij (by omega) (Z7 t (by decide)))
   ·rw [Avc (show ¬ ((i*K+j:Nat):Int)<(x.length:Int) by omega),Avb]
    exact ih (j+1) M p (by omega) (by omega) (by omega) hp
theorem Abu (N:Nat) (hN:K<N):∀ (d i M:Nat) (p:List Int),i+d=K→d<M→Up K p→∃ p',Up K p'∧Bi.A0.L0 N M n x y (i:Int) p=Bi.A0.L2 N N n y 0 (Cj K 1 fun _ _=>0) p':=by
 intro d
 induction d with
 | zero =>
   intro i M p hi hM hp
   obtain ⟨M,rfl⟩:∃ G,M=G+1:=⟨M-1,by omega⟩
   refine ⟨p,hp,?_⟩
   rw [Bi.A0.Ax,hK,Av,Avc (by omega),Avb,O0 h6,show Bn 1=true from O0 (n:=1) (by decide),Avd,Au7,Au9]
   rfl
 | succ d ih =>
   intro i M p hi hM hp
   obtain ⟨M,rfl⟩:∃ G,M=G+1:=⟨M-1,by omega⟩
   have e1:(i:Int)+1=((i+1:Nat):Int):=by omega
   rw [Bi.A0.Ax,hK,Av,Au8 (by omega),Au7,Al (by omega) (by omega),e1]
   obtain ⟨p1,hp1,q1⟩:=Abv (x:=x) (y:=y) h6 hK N M (i:=i) (by omega) (K-(i+1)) (i+1) N p (by omega) (by omega) (by omega) hp
   obtain ⟨p2,hp2,q2⟩:=ih (i+1) M p1 (by omega) (by omega) hp1
   exact ⟨p2,hp2,q1.trans q2⟩
end
theorem Ab0 {K:Nat} {f:Nat→Nat→Int} {X:List Int} (hX:X.length=K) (hf:∀ i,i<K→f i 0=X.getD i 0):Cj K 1 f=X:=by
 refine List.ext_getElem? fun j=>?_
 by_cases hj:j<K
 ·have h1:=Abi (r:=K) (c:=1) (i:=j) (k:=0) (f:=f) hj (by decide)
  rw [Awg,Awf,Avh] at h1
  have hl:j<(Cj K 1 f).length:=by rw [B6]; omega
  rw [Avo hl] at h1 ⊢
  have h2:=hf j hj
  rw [Avh,Avo (by omega)] at h2
  rw [Avo (by omega)]
  exact congrArg some (h1.trans h2)
 ·rw [Awp (by rw [B6]; omega),Awp (by omega)]
theorem Aeq {K:Nat} {X:List Int} (hX:X.length=K):Cb 1 X 0 0 K=X:=by
 refine List.ext_getElem? fun j=>?_
 unfold Cb
 by_cases hj:j<K
 ·have e:Cv 1 X (0+(j:Int)) 0=X.getD (j*1+0) 0:=by rw [Int.zero_add]; exact Ii 1 X j 0
  rw [Awo,List.getElem?_range hj,Option.map_some,e,Awg,Awf,Avh,Avo (by omega)]
  rfl
 ·rw [Awp (by rw [Awd,Awa]; omega),Awp (by omega)]
theorem Aji {K:Nat} {p:List Int} (h:∀ a:Nat,a<K→Cv (K:Int) p (a:Int) (a:Int)=Wo):Y1 (K:Int) p K=false:=by
 unfold Y1
 refine List.any_eq_false.2 fun i hi=>?_
 rw [h i (List.mem_range.1 hi)]
 decide
theorem p27 {K:Nat} (h:K≤6):2^(3+4*K)≤134217728:=Awe (Avm (by decide) (show 3+4*K≤27 by omega)) (by decide)
section
variable {K:Nat} {p s:List Int} (h6:K≤6) (hl:p.length=K*K) (hs:s.length=K) (sp:∀ z∈p,Sm 3 z) (ss:∀ z∈s,Sm 99 z) (one:∀ a:Nat,a<K→Cv (K:Int) p (a:Int) (a:Int)=Wo)
include h6 hl hs sp ss one
theorem Ae0:Ah2 K p fun i=>Cv 1 s (i:Int) ((0:Nat):Int):=by
 refine ⟨h6,fun i k hi hk=>?_,one,fun i hi=>?_⟩
 ·rw [Ii]
  exact Kv sp (by have:=Gq hi hk; omega)
 ·have e:Cv 1 s (i:Int) ((0:Nat):Int)=s.getD (i*1+0) 0:=Ii 1 s i 0
  show Sm 99 (Cv 1 s (i:Int) ((0:Nat):Int))
  rw [e]
  exact Kv ss (by omega)
theorem Ab1:Om (K:Int) (K:Int) p (K:Int) 1 s=0:=by
 unfold Om
 rw [Avt (fun k=>k (Zq (E8 h6 h6 hl) (R8 sp))),Avt (fun k=>k (Zq (E8 (c:=1) h6 (by decide) (by omega)) (R8 ss))),Avt (by omega),Au9,Aji one]
 rfl
theorem Amb (hz:∀ a b:Nat,a<K→b<a→Cv (K:Int) p (a:Int) (b:Int)=0):∃ X,Wj (K:Int) (K:Int) p (K:Int) 1 s=((K:Int),1,X,0)∧Ap X=true∧Bt (K:Int) 1 X=0∧N2 (K:Int) 1 s (K:Int) (K:Int) p (K:Int) 1 X=true:=by
 have o:=Ae0 h6 hl hs sp ss one
 have hlen:=Hi (K:Int) p (fun i=>Cv 1 s (i:Int) ((0:Nat):Int)) K K
 have sm:∀ z∈Rz (K:Int) p (fun i=>Cv 1 s (i:Int) ((0:Nat):Int)) K K,Sm 134217728 z:=fun z hz=>(Aib o K (Av1 K) z hz).mono (p27 h6)
 have ex:=fun (i:Nat) (hi:i<K)=>Aid o hz hi
 have eU:upG (K:Int) p 1 s K 1=Rz (K:Int) p (fun i=>Cv 1 s (i:Int) ((0:Nat):Int)) K K:=Ab0 hlen fun i hi=>rfl
 generalize Rz (K:Int) p (fun i=>Cv 1 s (i:Int) ((0:Nat):Int)) K K=X at hlen sm ex eU
 have rX:Bj (K:Int) 1 X=true:=E8 (c:=1) h6 (by decide) (by omega)
 refine ⟨X,?_,Mo sm,Zq rX (R8 sm),?_⟩
 ·unfold Wj
  rw [Avt (fun k=>k (Ab1 h6 hl hs sp ss one)),Au9,show toNat 1=1 from rfl,eU]
  unfold Kc
  rw [Avu (R8 sm)]
 ·unfold N2
  rw [show Bj (K:Int) 1 s=true from E8 (c:=1) h6 (by decide) (by omega),E8 h6 h6 hl,rX,Avd,Avd,Awk,Au9]
  refine Ao.2 ⟨rfl,rfl,rfl,rfl,rfl,ss,sp,sm,fun i hi=>?_⟩
  rw [Aeq hlen,U0 hl hi]
  exact (ex i hi).symm
theorem Anl (hz:∀ a b:Nat,a<b→b<K→Cv (K:Int) p (a:Int) (b:Int)=0):∃ X,loX (K:Int) (K:Int) p (K:Int) 1 s=((K:Int),1,X,0)∧Ap X=true∧Bt (K:Int) 1 X=0∧N2 (K:Int) 1 s (K:Int) (K:Int) p (K:Int) 1 X=true:=by
 have o:=Ae0 h6 hl hs sp ss one
 have hlen:=Fc (K:Int) p (fun i=>Cv 1 s (i:Int) ((0:Nat):Int)) K
 have sm:∀ z∈R0 (K:Int) p (fun i=>Cv 1 s (i:Int) ((0:Nat):Int)) K,Sm 134217728 z:=fun z hz=>(Aj5 o K (Av1 K) z hz).mono (p27 h6)
 have ex:=fun (i:Nat) (hi:i<K)=>Aj7 o hz hi
 have eU:loG (K:Int) p 1 s K 1=R0 (K:Int) p (fun i=>Cv 1 s (i:Int) ((0:Nat):Int)) K:=Ab0 hlen fun i hi=>rfl
 generalize R0 (K:Int) p (fun i=>Cv 1 s (i:Int) ((0:Nat):Int)) K=X at hlen sm ex eU
 have rX:Bj (K:Int) 1 X=true:=E8 (c:=1) h6 (by decide) (by omega)
 refine ⟨X,?_,Mo sm,Zq rX (R8 sm),?_⟩
 ·unfold loX
  rw [Avt (fun k=>k (Ab1 h6 hl hs sp ss one)),Au9,show toNat 1=1 from rfl,eU]
  unfold Kc
  rw [Avu (R8 sm)]
 ·unfold N2
  rw [show Bj (K:Int) 1 s=true from E8 (c:=1) h6 (by decide) (by omega),E8 h6 h6 hl,rX,Avd,Avd,Awk,Au9]
  refine Ao.2 ⟨rfl,rfl,rfl,rfl,rfl,ss,sp,sm,fun i hi=>?_⟩
  rw [Aeq hlen,U0 hl hi]
  exact (ex i hi).symm
end
theorem Xy {K:Nat} {p s:List Int} (N:Nat) (h6:K≤6) (hp:Up K p) (hs:s.length=K) (ss:∀ z∈s,Sm 99 z) :
 Bi.A0.C16 N (Wj (K:Int) (K:Int) p (K:Int) 1 s).2.2.2 (Wj (K:Int) (K:Int) p (K:Int) 1 s).1 (Wj (K:Int) (K:Int) p (K:Int) 1 s).2.1 (Wj (K:Int) (K:Int) p (K:Int) 1 s).2.2.1 (K:Int) (K:Int) (K:Int) s p=some (.bool true):=by
 obtain ⟨X,x1,x2,x3,x4⟩:=Amb h6 hp.len hs hp.small ss hp.one hp.zero
 have t1:∀ a b:Nat,a<K→b<K→Cv (K:Int) (Cj K K fun j1 j2=>Cv (K:Int) p (j2:Int) (j1:Int)) (a:Int) (b:Int)=Cv (K:Int) p (b:Int) (a:Int):=fun a b ha hb=>Ud ha hb
 have tl:(Cj K K fun j1 j2=>Cv (K:Int) p (j2:Int) (j1:Int)).length=K*K:=B6 _ _ _
 have tp:∀ z∈Cj K K fun j1 j2=>Cv (K:Int) p (j2:Int) (j1:Int),Sm 3 z:=fun z hz=>by
  unfold Cj at hz
  obtain ⟨j,hj,rfl⟩:=List.mem_map.1 hz
  have hj:=List.mem_range.1 hj
  have hK:0<K:=Nat.pos_of_ne_zero fun h=>by rw [h] at hj; omega
  have h1:j / K<K:=Nat.div_lt_of_lt_mul hj
  have h2:=Nat.mod_lt j hK
  show Sm 3 (Cv (K:Int) p ((j%K:Nat):Int) ((j / K:Nat):Int))
  rw [Ii]
  exact Kv hp.small (by have:=Gq h2 h1; have:=hp.len; omega)
 obtain ⟨Y,y1,y2,y3,y4⟩:=Anl h6 tl hs tp ss (fun a ha=>by rw [t1 a a ha ha]; exact hp.one a ha) (fun a b hab hb=>by rw [t1 a b (by omega) hb]; exact hp.zero b a hb hab)
 have ap:Ap p=true:=Mo hp.small
 have aS:Ap s=true:=Mo ss
 rw [x1]
 dsimp only
 rw [Bi.A0.Aea,E8 h6 h6 hp.len,Au7,Au9,Bi.A0.Aq0,Mo tp,aS,Avd,Au7,y1]
 dsimp only
 have c0:((0:Int) !=0)=false:=rfl
 have c1:((1:Int) !=1)=false:=rfl
 have c2:((K:Int) !=(K:Int))=false:=by simp
 rw [Bi.A0.Ad9,x2,y2,x3,y3,c0,c1,c2,x4,y4]
 simp only [Awj,Bool.or_self,Au7,Avb,Sr,Bool.and_true]
 rfl
theorem Af6 {K:Nat} {n:Int} {y p:List Int} (N:Nat) (h6:K≤6) (hK:Ab (Int.tmod n 7)=(K:Int)) (hp:Up K p):∀ (d j M:Nat) (s:List Int),j+d=K→d<M→s.length=K→(∀ z∈s,Sm 99 z) →
 Bi.A0.L2 N M n y (j:Int) s p=some (.bool true):=by
 intro d
 induction d with
 | zero =>
   intro j M s hj hM hs ss
   obtain ⟨M,rfl⟩:∃ G,M=G+1:=⟨M-1,by omega⟩
   rw [Bi.A0.E1,Av,Avc (show ¬ (j:Int)<(s.length:Int) by omega),Bool.false_and,Avb,Mo hp.small,Mo ss,Avd,Au7,hK]
   exact Xy N h6 hp hs ss
 | succ d ih =>
   intro j M s hj hM hs ss
   obtain ⟨M,rfl⟩:∃ G,M=G+1:=⟨M-1,by omega⟩
   have e1:(j:Int)+1=((j+1:Nat):Int):=by omega
   rw [Bi.A0.E1,Av,Au8 (show (j:Int)<(s.length:Int) by omega),Awk,Av]
   by_cases hy:j<y.length
   ·have t:=Aaa (Ab (y.getD j 0)) (b:=100) (by decide)
    have t:(Int.tmod (Ab (y.getD j 0)) 100).natAbs≤99:=t
    have g1:decide ((j:Int)<(y.length:Int))=true:=Au8 (by omega)
    have g2:decide ((0:Int)≤(j:Int))=true:=Au8 (by omega)
    have g3:Cf (-1000≤Int.tmod (Ab (y.getD j 0)) 100∧Int.tmod (Ab (y.getD j 0)) 100≤1000)=true:=Ao.2 (by omega)
    have g4:decide ((j:Int)<(s.length:Int))=true:=Au8 (by omega)
    have g5:decide (j<s.length)=true:=Au8 (by omega)
    rw [g1,Au7,g2,Avd,Au7,Au9,g3,Au7,Au7,g5,Au7,Al (by omega) (by omega),e1]
    refine ih (j+1) M _ (by omega) (by omega) (by rw [List.length_set]; exact hs) fun z hz=>?_
    rcases List.mem_or_eq_of_mem_set hz with hz | rfl
    ·exact ss z hz
    ·exact Z7 t (by decide)
   ·rw [Avc (show ¬ (j:Int)<(y.length:Int) by omega),Avb,Mo hp.small,Mo ss,Avd,Au7,hK]
    exact Xy N h6 hp hs ss
theorem Bi.A0.known:Bi.A0.Kn:=Bi.A0.Ae (.cons Bi.Fu.known (.cons Bi.whole.known (.cons Ak.D8.own.known (.cons Ak.B7.known (.cons Ak.Bc.own.known (.cons Bb.Check.known (.cons Bb.Bh.known (.cons solve.F8.known (.cons solve.Fo.known .nil))))))))) fun n x y hp=>by
 have hn:=Ao.1 (show Cf (0≤n∧n≤255)=true from hp)
 obtain ⟨m,rfl⟩:∃ m:Nat,n=m:=⟨n.toNat,by omega⟩
 have hK:Ab (Int.tmod (m:Int) 7)=((m%7:Nat):Int):=by
  have e:Int.tmod (m:Int) 7=((m%7:Nat):Int):=by rw [Int.tmod_eq_emod_of_nonneg (by omega)]; omega
  rw [e,Al (by omega) (by omega)]
 have h6:m%7≤6:=by omega
 obtain ⟨p,hp,q⟩:=Abu (x:=x) (y:=y) h6 hK 8 (by omega) (m%7) 0 8 (Jv (m%7)) (by omega) (by omega) Ape
 have r:=Af6 (y:=y) (n:=(m:Int)) 8 h6 hK hp (m%7) 0 8 (Cj (m%7) 1 fun _ _=>0) (by omega) (by omega) (by rw [B6,Awg]) (fun z hz=>by
  unfold Cj at hz
  obtain ⟨_,_,rfl⟩:=List.mem_map.1 hz
  exact .of Wh.zero (by decide))
 refine ⟨8,.bool true,[],?_,.bool⟩
 rw [Bi.A0.ev,hK,O0 h6,Au7,Au9]
 exact q.trans r
end Go.Proofs.S1
end
