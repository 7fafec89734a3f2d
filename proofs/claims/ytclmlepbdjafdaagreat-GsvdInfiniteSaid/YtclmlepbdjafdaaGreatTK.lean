/- A verified evaluator of the program's form and its use for this seat: S1EqGsv, S1EqLaw23, S1PGsv, S1PGsvA. -/
import Derived.Test.YtclmlepbdjafdaaGreatTE
import Derived.Test.YtclmlepbdjafdaaGreatTF
import Derived.Test.YtclmlepbdjafdaaGreatTI
import Derived.Test.YtclmlepbdjafdaaGreatTJ
set_option linter.unusedVariables false
set_option linter.unusedSimpArgs false
noncomputable section
open Int (toNat)
open List (length getD)
open Go.Proofs.Tryz
namespace Go.Proofs.S1
open Go Go.Den Go.Rnd Go.Proofs
set_option maxRecDepth 100000
namespace EqGsv
def Cc.Check.hint:Nat→Option Bc
 | 0=>some { keep:=[2,3,10,11],objs:=[],boxes:=[2,3] }
 | _=>none
def Cc.Check.Bh:List (Nat × Entry):=[(51,Cd.Check.spec)]
def Cc.Check.E:Env:=Bi (Bg Cc.Check.Bh) (fun _=>false) Cc.Check.hint (fun _=>none)
theorem Cc.Check.ev (N:Nat) (r c:Int) (l:List Int) (p q:Int) (m:List Int):Bw Cc.Check.E (N+3) f22 (Aq f22) [.agg [.int .i64 r,.int .i64 c,.ints .arg .u64 l],.agg [.int .i64 p,.int .i64 q,.ints .arg .u64 m]]=bif (A1 l) then bif ((Et r c l) !=(0:Int)) then some (.int .i64 (Et r c l)) else bif (A1 m) then bif ((Et p q m) !=(0:Int)) then some (.int .i64 (Et p q m)) else bif ((((c !=q)||(A3 c 1))||(A3 (Ab (r+p)) c))||(A3 6 (Ab (r+p)))) then some (.int .i64 3) else some (.int .i64 0) else none else none :=
 Eq.trans (by kernel_rfl)
 (Eu (Eu rfl (Eu (Eu rfl (Aw (Kl (c !=q)) (Aw (I9 (c !=q)) (Aw (I9 (c !=q)) (Aw (Mt (c !=q)) (Aw (Abe (c !=q) (A3 c 1)) (Aw (Ad7 (c !=q) (A3 c 1)) (Aw (Abe (c !=q) (A3 c 1)) (Aw (Ad7 (c !=q) (A3 c 1)) (Aw (Abe (c !=q) (A3 c 1)) (Aw (Ad7 (c !=q) (A3 c 1)) (Aw (Aju (c !=q) (A3 c 1)) (Aw (Aju (c !=q) (A3 c 1)) (Aw (Ams (c !=q) (A3 c 1)) (Aw (Ajv (c !=q) (A3 c 1) (A3 (Ab (r+p)) c)) (Aw (Agk (c !=q) (A3 c 1) (A3 (Ab (r+p)) c)) (Aw (Ajv (c !=q) (A3 c 1) (A3 (Ab (r+p)) c)) (Aw (Agk (c !=q) (A3 c 1) (A3 (Ab (r+p)) c)) (Aw (Aq0 (c !=q) (A3 c 1) (A3 (Ab (r+p)) c)) (Aw (Agk (c !=q) (A3 c 1) (A3 (Ab (r+p)) c)) (Aw (Amt (c !=q) (A3 c 1) (A3 (Ab (r+p)) c)) (Df (Aq1 (c !=q) (A3 c 1) (A3 (Ab (r+p)) c) (A3 6 (Ab (r+p)))) rfl rfl)))))))))))))))))))))) rfl)) rfl)
abbrev _root_.Go.Proofs.S1.Cc.Check.Kn:=A6 prog 22 Cc.Check.spec
theorem Cc.Check.Ad (hk:Ay prog Cc.Check.Bh) (h:Hyp Cc.Check.E f22 Cc.Check.ts Cc.Check.pre Cc.Check.out):Cc.Check.Kn :=
 Am (A2 hk _ _ _) func22 (by kernel_rfl) (by kernel_rfl) h
def Cc.Dh.hint:Nat→Option Bc
 | 0=>some { keep:=[4,19,21,100,101],objs:=[(22,13,122013,.ints 32 .u64 [])],boxes:=[4,19,21] }
 | _=>none
def Cc.Dh.Bh:List (Nat × Entry):=[(22,Cc.Check.spec),(30,Aa.Cr.spec),(27,Aa.Mul.one.spec),(25,Aa.Part.one.spec),(23,Aa.Stack.one.spec),(24,qr.E7.one.spec),(26,Cf.Cp.spec),(28,Ac.Finite.spec),(29,Ac.Norm.spec)]
def Cc.Dh.E:Env:=Bi (Bg Cc.Dh.Bh) (fun _=>false) Cc.Dh.hint (fun _=>none)
section
variable (N:Nat) (r:Int) (M:Nat) (c:Int) (l:List Int) (p q:Int) (m:List Int) (p101:Int) (p13:List Int)
def Cc.Dh.L0:Option DV:=B3 Cc.Dh.E N f11 (Aq f11) [1,1,1,1,1,1,1,1,1,1,1,1,1,1,0,1,0] [] M ⟨G8 119 [(4,.ptr 4 0 0),(19,.ptr 19 0 0),(21,.ptr 21 0 0),(100,.int .i64 c),(101,.int .i64 p101)],[(4,false,.box [.int .i64 0,.int .i64 0,.nil,.int .i64 0,.int .i64 0,.nil,.int .i64 0,.int .i64 0,.nil,.int .i64 0,.int .i64 0,.nil,.nil,.nil]),(19,false,.box [.int .i64 1,.int .i64 1,.ints .fresh .u64 ([(0:Int)])]),(21,false,.box [.int .i64 1,.int .i64 1,.ints .fresh .u64 ([(4607182418800017408:Int)]),.int .i64 1,.int .i64 1,.ints .fresh .u64 ([(0:Int)]),.int .i64 1,.int .i64 1,.ints .fresh .u64 ([(4607182418800017408:Int)]),.int .i64 1,.int .i64 1,.ints .fresh .u64 ([(4607182418800017408:Int)]),.ints .fresh .u64 ([(4607182418800017408:Int)]),.oref 122013]),(122013,false,.ints 32 .u64 p13)]⟩
theorem Cc.Dh.Au:Cc.Dh.L0 N (M+1) c p101 p13=bif (A3 p101 c) then bif (Gl 1 1 ([(0:Int)]) p101&&Br (0≤(0:Int)∧(0:Int)≤(1:Int))) then bif (Cj (C6 1 ([(0:Int)]) p101 0 (toNat ((1:Int)-0)))&&Br (length (C6 1 ([(0:Int)]) p101 0 (toNat ((1:Int)-0)))≤64)) then bif (decide ((length p13)+1≤Gy)) then Cc.Dh.L0 N M c (Ab (p101+1)) (p13++[(Db (C6 1 ([(0:Int)]) p101 0 (toNat ((1:Int)-0))))]) else none else none else none else some (.tup [.agg [.int .i64 1,.int .i64 1,.ints .fresh .u64 ([(4607182418800017408:Int)]),.int .i64 1,.int .i64 1,.ints .fresh .u64 ([(0:Int)]),.int .i64 1,.int .i64 1,.ints .fresh .u64 ([(4607182418800017408:Int)]),.int .i64 1,.int .i64 1,.ints .fresh .u64 ([(4607182418800017408:Int)]),.ints .fresh .u64 ([(4607182418800017408:Int)]),.ints (.own 122013 32) .u64 p13],.int .i64 0]):=by kernel_rfl
theorem Cc.Dh.ev:Bw Cc.Dh.E N f11 (Aq f11) [.agg [.int .i64 r,.int .i64 c,.ints .arg .u64 l],.agg [.int .i64 p,.int .i64 q,.ints .arg .u64 m]]=bif ((A1 l&&A1 m)&&Br (Bo r c l=true∧Bo p q m=true∧D2 l=true∧D2 m=true∧c=1∧q=1∧1≤r+p∧r+p≤6)) then bif (Br (r=1∧c=1∧l=[(4607182418800017408:Int)]∧p=1∧q=1∧m=[(0:Int)])) then bif (Br ((2:Int)=2∧(1:Int)=1∧([(4607182418800017408:Int),(0:Int)])=[(4607182418800017408:Int),(0:Int)])) then bif (Br ((2:Int)=2∧(1:Int)=1∧([(4607182418800017408:Int),(0:Int)])=[(4607182418800017408:Int),(0:Int)]∧((0:Int)=0∨(0:Int)=1)∧(0:Int)=0∧r=1∧c=1)) then bif (Br ((2:Int)=2∧(1:Int)=1∧([(4607182418800017408:Int),(0:Int)])=[(4607182418800017408:Int),(0:Int)]∧(r=0∨r=1)∧(0:Int)=0∧p=1∧c=1)) then bif (Br ((1:Int)=1∧(1:Int)=1∧([Aet (0:Int)])=[(4607182418800017408:Int)])) then bif (Br ((1:Int)=1∧(1:Int)=1∧([Aet r])=[(0:Int)]∧(1:Int)=1∧(1:Int)=1∧([(4607182418800017408:Int)])=[(4607182418800017408:Int)])) then bif (Cj ([(0:Int)])) then bif (!(D2 ([(0:Int)]))) then some (.tup [.agg [.int .i64 0,.int .i64 0,.nil,.int .i64 0,.int .i64 0,.nil,.int .i64 0,.int .i64 0,.nil,.int .i64 0,.int .i64 0,.nil,.nil,.nil],.int .i64 2]) else Cc.Dh.L0 N N c 0 [] else none else none else none else none else none else none else none else none:=by kernel_rfl
end
abbrev _root_.Go.Proofs.S1.Cc.Dh.Kn:=A6 prog 11 Cc.Dh.spec
theorem Cc.Dh.Ad (hk:Ay prog Cc.Dh.Bh) (h:Hyp Cc.Dh.E f11 Cc.Dh.ts Cc.Dh.pre Cc.Dh.out):Cc.Dh.Kn :=
 Am (A2 hk _ _ _) func11 (by kernel_rfl) (by kernel_rfl) h
def Cc.A4.hint:Nat→Option Bc
 | 0=>some { keep:=[3,4,9,10,11],objs:=[],boxes:=[] }
 | _=>none
def Cc.A4.Bh:List (Nat × Entry):=[(8,compare.Ij.spec),(7,Ac.Bf.spec)]
def Cc.A4.E:Env:=Bi (Bg Cc.A4.Bh) (fun _=>false) Cc.A4.hint (fun _=>none)
section
variable (N:Nat) (a1 b1:Int) (l1:List Int) (a2 b2:Int) (l2:List Int) (a3 b3:Int) (l3:List Int) (a4 b4:Int) (l4 x:List Int) (M:Nat) (y:List Int) (p3 p11:Int)
def Cc.A4.L0:Option DV:=B3 Cc.A4.E N f4 (Aq f4) [1,1,1,0,1,0] [] M ⟨G8 23 [(3,.int .i64 p3),(4,.int .u64 (Bs 4607182418800017408 (-40:Int))),(9,.ints .arg .u64 y),(10,.int .i64 (length y:Int)),(11,.int .i64 p11)],[]⟩
theorem Cc.A4.Au:Cc.A4.L0 N (M+1) y p3 p11=bif (A3 p11 (length y:Int)) then bif ((decide (0≤p11))&&(decide (p11<(length y:Int)))) then bif (Aj (Bs 4607182418800017408 (-40:Int))&&Aj (getD y (toNat p11) 0)) then bif (!(decide (Qr (Bs 4607182418800017408 (-40:Int)) (getD y (toNat p11) 0)<0))) then Cc.A4.L0 N M y (Ab (p3+1)) (Ab (p11+1)) else Cc.A4.L0 N M y p3 (Ab (p11+1)) else none else none else some (.int .i64 p3):=by kernel_rfl
theorem Cc.A4.ev:Bw Cc.A4.E N f4 (Aq f4) [.agg [.int .i64 a1,.int .i64 b1,.ints .arg .u64 l1,.int .i64 a2,.int .i64 b2,.ints .arg .u64 l2,.int .i64 a3,.int .i64 b3,.ints .arg .u64 l3,.int .i64 a4,.int .i64 b4,.ints .arg .u64 l4,.ints .arg .u64 x,.ints .arg .u64 y]]=bif (C0 4607182418800017408 (-40:Int)) then Cc.A4.L0 N N y 0 (0:Int) else none:=by kernel_rfl
end
abbrev _root_.Go.Proofs.S1.Cc.A4.Kn:=A6 prog 4 Cc.A4.spec
theorem Cc.A4.Ad (hk:Ay prog Cc.A4.Bh) (h:Hyp Cc.A4.E f4 Cc.A4.ts Cc.A4.pre Cc.A4.out):Cc.A4.Kn :=
 Am (A2 hk _ _ _) func4 (by kernel_rfl) (by kernel_rfl) h
abbrev _root_.Go.Proofs.S1.Aa.Part.one.Kn:Prop:=A6 prog 25 Aa.Part.one.spec
abbrev _root_.Go.Proofs.S1.Aa.Mul.one.Kn:Prop:=A6 prog 27 Aa.Mul.one.spec
abbrev _root_.Go.Proofs.S1.Aa.Stack.one.Kn:Prop:=A6 prog 23 Aa.Stack.one.spec
abbrev _root_.Go.Proofs.S1.qr.E7.one.Kn:Prop:=A6 prog 24 qr.E7.one.spec
end EqGsv
namespace EqLaw23
def B4.one.Bh:List (Nat × Entry):=[]
def B4.one.E:Env:=Bi (Bg B4.one.Bh) (fun _=>false) (fun _=>none) (fun _=>none)
theorem B4.one.ev (N:Nat) (b:Int):Bw B4.one.E N f12 (Aq f12) [.int .u64 b]=some (.agg [.int .i64 1,.int .i64 1,.ints (.own 4 32) .u64 [b]]):=by kernel_rfl
abbrev _root_.Go.Proofs.S1.B4.one.Kn:=A6 prog 12 B4.one.spec
theorem B4.one.Ad (hk:Ay prog B4.one.Bh) (h:Hyp B4.one.E f12 B4.one.ts B4.one.pre B4.one.out):B4.one.Kn :=
 Am (A2 hk _ _ _) func12 (by kernel_rfl) (by kernel_rfl) h
def Dz.A4.hint:Nat→Option Bc
 | 0=>some { keep:=[0,3,4],objs:=[],boxes:=[] }
 | _=>none
def Dz.A4.Bh:List (Nat × Entry):=[(9,C1.Order.spec),(10,B0.Bf.spec)]
def Dz.A4.E:Env:=Bi (Bg Dz.A4.Bh) (fun _=>false) Dz.A4.hint (fun _=>none)
section
variable (N M:Nat) (y:List Int) (p3 p4:Int)
def Dz.A4.L0:Option DV:=B3 Dz.A4.E N f5 (Aq f5) [1,1,0,1,0] [] M ⟨G8 31 [(0,.ints .arg .u64 y),(3,.int .i64 p3),(4,.int .i64 p4)],[]⟩
theorem Dz.A4.Au:Dz.A4.L0 N (M+1) y p3 p4=bif (A3 p4 (length y:Int)) then bif ((decide (0≤p4))&&(decide (p4<(length y:Int)))) then bif (C0 4607182418800017408 (-40:Int)) then bif (Aj (getD y (toNat p4) 0)&&Aj (Bs 4607182418800017408 (-40:Int))) then bif ((!(M8 (getD y (toNat p4) 0) (Bs 4607182418800017408 (-40:Int))))||(H2 (Qr (getD y (toNat p4) 0) (Bs 4607182418800017408 (-40:Int))) 0)) then Dz.A4.L0 N M y (Ab (p3+1)) (Ab (p4+1)) else Dz.A4.L0 N M y p3 (Ab (p4+1)) else none else none else none else some (.int .i64 p3) :=
 Eq.trans (by kernel_rfl)
 (Eu (Df (tt4 (decide (0≤p4)) (decide (p4<(length y:Int)))) (Df (Gc (C0 4607182418800017408 (-40:Int))) (Df (Gc (Aj (getD y (toNat p4) 0)&&Aj (Bs 4607182418800017408 (-40:Int)))) (Aw (tt9 (M8 (getD y (toNat p4) 0) (Bs 4607182418800017408 (-40:Int)))) (Aw (tt7 (M8 (getD y (toNat p4) 0) (Bs 4607182418800017408 (-40:Int)))) (Aw (tt6 (M8 (getD y (toNat p4) 0) (Bs 4607182418800017408 (-40:Int)))) (Df (Amr (M8 (getD y (toNat p4) 0) (Bs 4607182418800017408 (-40:Int))) (H2 (Qr (getD y (toNat p4) 0) (Bs 4607182418800017408 (-40:Int))) 0)) rfl rfl)))) rfl) rfl) rfl) rfl)
theorem Dz.A4.ev:Bw Dz.A4.E N f5 (Aq f5) [.ints .arg .u64 y] =
 Dz.A4.L0 N N y 0 0:=by kernel_rfl
end
abbrev _root_.Go.Proofs.S1.Dz.A4.Kn:=A6 prog 5 Dz.A4.spec
theorem Dz.A4.Ad (hk:Ay prog Dz.A4.Bh) (h:Hyp Dz.A4.E f5 Dz.A4.ts Dz.A4.pre Dz.A4.out):Dz.A4.Kn :=
 Am (A2 hk _ _ _) func5 (by kernel_rfl) (by kernel_rfl) h
def B4.Fv.Bh:List (Nat × Entry):=[(4,Cc.A4.spec),(11,Cc.Dh.spec),(12,B4.one.spec)]
def B4.Fv.E:Env:=Bi (Bg B4.Fv.Bh) (fun _=>false) (fun _=>none) (fun _=>none)
theorem B4.Fv.ev (N:Nat):Bw B4.Fv.E N f6 (Aq f6) []=bif (Br ((1:Int)=1∧(1:Int)=1∧([(4607182418800017408:Int)])=[(4607182418800017408:Int)]∧(1:Int)=1∧(1:Int)=1∧([(0:Int)])=[(0:Int)])) then bif ((!((length ([(4607182418800017408:Int)]):Int)==(1:Int)))||(decide ((0:Int)<(length ([(4607182418800017408:Int)]):Int)))) then bif ((!((((length ([(4607182418800017408:Int)]):Int)==(1:Int))&&((getD ([(4607182418800017408:Int)]) 0 0)==(4607182418800017408:Int)))&&((length ([(0:Int)]):Int)==(1:Int))))||(Cj ([(0:Int)]))) then some (.bool (bif (bif (bif ((length ([(4607182418800017408:Int)]):Int)==(1:Int)) then ((getD ([(4607182418800017408:Int)]) 0 0)==(4607182418800017408:Int)) else false) then ((length ([(0:Int)]):Int)==(1:Int)) else false) then ((Jq ([(0:Int)]))==(1:Int)) else false)) else none else none else none :=
 Eq.trans (by kernel_rfl)
 (Eu (Aw (H0 ((length ([(4607182418800017408:Int)]):Int)==(1:Int))) (Aw (Fm ((length ([(4607182418800017408:Int)]):Int)==(1:Int))) (Df (Aou ((length ([(4607182418800017408:Int)]):Int)==(1:Int)) (decide ((0:Int)<(length ([(4607182418800017408:Int)]):Int)))) (Aw (Fm ((length ([(4607182418800017408:Int)]):Int)==(1:Int))) (Aw (Fm ((length ([(4607182418800017408:Int)]):Int)==(1:Int))) (Aw (J3 ((length ([(4607182418800017408:Int)]):Int)==(1:Int))) (Aw (Aqu ((length ([(4607182418800017408:Int)]):Int)==(1:Int)) ((getD ([(4607182418800017408:Int)]) 0 0)==(4607182418800017408:Int))) (Aw (Amq ((length ([(4607182418800017408:Int)]):Int)==(1:Int)) ((getD ([(4607182418800017408:Int)]) 0 0)==(4607182418800017408:Int))) (Aw (Amq ((length ([(4607182418800017408:Int)]):Int)==(1:Int)) ((getD ([(4607182418800017408:Int)]) 0 0)==(4607182418800017408:Int))) (Aw (Amq ((length ([(4607182418800017408:Int)]):Int)==(1:Int)) ((getD ([(4607182418800017408:Int)]) 0 0)==(4607182418800017408:Int))) (Aw (Aqv ((length ([(4607182418800017408:Int)]):Int)==(1:Int)) ((getD ([(4607182418800017408:Int)]) 0 0)==(4607182418800017408:Int))) (Aw (Aqw ((length ([(4607182418800017408:Int)]):Int)==(1:Int)) ((getD ([(4607182418800017408:Int)]) 0 0)==(4607182418800017408:Int)) ((length ([(0:Int)]):Int)==(1:Int))) (Df (Aqx ((length ([(4607182418800017408:Int)]):Int)==(1:Int)) ((getD ([(4607182418800017408:Int)]) 0 0)==(4607182418800017408:Int)) ((length ([(0:Int)]):Int)==(1:Int)) (Cj ([(0:Int)]))) (Aw (Aqy ((length ([(4607182418800017408:Int)]):Int)==(1:Int)) ((getD ([(4607182418800017408:Int)]) 0 0)==(4607182418800017408:Int)) ((length ([(0:Int)]):Int)==(1:Int))) (Aw (Aqz ((length ([(4607182418800017408:Int)]):Int)==(1:Int)) ((getD ([(4607182418800017408:Int)]) 0 0)==(4607182418800017408:Int)) ((length ([(0:Int)]):Int)==(1:Int))) rfl)) rfl)))))))))) rfl))) rfl)
abbrev _root_.Go.Proofs.S1.B4.Fv.Kn:=A6 prog 6 B4.Fv.spec
theorem B4.Fv.Ad (hk:Ay prog B4.Fv.Bh) (h:Unit→Hyp B4.Fv.E f6 B4.Fv.ts B4.Fv.pre B4.Fv.out):B4.Fv.Kn :=
 Am (A2 hk _ _ _) func6 (by kernel_rfl) (by kernel_rfl) (h ())
def B4.Bz.Bh:List (Nat × Entry):=[(4,Cc.A4.spec),(6,B4.Fv.spec),(5,Dz.A4.spec)]
def B4.Bz.E:Env:=Bi (Bg B4.Bz.Bh) (fun _=>false) (fun _=>none) (fun _=>none)
theorem B4.Bz.ev (N:Nat) (y:List Int):Bw B4.Bz.E N f3 (Aq f3) [.ints .arg .u64 y]=bif (Cj y) then bif (Cj y) then some (.bool (bif ((Jq y)==(Jq y)) then true else false)) else none else none :=
 Eq.trans (by kernel_rfl)
 (Eu (Eu (Aw (H0 ((Jq y)==(Jq y))) (Aw (J3 ((Jq y)==(Jq y))) rfl)) rfl) rfl)
abbrev _root_.Go.Proofs.S1.B4.Bz.Kn:=A6 prog 3 B4.Bz.spec
theorem B4.Bz.Ad (hk:Ay prog B4.Bz.Bh) (h:Hyp B4.Bz.E f3 B4.Bz.ts B4.Bz.pre B4.Bz.out):B4.Bz.Kn :=
 Am (A2 hk _ _ _) func3 (by kernel_rfl) (by kernel_rfl) h
end EqLaw23
open EqSort EqSvd EqGsv EqLaw23
theorem A8.An.known:A8.An.Kn:=A8.An.Ad .nil fun x a b l hp=>by
 have hp:=Al.1 (show Br (-100≤a∧a≤100∧b≤a+1)=true from hp)
 refine ⟨1,.tup [],[],?_,Wk.E5 .nil⟩
 rw [A8.An.ev,A8.An.Au,Av,Ao (by omega) (by omega),Arw (by omega),Arv]
theorem A8.As.known:A8.As.Kn:=A8.As.Ad (.cons A8.An.known .nil) fun x n l hp=>by
 have hp:=Al.1 (show Br (0≤n∧n≤1)=true from hp)
 refine ⟨1,.tup [],[],?_,Wk.E5 .nil⟩
 rw [A8.As.ev,A8.As.Au,Ee,Arw (by omega),Arv,show Br (-100≤(0:Int)∧(0:Int)≤100∧n≤0+1)=true from Al.2 (by omega),Arr,A8.As.C3,Av,Arw (by omega),Arv]
theorem A8.At.known:A8.At.Kn:=A8.At.Ad (.cons A8.As.known .nil) fun x l hp=>by
 have hp:=Al.1 (show Br (length x≤1)=true from hp)
 refine ⟨0,.tup [],[],?_,Wk.E5 .nil⟩
 rw [A8.At.ev,show Br (0≤(length x:Int)∧(length x:Int)≤1)=true from Al.2 (by omega),Arr]
theorem Zc (N:Nat) {r c:Int} {x:List Int} {e:Int} (hx:Cj x=true) (hl:x.length≤1000) (he:-2300≤e∧e≤2300):∀ (k i F:Nat),i+k=x.length→k<F →
 Cf.Bj.L0 N F r c x e (i:Int) ((x.take i).map fun b=>Bs b e)=some (.agg [.int .i64 r,.int .i64 c,.ints (.own 106002 tB) .u64 (Az x e)]):=by
 obtain ⟨_,hu⟩:=Im hx
 intro k
 induction k with
 | zero =>
   intro i F hi hF
   obtain ⟨F,rfl⟩:∃ G,F=G+1:=⟨F-1,by omega⟩
   rw [Cf.Bj.Au,Av,Arw (by omega),Arv,List.take_of_length_le (by omega)]; rfl
 | succ k ih =>
   intro i F hi hF
   obtain ⟨F,rfl⟩:∃ G,F=G+1:=⟨F-1,by omega⟩
   rw [Cf.Bj.Au,Av,Ars (show (i:Int)<(x.length:Int) by omega),Arr,Ars (show (0:Int)≤(i:Int) by omega),Arx,Arr,Art,
    show C0 (getD x i 0) e=true from Af.2 ⟨hu i (by omega),Al.2 he⟩,Arr,Ars (by rw [Asy,List.length_take]; unfold Gy; omega),Arr,Ao (by omega) (by omega)]
   have:=ih (i+1) F (by omega) (by omega)
   rw [Tv (by omega)] at this
   exact this
theorem Cf.Bj.known:Cf.Bj.Kn:=Cf.Bj.Ad (.cons Ac.Bf.known .nil) fun r c x k hp=>by
 obtain ⟨h1,h2⟩:=Af.1 (show (Cj x&&Br (length x≤1000∧-2300≤k∧k≤2300))=true from hp)
 have h2:=Al.1 h2
 refine ⟨x.length+1,.agg [.int .i64 r,.int .i64 c,.ints (.own 106002 tB) .u64 (Az x k)],[106002],?_,Aba (List.mem_singleton.2 rfl)⟩
 rw [Cf.Bj.ev]
 exact Zc (x.length+1) h1 h2.1 h2.2 x.length 0 (x.length+1) (by omega) (by omega)
theorem Ant (N M:Nat) (b:Int):Cf.at.L0 (N+2) (M+2) 1 1 [b] [0] 0 []=some (.agg [.int .i64 1,.int .i64 1,.ints (.own 106002 tB) .u64 [b]]):=by
 have e1:Ab (0+(1:Int))=1:=Ao (by decide) (by decide)
 have e2:Ab ((Ab (0*(1:Int)))+(getD [(0:Int)] (toNat 0) 0))=0:=by decide +kernel
 have d1:decide ((0:Int)<((length [(0:Int)]:Nat):Int))=true:=by decide
 have d2:decide ((0:Int)<((length [b]:Nat):Int))=true:=Ars (show (0:Int)<((1:Nat):Int) by decide)
 have d3:decide ((length ([]:List Int))+1≤Gy)=true:=Ars (by unfold Gy; decide)
 have d0:decide ((0:Int)≤(0:Int))=true:=by decide
 have d4:decide ((1:Int)<((length [(0:Int)]:Nat):Int))=false:=by decide
 rw [Cf.at.Au,Av,Ars (show (0:Int)<1 by decide),Arr,Cf.at.C3,Av,d1,Arr,d0,Arx,Arr,e2,d0,d2,Arx,Arr,d3,Arr,e1,Cf.at.C3,Av,d4,Arv,e1,Cf.at.Au,Av,Arw (show ¬ (1:Int)<1 by decide),Arv]
 rfl
theorem Cf.at.known:Cf.at.Kn:=Cf.at.Ad .nil fun r c l x hp=>by
 obtain ⟨rfl,rfl,hl,rfl⟩:=Al.1 (show Br (r=1∧c=1∧length l=1∧x=[0])=true from hp)
 obtain ⟨b,rfl⟩:=List.length_eq_one_iff.1 hl
 exact ⟨2,.agg [.int .i64 1,.int .i64 1,.ints (.own 106002 tB) .u64 [b]],[106002],(Cf.at.ev 2 1 1 [b] [0]).trans (Ant 0 0 b),Aba (List.mem_singleton.2 rfl)⟩
theorem Aex (N M:Nat) {b:Int} (hb:Aj b=true):Cf.D0.L0 N (M+2) 1 1 [b] 0 []=some (.ints (.own 100003 tB) .u64 [Db [b]]):=by
 have e1:Ab (0+(1:Int))=1:=Ao (by decide) (by decide)
 have s1:C6 1 [b] 0 0 (toNat (1-0))=[b]:=rfl
 have c1:(Gl 1 1 [b] 0&&Br (0≤(0:Int)∧(0:Int)≤1))=true:=by
  unfold Gl
  rw [show Bo 1 1 [b]=true from M7 (r:=1) (c:=1) (by decide) (by decide) rfl,As5,Af]
  exact ⟨Al.2 (by decide),Al.2 (by decide)⟩
 have o1:(Cj [b]&&Br (length [b]≤64))=true:=Af.2 ⟨Al.2 ⟨by simp,fun y hy=>by rw [List.mem_singleton.1 hy]; exact hb⟩,Al.2 (by simp)⟩
 have d3:decide ((length ([]:List Int))+1≤Gy)=true:=Ars (by unfold Gy; decide)
 rw [Cf.D0.Au,Av,Ars (show (0:Int)<1 by decide),Arr,c1,Arr,s1,o1,Arr,d3,Arr,e1,Cf.D0.Au,Av,Arw (show ¬ (1:Int)<1 by decide),Arv]
 rfl
theorem Cf.D0.known:Cf.D0.Kn:=Cf.D0.Ad (.cons Aa.Cr.known (.cons Ac.Norm.known .nil)) fun r c l hp=>by
 obtain ⟨al,h2⟩:=Af.1 (show (A1 l&&Br (r=1∧c=1∧length l=1))=true from hp)
 obtain ⟨rfl,rfl,hl⟩:=Al.1 h2
 obtain ⟨b,rfl⟩:=List.length_eq_one_iff.1 hl
 exact ⟨2,.ints (.own 100003 tB) .u64 [Db [b]],[100003],(Cf.D0.ev 2 1 1 [b]).trans (Aex 2 0 (Al.1 al b As7)),.drop _ _ _ _ (List.mem_singleton.2 rfl)⟩
theorem Abp (N M K:Nat) (r:Int) (l:List Int) (p q:Int) (m:List Int) (b:Int):Cf.rounds.L0 (N+2) (M+1) r 1 l p q m b=some (.tup [.agg [.int .i64 r,.int .i64 1,.ints .arg .u64 l],.agg [.int .i64 p,.int .i64 q,.ints .arg .u64 m],.int .i64 0]):=by
 have e1:Ab (0+(1:Int))=1:=Ao (by decide) (by decide)
 rw [Cf.rounds.Au,Cf.rounds.C3,Av,Ars (show (0:Int)<1 by decide),Arr,e1,Cf.rounds.Ml,Av,Arw (show ¬ (1:Int)<1 by decide),Arv,e1,Cf.rounds.C3,Av,Arw (show ¬ (1:Int)<1 by decide),Arv]
theorem Cf.rounds.known:Cf.rounds.Kn:=Cf.rounds.Ad .nil fun r c l p q m b hp=>by
 obtain rfl:=Al.1 (show Br (c=1)=true from hp)
 exact ⟨2,_,[],(Cf.rounds.ev 2 r 1 l p q m b).trans (Abp 0 1 0 r l p q m b),Wk.E5 (.cons (Wk.I5 (.cons .int (.cons .int (.cons .Afz .nil)))) (.cons (Wk.I5 (.cons .int (.cons .int (.cons .Afz .nil)))) (.cons .int .nil)))⟩
open EqSort EqSvd EqGsv EqLaw23
theorem Qt:A1 [(4607182418800017408:Int)]=true:=Al.2 fun y hy=>by rw [List.mem_singleton.1 hy]; exact Al.2 (by decide)
theorem Td:Cj [(4607182418800017408:Int)]=true:=Al.2 ⟨by simp,fun y hy=>by rw [List.mem_singleton.1 hy]; exact Al.2 (by decide)⟩
theorem Uf:A1 [(0:Int)]=true:=Al.2 fun y hy=>by rw [List.mem_singleton.1 hy]; exact Al.2 (by decide)
theorem Rw:Cj [(0:Int)]=true:=Al.2 ⟨by simp,fun y hy=>by rw [List.mem_singleton.1 hy]; exact Al.2 (by decide)⟩
theorem Ll:Aj (4607182418800017408:Int)=true:=Al.2 (by decide)
theorem Adi:Bd [4607182418800017408]=4607182418800017408:=by decide +kernel
theorem Adh:Bn 4607182418800017408=0:=by decide +kernel
theorem Rv:Az [4607182418800017408] 0=[4607182418800017408]:=by decide +kernel
theorem Zt:Db [4607182418800017408]=4607182418800017408:=by decide +kernel
theorem Akf:Et 1 1 [4607182418800017408]=0:=by decide +kernel
theorem Ake:F3 1=(1,1,[4607182418800017408],0):=by decide +kernel
theorem Akd:D2 [4607182418800017408]=true:=by decide +kernel
theorem Xi (N M:Nat):Cf.Cp.L0 N (M+2) 1 1 [4607182418800017408] 0 []=some (.tup [.agg [.int .i64 1,.int .i64 1,.ints .fresh .u64 [4607182418800017408]],.agg [.int .i64 1,.int .i64 1,.ints .fresh .u64 [4607182418800017408]],.ints .fresh .u64 [4607182418800017408],.int .i64 0]):=by
 have e1:Ab (0+(1:Int))=1:=Ao (by decide) (by decide)
 have e0:Ab (0-(0:Int))=0:=Ao (by decide) (by decide)
 have d3:decide ((length ([]:List Int))+1≤Gy)=true:=Ars (by unfold Gy; decide)
 have c1:Br (length [(0:Int)]≤1)=true:=Al.2 (by decide)
 have c2:Br ((1:Int)=1∧(1:Int)=1∧length [(4607182418800017408:Int)]=1∧[(0:Int)]=[0])=true:=Al.2 (by decide)
 have c3:Br (length [(4607182418800017408:Int)]≤1000∧-2300≤(0:Int)∧(0:Int)≤2300)=true:=Al.2 (by decide)
 have c4:Br ((1:Int)=1∧(1:Int)=1∧length [(4607182418800017408:Int)]=1)=true:=Al.2 (by decide)
 rw [Cf.Cp.Au,Av,Ars (show (0:Int)<1 by decide),Arr,d3,Arr,e1,List.nil_append,Cf.Cp.Au,Av,Arw (show ¬ (1:Int)<1 by decide),Arv,c1,Arr,Adi,Adh,e0,Rv,c2,Arr,Td,c3,Arx,Arr,Ake]
 dsimp only
 rw [c2,Arr,Rv,Td,Arr,Akd,Asr,As4,Arr,Bool.or_self,Arv,Qt,c4,Arx,Arr,Zt]
theorem Cf.Cp.known:Cf.Cp.Kn:=Cf.Cp.Ad (.cons Cd.Check.known (.cons compare.P4.known (.cons Aa.Fs.known (.cons A8.At.known (.cons Cf.at.known (.cons Cf.D0.known (.cons Cf.rounds.known (.cons Cf.Bj.known (.cons Ac.Ce.known (.cons Ac.Finite.known (.cons Ac.Norm.known (.cons Ac.Bf.known .nil)))))))))))) fun r c l hp=>by
 obtain ⟨rfl,rfl,rfl⟩:=Al.1 (show Br (r=1∧c=1∧l=[(4607182418800017408:Int)])=true from hp)
 refine ⟨2,.tup [.agg [.int .i64 1,.int .i64 1,.ints .fresh .u64 [4607182418800017408]],.agg [.int .i64 1,.int .i64 1,.ints .fresh .u64 [4607182418800017408]],.ints .fresh .u64 [4607182418800017408],.int .i64 0],[],?_,Wk.E5 (.cons J0 (.cons J0 (.cons (.refl rfl (by intros; simp) (by intros; simp)) (.cons .int .nil))))⟩
 have e0:Ab (0-(0:Int))=0:=Ao (by decide) (by decide)
 have c0:((0:Int) !=0)=false:=rfl
 have c3:Br (length [(4607182418800017408:Int)]≤1000∧-2300≤(0:Int)∧(0:Int)≤2300)=true:=Al.2 (by decide)
 have c4:Br (length [(4607182418800017408:Int)]≤64)=true:=Al.2 (by decide)
 have c5:C0 4607182418800017408 (-44)=true:=Af.2 ⟨Ll,Al.2 (by decide)⟩
 have c6:Br ((1:Int)=1)=true:=Al.2 rfl
 have c7:Br ((1:Int)=1∧(1:Int)=1∧length [(4607182418800017408:Int)]=1)=true:=Al.2 (by decide)
 rw [Cf.Cp.ev,Qt,Arr,Akf,c0,Arv,Td,Arr,Adi,Ll,Arr,Adh,e0,c3,Arx,Arr,Rv,Td,c4,Arx,Arr,Zt,c5,Arr,c6,Arr,Qt,c7,Arx,Arr]
 exact Xi 2 0
theorem Aa.Stack.one.known:Aa.Stack.one.Kn:=A6.Abb (P:=_) (pre:=Aa.Stack.pre) (out:=Aa.Stack.out) Aa.Stack.known [] fun ats h=>by
 unfold Aa.Stack.one.pre at h
 split at h
 ·obtain ⟨rfl,rfl,rfl,rfl,rfl,rfl⟩:=Al.1 h
  refine ⟨rfl,?_⟩
  have e:J4 1 1 [4607182418800017408] 1 1 [0]=(2,1,[4607182418800017408,0],0):=by decide +kernel
  show Wk [] (DV.tup [.agg [.int .i64 (J4 1 1 [4607182418800017408] 1 1 [0]).1,.int .i64 (J4 1 1 [4607182418800017408] 1 1 [0]).2.1,.ints .fresh .u64 (J4 1 1 [4607182418800017408] 1 1 [0]).2.2.1],.int .i64 (J4 1 1 [4607182418800017408] 1 1 [0]).2.2.2]) _
  rw [e]
  exact Wk.E5 (.cons J0 (.cons .int .nil))
 ·cases h
theorem qr.E7.one.known:qr.E7.one.Kn:=A6.Abb (P:=_) (pre:=qr.E7.pre) (out:=qr.E7.out) qr.E7.known [] fun ats h=>by
 unfold qr.E7.one.pre at h
 split at h
 ·obtain ⟨rfl,rfl,rfl⟩:=Al.1 h
  have al:A1 [(4607182418800017408:Int),0]=true:=Al.2 fun y hy=>by
   rcases List.mem_cons.1 hy with rfl | hy
   ·exact Al.2 (by decide)
   ·rw [List.mem_singleton.1 hy]; exact Al.2 (by decide)
  refine ⟨al,?_⟩
  have e1:Y4 2 1 [4607182418800017408,0]=(2,1,[4607182418800017408,0],0):=by decide +kernel
  have e2:Y3 2 1 [4607182418800017408,0]=(1,1,[4607182418800017408],0):=by decide +kernel
  have e3:Ga 2 1 [4607182418800017408,0]=0:=by decide +kernel
  show Wk [] (DV.tup [.agg [.int .i64 (Y4 2 1 [4607182418800017408,0]).1,.int .i64 (Y4 2 1 [4607182418800017408,0]).2.1,.ints .fresh .u64 (Y4 2 1 [4607182418800017408,0]).2.2.1],.agg [.int .i64 (Y3 2 1 [4607182418800017408,0]).1,.int .i64 (Y3 2 1 [4607182418800017408,0]).2.1,.ints .fresh .u64 (Y3 2 1 [4607182418800017408,0]).2.2.1],.int .i64 (Ga 2 1 [4607182418800017408,0])]) _
  rw [e1,e2,e3]
  exact Wk.E5 (.cons J0 (.cons J0 (.cons .int .nil)))
 ·cases h
theorem Aa.Part.one.known:Aa.Part.one.Kn:=A6.Abb (P:=_) (pre:=Aa.Part.pre) (out:=Aa.Part.out) Aa.Part.known [] fun ats h=>by
 unfold Aa.Part.one.pre at h
 split at h
 ·rename_i r c l x y a b
  obtain ⟨rfl,rfl,rfl,hx,rfl,rfl,rfl⟩:=Al.1 h
  refine ⟨rfl,?_⟩
  have e:F7 2 1 [4607182418800017408,0] x 0 1 1=(1,1,[Aet x],0):=by
   rcases hx with rfl | rfl<;>decide +kernel
  show Wk [] (DV.tup [.agg [.int .i64 (F7 2 1 [4607182418800017408,0] x 0 1 1).1,.int .i64 (F7 2 1 [4607182418800017408,0] x 0 1 1).2.1,.ints .fresh .u64 (F7 2 1 [4607182418800017408,0] x 0 1 1).2.2.1],.int .i64 (F7 2 1 [4607182418800017408,0] x 0 1 1).2.2.2]) _
  rw [e]
  exact Wk.E5 (.cons J0 (.cons .int .nil))
 ·cases h
theorem Aa.Mul.one.known:Aa.Mul.one.Kn:=A6.Abb (P:=_) (pre:=Aa.Mul.pre) (out:=Aa.Mul.out) Aa.Mul.known [] fun ats h=>by
 unfold Aa.Mul.one.pre at h
 split at h
 ·obtain ⟨rfl,rfl,rfl,rfl,rfl,rfl⟩:=Al.1 h
  refine ⟨Af.2 ⟨Uf,Qt⟩,?_⟩
  have e:Ul 1 1 [0] 1 1 [4607182418800017408]=(1,1,[0],0):=by decide +kernel
  show Wk [] (DV.tup [.agg [.int .i64 (Ul 1 1 [0] 1 1 [4607182418800017408]).1,.int .i64 (Ul 1 1 [0] 1 1 [4607182418800017408]).2.1,.ints .fresh .u64 (Ul 1 1 [0] 1 1 [4607182418800017408]).2.2.1],.int .i64 (Ul 1 1 [0] 1 1 [4607182418800017408]).2.2.2]) _
  rw [e]
  exact Wk.E5 (.cons J0 (.cons .int .nil))
 ·cases h
theorem Cc.Check.known:Cc.Check.Kn:=Cc.Check.Ad (.cons Cd.Check.known .nil) fun r c l p q m hp=>by
 obtain ⟨h1,h2⟩:=Af.1 (show ((A1 l&&A1 m)&&Br (Bo r c l=true∧Bo p q m=true∧D2 l=true∧D2 m=true∧c=1∧q=1∧1≤r+p∧r+p≤6))=true from hp)
 obtain ⟨al,am⟩:=Af.1 h1
 obtain ⟨rl,rm,fl,fm,rfl,rfl,k1,k2⟩:=Al.1 h2
 refine ⟨3,.int .i64 0,[],?_,.int⟩
 have c0:((0:Int) !=0)=false:=rfl
 have c1:((1:Int) !=1)=false:=rfl
 rw [Cc.Check.ev 0,al,am,Ai2 rl fl,Ai2 rm fm,c0,c1,Av,Av,Av,Ao (by omega) (by omega),Arw (show ¬ (1:Int)<1 by decide),Arw (show ¬ r+p<1 by omega),Arw (show ¬ (6:Int)<r+p by omega)]
 rfl
theorem Ae9 (N M:Nat):Cc.Dh.L0 N (M+2) 1 0 []=some (.tup [.agg [.int .i64 (1:Int),.int .i64 (1:Int),.ints .fresh .u64 ([(4607182418800017408:Int)]),.int .i64 (1:Int),.int .i64 (1:Int),.ints .fresh .u64 ([(0:Int)]),.int .i64 (1:Int),.int .i64 (1:Int),.ints .fresh .u64 ([(4607182418800017408:Int)]),.int .i64 (1:Int),.int .i64 (1:Int),.ints .fresh .u64 ([(4607182418800017408:Int)]),.ints .fresh .u64 ([(4607182418800017408:Int)]),.ints (.own 122013 tB) .u64 [0]],.int .i64 (0:Int)]):=by
 have e1:Ab (0+(1:Int))=1:=Ao (by decide) (by decide)
 have s1:C6 1 [(0:Int)] 0 0 (toNat (1-0))=[0]:=rfl
 have c1:(Gl 1 1 [(0:Int)] 0&&Br (0≤(0:Int)∧(0:Int)≤1))=true:=by
  unfold Gl
  rw [show Bo 1 1 [(0:Int)]=true from rfl,As5,Af]
  exact ⟨Al.2 (by decide),Al.2 (by decide)⟩
 have o1:(Cj [(0:Int)]&&Br (length [(0:Int)]≤64))=true:=Af.2 ⟨Rw,Al.2 (by simp)⟩
 have d3:decide ((length ([]:List Int))+1≤Gy)=true:=Ars (by unfold Gy; decide)
 have n0:Db [(0:Int)]=0:=by decide +kernel
 rw [Cc.Dh.Au,Av,Ars (show (0:Int)<1 by decide),Arr,c1,Arr,s1,o1,Arr,d3,Arr,e1,n0,List.nil_append,Cc.Dh.Au,Av,Arw (show ¬ (1:Int)<1 by decide),Arv]
theorem Cc.Dh.known:Cc.Dh.Kn:=Cc.Dh.Ad (.cons Cc.Check.known (.cons Aa.Cr.known (.cons Aa.Mul.one.known (.cons Aa.Part.one.known (.cons Aa.Stack.one.known (.cons qr.E7.one.known (.cons Cf.Cp.known (.cons Ac.Finite.known (.cons Ac.Norm.known .nil))))))))) fun r c l p q m hp=>by
 obtain ⟨rfl,rfl,rfl,rfl,rfl,rfl⟩:=Al.1 (show Br (r=1∧c=1∧l=[(4607182418800017408:Int)]∧p=1∧q=1∧m=[(0:Int)])=true from hp)
 have k1:Br (Bo 1 1 [(4607182418800017408:Int)]=true∧Bo 1 1 [(0:Int)]=true∧D2 [(4607182418800017408:Int)]=true∧D2 [(0:Int)]=true∧(1:Int)=1∧(1:Int)=1∧(1:Int)≤1+1∧(1:Int)+1≤6)=true:=Al.2 ⟨rfl,rfl,by decide +kernel,by decide +kernel,rfl,rfl,by decide,by decide⟩
 have k2:Br ((1:Int)=1∧(1:Int)=1∧[(4607182418800017408:Int)]=[(4607182418800017408:Int)]∧(1:Int)=1∧(1:Int)=1∧[(0:Int)]=[(0:Int)])=true:=Al.2 ⟨rfl,rfl,rfl,rfl,rfl,rfl⟩
 have k3:Br ((2:Int)=2∧(1:Int)=1∧([(4607182418800017408:Int),(0:Int)])=[(4607182418800017408:Int),(0:Int)])=true:=Al.2 ⟨rfl,rfl,rfl⟩
 have k4:Br ((2:Int)=2∧(1:Int)=1∧([(4607182418800017408:Int),(0:Int)])=[(4607182418800017408:Int),(0:Int)]∧((0:Int)=0∨(0:Int)=1)∧(0:Int)=0∧(1:Int)=1∧(1:Int)=1)=true:=Al.2 ⟨rfl,rfl,rfl,.inl rfl,rfl,rfl,rfl⟩
 have k5:Br ((2:Int)=2∧(1:Int)=1∧([(4607182418800017408:Int),(0:Int)])=[(4607182418800017408:Int),(0:Int)]∧((1:Int)=0∨(1:Int)=1)∧(0:Int)=0∧(1:Int)=1∧(1:Int)=1)=true:=Al.2 ⟨rfl,rfl,rfl,.inr rfl,rfl,rfl,rfl⟩
 have k6:Br ((1:Int)=1∧(1:Int)=1∧([Aet (0:Int)])=[(4607182418800017408:Int)])=true:=Al.2 ⟨rfl,rfl,rfl⟩
 have k7:Br ((1:Int)=1∧(1:Int)=1∧([Aet (1:Int)])=[(0:Int)]∧(1:Int)=1∧(1:Int)=1∧([(4607182418800017408:Int)])=[(4607182418800017408:Int)])=true:=Al.2 ⟨rfl,rfl,rfl,rfl,rfl,rfl⟩
 have k8:D2 [(0:Int)]=true:=by decide +kernel
 refine ⟨2,_,[122013],?_,Wk.E5 (.cons (Wk.I5 (.cons .int (.cons .int (.cons (.refl rfl (by intros; simp) (by intros; simp)) (.cons .int (.cons .int (.cons (.refl rfl (by intros; simp) (by intros; simp)) (.cons .int (.cons .int (.cons (.refl rfl (by intros; simp) (by intros; simp)) (.cons .int (.cons .int (.cons (.refl rfl (by intros; simp) (by intros; simp)) (.cons (.refl rfl (by intros; simp) (by intros; simp)) (.cons (.drop 122013 tB .u64 [0] (List.mem_singleton.2 rfl)) .nil))))))))))))))) (.cons .int .nil))⟩
 rw [Cc.Dh.ev,Qt,Uf,k1,Arx,Arx,Arr,k2,Arr,k3,Arr,k4,Arr,k5,Arr,k6,Arr,k7,Arr,Rw,Arr,k8,Asr,Arv]
 exact Ae9 2 0
theorem R6:Aj (Bs 4607182418800017408 (-40))=true∧C0 4607182418800017408 (-40)=true:=⟨Iu Ll,Af.2 ⟨Ll,Al.2 (by decide)⟩⟩
theorem Ak1 (b:Int):((!(M8 b (Bs 4607182418800017408 (-40))))||decide (Qr b (Bs 4607182418800017408 (-40))≤0))=V2 b:=by
 unfold V2 Qr M8 Ag7 Ag8
 generalize (Bs 4607182418800017408 (-40)).toNat=x
 generalize b.toNat=y
 by_cases k:Ag x=4∨Ag y=4
 ·rw [Ase k,Ase (by omega),Ars (show Ag y=4∨Ag x=4 by omega)]; rfl
 ·rw [Asd k,Asd (by omega),Arw (show ¬ (Ag y=4∨Ag x=4) by omega)]
  by_cases h1:E6 x<E6 y
  ·have h2:¬ E6 y<E6 x:=by omega
   rw [Asd h2,Ase h1,Ase h1]; rfl
  ·by_cases h2:E6 y<E6 x
   ·rw [Ase h2,Asd h1,Ase h2]; rfl
   ·rw [Asd h2,Asd h1,Asd h1,Asd h2]; rfl
theorem Y5 {y:List Int} {i:Nat} (h:i<y.length):Jq (y.take (i+1))=Jq (y.take i)+(if V2 (y.getD i 0)=true then 1 else 0):=by
 unfold Jq
 rw [List.take_succ_eq_append_getElem h,List.countP_append,Ar1,Ar8 h]
 show _=_+(if V2 y[i]=true then (1:Int) else 0)
 by_cases k:V2 y[i]=true
 ·rw [Ase k,List.countP_cons_of_pos k]; rfl
 ·rw [Asd k,List.countP_cons_of_neg k]; rfl
theorem Aii (y:List Int):0≤Jq y∧Jq y≤y.length:=by
 have:=List.countP_le_length (p:=V2) (l:=y)
 unfold Jq; omega
theorem Ah9 (N:Nat) {y:List Int} (hy:Cj y=true):∀ (k i F:Nat),i+k=y.length→k<F→Cc.A4.L0 N F y (Jq (y.take i)) (i:Int)=some (.int .i64 (Jq y)):=by
 obtain ⟨hl,hu⟩:=Im hy
 obtain ⟨w1,w2⟩:=R6
 intro k
 induction k with
 | zero =>
   intro i F hi hF
   obtain ⟨F,rfl⟩:∃ G,F=G+1:=⟨F-1,by omega⟩
   rw [Cc.A4.Au,Av,Arw (by omega),Arv,List.take_of_length_le (by omega)]
 | succ k ih =>
   intro i F hi hF
   obtain ⟨F,rfl⟩:∃ G,F=G+1:=⟨F-1,by omega⟩
   have ih:=ih (i+1) F (by omega) (by omega)
   rw [Y5 (by omega)] at ih
   have hb:=Aii (y.take i)
   rw [List.length_take] at hb
   rw [Cc.A4.Au,Av,Ars (show (i:Int)<(y.length:Int) by omega),Arr,Ars (show (0:Int)≤(i:Int) by omega),Arx,Arr,Art,w1,hu i (by omega),Arx,Arr,Ao (x:=(i:Int)+1) (by omega) (by omega),Ao (by omega) (by omega)]
   have e:(!(decide (Qr (Bs 4607182418800017408 (-40)) (y.getD i 0)<0)))=V2 (y.getD i 0):=rfl
   rw [e]
   cases h:V2 (y.getD i 0) with
   | true=>rw [h,Ase rfl] at ih; exact ih
   | false=>rw [h,Asd (by decide),Int.add_zero] at ih; exact ih
theorem Cc.A4.known:Cc.A4.Kn:=Cc.A4.Ad (.cons compare.Ij.known (.cons Ac.Bf.known .nil)) fun a1 b1 l1 a2 b2 l2 a3 b3 l3 a4 b4 l4 x y hp=>by
 have oy:Cj y=true:=hp
 refine ⟨y.length+1,.int .i64 (Jq y),[],?_,.int⟩
 rw [Cc.A4.ev,R6.2,Arr]
 exact Ah9 (y.length+1) oy y.length 0 (y.length+1) (by omega) (by omega)
theorem Ael (N:Nat) {y:List Int} (hy:Cj y=true):∀ (k i F:Nat),i+k=y.length→k<F→Dz.A4.L0 N F y (Jq (y.take i)) (i:Int)=some (.int .i64 (Jq y)):=by
 obtain ⟨hl,hu⟩:=Im hy
 obtain ⟨w1,w2⟩:=R6
 intro k
 induction k with
 | zero =>
   intro i F hi hF
   obtain ⟨F,rfl⟩:∃ G,F=G+1:=⟨F-1,by omega⟩
   rw [Dz.A4.Au,Av,Arw (by omega),Arv,List.take_of_length_le (by omega)]
 | succ k ih =>
   intro i F hi hF
   obtain ⟨F,rfl⟩:∃ G,F=G+1:=⟨F-1,by omega⟩
   have ih:=ih (i+1) F (by omega) (by omega)
   rw [Y5 (by omega)] at ih
   have hb:=Aii (y.take i)
   rw [List.length_take] at hb
   rw [Dz.A4.Au,Av,Ars (show (i:Int)<(y.length:Int) by omega),Arr,Ars (show (0:Int)≤(i:Int) by omega),Arx,Arr,Art,w2,Arr,hu i (by omega),w1,Arx,Arr,Ee,Ak1,Ao (x:=(i:Int)+1) (by omega) (by omega),Ao (by omega) (by omega)]
   cases h:V2 (y.getD i 0) with
   | true=>rw [h,Ase rfl] at ih; exact ih
   | false=>rw [h,Asd (by decide),Int.add_zero] at ih; exact ih
theorem Dz.A4.known:Dz.A4.Kn:=Dz.A4.Ad (.cons C1.Order.known (.cons B0.Bf.known .nil)) fun y hp=>by
 have oy:Cj y=true:=hp
 refine ⟨y.length+1,.int .i64 (Jq y),[],?_,.int⟩
 rw [Dz.A4.ev]
 exact Ael (y.length+1) oy y.length 0 (y.length+1) (by omega) (by omega)
theorem B4.one.known:B4.one.Kn:=B4.one.Ad .nil fun b _ =>
 ⟨0,_,[4],B4.one.ev 0 b,Aba (List.mem_singleton.2 rfl)⟩
theorem B4.Fv.known:B4.Fv.Kn:=B4.Fv.Ad (.cons Cc.A4.known (.cons Cc.Dh.known (.cons B4.one.known .nil))) fun _ _=>by
 have k2:Br ((1:Int)=1∧(1:Int)=1∧[(4607182418800017408:Int)]=[(4607182418800017408:Int)]∧(1:Int)=1∧(1:Int)=1∧[(0:Int)]=[(0:Int)])=true:=Al.2 ⟨rfl,rfl,rfl,rfl,rfl,rfl⟩
 have e:Jq [(0:Int)]=1:=by decide +kernel
 refine ⟨0,.bool true,[],?_,.bool⟩
 rw [B4.Fv.ev,k2,Arr,Rw,e]
 rfl
theorem B4.Bz.known:B4.Bz.Kn:=B4.Bz.Ad (.cons Cc.A4.known (.cons B4.Fv.known (.cons Dz.A4.known .nil))) fun y hp=>by
 have oy:Cj y=true:=hp
 refine ⟨0,.bool true,[],?_,.bool⟩
 have e:(Jq y==Jq y)=true:=Ass _
 rw [B4.Bz.ev,oy,e]
 rfl
end Go.Proofs.S1
end
