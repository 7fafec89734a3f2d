/- A verified evaluator of the program's form and its use for this seat: S1EqSol, S1PTri, S1EqFew, S1PSol, S1EqQr, S1PQr, S1PQrA, S1EqRef17, S1PRef17, S1EqRef14, S1PRef13, S1PRef14, S1EqGiv, S1EqRef12, SvdL, S1PGiv, S1EqSort, S1PSort. -/
import Derived.Test.YthajngaadbanfaaGreatTE
import Derived.Test.YthajngaadbanfaaGreatTF
import Derived.Test.YthajngaadbanfaaGreatTJ
import Derived.Test.YthajngaadbanfaaGreatTK
import Derived.Test.YthajngaadbanfaaGreatTI
set_option linter.unusedVariables false
set_option linter.unusedSimpArgs false
noncomputable section
open Int (toNat)
open List (length getD)
open Go.Proofs.Tryz
namespace Go.Proofs.S1
open Go Go.Den Go.Rnd Go.Proofs
set_option maxRecDepth 100000
namespace EqSol
def solve.check.hint:Nat→Option Bc
 | 0=>some { keep:=[2,3,11,12],objs:=[],boxes:=[2,3] }
 | 2=>some { keep:=[2,34,35],objs:=[],boxes:=[2] }
 | _=>none
def solve.check.Ba:List (Nat × Entry):=[(69,Cz.Check.spec),(165,soft.Kind.spec)]
def solve.check.E:Env:=Bg (Bb solve.check.Ba) (fun _=>false) solve.check.hint (fun _=>none)
section
variable (N M:Nat) (r c:Int) (l:List Int) (p q:Int) (m:List Int) (p35:Int)
def solve.check.L0:Option DV:=Cb solve.check.E N f220 (Ak f220) [1,1,1,0,1,0] [] M ⟨Fo 51 [(2,.ptr 2 0 0),(34,.int .i64 r),(35,.int .i64 p35)],[(2,false,.box [.int .i64 r,.int .i64 c,.ints .arg .u64 l])]⟩
theorem solve.check.Au:solve.check.L0 (N+4) (M+1) r c l p35=bif (Bi p35 r) then bif ((decide (0≤(Ab ((Ab (p35*c))+p35))))&&(decide ((Ab ((Ab (p35*c))+p35))<(length l:Int)))) then bif (Af (getD l (toNat (Ab ((Ab (p35*c))+p35))) 0)) then bif ((Bz (getD l (toNat (Ab ((Ab (p35*c))+p35))) 0))==(0:Int)) then some (.int .i64 5) else solve.check.L0 (N+4) M r c l (Ab (p35+1)) else none else none else some (.int .i64 0):=by kernel_rfl
theorem solve.check.ev:B0 solve.check.E (N+4) f220 (Ak f220) [.agg [.int .i64 r,.int .i64 c,.ints .arg .u64 l],.agg [.int .i64 p,.int .i64 q,.ints .arg .u64 m]]=bif (Aj l) then bif ((Cj r c l) !=(0:Int)) then some (.int .i64 (Cj r c l)) else bif (Aj m) then bif ((Cj p q m) !=(0:Int)) then some (.int .i64 (Cj p q m)) else bif ((r !=c)||(r !=p)) then some (.int .i64 3) else solve.check.L0 (N+4) (N+4) r c l (0:Int) else none else none :=
 Eq.trans (by kernel_rfl)
 (E1 (E1 rfl (E1 (E1 rfl (Ay (T3 (r !=c)) (Ay (Rv (r !=c)) (Ay (T3 (r !=c)) (Ay (Rv (r !=c)) (Ay (tt8 (r !=c)) (Ay (Y5 (r !=c)) (Cw (tt5 _ _) rfl rfl)))))))) rfl)) rfl)
end
abbrev _root_.Go.Proofs.S1.solve.check.Kn:=A8 prog 220 solve.check.spec
theorem solve.check.Ad (hk:A1 prog solve.check.Ba) (h:Hyp solve.check.E f220 solve.check.ts solve.check.pre solve.check.out):solve.check.Kn :=
 Al (A4 hk _ _ _) func220 (by kernel_rfl) (by kernel_rfl) h
def G9.G6.up.Ba:List (Nat × Entry):=[]
def G9.G6.up.E:Env:=Bg (Bb G9.G6.up.Ba) (fun _=>false) (fun _=>none) (fun _=>none)
theorem G9.G6.up.ev (N:Nat) (n k:Int):B0 G9.G6.up.E N f222 (Ak f222) [.int .i64 n,.int .i64 k]=some (.int .i64 (Ab ((Ab (n-1))-k))):=by kernel_rfl
abbrev _root_.Go.Proofs.S1.G9.G6.up.Kn:=A8 prog 222 G9.G6.up.spec
theorem G9.G6.up.Ad (hk:A1 prog G9.G6.up.Ba) (h:Hyp G9.G6.up.E f222 G9.G6.up.ts G9.G6.up.pre G9.G6.up.out):G9.G6.up.Kn :=
 Al (A4 hk _ _ _) func222 (by kernel_rfl) (by kernel_rfl) h
def solve.E5.Ba:List (Nat × Entry):=[]
def solve.E5.E:Env:=Bg (Bb solve.E5.Ba) (fun _=>false) (fun _=>none) (fun _=>none)
theorem solve.E5.ev (N:Nat) (i k:Int):B0 solve.E5.E N f223 (Ak f223) [.int .i64 i,.int .i64 k]=some (.bool (Bi i k)):=by kernel_rfl
abbrev _root_.Go.Proofs.S1.solve.E5.Kn:=A8 prog 223 solve.E5.spec
theorem solve.E5.Ad (hk:A1 prog solve.E5.Ba) (h:Hyp solve.E5.E f223 solve.E5.ts solve.E5.pre solve.E5.out):solve.E5.Kn :=
 Al (A4 hk _ _ _) func223 (by kernel_rfl) (by kernel_rfl) h
def Aa.of.A9.own.hint:Nat→Option Bc
 | 0=>some { keep:=[1,2,6,7,13,14],objs:=[(8,2,108002,.ints 43 .u64 [])],boxes:=[6,7] }
 | 2=>some { keep:=[1,2,6,7,8,13,14,17,18],objs:=[(8,2,108002,.ints 43 .u64 [])],boxes:=[6,7] }
 | _=>none
def Aa.of.A9.own.Ba:List (Nat × Entry):=[(193,Aa.Ez.spec)]
def Aa.of.A9.own.E:Env:=Bg (Bb Aa.of.A9.own.Ba) (fun _=>false) Aa.of.A9.own.hint (fun _=>none)
abbrev _root_.Go.Proofs.S1.Aa.of.A9.own.Kn:=A8 prog 117 Aa.of.A9.own.spec
theorem Aa.of.A9.own.Ad (hk:A1 prog Aa.of.A9.own.Ba) (h:Hyp Aa.of.A9.own.E f117 Aa.of.A9.own.ts Aa.of.A9.own.pre Aa.of.A9.own.out):Aa.of.A9.own.Kn :=
 Al (A4 hk _ _ _) func117 (by kernel_rfl) (by kernel_rfl) h
def Aa.A9.own.Ba:List (Nat × Entry):=[(117,Aa.of.A9.own.spec),(164,Aa.size.spec)]
def Aa.A9.own.E:Env:=Bg (Bb Aa.A9.own.Ba) (fun n=>Nat.beq n 17) (fun _=>none) (fun _=>none)
theorem Aa.A9.own.ev (N:Nat) (a b:Int):B0 Aa.A9.own.E N f149 (Ak f149) [.int .i64 a,.int .i64 b]=bif ((!(Bp a))||(!(Bp b))) then some (.tup [.agg [.int .i64 0,.int .i64 0,.nil],.int .i64 3]) else bif (Bp a&&Bp b) then some (.tup [.agg [.int .i64 a,.int .i64 b,.ints (.own 1136 43) .u64 (B8 (toNat a) (toNat b) (fun _ _=>0))],.int .i64 0]) else none :=
 Eq.trans (by kernel_rfl)
 (Ay (Un (Bp a)) (Ay (Pz (Bp a)) (Ay (Pz (Bp a)) (Ay (Xc (Bp a)) (Cw (Anh _ _) rfl rfl)))))
abbrev _root_.Go.Proofs.S1.Aa.A9.own.Kn:=A8 prog 149 Aa.A9.own.spec
theorem Aa.A9.own.Ad (hk:A1 prog Aa.A9.own.Ba) (h:Hyp Aa.A9.own.E f149 Aa.A9.own.ts Aa.A9.own.pre Aa.A9.own.out):Aa.A9.own.Kn :=
 Al (A4 hk _ _ _) func149 (by kernel_rfl) (by kernel_rfl) h
def solve.B2.Up.hint:Nat→Option Bc
 | 0=>some { keep:=[2,3,4,5,8,10,11,28,29],objs:=[(12,2,112002,.ints 43 .u64 [])],boxes:=[4,5,8,11] }
 | 2=>some { keep:=[2,3,4,5,8,10,11,13,28,29,32,33],objs:=[(12,2,112002,.ints 43 .u64 [])],boxes:=[4,5,8,11] }
 | 4=>some { keep:=[2,3,4,5,8,10,11,13,15,16,28,29,32,33,49,50],objs:=[(12,2,112002,.ints 43 .u64 [])],boxes:=[4,5,8,11] }
 | _=>none
def solve.B2.Up.Ba:List (Nat × Entry):=[(222,G9.G6.up.spec),(149,Aa.A9.own.spec),(223,solve.E5.spec),(82,Ae.Div.spec),(66,Ae.Finite.spec),(138,Ae.Mul.spec),(201,Ae.Sub.spec)]
def solve.B2.Up.E:Env:=Bg (Bb solve.B2.Up.Ba) (fun n=>Nat.beq n 24) solve.B2.Up.hint (fun _=>none)
section
variable (N M0 M1 M:Nat) (r c:Int) (l:List Int) (p q:Int) (m:List Int) (n p16 p50 p13_1 p15 p29_2 p33_1:Int) (p2_1:List Int) (p33:Int) (p2:List Int) (p13 p29_1 p29:Int) (p2_2:List Int)
def solve.B2.Up.L0:Option DV:=Cb solve.B2.Up.E N f221 (Ak f221) [1,1,1,0,1,0] [] M ⟨Fo 108 [(2,.fn 222 [.int .i64 n] []),(3,.fn 223 [] []),(4,.ptr 4 0 0),(5,.ptr 5 0 0),(8,.ptr 8 0 0),(10,.int .i64 r),(11,.ptr 11 0 0),(28,.int .i64 q),(29,.int .i64 p29)],[(4,false,.box [.int .i64 r,.int .i64 c,.ints .arg .u64 l]),(5,false,.box [.int .i64 p,.int .i64 q,.ints .arg .u64 m]),(8,false,.box [.int .i64 0,.int .i64 0,.nil]),(11,false,.box [.int .i64 r,.int .i64 q,.oref 112002]),(112002,false,.ints 43 .u64 p2_2)]⟩
def solve.B2.Up.L1:Option DV:=Cb solve.B2.Up.E N f221 (Ak f221) [1,1,1,0,1,0,0,1,1,0,0,1,0,1,1,0] [M0] M ⟨Fo 108 [(2,.fn 222 [.int .i64 n] []),(3,.fn 223 [] []),(4,.ptr 4 0 0),(5,.ptr 5 0 0),(8,.ptr 8 0 0),(10,.int .i64 r),(11,.ptr 11 0 0),(13,.int .i64 p13),(28,.int .i64 q),(29,.int .i64 p29_1),(32,.int .i64 r),(33,.int .i64 p33)],[(4,false,.box [.int .i64 r,.int .i64 c,.ints .arg .u64 l]),(5,false,.box [.int .i64 p,.int .i64 q,.ints .arg .u64 m]),(8,false,.box [.int .i64 0,.int .i64 0,.nil]),(11,false,.box [.int .i64 r,.int .i64 q,.oref 112002]),(112002,false,.ints 43 .u64 p2)]⟩
def solve.B2.Up.L2:Option DV:=Cb solve.B2.Up.E N f221 (Ak f221) [1,1,1,0,1,0,0,1,1,0,0,1,0,1,1,0,0,1,1,0,0,1,1,1,0,1,0] [M0,M1] M ⟨Fo 108 [(2,.fn 222 [.int .i64 n] []),(3,.fn 223 [] []),(4,.ptr 4 0 0),(5,.ptr 5 0 0),(8,.ptr 8 0 0),(10,.int .i64 r),(11,.ptr 11 0 0),(13,.int .i64 p13_1),(15,.int .i64 p15),(16,.int .u64 p16),(28,.int .i64 q),(29,.int .i64 p29_2),(32,.int .i64 r),(33,.int .i64 p33_1),(49,.int .i64 r),(50,.int .i64 p50)],[(4,false,.box [.int .i64 r,.int .i64 c,.ints .arg .u64 l]),(5,false,.box [.int .i64 p,.int .i64 q,.ints .arg .u64 m]),(8,false,.box [.int .i64 0,.int .i64 0,.nil]),(11,false,.box [.int .i64 r,.int .i64 q,.oref 112002]),(112002,false,.ints 43 .u64 p2_1)]⟩
theorem solve.B2.Up.Au:solve.B2.Up.L0 N (M+1) r c l p q m n p29 p2_2=bif (Bi p29 q) then solve.B2.Up.L1 N M N r c l p q m n 0 p2_2 p29 p29 else bif (B4 p2_2) then bif (!(D2 p2_2)) then some (.tup [.agg [.int .i64 0,.int .i64 0,.nil],.int .i64 2]) else some (.tup [.agg [.int .i64 r,.int .i64 q,.ints (.own 112002 43) .u64 p2_2],.int .i64 0]) else none:=by kernel_rfl
theorem solve.B2.Up.Ch:solve.B2.Up.L1 N M0 (M+1) r c l p q m n p33 p2 p13 p29_1=bif (Bi p33 r) then bif (B3 (0≤p33∧p33<n∧n≤10)) then bif ((decide (0≤(Ab ((Ab ((n-1-p33)*q))+p13))))&&(decide ((Ab ((Ab ((n-1-p33)*q))+p13))<(length m:Int)))) then solve.B2.Up.L2 N M0 M N r c l p q m n (getD m (toNat (Ab ((Ab ((n-1-p33)*q))+p13))) 0) 0 p13 (n-1-p33) p29_1 p33 p2 else none else none else solve.B2.Up.L0 N M0 r c l p q m n (Ab (p29_1+1)) p2:=by kernel_rfl
theorem solve.B2.Up.Kv:solve.B2.Up.L2 N M0 M1 (M+1) r c l p q m n p16 p50 p13_1 p15 p29_2 p33_1 p2_1=bif (Bi p50 r) then bif (decide (p15<p50)) then bif ((decide (0≤(Ab ((Ab (p15*r))+p50))))&&(decide ((Ab ((Ab (p15*r))+p50))<(length l:Int)))) then bif ((decide (0≤(Ab ((Ab (p50*q))+p13_1))))&&(decide ((Ab ((Ab (p50*q))+p13_1))<(length p2_1:Int)))) then bif (decide ((toNat (Ab ((Ab (p50*q))+p13_1)))<(length p2_1))) then bif (Af (getD l (toNat (Ab ((Ab (p15*r))+p50))) 0)&&Af (getD p2_1 (toNat (Ab ((Ab (p50*q))+p13_1))) 0)) then bif (Af p16&&Af (Ca (getD l (toNat (Ab ((Ab (p15*r))+p50))) 0) (getD p2_1 (toNat (Ab ((Ab (p50*q))+p13_1))) 0))) then solve.B2.Up.L2 N M0 M1 M r c l p q m n (Gb p16 (Ca (getD l (toNat (Ab ((Ab (p15*r))+p50))) 0) (getD p2_1 (toNat (Ab ((Ab (p50*q))+p13_1))) 0))) (Ab (p50+1)) p13_1 p15 p29_2 p33_1 p2_1 else none else none else none else none else none else solve.B2.Up.L2 N M0 M1 M r c l p q m n p16 (Ab (p50+1)) p13_1 p15 p29_2 p33_1 p2_1 else bif ((decide (0≤(Ab ((Ab (p15*r))+p15))))&&(decide ((Ab ((Ab (p15*r))+p15))<(length l:Int)))) then bif (Af p16&&Af (getD l (toNat (Ab ((Ab (p15*r))+p15))) 0)) then bif ((decide (0≤(Ab ((Ab (p15*q))+p13_1))))&&(decide ((Ab ((Ab (p15*q))+p13_1))<(length p2_1:Int)))) then bif (decide ((toNat (Ab ((Ab (p15*q))+p13_1)))<(length p2_1))) then solve.B2.Up.L1 N M0 M1 r c l p q m n (Ab (p33_1+1)) (List.set p2_1 (toNat (Ab ((Ab (p15*q))+p13_1))) (Es p16 (getD l (toNat (Ab ((Ab (p15*r))+p15))) 0))) p13_1 p29_2 else none else none else none else none :=
 Eq.trans (by kernel_rfl)
 (E1 (E1 (Cw (Kb _ _) (Cw (Kb _ _) (Cw (Ct _) (Cw (Ct _) (Cw (Ct _) rfl rfl) rfl) rfl) rfl) rfl) rfl) (Cw (Kb _ _) (Cw (Ct _) (Cw (Kb _ _) (Cw (Ct _) rfl rfl) rfl) rfl) rfl))
theorem solve.B2.Up.ev:B0 solve.B2.Up.E N f221 (Ak f221) [.agg [.int .i64 r,.int .i64 c,.ints .arg .u64 l],.agg [.int .i64 p,.int .i64 q,.ints .arg .u64 m],.fn 222 [.int .i64 n] [],.fn 223 [] []]=bif (Bp r&&Bp q) then solve.B2.Up.L0 N N r c l p q m n 0 (B8 (toNat r) (toNat q) (fun _ _=>0)) else none:=by kernel_rfl
end
abbrev _root_.Go.Proofs.S1.solve.B2.Up.Kn:=A8 prog 221 solve.B2.Up.spec
theorem solve.B2.Up.Ad (hk:A1 prog solve.B2.Up.Ba) (h:Hyp solve.B2.Up.E f221 solve.B2.Up.ts solve.B2.Up.pre solve.B2.Up.out):solve.B2.Up.Kn :=
 Al (A4 hk _ _ _) func221 (by kernel_rfl) (by kernel_rfl) h
def solve.Io.Ba:List (Nat × Entry):=[(220,solve.check.spec),(221,solve.B2.Up.spec)]
def solve.Io.E:Env:=Bg (Bb solve.Io.Ba) (fun _=>false) (fun _=>none) (fun _=>none)
theorem solve.Io.ev (N:Nat) (r c:Int) (l:List Int) (p q:Int) (m:List Int):B0 solve.Io.E N f196 (Ak f196) [.agg [.int .i64 r,.int .i64 c,.ints .arg .u64 l],.agg [.int .i64 p,.int .i64 q,.ints .arg .u64 m]]=bif (Aj l&&Aj m) then bif ((Zb r c l p q m) !=(0:Int)) then some (.tup [.agg [.int .i64 0,.int .i64 0,.nil],.int .i64 (Zb r c l p q m)]) else bif (Aeq r c l p q m&&decide (r=r)) then some (.tup [.agg [.int .i64 ((T5 r q (upG c l q m (toNat r) (toNat q))).1),.int .i64 ((T5 r q (upG c l q m (toNat r) (toNat q))).2.1),.ints .fresh .u64 ((T5 r q (upG c l q m (toNat r) (toNat q))).2.2.1)],.int .i64 ((T5 r q (upG c l q m (toNat r) (toNat q))).2.2.2)]) else none else none:=by kernel_rfl
abbrev _root_.Go.Proofs.S1.solve.Io.Kn:=A8 prog 196 solve.Io.spec
theorem solve.Io.Ad (hk:A1 prog solve.Io.Ba) (h:Hyp solve.Io.E f196 solve.Io.ts solve.Io.pre solve.Io.out):solve.Io.Kn :=
 Al (A4 hk _ _ _) func196 (by kernel_rfl) (by kernel_rfl) h
def solve.Flat.hint:Nat→Option Bc
 | 0=>some { keep:=[1,5,6],objs:=[(0,5,100005,.ints 43 .u64 [])],boxes:=[1] }
 | 2=>some { keep:=[7,44,45,46],objs:=[(0,44,100044,.ints 43 .u64 [])],boxes:=[] }
 | _=>none
def solve.Flat.Ba:List (Nat × Entry):=[(69,Cz.Check.spec),(80,compare.Hn.spec),(78,compare.K3.spec),(124,Ae.Bv.spec),(79,Ae.Br.spec)]
def solve.Flat.E:Env:=Bg (Bb solve.Flat.Ba) (fun _=>false) solve.Flat.hint (fun _=>none)
section
variable (N M:Nat) (r c:Int) (l:List Int) (p6:Int) (p5:List Int) (p46:Int)
def solve.Flat.L0:Option DV:=Cb solve.Flat.E N f194 (Ak f194) [1,1,1,0,1,0] [] M ⟨Fo 55 [(1,.ptr 1 0 0),(5,.oref 100005),(6,.int .i64 p6)],[(1,false,.box [.int .i64 r,.int .i64 c,.ints .arg .u64 l]),(100005,false,.ints 43 .u64 p5)]⟩
def solve.Flat.L1:Option DV:=Cb solve.Flat.E N f194 (Ak f194) [1,1,1,1,1,0,1,0] [] M ⟨Fo 55 [(7,.int .u64 (Bf (Bw p5) (-40:Int))),(44,.oref 100044),(45,.int .i64 (length p5:Int)),(46,.int .i64 p46)],[(100044,false,.ints 43 .u64 p5)]⟩
theorem solve.Flat.Au:solve.Flat.L0 N (M+1) r c l p6 p5=bif ((Bi p6 r)&&(Bi p6 c)) then bif ((decide (0≤(Ab ((Ab (p6*c))+p6))))&&(decide ((Ab ((Ab (p6*c))+p6))<(length l:Int)))) then bif (Af (getD l (toNat (Ab ((Ab (p6*c))+p6))) 0)) then bif (decide ((length p5)+1≤G8)) then solve.Flat.L0 N M r c l (Ab (p6+1)) (p5++[(Gj (getD l (toNat (Ab ((Ab (p6*c))+p6))) 0))]) else none else none else none else bif (B4 p5) then bif (Dd (Bw p5) (-40:Int)) then solve.Flat.L1 N N p5 (0:Int) else none else none :=
 Eq.trans (by kernel_rfl)
 (Ay (R5 (Bi p6 r)) (Ay (R5 (Bi p6 r)) (Ay (Oo (Bi p6 r)) (Ay (Ani (Bi p6 r)) (Ay (W8 (Bi p6 r)) (Cw (tt1 _ _) rfl rfl))))))
theorem solve.Flat.Ch:solve.Flat.L1 N (M+1) p5 p46=bif (Bi p46 (length p5:Int)) then bif ((decide (0≤p46))&&(decide (p46<(length p5:Int)))) then bif (decide ((toNat p46)<(length p5))) then bif (Af (Bf (Bw p5) (-40:Int))&&Af (getD p5 (toNat p46) 0)) then bif (!(decide (G7 (Bf (Bw p5) (-40:Int)) (getD p5 (toNat p46) 0)<0))) then some (.tup [.bool true,.int .i64 0]) else solve.Flat.L1 N M p5 (Ab (p46+1)) else none else none else none else some (.tup [.bool false,.int .i64 0]):=by kernel_rfl
theorem solve.Flat.ev:B0 solve.Flat.E N f194 (Ak f194) [.agg [.int .i64 r,.int .i64 c,.ints .arg .u64 l]]=bif (Aj l) then bif ((Cj r c l) !=(0:Int)) then some (.tup [.bool false,.int .i64 (Cj r c l)]) else solve.Flat.L0 N N r c l 0 [] else none:=by kernel_rfl
end
abbrev _root_.Go.Proofs.S1.solve.Flat.Kn:=A8 prog 194 solve.Flat.spec
theorem solve.Flat.Ad (hk:A1 prog solve.Flat.Ba) (h:Hyp solve.Flat.E f194 solve.Flat.ts solve.Flat.pre solve.Flat.out):solve.Flat.Kn :=
 Al (A4 hk _ _ _) func194 (by kernel_rfl) (by kernel_rfl) h
end EqSol
open EqSol
theorem solve.E5.known:solve.E5.Kn:=solve.E5.Ad .nil fun i k _=>by
 refine ⟨0,solve.E5.out [.i i,.i k],[],?_,.bool⟩
 rw [solve.E5.ev,Av]; rfl
theorem Ary.known:G9.G6.up.Kn:=G9.G6.up.Ad .nil fun n k hp=>by
 have hp:=Aq.1 (show B3 (0≤k∧k<n∧n≤10)=true from hp)
 refine ⟨0,G9.G6.up.out [.i n,.i k],[],?_,.int⟩
 rw [G9.G6.up.ev,An (x:=n-1) (by omega) (by omega),An (by omega) (by omega)]; rfl
theorem Aa.of.A9.own.known:Aa.of.A9.own.Kn:=Aa.of.A9.own.Ad (.cons Aa.Ez.known .nil) fun a b hp=>by
 have h1:(Bp a&&Bp b)=true:=hp
 obtain ⟨ha,hb⟩:=Ac.1 h1
 obtain ⟨A,rfl,hA⟩:=Fj ha
 obtain ⟨B,rfl,hB⟩:=Fj hb
 refine ⟨8,.agg [.int .i64 (A:Int),.int .i64 (B:Int),.ints (.own 108002 tB) .u64 (B8 A B fun (i j:Nat)=>(0:Int))],[],?_,Wk.Hc (.cons .int (.cons .int (.cons (.keep _ _ _ _ List.not_mem_nil) .nil)))⟩
 have n:=of.A9.outer 8 hA hB (by omega) (F:=fun (i j:Nat)=>(0:Int)) (fun _ _=>rfl) A 0 8 (by omega) (by omega)
 rw [La] at n
 exact (EqOf.Aa.of.A9.ev 8 (A:Int) (B:Int)).trans n
theorem Aa.A9.own.known:Aa.A9.own.Kn:=Aa.A9.own.Ad (.cons Aa.of.A9.own.known (.cons Aa.size.known .nil)) fun a b hp=>by
 have hp:(Bp a&&Bp b)=true:=hp
 obtain ⟨ha,hb⟩:=Ac.1 hp
 refine ⟨0,Aa.A9.own.out [.i a,.i b],[],?_,?_⟩
 ·rw [Aa.A9.own.ev,ha,hb]; rfl
 ·exact Wk.Hs (.cons (Wk.Hc (.cons .int (.cons .int (.cons (.keep _ _ _ _ List.not_mem_nil) .nil)))) (.cons .int .nil))
section
variable {n Q:Nat} {l m:List Int}
def upF (n Q:Nat) (l m:List Int) (i j:Nat):Int:=(upL (n:Int) l (fun i=>D8 (Q:Int) m (i:Int) (j:Int)) n n).getD i 0
def upD (n j k a b:Nat):Bool:=decide (b<j∨(b=j∧n-k≤a))
def Yf (n Q:Nat) (l m:List Int) (j k:Nat):List Int:=B8 n Q fun a b=>if upD n j k a b=true then upF n Q l m a b else 0
theorem Aqq (i j:Nat):Af (upF n Q l m i j)=true:=Aml (Aqp _ _ _ _ _) i
theorem Ayc (j k:Nat):Aj (Yf n Q l m j k)=true:=I9 fun a b=>by
 split
 ·exact Aqq _ _
 ·exact Cm (n:=0) (by decide)
theorem Au1 {j k t:Nat} (ht:t<n) (hj:j<Q) (hk:n-k≤t):D8 (Q:Int) (Yf n Q l m j k) (t:Int) (j:Int)=upF n Q l m t j:=by
 unfold Yf
 have hd:upD n j k t j=true:=A4r (.inr ⟨rfl,hk⟩)
 rw [Mp ht hj,hd,A5d rfl]
theorem Aek (j k:Nat):(Yf n Q l m j k).length=n*Q:=Cd _ _ _
theorem Aql (N:Nat) (n6:n≤6) (q6:Q≤6) (hl:l.length=n*n) (al:Aj l=true) {i j k:Nat} (hi:i+k+1=n) (hj:j<Q) (M0 M1:Nat) (p29 p33:Int) :
 ∀ (cnt t F:Nat) (s:Int),t+cnt=n→cnt<F→i+1≤t→Af s=true →
 solve.B2.Up.L2 N M0 M1 F (n:Int) (n:Int) l (n:Int) (Q:Int) m (n:Int) s (t:Int) (j:Int) (i:Int) p29 p33 (Yf n Q l m j k) =
 solve.B2.Up.L1 N M0 M1 (n:Int) (n:Int) l (n:Int) (Q:Int) m (n:Int) (Ab (p33+(1:Int))) (List.set (Yf n Q l m j k) (toNat ((i:Int)*(Q:Int)+(j:Int))) (Es (Wp (n:Int) l (i:Int) s (t:Int) ((upL (n:Int) l (fun i=>D8 (Q:Int) m (i:Int) (j:Int)) n n).drop t)) (D8 (n:Int) l (i:Int) (i:Int)))) (j:Int) p29:=by
 intro cnt
 induction cnt with
 | zero =>
   intro t F s ht hF hit hs
   obtain ⟨F,rfl⟩:∃ G,F=G+1:=⟨F-1,by omega⟩
   obtain ⟨e1,g1,g2⟩:=Mr (R:=(n:Int)) (Fa n6 n6 hl (show i<n by omega) (show i<n by omega))
   obtain ⟨e2,g3,g4⟩:=Mr (R:=(n:Int)) (Fa n6 q6 (Aek (l:=l) (m:=m) j k) (show i<n by omega) hj)
   rw [A44 (by rw [Um]; omega),Wp]
   rw [solve.B2.Up.Kv,Av,A4v (show ¬ (t:Int)<(n:Int) by omega),A4u,e1,A4r g1,A4r g2,A4w,A4q,hs,show Af (getD l (toNat ((i:Int)*(n:Int)+(i:Int))) 0)=true from Sy (c:=(n:Int)) al,A4w,A4q,
    e2,A4r g3,A4r g4,A4w,A4q,A4r (show toNat ((i:Int)*(Q:Int)+(j:Int))<(Yf n Q l m j k).length by omega),A4q]
   rfl
 | succ cnt ih =>
   intro t F s ht hF hit hs
   obtain ⟨F,rfl⟩:∃ G,F=G+1:=⟨F-1,by omega⟩
   obtain ⟨e1,g1,g2⟩:=Mr (R:=(n:Int)) (Fa n6 n6 hl (show i<n by omega) (show t<n by omega))
   obtain ⟨e2,g3,g4⟩:=Mr (R:=(n:Int)) (Fa n6 q6 (Aek (l:=l) (m:=m) j k) (show t<n by omega) hj)
   have hx:getD (Yf n Q l m j k) (toNat ((t:Int)*(Q:Int)+(j:Int))) 0=upF n Q l m t j:=Au1 (by omega) hj (by omega)
   rw [solve.B2.Up.Kv,Av,A4r (show (t:Int)<(n:Int) by omega),A4q,A4r (show (i:Int)<(t:Int) by omega),A4q,e1,A4r g1,A4r g2,A4w,A4q,
    e2,A4r g3,A4r g4,A4w,A4q,A4r (show toNat ((t:Int)*(Q:Int)+(j:Int))<(Yf n Q l m j k).length by omega),A4q,hx,
    show Af (getD l (toNat ((i:Int)*(n:Int)+(t:Int))) 0)=true from Sy (c:=(n:Int)) al,Aqq,A4w,A4q,hs,Eu,A4w,A4q,An (x:=(t:Int)+1) (by omega) (by omega)]
   have:=ih (t+1) F (Gb s (Ca (D8 (n:Int) l (i:Int) (t:Int)) (upF n Q l m t j))) (by omega) (by omega) (by omega) (Q3 hs (Eu _ _))
   rw [Ao7 (by rw [Um]; omega)]
   exact this
theorem Aux (N:Nat) (n6:n≤6) {i j k:Nat} (hi:i<n) (M0 M1:Nat) (p29 p33 s:Int):∀ (cnt t F:Nat),t+cnt=i+1 →
 solve.B2.Up.L2 N M0 M1 (F+cnt) (n:Int) (n:Int) l (n:Int) (Q:Int) m (n:Int) s (t:Int) (j:Int) (i:Int) p29 p33 (Yf n Q l m j k) =
 solve.B2.Up.L2 N M0 M1 F (n:Int) (n:Int) l (n:Int) (Q:Int) m (n:Int) s ((i+1:Nat):Int) (j:Int) (i:Int) p29 p33 (Yf n Q l m j k):=by
 intro cnt
 induction cnt with
 | zero =>
   intro t F ht
   obtain rfl:t=i+1:=by omega
   rfl
 | succ cnt ih =>
   intro t F ht
   rw [← Nat.add_assoc,solve.B2.Up.Kv,Av,A4r (show (t:Int)<(n:Int) by omega),A4q,A4v (show ¬ (i:Int)<(t:Int) by omega),A4u,An (by omega) (by omega)]
   exact ih (t+1) F (by omega)
theorem Au0 {i j k:Nat} (hi:i+k+1=n) (hj:j<Q) {x:Int} (hx:x=upF n Q l m i j):List.set (Yf n Q l m j k) (toNat ((i:Int)*(Q:Int)+(j:Int))) x=Yf n Q l m j (k+1):=by
 refine Aiu hj hx fun a b ha hb=>?_
 unfold upD
 rw [A4x,A4x]
 omega
theorem Auy (N:Nat) (n6:n≤6) (q6:Q≤6) (hN:7<N) (hl:l.length=n*n) (hm:m.length=n*Q) (al:Aj l=true) (am:Aj m=true) {j:Nat} (hj:j<Q) (M0:Nat):∀ (cnt k F:Nat),k+cnt=n→cnt<F →
 solve.B2.Up.L1 N M0 F (n:Int) (n:Int) l (n:Int) (Q:Int) m (n:Int) (k:Int) (Yf n Q l m j k) (j:Int) (j:Int) =
 solve.B2.Up.L0 N M0 (n:Int) (n:Int) l (n:Int) (Q:Int) m (n:Int) ((j+1:Nat):Int) (Yf n Q l m j n):=by
 intro cnt
 induction cnt with
 | zero =>
   intro k F hk hF
   obtain ⟨F,rfl⟩:∃ G,F=G+1:=⟨F-1,by omega⟩
   obtain rfl:k=n:=by omega
   rw [solve.B2.Up.Ch,Av,A4v (by omega),A4u,An (by omega) (by omega)]
   rfl
 | succ cnt ih =>
   intro k F hk hF
   obtain ⟨F,rfl⟩:∃ G,F=G+1:=⟨F-1,by omega⟩
   obtain ⟨i,hi⟩:∃ i:Nat,i+k+1=n:=⟨n-k-1,by omega⟩
   have ei:(n:Int)-1-(k:Int)=(i:Int):=by omega
   obtain ⟨e2,g3,g4⟩:=Mr (R:=(n:Int)) (Fa n6 q6 hm (show i<n by omega) hj)
   rw [solve.B2.Up.Ch,Av,A4r (show (k:Int)<(n:Int) by omega),A4q,Aq.2 (show 0≤(k:Int)∧(k:Int)<(n:Int)∧(n:Int)≤10 by omega),A4q,ei,e2,A4r g3,A4r g4,A4w,A4q]
   obtain ⟨G,rfl⟩:∃ G,N=G+(i+1):=⟨N-(i+1),by omega⟩
   have hs:=Aux (n:=n) (Q:=Q) (l:=l) (m:=m) (G+(i+1)) n6 (i:=i) (j:=j) (k:=k) (by omega) M0 F (j:Int) (k:Int) (D8 (Q:Int) m (i:Int) (j:Int)) (i+1) 0 G (by omega)
   have hr:=Aql (n:=n) (Q:=Q) (l:=l) (m:=m) (G+(i+1)) n6 q6 hl al hi hj M0 F (j:Int) (k:Int) (n-(i+1)) (i+1) G (D8 (Q:Int) m (i:Int) (j:Int)) (by omega) (by omega) (by omega) (Sy (c:=(Q:Int)) am)
   rw [Au0 hi hj (Au3 (show i<n by omega)).symm,An (by omega) (by omega)] at hr
   exact (hs.trans hr).trans (ih (k+1) F (by omega) (by omega))
theorem Aqo (j:Nat):Yf n Q l m j n=Yf n Q l m (j+1) 0:=by
 unfold Yf
 refine D6 fun a b ha hb=>?_
 have:upD n j n a b=upD n (j+1) 0 a b:=by
  unfold upD
  rw [decide_eq_decide]
  omega
 rw [this]
theorem Aqn:Yf n Q l m 0 0=B8 n Q fun _ _=>0:=by
 unfold Yf
 refine D6 fun a b ha hb=>?_
 have:upD n 0 0 a b=false:=A4v (by omega)
 rw [this]; rfl
theorem Au2:Yf n Q l m Q 0=upG (n:Int) l (Q:Int) m n Q:=by
 unfold Yf upG
 refine D6 fun a b ha hb=>?_
 have:upD n Q 0 a b=true:=A4r (.inl hb)
 rw [this]; rfl
theorem Auz (N:Nat) (n6:n≤6) (q6:Q≤6) (hN:7<N) (hl:l.length=n*n) (hm:m.length=n*Q) (al:Aj l=true) (am:Aj m=true):∀ (cnt j F:Nat),j+cnt=Q→cnt<F →
 solve.B2.Up.L0 N F (n:Int) (n:Int) l (n:Int) (Q:Int) m (n:Int) (j:Int) (Yf n Q l m j 0) =
 bif D2 (Yf n Q l m Q 0) then some (.tup [.agg [.int .i64 (n:Int),.int .i64 (Q:Int),.ints (.own 112002 tB) .u64 (Yf n Q l m Q 0)],.int .i64 (0:Int)]) else some (Asd 2):=by
 intro cnt
 induction cnt with
 | zero =>
   intro j F hj hF
   obtain ⟨F,rfl⟩:∃ G,F=G+1:=⟨F-1,by omega⟩
   obtain rfl:j=Q:=by omega
   have h36:=A5m n6 q6
   rw [solve.B2.Up.Au,Av,A4v (by omega),A4u,Gi (Ayc _ _) (by rw [Aek]; omega),A4q]
   cases D2 (Yf n j l m j 0)<;>rfl
 | succ cnt ih =>
   intro j F hj hF
   obtain ⟨F,rfl⟩:∃ G,F=G+1:=⟨F-1,by omega⟩
   have hr:=Auy N n6 q6 hN hl hm al am (show j<Q by omega) F n 0 N (by omega) (by omega)
   rw [Aqo] at hr
   rw [solve.B2.Up.Au,Av,A4r (show (j:Int)<(Q:Int) by omega),A4q]
   exact hr.trans (ih (j+1) F (by omega) (by omega))
end
theorem solve.B2.Up.known:solve.B2.Up.Kn:=solve.B2.Up.Ad (.cons Ary.known (.cons Aa.A9.own.known (.cons solve.E5.known (.cons Ae.Div.known (.cons Ae.Finite.known (.cons Ae.Mul.known (.cons Ae.Sub.known .nil))))))) fun r c l p q m n hp=>by
 show ∃ N dv drops,_=some dv∧Wk drops dv (R3 (T5 r q (upG c l q m (toNat r) (toNat q))))
 obtain ⟨h1,hn⟩:=Ac.1 (show (Aeq r c l p q m&&decide (n=r))=true from hp)
 obtain ⟨h2,h3⟩:=Ac.1 h1
 obtain ⟨hr,hm⟩:=Ac.1 h2
 obtain ⟨h4,h5⟩:=Ac.1 h3
 obtain ⟨al,am⟩:=Ac.1 h4
 obtain ⟨rfl,rfl⟩:=Aq.1 h5
 obtain rfl:=A5g hn
 have s1:=(Jv hr).1
 have s2:=(Jv hm).2
 obtain ⟨R,C,rfl,hC,r6,c6,hl⟩:=Cu hr
 obtain ⟨P,Q,hP,rfl,p6,q6,hl2⟩:=Cu hm
 obtain rfl:R=C:=by omega
 obtain rfl:R=P:=by omega
 have h:=Auz (n:=R) (Q:=Q) (l:=l) (m:=m) 8 r6 q6 (by omega) hl hl2 al am Q 0 8 (by omega) (by omega)
 rw [Aqn,Au2,show ((0:Nat):Int)=0 from rfl] at h
 rw [A4s,A4s]
 unfold T5
 cases hf:D2 (upG (R:Int) l (Q:Int) m R Q) with
 | true =>
   rw [hf,A4q] at h
   rw [A5d rfl]
   refine ⟨8,.tup [.agg [.int .i64 (R:Int),.int .i64 (Q:Int),.ints (.own 112002 tB) .u64 (upG (R:Int) l (Q:Int) m R Q)],.int .i64 0],[112002],?_,Wk.Hs (.cons (R7 (List.mem_singleton.2 rfl)) (.cons .int .nil))⟩
   rw [solve.B2.Up.ev,s1,s2,A4w,A4q,A4s,A4s]
   exact h
 | false =>
   rw [hf,A4u] at h
   rw [A5c (by decide)]
   refine ⟨8,Asd 2,[],?_,Iy⟩
   rw [solve.B2.Up.ev,s1,s2,A4w,A4q,A4s,A4s]
   exact h
namespace EqFew
def qr.Gk.Ba:List (Nat × Entry):=[(65,Aa.Mul.spec),(203,Aa.Cv.spec)]
def qr.Gk.E:Env:=Bg (Bb qr.Gk.Ba) (fun _=>false) (fun _=>none) (fun _=>none)
theorem qr.Gk.ev (N:Nat) (r c:Int) (l:List Int) (p q:Int) (m:List Int):B0 qr.Gk.E N f195 (Ak f195) [.agg [.int .i64 r,.int .i64 c,.ints .arg .u64 l],.agg [.int .i64 p,.int .i64 q,.ints .arg .u64 m]]=bif (((Ds r c l).2.2.2) !=(0:Int)) then some (.tup [.agg [.int .i64 0,.int .i64 0,.nil],.int .i64 ((Ds r c l).2.2.2)]) else bif (Aj ((Ds r c l).2.2.1)&&Aj m) then some (.tup [.agg [.int .i64 ((Xv ((Ds r c l).1) ((Ds r c l).2.1) ((Ds r c l).2.2.1) p q m).1),.int .i64 ((Xv ((Ds r c l).1) ((Ds r c l).2.1) ((Ds r c l).2.2.1) p q m).2.1),.ints .fresh .u64 ((Xv ((Ds r c l).1) ((Ds r c l).2.1) ((Ds r c l).2.2.1) p q m).2.2.1)],.int .i64 ((Xv ((Ds r c l).1) ((Ds r c l).2.1) ((Ds r c l).2.2.1) p q m).2.2.2)]) else none:=by kernel_rfl
abbrev _root_.Go.Proofs.S1.qr.Gk.Kn:=A8 prog 195 qr.Gk.spec
theorem qr.Gk.Ad (hk:A1 prog qr.Gk.Ba) (h:Hyp qr.Gk.E f195 qr.Gk.ts qr.Gk.pre qr.Gk.out):qr.Gk.Kn :=
 Al (A4 hk _ _ _) func195 (by kernel_rfl) (by kernel_rfl) h
end EqFew
open EqSol EqFew
theorem Aj7 {n i:Nat} (h:i<n):(List.range n).drop i=i::(List.range n).drop (i+1):=by
 rw [List.drop_eq_getElem_cons (by rw [A5t]; exact h),List.getElem_range]
theorem Ki {r c:Int} {l:List Int} (h:Cj r c l=0):A3 r c l=true∧D2 l=true:=by
 unfold Cj at h
 by_cases h1:A3 r c l=true
 ·rw [A5d h1] at h
  by_cases h2:D2 l=true
  ·exact ⟨h1,h2⟩
  ·rw [A5c h2] at h; exact absurd h (by decide)
 ·rw [A5c h1] at h; exact absurd h (by decide)
theorem Y7 {x:Int} (h:x≠0):(x !=(0:Int))=true:=by simpa using h
theorem H6 {x:Int} (h:x=0):(x !=(0:Int))=false:=by rw [h]; rfl
theorem Ak8 (N:Nat) {n:Nat} {l:List Int} (n6:n≤6) (hl:l.length=n*n) (al:Aj l=true):∀ (cnt i F:Nat),i+cnt=n→cnt<F →
 solve.check.L0 (N+4) F (n:Int) (n:Int) l (i:Int)=some (.int .i64 (if ((List.range n).drop i).any (fun i:Nat=>decide (Bz (D8 (n:Int) l (i:Int) (i:Int))=0))=true then 5 else 0)):=by
 intro cnt
 induction cnt with
 | zero =>
   intro i F hi hF
   obtain ⟨F,rfl⟩:∃ G,F=G+1:=⟨F-1,by omega⟩
   rw [solve.check.Au,Av,A4v (by omega),A4u,A44 (by rw [A5t]; omega)]; rfl
 | succ cnt ih =>
   intro i F hi hF
   obtain ⟨F,rfl⟩:∃ G,F=G+1:=⟨F-1,by omega⟩
   obtain ⟨e1,g1,g2⟩:=Mr (R:=(n:Int)) (Fa n6 n6 hl (show i<n by omega) (show i<n by omega))
   have hx:getD l (toNat ((i:Int)*(n:Int)+(i:Int))) 0=D8 (n:Int) l (i:Int) (i:Int):=rfl
   rw [solve.check.Au,Av,A4r (show (i:Int)<(n:Int) by omega),A4q,e1,A4r g1,A4r g2,A4w,A4q,hx,Sy al,A4q,Aj7 (by omega),List.any_cons]
   by_cases hk:Bz (D8 (n:Int) l (i:Int) (i:Int))=0
   ·have e:(Bz (D8 (n:Int) l (i:Int) (i:Int))==(0:Int))=true:=by rw [hk]; rfl
    rw [e,A4q,A4r hk]; rfl
   ·have e:(Bz (D8 (n:Int) l (i:Int) (i:Int))==(0:Int))=false:=by simpa using hk
    rw [e,A4u,A4v hk,Bool.false_or,An (by omega) (by omega)]
    exact ih (i+1) F (by omega) (by omega)
theorem A1y {r c p:Int}:((r !=c)||(r !=p))=decide (r≠c∨r≠p):=by
 rw [A46]; simp
theorem solve.check.known:solve.check.Kn:=solve.check.Ad (.cons Cz.Check.known (.cons soft.Kind.known .nil)) fun r c l p q m hp=>by
 obtain ⟨al,am⟩:=Ac.1 (show (Aj l&&Aj m)=true from hp)
 refine ⟨14,solve.check.out [.i r,.i c,.l l,.i p,.i q,.l m],[],?_,.int⟩
 show _=some (DV.int .i64 (Zb r c l p q m))
 rw [show (14:Nat)=10+4 from rfl,solve.check.ev,al,A4q,am,A4q,A1y]
 unfold Zb
 by_cases h1:Cj r c l=0
 ·rw [H6 h1,A4u,A5c (by rw [h1]; decide)]
  by_cases h2:Cj p q m=0
  ·rw [H6 h2,A4u,A5c (by rw [h2]; decide)]
   by_cases h3:r≠c∨r≠p
   ·rw [A4r h3,A4q,A5d h3]
   ·rw [A4v h3,A4u,A5c h3]
    obtain rfl:r=c:=Decidable.byContradiction fun h=>h3 (.inl h)
    obtain ⟨R,C,rfl,hC,r6,c6,hl⟩:=Cu (Ki h1).1
    obtain rfl:R=C:=by omega
    rw [A4s]
    exact Ak8 10 r6 hl al R 0 14 (by omega) (by omega)
  ·rw [Y7 h2,A4q,A5d h2]
 ·rw [Y7 h1,A4q,A5d h1]
theorem Apx {r c:Int} {l:List Int} {p q:Int} {m:List Int} (h:Zb r c l p q m=0):A3 r c l=true∧A3 p q m=true∧r=c∧r=p:=by
 unfold Zb at h
 by_cases h1:Cj r c l=0
 ·rw [A5c (by rw [h1]; decide)] at h
  by_cases h2:Cj p q m=0
  ·rw [A5c (by rw [h2]; decide)] at h
   by_cases h3:r≠c∨r≠p
   ·rw [A5d h3] at h; exact absurd h (by decide)
   ·exact ⟨(Ki h1).1,(Ki h2).1,Decidable.byContradiction fun h=>h3 (.inl h),Decidable.byContradiction fun h=>h3 (.inr h)⟩
  ·rw [A5d h2] at h; exact absurd h h2
 ·rw [A5d h1] at h; exact absurd h h1
theorem solve.Io.known:solve.Io.Kn:=solve.Io.Ad (.cons solve.check.known (.cons solve.B2.Up.known .nil)) fun r c l p q m hp=>by
 have hp:(Aj l&&Aj m)=true:=hp
 show ∃ N dv drops,_=some dv∧Wk drops dv (R3 (upX r c l p q m))
 unfold upX
 by_cases h:Zb r c l p q m=0
 ·obtain ⟨h1,h2,h3,h4⟩:=Apx h
  have ht:Aeq r c l p q m=true:=Ac.2 ⟨Ac.2 ⟨h1,h2⟩,Ac.2 ⟨hp,Aq.2 ⟨h3,h4⟩⟩⟩
  rw [A5c (by rw [h]; decide)]
  exact ⟨0,_,[],by rw [solve.Io.ev,hp,A4q,H6 h,A4u,ht,A4r rfl]; rfl,Ol⟩
 ·rw [A5d h]
  exact ⟨0,_,[],by rw [solve.Io.ev,hp,A4q,Y7 h,A4q]; rfl,Iy⟩
theorem Ara {b:Nat} {n:Int} (h:b<2^64):(Fk b n).1<2^64:=by
 unfold Fk
 by_cases h4:Ai b=4
 ·rw [A5d h4]; exact (by decide:Ok<2^64)
 rw [A5c h4]
 by_cases h3:Ai b=3∨Ai b=0
 ·rw [A5d h3]; exact h
 rw [A5c h3]
 exact Vq _ _ _
theorem Ha {b n:Int} (h:Af b=true):Af (Bf b n)=true:=by
 obtain ⟨x,rfl,hx⟩:=By h
 exact Cm (Ara (by rw [A4s]; exact hx))
theorem Ab0:∀ (l:List Int) (m:Nat),m<2^64→P6 l m<2^64
 | [],m,h=>h
 | x::l,m,h=>by
   unfold P6
   split
   ·exact (by decide:Ok<2^64)
   ·have h2:Ge x.toNat<2^63:=Aee x.toNat
    exact Ab0 l _ (by omega)
theorem P5 (l:List Int):Af (Bw l)=true:=Cm (Ab0 l 0 (by decide))
theorem Ns (x:Int):Af (Gj x)=true:=Cm (Nat.lt_trans (Aee x.toNat) (by decide))
theorem Apk (N:Nat) {d:List Int} (hd:B4 d=true) (h7:d.length≤1000):∀ (cnt i F:Nat),i+cnt=d.length→cnt<F →
 solve.Flat.L1 N F d (i:Int)=some (.tup [.bool ((d.drop i).any fun x=>!(decide (G7 (Bf (Bw d) (-40)) x<0))),.int .i64 0]):=by
 obtain ⟨_,hu⟩:=I4 hd
 intro cnt
 induction cnt with
 | zero =>
   intro i F hi hF
   obtain ⟨F,rfl⟩:∃ G,F=G+1:=⟨F-1,by omega⟩
   rw [solve.Flat.Ch,Av,A4v (by omega),A4u,A44 (by omega)]; rfl
 | succ cnt ih =>
   intro i F hi hF
   obtain ⟨F,rfl⟩:∃ G,F=G+1:=⟨F-1,by omega⟩
   rw [solve.Flat.Ch,Av,A4r (show (i:Int)<(d.length:Int) by omega),A4q,A4r (show (0:Int)≤(i:Int) by omega),A4w,A4q,A4s,A4r (show i<d.length by omega),A4q,
    Ha (P5 d),hu i (by omega),A4w,A4q,J8 (by omega),List.any_cons]
   cases decide (G7 (Bf (Bw d) (-40)) (d.getD i 0)<0) with
   | false=>rfl
   | true =>
     rw [A5p,A4u,Bool.false_or,An (by omega) (by omega)]
     exact ih (i+1) F (by omega) (by omega)
theorem Aw0 (c:Int) (l:List Int) (n:Nat):Aj (Yy c l n)=true:=Aq.2 fun x hx=>by
 obtain ⟨j,_,rfl⟩:=List.mem_map.1 hx
 exact Ns _
theorem Pu (c:Int) (l:List Int) (n:Nat):(Yy c l n).length=n:=by unfold Yy; rw [A5w,A5t]
theorem Apl (N:Nat) {R C:Nat} {l:List Int} (r6:R≤6) (c6:C≤6) (hN:7<N) (hl:l.length=R*C) (al:Aj l=true):∀ (cnt i F:Nat),i+cnt=min R C→cnt<F →
 solve.Flat.L0 N F (R:Int) (C:Int) l (i:Int) (Yy (C:Int) l i)=some (.tup [.bool (Ax4 (Yy (C:Int) l (min R C))),.int .i64 0]):=by
 intro cnt
 induction cnt with
 | zero =>
   intro i F hi hF
   obtain ⟨F,rfl⟩:∃ G,F=G+1:=⟨F-1,by omega⟩
   obtain rfl:i=min R C:=by omega
   have hlt:(Bi (((min R C:Nat)):Int) (R:Int)&&Bi (((min R C:Nat)):Int) (C:Int))=false:=by
    rw [Av,Av,Bool.and_eq_false_iff,A49,A49]; omega
   have ok:=Gi (Aw0 (C:Int) l (min R C)) (by rw [Pu]; omega)
   have sp:Dd (Bw (Yy (C:Int) l (min R C))) (-40:Int)=true:=Ac.2 ⟨P5 _,Aq.2 (by omega)⟩
   rw [solve.Flat.Au,hlt,A4u,ok,A4q,sp,A4q]
   exact Apk N ok (by rw [Pu]; omega) (min R C) 0 N (by rw [Pu]; omega) (by omega)
 | succ cnt ih =>
   intro i F hi hF
   obtain ⟨F,rfl⟩:∃ G,F=G+1:=⟨F-1,by omega⟩
   obtain ⟨e1,g1,g2⟩:=Mr (R:=(R:Int)) (Fa r6 c6 hl (show i<R by omega) (show i<C by omega))
   have hx:getD l (toNat ((i:Int)*(C:Int)+(i:Int))) 0=D8 (C:Int) l (i:Int) (i:Int):=rfl
   rw [solve.Flat.Au,Av,Av,A4r (show (i:Int)<(R:Int) by omega),A4r (show (i:Int)<(C:Int) by omega),A4w,A4q,e1,A4r g1,A4r g2,A4w,A4q,hx,Sy al,A4q,
    Pu,A4r (show i+1≤G8 by unfold G8; omega),A4q,An (by omega) (by omega)]
   have:=ih (i+1) F (by omega) (by omega)
   unfold Yy at this ⊢
   rw [Jt] at this
   exact this
theorem solve.Flat.known:solve.Flat.Kn:=solve.Flat.Ad (.cons Cz.Check.known (.cons compare.Hn.known (.cons compare.K3.known (.cons Ae.Bv.known (.cons Ae.Br.known .nil))))) fun r c l hp=>by
 have hp:Aj l=true:=hp
 refine ⟨8,solve.Flat.out [.i r,.i c,.l l],[],?_,Wk.Hs (.cons .bool (.cons .int .nil))⟩
 show _=some (DV.tup [.bool (Ss r c l).1,.int .i64 (Ss r c l).2])
 rw [solve.Flat.ev,hp,A4q]
 unfold Ss Atc
 by_cases h1:Cj r c l=0
 ·obtain ⟨R,C,rfl,rfl,r6,c6,hl⟩:=Cu (Ki h1).1
  rw [H6 h1,A4u,A5c (by rw [h1]; decide),A4s,A4s]
  exact Apl 8 r6 c6 (by omega) hl hp (min R C) 0 8 (by omega) (by omega)
 ·rw [Y7 h1,A4q,A5d h1]
theorem Al6 {r c:Int} {l:List Int} (al:Aj l=true) (x y a b:Int):Aj (Kf r c l x y a b).2.2.1=true:=by
 unfold Kf
 split
 ·split
  ·dsimp only
   exact I9 fun i k=>Sy al
  ·exact Aq.2 fun x h=>by cases h
 ·exact Aq.2 fun x h=>by cases h
theorem Au4 {r c:Int} {l:List Int} (al:Aj l=true):Aj (Ds r c l).2.2.1=true:=by
 unfold Ds
 split
 ·dsimp only
  exact I9 fun i k=>Sy al
 ·exact Aq.2 fun x h=>by cases h
theorem Hg (x y:List Int):Af (Ik x y)=true:=Cm (Afw x y 0 (by decide))
theorem Av7 (r c:Int) (l:List Int) (p q:Int) (m:List Int):Aj (Xv r c l p q m).2.2.1=true:=by
 unfold Xv
 split
 ·split
  ·dsimp only
   exact I9 fun i k=>Hg _ _
  ·exact Aq.2 fun x h=>by cases h
 ·exact Aq.2 fun x h=>by cases h
theorem Ana (r c:Int) (l:List Int) (p q:Int) (m:List Int):Aj (Ev r c l p q m).2.2.1=true:=by
 unfold Ev
 split
 ·exact Aq.2 fun x h=>by cases h
 ·exact Av7 _ _ _ _ _ _
theorem qr.Gk.known:qr.Gk.Kn:=qr.Gk.Ad (.cons Aa.Mul.known (.cons Aa.Cv.known .nil)) fun r c l p q m hp=>by
 obtain ⟨al,am⟩:=Ac.1 (show (Aj l&&Aj m)=true from hp)
 show ∃ N dv drops,_=some dv∧Wk drops dv (R3 (Ev r c l p q m))
 unfold Ev
 by_cases h:(Ds r c l).2.2.2=0
 ·rw [A5c (by rw [h]; decide)]
  exact ⟨0,_,[],by rw [qr.Gk.ev,H6 h,A4u,Au4 al,am]; rfl,Ol⟩
 ·rw [A5d h]
  exact ⟨0,_,[],by rw [qr.Gk.ev,Y7 h,A4q]; rfl,Iy⟩
namespace EqQr
def qr.down.hint:Nat→Option Bc
 | 0=>some { keep:=[1,2,5,6,7],objs:=[(0,6,100006,.recs 161 2 []),(6,2,106002,.ints 43 .u64 [])],boxes:=[1,2,5] }
 | 2=>some { keep:=[1,2,5,6,7,8,9,12],objs:=[(6,2,106002,.ints 43 .u64 []),(0,6,100006,.recs 161 2 [])],boxes:=[1,2,5] }
 | _=>none
def qr.down.Ba:List (Nat × Entry):=[(163,Ar.Apply.spec),(200,Ar.Lg.spec),(68,Aa.D3.spec)]
def qr.down.E:Env:=Bg (Bb qr.down.Ba) (fun n=>Nat.beq n 46) qr.down.hint (fun _=>none)
section
variable (N M0 M:Nat) (r c:Int) (l:List Int) (p7:Int) (p6:List (List DV)) (p2_2:List Int) (p12_1:Int) (p2_1:List Int) (p7_1:Int) (p8:List Int) (p9:Int) (p6_1:List (List DV))
def qr.down.L0:Option DV:=Cb qr.down.E N f162 (Ak f162) [1,1,1,0,1,0,0,1,0,0,1,1,1,1,0,1,0] [M0] M ⟨Fo 88 [(1,.ptr 1 0 0),(2,.ptr 2 0 0),(5,.ptr 5 0 0),(6,.oref 100006),(7,.int .i64 p7_1),(8,.ints .fresh .u64 p8),(9,.int .u64 p9),(12,.int .i64 p12_1)],[(1,false,.box [.int .i64 r,.int .i64 c,.ints .arg .u64 l]),(2,false,.box [.int .i64 0,.int .i64 0,.nil]),(5,false,.box [.int .i64 r,.int .i64 c,.oref 106002]),(106002,false,.ints 43 .u64 p2_1),(100006,false,.recs 161 2 p6_1)]⟩
def qr.down.L1:Option DV:=Cb qr.down.E N f162 (Ak f162) [1,1,1,0,1,0] [] M ⟨Fo 88 [(1,.ptr 1 0 0),(2,.ptr 2 0 0),(5,.ptr 5 0 0),(6,.oref 100006),(7,.int .i64 p7)],[(1,false,.box [.int .i64 r,.int .i64 c,.ints .arg .u64 l]),(2,false,.box [.int .i64 0,.int .i64 0,.nil]),(5,false,.box [.int .i64 r,.int .i64 c,.oref 106002]),(100006,false,.recs 161 2 p6),(106002,false,.ints 43 .u64 p2_2)]⟩
def qr.down.L2:Option DV:=Cb qr.down.E N f162 (Ak f162) [1,1,1,0,1,0] [] M ⟨Fo 88 [(1,.ptr 1 0 0),(2,.ptr 2 0 0),(5,.ptr 5 0 0),(6,.oref 100006),(7,.int .i64 0)],[(1,false,.box [.int .i64 r,.int .i64 c,.ints .arg .u64 l]),(2,false,.box [.int .i64 0,.int .i64 0,.nil]),(5,false,.box [.int .i64 r,.int .i64 c,.ints .arg .u64 l]),(100006,false,.recs 161 2 [])]⟩
theorem qr.down.Au:qr.down.L0 N M0 (M+1) r c l p12_1 p2_1 p7_1 p8 p9 p6_1=bif (Bi p12_1 r) then bif ((decide (0≤(Ab ((Ab (p12_1*c))+p7_1))))&&(decide ((Ab ((Ab (p12_1*c))+p7_1))<(length p2_1:Int)))) then bif (decide ((toNat (Ab ((Ab (p12_1*c))+p7_1)))<(length p2_1))) then qr.down.L0 N M0 M r c l (Ab (p12_1+1)) (List.set p2_1 (toNat (Ab ((Ab (p12_1*c))+p7_1))) 0) p7_1 p8 p9 p6_1 else none else none else bif (decide ((length p6_1)+1≤Ast)) then qr.down.L1 N M0 r c l (Ab (p7_1+1)) (p6_1++[[.ints .arg .u64 p8,.int .u64 p9]]) p2_1 else none:=by kernel_rfl
theorem qr.down.Ch:qr.down.L1 N (M+1) r c l p7 p6 p2_2=bif ((Bi p7 c)&&(Bi p7 (Ab (r-1)))) then bif (Hh r c p2_2 p7&&B3 (0≤p7∧p7≤r)) then bif (B4 (Cn c p2_2 p7 p7 (toNat (r-p7)))) then bif (((Dp (Cn c p2_2 p7 p7 (toNat (r-p7)))).2.2.2) !=(0:Int)) then some (.tup [.agg [.int .i64 0,.int .i64 0,.nil],.nil,.int .i64 2]) else bif (((A3 r c p2_2&&Rq r c p7 p7 ((Dp (Cn c p2_2 p7 p7 (toNat (r-p7)))).1))&&(Aj p2_2&&Aj ((Dp (Cn c p2_2 p7 p7 (toNat (r-p7)))).1)))&&Af ((Dp (Cn c p2_2 p7 p7 (toNat (r-p7)))).2.1)) then bif ((decide (0≤(Ab ((Ab (p7*c))+p7))))&&(decide ((Ab ((Ab (p7*c))+p7))<(length (Im (toNat r) (toNat c) p2_2 p7 p7 ((Dp (Cn c p2_2 p7 p7 (toNat (r-p7)))).1) ((Dp (Cn c p2_2 p7 p7 (toNat (r-p7)))).2.1)):Int)))) then bif (decide ((toNat (Ab ((Ab (p7*c))+p7)))<(length (Im (toNat r) (toNat c) p2_2 p7 p7 ((Dp (Cn c p2_2 p7 p7 (toNat (r-p7)))).1) ((Dp (Cn c p2_2 p7 p7 (toNat (r-p7)))).2.1))))) then qr.down.L0 N M N r c l (Ab (p7+1)) (List.set (Im (toNat r) (toNat c) p2_2 p7 p7 ((Dp (Cn c p2_2 p7 p7 (toNat (r-p7)))).1) ((Dp (Cn c p2_2 p7 p7 (toNat (r-p7)))).2.1)) (toNat (Ab ((Ab (p7*c))+p7))) ((Dp (Cn c p2_2 p7 p7 (toNat (r-p7)))).2.2.1)) p7 ((Dp (Cn c p2_2 p7 p7 (toNat (r-p7)))).1) ((Dp (Cn c p2_2 p7 p7 (toNat (r-p7)))).2.1) p6 else none else none else none else none else none else some (.tup [.agg [.int .i64 r,.int .i64 c,.ints (.own 106002 43) .u64 p2_2],.recs (.own 100006 161) 2 p6,.int .i64 0]) :=
 Eq.trans (by kernel_rfl)
 (Ay (R5 (Bi p7 c)) (Ay (R5 (Bi p7 c)) (Ay (Oo (Bi p7 c)) (Ay (Oo (Bi p7 c)) (Ay (Ani (Bi p7 c)) (Ay (W8 (Bi p7 c)) (Cw (tt1 _ _) rfl rfl)))))))
theorem qr.down.Kv:qr.down.L2 N (M+1) r c l=bif ((Bi 0 c)&&(Bi 0 (Ab (r-1)))) then bif (Hh r c l 0&&B3 (0≤(0:Int)∧(0:Int)≤r)) then bif (B4 (Cn c l 0 0 (toNat (r-0)))) then bif (((Dp (Cn c l 0 0 (toNat (r-0)))).2.2.2) !=(0:Int)) then some (.tup [.agg [.int .i64 0,.int .i64 0,.nil],.nil,.int .i64 2]) else bif (((A3 r c l&&Rq r c 0 0 ((Dp (Cn c l 0 0 (toNat (r-0)))).1))&&(Aj l&&Aj ((Dp (Cn c l 0 0 (toNat (r-0)))).1)))&&Af ((Dp (Cn c l 0 0 (toNat (r-0)))).2.1)) then bif ((decide (0≤(Ab ((Ab ((0:Int)*c))+0))))&&(decide ((Ab ((Ab ((0:Int)*c))+0))<(length (Im (toNat r) (toNat c) l 0 0 ((Dp (Cn c l 0 0 (toNat (r-0)))).1) ((Dp (Cn c l 0 0 (toNat (r-0)))).2.1)):Int)))) then bif (decide ((toNat (Ab ((Ab ((0:Int)*c))+0)))<(length (Im (toNat r) (toNat c) l 0 0 ((Dp (Cn c l 0 0 (toNat (r-0)))).1) ((Dp (Cn c l 0 0 (toNat (r-0)))).2.1))))) then qr.down.L0 N M N r c l 1 (List.set (Im (toNat r) (toNat c) l 0 0 ((Dp (Cn c l 0 0 (toNat (r-0)))).1) ((Dp (Cn c l 0 0 (toNat (r-0)))).2.1)) (toNat (Ab ((Ab ((0:Int)*c))+0))) ((Dp (Cn c l 0 0 (toNat (r-0)))).2.2.1)) 0 ((Dp (Cn c l 0 0 (toNat (r-0)))).1) ((Dp (Cn c l 0 0 (toNat (r-0)))).2.1) [] else none else none else none else none else none else some (.tup [.agg [.int .i64 r,.int .i64 c,.ints .arg .u64 l],.recs (.own 100006 161) 2 [],.int .i64 0]) :=
 Eq.trans (by kernel_rfl)
 (Ay (R5 (Bi 0 c)) (Ay (R5 (Bi 0 c)) (Ay (Oo (Bi 0 c)) (Ay (Oo (Bi 0 c)) (Ay (Ani (Bi 0 c)) (Ay (W8 (Bi 0 c)) (Cw (tt1 _ _) rfl rfl)))))))
theorem qr.down.ev:B0 qr.down.E N f162 (Ak f162) [.agg [.int .i64 r,.int .i64 c,.ints .arg .u64 l]] =
 qr.down.L2 N N r c l:=by kernel_rfl
end
abbrev _root_.Go.Proofs.S1.qr.down.Kn:=A8 prog 162 qr.down.spec
theorem qr.down.Ad (hk:A1 prog qr.down.Ba) (h:Hyp qr.down.E f162 qr.down.ts qr.down.pre qr.down.out):qr.down.Kn :=
 Al (A4 hk _ _ _) func162 (by kernel_rfl) (by kernel_rfl) h
def qr.En.hint:Nat→Option Bc
 | 0=>some { keep:=[2,3,5,6],objs:=[],boxes:=[2,3] }
 | _=>none
def qr.En.Ba:List (Nat × Entry):=[(69,Cz.Check.spec),(163,Ar.Apply.spec),(126,Aa.Ff.spec),(162,qr.down.spec),(66,Ae.Finite.spec)]
def qr.En.E:Env:=Abp (Bb qr.En.Ba) (fun _=>false) qr.En.hint (fun _=>none) (Amy [(22,[.s .u64]),(43,[.i .u64])])
section
variable (N M:Nat) (r c:Int) (l:List Int) (p6:Int) (p2:List Int)
def qr.En.L0:Option DV:=Cb qr.En.E N f120 (Ak f120) [1,0,1,1,1,1,1,1,0,0] [] M ⟨Fo 81 [(2,.ptr 2 0 0),(3,.ptr 3 0 0),(5,.recs .fresh 2 (Qq r c ([]++l))),(6,.int .i64 p6)],[(2,false,.box [.int .i64 ((Pf r).1),.int .i64 ((Pf r).2.1),.ints .fresh .u64 p2]),(3,false,.box [.int .i64 ((Hu r c ([]++l)).1),.int .i64 ((Hu r c ([]++l)).2.1),.ints .arg .u64 ((Hu r c ([]++l)).2.2.1)])]⟩
theorem qr.En.Au:qr.En.L0 N (M+1) r c l p6 p2=bif (Bi p6 0) then bif (B4 p2) then bif ((!(D2 p2))||(B4 ((Hu r c ([]++l)).2.2.1))) then bif ((!(D2 p2))||(!(D2 ((Hu r c ([]++l)).2.2.1)))) then some (.tup [.agg [.int .i64 0,.int .i64 0,.nil],.agg [.int .i64 0,.int .i64 0,.nil],.int .i64 2]) else some (.tup [.agg [.int .i64 ((Pf r).1),.int .i64 ((Pf r).2.1),.ints .fresh .u64 p2],.agg [.int .i64 ((Hu r c ([]++l)).1),.int .i64 ((Hu r c ([]++l)).2.1),.ints .arg .u64 ((Hu r c ([]++l)).2.2.1)],.int .i64 0]) else none else none else bif ((decide (0≤p6))&&(decide (p6<(length (Qq r c ([]++l)):Int)))) then bif (isC (.s .u64) (getD (getD (Qq r c ([]++l)) (toNat p6) []) 0 .undef)) then bif ((decide (0≤p6))&&(decide (p6<(length (Qq r c ([]++l)):Int)))) then bif (isC (.i .u64) (getD (getD (Qq r c ([]++l)) (toNat p6) []) 1 .undef)) then bif (((A3 ((Pf r).1) ((Pf r).2.1) p2&&Rq ((Pf r).1) ((Pf r).2.1) p6 0 (Abq (getD (getD (Qq r c ([]++l)) (toNat p6) []) 0 .undef)))&&(Aj p2&&Aj (Abq (getD (getD (Qq r c ([]++l)) (toNat p6) []) 0 .undef))))&&Af (Atn (getD (getD (Qq r c ([]++l)) (toNat p6) []) 1 .undef))) then qr.En.L0 N M r c l (Ab (p6-1)) (Im (toNat ((Pf r).1)) (toNat ((Pf r).2.1)) p2 p6 0 (Abq (getD (getD (Qq r c ([]++l)) (toNat p6) []) 0 .undef)) (Atn (getD (getD (Qq r c ([]++l)) (toNat p6) []) 1 .undef))) else none else none else none else none else none :=
 Eq.trans (by kernel_rfl)
 (E1 (E1 (Ay (Un (D2 p2)) (Ay (Pz (D2 p2)) (Cw (Ang _ _) (Ay (Pz (D2 p2)) (Ay (Xc (D2 p2)) (Cw (Anh _ _) rfl rfl))) rfl))) rfl) (Cw (Kb _ _) (Cw (Ct _) (Cw (Kb _ _) (Cw (Ct _) (Cw (Ct _) rfl rfl) rfl) rfl) rfl) rfl))
theorem qr.En.ev:B0 qr.En.E N f120 (Ak f120) [.agg [.int .i64 r,.int .i64 c,.ints .arg .u64 l]]=bif (Aj l) then bif ((Cj r c l) !=(0:Int)) then some (.tup [.agg [.int .i64 0,.int .i64 0,.nil],.agg [.int .i64 0,.int .i64 0,.nil],.int .i64 (Cj r c l)]) else bif (decide (0+(length l)≤G8)) then bif ((A3 r c ([]++l)&&D2 ([]++l))&&Aj ([]++l)) then bif (((Hu r c ([]++l)).2.2.2) !=(0:Int)) then some (.tup [.agg [.int .i64 0,.int .i64 0,.nil],.agg [.int .i64 0,.int .i64 0,.nil],.int .i64 ((Hu r c ([]++l)).2.2.2)]) else qr.En.L0 N N r c l (Ab ((length (Qq r c ([]++l)):Int)-1)) ((Pf r).2.2.1) else none else none else none :=
 Eq.trans (by kernel_rfl)
 (E1 (E1 rfl (Cw (Ct _) (Cw (Ct _) rfl rfl) rfl)) rfl)
end
abbrev _root_.Go.Proofs.S1.qr.En.Kn:=A8 prog 120 qr.En.spec
theorem qr.En.Ad (hk:A1 prog qr.En.Ba) (h:Hyp qr.En.E f120 qr.En.ts qr.En.pre qr.En.out):qr.En.Kn :=
 Al (Afu hk _ _ _ _) func120 (by kernel_rfl) (by kernel_rfl) h
def qr.Mj.Ba:List (Nat × Entry):=[(63,Aa.Part.spec),(120,qr.En.spec)]
def qr.Mj.E:Env:=Bg (Bb qr.Mj.Ba) (fun _=>false) (fun _=>none) (fun _=>none)
theorem qr.Mj.ev (N:Nat) (r c:Int) (l:List Int):B0 qr.Mj.E N f62 (Ak f62) [.agg [.int .i64 r,.int .i64 c,.ints .arg .u64 l]]=bif (Aj l) then bif ((Ij r c l) !=(0:Int)) then some (.tup [.agg [.int .i64 0,.int .i64 0,.nil],.agg [.int .i64 0,.int .i64 0,.nil],.int .i64 (Ij r c l)]) else some (.tup [.agg [.int .i64 ((Kf ((qX r c l).1) ((qX r c l).2.1) ((qX r c l).2.2.1) 0 0 r (min r c)).1),.int .i64 ((Kf ((qX r c l).1) ((qX r c l).2.1) ((qX r c l).2.2.1) 0 0 r (min r c)).2.1),.ints .fresh .u64 ((Kf ((qX r c l).1) ((qX r c l).2.1) ((qX r c l).2.2.1) 0 0 r (min r c)).2.2.1)],.agg [.int .i64 ((Kf ((rX r c l).1) ((rX r c l).2.1) ((rX r c l).2.2.1) 0 0 (min r c) c).1),.int .i64 ((Kf ((rX r c l).1) ((rX r c l).2.1) ((rX r c l).2.2.1) 0 0 (min r c) c).2.1),.ints .fresh .u64 ((Kf ((rX r c l).1) ((rX r c l).2.1) ((rX r c l).2.2.1) 0 0 (min r c) c).2.2.1)],.int .i64 0]) else none:=by kernel_rfl
abbrev _root_.Go.Proofs.S1.qr.Mj.Kn:=A8 prog 62 qr.Mj.spec
theorem qr.Mj.Ad (hk:A1 prog qr.Mj.Ba) (h:Hyp qr.Mj.E f62 qr.Mj.ts qr.Mj.pre qr.Mj.out):qr.Mj.Kn :=
 Al (A4 hk _ _ _) func62 (by kernel_rfl) (by kernel_rfl) h
def solve.H7.hint:Nat→Option Bc
 | 0=>some { keep:=[2,3,4,17,18],objs:=[],boxes:=[2,3,4] }
 | _=>none
def solve.H7.Ba:List (Nat × Entry):=[(69,Cz.Check.spec),(62,qr.Mj.spec),(195,qr.Gk.spec),(194,solve.Flat.spec),(196,solve.Io.spec)]
def solve.H7.E:Env:=Bg (Bb solve.H7.Ba) (fun _=>false) solve.H7.hint (fun _=>none)
theorem solve.H7.ev (N:Nat) (r c:Int) (l:List Int) (p q:Int) (m:List Int):B0 solve.H7.E (N+4) f150 (Ak f150) [.agg [.int .i64 r,.int .i64 c,.ints .arg .u64 l],.agg [.int .i64 p,.int .i64 q,.ints .arg .u64 m]]=bif (Aj l) then bif ((Cj r c l) !=(0:Int)) then some (.tup [.agg [.int .i64 0,.int .i64 0,.nil],.int .i64 (Cj r c l)]) else bif (Aj m) then bif ((Cj p q m) !=(0:Int)) then some (.tup [.agg [.int .i64 0,.int .i64 0,.nil],.int .i64 (Cj p q m)]) else bif ((Bi r c)||(r !=p)) then some (.tup [.agg [.int .i64 0,.int .i64 0,.nil],.int .i64 3]) else bif (Aj l) then bif ((Ij r c l) !=(0:Int)) then some (.tup [.agg [.int .i64 0,.int .i64 0,.nil],.int .i64 (Ij r c l)]) else bif (Aj ((Qc r c l).2.2.1)) then bif ((Ss ((Qc r c l).1) ((Qc r c l).2.1) ((Qc r c l).2.2.1)).1) then some (.tup [.agg [.int .i64 0,.int .i64 0,.nil],.int .i64 5]) else bif (Aj ((Ko r c l).2.2.1)&&Aj m) then bif (((Ev ((Ko r c l).1) ((Ko r c l).2.1) ((Ko r c l).2.2.1) p q m).2.2.2) !=(0:Int)) then some (.tup [.agg [.int .i64 0,.int .i64 0,.nil],.int .i64 ((Ev ((Ko r c l).1) ((Ko r c l).2.1) ((Ko r c l).2.2.1) p q m).2.2.2)]) else bif (Aj ((Qc r c l).2.2.1)&&Aj ((Ev ((Ko r c l).1) ((Ko r c l).2.1) ((Ko r c l).2.2.1) p q m).2.2.1)) then some (.tup [.agg [.int .i64 ((upX ((Qc r c l).1) ((Qc r c l).2.1) ((Qc r c l).2.2.1) ((Ev ((Ko r c l).1) ((Ko r c l).2.1) ((Ko r c l).2.2.1) p q m).1) ((Ev ((Ko r c l).1) ((Ko r c l).2.1) ((Ko r c l).2.2.1) p q m).2.1) ((Ev ((Ko r c l).1) ((Ko r c l).2.1) ((Ko r c l).2.2.1) p q m).2.2.1)).1),.int .i64 ((upX ((Qc r c l).1) ((Qc r c l).2.1) ((Qc r c l).2.2.1) ((Ev ((Ko r c l).1) ((Ko r c l).2.1) ((Ko r c l).2.2.1) p q m).1) ((Ev ((Ko r c l).1) ((Ko r c l).2.1) ((Ko r c l).2.2.1) p q m).2.1) ((Ev ((Ko r c l).1) ((Ko r c l).2.1) ((Ko r c l).2.2.1) p q m).2.2.1)).2.1),.ints .fresh .u64 ((upX ((Qc r c l).1) ((Qc r c l).2.1) ((Qc r c l).2.2.1) ((Ev ((Ko r c l).1) ((Ko r c l).2.1) ((Ko r c l).2.2.1) p q m).1) ((Ev ((Ko r c l).1) ((Ko r c l).2.1) ((Ko r c l).2.2.1) p q m).2.1) ((Ev ((Ko r c l).1) ((Ko r c l).2.1) ((Ko r c l).2.2.1) p q m).2.2.1)).2.2.1)],.int .i64 ((upX ((Qc r c l).1) ((Qc r c l).2.1) ((Qc r c l).2.2.1) ((Ev ((Ko r c l).1) ((Ko r c l).2.1) ((Ko r c l).2.2.1) p q m).1) ((Ev ((Ko r c l).1) ((Ko r c l).2.1) ((Ko r c l).2.2.1) p q m).2.1) ((Ev ((Ko r c l).1) ((Ko r c l).2.1) ((Ko r c l).2.2.1) p q m).2.2.1)).2.2.2)]) else none else none else none else none else none else none :=
 Eq.trans (by kernel_rfl)
 (E1 (E1 rfl (E1 (E1 rfl (Ay (T3 (Bi r c)) (Ay (Rv (Bi r c)) (Ay (T3 (Bi r c)) (Ay (Rv (Bi r c)) (Ay (tt8 (Bi r c)) (Ay (Y5 (Bi r c)) (Cw (tt5 _ _) rfl rfl)))))))) rfl)) rfl)
abbrev _root_.Go.Proofs.S1.solve.H7.Kn:=A8 prog 150 solve.H7.spec
theorem solve.H7.Ad (hk:A1 prog solve.H7.Ba) (h:Hyp solve.H7.E f150 solve.H7.ts solve.H7.pre solve.H7.out):solve.H7.Kn :=
 Al (A4 hk _ _ _) func150 (by kernel_rfl) (by kernel_rfl) h
end EqQr
open EqQr
def clS (R C:Nat) (l:List Int) (j:Nat) (x:Int) (i:Nat):List Int:=B8 R C fun a b=>if b=j∧j≤a∧a<i then (if a=j then x else 0) else D8 (C:Int) l (a:Int) (b:Int)
section
variable {R C j:Nat} {l:List Int} {x:Int}
theorem Axa (i:Nat):(clS R C l j x i).length=R*C:=Cd _ _ _
theorem Ad1 (hl:l.length=R*C) (hj:j<C):List.set l (j*C+j) x=clS R C l j x (j+1):=by
 unfold clS
 conv=>lhs; rw [← Ts hl]
 rw [Qt hj]
 refine D6 fun a b ha hb=>?_
 by_cases h:a=j∧b=j
 ·rw [A5d h,A5d (by omega),A5d h.1]
 ·rw [A5c h,A5c (by omega)]
theorem Aw9 {i:Nat} (hj:j<C) (hi:j<i):List.set (clS R C l j x i) (i*C+j) 0=clS R C l j x (i+1):=by
 unfold clS
 rw [Qt hj]
 refine D6 fun a b ha hb=>?_
 by_cases h:a=i∧b=j
 ·rw [A5d h,A5d (by omega),A5c (by omega)]
 ·rw [A5c h]
  by_cases h2:b=j∧j≤a∧a<i
  ·rw [A5d h2,A5d (show b=j∧j≤a∧a<i+1 by omega)]
  ·rw [A5c h2,A5c (by omega)]
theorem Axb:clS R C l j x R=X8 R C l j x:=by
 unfold clS X8
 refine D6 fun a b ha hb=>?_
 by_cases h:b=j∧j≤a
 ·rw [A5d h,A5d (by omega)]
 ·rw [A5c h,A5c (by omega)]
end
theorem Aav {C i j:Nat} (hi:i≤6) (hC:C≤6) (hj:j≤6):Ab (Ab ((i:Int)*(C:Int))+(j:Int))=((i*C+j:Nat):Int):=by
 have h36:=A5m hi hC
 rw [An (x:=(i:Int)*(C:Int)) (by rw [← A5b]; omega) (by rw [← A5b]; omega),← A5b,An (by omega) (by omega)]
 omega
section
variable {R C:Nat}
theorem Abr (N M0:Nat) (l0:List Int) (r6:R≤6) (c6:C≤6) {j:Nat} (hj:j<C) (l:List Int) (x:Int) (v:List Int) (t:Int) (ms:List (List DV)) (hms:ms.length≤100):∀ (cnt i F:Nat),i+cnt=R→j<i→cnt<F →
 qr.down.L0 N M0 F (R:Int) (C:Int) l0 (i:Int) (clS R C l j x i) (j:Int) v t ms=qr.down.L1 N M0 (R:Int) (C:Int) l0 ((j+1:Nat):Int) (ms++[[.ints .arg .u64 v,.int .u64 t]]) (X8 R C l j x):=by
 intro cnt
 induction cnt with
 | zero =>
   intro i F hi hji hF
   obtain ⟨F,rfl⟩:∃ G,F=G+1:=⟨F-1,by omega⟩
   obtain rfl:i=R:=by omega
   rw [qr.down.Au,Av,A4v (by omega),A4u,A4r (by unfold Ast; omega),A4q,An (by omega) (by omega),Axb]
   rfl
 | succ cnt ih =>
   intro i F hi hji hF
   obtain ⟨F,rfl⟩:∃ G,F=G+1:=⟨F-1,by omega⟩
   have hlen:=Axa (R:=R) (C:=C) (l:=l) (j:=j) (x:=x) i
   have hp:=Ig (show i<R by omega) hj
   rw [qr.down.Au,Av,A4r (by omega),A4q,Aav (by omega) c6 (by omega),A4r (by omega),A4r (by omega),A4w,A4q,A4s,A4r (by omega),A4q,Aw9 hj hji,An (by omega) (by omega)]
   exact ih (i+1) F (by omega) (by omega) (by omega)
def Uk (r c:Nat) (ms:List (List DV)):Option (List Int × List (List Int × Int))→DV
 | none=>.tup [.agg [.int .i64 0,.int .i64 0,.nil],.nil,.int .i64 2]
 | some x=>.tup [.agg [.int .i64 (r:Int),.int .i64 (c:Int),.ints (.own 106002 tB) .u64 x.1],.recs (.own 100006 tMR) 2 (ms++Aaw x.2),.int .i64 0]
theorem Apr (N:Nat) (hN:7<N) (l0:List Int) (r6:R≤6) (c6:C≤6):∀ (cnt j F:Nat) (l:List Int) (ms:List (List DV)),j+cnt=L5 R C→cnt<F→l.length=R*C→Aj l=true→ms.length=j →
 qr.down.L1 N F (R:Int) (C:Int) l0 (j:Int) ms l=some (Uk R C ms (Rz R C cnt j l)):=by
 intro cnt
 induction cnt with
 | zero =>
   intro j F l ms hj hF hl al hms
   obtain ⟨F,rfl⟩:∃ G,F=G+1:=⟨F-1,by omega⟩
   unfold L5 at hj
   have hlt:(Bi (j:Int) (C:Int)&&Bi (j:Int) (Ab ((R:Int)-1)))=false:=by
    rw [Av,Av,An (by omega) (by omega),Bool.and_eq_false_iff,A49,A49]; omega
   rw [qr.down.Ch,hlt,A4u]
   simp [Rz,Uk,Aaw]
 | succ cnt ih =>
   intro j F l ms hj hF hl al hms
   obtain ⟨F,rfl⟩:∃ G,F=G+1:=⟨F-1,by omega⟩
   have hj0:=hj
   unfold L5 at hj
   have hr:=Ew r6 c6 hl
   have hlt:(Bi (j:Int) (C:Int)&&Bi (j:Int) (Ab ((R:Int)-1)))=true:=by
    rw [Av,Av,An (by omega) (by omega),A4r (by omega),A4r (by omega)]; rfl
   have cp:Hh (R:Int) (C:Int) l (j:Int)=true:=Ac.2 ⟨hr,Aq.2 (by omega)⟩
   have ec:Cn (C:Int) l (j:Int) (j:Int) (toNat ((R:Int)-(j:Int)))=Iw R C l j:=by unfold Iw; rw [show toNat ((R:Int)-(j:Int))=R-j by omega]
   have ca:Aj (Iw R C l j)=true:=Ot al
   have cl:(Iw R C l j).length=R-j:=Ky _ _ _ _ _
   rw [qr.down.Ch,hlt,A4q,cp,Aq.2 (show 0≤(j:Int)∧(j:Int)≤(R:Int) by omega),A4w,A4q,ec,Gi ca (by omega),A4q]
   unfold Rz
   by_cases he:(Dp (Iw R C l j)).2.2.2=0
   ·have hml:=Aay he
    have hma:=Zl ca
    have hap:Rq (R:Int) (C:Int) (j:Int) (j:Int) (Dp (Iw R C l j)).1=true:=A4r (by omega)
    have hp:=Ig (show j<R by omega) (show j<C by omega)
    have hlen:=P7 R C l (j:Int) (j:Int) (Dp (Iw R C l j)).1 (Dp (Iw R C l j)).2.1
    have hg:=Abr N F l0 r6 c6 (show j<C by omega) (Im R C l (j:Int) (j:Int) (Dp (Iw R C l j)).1 (Dp (Iw R C l j)).2.1) (Dp (Iw R C l j)).2.2.1 (Dp (Iw R C l j)).1 (Dp (Iw R C l j)).2.1 ms (by omega) (R-(j+1)) (j+1) N (by omega) (by omega) (by omega)
    have hn:=ih (j+1) F (Acg R C l j) (ms++[[.ints .arg .u64 (Dp (Iw R C l j)).1,.int .u64 (Dp (Iw R C l j)).2.1]]) (by omega) (by omega) (Sg _ _ _ _) (Afi al j) (by rw [A5i,hms]; rfl)
    rw [H6 he,A4u,hr,hap,al,hma.1,hma.2.1,A4w,A4w,A4w,A4q,Aav (by omega) c6 (by omega),A4s,A4s,A4s,A4r (by omega),A4r (by omega),A4w,A4q,A4r (by omega),A4q,
     Ad1 hlen (by omega),An (by omega) (by omega),A5d he]
    refine (hg.trans hn).trans ?_
    show some (Uk R C _ (Rz R C cnt (j+1) (Acg R C l j)))=some (Uk R C ms _)
    cases Rz R C cnt (j+1) (Acg R C l j) with
    | none=>rfl
    | some x=>simp [Uk,Aaw]
   ·rw [Y7 he,A4q,A5c he]; rfl
theorem Ak0 (N:Nat) (hN:7<N) {l:List Int} (r6:R≤6) (c6:C≤6) (hl:l.length=R*C) (al:Aj l=true) (h0:L5 R C≠0) :
 qr.down.L2 N N (R:Int) (C:Int) l=some (Uk R C [] (L4 R C l)):=by
 obtain ⟨cnt,hc⟩:∃ cnt,L5 R C=cnt+1:=⟨L5 R C-1,by omega⟩
 obtain ⟨F,rfl⟩:∃ G,N=G+1:=⟨N-1,by omega⟩
 have hj:=hc
 unfold L5 at hj
 have hr:=Ew r6 c6 hl
 have hlt:(Bi (0:Int) (C:Int)&&Bi (0:Int) (Ab ((R:Int)-1)))=true:=by
  rw [Av,Av,An (by omega) (by omega),A4r (by omega),A4r (by omega)]; rfl
 have cp:Hh (R:Int) (C:Int) l (0:Int)=true:=Ac.2 ⟨hr,Aq.2 (by omega)⟩
 have ec:Cn (C:Int) l (0:Int) (0:Int) (toNat ((R:Int)-(0:Int)))=Iw R C l 0:=by unfold Iw; rw [show toNat ((R:Int)-(0:Int))=R-0 by omega]; rfl
 have ca:Aj (Iw R C l 0)=true:=Ot al
 have cl:(Iw R C l 0).length=R-0:=Ky _ _ _ _ _
 unfold L4
 rw [hc,qr.down.Kv,hlt,A4q,cp,Aq.2 (show 0≤(0:Int)∧(0:Int)≤(R:Int) by omega),A4w,A4q,ec,Gi ca (by omega),A4q]
 unfold Rz
 by_cases he:(Dp (Iw R C l 0)).2.2.2=0
 ·have hml:=Aay he
  have hma:=Zl ca
  have hap:Rq (R:Int) (C:Int) (0:Int) (0:Int) (Dp (Iw R C l 0)).1=true:=A4r (by omega)
  have hp:=Ig (show 0<R by omega) (show 0<C by omega)
  have hlen:=P7 R C l (0:Int) (0:Int) (Dp (Iw R C l 0)).1 (Dp (Iw R C l 0)).2.1
  have hg:=Abr (F+1) F l r6 c6 (show 0<C by omega) (Im R C l (0:Int) (0:Int) (Dp (Iw R C l 0)).1 (Dp (Iw R C l 0)).2.1) (Dp (Iw R C l 0)).2.2.1 (Dp (Iw R C l 0)).1 (Dp (Iw R C l 0)).2.1 [] (Nat.zero_le _) (R-1) 1 (F+1) (by omega) (by omega) (by omega)
  have hn:=Apr (R:=R) (C:=C) (F+1) hN l r6 c6 cnt 1 F (Acg R C l 0) [[.ints .arg .u64 (Dp (Iw R C l 0)).1,.int .u64 (Dp (Iw R C l 0)).2.1]] (by omega) (by unfold L5 at hc; omega) (Sg _ _ _ _) (Afi al 0) rfl
  have mc:=Aav (i:=0) (C:=C) (j:=0) (by omega) c6 (by omega)
  have mc:Ab (Ab ((0:Int)*(C:Int))+(0:Int))=((0*C+0:Nat):Int):=mc
  rw [H6 he,A4u,hr,hap,al,hma.1,hma.2.1,A4w,A4w,A4w,A4q,mc,A4s,A4s,A4s,A4r (by omega),A4r (by omega),A4w,A4q,A4r (by omega),A4q,
   Ad1 hlen (by omega),A5d he]
  refine (hg.trans hn).trans ?_
  show some (Uk R C _ (Rz R C cnt 1 (Acg R C l 0)))=some (Uk R C [] _)
  cases Rz R C cnt (0+1) (Acg R C l 0) with
  | none=>rfl
  | some x=>simp [Uk,Aaw]
 ·rw [Y7 he,A4q,A5c he]; rfl
end
theorem qr.down.known:qr.down.Kn:=qr.down.Ad (.cons Ar.Apply.known (.cons Ar.Lg.known (.cons Aa.D3.known .nil))) fun r c l hp=>by
 obtain ⟨h1,al⟩:=Ac.1 (show ((A3 r c l&&D2 l)&&Aj l)=true from hp)
 obtain ⟨hr,hf⟩:=Ac.1 h1
 obtain ⟨R,C,rfl,rfl,r6,c6,hl⟩:=Cu hr
 by_cases h0:L5 R C=0
 ·have hx:L4 R C l=some (l,[]):=by unfold L4; rw [h0]; rfl
  refine ⟨8,.tup [.agg [.int .i64 (R:Int),.int .i64 (C:Int),.ints .arg .u64 l],.recs (.own 100006 tMR) 2 [],.int .i64 0],[100006],?_,?_⟩
  ·unfold L5 at h0
   have hlt:(Bi (0:Int) (C:Int)&&Bi (0:Int) (Ab ((R:Int)-1)))=false:=by
    rw [Av,Av,An (by omega) (by omega),Bool.and_eq_false_iff,A49,A49]; omega
   rw [qr.down.ev,show (8:Nat)=7+1 from rfl,qr.down.Kv,hlt,A4u]
  ·show Wk _ _ (DV.tup [.agg [.int .i64 (Hu (R:Int) (C:Int) l).1,.int .i64 (Hu (R:Int) (C:Int) l).2.1,.ints .arg .u64 (Hu (R:Int) (C:Int) l).2.2.1],.recs .fresh 2 (Qq (R:Int) (C:Int) l),.int .i64 (Hu (R:Int) (C:Int) l).2.2.2])
   unfold Hu Qq Rl
   rw [A4s,A4s,hx]
   exact Wk.Hs (.cons (Wk.Hc (.cons .int (.cons .int (.cons .W1 .nil)))) (.cons (.dropR _ _ _ _ (List.mem_singleton.2 rfl)) (.cons .int .nil)))
 ·refine ⟨8,Uk R C [] (L4 R C l),[106002,100006],?_,?_⟩
  ·rw [qr.down.ev]
   exact Ak0 8 (by omega) r6 c6 hl al h0
  ·show Wk _ _ (DV.tup [.agg [.int .i64 (Hu (R:Int) (C:Int) l).1,.int .i64 (Hu (R:Int) (C:Int) l).2.1,.ints .arg .u64 (Hu (R:Int) (C:Int) l).2.2.1],.recs .fresh 2 (Qq (R:Int) (C:Int) l),.int .i64 (Hu (R:Int) (C:Int) l).2.2.2])
   unfold Hu Qq Rl
   rw [A4s,A4s]
   cases L4 R C l with
   | none=>exact Wk.Hs (.cons (Wk.Hc (.cons .int (.cons .int (.cons S9 .nil)))) (.cons (.nilR _ _) (.cons .int .nil)))
   | some x=>exact Wk.Hs (.cons (Wk.Hc (.cons .int (.cons .int (.cons (.dropA _ _ _ _ A55) .nil)))) (.cons (.dropR _ _ _ _ (A5v _ A55)) (.cons .int .nil)))
open EqQr
def Adg (e:Int):DV:=.tup [.agg [.int .i64 0,.int .i64 0,.nil],.agg [.int .i64 0,.int .i64 0,.nil],.int .i64 e]
theorem Adi {r:Nat}:∀ {j:Nat} {ms:List (List Int × Int)},Ahq r j ms→∀ i:Nat,i<ms.length→Aj (ms.getD i ([],0)).1=true∧Af (ms.getD i ([],0)).2=true∧(ms.getD i ([],0)).1.length+(j+i)=r
 | _,[],_,i,h=>absurd h (Nat.not_lt_zero _)
 | j,m::ms,hm,0,_=>hm.1
 | j,m::ms,hm,i+1,h=>by
   have:=Adi hm.2 i (by simpa using h)
   rw [show j+(i+1)=j+1+i by omega]
   exact this
theorem Asn {ms:List (List Int × Int)} {i:Nat} (h:i<ms.length):getD (Aaw ms) i []=[.ints .arg .u64 (ms.getD i ([],0)).1,.int .u64 (ms.getD i ([],0)).2]:=by
 unfold Aaw
 rw [A40,A57,A47 h,A40,A47 h]; rfl
theorem Ahp (ms:List (List Int × Int)):(Aaw ms).length=ms.length:=by unfold Aaw; rw [A5w]
theorem Ap5 {n i:Nat} {ms:List (List Int × Int)} (h:i<ms.length) (q:List Int):Nw n i (ms.drop i) q=Im n n (Nw n (i+1) (ms.drop (i+1)) q) (i:Int) 0 (ms.getD i ([],0)).1 (ms.getD i ([],0)).2:=by
 rw [List.drop_eq_getElem_cons h,Nw,A40,A47 h]; rfl
theorem Afs {R:Nat} (h:R≤6):Pf (R:Int)=((R:Int),(R:Int),Ni R,0):=by
 unfold Pf Ni
 rw [A5d (Ml h),A4s]
theorem Ayt {n:Nat} (h:n≤6):n*n≤36:=A5m h h
theorem Ain (N:Nat) {R C:Nat} {l:List Int} (r6:R≤6) {x:List Int × List (List Int × Int)} (hx:L4 R C l=some x) (hm:Ahq R 0 x.2) (hxr:Aj x.1=true) (hxl:x.1.length≤36):∀ (j F:Nat),j≤x.2.length→j<F →
 qr.En.L0 N F (R:Int) (C:Int) l ((j:Int)-1) (Nw R j (x.2.drop j) (Ni R)) =
 bif Uj R C l then some (.tup [.agg [.int .i64 (R:Int),.int .i64 (R:Int),.ints .fresh .u64 (U4 R C l)],.agg [.int .i64 (R:Int),.int .i64 (C:Int),.ints .arg .u64 (Rl R C l)],.int .i64 0])
 else some (Adg 2):=by
 have hq:U4 R C l=Nw R 0 x.2 (Ni R):=by unfold U4; rw [hx]
 have hr:Rl R C l=x.1:=by unfold Rl; rw [hx]
 have hd:Hu (R:Int) (C:Int) ([]++l)=((R:Int),(C:Int),x.1,0):=by
  unfold Hu
  rw [List.nil_append,A4s,A4s,hx,hr]; rfl
 have hmd:Qq (R:Int) (C:Int) ([]++l)=Aaw x.2:=by
  unfold Qq
  rw [List.nil_append,A4s,A4s,hx]
 have h36:=Ayt r6
 intro j
 induction j with
 | zero =>
   intro F _ hF
   obtain ⟨F,rfl⟩:∃ G,F=G+1:=⟨F-1,by omega⟩
   have hb:=Zt R x.2 0 (Ni R) (Aft R) (by unfold Ni; exact Cd _ _ _)
   have ok1:B4 (Nw R 0 x.2 (Ni R))=true:=Gi hb.1 (by omega)
   have ok2:B4 x.1=true:=Gi hxr (by omega)
   have hfo:Uj R C l=(D2 (Nw R 0 x.2 (Ni R))&&D2 x.1):=by unfold Uj; rw [hx,hq,hr]; rfl
   rw [qr.En.Au,Av,A4r (by omega),A4q,List.drop_zero,ok1,A4q,hd,Afs r6,ok2,A52,A4q,hfo,hq,hr]
   cases D2 (Nw R 0 x.2 (Ni R)) with
   | false=>rfl
   | true=>cases D2 x.1<;>rfl
 | succ j ih =>
   intro F hj hF
   obtain ⟨F,rfl⟩:∃ G,F=G+1:=⟨F-1,by omega⟩
   have ej:(((j+1:Nat):Int))-1=(j:Int):=by omega
   have hg:=Adi hm j (by omega)
   have hb:=Zt R (x.2.drop (j+1)) (j+1) (Ni R) (Aft R) (by unfold Ni; exact Cd _ _ _)
   have hr1:=Ew r6 r6 hb.2
   have hap:Rq (R:Int) (R:Int) (j:Int) 0 (x.2.getD j ([],0)).1=true:=A4r (by omega)
   have hmg:=Asn (ms:=x.2) (i:=j) (by omega)
   rw [qr.En.Au,ej,Av,A4v (show ¬ (j:Int)<0 by omega),A4u,hmd,Ahp,A4r (show (0:Int)≤(j:Int) by omega),A4r (show (j:Int)<(x.2.length:Int) by omega),A4w,A4q,A4s,hmg,Afs r6]
   show (bif true then bif true then bif true then (bif (((A3 (R:Int) (R:Int) (Nw R (j+1) (x.2.drop (j+1)) (Ni R))&&Rq (R:Int) (R:Int) (j:Int) (0:Int) (x.2.getD j ([],0)).1)&&(Aj (Nw R (j+1) (x.2.drop (j+1)) (Ni R))&&Aj (x.2.getD j ([],0)).1))&&Af (x.2.getD j ([],0)).2) then
    qr.En.L0 N F (R:Int) (C:Int) l (Ab ((j:Int)-(1:Int))) (Im (toNat (R:Int)) (toNat (R:Int)) (Nw R (j+1) (x.2.drop (j+1)) (Ni R)) (j:Int) (0:Int) (x.2.getD j ([],0)).1 (x.2.getD j ([],0)).2) else none) else none else none else none)=_
   rw [A4q,A4q,A4q,hr1,hap,hb.1,hg.1,hg.2.1,A4w,A4w,A4w,A4q,A4s,An (by omega) (by omega),← Ap5 (by omega)]
   exact ih F (by omega) (by omega)
theorem Atq {R C:Nat} {l:List Int} (hl:l.length=R*C) (al:Aj l=true) {x:List Int × List (List Int × Int)} (hx:L4 R C l=some x):Aj x.1=true∧x.1.length=R*C∧x.2.length=L5 R C∧Ahq R 0 x.2 :=
 Abt R C (L5 R C) 0 l x al hl (by unfold L5; omega) hx
theorem Zp {r c:Int} {l:List Int} (h:Cj r c l=0):Ij r c l=if Uj r.toNat c.toNat l=true then 0 else 2:=by
 unfold Ij; rw [A5c (by rw [h]; decide)]
theorem Aip {r c:Int} {l:List Int} (h:Cj r c l≠0):Ij r c l=Cj r c l:=by unfold Ij; rw [A5d h]
theorem Aj8 {r c:Int} {l:List Int} {e:Int} (h:Ij r c l=e) (he:e≠0):qX r c l=M9 e∧rX r c l=M9 e:=by unfold qX rX; rw [h,A5d he,A5d he]; exact ⟨rfl,rfl⟩
theorem Al0 {r c:Int} {l:List Int} (h:Ij r c l=0):qX r c l=(r,r,U4 r.toNat c.toNat l,0)∧rX r c l=(r,c,Rl r.toNat c.toNat l,0):=by unfold qX rX; rw [h]; exact ⟨rfl,rfl⟩
theorem Aeg {drops:List Nat} {e:Int} {g h:Ai9}:Wk drops (Adg e) (DV.tup [.agg [.int .i64 (M9 e).1,.int .i64 (M9 e).2.1,.ints g .u64 (M9 e).2.2.1],.agg [.int .i64 (M9 e).1,.int .i64 (M9 e).2.1,.ints h .u64 (M9 e).2.2.1],.int .i64 e]) :=
 Wk.Hs (.cons (Wk.Hc (.cons .int (.cons .int (.cons S9 .nil)))) (.cons (Wk.Hc (.cons .int (.cons .int (.cons S9 .nil)))) (.cons .int .nil)))
theorem qr.En.known:qr.En.Kn:=qr.En.Ad (.cons Cz.Check.known (.cons Ar.Apply.known (.cons Aa.Ff.known (.cons qr.down.known (.cons Ae.Finite.known .nil))))) fun r c l hp=>by
 have al:Aj l=true:=hp
 show ∃ N dv drops,_=some dv∧Wk drops dv (DV.tup [.agg [.int .i64 (qX r c l).1,.int .i64 (qX r c l).2.1,.ints .arg .u64 (qX r c l).2.2.1],.agg [.int .i64 (rX r c l).1,.int .i64 (rX r c l).2.1,.ints .arg .u64 (rX r c l).2.2.1],.int .i64 (Ij r c l)])
 by_cases h1:Cj r c l=0
 ·obtain ⟨hr,hf⟩:=Ki h1
  have h36:=Th hr
  obtain ⟨R,C,rfl,rfl,r6,c6,hl⟩:=Cu hr
  have d0:decide (0+l.length≤G8)=true:=A4r (by unfold G8; omega)
  cases hx:L4 R C l with
  | none =>
    have hfo:Uj R C l=false:=by unfold Uj; rw [hx]; rfl
    have he:Ij (R:Int) (C:Int) l=2:=by rw [Zp h1,A4s,A4s,hfo]; rfl
    obtain ⟨e1,e2⟩:=Aj8 he (by decide)
    have hd:Hu (R:Int) (C:Int) ([]++l)=M9 2:=by
     unfold Hu
     rw [List.nil_append,A4s,A4s,hx]; rfl
    rw [e1,e2,he]
    exact ⟨0,Adg 2,[],by rw [qr.En.ev,al,A4q,H6 h1,A4u,d0,A4q,hd,List.nil_append,hr,hf,al,A4w,A4w,A4q,show ((M9 2).2.2.2 !=(0:Int))=true from rfl,A4q]; rfl,Aeg⟩
  | some x =>
    obtain ⟨x1,x2,x3,x4⟩:=Atq hl al hx
    have hd:Hu (R:Int) (C:Int) ([]++l)=((R:Int),(C:Int),x.1,0):=by
     unfold Hu Rl
     rw [List.nil_append,A4s,A4s,hx]; rfl
    have hmd:Qq (R:Int) (C:Int) ([]++l)=Aaw x.2:=by
     unfold Qq
     rw [List.nil_append,A4s,A4s,hx]
    have hn:x.2.length≤6:=by rw [x3]; unfold L5; omega
    have hloop:=Ain 8 r6 hx x4 x1 (by rw [x2]; exact A5m r6 c6) x.2.length 8 (A5k _) (by omega)
    rw [A44 (A5k _)] at hloop
    have hrun:=qr.En.ev 8 (R:Int) (C:Int) l
    rw [al,A4q,H6 h1,A4u,d0,A4q,hd,hmd,Ahp,List.nil_append,hr,hf,al,A4w,A4w,A4q,show (((R:Int),(C:Int),x.1,(0:Int)).2.2.2 !=(0:Int))=false from rfl,A4u,Afs r6,An (by omega) (by omega)] at hrun
    have hrun:=hrun.trans hloop
    cases hfo:Uj R C l with
    | false =>
      have he:Ij (R:Int) (C:Int) l=2:=by rw [Zp h1,A4s,A4s,hfo]; rfl
      obtain ⟨e1,e2⟩:=Aj8 he (by decide)
      rw [hfo,A4u] at hrun
      rw [e1,e2,he]
      exact ⟨8,Adg 2,[],hrun,Aeg⟩
    | true =>
      have he:Ij (R:Int) (C:Int) l=0:=by rw [Zp h1,A4s,A4s,hfo]; rfl
      obtain ⟨e1,e2⟩:=Al0 he
      rw [hfo,A4q] at hrun
      rw [e1,e2,he,A4s,A4s]
      exact ⟨8,_,[],hrun,Wk.Hs (.cons (Wk.Hc (.cons .int (.cons .int (.cons (.fresh _ _) .nil)))) (.cons (Wk.Hc (.cons .int (.cons .int (.cons .W1 .nil)))) (.cons .int .nil)))⟩
 ·have he:=Aip h1
  obtain ⟨e1,e2⟩:=Aj8 he h1
  rw [e1,e2,he]
  exact ⟨0,Adg (Cj r c l),[],by rw [qr.En.ev,al,A4q,Y7 h1,A4q]; rfl,Aeg⟩
theorem Ak7 {r c:Int} {l:List Int} (h:Ij r c l=0):Cj r c l=0:=by
 by_cases h1:Cj r c l=0
 ·exact h1
 ·rw [Aip h1] at h; exact absurd h h1
theorem Aio {r c:Int} {l:List Int} (al:Aj l=true) (h:Ij r c l=0):∃ R C:Nat,r=R∧c=C∧R≤6∧C≤6∧l.length=R*C∧Aj (U4 R C l)=true∧(U4 R C l).length=R*R∧Aj (Rl R C l)=true∧(Rl R C l).length=R*C∧D2 (U4 R C l)=true∧D2 (Rl R C l)=true:=by
 have h1:=Ak7 h
 rw [Zp h1] at h
 obtain ⟨R,C,rfl,rfl,r6,c6,hl⟩:=Cu (Ki h1).1
 rw [A4s,A4s] at h
 by_cases ho:Uj R C l=true
 ·unfold Uj at ho
  obtain ⟨o1,o2⟩:=Ac.1 ho
  obtain ⟨o3,o4⟩:=Ac.1 o2
  obtain ⟨q1,q2⟩:=Awt o1
  obtain ⟨g1,g2⟩:=Aws al hl o1
  exact ⟨R,C,rfl,rfl,r6,c6,hl,q1,q2,g1,g2,o3,o4⟩
 ·rw [A5c ho] at h; exact absurd h (by decide)
theorem Al5 {R C:Nat} {l:List Int} (r6:R≤6) (c6:C≤6) (hl:l.length=R*C) {x y a b:Int} (hp:Rx (R:Int) (C:Int) x y a b=true) :
 Kf (R:Int) (C:Int) l x y a b=(a,b,B8 a.toNat b.toNat fun i k=>D8 (C:Int) l (x+(i:Int)) (y+(k:Int)),0):=by
 unfold Kf; rw [A5d (Ew r6 c6 hl),A5d hp]
theorem Acz {r c:Int} {l:List Int} (al:Aj l=true) (h:Ij r c l=0) :
 Kf r r (U4 r.toNat c.toNat l) 0 0 r (min r c)=Ko r c l∧Kf r c (Rl r.toNat c.toNat l) 0 0 (min r c) c=Qc r c l:=by
 obtain ⟨R,C,rfl,rfl,r6,c6,hl,q1,q2,g1,g2,_,_⟩:=Aio al h
 unfold Ko Qc
 rw [h,A5c (by decide),A5c (by decide),A4s,A4s]
 have p1:Rx (R:Int) (R:Int) 0 0 (R:Int) (min (R:Int) (C:Int))=true:=A4r (by omega)
 have p2:Rx (R:Int) (C:Int) 0 0 (min (R:Int) (C:Int)) (C:Int)=true:=A4r (by omega)
 rw [Al5 r6 r6 q2 p1,Al5 r6 c6 g2 p2]
 exact ⟨rfl,rfl⟩
theorem Azq {r c:Int} {l:List Int} (al:Aj l=true) (h:Ij r c l=0):Aj (U4 r.toNat c.toNat l)=true∧Aj (Rl r.toNat c.toNat l)=true:=by
 obtain ⟨R,C,rfl,rfl,_,_,_,q1,_,g1,_,_,_⟩:=Aio al h
 rw [A4s,A4s]
 exact ⟨q1,g1⟩
theorem Avd {r c:Int} {l:List Int} (al:Aj l=true) (h:Ij r c l=0):Aj (Ko r c l).2.2.1=true∧Aj (Qc r c l).2.2.1=true:=by
 obtain ⟨a,b⟩:=Acz al h
 obtain ⟨q1,g1⟩:=Azq al h
 rw [← a,← b]
 exact ⟨Al6 q1 _ _ _ _,Al6 g1 _ _ _ _⟩
theorem qr.Mj.known:qr.Mj.Kn:=qr.Mj.Ad (.cons Aa.Part.known (.cons qr.En.known .nil)) fun r c l hp=>by
 have al:Aj l=true:=hp
 show ∃ N dv drops,_=some dv∧Wk drops dv (DV.tup [.agg [.int .i64 (Ko r c l).1,.int .i64 (Ko r c l).2.1,.ints .fresh .u64 (Ko r c l).2.2.1],.agg [.int .i64 (Qc r c l).1,.int .i64 (Qc r c l).2.1,.ints .fresh .u64 (Qc r c l).2.2.1],.int .i64 (Ij r c l)])
 by_cases h:Ij r c l=0
 ·obtain ⟨e1,e2⟩:=Al0 h
  obtain ⟨t1,t2⟩:=Acz al h
  refine ⟨0,DV.tup [.agg [.int .i64 (Ko r c l).1,.int .i64 (Ko r c l).2.1,.ints .fresh .u64 (Ko r c l).2.2.1],.agg [.int .i64 (Qc r c l).1,.int .i64 (Qc r c l).2.1,.ints .fresh .u64 (Qc r c l).2.2.1],.int .i64 0],[],by rw [qr.Mj.ev,al,A4q,H6 h,A4u,e1,e2,t1,t2],by rw [h]; exact Wk.Hs (.cons (Wk.Hc (.cons .int (.cons .int (.cons .O4 .nil)))) (.cons (Wk.Hc (.cons .int (.cons .int (.cons .O4 .nil)))) (.cons .int .nil)))⟩
 ·have e1:Ko r c l=M9 (Ij r c l):=by unfold Ko; rw [A5d h]
  have e2:Qc r c l=M9 (Ij r c l):=by unfold Qc; rw [A5d h]
  rw [e1,e2]
  exact ⟨0,Adg (Ij r c l),[],by rw [qr.Mj.ev,al,A4q,Y7 h,A4q]; rfl,Aeg⟩
theorem A13 {r c p:Int}:((Bi r c)||(r !=p))=decide (r<c∨r≠p):=by
 rw [Av,A46]; simp
theorem solve.H7.known:solve.H7.Kn:=solve.H7.Ad (.cons Cz.Check.known (.cons qr.Mj.known (.cons qr.Gk.known (.cons solve.Flat.known (.cons solve.Io.known .nil))))) fun r c l p q m hp=>by
 obtain ⟨al,am⟩:=Ac.1 (show (Aj l&&Aj m)=true from hp)
 show ∃ N dv drops,_=some dv∧Wk drops dv (R3 (O2 r c l p q m))
 have hrun:=solve.H7.ev 0 r c l p q m
 rw [al,A4q] at hrun
 unfold O2
 by_cases c1:Cj r c l=0
 ·rw [H6 c1,A4u,am,A4q] at hrun
  rw [A5c (by rw [c1]; decide)]
  by_cases c2:Cj p q m=0
  ·rw [H6 c2,A4u,A13] at hrun
   rw [A5c (by rw [c2]; decide)]
   by_cases c3:r<c∨r≠p
   ·rw [A4r c3,A4q] at hrun
    rw [A5d c3]
    exact ⟨0+4,_,[],hrun,Iy⟩
   ·rw [A4v c3,A4u,A4q] at hrun
    rw [A5c c3]
    by_cases c4:Ij r c l=0
    ·obtain ⟨i1,i2⟩:=Avd al c4
     rw [H6 c4,A4u,i2,A4q] at hrun
     rw [A5c (by rw [c4]; decide)]
     by_cases c5:(Ss (Qc r c l).1 (Qc r c l).2.1 (Qc r c l).2.2.1).1=true
     ·rw [c5,A4q] at hrun
      rw [A5d c5]
      exact ⟨0+4,_,[],hrun,Iy⟩
     ·have c5':(Ss (Qc r c l).1 (Qc r c l).2.1 (Qc r c l).2.2.1).1=false:=by simpa using c5
      rw [c5',A4u,i1,A4w,A4q] at hrun
      rw [A5c c5]
      unfold A0i
      by_cases c6:(Ev (Ko r c l).1 (Ko r c l).2.1 (Ko r c l).2.2.1 p q m).2.2.2=0
      ·rw [H6 c6,A4u,Ana,A4w,A4q] at hrun
       rw [A5c (by rw [c6]; decide)]
       exact ⟨0+4,_,[],hrun,Ol⟩
      ·rw [Y7 c6,A4q] at hrun
       rw [A5d c6]
       exact ⟨0+4,_,[],hrun,Iy⟩
    ·rw [Y7 c4,A4q] at hrun
     rw [A5d c4]
     exact ⟨0+4,_,[],hrun,Iy⟩
  ·rw [Y7 c2,A4q] at hrun
   rw [A5d c2]
   exact ⟨0+4,_,[],hrun,Iy⟩
 ·rw [Y7 c1,A4q] at hrun
  rw [A5d c1]
  exact ⟨0+4,_,[],hrun,Iy⟩
namespace EqRef17
def Ah.Div.Ba:List (Nat × Entry):=[(145,Ah.B.spec),(147,Ah.F.spec)]
def Ah.Div.E:Env:=Bg (Bb Ah.Div.Ba) (fun _=>false) (fun _=>none) (fun _=>none)
theorem Ah.Div.ev (N:Nat) (a b:Int):B0 Ah.Div.E N f87 (Ak f87) [.int .u64 a,.int .u64 b]=bif (Af a) then bif (Af b) then some (.int .u64 (Hi ((Ieee.double.div (toNat a) (toNat b)).getD nanBits))) else none else none:=by kernel_rfl
abbrev _root_.Go.Proofs.S1.Ah.Div.Kn:=A8 prog 87 Ah.Div.spec
theorem Ah.Div.Ad (hk:A1 prog Ah.Div.Ba) (h:Hyp Ah.Div.E f87 Ah.Div.ts Ah.Div.pre Ah.Div.out):Ah.Div.Kn :=
 Al (A4 hk _ _ _) func87 (by kernel_rfl) (by kernel_rfl) h
def Ah.Finite.hint:Nat→Option Bc
 | 0=>some { keep:=[0,3],objs:=[],boxes:=[] }
 | _=>none
def Ah.Finite.Ba:List (Nat × Entry):=[(114,A6.Finite.spec)]
def Ah.Finite.E:Env:=Bg (Bb Ah.Finite.Ba) (fun _=>false) Ah.Finite.hint (fun _=>none)
section
variable (N M:Nat) (x:List Int) (p3:Int)
def Ah.Finite.L0:Option DV:=Cb Ah.Finite.E N f74 (Ak f74) [1,0,1,0] [] M ⟨Fo 16 [(0,.ints .arg .u64 x),(3,.int .i64 p3)],[]⟩
theorem Ah.Finite.Au:Ah.Finite.L0 N (M+1) x p3=bif (Bi p3 (length x:Int)) then bif ((decide (0≤p3))&&(decide (p3<(length x:Int)))) then bif (Af (getD x (toNat p3) 0)) then bif (!(Dw (getD x (toNat p3) 0))) then some (.bool false) else Ah.Finite.L0 N M x (Ab (p3+1)) else none else none else some (.bool true):=by kernel_rfl
theorem Ah.Finite.ev:B0 Ah.Finite.E N f74 (Ak f74) [.ints .arg .u64 x] =
 Ah.Finite.L0 N N x 0:=by kernel_rfl
end
abbrev _root_.Go.Proofs.S1.Ah.Finite.Kn:=A8 prog 74 Ah.Finite.spec
theorem Ah.Finite.Ad (hk:A1 prog Ah.Finite.Ba) (h:Hyp Ah.Finite.E f74 Ah.Finite.ts Ah.Finite.pre Ah.Finite.out):Ah.Finite.Kn :=
 Al (A4 hk _ _ _) func74 (by kernel_rfl) (by kernel_rfl) h
def Ic.Check.Ba:List (Nat × Entry):=[(74,Ah.Finite.spec),(90,Am.Ip.spec)]
def Ic.Check.E:Env:=Bg (Bb Ic.Check.Ba) (fun _=>false) (fun _=>none) (fun _=>none)
theorem Ic.Check.ev (N:Nat) (r c:Int) (l:List Int):B0 Ic.Check.E N f35 (Ak f35) [.agg [.int .i64 r,.int .i64 c,.ints .arg .u64 l]]=bif (!(A3 r c l)) then some (.int .i64 1) else bif (B4 l) then bif (!(D2 l)) then some (.int .i64 4) else some (.int .i64 0) else none:=by kernel_rfl
abbrev _root_.Go.Proofs.S1.Ic.Check.Kn:=A8 prog 35 Ic.Check.spec
theorem Ic.Check.Ad (hk:A1 prog Ic.Check.Ba) (h:Hyp Ic.Check.E f35 Ic.Check.ts Ic.Check.pre Ic.Check.out):Ic.Check.Kn :=
 Al (A4 hk _ _ _) func35 (by kernel_rfl) (by kernel_rfl) h
end EqRef17
open EqRef17
theorem Ah.Div.known:Ah.Div.Kn:=Ah.Div.Ad (.cons Ah.B.known (.cons Ah.F.known .nil)) fun a b hp=>by
 obtain ⟨ha,hb⟩:=Ac.1 hp
 obtain ⟨a,rfl,hn⟩:=By ha
 obtain ⟨b,rfl,hm⟩:=By hb
 refine ⟨0,Ah.Div.out [.i a,.i b],[],?_,.int⟩
 rw [Ah.Div.ev,ha,hb,A4s,A4s]
 unfold Hi
 rw [Att hn hm Hx]; rfl
theorem Y6 (N:Nat) {x:List Int} (hx:B4 x=true):∀ (k i F:Nat),i+k=x.length→k<F→Ah.Finite.L0 N F x (i:Int)=some (.bool ((x.drop i).all Dw)):=by
 obtain ⟨hl,hu⟩:=I4 hx
 intro k
 induction k with
 | zero =>
   intro i F hi hF
   obtain ⟨F,rfl⟩:∃ G,F=G+1:=⟨F-1,by omega⟩
   rw [Ah.Finite.Au,Av,A4v (by omega),A4u,A44 (by omega)]; rfl
 | succ k ih =>
   intro i F hi hF
   obtain ⟨F,rfl⟩:∃ G,F=G+1:=⟨F-1,by omega⟩
   rw [Ah.Finite.Au,Av,A4r (show (i:Int)<(x.length:Int) by omega),A4q,A4r (show (0:Int)≤(i:Int) by omega),A4w,A4q,A4s,hu i (by omega),A4q,J8 (by omega),List.all_cons]
   cases Dw (x.getD i 0) with
   | false=>rfl
   | true =>
     rw [A5p,A4u,An (by omega) (by omega),A53]
     exact ih (i+1) F (by omega) (by omega)
theorem Ah.Finite.known:Ah.Finite.Kn:=Ah.Finite.Ad (.cons A6.Finite.known .nil) fun x hp=>by
 have hp:B4 x=true:=hp
 refine ⟨x.length+1,Ah.Finite.out [.l x],[],?_,.bool⟩
 show _=some (DV.bool (x.all Dw))
 rw [Ah.Finite.ev]
 exact Y6 _ hp x.length 0 (x.length+1) (by omega) (by omega)
theorem Ic.Check.known:Ic.Check.Kn:=Ic.Check.Ad (.cons Ah.Finite.known (.cons Am.Ip.known .nil)) fun r c l hp=>by
 have hp:Aj l=true:=hp
 refine ⟨0,Ic.Check.out [.i r,.i c,.l l],[],?_,.int⟩
 show _=some (DV.int .i64 (Cj r c l))
 rw [Ic.Check.ev]
 unfold Cj
 by_cases h:A3 r c l=true
 ·have:=Th h
  rw [h,A5p,A4u,Gi hp (by omega),A4q,A5d rfl]
  cases D2 l<;>rfl
 ·have h':A3 r c l=false:=by simpa using h
  rw [h']; rfl
section
variable {n Q:Nat} {l m:List Int}
end
namespace EqRef14
end EqRef14
open EqRef13 EqRef14
theorem Am.Hj.arg.known:Am.Hj.arg.Kn:=A8.Am7 (P:=_) (pre:=Am.Hj.pre) (out:=Am.Hj.out) Am.Hj.known [] fun ats h=>by
 unfold Am.Hj.arg.pre at h
 split at h
 ·exact ⟨h,Wk.Hc (.cons .int (.cons .int (.cons (.fresh _ _) .nil)))⟩
 ·cases h
theorem Am.Ff.arg.known:Am.Ff.arg.Kn:=A8.Am7 (P:=_) (pre:=Am.Ff.pre) (out:=Am.Ff.out) Am.Ff.known [] fun ats h=>by
 unfold Am.Ff.arg.pre at h
 split at h
 ·exact ⟨h,Wk.Hc (.cons .int (.cons .int (.cons (.fresh _ _) .nil)))⟩
 ·cases h
open EqRef13 EqRef14
theorem M3 (a c b:Nat):toNat ((a:Int)*(c:Int)+(b:Int))=a*c+b:=by rw [← A5b,← Int.natCast_add,A4s]
section
variable {R C i k:Nat} {l v:List Int} {t:Int}
end
namespace EqGiv
def Cx.Rows.hint:Nat→Option Bc
 | 0=>some { keep:=[1,2,3,4,5,10,13,62,63],objs:=[(14,2,114002,.ints 43 .u64 [])],boxes:=[5,10,13] }
 | _=>none
def Cx.Rows.Ba:List (Nat × Entry):=[(121,Aa.Check.spec),(137,Ae.Add.spec),(138,Ae.Mul.spec),(201,Ae.Sub.spec)]
def Cx.Rows.E:Env:=Bg (Bb Cx.Rows.Ba) (fun _=>false) Cx.Rows.hint (fun _=>none)
section
variable (N M:Nat) (r c:Int) (l:List Int) (i k x y p63:Int) (p2:List Int)
def Cx.Rows.L0:Option DV:=Cb Cx.Rows.E N f204 (Ak f204) [1,1,1,1,1,0,1,0] [] M ⟨Fo 120 [(1,.int .i64 i),(2,.int .i64 k),(3,.int .u64 x),(4,.int .u64 y),(5,.ptr 5 0 0),(10,.ptr 10 0 0),(13,.ptr 13 0 0),(62,.int .i64 c),(63,.int .i64 p63)],[(5,false,.box [.int .i64 r,.int .i64 c,.ints .arg .u64 l]),(10,false,.box [.int .i64 0,.int .i64 0,.nil]),(13,false,.box [.int .i64 r,.int .i64 c,.oref 114002]),(114002,false,.ints 43 .u64 p2)]⟩
theorem Cx.Rows.Au:Cx.Rows.L0 N (M+1) r c l i k x y p63 p2=bif (Bi p63 c) then bif ((decide (0≤(Ab ((Ab (i*c))+p63))))&&(decide ((Ab ((Ab (i*c))+p63))<(length l:Int)))) then bif ((decide (0≤(Ab ((Ab (k*c))+p63))))&&(decide ((Ab ((Ab (k*c))+p63))<(length l:Int)))) then bif (Af x&&Af (getD l (toNat (Ab ((Ab (i*c))+p63))) 0)) then bif (Af y&&Af (getD l (toNat (Ab ((Ab (k*c))+p63))) 0)) then bif (Af (Ca x (getD l (toNat (Ab ((Ab (i*c))+p63))) 0))&&Af (Ca y (getD l (toNat (Ab ((Ab (k*c))+p63))) 0))) then bif ((decide (0≤(Ab ((Ab (i*c))+p63))))&&(decide ((Ab ((Ab (i*c))+p63))<(length p2:Int)))) then bif (decide ((toNat (Ab ((Ab (i*c))+p63)))<(length p2))) then bif (Af x&&Af (getD l (toNat (Ab ((Ab (k*c))+p63))) 0)) then bif (Af y&&Af (getD l (toNat (Ab ((Ab (i*c))+p63))) 0)) then bif (Af (Ca x (getD l (toNat (Ab ((Ab (k*c))+p63))) 0))&&Af (Ca y (getD l (toNat (Ab ((Ab (i*c))+p63))) 0))) then bif ((decide (0≤(Ab ((Ab (k*c))+p63))))&&(decide ((Ab ((Ab (k*c))+p63))<(length (List.set p2 (toNat (Ab ((Ab (i*c))+p63))) (Dm (Ca x (getD l (toNat (Ab ((Ab (i*c))+p63))) 0)) (Ca y (getD l (toNat (Ab ((Ab (k*c))+p63))) 0)))):Int)))) then bif (decide ((toNat (Ab ((Ab (k*c))+p63)))<(length (List.set p2 (toNat (Ab ((Ab (i*c))+p63))) (Dm (Ca x (getD l (toNat (Ab ((Ab (i*c))+p63))) 0)) (Ca y (getD l (toNat (Ab ((Ab (k*c))+p63))) 0))))))) then Cx.Rows.L0 N M r c l i k x y (Ab (p63+1)) (List.set (List.set p2 (toNat (Ab ((Ab (i*c))+p63))) (Dm (Ca x (getD l (toNat (Ab ((Ab (i*c))+p63))) 0)) (Ca y (getD l (toNat (Ab ((Ab (k*c))+p63))) 0)))) (toNat (Ab ((Ab (k*c))+p63))) (Gb (Ca x (getD l (toNat (Ab ((Ab (k*c))+p63))) 0)) (Ca y (getD l (toNat (Ab ((Ab (i*c))+p63))) 0)))) else none else none else none else none else none else none else none else none else none else none else none else none else some (.tup [.agg [.int .i64 r,.int .i64 c,.ints (.own 114002 43) .u64 p2],.int .i64 0]) :=
 Eq.trans (by kernel_rfl)
 (E1 (Cw (Kb _ _) (Cw (Kb _ _) (Cw (Ct _) (Cw (Ct _) (Cw (Ct _) (Cw (Kb _ _) (Cw (Ct _) (Cw (Ct _) (Cw (Ct _) (Cw (Ct _) (Cw (Kb _ _) (Cw (Ct _) rfl rfl) rfl) rfl) rfl) rfl) rfl) rfl) rfl) rfl) rfl) rfl) rfl) rfl)
theorem Cx.Rows.ev:B0 Cx.Rows.E N f204 (Ak f204) [.agg [.int .i64 r,.int .i64 c,.ints .arg .u64 l],.int .i64 i,.int .i64 k,.int .u64 x,.int .u64 y]=bif ((Lt r c l) !=(0:Int)) then some (.tup [.agg [.int .i64 0,.int .i64 0,.nil],.int .i64 (Lt r c l)]) else bif (((((Bi i 0)||(Ex r i))||(Bi k 0))||(Ex r k))||(i==k)) then some (.tup [.agg [.int .i64 0,.int .i64 0,.nil],.int .i64 7]) else bif (((decide ((0:Int)≤(length l:Int)))&&(decide ((length l:Int)≤(length l:Int))))&&(decide ((length l:Int)≤G8))) then Cx.Rows.L0 N N r c l i k x y 0 (R0 (List.replicate (toNat (length l:Int)) 0) l) else none :=
 Eq.trans (by kernel_rfl)
 (E1 rfl (Ay (T3 (Bi i 0)) (Ay (T3 (Bi i 0)) (Ay (Rv (Bi i 0)) (Ay (tt8 (Bi i 0)) (Ay (Y5 (Bi i 0)) (Ay (Aeo (Bi i 0) (Ex r i)) (Ay (Agm (Bi i 0) (Ex r i)) (Ay (Anb (Bi i 0) (Ex r i)) (Ay (Agn (Bi i 0) (Ex r i) (Bi k 0)) (Ay (Agn (Bi i 0) (Ex r i) (Bi k 0)) (Ay (Aep (Bi i 0) (Ex r i) (Bi k 0)) (Ay (A02 (Bi i 0) (Ex r i) (Bi k 0)) (Ay (Anc (Bi i 0) (Ex r i) (Bi k 0)) (Ay (Ane (Bi i 0) (Ex r i) (Bi k 0) (Ex r k)) (Ay (Ane (Bi i 0) (Ex r i) (Bi k 0) (Ex r k)) (Ay (Ayk (Bi i 0) (Ex r i) (Bi k 0) (Ex r k)) (Ay (Ayl (Bi i 0) (Ex r i) (Bi k 0) (Ex r k)) (Cw (A03 _ _ _ _ _) rfl (Cw (A28 _ _ _) rfl rfl))))))))))))))))))))
end
abbrev _root_.Go.Proofs.S1.Cx.Rows.Kn:=A8 prog 204 Cx.Rows.spec
theorem Cx.Rows.Ad (hk:A1 prog Cx.Rows.Ba) (h:Hyp Cx.Rows.E f204 Cx.Rows.ts Cx.Rows.pre Cx.Rows.out):Cx.Rows.Kn :=
 Al (A4 hk _ _ _) func204 (by kernel_rfl) (by kernel_rfl) h
def Cx.Gz.Ba:List (Nat × Entry):=[(204,Cx.Rows.spec),(203,Aa.Cv.spec)]
def Cx.Gz.E:Env:=Bg (Bb Cx.Gz.Ba) (fun _=>false) (fun _=>none) (fun _=>none)
theorem Cx.Gz.ev (N:Nat) (r c:Int) (l:List Int) (i k:Int) (x y:Int):B0 Cx.Gz.E N f170 (Ak f170) [.agg [.int .i64 r,.int .i64 c,.ints .arg .u64 l],.int .i64 i,.int .i64 k,.int .u64 x,.int .u64 y]=bif (((Ds r c l).2.2.2) !=(0:Int)) then some (.tup [.agg [.int .i64 0,.int .i64 0,.nil],.int .i64 ((Ds r c l).2.2.2)]) else bif (A3 ((Ds r c l).1) ((Ds r c l).2.1) ((Ds r c l).2.2.1)&&(Aj ((Ds r c l).2.2.1)&&((Af x&&Af y)&&B3 (0≤i∧i<((Ds r c l).1)∧0≤k∧k<((Ds r c l).1)∧i≠k)))) then some (.tup [.agg [.int .i64 ((Ds ((Ds r c l).1) ((Ds r c l).2.1) (Lm (toNat ((Ds r c l).1)) (toNat ((Ds r c l).2.1)) ((Ds r c l).2.2.1) (toNat i) (toNat k) x y)).1),.int .i64 ((Ds ((Ds r c l).1) ((Ds r c l).2.1) (Lm (toNat ((Ds r c l).1)) (toNat ((Ds r c l).2.1)) ((Ds r c l).2.2.1) (toNat i) (toNat k) x y)).2.1),.ints .fresh .u64 ((Ds ((Ds r c l).1) ((Ds r c l).2.1) (Lm (toNat ((Ds r c l).1)) (toNat ((Ds r c l).2.1)) ((Ds r c l).2.2.1) (toNat i) (toNat k) x y)).2.2.1)],.int .i64 ((Ds ((Ds r c l).1) ((Ds r c l).2.1) (Lm (toNat ((Ds r c l).1)) (toNat ((Ds r c l).2.1)) ((Ds r c l).2.2.1) (toNat i) (toNat k) x y)).2.2.2)]) else none:=by kernel_rfl
abbrev _root_.Go.Proofs.S1.Cx.Gz.Kn:=A8 prog 170 Cx.Gz.spec
theorem Cx.Gz.Ad (hk:A1 prog Cx.Gz.Ba) (h:Hyp Cx.Gz.E f170 Cx.Gz.ts Cx.Gz.pre Cx.Gz.out):Cx.Gz.Kn :=
 Al (A4 hk _ _ _) func170 (by kernel_rfl) (by kernel_rfl) h
end EqGiv
namespace EqRef12
def D0.Rows.hint:Nat→Option Bc
 | 0=>some { keep:=[1,2,3,4,5,10,11,12],objs:=[],boxes:=[5,10,11] }
 | _=>none
def D0.Rows.Ba:List (Nat × Entry):=[(152,Ah.Add.spec),(153,Ah.Mul.spec),(198,Ah.Sub.spec),(55,Am.At.spec),(54,Am.Hj.arg.spec)]
def D0.Rows.E:Env:=Bg (Bb D0.Rows.Ba) (fun _=>false) D0.Rows.hint (fun _=>none)
section
variable (N M:Nat) (r c:Int) (l:List Int) (i k x y p12:Int) (p11:List Int)
def D0.Rows.L0:Option DV:=Cb D0.Rows.E N f199 (Ak f199) [1,1,0,1,0] [] M ⟨Fo 53 [(1,.int .i64 i),(2,.int .i64 k),(3,.int .u64 x),(4,.int .u64 y),(5,.ptr 5 0 0),(10,.ptr 10 0 0),(11,.ptr 11 0 0),(12,.int .i64 p12)],[(5,false,.box [.int .i64 r,.int .i64 c,.ints .arg .u64 l]),(10,false,.box [.int .i64 0,.int .i64 0,.nil]),(11,false,.box [.int .i64 r,.int .i64 c,.ints .arg .u64 p11])]⟩
theorem D0.Rows.Au:D0.Rows.L0 N (M+1) r c l i k x y p12 p11=bif (Bi p12 c) then bif (Em r c l i p12) then bif (Em r c l k p12) then bif (Af x&&Af (D8 c l i p12)) then bif (Af y&&Af (D8 c l k p12)) then bif (Af (Ca x (D8 c l i p12))&&Af (Ca y (D8 c l k p12))) then bif (Em r c p11 i p12) then bif (Af x&&Af (D8 c l k p12)) then bif (Af y&&Af (D8 c l i p12)) then bif (Af (Ca x (D8 c l k p12))&&Af (Ca y (D8 c l i p12))) then bif (Em r c (List.set p11 (toNat (i*c+p12)) (Dm (Ca x (D8 c l i p12)) (Ca y (D8 c l k p12)))) k p12) then D0.Rows.L0 N M r c l i k x y (Ab (p12+1)) (List.set (List.set p11 (toNat (i*c+p12)) (Dm (Ca x (D8 c l i p12)) (Ca y (D8 c l k p12)))) (toNat (k*c+p12)) (Gb (Ca x (D8 c l k p12)) (Ca y (D8 c l i p12)))) else none else none else none else none else none else none else none else none else none else none else some (.agg [.int .i64 r,.int .i64 c,.ints .arg .u64 p11]) :=
 Eq.trans (by kernel_rfl)
 (E1 (E1 (E1 (Cw (Ct _) (Cw (Ct _) (Cw (Ct _) (Cw (Ct _) (Cw (Ct _) (Cw (Ct _) (Cw (Ct _) (Cw (Ct _) rfl rfl) rfl) rfl) rfl) rfl) rfl) rfl) rfl) rfl) rfl) rfl)
theorem D0.Rows.ev:B0 D0.Rows.E N f199 (Ak f199) [.agg [.int .i64 r,.int .i64 c,.ints .arg .u64 l],.int .i64 i,.int .i64 k,.int .u64 x,.int .u64 y] =
 D0.Rows.L0 N N r c l i k x y 0 l:=by kernel_rfl
end
abbrev _root_.Go.Proofs.S1.D0.Rows.Kn:=A8 prog 199 D0.Rows.spec
theorem D0.Rows.Ad (hk:A1 prog D0.Rows.Ba) (h:Hyp D0.Rows.E f199 D0.Rows.ts D0.Rows.pre D0.Rows.out):D0.Rows.Kn :=
 Al (A4 hk _ _ _) func199 (by kernel_rfl) (by kernel_rfl) h
def D0.Gz.Ba:List (Nat × Entry):=[(14,Am.Cv.spec),(199,D0.Rows.spec)]
def D0.Gz.E:Env:=Bg (Bb D0.Gz.Ba) (fun _=>false) (fun _=>none) (fun _=>none)
theorem D0.Gz.ev (N:Nat) (r c:Int) (l:List Int) (i k:Int) (x y:Int):B0 D0.Gz.E N f157 (Ak f157) [.agg [.int .i64 r,.int .i64 c,.ints .arg .u64 l],.int .i64 i,.int .i64 k,.int .u64 x,.int .u64 y]=bif (A3 r c l) then bif (A3 c r (B8 (toNat c) (toNat r) (fun j1 j2=>D8 c l j2 j1))&&(Aj (B8 (toNat c) (toNat r) (fun j1 j2=>D8 c l j2 j1))&&((Af x&&Af y)&&B3 (0≤i∧i<c∧0≤k∧k<c∧i≠k)))) then bif (A3 c r (Lm (toNat c) (toNat r) (B8 (toNat c) (toNat r) (fun j1 j2=>D8 c l j2 j1)) (toNat i) (toNat k) x y)) then some (.agg [.int .i64 r,.int .i64 c,.ints .fresh .u64 (B8 (toNat r) (toNat c) (fun j1 j2=>D8 r (Lm (toNat c) (toNat r) (B8 (toNat c) (toNat r) (fun j1 j2=>D8 c l j2 j1)) (toNat i) (toNat k) x y) j2 j1))]) else none else none else none:=by kernel_rfl
abbrev _root_.Go.Proofs.S1.D0.Gz.Kn:=A8 prog 157 D0.Gz.spec
theorem D0.Gz.Ad (hk:A1 prog D0.Gz.Ba) (h:Hyp D0.Gz.E f157 D0.Gz.ts D0.Gz.pre D0.Gz.out):D0.Gz.Kn :=
 Al (A4 hk _ _ _) func157 (by kernel_rfl) (by kernel_rfl) h
end EqRef12
end Go.Proofs.S1
namespace Go.Rnd
open Go.Den
theorem Ah9 (key:Int→Int) (x:Int) (l:List Int):(P3 key x l).length=l.length+1:=by
 induction l with
 | nil=>rfl
 | cons y t ih =>
   unfold P3
   split
   ·rw [List.length_cons,ih,List.length_cons]
   ·rfl
theorem Ah8 {key:Int→Int} {x z:Int} {l:List Int} (h:z∈P3 key x l):z=x∨z∈l:=by
 induction l with
 | nil=>exact .inl (List.mem_singleton.1 h)
 | cons y t ih =>
   unfold P3 at h
   split at h
   ·rcases List.mem_cons.1 h with h | h
    ·exact .inr (h ▸ A55)
    ·rcases ih h with h | h
     ·exact .inl h
     ·exact .inr (A5v _ h)
   ·rcases List.mem_cons.1 h with h | h
    ·exact .inl h
    ·exact .inr h
theorem Sp {n:Nat} {x:List Int} (h:Jh n x=true) {j:Nat} (hj:j<x.length):0≤x.getD j 0∧x.getD j 0<(n:Int):=by
 have:=List.all_eq_true.1 h (x.getD j 0) (by rw [A40,A47 hj]; exact List.getElem_mem hj)
 exact A5g this
theorem J0 {n:Nat} {x:List Int}:Jh n x=true↔∀ z∈x,0≤z∧z<(n:Int):=by
 unfold Jh
 rw [List.all_eq_true]
 exact forall_congr' fun z=>forall_congr' fun _=>decide_eq_true_iff
theorem Ajs (key:Int→Int) (l:List Int) (x:Int):R9 key (l++[x])=P3 key x (R9 key l):=by
 unfold R9; rw [List.foldl_append]; rfl
theorem Vp (key:Int→Int) (l:List Int):(R9 key l).length=l.length:=by
 suffices h:∀ acc:List Int,(l.foldl (fun acc x=>P3 key x acc) acc).length=acc.length+l.length by
  have:=h []; rw [List.length_nil,A50] at this; exact this
 induction l with
 | nil=>intro acc; rfl
 | cons y t ih=>intro acc; rw [List.foldl_cons,ih,Ah9,List.length_cons]; omega
theorem Ac3 {key:Int→Int} {l:List Int} {z:Int} (h:z∈R9 key l):z∈l:=by
 suffices g:∀ acc:List Int,z∈l.foldl (fun acc x=>P3 key x acc) acc→z∈acc∨z∈l by
  rcases g [] h with h | h
  ·cases h
  ·exact h
 clear h
 induction l with
 | nil=>intro acc h; exact .inl h
 | cons y t ih =>
   intro acc h
   rcases ih _ h with h | h
   ·rcases Ah8 h with h | h
    ·exact .inr (h ▸ A55)
    ·exact .inl h
   ·exact .inr (A5v _ h)
theorem Ann (A B:List Int) (y v:Int):((A++y::v::B).set (A.length+1) y).set A.length v=A++v::y::B:=by
 induction A with
 | nil=>rfl
 | cons a A ih =>
   rw [List.length_cons,List.cons_append,List.set_cons_succ,List.set_cons_succ,ih]
   rfl
theorem Aie (A B:List Int) (v:Int):(A++v::B).getD A.length 0=v:=by
 rw [A40,A54 (A5k _),Nat.sub_self]; rfl
def rgF (n:Nat) (l:List Int) (i k:Nat) (c s:Int) (a b:Nat):Int :=
 if a=i then Dm (Ca c (D8 (n:Int) l (i:Int) (b:Int))) (Ca s (D8 (n:Int) l (k:Int) (b:Int)))
 else if a=k then Gb (Ca c (D8 (n:Int) l (k:Int) (b:Int))) (Ca s (D8 (n:Int) l (i:Int) (b:Int))) else D8 (n:Int) l (a:Int) (b:Int)
def rgS (R n:Nat) (l:List Int) (i k:Nat) (c s:Int) (j:Nat):List Int:=B8 R n fun a b=>if b<j then rgF n l i k c s a b else D8 (n:Int) l (a:Int) (b:Int)
theorem Ahd {R n:Nat} {l:List Int} (h:l.length=R*n) (i k:Nat) (c s:Int):rgS R n l i k c s 0=l:=by
 unfold rgS
 conv=>rhs; rw [← Ts h]
 exact D6 fun a b _ _=>A5c (by omega)
theorem Aly (R n:Nat) (l:List Int) (i k:Nat) (c s:Int):rgS R n l i k c s n=Lm R n l i k c s:=by
 unfold rgS Lm
 exact D6 fun a b _ hb=>A5d hb
theorem Ae3 (R n:Nat) (l:List Int) (i k:Nat) (c s:Int) (j:Nat):(rgS R n l i k c s j).length=R*n:=Cd _ _ _
theorem Ahe {R n:Nat} {l:List Int} {i k:Nat} {c s:Int} {j:Nat} (hj:j<n) (hik:i≠k) :
 ((rgS R n l i k c s j).set (i*n+j) (Dm (Ca c (D8 (n:Int) l (i:Int) (j:Int))) (Ca s (D8 (n:Int) l (k:Int) (j:Int))))).set (k*n+j)
   (Gb (Ca c (D8 (n:Int) l (k:Int) (j:Int))) (Ca s (D8 (n:Int) l (i:Int) (j:Int))))=rgS R n l i k c s (j+1):=by
 unfold rgS
 rw [Qt hj,Qt hj]
 refine D6 fun a b _ _=>?_
 by_cases hb:b=j
 ·subst hb
  by_cases h1:a=k
  ·subst h1
   rw [A5d ⟨rfl,rfl⟩,A5d (Nat.lt_succ_self _)]
   unfold rgF
   rw [A5c (Ne.symm hik),A5d rfl]
  ·rw [A5c (fun h=>h1 h.1),A5d (Nat.lt_succ_self _)]
   by_cases h2:a=i
   ·subst h2
    rw [A5d ⟨rfl,rfl⟩]
    unfold rgF
    rw [A5d rfl]
   ·rw [A5c (fun h=>h2 h.1),A5c (Nat.lt_irrefl _)]
    unfold rgF
    rw [A5c h2,A5c h1]
 ·rw [A5c (fun h=>hb h.2),A5c (fun h=>hb h.2)]
  by_cases h:b<j
  ·rw [A5d h,A5d (by omega)]
  ·rw [A5c h,A5c (by omega)]
theorem Aiw {R n:Nat} {l:List Int} (hl:Aj l=true) (i k:Nat) (c s:Int):Aj (O6 R n l i k c s)=true:=I9 fun a b=>by
 split
 ·exact Nt (Eu _ _) (Eu _ _)
 ·split
  ·exact Q3 (Eu _ _) (Eu _ _)
  ·exact F7 hl
theorem Adz {R n:Nat} {l:List Int} {i k:Nat} (hi:i<n) (hk:k<n) (c s:Int) :
 (B8 R n fun a b=>D8 (R:Int) (Lm n R (B8 n R fun a b=>D8 (n:Int) l (b:Int) (a:Int)) i k c s) (b:Int) (a:Int))=O6 R n l i k c s:=by
 unfold O6
 refine D6 fun a b ha hb=>?_
 unfold Lm
 rw [Mp hb ha]
 by_cases h1:b=i
 ·rw [A5d h1,A5d h1,Mp hi ha,Mp hk ha]
 ·rw [A5c h1,A5c h1]
  by_cases h2:b=k
  ·rw [A5d h2,A5d h2,Mp hi ha,Mp hk ha]
  ·rw [A5c h2,A5c h2,Mp hb ha]
theorem Apt {l x:List Int} (h:l.length=x.length):R0 l x=x:=by
 unfold R0
 rw [h,List.take_length,A44 (by omega),List.append_nil]
def H5 (R n:Nat) (s:List Int × List Int × Bool):Prop:=(s.1.length=R*n∧Aj s.1=true)∧s.2.1.length=n*n∧Aj s.2.1=true
theorem Ad0 (R n:Nat) (l:List Int) (i k:Nat) (c s:Int):(O6 R n l i k c s).length=R*n:=Cd _ _ _
theorem H5.Mw {be:List Int→List Int→Int→Bool} {R n:Nat} {low:Int} {p q:Nat} {s:List Int × List Int × Bool} (h:H5 R n s):H5 R n (Mw be R n low p q s):=by
 unfold Go.Rnd.Mw
 split
 ·exact h
 ·exact ⟨⟨Ad0 ..,Aiw h.1.2 ..⟩,Ad0 ..,Aiw h.2.2 ..⟩
theorem H5.Pd {be:List Int→List Int→Int→Bool} {R n:Nat} {low:Int} {p:Nat}:∀ (d q:Nat) {s:List Int × List Int × Bool},H5 R n s→H5 R n (Pd be R n low p d q s)
 | 0,_,_,h=>h
 | d+1,q,_,h=>H5.Pd d (q+1) h.Mw
theorem H5.M6 {be:List Int→List Int→Int→Bool} {R n:Nat} {low:Int}:∀ (d p:Nat) {s:List Int × List Int × Bool},H5 R n s→H5 R n (M6 be R n low d p s)
 | 0,_,_,h=>h
 | d+1,p,_,h=>H5.M6 d (p+1) (H5.Pd _ _ h)
theorem H5.Ee {R n:Nat} {low:Int}:∀ (m:Nat) {w v:List Int},H5 R n (w,v,true)→H5 R n ((Ee R n low m w v).1,(Ee R n low m w v).2.1,true)
 | 0,_,_,h=>h
 | m+1,w,v,h=>by
   have g:H5 R n (Ju R n low w v):=H5.M6 n 0 h
   unfold Go.Rnd.Ee
   split
   ·exact ⟨g.1,g.2⟩
   ·exact H5.Ee m ⟨g.1,g.2⟩
theorem Xj {R n:Nat} {low:Int}:∀ (m:Nat) (w v:List Int),(Ee R n low m w v).2.2=0∨(Ee R n low m w v).2.2=6
 | 0,_,_=>.inr rfl
 | m+1,w,v=>by
   unfold Go.Rnd.Ee
   split
   ·exact .inl rfl
   ·exact Xj m _ _
theorem F5 (R n:Nat) (l ps:List Int):(Cq R n l ps).length=R*n:=Cd _ _ _
theorem K2 {R n:Nat} {l ps:List Int} (h:Aj l=true):Aj (Cq R n l ps)=true:=I9 fun _ _=>F7 h
theorem Uv (R n:Nat) (l:List Int):(Cf R n l).length=n:=by unfold Cf; rw [A5w,A5t]
theorem Adf (R n:Nat) (l:List Int):Aj (Cf R n l)=true:=W3 fun _=>Ks _
theorem Kw (l:List Int) (k:Int):(Bh l k).length=l.length:=by unfold Bh; rw [A5w]
theorem Xg {l:List Int} {k:Int} (h:Aj l=true):Aj (Bh l k)=true:=Aq.2 fun x hx=>by
 obtain ⟨y,hy,rfl⟩:=List.mem_map.1 hx
 exact Ha (Aq.1 h y hy)
theorem Qh (n:Nat):(Le n).length=n:=by unfold Le; rw [A5w,A5t]
theorem Zi (n:Nat):Jh n (Le n)=true:=J0.2 fun z hz=>by
 obtain ⟨i,hi,rfl⟩:=List.mem_map.1 hz
 have:=List.mem_range.1 hi
 omega
theorem Ac2 (l x:List Int):(E8 l x).length=x.length:=by unfold E8; rw [List.length_reverse,Vp]
theorem Aq7 {n:Nat} {l x:List Int} (h:Jh n x=true):Jh n (E8 l x)=true:=J0.2 fun z hz=>J0.1 h z (Ac3 (List.mem_reverse.1 hz))
theorem Awu (i k:Int):Af (N7 i k)=true:=by
 unfold N7
 split
 ·exact Ae9
 ·exact Cm (n:=0) (by decide)
end Go.Rnd
namespace Go.Proofs.S1
open Go Go.Den Go.Rnd Go.Proofs
open EqGiv EqRef12
theorem Uu {R C i j:Nat} (r6:R≤6) (c6:C≤6) (hi:i<R) (hj:j<C):Ab (Ab ((i:Int)*(C:Int))+(j:Int))=((i*C+j:Nat):Int)∧i*C+j<R*C:=by
 have h:=Ig hi hj
 have:R*C≤36:=A5m r6 c6
 have e:(i:Int)*(C:Int)=((i*C:Nat):Int):=(A5b _ _).symm
 refine ⟨?_,h⟩
 have e0:Ab ((i*C:Nat):Int)=((i*C:Nat):Int):=An (by omega) (by omega)
 rw [e,e0,An (by omega) (by omega)]
 omega
theorem Aph {R C:Nat} {l:List Int} {i k:Nat} {x y:Int} (r6:R≤6) (c6:C≤6) (hl:l.length=R*C) (al:Aj l=true) (hx:Af x=true) (hy:Af y=true) (hi:i<R) (hk:k<R) (hik:i≠k) (N:Nat) :
 ∀ (d j F:Nat),j+d=C→d<F→Cx.Rows.L0 N F (R:Int) (C:Int) l (i:Int) (k:Int) x y (j:Int) (rgS R C l i k x y j)=some (.tup [.agg [.int .i64 (R:Int),.int .i64 (C:Int),.ints (.own 114002 tB) .u64 (Lm R C l i k x y)],.int .i64 (0:Int)]):=by
 intro d
 induction d with
 | zero =>
   intro j F hj hF
   obtain ⟨F,rfl⟩:∃ G,F=G+1:=⟨F-1,by omega⟩
   obtain rfl:j=C:=by omega
   rw [Cx.Rows.Au,Av,A4v (by omega),A4u,Aly]
 | succ d ih =>
   intro j F hj hF
   obtain ⟨F,rfl⟩:∃ G,F=G+1:=⟨F-1,by omega⟩
   obtain ⟨e1,b1⟩:=Uu r6 c6 hi (show j<C by omega)
   obtain ⟨e2,b2⟩:=Uu r6 c6 hk (show j<C by omega)
   have a1:getD l (i*C+j) 0=D8 (C:Int) l (i:Int) (j:Int):=by unfold D8; rw [M3]
   have a2:getD l (k*C+j) 0=D8 (C:Int) l (k:Int) (j:Int):=by unfold D8; rw [M3]
   have g:∀ n:Nat,n<R*C→(decide ((0:Int)≤(n:Int))&&decide ((n:Int)<((R*C:Nat):Int)))=true:=fun n hn=>by rw [A4r (by omega),A4r (by omega)]; rfl
   rw [Cx.Rows.Au,Av,A4r (by omega),A4q,e1,e2,A4s,A4s,List.length_set,Ae3,hl,a1,a2,g _ b1,g _ b2,A4q,A4q,hx,hy,F7 al,F7 al,A4w,A4q,A4q,Eu,Eu,A4w,A4q,A4q,
    A4r b1,A4r b2,A4q,A4q,A4q,Eu,Eu,A4w,A4q,A4q,A4q,Ahe (show j<C by omega) hik,An (by omega) (by omega)]
   exact ih (j+1) F (by omega) (by omega)
theorem Cx.Rows.known:Cx.Rows.Kn:=Cx.Rows.Ad (.cons Aa.Check.known (.cons Ae.Add.known (.cons Ae.Mul.known (.cons Ae.Sub.known .nil)))) fun r c l i k x y hp=>by
 obtain ⟨hr,hp⟩:=Ac.1 (show (A3 r c l&&(Aj l&&((Af x&&Af y)&&B3 (0≤i∧i<r∧0≤k∧k<r∧i≠k))))=true from hp)
 obtain ⟨al,hp⟩:=Ac.1 hp
 obtain ⟨hxy,hp⟩:=Ac.1 hp
 obtain ⟨hx,hy⟩:=Ac.1 hxy
 obtain ⟨i0,i1,k0,k1,hik⟩:=Aq.1 hp
 obtain ⟨R,C,rfl,rfl,r6,c6,hl⟩:=Cu hr
 obtain ⟨i,rfl⟩:∃ j:Nat,i=j:=⟨i.toNat,by omega⟩
 obtain ⟨k,rfl⟩:∃ j:Nat,k=j:=⟨k.toNat,by omega⟩
 have hlen:l.length≤36:=by rw [hl]; exact A5m r6 c6
 refine ⟨C+1,.tup [.agg [.int .i64 (R:Int),.int .i64 (C:Int),.ints (.own 114002 tB) .u64 (Lm R C l i k x y)],.int .i64 (0:Int)],[114002],?_,?_⟩
 ·have ec:Lt (R:Int) (C:Int) l=0:=by unfold Lt; rw [hr]; rfl
  have hn:List.replicate (toNat ((l.length:Nat):Int)) (0:Int)=List.replicate l.length 0:=by rw [A4s]
  rw [Cx.Rows.ev,ec,show ((0:Int) !=0)=false from rfl,A4u,Av,Av,Fb,Fb,A4v (by omega),A4v (by omega),A4v (by omega),A4v (by omega),
   show (((i:Int))==(k:Int))=false from by simpa using (fun h=>hik h)]
  simp only [Bool.or_self,A4u]
  rw [A4r (by omega),A4r (Int.le_refl _),A4r (by unfold G8; omega),A4w,A4w,A4q,hn,Apt (List.length_replicate ..)]
  have:=Aph r6 c6 hl al hx hy (by omega) (by omega) (i:=i) (k:=k) (fun h=>hik (by omega)) (C+1) C 0 (C+1) (by omega) (by omega)
  rw [Ahd hl] at this
  exact this
 ·exact Wk.Hs (.cons (R7 (List.mem_singleton.2 rfl)) (.cons .int .nil))
theorem Cx.Gz.known:Cx.Gz.Kn:=Cx.Gz.Ad (.cons Cx.Rows.known (.cons Aa.Cv.known .nil)) fun r c l i k x y hp=>by
 obtain ⟨hr,hp⟩:=Ac.1 (show (A3 r c l&&(Aj l&&((Af x&&Af y)&&B3 (0≤i∧i<c∧0≤k∧k<c∧i≠k))))=true from hp)
 obtain ⟨al,hp⟩:=Ac.1 hp
 obtain ⟨hxy,hp⟩:=Ac.1 hp
 obtain ⟨i0,i1,k0,k1,hik⟩:=Aq.1 hp
 obtain ⟨R,C,rfl,rfl,r6,c6,hl⟩:=Cu hr
 obtain ⟨i,rfl⟩:∃ j:Nat,i=j:=⟨i.toNat,by omega⟩
 obtain ⟨k,rfl⟩:∃ j:Nat,k=j:=⟨k.toNat,by omega⟩
 have t1:Ds (R:Int) (C:Int) l=((C:Int),(R:Int),B8 C R fun a b=>D8 (C:Int) l (b:Int) (a:Int),0):=by
  unfold Ds; rw [A5d hr,A4s,A4s]
 have r2:A3 (C:Int) (R:Int) (B8 C R fun a b=>D8 (C:Int) l (b:Int) (a:Int))=true:=Me _ c6 r6
 have r3:A3 (C:Int) (R:Int) (Lm C R (B8 C R fun a b=>D8 (C:Int) l (b:Int) (a:Int)) i k x y)=true:=Me _ c6 r6
 have t2:Ds (C:Int) (R:Int) (Lm C R (B8 C R fun a b=>D8 (C:Int) l (b:Int) (a:Int)) i k x y)=((R:Int),(C:Int),O6 R C l i k x y,0):=by
  unfold Ds; rw [A5d r3,A4s,A4s,Adz (by omega) (by omega)]
 refine ⟨0,.tup [.agg [.int .i64 (R:Int),.int .i64 (C:Int),.ints .fresh .u64 (O6 R C l i k x y)],.int .i64 (0:Int)],[],?_,?_⟩
 ·rw [Cx.Gz.ev,t1,show ((0:Int) !=0)=false from rfl,A4u,r2,show Aj (B8 C R fun a b=>D8 (C:Int) l (b:Int) (a:Int))=true from I9 fun a b=>F7 al,hxy,show B3 (0≤(i:Int)∧(i:Int)<(C:Int)∧0≤(k:Int)∧(k:Int)<(C:Int)∧(i:Int)≠(k:Int))=true from Aq.2 ⟨i0,i1,k0,k1,hik⟩]
  simp only [A4w,A4q,A4s]
  rw [t2]
 ·exact Wk.Hs (.cons (Wk.Hc (.cons .int (.cons .int (.cons (.fresh _ _) .nil)))) (.cons .int .nil))
theorem Acb {R C:Nat} {l:List Int} {i k:Nat} {x y:Int} (r6:R≤6) (c6:C≤6) (hl:l.length=R*C) (al:Aj l=true) (hx:Af x=true) (hy:Af y=true) (hi:i<R) (hk:k<R) (hik:i≠k) (N:Nat) :
 ∀ (d j F:Nat),j+d=C→d<F→D0.Rows.L0 N F (R:Int) (C:Int) l (i:Int) (k:Int) x y (j:Int) (rgS R C l i k x y j)=some (.agg [.int .i64 (R:Int),.int .i64 (C:Int),.ints .arg .u64 (Lm R C l i k x y)]):=by
 intro d
 induction d with
 | zero =>
   intro j F hj hF
   obtain ⟨F,rfl⟩:∃ G,F=G+1:=⟨F-1,by omega⟩
   obtain rfl:j=C:=by omega
   rw [D0.Rows.Au,Av,A4v (by omega),A4u,Aly]
 | succ d ih =>
   intro j F hj hF
   obtain ⟨F,rfl⟩:∃ G,F=G+1:=⟨F-1,by omega⟩
   have hjC:j<C:=by omega
   rw [D0.Rows.Au,Av,A4r (by omega),A4q,Fa r6 c6 hl hi hjC,A4q,Fa r6 c6 hl hk hjC,A4q,hx,hy,F7 al,F7 al,A4w,A4q,A4q,Eu,Eu,A4w,A4q,Fa r6 c6 (Ae3 _ _ _ _ _ _ _ _) hi hjC,A4q,A4q,A4q,Eu,Eu,A4w,A4q,
    M3,M3,Fa r6 c6 (by rw [List.length_set,Ae3]) hk hjC,A4q,Ahe hjC hik,An (by omega) (by omega)]
   exact ih (j+1) F (by omega) (by omega)
theorem D0.Rows.known:D0.Rows.Kn:=D0.Rows.Ad (.cons Ah.Add.known (.cons Ah.Mul.known (.cons Ah.Sub.known (.cons Am.At.known (.cons Am.Hj.arg.known .nil))))) fun r c l i k x y hp=>by
 obtain ⟨hr,hp⟩:=Ac.1 (show (A3 r c l&&(Aj l&&((Af x&&Af y)&&B3 (0≤i∧i<r∧0≤k∧k<r∧i≠k))))=true from hp)
 obtain ⟨al,hp⟩:=Ac.1 hp
 obtain ⟨hxy,hp⟩:=Ac.1 hp
 obtain ⟨hx,hy⟩:=Ac.1 hxy
 obtain ⟨i0,i1,k0,k1,hik⟩:=Aq.1 hp
 obtain ⟨R,C,rfl,rfl,r6,c6,hl⟩:=Cu hr
 obtain ⟨i,rfl⟩:∃ j:Nat,i=j:=⟨i.toNat,by omega⟩
 obtain ⟨k,rfl⟩:∃ j:Nat,k=j:=⟨k.toNat,by omega⟩
 refine ⟨C+1,.agg [.int .i64 (R:Int),.int .i64 (C:Int),.ints .arg .u64 (Lm R C l i k x y)],[],?_,?_⟩
 ·rw [D0.Rows.ev]
  have:=Acb r6 c6 hl al hx hy (by omega) (by omega) (fun h=>hik (by omega)) (C+1) (i:=i) (k:=k) C 0 (C+1) (by omega) (by omega)
  rw [Ahd hl] at this
  exact this
 ·exact Wk.Hc (.cons .int (.cons .int (.cons .W1 .nil)))
theorem D0.Gz.known:D0.Gz.Kn:=D0.Gz.Ad (.cons Am.Cv.known (.cons D0.Rows.known .nil)) fun r c l i k x y hp=>by
 obtain ⟨hr,hp⟩:=Ac.1 (show (A3 r c l&&(Aj l&&((Af x&&Af y)&&B3 (0≤i∧i<c∧0≤k∧k<c∧i≠k))))=true from hp)
 obtain ⟨al,hp⟩:=Ac.1 hp
 obtain ⟨hxy,hp⟩:=Ac.1 hp
 obtain ⟨i0,i1,k0,k1,hik⟩:=Aq.1 hp
 obtain ⟨R,C,rfl,rfl,r6,c6,hl⟩:=Cu hr
 obtain ⟨i,rfl⟩:∃ j:Nat,i=j:=⟨i.toNat,by omega⟩
 obtain ⟨k,rfl⟩:∃ j:Nat,k=j:=⟨k.toNat,by omega⟩
 have r2:A3 (C:Int) (R:Int) (B8 C R fun a b=>D8 (C:Int) l (b:Int) (a:Int))=true:=Me _ c6 r6
 have r3:A3 (C:Int) (R:Int) (Lm C R (B8 C R fun a b=>D8 (C:Int) l (b:Int) (a:Int)) i k x y)=true:=Me _ c6 r6
 refine ⟨0,.agg [.int .i64 (R:Int),.int .i64 (C:Int),.ints .fresh .u64 (O6 R C l i k x y)],[],?_,?_⟩
 ·rw [D0.Gz.ev,hr,A4q]
  simp only [A4s]
  rw [r2,show Aj (B8 C R fun a b=>D8 (C:Int) l (b:Int) (a:Int))=true from I9 fun a b=>F7 al,hxy,show B3 (0≤(i:Int)∧(i:Int)<(C:Int)∧0≤(k:Int)∧(k:Int)<(C:Int)∧(i:Int)≠(k:Int))=true from Aq.2 ⟨i0,i1,k0,k1,hik⟩,A4w,A4w,A4w,A4q,r3,A4q,Adz (by omega) (by omega)]
 ·exact Wk.Hc (.cons .int (.cons .int (.cons (.fresh _ _) .nil)))
namespace EqSort
def B5.D4.Ba:List (Nat × Entry):=[(131,compare.Order.spec)]
def B5.D4.E:Env:=Bg (Bb B5.D4.Ba) (fun _=>false) (fun _=>none) (fun _=>none)
theorem B5.D4.ev (N:Nat) (i k:Int) (l:List Int):B0 B5.D4.E N f130 (Ak f130) [.int .i64 i,.int .i64 k,.cellp [.ints .arg .u64 l]]=bif ((decide (0≤k))&&(decide (k<(length l:Int)))) then bif ((decide (0≤i))&&(decide (i<(length l:Int)))) then bif (Af (getD l (toNat k) 0)&&Af (getD l (toNat i) 0)) then some (.int .i64 (G7 (getD l (toNat k) 0) (getD l (toNat i) 0))) else none else none else none :=
 Eq.trans (by kernel_rfl)
 (Cw (Kb _ _) (Cw (Kb _ _) (Cw (Ct _) rfl rfl) rfl) rfl)
abbrev _root_.Go.Proofs.S1.B5.D4.Kn:=A8 prog 130 B5.D4.spec
theorem B5.D4.Ad (hk:A1 prog B5.D4.Ba) (h:Hyp B5.D4.E f130 B5.D4.ts B5.D4.pre B5.D4.out):B5.D4.Kn :=
 Al (A4 hk _ _ _) func130 (by kernel_rfl) (by kernel_rfl) h
def Bk.Ap.hint:Nat→Option Bc
 | 0=>some { keep:=[0,1,2,3,8],objs:=[(0,0,100000,.ints 3 .i64 [])],boxes:=[] }
 | 2=>some { keep:=[0,1,2,3,8,9],objs:=[(0,0,100000,.ints 3 .i64 [])],boxes:=[] }
 | _=>none
def Bk.Ap.Ba:List (Nat × Entry):=[(130,B5.D4.spec)]
def Bk.Ap.E:Env:=Abo (Bb Bk.Ap.Ba) (fun _=>false) Bk.Ap.hint (fun _=>none) (fun _=>none) 1
section
variable (N:Nat) (x:List Int) (M0 M:Nat) (a b:Int) (l:List Int) (p9:Int) (p0:List Int) (p8_1 p8:Int) (p0_1:List Int)
def Bk.Ap.L0:Option (List Int):=Wj Bk.Ap.E N f205 (Ak f205) tI .i64 [1,0] [] M ⟨Fo 53 [(0,.oref 100000),(1,.int .i64 a),(2,.int .i64 b),(3,.fn 130 [] [.cellp [.ints .arg .u64 l]]),(8,.int .i64 p8)],[(100000,false,.ints 3 .i64 p0_1)]⟩
def Bk.Ap.L1:Option (List Int):=Wj Bk.Ap.E N f205 (Ak f205) tI .i64 [1,0,0,1,0,0,1,0] [M0] M ⟨Fo 53 [(0,.oref 100000),(1,.int .i64 a),(2,.int .i64 b),(3,.fn 130 [] [.cellp [.ints .arg .u64 l]]),(8,.int .i64 p8_1),(9,.int .i64 p9)],[(100000,false,.ints 3 .i64 p0)]⟩
theorem Bk.Ap.Au:Bk.Ap.L0 N (M+1) a b l p8 p0_1=bif (Bi p8 b) then Bk.Ap.L1 N M N a b l p8 p0_1 p8 else some p0_1:=by kernel_rfl
theorem Bk.Ap.Ch:Bk.Ap.L1 N M0 (M+1) a b l p9 p0 p8_1=bif ((!(Bi a p9))||((decide (0≤p9))&&(decide (p9<(length p0:Int))))) then bif ((!(Bi a p9))||(decide ((toNat p9)<(length p0)))) then bif ((!(Bi a p9))||((decide (0≤(Ab (p9-1))))&&(decide ((Ab (p9-1))<(length p0:Int))))) then bif ((!(Bi a p9))||(decide ((toNat (Ab (p9-1)))<(length p0)))) then bif ((!(Bi a p9))||(B4 l&&B3 (0≤(getD p0 (toNat p9) 0)∧(getD p0 (toNat p9) 0)<((length l:Nat):Int)∧0≤(getD p0 (toNat (Ab (p9-1))) 0)∧(getD p0 (toNat (Ab (p9-1))) 0)<((length l:Nat):Int)))) then bif ((Bi a p9)&&(Bi (G7 (Lr l (getD p0 (toNat (Ab (p9-1))) 0)) (Lr l (getD p0 (toNat p9) 0))) 0)) then bif ((decide (0≤(Ab (p9-1))))&&(decide ((Ab (p9-1))<(length p0:Int)))) then bif (decide ((toNat (Ab (p9-1)))<(length p0))) then bif ((decide (0≤p9))&&(decide (p9<(length p0:Int)))) then bif (decide ((toNat p9)<(length p0))) then bif ((decide (0≤p9))&&(decide (p9<(length p0:Int)))) then bif (decide ((toNat p9)<(length p0))) then bif ((decide (0≤(Ab (p9-1))))&&(decide ((Ab (p9-1))<(length (List.set p0 (toNat p9) (getD p0 (toNat (Ab (p9-1))) 0)):Int)))) then bif (decide ((toNat (Ab (p9-1)))<(length (List.set p0 (toNat p9) (getD p0 (toNat (Ab (p9-1))) 0))))) then Bk.Ap.L1 N M0 M a b l (Ab (p9-1)) (List.set (List.set p0 (toNat p9) (getD p0 (toNat (Ab (p9-1))) 0)) (toNat (Ab (p9-1))) (getD p0 (toNat p9) 0)) p8_1 else none else none else none else none else none else none else none else none else Bk.Ap.L0 N M0 a b l (Ab (p8_1+1)) p0 else none else none else none else none else none :=
 Eq.trans (by kernel_rfl)
 (Ay (Agq (Bi a p9)) (Ay (Agq (Bi a p9)) (Ay (Agq (Bi a p9)) (Cw (A0z _ _ _) (Cw (A00 _ _) (Ay (Agq (Bi a p9)) (Ay (Agq (Bi a p9)) (Ay (A01 (Bi a p9)) (Cw (A0z _ _ _) (Cw (A00 _ _) (Cw (A26 _ _) (Ay (A01 (Bi a p9)) (Ay (A27 (Bi a p9)) (Cw (tt1 _ _) (Cw (Kb _ _) (Cw (Ct _) (Cw (Kb _ _) (Cw (Ct _) (Cw (Kb _ _) (Cw (Ct _) (Cw (Kb _ _) (Cw (Ct _) rfl rfl) rfl) rfl) rfl) rfl) rfl) rfl) rfl) rfl))) rfl) rfl) rfl)))) rfl) rfl))))
theorem Bk.Ap.ev:wrD Bk.Ap.E N f205 (Ak f205) tI .i64 x [.int .i64 a,.int .i64 b,.fn 130 [] [.cellp [.ints .arg .u64 l]]] =
 Bk.Ap.L0 N N a b l (Ab (a+1)) x:=by kernel_rfl
end
abbrev _root_.Go.Proofs.S1.Bk.Ap.Kn:Prop:=P9 prog 205 (Agf tI .i64 Bk.Ap.ts Bk.Ap.pre Bk.Ap.Aaj)
theorem Bk.Ap.Ad (hk:A1 prog Bk.Ap.Ba) (h:∀ (x:List Int) (a b:Int) (l:List Int),Bk.Ap.pre [.l x,.i a,.i b,.l l]=true→∃ N,wrD Bk.Ap.E N f205 (Ak f205) tI .i64 x [.int .i64 a,.int .i64 b,.fn 130 [] [.cellp [.ints .arg .u64 l]]]=some (Bk.Ap.Aaj [.l x,.i a,.i b,.l l])):Bk.Ap.Kn:=by
 refine Zv (E:=Bk.Ap.E) (Zq hk Ax9 _ _ _ _) (by decide) func205 (show f205.body=some (Ak f205) by kernel_rfl) (by kernel_rfl) (Mi func205 (by kernel_rfl) (show f205.body=some (Ak f205) by kernel_rfl)) fun x ats dvs he hp=>?_
 obtain ⟨a,_,_,rfl,rfl,he0⟩:=he.Ads
 obtain ⟨b,_,_,rfl,rfl,he1⟩:=he0.Ads
 obtain ⟨_,_,_,_,rfl,rfl,hs2,he2⟩:=he1.Aky
 obtain ⟨_,_,_,_,rfl,rfl,hs3,he3⟩:=hs2.Ak2
 obtain ⟨l,_,_,rfl,rfl,he4⟩:=hs3.Arc
 obtain ⟨rfl,rfl⟩:=he4.Kt
 obtain ⟨rfl,rfl⟩:=he3.Kt
 obtain ⟨rfl,rfl⟩:=he2.Kt
 exact h x a b l hp
def Bk.A5.hint:Nat→Option Bc
 | 0=>some { keep:=[0,1,2,6,7,8],objs:=[(0,0,100000,.ints 3 .i64 [])],boxes:=[] }
 | 2=>some { keep:=[0,1,2,6],objs:=[(0,0,100000,.ints 3 .i64 [])],boxes:=[] }
 | 4=>some { keep:=[0,1,2,6,7,8],objs:=[(0,0,100000,.ints 3 .i64 [])],boxes:=[] }
 | _=>none
def Bk.A5.Ba:List (Nat × Entry):=[]
def Bk.A5.E:Env:=Abo (Bb Bk.A5.Ba) (fun _=>false) Bk.A5.hint (fun _=>none) (wr1 205 (Agf tI .i64 Bk.Ap.ts Bk.Ap.pre Bk.Ap.Aaj)) 1
section
variable (N:Nat) (x:List Int) (M0 M:Nat) (n:Int) (l:List Int) (p6_1 p8_1:Int) (p0_2:List Int) (p6:Int) (p0_1:List Int) (p7 p8:Int) (p0:List Int)
def Bk.A5.L0:Option (List Int):=Wj Bk.A5.E N f171 (Ak f171) tI .i64 [1,1,0,0] [] M ⟨Fo 63 [(0,.oref 100000),(1,.int .i64 n),(2,.fn 130 [] [.cellp [.ints .arg .u64 l]]),(6,.int .i64 20),(7,.int .i64 p7),(8,.int .i64 p8)],[(100000,false,.ints 3 .i64 p0)]⟩
def Bk.A5.L1:Option (List Int):=Wj Bk.A5.E N f171 (Ak f171) tI .i64 [1,1,1,1,0] [] M ⟨Fo 63 [(0,.oref 100000),(1,.int .i64 n),(2,.fn 130 [] [.cellp [.ints .arg .u64 l]]),(6,.int .i64 p6)],[(100000,false,.ints 3 .i64 p0_1)]⟩
def Bk.A5.L2:Option (List Int):=Wj Bk.A5.E N f171 (Ak f171) tI .i64 [1,1,1,1,0,0,1,0,1,0,0] [M0] M ⟨Fo 63 [(0,.oref 100000),(1,.int .i64 n),(2,.fn 130 [] [.cellp [.ints .arg .u64 l]]),(6,.int .i64 p6_1),(7,.int .i64 0),(8,.int .i64 p8_1)],[(100000,false,.ints 3 .i64 p0_2)]⟩
theorem Bk.A5.Au:Bk.A5.L0 N (M+1) n l p7 p8 p0=bif (Ex p8 n) then bif (B4 l&&B3 (Jh (length l) p0=true∧length p0≤6∧p7=0∧p8=((length p0:Nat):Int))) then Bk.A5.L0 N M n l p8 (Ab (p8+20)) (E8 l p0) else none else bif (B4 l&&B3 (Jh (length l) p0=true∧length p0≤6∧p7=0∧n=((length p0:Nat):Int))) then Bk.A5.L1 N N n l 20 (E8 l p0) else none:=by kernel_rfl
theorem Bk.A5.Ch:Bk.A5.L1 N (M+1) n l p6 p0_1=bif (Bi p6 n) then Bk.A5.L2 N M N n l p6 (Ab ((2:Int)*p6)) p0_1 else some p0_1:=by kernel_rfl
theorem Bk.A5.ev:wrD Bk.A5.E N f171 (Ak f171) tI .i64 x [.int .i64 n,.fn 130 [] [.cellp [.ints .arg .u64 l]]] =
 Bk.A5.L0 N N n l 0 20 x:=by kernel_rfl
end
abbrev _root_.Go.Proofs.S1.Bk.A5.Kn:Prop:=P9 prog 171 (Agf tI .i64 Bk.A5.ts Bk.A5.pre Bk.A5.Aaj)
theorem Bk.A5.Ad (hk:A1 prog Bk.A5.Ba) (hw:Bk.Ap.Kn) (h:∀ (x:List Int) (n:Int) (l:List Int),Bk.A5.pre [.l x,.i n,.l l]=true→∃ N,wrD Bk.A5.E N f171 (Ak f171) tI .i64 x [.int .i64 n,.fn 130 [] [.cellp [.ints .arg .u64 l]]]=some (Bk.A5.Aaj [.l x,.i n,.l l])):Bk.A5.Kn:=by
 refine Zv (E:=Bk.A5.E) (Zq hk (Aje hw) _ _ _ _) (by decide) func171 (show f171.body=some (Ak f171) by kernel_rfl) (by kernel_rfl) (Mi func171 (by kernel_rfl) (show f171.body=some (Ak f171) by kernel_rfl)) fun x ats dvs he hp=>?_
 obtain ⟨n,_,_,rfl,rfl,he0⟩:=he.Ads
 obtain ⟨_,_,_,_,rfl,rfl,hs1,he1⟩:=he0.Aky
 obtain ⟨_,_,_,_,rfl,rfl,hs2,he2⟩:=hs1.Ak2
 obtain ⟨l,_,_,rfl,rfl,he3⟩:=hs2.Arc
 obtain ⟨rfl,rfl⟩:=he3.Kt
 obtain ⟨rfl,rfl⟩:=he2.Kt
 obtain ⟨rfl,rfl⟩:=he1.Kt
 exact h x n l hp
def Bk.A7.Ba:List (Nat × Entry):=[]
def Bk.A7.E:Env:=Abo (Bb Bk.A7.Ba) (fun _=>false) (fun _=>none) (fun _=>none) (wr1 171 (Agf tI .i64 Bk.A5.ts Bk.A5.pre Bk.A5.Aaj)) 1
theorem Bk.A7.ev (N:Nat) (x l:List Int):wrD Bk.A7.E N f129 (Ak f129) tI .i64 x [.fn 130 [] [.cellp [.ints .arg .u64 l]]]=bif (B4 l&&B3 (Jh (length l) x=true∧length x≤6∧(length x:Int)=((length x:Nat):Int))) then some (E8 l x) else none:=by kernel_rfl
abbrev _root_.Go.Proofs.S1.Bk.A7.Kn:Prop:=P9 prog 129 (Agf tI .i64 Bk.A7.ts Bk.A7.pre Bk.A7.Aaj)
theorem Bk.A7.Ad (hk:A1 prog Bk.A7.Ba) (hw:Bk.A5.Kn) (h:∀ (x l:List Int),Bk.A7.pre [.l x,.l l]=true→∃ N,wrD Bk.A7.E N f129 (Ak f129) tI .i64 x [.fn 130 [] [.cellp [.ints .arg .u64 l]]]=some (Bk.A7.Aaj [.l x,.l l])):Bk.A7.Kn:=by
 refine Zv (E:=Bk.A7.E) (Zq hk (Aje hw) _ _ _ _) (by decide) func129 (show f129.body=some (Ak f129) by kernel_rfl) (by kernel_rfl) (Mi func129 (by kernel_rfl) (show f129.body=some (Ak f129) by kernel_rfl)) fun x ats dvs he hp=>?_
 obtain ⟨_,_,_,_,rfl,rfl,hs0,he0⟩:=he.Aky
 obtain ⟨_,_,_,_,rfl,rfl,hs1,he1⟩:=hs0.Ak2
 obtain ⟨l,_,_,rfl,rfl,he2⟩:=hs1.Arc
 obtain ⟨rfl,rfl⟩:=he2.Kt
 obtain ⟨rfl,rfl⟩:=he1.Kt
 obtain ⟨rfl,rfl⟩:=he0.Kt
 exact h x l hp
end EqSort
open EqSort
theorem B5.D4.known:B5.D4.Kn:=B5.D4.Ad (.cons compare.Order.known .nil) fun i k l hp=>by
 obtain ⟨hl,hp⟩:=Ac.1 (show (B4 l&&B3 (0≤i∧i<((length l:Nat):Int)∧0≤k∧k<((length l:Nat):Int)))=true from hp)
 obtain ⟨h1,h2,h3,h4⟩:=Aq.1 hp
 obtain ⟨_,hu⟩:=I4 hl
 refine ⟨0,.int .i64 (G7 (Lr l k) (Lr l i)),[],?_,.int⟩
 rw [B5.D4.ev,A4r h3,A4r h4,A4w,A4q,A4r h1,A4r h2,A4w,A4q,hu _ (by omega),hu _ (by omega),A4w,A4q]
 rfl
theorem Apc (N M0:Nat) {l:List Int} (hl:B4 l=true) {b p8 v:Int}:∀ (R B:List Int) (F:Nat),Jh l.length (R.reverse++v::B)=true→R.length<F→R.length+B.length≤100 →
 Bk.Ap.L1 N M0 F 0 b l (R.length:Int) (R.reverse++v::B) p8=Bk.Ap.L0 N M0 0 b l (Ab (p8+1)) ((P3 (Lr l) v R).reverse++B):=by
 intro R
 induction R with
 | nil =>
   intro B F hx hF hs
   obtain ⟨F,rfl⟩:∃ G,F=G+1:=⟨F-1,by simp at hF; omega⟩
   rw [Bk.Ap.Ch,Av,A4v (show ¬ (0:Int)<((([]:List Int).length:Nat):Int) by simp)]
   simp only [A59,Bool.true_or,A4q,Bool.false_and,A4u]
   rfl
 | cons y t ih =>
   intro B F hx hF hs
   obtain ⟨F,rfl⟩:∃ G,F=G+1:=⟨F-1,by simp at hF; omega⟩
   have hlen:(((y::t).reverse++v::B).length)=t.length+2+B.length:=by simp; omega
   have e1:Ab (((y::t).length:Int)-1)=(t.length:Int):=by
    rw [An (by simp) (by simp at hs ⊢; omega)]; simp
   have eA:(y::t).reverse++v::B=t.reverse++y::v::B:=by simp
   have g1:getD ((y::t).reverse++v::B) (t.length+1) 0=v:=by
    have:=Aie (y::t).reverse B v
    rw [List.length_reverse] at this; exact this
   have g2:getD ((y::t).reverse++v::B) t.length 0=y:=by
    rw [eA]
    have:=Aie t.reverse (v::B) y
    rw [List.length_reverse] at this; exact this
   have p1:=Sp hx (j:=t.length+1) (by omega)
   have p2:=Sp hx (j:=t.length) (by omega)
   rw [g1] at p1; rw [g2] at p2
   rw [Bk.Ap.Ch,e1,Av,A4r (show (0:Int)<(((y::t).length:Nat):Int) by simp)]
   simp only [A5p,Bool.false_or,A53]
   rw [show toNat (((y::t).length:Nat):Int)=t.length+1 by simp,A4s,g1,g2,List.length_set,hlen,
    A4r (show (0:Int)≤(((y::t).length:Nat):Int) by omega),A4r (show (((y::t).length:Nat):Int)<((t.length+2+B.length:Nat):Int) by simp; omega),A4w,A4q,
    A4r (show t.length+1<t.length+2+B.length by omega),A4q,A4r (show (0:Int)≤((t.length:Nat):Int) by omega),A4r (show ((t.length:Nat):Int)<((t.length+2+B.length:Nat):Int) by omega),A4w,A4q,
    A4r (show t.length<t.length+2+B.length by omega),A4q,show (B4 l&&B3 (0≤v∧v<((length l:Nat):Int)∧0≤y∧y<((length l:Nat):Int)))=true from Ac.2 ⟨hl,Aq.2 ⟨p1.1,p1.2,p2.1,p2.2⟩⟩,A4q,Av]
   by_cases hlt:G7 (Lr l y) (Lr l v)<0
   ·rw [A4r hlt]
    simp only [A4q]
    have hsw:(List.set (List.set ((y::t).reverse++v::B) (t.length+1) y) t.length v)=t.reverse++v::(y::B):=by
     rw [eA]
     have:=Ann t.reverse B y v
     rw [List.length_reverse] at this; exact this
    rw [hsw]
    have hx':Jh l.length (t.reverse++v::(y::B))=true:=J0.2 fun z hz=>J0.1 hx z (by
     rw [eA]
     simp only [List.mem_append,List.mem_cons] at hz ⊢
     rcases hz with h | h | h | h
     ·exact .inl h
     ·exact .inr (.inr (.inl h))
     ·exact .inr (.inl h)
     ·exact .inr (.inr (.inr h)))
    rw [ih (y::B) F hx' (by simp at hF; omega) (by simp at hs ⊢; omega)]
    congr 1
    rw [show P3 (Lr l) v (y::t)=y::P3 (Lr l) v t from A5d hlt]
    simp
   ·rw [A4v hlt,A4u,show P3 (Lr l) v (y::t)=v::y::t from A5c hlt]
    congr 1
    simp
theorem Apb (N:Nat) {l x:List Int} (hl:B4 l=true) (hx:Jh l.length x=true) (h6:x.length≤6):∀ (k i F:Nat),i+k=x.length→k<F→6<N →
 Bk.Ap.L0 N F 0 (x.length:Int) l (i:Int) ((R9 (Lr l) (x.take i)).reverse++x.drop i)=some (E8 l x):=by
 intro k
 induction k with
 | zero =>
   intro i F hi hF hN
   obtain ⟨F,rfl⟩:∃ G,F=G+1:=⟨F-1,by omega⟩
   rw [Bk.Ap.Au,Av,A4v (by omega),A4u,List.take_of_length_le (by omega),A44 (by omega),List.append_nil]; rfl
 | succ k ih =>
   intro i F hi hF hN
   obtain ⟨F,rfl⟩:∃ G,F=G+1:=⟨F-1,by omega⟩
   have hd:x.drop i=x.getD i 0::x.drop (i+1):=by
    rw [List.drop_eq_getElem_cons (by omega),A40,A47 (by omega)]; rfl
   have hlen:(R9 (Lr l) (x.take i)).length=i:=by rw [Vp,List.length_take]; omega
   have:=Apc N F hl (b:=(x.length:Int)) (p8:=(i:Int)) (v:=x.getD i 0) (R9 (Lr l) (x.take i)) (x.drop (i+1)) N (J0.2 fun z hz=>J0.1 hx z (by
    rw [List.mem_append,List.mem_reverse,List.mem_cons] at hz
    rcases hz with h | h | h
    ·exact List.mem_of_mem_take (Ac3 h)
    ·rw [h,A40,A47 (show i<x.length by omega)]; exact List.getElem_mem _
    ·exact List.mem_of_mem_drop h)) (by omega) (by rw [List.length_drop]; omega)
   rw [hlen] at this
   rw [Bk.Ap.Au,Av,A4r (by omega),A4q,hd,this,An (by omega) (by omega),← Ajs]
   have e:x.take i++[x.getD i 0]=x.take (i+1):=by
    rw [List.take_succ_eq_append_getElem (by omega),A40,A47 (show i<x.length by omega)]; rfl
   rw [e]
   exact ih (i+1) F (by omega) (by omega) hN
theorem Bk.Ap.known:Bk.Ap.Kn:=Bk.Ap.Ad (.cons B5.D4.known .nil) fun x a b l hp=>by
 obtain ⟨hl,hp⟩:=Ac.1 (show (B4 l&&B3 (Jh (length l) x=true∧length x≤6∧a=0∧b=((length x:Nat):Int)))=true from hp)
 obtain ⟨hx,h6,rfl,rfl⟩:=Aq.1 hp
 refine ⟨8,?_⟩
 rw [Bk.Ap.ev,An (by decide) (by decide)]
 show _=some (E8 l x)
 cases x with
 | nil=>rw [Bk.Ap.Au,Av,A4v (by simp),A4u]; rfl
 | cons y t =>
   have:=Apb 8 hl hx h6 t.length 1 8 (by simp; omega) (by simp at h6; omega) (by decide)
   exact this
theorem Bk.A5.known:Bk.A5.Kn:=Bk.A5.Ad .nil Bk.Ap.known fun x n l hp=>by
 obtain ⟨hl,hp⟩:=Ac.1 (show (B4 l&&B3 (Jh (length l) x=true∧length x≤6∧n=((length x:Nat):Int)))=true from hp)
 obtain ⟨hx,h6,rfl⟩:=Aq.1 hp
 refine ⟨1,?_⟩
 rw [Bk.A5.ev,Bk.A5.Au,Fb,A4v (by omega),A4u,show (B4 l&&B3 (Jh (length l) x=true∧length x≤6∧(0:Int)=0∧((length x:Nat):Int)=((length x:Nat):Int)))=true from Ac.2 ⟨hl,Aq.2 ⟨hx,h6,rfl,rfl⟩⟩,A4q,Bk.A5.Ch,Av,A4v (by omega),A4u]
 rfl
theorem Bk.A7.known:Bk.A7.Kn:=Bk.A7.Ad .nil Bk.A5.known fun x l hp=>by
 obtain ⟨hl,hp⟩:=Ac.1 (show (B4 l&&B3 (Jh (length l) x=true∧length x≤6))=true from hp)
 obtain ⟨hx,h6⟩:=Aq.1 hp
 refine ⟨0,?_⟩
 rw [Bk.A7.ev,show (B4 l&&B3 (Jh (length l) x=true∧length x≤6∧((length x:Nat):Int)=((length x:Nat):Int)))=true from Ac.2 ⟨hl,Aq.2 ⟨hx,h6,rfl⟩⟩,A4q]
 rfl
end Go.Proofs.S1
end
