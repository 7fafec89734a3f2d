/- A verified evaluator of the program's form and its use for this seat: S1EqSol, S1PTri, S1EqFew, S1PSol, S1EqQr, S1PQr, S1PQrA, S1EqRef17, S1PRef17, S1EqRef14, S1PRef13, S1PRef14, S1EqLow, S1PLow. -/
import Derived.Test.YtjbokjpbiobjpaaTE
import Derived.Test.YtjbokjpbiobjpaaTF
import Derived.Test.YtjbokjpbiobjpaaTH
import Derived.Test.YtjbokjpbiobjpaaTI
set_option linter.unusedVariables false
set_option linter.unusedSimpArgs false
noncomputable section
namespace Go.Proofs.S1
open Go Go.Den Go.Rnd Go.Proofs
set_option maxRecDepth 100000
namespace EqSol
def solve.check.hint:Nat→Option A0
  | 0=>some { keep:=[2,3,11,12],objs:=[],boxes:=[2,3] }
  | 2=>some { keep:=[2,34,35],objs:=[],boxes:=[2] }
  | _=>none
def solve.check.A8:List (Nat × Entry):=[(8,Bn.Check.spec),(24,soft.Kind.spec)]
def solve.check.E:Env:=Ba (A6 solve.check.A8) (fun _=>false) solve.check.hint (fun _=>none)
def solve.check.L0 (N M:Nat) (r c:Int) (l:List Int) (p35:Int):Option DV:=B3 solve.check.E N Try.f55 (An Try.f55) [1,1,1,0,1,0] [] M ⟨Gy 51 [(2,.ptr 2 0 0),(34,.int .i64 r),(35,.int .i64 p35)],[(2,false,.box [.int .i64 r,.int .i64 c,.ints .arg .u64 l])]⟩
theorem solve.check.As (N M:Nat) (r c:Int) (l:List Int) (p35:Int):solve.check.L0 (N+4) (M+1) r c l p35=bif (Au p35 r) then bif ((decide (0≤(Ab ((Ab (p35*c))+p35))))&&(decide ((Ab ((Ab (p35*c))+p35))<(List.length l:Int)))) then bif (Ag (List.getD l (Int.toNat (Ab ((Ab (p35*c))+p35))) 0)) then bif ((Az (List.getD l (Int.toNat (Ab ((Ab (p35*c))+p35))) 0))==(0:Int)) then some (.int .i64 5) else solve.check.L0 (N+4) M r c l (Ab (p35+1)) else none else none else some (.int .i64 0):=by kernel_rfl
theorem solve.check.ev (N:Nat) (r c:Int) (l:List Int) (p q:Int) (m:List Int):Bo solve.check.E (N+4) Try.f55 (An Try.f55) [.agg [.int .i64 r,.int .i64 c,.ints .arg .u64 l],.agg [.int .i64 p,.int .i64 q,.ints .arg .u64 m]]=bif (Af l) then bif ((Bh r c l) !=(0:Int)) then some (.int .i64 (Bh r c l)) else bif (Af m) then bif ((Bh p q m) !=(0:Int)) then some (.int .i64 (Bh p q m)) else bif ((r !=c)||(r !=p)) then some (.int .i64 3) else solve.check.L0 (N+4) (N+4) r c l (0:Int) else none else none :=
  Eq.trans (by kernel_rfl)
  (Ew (Ew rfl (Ew (Ew rfl (Am (Qb (r !=c)) (Am (Mu (r !=c)) (Am (Qb (r !=c)) (Am (Mu (r !=c)) (Am (tt8 (r !=c)) (Am (Vv (r !=c)) (Dp (tt5 (r !=c) (r !=p)) rfl rfl)))))))) rfl)) rfl)
abbrev _root_.Go.Proofs.S1.solve.check.Kn:=A4 Try.prog 55 solve.check.spec
theorem solve.check.Ae (hk:Av Try.prog solve.check.A8) (h:∀ (r c:Int) (l:List Int) (p q:Int) (m:List Int),solve.check.pre [.i r,.i c,.l l,.i p,.i q,.l m]=true→Bd solve.check.E Try.f55 [.agg [.int .i64 r,.int .i64 c,.ints .arg .u64 l],.agg [.int .i64 p,.int .i64 q,.ints .arg .u64 m]] (solve.check.out [.i r,.i c,.l l,.i p,.i q,.l m])):solve.check.Kn :=
  Aj (Ax hk _ _ _) Try.func55 (by kernel_rfl) (by kernel_rfl) h
def B6.B5.up.A8:List (Nat × Entry):=[]
def B6.B5.up.E:Env:=Ba (A6 B6.B5.up.A8) (fun _=>false) (fun _=>none) (fun _=>none)
theorem B6.B5.up.ev (N:Nat) (n k:Int):Bo B6.B5.up.E N Try.f63 (An Try.f63) [.int .i64 n,.int .i64 k]=some (.int .i64 (Ab ((Ab (n-1))-k))):=by kernel_rfl
abbrev _root_.Go.Proofs.S1.B6.B5.up.Kn:=A4 Try.prog 63 B6.B5.up.spec
theorem B6.B5.up.Ae (hk:Av Try.prog B6.B5.up.A8) (h:∀ (n k:Int),B6.B5.up.pre [.i n,.i k]=true→Bd B6.B5.up.E Try.f63 [.int .i64 n,.int .i64 k] (B6.B5.up.out [.i n,.i k])):B6.B5.up.Kn :=
  Aj (Ax hk _ _ _) Try.func63 (by kernel_rfl) (by kernel_rfl) h
def solve.Da.A8:List (Nat × Entry):=[]
def solve.Da.E:Env:=Ba (A6 solve.Da.A8) (fun _=>false) (fun _=>none) (fun _=>none)
theorem solve.Da.ev (N:Nat) (i k:Int):Bo solve.Da.E N Try.f64 (An Try.f64) [.int .i64 i,.int .i64 k]=some (.bool (Au i k)):=by kernel_rfl
abbrev _root_.Go.Proofs.S1.solve.Da.Kn:=A4 Try.prog 64 solve.Da.spec
theorem solve.Da.Ae (hk:Av Try.prog solve.Da.A8) (h:∀ (i k:Int),solve.Da.pre [.i i,.i k]=true→Bd solve.Da.E Try.f64 [.int .i64 i,.int .i64 k] (solve.Da.out [.i i,.i k])):solve.Da.Kn :=
  Aj (Ax hk _ _ _) Try.func64 (by kernel_rfl) (by kernel_rfl) h
def Aa.of.Bm.own.hint:Nat→Option A0
  | 0=>some { keep:=[1,2,6,7,13,14],objs:=[(8,2,108002,.ints 41 .u64 [])],boxes:=[6,7] }
  | 2=>some { keep:=[1,2,6,7,8,13,14,17,18],objs:=[(8,2,108002,.ints 41 .u64 [])],boxes:=[6,7] }
  | _=>none
def Aa.of.Bm.own.A8:List (Nat × Entry):=[(86,Aa.Cz.spec)]
def Aa.of.Bm.own.E:Env:=Ba (A6 Aa.of.Bm.own.A8) (fun _=>false) Aa.of.Bm.own.hint (fun _=>none)
abbrev _root_.Go.Proofs.S1.Aa.of.Bm.own.Kn:=A4 Try.prog 31 Aa.of.Bm.own.spec
theorem Aa.of.Bm.own.Ae (hk:Av Try.prog Aa.of.Bm.own.A8) (h:∀ (a b:Int),Aa.of.Bm.own.pre [.i a,.i b]=true→Bd Aa.of.Bm.own.E Try.f31 [.int .i64 a,.int .i64 b,.fn 86 [] []] (Aa.of.Bm.own.out [.i a,.i b])):Aa.of.Bm.own.Kn :=
  Aj (Ax hk _ _ _) Try.func31 (by kernel_rfl) (by kernel_rfl) h
def Aa.Bm.own.A8:List (Nat × Entry):=[(31,Aa.of.Bm.own.spec),(23,Aa.size.spec)]
def Aa.Bm.own.E:Env:=Ba (A6 Aa.Bm.own.A8) (fun n=>Nat.beq n 17) (fun _=>none) (fun _=>none)
theorem Aa.Bm.own.ev (N:Nat) (a b:Int):Bo Aa.Bm.own.E N Try.f69 (An Try.f69) [.int .i64 a,.int .i64 b]=bif ((!(A7 a))||(!(A7 b))) then some (.tup [.agg [.int .i64 0,.int .i64 0,.nil],.int .i64 3]) else bif (A7 a&&A7 b) then some (.tup [.agg [.int .i64 a,.int .i64 b,.ints (.own 1136 41) .u64 (By (Int.toNat a) (Int.toNat b) (fun _ _=>0))],.int .i64 0]) else none :=
  Eq.trans (by kernel_rfl)
  (Am (Aak (A7 a)) (Am (Rd (A7 a)) (Am (Rd (A7 a)) (Am (Aal (A7 a)) (Dp (tt28 (A7 a) (A7 b)) rfl rfl)))))
abbrev _root_.Go.Proofs.S1.Aa.Bm.own.Kn:=A4 Try.prog 69 Aa.Bm.own.spec
theorem Aa.Bm.own.Ae (hk:Av Try.prog Aa.Bm.own.A8) (h:∀ (a b:Int),Aa.Bm.own.pre [.i a,.i b]=true→Bd Aa.Bm.own.E Try.f69 [.int .i64 a,.int .i64 b] (Aa.Bm.own.out [.i a,.i b])):Aa.Bm.own.Kn :=
  Aj (Ax hk _ _ _) Try.func69 (by kernel_rfl) (by kernel_rfl) h
def solve.Al.Up.hint:Nat→Option A0
  | 0=>some { keep:=[2,3,4,5,8,10,11,28,29],objs:=[(12,2,112002,.ints 41 .u64 [])],boxes:=[4,5,8,11] }
  | 2=>some { keep:=[2,3,4,5,8,10,11,13,28,29,32,33],objs:=[(12,2,112002,.ints 41 .u64 [])],boxes:=[4,5,8,11] }
  | 4=>some { keep:=[2,3,4,5,8,10,11,13,15,16,28,29,32,33,49,50],objs:=[(12,2,112002,.ints 41 .u64 [])],boxes:=[4,5,8,11] }
  | _=>none
def solve.Al.Up.A8:List (Nat × Entry):=[(63,B6.B5.up.spec),(69,Aa.Bm.own.spec),(64,solve.Da.spec),(70,Ac.Div.spec),(50,Ac.Finite.spec),(61,Ac.Mul.spec),(39,Ac.Sub.spec)]
def solve.Al.Up.E:Env:=Ba (A6 solve.Al.Up.A8) (fun n=>Nat.beq n 24) solve.Al.Up.hint (fun _=>none)
def solve.Al.Up.L0 (N M:Nat) (r c:Int) (l:List Int) (p q:Int) (m:List Int) (n p29:Int) (p2_2:List Int):Option DV:=B3 solve.Al.Up.E N Try.f56 (An Try.f56) [1,1,1,0,1,0] [] M ⟨Gy 108 [(2,.fn 63 [.int .i64 n] []),(3,.fn 64 [] []),(4,.ptr 4 0 0),(5,.ptr 5 0 0),(8,.ptr 8 0 0),(10,.int .i64 r),(11,.ptr 11 0 0),(28,.int .i64 q),(29,.int .i64 p29)],[(4,false,.box [.int .i64 r,.int .i64 c,.ints .arg .u64 l]),(5,false,.box [.int .i64 p,.int .i64 q,.ints .arg .u64 m]),(8,false,.box [.int .i64 0,.int .i64 0,.nil]),(11,false,.box [.int .i64 r,.int .i64 q,.oref 112002]),(112002,false,.ints 41 .u64 p2_2)]⟩
def solve.Al.Up.L1 (N M0 M:Nat) (r c:Int) (l:List Int) (p q:Int) (m:List Int) (n p33:Int) (p2:List Int) (p13 p29_1:Int):Option DV:=B3 solve.Al.Up.E N Try.f56 (An Try.f56) [1,1,1,0,1,0,0,1,1,0,0,1,0,1,1,0] [M0] M ⟨Gy 108 [(2,.fn 63 [.int .i64 n] []),(3,.fn 64 [] []),(4,.ptr 4 0 0),(5,.ptr 5 0 0),(8,.ptr 8 0 0),(10,.int .i64 r),(11,.ptr 11 0 0),(13,.int .i64 p13),(28,.int .i64 q),(29,.int .i64 p29_1),(32,.int .i64 r),(33,.int .i64 p33)],[(4,false,.box [.int .i64 r,.int .i64 c,.ints .arg .u64 l]),(5,false,.box [.int .i64 p,.int .i64 q,.ints .arg .u64 m]),(8,false,.box [.int .i64 0,.int .i64 0,.nil]),(11,false,.box [.int .i64 r,.int .i64 q,.oref 112002]),(112002,false,.ints 41 .u64 p2)]⟩
def solve.Al.Up.L2 (N M0 M1 M:Nat) (r c:Int) (l:List Int) (p q:Int) (m:List Int) (n p16:Int) (p50 p13_1:Int) (p15 p29_2 p33_1:Int) (p2_1:List Int):Option DV:=B3 solve.Al.Up.E N Try.f56 (An Try.f56) [1,1,1,0,1,0,0,1,1,0,0,1,0,1,1,0,0,1,1,0,0,1,1,1,0,1,0] [M0,M1] M ⟨Gy 108 [(2,.fn 63 [.int .i64 n] []),(3,.fn 64 [] []),(4,.ptr 4 0 0),(5,.ptr 5 0 0),(8,.ptr 8 0 0),(10,.int .i64 r),(11,.ptr 11 0 0),(13,.int .i64 p13_1),(15,.int .i64 p15),(16,.int .u64 p16),(28,.int .i64 q),(29,.int .i64 p29_2),(32,.int .i64 r),(33,.int .i64 p33_1),(49,.int .i64 r),(50,.int .i64 p50)],[(4,false,.box [.int .i64 r,.int .i64 c,.ints .arg .u64 l]),(5,false,.box [.int .i64 p,.int .i64 q,.ints .arg .u64 m]),(8,false,.box [.int .i64 0,.int .i64 0,.nil]),(11,false,.box [.int .i64 r,.int .i64 q,.oref 112002]),(112002,false,.ints 41 .u64 p2_1)]⟩
theorem solve.Al.Up.As (N M:Nat) (r c:Int) (l:List Int) (p q:Int) (m:List Int) (n p29:Int) (p2_2:List Int):solve.Al.Up.L0 N (M+1) r c l p q m n p29 p2_2=bif (Au p29 q) then solve.Al.Up.L1 N M N r c l p q m n 0 p2_2 p29 p29 else bif (Cs p2_2) then bif (!(Ey p2_2)) then some (.tup [.agg [.int .i64 0,.int .i64 0,.nil],.int .i64 2]) else some (.tup [.agg [.int .i64 r,.int .i64 q,.ints (.own 112002 41) .u64 p2_2],.int .i64 0]) else none:=by kernel_rfl
theorem solve.Al.Up.Ca (N M0 M:Nat) (r c:Int) (l:List Int) (p q:Int) (m:List Int) (n p33:Int) (p2:List Int) (p13 p29_1:Int):solve.Al.Up.L1 N M0 (M+1) r c l p q m n p33 p2 p13 p29_1=bif (Au p33 r) then bif (Dd (0≤p33∧p33<n∧n≤10)) then bif ((decide (0≤(Ab ((Ab ((n-1-p33)*q))+p13))))&&(decide ((Ab ((Ab ((n-1-p33)*q))+p13))<(List.length m:Int)))) then solve.Al.Up.L2 N M0 M N r c l p q m n (List.getD m (Int.toNat (Ab ((Ab ((n-1-p33)*q))+p13))) 0) 0 p13 (n-1-p33) p29_1 p33 p2 else none else none else solve.Al.Up.L0 N M0 r c l p q m n (Ab (p29_1+1)) p2:=by kernel_rfl
theorem solve.Al.Up.Hw (N M0 M1 M:Nat) (r c:Int) (l:List Int) (p q:Int) (m:List Int) (n p16:Int) (p50 p13_1:Int) (p15 p29_2 p33_1:Int) (p2_1:List Int):solve.Al.Up.L2 N M0 M1 (M+1) r c l p q m n p16 p50 p13_1 p15 p29_2 p33_1 p2_1=bif (Au p50 r) then bif (decide (p15<p50)) then bif ((decide (0≤(Ab ((Ab (p15*r))+p50))))&&(decide ((Ab ((Ab (p15*r))+p50))<(List.length l:Int)))) then bif ((decide (0≤(Ab ((Ab (p50*q))+p13_1))))&&(decide ((Ab ((Ab (p50*q))+p13_1))<(List.length p2_1:Int)))) then bif (decide ((Int.toNat (Ab ((Ab (p50*q))+p13_1)))<(List.length p2_1))) then bif (Ag (List.getD l (Int.toNat (Ab ((Ab (p15*r))+p50))) 0)&&Ag (List.getD p2_1 (Int.toNat (Ab ((Ab (p50*q))+p13_1))) 0)) then bif (Ag p16&&Ag (Dz (List.getD l (Int.toNat (Ab ((Ab (p15*r))+p50))) 0) (List.getD p2_1 (Int.toNat (Ab ((Ab (p50*q))+p13_1))) 0))) then solve.Al.Up.L2 N M0 M1 M r c l p q m n (C0 p16 (Dz (List.getD l (Int.toNat (Ab ((Ab (p15*r))+p50))) 0) (List.getD p2_1 (Int.toNat (Ab ((Ab (p50*q))+p13_1))) 0))) (Ab (p50+1)) p13_1 p15 p29_2 p33_1 p2_1 else none else none else none else none else none else solve.Al.Up.L2 N M0 M1 M r c l p q m n p16 (Ab (p50+1)) p13_1 p15 p29_2 p33_1 p2_1 else bif ((decide (0≤(Ab ((Ab (p15*r))+p15))))&&(decide ((Ab ((Ab (p15*r))+p15))<(List.length l:Int)))) then bif (Ag p16&&Ag (List.getD l (Int.toNat (Ab ((Ab (p15*r))+p15))) 0)) then bif ((decide (0≤(Ab ((Ab (p15*q))+p13_1))))&&(decide ((Ab ((Ab (p15*q))+p13_1))<(List.length p2_1:Int)))) then bif (decide ((Int.toNat (Ab ((Ab (p15*q))+p13_1)))<(List.length p2_1))) then solve.Al.Up.L1 N M0 M1 r c l p q m n (Ab (p33_1+1)) (List.set p2_1 (Int.toNat (Ab ((Ab (p15*q))+p13_1))) (Em p16 (List.getD l (Int.toNat (Ab ((Ab (p15*r))+p15))) 0))) p13_1 p29_2 else none else none else none else none :=
  Eq.trans (by kernel_rfl)
  (Ew (Ew (Dp (Nk (decide (0≤(Ab ((Ab (p15*r))+p50)))) (decide ((Ab ((Ab (p15*r))+p50))<(List.length l:Int)))) (Dp (Nk (decide (0≤(Ab ((Ab (p50*q))+p13_1)))) (decide ((Ab ((Ab (p50*q))+p13_1))<(List.length p2_1:Int)))) (Dp (Eh (decide ((Int.toNat (Ab ((Ab (p50*q))+p13_1)))<(List.length p2_1)))) (Dp (Eh (Ag (List.getD l (Int.toNat (Ab ((Ab (p15*r))+p50))) 0)&&Ag (List.getD p2_1 (Int.toNat (Ab ((Ab (p50*q))+p13_1))) 0))) (Dp (Eh (Ag p16&&Ag (Dz (List.getD l (Int.toNat (Ab ((Ab (p15*r))+p50))) 0) (List.getD p2_1 (Int.toNat (Ab ((Ab (p50*q))+p13_1))) 0)))) rfl rfl) rfl) rfl) rfl) rfl) rfl) (Dp (Nk (decide (0≤(Ab ((Ab (p15*r))+p15)))) (decide ((Ab ((Ab (p15*r))+p15))<(List.length l:Int)))) (Dp (Eh (Ag p16&&Ag (List.getD l (Int.toNat (Ab ((Ab (p15*r))+p15))) 0))) (Dp (Nk (decide (0≤(Ab ((Ab (p15*q))+p13_1)))) (decide ((Ab ((Ab (p15*q))+p13_1))<(List.length p2_1:Int)))) (Dp (Eh (decide ((Int.toNat (Ab ((Ab (p15*q))+p13_1)))<(List.length p2_1)))) rfl rfl) rfl) rfl) rfl))
theorem solve.Al.Up.ev (N:Nat) (r c:Int) (l:List Int) (p q:Int) (m:List Int) (n:Int):Bo solve.Al.Up.E N Try.f56 (An Try.f56) [.agg [.int .i64 r,.int .i64 c,.ints .arg .u64 l],.agg [.int .i64 p,.int .i64 q,.ints .arg .u64 m],.fn 63 [.int .i64 n] [],.fn 64 [] []]=bif (A7 r&&A7 q) then solve.Al.Up.L0 N N r c l p q m n 0 (By (Int.toNat r) (Int.toNat q) (fun _ _=>0)) else none:=by kernel_rfl
abbrev _root_.Go.Proofs.S1.solve.Al.Up.Kn:=A4 Try.prog 56 solve.Al.Up.spec
theorem solve.Al.Up.Ae (hk:Av Try.prog solve.Al.Up.A8) (h:∀ (r c:Int) (l:List Int) (p q:Int) (m:List Int) (n:Int),solve.Al.Up.pre [.i r,.i c,.l l,.i p,.i q,.l m,.i n]=true→Bd solve.Al.Up.E Try.f56 [.agg [.int .i64 r,.int .i64 c,.ints .arg .u64 l],.agg [.int .i64 p,.int .i64 q,.ints .arg .u64 m],.fn 63 [.int .i64 n] [],.fn 64 [] []] (solve.Al.Up.out [.i r,.i c,.l l,.i p,.i q,.l m,.i n])):solve.Al.Up.Kn :=
  Aj (Ax hk _ _ _) Try.func56 (by kernel_rfl) (by kernel_rfl) h
def solve.Fs.A8:List (Nat × Entry):=[(55,solve.check.spec),(56,solve.Al.Up.spec)]
def solve.Fs.E:Env:=Ba (A6 solve.Fs.A8) (fun _=>false) (fun _=>none) (fun _=>none)
theorem solve.Fs.ev (N:Nat) (r c:Int) (l:List Int) (p q:Int) (m:List Int):Bo solve.Fs.E N Try.f42 (An Try.f42) [.agg [.int .i64 r,.int .i64 c,.ints .arg .u64 l],.agg [.int .i64 p,.int .i64 q,.ints .arg .u64 m]]=bif (Af l&&Af m) then bif ((N3 r c l p q m) !=(0:Int)) then some (.tup [.agg [.int .i64 0,.int .i64 0,.nil],.int .i64 (N3 r c l p q m)]) else bif (Li r c l p q m&&decide (r=r)) then some (.tup [.agg [.int .i64 ((Iv r q (Zh c l q m (Int.toNat r) (Int.toNat q))).1),.int .i64 ((Iv r q (Zh c l q m (Int.toNat r) (Int.toNat q))).2.1),.ints .fresh .u64 ((Iv r q (Zh c l q m (Int.toNat r) (Int.toNat q))).2.2.1)],.int .i64 ((Iv r q (Zh c l q m (Int.toNat r) (Int.toNat q))).2.2.2)]) else none else none:=by kernel_rfl
abbrev _root_.Go.Proofs.S1.solve.Fs.Kn:=A4 Try.prog 42 solve.Fs.spec
theorem solve.Fs.Ae (hk:Av Try.prog solve.Fs.A8) (h:∀ (r c:Int) (l:List Int) (p q:Int) (m:List Int),solve.Fs.pre [.i r,.i c,.l l,.i p,.i q,.l m]=true→Bd solve.Fs.E Try.f42 [.agg [.int .i64 r,.int .i64 c,.ints .arg .u64 l],.agg [.int .i64 p,.int .i64 q,.ints .arg .u64 m]] (solve.Fs.out [.i r,.i c,.l l,.i p,.i q,.l m])):solve.Fs.Kn :=
  Aj (Ax hk _ _ _) Try.func42 (by kernel_rfl) (by kernel_rfl) h
def solve.Flat.hint:Nat→Option A0
  | 0=>some { keep:=[1,5,6],objs:=[(0,5,100005,.ints 41 .u64 [])],boxes:=[1] }
  | 2=>some { keep:=[7,44,45,46],objs:=[(0,44,100044,.ints 41 .u64 [])],boxes:=[] }
  | _=>none
def solve.Flat.A8:List (Nat × Entry):=[(8,Bn.Check.spec),(51,compare.Qv.spec),(54,compare.Ix.spec),(53,Ac.Bz.spec),(52,Ac.Eu.spec)]
def solve.Flat.E:Env:=Ba (A6 solve.Flat.A8) (fun _=>false) solve.Flat.hint (fun _=>none)
def solve.Flat.L0 (N M:Nat) (r c:Int) (l:List Int) (p6:Int) (p5:List Int):Option DV:=B3 solve.Flat.E N Try.f28 (An Try.f28) [1,1,1,0,1,0] [] M ⟨Gy 55 [(1,.ptr 1 0 0),(5,.oref 100005),(6,.int .i64 p6)],[(1,false,.box [.int .i64 r,.int .i64 c,.ints .arg .u64 l]),(100005,false,.ints 41 .u64 p5)]⟩
def solve.Flat.L1 (N M:Nat) (p5:List Int) (p46:Int):Option DV:=B3 solve.Flat.E N Try.f28 (An Try.f28) [1,1,1,1,1,0,1,0] [] M ⟨Gy 55 [(7,.int .u64 (Bt (Bc p5) (-40:Int))),(44,.oref 100044),(45,.int .i64 (List.length p5:Int)),(46,.int .i64 p46)],[(100044,false,.ints 41 .u64 p5)]⟩
theorem solve.Flat.As (N M:Nat) (r c:Int) (l:List Int) (p6:Int) (p5:List Int):solve.Flat.L0 N (M+1) r c l p6 p5=bif ((Au p6 r)&&(Au p6 c)) then bif ((decide (0≤(Ab ((Ab (p6*c))+p6))))&&(decide ((Ab ((Ab (p6*c))+p6))<(List.length l:Int)))) then bif (Ag (List.getD l (Int.toNat (Ab ((Ab (p6*c))+p6))) 0)) then bif (decide ((List.length p5)+1≤Hv)) then solve.Flat.L0 N M r c l (Ab (p6+1)) (p5++[(W0 (List.getD l (Int.toNat (Ab ((Ab (p6*c))+p6))) 0))]) else none else none else none else bif (Cs p5) then bif (Dy (Bc p5) (-40:Int)) then solve.Flat.L1 N N p5 (0:Int) else none else none :=
  Eq.trans (by kernel_rfl)
  (Am (Su (Au p6 r)) (Am (Su (Au p6 r)) (Am (Qz (Au p6 r)) (Am (Aft (Au p6 r)) (Am (Vw (Au p6 r)) (Dp (tt1 (Au p6 r) (Au p6 c)) rfl rfl))))))
theorem solve.Flat.Ca (N M:Nat) (p5:List Int) (p46:Int):solve.Flat.L1 N (M+1) p5 p46=bif (Au p46 (List.length p5:Int)) then bif ((decide (0≤p46))&&(decide (p46<(List.length p5:Int)))) then bif (decide ((Int.toNat p46)<(List.length p5))) then bif (Ag (Bt (Bc p5) (-40:Int))&&Ag (List.getD p5 (Int.toNat p46) 0)) then bif (!(decide (Yf (Bt (Bc p5) (-40:Int)) (List.getD p5 (Int.toNat p46) 0)<0))) then some (.tup [.bool true,.int .i64 0]) else solve.Flat.L1 N M p5 (Ab (p46+1)) else none else none else none else some (.tup [.bool false,.int .i64 0]):=by kernel_rfl
theorem solve.Flat.ev (N:Nat) (r c:Int) (l:List Int):Bo solve.Flat.E N Try.f28 (An Try.f28) [.agg [.int .i64 r,.int .i64 c,.ints .arg .u64 l]]=bif (Af l) then bif ((Bh r c l) !=(0:Int)) then some (.tup [.bool false,.int .i64 (Bh r c l)]) else solve.Flat.L0 N N r c l 0 [] else none:=by kernel_rfl
abbrev _root_.Go.Proofs.S1.solve.Flat.Kn:=A4 Try.prog 28 solve.Flat.spec
theorem solve.Flat.Ae (hk:Av Try.prog solve.Flat.A8) (h:∀ (r c:Int) (l:List Int),solve.Flat.pre [.i r,.i c,.l l]=true→Bd solve.Flat.E Try.f28 [.agg [.int .i64 r,.int .i64 c,.ints .arg .u64 l]] (solve.Flat.out [.i r,.i c,.l l])):solve.Flat.Kn :=
  Aj (Ax hk _ _ _) Try.func28 (by kernel_rfl) (by kernel_rfl) h
end EqSol
open EqSol
theorem solve.Da.known:solve.Da.Kn:=solve.Da.Ae .nil fun i k _=>by
  refine ⟨0,solve.Da.out [.i i,.i k],[],?_,.bool⟩
  rw [solve.Da.ev,Aq]; rfl
theorem Ada.known:B6.B5.up.Kn:=B6.B5.up.Ae .nil fun n k hp=>by
  have hp:=Ar.1 (show Dd (0≤k∧k<n∧n≤10)=true from hp)
  refine ⟨0,B6.B5.up.out [.i n,.i k],[],?_,.int⟩
  rw [B6.B5.up.ev,Ak (x:=n-1) (by omega) (by omega),Ak (by omega) (by omega)]; rfl
theorem Aa.of.Bm.own.known:Aa.of.Bm.own.Kn:=Aa.of.Bm.own.Ae (.cons Aa.Cz.known .nil) fun a b hp=>by
  have h1:(A7 a&&A7 b)=true:=hp
  obtain ⟨ha,hb⟩:=Ad.1 h1
  obtain ⟨A,rfl,hA⟩:=Ex ha
  obtain ⟨B,rfl,hB⟩:=Ex hb
  refine ⟨8,.agg [.int .i64 (A:Int),.int .i64 (B:Int),.ints (.own 108002 tB) .u64 (By A B fun (i j:Nat)=>(0:Int))],[],?_,Wk.Hr (.cons .int (.cons .int (.cons (.keep _ _ _ _ List.not_mem_nil) .nil)))⟩
  have n:=of.Bm.outer 8 hA hB (by omega) (F:=fun (i j:Nat)=>(0:Int)) (fun _ _=>rfl) A 0 8 (by omega) (by omega)
  rw [Hn] at n
  exact (EqOf.Aa.of.Bm.ev 8 (A:Int) (B:Int)).trans n
theorem Aa.Bm.own.known:Aa.Bm.own.Kn:=Aa.Bm.own.Ae (.cons Aa.of.Bm.own.known (.cons Aa.size.known .nil)) fun a b hp=>by
  have hp:(A7 a&&A7 b)=true:=hp
  obtain ⟨ha,hb⟩:=Ad.1 hp
  refine ⟨0,Aa.Bm.own.out [.i a,.i b],[],?_,?_⟩
  · rw [Aa.Bm.own.ev,ha,hb]; rfl
  · exact Wk.Fl (.cons (Wk.Hr (.cons .int (.cons .int (.cons (.keep _ _ _ _ List.not_mem_nil) .nil)))) (.cons .int .nil))
section
variable {n Q:Nat} {l m:List Int}
def upF (n Q:Nat) (l m:List Int) (i j:Nat):Int:=(Ud (n:Int) l (fun i=>Dr (Q:Int) m (i:Int) (j:Int)) n n).getD i 0
def upD (n j k a b:Nat):Bool:=decide (b<j∨(b=j∧n-k≤a))
def Qa (n Q:Nat) (l m:List Int) (j k:Nat):List Int:=By n Q fun a b=>if upD n j k a b=true then upF n Q l m a b else 0
theorem Ack (i j:Nat):Ag (upF n Q l m i j)=true:=O5 (Xy _ _ _ _ _) i
theorem upS_in (j k:Nat):Af (Qa n Q l m j k)=true:=Gl fun a b=>by
  split
  · exact Ack _ _
  · exact Bl (n:=0) (by decide)
theorem Afh {j k t:Nat} (ht:t<n) (hj:j<Q) (hk:n-k≤t):Dr (Q:Int) (Qa n Q l m j k) (t:Int) (j:Int)=upF n Q l m t j:=by
  unfold Qa
  have hd:upD n j k t j=true:=Aho (.inr ⟨rfl,hk⟩)
  rw [Z1 ht hj,hd,if_pos rfl]
theorem Uc (j k:Nat):(Qa n Q l m j k).length=n*Q:=Bq _ _ _
theorem Ach (N:Nat) (n6:n≤6) (q6:Q≤6) (hl:l.length=n*n) (al:Af l=true) {i j k:Nat} (hi:i+k+1=n) (hj:j<Q) (M0 M1:Nat) (p29 p33:Int) :
    ∀ (cnt t F:Nat) (s:Int),t+cnt=n→cnt<F→i+1≤t→Ag s=true →
    solve.Al.Up.L2 N M0 M1 F (n:Int) (n:Int) l (n:Int) (Q:Int) m (n:Int) s (t:Int) (j:Int) (i:Int) p29 p33 (Qa n Q l m j k) =
    solve.Al.Up.L1 N M0 M1 (n:Int) (n:Int) l (n:Int) (Q:Int) m (n:Int) (Ab (p33+(1:Int))) (List.set (Qa n Q l m j k) (Int.toNat ((i:Int)*(Q:Int)+(j:Int))) (Em (Lc (n:Int) l (i:Int) s (t:Int) ((Ud (n:Int) l (fun i=>Dr (Q:Int) m (i:Int) (j:Int)) n n).drop t)) (Dr (n:Int) l (i:Int) (i:Int)))) (j:Int) p29:=by
  intro cnt
  induction cnt with
  | zero =>
    intro t F s ht hF hit hs
    obtain ⟨F,rfl⟩:∃ G,F=G+1:=⟨F-1,by omega⟩
    obtain ⟨e1,g1,g2⟩:=F8 (R:=(n:Int)) (Ez n6 n6 hl (show i<n by omega) (show i<n by omega))
    obtain ⟨e2,g3,g4⟩:=F8 (R:=(n:Int)) (Ez n6 q6 (Uc (l:=l) (m:=m) j k) (show i<n by omega) hj)
    rw [Ah1 (by rw [Nj]; omega),Lc]
    rw [solve.Al.Up.Hw,Aq,Ahs (show ¬ (t:Int)<(n:Int) by omega),Ahr,e1,Aho g1,Aho g2,Aht,Ahn,hs,show Ag (List.getD l (Int.toNat ((i:Int)*(n:Int)+(i:Int))) 0)=true from Hq (c:=(n:Int)) al,Aht,Ahn,
      e2,Aho g3,Aho g4,Aht,Ahn,Aho (show Int.toNat ((i:Int)*(Q:Int)+(j:Int))<(Qa n Q l m j k).length by omega),Ahn]
    rfl
  | succ cnt ih =>
    intro t F s ht hF hit hs
    obtain ⟨F,rfl⟩:∃ G,F=G+1:=⟨F-1,by omega⟩
    obtain ⟨e1,g1,g2⟩:=F8 (R:=(n:Int)) (Ez n6 n6 hl (show i<n by omega) (show t<n by omega))
    obtain ⟨e2,g3,g4⟩:=F8 (R:=(n:Int)) (Ez n6 q6 (Uc (l:=l) (m:=m) j k) (show t<n by omega) hj)
    have hx:List.getD (Qa n Q l m j k) (Int.toNat ((t:Int)*(Q:Int)+(j:Int))) 0=upF n Q l m t j:=Afh (by omega) hj (by omega)
    rw [solve.Al.Up.Hw,Aq,Aho (show (t:Int)<(n:Int) by omega),Ahn,Aho (show (i:Int)<(t:Int) by omega),Ahn,e1,Aho g1,Aho g2,Aht,Ahn,
      e2,Aho g3,Aho g4,Aht,Ahn,Aho (show Int.toNat ((t:Int)*(Q:Int)+(j:Int))<(Qa n Q l m j k).length by omega),Ahn,hx,
      show Ag (List.getD l (Int.toNat ((i:Int)*(n:Int)+(t:Int))) 0)=true from Hq (c:=(n:Int)) al,Ack,Aht,Ahn,hs,Jy,Aht,Ahn,Ak (x:=(t:Int)+1) (by omega) (by omega)]
    have:=ih (t+1) F (C0 s (Dz (Dr (n:Int) l (i:Int) (t:Int)) (upF n Q l m t j))) (by omega) (by omega) (by omega) (Lj hs (Jy _ _))
    rw [Tr (by rw [Nj]; omega)]
    exact this
theorem Afd (N:Nat) (n6:n≤6) {i j k:Nat} (hi:i<n) (M0 M1:Nat) (p29 p33 s:Int):∀ (cnt t F:Nat),t+cnt=i+1 →
    solve.Al.Up.L2 N M0 M1 (F+cnt) (n:Int) (n:Int) l (n:Int) (Q:Int) m (n:Int) s (t:Int) (j:Int) (i:Int) p29 p33 (Qa n Q l m j k) =
    solve.Al.Up.L2 N M0 M1 F (n:Int) (n:Int) l (n:Int) (Q:Int) m (n:Int) s ((i+1:Nat):Int) (j:Int) (i:Int) p29 p33 (Qa n Q l m j k):=by
  intro cnt
  induction cnt with
  | zero =>
    intro t F ht
    obtain rfl:t=i+1:=by omega
    rfl
  | succ cnt ih =>
    intro t F ht
    rw [← Nat.add_assoc,solve.Al.Up.Hw,Aq,Aho (show (t:Int)<(n:Int) by omega),Ahn,Ahs (show ¬ (i:Int)<(t:Int) by omega),Ahr,Ak (by omega) (by omega)]
    exact ih (t+1) F (by omega)
theorem Afg {i j k:Nat} (hi:i+k+1=n) (hj:j<Q) {x:Int} (hx:x=upF n Q l m i j):List.set (Qa n Q l m j k) (Int.toNat ((i:Int)*(Q:Int)+(j:Int))) x=Qa n Q l m j (k+1):=by
  refine Xj hj hx fun a b ha hb=>?_
  unfold upD
  rw [Ahu,Ahu]
  omega
theorem Afe (N:Nat) (n6:n≤6) (q6:Q≤6) (hN:7<N) (hl:l.length=n*n) (hm:m.length=n*Q) (al:Af l=true) (am:Af m=true) {j:Nat} (hj:j<Q) (M0:Nat):∀ (cnt k F:Nat),k+cnt=n→cnt<F →
    solve.Al.Up.L1 N M0 F (n:Int) (n:Int) l (n:Int) (Q:Int) m (n:Int) (k:Int) (Qa n Q l m j k) (j:Int) (j:Int) =
    solve.Al.Up.L0 N M0 (n:Int) (n:Int) l (n:Int) (Q:Int) m (n:Int) ((j+1:Nat):Int) (Qa n Q l m j n):=by
  intro cnt
  induction cnt with
  | zero =>
    intro k F hk hF
    obtain ⟨F,rfl⟩:∃ G,F=G+1:=⟨F-1,by omega⟩
    obtain rfl:k=n:=by omega
    rw [solve.Al.Up.Ca,Aq,Ahs (by omega),Ahr,Ak (by omega) (by omega)]
    rfl
  | succ cnt ih =>
    intro k F hk hF
    obtain ⟨F,rfl⟩:∃ G,F=G+1:=⟨F-1,by omega⟩
    obtain ⟨i,hi⟩:∃ i:Nat,i+k+1=n:=⟨n-k-1,by omega⟩
    have ei:(n:Int)-1-(k:Int)=(i:Int):=by omega
    obtain ⟨e2,g3,g4⟩:=F8 (R:=(n:Int)) (Ez n6 q6 hm (show i<n by omega) hj)
    rw [solve.Al.Up.Ca,Aq,Aho (show (k:Int)<(n:Int) by omega),Ahn,Ar.2 (show 0≤(k:Int)∧(k:Int)<(n:Int)∧(n:Int)≤10 by omega),Ahn,ei,e2,Aho g3,Aho g4,Aht,Ahn]
    obtain ⟨G,rfl⟩:∃ G,N=G+(i+1):=⟨N-(i+1),by omega⟩
    have hs:=Afd (n:=n) (Q:=Q) (l:=l) (m:=m) (G+(i+1)) n6 (i:=i) (j:=j) (k:=k) (by omega) M0 F (j:Int) (k:Int) (Dr (Q:Int) m (i:Int) (j:Int)) (i+1) 0 G (by omega)
    have hr:=Ach (n:=n) (Q:=Q) (l:=l) (m:=m) (G+(i+1)) n6 q6 hl al hi hj M0 F (j:Int) (k:Int) (n-(i+1)) (i+1) G (Dr (Q:Int) m (i:Int) (j:Int)) (by omega) (by omega) (by omega) (Hq (c:=(Q:Int)) am)
    rw [Afg hi hj (Afj (show i<n by omega)).symm,Ak (by omega) (by omega)] at hr
    exact (hs.trans hr).trans (ih (k+1) F (by omega) (by omega))
theorem Acj (j:Nat):Qa n Q l m j n=Qa n Q l m (j+1) 0:=by
  unfold Qa
  refine C1 fun a b ha hb=>?_
  have:upD n j n a b=upD n (j+1) 0 a b:=by
    unfold upD
    rw [decide_eq_decide]
    omega
  rw [this]
theorem Aci:Qa n Q l m 0 0=By n Q fun _ _=>0:=by
  unfold Qa
  refine C1 fun a b ha hb=>?_
  have:upD n 0 0 a b=false:=Ahs (by omega)
  rw [this]; rfl
theorem Afi:Qa n Q l m Q 0=Zh (n:Int) l (Q:Int) m n Q:=by
  unfold Qa Zh
  refine C1 fun a b ha hb=>?_
  have:upD n Q 0 a b=true:=Aho (.inl hb)
  rw [this]; rfl
theorem Aff (N:Nat) (n6:n≤6) (q6:Q≤6) (hN:7<N) (hl:l.length=n*n) (hm:m.length=n*Q) (al:Af l=true) (am:Af m=true):∀ (cnt j F:Nat),j+cnt=Q→cnt<F →
    solve.Al.Up.L0 N F (n:Int) (n:Int) l (n:Int) (Q:Int) m (n:Int) (j:Int) (Qa n Q l m j 0) =
    bif Ey (Qa n Q l m Q 0) then some (.tup [.agg [.int .i64 (n:Int),.int .i64 (Q:Int),.ints (.own 112002 tB) .u64 (Qa n Q l m Q 0)],.int .i64 (0:Int)]) else some (Yh 2):=by
  intro cnt
  induction cnt with
  | zero =>
    intro j F hj hF
    obtain ⟨F,rfl⟩:∃ G,F=G+1:=⟨F-1,by omega⟩
    obtain rfl:j=Q:=by omega
    have h36:=Nat.mul_le_mul n6 q6
    rw [solve.Al.Up.As,Aq,Ahs (by omega),Ahr,I7 (upS_in _ _) (by rw [Uc]; omega),Ahn]
    cases Ey (Qa n j l m j 0)<;>rfl
  | succ cnt ih =>
    intro j F hj hF
    obtain ⟨F,rfl⟩:∃ G,F=G+1:=⟨F-1,by omega⟩
    have hr:=Afe N n6 q6 hN hl hm al am (show j<Q by omega) F n 0 N (by omega) (by omega)
    rw [Acj] at hr
    rw [solve.Al.Up.As,Aq,Aho (show (j:Int)<(Q:Int) by omega),Ahn]
    exact hr.trans (ih (j+1) F (by omega) (by omega))
end
theorem solve.Al.Up.known:solve.Al.Up.Kn:=solve.Al.Up.Ae (.cons Ada.known (.cons Aa.Bm.own.known (.cons solve.Da.known (.cons Ac.Div.known (.cons Ac.Finite.known (.cons Ac.Mul.known (.cons Ac.Sub.known .nil))))))) fun r c l p q m n hp=>by
  show ∃ N dv drops,_=some dv∧Wk drops dv (Nq (Iv r q (Zh c l q m (Int.toNat r) (Int.toNat q))))
  obtain ⟨h1,hn⟩:=Ad.1 (show (Li r c l p q m&&decide (n=r))=true from hp)
  obtain ⟨h2,h3⟩:=Ad.1 h1
  obtain ⟨hr,hm⟩:=Ad.1 h2
  obtain ⟨h4,h5⟩:=Ad.1 h3
  obtain ⟨al,am⟩:=Ad.1 h4
  obtain ⟨rfl,rfl⟩:=Ar.1 h5
  obtain rfl:=of_decide_eq_true hn
  have s1:=(Ec hr).1
  have s2:=(Ec hm).2
  obtain ⟨R,C,rfl,hC,r6,c6,hl⟩:=Dj hr
  obtain ⟨P,Q,hP,rfl,p6,q6,hl2⟩:=Dj hm
  obtain rfl:R=C:=by omega
  obtain rfl:R=P:=by omega
  have h:=Aff (n:=R) (Q:=Q) (l:=l) (m:=m) 8 r6 q6 (by omega) hl hl2 al am Q 0 8 (by omega) (by omega)
  rw [Aci,Afi,show ((0:Nat):Int)=0 from rfl] at h
  rw [Ahp,Ahp]
  unfold Iv
  cases hf:Ey (Zh (R:Int) l (Q:Int) m R Q) with
  | true =>
    rw [hf,Ahn] at h
    rw [if_pos rfl]
    refine ⟨8,.tup [.agg [.int .i64 (R:Int),.int .i64 (Q:Int),.ints (.own 112002 tB) .u64 (Zh (R:Int) l (Q:Int) m R Q)],.int .i64 0],[112002],?_,Wk.Fl (.cons (Xv (List.mem_singleton.2 rfl)) (.cons .int .nil))⟩
    rw [solve.Al.Up.ev,s1,s2,Aht,Ahn,Ahp,Ahp]
    exact h
  | false =>
    rw [hf,Ahr] at h
    rw [if_neg (by decide)]
    refine ⟨8,Yh 2,[],?_,Ge⟩
    rw [solve.Al.Up.ev,s1,s2,Aht,Ahn,Ahp,Ahp]
    exact h
namespace EqFew
def qr.D4.A8:List (Nat × Entry):=[(18,Aa.Mul.spec),(26,Aa.Cl.spec)]
def qr.D4.E:Env:=Ba (A6 qr.D4.A8) (fun _=>false) (fun _=>none) (fun _=>none)
theorem qr.D4.ev (N:Nat) (r c:Int) (l:List Int) (p q:Int) (m:List Int):Bo qr.D4.E N Try.f41 (An Try.f41) [.agg [.int .i64 r,.int .i64 c,.ints .arg .u64 l],.agg [.int .i64 p,.int .i64 q,.ints .arg .u64 m]]=bif (((Bw r c l).2.2.2) !=(0:Int)) then some (.tup [.agg [.int .i64 0,.int .i64 0,.nil],.int .i64 ((Bw r c l).2.2.2)]) else bif (Af ((Bw r c l).2.2.1)&&Af m) then some (.tup [.agg [.int .i64 ((Dx ((Bw r c l).1) ((Bw r c l).2.1) ((Bw r c l).2.2.1) p q m).1),.int .i64 ((Dx ((Bw r c l).1) ((Bw r c l).2.1) ((Bw r c l).2.2.1) p q m).2.1),.ints .fresh .u64 ((Dx ((Bw r c l).1) ((Bw r c l).2.1) ((Bw r c l).2.2.1) p q m).2.2.1)],.int .i64 ((Dx ((Bw r c l).1) ((Bw r c l).2.1) ((Bw r c l).2.2.1) p q m).2.2.2)]) else none:=by kernel_rfl
abbrev _root_.Go.Proofs.S1.qr.D4.Kn:=A4 Try.prog 41 qr.D4.spec
theorem qr.D4.Ae (hk:Av Try.prog qr.D4.A8) (h:∀ (r c:Int) (l:List Int) (p q:Int) (m:List Int),qr.D4.pre [.i r,.i c,.l l,.i p,.i q,.l m]=true→Bd qr.D4.E Try.f41 [.agg [.int .i64 r,.int .i64 c,.ints .arg .u64 l],.agg [.int .i64 p,.int .i64 q,.ints .arg .u64 m]] (qr.D4.out [.i r,.i c,.l l,.i p,.i q,.l m])):qr.D4.Kn :=
  Aj (Ax hk _ _ _) Try.func41 (by kernel_rfl) (by kernel_rfl) h
end EqFew
open EqSol EqFew
theorem Yb {n i:Nat} (h:i<n):(List.range n).drop i=i::(List.range n).drop (i+1):=by
  rw [List.drop_eq_getElem_cons (by rw [List.length_range]; exact h),List.getElem_range]
theorem E8 {r c:Int} {l:List Int} (h:Bh r c l=0):Aw r c l=true∧Ey l=true:=by
  unfold Bh at h
  by_cases h1:Aw r c l=true
  · rw [if_pos h1] at h
    by_cases h2:Ey l=true
    · exact ⟨h1,h2⟩
    · rw [if_neg h2] at h; exact absurd h (by decide)
  · rw [if_neg h1] at h; exact absurd h (by decide)
theorem Nr {x:Int} (h:x≠0):(x !=(0:Int))=true:=by simpa using h
theorem Ea {x:Int} (h:x=0):(x !=(0:Int))=false:=by rw [h]; rfl
theorem Y5 (N:Nat) {n:Nat} {l:List Int} (n6:n≤6) (hl:l.length=n*n) (al:Af l=true):∀ (cnt i F:Nat),i+cnt=n→cnt<F →
    solve.check.L0 (N+4) F (n:Int) (n:Int) l (i:Int)=some (.int .i64 (if ((List.range n).drop i).any (fun i:Nat=>decide (Az (Dr (n:Int) l (i:Int) (i:Int))=0))=true then 5 else 0)):=by
  intro cnt
  induction cnt with
  | zero =>
    intro i F hi hF
    obtain ⟨F,rfl⟩:∃ G,F=G+1:=⟨F-1,by omega⟩
    rw [solve.check.As,Aq,Ahs (by omega),Ahr,Ah1 (by rw [List.length_range]; omega)]; rfl
  | succ cnt ih =>
    intro i F hi hF
    obtain ⟨F,rfl⟩:∃ G,F=G+1:=⟨F-1,by omega⟩
    obtain ⟨e1,g1,g2⟩:=F8 (R:=(n:Int)) (Ez n6 n6 hl (show i<n by omega) (show i<n by omega))
    have hx:List.getD l (Int.toNat ((i:Int)*(n:Int)+(i:Int))) 0=Dr (n:Int) l (i:Int) (i:Int):=rfl
    rw [solve.check.As,Aq,Aho (show (i:Int)<(n:Int) by omega),Ahn,e1,Aho g1,Aho g2,Aht,Ahn,hx,Hq al,Ahn,Yb (by omega),List.any_cons]
    by_cases hk:Az (Dr (n:Int) l (i:Int) (i:Int))=0
    · have e:(Az (Dr (n:Int) l (i:Int) (i:Int))==(0:Int))=true:=by rw [hk]; rfl
      rw [e,Ahn,Aho hk]; rfl
    · have e:(Az (Dr (n:Int) l (i:Int) (i:Int))==(0:Int))=false:=by simpa using hk
      rw [e,Ahr,Ahs hk,Bool.false_or,Ak (by omega) (by omega)]
      exact ih (i+1) F (by omega) (by omega)
theorem ne_or {r c p:Int}:((r !=c)||(r !=p))=decide (r≠c∨r≠p):=by
  rw [Ah3]; simp
theorem solve.check.known:solve.check.Kn:=solve.check.Ae (.cons Bn.Check.known (.cons soft.Kind.known .nil)) fun r c l p q m hp=>by
  obtain ⟨al,am⟩:=Ad.1 (show (Af l&&Af m)=true from hp)
  refine ⟨14,solve.check.out [.i r,.i c,.l l,.i p,.i q,.l m],[],?_,.int⟩
  show _=some (DV.int .i64 (N3 r c l p q m))
  rw [show (14:Nat)=10+4 from rfl,solve.check.ev,al,Ahn,am,Ahn,ne_or]
  unfold N3
  by_cases h1:Bh r c l=0
  · rw [Ea h1,Ahr,if_neg (by rw [h1]; decide)]
    by_cases h2:Bh p q m=0
    · rw [Ea h2,Ahr,if_neg (by rw [h2]; decide)]
      by_cases h3:r≠c∨r≠p
      · rw [Aho h3,Ahn,if_pos h3]
      · rw [Ahs h3,Ahr,if_neg h3]
        obtain rfl:r=c:=Decidable.byContradiction fun h=>h3 (.inl h)
        obtain ⟨R,C,rfl,hC,r6,c6,hl⟩:=Dj (E8 h1).1
        obtain rfl:R=C:=by omega
        rw [Ahp]
        exact Y5 10 r6 hl al R 0 14 (by omega) (by omega)
    · rw [Nr h2,Ahn,if_pos h2]
  · rw [Nr h1,Ahn,if_pos h1]
theorem T3 {r c:Int} {l:List Int} {p q:Int} {m:List Int} (h:N3 r c l p q m=0):Aw r c l=true∧Aw p q m=true∧r=c∧r=p:=by
  unfold N3 at h
  by_cases h1:Bh r c l=0
  · rw [if_neg (by rw [h1]; decide)] at h
    by_cases h2:Bh p q m=0
    · rw [if_neg (by rw [h2]; decide)] at h
      by_cases h3:r≠c∨r≠p
      · rw [if_pos h3] at h; exact absurd h (by decide)
      · exact ⟨(E8 h1).1,(E8 h2).1,Decidable.byContradiction fun h=>h3 (.inl h),Decidable.byContradiction fun h=>h3 (.inr h)⟩
    · rw [if_pos h2] at h; exact absurd h h2
  · rw [if_pos h1] at h; exact absurd h h1
theorem solve.Fs.known:solve.Fs.Kn:=solve.Fs.Ae (.cons solve.check.known (.cons solve.Al.Up.known .nil)) fun r c l p q m hp=>by
  have hp:(Af l&&Af m)=true:=hp
  show ∃ N dv drops,_=some dv∧Wk drops dv (Nq (upX r c l p q m))
  unfold upX
  by_cases h:N3 r c l p q m=0
  · obtain ⟨h1,h2,h3,h4⟩:=T3 h
    have ht:Li r c l p q m=true:=Ad.2 ⟨Ad.2 ⟨h1,h2⟩,Ad.2 ⟨hp,Ar.2 ⟨h3,h4⟩⟩⟩
    rw [if_neg (by rw [h]; decide)]
    exact ⟨0,_,[],by rw [solve.Fs.ev,hp,Ahn,Ea h,Ahr,ht,Aho rfl]; rfl,Jt⟩
  · rw [if_pos h]
    exact ⟨0,_,[],by rw [solve.Fs.ev,hp,Ahn,Nr h,Ahn]; rfl,Ge⟩
theorem Ac0 {b:Nat} {n:Int} (h:b<2^64):(Gn b n).1<2^64:=by
  unfold Gn
  by_cases h4:Ao b=4
  · rw [if_pos h4]; exact (by decide:S6<2^64)
  rw [if_neg h4]
  by_cases h3:Ao b=3∨Ao b=0
  · rw [if_pos h3]; exact h
  rw [if_neg h3]
  exact Of _ _ _
theorem Hz {b n:Int} (h:Ag b=true):Ag (Bt b n)=true:=by
  obtain ⟨x,rfl,hx⟩:=Bj h
  exact Bl (Ac0 (by rw [Ahp]; exact hx))
theorem So:∀ (l:List Int) (m:Nat),m<2^64→Vl l m<2^64
  | [],m,h=>h
  | x::l,m,h=>by
    unfold Vl
    split
    · exact (by decide:S6<2^64)
    · have h2:Aca x.toNat<2^63:=Ub x.toNat
      exact So l _ (by omega)
theorem N7 (l:List Int):Ag (Bc l)=true:=Bl (So l 0 (by decide))
theorem Adp (x:Int):Ag (W0 x)=true:=Bl (Nat.lt_trans (Ub x.toNat) (by decide))
theorem Abr (N:Nat) {d:List Int} (hd:Cs d=true) (h7:d.length≤1000):∀ (cnt i F:Nat),i+cnt=d.length→cnt<F →
    solve.Flat.L1 N F d (i:Int)=some (.tup [.bool ((d.drop i).any fun x=>!(decide (Yf (Bt (Bc d) (-40)) x<0))),.int .i64 0]):=by
  obtain ⟨_,hu⟩:=Iq hd
  intro cnt
  induction cnt with
  | zero =>
    intro i F hi hF
    obtain ⟨F,rfl⟩:∃ G,F=G+1:=⟨F-1,by omega⟩
    rw [solve.Flat.Ca,Aq,Ahs (by omega),Ahr,Ah1 (by omega)]; rfl
  | succ cnt ih =>
    intro i F hi hF
    obtain ⟨F,rfl⟩:∃ G,F=G+1:=⟨F-1,by omega⟩
    rw [solve.Flat.Ca,Aq,Aho (show (i:Int)<(d.length:Int) by omega),Ahn,Aho (show (0:Int)≤(i:Int) by omega),Aht,Ahn,Ahp,Aho (show i<d.length by omega),Ahn,
      Hz (N7 d),hu i (by omega),Aht,Ahn,G0 (by omega),List.any_cons]
    cases decide (Yf (Bt (Bc d) (-40)) (d.getD i 0)<0) with
    | false=>rfl
    | true =>
      rw [Bool.not_true,Ahr,Bool.false_or,Ak (by omega) (by omega)]
      exact ih (i+1) F (by omega) (by omega)
theorem Ag3 (c:Int) (l:List Int) (n:Nat):Af (Qo c l n)=true:=Ar.2 fun x hx=>by
  obtain ⟨j,_,rfl⟩:=List.mem_map.1 hx
  exact Adp _
theorem Jo (c:Int) (l:List Int) (n:Nat):(Qo c l n).length=n:=by unfold Qo; rw [List.length_map,List.length_range]
theorem Abt (N:Nat) {R C:Nat} {l:List Int} (r6:R≤6) (c6:C≤6) (hN:7<N) (hl:l.length=R*C) (al:Af l=true):∀ (cnt i F:Nat),i+cnt=min R C→cnt<F →
    solve.Flat.L0 N F (R:Int) (C:Int) l (i:Int) (Qo (C:Int) l i)=some (.tup [.bool (flatL (Qo (C:Int) l (min R C))),.int .i64 0]):=by
  intro cnt
  induction cnt with
  | zero =>
    intro i F hi hF
    obtain ⟨F,rfl⟩:∃ G,F=G+1:=⟨F-1,by omega⟩
    obtain rfl:i=min R C:=by omega
    have hlt:(Au (((min R C:Nat)):Int) (R:Int)&&Au (((min R C:Nat)):Int) (C:Int))=false:=by
      rw [Aq,Aq,Bool.and_eq_false_iff,Ah6,Ah6]; omega
    have ok:=I7 (Ag3 (C:Int) l (min R C)) (by rw [Jo]; omega)
    have sp:Dy (Bc (Qo (C:Int) l (min R C))) (-40:Int)=true:=Ad.2 ⟨N7 _,Ar.2 (by omega)⟩
    rw [solve.Flat.As,hlt,Ahr,ok,Ahn,sp,Ahn]
    exact Abr N ok (by rw [Jo]; omega) (min R C) 0 N (by rw [Jo]; omega) (by omega)
  | succ cnt ih =>
    intro i F hi hF
    obtain ⟨F,rfl⟩:∃ G,F=G+1:=⟨F-1,by omega⟩
    obtain ⟨e1,g1,g2⟩:=F8 (R:=(R:Int)) (Ez r6 c6 hl (show i<R by omega) (show i<C by omega))
    have hx:List.getD l (Int.toNat ((i:Int)*(C:Int)+(i:Int))) 0=Dr (C:Int) l (i:Int) (i:Int):=rfl
    rw [solve.Flat.As,Aq,Aq,Aho (show (i:Int)<(R:Int) by omega),Aho (show (i:Int)<(C:Int) by omega),Aht,Ahn,e1,Aho g1,Aho g2,Aht,Ahn,hx,Hq al,Ahn,
      Jo,Aho (show i+1≤Hv by unfold Hv; omega),Ahn,Ak (by omega) (by omega)]
    have:=ih (i+1) F (by omega) (by omega)
    unfold Qo at this ⊢
    rw [Gg] at this
    exact this
theorem solve.Flat.known:solve.Flat.Kn:=solve.Flat.Ae (.cons Bn.Check.known (.cons compare.Qv.known (.cons compare.Ix.known (.cons Ac.Bz.known (.cons Ac.Eu.known .nil))))) fun r c l hp=>by
  have hp:Af l=true:=hp
  refine ⟨8,solve.Flat.out [.i r,.i c,.l l],[],?_,Wk.Fl (.cons .bool (.cons .int .nil))⟩
  show _=some (DV.tup [.bool (Jn r c l).1,.int .i64 (Jn r c l).2])
  rw [solve.Flat.ev,hp,Ahn]
  unfold Jn Aeb
  by_cases h1:Bh r c l=0
  · obtain ⟨R,C,rfl,rfl,r6,c6,hl⟩:=Dj (E8 h1).1
    rw [Ea h1,Ahr,if_neg (by rw [h1]; decide),Ahp,Ahp]
    exact Abt 8 r6 c6 (by omega) hl hp (min R C) 0 8 (by omega) (by omega)
  · rw [Nr h1,Ahn,if_pos h1]
theorem Oo {r c:Int} {l:List Int} (al:Af l=true) (x y a b:Int):Af (Es r c l x y a b).2.2.1=true:=by
  unfold Es
  split
  · split
    · dsimp only
      exact Gl fun i k=>Hq al
    · exact Ar.2 fun x h=>by cases h
  · exact Ar.2 fun x h=>by cases h
theorem Oc {r c:Int} {l:List Int} (al:Af l=true):Af (Bw r c l).2.2.1=true:=by
  unfold Bw
  split
  · dsimp only
    exact Gl fun i k=>Hq al
  · exact Ar.2 fun x h=>by cases h
theorem Vf (x y:List Int):Ag (M3 x y)=true:=Bl (Ve x y 0 (by decide))
theorem Kv (r c:Int) (l:List Int) (p q:Int) (m:List Int):Af (Dx r c l p q m).2.2.1=true:=by
  unfold Dx
  split
  · split
    · dsimp only
      exact Gl fun i k=>Vf _ _
    · exact Ar.2 fun x h=>by cases h
  · exact Ar.2 fun x h=>by cases h
theorem Aag (r c:Int) (l:List Int) (p q:Int) (m:List Int):Af (Cm r c l p q m).2.2.1=true:=by
  unfold Cm
  split
  · exact Ar.2 fun x h=>by cases h
  · exact Kv _ _ _ _ _ _
theorem qr.D4.known:qr.D4.Kn:=qr.D4.Ae (.cons Aa.Mul.known (.cons Aa.Cl.known .nil)) fun r c l p q m hp=>by
  obtain ⟨al,am⟩:=Ad.1 (show (Af l&&Af m)=true from hp)
  show ∃ N dv drops,_=some dv∧Wk drops dv (Nq (Cm r c l p q m))
  unfold Cm
  by_cases h:(Bw r c l).2.2.2=0
  · rw [if_neg (by rw [h]; decide)]
    exact ⟨0,_,[],by rw [qr.D4.ev,Ea h,Ahr,Oc al,am]; rfl,Jt⟩
  · rw [if_pos h]
    exact ⟨0,_,[],by rw [qr.D4.ev,Nr h,Ahn]; rfl,Ge⟩
namespace EqQr
def qr.down.hint:Nat→Option A0
  | 0=>some { keep:=[1,2,5,6,7],objs:=[(0,6,100006,.recs 75 2 []),(6,2,106002,.ints 41 .u64 [])],boxes:=[1,2,5] }
  | 2=>some { keep:=[1,2,5,6,7,8,9,12],objs:=[(6,2,106002,.ints 41 .u64 []),(0,6,100006,.recs 75 2 [])],boxes:=[1,2,5] }
  | _=>none
def qr.down.A8:List (Nat × Entry):=[(49,Ai.Apply.spec),(65,Ai.Hs.spec),(35,Aa.Ck.spec)]
def qr.down.E:Env:=Ba (A6 qr.down.A8) (fun n=>Nat.beq n 46) qr.down.hint (fun _=>none)
def qr.down.L0 (N M0 M:Nat) (r c:Int) (l:List Int) (p12_1:Int) (p2_1:List Int) (p7_1:Int) (p8:List Int) (p9:Int) (p6_1:List (List DV)):Option DV:=B3 qr.down.E N Try.f47 (An Try.f47) [1,1,1,0,1,0,0,1,0,0,1,1,1,1,0,1,0] [M0] M ⟨Gy 88 [(1,.ptr 1 0 0),(2,.ptr 2 0 0),(5,.ptr 5 0 0),(6,.oref 100006),(7,.int .i64 p7_1),(8,.ints .fresh .u64 p8),(9,.int .u64 p9),(12,.int .i64 p12_1)],[(1,false,.box [.int .i64 r,.int .i64 c,.ints .arg .u64 l]),(2,false,.box [.int .i64 0,.int .i64 0,.nil]),(5,false,.box [.int .i64 r,.int .i64 c,.oref 106002]),(106002,false,.ints 41 .u64 p2_1),(100006,false,.recs 75 2 p6_1)]⟩
def qr.down.L1 (N M:Nat) (r c:Int) (l:List Int) (p7:Int) (p6:List (List DV)) (p2_2:List Int):Option DV:=B3 qr.down.E N Try.f47 (An Try.f47) [1,1,1,0,1,0] [] M ⟨Gy 88 [(1,.ptr 1 0 0),(2,.ptr 2 0 0),(5,.ptr 5 0 0),(6,.oref 100006),(7,.int .i64 p7)],[(1,false,.box [.int .i64 r,.int .i64 c,.ints .arg .u64 l]),(2,false,.box [.int .i64 0,.int .i64 0,.nil]),(5,false,.box [.int .i64 r,.int .i64 c,.oref 106002]),(100006,false,.recs 75 2 p6),(106002,false,.ints 41 .u64 p2_2)]⟩
def qr.down.L2 (N M:Nat) (r c:Int) (l:List Int):Option DV:=B3 qr.down.E N Try.f47 (An Try.f47) [1,1,1,0,1,0] [] M ⟨Gy 88 [(1,.ptr 1 0 0),(2,.ptr 2 0 0),(5,.ptr 5 0 0),(6,.oref 100006),(7,.int .i64 0)],[(1,false,.box [.int .i64 r,.int .i64 c,.ints .arg .u64 l]),(2,false,.box [.int .i64 0,.int .i64 0,.nil]),(5,false,.box [.int .i64 r,.int .i64 c,.ints .arg .u64 l]),(100006,false,.recs 75 2 [])]⟩
theorem qr.down.As (N M0 M:Nat) (r c:Int) (l:List Int) (p12_1:Int) (p2_1:List Int) (p7_1:Int) (p8:List Int) (p9:Int) (p6_1:List (List DV)):qr.down.L0 N M0 (M+1) r c l p12_1 p2_1 p7_1 p8 p9 p6_1=bif (Au p12_1 r) then bif ((decide (0≤(Ab ((Ab (p12_1*c))+p7_1))))&&(decide ((Ab ((Ab (p12_1*c))+p7_1))<(List.length p2_1:Int)))) then bif (decide ((Int.toNat (Ab ((Ab (p12_1*c))+p7_1)))<(List.length p2_1))) then qr.down.L0 N M0 M r c l (Ab (p12_1+1)) (List.set p2_1 (Int.toNat (Ab ((Ab (p12_1*c))+p7_1))) 0) p7_1 p8 p9 p6_1 else none else none else bif (decide ((List.length p6_1)+1≤Ad1)) then qr.down.L1 N M0 r c l (Ab (p7_1+1)) (p6_1++[[.ints .arg .u64 p8,.int .u64 p9]]) p2_1 else none:=by kernel_rfl
theorem qr.down.Ca (N M:Nat) (r c:Int) (l:List Int) (p7:Int) (p6:List (List DV)) (p2_2:List Int):qr.down.L1 N (M+1) r c l p7 p6 p2_2=bif ((Au p7 c)&&(Au p7 (Ab (r-1)))) then bif (Jc r c p2_2 p7&&Dd (0≤p7∧p7≤r)) then bif (Cs (Cu c p2_2 p7 p7 (Int.toNat (r-p7)))) then bif (((Bs (Cu c p2_2 p7 p7 (Int.toNat (r-p7)))).2.2.2) !=(0:Int)) then some (.tup [.agg [.int .i64 0,.int .i64 0,.nil],.nil,.int .i64 2]) else bif (((Aw r c p2_2&&J5 r c p7 p7 ((Bs (Cu c p2_2 p7 p7 (Int.toNat (r-p7)))).1))&&(Af p2_2&&Af ((Bs (Cu c p2_2 p7 p7 (Int.toNat (r-p7)))).1)))&&Ag ((Bs (Cu c p2_2 p7 p7 (Int.toNat (r-p7)))).2.1)) then bif ((decide (0≤(Ab ((Ab (p7*c))+p7))))&&(decide ((Ab ((Ab (p7*c))+p7))<(List.length (E9 (Int.toNat r) (Int.toNat c) p2_2 p7 p7 ((Bs (Cu c p2_2 p7 p7 (Int.toNat (r-p7)))).1) ((Bs (Cu c p2_2 p7 p7 (Int.toNat (r-p7)))).2.1)):Int)))) then bif (decide ((Int.toNat (Ab ((Ab (p7*c))+p7)))<(List.length (E9 (Int.toNat r) (Int.toNat c) p2_2 p7 p7 ((Bs (Cu c p2_2 p7 p7 (Int.toNat (r-p7)))).1) ((Bs (Cu c p2_2 p7 p7 (Int.toNat (r-p7)))).2.1))))) then qr.down.L0 N M N r c l (Ab (p7+1)) (List.set (E9 (Int.toNat r) (Int.toNat c) p2_2 p7 p7 ((Bs (Cu c p2_2 p7 p7 (Int.toNat (r-p7)))).1) ((Bs (Cu c p2_2 p7 p7 (Int.toNat (r-p7)))).2.1)) (Int.toNat (Ab ((Ab (p7*c))+p7))) ((Bs (Cu c p2_2 p7 p7 (Int.toNat (r-p7)))).2.2.1)) p7 ((Bs (Cu c p2_2 p7 p7 (Int.toNat (r-p7)))).1) ((Bs (Cu c p2_2 p7 p7 (Int.toNat (r-p7)))).2.1) p6 else none else none else none else none else none else some (.tup [.agg [.int .i64 r,.int .i64 c,.ints (.own 106002 41) .u64 p2_2],.recs (.own 100006 75) 2 p6,.int .i64 0]) :=
  Eq.trans (by kernel_rfl)
  (Am (Su (Au p7 c)) (Am (Su (Au p7 c)) (Am (Qz (Au p7 c)) (Am (Qz (Au p7 c)) (Am (Aft (Au p7 c)) (Am (Vw (Au p7 c)) (Dp (tt1 (Au p7 c) (Au p7 (Ab (r-1)))) rfl rfl)))))))
theorem qr.down.Hw (N M:Nat) (r c:Int) (l:List Int):qr.down.L2 N (M+1) r c l=bif ((Au 0 c)&&(Au 0 (Ab (r-1)))) then bif (Jc r c l 0&&Dd (0≤(0:Int)∧(0:Int)≤r)) then bif (Cs (Cu c l 0 0 (Int.toNat (r-0)))) then bif (((Bs (Cu c l 0 0 (Int.toNat (r-0)))).2.2.2) !=(0:Int)) then some (.tup [.agg [.int .i64 0,.int .i64 0,.nil],.nil,.int .i64 2]) else bif (((Aw r c l&&J5 r c 0 0 ((Bs (Cu c l 0 0 (Int.toNat (r-0)))).1))&&(Af l&&Af ((Bs (Cu c l 0 0 (Int.toNat (r-0)))).1)))&&Ag ((Bs (Cu c l 0 0 (Int.toNat (r-0)))).2.1)) then bif ((decide (0≤(Ab ((Ab ((0:Int)*c))+0))))&&(decide ((Ab ((Ab ((0:Int)*c))+0))<(List.length (E9 (Int.toNat r) (Int.toNat c) l 0 0 ((Bs (Cu c l 0 0 (Int.toNat (r-0)))).1) ((Bs (Cu c l 0 0 (Int.toNat (r-0)))).2.1)):Int)))) then bif (decide ((Int.toNat (Ab ((Ab ((0:Int)*c))+0)))<(List.length (E9 (Int.toNat r) (Int.toNat c) l 0 0 ((Bs (Cu c l 0 0 (Int.toNat (r-0)))).1) ((Bs (Cu c l 0 0 (Int.toNat (r-0)))).2.1))))) then qr.down.L0 N M N r c l 1 (List.set (E9 (Int.toNat r) (Int.toNat c) l 0 0 ((Bs (Cu c l 0 0 (Int.toNat (r-0)))).1) ((Bs (Cu c l 0 0 (Int.toNat (r-0)))).2.1)) (Int.toNat (Ab ((Ab ((0:Int)*c))+0))) ((Bs (Cu c l 0 0 (Int.toNat (r-0)))).2.2.1)) 0 ((Bs (Cu c l 0 0 (Int.toNat (r-0)))).1) ((Bs (Cu c l 0 0 (Int.toNat (r-0)))).2.1) [] else none else none else none else none else none else some (.tup [.agg [.int .i64 r,.int .i64 c,.ints .arg .u64 l],.recs (.own 100006 75) 2 [],.int .i64 0]) :=
  Eq.trans (by kernel_rfl)
  (Am (Su (Au 0 c)) (Am (Su (Au 0 c)) (Am (Qz (Au 0 c)) (Am (Qz (Au 0 c)) (Am (Aft (Au 0 c)) (Am (Vw (Au 0 c)) (Dp (tt1 (Au 0 c) (Au 0 (Ab (r-1)))) rfl rfl)))))))
theorem qr.down.ev (N:Nat) (r c:Int) (l:List Int):Bo qr.down.E N Try.f47 (An Try.f47) [.agg [.int .i64 r,.int .i64 c,.ints .arg .u64 l]] =
  qr.down.L2 N N r c l:=by kernel_rfl
abbrev _root_.Go.Proofs.S1.qr.down.Kn:=A4 Try.prog 47 qr.down.spec
theorem qr.down.Ae (hk:Av Try.prog qr.down.A8) (h:∀ (r c:Int) (l:List Int),qr.down.pre [.i r,.i c,.l l]=true→Bd qr.down.E Try.f47 [.agg [.int .i64 r,.int .i64 c,.ints .arg .u64 l]] (qr.down.out [.i r,.i c,.l l])):qr.down.Kn :=
  Aj (Ax hk _ _ _) Try.func47 (by kernel_rfl) (by kernel_rfl) h
def qr.Ch.hint:Nat→Option A0
  | 0=>some { keep:=[2,3,5,6],objs:=[],boxes:=[2,3] }
  | _=>none
def qr.Ch.A8:List (Nat × Entry):=[(8,Bn.Check.spec),(49,Ai.Apply.spec),(48,Aa.Fz.spec),(47,qr.down.spec),(50,Ac.Finite.spec)]
def qr.Ch.E:Env:=Yy (A6 qr.Ch.A8) (fun _=>false) qr.Ch.hint (fun _=>none) (advOf [(22,[.s .u64]),(41,[.i .u64])])
def qr.Ch.L0 (N M:Nat) (r c:Int) (l:List Int) (p6:Int) (p2:List Int):Option DV:=B3 qr.Ch.E N Try.f27 (An Try.f27) [1,0,1,1,1,1,1,1,0,0] [] M ⟨Gy 81 [(2,.ptr 2 0 0),(3,.ptr 3 0 0),(5,.recs .fresh 2 (Hk r c ([]++l))),(6,.int .i64 p6)],[(2,false,.box [.int .i64 ((Ja r).1),.int .i64 ((Ja r).2.1),.ints .fresh .u64 p2]),(3,false,.box [.int .i64 ((Ef r c ([]++l)).1),.int .i64 ((Ef r c ([]++l)).2.1),.ints .arg .u64 ((Ef r c ([]++l)).2.2.1)])]⟩
theorem qr.Ch.As (N M:Nat) (r c:Int) (l:List Int) (p6:Int) (p2:List Int):qr.Ch.L0 N (M+1) r c l p6 p2=bif (Au p6 0) then bif (Cs p2) then bif ((!(Ey p2))||(Cs ((Ef r c ([]++l)).2.2.1))) then bif ((!(Ey p2))||(!(Ey ((Ef r c ([]++l)).2.2.1)))) then some (.tup [.agg [.int .i64 0,.int .i64 0,.nil],.agg [.int .i64 0,.int .i64 0,.nil],.int .i64 2]) else some (.tup [.agg [.int .i64 ((Ja r).1),.int .i64 ((Ja r).2.1),.ints .fresh .u64 p2],.agg [.int .i64 ((Ef r c ([]++l)).1),.int .i64 ((Ef r c ([]++l)).2.1),.ints .arg .u64 ((Ef r c ([]++l)).2.2.1)],.int .i64 0]) else none else none else bif ((decide (0≤p6))&&(decide (p6<(List.length (Hk r c ([]++l)):Int)))) then bif (isC (.s .u64) (List.getD (List.getD (Hk r c ([]++l)) (Int.toNat p6) []) 0 .undef)) then bif ((decide (0≤p6))&&(decide (p6<(List.length (Hk r c ([]++l)):Int)))) then bif (isC (.i .u64) (List.getD (List.getD (Hk r c ([]++l)) (Int.toNat p6) []) 1 .undef)) then bif (((Aw ((Ja r).1) ((Ja r).2.1) p2&&J5 ((Ja r).1) ((Ja r).2.1) p6 0 (Nz (List.getD (List.getD (Hk r c ([]++l)) (Int.toNat p6) []) 0 .undef)))&&(Af p2&&Af (Nz (List.getD (List.getD (Hk r c ([]++l)) (Int.toNat p6) []) 0 .undef))))&&Ag (Z5 (List.getD (List.getD (Hk r c ([]++l)) (Int.toNat p6) []) 1 .undef))) then qr.Ch.L0 N M r c l (Ab (p6-1)) (E9 (Int.toNat ((Ja r).1)) (Int.toNat ((Ja r).2.1)) p2 p6 0 (Nz (List.getD (List.getD (Hk r c ([]++l)) (Int.toNat p6) []) 0 .undef)) (Z5 (List.getD (List.getD (Hk r c ([]++l)) (Int.toNat p6) []) 1 .undef))) else none else none else none else none else none :=
  Eq.trans (by kernel_rfl)
  (Ew (Ew (Am (Aak (Ey p2)) (Am (Rd (Ey p2)) (Dp (tt29 (Ey p2) (Cs ((Ef r c ([]++l)).2.2.1))) (Am (Rd (Ey p2)) (Am (Aal (Ey p2)) (Dp (tt28 (Ey p2) (Ey ((Ef r c ([]++l)).2.2.1))) rfl rfl))) rfl))) rfl) (Dp (Nk (decide (0≤p6)) (decide (p6<(List.length (Hk r c ([]++l)):Int)))) (Dp (Eh (isC (.s .u64) (List.getD (List.getD (Hk r c ([]++l)) (Int.toNat p6) []) 0 .undef))) (Dp (Nk (decide (0≤p6)) (decide (p6<(List.length (Hk r c ([]++l)):Int)))) (Dp (Eh (isC (.i .u64) (List.getD (List.getD (Hk r c ([]++l)) (Int.toNat p6) []) 1 .undef))) (Dp (Eh (((Aw ((Ja r).1) ((Ja r).2.1) p2&&J5 ((Ja r).1) ((Ja r).2.1) p6 0 (Nz (List.getD (List.getD (Hk r c ([]++l)) (Int.toNat p6) []) 0 .undef)))&&(Af p2&&Af (Nz (List.getD (List.getD (Hk r c ([]++l)) (Int.toNat p6) []) 0 .undef))))&&Ag (Z5 (List.getD (List.getD (Hk r c ([]++l)) (Int.toNat p6) []) 1 .undef)))) rfl rfl) rfl) rfl) rfl) rfl))
theorem qr.Ch.ev (N:Nat) (r c:Int) (l:List Int):Bo qr.Ch.E N Try.f27 (An Try.f27) [.agg [.int .i64 r,.int .i64 c,.ints .arg .u64 l]]=bif (Af l) then bif ((Bh r c l) !=(0:Int)) then some (.tup [.agg [.int .i64 0,.int .i64 0,.nil],.agg [.int .i64 0,.int .i64 0,.nil],.int .i64 (Bh r c l)]) else bif (decide (0+(List.length l)≤Hv)) then bif ((Aw r c ([]++l)&&Ey ([]++l))&&Af ([]++l)) then bif (((Ef r c ([]++l)).2.2.2) !=(0:Int)) then some (.tup [.agg [.int .i64 0,.int .i64 0,.nil],.agg [.int .i64 0,.int .i64 0,.nil],.int .i64 ((Ef r c ([]++l)).2.2.2)]) else qr.Ch.L0 N N r c l (Ab ((List.length (Hk r c ([]++l)):Int)-1)) ((Ja r).2.2.1) else none else none else none :=
  Eq.trans (by kernel_rfl)
  (Ew (Ew rfl (Dp (Eh (decide (0+(List.length l)≤Hv))) (Dp (Eh ((Aw r c ([]++l)&&Ey ([]++l))&&Af ([]++l))) rfl rfl) rfl)) rfl)
abbrev _root_.Go.Proofs.S1.qr.Ch.Kn:=A4 Try.prog 27 qr.Ch.spec
theorem qr.Ch.Ae (hk:Av Try.prog qr.Ch.A8) (h:∀ (r c:Int) (l:List Int),qr.Ch.pre [.i r,.i c,.l l]=true→Bd qr.Ch.E Try.f27 [.agg [.int .i64 r,.int .i64 c,.ints .arg .u64 l]] (qr.Ch.out [.i r,.i c,.l l])):qr.Ch.Kn :=
  Aj (Ag0 hk _ _ _ _) Try.func27 (by kernel_rfl) (by kernel_rfl) h
def qr.Iw.A8:List (Nat × Entry):=[(19,Aa.Part.spec),(27,qr.Ch.spec)]
def qr.Iw.E:Env:=Ba (A6 qr.Iw.A8) (fun _=>false) (fun _=>none) (fun _=>none)
theorem qr.Iw.ev (N:Nat) (r c:Int) (l:List Int):Bo qr.Iw.E N Try.f40 (An Try.f40) [.agg [.int .i64 r,.int .i64 c,.ints .arg .u64 l]]=bif (Af l) then bif ((Ei r c l) !=(0:Int)) then some (.tup [.agg [.int .i64 0,.int .i64 0,.nil],.agg [.int .i64 0,.int .i64 0,.nil],.int .i64 (Ei r c l)]) else some (.tup [.agg [.int .i64 ((Es ((qX r c l).1) ((qX r c l).2.1) ((qX r c l).2.2.1) 0 0 r (min r c)).1),.int .i64 ((Es ((qX r c l).1) ((qX r c l).2.1) ((qX r c l).2.2.1) 0 0 r (min r c)).2.1),.ints .fresh .u64 ((Es ((qX r c l).1) ((qX r c l).2.1) ((qX r c l).2.2.1) 0 0 r (min r c)).2.2.1)],.agg [.int .i64 ((Es ((rX r c l).1) ((rX r c l).2.1) ((rX r c l).2.2.1) 0 0 (min r c) c).1),.int .i64 ((Es ((rX r c l).1) ((rX r c l).2.1) ((rX r c l).2.2.1) 0 0 (min r c) c).2.1),.ints .fresh .u64 ((Es ((rX r c l).1) ((rX r c l).2.1) ((rX r c l).2.2.1) 0 0 (min r c) c).2.2.1)],.int .i64 0]) else none:=by kernel_rfl
abbrev _root_.Go.Proofs.S1.qr.Iw.Kn:=A4 Try.prog 40 qr.Iw.spec
theorem qr.Iw.Ae (hk:Av Try.prog qr.Iw.A8) (h:∀ (r c:Int) (l:List Int),qr.Iw.pre [.i r,.i c,.l l]=true→Bd qr.Iw.E Try.f40 [.agg [.int .i64 r,.int .i64 c,.ints .arg .u64 l]] (qr.Iw.out [.i r,.i c,.l l])):qr.Iw.Kn :=
  Aj (Ax hk _ _ _) Try.func40 (by kernel_rfl) (by kernel_rfl) h
def solve.Fj.hint:Nat→Option A0
  | 0=>some { keep:=[2,3,4,17,18],objs:=[],boxes:=[2,3,4] }
  | _=>none
def solve.Fj.A8:List (Nat × Entry):=[(8,Bn.Check.spec),(40,qr.Iw.spec),(41,qr.D4.spec),(28,solve.Flat.spec),(42,solve.Fs.spec)]
def solve.Fj.E:Env:=Ba (A6 solve.Fj.A8) (fun _=>false) solve.Fj.hint (fun _=>none)
theorem solve.Fj.ev (N:Nat) (r c:Int) (l:List Int) (p q:Int) (m:List Int):Bo solve.Fj.E (N+4) Try.f21 (An Try.f21) [.agg [.int .i64 r,.int .i64 c,.ints .arg .u64 l],.agg [.int .i64 p,.int .i64 q,.ints .arg .u64 m]]=bif (Af l) then bif ((Bh r c l) !=(0:Int)) then some (.tup [.agg [.int .i64 0,.int .i64 0,.nil],.int .i64 (Bh r c l)]) else bif (Af m) then bif ((Bh p q m) !=(0:Int)) then some (.tup [.agg [.int .i64 0,.int .i64 0,.nil],.int .i64 (Bh p q m)]) else bif ((Au r c)||(r !=p)) then some (.tup [.agg [.int .i64 0,.int .i64 0,.nil],.int .i64 3]) else bif (Af l) then bif ((Ei r c l) !=(0:Int)) then some (.tup [.agg [.int .i64 0,.int .i64 0,.nil],.int .i64 (Ei r c l)]) else bif (Af ((J8 r c l).2.2.1)) then bif ((Jn ((J8 r c l).1) ((J8 r c l).2.1) ((J8 r c l).2.2.1)).1) then some (.tup [.agg [.int .i64 0,.int .i64 0,.nil],.int .i64 5]) else bif (Af ((Gj r c l).2.2.1)&&Af m) then bif (((Cm ((Gj r c l).1) ((Gj r c l).2.1) ((Gj r c l).2.2.1) p q m).2.2.2) !=(0:Int)) then some (.tup [.agg [.int .i64 0,.int .i64 0,.nil],.int .i64 ((Cm ((Gj r c l).1) ((Gj r c l).2.1) ((Gj r c l).2.2.1) p q m).2.2.2)]) else bif (Af ((J8 r c l).2.2.1)&&Af ((Cm ((Gj r c l).1) ((Gj r c l).2.1) ((Gj r c l).2.2.1) p q m).2.2.1)) then some (.tup [.agg [.int .i64 ((upX ((J8 r c l).1) ((J8 r c l).2.1) ((J8 r c l).2.2.1) ((Cm ((Gj r c l).1) ((Gj r c l).2.1) ((Gj r c l).2.2.1) p q m).1) ((Cm ((Gj r c l).1) ((Gj r c l).2.1) ((Gj r c l).2.2.1) p q m).2.1) ((Cm ((Gj r c l).1) ((Gj r c l).2.1) ((Gj r c l).2.2.1) p q m).2.2.1)).1),.int .i64 ((upX ((J8 r c l).1) ((J8 r c l).2.1) ((J8 r c l).2.2.1) ((Cm ((Gj r c l).1) ((Gj r c l).2.1) ((Gj r c l).2.2.1) p q m).1) ((Cm ((Gj r c l).1) ((Gj r c l).2.1) ((Gj r c l).2.2.1) p q m).2.1) ((Cm ((Gj r c l).1) ((Gj r c l).2.1) ((Gj r c l).2.2.1) p q m).2.2.1)).2.1),.ints .fresh .u64 ((upX ((J8 r c l).1) ((J8 r c l).2.1) ((J8 r c l).2.2.1) ((Cm ((Gj r c l).1) ((Gj r c l).2.1) ((Gj r c l).2.2.1) p q m).1) ((Cm ((Gj r c l).1) ((Gj r c l).2.1) ((Gj r c l).2.2.1) p q m).2.1) ((Cm ((Gj r c l).1) ((Gj r c l).2.1) ((Gj r c l).2.2.1) p q m).2.2.1)).2.2.1)],.int .i64 ((upX ((J8 r c l).1) ((J8 r c l).2.1) ((J8 r c l).2.2.1) ((Cm ((Gj r c l).1) ((Gj r c l).2.1) ((Gj r c l).2.2.1) p q m).1) ((Cm ((Gj r c l).1) ((Gj r c l).2.1) ((Gj r c l).2.2.1) p q m).2.1) ((Cm ((Gj r c l).1) ((Gj r c l).2.1) ((Gj r c l).2.2.1) p q m).2.2.1)).2.2.2)]) else none else none else none else none else none else none :=
  Eq.trans (by kernel_rfl)
  (Ew (Ew rfl (Ew (Ew rfl (Am (Qb (Au r c)) (Am (Mu (Au r c)) (Am (Qb (Au r c)) (Am (Mu (Au r c)) (Am (tt8 (Au r c)) (Am (Vv (Au r c)) (Dp (tt5 (Au r c) (r !=p)) rfl rfl)))))))) rfl)) rfl)
abbrev _root_.Go.Proofs.S1.solve.Fj.Kn:=A4 Try.prog 21 solve.Fj.spec
theorem solve.Fj.Ae (hk:Av Try.prog solve.Fj.A8) (h:∀ (r c:Int) (l:List Int) (p q:Int) (m:List Int),solve.Fj.pre [.i r,.i c,.l l,.i p,.i q,.l m]=true→Bd solve.Fj.E Try.f21 [.agg [.int .i64 r,.int .i64 c,.ints .arg .u64 l],.agg [.int .i64 p,.int .i64 q,.ints .arg .u64 m]] (solve.Fj.out [.i r,.i c,.l l,.i p,.i q,.l m])):solve.Fj.Kn :=
  Aj (Ax hk _ _ _) Try.func21 (by kernel_rfl) (by kernel_rfl) h
end EqQr
open EqQr
def clS (R C:Nat) (l:List Int) (j:Nat) (x:Int) (i:Nat):List Int:=By R C fun a b=>if b=j∧j≤a∧a<i then (if a=j then x else 0) else Dr (C:Int) l (a:Int) (b:Int)
section
variable {R C j:Nat} {l:List Int} {x:Int}
theorem Ag7 (i:Nat):(clS R C l j x i).length=R*C:=Bq _ _ _
theorem T1 (hl:l.length=R*C) (hj:j<C):List.set l (j*C+j) x=clS R C l j x (j+1):=by
  unfold clS
  conv=>lhs; rw [← Tu hl]
  rw [O4 hj]
  refine C1 fun a b ha hb=>?_
  by_cases h:a=j∧b=j
  · rw [if_pos h,if_pos (by omega),if_pos h.1]
  · rw [if_neg h,if_neg (by omega)]
theorem Ag6 {i:Nat} (hj:j<C) (hi:j<i):List.set (clS R C l j x i) (i*C+j) 0=clS R C l j x (i+1):=by
  unfold clS
  rw [O4 hj]
  refine C1 fun a b ha hb=>?_
  by_cases h:a=i∧b=j
  · rw [if_pos h,if_pos (by omega),if_neg (by omega)]
  · rw [if_neg h]
    by_cases h2:b=j∧j≤a∧a<i
    · rw [if_pos h2,if_pos (show b=j∧j≤a∧a<i+1 by omega)]
    · rw [if_neg h2,if_neg (by omega)]
theorem Ag8:clS R C l j x R=P5 R C l j x:=by
  unfold clS P5
  refine C1 fun a b ha hb=>?_
  by_cases h:b=j∧j≤a
  · rw [if_pos h,if_pos (by omega)]
  · rw [if_neg h,if_neg (by omega)]
end
theorem Rv {C i j:Nat} (hi:i≤6) (hC:C≤6) (hj:j≤6):Ab (Ab ((i:Int)*(C:Int))+(j:Int))=((i*C+j:Nat):Int):=by
  have h36:=Nat.mul_le_mul hi hC
  rw [Ak (x:=(i:Int)*(C:Int)) (by rw [← Ah8]; omega) (by rw [← Ah8]; omega),← Ah8,Ak (by omega) (by omega)]
  omega
section
variable {R C:Nat}
theorem Sk (N M0:Nat) (l0:List Int) (r6:R≤6) (c6:C≤6) {j:Nat} (hj:j<C) (l:List Int) (x:Int) (v:List Int) (t:Int) (ms:List (List DV)) (hms:ms.length≤100):∀ (cnt i F:Nat),i+cnt=R→j<i→cnt<F →
    qr.down.L0 N M0 F (R:Int) (C:Int) l0 (i:Int) (clS R C l j x i) (j:Int) v t ms=qr.down.L1 N M0 (R:Int) (C:Int) l0 ((j+1:Nat):Int) (ms++[[.ints .arg .u64 v,.int .u64 t]]) (P5 R C l j x):=by
  intro cnt
  induction cnt with
  | zero =>
    intro i F hi hji hF
    obtain ⟨F,rfl⟩:∃ G,F=G+1:=⟨F-1,by omega⟩
    obtain rfl:i=R:=by omega
    rw [qr.down.As,Aq,Ahs (by omega),Ahr,Aho (by unfold Ad1; omega),Ahn,Ak (by omega) (by omega),Ag8]
    rfl
  | succ cnt ih =>
    intro i F hi hji hF
    obtain ⟨F,rfl⟩:∃ G,F=G+1:=⟨F-1,by omega⟩
    have hlen:=Ag7 (R:=R) (C:=C) (l:=l) (j:=j) (x:=x) i
    have hp:=I1 (show i<R by omega) hj
    rw [qr.down.As,Aq,Aho (by omega),Ahn,Rv (by omega) c6 (by omega),Aho (by omega),Aho (by omega),Aht,Ahn,Ahp,Aho (by omega),Ahn,Ag6 hj hji,Ak (by omega) (by omega)]
    exact ih (i+1) F (by omega) (by omega) (by omega)
def Ni (r c:Nat) (ms:List (List DV)):Option (List Int × List (List Int × Int))→DV
  | none=>.tup [.agg [.int .i64 0,.int .i64 0,.nil],.nil,.int .i64 2]
  | some x=>.tup [.agg [.int .i64 (r:Int),.int .i64 (c:Int),.ints (.own 106002 tB) .u64 x.1],.recs (.own 100006 tMR) 2 (ms++Rw x.2),.int .i64 0]
theorem Abx (N:Nat) (hN:7<N) (l0:List Int) (r6:R≤6) (c6:C≤6):∀ (cnt j F:Nat) (l:List Int) (ms:List (List DV)),j+cnt=He R C→cnt<F→l.length=R*C→Af l=true→ms.length=j →
    qr.down.L1 N F (R:Int) (C:Int) l0 (j:Int) ms l=some (Ni R C ms (Le R C cnt j l)):=by
  intro cnt
  induction cnt with
  | zero =>
    intro j F l ms hj hF hl al hms
    obtain ⟨F,rfl⟩:∃ G,F=G+1:=⟨F-1,by omega⟩
    unfold He at hj
    have hlt:(Au (j:Int) (C:Int)&&Au (j:Int) (Ab ((R:Int)-1)))=false:=by
      rw [Aq,Aq,Ak (by omega) (by omega),Bool.and_eq_false_iff,Ah6,Ah6]; omega
    rw [qr.down.Ca,hlt,Ahr]
    simp [Le,Ni,Rw]
  | succ cnt ih =>
    intro j F l ms hj hF hl al hms
    obtain ⟨F,rfl⟩:∃ G,F=G+1:=⟨F-1,by omega⟩
    have hj0:=hj
    unfold He at hj
    have hr:=Ol r6 c6 hl
    have hlt:(Au (j:Int) (C:Int)&&Au (j:Int) (Ab ((R:Int)-1)))=true:=by
      rw [Aq,Aq,Ak (by omega) (by omega),Aho (by omega),Aho (by omega)]; rfl
    have cp:Jc (R:Int) (C:Int) l (j:Int)=true:=Ad.2 ⟨hr,Ar.2 (by omega)⟩
    have ec:Cu (C:Int) l (j:Int) (j:Int) (Int.toNat ((R:Int)-(j:Int)))=Fb R C l j:=by unfold Fb; rw [show Int.toNat ((R:Int)-(j:Int))=R-j by omega]
    have ca:Af (Fb R C l j)=true:=Pn al
    have cl:(Fb R C l j).length=R-j:=Hf _ _ _ _ _
    rw [qr.down.Ca,hlt,Ahn,cp,Ar.2 (show 0≤(j:Int)∧(j:Int)≤(R:Int) by omega),Aht,Ahn,ec,I7 ca (by omega),Ahn]
    unfold Le
    by_cases he:(Bs (Fb R C l j)).2.2.2=0
    · have hml:=Ry he
      have hma:=Q6 ca
      have hap:J5 (R:Int) (C:Int) (j:Int) (j:Int) (Bs (Fb R C l j)).1=true:=Aho (by omega)
      have hp:=I1 (show j<R by omega) (show j<C by omega)
      have hlen:=J4 R C l (j:Int) (j:Int) (Bs (Fb R C l j)).1 (Bs (Fb R C l j)).2.1
      have hg:=Sk N F l0 r6 c6 (show j<C by omega) (E9 R C l (j:Int) (j:Int) (Bs (Fb R C l j)).1 (Bs (Fb R C l j)).2.1) (Bs (Fb R C l j)).2.2.1 (Bs (Fb R C l j)).1 (Bs (Fb R C l j)).2.1 ms (by omega) (R-(j+1)) (j+1) N (by omega) (by omega) (by omega)
      have hn:=ih (j+1) F (Sy R C l j) (ms++[[.ints .arg .u64 (Bs (Fb R C l j)).1,.int .u64 (Bs (Fb R C l j)).2.1]]) (by omega) (by omega) (Lr _ _ _ _) (Uy al j) (by rw [List.length_append,hms]; rfl)
      rw [Ea he,Ahr,hr,hap,al,hma.1,hma.2.1,Aht,Aht,Aht,Ahn,Rv (by omega) c6 (by omega),Ahp,Ahp,Ahp,Aho (by omega),Aho (by omega),Aht,Ahn,Aho (by omega),Ahn,
        T1 hlen (by omega),Ak (by omega) (by omega),if_pos he]
      refine (hg.trans hn).trans ?_
      show some (Ni R C _ (Le R C cnt (j+1) (Sy R C l j)))=some (Ni R C ms _)
      cases Le R C cnt (j+1) (Sy R C l j) with
      | none=>rfl
      | some x=>simp [Ni,Rw]
    · rw [Nr he,Ahn,if_neg he]; rfl
theorem Yz (N:Nat) (hN:7<N) {l:List Int} (r6:R≤6) (c6:C≤6) (hl:l.length=R*C) (al:Af l=true) (h0:He R C≠0) :
    qr.down.L2 N N (R:Int) (C:Int) l=some (Ni R C [] (Hd R C l)):=by
  obtain ⟨cnt,hc⟩:∃ cnt,He R C=cnt+1:=⟨He R C-1,by omega⟩
  obtain ⟨F,rfl⟩:∃ G,N=G+1:=⟨N-1,by omega⟩
  have hj:=hc
  unfold He at hj
  have hr:=Ol r6 c6 hl
  have hlt:(Au (0:Int) (C:Int)&&Au (0:Int) (Ab ((R:Int)-1)))=true:=by
    rw [Aq,Aq,Ak (by omega) (by omega),Aho (by omega),Aho (by omega)]; rfl
  have cp:Jc (R:Int) (C:Int) l (0:Int)=true:=Ad.2 ⟨hr,Ar.2 (by omega)⟩
  have ec:Cu (C:Int) l (0:Int) (0:Int) (Int.toNat ((R:Int)-(0:Int)))=Fb R C l 0:=by unfold Fb; rw [show Int.toNat ((R:Int)-(0:Int))=R-0 by omega]; rfl
  have ca:Af (Fb R C l 0)=true:=Pn al
  have cl:(Fb R C l 0).length=R-0:=Hf _ _ _ _ _
  unfold Hd
  rw [hc,qr.down.Hw,hlt,Ahn,cp,Ar.2 (show 0≤(0:Int)∧(0:Int)≤(R:Int) by omega),Aht,Ahn,ec,I7 ca (by omega),Ahn]
  unfold Le
  by_cases he:(Bs (Fb R C l 0)).2.2.2=0
  · have hml:=Ry he
    have hma:=Q6 ca
    have hap:J5 (R:Int) (C:Int) (0:Int) (0:Int) (Bs (Fb R C l 0)).1=true:=Aho (by omega)
    have hp:=I1 (show 0<R by omega) (show 0<C by omega)
    have hlen:=J4 R C l (0:Int) (0:Int) (Bs (Fb R C l 0)).1 (Bs (Fb R C l 0)).2.1
    have hg:=Sk (F+1) F l r6 c6 (show 0<C by omega) (E9 R C l (0:Int) (0:Int) (Bs (Fb R C l 0)).1 (Bs (Fb R C l 0)).2.1) (Bs (Fb R C l 0)).2.2.1 (Bs (Fb R C l 0)).1 (Bs (Fb R C l 0)).2.1 [] (Nat.zero_le _) (R-1) 1 (F+1) (by omega) (by omega) (by omega)
    have hn:=Abx (R:=R) (C:=C) (F+1) hN l r6 c6 cnt 1 F (Sy R C l 0) [[.ints .arg .u64 (Bs (Fb R C l 0)).1,.int .u64 (Bs (Fb R C l 0)).2.1]] (by omega) (by unfold He at hc; omega) (Lr _ _ _ _) (Uy al 0) rfl
    have mc:=Rv (i:=0) (C:=C) (j:=0) (by omega) c6 (by omega)
    have mc:Ab (Ab ((0:Int)*(C:Int))+(0:Int))=((0*C+0:Nat):Int):=mc
    rw [Ea he,Ahr,hr,hap,al,hma.1,hma.2.1,Aht,Aht,Aht,Ahn,mc,Ahp,Ahp,Ahp,Aho (by omega),Aho (by omega),Aht,Ahn,Aho (by omega),Ahn,
      T1 hlen (by omega),if_pos he]
    refine (hg.trans hn).trans ?_
    show some (Ni R C _ (Le R C cnt 1 (Sy R C l 0)))=some (Ni R C [] _)
    cases Le R C cnt (0+1) (Sy R C l 0) with
    | none=>rfl
    | some x=>simp [Ni,Rw]
  · rw [Nr he,Ahn,if_neg he]; rfl
end
theorem qr.down.known:qr.down.Kn:=qr.down.Ae (.cons Ai.Apply.known (.cons Ai.Hs.known (.cons Aa.Ck.known .nil))) fun r c l hp=>by
  obtain ⟨h1,al⟩:=Ad.1 (show ((Aw r c l&&Ey l)&&Af l)=true from hp)
  obtain ⟨hr,hf⟩:=Ad.1 h1
  obtain ⟨R,C,rfl,rfl,r6,c6,hl⟩:=Dj hr
  by_cases h0:He R C=0
  · have hx:Hd R C l=some (l,[]):=by unfold Hd; rw [h0]; rfl
    refine ⟨8,.tup [.agg [.int .i64 (R:Int),.int .i64 (C:Int),.ints .arg .u64 l],.recs (.own 100006 tMR) 2 [],.int .i64 0],[100006],?_,?_⟩
    · unfold He at h0
      have hlt:(Au (0:Int) (C:Int)&&Au (0:Int) (Ab ((R:Int)-1)))=false:=by
        rw [Aq,Aq,Ak (by omega) (by omega),Bool.and_eq_false_iff,Ah6,Ah6]; omega
      rw [qr.down.ev,show (8:Nat)=7+1 from rfl,qr.down.Hw,hlt,Ahr]
    · show Wk _ _ (DV.tup [.agg [.int .i64 (Ef (R:Int) (C:Int) l).1,.int .i64 (Ef (R:Int) (C:Int) l).2.1,.ints .arg .u64 (Ef (R:Int) (C:Int) l).2.2.1],.recs .fresh 2 (Hk (R:Int) (C:Int) l),.int .i64 (Ef (R:Int) (C:Int) l).2.2.2])
      unfold Ef Hk K0
      rw [Ahp,Ahp,hx]
      exact Wk.Fl (.cons (Wk.Hr (.cons .int (.cons .int (.cons .Xn .nil)))) (.cons (.dropR _ _ _ _ (List.mem_singleton.2 rfl)) (.cons .int .nil)))
  · refine ⟨8,Ni R C [] (Hd R C l),[106002,100006],?_,?_⟩
    · rw [qr.down.ev]
      exact Yz 8 (by omega) r6 c6 hl al h0
    · show Wk _ _ (DV.tup [.agg [.int .i64 (Ef (R:Int) (C:Int) l).1,.int .i64 (Ef (R:Int) (C:Int) l).2.1,.ints .arg .u64 (Ef (R:Int) (C:Int) l).2.2.1],.recs .fresh 2 (Hk (R:Int) (C:Int) l),.int .i64 (Ef (R:Int) (C:Int) l).2.2.2])
      unfold Ef Hk K0
      rw [Ahp,Ahp]
      cases Hd R C l with
      | none=>exact Wk.Fl (.cons (Wk.Hr (.cons .int (.cons .int (.cons Mf .nil)))) (.cons (.nilR _ _) (.cons .int .nil)))
      | some x=>exact Wk.Fl (.cons (Wk.Hr (.cons .int (.cons .int (.cons (.dropA _ _ _ _ List.mem_cons_self) .nil)))) (.cons (.dropR _ _ _ _ (List.mem_cons_of_mem _ List.mem_cons_self)) (.cons .int .nil)))
open EqQr
def Ru (e:Int):DV:=.tup [.agg [.int .i64 0,.int .i64 0,.nil],.agg [.int .i64 0,.int .i64 0,.nil],.int .i64 e]
theorem Tp {r:Nat}:∀ {j:Nat} {ms:List (List Int × Int)},Wv r j ms→∀ i:Nat,i<ms.length→Af (ms.getD i ([],0)).1=true∧Ag (ms.getD i ([],0)).2=true∧(ms.getD i ([],0)).1.length+(j+i)=r
  | _,[],_,i,h=>absurd h (Nat.not_lt_zero _)
  | j,m::ms,hm,0,_=>hm.1
  | j,m::ms,hm,i+1,h=>by
    have:=Tp hm.2 i (by simpa using h)
    rw [show j+(i+1)=j+1+i by omega]
    exact this
theorem Ado {ms:List (List Int × Int)} {i:Nat} (h:i<ms.length):List.getD (Rw ms) i []=[.ints .arg .u64 (ms.getD i ([],0)).1,.int .u64 (ms.getD i ([],0)).2]:=by
  unfold Rw
  rw [Ahx,List.getElem?_map,Ah4 h,Ahx,Ah4 h]; rfl
theorem Wu (ms:List (List Int × Int)):(Rw ms).length=ms.length:=by unfold Rw; rw [List.length_map]
theorem Ab3 {n i:Nat} {ms:List (List Int × Int)} (h:i<ms.length) (q:List Int):Ik n i (ms.drop i) q=E9 n n (Ik n (i+1) (ms.drop (i+1)) q) (i:Int) 0 (ms.getD i ([],0)).1 (ms.getD i ([],0)).2:=by
  rw [List.drop_eq_getElem_cons h,Ik,Ahx,Ah4 h]; rfl
theorem Yx {R:Nat} (h:R≤6):Ja (R:Int)=((R:Int),(R:Int),L3 R,0):=by
  unfold Ja L3
  rw [if_pos (Afw h),Ahp]
theorem sq_len {n:Nat} (h:n≤6):n*n≤36:=Nat.mul_le_mul h h
theorem Xc (N:Nat) {R C:Nat} {l:List Int} (r6:R≤6) {x:List Int × List (List Int × Int)} (hx:Hd R C l=some x) (hm:Wv R 0 x.2) (hxr:Af x.1=true) (hxl:x.1.length≤36):∀ (j F:Nat),j≤x.2.length→j<F →
    qr.Ch.L0 N F (R:Int) (C:Int) l ((j:Int)-1) (Ik R j (x.2.drop j) (L3 R)) =
    bif Nh R C l then some (.tup [.agg [.int .i64 (R:Int),.int .i64 (R:Int),.ints .fresh .u64 (Ny R C l)],.agg [.int .i64 (R:Int),.int .i64 (C:Int),.ints .arg .u64 (K0 R C l)],.int .i64 0])
    else some (Ru 2):=by
  have hq:Ny R C l=Ik R 0 x.2 (L3 R):=by unfold Ny; rw [hx]
  have hr:K0 R C l=x.1:=by unfold K0; rw [hx]
  have hd:Ef (R:Int) (C:Int) ([]++l)=((R:Int),(C:Int),x.1,0):=by
    unfold Ef
    rw [List.nil_append,Ahp,Ahp,hx,hr]; rfl
  have hmd:Hk (R:Int) (C:Int) ([]++l)=Rw x.2:=by
    unfold Hk
    rw [List.nil_append,Ahp,Ahp,hx]
  have h36:=sq_len r6
  intro j
  induction j with
  | zero =>
    intro F _ hF
    obtain ⟨F,rfl⟩:∃ G,F=G+1:=⟨F-1,by omega⟩
    have hb:=Ra R x.2 0 (L3 R) (Vb R) (by unfold L3; exact Bq _ _ _)
    have ok1:Cs (Ik R 0 x.2 (L3 R))=true:=I7 hb.1 (by omega)
    have ok2:Cs x.1=true:=I7 hxr (by omega)
    have hfo:Nh R C l=(Ey (Ik R 0 x.2 (L3 R))&&Ey x.1):=by unfold Nh; rw [hx,hq,hr]; rfl
    rw [qr.Ch.As,Aq,Aho (by omega),Ahn,List.drop_zero,ok1,Ahn,hd,Yx r6,ok2,Bool.or_true,Ahn,hfo,hq,hr]
    cases Ey (Ik R 0 x.2 (L3 R)) with
    | false=>rfl
    | true=>cases Ey x.1<;>rfl
  | succ j ih =>
    intro F hj hF
    obtain ⟨F,rfl⟩:∃ G,F=G+1:=⟨F-1,by omega⟩
    have ej:(((j+1:Nat):Int))-1=(j:Int):=by omega
    have hg:=Tp hm j (by omega)
    have hb:=Ra R (x.2.drop (j+1)) (j+1) (L3 R) (Vb R) (by unfold L3; exact Bq _ _ _)
    have hr1:=Ol r6 r6 hb.2
    have hap:J5 (R:Int) (R:Int) (j:Int) 0 (x.2.getD j ([],0)).1=true:=Aho (by omega)
    have hmg:=Ado (ms:=x.2) (i:=j) (by omega)
    rw [qr.Ch.As,ej,Aq,Ahs (show ¬ (j:Int)<0 by omega),Ahr,hmd,Wu,Aho (show (0:Int)≤(j:Int) by omega),Aho (show (j:Int)<(x.2.length:Int) by omega),Aht,Ahn,Ahp,hmg,Yx r6]
    show (bif true then bif true then bif true then (bif (((Aw (R:Int) (R:Int) (Ik R (j+1) (x.2.drop (j+1)) (L3 R))&&J5 (R:Int) (R:Int) (j:Int) (0:Int) (x.2.getD j ([],0)).1)&&(Af (Ik R (j+1) (x.2.drop (j+1)) (L3 R))&&Af (x.2.getD j ([],0)).1))&&Ag (x.2.getD j ([],0)).2) then
      qr.Ch.L0 N F (R:Int) (C:Int) l (Ab ((j:Int)-(1:Int))) (E9 (Int.toNat (R:Int)) (Int.toNat (R:Int)) (Ik R (j+1) (x.2.drop (j+1)) (L3 R)) (j:Int) (0:Int) (x.2.getD j ([],0)).1 (x.2.getD j ([],0)).2) else none) else none else none else none)=_
    rw [Ahn,Ahn,Ahn,hr1,hap,hb.1,hg.1,hg.2.1,Aht,Aht,Aht,Ahn,Ahp,Ak (by omega) (by omega),← Ab3 (by omega)]
    exact ih F (by omega) (by omega)
theorem Aek {R C:Nat} {l:List Int} (hl:l.length=R*C) (al:Af l=true) {x:List Int × List (List Int × Int)} (hx:Hd R C l=some x):Af x.1=true∧x.1.length=R*C∧x.2.length=He R C∧Wv R 0 x.2 :=
  Sl R C (He R C) 0 l x al hl (by unfold He; omega) hx
theorem Q8 {r c:Int} {l:List Int} (h:Bh r c l=0):Ei r c l=if Nh r.toNat c.toNat l=true then 0 else 2:=by
  unfold Ei; rw [if_neg (by rw [h]; decide)]
theorem Xe {r c:Int} {l:List Int} (h:Bh r c l≠0):Ei r c l=Bh r c l:=by unfold Ei; rw [if_pos h]
theorem Ro {r c:Int} {l:List Int} {e:Int} (h:Ei r c l=e) (he:e≠0):qX r c l=Hc e∧rX r c l=Hc e:=by unfold qX rX; rw [h,if_pos he,if_pos he]; exact ⟨rfl,rfl⟩
theorem Q3 {r c:Int} {l:List Int} (h:Ei r c l=0):qX r c l=(r,r,Ny r.toNat c.toNat l,0)∧rX r c l=(r,c,K0 r.toNat c.toNat l,0):=by unfold qX rX; rw [h]; exact ⟨rfl,rfl⟩
theorem Pf {drops:List Nat} {e:Int} {g h:Xt}:Wk drops (Ru e) (DV.tup [.agg [.int .i64 (Hc e).1,.int .i64 (Hc e).2.1,.ints g .u64 (Hc e).2.2.1],.agg [.int .i64 (Hc e).1,.int .i64 (Hc e).2.1,.ints h .u64 (Hc e).2.2.1],.int .i64 e]) :=
  Wk.Fl (.cons (Wk.Hr (.cons .int (.cons .int (.cons Mf .nil)))) (.cons (Wk.Hr (.cons .int (.cons .int (.cons Mf .nil)))) (.cons .int .nil)))
theorem qr.Ch.known:qr.Ch.Kn:=qr.Ch.Ae (.cons Bn.Check.known (.cons Ai.Apply.known (.cons Aa.Fz.known (.cons qr.down.known (.cons Ac.Finite.known .nil))))) fun r c l hp=>by
  have al:Af l=true:=hp
  show ∃ N dv drops,_=some dv∧Wk drops dv (DV.tup [.agg [.int .i64 (qX r c l).1,.int .i64 (qX r c l).2.1,.ints .arg .u64 (qX r c l).2.2.1],.agg [.int .i64 (rX r c l).1,.int .i64 (rX r c l).2.1,.ints .arg .u64 (rX r c l).2.2.1],.int .i64 (Ei r c l)])
  by_cases h1:Bh r c l=0
  · obtain ⟨hr,hf⟩:=E8 h1
    have h36:=Mj hr
    obtain ⟨R,C,rfl,rfl,r6,c6,hl⟩:=Dj hr
    have d0:decide (0+l.length≤Hv)=true:=Aho (by unfold Hv; omega)
    cases hx:Hd R C l with
    | none =>
      have hfo:Nh R C l=false:=by unfold Nh; rw [hx]; rfl
      have he:Ei (R:Int) (C:Int) l=2:=by rw [Q8 h1,Ahp,Ahp,hfo]; rfl
      obtain ⟨e1,e2⟩:=Ro he (by decide)
      have hd:Ef (R:Int) (C:Int) ([]++l)=Hc 2:=by
        unfold Ef
        rw [List.nil_append,Ahp,Ahp,hx]; rfl
      rw [e1,e2,he]
      exact ⟨0,Ru 2,[],by rw [qr.Ch.ev,al,Ahn,Ea h1,Ahr,d0,Ahn,hd,List.nil_append,hr,hf,al,Aht,Aht,Ahn,show ((Hc 2).2.2.2 !=(0:Int))=true from rfl,Ahn]; rfl,Pf⟩
    | some x =>
      obtain ⟨x1,x2,x3,x4⟩:=Aek hl al hx
      have hd:Ef (R:Int) (C:Int) ([]++l)=((R:Int),(C:Int),x.1,0):=by
        unfold Ef K0
        rw [List.nil_append,Ahp,Ahp,hx]; rfl
      have hmd:Hk (R:Int) (C:Int) ([]++l)=Rw x.2:=by
        unfold Hk
        rw [List.nil_append,Ahp,Ahp,hx]
      have hn:x.2.length≤6:=by rw [x3]; unfold He; omega
      have hloop:=Xc 8 r6 hx x4 x1 (by rw [x2]; exact Nat.mul_le_mul r6 c6) x.2.length 8 (Nat.le_refl _) (by omega)
      rw [Ah1 (Nat.le_refl _)] at hloop
      have hrun:=qr.Ch.ev 8 (R:Int) (C:Int) l
      rw [al,Ahn,Ea h1,Ahr,d0,Ahn,hd,hmd,Wu,List.nil_append,hr,hf,al,Aht,Aht,Ahn,show (((R:Int),(C:Int),x.1,(0:Int)).2.2.2 !=(0:Int))=false from rfl,Ahr,Yx r6,Ak (by omega) (by omega)] at hrun
      have hrun:=hrun.trans hloop
      cases hfo:Nh R C l with
      | false =>
        have he:Ei (R:Int) (C:Int) l=2:=by rw [Q8 h1,Ahp,Ahp,hfo]; rfl
        obtain ⟨e1,e2⟩:=Ro he (by decide)
        rw [hfo,Ahr] at hrun
        rw [e1,e2,he]
        exact ⟨8,Ru 2,[],hrun,Pf⟩
      | true =>
        have he:Ei (R:Int) (C:Int) l=0:=by rw [Q8 h1,Ahp,Ahp,hfo]; rfl
        obtain ⟨e1,e2⟩:=Q3 he
        rw [hfo,Ahn] at hrun
        rw [e1,e2,he,Ahp,Ahp]
        exact ⟨8,_,[],hrun,Wk.Fl (.cons (Wk.Hr (.cons .int (.cons .int (.cons (.fresh _ _) .nil)))) (.cons (Wk.Hr (.cons .int (.cons .int (.cons .Xn .nil)))) (.cons .int .nil)))⟩
  · have he:=Xe h1
    obtain ⟨e1,e2⟩:=Ro he h1
    rw [e1,e2,he]
    exact ⟨0,Ru (Bh r c l),[],by rw [qr.Ch.ev,al,Ahn,Nr h1,Ahn]; rfl,Pf⟩
theorem Y4 {r c:Int} {l:List Int} (h:Ei r c l=0):Bh r c l=0:=by
  by_cases h1:Bh r c l=0
  · exact h1
  · rw [Xe h1] at h; exact absurd h h1
theorem Xd {r c:Int} {l:List Int} (al:Af l=true) (h:Ei r c l=0):∃ R C:Nat,r=R∧c=C∧R≤6∧C≤6∧l.length=R*C∧Af (Ny R C l)=true∧(Ny R C l).length=R*R∧Af (K0 R C l)=true∧(K0 R C l).length=R*C∧Ey (Ny R C l)=true∧Ey (K0 R C l)=true:=by
  have h1:=Y4 h
  rw [Q8 h1] at h
  obtain ⟨R,C,rfl,rfl,r6,c6,hl⟩:=Dj (E8 h1).1
  rw [Ahp,Ahp] at h
  by_cases ho:Nh R C l=true
  · unfold Nh at ho
    obtain ⟨o1,o2⟩:=Ad.1 ho
    obtain ⟨o3,o4⟩:=Ad.1 o2
    obtain ⟨q1,q2⟩:=Agy o1
    obtain ⟨g1,g2⟩:=Agx al hl o1
    exact ⟨R,C,rfl,rfl,r6,c6,hl,q1,q2,g1,g2,o3,o4⟩
  · rw [if_neg ho] at h; exact absurd h (by decide)
theorem Zq {R C:Nat} {l:List Int} (r6:R≤6) (c6:C≤6) (hl:l.length=R*C) {x y a b:Int} (hp:Lb (R:Int) (C:Int) x y a b=true) :
    Es (R:Int) (C:Int) l x y a b=(a,b,By a.toNat b.toNat fun i k=>Dr (C:Int) l (x+(i:Int)) (y+(k:Int)),0):=by
  unfold Es; rw [if_pos (Ol r6 c6 hl),if_pos hp]
theorem Tb {r c:Int} {l:List Int} (al:Af l=true) (h:Ei r c l=0) :
    Es r r (Ny r.toNat c.toNat l) 0 0 r (min r c)=Gj r c l∧Es r c (K0 r.toNat c.toNat l) 0 0 (min r c) c=J8 r c l:=by
  obtain ⟨R,C,rfl,rfl,r6,c6,hl,q1,q2,g1,g2,_,_⟩:=Xd al h
  unfold Gj J8
  rw [h,if_neg (by decide),if_neg (by decide),Ahp,Ahp]
  have p1:Lb (R:Int) (R:Int) 0 0 (R:Int) (min (R:Int) (C:Int))=true:=Aho (by omega)
  have p2:Lb (R:Int) (C:Int) 0 0 (min (R:Int) (C:Int)) (C:Int)=true:=Aho (by omega)
  rw [Zq r6 r6 q2 p1,Zq r6 c6 g2 p2]
  exact ⟨rfl,rfl⟩
theorem Aee {r c:Int} {l:List Int} (al:Af l=true) (h:Ei r c l=0):Af (Ny r.toNat c.toNat l)=true∧Af (K0 r.toNat c.toNat l)=true:=by
  obtain ⟨R,C,rfl,rfl,_,_,_,q1,_,g1,_,_,_⟩:=Xd al h
  rw [Ahp,Ahp]
  exact ⟨q1,g1⟩
theorem Afu {r c:Int} {l:List Int} (al:Af l=true) (h:Ei r c l=0):Af (Gj r c l).2.2.1=true∧Af (J8 r c l).2.2.1=true:=by
  obtain ⟨a,b⟩:=Tb al h
  obtain ⟨q1,g1⟩:=Aee al h
  rw [← a,← b]
  exact ⟨Oo q1 _ _ _ _,Oo g1 _ _ _ _⟩
theorem qr.Iw.known:qr.Iw.Kn:=qr.Iw.Ae (.cons Aa.Part.known (.cons qr.Ch.known .nil)) fun r c l hp=>by
  have al:Af l=true:=hp
  show ∃ N dv drops,_=some dv∧Wk drops dv (DV.tup [.agg [.int .i64 (Gj r c l).1,.int .i64 (Gj r c l).2.1,.ints .fresh .u64 (Gj r c l).2.2.1],.agg [.int .i64 (J8 r c l).1,.int .i64 (J8 r c l).2.1,.ints .fresh .u64 (J8 r c l).2.2.1],.int .i64 (Ei r c l)])
  by_cases h:Ei r c l=0
  · obtain ⟨e1,e2⟩:=Q3 h
    obtain ⟨t1,t2⟩:=Tb al h
    refine ⟨0,DV.tup [.agg [.int .i64 (Gj r c l).1,.int .i64 (Gj r c l).2.1,.ints .fresh .u64 (Gj r c l).2.2.1],.agg [.int .i64 (J8 r c l).1,.int .i64 (J8 r c l).2.1,.ints .fresh .u64 (J8 r c l).2.2.1],.int .i64 0],[],by rw [qr.Iw.ev,al,Ahn,Ea h,Ahr,e1,e2,t1,t2],by rw [h]; exact Wk.Fl (.cons (Wk.Hr (.cons .int (.cons .int (.cons .Ly .nil)))) (.cons (Wk.Hr (.cons .int (.cons .int (.cons .Ly .nil)))) (.cons .int .nil)))⟩
  · have e1:Gj r c l=Hc (Ei r c l):=by unfold Gj; rw [if_pos h]
    have e2:J8 r c l=Hc (Ei r c l):=by unfold J8; rw [if_pos h]
    rw [e1,e2]
    exact ⟨0,Ru (Ei r c l),[],by rw [qr.Iw.ev,al,Ahn,Nr h,Ahn]; rfl,Pf⟩
theorem lt_or {r c p:Int}:((Au r c)||(r !=p))=decide (r<c∨r≠p):=by
  rw [Aq,Ah3]; simp
theorem solve.Fj.known:solve.Fj.Kn:=solve.Fj.Ae (.cons Bn.Check.known (.cons qr.Iw.known (.cons qr.D4.known (.cons solve.Flat.known (.cons solve.Fs.known .nil))))) fun r c l p q m hp=>by
  obtain ⟨al,am⟩:=Ad.1 (show (Af l&&Af m)=true from hp)
  show ∃ N dv drops,_=some dv∧Wk drops dv (Nq (Hl r c l p q m))
  have hrun:=solve.Fj.ev 0 r c l p q m
  rw [al,Ahn] at hrun
  unfold Hl
  by_cases c1:Bh r c l=0
  · rw [Ea c1,Ahr,am,Ahn] at hrun
    rw [if_neg (by rw [c1]; decide)]
    by_cases c2:Bh p q m=0
    · rw [Ea c2,Ahr,lt_or] at hrun
      rw [if_neg (by rw [c2]; decide)]
      by_cases c3:r<c∨r≠p
      · rw [Aho c3,Ahn] at hrun
        rw [if_pos c3]
        exact ⟨0+4,_,[],hrun,Ge⟩
      · rw [Ahs c3,Ahr,Ahn] at hrun
        rw [if_neg c3]
        by_cases c4:Ei r c l=0
        · obtain ⟨i1,i2⟩:=Afu al c4
          rw [Ea c4,Ahr,i2,Ahn] at hrun
          rw [if_neg (by rw [c4]; decide)]
          by_cases c5:(Jn (J8 r c l).1 (J8 r c l).2.1 (J8 r c l).2.2.1).1=true
          · rw [c5,Ahn] at hrun
            rw [if_pos c5]
            exact ⟨0+4,_,[],hrun,Ge⟩
          · have c5':(Jn (J8 r c l).1 (J8 r c l).2.1 (J8 r c l).2.2.1).1=false:=by simpa using c5
            rw [c5',Ahr,i1,Aht,Ahn] at hrun
            rw [if_neg c5]
            unfold upTX
            by_cases c6:(Cm (Gj r c l).1 (Gj r c l).2.1 (Gj r c l).2.2.1 p q m).2.2.2=0
            · rw [Ea c6,Ahr,Aag,Aht,Ahn] at hrun
              rw [if_neg (by rw [c6]; decide)]
              exact ⟨0+4,_,[],hrun,Jt⟩
            · rw [Nr c6,Ahn] at hrun
              rw [if_pos c6]
              exact ⟨0+4,_,[],hrun,Ge⟩
        · rw [Nr c4,Ahn] at hrun
          rw [if_pos c4]
          exact ⟨0+4,_,[],hrun,Ge⟩
    · rw [Nr c2,Ahn] at hrun
      rw [if_pos c2]
      exact ⟨0+4,_,[],hrun,Ge⟩
  · rw [Nr c1,Ahn] at hrun
    rw [if_pos c1]
    exact ⟨0+4,_,[],hrun,Ge⟩
namespace EqRef17
def Dq.Finite.hint:Nat→Option A0
  | 0=>some { keep:=[0,3],objs:=[],boxes:=[] }
  | _=>none
def Dq.Finite.A8:List (Nat × Entry):=[(25,Cn.Finite.spec)]
def Dq.Finite.E:Env:=Ba (A6 Dq.Finite.A8) (fun _=>false) Dq.Finite.hint (fun _=>none)
def Dq.Finite.L0 (N M:Nat) (x:List Int) (p3:Int):Option DV:=B3 Dq.Finite.E N Try.f15 (An Try.f15) [1,0,1,0] [] M ⟨Gy 16 [(0,.ints .arg .u64 x),(3,.int .i64 p3)],[]⟩
theorem Dq.Finite.As (N M:Nat) (x:List Int) (p3:Int):Dq.Finite.L0 N (M+1) x p3=bif (Au p3 (List.length x:Int)) then bif ((decide (0≤p3))&&(decide (p3<(List.length x:Int)))) then bif (Ag (List.getD x (Int.toNat p3) 0)) then bif (!(Cp (List.getD x (Int.toNat p3) 0))) then some (.bool false) else Dq.Finite.L0 N M x (Ab (p3+1)) else none else none else some (.bool true):=by kernel_rfl
theorem Dq.Finite.ev (N:Nat) (x:List Int):Bo Dq.Finite.E N Try.f15 (An Try.f15) [.ints .arg .u64 x] =
  Dq.Finite.L0 N N x 0:=by kernel_rfl
abbrev _root_.Go.Proofs.S1.Dq.Finite.Kn:=A4 Try.prog 15 Dq.Finite.spec
theorem Dq.Finite.Ae (hk:Av Try.prog Dq.Finite.A8) (h:∀ (x:List Int),Dq.Finite.pre [.l x]=true→Bd Dq.Finite.E Try.f15 [.ints .arg .u64 x] (Dq.Finite.out [.l x])):Dq.Finite.Kn :=
  Aj (Ax hk _ _ _) Try.func15 (by kernel_rfl) (by kernel_rfl) h
def Fm.Check.A8:List (Nat × Entry):=[(15,Dq.Finite.spec),(14,Fo.Fu.spec)]
def Fm.Check.E:Env:=Ba (A6 Fm.Check.A8) (fun _=>false) (fun _=>none) (fun _=>none)
theorem Fm.Check.ev (N:Nat) (r c:Int) (l:List Int):Bo Fm.Check.E N Try.f9 (An Try.f9) [.agg [.int .i64 r,.int .i64 c,.ints .arg .u64 l]]=bif (!(Aw r c l)) then some (.int .i64 1) else bif (Cs l) then bif (!(Ey l)) then some (.int .i64 4) else some (.int .i64 0) else none:=by kernel_rfl
abbrev _root_.Go.Proofs.S1.Fm.Check.Kn:=A4 Try.prog 9 Fm.Check.spec
theorem Fm.Check.Ae (hk:Av Try.prog Fm.Check.A8) (h:∀ (r c:Int) (l:List Int),Fm.Check.pre [.i r,.i c,.l l]=true→Bd Fm.Check.E Try.f9 [.agg [.int .i64 r,.int .i64 c,.ints .arg .u64 l]] (Fm.Check.out [.i r,.i c,.l l])):Fm.Check.Kn :=
  Aj (Ax hk _ _ _) Try.func9 (by kernel_rfl) (by kernel_rfl) h
end EqRef17
open EqRef17
theorem Qw (N:Nat) {x:List Int} (hx:Cs x=true):∀ (k i F:Nat),i+k=x.length→k<F→Dq.Finite.L0 N F x (i:Int)=some (.bool ((x.drop i).all Cp)):=by
  obtain ⟨hl,hu⟩:=Iq hx
  intro k
  induction k with
  | zero =>
    intro i F hi hF
    obtain ⟨F,rfl⟩:∃ G,F=G+1:=⟨F-1,by omega⟩
    rw [Dq.Finite.As,Aq,Ahs (by omega),Ahr,Ah1 (by omega)]; rfl
  | succ k ih =>
    intro i F hi hF
    obtain ⟨F,rfl⟩:∃ G,F=G+1:=⟨F-1,by omega⟩
    rw [Dq.Finite.As,Aq,Aho (show (i:Int)<(x.length:Int) by omega),Ahn,Aho (show (0:Int)≤(i:Int) by omega),Aht,Ahn,Ahp,hu i (by omega),Ahn,G0 (by omega),List.all_cons]
    cases Cp (x.getD i 0) with
    | false=>rfl
    | true =>
      rw [Bool.not_true,Ahr,Ak (by omega) (by omega),Bool.true_and]
      exact ih (i+1) F (by omega) (by omega)
theorem Dq.Finite.known:Dq.Finite.Kn:=Dq.Finite.Ae (.cons Cn.Finite.known .nil) fun x hp=>by
  have hp:Cs x=true:=hp
  refine ⟨x.length+1,Dq.Finite.out [.l x],[],?_,.bool⟩
  show _=some (DV.bool (x.all Cp))
  rw [Dq.Finite.ev]
  exact Qw _ hp x.length 0 (x.length+1) (by omega) (by omega)
theorem Fm.Check.known:Fm.Check.Kn:=Fm.Check.Ae (.cons Dq.Finite.known (.cons Fo.Fu.known .nil)) fun r c l hp=>by
  have hp:Af l=true:=hp
  refine ⟨0,Fm.Check.out [.i r,.i c,.l l],[],?_,.int⟩
  show _=some (DV.int .i64 (Bh r c l))
  rw [Fm.Check.ev]
  unfold Bh
  by_cases h:Aw r c l=true
  · have:=Mj h
    rw [h,Bool.not_true,Ahr,I7 hp (by omega),Ahn,if_pos rfl]
    cases Ey l<;>rfl
  · have h':Aw r c l=false:=by simpa using h
    rw [h']; rfl
def Aa7 (x:MX):DV:=.tup [.agg [.int .i64 x.1,.int .i64 x.2.1,.ints .arg .u64 x.2.2.1],.int .i64 x.2.2.2]
theorem Zg {drops:List Nat} {x:MX}:Wk drops (Aa7 x) (Aa7 x) :=
  Wk.Fl (.cons (Wk.Hr (.cons .int (.cons .int (.cons .Xn .nil)))) (.cons .int .nil))
theorem Xw {drops:List Nat} {e:Int}:Wk drops (Yh e) (Aa7 (Hc e)) :=
  Wk.Fl (.cons (Wk.Hr (.cons .int (.cons .int (.cons (.nil _ _) .nil)))) (.cons .int .nil))
section
variable {n Q:Nat} {l m:List Int}
end
namespace EqRef14
end EqRef14
open EqRef13 EqRef14
open EqRef13 EqRef14
section
variable {R C i k:Nat} {l v:List Int} {t:Int}
end
namespace EqLow
def B6.B5.down.A8:List (Nat × Entry):=[]
def B6.B5.down.E:Env:=Ba (A6 B6.B5.down.A8) (fun _=>false) (fun _=>none) (fun _=>none)
theorem B6.B5.down.ev (N:Nat) (n k:Int):Bo B6.B5.down.E N Try.f57 (An Try.f57) [.int .i64 n,.int .i64 k]=some (.int .i64 k):=by kernel_rfl
abbrev _root_.Go.Proofs.S1.B6.B5.down.Kn:=A4 Try.prog 57 B6.B5.down.spec
theorem B6.B5.down.Ae (hk:Av Try.prog B6.B5.down.A8) (h:∀ (n k:Int),B6.B5.down.pre [.i n,.i k]=true→Bd B6.B5.down.E Try.f57 [.int .i64 n,.int .i64 k] (B6.B5.down.out [.i n,.i k])):B6.B5.down.Kn :=
  Aj (Ax hk _ _ _) Try.func57 (by kernel_rfl) (by kernel_rfl) h
def solve.Dc.A8:List (Nat × Entry):=[]
def solve.Dc.E:Env:=Ba (A6 solve.Dc.A8) (fun _=>false) (fun _=>none) (fun _=>none)
theorem solve.Dc.ev (N:Nat) (i k:Int):Bo solve.Dc.E N Try.f58 (An Try.f58) [.int .i64 i,.int .i64 k]=some (.bool (Au k i)):=by kernel_rfl
abbrev _root_.Go.Proofs.S1.solve.Dc.Kn:=A4 Try.prog 58 solve.Dc.spec
theorem solve.Dc.Ae (hk:Av Try.prog solve.Dc.A8) (h:∀ (i k:Int),solve.Dc.pre [.i i,.i k]=true→Bd solve.Dc.E Try.f58 [.int .i64 i,.int .i64 k] (solve.Dc.out [.i i,.i k])):solve.Dc.Kn :=
  Aj (Ax hk _ _ _) Try.func58 (by kernel_rfl) (by kernel_rfl) h
def solve.Al.Lo.hint:Nat→Option A0
  | 0=>some { keep:=[2,3,4,5,8,10,11,28,29],objs:=[(12,2,112002,.ints 41 .u64 [])],boxes:=[4,5,8,11] }
  | 2=>some { keep:=[2,3,4,5,8,10,11,13,28,29,32,33],objs:=[(12,2,112002,.ints 41 .u64 [])],boxes:=[4,5,8,11] }
  | 4=>some { keep:=[2,3,4,5,8,10,11,13,15,16,28,29,32,33,49,50],objs:=[(12,2,112002,.ints 41 .u64 [])],boxes:=[4,5,8,11] }
  | _=>none
def solve.Al.Lo.A8:List (Nat × Entry):=[(57,B6.B5.down.spec),(69,Aa.Bm.own.spec),(58,solve.Dc.spec),(70,Ac.Div.spec),(50,Ac.Finite.spec),(61,Ac.Mul.spec),(39,Ac.Sub.spec)]
def solve.Al.Lo.E:Env:=Ba (A6 solve.Al.Lo.A8) (fun n=>Nat.beq n 24) solve.Al.Lo.hint (fun _=>none)
def solve.Al.Lo.L0 (N M:Nat) (r c:Int) (l:List Int) (p q:Int) (m:List Int) (n p29:Int) (p2_2:List Int):Option DV:=B3 solve.Al.Lo.E N Try.f56 (An Try.f56) [1,1,1,0,1,0] [] M ⟨Gy 108 [(2,.fn 57 [.int .i64 n] []),(3,.fn 58 [] []),(4,.ptr 4 0 0),(5,.ptr 5 0 0),(8,.ptr 8 0 0),(10,.int .i64 r),(11,.ptr 11 0 0),(28,.int .i64 q),(29,.int .i64 p29)],[(4,false,.box [.int .i64 r,.int .i64 c,.ints .arg .u64 l]),(5,false,.box [.int .i64 p,.int .i64 q,.ints .arg .u64 m]),(8,false,.box [.int .i64 0,.int .i64 0,.nil]),(11,false,.box [.int .i64 r,.int .i64 q,.oref 112002]),(112002,false,.ints 41 .u64 p2_2)]⟩
def solve.Al.Lo.L1 (N M0 M:Nat) (r c:Int) (l:List Int) (p q:Int) (m:List Int) (n p33:Int) (p2:List Int) (p13 p29_1:Int):Option DV:=B3 solve.Al.Lo.E N Try.f56 (An Try.f56) [1,1,1,0,1,0,0,1,1,0,0,1,0,1,1,0] [M0] M ⟨Gy 108 [(2,.fn 57 [.int .i64 n] []),(3,.fn 58 [] []),(4,.ptr 4 0 0),(5,.ptr 5 0 0),(8,.ptr 8 0 0),(10,.int .i64 r),(11,.ptr 11 0 0),(13,.int .i64 p13),(28,.int .i64 q),(29,.int .i64 p29_1),(32,.int .i64 r),(33,.int .i64 p33)],[(4,false,.box [.int .i64 r,.int .i64 c,.ints .arg .u64 l]),(5,false,.box [.int .i64 p,.int .i64 q,.ints .arg .u64 m]),(8,false,.box [.int .i64 0,.int .i64 0,.nil]),(11,false,.box [.int .i64 r,.int .i64 q,.oref 112002]),(112002,false,.ints 41 .u64 p2)]⟩
def solve.Al.Lo.L2 (N M0 M1 M:Nat) (r c:Int) (l:List Int) (p q:Int) (m:List Int) (n p16:Int) (p50 p13_1:Int) (p15 p29_2 p33_1:Int) (p2_1:List Int):Option DV:=B3 solve.Al.Lo.E N Try.f56 (An Try.f56) [1,1,1,0,1,0,0,1,1,0,0,1,0,1,1,0,0,1,1,0,0,1,1,1,0,1,0] [M0,M1] M ⟨Gy 108 [(2,.fn 57 [.int .i64 n] []),(3,.fn 58 [] []),(4,.ptr 4 0 0),(5,.ptr 5 0 0),(8,.ptr 8 0 0),(10,.int .i64 r),(11,.ptr 11 0 0),(13,.int .i64 p13_1),(15,.int .i64 p15),(16,.int .u64 p16),(28,.int .i64 q),(29,.int .i64 p29_2),(32,.int .i64 r),(33,.int .i64 p33_1),(49,.int .i64 r),(50,.int .i64 p50)],[(4,false,.box [.int .i64 r,.int .i64 c,.ints .arg .u64 l]),(5,false,.box [.int .i64 p,.int .i64 q,.ints .arg .u64 m]),(8,false,.box [.int .i64 0,.int .i64 0,.nil]),(11,false,.box [.int .i64 r,.int .i64 q,.oref 112002]),(112002,false,.ints 41 .u64 p2_1)]⟩
theorem solve.Al.Lo.As (N M:Nat) (r c:Int) (l:List Int) (p q:Int) (m:List Int) (n p29:Int) (p2_2:List Int):solve.Al.Lo.L0 N (M+1) r c l p q m n p29 p2_2=bif (Au p29 q) then solve.Al.Lo.L1 N M N r c l p q m n 0 p2_2 p29 p29 else bif (Cs p2_2) then bif (!(Ey p2_2)) then some (.tup [.agg [.int .i64 0,.int .i64 0,.nil],.int .i64 2]) else some (.tup [.agg [.int .i64 r,.int .i64 q,.ints (.own 112002 41) .u64 p2_2],.int .i64 0]) else none:=by kernel_rfl
theorem solve.Al.Lo.Ca (N M0 M:Nat) (r c:Int) (l:List Int) (p q:Int) (m:List Int) (n p33:Int) (p2:List Int) (p13 p29_1:Int):solve.Al.Lo.L1 N M0 (M+1) r c l p q m n p33 p2 p13 p29_1=bif (Au p33 r) then bif ((decide (0≤(Ab ((Ab (p33*q))+p13))))&&(decide ((Ab ((Ab (p33*q))+p13))<(List.length m:Int)))) then solve.Al.Lo.L2 N M0 M N r c l p q m n (List.getD m (Int.toNat (Ab ((Ab (p33*q))+p13))) 0) 0 p13 p33 p29_1 p33 p2 else none else solve.Al.Lo.L0 N M0 r c l p q m n (Ab (p29_1+1)) p2:=by kernel_rfl
theorem solve.Al.Lo.Hw (N M0 M1 M:Nat) (r c:Int) (l:List Int) (p q:Int) (m:List Int) (n p16:Int) (p50 p13_1:Int) (p15 p29_2 p33_1:Int) (p2_1:List Int):solve.Al.Lo.L2 N M0 M1 (M+1) r c l p q m n p16 p50 p13_1 p15 p29_2 p33_1 p2_1=bif (Au p50 r) then bif (decide (p50<p15)) then bif ((decide (0≤(Ab ((Ab (p15*r))+p50))))&&(decide ((Ab ((Ab (p15*r))+p50))<(List.length l:Int)))) then bif ((decide (0≤(Ab ((Ab (p50*q))+p13_1))))&&(decide ((Ab ((Ab (p50*q))+p13_1))<(List.length p2_1:Int)))) then bif (decide ((Int.toNat (Ab ((Ab (p50*q))+p13_1)))<(List.length p2_1))) then bif (Ag (List.getD l (Int.toNat (Ab ((Ab (p15*r))+p50))) 0)&&Ag (List.getD p2_1 (Int.toNat (Ab ((Ab (p50*q))+p13_1))) 0)) then bif (Ag p16&&Ag (Dz (List.getD l (Int.toNat (Ab ((Ab (p15*r))+p50))) 0) (List.getD p2_1 (Int.toNat (Ab ((Ab (p50*q))+p13_1))) 0))) then solve.Al.Lo.L2 N M0 M1 M r c l p q m n (C0 p16 (Dz (List.getD l (Int.toNat (Ab ((Ab (p15*r))+p50))) 0) (List.getD p2_1 (Int.toNat (Ab ((Ab (p50*q))+p13_1))) 0))) (Ab (p50+1)) p13_1 p15 p29_2 p33_1 p2_1 else none else none else none else none else none else solve.Al.Lo.L2 N M0 M1 M r c l p q m n p16 (Ab (p50+1)) p13_1 p15 p29_2 p33_1 p2_1 else bif ((decide (0≤(Ab ((Ab (p15*r))+p15))))&&(decide ((Ab ((Ab (p15*r))+p15))<(List.length l:Int)))) then bif (Ag p16&&Ag (List.getD l (Int.toNat (Ab ((Ab (p15*r))+p15))) 0)) then bif ((decide (0≤(Ab ((Ab (p15*q))+p13_1))))&&(decide ((Ab ((Ab (p15*q))+p13_1))<(List.length p2_1:Int)))) then bif (decide ((Int.toNat (Ab ((Ab (p15*q))+p13_1)))<(List.length p2_1))) then solve.Al.Lo.L1 N M0 M1 r c l p q m n (Ab (p33_1+1)) (List.set p2_1 (Int.toNat (Ab ((Ab (p15*q))+p13_1))) (Em p16 (List.getD l (Int.toNat (Ab ((Ab (p15*r))+p15))) 0))) p13_1 p29_2 else none else none else none else none :=
  Eq.trans (by kernel_rfl)
  (Ew (Ew (Dp (Nk (decide (0≤(Ab ((Ab (p15*r))+p50)))) (decide ((Ab ((Ab (p15*r))+p50))<(List.length l:Int)))) (Dp (Nk (decide (0≤(Ab ((Ab (p50*q))+p13_1)))) (decide ((Ab ((Ab (p50*q))+p13_1))<(List.length p2_1:Int)))) (Dp (Eh (decide ((Int.toNat (Ab ((Ab (p50*q))+p13_1)))<(List.length p2_1)))) (Dp (Eh (Ag (List.getD l (Int.toNat (Ab ((Ab (p15*r))+p50))) 0)&&Ag (List.getD p2_1 (Int.toNat (Ab ((Ab (p50*q))+p13_1))) 0))) (Dp (Eh (Ag p16&&Ag (Dz (List.getD l (Int.toNat (Ab ((Ab (p15*r))+p50))) 0) (List.getD p2_1 (Int.toNat (Ab ((Ab (p50*q))+p13_1))) 0)))) rfl rfl) rfl) rfl) rfl) rfl) rfl) (Dp (Nk (decide (0≤(Ab ((Ab (p15*r))+p15)))) (decide ((Ab ((Ab (p15*r))+p15))<(List.length l:Int)))) (Dp (Eh (Ag p16&&Ag (List.getD l (Int.toNat (Ab ((Ab (p15*r))+p15))) 0))) (Dp (Nk (decide (0≤(Ab ((Ab (p15*q))+p13_1)))) (decide ((Ab ((Ab (p15*q))+p13_1))<(List.length p2_1:Int)))) (Dp (Eh (decide ((Int.toNat (Ab ((Ab (p15*q))+p13_1)))<(List.length p2_1)))) rfl rfl) rfl) rfl) rfl))
theorem solve.Al.Lo.ev (N:Nat) (r c:Int) (l:List Int) (p q:Int) (m:List Int) (n:Int):Bo solve.Al.Lo.E N Try.f56 (An Try.f56) [.agg [.int .i64 r,.int .i64 c,.ints .arg .u64 l],.agg [.int .i64 p,.int .i64 q,.ints .arg .u64 m],.fn 57 [.int .i64 n] [],.fn 58 [] []]=bif (A7 r&&A7 q) then solve.Al.Lo.L0 N N r c l p q m n 0 (By (Int.toNat r) (Int.toNat q) (fun _ _=>0)) else none:=by kernel_rfl
abbrev _root_.Go.Proofs.S1.solve.Al.Lo.Kn:=A4 Try.prog 56 solve.Al.Lo.spec
theorem solve.Al.Lo.Ae (hk:Av Try.prog solve.Al.Lo.A8) (h:∀ (r c:Int) (l:List Int) (p q:Int) (m:List Int) (n:Int),solve.Al.Lo.pre [.i r,.i c,.l l,.i p,.i q,.l m,.i n]=true→Bd solve.Al.Lo.E Try.f56 [.agg [.int .i64 r,.int .i64 c,.ints .arg .u64 l],.agg [.int .i64 p,.int .i64 q,.ints .arg .u64 m],.fn 57 [.int .i64 n] [],.fn 58 [] []] (solve.Al.Lo.out [.i r,.i c,.l l,.i p,.i q,.l m,.i n])):solve.Al.Lo.Kn :=
  Aj (Ax hk _ _ _) Try.func56 (by kernel_rfl) (by kernel_rfl) h
def solve.Fx.A8:List (Nat × Entry):=[(55,solve.check.spec),(56,solve.Al.Lo.spec)]
def solve.Fx.E:Env:=Ba (A6 solve.Fx.A8) (fun _=>false) (fun _=>none) (fun _=>none)
theorem solve.Fx.ev (N:Nat) (r c:Int) (l:List Int) (p q:Int) (m:List Int):Bo solve.Fx.E N Try.f29 (An Try.f29) [.agg [.int .i64 r,.int .i64 c,.ints .arg .u64 l],.agg [.int .i64 p,.int .i64 q,.ints .arg .u64 m]]=bif (Af l&&Af m) then bif ((N3 r c l p q m) !=(0:Int)) then some (.tup [.agg [.int .i64 0,.int .i64 0,.nil],.int .i64 (N3 r c l p q m)]) else bif (Li r c l p q m&&decide (r=r)) then some (.tup [.agg [.int .i64 ((Iv r q (Zz c l q m (Int.toNat r) (Int.toNat q))).1),.int .i64 ((Iv r q (Zz c l q m (Int.toNat r) (Int.toNat q))).2.1),.ints .fresh .u64 ((Iv r q (Zz c l q m (Int.toNat r) (Int.toNat q))).2.2.1)],.int .i64 ((Iv r q (Zz c l q m (Int.toNat r) (Int.toNat q))).2.2.2)]) else none else none:=by kernel_rfl
abbrev _root_.Go.Proofs.S1.solve.Fx.Kn:=A4 Try.prog 29 solve.Fx.spec
theorem solve.Fx.Ae (hk:Av Try.prog solve.Fx.A8) (h:∀ (r c:Int) (l:List Int) (p q:Int) (m:List Int),solve.Fx.pre [.i r,.i c,.l l,.i p,.i q,.l m]=true→Bd solve.Fx.E Try.f29 [.agg [.int .i64 r,.int .i64 c,.ints .arg .u64 l],.agg [.int .i64 p,.int .i64 q,.ints .arg .u64 m]] (solve.Fx.out [.i r,.i c,.l l,.i p,.i q,.l m])):solve.Fx.Kn :=
  Aj (Ax hk _ _ _) Try.func29 (by kernel_rfl) (by kernel_rfl) h
end EqLow
open EqLow
theorem solve.Dc.known:solve.Dc.Kn:=solve.Dc.Ae .nil fun i k _=>by
  refine ⟨0,solve.Dc.out [.i i,.i k],[],?_,.bool⟩
  rw [solve.Dc.ev,Aq]; rfl
theorem Ye.known:B6.B5.down.Kn:=B6.B5.down.Ae .nil fun n k _=>⟨0,B6.B5.down.out [.i n,.i k],[],by rw [B6.B5.down.ev]; rfl,.int⟩
section
variable {n Q:Nat} {l m:List Int}
def loF (n Q:Nat) (l m:List Int) (i j:Nat):Int:=(U3 (n:Int) l (fun i=>Dr (Q:Int) m (i:Int) (j:Int)) n).getD i 0
def loD (j k a b:Nat):Bool:=decide (b<j∨(b=j∧a<k))
def Q7 (n Q:Nat) (l m:List Int) (j k:Nat):List Int:=By n Q fun a b=>if loD j k a b=true then loF n Q l m a b else 0
theorem Ad0 (i j:Nat):Ag (loF n Q l m i j)=true:=O5 (Yo _ _ _ _) i
theorem loS_in (j k:Nat):Af (Q7 n Q l m j k)=true:=Gl fun a b=>by
  split
  · exact Ad0 _ _
  · exact Ht
theorem Agn {j k t:Nat} (ht:t<n) (hj:j<Q) (hk:t<k):Dr (Q:Int) (Q7 n Q l m j k) (t:Int) (j:Int)=loF n Q l m t j:=by
  unfold Q7
  have hd:loD j k t j=true:=Aho (.inr ⟨rfl,hk⟩)
  rw [Z1 ht hj,hd,if_pos rfl]
theorem U2 (j k:Nat):(Q7 n Q l m j k).length=n*Q:=Bq _ _ _
theorem Agm {i j:Nat} (hj:j<Q) {x:Int} (hx:x=loF n Q l m i j):List.set (Q7 n Q l m j i) (Int.toNat ((i:Int)*(Q:Int)+(j:Int))) x=Q7 n Q l m j (i+1):=by
  refine Xj hj hx fun a b ha hb=>?_
  unfold loD
  rw [Ahu,Ahu]
  omega
theorem Ady (j:Nat):Q7 n Q l m j n=Q7 n Q l m (j+1) 0:=by
  unfold Q7
  refine C1 fun a b ha hb=>?_
  have:loD j n a b=loD (j+1) 0 a b:=by
    unfold loD
    rw [decide_eq_decide]
    omega
  rw [this]
theorem Adx:Q7 n Q l m 0 0=By n Q fun _ _=>0:=by
  unfold Q7
  refine C1 fun a b ha hb=>?_
  have:loD 0 0 a b=false:=Ahs (by omega)
  rw [this]; rfl
theorem Ago:Q7 n Q l m Q 0=Zz (n:Int) l (Q:Int) m n Q:=by
  unfold Q7 Zz
  refine C1 fun a b ha hb=>?_
  have:loD Q 0 a b=true:=Aho (.inl hb)
  rw [this]; rfl
def loR (n Q:Nat) (l m:List Int) (i j t:Nat) (s:Int):Int:=Lc (n:Int) l (i:Int) s (t:Int) (((U3 (n:Int) l (fun i=>Dr (Q:Int) m (i:Int) (j:Int)) n).take i).drop t)
theorem Zy {i j:Nat} (hi:i<n) (s:Int):loR n Q l m i j i s=s:=by
  unfold loR
  rw [Ah1 (by rw [List.length_take,Gs]; omega),Lc]
theorem Adz {i j t:Nat} (hi:i<n) (ht:t<i) (s:Int):loR n Q l m i j t s=loR n Q l m i j (t+1) (C0 s (Dz (Dr (n:Int) l (i:Int) (t:Int)) (loF n Q l m t j))):=by
  unfold loR loF
  rw [Tr (by rw [List.length_take,Gs]; omega),Ahx,List.getElem?_take_of_lt ht,← Ahx]
  rfl
theorem Agp {i j:Nat} (hi:i<n):Em (loR n Q l m i j 0 (Dr (Q:Int) m (i:Int) (j:Int))) (Dr (n:Int) l (i:Int) (i:Int))=loF n Q l m i j:=by
  unfold loR loF
  rw [List.drop_zero,Agq hi]; rfl
theorem Adw (N:Nat) (n6:n≤6) (q6:Q≤6) (hl:l.length=n*n) (al:Af l=true) {i j:Nat} (hi:i<n) (hj:j<Q) (M0 M1:Nat) (p29 p33:Int) :
    ∀ (cnt t F:Nat) (s:Int),t+cnt=n→cnt<F→Ag s=true→(i<t→t≤n) →
    solve.Al.Lo.L2 N M0 M1 F (n:Int) (n:Int) l (n:Int) (Q:Int) m (n:Int) s (t:Int) (j:Int) (i:Int) p29 p33 (Q7 n Q l m j i) =
    solve.Al.Lo.L1 N M0 M1 (n:Int) (n:Int) l (n:Int) (Q:Int) m (n:Int) (Ab (p33+(1:Int))) (List.set (Q7 n Q l m j i) (Int.toNat ((i:Int)*(Q:Int)+(j:Int))) (Em (if t<i then loR n Q l m i j t s else s) (Dr (n:Int) l (i:Int) (i:Int)))) (j:Int) p29:=by
  intro cnt
  induction cnt with
  | zero =>
    intro t F s ht hF hs _
    obtain ⟨F,rfl⟩:∃ G,F=G+1:=⟨F-1,by omega⟩
    obtain ⟨e1,g1,g2⟩:=F8 (R:=(n:Int)) (Ez n6 n6 hl hi hi)
    obtain ⟨e2,g3,g4⟩:=F8 (R:=(n:Int)) (Ez n6 q6 (U2 (l:=l) (m:=m) j i) hi hj)
    rw [if_neg (by omega)]
    rw [solve.Al.Lo.Hw,Aq,Ahs (show ¬ (t:Int)<(n:Int) by omega),Ahr,e1,Aho g1,Aho g2,Aht,Ahn,hs,show Ag (List.getD l (Int.toNat ((i:Int)*(n:Int)+(i:Int))) 0)=true from Hq (c:=(n:Int)) al,Aht,Ahn,
      e2,Aho g3,Aho g4,Aht,Ahn,Aho (show Int.toNat ((i:Int)*(Q:Int)+(j:Int))<(Q7 n Q l m j i).length by omega),Ahn]
    rfl
  | succ cnt ih =>
    intro t F s ht hF hs _
    obtain ⟨F,rfl⟩:∃ G,F=G+1:=⟨F-1,by omega⟩
    by_cases hti:t<i
    · obtain ⟨e1,g1,g2⟩:=F8 (R:=(n:Int)) (Ez n6 n6 hl hi (show t<n by omega))
      obtain ⟨e2,g3,g4⟩:=F8 (R:=(n:Int)) (Ez n6 q6 (U2 (l:=l) (m:=m) j i) (show t<n by omega) hj)
      have hx:List.getD (Q7 n Q l m j i) (Int.toNat ((t:Int)*(Q:Int)+(j:Int))) 0=loF n Q l m t j:=Agn (by omega) hj hti
      have:=ih (t+1) F (C0 s (Dz (Dr (n:Int) l (i:Int) (t:Int)) (loF n Q l m t j))) (by omega) (by omega) (Lj hs (Jy _ _)) (by omega)
      rw [if_pos hti,Adz hi hti]
      rw [solve.Al.Lo.Hw,Aq,Aho (show (t:Int)<(n:Int) by omega),Ahn,Aho (show (t:Int)<(i:Int) by omega),Ahn,e1,Aho g1,Aho g2,Aht,Ahn,
        e2,Aho g3,Aho g4,Aht,Ahn,Aho (show Int.toNat ((t:Int)*(Q:Int)+(j:Int))<(Q7 n Q l m j i).length by omega),Ahn,hx,
        show Ag (List.getD l (Int.toNat ((i:Int)*(n:Int)+(t:Int))) 0)=true from Hq (c:=(n:Int)) al,Ad0,Aht,Ahn,hs,Jy,Aht,Ahn,Ak (x:=(t:Int)+1) (by omega) (by omega)]
      have e:(if t+1<i then loR n Q l m i j (t+1) (C0 s (Dz (Dr (n:Int) l (i:Int) (t:Int)) (loF n Q l m t j))) else C0 s (Dz (Dr (n:Int) l (i:Int) (t:Int)) (loF n Q l m t j)))=loR n Q l m i j (t+1) (C0 s (Dz (Dr (n:Int) l (i:Int) (t:Int)) (loF n Q l m t j))):=by
        by_cases h2:t+1<i
        · rw [if_pos h2]
        · rw [if_neg h2,show t+1=i by omega,Zy hi]
      rw [e] at this
      exact this
    · have:=ih (t+1) F s (by omega) (by omega) hs (by omega)
      rw [if_neg hti,solve.Al.Lo.Hw,Aq,Aho (show (t:Int)<(n:Int) by omega),Ahn,Ahs (show ¬ (t:Int)<(i:Int) by omega),Ahr,Ak (by omega) (by omega)]
      rw [if_neg (by omega)] at this
      exact this
theorem Agk (N:Nat) (n6:n≤6) (q6:Q≤6) (hN:7<N) (hl:l.length=n*n) (hm:m.length=n*Q) (al:Af l=true) (am:Af m=true) {j:Nat} (hj:j<Q) (M0:Nat):∀ (cnt k F:Nat),k+cnt=n→cnt<F →
    solve.Al.Lo.L1 N M0 F (n:Int) (n:Int) l (n:Int) (Q:Int) m (n:Int) (k:Int) (Q7 n Q l m j k) (j:Int) (j:Int) =
    solve.Al.Lo.L0 N M0 (n:Int) (n:Int) l (n:Int) (Q:Int) m (n:Int) ((j+1:Nat):Int) (Q7 n Q l m j n):=by
  intro cnt
  induction cnt with
  | zero =>
    intro k F hk hF
    obtain ⟨F,rfl⟩:∃ G,F=G+1:=⟨F-1,by omega⟩
    obtain rfl:k=n:=by omega
    rw [solve.Al.Lo.Ca,Aq,Ahs (by omega),Ahr,Ak (by omega) (by omega)]
    rfl
  | succ cnt ih =>
    intro k F hk hF
    obtain ⟨F,rfl⟩:∃ G,F=G+1:=⟨F-1,by omega⟩
    obtain ⟨e2,g3,g4⟩:=F8 (R:=(n:Int)) (Ez n6 q6 hm (show k<n by omega) hj)
    have hr:=Adw (n:=n) (Q:=Q) (l:=l) (m:=m) N n6 q6 hl al (show k<n by omega) hj M0 F (j:Int) (k:Int) n 0 N (Dr (Q:Int) m (k:Int) (j:Int)) (by omega) (by omega) (Hq (c:=(Q:Int)) am) (by omega)
    have e:(if 0<k then loR n Q l m k j 0 (Dr (Q:Int) m (k:Int) (j:Int)) else Dr (Q:Int) m (k:Int) (j:Int))=loR n Q l m k j 0 (Dr (Q:Int) m (k:Int) (j:Int)):=by
      by_cases h:0<k
      · rw [if_pos h]
      · obtain rfl:k=0:=by omega
        rw [if_neg h,Zy (by omega)]
    rw [e,Agm hj (Agp (by omega)),Ak (by omega) (by omega)] at hr
    rw [solve.Al.Lo.Ca,Aq,Aho (show (k:Int)<(n:Int) by omega),Ahn,e2,Aho g3,Aho g4,Aht,Ahn]
    exact hr.trans (ih (k+1) F (by omega) (by omega))
theorem Agl (N:Nat) (n6:n≤6) (q6:Q≤6) (hN:7<N) (hl:l.length=n*n) (hm:m.length=n*Q) (al:Af l=true) (am:Af m=true):∀ (cnt j F:Nat),j+cnt=Q→cnt<F →
    solve.Al.Lo.L0 N F (n:Int) (n:Int) l (n:Int) (Q:Int) m (n:Int) (j:Int) (Q7 n Q l m j 0) =
    bif Ey (Q7 n Q l m Q 0) then some (.tup [.agg [.int .i64 (n:Int),.int .i64 (Q:Int),.ints (.own 112002 tB) .u64 (Q7 n Q l m Q 0)],.int .i64 (0:Int)]) else some (Yh 2):=by
  intro cnt
  induction cnt with
  | zero =>
    intro j F hj hF
    obtain ⟨F,rfl⟩:∃ G,F=G+1:=⟨F-1,by omega⟩
    obtain rfl:j=Q:=by omega
    have h36:=Nat.mul_le_mul n6 q6
    rw [solve.Al.Lo.As,Aq,Ahs (by omega),Ahr,I7 (loS_in _ _) (by rw [U2]; omega),Ahn]
    cases Ey (Q7 n j l m j 0)<;>rfl
  | succ cnt ih =>
    intro j F hj hF
    obtain ⟨F,rfl⟩:∃ G,F=G+1:=⟨F-1,by omega⟩
    have hr:=Agk N n6 q6 hN hl hm al am (show j<Q by omega) F n 0 N (by omega) (by omega)
    rw [Ady] at hr
    rw [solve.Al.Lo.As,Aq,Aho (show (j:Int)<(Q:Int) by omega),Ahn]
    exact hr.trans (ih (j+1) F (by omega) (by omega))
end
theorem solve.Al.Lo.known:solve.Al.Lo.Kn:=solve.Al.Lo.Ae (.cons Ye.known (.cons Aa.Bm.own.known (.cons solve.Dc.known (.cons Ac.Div.known (.cons Ac.Finite.known (.cons Ac.Mul.known (.cons Ac.Sub.known .nil))))))) fun r c l p q m n hp=>by
  show ∃ N dv drops,_=some dv∧Wk drops dv (Nq (Iv r q (Zz c l q m (Int.toNat r) (Int.toNat q))))
  obtain ⟨h1,hn⟩:=Ad.1 (show (Li r c l p q m&&decide (n=r))=true from hp)
  obtain ⟨h2,h3⟩:=Ad.1 h1
  obtain ⟨hr,hm⟩:=Ad.1 h2
  obtain ⟨h4,h5⟩:=Ad.1 h3
  obtain ⟨al,am⟩:=Ad.1 h4
  obtain ⟨rfl,rfl⟩:=Ar.1 h5
  obtain rfl:=of_decide_eq_true hn
  have s1:=(Ec hr).1
  have s2:=(Ec hm).2
  obtain ⟨R,C,rfl,hC,r6,c6,hl⟩:=Dj hr
  obtain ⟨P,Q,hP,rfl,p6,q6,hl2⟩:=Dj hm
  obtain rfl:R=C:=by omega
  obtain rfl:R=P:=by omega
  have h:=Agl (n:=R) (Q:=Q) (l:=l) (m:=m) 8 r6 q6 (by omega) hl hl2 al am Q 0 8 (by omega) (by omega)
  rw [Adx,Ago,show ((0:Nat):Int)=0 from rfl] at h
  rw [Ahp,Ahp]
  unfold Iv
  cases hf:Ey (Zz (R:Int) l (Q:Int) m R Q) with
  | true =>
    rw [hf,Ahn] at h
    rw [if_pos rfl]
    refine ⟨8,.tup [.agg [.int .i64 (R:Int),.int .i64 (Q:Int),.ints (.own 112002 tB) .u64 (Zz (R:Int) l (Q:Int) m R Q)],.int .i64 0],[112002],?_,Wk.Fl (.cons (Xv (List.mem_singleton.2 rfl)) (.cons .int .nil))⟩
    rw [solve.Al.Lo.ev,s1,s2,Aht,Ahn,Ahp,Ahp]
    exact h
  | false =>
    rw [hf,Ahr] at h
    rw [if_neg (by decide)]
    refine ⟨8,Yh 2,[],?_,Ge⟩
    rw [solve.Al.Lo.ev,s1,s2,Aht,Ahn,Ahp,Ahp]
    exact h
theorem solve.Fx.known:solve.Fx.Kn:=solve.Fx.Ae (.cons solve.check.known (.cons solve.Al.Lo.known .nil)) fun r c l p q m hp=>by
  have hp:(Af l&&Af m)=true:=hp
  show ∃ N dv drops,_=some dv∧Wk drops dv (Nq (Vx r c l p q m))
  unfold Vx
  by_cases h:N3 r c l p q m=0
  · obtain ⟨h1,h2,h3,h4⟩:=T3 h
    have ht:Li r c l p q m=true:=Ad.2 ⟨Ad.2 ⟨h1,h2⟩,Ad.2 ⟨hp,Ar.2 ⟨h3,h4⟩⟩⟩
    rw [if_neg (by rw [h]; decide)]
    exact ⟨0,_,[],by rw [solve.Fx.ev,hp,Ahn,Ea h,Ahr,ht,Aho rfl]; rfl,Jt⟩
  · rw [if_pos h]
    exact ⟨0,_,[],by rw [solve.Fx.ev,hp,Ahn,Nr h,Ahn]; rfl,Ge⟩
end Go.Proofs.S1
end
