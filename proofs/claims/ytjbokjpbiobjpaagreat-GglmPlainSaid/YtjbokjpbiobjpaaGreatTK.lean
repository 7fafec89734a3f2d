/- A verified evaluator of the program's form and its use for this seat: S1EqSol, S1PTri, S1EqFew, S1PSol, S1EqQr, S1PQr, S1PQrA, S1EqRef17, S1PRef17, S1EqRef14, S1PRef13, S1PRef14, S1EqLow, S1PLow, S1EqLse, S1PLse, S1POfS, S1EqRef20, S1PSubSt, S1PLseA, S1PRefL, S1PRef20, S1PMx. -/
import Derived.Test.YtjbokjpbiobjpaaGreatTE
import Derived.Test.YtjbokjpbiobjpaaGreatTF
import Derived.Test.YtjbokjpbiobjpaaGreatTI
import Derived.Test.YtjbokjpbiobjpaaGreatTJ
set_option linter.unusedVariables false
set_option linter.unusedSimpArgs false
noncomputable section
namespace Go.Proofs.S1
open Go Go.Den Go.Rnd Go.Proofs
set_option maxRecDepth 100000
namespace EqSol
def solve.check.hint:Nat→Option A9
  | 0=>some { keep:=[2,3,11,12],objs:=[],boxes:=[2,3] }
  | 2=>some { keep:=[2,34,35],objs:=[],boxes:=[2] }
  | _=>none
def solve.check.Bb:List (Nat × Entry):=[(86,Cb.Check.spec),(155,soft.Kind.spec)]
def solve.check.E:Env:=Be (Ba solve.check.Bb) (fun _=>false) solve.check.hint (fun _=>none)
def solve.check.L0 (N M:Nat) (r c:Int) (l:List Int) (p35:Int):Option DV:=B7 solve.check.E N Tryz.f75 (Al Tryz.f75) [1,1,1,0,1,0] [] M ⟨Fy 51 [(2,.ptr 2 0 0),(34,.int .i64 r),(35,.int .i64 p35)],[(2,false,.box [.int .i64 r,.int .i64 c,.ints .arg .u64 l])]⟩
theorem solve.check.At (N M:Nat) (r c:Int) (l:List Int) (p35:Int):solve.check.L0 (N+4) (M+1) r c l p35=bif (A4 p35 r) then bif ((decide (0≤(Ab ((Ab (p35*c))+p35))))&&(decide ((Ab ((Ab (p35*c))+p35))<(List.length l:Int)))) then bif (Ai (List.getD l (Int.toNat (Ab ((Ab (p35*c))+p35))) 0)) then bif ((A1 (List.getD l (Int.toNat (Ab ((Ab (p35*c))+p35))) 0))==(0:Int)) then some (.int .i64 5) else solve.check.L0 (N+4) M r c l (Ab (p35+1)) else none else none else some (.int .i64 0):=by kernel_rfl
theorem solve.check.ev (N:Nat) (r c:Int) (l:List Int) (p q:Int) (m:List Int):B0 solve.check.E (N+4) Tryz.f75 (Al Tryz.f75) [.agg [.int .i64 r,.int .i64 c,.ints .arg .u64 l],.agg [.int .i64 p,.int .i64 q,.ints .arg .u64 m]]=bif (Ah l) then bif ((B6 r c l) !=(0:Int)) then some (.int .i64 (B6 r c l)) else bif (Ah m) then bif ((B6 p q m) !=(0:Int)) then some (.int .i64 (B6 p q m)) else bif ((r !=c)||(r !=p)) then some (.int .i64 3) else solve.check.L0 (N+4) (N+4) r c l (0:Int) else none else none :=
  Eq.trans (by kernel_rfl)
  (Ev (Ev rfl (Ev (Ev rfl (Ar (U4 (r !=c)) (Ar (Tk (r !=c)) (Ar (U4 (r !=c)) (Ar (Tk (r !=c)) (Ar (tt8 (r !=c)) (Ar (tt6 (r !=c)) (C3 (tt5 (r !=c) (r !=p)) rfl rfl)))))))) rfl)) rfl)
abbrev _root_.Go.Proofs.S1.solve.check.Kn:=A8 Tryz.prog 75 solve.check.spec
theorem solve.check.Ad (hk:Az Tryz.prog solve.check.Bb) (h:∀ (r c:Int) (l:List Int) (p q:Int) (m:List Int),solve.check.pre [.i r,.i c,.l l,.i p,.i q,.l m]=true→Bf solve.check.E Tryz.f75 [.agg [.int .i64 r,.int .i64 c,.ints .arg .u64 l],.agg [.int .i64 p,.int .i64 q,.ints .arg .u64 m]] (solve.check.out [.i r,.i c,.l l,.i p,.i q,.l m])):solve.check.Kn :=
  Ak (A0 hk _ _ _) Tryz.func75 (by kernel_rfl) (by kernel_rfl) h
def Cu.Ct.up.Bb:List (Nat × Entry):=[]
def Cu.Ct.up.E:Env:=Be (Ba Cu.Ct.up.Bb) (fun _=>false) (fun _=>none) (fun _=>none)
theorem Cu.Ct.up.ev (N:Nat) (n k:Int):B0 Cu.Ct.up.E N Tryz.f103 (Al Tryz.f103) [.int .i64 n,.int .i64 k]=some (.int .i64 (Ab ((Ab (n-1))-k))):=by kernel_rfl
abbrev _root_.Go.Proofs.S1.Cu.Ct.up.Kn:=A8 Tryz.prog 103 Cu.Ct.up.spec
theorem Cu.Ct.up.Ad (hk:Az Tryz.prog Cu.Ct.up.Bb) (h:∀ (n k:Int),Cu.Ct.up.pre [.i n,.i k]=true→Bf Cu.Ct.up.E Tryz.f103 [.int .i64 n,.int .i64 k] (Cu.Ct.up.out [.i n,.i k])):Cu.Ct.up.Kn :=
  Ak (A0 hk _ _ _) Tryz.func103 (by kernel_rfl) (by kernel_rfl) h
def solve.D5.Bb:List (Nat × Entry):=[]
def solve.D5.E:Env:=Be (Ba solve.D5.Bb) (fun _=>false) (fun _=>none) (fun _=>none)
theorem solve.D5.ev (N:Nat) (i k:Int):B0 solve.D5.E N Tryz.f104 (Al Tryz.f104) [.int .i64 i,.int .i64 k]=some (.bool (A4 i k)):=by kernel_rfl
abbrev _root_.Go.Proofs.S1.solve.D5.Kn:=A8 Tryz.prog 104 solve.D5.spec
theorem solve.D5.Ad (hk:Az Tryz.prog solve.D5.Bb) (h:∀ (i k:Int),solve.D5.pre [.i i,.i k]=true→Bf solve.D5.E Tryz.f104 [.int .i64 i,.int .i64 k] (solve.D5.out [.i i,.i k])):solve.D5.Kn :=
  Ak (A0 hk _ _ _) Tryz.func104 (by kernel_rfl) (by kernel_rfl) h
def Aa.of.Br.own.hint:Nat→Option A9
  | 0=>some { keep:=[1,2,6,7,13,14],objs:=[(8,2,108002,.ints 37 .u64 [])],boxes:=[6,7] }
  | 2=>some { keep:=[1,2,6,7,8,13,14,17,18],objs:=[(8,2,108002,.ints 37 .u64 [])],boxes:=[6,7] }
  | _=>none
def Aa.of.Br.own.Bb:List (Nat × Entry):=[(205,Aa.Dy.spec)]
def Aa.of.Br.own.E:Env:=Be (Ba Aa.of.Br.own.Bb) (fun _=>false) Aa.of.Br.own.hint (fun _=>none)
abbrev _root_.Go.Proofs.S1.Aa.of.Br.own.Kn:=A8 Tryz.prog 187 Aa.of.Br.own.spec
theorem Aa.of.Br.own.Ad (hk:Az Tryz.prog Aa.of.Br.own.Bb) (h:∀ (a b:Int),Aa.of.Br.own.pre [.i a,.i b]=true→Bf Aa.of.Br.own.E Tryz.f187 [.int .i64 a,.int .i64 b,.fn 205 [] []] (Aa.of.Br.own.out [.i a,.i b])):Aa.of.Br.own.Kn :=
  Ak (A0 hk _ _ _) Tryz.func187 (by kernel_rfl) (by kernel_rfl) h
def Aa.Br.own.Bb:List (Nat × Entry):=[(187,Aa.of.Br.own.spec),(204,Aa.size.spec)]
def Aa.Br.own.E:Env:=Be (Ba Aa.Br.own.Bb) (fun n=>Nat.beq n 17) (fun _=>none) (fun _=>none)
theorem Aa.Br.own.ev (N:Nat) (a b:Int):B0 Aa.Br.own.E N Tryz.f151 (Al Tryz.f151) [.int .i64 a,.int .i64 b]=bif ((!(Bj a))||(!(Bj b))) then some (.tup [.agg [.int .i64 0,.int .i64 0,.nil],.int .i64 3]) else bif (Bj a&&Bj b) then some (.tup [.agg [.int .i64 a,.int .i64 b,.ints (.own 1136 37) .u64 (Bl (Int.toNat a) (Int.toNat b) (fun _ _=>0))],.int .i64 0]) else none :=
  Eq.trans (by kernel_rfl)
  (Ar (Ada (Bj a)) (Ar (T7 (Bj a)) (Ar (T7 (Bj a)) (Ar (Adb (Bj a)) (C3 (Aqf (Bj a) (Bj b)) rfl rfl)))))
abbrev _root_.Go.Proofs.S1.Aa.Br.own.Kn:=A8 Tryz.prog 151 Aa.Br.own.spec
theorem Aa.Br.own.Ad (hk:Az Tryz.prog Aa.Br.own.Bb) (h:∀ (a b:Int),Aa.Br.own.pre [.i a,.i b]=true→Bf Aa.Br.own.E Tryz.f151 [.int .i64 a,.int .i64 b] (Aa.Br.own.out [.i a,.i b])):Aa.Br.own.Kn :=
  Ak (A0 hk _ _ _) Tryz.func151 (by kernel_rfl) (by kernel_rfl) h
def solve.As.Up.hint:Nat→Option A9
  | 0=>some { keep:=[2,3,4,5,8,10,11,28,29],objs:=[(12,2,112002,.ints 37 .u64 [])],boxes:=[4,5,8,11] }
  | 2=>some { keep:=[2,3,4,5,8,10,11,13,28,29,32,33],objs:=[(12,2,112002,.ints 37 .u64 [])],boxes:=[4,5,8,11] }
  | 4=>some { keep:=[2,3,4,5,8,10,11,13,15,16,28,29,32,33,49,50],objs:=[(12,2,112002,.ints 37 .u64 [])],boxes:=[4,5,8,11] }
  | _=>none
def solve.As.Up.Bb:List (Nat × Entry):=[(103,Cu.Ct.up.spec),(151,Aa.Br.own.spec),(104,solve.D5.spec),(158,Af.Div.spec),(150,Af.Finite.spec),(157,Af.Mul.spec),(156,Af.Sub.spec)]
def solve.As.Up.E:Env:=Be (Ba solve.As.Up.Bb) (fun n=>Nat.beq n 24) solve.As.Up.hint (fun _=>none)
def solve.As.Up.L0 (N M:Nat) (r c:Int) (l:List Int) (p q:Int) (m:List Int) (n p29:Int) (p2_2:List Int):Option DV:=B7 solve.As.Up.E N Tryz.f76 (Al Tryz.f76) [1,1,1,0,1,0] [] M ⟨Fy 108 [(2,.fn 103 [.int .i64 n] []),(3,.fn 104 [] []),(4,.ptr 4 0 0),(5,.ptr 5 0 0),(8,.ptr 8 0 0),(10,.int .i64 r),(11,.ptr 11 0 0),(28,.int .i64 q),(29,.int .i64 p29)],[(4,false,.box [.int .i64 r,.int .i64 c,.ints .arg .u64 l]),(5,false,.box [.int .i64 p,.int .i64 q,.ints .arg .u64 m]),(8,false,.box [.int .i64 0,.int .i64 0,.nil]),(11,false,.box [.int .i64 r,.int .i64 q,.oref 112002]),(112002,false,.ints 37 .u64 p2_2)]⟩
def solve.As.Up.L1 (N M0 M:Nat) (r c:Int) (l:List Int) (p q:Int) (m:List Int) (n p33:Int) (p2:List Int) (p13 p29_1:Int):Option DV:=B7 solve.As.Up.E N Tryz.f76 (Al Tryz.f76) [1,1,1,0,1,0,0,1,1,0,0,1,0,1,1,0] [M0] M ⟨Fy 108 [(2,.fn 103 [.int .i64 n] []),(3,.fn 104 [] []),(4,.ptr 4 0 0),(5,.ptr 5 0 0),(8,.ptr 8 0 0),(10,.int .i64 r),(11,.ptr 11 0 0),(13,.int .i64 p13),(28,.int .i64 q),(29,.int .i64 p29_1),(32,.int .i64 r),(33,.int .i64 p33)],[(4,false,.box [.int .i64 r,.int .i64 c,.ints .arg .u64 l]),(5,false,.box [.int .i64 p,.int .i64 q,.ints .arg .u64 m]),(8,false,.box [.int .i64 0,.int .i64 0,.nil]),(11,false,.box [.int .i64 r,.int .i64 q,.oref 112002]),(112002,false,.ints 37 .u64 p2)]⟩
def solve.As.Up.L2 (N M0 M1 M:Nat) (r c:Int) (l:List Int) (p q:Int) (m:List Int) (n p16:Int) (p50 p13_1:Int) (p15 p29_2 p33_1:Int) (p2_1:List Int):Option DV:=B7 solve.As.Up.E N Tryz.f76 (Al Tryz.f76) [1,1,1,0,1,0,0,1,1,0,0,1,0,1,1,0,0,1,1,0,0,1,1,1,0,1,0] [M0,M1] M ⟨Fy 108 [(2,.fn 103 [.int .i64 n] []),(3,.fn 104 [] []),(4,.ptr 4 0 0),(5,.ptr 5 0 0),(8,.ptr 8 0 0),(10,.int .i64 r),(11,.ptr 11 0 0),(13,.int .i64 p13_1),(15,.int .i64 p15),(16,.int .u64 p16),(28,.int .i64 q),(29,.int .i64 p29_2),(32,.int .i64 r),(33,.int .i64 p33_1),(49,.int .i64 r),(50,.int .i64 p50)],[(4,false,.box [.int .i64 r,.int .i64 c,.ints .arg .u64 l]),(5,false,.box [.int .i64 p,.int .i64 q,.ints .arg .u64 m]),(8,false,.box [.int .i64 0,.int .i64 0,.nil]),(11,false,.box [.int .i64 r,.int .i64 q,.oref 112002]),(112002,false,.ints 37 .u64 p2_1)]⟩
theorem solve.As.Up.At (N M:Nat) (r c:Int) (l:List Int) (p q:Int) (m:List Int) (n p29:Int) (p2_2:List Int):solve.As.Up.L0 N (M+1) r c l p q m n p29 p2_2=bif (A4 p29 q) then solve.As.Up.L1 N M N r c l p q m n 0 p2_2 p29 p29 else bif (Cw p2_2) then bif (!(Dw p2_2)) then some (.tup [.agg [.int .i64 0,.int .i64 0,.nil],.int .i64 2]) else some (.tup [.agg [.int .i64 r,.int .i64 q,.ints (.own 112002 37) .u64 p2_2],.int .i64 0]) else none:=by kernel_rfl
theorem solve.As.Up.Ck (N M0 M:Nat) (r c:Int) (l:List Int) (p q:Int) (m:List Int) (n p33:Int) (p2:List Int) (p13 p29_1:Int):solve.As.Up.L1 N M0 (M+1) r c l p q m n p33 p2 p13 p29_1=bif (A4 p33 r) then bif (Cr (0≤p33∧p33<n∧n≤10)) then bif ((decide (0≤(Ab ((Ab ((n-1-p33)*q))+p13))))&&(decide ((Ab ((Ab ((n-1-p33)*q))+p13))<(List.length m:Int)))) then solve.As.Up.L2 N M0 M N r c l p q m n (List.getD m (Int.toNat (Ab ((Ab ((n-1-p33)*q))+p13))) 0) 0 p13 (n-1-p33) p29_1 p33 p2 else none else none else solve.As.Up.L0 N M0 r c l p q m n (Ab (p29_1+1)) p2:=by kernel_rfl
theorem solve.As.Up.Hd (N M0 M1 M:Nat) (r c:Int) (l:List Int) (p q:Int) (m:List Int) (n p16:Int) (p50 p13_1:Int) (p15 p29_2 p33_1:Int) (p2_1:List Int):solve.As.Up.L2 N M0 M1 (M+1) r c l p q m n p16 p50 p13_1 p15 p29_2 p33_1 p2_1=bif (A4 p50 r) then bif (decide (p15<p50)) then bif ((decide (0≤(Ab ((Ab (p15*r))+p50))))&&(decide ((Ab ((Ab (p15*r))+p50))<(List.length l:Int)))) then bif ((decide (0≤(Ab ((Ab (p50*q))+p13_1))))&&(decide ((Ab ((Ab (p50*q))+p13_1))<(List.length p2_1:Int)))) then bif (decide ((Int.toNat (Ab ((Ab (p50*q))+p13_1)))<(List.length p2_1))) then bif (Ai (List.getD l (Int.toNat (Ab ((Ab (p15*r))+p50))) 0)&&Ai (List.getD p2_1 (Int.toNat (Ab ((Ab (p50*q))+p13_1))) 0)) then bif (Ai p16&&Ai (Eg (List.getD l (Int.toNat (Ab ((Ab (p15*r))+p50))) 0) (List.getD p2_1 (Int.toNat (Ab ((Ab (p50*q))+p13_1))) 0))) then solve.As.Up.L2 N M0 M1 M r c l p q m n (Dk p16 (Eg (List.getD l (Int.toNat (Ab ((Ab (p15*r))+p50))) 0) (List.getD p2_1 (Int.toNat (Ab ((Ab (p50*q))+p13_1))) 0))) (Ab (p50+1)) p13_1 p15 p29_2 p33_1 p2_1 else none else none else none else none else none else solve.As.Up.L2 N M0 M1 M r c l p q m n p16 (Ab (p50+1)) p13_1 p15 p29_2 p33_1 p2_1 else bif ((decide (0≤(Ab ((Ab (p15*r))+p15))))&&(decide ((Ab ((Ab (p15*r))+p15))<(List.length l:Int)))) then bif (Ai p16&&Ai (List.getD l (Int.toNat (Ab ((Ab (p15*r))+p15))) 0)) then bif ((decide (0≤(Ab ((Ab (p15*q))+p13_1))))&&(decide ((Ab ((Ab (p15*q))+p13_1))<(List.length p2_1:Int)))) then bif (decide ((Int.toNat (Ab ((Ab (p15*q))+p13_1)))<(List.length p2_1))) then solve.As.Up.L1 N M0 M1 r c l p q m n (Ab (p33_1+1)) (List.set p2_1 (Int.toNat (Ab ((Ab (p15*q))+p13_1))) (Eo p16 (List.getD l (Int.toNat (Ab ((Ab (p15*r))+p15))) 0))) p13_1 p29_2 else none else none else none else none :=
  Eq.trans (by kernel_rfl)
  (Ev (Ev (C3 (Li (decide (0≤(Ab ((Ab (p15*r))+p50)))) (decide ((Ab ((Ab (p15*r))+p50))<(List.length l:Int)))) (C3 (Li (decide (0≤(Ab ((Ab (p50*q))+p13_1)))) (decide ((Ab ((Ab (p50*q))+p13_1))<(List.length p2_1:Int)))) (C3 (C4 (decide ((Int.toNat (Ab ((Ab (p50*q))+p13_1)))<(List.length p2_1)))) (C3 (C4 (Ai (List.getD l (Int.toNat (Ab ((Ab (p15*r))+p50))) 0)&&Ai (List.getD p2_1 (Int.toNat (Ab ((Ab (p50*q))+p13_1))) 0))) (C3 (C4 (Ai p16&&Ai (Eg (List.getD l (Int.toNat (Ab ((Ab (p15*r))+p50))) 0) (List.getD p2_1 (Int.toNat (Ab ((Ab (p50*q))+p13_1))) 0)))) rfl rfl) rfl) rfl) rfl) rfl) rfl) (C3 (Li (decide (0≤(Ab ((Ab (p15*r))+p15)))) (decide ((Ab ((Ab (p15*r))+p15))<(List.length l:Int)))) (C3 (C4 (Ai p16&&Ai (List.getD l (Int.toNat (Ab ((Ab (p15*r))+p15))) 0))) (C3 (Li (decide (0≤(Ab ((Ab (p15*q))+p13_1)))) (decide ((Ab ((Ab (p15*q))+p13_1))<(List.length p2_1:Int)))) (C3 (C4 (decide ((Int.toNat (Ab ((Ab (p15*q))+p13_1)))<(List.length p2_1)))) rfl rfl) rfl) rfl) rfl))
theorem solve.As.Up.ev (N:Nat) (r c:Int) (l:List Int) (p q:Int) (m:List Int) (n:Int):B0 solve.As.Up.E N Tryz.f76 (Al Tryz.f76) [.agg [.int .i64 r,.int .i64 c,.ints .arg .u64 l],.agg [.int .i64 p,.int .i64 q,.ints .arg .u64 m],.fn 103 [.int .i64 n] [],.fn 104 [] []]=bif (Bj r&&Bj q) then solve.As.Up.L0 N N r c l p q m n 0 (Bl (Int.toNat r) (Int.toNat q) (fun _ _=>0)) else none:=by kernel_rfl
abbrev _root_.Go.Proofs.S1.solve.As.Up.Kn:=A8 Tryz.prog 76 solve.As.Up.spec
theorem solve.As.Up.Ad (hk:Az Tryz.prog solve.As.Up.Bb) (h:∀ (r c:Int) (l:List Int) (p q:Int) (m:List Int) (n:Int),solve.As.Up.pre [.i r,.i c,.l l,.i p,.i q,.l m,.i n]=true→Bf solve.As.Up.E Tryz.f76 [.agg [.int .i64 r,.int .i64 c,.ints .arg .u64 l],.agg [.int .i64 p,.int .i64 q,.ints .arg .u64 m],.fn 103 [.int .i64 n] [],.fn 104 [] []] (solve.As.Up.out [.i r,.i c,.l l,.i p,.i q,.l m,.i n])):solve.As.Up.Kn :=
  Ak (A0 hk _ _ _) Tryz.func76 (by kernel_rfl) (by kernel_rfl) h
def solve.Gu.Bb:List (Nat × Entry):=[(75,solve.check.spec),(76,solve.As.Up.spec)]
def solve.Gu.E:Env:=Be (Ba solve.Gu.Bb) (fun _=>false) (fun _=>none) (fun _=>none)
theorem solve.Gu.ev (N:Nat) (r c:Int) (l:List Int) (p q:Int) (m:List Int):B0 solve.Gu.E N Tryz.f36 (Al Tryz.f36) [.agg [.int .i64 r,.int .i64 c,.ints .arg .u64 l],.agg [.int .i64 p,.int .i64 q,.ints .arg .u64 m]]=bif (Ah l&&Ah m) then bif ((Mr r c l p q m) !=(0:Int)) then some (.tup [.agg [.int .i64 0,.int .i64 0,.nil],.int .i64 (Mr r c l p q m)]) else bif (N6 r c l p q m&&decide (r=r)) then some (.tup [.agg [.int .i64 ((Iw r q (upG c l q m (Int.toNat r) (Int.toNat q))).1),.int .i64 ((Iw r q (upG c l q m (Int.toNat r) (Int.toNat q))).2.1),.ints .fresh .u64 ((Iw r q (upG c l q m (Int.toNat r) (Int.toNat q))).2.2.1)],.int .i64 ((Iw r q (upG c l q m (Int.toNat r) (Int.toNat q))).2.2.2)]) else none else none:=by kernel_rfl
abbrev _root_.Go.Proofs.S1.solve.Gu.Kn:=A8 Tryz.prog 36 solve.Gu.spec
theorem solve.Gu.Ad (hk:Az Tryz.prog solve.Gu.Bb) (h:∀ (r c:Int) (l:List Int) (p q:Int) (m:List Int),solve.Gu.pre [.i r,.i c,.l l,.i p,.i q,.l m]=true→Bf solve.Gu.E Tryz.f36 [.agg [.int .i64 r,.int .i64 c,.ints .arg .u64 l],.agg [.int .i64 p,.int .i64 q,.ints .arg .u64 m]] (solve.Gu.out [.i r,.i c,.l l,.i p,.i q,.l m])):solve.Gu.Kn :=
  Ak (A0 hk _ _ _) Tryz.func36 (by kernel_rfl) (by kernel_rfl) h
def solve.Flat.hint:Nat→Option A9
  | 0=>some { keep:=[1,5,6],objs:=[(0,5,100005,.ints 37 .u64 [])],boxes:=[1] }
  | 2=>some { keep:=[7,44,45,46],objs:=[(0,44,100044,.ints 37 .u64 [])],boxes:=[] }
  | _=>none
def solve.Flat.Bb:List (Nat × Entry):=[(86,Cb.Check.spec),(87,compare.T6.spec),(90,compare.Kq.spec),(89,Af.Cm.spec),(88,Af.Bx.spec)]
def solve.Flat.E:Env:=Be (Ba solve.Flat.Bb) (fun _=>false) solve.Flat.hint (fun _=>none)
def solve.Flat.L0 (N M:Nat) (r c:Int) (l:List Int) (p6:Int) (p5:List Int):Option DV:=B7 solve.Flat.E N Tryz.f24 (Al Tryz.f24) [1,1,1,0,1,0] [] M ⟨Fy 55 [(1,.ptr 1 0 0),(5,.oref 100005),(6,.int .i64 p6)],[(1,false,.box [.int .i64 r,.int .i64 c,.ints .arg .u64 l]),(100005,false,.ints 37 .u64 p5)]⟩
def solve.Flat.L1 (N M:Nat) (p5:List Int) (p46:Int):Option DV:=B7 solve.Flat.E N Tryz.f24 (Al Tryz.f24) [1,1,1,1,1,0,1,0] [] M ⟨Fy 55 [(7,.int .u64 (Cg (Bq p5) (-40:Int))),(44,.oref 100044),(45,.int .i64 (List.length p5:Int)),(46,.int .i64 p46)],[(100044,false,.ints 37 .u64 p5)]⟩
theorem solve.Flat.At (N M:Nat) (r c:Int) (l:List Int) (p6:Int) (p5:List Int):solve.Flat.L0 N (M+1) r c l p6 p5=bif ((A4 p6 r)&&(A4 p6 c)) then bif ((decide (0≤(Ab ((Ab (p6*c))+p6))))&&(decide ((Ab ((Ab (p6*c))+p6))<(List.length l:Int)))) then bif (Ai (List.getD l (Int.toNat (Ab ((Ab (p6*c))+p6))) 0)) then bif (decide ((List.length p5)+1≤Gf)) then solve.Flat.L0 N M r c l (Ab (p6+1)) (p5++[(Abu (List.getD l (Int.toNat (Ab ((Ab (p6*c))+p6))) 0))]) else none else none else none else bif (Cw p5) then bif (Ew (Bq p5) (-40:Int)) then solve.Flat.L1 N N p5 (0:Int) else none else none :=
  Eq.trans (by kernel_rfl)
  (Ar (N2 (A4 p6 r)) (Ar (N2 (A4 p6 r)) (Ar (Ke (A4 p6 r)) (Ar (Agd (A4 p6 r)) (Ar (Sj (A4 p6 r)) (C3 (tt1 (A4 p6 r) (A4 p6 c)) rfl rfl))))))
theorem solve.Flat.Ck (N M:Nat) (p5:List Int) (p46:Int):solve.Flat.L1 N (M+1) p5 p46=bif (A4 p46 (List.length p5:Int)) then bif ((decide (0≤p46))&&(decide (p46<(List.length p5:Int)))) then bif (decide ((Int.toNat p46)<(List.length p5))) then bif (Ai (Cg (Bq p5) (-40:Int))&&Ai (List.getD p5 (Int.toNat p46) 0)) then bif (!(decide (Adz (Cg (Bq p5) (-40:Int)) (List.getD p5 (Int.toNat p46) 0)<0))) then some (.tup [.bool true,.int .i64 0]) else solve.Flat.L1 N M p5 (Ab (p46+1)) else none else none else none else some (.tup [.bool false,.int .i64 0]):=by kernel_rfl
theorem solve.Flat.ev (N:Nat) (r c:Int) (l:List Int):B0 solve.Flat.E N Tryz.f24 (Al Tryz.f24) [.agg [.int .i64 r,.int .i64 c,.ints .arg .u64 l]]=bif (Ah l) then bif ((B6 r c l) !=(0:Int)) then some (.tup [.bool false,.int .i64 (B6 r c l)]) else solve.Flat.L0 N N r c l 0 [] else none:=by kernel_rfl
abbrev _root_.Go.Proofs.S1.solve.Flat.Kn:=A8 Tryz.prog 24 solve.Flat.spec
theorem solve.Flat.Ad (hk:Az Tryz.prog solve.Flat.Bb) (h:∀ (r c:Int) (l:List Int),solve.Flat.pre [.i r,.i c,.l l]=true→Bf solve.Flat.E Tryz.f24 [.agg [.int .i64 r,.int .i64 c,.ints .arg .u64 l]] (solve.Flat.out [.i r,.i c,.l l])):solve.Flat.Kn :=
  Ak (A0 hk _ _ _) Tryz.func24 (by kernel_rfl) (by kernel_rfl) h
end EqSol
open EqSol
theorem solve.D5.known:solve.D5.Kn:=solve.D5.Ad .nil fun i k _=>by
  refine ⟨0,solve.D5.out [.i i,.i k],[],?_,.bool⟩
  rw [solve.D5.ev,Au]; rfl
theorem Ajp.known:Cu.Ct.up.Kn:=Cu.Ct.up.Ad .nil fun n k hp=>by
  have hp:=Ap.1 (show Cr (0≤k∧k<n∧n≤10)=true from hp)
  refine ⟨0,Cu.Ct.up.out [.i n,.i k],[],?_,.int⟩
  rw [Cu.Ct.up.ev,An (x:=n-1) (by omega) (by omega),An (by omega) (by omega)]; rfl
theorem Aa.of.Br.own.known:Aa.of.Br.own.Kn:=Aa.of.Br.own.Ad (.cons Aa.Dy.known .nil) fun a b hp=>by
  have h1:(Bj a&&Bj b)=true:=hp
  obtain ⟨ha,hb⟩:=Ag.1 h1
  obtain ⟨A,rfl,hA⟩:=Ff ha
  obtain ⟨B,rfl,hB⟩:=Ff hb
  refine ⟨8,.agg [.int .i64 (A:Int),.int .i64 (B:Int),.ints (.own 108002 tB) .u64 (Bl A B fun (i j:Nat)=>(0:Int))],[],?_,Wk.Ix (.cons .int (.cons .int (.cons (.keep _ _ _ _ List.not_mem_nil) .nil)))⟩
  have n:=of.Br.outer 8 hA hB (by omega) (F:=fun (i j:Nat)=>(0:Int)) (fun _ _=>rfl) A 0 8 (by omega) (by omega)
  rw [Ky] at n
  exact (EqOf.Aa.of.Br.ev 8 (A:Int) (B:Int)).trans n
theorem Aa.Br.own.known:Aa.Br.own.Kn:=Aa.Br.own.Ad (.cons Aa.of.Br.own.known (.cons Aa.size.known .nil)) fun a b hp=>by
  have hp:(Bj a&&Bj b)=true:=hp
  obtain ⟨ha,hb⟩:=Ag.1 hp
  refine ⟨0,Aa.Br.own.out [.i a,.i b],[],?_,?_⟩
  · rw [Aa.Br.own.ev,ha,hb]; rfl
  · exact Wk.Gm (.cons (Wk.Ix (.cons .int (.cons .int (.cons (.keep _ _ _ _ List.not_mem_nil) .nil)))) (.cons .int .nil))
section
variable {n Q:Nat} {l m:List Int}
def upF (n Q:Nat) (l m:List Int) (i j:Nat):Int:=(Ys (n:Int) l (fun i=>Ee (Q:Int) m (i:Int) (j:Int)) n n).getD i 0
def upD (n j k a b:Nat):Bool:=decide (b<j∨(b=j∧n-k≤a))
def Tj (n Q:Nat) (l m:List Int) (j k:Nat):List Int:=Bl n Q fun a b=>if upD n j k a b=true then upF n Q l m a b else 0
theorem Aiq (i j:Nat):Ai (upF n Q l m i j)=true:=R7 (Ac6 _ _ _ _ _) i
theorem Ap0 (j k:Nat):Ah (Tj n Q l m j k)=true:=Gr fun a b=>by
  split
  · exact Aiq _ _
  · exact B5 (n:=0) (by decide)
theorem Amr {j k t:Nat} (ht:t<n) (hj:j<Q) (hk:n-k≤t):Ee (Q:Int) (Tj n Q l m j k) (t:Int) (j:Int)=upF n Q l m t j:=by
  unfold Tj
  have hd:upD n j k t j=true:=Aul (.inr ⟨rfl,hk⟩)
  rw [R6 ht hj,hd,if_pos rfl]
theorem Yr (j k:Nat):(Tj n Q l m j k).length=n*Q:=Bu _ _ _
theorem Ain (N:Nat) (n6:n≤6) (q6:Q≤6) (hl:l.length=n*n) (al:Ah l=true) {i j k:Nat} (hi:i+k+1=n) (hj:j<Q) (M0 M1:Nat) (p29 p33:Int) :
    ∀ (cnt t F:Nat) (s:Int),t+cnt=n→cnt<F→i+1≤t→Ai s=true →
    solve.As.Up.L2 N M0 M1 F (n:Int) (n:Int) l (n:Int) (Q:Int) m (n:Int) s (t:Int) (j:Int) (i:Int) p29 p33 (Tj n Q l m j k) =
    solve.As.Up.L1 N M0 M1 (n:Int) (n:Int) l (n:Int) (Q:Int) m (n:Int) (Ab (p33+(1:Int))) (List.set (Tj n Q l m j k) (Int.toNat ((i:Int)*(Q:Int)+(j:Int))) (Eo (K8 (n:Int) l (i:Int) s (t:Int) ((Ys (n:Int) l (fun i=>Ee (Q:Int) m (i:Int) (j:Int)) n n).drop t)) (Ee (n:Int) l (i:Int) (i:Int)))) (j:Int) p29:=by
  intro cnt
  induction cnt with
  | zero =>
    intro t F s ht hF hit hs
    obtain ⟨F,rfl⟩:∃ G,F=G+1:=⟨F-1,by omega⟩
    obtain ⟨e1,g1,g2⟩:=Gt (R:=(n:Int)) (Fk n6 n6 hl (show i<n by omega) (show i<n by omega))
    obtain ⟨e2,g3,g4⟩:=Gt (R:=(n:Int)) (Fk n6 q6 (Yr (l:=l) (m:=m) j k) (show i<n by omega) hj)
    rw [Auy (by rw [Qf]; omega),K8]
    rw [solve.As.Up.Hd,Au,Aup (show ¬ (t:Int)<(n:Int) by omega),Auo,e1,Aul g1,Aul g2,Auq,Auk,hs,show Ai (List.getD l (Int.toNat ((i:Int)*(n:Int)+(i:Int))) 0)=true from Hv (c:=(n:Int)) al,Auq,Auk,
      e2,Aul g3,Aul g4,Auq,Auk,Aul (show Int.toNat ((i:Int)*(Q:Int)+(j:Int))<(Tj n Q l m j k).length by omega),Auk]
    rfl
  | succ cnt ih =>
    intro t F s ht hF hit hs
    obtain ⟨F,rfl⟩:∃ G,F=G+1:=⟨F-1,by omega⟩
    obtain ⟨e1,g1,g2⟩:=Gt (R:=(n:Int)) (Fk n6 n6 hl (show i<n by omega) (show t<n by omega))
    obtain ⟨e2,g3,g4⟩:=Gt (R:=(n:Int)) (Fk n6 q6 (Yr (l:=l) (m:=m) j k) (show t<n by omega) hj)
    have hx:List.getD (Tj n Q l m j k) (Int.toNat ((t:Int)*(Q:Int)+(j:Int))) 0=upF n Q l m t j:=Amr (by omega) hj (by omega)
    rw [solve.As.Up.Hd,Au,Aul (show (t:Int)<(n:Int) by omega),Auk,Aul (show (i:Int)<(t:Int) by omega),Auk,e1,Aul g1,Aul g2,Auq,Auk,
      e2,Aul g3,Aul g4,Auq,Auk,Aul (show Int.toNat ((t:Int)*(Q:Int)+(j:Int))<(Tj n Q l m j k).length by omega),Auk,hx,
      show Ai (List.getD l (Int.toNat ((i:Int)*(n:Int)+(t:Int))) 0)=true from Hv (c:=(n:Int)) al,Aiq,Auq,Auk,hs,L7,Auq,Auk,An (x:=(t:Int)+1) (by omega) (by omega)]
    have:=ih (t+1) F (Dk s (Eg (Ee (n:Int) l (i:Int) (t:Int)) (upF n Q l m t j))) (by omega) (by omega) (by omega) (N7 hs (L7 _ _))
    rw [X0 (by rw [Qf]; omega)]
    exact this
theorem Amn (N:Nat) (n6:n≤6) {i j k:Nat} (hi:i<n) (M0 M1:Nat) (p29 p33 s:Int):∀ (cnt t F:Nat),t+cnt=i+1 →
    solve.As.Up.L2 N M0 M1 (F+cnt) (n:Int) (n:Int) l (n:Int) (Q:Int) m (n:Int) s (t:Int) (j:Int) (i:Int) p29 p33 (Tj n Q l m j k) =
    solve.As.Up.L2 N M0 M1 F (n:Int) (n:Int) l (n:Int) (Q:Int) m (n:Int) s ((i+1:Nat):Int) (j:Int) (i:Int) p29 p33 (Tj n Q l m j k):=by
  intro cnt
  induction cnt with
  | zero =>
    intro t F ht
    obtain rfl:t=i+1:=by omega
    rfl
  | succ cnt ih =>
    intro t F ht
    rw [← Nat.add_assoc,solve.As.Up.Hd,Au,Aul (show (t:Int)<(n:Int) by omega),Auk,Aup (show ¬ (i:Int)<(t:Int) by omega),Auo,An (by omega) (by omega)]
    exact ih (t+1) F (by omega)
theorem Amq {i j k:Nat} (hi:i+k+1=n) (hj:j<Q) {x:Int} (hx:x=upF n Q l m i j):List.set (Tj n Q l m j k) (Int.toNat ((i:Int)*(Q:Int)+(j:Int))) x=Tj n Q l m j (k+1):=by
  refine Wl hj hx fun a b ha hb=>?_
  unfold upD
  rw [Aur,Aur]
  omega
theorem Amo (N:Nat) (n6:n≤6) (q6:Q≤6) (hN:7<N) (hl:l.length=n*n) (hm:m.length=n*Q) (al:Ah l=true) (am:Ah m=true) {j:Nat} (hj:j<Q) (M0:Nat):∀ (cnt k F:Nat),k+cnt=n→cnt<F →
    solve.As.Up.L1 N M0 F (n:Int) (n:Int) l (n:Int) (Q:Int) m (n:Int) (k:Int) (Tj n Q l m j k) (j:Int) (j:Int) =
    solve.As.Up.L0 N M0 (n:Int) (n:Int) l (n:Int) (Q:Int) m (n:Int) ((j+1:Nat):Int) (Tj n Q l m j n):=by
  intro cnt
  induction cnt with
  | zero =>
    intro k F hk hF
    obtain ⟨F,rfl⟩:∃ G,F=G+1:=⟨F-1,by omega⟩
    obtain rfl:k=n:=by omega
    rw [solve.As.Up.Ck,Au,Aup (by omega),Auo,An (by omega) (by omega)]
    rfl
  | succ cnt ih =>
    intro k F hk hF
    obtain ⟨F,rfl⟩:∃ G,F=G+1:=⟨F-1,by omega⟩
    obtain ⟨i,hi⟩:∃ i:Nat,i+k+1=n:=⟨n-k-1,by omega⟩
    have ei:(n:Int)-1-(k:Int)=(i:Int):=by omega
    obtain ⟨e2,g3,g4⟩:=Gt (R:=(n:Int)) (Fk n6 q6 hm (show i<n by omega) hj)
    rw [solve.As.Up.Ck,Au,Aul (show (k:Int)<(n:Int) by omega),Auk,Ap.2 (show 0≤(k:Int)∧(k:Int)<(n:Int)∧(n:Int)≤10 by omega),Auk,ei,e2,Aul g3,Aul g4,Auq,Auk]
    obtain ⟨G,rfl⟩:∃ G,N=G+(i+1):=⟨N-(i+1),by omega⟩
    have hs:=Amn (n:=n) (Q:=Q) (l:=l) (m:=m) (G+(i+1)) n6 (i:=i) (j:=j) (k:=k) (by omega) M0 F (j:Int) (k:Int) (Ee (Q:Int) m (i:Int) (j:Int)) (i+1) 0 G (by omega)
    have hr:=Ain (n:=n) (Q:=Q) (l:=l) (m:=m) (G+(i+1)) n6 q6 hl al hi hj M0 F (j:Int) (k:Int) (n-(i+1)) (i+1) G (Ee (Q:Int) m (i:Int) (j:Int)) (by omega) (by omega) (by omega) (Hv (c:=(Q:Int)) am)
    rw [Amq hi hj (Amt (show i<n by omega)).symm,An (by omega) (by omega)] at hr
    exact (hs.trans hr).trans (ih (k+1) F (by omega) (by omega))
theorem Aip (j:Nat):Tj n Q l m j n=Tj n Q l m (j+1) 0:=by
  unfold Tj
  refine C9 fun a b ha hb=>?_
  have:upD n j n a b=upD n (j+1) 0 a b:=by
    unfold upD
    rw [decide_eq_decide]
    omega
  rw [this]
theorem Aio:Tj n Q l m 0 0=Bl n Q fun _ _=>0:=by
  unfold Tj
  refine C9 fun a b ha hb=>?_
  have:upD n 0 0 a b=false:=Aup (by omega)
  rw [this]; rfl
theorem Ams:Tj n Q l m Q 0=upG (n:Int) l (Q:Int) m n Q:=by
  unfold Tj upG
  refine C9 fun a b ha hb=>?_
  have:upD n Q 0 a b=true:=Aul (.inl hb)
  rw [this]; rfl
theorem Amp (N:Nat) (n6:n≤6) (q6:Q≤6) (hN:7<N) (hl:l.length=n*n) (hm:m.length=n*Q) (al:Ah l=true) (am:Ah m=true):∀ (cnt j F:Nat),j+cnt=Q→cnt<F →
    solve.As.Up.L0 N F (n:Int) (n:Int) l (n:Int) (Q:Int) m (n:Int) (j:Int) (Tj n Q l m j 0) =
    bif Dw (Tj n Q l m Q 0) then some (.tup [.agg [.int .i64 (n:Int),.int .i64 (Q:Int),.ints (.own 112002 tB) .u64 (Tj n Q l m Q 0)],.int .i64 (0:Int)]) else some (Ag4 2):=by
  intro cnt
  induction cnt with
  | zero =>
    intro j F hj hF
    obtain ⟨F,rfl⟩:∃ G,F=G+1:=⟨F-1,by omega⟩
    obtain rfl:j=Q:=by omega
    have h36:=Nat.mul_le_mul n6 q6
    rw [solve.As.Up.At,Au,Aup (by omega),Auo,K5 (Ap0 _ _) (by rw [Yr]; omega),Auk]
    cases Dw (Tj n j l m j 0)<;>rfl
  | succ cnt ih =>
    intro j F hj hF
    obtain ⟨F,rfl⟩:∃ G,F=G+1:=⟨F-1,by omega⟩
    have hr:=Amo N n6 q6 hN hl hm al am (show j<Q by omega) F n 0 N (by omega) (by omega)
    rw [Aip] at hr
    rw [solve.As.Up.At,Au,Aul (show (j:Int)<(Q:Int) by omega),Auk]
    exact hr.trans (ih (j+1) F (by omega) (by omega))
end
theorem solve.As.Up.known:solve.As.Up.Kn:=solve.As.Up.Ad (.cons Ajp.known (.cons Aa.Br.own.known (.cons solve.D5.known (.cons Af.Div.known (.cons Af.Finite.known (.cons Af.Mul.known (.cons Af.Sub.known .nil))))))) fun r c l p q m n hp=>by
  show ∃ N dv drops,_=some dv∧Wk drops dv (Qk (Iw r q (upG c l q m (Int.toNat r) (Int.toNat q))))
  obtain ⟨h1,hn⟩:=Ag.1 (show (N6 r c l p q m&&decide (n=r))=true from hp)
  obtain ⟨h2,h3⟩:=Ag.1 h1
  obtain ⟨hr,hm⟩:=Ag.1 h2
  obtain ⟨h4,h5⟩:=Ag.1 h3
  obtain ⟨al,am⟩:=Ag.1 h4
  obtain ⟨rfl,rfl⟩:=Ap.1 h5
  obtain rfl:=of_decide_eq_true hn
  have s1:=(Fu hr).1
  have s2:=(Fu hm).2
  obtain ⟨R,C,rfl,hC,r6,c6,hl⟩:=Dj hr
  obtain ⟨P,Q,hP,rfl,p6,q6,hl2⟩:=Dj hm
  obtain rfl:R=C:=by omega
  obtain rfl:R=P:=by omega
  have h:=Amp (n:=R) (Q:=Q) (l:=l) (m:=m) 8 r6 q6 (by omega) hl hl2 al am Q 0 8 (by omega) (by omega)
  rw [Aio,Ams,show ((0:Nat):Int)=0 from rfl] at h
  rw [Aum,Aum]
  unfold Iw
  cases hf:Dw (upG (R:Int) l (Q:Int) m R Q) with
  | true =>
    rw [hf,Auk] at h
    rw [if_pos rfl]
    refine ⟨8,.tup [.agg [.int .i64 (R:Int),.int .i64 (Q:Int),.ints (.own 112002 tB) .u64 (upG (R:Int) l (Q:Int) m R Q)],.int .i64 0],[112002],?_,Wk.Gm (.cons (U0 (List.mem_singleton.2 rfl)) (.cons .int .nil))⟩
    rw [solve.As.Up.ev,s1,s2,Auq,Auk,Aum,Aum]
    exact h
  | false =>
    rw [hf,Auo] at h
    rw [if_neg (by decide)]
    refine ⟨8,Ag4 2,[],?_,Lk⟩
    rw [solve.As.Up.ev,s1,s2,Auq,Auk,Aum,Aum]
    exact h
namespace EqFew
def qr.Es.Bb:List (Nat × Entry):=[(123,Aa.Mul.spec),(167,Aa.Df.spec)]
def qr.Es.E:Env:=Be (Ba qr.Es.Bb) (fun _=>false) (fun _=>none) (fun _=>none)
theorem qr.Es.ev (N:Nat) (r c:Int) (l:List Int) (p q:Int) (m:List Int):B0 qr.Es.E N Tryz.f98 (Al Tryz.f98) [.agg [.int .i64 r,.int .i64 c,.ints .arg .u64 l],.agg [.int .i64 p,.int .i64 q,.ints .arg .u64 m]]=bif (((Bc r c l).2.2.2) !=(0:Int)) then some (.tup [.agg [.int .i64 0,.int .i64 0,.nil],.int .i64 ((Bc r c l).2.2.2)]) else bif (Ah ((Bc r c l).2.2.1)&&Ah m) then some (.tup [.agg [.int .i64 ((Ml ((Bc r c l).1) ((Bc r c l).2.1) ((Bc r c l).2.2.1) p q m).1),.int .i64 ((Ml ((Bc r c l).1) ((Bc r c l).2.1) ((Bc r c l).2.2.1) p q m).2.1),.ints .fresh .u64 ((Ml ((Bc r c l).1) ((Bc r c l).2.1) ((Bc r c l).2.2.1) p q m).2.2.1)],.int .i64 ((Ml ((Bc r c l).1) ((Bc r c l).2.1) ((Bc r c l).2.2.1) p q m).2.2.2)]) else none:=by kernel_rfl
abbrev _root_.Go.Proofs.S1.qr.Es.Kn:=A8 Tryz.prog 98 qr.Es.spec
theorem qr.Es.Ad (hk:Az Tryz.prog qr.Es.Bb) (h:∀ (r c:Int) (l:List Int) (p q:Int) (m:List Int),qr.Es.pre [.i r,.i c,.l l,.i p,.i q,.l m]=true→Bf qr.Es.E Tryz.f98 [.agg [.int .i64 r,.int .i64 c,.ints .arg .u64 l],.agg [.int .i64 p,.int .i64 q,.ints .arg .u64 m]] (qr.Es.out [.i r,.i c,.l l,.i p,.i q,.l m])):qr.Es.Kn :=
  Ak (A0 hk _ _ _) Tryz.func98 (by kernel_rfl) (by kernel_rfl) h
end EqFew
open EqSol EqFew
theorem Adu {n i:Nat} (h:i<n):(List.range n).drop i=i::(List.range n).drop (i+1):=by
  rw [List.drop_eq_getElem_cons (by rw [List.length_range]; exact h),List.getElem_range]
theorem G7 {r c:Int} {l:List Int} (h:B6 r c l=0):Bg r c l=true∧Dw l=true:=by
  unfold B6 at h
  by_cases h1:Bg r c l=true
  · rw [if_pos h1] at h
    by_cases h2:Dw l=true
    · exact ⟨h1,h2⟩
    · rw [if_neg h2] at h; exact absurd h (by decide)
  · rw [if_neg h1] at h; exact absurd h (by decide)
theorem Ars {r c:Int} {l:List Int} (h1:Bg r c l=true) (h2:Dw l=true):B6 r c l=0:=by unfold B6; rw [if_pos h1,if_pos h2]
theorem Ts {x:Int} (h:x≠0):(x !=(0:Int))=true:=by simpa using h
theorem F7 {x:Int} (h:x=0):(x !=(0:Int))=false:=by rw [h]; rfl
theorem Aev (N:Nat) {n:Nat} {l:List Int} (n6:n≤6) (hl:l.length=n*n) (al:Ah l=true):∀ (cnt i F:Nat),i+cnt=n→cnt<F →
    solve.check.L0 (N+4) F (n:Int) (n:Int) l (i:Int)=some (.int .i64 (if ((List.range n).drop i).any (fun i:Nat=>decide (A1 (Ee (n:Int) l (i:Int) (i:Int))=0))=true then 5 else 0)):=by
  intro cnt
  induction cnt with
  | zero =>
    intro i F hi hF
    obtain ⟨F,rfl⟩:∃ G,F=G+1:=⟨F-1,by omega⟩
    rw [solve.check.At,Au,Aup (by omega),Auo,Auy (by rw [List.length_range]; omega)]; rfl
  | succ cnt ih =>
    intro i F hi hF
    obtain ⟨F,rfl⟩:∃ G,F=G+1:=⟨F-1,by omega⟩
    obtain ⟨e1,g1,g2⟩:=Gt (R:=(n:Int)) (Fk n6 n6 hl (show i<n by omega) (show i<n by omega))
    have hx:List.getD l (Int.toNat ((i:Int)*(n:Int)+(i:Int))) 0=Ee (n:Int) l (i:Int) (i:Int):=rfl
    rw [solve.check.At,Au,Aul (show (i:Int)<(n:Int) by omega),Auk,e1,Aul g1,Aul g2,Auq,Auk,hx,Hv al,Auk,Adu (by omega),List.any_cons]
    by_cases hk:A1 (Ee (n:Int) l (i:Int) (i:Int))=0
    · have e:(A1 (Ee (n:Int) l (i:Int) (i:Int))==(0:Int))=true:=by rw [hk]; rfl
      rw [e,Auk,Aul hk]; rfl
    · have e:(A1 (Ee (n:Int) l (i:Int) (i:Int))==(0:Int))=false:=by simpa using hk
      rw [e,Auo,Aup hk,Bool.false_or,An (by omega) (by omega)]
      exact ih (i+1) F (by omega) (by omega)
theorem At2 {r c p:Int}:((r !=c)||(r !=p))=decide (r≠c∨r≠p):=by
  rw [Au0]; simp
theorem solve.check.known:solve.check.Kn:=solve.check.Ad (.cons Cb.Check.known (.cons soft.Kind.known .nil)) fun r c l p q m hp=>by
  obtain ⟨al,am⟩:=Ag.1 (show (Ah l&&Ah m)=true from hp)
  refine ⟨14,solve.check.out [.i r,.i c,.l l,.i p,.i q,.l m],[],?_,.int⟩
  show _=some (DV.int .i64 (Mr r c l p q m))
  rw [show (14:Nat)=10+4 from rfl,solve.check.ev,al,Auk,am,Auk,At2]
  unfold Mr
  by_cases h1:B6 r c l=0
  · rw [F7 h1,Auo,if_neg (by rw [h1]; decide)]
    by_cases h2:B6 p q m=0
    · rw [F7 h2,Auo,if_neg (by rw [h2]; decide)]
      by_cases h3:r≠c∨r≠p
      · rw [Aul h3,Auk,if_pos h3]
      · rw [Aup h3,Auo,if_neg h3]
        obtain rfl:r=c:=Decidable.byContradiction fun h=>h3 (.inl h)
        obtain ⟨R,C,rfl,hC,r6,c6,hl⟩:=Dj (G7 h1).1
        obtain rfl:R=C:=by omega
        rw [Aum]
        exact Aev 10 r6 hl al R 0 14 (by omega) (by omega)
    · rw [Ts h2,Auk,if_pos h2]
  · rw [Ts h1,Auk,if_pos h1]
theorem Pq {r c:Int} {l:List Int} {p q:Int} {m:List Int} (h:Mr r c l p q m=0):Bg r c l=true∧Bg p q m=true∧r=c∧r=p:=by
  unfold Mr at h
  by_cases h1:B6 r c l=0
  · rw [if_neg (by rw [h1]; decide)] at h
    by_cases h2:B6 p q m=0
    · rw [if_neg (by rw [h2]; decide)] at h
      by_cases h3:r≠c∨r≠p
      · rw [if_pos h3] at h; exact absurd h (by decide)
      · exact ⟨(G7 h1).1,(G7 h2).1,Decidable.byContradiction fun h=>h3 (.inl h),Decidable.byContradiction fun h=>h3 (.inr h)⟩
    · rw [if_pos h2] at h; exact absurd h h2
  · rw [if_pos h1] at h; exact absurd h h1
theorem solve.Gu.known:solve.Gu.Kn:=solve.Gu.Ad (.cons solve.check.known (.cons solve.As.Up.known .nil)) fun r c l p q m hp=>by
  have hp:(Ah l&&Ah m)=true:=hp
  show ∃ N dv drops,_=some dv∧Wk drops dv (Qk (Xc r c l p q m))
  unfold Xc
  by_cases h:Mr r c l p q m=0
  · obtain ⟨h1,h2,h3,h4⟩:=Pq h
    have ht:N6 r c l p q m=true:=Ag.2 ⟨Ag.2 ⟨h1,h2⟩,Ag.2 ⟨hp,Ap.2 ⟨h3,h4⟩⟩⟩
    rw [if_neg (by rw [h]; decide)]
    exact ⟨0,_,[],by rw [solve.Gu.ev,hp,Auk,F7 h,Auo,ht,Aul rfl]; rfl,Mu⟩
  · rw [if_pos h]
    exact ⟨0,_,[],by rw [solve.Gu.ev,hp,Auk,Ts h,Auk]; rfl,Lk⟩
theorem Ajd {b:Nat} {n:Int} (h:b<2^64):(Hs b n).1<2^64:=by
  unfold Hs
  by_cases h4:Ao b=4
  · rw [if_pos h4]; exact (by decide:W9<2^64)
  rw [if_neg h4]
  by_cases h3:Ao b=3∨Ao b=0
  · rw [if_pos h3]; exact h
  rw [if_neg h3]
  exact Q9 _ _ _
theorem Jm {b n:Int} (h:Ai b=true):Ai (Cg b n)=true:=by
  obtain ⟨x,rfl,hx⟩:=Bv h
  exact B5 (Ajd (by rw [Aum]; exact hx))
theorem Wq:∀ (l:List Int) (m:Nat),m<2^64→Aab l m<2^64
  | [],m,h=>h
  | x::l,m,h=>by
    unfold Aab
    split
    · exact (by decide:W9<2^64)
    · have h2:Aia x.toNat<2^63:=Yo x.toNat
      exact Wq l _ (by omega)
theorem Qy (l:List Int):Ai (Bq l)=true:=B5 (Wq l 0 (by decide))
theorem Aj9 (x:Int):Ai (Abu x)=true:=B5 (Nat.lt_trans (Yo x.toNat) (by decide))
theorem Aht (N:Nat) {d:List Int} (hd:Cw d=true) (h7:d.length≤1000):∀ (cnt i F:Nat),i+cnt=d.length→cnt<F →
    solve.Flat.L1 N F d (i:Int)=some (.tup [.bool ((d.drop i).any fun x=>!(decide (Adz (Cg (Bq d) (-40)) x<0))),.int .i64 0]):=by
  obtain ⟨_,hu⟩:=Kj hd
  intro cnt
  induction cnt with
  | zero =>
    intro i F hi hF
    obtain ⟨F,rfl⟩:∃ G,F=G+1:=⟨F-1,by omega⟩
    rw [solve.Flat.Ck,Au,Aup (by omega),Auo,Auy (by omega)]; rfl
  | succ cnt ih =>
    intro i F hi hF
    obtain ⟨F,rfl⟩:∃ G,F=G+1:=⟨F-1,by omega⟩
    rw [solve.Flat.Ck,Au,Aul (show (i:Int)<(d.length:Int) by omega),Auk,Aul (show (0:Int)≤(i:Int) by omega),Auq,Auk,Aum,Aul (show i<d.length by omega),Auk,
      Jm (Qy d),hu i (by omega),Auq,Auk,H5 (by omega),List.any_cons]
    cases decide (Adz (Cg (Bq d) (-40)) (d.getD i 0)<0) with
    | false=>rfl
    | true =>
      rw [Bool.not_true,Auo,Bool.false_or,An (by omega) (by omega)]
      exact ih (i+1) F (by omega) (by omega)
theorem Aot (c:Int) (l:List Int) (n:Nat):Ah (Tz c l n)=true:=Ap.2 fun x hx=>by
  obtain ⟨j,_,rfl⟩:=List.mem_map.1 hx
  exact Aj9 _
theorem Lv (c:Int) (l:List Int) (n:Nat):(Tz c l n).length=n:=by unfold Tz; rw [List.length_map,List.length_range]
theorem Ahu (N:Nat) {R C:Nat} {l:List Int} (r6:R≤6) (c6:C≤6) (hN:7<N) (hl:l.length=R*C) (al:Ah l=true):∀ (cnt i F:Nat),i+cnt=min R C→cnt<F →
    solve.Flat.L0 N F (R:Int) (C:Int) l (i:Int) (Tz (C:Int) l i)=some (.tup [.bool (Apq (Tz (C:Int) l (min R C))),.int .i64 0]):=by
  intro cnt
  induction cnt with
  | zero =>
    intro i F hi hF
    obtain ⟨F,rfl⟩:∃ G,F=G+1:=⟨F-1,by omega⟩
    obtain rfl:i=min R C:=by omega
    have hlt:(A4 (((min R C:Nat)):Int) (R:Int)&&A4 (((min R C:Nat)):Int) (C:Int))=false:=by
      rw [Au,Au,Bool.and_eq_false_iff,Au3,Au3]; omega
    have ok:=K5 (Aot (C:Int) l (min R C)) (by rw [Lv]; omega)
    have sp:Ew (Bq (Tz (C:Int) l (min R C))) (-40:Int)=true:=Ag.2 ⟨Qy _,Ap.2 (by omega)⟩
    rw [solve.Flat.At,hlt,Auo,ok,Auk,sp,Auk]
    exact Aht N ok (by rw [Lv]; omega) (min R C) 0 N (by rw [Lv]; omega) (by omega)
  | succ cnt ih =>
    intro i F hi hF
    obtain ⟨F,rfl⟩:∃ G,F=G+1:=⟨F-1,by omega⟩
    obtain ⟨e1,g1,g2⟩:=Gt (R:=(R:Int)) (Fk r6 c6 hl (show i<R by omega) (show i<C by omega))
    have hx:List.getD l (Int.toNat ((i:Int)*(C:Int)+(i:Int))) 0=Ee (C:Int) l (i:Int) (i:Int):=rfl
    rw [solve.Flat.At,Au,Au,Aul (show (i:Int)<(R:Int) by omega),Aul (show (i:Int)<(C:Int) by omega),Auq,Auk,e1,Aul g1,Aul g2,Auq,Auk,hx,Hv al,Auk,
      Lv,Aul (show i+1≤Gf by unfold Gf; omega),Auk,An (by omega) (by omega)]
    have:=ih (i+1) F (by omega) (by omega)
    unfold Tz at this ⊢
    rw [Ii] at this
    exact this
theorem solve.Flat.known:solve.Flat.Kn:=solve.Flat.Ad (.cons Cb.Check.known (.cons compare.T6.known (.cons compare.Kq.known (.cons Af.Cm.known (.cons Af.Bx.known .nil))))) fun r c l hp=>by
  have hp:Ah l=true:=hp
  refine ⟨8,solve.Flat.out [.i r,.i c,.l l],[],?_,Wk.Gm (.cons .bool (.cons .int .nil))⟩
  show _=some (DV.tup [.bool (Nv r c l).1,.int .i64 (Nv r c l).2])
  rw [solve.Flat.ev,hp,Auk]
  unfold Nv Ak6
  by_cases h1:B6 r c l=0
  · obtain ⟨R,C,rfl,rfl,r6,c6,hl⟩:=Dj (G7 h1).1
    rw [F7 h1,Auo,if_neg (by rw [h1]; decide),Aum,Aum]
    exact Ahu 8 r6 c6 (by omega) hl hp (min R C) 0 8 (by omega) (by omega)
  · rw [Ts h1,Auk,if_pos h1]
theorem Ln {r c:Int} {l:List Int} (al:Ah l=true) (x y a b:Int):Ah (Dz r c l x y a b).2.2.1=true:=by
  unfold Dz
  split
  · split
    · dsimp only
      exact Gr fun i k=>Hv al
    · exact Ap.2 fun x h=>by cases h
  · exact Ap.2 fun x h=>by cases h
theorem O8 {r c:Int} {l:List Int} (al:Ah l=true):Ah (Bc r c l).2.2.1=true:=by
  unfold Bc
  split
  · dsimp only
    exact Gr fun i k=>Hv al
  · exact Ap.2 fun x h=>by cases h
theorem Z5 (x y:List Int):Ai (Nf x y)=true:=B5 (Z4 x y 0 (by decide))
theorem Zk (r c:Int) (l:List Int) (p q:Int) (m:List Int):Ah (Ml r c l p q m).2.2.1=true:=by
  unfold Ml
  split
  · split
    · dsimp only
      exact Gr fun i k=>Z5 _ _
    · exact Ap.2 fun x h=>by cases h
  · exact Ap.2 fun x h=>by cases h
theorem Ks (r c:Int) (l:List Int) (p q:Int) (m:List Int):Ah (El r c l p q m).2.2.1=true:=by
  unfold El
  split
  · exact Ap.2 fun x h=>by cases h
  · exact Zk _ _ _ _ _ _
theorem qr.Es.known:qr.Es.Kn:=qr.Es.Ad (.cons Aa.Mul.known (.cons Aa.Df.known .nil)) fun r c l p q m hp=>by
  obtain ⟨al,am⟩:=Ag.1 (show (Ah l&&Ah m)=true from hp)
  show ∃ N dv drops,_=some dv∧Wk drops dv (Qk (El r c l p q m))
  unfold El
  by_cases h:(Bc r c l).2.2.2=0
  · rw [if_neg (by rw [h]; decide)]
    exact ⟨0,_,[],by rw [qr.Es.ev,F7 h,Auo,O8 al,am]; rfl,Mu⟩
  · rw [if_pos h]
    exact ⟨0,_,[],by rw [qr.Es.ev,Ts h,Auk]; rfl,Lk⟩
namespace EqQr
def qr.down.hint:Nat→Option A9
  | 0=>some { keep:=[1,2,5,6,7],objs:=[(0,6,100006,.recs 214 2 []),(6,2,106002,.ints 37 .u64 [])],boxes:=[1,2,5] }
  | 2=>some { keep:=[1,2,5,6,7,8,9,12],objs:=[(6,2,106002,.ints 37 .u64 []),(0,6,100006,.recs 214 2 [])],boxes:=[1,2,5] }
  | _=>none
def qr.down.Bb:List (Nat × Entry):=[(219,Am.Apply.spec),(245,Am.Jg.spec),(191,Aa.Dg.spec)]
def qr.down.E:Env:=Be (Ba qr.down.Bb) (fun n=>Nat.beq n 46) qr.down.hint (fun _=>none)
def qr.down.L0 (N M0 M:Nat) (r c:Int) (l:List Int) (p12_1:Int) (p2_1:List Int) (p7_1:Int) (p8:List Int) (p9:Int) (p6_1:List (List DV)):Option DV:=B7 qr.down.E N Tryz.f217 (Al Tryz.f217) [1,1,1,0,1,0,0,1,0,0,1,1,1,1,0,1,0] [M0] M ⟨Fy 88 [(1,.ptr 1 0 0),(2,.ptr 2 0 0),(5,.ptr 5 0 0),(6,.oref 100006),(7,.int .i64 p7_1),(8,.ints .fresh .u64 p8),(9,.int .u64 p9),(12,.int .i64 p12_1)],[(1,false,.box [.int .i64 r,.int .i64 c,.ints .arg .u64 l]),(2,false,.box [.int .i64 0,.int .i64 0,.nil]),(5,false,.box [.int .i64 r,.int .i64 c,.oref 106002]),(106002,false,.ints 37 .u64 p2_1),(100006,false,.recs 214 2 p6_1)]⟩
def qr.down.L1 (N M:Nat) (r c:Int) (l:List Int) (p7:Int) (p6:List (List DV)) (p2_2:List Int):Option DV:=B7 qr.down.E N Tryz.f217 (Al Tryz.f217) [1,1,1,0,1,0] [] M ⟨Fy 88 [(1,.ptr 1 0 0),(2,.ptr 2 0 0),(5,.ptr 5 0 0),(6,.oref 100006),(7,.int .i64 p7)],[(1,false,.box [.int .i64 r,.int .i64 c,.ints .arg .u64 l]),(2,false,.box [.int .i64 0,.int .i64 0,.nil]),(5,false,.box [.int .i64 r,.int .i64 c,.oref 106002]),(100006,false,.recs 214 2 p6),(106002,false,.ints 37 .u64 p2_2)]⟩
def qr.down.L2 (N M:Nat) (r c:Int) (l:List Int):Option DV:=B7 qr.down.E N Tryz.f217 (Al Tryz.f217) [1,1,1,0,1,0] [] M ⟨Fy 88 [(1,.ptr 1 0 0),(2,.ptr 2 0 0),(5,.ptr 5 0 0),(6,.oref 100006),(7,.int .i64 0)],[(1,false,.box [.int .i64 r,.int .i64 c,.ints .arg .u64 l]),(2,false,.box [.int .i64 0,.int .i64 0,.nil]),(5,false,.box [.int .i64 r,.int .i64 c,.ints .arg .u64 l]),(100006,false,.recs 214 2 [])]⟩
theorem qr.down.At (N M0 M:Nat) (r c:Int) (l:List Int) (p12_1:Int) (p2_1:List Int) (p7_1:Int) (p8:List Int) (p9:Int) (p6_1:List (List DV)):qr.down.L0 N M0 (M+1) r c l p12_1 p2_1 p7_1 p8 p9 p6_1=bif (A4 p12_1 r) then bif ((decide (0≤(Ab ((Ab (p12_1*c))+p7_1))))&&(decide ((Ab ((Ab (p12_1*c))+p7_1))<(List.length p2_1:Int)))) then bif (decide ((Int.toNat (Ab ((Ab (p12_1*c))+p7_1)))<(List.length p2_1))) then qr.down.L0 N M0 M r c l (Ab (p12_1+1)) (List.set p2_1 (Int.toNat (Ab ((Ab (p12_1*c))+p7_1))) 0) p7_1 p8 p9 p6_1 else none else none else bif (decide ((List.length p6_1)+1≤Akl)) then qr.down.L1 N M0 r c l (Ab (p7_1+1)) (p6_1++[[.ints .arg .u64 p8,.int .u64 p9]]) p2_1 else none:=by kernel_rfl
theorem qr.down.Ck (N M:Nat) (r c:Int) (l:List Int) (p7:Int) (p6:List (List DV)) (p2_2:List Int):qr.down.L1 N (M+1) r c l p7 p6 p2_2=bif ((A4 p7 c)&&(A4 p7 (Ab (r-1)))) then bif (Lc r c p2_2 p7&&Cr (0≤p7∧p7≤r)) then bif (Cw (Dr c p2_2 p7 p7 (Int.toNat (r-p7)))) then bif (((Cf (Dr c p2_2 p7 p7 (Int.toNat (r-p7)))).2.2.2) !=(0:Int)) then some (.tup [.agg [.int .i64 0,.int .i64 0,.nil],.nil,.int .i64 2]) else bif (((Bg r c p2_2&&Md r c p7 p7 ((Cf (Dr c p2_2 p7 p7 (Int.toNat (r-p7)))).1))&&(Ah p2_2&&Ah ((Cf (Dr c p2_2 p7 p7 (Int.toNat (r-p7)))).1)))&&Ai ((Cf (Dr c p2_2 p7 p7 (Int.toNat (r-p7)))).2.1)) then bif ((decide (0≤(Ab ((Ab (p7*c))+p7))))&&(decide ((Ab ((Ab (p7*c))+p7))<(List.length (F4 (Int.toNat r) (Int.toNat c) p2_2 p7 p7 ((Cf (Dr c p2_2 p7 p7 (Int.toNat (r-p7)))).1) ((Cf (Dr c p2_2 p7 p7 (Int.toNat (r-p7)))).2.1)):Int)))) then bif (decide ((Int.toNat (Ab ((Ab (p7*c))+p7)))<(List.length (F4 (Int.toNat r) (Int.toNat c) p2_2 p7 p7 ((Cf (Dr c p2_2 p7 p7 (Int.toNat (r-p7)))).1) ((Cf (Dr c p2_2 p7 p7 (Int.toNat (r-p7)))).2.1))))) then qr.down.L0 N M N r c l (Ab (p7+1)) (List.set (F4 (Int.toNat r) (Int.toNat c) p2_2 p7 p7 ((Cf (Dr c p2_2 p7 p7 (Int.toNat (r-p7)))).1) ((Cf (Dr c p2_2 p7 p7 (Int.toNat (r-p7)))).2.1)) (Int.toNat (Ab ((Ab (p7*c))+p7))) ((Cf (Dr c p2_2 p7 p7 (Int.toNat (r-p7)))).2.2.1)) p7 ((Cf (Dr c p2_2 p7 p7 (Int.toNat (r-p7)))).1) ((Cf (Dr c p2_2 p7 p7 (Int.toNat (r-p7)))).2.1) p6 else none else none else none else none else none else some (.tup [.agg [.int .i64 r,.int .i64 c,.ints (.own 106002 37) .u64 p2_2],.recs (.own 100006 214) 2 p6,.int .i64 0]) :=
  Eq.trans (by kernel_rfl)
  (Ar (N2 (A4 p7 c)) (Ar (N2 (A4 p7 c)) (Ar (Ke (A4 p7 c)) (Ar (Ke (A4 p7 c)) (Ar (Agd (A4 p7 c)) (Ar (Sj (A4 p7 c)) (C3 (tt1 (A4 p7 c) (A4 p7 (Ab (r-1)))) rfl rfl)))))))
theorem qr.down.Hd (N M:Nat) (r c:Int) (l:List Int):qr.down.L2 N (M+1) r c l=bif ((A4 0 c)&&(A4 0 (Ab (r-1)))) then bif (Lc r c l 0&&Cr (0≤(0:Int)∧(0:Int)≤r)) then bif (Cw (Dr c l 0 0 (Int.toNat (r-0)))) then bif (((Cf (Dr c l 0 0 (Int.toNat (r-0)))).2.2.2) !=(0:Int)) then some (.tup [.agg [.int .i64 0,.int .i64 0,.nil],.nil,.int .i64 2]) else bif (((Bg r c l&&Md r c 0 0 ((Cf (Dr c l 0 0 (Int.toNat (r-0)))).1))&&(Ah l&&Ah ((Cf (Dr c l 0 0 (Int.toNat (r-0)))).1)))&&Ai ((Cf (Dr c l 0 0 (Int.toNat (r-0)))).2.1)) then bif ((decide (0≤(Ab ((Ab ((0:Int)*c))+0))))&&(decide ((Ab ((Ab ((0:Int)*c))+0))<(List.length (F4 (Int.toNat r) (Int.toNat c) l 0 0 ((Cf (Dr c l 0 0 (Int.toNat (r-0)))).1) ((Cf (Dr c l 0 0 (Int.toNat (r-0)))).2.1)):Int)))) then bif (decide ((Int.toNat (Ab ((Ab ((0:Int)*c))+0)))<(List.length (F4 (Int.toNat r) (Int.toNat c) l 0 0 ((Cf (Dr c l 0 0 (Int.toNat (r-0)))).1) ((Cf (Dr c l 0 0 (Int.toNat (r-0)))).2.1))))) then qr.down.L0 N M N r c l 1 (List.set (F4 (Int.toNat r) (Int.toNat c) l 0 0 ((Cf (Dr c l 0 0 (Int.toNat (r-0)))).1) ((Cf (Dr c l 0 0 (Int.toNat (r-0)))).2.1)) (Int.toNat (Ab ((Ab ((0:Int)*c))+0))) ((Cf (Dr c l 0 0 (Int.toNat (r-0)))).2.2.1)) 0 ((Cf (Dr c l 0 0 (Int.toNat (r-0)))).1) ((Cf (Dr c l 0 0 (Int.toNat (r-0)))).2.1) [] else none else none else none else none else none else some (.tup [.agg [.int .i64 r,.int .i64 c,.ints .arg .u64 l],.recs (.own 100006 214) 2 [],.int .i64 0]) :=
  Eq.trans (by kernel_rfl)
  (Ar (N2 (A4 0 c)) (Ar (N2 (A4 0 c)) (Ar (Ke (A4 0 c)) (Ar (Ke (A4 0 c)) (Ar (Agd (A4 0 c)) (Ar (Sj (A4 0 c)) (C3 (tt1 (A4 0 c) (A4 0 (Ab (r-1)))) rfl rfl)))))))
theorem qr.down.ev (N:Nat) (r c:Int) (l:List Int):B0 qr.down.E N Tryz.f217 (Al Tryz.f217) [.agg [.int .i64 r,.int .i64 c,.ints .arg .u64 l]] =
  qr.down.L2 N N r c l:=by kernel_rfl
abbrev _root_.Go.Proofs.S1.qr.down.Kn:=A8 Tryz.prog 217 qr.down.spec
theorem qr.down.Ad (hk:Az Tryz.prog qr.down.Bb) (h:∀ (r c:Int) (l:List Int),qr.down.pre [.i r,.i c,.l l]=true→Bf qr.down.E Tryz.f217 [.agg [.int .i64 r,.int .i64 c,.ints .arg .u64 l]] (qr.down.out [.i r,.i c,.l l])):qr.down.Kn :=
  Ak (A0 hk _ _ _) Tryz.func217 (by kernel_rfl) (by kernel_rfl) h
def qr.Dc.hint:Nat→Option A9
  | 0=>some { keep:=[2,3,5,6],objs:=[],boxes:=[2,3] }
  | _=>none
def qr.Dc.Bb:List (Nat × Entry):=[(86,Cb.Check.spec),(219,Am.Apply.spec),(218,Aa.En.spec),(217,qr.down.spec),(150,Af.Finite.spec)]
def qr.Dc.E:Env:=Aep (Ba qr.Dc.Bb) (fun _=>false) qr.Dc.hint (fun _=>none) (Aps [(22,[.s .u64]),(37,[.i .u64])])
def qr.Dc.L0 (N M:Nat) (r c:Int) (l:List Int) (p6:Int) (p2:List Int):Option DV:=B7 qr.Dc.E N Tryz.f166 (Al Tryz.f166) [1,0,1,1,1,1,1,1,0,0] [] M ⟨Fy 81 [(2,.ptr 2 0 0),(3,.ptr 3 0 0),(5,.recs .fresh 2 (Jb r c ([]++l))),(6,.int .i64 p6)],[(2,false,.box [.int .i64 ((La r).1),.int .i64 ((La r).2.1),.ints .fresh .u64 p2]),(3,false,.box [.int .i64 ((Fb r c ([]++l)).1),.int .i64 ((Fb r c ([]++l)).2.1),.ints .arg .u64 ((Fb r c ([]++l)).2.2.1)])]⟩
theorem qr.Dc.At (N M:Nat) (r c:Int) (l:List Int) (p6:Int) (p2:List Int):qr.Dc.L0 N (M+1) r c l p6 p2=bif (A4 p6 0) then bif (Cw p2) then bif ((!(Dw p2))||(Cw ((Fb r c ([]++l)).2.2.1))) then bif ((!(Dw p2))||(!(Dw ((Fb r c ([]++l)).2.2.1)))) then some (.tup [.agg [.int .i64 0,.int .i64 0,.nil],.agg [.int .i64 0,.int .i64 0,.nil],.int .i64 2]) else some (.tup [.agg [.int .i64 ((La r).1),.int .i64 ((La r).2.1),.ints .fresh .u64 p2],.agg [.int .i64 ((Fb r c ([]++l)).1),.int .i64 ((Fb r c ([]++l)).2.1),.ints .arg .u64 ((Fb r c ([]++l)).2.2.1)],.int .i64 0]) else none else none else bif ((decide (0≤p6))&&(decide (p6<(List.length (Jb r c ([]++l)):Int)))) then bif (isC (.s .u64) (List.getD (List.getD (Jb r c ([]++l)) (Int.toNat p6) []) 0 .undef)) then bif ((decide (0≤p6))&&(decide (p6<(List.length (Jb r c ([]++l)):Int)))) then bif (isC (.i .u64) (List.getD (List.getD (Jb r c ([]++l)) (Int.toNat p6) []) 1 .undef)) then bif (((Bg ((La r).1) ((La r).2.1) p2&&Md ((La r).1) ((La r).2.1) p6 0 (Qt (List.getD (List.getD (Jb r c ([]++l)) (Int.toNat p6) []) 0 .undef)))&&(Ah p2&&Ah (Qt (List.getD (List.getD (Jb r c ([]++l)) (Int.toNat p6) []) 0 .undef))))&&Ai (Af1 (List.getD (List.getD (Jb r c ([]++l)) (Int.toNat p6) []) 1 .undef))) then qr.Dc.L0 N M r c l (Ab (p6-1)) (F4 (Int.toNat ((La r).1)) (Int.toNat ((La r).2.1)) p2 p6 0 (Qt (List.getD (List.getD (Jb r c ([]++l)) (Int.toNat p6) []) 0 .undef)) (Af1 (List.getD (List.getD (Jb r c ([]++l)) (Int.toNat p6) []) 1 .undef))) else none else none else none else none else none :=
  Eq.trans (by kernel_rfl)
  (Ev (Ev (Ar (Ada (Dw p2)) (Ar (T7 (Dw p2)) (C3 (Am3 (Dw p2) (Cw ((Fb r c ([]++l)).2.2.1))) (Ar (T7 (Dw p2)) (Ar (Adb (Dw p2)) (C3 (Aqf (Dw p2) (Dw ((Fb r c ([]++l)).2.2.1))) rfl rfl))) rfl))) rfl) (C3 (Li (decide (0≤p6)) (decide (p6<(List.length (Jb r c ([]++l)):Int)))) (C3 (C4 (isC (.s .u64) (List.getD (List.getD (Jb r c ([]++l)) (Int.toNat p6) []) 0 .undef))) (C3 (Li (decide (0≤p6)) (decide (p6<(List.length (Jb r c ([]++l)):Int)))) (C3 (C4 (isC (.i .u64) (List.getD (List.getD (Jb r c ([]++l)) (Int.toNat p6) []) 1 .undef))) (C3 (C4 (((Bg ((La r).1) ((La r).2.1) p2&&Md ((La r).1) ((La r).2.1) p6 0 (Qt (List.getD (List.getD (Jb r c ([]++l)) (Int.toNat p6) []) 0 .undef)))&&(Ah p2&&Ah (Qt (List.getD (List.getD (Jb r c ([]++l)) (Int.toNat p6) []) 0 .undef))))&&Ai (Af1 (List.getD (List.getD (Jb r c ([]++l)) (Int.toNat p6) []) 1 .undef)))) rfl rfl) rfl) rfl) rfl) rfl))
theorem qr.Dc.ev (N:Nat) (r c:Int) (l:List Int):B0 qr.Dc.E N Tryz.f166 (Al Tryz.f166) [.agg [.int .i64 r,.int .i64 c,.ints .arg .u64 l]]=bif (Ah l) then bif ((B6 r c l) !=(0:Int)) then some (.tup [.agg [.int .i64 0,.int .i64 0,.nil],.agg [.int .i64 0,.int .i64 0,.nil],.int .i64 (B6 r c l)]) else bif (decide (0+(List.length l)≤Gf)) then bif ((Bg r c ([]++l)&&Dw ([]++l))&&Ah ([]++l)) then bif (((Fb r c ([]++l)).2.2.2) !=(0:Int)) then some (.tup [.agg [.int .i64 0,.int .i64 0,.nil],.agg [.int .i64 0,.int .i64 0,.nil],.int .i64 ((Fb r c ([]++l)).2.2.2)]) else qr.Dc.L0 N N r c l (Ab ((List.length (Jb r c ([]++l)):Int)-1)) ((La r).2.2.1) else none else none else none :=
  Eq.trans (by kernel_rfl)
  (Ev (Ev rfl (C3 (C4 (decide (0+(List.length l)≤Gf))) (C3 (C4 ((Bg r c ([]++l)&&Dw ([]++l))&&Ah ([]++l))) rfl rfl) rfl)) rfl)
abbrev _root_.Go.Proofs.S1.qr.Dc.Kn:=A8 Tryz.prog 166 qr.Dc.spec
theorem qr.Dc.Ad (hk:Az Tryz.prog qr.Dc.Bb) (h:∀ (r c:Int) (l:List Int),qr.Dc.pre [.i r,.i c,.l l]=true→Bf qr.Dc.E Tryz.f166 [.agg [.int .i64 r,.int .i64 c,.ints .arg .u64 l]] (qr.Dc.out [.i r,.i c,.l l])):qr.Dc.Kn :=
  Ak (Aoq hk _ _ _ _) Tryz.func166 (by kernel_rfl) (by kernel_rfl) h
end EqQr
open EqQr
def clS (R C:Nat) (l:List Int) (j:Nat) (x:Int) (i:Nat):List Int:=Bl R C fun a b=>if b=j∧j≤a∧a<i then (if a=j then x else 0) else Ee (C:Int) l (a:Int) (b:Int)
section
variable {R C j:Nat} {l:List Int} {x:Int}
theorem Aox (i:Nat):(clS R C l j x i).length=R*C:=Bu _ _ _
theorem Ye (hl:l.length=R*C) (hj:j<C):List.set l (j*C+j) x=clS R C l j x (j+1):=by
  unfold clS
  conv=>lhs; rw [← Pp hl]
  rw [R5 hj]
  refine C9 fun a b ha hb=>?_
  by_cases h:a=j∧b=j
  · rw [if_pos h,if_pos (by omega),if_pos h.1]
  · rw [if_neg h,if_neg (by omega)]
theorem Aow {i:Nat} (hj:j<C) (hi:j<i):List.set (clS R C l j x i) (i*C+j) 0=clS R C l j x (i+1):=by
  unfold clS
  rw [R5 hj]
  refine C9 fun a b ha hb=>?_
  by_cases h:a=i∧b=j
  · rw [if_pos h,if_pos (by omega),if_neg (by omega)]
  · rw [if_neg h]
    by_cases h2:b=j∧j≤a∧a<i
    · rw [if_pos h2,if_pos (show b=j∧j≤a∧a<i+1 by omega)]
    · rw [if_neg h2,if_neg (by omega)]
theorem Aoy:clS R C l j x R=Td R C l j x:=by
  unfold clS Td
  refine C9 fun a b ha hb=>?_
  by_cases h:b=j∧j≤a
  · rw [if_pos h,if_pos (by omega)]
  · rw [if_neg h,if_neg (by omega)]
end
theorem Vv {C i j:Nat} (hi:i≤6) (hC:C≤6) (hj:j≤6):Ab (Ab ((i:Int)*(C:Int))+(j:Int))=((i*C+j:Nat):Int):=by
  have h36:=Nat.mul_le_mul hi hC
  rw [An (x:=(i:Int)*(C:Int)) (by rw [← Au5]; omega) (by rw [← Au5]; omega),← Au5,An (by omega) (by omega)]
  omega
section
variable {R C:Nat}
theorem Wi (N M0:Nat) (l0:List Int) (r6:R≤6) (c6:C≤6) {j:Nat} (hj:j<C) (l:List Int) (x:Int) (v:List Int) (t:Int) (ms:List (List DV)) (hms:ms.length≤100):∀ (cnt i F:Nat),i+cnt=R→j<i→cnt<F →
    qr.down.L0 N M0 F (R:Int) (C:Int) l0 (i:Int) (clS R C l j x i) (j:Int) v t ms=qr.down.L1 N M0 (R:Int) (C:Int) l0 ((j+1:Nat):Int) (ms++[[.ints .arg .u64 v,.int .u64 t]]) (Td R C l j x):=by
  intro cnt
  induction cnt with
  | zero =>
    intro i F hi hji hF
    obtain ⟨F,rfl⟩:∃ G,F=G+1:=⟨F-1,by omega⟩
    obtain rfl:i=R:=by omega
    rw [qr.down.At,Au,Aup (by omega),Auo,Aul (by unfold Akl; omega),Auk,An (by omega) (by omega),Aoy]
    rfl
  | succ cnt ih =>
    intro i F hi hji hF
    obtain ⟨F,rfl⟩:∃ G,F=G+1:=⟨F-1,by omega⟩
    have hlen:=Aox (R:=R) (C:=C) (l:=l) (j:=j) (x:=x) i
    have hp:=Hz (show i<R by omega) hj
    rw [qr.down.At,Au,Aul (by omega),Auk,Vv (by omega) c6 (by omega),Aul (by omega),Aul (by omega),Auq,Auk,Aum,Aul (by omega),Auk,Aow hj hji,An (by omega) (by omega)]
    exact ih (i+1) F (by omega) (by omega) (by omega)
def Qd (r c:Nat) (ms:List (List DV)):Option (List Int × List (List Int × Int))→DV
  | none=>.tup [.agg [.int .i64 0,.int .i64 0,.nil],.nil,.int .i64 2]
  | some x=>.tup [.agg [.int .i64 (r:Int),.int .i64 (c:Int),.ints (.own 106002 tB) .u64 x.1],.recs (.own 100006 tMR) 2 (ms++Vw x.2),.int .i64 0]
theorem Ahz (N:Nat) (hN:7<N) (l0:List Int) (r6:R≤6) (c6:C≤6):∀ (cnt j F:Nat) (l:List Int) (ms:List (List DV)),j+cnt=I1 R C→cnt<F→l.length=R*C→Ah l=true→ms.length=j →
    qr.down.L1 N F (R:Int) (C:Int) l0 (j:Int) ms l=some (Qd R C ms (Nw R C cnt j l)):=by
  intro cnt
  induction cnt with
  | zero =>
    intro j F l ms hj hF hl al hms
    obtain ⟨F,rfl⟩:∃ G,F=G+1:=⟨F-1,by omega⟩
    unfold I1 at hj
    have hlt:(A4 (j:Int) (C:Int)&&A4 (j:Int) (Ab ((R:Int)-1)))=false:=by
      rw [Au,Au,An (by omega) (by omega),Bool.and_eq_false_iff,Au3,Au3]; omega
    rw [qr.down.Ck,hlt,Auo]
    simp [Nw,Qd,Vw]
  | succ cnt ih =>
    intro j F l ms hj hF hl al hms
    obtain ⟨F,rfl⟩:∃ G,F=G+1:=⟨F-1,by omega⟩
    have hj0:=hj
    unfold I1 at hj
    have hr:=Oc r6 c6 hl
    have hlt:(A4 (j:Int) (C:Int)&&A4 (j:Int) (Ab ((R:Int)-1)))=true:=by
      rw [Au,Au,An (by omega) (by omega),Aul (by omega),Aul (by omega)]; rfl
    have cp:Lc (R:Int) (C:Int) l (j:Int)=true:=Ag.2 ⟨hr,Ap.2 (by omega)⟩
    have ec:Dr (C:Int) l (j:Int) (j:Int) (Int.toNat ((R:Int)-(j:Int)))=F6 R C l j:=by unfold F6; rw [show Int.toNat ((R:Int)-(j:Int))=R-j by omega]
    have ca:Ah (F6 R C l j)=true:=Sp al
    have cl:(F6 R C l j).length=R-j:=I2 _ _ _ _ _
    rw [qr.down.Ck,hlt,Auk,cp,Ap.2 (show 0≤(j:Int)∧(j:Int)≤(R:Int) by omega),Auq,Auk,ec,K5 ca (by omega),Auk]
    unfold Nw
    by_cases he:(Cf (F6 R C l j)).2.2.2=0
    · have hml:=Vy he
      have hma:=Um ca
      have hap:Md (R:Int) (C:Int) (j:Int) (j:Int) (Cf (F6 R C l j)).1=true:=Aul (by omega)
      have hp:=Hz (show j<R by omega) (show j<C by omega)
      have hlen:=Mc R C l (j:Int) (j:Int) (Cf (F6 R C l j)).1 (Cf (F6 R C l j)).2.1
      have hg:=Wi N F l0 r6 c6 (show j<C by omega) (F4 R C l (j:Int) (j:Int) (Cf (F6 R C l j)).1 (Cf (F6 R C l j)).2.1) (Cf (F6 R C l j)).2.2.1 (Cf (F6 R C l j)).1 (Cf (F6 R C l j)).2.1 ms (by omega) (R-(j+1)) (j+1) N (by omega) (by omega) (by omega)
      have hn:=ih (j+1) F (W1 R C l j) (ms++[[.ints .arg .u64 (Cf (F6 R C l j)).1,.int .u64 (Cf (F6 R C l j)).2.1]]) (by omega) (by omega) (Oi _ _ _ _) (Zl al j) (by rw [List.length_append,hms]; rfl)
      rw [F7 he,Auo,hr,hap,al,hma.1,hma.2.1,Auq,Auq,Auq,Auk,Vv (by omega) c6 (by omega),Aum,Aum,Aum,Aul (by omega),Aul (by omega),Auq,Auk,Aul (by omega),Auk,
        Ye hlen (by omega),An (by omega) (by omega),if_pos he]
      refine (hg.trans hn).trans ?_
      show some (Qd R C _ (Nw R C cnt (j+1) (W1 R C l j)))=some (Qd R C ms _)
      cases Nw R C cnt (j+1) (W1 R C l j) with
      | none=>rfl
      | some x=>simp [Qd,Vw]
    · rw [Ts he,Auk,if_neg he]; rfl
theorem Aeq (N:Nat) (hN:7<N) {l:List Int} (r6:R≤6) (c6:C≤6) (hl:l.length=R*C) (al:Ah l=true) (h0:I1 R C≠0) :
    qr.down.L2 N N (R:Int) (C:Int) l=some (Qd R C [] (Iz R C l)):=by
  obtain ⟨cnt,hc⟩:∃ cnt,I1 R C=cnt+1:=⟨I1 R C-1,by omega⟩
  obtain ⟨F,rfl⟩:∃ G,N=G+1:=⟨N-1,by omega⟩
  have hj:=hc
  unfold I1 at hj
  have hr:=Oc r6 c6 hl
  have hlt:(A4 (0:Int) (C:Int)&&A4 (0:Int) (Ab ((R:Int)-1)))=true:=by
    rw [Au,Au,An (by omega) (by omega),Aul (by omega),Aul (by omega)]; rfl
  have cp:Lc (R:Int) (C:Int) l (0:Int)=true:=Ag.2 ⟨hr,Ap.2 (by omega)⟩
  have ec:Dr (C:Int) l (0:Int) (0:Int) (Int.toNat ((R:Int)-(0:Int)))=F6 R C l 0:=by unfold F6; rw [show Int.toNat ((R:Int)-(0:Int))=R-0 by omega]; rfl
  have ca:Ah (F6 R C l 0)=true:=Sp al
  have cl:(F6 R C l 0).length=R-0:=I2 _ _ _ _ _
  unfold Iz
  rw [hc,qr.down.Hd,hlt,Auk,cp,Ap.2 (show 0≤(0:Int)∧(0:Int)≤(R:Int) by omega),Auq,Auk,ec,K5 ca (by omega),Auk]
  unfold Nw
  by_cases he:(Cf (F6 R C l 0)).2.2.2=0
  · have hml:=Vy he
    have hma:=Um ca
    have hap:Md (R:Int) (C:Int) (0:Int) (0:Int) (Cf (F6 R C l 0)).1=true:=Aul (by omega)
    have hp:=Hz (show 0<R by omega) (show 0<C by omega)
    have hlen:=Mc R C l (0:Int) (0:Int) (Cf (F6 R C l 0)).1 (Cf (F6 R C l 0)).2.1
    have hg:=Wi (F+1) F l r6 c6 (show 0<C by omega) (F4 R C l (0:Int) (0:Int) (Cf (F6 R C l 0)).1 (Cf (F6 R C l 0)).2.1) (Cf (F6 R C l 0)).2.2.1 (Cf (F6 R C l 0)).1 (Cf (F6 R C l 0)).2.1 [] (Nat.zero_le _) (R-1) 1 (F+1) (by omega) (by omega) (by omega)
    have hn:=Ahz (R:=R) (C:=C) (F+1) hN l r6 c6 cnt 1 F (W1 R C l 0) [[.ints .arg .u64 (Cf (F6 R C l 0)).1,.int .u64 (Cf (F6 R C l 0)).2.1]] (by omega) (by unfold I1 at hc; omega) (Oi _ _ _ _) (Zl al 0) rfl
    have mc:=Vv (i:=0) (C:=C) (j:=0) (by omega) c6 (by omega)
    have mc:Ab (Ab ((0:Int)*(C:Int))+(0:Int))=((0*C+0:Nat):Int):=mc
    rw [F7 he,Auo,hr,hap,al,hma.1,hma.2.1,Auq,Auq,Auq,Auk,mc,Aum,Aum,Aum,Aul (by omega),Aul (by omega),Auq,Auk,Aul (by omega),Auk,
      Ye hlen (by omega),if_pos he]
    refine (hg.trans hn).trans ?_
    show some (Qd R C _ (Nw R C cnt 1 (W1 R C l 0)))=some (Qd R C [] _)
    cases Nw R C cnt (0+1) (W1 R C l 0) with
    | none=>rfl
    | some x=>simp [Qd,Vw]
  · rw [Ts he,Auk,if_neg he]; rfl
end
theorem qr.down.known:qr.down.Kn:=qr.down.Ad (.cons Am.Apply.known (.cons Am.Jg.known (.cons Aa.Dg.known .nil))) fun r c l hp=>by
  obtain ⟨h1,al⟩:=Ag.1 (show ((Bg r c l&&Dw l)&&Ah l)=true from hp)
  obtain ⟨hr,hf⟩:=Ag.1 h1
  obtain ⟨R,C,rfl,rfl,r6,c6,hl⟩:=Dj hr
  by_cases h0:I1 R C=0
  · have hx:Iz R C l=some (l,[]):=by unfold Iz; rw [h0]; rfl
    refine ⟨8,.tup [.agg [.int .i64 (R:Int),.int .i64 (C:Int),.ints .arg .u64 l],.recs (.own 100006 tMR) 2 [],.int .i64 0],[100006],?_,?_⟩
    · unfold I1 at h0
      have hlt:(A4 (0:Int) (C:Int)&&A4 (0:Int) (Ab ((R:Int)-1)))=false:=by
        rw [Au,Au,An (by omega) (by omega),Bool.and_eq_false_iff,Au3,Au3]; omega
      rw [qr.down.ev,show (8:Nat)=7+1 from rfl,qr.down.Hd,hlt,Auo]
    · show Wk _ _ (DV.tup [.agg [.int .i64 (Fb (R:Int) (C:Int) l).1,.int .i64 (Fb (R:Int) (C:Int) l).2.1,.ints .arg .u64 (Fb (R:Int) (C:Int) l).2.2.1],.recs .fresh 2 (Jb (R:Int) (C:Int) l),.int .i64 (Fb (R:Int) (C:Int) l).2.2.2])
      unfold Fb Jb Nz
      rw [Aum,Aum,hx]
      exact Wk.Gm (.cons (Wk.Ix (.cons .int (.cons .int (.cons .Al6 .nil)))) (.cons (.dropR _ _ _ _ (List.mem_singleton.2 rfl)) (.cons .int .nil)))
  · refine ⟨8,Qd R C [] (Iz R C l),[106002,100006],?_,?_⟩
    · rw [qr.down.ev]
      exact Aeq 8 (by omega) r6 c6 hl al h0
    · show Wk _ _ (DV.tup [.agg [.int .i64 (Fb (R:Int) (C:Int) l).1,.int .i64 (Fb (R:Int) (C:Int) l).2.1,.ints .arg .u64 (Fb (R:Int) (C:Int) l).2.2.1],.recs .fresh 2 (Jb (R:Int) (C:Int) l),.int .i64 (Fb (R:Int) (C:Int) l).2.2.2])
      unfold Fb Jb Nz
      rw [Aum,Aum]
      cases Iz R C l with
      | none=>exact Wk.Gm (.cons (Wk.Ix (.cons .int (.cons .int (.cons Ic .nil)))) (.cons (.nilR _ _) (.cons .int .nil)))
      | some x=>exact Wk.Gm (.cons (Wk.Ix (.cons .int (.cons .int (.cons (.dropA _ _ _ _ List.mem_cons_self) .nil)))) (.cons (.dropR _ _ _ _ (List.mem_cons_of_mem _ List.mem_cons_self)) (.cons .int .nil)))
open EqQr
def Xu (e:Int):DV:=.tup [.agg [.int .i64 0,.int .i64 0,.nil],.agg [.int .i64 0,.int .i64 0,.nil],.int .i64 e]
theorem Xv {r:Nat}:∀ {j:Nat} {ms:List (List Int × Int)},Abn r j ms→∀ i:Nat,i<ms.length→Ah (ms.getD i ([],0)).1=true∧Ai (ms.getD i ([],0)).2=true∧(ms.getD i ([],0)).1.length+(j+i)=r
  | _,[],_,i,h=>absurd h (Nat.not_lt_zero _)
  | j,m::ms,hm,0,_=>hm.1
  | j,m::ms,hm,i+1,h=>by
    have:=Xv hm.2 i (by simpa using h)
    rw [show j+(i+1)=j+1+i by omega]
    exact this
theorem Aj6 {ms:List (List Int × Int)} {i:Nat} (h:i<ms.length):List.getD (Vw ms) i []=[.ints .arg .u64 (ms.getD i ([],0)).1,.int .u64 (ms.getD i ([],0)).2]:=by
  unfold Vw
  rw [Auu,List.getElem?_map,Au1 h,Auu,Au1 h]; rfl
theorem Abm (ms:List (List Int × Int)):(Vw ms).length=ms.length:=by unfold Vw; rw [List.length_map]
theorem Ah5 {n i:Nat} {ms:List (List Int × Int)} (h:i<ms.length) (q:List Int):Kb n i (ms.drop i) q=F4 n n (Kb n (i+1) (ms.drop (i+1)) q) (i:Int) 0 (ms.getD i ([],0)).1 (ms.getD i ([],0)).2:=by
  rw [List.drop_eq_getElem_cons h,Kb,Auu,Au1 h]; rfl
theorem Ael {R:Nat} (h:R≤6):La (R:Int)=((R:Int),(R:Int),D7 R,0):=by
  unfold La D7
  rw [if_pos (Afb h),Aum]
theorem Aqj {n:Nat} (h:n≤6):n*n≤36:=Nat.mul_le_mul h h
theorem Acl (N:Nat) {R C:Nat} {l:List Int} (r6:R≤6) {x:List Int × List (List Int × Int)} (hx:Iz R C l=some x) (hm:Abn R 0 x.2) (hxr:Ah x.1=true) (hxl:x.1.length≤36):∀ (j F:Nat),j≤x.2.length→j<F →
    qr.Dc.L0 N F (R:Int) (C:Int) l ((j:Int)-1) (Kb R j (x.2.drop j) (D7 R)) =
    bif Qc R C l then some (.tup [.agg [.int .i64 (R:Int),.int .i64 (R:Int),.ints .fresh .u64 (Sb R C l)],.agg [.int .i64 (R:Int),.int .i64 (C:Int),.ints .arg .u64 (Nz R C l)],.int .i64 0])
    else some (Xu 2):=by
  have hq:Sb R C l=Kb R 0 x.2 (D7 R):=by unfold Sb; rw [hx]
  have hr:Nz R C l=x.1:=by unfold Nz; rw [hx]
  have hd:Fb (R:Int) (C:Int) ([]++l)=((R:Int),(C:Int),x.1,0):=by
    unfold Fb
    rw [List.nil_append,Aum,Aum,hx,hr]; rfl
  have hmd:Jb (R:Int) (C:Int) ([]++l)=Vw x.2:=by
    unfold Jb
    rw [List.nil_append,Aum,Aum,hx]
  have h36:=Aqj r6
  intro j
  induction j with
  | zero =>
    intro F _ hF
    obtain ⟨F,rfl⟩:∃ G,F=G+1:=⟨F-1,by omega⟩
    have hb:=Uu R x.2 0 (D7 R) (Z2 R) (by unfold D7; exact Bu _ _ _)
    have ok1:Cw (Kb R 0 x.2 (D7 R))=true:=K5 hb.1 (by omega)
    have ok2:Cw x.1=true:=K5 hxr (by omega)
    have hfo:Qc R C l=(Dw (Kb R 0 x.2 (D7 R))&&Dw x.1):=by unfold Qc; rw [hx,hq,hr]; rfl
    rw [qr.Dc.At,Au,Aul (by omega),Auk,List.drop_zero,ok1,Auk,hd,Ael r6,ok2,Bool.or_true,Auk,hfo,hq,hr]
    cases Dw (Kb R 0 x.2 (D7 R)) with
    | false=>rfl
    | true=>cases Dw x.1<;>rfl
  | succ j ih =>
    intro F hj hF
    obtain ⟨F,rfl⟩:∃ G,F=G+1:=⟨F-1,by omega⟩
    have ej:(((j+1:Nat):Int))-1=(j:Int):=by omega
    have hg:=Xv hm j (by omega)
    have hb:=Uu R (x.2.drop (j+1)) (j+1) (D7 R) (Z2 R) (by unfold D7; exact Bu _ _ _)
    have hr1:=Oc r6 r6 hb.2
    have hap:Md (R:Int) (R:Int) (j:Int) 0 (x.2.getD j ([],0)).1=true:=Aul (by omega)
    have hmg:=Aj6 (ms:=x.2) (i:=j) (by omega)
    rw [qr.Dc.At,ej,Au,Aup (show ¬ (j:Int)<0 by omega),Auo,hmd,Abm,Aul (show (0:Int)≤(j:Int) by omega),Aul (show (j:Int)<(x.2.length:Int) by omega),Auq,Auk,Aum,hmg,Ael r6]
    show (bif true then bif true then bif true then (bif (((Bg (R:Int) (R:Int) (Kb R (j+1) (x.2.drop (j+1)) (D7 R))&&Md (R:Int) (R:Int) (j:Int) (0:Int) (x.2.getD j ([],0)).1)&&(Ah (Kb R (j+1) (x.2.drop (j+1)) (D7 R))&&Ah (x.2.getD j ([],0)).1))&&Ai (x.2.getD j ([],0)).2) then
      qr.Dc.L0 N F (R:Int) (C:Int) l (Ab ((j:Int)-(1:Int))) (F4 (Int.toNat (R:Int)) (Int.toNat (R:Int)) (Kb R (j+1) (x.2.drop (j+1)) (D7 R)) (j:Int) (0:Int) (x.2.getD j ([],0)).1 (x.2.getD j ([],0)).2) else none) else none else none else none)=_
    rw [Auk,Auk,Auk,hr1,hap,hb.1,hg.1,hg.2.1,Auq,Auq,Auq,Auk,Aum,An (by omega) (by omega),← Ah5 (by omega)]
    exact ih F (by omega) (by omega)
theorem Alo {R C:Nat} {l:List Int} (hl:l.length=R*C) (al:Ah l=true) {x:List Int × List (List Int × Int)} (hx:Iz R C l=some x):Ah x.1=true∧x.1.length=R*C∧x.2.length=I1 R C∧Abn R 0 x.2 :=
  Wj R C (I1 R C) 0 l x al hl (by unfold I1; omega) hx
theorem Us {r c:Int} {l:List Int} (h:B6 r c l=0):Gh r c l=if Qc r.toNat c.toNat l=true then 0 else 2:=by
  unfold Gh; rw [if_neg (by rw [h]; decide)]
theorem Acm {r c:Int} {l:List Int} (h:B6 r c l≠0):Gh r c l=B6 r c l:=by unfold Gh; rw [if_pos h]
theorem Vi {r c:Int} {l:List Int} {e:Int} (h:Gh r c l=e) (he:e≠0):qX r c l=Gk e∧rX r c l=Gk e:=by unfold qX rX; rw [h,if_pos he,if_pos he]; exact ⟨rfl,rfl⟩
theorem Y6 {r c:Int} {l:List Int} (h:Gh r c l=0):qX r c l=(r,r,Sb r.toNat c.toNat l,0)∧rX r c l=(r,c,Nz r.toNat c.toNat l,0):=by unfold qX rX; rw [h]; exact ⟨rfl,rfl⟩
theorem Yp {drops:List Nat} {e:Int} {g h:Ac1}:Wk drops (Xu e) (DV.tup [.agg [.int .i64 (Gk e).1,.int .i64 (Gk e).2.1,.ints g .u64 (Gk e).2.2.1],.agg [.int .i64 (Gk e).1,.int .i64 (Gk e).2.1,.ints h .u64 (Gk e).2.2.1],.int .i64 e]) :=
  Wk.Gm (.cons (Wk.Ix (.cons .int (.cons .int (.cons Ic .nil)))) (.cons (Wk.Ix (.cons .int (.cons .int (.cons Ic .nil)))) (.cons .int .nil)))
theorem qr.Dc.known:qr.Dc.Kn:=qr.Dc.Ad (.cons Cb.Check.known (.cons Am.Apply.known (.cons Aa.En.known (.cons qr.down.known (.cons Af.Finite.known .nil))))) fun r c l hp=>by
  have al:Ah l=true:=hp
  show ∃ N dv drops,_=some dv∧Wk drops dv (DV.tup [.agg [.int .i64 (qX r c l).1,.int .i64 (qX r c l).2.1,.ints .arg .u64 (qX r c l).2.2.1],.agg [.int .i64 (rX r c l).1,.int .i64 (rX r c l).2.1,.ints .arg .u64 (rX r c l).2.2.1],.int .i64 (Gh r c l)])
  by_cases h1:B6 r c l=0
  · obtain ⟨hr,hf⟩:=G7 h1
    have h36:=Pf hr
    obtain ⟨R,C,rfl,rfl,r6,c6,hl⟩:=Dj hr
    have d0:decide (0+l.length≤Gf)=true:=Aul (by unfold Gf; omega)
    cases hx:Iz R C l with
    | none =>
      have hfo:Qc R C l=false:=by unfold Qc; rw [hx]; rfl
      have he:Gh (R:Int) (C:Int) l=2:=by rw [Us h1,Aum,Aum,hfo]; rfl
      obtain ⟨e1,e2⟩:=Vi he (by decide)
      have hd:Fb (R:Int) (C:Int) ([]++l)=Gk 2:=by
        unfold Fb
        rw [List.nil_append,Aum,Aum,hx]; rfl
      rw [e1,e2,he]
      exact ⟨0,Xu 2,[],by rw [qr.Dc.ev,al,Auk,F7 h1,Auo,d0,Auk,hd,List.nil_append,hr,hf,al,Auq,Auq,Auk,show ((Gk 2).2.2.2 !=(0:Int))=true from rfl,Auk]; rfl,Yp⟩
    | some x =>
      obtain ⟨x1,x2,x3,x4⟩:=Alo hl al hx
      have hd:Fb (R:Int) (C:Int) ([]++l)=((R:Int),(C:Int),x.1,0):=by
        unfold Fb Nz
        rw [List.nil_append,Aum,Aum,hx]; rfl
      have hmd:Jb (R:Int) (C:Int) ([]++l)=Vw x.2:=by
        unfold Jb
        rw [List.nil_append,Aum,Aum,hx]
      have hn:x.2.length≤6:=by rw [x3]; unfold I1; omega
      have hloop:=Acl 8 r6 hx x4 x1 (by rw [x2]; exact Nat.mul_le_mul r6 c6) x.2.length 8 (Nat.le_refl _) (by omega)
      rw [Auy (Nat.le_refl _)] at hloop
      have hrun:=qr.Dc.ev 8 (R:Int) (C:Int) l
      rw [al,Auk,F7 h1,Auo,d0,Auk,hd,hmd,Abm,List.nil_append,hr,hf,al,Auq,Auq,Auk,show (((R:Int),(C:Int),x.1,(0:Int)).2.2.2 !=(0:Int))=false from rfl,Auo,Ael r6,An (by omega) (by omega)] at hrun
      have hrun:=hrun.trans hloop
      cases hfo:Qc R C l with
      | false =>
        have he:Gh (R:Int) (C:Int) l=2:=by rw [Us h1,Aum,Aum,hfo]; rfl
        obtain ⟨e1,e2⟩:=Vi he (by decide)
        rw [hfo,Auo] at hrun
        rw [e1,e2,he]
        exact ⟨8,Xu 2,[],hrun,Yp⟩
      | true =>
        have he:Gh (R:Int) (C:Int) l=0:=by rw [Us h1,Aum,Aum,hfo]; rfl
        obtain ⟨e1,e2⟩:=Y6 he
        rw [hfo,Auk] at hrun
        rw [e1,e2,he,Aum,Aum]
        exact ⟨8,_,[],hrun,Wk.Gm (.cons (Wk.Ix (.cons .int (.cons .int (.cons (.fresh _ _) .nil)))) (.cons (Wk.Ix (.cons .int (.cons .int (.cons .Al6 .nil)))) (.cons .int .nil)))⟩
  · have he:=Acm h1
    obtain ⟨e1,e2⟩:=Vi he h1
    rw [e1,e2,he]
    exact ⟨0,Xu (B6 r c l),[],by rw [qr.Dc.ev,al,Auk,Ts h1,Auk]; rfl,Yp⟩
theorem Aeu {r c:Int} {l:List Int} (h:Gh r c l=0):B6 r c l=0:=by
  by_cases h1:B6 r c l=0
  · exact h1
  · rw [Acm h1] at h; exact absurd h h1
theorem Alb {r c:Int} {l:List Int} (al:Ah l=true) (h:Gh r c l=0):∃ R C:Nat,r=R∧c=C∧R≤6∧C≤6∧l.length=R*C∧Ah (Sb R C l)=true∧(Sb R C l).length=R*R∧Ah (Nz R C l)=true∧(Nz R C l).length=R*C∧Dw (Sb R C l)=true∧Dw (Nz R C l)=true:=by
  have h1:=Aeu h
  rw [Us h1] at h
  obtain ⟨R,C,rfl,rfl,r6,c6,hl⟩:=Dj (G7 h1).1
  rw [Aum,Aum] at h
  by_cases ho:Qc R C l=true
  · unfold Qc at ho
    obtain ⟨o1,o2⟩:=Ag.1 ho
    obtain ⟨o3,o4⟩:=Ag.1 o2
    obtain ⟨q1,q2⟩:=Aok o1
    obtain ⟨g1,g2⟩:=Aoj al hl o1
    exact ⟨R,C,rfl,rfl,r6,c6,hl,q1,q2,g1,g2,o3,o4⟩
  · rw [if_neg ho] at h; exact absurd h (by decide)
theorem Ark {r c:Int} {l:List Int} (al:Ah l=true) (h:Gh r c l=0):Ah (Sb r.toNat c.toNat l)=true∧Ah (Nz r.toNat c.toNat l)=true:=by
  obtain ⟨R,C,rfl,rfl,_,_,_,q1,_,g1,_,_,_⟩:=Alb al h
  rw [Aum,Aum]
  exact ⟨q1,g1⟩
namespace EqRef17
def Bm.Finite.hint:Nat→Option A9
  | 0=>some { keep:=[0,3],objs:=[],boxes:=[] }
  | _=>none
def Bm.Finite.Bb:List (Nat × Entry):=[(131,A5.Finite.spec)]
def Bm.Finite.E:Env:=Be (Ba Bm.Finite.Bb) (fun _=>false) Bm.Finite.hint (fun _=>none)
def Bm.Finite.L0 (N M:Nat) (x:List Int) (p3:Int):Option DV:=B7 Bm.Finite.E N Tryz.f92 (Al Tryz.f92) [1,0,1,0] [] M ⟨Fy 16 [(0,.ints .arg .u64 x),(3,.int .i64 p3)],[]⟩
theorem Bm.Finite.At (N M:Nat) (x:List Int) (p3:Int):Bm.Finite.L0 N (M+1) x p3=bif (A4 p3 (List.length x:Int)) then bif ((decide (0≤p3))&&(decide (p3<(List.length x:Int)))) then bif (Ai (List.getD x (Int.toNat p3) 0)) then bif (!(Cv (List.getD x (Int.toNat p3) 0))) then some (.bool false) else Bm.Finite.L0 N M x (Ab (p3+1)) else none else none else some (.bool true):=by kernel_rfl
theorem Bm.Finite.ev (N:Nat) (x:List Int):B0 Bm.Finite.E N Tryz.f92 (Al Tryz.f92) [.ints .arg .u64 x] =
  Bm.Finite.L0 N N x 0:=by kernel_rfl
abbrev _root_.Go.Proofs.S1.Bm.Finite.Kn:=A8 Tryz.prog 92 Bm.Finite.spec
theorem Bm.Finite.Ad (hk:Az Tryz.prog Bm.Finite.Bb) (h:∀ (x:List Int),Bm.Finite.pre [.l x]=true→Bf Bm.Finite.E Tryz.f92 [.ints .arg .u64 x] (Bm.Finite.out [.l x])):Bm.Finite.Kn :=
  Ak (A0 hk _ _ _) Tryz.func92 (by kernel_rfl) (by kernel_rfl) h
def Gq.Check.Bb:List (Nat × Entry):=[(92,Bm.Finite.spec),(91,Bo.Gw.spec)]
def Gq.Check.E:Env:=Be (Ba Gq.Check.Bb) (fun _=>false) (fun _=>none) (fun _=>none)
theorem Gq.Check.ev (N:Nat) (r c:Int) (l:List Int):B0 Gq.Check.E N Tryz.f25 (Al Tryz.f25) [.agg [.int .i64 r,.int .i64 c,.ints .arg .u64 l]]=bif (!(Bg r c l)) then some (.int .i64 1) else bif (Cw l) then bif (!(Dw l)) then some (.int .i64 4) else some (.int .i64 0) else none:=by kernel_rfl
abbrev _root_.Go.Proofs.S1.Gq.Check.Kn:=A8 Tryz.prog 25 Gq.Check.spec
theorem Gq.Check.Ad (hk:Az Tryz.prog Gq.Check.Bb) (h:∀ (r c:Int) (l:List Int),Gq.Check.pre [.i r,.i c,.l l]=true→Bf Gq.Check.E Tryz.f25 [.agg [.int .i64 r,.int .i64 c,.ints .arg .u64 l]] (Gq.Check.out [.i r,.i c,.l l])):Gq.Check.Kn :=
  Ak (A0 hk _ _ _) Tryz.func25 (by kernel_rfl) (by kernel_rfl) h
end EqRef17
open EqRef17
theorem T9 (N:Nat) {x:List Int} (hx:Cw x=true):∀ (k i F:Nat),i+k=x.length→k<F→Bm.Finite.L0 N F x (i:Int)=some (.bool ((x.drop i).all Cv)):=by
  obtain ⟨hl,hu⟩:=Kj hx
  intro k
  induction k with
  | zero =>
    intro i F hi hF
    obtain ⟨F,rfl⟩:∃ G,F=G+1:=⟨F-1,by omega⟩
    rw [Bm.Finite.At,Au,Aup (by omega),Auo,Auy (by omega)]; rfl
  | succ k ih =>
    intro i F hi hF
    obtain ⟨F,rfl⟩:∃ G,F=G+1:=⟨F-1,by omega⟩
    rw [Bm.Finite.At,Au,Aul (show (i:Int)<(x.length:Int) by omega),Auk,Aul (show (0:Int)≤(i:Int) by omega),Auq,Auk,Aum,hu i (by omega),Auk,H5 (by omega),List.all_cons]
    cases Cv (x.getD i 0) with
    | false=>rfl
    | true =>
      rw [Bool.not_true,Auo,An (by omega) (by omega),Bool.true_and]
      exact ih (i+1) F (by omega) (by omega)
theorem Bm.Finite.known:Bm.Finite.Kn:=Bm.Finite.Ad (.cons A5.Finite.known .nil) fun x hp=>by
  have hp:Cw x=true:=hp
  refine ⟨x.length+1,Bm.Finite.out [.l x],[],?_,.bool⟩
  show _=some (DV.bool (x.all Cv))
  rw [Bm.Finite.ev]
  exact T9 _ hp x.length 0 (x.length+1) (by omega) (by omega)
theorem Gq.Check.known:Gq.Check.Kn:=Gq.Check.Ad (.cons Bm.Finite.known (.cons Bo.Gw.known .nil)) fun r c l hp=>by
  have hp:Ah l=true:=hp
  refine ⟨0,Gq.Check.out [.i r,.i c,.l l],[],?_,.int⟩
  show _=some (DV.int .i64 (B6 r c l))
  rw [Gq.Check.ev]
  unfold B6
  by_cases h:Bg r c l=true
  · have:=Pf h
    rw [h,Bool.not_true,Auo,K5 hp (by omega),Auk,if_pos rfl]
    cases Dw l<;>rfl
  · have h':Bg r c l=false:=by simpa using h
    rw [h']; rfl
section
variable {n Q:Nat} {l m:List Int}
end
namespace EqRef14
end EqRef14
open EqRef13 EqRef14
open EqRef13 EqRef14
section
variable {R C i k:Nat} {l v:List Int} {t:Int}
end
namespace EqLow
def Cu.Ct.down.Bb:List (Nat × Entry):=[]
def Cu.Ct.down.E:Env:=Be (Ba Cu.Ct.down.Bb) (fun _=>false) (fun _=>none) (fun _=>none)
theorem Cu.Ct.down.ev (N:Nat) (n k:Int):B0 Cu.Ct.down.E N Tryz.f77 (Al Tryz.f77) [.int .i64 n,.int .i64 k]=some (.int .i64 k):=by kernel_rfl
abbrev _root_.Go.Proofs.S1.Cu.Ct.down.Kn:=A8 Tryz.prog 77 Cu.Ct.down.spec
theorem Cu.Ct.down.Ad (hk:Az Tryz.prog Cu.Ct.down.Bb) (h:∀ (n k:Int),Cu.Ct.down.pre [.i n,.i k]=true→Bf Cu.Ct.down.E Tryz.f77 [.int .i64 n,.int .i64 k] (Cu.Ct.down.out [.i n,.i k])):Cu.Ct.down.Kn :=
  Ak (A0 hk _ _ _) Tryz.func77 (by kernel_rfl) (by kernel_rfl) h
def solve.D6.Bb:List (Nat × Entry):=[]
def solve.D6.E:Env:=Be (Ba solve.D6.Bb) (fun _=>false) (fun _=>none) (fun _=>none)
theorem solve.D6.ev (N:Nat) (i k:Int):B0 solve.D6.E N Tryz.f78 (Al Tryz.f78) [.int .i64 i,.int .i64 k]=some (.bool (A4 k i)):=by kernel_rfl
abbrev _root_.Go.Proofs.S1.solve.D6.Kn:=A8 Tryz.prog 78 solve.D6.spec
theorem solve.D6.Ad (hk:Az Tryz.prog solve.D6.Bb) (h:∀ (i k:Int),solve.D6.pre [.i i,.i k]=true→Bf solve.D6.E Tryz.f78 [.int .i64 i,.int .i64 k] (solve.D6.out [.i i,.i k])):solve.D6.Kn :=
  Ak (A0 hk _ _ _) Tryz.func78 (by kernel_rfl) (by kernel_rfl) h
def solve.As.Lo.hint:Nat→Option A9
  | 0=>some { keep:=[2,3,4,5,8,10,11,28,29],objs:=[(12,2,112002,.ints 37 .u64 [])],boxes:=[4,5,8,11] }
  | 2=>some { keep:=[2,3,4,5,8,10,11,13,28,29,32,33],objs:=[(12,2,112002,.ints 37 .u64 [])],boxes:=[4,5,8,11] }
  | 4=>some { keep:=[2,3,4,5,8,10,11,13,15,16,28,29,32,33,49,50],objs:=[(12,2,112002,.ints 37 .u64 [])],boxes:=[4,5,8,11] }
  | _=>none
def solve.As.Lo.Bb:List (Nat × Entry):=[(77,Cu.Ct.down.spec),(151,Aa.Br.own.spec),(78,solve.D6.spec),(158,Af.Div.spec),(150,Af.Finite.spec),(157,Af.Mul.spec),(156,Af.Sub.spec)]
def solve.As.Lo.E:Env:=Be (Ba solve.As.Lo.Bb) (fun n=>Nat.beq n 24) solve.As.Lo.hint (fun _=>none)
def solve.As.Lo.L0 (N M:Nat) (r c:Int) (l:List Int) (p q:Int) (m:List Int) (n p29:Int) (p2_2:List Int):Option DV:=B7 solve.As.Lo.E N Tryz.f76 (Al Tryz.f76) [1,1,1,0,1,0] [] M ⟨Fy 108 [(2,.fn 77 [.int .i64 n] []),(3,.fn 78 [] []),(4,.ptr 4 0 0),(5,.ptr 5 0 0),(8,.ptr 8 0 0),(10,.int .i64 r),(11,.ptr 11 0 0),(28,.int .i64 q),(29,.int .i64 p29)],[(4,false,.box [.int .i64 r,.int .i64 c,.ints .arg .u64 l]),(5,false,.box [.int .i64 p,.int .i64 q,.ints .arg .u64 m]),(8,false,.box [.int .i64 0,.int .i64 0,.nil]),(11,false,.box [.int .i64 r,.int .i64 q,.oref 112002]),(112002,false,.ints 37 .u64 p2_2)]⟩
def solve.As.Lo.L1 (N M0 M:Nat) (r c:Int) (l:List Int) (p q:Int) (m:List Int) (n p33:Int) (p2:List Int) (p13 p29_1:Int):Option DV:=B7 solve.As.Lo.E N Tryz.f76 (Al Tryz.f76) [1,1,1,0,1,0,0,1,1,0,0,1,0,1,1,0] [M0] M ⟨Fy 108 [(2,.fn 77 [.int .i64 n] []),(3,.fn 78 [] []),(4,.ptr 4 0 0),(5,.ptr 5 0 0),(8,.ptr 8 0 0),(10,.int .i64 r),(11,.ptr 11 0 0),(13,.int .i64 p13),(28,.int .i64 q),(29,.int .i64 p29_1),(32,.int .i64 r),(33,.int .i64 p33)],[(4,false,.box [.int .i64 r,.int .i64 c,.ints .arg .u64 l]),(5,false,.box [.int .i64 p,.int .i64 q,.ints .arg .u64 m]),(8,false,.box [.int .i64 0,.int .i64 0,.nil]),(11,false,.box [.int .i64 r,.int .i64 q,.oref 112002]),(112002,false,.ints 37 .u64 p2)]⟩
def solve.As.Lo.L2 (N M0 M1 M:Nat) (r c:Int) (l:List Int) (p q:Int) (m:List Int) (n p16:Int) (p50 p13_1:Int) (p15 p29_2 p33_1:Int) (p2_1:List Int):Option DV:=B7 solve.As.Lo.E N Tryz.f76 (Al Tryz.f76) [1,1,1,0,1,0,0,1,1,0,0,1,0,1,1,0,0,1,1,0,0,1,1,1,0,1,0] [M0,M1] M ⟨Fy 108 [(2,.fn 77 [.int .i64 n] []),(3,.fn 78 [] []),(4,.ptr 4 0 0),(5,.ptr 5 0 0),(8,.ptr 8 0 0),(10,.int .i64 r),(11,.ptr 11 0 0),(13,.int .i64 p13_1),(15,.int .i64 p15),(16,.int .u64 p16),(28,.int .i64 q),(29,.int .i64 p29_2),(32,.int .i64 r),(33,.int .i64 p33_1),(49,.int .i64 r),(50,.int .i64 p50)],[(4,false,.box [.int .i64 r,.int .i64 c,.ints .arg .u64 l]),(5,false,.box [.int .i64 p,.int .i64 q,.ints .arg .u64 m]),(8,false,.box [.int .i64 0,.int .i64 0,.nil]),(11,false,.box [.int .i64 r,.int .i64 q,.oref 112002]),(112002,false,.ints 37 .u64 p2_1)]⟩
theorem solve.As.Lo.At (N M:Nat) (r c:Int) (l:List Int) (p q:Int) (m:List Int) (n p29:Int) (p2_2:List Int):solve.As.Lo.L0 N (M+1) r c l p q m n p29 p2_2=bif (A4 p29 q) then solve.As.Lo.L1 N M N r c l p q m n 0 p2_2 p29 p29 else bif (Cw p2_2) then bif (!(Dw p2_2)) then some (.tup [.agg [.int .i64 0,.int .i64 0,.nil],.int .i64 2]) else some (.tup [.agg [.int .i64 r,.int .i64 q,.ints (.own 112002 37) .u64 p2_2],.int .i64 0]) else none:=by kernel_rfl
theorem solve.As.Lo.Ck (N M0 M:Nat) (r c:Int) (l:List Int) (p q:Int) (m:List Int) (n p33:Int) (p2:List Int) (p13 p29_1:Int):solve.As.Lo.L1 N M0 (M+1) r c l p q m n p33 p2 p13 p29_1=bif (A4 p33 r) then bif ((decide (0≤(Ab ((Ab (p33*q))+p13))))&&(decide ((Ab ((Ab (p33*q))+p13))<(List.length m:Int)))) then solve.As.Lo.L2 N M0 M N r c l p q m n (List.getD m (Int.toNat (Ab ((Ab (p33*q))+p13))) 0) 0 p13 p33 p29_1 p33 p2 else none else solve.As.Lo.L0 N M0 r c l p q m n (Ab (p29_1+1)) p2:=by kernel_rfl
theorem solve.As.Lo.Hd (N M0 M1 M:Nat) (r c:Int) (l:List Int) (p q:Int) (m:List Int) (n p16:Int) (p50 p13_1:Int) (p15 p29_2 p33_1:Int) (p2_1:List Int):solve.As.Lo.L2 N M0 M1 (M+1) r c l p q m n p16 p50 p13_1 p15 p29_2 p33_1 p2_1=bif (A4 p50 r) then bif (decide (p50<p15)) then bif ((decide (0≤(Ab ((Ab (p15*r))+p50))))&&(decide ((Ab ((Ab (p15*r))+p50))<(List.length l:Int)))) then bif ((decide (0≤(Ab ((Ab (p50*q))+p13_1))))&&(decide ((Ab ((Ab (p50*q))+p13_1))<(List.length p2_1:Int)))) then bif (decide ((Int.toNat (Ab ((Ab (p50*q))+p13_1)))<(List.length p2_1))) then bif (Ai (List.getD l (Int.toNat (Ab ((Ab (p15*r))+p50))) 0)&&Ai (List.getD p2_1 (Int.toNat (Ab ((Ab (p50*q))+p13_1))) 0)) then bif (Ai p16&&Ai (Eg (List.getD l (Int.toNat (Ab ((Ab (p15*r))+p50))) 0) (List.getD p2_1 (Int.toNat (Ab ((Ab (p50*q))+p13_1))) 0))) then solve.As.Lo.L2 N M0 M1 M r c l p q m n (Dk p16 (Eg (List.getD l (Int.toNat (Ab ((Ab (p15*r))+p50))) 0) (List.getD p2_1 (Int.toNat (Ab ((Ab (p50*q))+p13_1))) 0))) (Ab (p50+1)) p13_1 p15 p29_2 p33_1 p2_1 else none else none else none else none else none else solve.As.Lo.L2 N M0 M1 M r c l p q m n p16 (Ab (p50+1)) p13_1 p15 p29_2 p33_1 p2_1 else bif ((decide (0≤(Ab ((Ab (p15*r))+p15))))&&(decide ((Ab ((Ab (p15*r))+p15))<(List.length l:Int)))) then bif (Ai p16&&Ai (List.getD l (Int.toNat (Ab ((Ab (p15*r))+p15))) 0)) then bif ((decide (0≤(Ab ((Ab (p15*q))+p13_1))))&&(decide ((Ab ((Ab (p15*q))+p13_1))<(List.length p2_1:Int)))) then bif (decide ((Int.toNat (Ab ((Ab (p15*q))+p13_1)))<(List.length p2_1))) then solve.As.Lo.L1 N M0 M1 r c l p q m n (Ab (p33_1+1)) (List.set p2_1 (Int.toNat (Ab ((Ab (p15*q))+p13_1))) (Eo p16 (List.getD l (Int.toNat (Ab ((Ab (p15*r))+p15))) 0))) p13_1 p29_2 else none else none else none else none :=
  Eq.trans (by kernel_rfl)
  (Ev (Ev (C3 (Li (decide (0≤(Ab ((Ab (p15*r))+p50)))) (decide ((Ab ((Ab (p15*r))+p50))<(List.length l:Int)))) (C3 (Li (decide (0≤(Ab ((Ab (p50*q))+p13_1)))) (decide ((Ab ((Ab (p50*q))+p13_1))<(List.length p2_1:Int)))) (C3 (C4 (decide ((Int.toNat (Ab ((Ab (p50*q))+p13_1)))<(List.length p2_1)))) (C3 (C4 (Ai (List.getD l (Int.toNat (Ab ((Ab (p15*r))+p50))) 0)&&Ai (List.getD p2_1 (Int.toNat (Ab ((Ab (p50*q))+p13_1))) 0))) (C3 (C4 (Ai p16&&Ai (Eg (List.getD l (Int.toNat (Ab ((Ab (p15*r))+p50))) 0) (List.getD p2_1 (Int.toNat (Ab ((Ab (p50*q))+p13_1))) 0)))) rfl rfl) rfl) rfl) rfl) rfl) rfl) (C3 (Li (decide (0≤(Ab ((Ab (p15*r))+p15)))) (decide ((Ab ((Ab (p15*r))+p15))<(List.length l:Int)))) (C3 (C4 (Ai p16&&Ai (List.getD l (Int.toNat (Ab ((Ab (p15*r))+p15))) 0))) (C3 (Li (decide (0≤(Ab ((Ab (p15*q))+p13_1)))) (decide ((Ab ((Ab (p15*q))+p13_1))<(List.length p2_1:Int)))) (C3 (C4 (decide ((Int.toNat (Ab ((Ab (p15*q))+p13_1)))<(List.length p2_1)))) rfl rfl) rfl) rfl) rfl))
theorem solve.As.Lo.ev (N:Nat) (r c:Int) (l:List Int) (p q:Int) (m:List Int) (n:Int):B0 solve.As.Lo.E N Tryz.f76 (Al Tryz.f76) [.agg [.int .i64 r,.int .i64 c,.ints .arg .u64 l],.agg [.int .i64 p,.int .i64 q,.ints .arg .u64 m],.fn 77 [.int .i64 n] [],.fn 78 [] []]=bif (Bj r&&Bj q) then solve.As.Lo.L0 N N r c l p q m n 0 (Bl (Int.toNat r) (Int.toNat q) (fun _ _=>0)) else none:=by kernel_rfl
abbrev _root_.Go.Proofs.S1.solve.As.Lo.Kn:=A8 Tryz.prog 76 solve.As.Lo.spec
theorem solve.As.Lo.Ad (hk:Az Tryz.prog solve.As.Lo.Bb) (h:∀ (r c:Int) (l:List Int) (p q:Int) (m:List Int) (n:Int),solve.As.Lo.pre [.i r,.i c,.l l,.i p,.i q,.l m,.i n]=true→Bf solve.As.Lo.E Tryz.f76 [.agg [.int .i64 r,.int .i64 c,.ints .arg .u64 l],.agg [.int .i64 p,.int .i64 q,.ints .arg .u64 m],.fn 77 [.int .i64 n] [],.fn 78 [] []] (solve.As.Lo.out [.i r,.i c,.l l,.i p,.i q,.l m,.i n])):solve.As.Lo.Kn :=
  Ak (A0 hk _ _ _) Tryz.func76 (by kernel_rfl) (by kernel_rfl) h
def solve.Gz.Bb:List (Nat × Entry):=[(75,solve.check.spec),(76,solve.As.Lo.spec)]
def solve.Gz.E:Env:=Be (Ba solve.Gz.Bb) (fun _=>false) (fun _=>none) (fun _=>none)
theorem solve.Gz.ev (N:Nat) (r c:Int) (l:List Int) (p q:Int) (m:List Int):B0 solve.Gz.E N Tryz.f22 (Al Tryz.f22) [.agg [.int .i64 r,.int .i64 c,.ints .arg .u64 l],.agg [.int .i64 p,.int .i64 q,.ints .arg .u64 m]]=bif (Ah l&&Ah m) then bif ((Mr r c l p q m) !=(0:Int)) then some (.tup [.agg [.int .i64 0,.int .i64 0,.nil],.int .i64 (Mr r c l p q m)]) else bif (N6 r c l p q m&&decide (r=r)) then some (.tup [.agg [.int .i64 ((Iw r q (W3 c l q m (Int.toNat r) (Int.toNat q))).1),.int .i64 ((Iw r q (W3 c l q m (Int.toNat r) (Int.toNat q))).2.1),.ints .fresh .u64 ((Iw r q (W3 c l q m (Int.toNat r) (Int.toNat q))).2.2.1)],.int .i64 ((Iw r q (W3 c l q m (Int.toNat r) (Int.toNat q))).2.2.2)]) else none else none:=by kernel_rfl
abbrev _root_.Go.Proofs.S1.solve.Gz.Kn:=A8 Tryz.prog 22 solve.Gz.spec
theorem solve.Gz.Ad (hk:Az Tryz.prog solve.Gz.Bb) (h:∀ (r c:Int) (l:List Int) (p q:Int) (m:List Int),solve.Gz.pre [.i r,.i c,.l l,.i p,.i q,.l m]=true→Bf solve.Gz.E Tryz.f22 [.agg [.int .i64 r,.int .i64 c,.ints .arg .u64 l],.agg [.int .i64 p,.int .i64 q,.ints .arg .u64 m]] (solve.Gz.out [.i r,.i c,.l l,.i p,.i q,.l m])):solve.Gz.Kn :=
  Ak (A0 hk _ _ _) Tryz.func22 (by kernel_rfl) (by kernel_rfl) h
end EqLow
open EqLow
theorem solve.D6.known:solve.D6.Kn:=solve.D6.Ad .nil fun i k _=>by
  refine ⟨0,solve.D6.out [.i i,.i k],[],?_,.bool⟩
  rw [solve.D6.ev,Au]; rfl
theorem Ady.known:Cu.Ct.down.Kn:=Cu.Ct.down.Ad .nil fun n k _=>⟨0,Cu.Ct.down.out [.i n,.i k],[],by rw [Cu.Ct.down.ev]; rfl,.int⟩
section
variable {n Q:Nat} {l m:List Int}
def loF (n Q:Nat) (l m:List Int) (i j:Nat):Int:=(Ur (n:Int) l (fun i=>Ee (Q:Int) m (i:Int) (j:Int)) n).getD i 0
def loD (j k a b:Nat):Bool:=decide (b<j∨(b=j∧a<k))
def Uq (n Q:Nat) (l m:List Int) (j k:Nat):List Int:=Bl n Q fun a b=>if loD j k a b=true then loF n Q l m a b else 0
theorem Akk (i j:Nat):Ai (loF n Q l m i j)=true:=R7 (Aec _ _ _ _) i
theorem Aq7 (j k:Nat):Ah (Uq n Q l m j k)=true:=Gr fun a b=>by
  split
  · exact Akk _ _
  · exact Jh
theorem An0 {j k t:Nat} (ht:t<n) (hj:j<Q) (hk:t<k):Ee (Q:Int) (Uq n Q l m j k) (t:Int) (j:Int)=loF n Q l m t j:=by
  unfold Uq
  have hd:loD j k t j=true:=Aul (.inr ⟨rfl,hk⟩)
  rw [R6 ht hj,hd,if_pos rfl]
theorem Zq (j k:Nat):(Uq n Q l m j k).length=n*Q:=Bu _ _ _
theorem Anz {i j:Nat} (hj:j<Q) {x:Int} (hx:x=loF n Q l m i j):List.set (Uq n Q l m j i) (Int.toNat ((i:Int)*(Q:Int)+(j:Int))) x=Uq n Q l m j (i+1):=by
  refine Wl hj hx fun a b ha hb=>?_
  unfold loD
  rw [Aur,Aur]
  omega
theorem Aki (j:Nat):Uq n Q l m j n=Uq n Q l m (j+1) 0:=by
  unfold Uq
  refine C9 fun a b ha hb=>?_
  have:loD j n a b=loD (j+1) 0 a b:=by
    unfold loD
    rw [decide_eq_decide]
    omega
  rw [this]
theorem Akh:Uq n Q l m 0 0=Bl n Q fun _ _=>0:=by
  unfold Uq
  refine C9 fun a b ha hb=>?_
  have:loD 0 0 a b=false:=Aup (by omega)
  rw [this]; rfl
theorem An1:Uq n Q l m Q 0=W3 (n:Int) l (Q:Int) m n Q:=by
  unfold Uq W3
  refine C9 fun a b ha hb=>?_
  have:loD Q 0 a b=true:=Aul (.inl hb)
  rw [this]; rfl
def loR (n Q:Nat) (l m:List Int) (i j t:Nat) (s:Int):Int:=K8 (n:Int) l (i:Int) s (t:Int) (((Ur (n:Int) l (fun i=>Ee (Q:Int) m (i:Int) (j:Int)) n).take i).drop t)
theorem Afv {i j:Nat} (hi:i<n) (s:Int):loR n Q l m i j i s=s:=by
  unfold loR
  rw [Auy (by rw [List.length_take,G5]; omega),K8]
theorem Akj {i j t:Nat} (hi:i<n) (ht:t<i) (s:Int):loR n Q l m i j t s=loR n Q l m i j (t+1) (Dk s (Eg (Ee (n:Int) l (i:Int) (t:Int)) (loF n Q l m t j))):=by
  unfold loR loF
  rw [X0 (by rw [List.length_take,G5]; omega),Auu,List.getElem?_take_of_lt ht,← Auu]
  rfl
theorem An2 {i j:Nat} (hi:i<n):Eo (loR n Q l m i j 0 (Ee (Q:Int) m (i:Int) (j:Int))) (Ee (n:Int) l (i:Int) (i:Int))=loF n Q l m i j:=by
  unfold loR loF
  rw [List.drop_zero,An3 hi]; rfl
theorem Akf (N:Nat) (n6:n≤6) (q6:Q≤6) (hl:l.length=n*n) (al:Ah l=true) {i j:Nat} (hi:i<n) (hj:j<Q) (M0 M1:Nat) (p29 p33:Int) :
    ∀ (cnt t F:Nat) (s:Int),t+cnt=n→cnt<F→Ai s=true→(i<t→t≤n) →
    solve.As.Lo.L2 N M0 M1 F (n:Int) (n:Int) l (n:Int) (Q:Int) m (n:Int) s (t:Int) (j:Int) (i:Int) p29 p33 (Uq n Q l m j i) =
    solve.As.Lo.L1 N M0 M1 (n:Int) (n:Int) l (n:Int) (Q:Int) m (n:Int) (Ab (p33+(1:Int))) (List.set (Uq n Q l m j i) (Int.toNat ((i:Int)*(Q:Int)+(j:Int))) (Eo (if t<i then loR n Q l m i j t s else s) (Ee (n:Int) l (i:Int) (i:Int)))) (j:Int) p29:=by
  intro cnt
  induction cnt with
  | zero =>
    intro t F s ht hF hs _
    obtain ⟨F,rfl⟩:∃ G,F=G+1:=⟨F-1,by omega⟩
    obtain ⟨e1,g1,g2⟩:=Gt (R:=(n:Int)) (Fk n6 n6 hl hi hi)
    obtain ⟨e2,g3,g4⟩:=Gt (R:=(n:Int)) (Fk n6 q6 (Zq (l:=l) (m:=m) j i) hi hj)
    rw [if_neg (by omega)]
    rw [solve.As.Lo.Hd,Au,Aup (show ¬ (t:Int)<(n:Int) by omega),Auo,e1,Aul g1,Aul g2,Auq,Auk,hs,show Ai (List.getD l (Int.toNat ((i:Int)*(n:Int)+(i:Int))) 0)=true from Hv (c:=(n:Int)) al,Auq,Auk,
      e2,Aul g3,Aul g4,Auq,Auk,Aul (show Int.toNat ((i:Int)*(Q:Int)+(j:Int))<(Uq n Q l m j i).length by omega),Auk]
    rfl
  | succ cnt ih =>
    intro t F s ht hF hs _
    obtain ⟨F,rfl⟩:∃ G,F=G+1:=⟨F-1,by omega⟩
    by_cases hti:t<i
    · obtain ⟨e1,g1,g2⟩:=Gt (R:=(n:Int)) (Fk n6 n6 hl hi (show t<n by omega))
      obtain ⟨e2,g3,g4⟩:=Gt (R:=(n:Int)) (Fk n6 q6 (Zq (l:=l) (m:=m) j i) (show t<n by omega) hj)
      have hx:List.getD (Uq n Q l m j i) (Int.toNat ((t:Int)*(Q:Int)+(j:Int))) 0=loF n Q l m t j:=An0 (by omega) hj hti
      have:=ih (t+1) F (Dk s (Eg (Ee (n:Int) l (i:Int) (t:Int)) (loF n Q l m t j))) (by omega) (by omega) (N7 hs (L7 _ _)) (by omega)
      rw [if_pos hti,Akj hi hti]
      rw [solve.As.Lo.Hd,Au,Aul (show (t:Int)<(n:Int) by omega),Auk,Aul (show (t:Int)<(i:Int) by omega),Auk,e1,Aul g1,Aul g2,Auq,Auk,
        e2,Aul g3,Aul g4,Auq,Auk,Aul (show Int.toNat ((t:Int)*(Q:Int)+(j:Int))<(Uq n Q l m j i).length by omega),Auk,hx,
        show Ai (List.getD l (Int.toNat ((i:Int)*(n:Int)+(t:Int))) 0)=true from Hv (c:=(n:Int)) al,Akk,Auq,Auk,hs,L7,Auq,Auk,An (x:=(t:Int)+1) (by omega) (by omega)]
      have e:(if t+1<i then loR n Q l m i j (t+1) (Dk s (Eg (Ee (n:Int) l (i:Int) (t:Int)) (loF n Q l m t j))) else Dk s (Eg (Ee (n:Int) l (i:Int) (t:Int)) (loF n Q l m t j)))=loR n Q l m i j (t+1) (Dk s (Eg (Ee (n:Int) l (i:Int) (t:Int)) (loF n Q l m t j))):=by
        by_cases h2:t+1<i
        · rw [if_pos h2]
        · rw [if_neg h2,show t+1=i by omega,Afv hi]
      rw [e] at this
      exact this
    · have:=ih (t+1) F s (by omega) (by omega) hs (by omega)
      rw [if_neg hti,solve.As.Lo.Hd,Au,Aul (show (t:Int)<(n:Int) by omega),Auk,Aup (show ¬ (t:Int)<(i:Int) by omega),Auo,An (by omega) (by omega)]
      rw [if_neg (by omega)] at this
      exact this
theorem Anw (N:Nat) (n6:n≤6) (q6:Q≤6) (hN:7<N) (hl:l.length=n*n) (hm:m.length=n*Q) (al:Ah l=true) (am:Ah m=true) {j:Nat} (hj:j<Q) (M0:Nat):∀ (cnt k F:Nat),k+cnt=n→cnt<F →
    solve.As.Lo.L1 N M0 F (n:Int) (n:Int) l (n:Int) (Q:Int) m (n:Int) (k:Int) (Uq n Q l m j k) (j:Int) (j:Int) =
    solve.As.Lo.L0 N M0 (n:Int) (n:Int) l (n:Int) (Q:Int) m (n:Int) ((j+1:Nat):Int) (Uq n Q l m j n):=by
  intro cnt
  induction cnt with
  | zero =>
    intro k F hk hF
    obtain ⟨F,rfl⟩:∃ G,F=G+1:=⟨F-1,by omega⟩
    obtain rfl:k=n:=by omega
    rw [solve.As.Lo.Ck,Au,Aup (by omega),Auo,An (by omega) (by omega)]
    rfl
  | succ cnt ih =>
    intro k F hk hF
    obtain ⟨F,rfl⟩:∃ G,F=G+1:=⟨F-1,by omega⟩
    obtain ⟨e2,g3,g4⟩:=Gt (R:=(n:Int)) (Fk n6 q6 hm (show k<n by omega) hj)
    have hr:=Akf (n:=n) (Q:=Q) (l:=l) (m:=m) N n6 q6 hl al (show k<n by omega) hj M0 F (j:Int) (k:Int) n 0 N (Ee (Q:Int) m (k:Int) (j:Int)) (by omega) (by omega) (Hv (c:=(Q:Int)) am) (by omega)
    have e:(if 0<k then loR n Q l m k j 0 (Ee (Q:Int) m (k:Int) (j:Int)) else Ee (Q:Int) m (k:Int) (j:Int))=loR n Q l m k j 0 (Ee (Q:Int) m (k:Int) (j:Int)):=by
      by_cases h:0<k
      · rw [if_pos h]
      · obtain rfl:k=0:=by omega
        rw [if_neg h,Afv (by omega)]
    rw [e,Anz hj (An2 (by omega)),An (by omega) (by omega)] at hr
    rw [solve.As.Lo.Ck,Au,Aul (show (k:Int)<(n:Int) by omega),Auk,e2,Aul g3,Aul g4,Auq,Auk]
    exact hr.trans (ih (k+1) F (by omega) (by omega))
theorem Anx (N:Nat) (n6:n≤6) (q6:Q≤6) (hN:7<N) (hl:l.length=n*n) (hm:m.length=n*Q) (al:Ah l=true) (am:Ah m=true):∀ (cnt j F:Nat),j+cnt=Q→cnt<F →
    solve.As.Lo.L0 N F (n:Int) (n:Int) l (n:Int) (Q:Int) m (n:Int) (j:Int) (Uq n Q l m j 0) =
    bif Dw (Uq n Q l m Q 0) then some (.tup [.agg [.int .i64 (n:Int),.int .i64 (Q:Int),.ints (.own 112002 tB) .u64 (Uq n Q l m Q 0)],.int .i64 (0:Int)]) else some (Ag4 2):=by
  intro cnt
  induction cnt with
  | zero =>
    intro j F hj hF
    obtain ⟨F,rfl⟩:∃ G,F=G+1:=⟨F-1,by omega⟩
    obtain rfl:j=Q:=by omega
    have h36:=Nat.mul_le_mul n6 q6
    rw [solve.As.Lo.At,Au,Aup (by omega),Auo,K5 (Aq7 _ _) (by rw [Zq]; omega),Auk]
    cases Dw (Uq n j l m j 0)<;>rfl
  | succ cnt ih =>
    intro j F hj hF
    obtain ⟨F,rfl⟩:∃ G,F=G+1:=⟨F-1,by omega⟩
    have hr:=Anw N n6 q6 hN hl hm al am (show j<Q by omega) F n 0 N (by omega) (by omega)
    rw [Aki] at hr
    rw [solve.As.Lo.At,Au,Aul (show (j:Int)<(Q:Int) by omega),Auk]
    exact hr.trans (ih (j+1) F (by omega) (by omega))
end
theorem solve.As.Lo.known:solve.As.Lo.Kn:=solve.As.Lo.Ad (.cons Ady.known (.cons Aa.Br.own.known (.cons solve.D6.known (.cons Af.Div.known (.cons Af.Finite.known (.cons Af.Mul.known (.cons Af.Sub.known .nil))))))) fun r c l p q m n hp=>by
  show ∃ N dv drops,_=some dv∧Wk drops dv (Qk (Iw r q (W3 c l q m (Int.toNat r) (Int.toNat q))))
  obtain ⟨h1,hn⟩:=Ag.1 (show (N6 r c l p q m&&decide (n=r))=true from hp)
  obtain ⟨h2,h3⟩:=Ag.1 h1
  obtain ⟨hr,hm⟩:=Ag.1 h2
  obtain ⟨h4,h5⟩:=Ag.1 h3
  obtain ⟨al,am⟩:=Ag.1 h4
  obtain ⟨rfl,rfl⟩:=Ap.1 h5
  obtain rfl:=of_decide_eq_true hn
  have s1:=(Fu hr).1
  have s2:=(Fu hm).2
  obtain ⟨R,C,rfl,hC,r6,c6,hl⟩:=Dj hr
  obtain ⟨P,Q,hP,rfl,p6,q6,hl2⟩:=Dj hm
  obtain rfl:R=C:=by omega
  obtain rfl:R=P:=by omega
  have h:=Anx (n:=R) (Q:=Q) (l:=l) (m:=m) 8 r6 q6 (by omega) hl hl2 al am Q 0 8 (by omega) (by omega)
  rw [Akh,An1,show ((0:Nat):Int)=0 from rfl] at h
  rw [Aum,Aum]
  unfold Iw
  cases hf:Dw (W3 (R:Int) l (Q:Int) m R Q) with
  | true =>
    rw [hf,Auk] at h
    rw [if_pos rfl]
    refine ⟨8,.tup [.agg [.int .i64 (R:Int),.int .i64 (Q:Int),.ints (.own 112002 tB) .u64 (W3 (R:Int) l (Q:Int) m R Q)],.int .i64 0],[112002],?_,Wk.Gm (.cons (U0 (List.mem_singleton.2 rfl)) (.cons .int .nil))⟩
    rw [solve.As.Lo.ev,s1,s2,Auq,Auk,Aum,Aum]
    exact h
  | false =>
    rw [hf,Auo] at h
    rw [if_neg (by decide)]
    refine ⟨8,Ag4 2,[],?_,Lk⟩
    rw [solve.As.Lo.ev,s1,s2,Auq,Auk,Aum,Aum]
    exact h
theorem solve.Gz.known:solve.Gz.Kn:=solve.Gz.Ad (.cons solve.check.known (.cons solve.As.Lo.known .nil)) fun r c l p q m hp=>by
  have hp:(Ah l&&Ah m)=true:=hp
  show ∃ N dv drops,_=some dv∧Wk drops dv (Qk (Zp r c l p q m))
  unfold Zp
  by_cases h:Mr r c l p q m=0
  · obtain ⟨h1,h2,h3,h4⟩:=Pq h
    have ht:N6 r c l p q m=true:=Ag.2 ⟨Ag.2 ⟨h1,h2⟩,Ag.2 ⟨hp,Ap.2 ⟨h3,h4⟩⟩⟩
    rw [if_neg (by rw [h]; decide)]
    exact ⟨0,_,[],by rw [solve.Gz.ev,hp,Auk,F7 h,Auo,ht,Aul rfl]; rfl,Mu⟩
  · rw [if_pos h]
    exact ⟨0,_,[],by rw [solve.Gz.ev,hp,Auk,Ts h,Auk]; rfl,Lk⟩
namespace EqLse
end EqLse
open EqLse
theorem Vf {r c:Int} {l:List Int} (h:Bg r c l=true):0≤r∧r≤6∧0≤c∧c≤6:=by
  obtain ⟨R,C,rfl,rfl,r6,c6,_⟩:=Dj h
  omega
theorem Aoh {r c:Int} {l:List Int} {e:Int} (al:Ah l=true):Ah (Ahv r c l e).2.2.1=true:=by
  unfold Ahv
  split
  · exact Ep
  · split
    · exact Ep
    · exact al
theorem Af0 {r c:Int} {l:List Int} (al:Ah l=true):Ah (Iw r c l).2.2.1=true:=by
  unfold Iw
  split
  · exact al
  · exact Ep
theorem Aeb (r c:Int) (l:List Int) (p q:Int) (m:List Int):Ah (Zp r c l p q m).2.2.1=true:=by
  unfold Zp
  split
  · exact Ep
  · exact Af0 (Gr fun i k=>R7 (Aec _ _ _ _) i)
theorem Apz (r c:Int) (l:List Int) (p q:Int) (m:List Int):Ah (Xc r c l p q m).2.2.1=true:=by
  unfold Xc
  split
  · exact Ep
  · exact Af0 (Gr fun i k=>R7 (Ac6 _ _ _ _ _) i)
theorem Am6 {r c:Int} {l:List Int} {p q:Int} {m:List Int} (al:Ah l=true) (am:Ah m=true):Ah (T8 r c l p q m).2.2.1=true:=by
  unfold T8
  by_cases h:(Bg r c l&&Bg p q m)=true
  · rw [if_pos h]
    by_cases h2:r=p∧c=q
    · rw [if_pos h2]; exact (show Ah (Bl _ _ fun i k=>Dk (Ee c l i k) (Ee q m i k))=true from Gr fun _ _=>N7 (Pu al) (Pu am))
    · rw [if_neg h2]; exact Ep
  · rw [if_neg h]; exact Ep
theorem Abf {r c:Int} {l:List Int} (al:Ah l=true):Ah (qX r c l).2.2.1=true∧Ah (rX r c l).2.2.1=true:=by
  by_cases k:Gh r c l=0
  · rw [(Y6 k).1,(Y6 k).2]; exact Ark al k
  · rw [(Vi rfl k).1,(Vi rfl k).2]; exact ⟨Ep,Ep⟩
open EqMat EqOf
theorem Aa.Gv.known:Aa.Gv.Kn:=Aa.Gv.Ad (.cons Aa.get.known (.cons Af.Sub.known .nil)) fun i k r c l p q m hp=>by
  obtain ⟨h1,am⟩:=Ag.1 (show (((Du r c l i k&&Du p q m i k)&&Ah l)&&Ah m)=true from hp)
  obtain ⟨h2,al⟩:=Ag.1 h1
  obtain ⟨h3,h4⟩:=Ag.1 h2
  refine ⟨0,Aa.Gv.out [.i i,.i k,.i r,.i c,.l l,.i p,.i q,.l m],[],?_,.int⟩
  rw [Aa.Gv.ev,h3,h4,Hv al,Hv am]; rfl
theorem of.Sub.inner (N:Nat) (r c:Int) (l:List Int) (p q:Int) (m:List Int) {A B:Nat} (hA:A≤6) (hB:B≤6) {F:Nat→Nat→Int} (hF:∀ i j:Nat,F i j=Dk (Ee c l (i:Int) (j:Int)) (Ee q m (i:Int) (j:Int))) {i:Nat} (hi:i<A) (hp:∀ j:Nat,j<B→(((Du r c l (i:Int) (j:Int)&&Du p q m (i:Int) (j:Int))&&Ah l)&&Ah m)=true):∀ (k j M0 M:Nat),j+k=B→k<M →
    Aa.of.Sub.L1 N M0 M (A:Int) (B:Int) r c l p q m (i:Int) (i:Int) (j:Int) (Bl i B F++(List.range j).map (F i))=Aa.of.Sub.L0 N M0 (A:Int) (B:Int) r c l p q m ((i+1:Nat):Int) (Bl (i+1) B F):=by
  intro k
  induction k with
  | zero =>
    intro j M0 M hj hM
    obtain ⟨M,rfl⟩:∃ G,M=G+1:=⟨M-1,by omega⟩
    obtain rfl:j=B:=by omega
    rw [Aa.of.Sub.Ck,Au,Aup (by omega),Auo,An (by omega) (by omega),← Kz]
    rfl
  | succ k ih =>
    intro j M0 M hj hM
    obtain ⟨M,rfl⟩:∃ G,M=G+1:=⟨M-1,by omega⟩
    have d:decide ((Bl i B F++(List.range j).map (F i)).length+1≤Gf)=true:=by
      refine Aul ?_
      have:=Nat.mul_le_mul (show i≤6 by omega) hB
      rw [List.length_append,Bu,List.length_map,List.length_range]; unfold Gf; omega
    rw [Aa.of.Sub.Ck,Au,Aul (by omega),Auk,hp j (by omega),Auk,d,Auk,An (by omega) (by omega),← hF i j]
    have:=ih (j+1) M0 M (by omega) (by omega)
    rw [Ii,← List.append_assoc] at this
    exact this
theorem of.Sub.outer (N:Nat) (r c:Int) (l:List Int) (p q:Int) (m:List Int) {A B:Nat} (hA:A≤6) (hB:B≤6) (hN:6<N) {F:Nat→Nat→Int} (hF:∀ i j:Nat,F i j=Dk (Ee c l (i:Int) (j:Int)) (Ee q m (i:Int) (j:Int))) (hp:∀ i j:Nat,i<A→j<B→(((Du r c l (i:Int) (j:Int)&&Du p q m (i:Int) (j:Int))&&Ah l)&&Ah m)=true):∀ (k i M:Nat),i+k=A→k<M →
    Aa.of.Sub.L0 N M (A:Int) (B:Int) r c l p q m (i:Int) (Bl i B F)=some (.agg [.int .i64 (A:Int),.int .i64 (B:Int),.ints (.own 108002 tB) .u64 (Bl A B F)]):=by
  intro k
  induction k with
  | zero =>
    intro i M hi hM
    obtain ⟨M,rfl⟩:∃ G,M=G+1:=⟨M-1,by omega⟩
    obtain rfl:i=A:=by omega
    rw [Aa.of.Sub.At,Au,Aup (by omega),Auo]
  | succ k ih =>
    intro i M hi hM
    obtain ⟨M,rfl⟩:∃ G,M=G+1:=⟨M-1,by omega⟩
    have n:=of.Sub.inner N r c l p q m hA hB hF (show i<A by omega) (fun j hj=>hp i j (by omega) hj) B 0 M N (by omega) (by omega)
    rw [List.range_zero,List.map_nil,List.append_nil] at n
    rw [Aa.of.Sub.At,Au,Aul (by omega),Auk]
    exact n.trans (ih (i+1) M (by omega) (by omega))
theorem Aa.of.Sub.known:Aa.of.Sub.Kn:=Aa.of.Sub.Ad (.cons Aa.Gv.known .nil) fun a b r c l p q m hp=>by
  obtain ⟨h12,hy⟩:=Ag.1 (show (((Bj a&&Bj b)&&((Bg r c l&&Bg p q m)&&(Ah l&&Ah m)))&&decide (a=r∧b=c∧p=r∧q=c))=true from hp)
  obtain ⟨h1,hx⟩:=Ag.1 h12
  have h2:=Ag.2 ⟨hx,hy⟩
  obtain ⟨ha,hb⟩:=Ag.1 h1
  obtain ⟨A,rfl,hA⟩:=Ff ha
  obtain ⟨B,rfl,hB⟩:=Ff hb
  obtain ⟨h3,he⟩:=Ag.1 h2
  obtain ⟨h4,h5⟩:=Ag.1 h3
  obtain ⟨hr,hm⟩:=Ag.1 h4
  obtain ⟨al,am⟩:=Ag.1 h5
  obtain ⟨e1,e2,e3,e4⟩:=of_decide_eq_true he
  have hp:∀ i j:Nat,i<A→j<B→(((Du r c l (i:Int) (j:Int)&&Du p q m (i:Int) (j:Int))&&Ah l)&&Ah m)=true:=fun i j hi hj =>
    Ag.2 ⟨Ag.2 ⟨Ag.2 ⟨Lx hr (by omega) (by omega) (by omega) (by omega) r,Lx hm (by omega) (by omega) (by omega) (by omega) p⟩,al⟩,am⟩
  refine ⟨8,.agg [.int .i64 (A:Int),.int .i64 (B:Int),.ints (.own 108002 tB) .u64 (Bl A B fun (i j:Nat)=>Dk (Ee c l (i:Int) (j:Int)) (Ee q m (i:Int) (j:Int)))],[108002],?_,Wk.Ix (.cons .int (.cons .int (.cons (.drop _ _ _ _ (List.mem_singleton.2 rfl)) .nil)))⟩
  rw [Aa.of.Sub.ev]
  have n:=of.Sub.outer 8 r c l p q m hA hB (by omega) (F:=fun (i j:Nat)=>Dk (Ee c l (i:Int) (j:Int)) (Ee q m (i:Int) (j:Int))) (fun _ _=>rfl) hp A 0 8 (by omega) (by omega)
  rw [Ky] at n
  exact n
namespace EqRef20
end EqRef20
open EqOf EqRef20
theorem Aa.Sub.known:Aa.Sub.Kn:=Aa.Sub.Ad (.cons Aa.of.Sub.known (.cons Aa.two.known .nil)) fun r c l p q m hp=>by
  show ∃ N dv drops,_=some dv∧Wk drops dv (Qk (T8 r c l p q m))
  unfold T8
  have hp:(Ah l&&Ah m)=true:=hp
  by_cases h:(Bg r c l&&Bg p q m)=true
  · obtain ⟨h1,h2⟩:=Ag.1 h
    by_cases hc:r=p∧c=q
    · have e:(!((r==p)&&(c==q)))=false:=by rw [hc.1,hc.2]; simp
      rw [if_pos h,if_pos hc]
      exact ⟨0,_,[],by rw [Aa.Sub.ev,Si,h,e,(Fu h1).1,(Fu h1).2,hp,Aul ⟨rfl,rfl,hc.1.symm,hc.2.symm⟩]; rfl,Mu⟩
    · have e:(!((r==p)&&(c==q)))=true:=by
        rw [Bool.not_eq_true',Bool.eq_false_iff]
        intro h
        simp only [Auv,beq_iff_eq] at h
        exact hc h
      rw [if_pos h,if_neg hc]
      exact ⟨0,_,[],by rw [Aa.Sub.ev,Si,h,e]; rfl,Lk⟩
  · have e:(Bg r c l&&Bg p q m)=false:=by simpa using h
    rw [if_neg h]
    exact ⟨0,_,[],by rw [Aa.Sub.ev,Si,e,Ait e]; rfl,Lk⟩
open EqLse
section
variable {N:Nat} {r c p q a b u v:Int} {l m g h:List Int} {w one two done f y Q z:MX}
end
open EqRef14 EqLow
theorem Arj {c:Int} {l:List Int} {i k:Int} (h:Dw l=true):Cv (Ee c l i k)=true:=by
  unfold Ee
  rw [Auu]
  cases hx:l[(i*c+k).toNat]? with
  | none=>exact (by decide:Cv 0=true)
  | some x =>
    unfold Dw at h
    exact List.all_eq_true.1 h x (List.mem_of_getElem? hx)
theorem Ak9 {r c:Nat} {f:Nat→Nat→Int} (h:∀ i k,Cv (f i k)=true):Dw (Bl r c f)=true:=by
  unfold Dw
  rw [List.all_eq_true]
  intro x hx
  obtain ⟨j,_,rfl⟩:=List.mem_map.1 hx
  exact h _ _
section
variable {n Q:Nat} {l m:List Int}
end
open EqRef20
theorem Abz {r c:Int} {l:List Int} {p q:Int} {m:List Int} (h:(Zp r c l p q m).2.2.2=0) :
    ∃ (R Q:Nat) (Y:List Int),r=R∧q=Q∧R≤6∧Q≤6∧Zp r c l p q m=((R:Int),(Q:Int),Y,0)∧Y.length=R*Q∧Dw Y=true∧Ah Y=true:=by
  have hin:=Aeb r c l p q m
  unfold Zp at h hin ⊢
  by_cases k:Mr r c l p q m=0
  · rw [if_neg (fun h=>h k)] at h hin ⊢
    obtain ⟨h1,h2,rfl,rfl⟩:=Pq k
    obtain ⟨R,C,rfl,hC,r6,c6,hl⟩:=Dj h1
    obtain ⟨P,Q,hP,rfl,p6,q6,hl2⟩:=Dj h2
    unfold Iw at h hin ⊢
    by_cases kf:Dw (W3 (R:Int) l (Q:Int) m (R:Int).toNat (Q:Int).toNat)=true
    · rw [if_pos kf] at hin ⊢
      exact ⟨R,Q,_,rfl,rfl,r6,q6,rfl,by unfold W3; rw [Bu,Aum,Aum],kf,hin⟩
    · rw [if_neg kf] at h; exact absurd h (by decide)
  · rw [if_pos k] at h; exact absurd h k
theorem Aim {r c:Int} {l:List Int} {p q:Int} {m:List Int} (h:(Xc r c l p q m).2.2.2=0) :
    ∃ (R Q:Nat) (Y:List Int),r=R∧q=Q∧R≤6∧Q≤6∧Xc r c l p q m=((R:Int),(Q:Int),Y,0)∧Y.length=R*Q∧Dw Y=true∧Ah Y=true:=by
  have hin:=Apz r c l p q m
  unfold Xc at h hin ⊢
  by_cases k:Mr r c l p q m=0
  · rw [if_neg (fun h=>h k)] at h hin ⊢
    obtain ⟨h1,h2,rfl,rfl⟩:=Pq k
    obtain ⟨R,C,rfl,hC,r6,c6,hl⟩:=Dj h1
    obtain ⟨P,Q,hP,rfl,p6,q6,hl2⟩:=Dj h2
    unfold Iw at h hin ⊢
    by_cases kf:Dw (upG (R:Int) l (Q:Int) m (R:Int).toNat (Q:Int).toNat)=true
    · rw [if_pos kf] at hin ⊢
      exact ⟨R,Q,_,rfl,rfl,r6,q6,rfl,by unfold upG; rw [Bu,Aum,Aum],kf,hin⟩
    · rw [if_neg kf] at h; exact absurd h (by decide)
  · rw [if_pos k] at h; exact absurd h k
def Jf (R C:Nat) (x:MX):Prop:=∃ l,x=((R:Int),(C:Int),l,0)∧R≤6∧C≤6∧l.length=R*C∧Ah l=true
def FM (x:MX):Prop:=Dw x.2.2.1=true
theorem FM.of {r c e:Int} {l:List Int} (h:Dw l=true):FM (r,c,l,e):=h
theorem Jf.mk {R C:Nat} {l:List Int} (r6:R≤6) (c6:C≤6) (hl:l.length=R*C) (al:Ah l=true):Jf R C ((R:Int),(C:Int),l,0):=⟨l,rfl,r6,c6,hl,al⟩
section
variable {R C K:Nat} {x y:MX}
theorem Jf.right (h:Jf R C x):Bg x.1 x.2.1 x.2.2.1=true:=by
  obtain ⟨l,rfl,r6,c6,hl,al⟩:=h
  exact Oc r6 c6 hl
theorem Jf.inn (h:Jf R C x):Ah x.2.2.1=true:=by obtain ⟨l,rfl,r6,c6,hl,al⟩:=h; exact al
theorem Jf.err (h:Jf R C x):x.2.2.2=0:=by obtain ⟨l,rfl,_⟩:=h; rfl
theorem Jf.rows (h:Jf R C x):x.1=R:=by obtain ⟨l,rfl,_⟩:=h; rfl
theorem Jf.cols (h:Jf R C x):x.2.1=C:=by obtain ⟨l,rfl,_⟩:=h; rfl
theorem Jf.r6 (h:Jf R C x):R≤6:=by obtain ⟨l,rfl,r6,_⟩:=h; exact r6
theorem Jf.c6 (h:Jf R C x):C≤6:=by obtain ⟨l,rfl,_,c6,_⟩:=h; exact c6
theorem Jf.len (h:Jf R C x):x.2.2.1.length≤36:=by
  obtain ⟨l,rfl,r6,c6,hl,_⟩:=h
  have:=Nat.mul_le_mul r6 c6
  show l.length≤36
  omega
theorem Jf.chk (h:Jf R C x) (f:FM x):Mb x=0:=Ars h.right f
theorem Jf.fin (h:Mb x=0):FM x:=(G7 h).2
theorem Jf.turn (h:Jf R C x):Jf C R (P1 x):=by
  have hr:=h.right
  obtain ⟨l,rfl,r6,c6,hl,al⟩:=h
  refine ⟨_,by unfold P1 Bc; rw [if_pos hr],c6,r6,by rw [Bu,Aum,Aum],Gr fun _ _=>Hv al⟩
theorem Rm {i k a b:Nat} (ha:i+a≤R) (hb:k+b≤C):Ns (R:Int) (C:Int) (i:Int) (k:Int) (a:Int) (b:Int)=true:=Aul (by omega)
theorem Jf.part {i k a b:Nat} (h:Jf R C x) (ha:i+a≤R) (hb:k+b≤C):Jf a b (I7 x i k a b):=by
  have hr:=h.right
  obtain ⟨l,rfl,r6,c6,hl,al⟩:=h
  refine ⟨_,by unfold I7 Dz; dsimp only; rw [if_pos hr,if_pos (Rm ha hb)],by omega,by omega,by rw [Bu,Aum,Aum],Gr fun _ _=>Hv al⟩
theorem FM.part {i k a b:Nat} (h:Jf R C x) (f:FM x) (ha:i+a≤R) (hb:k+b≤C):FM (I7 x i k a b):=by
  have hr:=h.right
  obtain ⟨l,rfl,r6,c6,hl,al⟩:=h
  unfold I7 Dz
  dsimp only
  rw [if_pos hr,if_pos (Rm ha hb)]
  exact .of (Ak9 fun _ _=>Arj (show Dw _=true from f))
theorem U3 (h:Jf R C x) (y:MX):Fl x y=mulM (P1 x) y:=by
  have e:=h.turn.err
  unfold P1 at e
  unfold Fl El
  rw [if_neg (fun k=>k e)]
  rfl
theorem Jf.lo (h:Jf R R x) (g:Jf R C y) (e:(Ua x y).2.2.2=0):Jf R C (Ua x y)∧FM (Ua x y):=by
  obtain ⟨l,rfl,r6,c6,hl,al⟩:=h
  obtain ⟨m,rfl,p6,q6,hm,am⟩:=g
  obtain ⟨P,Q,Y,e1,e2,a6,b6,e3,e4,e5,e6⟩:=Abz e
  dsimp only at e1 e2
  obtain rfl:P=R:=by omega
  obtain rfl:Q=C:=by omega
  have e7:Ua ((P:Int),(P:Int),l,0) ((P:Int),(Q:Int),m,0)=((P:Int),(Q:Int),Y,0):=e3
  rw [e7]
  exact ⟨.mk a6 b6 e4 e6,e5⟩
theorem Jf.up (h:Jf R R x) (g:Jf R C y) (e:(upM x y).2.2.2=0):Jf R C (upM x y)∧FM (upM x y):=by
  obtain ⟨l,rfl,r6,c6,hl,al⟩:=h
  obtain ⟨m,rfl,p6,q6,hm,am⟩:=g
  obtain ⟨P,Q,Y,e1,e2,a6,b6,e3,e4,e5,e6⟩:=Aim e
  dsimp only at e1 e2
  obtain rfl:P=R:=by omega
  obtain rfl:Q=C:=by omega
  have e7:upM ((P:Int),(P:Int),l,0) ((P:Int),(Q:Int),m,0)=((P:Int),(Q:Int),Y,0):=e3
  rw [e7]
  exact ⟨.mk a6 b6 e4 e6,e5⟩
end
end Go.Proofs.S1
end
