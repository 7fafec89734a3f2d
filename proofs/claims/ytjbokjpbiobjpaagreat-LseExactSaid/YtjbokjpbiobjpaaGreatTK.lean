/- A verified evaluator of the program's form and its use for this seat: S1EqSol, S1PTri, S1EqFew, S1PSol, S1EqQr, S1PQr, S1PQrA, S1EqRef17, S1PRef17, S1EqRef14, S1PRef13, S1PRef14, S1EqLow, S1PLow. -/
import Derived.Test.YtjbokjpbiobjpaaGreatTE
import Derived.Test.YtjbokjpbiobjpaaGreatTF
import Derived.Test.YtjbokjpbiobjpaaGreatTI
import Derived.Test.YtjbokjpbiobjpaaGreatTJ
set_option linter.unusedVariables false
set_option linter.unusedSimpArgs false
noncomputable section
namespace Go.Proofs.S1
open Go Go.Den Go.Rnd Go.Proofs
set_option maxRecDepth 100000
namespace EqSol
def solve.check.hint:Nat→Option A8
  | 0=>some { keep:=[2,3,11,12],objs:=[],boxes:=[2,3] }
  | 2=>some { keep:=[2,34,35],objs:=[],boxes:=[2] }
  | _=>none
def solve.check.Bb:List (Nat × Entry):=[(86,Cc.Check.spec),(155,soft.Kind.spec)]
def solve.check.E:Env:=Bc (Ba solve.check.Bb) (fun _=>false) solve.check.hint (fun _=>none)
def solve.check.L0 (N M:Nat) (r c:Int) (l:List Int) (p35:Int):Option DV:=B3 solve.check.E N Tryz.f75 (Am Tryz.f75) [1,1,1,0,1,0] [] M ⟨Gb 51 [(2,.ptr 2 0 0),(34,.int .i64 r),(35,.int .i64 p35)],[(2,false,.box [.int .i64 r,.int .i64 c,.ints .arg .u64 l])]⟩
theorem solve.check.Au (N M:Nat) (r c:Int) (l:List Int) (p35:Int):solve.check.L0 (N+4) (M+1) r c l p35=bif (A2 p35 r) then bif ((decide (0≤(Ab ((Ab (p35*c))+p35))))&&(decide ((Ab ((Ab (p35*c))+p35))<(List.length l:Int)))) then bif (Ai (List.getD l (Int.toNat (Ab ((Ab (p35*c))+p35))) 0)) then bif ((A3 (List.getD l (Int.toNat (Ab ((Ab (p35*c))+p35))) 0))==(0:Int)) then some (.int .i64 5) else solve.check.L0 (N+4) M r c l (Ab (p35+1)) else none else none else some (.int .i64 0):=by kernel_rfl
theorem solve.check.ev (N:Nat) (r c:Int) (l:List Int) (p q:Int) (m:List Int):Bw solve.check.E (N+4) Tryz.f75 (Am Tryz.f75) [.agg [.int .i64 r,.int .i64 c,.ints .arg .u64 l],.agg [.int .i64 p,.int .i64 q,.ints .arg .u64 m]]=bif (Ah l) then bif ((Bt r c l) !=(0:Int)) then some (.int .i64 (Bt r c l)) else bif (Ah m) then bif ((Bt p q m) !=(0:Int)) then some (.int .i64 (Bt p q m)) else bif ((r !=c)||(r !=p)) then some (.int .i64 3) else solve.check.L0 (N+4) (N+4) r c l (0:Int) else none else none :=
  Eq.trans (by kernel_rfl)
  (Es (Es rfl (Es (Es rfl (Ap (Ul (r !=c)) (Ap (Q9 (r !=c)) (Ap (Ul (r !=c)) (Ap (Q9 (r !=c)) (Ap (tt8 (r !=c)) (Ap (tt6 (r !=c)) (Da (tt5 (r !=c) (r !=p)) rfl rfl)))))))) rfl)) rfl)
abbrev _root_.Go.Proofs.S1.solve.check.Kn:=A6 Tryz.prog 75 solve.check.spec
theorem solve.check.Ad (hk:A0 Tryz.prog solve.check.Bb) (h:∀ (r c:Int) (l:List Int) (p q:Int) (m:List Int),solve.check.pre [.i r,.i c,.l l,.i p,.i q,.l m]=true→Be solve.check.E Tryz.f75 [.agg [.int .i64 r,.int .i64 c,.ints .arg .u64 l],.agg [.int .i64 p,.int .i64 q,.ints .arg .u64 m]] (solve.check.out [.i r,.i c,.l l,.i p,.i q,.l m])):solve.check.Kn :=
  Ak (A1 hk _ _ _) Tryz.func75 (by kernel_rfl) (by kernel_rfl) h
def Cw.Cv.up.Bb:List (Nat × Entry):=[]
def Cw.Cv.up.E:Env:=Bc (Ba Cw.Cv.up.Bb) (fun _=>false) (fun _=>none) (fun _=>none)
theorem Cw.Cv.up.ev (N:Nat) (n k:Int):Bw Cw.Cv.up.E N Tryz.f103 (Am Tryz.f103) [.int .i64 n,.int .i64 k]=some (.int .i64 (Ab ((Ab (n-1))-k))):=by kernel_rfl
abbrev _root_.Go.Proofs.S1.Cw.Cv.up.Kn:=A6 Tryz.prog 103 Cw.Cv.up.spec
theorem Cw.Cv.up.Ad (hk:A0 Tryz.prog Cw.Cv.up.Bb) (h:∀ (n k:Int),Cw.Cv.up.pre [.i n,.i k]=true→Be Cw.Cv.up.E Tryz.f103 [.int .i64 n,.int .i64 k] (Cw.Cv.up.out [.i n,.i k])):Cw.Cv.up.Kn :=
  Ak (A1 hk _ _ _) Tryz.func103 (by kernel_rfl) (by kernel_rfl) h
def solve.D9.Bb:List (Nat × Entry):=[]
def solve.D9.E:Env:=Bc (Ba solve.D9.Bb) (fun _=>false) (fun _=>none) (fun _=>none)
theorem solve.D9.ev (N:Nat) (i k:Int):Bw solve.D9.E N Tryz.f104 (Am Tryz.f104) [.int .i64 i,.int .i64 k]=some (.bool (A2 i k)):=by kernel_rfl
abbrev _root_.Go.Proofs.S1.solve.D9.Kn:=A6 Tryz.prog 104 solve.D9.spec
theorem solve.D9.Ad (hk:A0 Tryz.prog solve.D9.Bb) (h:∀ (i k:Int),solve.D9.pre [.i i,.i k]=true→Be solve.D9.E Tryz.f104 [.int .i64 i,.int .i64 k] (solve.D9.out [.i i,.i k])):solve.D9.Kn :=
  Ak (A1 hk _ _ _) Tryz.func104 (by kernel_rfl) (by kernel_rfl) h
def Aa.of.Bq.own.hint:Nat→Option A8
  | 0=>some { keep:=[1,2,6,7,13,14],objs:=[(8,2,108002,.ints 37 .u64 [])],boxes:=[6,7] }
  | 2=>some { keep:=[1,2,6,7,8,13,14,17,18],objs:=[(8,2,108002,.ints 37 .u64 [])],boxes:=[6,7] }
  | _=>none
def Aa.of.Bq.own.Bb:List (Nat × Entry):=[(205,Aa.D3.spec)]
def Aa.of.Bq.own.E:Env:=Bc (Ba Aa.of.Bq.own.Bb) (fun _=>false) Aa.of.Bq.own.hint (fun _=>none)
abbrev _root_.Go.Proofs.S1.Aa.of.Bq.own.Kn:=A6 Tryz.prog 187 Aa.of.Bq.own.spec
theorem Aa.of.Bq.own.Ad (hk:A0 Tryz.prog Aa.of.Bq.own.Bb) (h:∀ (a b:Int),Aa.of.Bq.own.pre [.i a,.i b]=true→Be Aa.of.Bq.own.E Tryz.f187 [.int .i64 a,.int .i64 b,.fn 205 [] []] (Aa.of.Bq.own.out [.i a,.i b])):Aa.of.Bq.own.Kn :=
  Ak (A1 hk _ _ _) Tryz.func187 (by kernel_rfl) (by kernel_rfl) h
def Aa.Bq.own.Bb:List (Nat × Entry):=[(187,Aa.of.Bq.own.spec),(204,Aa.size.spec)]
def Aa.Bq.own.E:Env:=Bc (Ba Aa.Bq.own.Bb) (fun n=>Nat.beq n 17) (fun _=>none) (fun _=>none)
theorem Aa.Bq.own.ev (N:Nat) (a b:Int):Bw Aa.Bq.own.E N Tryz.f151 (Am Tryz.f151) [.int .i64 a,.int .i64 b]=bif ((!(Bg a))||(!(Bg b))) then some (.tup [.agg [.int .i64 0,.int .i64 0,.nil],.int .i64 3]) else bif (Bg a&&Bg b) then some (.tup [.agg [.int .i64 a,.int .i64 b,.ints (.own 1136 37) .u64 (Bf (Int.toNat a) (Int.toNat b) (fun _ _=>0))],.int .i64 0]) else none :=
  Eq.trans (by kernel_rfl)
  (Ap (Aaq (Bg a)) (Ap (Sv (Bg a)) (Ap (Sv (Bg a)) (Ap (Aar (Bg a)) (Da (Aqx (Bg a) (Bg b)) rfl rfl)))))
abbrev _root_.Go.Proofs.S1.Aa.Bq.own.Kn:=A6 Tryz.prog 151 Aa.Bq.own.spec
theorem Aa.Bq.own.Ad (hk:A0 Tryz.prog Aa.Bq.own.Bb) (h:∀ (a b:Int),Aa.Bq.own.pre [.i a,.i b]=true→Be Aa.Bq.own.E Tryz.f151 [.int .i64 a,.int .i64 b] (Aa.Bq.own.out [.i a,.i b])):Aa.Bq.own.Kn :=
  Ak (A1 hk _ _ _) Tryz.func151 (by kernel_rfl) (by kernel_rfl) h
def solve.As.Up.hint:Nat→Option A8
  | 0=>some { keep:=[2,3,4,5,8,10,11,28,29],objs:=[(12,2,112002,.ints 37 .u64 [])],boxes:=[4,5,8,11] }
  | 2=>some { keep:=[2,3,4,5,8,10,11,13,28,29,32,33],objs:=[(12,2,112002,.ints 37 .u64 [])],boxes:=[4,5,8,11] }
  | 4=>some { keep:=[2,3,4,5,8,10,11,13,15,16,28,29,32,33,49,50],objs:=[(12,2,112002,.ints 37 .u64 [])],boxes:=[4,5,8,11] }
  | _=>none
def solve.As.Up.Bb:List (Nat × Entry):=[(103,Cw.Cv.up.spec),(151,Aa.Bq.own.spec),(104,solve.D9.spec),(158,Af.Div.spec),(150,Af.Finite.spec),(157,Af.Mul.spec),(156,Af.Sub.spec)]
def solve.As.Up.E:Env:=Bc (Ba solve.As.Up.Bb) (fun n=>Nat.beq n 24) solve.As.Up.hint (fun _=>none)
def solve.As.Up.L0 (N M:Nat) (r c:Int) (l:List Int) (p q:Int) (m:List Int) (n p29:Int) (p2_2:List Int):Option DV:=B3 solve.As.Up.E N Tryz.f76 (Am Tryz.f76) [1,1,1,0,1,0] [] M ⟨Gb 108 [(2,.fn 103 [.int .i64 n] []),(3,.fn 104 [] []),(4,.ptr 4 0 0),(5,.ptr 5 0 0),(8,.ptr 8 0 0),(10,.int .i64 r),(11,.ptr 11 0 0),(28,.int .i64 q),(29,.int .i64 p29)],[(4,false,.box [.int .i64 r,.int .i64 c,.ints .arg .u64 l]),(5,false,.box [.int .i64 p,.int .i64 q,.ints .arg .u64 m]),(8,false,.box [.int .i64 0,.int .i64 0,.nil]),(11,false,.box [.int .i64 r,.int .i64 q,.oref 112002]),(112002,false,.ints 37 .u64 p2_2)]⟩
def solve.As.Up.L1 (N M0 M:Nat) (r c:Int) (l:List Int) (p q:Int) (m:List Int) (n p33:Int) (p2:List Int) (p13 p29_1:Int):Option DV:=B3 solve.As.Up.E N Tryz.f76 (Am Tryz.f76) [1,1,1,0,1,0,0,1,1,0,0,1,0,1,1,0] [M0] M ⟨Gb 108 [(2,.fn 103 [.int .i64 n] []),(3,.fn 104 [] []),(4,.ptr 4 0 0),(5,.ptr 5 0 0),(8,.ptr 8 0 0),(10,.int .i64 r),(11,.ptr 11 0 0),(13,.int .i64 p13),(28,.int .i64 q),(29,.int .i64 p29_1),(32,.int .i64 r),(33,.int .i64 p33)],[(4,false,.box [.int .i64 r,.int .i64 c,.ints .arg .u64 l]),(5,false,.box [.int .i64 p,.int .i64 q,.ints .arg .u64 m]),(8,false,.box [.int .i64 0,.int .i64 0,.nil]),(11,false,.box [.int .i64 r,.int .i64 q,.oref 112002]),(112002,false,.ints 37 .u64 p2)]⟩
def solve.As.Up.L2 (N M0 M1 M:Nat) (r c:Int) (l:List Int) (p q:Int) (m:List Int) (n p16:Int) (p50 p13_1:Int) (p15 p29_2 p33_1:Int) (p2_1:List Int):Option DV:=B3 solve.As.Up.E N Tryz.f76 (Am Tryz.f76) [1,1,1,0,1,0,0,1,1,0,0,1,0,1,1,0,0,1,1,0,0,1,1,1,0,1,0] [M0,M1] M ⟨Gb 108 [(2,.fn 103 [.int .i64 n] []),(3,.fn 104 [] []),(4,.ptr 4 0 0),(5,.ptr 5 0 0),(8,.ptr 8 0 0),(10,.int .i64 r),(11,.ptr 11 0 0),(13,.int .i64 p13_1),(15,.int .i64 p15),(16,.int .u64 p16),(28,.int .i64 q),(29,.int .i64 p29_2),(32,.int .i64 r),(33,.int .i64 p33_1),(49,.int .i64 r),(50,.int .i64 p50)],[(4,false,.box [.int .i64 r,.int .i64 c,.ints .arg .u64 l]),(5,false,.box [.int .i64 p,.int .i64 q,.ints .arg .u64 m]),(8,false,.box [.int .i64 0,.int .i64 0,.nil]),(11,false,.box [.int .i64 r,.int .i64 q,.oref 112002]),(112002,false,.ints 37 .u64 p2_1)]⟩
theorem solve.As.Up.Au (N M:Nat) (r c:Int) (l:List Int) (p q:Int) (m:List Int) (n p29:Int) (p2_2:List Int):solve.As.Up.L0 N (M+1) r c l p q m n p29 p2_2=bif (A2 p29 q) then solve.As.Up.L1 N M N r c l p q m n 0 p2_2 p29 p29 else bif (Cx p2_2) then bif (!(Dz p2_2)) then some (.tup [.agg [.int .i64 0,.int .i64 0,.nil],.int .i64 2]) else some (.tup [.agg [.int .i64 r,.int .i64 q,.ints (.own 112002 37) .u64 p2_2],.int .i64 0]) else none:=by kernel_rfl
theorem solve.As.Up.Cf (N M0 M:Nat) (r c:Int) (l:List Int) (p q:Int) (m:List Int) (n p33:Int) (p2:List Int) (p13 p29_1:Int):solve.As.Up.L1 N M0 (M+1) r c l p q m n p33 p2 p13 p29_1=bif (A2 p33 r) then bif (Cu (0≤p33∧p33<n∧n≤10)) then bif ((decide (0≤(Ab ((Ab ((n-1-p33)*q))+p13))))&&(decide ((Ab ((Ab ((n-1-p33)*q))+p13))<(List.length m:Int)))) then solve.As.Up.L2 N M0 M N r c l p q m n (List.getD m (Int.toNat (Ab ((Ab ((n-1-p33)*q))+p13))) 0) 0 p13 (n-1-p33) p29_1 p33 p2 else none else none else solve.As.Up.L0 N M0 r c l p q m n (Ab (p29_1+1)) p2:=by kernel_rfl
theorem solve.As.Up.Hm (N M0 M1 M:Nat) (r c:Int) (l:List Int) (p q:Int) (m:List Int) (n p16:Int) (p50 p13_1:Int) (p15 p29_2 p33_1:Int) (p2_1:List Int):solve.As.Up.L2 N M0 M1 (M+1) r c l p q m n p16 p50 p13_1 p15 p29_2 p33_1 p2_1=bif (A2 p50 r) then bif (decide (p15<p50)) then bif ((decide (0≤(Ab ((Ab (p15*r))+p50))))&&(decide ((Ab ((Ab (p15*r))+p50))<(List.length l:Int)))) then bif ((decide (0≤(Ab ((Ab (p50*q))+p13_1))))&&(decide ((Ab ((Ab (p50*q))+p13_1))<(List.length p2_1:Int)))) then bif (decide ((Int.toNat (Ab ((Ab (p50*q))+p13_1)))<(List.length p2_1))) then bif (Ai (List.getD l (Int.toNat (Ab ((Ab (p15*r))+p50))) 0)&&Ai (List.getD p2_1 (Int.toNat (Ab ((Ab (p50*q))+p13_1))) 0)) then bif (Ai p16&&Ai (Ek (List.getD l (Int.toNat (Ab ((Ab (p15*r))+p50))) 0) (List.getD p2_1 (Int.toNat (Ab ((Ab (p50*q))+p13_1))) 0))) then solve.As.Up.L2 N M0 M1 M r c l p q m n (Dr p16 (Ek (List.getD l (Int.toNat (Ab ((Ab (p15*r))+p50))) 0) (List.getD p2_1 (Int.toNat (Ab ((Ab (p50*q))+p13_1))) 0))) (Ab (p50+1)) p13_1 p15 p29_2 p33_1 p2_1 else none else none else none else none else none else solve.As.Up.L2 N M0 M1 M r c l p q m n p16 (Ab (p50+1)) p13_1 p15 p29_2 p33_1 p2_1 else bif ((decide (0≤(Ab ((Ab (p15*r))+p15))))&&(decide ((Ab ((Ab (p15*r))+p15))<(List.length l:Int)))) then bif (Ai p16&&Ai (List.getD l (Int.toNat (Ab ((Ab (p15*r))+p15))) 0)) then bif ((decide (0≤(Ab ((Ab (p15*q))+p13_1))))&&(decide ((Ab ((Ab (p15*q))+p13_1))<(List.length p2_1:Int)))) then bif (decide ((Int.toNat (Ab ((Ab (p15*q))+p13_1)))<(List.length p2_1))) then solve.As.Up.L1 N M0 M1 r c l p q m n (Ab (p33_1+1)) (List.set p2_1 (Int.toNat (Ab ((Ab (p15*q))+p13_1))) (Ev p16 (List.getD l (Int.toNat (Ab ((Ab (p15*r))+p15))) 0))) p13_1 p29_2 else none else none else none else none :=
  Eq.trans (by kernel_rfl)
  (Es (Es (Da (Mq (decide (0≤(Ab ((Ab (p15*r))+p50)))) (decide ((Ab ((Ab (p15*r))+p50))<(List.length l:Int)))) (Da (Mq (decide (0≤(Ab ((Ab (p50*q))+p13_1)))) (decide ((Ab ((Ab (p50*q))+p13_1))<(List.length p2_1:Int)))) (Da (De (decide ((Int.toNat (Ab ((Ab (p50*q))+p13_1)))<(List.length p2_1)))) (Da (De (Ai (List.getD l (Int.toNat (Ab ((Ab (p15*r))+p50))) 0)&&Ai (List.getD p2_1 (Int.toNat (Ab ((Ab (p50*q))+p13_1))) 0))) (Da (De (Ai p16&&Ai (Ek (List.getD l (Int.toNat (Ab ((Ab (p15*r))+p50))) 0) (List.getD p2_1 (Int.toNat (Ab ((Ab (p50*q))+p13_1))) 0)))) rfl rfl) rfl) rfl) rfl) rfl) rfl) (Da (Mq (decide (0≤(Ab ((Ab (p15*r))+p15)))) (decide ((Ab ((Ab (p15*r))+p15))<(List.length l:Int)))) (Da (De (Ai p16&&Ai (List.getD l (Int.toNat (Ab ((Ab (p15*r))+p15))) 0))) (Da (Mq (decide (0≤(Ab ((Ab (p15*q))+p13_1)))) (decide ((Ab ((Ab (p15*q))+p13_1))<(List.length p2_1:Int)))) (Da (De (decide ((Int.toNat (Ab ((Ab (p15*q))+p13_1)))<(List.length p2_1)))) rfl rfl) rfl) rfl) rfl))
theorem solve.As.Up.ev (N:Nat) (r c:Int) (l:List Int) (p q:Int) (m:List Int) (n:Int):Bw solve.As.Up.E N Tryz.f76 (Am Tryz.f76) [.agg [.int .i64 r,.int .i64 c,.ints .arg .u64 l],.agg [.int .i64 p,.int .i64 q,.ints .arg .u64 m],.fn 103 [.int .i64 n] [],.fn 104 [] []]=bif (Bg r&&Bg q) then solve.As.Up.L0 N N r c l p q m n 0 (Bf (Int.toNat r) (Int.toNat q) (fun _ _=>0)) else none:=by kernel_rfl
abbrev _root_.Go.Proofs.S1.solve.As.Up.Kn:=A6 Tryz.prog 76 solve.As.Up.spec
theorem solve.As.Up.Ad (hk:A0 Tryz.prog solve.As.Up.Bb) (h:∀ (r c:Int) (l:List Int) (p q:Int) (m:List Int) (n:Int),solve.As.Up.pre [.i r,.i c,.l l,.i p,.i q,.l m,.i n]=true→Be solve.As.Up.E Tryz.f76 [.agg [.int .i64 r,.int .i64 c,.ints .arg .u64 l],.agg [.int .i64 p,.int .i64 q,.ints .arg .u64 m],.fn 103 [.int .i64 n] [],.fn 104 [] []] (solve.As.Up.out [.i r,.i c,.l l,.i p,.i q,.l m,.i n])):solve.As.Up.Kn :=
  Ak (A1 hk _ _ _) Tryz.func76 (by kernel_rfl) (by kernel_rfl) h
def solve.Gz.Bb:List (Nat × Entry):=[(75,solve.check.spec),(76,solve.As.Up.spec)]
def solve.Gz.E:Env:=Bc (Ba solve.Gz.Bb) (fun _=>false) (fun _=>none) (fun _=>none)
theorem solve.Gz.ev (N:Nat) (r c:Int) (l:List Int) (p q:Int) (m:List Int):Bw solve.Gz.E N Tryz.f36 (Am Tryz.f36) [.agg [.int .i64 r,.int .i64 c,.ints .arg .u64 l],.agg [.int .i64 p,.int .i64 q,.ints .arg .u64 m]]=bif (Ah l&&Ah m) then bif ((Nv r c l p q m) !=(0:Int)) then some (.tup [.agg [.int .i64 0,.int .i64 0,.nil],.int .i64 (Nv r c l p q m)]) else bif (Oi r c l p q m&&decide (r=r)) then some (.tup [.agg [.int .i64 ((Jo r q (upG c l q m (Int.toNat r) (Int.toNat q))).1),.int .i64 ((Jo r q (upG c l q m (Int.toNat r) (Int.toNat q))).2.1),.ints .fresh .u64 ((Jo r q (upG c l q m (Int.toNat r) (Int.toNat q))).2.2.1)],.int .i64 ((Jo r q (upG c l q m (Int.toNat r) (Int.toNat q))).2.2.2)]) else none else none:=by kernel_rfl
abbrev _root_.Go.Proofs.S1.solve.Gz.Kn:=A6 Tryz.prog 36 solve.Gz.spec
theorem solve.Gz.Ad (hk:A0 Tryz.prog solve.Gz.Bb) (h:∀ (r c:Int) (l:List Int) (p q:Int) (m:List Int),solve.Gz.pre [.i r,.i c,.l l,.i p,.i q,.l m]=true→Be solve.Gz.E Tryz.f36 [.agg [.int .i64 r,.int .i64 c,.ints .arg .u64 l],.agg [.int .i64 p,.int .i64 q,.ints .arg .u64 m]] (solve.Gz.out [.i r,.i c,.l l,.i p,.i q,.l m])):solve.Gz.Kn :=
  Ak (A1 hk _ _ _) Tryz.func36 (by kernel_rfl) (by kernel_rfl) h
def solve.Flat.hint:Nat→Option A8
  | 0=>some { keep:=[1,5,6],objs:=[(0,5,100005,.ints 37 .u64 [])],boxes:=[1] }
  | 2=>some { keep:=[7,44,45,46],objs:=[(0,44,100044,.ints 37 .u64 [])],boxes:=[] }
  | _=>none
def solve.Flat.Bb:List (Nat × Entry):=[(86,Cc.Check.spec),(87,compare.Uk.spec),(90,compare.K5.spec),(89,Af.Cn.spec),(88,Af.Bx.spec)]
def solve.Flat.E:Env:=Bc (Ba solve.Flat.Bb) (fun _=>false) solve.Flat.hint (fun _=>none)
def solve.Flat.L0 (N M:Nat) (r c:Int) (l:List Int) (p6:Int) (p5:List Int):Option DV:=B3 solve.Flat.E N Tryz.f24 (Am Tryz.f24) [1,1,1,0,1,0] [] M ⟨Gb 55 [(1,.ptr 1 0 0),(5,.oref 100005),(6,.int .i64 p6)],[(1,false,.box [.int .i64 r,.int .i64 c,.ints .arg .u64 l]),(100005,false,.ints 37 .u64 p5)]⟩
def solve.Flat.L1 (N M:Nat) (p5:List Int) (p46:Int):Option DV:=B3 solve.Flat.E N Tryz.f24 (Am Tryz.f24) [1,1,1,1,1,0,1,0] [] M ⟨Gb 55 [(7,.int .u64 (Ch (Bp p5) (-40:Int))),(44,.oref 100044),(45,.int .i64 (List.length p5:Int)),(46,.int .i64 p46)],[(100044,false,.ints 37 .u64 p5)]⟩
theorem solve.Flat.Au (N M:Nat) (r c:Int) (l:List Int) (p6:Int) (p5:List Int):solve.Flat.L0 N (M+1) r c l p6 p5=bif ((A2 p6 r)&&(A2 p6 c)) then bif ((decide (0≤(Ab ((Ab (p6*c))+p6))))&&(decide ((Ab ((Ab (p6*c))+p6))<(List.length l:Int)))) then bif (Ai (List.getD l (Int.toNat (Ab ((Ab (p6*c))+p6))) 0)) then bif (decide ((List.length p5)+1≤Gd)) then solve.Flat.L0 N M r c l (Ab (p6+1)) (p5++[(Abt (List.getD l (Int.toNat (Ab ((Ab (p6*c))+p6))) 0))]) else none else none else none else bif (Cx p5) then bif (E0 (Bp p5) (-40:Int)) then solve.Flat.L1 N N p5 (0:Int) else none else none :=
  Eq.trans (by kernel_rfl)
  (Ap (N4 (A2 p6 r)) (Ap (N4 (A2 p6 r)) (Ap (Ki (A2 p6 r)) (Ap (Agy (A2 p6 r)) (Ap (Sr (A2 p6 r)) (Da (tt1 (A2 p6 r) (A2 p6 c)) rfl rfl))))))
theorem solve.Flat.Cf (N M:Nat) (p5:List Int) (p46:Int):solve.Flat.L1 N (M+1) p5 p46=bif (A2 p46 (List.length p5:Int)) then bif ((decide (0≤p46))&&(decide (p46<(List.length p5:Int)))) then bif (decide ((Int.toNat p46)<(List.length p5))) then bif (Ai (Ch (Bp p5) (-40:Int))&&Ai (List.getD p5 (Int.toNat p46) 0)) then bif (!(decide (Ad3 (Ch (Bp p5) (-40:Int)) (List.getD p5 (Int.toNat p46) 0)<0))) then some (.tup [.bool true,.int .i64 0]) else solve.Flat.L1 N M p5 (Ab (p46+1)) else none else none else none else some (.tup [.bool false,.int .i64 0]):=by kernel_rfl
theorem solve.Flat.ev (N:Nat) (r c:Int) (l:List Int):Bw solve.Flat.E N Tryz.f24 (Am Tryz.f24) [.agg [.int .i64 r,.int .i64 c,.ints .arg .u64 l]]=bif (Ah l) then bif ((Bt r c l) !=(0:Int)) then some (.tup [.bool false,.int .i64 (Bt r c l)]) else solve.Flat.L0 N N r c l 0 [] else none:=by kernel_rfl
abbrev _root_.Go.Proofs.S1.solve.Flat.Kn:=A6 Tryz.prog 24 solve.Flat.spec
theorem solve.Flat.Ad (hk:A0 Tryz.prog solve.Flat.Bb) (h:∀ (r c:Int) (l:List Int),solve.Flat.pre [.i r,.i c,.l l]=true→Be solve.Flat.E Tryz.f24 [.agg [.int .i64 r,.int .i64 c,.ints .arg .u64 l]] (solve.Flat.out [.i r,.i c,.l l])):solve.Flat.Kn :=
  Ak (A1 hk _ _ _) Tryz.func24 (by kernel_rfl) (by kernel_rfl) h
end EqSol
open EqSol
theorem solve.D9.known:solve.D9.Kn:=solve.D9.Ad .nil fun i k _=>by
  refine ⟨0,solve.D9.out [.i i,.i k],[],?_,.bool⟩
  rw [solve.D9.ev,At]; rfl
theorem Akc.known:Cw.Cv.up.Kn:=Cw.Cv.up.Ad .nil fun n k hp=>by
  have hp:=Aq.1 (show Cu (0≤k∧k<n∧n≤10)=true from hp)
  refine ⟨0,Cw.Cv.up.out [.i n,.i k],[],?_,.int⟩
  rw [Cw.Cv.up.ev,Al (x:=n-1) (by omega) (by omega),Al (by omega) (by omega)]; rfl
theorem Aa.of.Bq.own.known:Aa.of.Bq.own.Kn:=Aa.of.Bq.own.Ad (.cons Aa.D3.known .nil) fun a b hp=>by
  have h1:(Bg a&&Bg b)=true:=hp
  obtain ⟨ha,hb⟩:=Ae.1 h1
  obtain ⟨A,rfl,hA⟩:=Eu ha
  obtain ⟨B,rfl,hB⟩:=Eu hb
  refine ⟨8,.agg [.int .i64 (A:Int),.int .i64 (B:Int),.ints (.own 108002 tB) .u64 (Bf A B fun (i j:Nat)=>(0:Int))],[],?_,Wk.H0 (.cons .int (.cons .int (.cons (.keep _ _ _ _ List.not_mem_nil) .nil)))⟩
  have n:=of.Bq.outer 8 hA hB (by omega) (F:=fun (i j:Nat)=>(0:Int)) (fun _ _=>rfl) A 0 8 (by omega) (by omega)
  rw [Jm] at n
  exact (EqOf.Aa.of.Bq.ev 8 (A:Int) (B:Int)).trans n
theorem Aa.Bq.own.known:Aa.Bq.own.Kn:=Aa.Bq.own.Ad (.cons Aa.of.Bq.own.known (.cons Aa.size.known .nil)) fun a b hp=>by
  have hp:(Bg a&&Bg b)=true:=hp
  obtain ⟨ha,hb⟩:=Ae.1 hp
  refine ⟨0,Aa.Bq.own.out [.i a,.i b],[],?_,?_⟩
  · rw [Aa.Bq.own.ev,ha,hb]; rfl
  · exact Wk.Gu (.cons (Wk.H0 (.cons .int (.cons .int (.cons (.keep _ _ _ _ List.not_mem_nil) .nil)))) (.cons .int .nil))
section
variable {n Q:Nat} {l m:List Int}
def upF (n Q:Nat) (l m:List Int) (i j:Nat):Int:=(Yy (n:Int) l (fun i=>D4 (Q:Int) m (i:Int) (j:Int)) n n).getD i 0
def upD (n j k a b:Nat):Bool:=decide (b<j∨(b=j∧n-k≤a))
def Tz (n Q:Nat) (l m:List Int) (j k:Nat):List Int:=Bf n Q fun a b=>if upD n j k a b=true then upF n Q l m a b else 0
theorem Ajc (i j:Nat):Ai (upF n Q l m i j)=true:=Sg (Adb _ _ _ _ _) i
theorem Aql (j k:Nat):Ah (Tz n Q l m j k)=true:=F4 fun a b=>by
  split
  · exact Ajc _ _
  · exact B5 (n:=0) (by decide)
theorem Anb {j k t:Nat} (ht:t<n) (hj:j<Q) (hk:n-k≤t):D4 (Q:Int) (Tz n Q l m j k) (t:Int) (j:Int)=upF n Q l m t j:=by
  unfold Tz
  have hd:upD n j k t j=true:=Auu (.inr ⟨rfl,hk⟩)
  rw [Py ht hj,hd,if_pos rfl]
theorem Yx (j k:Nat):(Tz n Q l m j k).length=n*Q:=Bn _ _ _
theorem Ai8 (N:Nat) (n6:n≤6) (q6:Q≤6) (hl:l.length=n*n) (al:Ah l=true) {i j k:Nat} (hi:i+k+1=n) (hj:j<Q) (M0 M1:Nat) (p29 p33:Int) :
    ∀ (cnt t F:Nat) (s:Int),t+cnt=n→cnt<F→i+1≤t→Ai s=true →
    solve.As.Up.L2 N M0 M1 F (n:Int) (n:Int) l (n:Int) (Q:Int) m (n:Int) s (t:Int) (j:Int) (i:Int) p29 p33 (Tz n Q l m j k) =
    solve.As.Up.L1 N M0 M1 (n:Int) (n:Int) l (n:Int) (Q:Int) m (n:Int) (Ab (p33+(1:Int))) (List.set (Tz n Q l m j k) (Int.toNat ((i:Int)*(Q:Int)+(j:Int))) (Ev (Lk (n:Int) l (i:Int) s (t:Int) ((Yy (n:Int) l (fun i=>D4 (Q:Int) m (i:Int) (j:Int)) n n).drop t)) (D4 (n:Int) l (i:Int) (i:Int)))) (j:Int) p29:=by
  intro cnt
  induction cnt with
  | zero =>
    intro t F s ht hF hit hs
    obtain ⟨F,rfl⟩:∃ G,F=G+1:=⟨F-1,by omega⟩
    obtain ⟨e1,g1,g2⟩:=Gy (R:=(n:Int)) (Ft n6 n6 hl (show i<n by omega) (show i<n by omega))
    obtain ⟨e2,g3,g4⟩:=Gy (R:=(n:Int)) (Ft n6 q6 (Yx (l:=l) (m:=m) j k) (show i<n by omega) hj)
    rw [Au7 (by rw [Ql]; omega),Lk]
    rw [solve.As.Up.Hm,At,Auy (show ¬ (t:Int)<(n:Int) by omega),Aux,e1,Auu g1,Auu g2,Auz,Aut,hs,show Ai (List.getD l (Int.toNat ((i:Int)*(n:Int)+(i:Int))) 0)=true from Hd (c:=(n:Int)) al,Auz,Aut,
      e2,Auu g3,Auu g4,Auz,Aut,Auu (show Int.toNat ((i:Int)*(Q:Int)+(j:Int))<(Tz n Q l m j k).length by omega),Aut]
    rfl
  | succ cnt ih =>
    intro t F s ht hF hit hs
    obtain ⟨F,rfl⟩:∃ G,F=G+1:=⟨F-1,by omega⟩
    obtain ⟨e1,g1,g2⟩:=Gy (R:=(n:Int)) (Ft n6 n6 hl (show i<n by omega) (show t<n by omega))
    obtain ⟨e2,g3,g4⟩:=Gy (R:=(n:Int)) (Ft n6 q6 (Yx (l:=l) (m:=m) j k) (show t<n by omega) hj)
    have hx:List.getD (Tz n Q l m j k) (Int.toNat ((t:Int)*(Q:Int)+(j:Int))) 0=upF n Q l m t j:=Anb (by omega) hj (by omega)
    rw [solve.As.Up.Hm,At,Auu (show (t:Int)<(n:Int) by omega),Aut,Auu (show (i:Int)<(t:Int) by omega),Aut,e1,Auu g1,Auu g2,Auz,Aut,
      e2,Auu g3,Auu g4,Auz,Aut,Auu (show Int.toNat ((t:Int)*(Q:Int)+(j:Int))<(Tz n Q l m j k).length by omega),Aut,hx,
      show Ai (List.getD l (Int.toNat ((i:Int)*(n:Int)+(t:Int))) 0)=true from Hd (c:=(n:Int)) al,Ajc,Auz,Aut,hs,Mg,Auz,Aut,Al (x:=(t:Int)+1) (by omega) (by omega)]
    have:=ih (t+1) F (Dr s (Ek (D4 (n:Int) l (i:Int) (t:Int)) (upF n Q l m t j))) (by omega) (by omega) (by omega) (Nd hs (Mg _ _))
    rw [X8 (by rw [Ql]; omega)]
    exact this
theorem Am5 (N:Nat) (n6:n≤6) {i j k:Nat} (hi:i<n) (M0 M1:Nat) (p29 p33 s:Int):∀ (cnt t F:Nat),t+cnt=i+1 →
    solve.As.Up.L2 N M0 M1 (F+cnt) (n:Int) (n:Int) l (n:Int) (Q:Int) m (n:Int) s (t:Int) (j:Int) (i:Int) p29 p33 (Tz n Q l m j k) =
    solve.As.Up.L2 N M0 M1 F (n:Int) (n:Int) l (n:Int) (Q:Int) m (n:Int) s ((i+1:Nat):Int) (j:Int) (i:Int) p29 p33 (Tz n Q l m j k):=by
  intro cnt
  induction cnt with
  | zero =>
    intro t F ht
    obtain rfl:t=i+1:=by omega
    rfl
  | succ cnt ih =>
    intro t F ht
    rw [← Nat.add_assoc,solve.As.Up.Hm,At,Auu (show (t:Int)<(n:Int) by omega),Aut,Auy (show ¬ (i:Int)<(t:Int) by omega),Aux,Al (by omega) (by omega)]
    exact ih (t+1) F (by omega)
theorem Ana {i j k:Nat} (hi:i+k+1=n) (hj:j<Q) {x:Int} (hx:x=upF n Q l m i j):List.set (Tz n Q l m j k) (Int.toNat ((i:Int)*(Q:Int)+(j:Int))) x=Tz n Q l m j (k+1):=by
  refine Wu hj hx fun a b ha hb=>?_
  unfold upD
  rw [Au0,Au0]
  omega
theorem Am6 (N:Nat) (n6:n≤6) (q6:Q≤6) (hN:7<N) (hl:l.length=n*n) (hm:m.length=n*Q) (al:Ah l=true) (am:Ah m=true) {j:Nat} (hj:j<Q) (M0:Nat):∀ (cnt k F:Nat),k+cnt=n→cnt<F →
    solve.As.Up.L1 N M0 F (n:Int) (n:Int) l (n:Int) (Q:Int) m (n:Int) (k:Int) (Tz n Q l m j k) (j:Int) (j:Int) =
    solve.As.Up.L0 N M0 (n:Int) (n:Int) l (n:Int) (Q:Int) m (n:Int) ((j+1:Nat):Int) (Tz n Q l m j n):=by
  intro cnt
  induction cnt with
  | zero =>
    intro k F hk hF
    obtain ⟨F,rfl⟩:∃ G,F=G+1:=⟨F-1,by omega⟩
    obtain rfl:k=n:=by omega
    rw [solve.As.Up.Cf,At,Auy (by omega),Aux,Al (by omega) (by omega)]
    rfl
  | succ cnt ih =>
    intro k F hk hF
    obtain ⟨F,rfl⟩:∃ G,F=G+1:=⟨F-1,by omega⟩
    obtain ⟨i,hi⟩:∃ i:Nat,i+k+1=n:=⟨n-k-1,by omega⟩
    have ei:(n:Int)-1-(k:Int)=(i:Int):=by omega
    obtain ⟨e2,g3,g4⟩:=Gy (R:=(n:Int)) (Ft n6 q6 hm (show i<n by omega) hj)
    rw [solve.As.Up.Cf,At,Auu (show (k:Int)<(n:Int) by omega),Aut,Aq.2 (show 0≤(k:Int)∧(k:Int)<(n:Int)∧(n:Int)≤10 by omega),Aut,ei,e2,Auu g3,Auu g4,Auz,Aut]
    obtain ⟨G,rfl⟩:∃ G,N=G+(i+1):=⟨N-(i+1),by omega⟩
    have hs:=Am5 (n:=n) (Q:=Q) (l:=l) (m:=m) (G+(i+1)) n6 (i:=i) (j:=j) (k:=k) (by omega) M0 F (j:Int) (k:Int) (D4 (Q:Int) m (i:Int) (j:Int)) (i+1) 0 G (by omega)
    have hr:=Ai8 (n:=n) (Q:=Q) (l:=l) (m:=m) (G+(i+1)) n6 q6 hl al hi hj M0 F (j:Int) (k:Int) (n-(i+1)) (i+1) G (D4 (Q:Int) m (i:Int) (j:Int)) (by omega) (by omega) (by omega) (Hd (c:=(Q:Int)) am)
    rw [Ana hi hj (Ane (show i<n by omega)).symm,Al (by omega) (by omega)] at hr
    exact (hs.trans hr).trans (ih (k+1) F (by omega) (by omega))
theorem Ajb (j:Nat):Tz n Q l m j n=Tz n Q l m (j+1) 0:=by
  unfold Tz
  refine C2 fun a b ha hb=>?_
  have:upD n j n a b=upD n (j+1) 0 a b:=by
    unfold upD
    rw [decide_eq_decide]
    omega
  rw [this]
theorem Aja:Tz n Q l m 0 0=Bf n Q fun _ _=>0:=by
  unfold Tz
  refine C2 fun a b ha hb=>?_
  have:upD n 0 0 a b=false:=Auy (by omega)
  rw [this]; rfl
theorem Anc:Tz n Q l m Q 0=upG (n:Int) l (Q:Int) m n Q:=by
  unfold Tz upG
  refine C2 fun a b ha hb=>?_
  have:upD n Q 0 a b=true:=Auu (.inl hb)
  rw [this]; rfl
theorem Am8 (N:Nat) (n6:n≤6) (q6:Q≤6) (hN:7<N) (hl:l.length=n*n) (hm:m.length=n*Q) (al:Ah l=true) (am:Ah m=true):∀ (cnt j F:Nat),j+cnt=Q→cnt<F →
    solve.As.Up.L0 N F (n:Int) (n:Int) l (n:Int) (Q:Int) m (n:Int) (j:Int) (Tz n Q l m j 0) =
    bif Dz (Tz n Q l m Q 0) then some (.tup [.agg [.int .i64 (n:Int),.int .i64 (Q:Int),.ints (.own 112002 tB) .u64 (Tz n Q l m Q 0)],.int .i64 (0:Int)]) else some (Ad6 2):=by
  intro cnt
  induction cnt with
  | zero =>
    intro j F hj hF
    obtain ⟨F,rfl⟩:∃ G,F=G+1:=⟨F-1,by omega⟩
    obtain rfl:j=Q:=by omega
    have h36:=Nat.mul_le_mul n6 q6
    rw [solve.As.Up.Au,At,Auy (by omega),Aux,Kd (Aql _ _) (by rw [Yx]; omega),Aut]
    cases Dz (Tz n j l m j 0)<;>rfl
  | succ cnt ih =>
    intro j F hj hF
    obtain ⟨F,rfl⟩:∃ G,F=G+1:=⟨F-1,by omega⟩
    have hr:=Am6 N n6 q6 hN hl hm al am (show j<Q by omega) F n 0 N (by omega) (by omega)
    rw [Ajb] at hr
    rw [solve.As.Up.Au,At,Auu (show (j:Int)<(Q:Int) by omega),Aut]
    exact hr.trans (ih (j+1) F (by omega) (by omega))
end
theorem solve.As.Up.known:solve.As.Up.Kn:=solve.As.Up.Ad (.cons Akc.known (.cons Aa.Bq.own.known (.cons solve.D9.known (.cons Af.Div.known (.cons Af.Finite.known (.cons Af.Mul.known (.cons Af.Sub.known .nil))))))) fun r c l p q m n hp=>by
  show ∃ N dv drops,_=some dv∧Wk drops dv (Qq (Jo r q (upG c l q m (Int.toNat r) (Int.toNat q))))
  obtain ⟨h1,hn⟩:=Ae.1 (show (Oi r c l p q m&&decide (n=r))=true from hp)
  obtain ⟨h2,h3⟩:=Ae.1 h1
  obtain ⟨hr,hm⟩:=Ae.1 h2
  obtain ⟨h4,h5⟩:=Ae.1 h3
  obtain ⟨al,am⟩:=Ae.1 h4
  obtain ⟨rfl,rfl⟩:=Aq.1 h5
  obtain rfl:=of_decide_eq_true hn
  have s1:=(Fg hr).1
  have s2:=(Fg hm).2
  obtain ⟨R,C,rfl,hC,r6,c6,hl⟩:=Dd hr
  obtain ⟨P,Q,hP,rfl,p6,q6,hl2⟩:=Dd hm
  obtain rfl:R=C:=by omega
  obtain rfl:R=P:=by omega
  have h:=Am8 (n:=R) (Q:=Q) (l:=l) (m:=m) 8 r6 q6 (by omega) hl hl2 al am Q 0 8 (by omega) (by omega)
  rw [Aja,Anc,show ((0:Nat):Int)=0 from rfl] at h
  rw [Auv,Auv]
  unfold Jo
  cases hf:Dz (upG (R:Int) l (Q:Int) m R Q) with
  | true =>
    rw [hf,Aut] at h
    rw [if_pos rfl]
    refine ⟨8,.tup [.agg [.int .i64 (R:Int),.int .i64 (Q:Int),.ints (.own 112002 tB) .u64 (upG (R:Int) l (Q:Int) m R Q)],.int .i64 0],[112002],?_,Wk.Gu (.cons (Vh (List.mem_singleton.2 rfl)) (.cons .int .nil))⟩
    rw [solve.As.Up.ev,s1,s2,Auz,Aut,Auv,Auv]
    exact h
  | false =>
    rw [hf,Aux] at h
    rw [if_neg (by decide)]
    refine ⟨8,Ad6 2,[],?_,Hs⟩
    rw [solve.As.Up.ev,s1,s2,Auz,Aut,Auv,Auv]
    exact h
namespace EqFew
def qr.E7.Bb:List (Nat × Entry):=[(123,Aa.Mul.spec),(167,Aa.Dn.spec)]
def qr.E7.E:Env:=Bc (Ba qr.E7.Bb) (fun _=>false) (fun _=>none) (fun _=>none)
theorem qr.E7.ev (N:Nat) (r c:Int) (l:List Int) (p q:Int) (m:List Int):Bw qr.E7.E N Tryz.f98 (Am Tryz.f98) [.agg [.int .i64 r,.int .i64 c,.ints .arg .u64 l],.agg [.int .i64 p,.int .i64 q,.ints .arg .u64 m]]=bif (((Ck r c l).2.2.2) !=(0:Int)) then some (.tup [.agg [.int .i64 0,.int .i64 0,.nil],.int .i64 ((Ck r c l).2.2.2)]) else bif (Ah ((Ck r c l).2.2.1)&&Ah m) then some (.tup [.agg [.int .i64 ((En ((Ck r c l).1) ((Ck r c l).2.1) ((Ck r c l).2.2.1) p q m).1),.int .i64 ((En ((Ck r c l).1) ((Ck r c l).2.1) ((Ck r c l).2.2.1) p q m).2.1),.ints .fresh .u64 ((En ((Ck r c l).1) ((Ck r c l).2.1) ((Ck r c l).2.2.1) p q m).2.2.1)],.int .i64 ((En ((Ck r c l).1) ((Ck r c l).2.1) ((Ck r c l).2.2.1) p q m).2.2.2)]) else none:=by kernel_rfl
abbrev _root_.Go.Proofs.S1.qr.E7.Kn:=A6 Tryz.prog 98 qr.E7.spec
theorem qr.E7.Ad (hk:A0 Tryz.prog qr.E7.Bb) (h:∀ (r c:Int) (l:List Int) (p q:Int) (m:List Int),qr.E7.pre [.i r,.i c,.l l,.i p,.i q,.l m]=true→Be qr.E7.E Tryz.f98 [.agg [.int .i64 r,.int .i64 c,.ints .arg .u64 l],.agg [.int .i64 p,.int .i64 q,.ints .arg .u64 m]] (qr.E7.out [.i r,.i c,.l l,.i p,.i q,.l m])):qr.E7.Kn :=
  Ak (A1 hk _ _ _) Tryz.func98 (by kernel_rfl) (by kernel_rfl) h
end EqFew
open EqSol EqFew
theorem Adz {n i:Nat} (h:i<n):(List.range n).drop i=i::(List.range n).drop (i+1):=by
  rw [List.drop_eq_getElem_cons (by rw [List.length_range]; exact h),List.getElem_range]
theorem Gq {r c:Int} {l:List Int} (h:Bt r c l=0):Av r c l=true∧Dz l=true:=by
  unfold Bt at h
  by_cases h1:Av r c l=true
  · rw [if_pos h1] at h
    by_cases h2:Dz l=true
    · exact ⟨h1,h2⟩
    · rw [if_neg h2] at h; exact absurd h (by decide)
  · rw [if_neg h1] at h; exact absurd h (by decide)
theorem Ar1 {r c:Int} {l:List Int} (h1:Av r c l=true) (h2:Dz l=true):Bt r c l=0:=by unfold Bt; rw [if_pos h1,if_pos h2]
theorem Ti {x:Int} (h:x≠0):(x !=(0:Int))=true:=by simpa using h
theorem F2 {x:Int} (h:x=0):(x !=(0:Int))=false:=by rw [h]; rfl
theorem Ae5 (N:Nat) {n:Nat} {l:List Int} (n6:n≤6) (hl:l.length=n*n) (al:Ah l=true):∀ (cnt i F:Nat),i+cnt=n→cnt<F →
    solve.check.L0 (N+4) F (n:Int) (n:Int) l (i:Int)=some (.int .i64 (if ((List.range n).drop i).any (fun i:Nat=>decide (A3 (D4 (n:Int) l (i:Int) (i:Int))=0))=true then 5 else 0)):=by
  intro cnt
  induction cnt with
  | zero =>
    intro i F hi hF
    obtain ⟨F,rfl⟩:∃ G,F=G+1:=⟨F-1,by omega⟩
    rw [solve.check.Au,At,Auy (by omega),Aux,Au7 (by rw [List.length_range]; omega)]; rfl
  | succ cnt ih =>
    intro i F hi hF
    obtain ⟨F,rfl⟩:∃ G,F=G+1:=⟨F-1,by omega⟩
    obtain ⟨e1,g1,g2⟩:=Gy (R:=(n:Int)) (Ft n6 n6 hl (show i<n by omega) (show i<n by omega))
    have hx:List.getD l (Int.toNat ((i:Int)*(n:Int)+(i:Int))) 0=D4 (n:Int) l (i:Int) (i:Int):=rfl
    rw [solve.check.Au,At,Auu (show (i:Int)<(n:Int) by omega),Aut,e1,Auu g1,Auu g2,Auz,Aut,hx,Hd al,Aut,Adz (by omega),List.any_cons]
    by_cases hk:A3 (D4 (n:Int) l (i:Int) (i:Int))=0
    · have e:(A3 (D4 (n:Int) l (i:Int) (i:Int))==(0:Int))=true:=by rw [hk]; rfl
      rw [e,Aut,Auu hk]; rfl
    · have e:(A3 (D4 (n:Int) l (i:Int) (i:Int))==(0:Int))=false:=by simpa using hk
      rw [e,Aux,Auy hk,Bool.false_or,Al (by omega) (by omega)]
      exact ih (i+1) F (by omega) (by omega)
theorem Aub {r c p:Int}:((r !=c)||(r !=p))=decide (r≠c∨r≠p):=by
  rw [Au9]; simp
theorem solve.check.known:solve.check.Kn:=solve.check.Ad (.cons Cc.Check.known (.cons soft.Kind.known .nil)) fun r c l p q m hp=>by
  obtain ⟨al,am⟩:=Ae.1 (show (Ah l&&Ah m)=true from hp)
  refine ⟨14,solve.check.out [.i r,.i c,.l l,.i p,.i q,.l m],[],?_,.int⟩
  show _=some (DV.int .i64 (Nv r c l p q m))
  rw [show (14:Nat)=10+4 from rfl,solve.check.ev,al,Aut,am,Aut,Aub]
  unfold Nv
  by_cases h1:Bt r c l=0
  · rw [F2 h1,Aux,if_neg (by rw [h1]; decide)]
    by_cases h2:Bt p q m=0
    · rw [F2 h2,Aux,if_neg (by rw [h2]; decide)]
      by_cases h3:r≠c∨r≠p
      · rw [Auu h3,Aut,if_pos h3]
      · rw [Auy h3,Aux,if_neg h3]
        obtain rfl:r=c:=Decidable.byContradiction fun h=>h3 (.inl h)
        obtain ⟨R,C,rfl,hC,r6,c6,hl⟩:=Dd (Gq h1).1
        obtain rfl:R=C:=by omega
        rw [Auv]
        exact Ae5 10 r6 hl al R 0 14 (by omega) (by omega)
    · rw [Ti h2,Aut,if_pos h2]
  · rw [Ti h1,Aut,if_pos h1]
theorem P0 {r c:Int} {l:List Int} {p q:Int} {m:List Int} (h:Nv r c l p q m=0):Av r c l=true∧Av p q m=true∧r=c∧r=p:=by
  unfold Nv at h
  by_cases h1:Bt r c l=0
  · rw [if_neg (by rw [h1]; decide)] at h
    by_cases h2:Bt p q m=0
    · rw [if_neg (by rw [h2]; decide)] at h
      by_cases h3:r≠c∨r≠p
      · rw [if_pos h3] at h; exact absurd h (by decide)
      · exact ⟨(Gq h1).1,(Gq h2).1,Decidable.byContradiction fun h=>h3 (.inl h),Decidable.byContradiction fun h=>h3 (.inr h)⟩
    · rw [if_pos h2] at h; exact absurd h h2
  · rw [if_pos h1] at h; exact absurd h h1
theorem solve.Gz.known:solve.Gz.Kn:=solve.Gz.Ad (.cons solve.check.known (.cons solve.As.Up.known .nil)) fun r c l p q m hp=>by
  have hp:(Ah l&&Ah m)=true:=hp
  show ∃ N dv drops,_=some dv∧Wk drops dv (Qq (upX r c l p q m))
  unfold upX
  by_cases h:Nv r c l p q m=0
  · obtain ⟨h1,h2,h3,h4⟩:=P0 h
    have ht:Oi r c l p q m=true:=Ae.2 ⟨Ae.2 ⟨h1,h2⟩,Ae.2 ⟨hp,Aq.2 ⟨h3,h4⟩⟩⟩
    rw [if_neg (by rw [h]; decide)]
    exact ⟨0,_,[],by rw [solve.Gz.ev,hp,Aut,F2 h,Aux,ht,Auu rfl]; rfl,Mc⟩
  · rw [if_pos h]
    exact ⟨0,_,[],by rw [solve.Gz.ev,hp,Aut,Ti h,Aut]; rfl,Hs⟩
theorem Aj1 {b:Nat} {n:Int} (h:b<2^64):(H6 b n).1<2^64:=by
  unfold H6
  by_cases h4:Ao b=4
  · rw [if_pos h4]; exact (by decide:Xg<2^64)
  rw [if_neg h4]
  by_cases h3:Ao b=3∨Ao b=0
  · rw [if_pos h3]; exact h
  rw [if_neg h3]
  exact Ri _ _ _
theorem Jw {b n:Int} (h:Ai b=true):Ai (Ch b n)=true:=by
  obtain ⟨x,rfl,hx⟩:=Bu h
  exact B5 (Aj1 (by rw [Auv]; exact hx))
theorem Wz:∀ (l:List Int) (m:Nat),m<2^64→Z8 l m<2^64
  | [],m,h=>h
  | x::l,m,h=>by
    unfold Z8
    split
    · exact (by decide:Xg<2^64)
    · have h2:Aiy x.toNat<2^63:=Yv x.toNat
      exact Wz l _ (by omega)
theorem Q5 (l:List Int):Ai (Bp l)=true:=B5 (Wz l 0 (by decide))
theorem Akw (x:Int):Ai (Abt x)=true:=B5 (Nat.lt_trans (Yv x.toNat) (by decide))
theorem Aig (N:Nat) {d:List Int} (hd:Cx d=true) (h7:d.length≤1000):∀ (cnt i F:Nat),i+cnt=d.length→cnt<F →
    solve.Flat.L1 N F d (i:Int)=some (.tup [.bool ((d.drop i).any fun x=>!(decide (Ad3 (Ch (Bp d) (-40)) x<0))),.int .i64 0]):=by
  obtain ⟨_,hu⟩:=Kw hd
  intro cnt
  induction cnt with
  | zero =>
    intro i F hi hF
    obtain ⟨F,rfl⟩:∃ G,F=G+1:=⟨F-1,by omega⟩
    rw [solve.Flat.Cf,At,Auy (by omega),Aux,Au7 (by omega)]; rfl
  | succ cnt ih =>
    intro i F hi hF
    obtain ⟨F,rfl⟩:∃ G,F=G+1:=⟨F-1,by omega⟩
    rw [solve.Flat.Cf,At,Auu (show (i:Int)<(d.length:Int) by omega),Aut,Auu (show (0:Int)≤(i:Int) by omega),Auz,Aut,Auv,Auu (show i<d.length by omega),Aut,
      Jw (Q5 d),hu i (by omega),Auz,Aut,Ik (by omega),List.any_cons]
    cases decide (Ad3 (Ch (Bp d) (-40)) (d.getD i 0)<0) with
    | false=>rfl
    | true =>
      rw [Bool.not_true,Aux,Bool.false_or,Al (by omega) (by omega)]
      exact ih (i+1) F (by omega) (by omega)
theorem Apa (c:Int) (l:List Int) (n:Nat):Ah (Ud c l n)=true:=Aq.2 fun x hx=>by
  obtain ⟨j,_,rfl⟩:=List.mem_map.1 hx
  exact Akw _
theorem L7 (c:Int) (l:List Int) (n:Nat):(Ud c l n).length=n:=by unfold Ud; rw [List.length_map,List.length_range]
theorem Aii (N:Nat) {R C:Nat} {l:List Int} (r6:R≤6) (c6:C≤6) (hN:7<N) (hl:l.length=R*C) (al:Ah l=true):∀ (cnt i F:Nat),i+cnt=min R C→cnt<F →
    solve.Flat.L0 N F (R:Int) (C:Int) l (i:Int) (Ud (C:Int) l i)=some (.tup [.bool (Aqc (Ud (C:Int) l (min R C))),.int .i64 0]):=by
  intro cnt
  induction cnt with
  | zero =>
    intro i F hi hF
    obtain ⟨F,rfl⟩:∃ G,F=G+1:=⟨F-1,by omega⟩
    obtain rfl:i=min R C:=by omega
    have hlt:(A2 (((min R C:Nat)):Int) (R:Int)&&A2 (((min R C:Nat)):Int) (C:Int))=false:=by
      rw [At,At,Bool.and_eq_false_iff,Avc,Avc]; omega
    have ok:=Kd (Apa (C:Int) l (min R C)) (by rw [L7]; omega)
    have sp:E0 (Bp (Ud (C:Int) l (min R C))) (-40:Int)=true:=Ae.2 ⟨Q5 _,Aq.2 (by omega)⟩
    rw [solve.Flat.Au,hlt,Aux,ok,Aut,sp,Aut]
    exact Aig N ok (by rw [L7]; omega) (min R C) 0 N (by rw [L7]; omega) (by omega)
  | succ cnt ih =>
    intro i F hi hF
    obtain ⟨F,rfl⟩:∃ G,F=G+1:=⟨F-1,by omega⟩
    obtain ⟨e1,g1,g2⟩:=Gy (R:=(R:Int)) (Ft r6 c6 hl (show i<R by omega) (show i<C by omega))
    have hx:List.getD l (Int.toNat ((i:Int)*(C:Int)+(i:Int))) 0=D4 (C:Int) l (i:Int) (i:Int):=rfl
    rw [solve.Flat.Au,At,At,Auu (show (i:Int)<(R:Int) by omega),Auu (show (i:Int)<(C:Int) by omega),Auz,Aut,e1,Auu g1,Auu g2,Auz,Aut,hx,Hd al,Aut,
      L7,Auu (show i+1≤Gd by unfold Gd; omega),Aut,Al (by omega) (by omega)]
    have:=ih (i+1) F (by omega) (by omega)
    unfold Ud at this ⊢
    rw [Hy] at this
    exact this
theorem solve.Flat.known:solve.Flat.Kn:=solve.Flat.Ad (.cons Cc.Check.known (.cons compare.Uk.known (.cons compare.K5.known (.cons Af.Cn.known (.cons Af.Bx.known .nil))))) fun r c l hp=>by
  have hp:Ah l=true:=hp
  refine ⟨8,solve.Flat.out [.i r,.i c,.l l],[],?_,Wk.Gu (.cons .bool (.cons .int .nil))⟩
  show _=some (DV.tup [.bool (J5 r c l).1,.int .i64 (J5 r c l).2])
  rw [solve.Flat.ev,hp,Aut]
  unfold J5 Alr
  by_cases h1:Bt r c l=0
  · obtain ⟨R,C,rfl,rfl,r6,c6,hl⟩:=Dd (Gq h1).1
    rw [F2 h1,Aux,if_neg (by rw [h1]; decide),Auv,Auv]
    exact Aii 8 r6 c6 (by omega) hl hp (min R C) 0 8 (by omega) (by omega)
  · rw [Ti h1,Aut,if_pos h1]
theorem Rw {r c:Int} {l:List Int} (al:Ah l=true) (x y a b:Int):Ah (Ey r c l x y a b).2.2.1=true:=by
  unfold Ey
  split
  · split
    · dsimp only
      exact F4 fun i k=>Hd al
    · exact Aq.2 fun x h=>by cases h
  · exact Aq.2 fun x h=>by cases h
theorem Rf {r c:Int} {l:List Int} (al:Ah l=true):Ah (Ck r c l).2.2.1=true:=by
  unfold Ck
  split
  · dsimp only
    exact F4 fun i k=>Hd al
  · exact Aq.2 fun x h=>by cases h
theorem U8 (x y:List Int):Ai (Lw x y)=true:=B5 (Z2 x y 0 (by decide))
theorem Nl (r c:Int) (l:List Int) (p q:Int) (m:List Int):Ah (En r c l p q m).2.2.1=true:=by
  unfold En
  split
  · split
    · dsimp only
      exact F4 fun i k=>U8 _ _
    · exact Aq.2 fun x h=>by cases h
  · exact Aq.2 fun x h=>by cases h
theorem Agv (r c:Int) (l:List Int) (p q:Int) (m:List Int):Ah (Dl r c l p q m).2.2.1=true:=by
  unfold Dl
  split
  · exact Aq.2 fun x h=>by cases h
  · exact Nl _ _ _ _ _ _
theorem qr.E7.known:qr.E7.Kn:=qr.E7.Ad (.cons Aa.Mul.known (.cons Aa.Dn.known .nil)) fun r c l p q m hp=>by
  obtain ⟨al,am⟩:=Ae.1 (show (Ah l&&Ah m)=true from hp)
  show ∃ N dv drops,_=some dv∧Wk drops dv (Qq (Dl r c l p q m))
  unfold Dl
  by_cases h:(Ck r c l).2.2.2=0
  · rw [if_neg (by rw [h]; decide)]
    exact ⟨0,_,[],by rw [qr.E7.ev,F2 h,Aux,Rf al,am]; rfl,Mc⟩
  · rw [if_pos h]
    exact ⟨0,_,[],by rw [qr.E7.ev,Ti h,Aut]; rfl,Hs⟩
namespace EqQr
def qr.down.hint:Nat→Option A8
  | 0=>some { keep:=[1,2,5,6,7],objs:=[(0,6,100006,.recs 214 2 []),(6,2,106002,.ints 37 .u64 [])],boxes:=[1,2,5] }
  | 2=>some { keep:=[1,2,5,6,7,8,9,12],objs:=[(6,2,106002,.ints 37 .u64 []),(0,6,100006,.recs 214 2 [])],boxes:=[1,2,5] }
  | _=>none
def qr.down.Bb:List (Nat × Entry):=[(219,An.Apply.spec),(245,An.Jq.spec),(191,Aa.Dk.spec)]
def qr.down.E:Env:=Bc (Ba qr.down.Bb) (fun n=>Nat.beq n 46) qr.down.hint (fun _=>none)
def qr.down.L0 (N M0 M:Nat) (r c:Int) (l:List Int) (p12_1:Int) (p2_1:List Int) (p7_1:Int) (p8:List Int) (p9:Int) (p6_1:List (List DV)):Option DV:=B3 qr.down.E N Tryz.f217 (Am Tryz.f217) [1,1,1,0,1,0,0,1,0,0,1,1,1,1,0,1,0] [M0] M ⟨Gb 88 [(1,.ptr 1 0 0),(2,.ptr 2 0 0),(5,.ptr 5 0 0),(6,.oref 100006),(7,.int .i64 p7_1),(8,.ints .fresh .u64 p8),(9,.int .u64 p9),(12,.int .i64 p12_1)],[(1,false,.box [.int .i64 r,.int .i64 c,.ints .arg .u64 l]),(2,false,.box [.int .i64 0,.int .i64 0,.nil]),(5,false,.box [.int .i64 r,.int .i64 c,.oref 106002]),(106002,false,.ints 37 .u64 p2_1),(100006,false,.recs 214 2 p6_1)]⟩
def qr.down.L1 (N M:Nat) (r c:Int) (l:List Int) (p7:Int) (p6:List (List DV)) (p2_2:List Int):Option DV:=B3 qr.down.E N Tryz.f217 (Am Tryz.f217) [1,1,1,0,1,0] [] M ⟨Gb 88 [(1,.ptr 1 0 0),(2,.ptr 2 0 0),(5,.ptr 5 0 0),(6,.oref 100006),(7,.int .i64 p7)],[(1,false,.box [.int .i64 r,.int .i64 c,.ints .arg .u64 l]),(2,false,.box [.int .i64 0,.int .i64 0,.nil]),(5,false,.box [.int .i64 r,.int .i64 c,.oref 106002]),(100006,false,.recs 214 2 p6),(106002,false,.ints 37 .u64 p2_2)]⟩
def qr.down.L2 (N M:Nat) (r c:Int) (l:List Int):Option DV:=B3 qr.down.E N Tryz.f217 (Am Tryz.f217) [1,1,1,0,1,0] [] M ⟨Gb 88 [(1,.ptr 1 0 0),(2,.ptr 2 0 0),(5,.ptr 5 0 0),(6,.oref 100006),(7,.int .i64 0)],[(1,false,.box [.int .i64 r,.int .i64 c,.ints .arg .u64 l]),(2,false,.box [.int .i64 0,.int .i64 0,.nil]),(5,false,.box [.int .i64 r,.int .i64 c,.ints .arg .u64 l]),(100006,false,.recs 214 2 [])]⟩
theorem qr.down.Au (N M0 M:Nat) (r c:Int) (l:List Int) (p12_1:Int) (p2_1:List Int) (p7_1:Int) (p8:List Int) (p9:Int) (p6_1:List (List DV)):qr.down.L0 N M0 (M+1) r c l p12_1 p2_1 p7_1 p8 p9 p6_1=bif (A2 p12_1 r) then bif ((decide (0≤(Ab ((Ab (p12_1*c))+p7_1))))&&(decide ((Ab ((Ab (p12_1*c))+p7_1))<(List.length p2_1:Int)))) then bif (decide ((Int.toNat (Ab ((Ab (p12_1*c))+p7_1)))<(List.length p2_1))) then qr.down.L0 N M0 M r c l (Ab (p12_1+1)) (List.set p2_1 (Int.toNat (Ab ((Ab (p12_1*c))+p7_1))) 0) p7_1 p8 p9 p6_1 else none else none else bif (decide ((List.length p6_1)+1≤Ala)) then qr.down.L1 N M0 r c l (Ab (p7_1+1)) (p6_1++[[.ints .arg .u64 p8,.int .u64 p9]]) p2_1 else none:=by kernel_rfl
theorem qr.down.Cf (N M:Nat) (r c:Int) (l:List Int) (p7:Int) (p6:List (List DV)) (p2_2:List Int):qr.down.L1 N (M+1) r c l p7 p6 p2_2=bif ((A2 p7 c)&&(A2 p7 (Ab (r-1)))) then bif (Lp r c p2_2 p7&&Cu (0≤p7∧p7≤r)) then bif (Cx (Dy c p2_2 p7 p7 (Int.toNat (r-p7)))) then bif (((Cg (Dy c p2_2 p7 p7 (Int.toNat (r-p7)))).2.2.2) !=(0:Int)) then some (.tup [.agg [.int .i64 0,.int .i64 0,.nil],.nil,.int .i64 2]) else bif (((Av r c p2_2&&Mm r c p7 p7 ((Cg (Dy c p2_2 p7 p7 (Int.toNat (r-p7)))).1))&&(Ah p2_2&&Ah ((Cg (Dy c p2_2 p7 p7 (Int.toNat (r-p7)))).1)))&&Ai ((Cg (Dy c p2_2 p7 p7 (Int.toNat (r-p7)))).2.1)) then bif ((decide (0≤(Ab ((Ab (p7*c))+p7))))&&(decide ((Ab ((Ab (p7*c))+p7))<(List.length (Ga (Int.toNat r) (Int.toNat c) p2_2 p7 p7 ((Cg (Dy c p2_2 p7 p7 (Int.toNat (r-p7)))).1) ((Cg (Dy c p2_2 p7 p7 (Int.toNat (r-p7)))).2.1)):Int)))) then bif (decide ((Int.toNat (Ab ((Ab (p7*c))+p7)))<(List.length (Ga (Int.toNat r) (Int.toNat c) p2_2 p7 p7 ((Cg (Dy c p2_2 p7 p7 (Int.toNat (r-p7)))).1) ((Cg (Dy c p2_2 p7 p7 (Int.toNat (r-p7)))).2.1))))) then qr.down.L0 N M N r c l (Ab (p7+1)) (List.set (Ga (Int.toNat r) (Int.toNat c) p2_2 p7 p7 ((Cg (Dy c p2_2 p7 p7 (Int.toNat (r-p7)))).1) ((Cg (Dy c p2_2 p7 p7 (Int.toNat (r-p7)))).2.1)) (Int.toNat (Ab ((Ab (p7*c))+p7))) ((Cg (Dy c p2_2 p7 p7 (Int.toNat (r-p7)))).2.2.1)) p7 ((Cg (Dy c p2_2 p7 p7 (Int.toNat (r-p7)))).1) ((Cg (Dy c p2_2 p7 p7 (Int.toNat (r-p7)))).2.1) p6 else none else none else none else none else none else some (.tup [.agg [.int .i64 r,.int .i64 c,.ints (.own 106002 37) .u64 p2_2],.recs (.own 100006 214) 2 p6,.int .i64 0]) :=
  Eq.trans (by kernel_rfl)
  (Ap (N4 (A2 p7 c)) (Ap (N4 (A2 p7 c)) (Ap (Ki (A2 p7 c)) (Ap (Ki (A2 p7 c)) (Ap (Agy (A2 p7 c)) (Ap (Sr (A2 p7 c)) (Da (tt1 (A2 p7 c) (A2 p7 (Ab (r-1)))) rfl rfl)))))))
theorem qr.down.Hm (N M:Nat) (r c:Int) (l:List Int):qr.down.L2 N (M+1) r c l=bif ((A2 0 c)&&(A2 0 (Ab (r-1)))) then bif (Lp r c l 0&&Cu (0≤(0:Int)∧(0:Int)≤r)) then bif (Cx (Dy c l 0 0 (Int.toNat (r-0)))) then bif (((Cg (Dy c l 0 0 (Int.toNat (r-0)))).2.2.2) !=(0:Int)) then some (.tup [.agg [.int .i64 0,.int .i64 0,.nil],.nil,.int .i64 2]) else bif (((Av r c l&&Mm r c 0 0 ((Cg (Dy c l 0 0 (Int.toNat (r-0)))).1))&&(Ah l&&Ah ((Cg (Dy c l 0 0 (Int.toNat (r-0)))).1)))&&Ai ((Cg (Dy c l 0 0 (Int.toNat (r-0)))).2.1)) then bif ((decide (0≤(Ab ((Ab ((0:Int)*c))+0))))&&(decide ((Ab ((Ab ((0:Int)*c))+0))<(List.length (Ga (Int.toNat r) (Int.toNat c) l 0 0 ((Cg (Dy c l 0 0 (Int.toNat (r-0)))).1) ((Cg (Dy c l 0 0 (Int.toNat (r-0)))).2.1)):Int)))) then bif (decide ((Int.toNat (Ab ((Ab ((0:Int)*c))+0)))<(List.length (Ga (Int.toNat r) (Int.toNat c) l 0 0 ((Cg (Dy c l 0 0 (Int.toNat (r-0)))).1) ((Cg (Dy c l 0 0 (Int.toNat (r-0)))).2.1))))) then qr.down.L0 N M N r c l 1 (List.set (Ga (Int.toNat r) (Int.toNat c) l 0 0 ((Cg (Dy c l 0 0 (Int.toNat (r-0)))).1) ((Cg (Dy c l 0 0 (Int.toNat (r-0)))).2.1)) (Int.toNat (Ab ((Ab ((0:Int)*c))+0))) ((Cg (Dy c l 0 0 (Int.toNat (r-0)))).2.2.1)) 0 ((Cg (Dy c l 0 0 (Int.toNat (r-0)))).1) ((Cg (Dy c l 0 0 (Int.toNat (r-0)))).2.1) [] else none else none else none else none else none else some (.tup [.agg [.int .i64 r,.int .i64 c,.ints .arg .u64 l],.recs (.own 100006 214) 2 [],.int .i64 0]) :=
  Eq.trans (by kernel_rfl)
  (Ap (N4 (A2 0 c)) (Ap (N4 (A2 0 c)) (Ap (Ki (A2 0 c)) (Ap (Ki (A2 0 c)) (Ap (Agy (A2 0 c)) (Ap (Sr (A2 0 c)) (Da (tt1 (A2 0 c) (A2 0 (Ab (r-1)))) rfl rfl)))))))
theorem qr.down.ev (N:Nat) (r c:Int) (l:List Int):Bw qr.down.E N Tryz.f217 (Am Tryz.f217) [.agg [.int .i64 r,.int .i64 c,.ints .arg .u64 l]] =
  qr.down.L2 N N r c l:=by kernel_rfl
abbrev _root_.Go.Proofs.S1.qr.down.Kn:=A6 Tryz.prog 217 qr.down.spec
theorem qr.down.Ad (hk:A0 Tryz.prog qr.down.Bb) (h:∀ (r c:Int) (l:List Int),qr.down.pre [.i r,.i c,.l l]=true→Be qr.down.E Tryz.f217 [.agg [.int .i64 r,.int .i64 c,.ints .arg .u64 l]] (qr.down.out [.i r,.i c,.l l])):qr.down.Kn :=
  Ak (A1 hk _ _ _) Tryz.func217 (by kernel_rfl) (by kernel_rfl) h
def qr.Di.hint:Nat→Option A8
  | 0=>some { keep:=[2,3,5,6],objs:=[],boxes:=[2,3] }
  | _=>none
def qr.Di.Bb:List (Nat × Entry):=[(86,Cc.Check.spec),(219,An.Apply.spec),(218,Aa.Et.spec),(217,qr.down.spec),(150,Af.Finite.spec)]
def qr.Di.E:Env:=Aez (Ba qr.Di.Bb) (fun _=>false) qr.Di.hint (fun _=>none) (Aqe [(22,[.s .u64]),(37,[.i .u64])])
def qr.Di.L0 (N M:Nat) (r c:Int) (l:List Int) (p6:Int) (p2:List Int):Option DV:=B3 qr.Di.E N Tryz.f166 (Am Tryz.f166) [1,0,1,1,1,1,1,1,0,0] [] M ⟨Gb 81 [(2,.ptr 2 0 0),(3,.ptr 3 0 0),(5,.recs .fresh 2 (Jk r c ([]++l))),(6,.int .i64 p6)],[(2,false,.box [.int .i64 ((Lm r).1),.int .i64 ((Lm r).2.1),.ints .fresh .u64 p2]),(3,false,.box [.int .i64 ((Fj r c ([]++l)).1),.int .i64 ((Fj r c ([]++l)).2.1),.ints .arg .u64 ((Fj r c ([]++l)).2.2.1)])]⟩
theorem qr.Di.Au (N M:Nat) (r c:Int) (l:List Int) (p6:Int) (p2:List Int):qr.Di.L0 N (M+1) r c l p6 p2=bif (A2 p6 0) then bif (Cx p2) then bif ((!(Dz p2))||(Cx ((Fj r c ([]++l)).2.2.1))) then bif ((!(Dz p2))||(!(Dz ((Fj r c ([]++l)).2.2.1)))) then some (.tup [.agg [.int .i64 0,.int .i64 0,.nil],.agg [.int .i64 0,.int .i64 0,.nil],.int .i64 2]) else some (.tup [.agg [.int .i64 ((Lm r).1),.int .i64 ((Lm r).2.1),.ints .fresh .u64 p2],.agg [.int .i64 ((Fj r c ([]++l)).1),.int .i64 ((Fj r c ([]++l)).2.1),.ints .arg .u64 ((Fj r c ([]++l)).2.2.1)],.int .i64 0]) else none else none else bif ((decide (0≤p6))&&(decide (p6<(List.length (Jk r c ([]++l)):Int)))) then bif (isC (.s .u64) (List.getD (List.getD (Jk r c ([]++l)) (Int.toNat p6) []) 0 .undef)) then bif ((decide (0≤p6))&&(decide (p6<(List.length (Jk r c ([]++l)):Int)))) then bif (isC (.i .u64) (List.getD (List.getD (Jk r c ([]++l)) (Int.toNat p6) []) 1 .undef)) then bif (((Av ((Lm r).1) ((Lm r).2.1) p2&&Mm ((Lm r).1) ((Lm r).2.1) p6 0 (Q0 (List.getD (List.getD (Jk r c ([]++l)) (Int.toNat p6) []) 0 .undef)))&&(Ah p2&&Ah (Q0 (List.getD (List.getD (Jk r c ([]++l)) (Int.toNat p6) []) 0 .undef))))&&Ai (Agi (List.getD (List.getD (Jk r c ([]++l)) (Int.toNat p6) []) 1 .undef))) then qr.Di.L0 N M r c l (Ab (p6-1)) (Ga (Int.toNat ((Lm r).1)) (Int.toNat ((Lm r).2.1)) p2 p6 0 (Q0 (List.getD (List.getD (Jk r c ([]++l)) (Int.toNat p6) []) 0 .undef)) (Agi (List.getD (List.getD (Jk r c ([]++l)) (Int.toNat p6) []) 1 .undef))) else none else none else none else none else none :=
  Eq.trans (by kernel_rfl)
  (Es (Es (Ap (Aaq (Dz p2)) (Ap (Sv (Dz p2)) (Da (Ajl (Dz p2) (Cx ((Fj r c ([]++l)).2.2.1))) (Ap (Sv (Dz p2)) (Ap (Aar (Dz p2)) (Da (Aqx (Dz p2) (Dz ((Fj r c ([]++l)).2.2.1))) rfl rfl))) rfl))) rfl) (Da (Mq (decide (0≤p6)) (decide (p6<(List.length (Jk r c ([]++l)):Int)))) (Da (De (isC (.s .u64) (List.getD (List.getD (Jk r c ([]++l)) (Int.toNat p6) []) 0 .undef))) (Da (Mq (decide (0≤p6)) (decide (p6<(List.length (Jk r c ([]++l)):Int)))) (Da (De (isC (.i .u64) (List.getD (List.getD (Jk r c ([]++l)) (Int.toNat p6) []) 1 .undef))) (Da (De (((Av ((Lm r).1) ((Lm r).2.1) p2&&Mm ((Lm r).1) ((Lm r).2.1) p6 0 (Q0 (List.getD (List.getD (Jk r c ([]++l)) (Int.toNat p6) []) 0 .undef)))&&(Ah p2&&Ah (Q0 (List.getD (List.getD (Jk r c ([]++l)) (Int.toNat p6) []) 0 .undef))))&&Ai (Agi (List.getD (List.getD (Jk r c ([]++l)) (Int.toNat p6) []) 1 .undef)))) rfl rfl) rfl) rfl) rfl) rfl))
theorem qr.Di.ev (N:Nat) (r c:Int) (l:List Int):Bw qr.Di.E N Tryz.f166 (Am Tryz.f166) [.agg [.int .i64 r,.int .i64 c,.ints .arg .u64 l]]=bif (Ah l) then bif ((Bt r c l) !=(0:Int)) then some (.tup [.agg [.int .i64 0,.int .i64 0,.nil],.agg [.int .i64 0,.int .i64 0,.nil],.int .i64 (Bt r c l)]) else bif (decide (0+(List.length l)≤Gd)) then bif ((Av r c ([]++l)&&Dz ([]++l))&&Ah ([]++l)) then bif (((Fj r c ([]++l)).2.2.2) !=(0:Int)) then some (.tup [.agg [.int .i64 0,.int .i64 0,.nil],.agg [.int .i64 0,.int .i64 0,.nil],.int .i64 ((Fj r c ([]++l)).2.2.2)]) else qr.Di.L0 N N r c l (Ab ((List.length (Jk r c ([]++l)):Int)-1)) ((Lm r).2.2.1) else none else none else none :=
  Eq.trans (by kernel_rfl)
  (Es (Es rfl (Da (De (decide (0+(List.length l)≤Gd))) (Da (De ((Av r c ([]++l)&&Dz ([]++l))&&Ah ([]++l))) rfl rfl) rfl)) rfl)
abbrev _root_.Go.Proofs.S1.qr.Di.Kn:=A6 Tryz.prog 166 qr.Di.spec
theorem qr.Di.Ad (hk:A0 Tryz.prog qr.Di.Bb) (h:∀ (r c:Int) (l:List Int),qr.Di.pre [.i r,.i c,.l l]=true→Be qr.Di.E Tryz.f166 [.agg [.int .i64 r,.int .i64 c,.ints .arg .u64 l]] (qr.Di.out [.i r,.i c,.l l])):qr.Di.Kn :=
  Ak (Ao7 hk _ _ _ _) Tryz.func166 (by kernel_rfl) (by kernel_rfl) h
def qr.K4.Bb:List (Nat × Entry):=[(124,Aa.Part.spec),(166,qr.Di.spec)]
def qr.K4.E:Env:=Bc (Ba qr.K4.Bb) (fun _=>false) (fun _=>none) (fun _=>none)
theorem qr.K4.ev (N:Nat) (r c:Int) (l:List Int):Bw qr.K4.E N Tryz.f97 (Am Tryz.f97) [.agg [.int .i64 r,.int .i64 c,.ints .arg .u64 l]]=bif (Ah l) then bif ((E1 r c l) !=(0:Int)) then some (.tup [.agg [.int .i64 0,.int .i64 0,.nil],.agg [.int .i64 0,.int .i64 0,.nil],.int .i64 (E1 r c l)]) else some (.tup [.agg [.int .i64 ((Ey ((qX r c l).1) ((qX r c l).2.1) ((qX r c l).2.2.1) 0 0 r (min r c)).1),.int .i64 ((Ey ((qX r c l).1) ((qX r c l).2.1) ((qX r c l).2.2.1) 0 0 r (min r c)).2.1),.ints .fresh .u64 ((Ey ((qX r c l).1) ((qX r c l).2.1) ((qX r c l).2.2.1) 0 0 r (min r c)).2.2.1)],.agg [.int .i64 ((Ey ((rX r c l).1) ((rX r c l).2.1) ((rX r c l).2.2.1) 0 0 (min r c) c).1),.int .i64 ((Ey ((rX r c l).1) ((rX r c l).2.1) ((rX r c l).2.2.1) 0 0 (min r c) c).2.1),.ints .fresh .u64 ((Ey ((rX r c l).1) ((rX r c l).2.1) ((rX r c l).2.2.1) 0 0 (min r c) c).2.2.1)],.int .i64 0]) else none:=by kernel_rfl
abbrev _root_.Go.Proofs.S1.qr.K4.Kn:=A6 Tryz.prog 97 qr.K4.spec
theorem qr.K4.Ad (hk:A0 Tryz.prog qr.K4.Bb) (h:∀ (r c:Int) (l:List Int),qr.K4.pre [.i r,.i c,.l l]=true→Be qr.K4.E Tryz.f97 [.agg [.int .i64 r,.int .i64 c,.ints .arg .u64 l]] (qr.K4.out [.i r,.i c,.l l])):qr.K4.Kn :=
  Ak (A1 hk _ _ _) Tryz.func97 (by kernel_rfl) (by kernel_rfl) h
def solve.Gs.hint:Nat→Option A8
  | 0=>some { keep:=[2,3,4,17,18],objs:=[],boxes:=[2,3,4] }
  | _=>none
def solve.Gs.Bb:List (Nat × Entry):=[(86,Cc.Check.spec),(97,qr.K4.spec),(98,qr.E7.spec),(24,solve.Flat.spec),(36,solve.Gz.spec)]
def solve.Gs.E:Env:=Bc (Ba solve.Gs.Bb) (fun _=>false) solve.Gs.hint (fun _=>none)
theorem solve.Gs.ev (N:Nat) (r c:Int) (l:List Int) (p q:Int) (m:List Int):Bw solve.Gs.E (N+4) Tryz.f30 (Am Tryz.f30) [.agg [.int .i64 r,.int .i64 c,.ints .arg .u64 l],.agg [.int .i64 p,.int .i64 q,.ints .arg .u64 m]]=bif (Ah l) then bif ((Bt r c l) !=(0:Int)) then some (.tup [.agg [.int .i64 0,.int .i64 0,.nil],.int .i64 (Bt r c l)]) else bif (Ah m) then bif ((Bt p q m) !=(0:Int)) then some (.tup [.agg [.int .i64 0,.int .i64 0,.nil],.int .i64 (Bt p q m)]) else bif ((A2 r c)||(r !=p)) then some (.tup [.agg [.int .i64 0,.int .i64 0,.nil],.int .i64 3]) else bif (Ah l) then bif ((E1 r c l) !=(0:Int)) then some (.tup [.agg [.int .i64 0,.int .i64 0,.nil],.int .i64 (E1 r c l)]) else bif (Ah ((Mo r c l).2.2.1)) then bif ((J5 ((Mo r c l).1) ((Mo r c l).2.1) ((Mo r c l).2.2.1)).1) then some (.tup [.agg [.int .i64 0,.int .i64 0,.nil],.int .i64 5]) else bif (Ah ((Hv r c l).2.2.1)&&Ah m) then bif (((Dl ((Hv r c l).1) ((Hv r c l).2.1) ((Hv r c l).2.2.1) p q m).2.2.2) !=(0:Int)) then some (.tup [.agg [.int .i64 0,.int .i64 0,.nil],.int .i64 ((Dl ((Hv r c l).1) ((Hv r c l).2.1) ((Hv r c l).2.2.1) p q m).2.2.2)]) else bif (Ah ((Mo r c l).2.2.1)&&Ah ((Dl ((Hv r c l).1) ((Hv r c l).2.1) ((Hv r c l).2.2.1) p q m).2.2.1)) then some (.tup [.agg [.int .i64 ((upX ((Mo r c l).1) ((Mo r c l).2.1) ((Mo r c l).2.2.1) ((Dl ((Hv r c l).1) ((Hv r c l).2.1) ((Hv r c l).2.2.1) p q m).1) ((Dl ((Hv r c l).1) ((Hv r c l).2.1) ((Hv r c l).2.2.1) p q m).2.1) ((Dl ((Hv r c l).1) ((Hv r c l).2.1) ((Hv r c l).2.2.1) p q m).2.2.1)).1),.int .i64 ((upX ((Mo r c l).1) ((Mo r c l).2.1) ((Mo r c l).2.2.1) ((Dl ((Hv r c l).1) ((Hv r c l).2.1) ((Hv r c l).2.2.1) p q m).1) ((Dl ((Hv r c l).1) ((Hv r c l).2.1) ((Hv r c l).2.2.1) p q m).2.1) ((Dl ((Hv r c l).1) ((Hv r c l).2.1) ((Hv r c l).2.2.1) p q m).2.2.1)).2.1),.ints .fresh .u64 ((upX ((Mo r c l).1) ((Mo r c l).2.1) ((Mo r c l).2.2.1) ((Dl ((Hv r c l).1) ((Hv r c l).2.1) ((Hv r c l).2.2.1) p q m).1) ((Dl ((Hv r c l).1) ((Hv r c l).2.1) ((Hv r c l).2.2.1) p q m).2.1) ((Dl ((Hv r c l).1) ((Hv r c l).2.1) ((Hv r c l).2.2.1) p q m).2.2.1)).2.2.1)],.int .i64 ((upX ((Mo r c l).1) ((Mo r c l).2.1) ((Mo r c l).2.2.1) ((Dl ((Hv r c l).1) ((Hv r c l).2.1) ((Hv r c l).2.2.1) p q m).1) ((Dl ((Hv r c l).1) ((Hv r c l).2.1) ((Hv r c l).2.2.1) p q m).2.1) ((Dl ((Hv r c l).1) ((Hv r c l).2.1) ((Hv r c l).2.2.1) p q m).2.2.1)).2.2.2)]) else none else none else none else none else none else none :=
  Eq.trans (by kernel_rfl)
  (Es (Es rfl (Es (Es rfl (Ap (Ul (A2 r c)) (Ap (Q9 (A2 r c)) (Ap (Ul (A2 r c)) (Ap (Q9 (A2 r c)) (Ap (tt8 (A2 r c)) (Ap (tt6 (A2 r c)) (Da (tt5 (A2 r c) (r !=p)) rfl rfl)))))))) rfl)) rfl)
abbrev _root_.Go.Proofs.S1.solve.Gs.Kn:=A6 Tryz.prog 30 solve.Gs.spec
theorem solve.Gs.Ad (hk:A0 Tryz.prog solve.Gs.Bb) (h:∀ (r c:Int) (l:List Int) (p q:Int) (m:List Int),solve.Gs.pre [.i r,.i c,.l l,.i p,.i q,.l m]=true→Be solve.Gs.E Tryz.f30 [.agg [.int .i64 r,.int .i64 c,.ints .arg .u64 l],.agg [.int .i64 p,.int .i64 q,.ints .arg .u64 m]] (solve.Gs.out [.i r,.i c,.l l,.i p,.i q,.l m])):solve.Gs.Kn :=
  Ak (A1 hk _ _ _) Tryz.func30 (by kernel_rfl) (by kernel_rfl) h
end EqQr
open EqQr
def clS (R C:Nat) (l:List Int) (j:Nat) (x:Int) (i:Nat):List Int:=Bf R C fun a b=>if b=j∧j≤a∧a<i then (if a=j then x else 0) else D4 (C:Int) l (a:Int) (b:Int)
section
variable {R C j:Nat} {l:List Int} {x:Int}
theorem Ape (i:Nat):(clS R C l j x i).length=R*C:=Bn _ _ _
theorem Yl (hl:l.length=R*C) (hj:j<C):List.set l (j*C+j) x=clS R C l j x (j+1):=by
  unfold clS
  conv=>lhs; rw [← La hl]
  rw [Sf hj]
  refine C2 fun a b ha hb=>?_
  by_cases h:a=j∧b=j
  · rw [if_pos h,if_pos (by omega),if_pos h.1]
  · rw [if_neg h,if_neg (by omega)]
theorem Apd {i:Nat} (hj:j<C) (hi:j<i):List.set (clS R C l j x i) (i*C+j) 0=clS R C l j x (i+1):=by
  unfold clS
  rw [Sf hj]
  refine C2 fun a b ha hb=>?_
  by_cases h:a=i∧b=j
  · rw [if_pos h,if_pos (by omega),if_neg (by omega)]
  · rw [if_neg h]
    by_cases h2:b=j∧j≤a∧a<i
    · rw [if_pos h2,if_pos (show b=j∧j≤a∧a<i+1 by omega)]
    · rw [if_neg h2,if_neg (by omega)]
theorem Apf:clS R C l j x R=Tu R C l j x:=by
  unfold clS Tu
  refine C2 fun a b ha hb=>?_
  by_cases h:b=j∧j≤a
  · rw [if_pos h,if_pos (by omega)]
  · rw [if_neg h,if_neg (by omega)]
end
theorem V5 {C i j:Nat} (hi:i≤6) (hC:C≤6) (hj:j≤6):Ab (Ab ((i:Int)*(C:Int))+(j:Int))=((i*C+j:Nat):Int):=by
  have h36:=Nat.mul_le_mul hi hC
  rw [Al (x:=(i:Int)*(C:Int)) (by rw [← Ave]; omega) (by rw [← Ave]; omega),← Ave,Al (by omega) (by omega)]
  omega
section
variable {R C:Nat}
theorem Ws (N M0:Nat) (l0:List Int) (r6:R≤6) (c6:C≤6) {j:Nat} (hj:j<C) (l:List Int) (x:Int) (v:List Int) (t:Int) (ms:List (List DV)) (hms:ms.length≤100):∀ (cnt i F:Nat),i+cnt=R→j<i→cnt<F →
    qr.down.L0 N M0 F (R:Int) (C:Int) l0 (i:Int) (clS R C l j x i) (j:Int) v t ms=qr.down.L1 N M0 (R:Int) (C:Int) l0 ((j+1:Nat):Int) (ms++[[.ints .arg .u64 v,.int .u64 t]]) (Tu R C l j x):=by
  intro cnt
  induction cnt with
  | zero =>
    intro i F hi hji hF
    obtain ⟨F,rfl⟩:∃ G,F=G+1:=⟨F-1,by omega⟩
    obtain rfl:i=R:=by omega
    rw [qr.down.Au,At,Auy (by omega),Aux,Auu (by unfold Ala; omega),Aut,Al (by omega) (by omega),Apf]
    rfl
  | succ cnt ih =>
    intro i F hi hji hF
    obtain ⟨F,rfl⟩:∃ G,F=G+1:=⟨F-1,by omega⟩
    have hlen:=Ape (R:=R) (C:=C) (l:=l) (j:=j) (x:=x) i
    have hp:=Hg (show i<R by omega) hj
    rw [qr.down.Au,At,Auu (by omega),Aut,V5 (by omega) c6 (by omega),Auu (by omega),Auu (by omega),Auz,Aut,Auv,Auu (by omega),Aut,Apd hj hji,Al (by omega) (by omega)]
    exact ih (i+1) F (by omega) (by omega) (by omega)
def Qj (r c:Nat) (ms:List (List DV)):Option (List Int × List (List Int × Int))→DV
  | none=>.tup [.agg [.int .i64 0,.int .i64 0,.nil],.nil,.int .i64 2]
  | some x=>.tup [.agg [.int .i64 (r:Int),.int .i64 (c:Int),.ints (.own 106002 tB) .u64 x.1],.recs (.own 100006 tMR) 2 (ms++V6 x.2),.int .i64 0]
theorem Aim (N:Nat) (hN:7<N) (l0:List Int) (r6:R≤6) (c6:C≤6):∀ (cnt j F:Nat) (l:List Int) (ms:List (List DV)),j+cnt=Ja R C→cnt<F→l.length=R*C→Ah l=true→ms.length=j →
    qr.down.L1 N F (R:Int) (C:Int) l0 (j:Int) ms l=some (Qj R C ms (N9 R C cnt j l)):=by
  intro cnt
  induction cnt with
  | zero =>
    intro j F l ms hj hF hl al hms
    obtain ⟨F,rfl⟩:∃ G,F=G+1:=⟨F-1,by omega⟩
    unfold Ja at hj
    have hlt:(A2 (j:Int) (C:Int)&&A2 (j:Int) (Ab ((R:Int)-1)))=false:=by
      rw [At,At,Al (by omega) (by omega),Bool.and_eq_false_iff,Avc,Avc]; omega
    rw [qr.down.Cf,hlt,Aux]
    simp [N9,Qj,V6]
  | succ cnt ih =>
    intro j F l ms hj hF hl al hms
    obtain ⟨F,rfl⟩:∃ G,F=G+1:=⟨F-1,by omega⟩
    have hj0:=hj
    unfold Ja at hj
    have hr:=Mr r6 c6 hl
    have hlt:(A2 (j:Int) (C:Int)&&A2 (j:Int) (Ab ((R:Int)-1)))=true:=by
      rw [At,At,Al (by omega) (by omega),Auu (by omega),Auu (by omega)]; rfl
    have cp:Lp (R:Int) (C:Int) l (j:Int)=true:=Ae.2 ⟨hr,Aq.2 (by omega)⟩
    have ec:Dy (C:Int) l (j:Int) (j:Int) (Int.toNat ((R:Int)-(j:Int)))=Ge R C l j:=by unfold Ge; rw [show Int.toNat ((R:Int)-(j:Int))=R-j by omega]
    have ca:Ah (Ge R C l j)=true:=S5 al
    have cl:(Ge R C l j).length=R-j:=Jb _ _ _ _ _
    rw [qr.down.Cf,hlt,Aut,cp,Aq.2 (show 0≤(j:Int)∧(j:Int)≤(R:Int) by omega),Auz,Aut,ec,Kd ca (by omega),Aut]
    unfold N9
    by_cases he:(Cg (Ge R C l j)).2.2.2=0
    · have hml:=V8 he
      have hma:=U0 ca
      have hap:Mm (R:Int) (C:Int) (j:Int) (j:Int) (Cg (Ge R C l j)).1=true:=Auu (by omega)
      have hp:=Hg (show j<R by omega) (show j<C by omega)
      have hlen:=Ml R C l (j:Int) (j:Int) (Cg (Ge R C l j)).1 (Cg (Ge R C l j)).2.1
      have hg:=Ws N F l0 r6 c6 (show j<C by omega) (Ga R C l (j:Int) (j:Int) (Cg (Ge R C l j)).1 (Cg (Ge R C l j)).2.1) (Cg (Ge R C l j)).2.2.1 (Cg (Ge R C l j)).1 (Cg (Ge R C l j)).2.1 ms (by omega) (R-(j+1)) (j+1) N (by omega) (by omega) (by omega)
      have hn:=ih (j+1) F (W8 R C l j) (ms++[[.ints .arg .u64 (Cg (Ge R C l j)).1,.int .u64 (Cg (Ge R C l j)).2.1]]) (by omega) (by omega) (Ou _ _ _ _) (Zn al j) (by rw [List.length_append,hms]; rfl)
      rw [F2 he,Aux,hr,hap,al,hma.1,hma.2.1,Auz,Auz,Auz,Aut,V5 (by omega) c6 (by omega),Auv,Auv,Auv,Auu (by omega),Auu (by omega),Auz,Aut,Auu (by omega),Aut,
        Yl hlen (by omega),Al (by omega) (by omega),if_pos he]
      refine (hg.trans hn).trans ?_
      show some (Qj R C _ (N9 R C cnt (j+1) (W8 R C l j)))=some (Qj R C ms _)
      cases N9 R C cnt (j+1) (W8 R C l j) with
      | none=>rfl
      | some x=>simp [Qj,V6]
    · rw [Ti he,Aut,if_neg he]; rfl
theorem Ae0 (N:Nat) (hN:7<N) {l:List Int} (r6:R≤6) (c6:C≤6) (hl:l.length=R*C) (al:Ah l=true) (h0:Ja R C≠0) :
    qr.down.L2 N N (R:Int) (C:Int) l=some (Qj R C [] (I9 R C l)):=by
  obtain ⟨cnt,hc⟩:∃ cnt,Ja R C=cnt+1:=⟨Ja R C-1,by omega⟩
  obtain ⟨F,rfl⟩:∃ G,N=G+1:=⟨N-1,by omega⟩
  have hj:=hc
  unfold Ja at hj
  have hr:=Mr r6 c6 hl
  have hlt:(A2 (0:Int) (C:Int)&&A2 (0:Int) (Ab ((R:Int)-1)))=true:=by
    rw [At,At,Al (by omega) (by omega),Auu (by omega),Auu (by omega)]; rfl
  have cp:Lp (R:Int) (C:Int) l (0:Int)=true:=Ae.2 ⟨hr,Aq.2 (by omega)⟩
  have ec:Dy (C:Int) l (0:Int) (0:Int) (Int.toNat ((R:Int)-(0:Int)))=Ge R C l 0:=by unfold Ge; rw [show Int.toNat ((R:Int)-(0:Int))=R-0 by omega]; rfl
  have ca:Ah (Ge R C l 0)=true:=S5 al
  have cl:(Ge R C l 0).length=R-0:=Jb _ _ _ _ _
  unfold I9
  rw [hc,qr.down.Hm,hlt,Aut,cp,Aq.2 (show 0≤(0:Int)∧(0:Int)≤(R:Int) by omega),Auz,Aut,ec,Kd ca (by omega),Aut]
  unfold N9
  by_cases he:(Cg (Ge R C l 0)).2.2.2=0
  · have hml:=V8 he
    have hma:=U0 ca
    have hap:Mm (R:Int) (C:Int) (0:Int) (0:Int) (Cg (Ge R C l 0)).1=true:=Auu (by omega)
    have hp:=Hg (show 0<R by omega) (show 0<C by omega)
    have hlen:=Ml R C l (0:Int) (0:Int) (Cg (Ge R C l 0)).1 (Cg (Ge R C l 0)).2.1
    have hg:=Ws (F+1) F l r6 c6 (show 0<C by omega) (Ga R C l (0:Int) (0:Int) (Cg (Ge R C l 0)).1 (Cg (Ge R C l 0)).2.1) (Cg (Ge R C l 0)).2.2.1 (Cg (Ge R C l 0)).1 (Cg (Ge R C l 0)).2.1 [] (Nat.zero_le _) (R-1) 1 (F+1) (by omega) (by omega) (by omega)
    have hn:=Aim (R:=R) (C:=C) (F+1) hN l r6 c6 cnt 1 F (W8 R C l 0) [[.ints .arg .u64 (Cg (Ge R C l 0)).1,.int .u64 (Cg (Ge R C l 0)).2.1]] (by omega) (by unfold Ja at hc; omega) (Ou _ _ _ _) (Zn al 0) rfl
    have mc:=V5 (i:=0) (C:=C) (j:=0) (by omega) c6 (by omega)
    have mc:Ab (Ab ((0:Int)*(C:Int))+(0:Int))=((0*C+0:Nat):Int):=mc
    rw [F2 he,Aux,hr,hap,al,hma.1,hma.2.1,Auz,Auz,Auz,Aut,mc,Auv,Auv,Auv,Auu (by omega),Auu (by omega),Auz,Aut,Auu (by omega),Aut,
      Yl hlen (by omega),if_pos he]
    refine (hg.trans hn).trans ?_
    show some (Qj R C _ (N9 R C cnt 1 (W8 R C l 0)))=some (Qj R C [] _)
    cases N9 R C cnt (0+1) (W8 R C l 0) with
    | none=>rfl
    | some x=>simp [Qj,V6]
  · rw [Ti he,Aut,if_neg he]; rfl
end
theorem qr.down.known:qr.down.Kn:=qr.down.Ad (.cons An.Apply.known (.cons An.Jq.known (.cons Aa.Dk.known .nil))) fun r c l hp=>by
  obtain ⟨h1,al⟩:=Ae.1 (show ((Av r c l&&Dz l)&&Ah l)=true from hp)
  obtain ⟨hr,hf⟩:=Ae.1 h1
  obtain ⟨R,C,rfl,rfl,r6,c6,hl⟩:=Dd hr
  by_cases h0:Ja R C=0
  · have hx:I9 R C l=some (l,[]):=by unfold I9; rw [h0]; rfl
    refine ⟨8,.tup [.agg [.int .i64 (R:Int),.int .i64 (C:Int),.ints .arg .u64 l],.recs (.own 100006 tMR) 2 [],.int .i64 0],[100006],?_,?_⟩
    · unfold Ja at h0
      have hlt:(A2 (0:Int) (C:Int)&&A2 (0:Int) (Ab ((R:Int)-1)))=false:=by
        rw [At,At,Al (by omega) (by omega),Bool.and_eq_false_iff,Avc,Avc]; omega
      rw [qr.down.ev,show (8:Nat)=7+1 from rfl,qr.down.Hm,hlt,Aux]
    · show Wk _ _ (DV.tup [.agg [.int .i64 (Fj (R:Int) (C:Int) l).1,.int .i64 (Fj (R:Int) (C:Int) l).2.1,.ints .arg .u64 (Fj (R:Int) (C:Int) l).2.2.1],.recs .fresh 2 (Jk (R:Int) (C:Int) l),.int .i64 (Fj (R:Int) (C:Int) l).2.2.2])
      unfold Fj Jk Ns
      rw [Auv,Auv,hx]
      exact Wk.Gu (.cons (Wk.H0 (.cons .int (.cons .int (.cons .Ae9 .nil)))) (.cons (.dropR _ _ _ _ (List.mem_singleton.2 rfl)) (.cons .int .nil)))
  · refine ⟨8,Qj R C [] (I9 R C l),[106002,100006],?_,?_⟩
    · rw [qr.down.ev]
      exact Ae0 8 (by omega) r6 c6 hl al h0
    · show Wk _ _ (DV.tup [.agg [.int .i64 (Fj (R:Int) (C:Int) l).1,.int .i64 (Fj (R:Int) (C:Int) l).2.1,.ints .arg .u64 (Fj (R:Int) (C:Int) l).2.2.1],.recs .fresh 2 (Jk (R:Int) (C:Int) l),.int .i64 (Fj (R:Int) (C:Int) l).2.2.2])
      unfold Fj Jk Ns
      rw [Auv,Auv]
      cases I9 R C l with
      | none=>exact Wk.Gu (.cons (Wk.H0 (.cons .int (.cons .int (.cons Pg .nil)))) (.cons (.nilR _ _) (.cons .int .nil)))
      | some x=>exact Wk.Gu (.cons (Wk.H0 (.cons .int (.cons .int (.cons (.dropA _ _ _ _ List.mem_cons_self) .nil)))) (.cons (.dropR _ _ _ _ (List.mem_cons_of_mem _ List.mem_cons_self)) (.cons .int .nil)))
open EqQr
def V2 (e:Int):DV:=.tup [.agg [.int .i64 0,.int .i64 0,.nil],.agg [.int .i64 0,.int .i64 0,.nil],.int .i64 e]
theorem X3 {r:Nat}:∀ {j:Nat} {ms:List (List Int × Int)},Abm r j ms→∀ i:Nat,i<ms.length→Ah (ms.getD i ([],0)).1=true∧Ai (ms.getD i ([],0)).2=true∧(ms.getD i ([],0)).1.length+(j+i)=r
  | _,[],_,i,h=>absurd h (Nat.not_lt_zero _)
  | j,m::ms,hm,0,_=>hm.1
  | j,m::ms,hm,i+1,h=>by
    have:=X3 hm.2 i (by simpa using h)
    rw [show j+(i+1)=j+1+i by omega]
    exact this
theorem Aks {ms:List (List Int × Int)} {i:Nat} (h:i<ms.length):List.getD (V6 ms) i []=[.ints .arg .u64 (ms.getD i ([],0)).1,.int .u64 (ms.getD i ([],0)).2]:=by
  unfold V6
  rw [Au3,List.getElem?_map,Ava h,Au3,Ava h]; rfl
theorem Abl (ms:List (List Int × Int)):(V6 ms).length=ms.length:=by unfold V6; rw [List.length_map]
theorem Ait {n i:Nat} {ms:List (List Int × Int)} (h:i<ms.length) (q:List Int):Ko n i (ms.drop i) q=Ga n n (Ko n (i+1) (ms.drop (i+1)) q) (i:Int) 0 (ms.getD i ([],0)).1 (ms.getD i ([],0)).2:=by
  rw [List.drop_eq_getElem_cons h,Ko,Au3,Ava h]; rfl
theorem Aeu {R:Nat} (h:R≤6):Lm (R:Int)=((R:Int),(R:Int),D5 R,0):=by
  unfold Lm D5
  rw [if_pos (Afp h),Auv]
theorem Aq1 {n:Nat} (h:n≤6):n*n≤36:=Nat.mul_le_mul h h
theorem Acn (N:Nat) {R C:Nat} {l:List Int} (r6:R≤6) {x:List Int × List (List Int × Int)} (hx:I9 R C l=some x) (hm:Abm R 0 x.2) (hxr:Ah x.1=true) (hxl:x.1.length≤36):∀ (j F:Nat),j≤x.2.length→j<F →
    qr.Di.L0 N F (R:Int) (C:Int) l ((j:Int)-1) (Ko R j (x.2.drop j) (D5 R)) =
    bif Qi R C l then some (.tup [.agg [.int .i64 (R:Int),.int .i64 (R:Int),.ints .fresh .u64 (Qy R C l)],.agg [.int .i64 (R:Int),.int .i64 (C:Int),.ints .arg .u64 (Ns R C l)],.int .i64 0])
    else some (V2 2):=by
  have hq:Qy R C l=Ko R 0 x.2 (D5 R):=by unfold Qy; rw [hx]
  have hr:Ns R C l=x.1:=by unfold Ns; rw [hx]
  have hd:Fj (R:Int) (C:Int) ([]++l)=((R:Int),(C:Int),x.1,0):=by
    unfold Fj
    rw [List.nil_append,Auv,Auv,hx,hr]; rfl
  have hmd:Jk (R:Int) (C:Int) ([]++l)=V6 x.2:=by
    unfold Jk
    rw [List.nil_append,Auv,Auv,hx]
  have h36:=Aq1 r6
  intro j
  induction j with
  | zero =>
    intro F _ hF
    obtain ⟨F,rfl⟩:∃ G,F=G+1:=⟨F-1,by omega⟩
    have hb:=Va R x.2 0 (D5 R) (Z0 R) (by unfold D5; exact Bn _ _ _)
    have ok1:Cx (Ko R 0 x.2 (D5 R))=true:=Kd hb.1 (by omega)
    have ok2:Cx x.1=true:=Kd hxr (by omega)
    have hfo:Qi R C l=(Dz (Ko R 0 x.2 (D5 R))&&Dz x.1):=by unfold Qi; rw [hx,hq,hr]; rfl
    rw [qr.Di.Au,At,Auu (by omega),Aut,List.drop_zero,ok1,Aut,hd,Aeu r6,ok2,Bool.or_true,Aut,hfo,hq,hr]
    cases Dz (Ko R 0 x.2 (D5 R)) with
    | false=>rfl
    | true=>cases Dz x.1<;>rfl
  | succ j ih =>
    intro F hj hF
    obtain ⟨F,rfl⟩:∃ G,F=G+1:=⟨F-1,by omega⟩
    have ej:(((j+1:Nat):Int))-1=(j:Int):=by omega
    have hg:=X3 hm j (by omega)
    have hb:=Va R (x.2.drop (j+1)) (j+1) (D5 R) (Z0 R) (by unfold D5; exact Bn _ _ _)
    have hr1:=Mr r6 r6 hb.2
    have hap:Mm (R:Int) (R:Int) (j:Int) 0 (x.2.getD j ([],0)).1=true:=Auu (by omega)
    have hmg:=Aks (ms:=x.2) (i:=j) (by omega)
    rw [qr.Di.Au,ej,At,Auy (show ¬ (j:Int)<0 by omega),Aux,hmd,Abl,Auu (show (0:Int)≤(j:Int) by omega),Auu (show (j:Int)<(x.2.length:Int) by omega),Auz,Aut,Auv,hmg,Aeu r6]
    show (bif true then bif true then bif true then (bif (((Av (R:Int) (R:Int) (Ko R (j+1) (x.2.drop (j+1)) (D5 R))&&Mm (R:Int) (R:Int) (j:Int) (0:Int) (x.2.getD j ([],0)).1)&&(Ah (Ko R (j+1) (x.2.drop (j+1)) (D5 R))&&Ah (x.2.getD j ([],0)).1))&&Ai (x.2.getD j ([],0)).2) then
      qr.Di.L0 N F (R:Int) (C:Int) l (Ab ((j:Int)-(1:Int))) (Ga (Int.toNat (R:Int)) (Int.toNat (R:Int)) (Ko R (j+1) (x.2.drop (j+1)) (D5 R)) (j:Int) (0:Int) (x.2.getD j ([],0)).1 (x.2.getD j ([],0)).2) else none) else none else none else none)=_
    rw [Aut,Aut,Aut,hr1,hap,hb.1,hg.1,hg.2.1,Auz,Auz,Auz,Aut,Auv,Al (by omega) (by omega),← Ait (by omega)]
    exact ih F (by omega) (by omega)
theorem Al8 {R C:Nat} {l:List Int} (hl:l.length=R*C) (al:Ah l=true) {x:List Int × List (List Int × Int)} (hx:I9 R C l=some x):Ah x.1=true∧x.1.length=R*C∧x.2.length=Ja R C∧Abm R 0 x.2 :=
  Wt R C (Ja R C) 0 l x al hl (by unfold Ja; omega) hx
theorem U7 {r c:Int} {l:List Int} (h:Bt r c l=0):E1 r c l=if Qi r.toNat c.toNat l=true then 0 else 2:=by
  unfold E1; rw [if_neg (by rw [h]; decide)]
theorem Acp {r c:Int} {l:List Int} (h:Bt r c l≠0):E1 r c l=Bt r c l:=by unfold E1; rw [if_pos h]
theorem Vu {r c:Int} {l:List Int} {e:Int} (h:E1 r c l=e) (he:e≠0):qX r c l=I7 e∧rX r c l=I7 e:=by unfold qX rX; rw [h,if_pos he,if_pos he]; exact ⟨rfl,rfl⟩
theorem Uv {r c:Int} {l:List Int} (h:E1 r c l=0):qX r c l=(r,r,Qy r.toNat c.toNat l,0)∧rX r c l=(r,c,Ns r.toNat c.toNat l,0):=by unfold qX rX; rw [h]; exact ⟨rfl,rfl⟩
theorem Ss {drops:List Nat} {e:Int} {g h:Ac3}:Wk drops (V2 e) (DV.tup [.agg [.int .i64 (I7 e).1,.int .i64 (I7 e).2.1,.ints g .u64 (I7 e).2.2.1],.agg [.int .i64 (I7 e).1,.int .i64 (I7 e).2.1,.ints h .u64 (I7 e).2.2.1],.int .i64 e]) :=
  Wk.Gu (.cons (Wk.H0 (.cons .int (.cons .int (.cons Pg .nil)))) (.cons (Wk.H0 (.cons .int (.cons .int (.cons Pg .nil)))) (.cons .int .nil)))
theorem qr.Di.known:qr.Di.Kn:=qr.Di.Ad (.cons Cc.Check.known (.cons An.Apply.known (.cons Aa.Et.known (.cons qr.down.known (.cons Af.Finite.known .nil))))) fun r c l hp=>by
  have al:Ah l=true:=hp
  show ∃ N dv drops,_=some dv∧Wk drops dv (DV.tup [.agg [.int .i64 (qX r c l).1,.int .i64 (qX r c l).2.1,.ints .arg .u64 (qX r c l).2.2.1],.agg [.int .i64 (rX r c l).1,.int .i64 (rX r c l).2.1,.ints .arg .u64 (rX r c l).2.2.1],.int .i64 (E1 r c l)])
  by_cases h1:Bt r c l=0
  · obtain ⟨hr,hf⟩:=Gq h1
    have h36:=Ms hr
    obtain ⟨R,C,rfl,rfl,r6,c6,hl⟩:=Dd hr
    have d0:decide (0+l.length≤Gd)=true:=Auu (by unfold Gd; omega)
    cases hx:I9 R C l with
    | none =>
      have hfo:Qi R C l=false:=by unfold Qi; rw [hx]; rfl
      have he:E1 (R:Int) (C:Int) l=2:=by rw [U7 h1,Auv,Auv,hfo]; rfl
      obtain ⟨e1,e2⟩:=Vu he (by decide)
      have hd:Fj (R:Int) (C:Int) ([]++l)=I7 2:=by
        unfold Fj
        rw [List.nil_append,Auv,Auv,hx]; rfl
      rw [e1,e2,he]
      exact ⟨0,V2 2,[],by rw [qr.Di.ev,al,Aut,F2 h1,Aux,d0,Aut,hd,List.nil_append,hr,hf,al,Auz,Auz,Aut,show ((I7 2).2.2.2 !=(0:Int))=true from rfl,Aut]; rfl,Ss⟩
    | some x =>
      obtain ⟨x1,x2,x3,x4⟩:=Al8 hl al hx
      have hd:Fj (R:Int) (C:Int) ([]++l)=((R:Int),(C:Int),x.1,0):=by
        unfold Fj Ns
        rw [List.nil_append,Auv,Auv,hx]; rfl
      have hmd:Jk (R:Int) (C:Int) ([]++l)=V6 x.2:=by
        unfold Jk
        rw [List.nil_append,Auv,Auv,hx]
      have hn:x.2.length≤6:=by rw [x3]; unfold Ja; omega
      have hloop:=Acn 8 r6 hx x4 x1 (by rw [x2]; exact Nat.mul_le_mul r6 c6) x.2.length 8 (Nat.le_refl _) (by omega)
      rw [Au7 (Nat.le_refl _)] at hloop
      have hrun:=qr.Di.ev 8 (R:Int) (C:Int) l
      rw [al,Aut,F2 h1,Aux,d0,Aut,hd,hmd,Abl,List.nil_append,hr,hf,al,Auz,Auz,Aut,show (((R:Int),(C:Int),x.1,(0:Int)).2.2.2 !=(0:Int))=false from rfl,Aux,Aeu r6,Al (by omega) (by omega)] at hrun
      have hrun:=hrun.trans hloop
      cases hfo:Qi R C l with
      | false =>
        have he:E1 (R:Int) (C:Int) l=2:=by rw [U7 h1,Auv,Auv,hfo]; rfl
        obtain ⟨e1,e2⟩:=Vu he (by decide)
        rw [hfo,Aux] at hrun
        rw [e1,e2,he]
        exact ⟨8,V2 2,[],hrun,Ss⟩
      | true =>
        have he:E1 (R:Int) (C:Int) l=0:=by rw [U7 h1,Auv,Auv,hfo]; rfl
        obtain ⟨e1,e2⟩:=Uv he
        rw [hfo,Aut] at hrun
        rw [e1,e2,he,Auv,Auv]
        exact ⟨8,_,[],hrun,Wk.Gu (.cons (Wk.H0 (.cons .int (.cons .int (.cons (.fresh _ _) .nil)))) (.cons (Wk.H0 (.cons .int (.cons .int (.cons .Ae9 .nil)))) (.cons .int .nil)))⟩
  · have he:=Acp h1
    obtain ⟨e1,e2⟩:=Vu he h1
    rw [e1,e2,he]
    exact ⟨0,V2 (Bt r c l),[],by rw [qr.Di.ev,al,Aut,Ti h1,Aut]; rfl,Ss⟩
theorem Ae4 {r c:Int} {l:List Int} (h:E1 r c l=0):Bt r c l=0:=by
  by_cases h1:Bt r c l=0
  · exact h1
  · rw [Acp h1] at h; exact absurd h h1
theorem Aco {r c:Int} {l:List Int} (al:Ah l=true) (h:E1 r c l=0):∃ R C:Nat,r=R∧c=C∧R≤6∧C≤6∧l.length=R*C∧Ah (Qy R C l)=true∧(Qy R C l).length=R*R∧Ah (Ns R C l)=true∧(Ns R C l).length=R*C∧Dz (Qy R C l)=true∧Dz (Ns R C l)=true:=by
  have h1:=Ae4 h
  rw [U7 h1] at h
  obtain ⟨R,C,rfl,rfl,r6,c6,hl⟩:=Dd (Gq h1).1
  rw [Auv,Auv] at h
  by_cases ho:Qi R C l=true
  · unfold Qi at ho
    obtain ⟨o1,o2⟩:=Ae.1 ho
    obtain ⟨o3,o4⟩:=Ae.1 o2
    obtain ⟨q1,q2⟩:=Ao5 o1
    obtain ⟨g1,g2⟩:=Ao4 al hl o1
    exact ⟨R,C,rfl,rfl,r6,c6,hl,q1,q2,g1,g2,o3,o4⟩
  · rw [if_neg ho] at h; exact absurd h (by decide)
theorem Af0 {R C:Nat} {l:List Int} (r6:R≤6) (c6:C≤6) (hl:l.length=R*C) {x y a b:Int} (hp:Li (R:Int) (C:Int) x y a b=true) :
    Ey (R:Int) (C:Int) l x y a b=(a,b,Bf a.toNat b.toNat fun i k=>D4 (C:Int) l (x+(i:Int)) (y+(k:Int)),0):=by
  unfold Ey; rw [if_pos (Mr r6 c6 hl),if_pos hp]
theorem Xn {r c:Int} {l:List Int} (al:Ah l=true) (h:E1 r c l=0) :
    Ey r r (Qy r.toNat c.toNat l) 0 0 r (min r c)=Hv r c l∧Ey r c (Ns r.toNat c.toNat l) 0 0 (min r c) c=Mo r c l:=by
  obtain ⟨R,C,rfl,rfl,r6,c6,hl,q1,q2,g1,g2,_,_⟩:=Aco al h
  unfold Hv Mo
  rw [h,if_neg (by decide),if_neg (by decide),Auv,Auv]
  have p1:Li (R:Int) (R:Int) 0 0 (R:Int) (min (R:Int) (C:Int))=true:=Auu (by omega)
  have p2:Li (R:Int) (C:Int) 0 0 (min (R:Int) (C:Int)) (C:Int)=true:=Auu (by omega)
  rw [Af0 r6 r6 q2 p1,Af0 r6 c6 g2 p2]
  exact ⟨rfl,rfl⟩
theorem Alw {r c:Int} {l:List Int} (al:Ah l=true) (h:E1 r c l=0):Ah (Qy r.toNat c.toNat l)=true∧Ah (Ns r.toNat c.toNat l)=true:=by
  obtain ⟨R,C,rfl,rfl,_,_,_,q1,_,g1,_,_,_⟩:=Aco al h
  rw [Auv,Auv]
  exact ⟨q1,g1⟩
theorem Anp {r c:Int} {l:List Int} (al:Ah l=true) (h:E1 r c l=0):Ah (Hv r c l).2.2.1=true∧Ah (Mo r c l).2.2.1=true:=by
  obtain ⟨a,b⟩:=Xn al h
  obtain ⟨q1,g1⟩:=Alw al h
  rw [← a,← b]
  exact ⟨Rw q1 _ _ _ _,Rw g1 _ _ _ _⟩
theorem qr.K4.known:qr.K4.Kn:=qr.K4.Ad (.cons Aa.Part.known (.cons qr.Di.known .nil)) fun r c l hp=>by
  have al:Ah l=true:=hp
  show ∃ N dv drops,_=some dv∧Wk drops dv (DV.tup [.agg [.int .i64 (Hv r c l).1,.int .i64 (Hv r c l).2.1,.ints .fresh .u64 (Hv r c l).2.2.1],.agg [.int .i64 (Mo r c l).1,.int .i64 (Mo r c l).2.1,.ints .fresh .u64 (Mo r c l).2.2.1],.int .i64 (E1 r c l)])
  by_cases h:E1 r c l=0
  · obtain ⟨e1,e2⟩:=Uv h
    obtain ⟨t1,t2⟩:=Xn al h
    refine ⟨0,DV.tup [.agg [.int .i64 (Hv r c l).1,.int .i64 (Hv r c l).2.1,.ints .fresh .u64 (Hv r c l).2.2.1],.agg [.int .i64 (Mo r c l).1,.int .i64 (Mo r c l).2.1,.ints .fresh .u64 (Mo r c l).2.2.1],.int .i64 0],[],by rw [qr.K4.ev,al,Aut,F2 h,Aux,e1,e2,t1,t2],by rw [h]; exact Wk.Gu (.cons (Wk.H0 (.cons .int (.cons .int (.cons .No .nil)))) (.cons (Wk.H0 (.cons .int (.cons .int (.cons .No .nil)))) (.cons .int .nil)))⟩
  · have e1:Hv r c l=I7 (E1 r c l):=by unfold Hv; rw [if_pos h]
    have e2:Mo r c l=I7 (E1 r c l):=by unfold Mo; rw [if_pos h]
    rw [e1,e2]
    exact ⟨0,V2 (E1 r c l),[],by rw [qr.K4.ev,al,Aut,Ti h,Aut]; rfl,Ss⟩
theorem Aug {r c p:Int}:((A2 r c)||(r !=p))=decide (r<c∨r≠p):=by
  rw [At,Au9]; simp
theorem solve.Gs.known:solve.Gs.Kn:=solve.Gs.Ad (.cons Cc.Check.known (.cons qr.K4.known (.cons qr.E7.known (.cons solve.Flat.known (.cons solve.Gz.known .nil))))) fun r c l p q m hp=>by
  obtain ⟨al,am⟩:=Ae.1 (show (Ah l&&Ah m)=true from hp)
  show ∃ N dv drops,_=some dv∧Wk drops dv (Qq (I1 r c l p q m))
  have hrun:=solve.Gs.ev 0 r c l p q m
  rw [al,Aut] at hrun
  unfold I1
  by_cases c1:Bt r c l=0
  · rw [F2 c1,Aux,am,Aut] at hrun
    rw [if_neg (by rw [c1]; decide)]
    by_cases c2:Bt p q m=0
    · rw [F2 c2,Aux,Aug] at hrun
      rw [if_neg (by rw [c2]; decide)]
      by_cases c3:r<c∨r≠p
      · rw [Auu c3,Aut] at hrun
        rw [if_pos c3]
        exact ⟨0+4,_,[],hrun,Hs⟩
      · rw [Auy c3,Aux,Aut] at hrun
        rw [if_neg c3]
        by_cases c4:E1 r c l=0
        · obtain ⟨i1,i2⟩:=Anp al c4
          rw [F2 c4,Aux,i2,Aut] at hrun
          rw [if_neg (by rw [c4]; decide)]
          by_cases c5:(J5 (Mo r c l).1 (Mo r c l).2.1 (Mo r c l).2.2.1).1=true
          · rw [c5,Aut] at hrun
            rw [if_pos c5]
            exact ⟨0+4,_,[],hrun,Hs⟩
          · have c5':(J5 (Mo r c l).1 (Mo r c l).2.1 (Mo r c l).2.2.1).1=false:=by simpa using c5
            rw [c5',Aux,i1,Auz,Aut] at hrun
            rw [if_neg c5]
            unfold Am9
            by_cases c6:(Dl (Hv r c l).1 (Hv r c l).2.1 (Hv r c l).2.2.1 p q m).2.2.2=0
            · rw [F2 c6,Aux,Agv,Auz,Aut] at hrun
              rw [if_neg (by rw [c6]; decide)]
              exact ⟨0+4,_,[],hrun,Mc⟩
            · rw [Ti c6,Aut] at hrun
              rw [if_pos c6]
              exact ⟨0+4,_,[],hrun,Hs⟩
        · rw [Ti c4,Aut] at hrun
          rw [if_pos c4]
          exact ⟨0+4,_,[],hrun,Hs⟩
    · rw [Ti c2,Aut] at hrun
      rw [if_pos c2]
      exact ⟨0+4,_,[],hrun,Hs⟩
  · rw [Ti c1,Aut] at hrun
    rw [if_pos c1]
    exact ⟨0+4,_,[],hrun,Hs⟩
namespace EqRef17
def Bk.Finite.hint:Nat→Option A8
  | 0=>some { keep:=[0,3],objs:=[],boxes:=[] }
  | _=>none
def Bk.Finite.Bb:List (Nat × Entry):=[(131,A5.Finite.spec)]
def Bk.Finite.E:Env:=Bc (Ba Bk.Finite.Bb) (fun _=>false) Bk.Finite.hint (fun _=>none)
def Bk.Finite.L0 (N M:Nat) (x:List Int) (p3:Int):Option DV:=B3 Bk.Finite.E N Tryz.f92 (Am Tryz.f92) [1,0,1,0] [] M ⟨Gb 16 [(0,.ints .arg .u64 x),(3,.int .i64 p3)],[]⟩
theorem Bk.Finite.Au (N M:Nat) (x:List Int) (p3:Int):Bk.Finite.L0 N (M+1) x p3=bif (A2 p3 (List.length x:Int)) then bif ((decide (0≤p3))&&(decide (p3<(List.length x:Int)))) then bif (Ai (List.getD x (Int.toNat p3) 0)) then bif (!(Cy (List.getD x (Int.toNat p3) 0))) then some (.bool false) else Bk.Finite.L0 N M x (Ab (p3+1)) else none else none else some (.bool true):=by kernel_rfl
theorem Bk.Finite.ev (N:Nat) (x:List Int):Bw Bk.Finite.E N Tryz.f92 (Am Tryz.f92) [.ints .arg .u64 x] =
  Bk.Finite.L0 N N x 0:=by kernel_rfl
abbrev _root_.Go.Proofs.S1.Bk.Finite.Kn:=A6 Tryz.prog 92 Bk.Finite.spec
theorem Bk.Finite.Ad (hk:A0 Tryz.prog Bk.Finite.Bb) (h:∀ (x:List Int),Bk.Finite.pre [.l x]=true→Be Bk.Finite.E Tryz.f92 [.ints .arg .u64 x] (Bk.Finite.out [.l x])):Bk.Finite.Kn :=
  Ak (A1 hk _ _ _) Tryz.func92 (by kernel_rfl) (by kernel_rfl) h
def Dp.Check.Bb:List (Nat × Entry):=[(92,Bk.Finite.spec),(91,Bl.Gh.spec)]
def Dp.Check.E:Env:=Bc (Ba Dp.Check.Bb) (fun _=>false) (fun _=>none) (fun _=>none)
theorem Dp.Check.ev (N:Nat) (r c:Int) (l:List Int):Bw Dp.Check.E N Tryz.f25 (Am Tryz.f25) [.agg [.int .i64 r,.int .i64 c,.ints .arg .u64 l]]=bif (!(Av r c l)) then some (.int .i64 1) else bif (Cx l) then bif (!(Dz l)) then some (.int .i64 4) else some (.int .i64 0) else none:=by kernel_rfl
abbrev _root_.Go.Proofs.S1.Dp.Check.Kn:=A6 Tryz.prog 25 Dp.Check.spec
theorem Dp.Check.Ad (hk:A0 Tryz.prog Dp.Check.Bb) (h:∀ (r c:Int) (l:List Int),Dp.Check.pre [.i r,.i c,.l l]=true→Be Dp.Check.E Tryz.f25 [.agg [.int .i64 r,.int .i64 c,.ints .arg .u64 l]] (Dp.Check.out [.i r,.i c,.l l])):Dp.Check.Kn :=
  Ak (A1 hk _ _ _) Tryz.func25 (by kernel_rfl) (by kernel_rfl) h
end EqRef17
open EqRef17
theorem Un (N:Nat) {x:List Int} (hx:Cx x=true):∀ (k i F:Nat),i+k=x.length→k<F→Bk.Finite.L0 N F x (i:Int)=some (.bool ((x.drop i).all Cy)):=by
  obtain ⟨hl,hu⟩:=Kw hx
  intro k
  induction k with
  | zero =>
    intro i F hi hF
    obtain ⟨F,rfl⟩:∃ G,F=G+1:=⟨F-1,by omega⟩
    rw [Bk.Finite.Au,At,Auy (by omega),Aux,Au7 (by omega)]; rfl
  | succ k ih =>
    intro i F hi hF
    obtain ⟨F,rfl⟩:∃ G,F=G+1:=⟨F-1,by omega⟩
    rw [Bk.Finite.Au,At,Auu (show (i:Int)<(x.length:Int) by omega),Aut,Auu (show (0:Int)≤(i:Int) by omega),Auz,Aut,Auv,hu i (by omega),Aut,Ik (by omega),List.all_cons]
    cases Cy (x.getD i 0) with
    | false=>rfl
    | true =>
      rw [Bool.not_true,Aux,Al (by omega) (by omega),Bool.true_and]
      exact ih (i+1) F (by omega) (by omega)
theorem Bk.Finite.known:Bk.Finite.Kn:=Bk.Finite.Ad (.cons A5.Finite.known .nil) fun x hp=>by
  have hp:Cx x=true:=hp
  refine ⟨x.length+1,Bk.Finite.out [.l x],[],?_,.bool⟩
  show _=some (DV.bool (x.all Cy))
  rw [Bk.Finite.ev]
  exact Un _ hp x.length 0 (x.length+1) (by omega) (by omega)
theorem Dp.Check.known:Dp.Check.Kn:=Dp.Check.Ad (.cons Bk.Finite.known (.cons Bl.Gh.known .nil)) fun r c l hp=>by
  have hp:Ah l=true:=hp
  refine ⟨0,Dp.Check.out [.i r,.i c,.l l],[],?_,.int⟩
  show _=some (DV.int .i64 (Bt r c l))
  rw [Dp.Check.ev]
  unfold Bt
  by_cases h:Av r c l=true
  · have:=Ms h
    rw [h,Bool.not_true,Aux,Kd hp (by omega),Aut,if_pos rfl]
    cases Dz l<;>rfl
  · have h':Av r c l=false:=by simpa using h
    rw [h']; rfl
def Aho (x:MX):DV:=.tup [.agg [.int .i64 x.1,.int .i64 x.2.1,.ints .arg .u64 x.2.2.1],.int .i64 x.2.2.2]
theorem Afj {drops:List Nat} {x:MX}:Wk drops (Aho x) (Aho x) :=
  Wk.Gu (.cons (Wk.H0 (.cons .int (.cons .int (.cons .Ae9 .nil)))) (.cons .int .nil))
theorem Ac8 {drops:List Nat} {e:Int}:Wk drops (Ad6 e) (Aho (I7 e)) :=
  Wk.Gu (.cons (Wk.H0 (.cons .int (.cons .int (.cons (.nil _ _) .nil)))) (.cons .int .nil))
section
variable {n Q:Nat} {l m:List Int}
end
namespace EqRef14
end EqRef14
open EqRef13 EqRef14
open EqRef13 EqRef14
section
variable {R C i k:Nat} {l v:List Int} {t:Int}
end
namespace EqLow
def Cw.Cv.down.Bb:List (Nat × Entry):=[]
def Cw.Cv.down.E:Env:=Bc (Ba Cw.Cv.down.Bb) (fun _=>false) (fun _=>none) (fun _=>none)
theorem Cw.Cv.down.ev (N:Nat) (n k:Int):Bw Cw.Cv.down.E N Tryz.f77 (Am Tryz.f77) [.int .i64 n,.int .i64 k]=some (.int .i64 k):=by kernel_rfl
abbrev _root_.Go.Proofs.S1.Cw.Cv.down.Kn:=A6 Tryz.prog 77 Cw.Cv.down.spec
theorem Cw.Cv.down.Ad (hk:A0 Tryz.prog Cw.Cv.down.Bb) (h:∀ (n k:Int),Cw.Cv.down.pre [.i n,.i k]=true→Be Cw.Cv.down.E Tryz.f77 [.int .i64 n,.int .i64 k] (Cw.Cv.down.out [.i n,.i k])):Cw.Cv.down.Kn :=
  Ak (A1 hk _ _ _) Tryz.func77 (by kernel_rfl) (by kernel_rfl) h
def solve.Eb.Bb:List (Nat × Entry):=[]
def solve.Eb.E:Env:=Bc (Ba solve.Eb.Bb) (fun _=>false) (fun _=>none) (fun _=>none)
theorem solve.Eb.ev (N:Nat) (i k:Int):Bw solve.Eb.E N Tryz.f78 (Am Tryz.f78) [.int .i64 i,.int .i64 k]=some (.bool (A2 k i)):=by kernel_rfl
abbrev _root_.Go.Proofs.S1.solve.Eb.Kn:=A6 Tryz.prog 78 solve.Eb.spec
theorem solve.Eb.Ad (hk:A0 Tryz.prog solve.Eb.Bb) (h:∀ (i k:Int),solve.Eb.pre [.i i,.i k]=true→Be solve.Eb.E Tryz.f78 [.int .i64 i,.int .i64 k] (solve.Eb.out [.i i,.i k])):solve.Eb.Kn :=
  Ak (A1 hk _ _ _) Tryz.func78 (by kernel_rfl) (by kernel_rfl) h
def solve.As.Lo.hint:Nat→Option A8
  | 0=>some { keep:=[2,3,4,5,8,10,11,28,29],objs:=[(12,2,112002,.ints 37 .u64 [])],boxes:=[4,5,8,11] }
  | 2=>some { keep:=[2,3,4,5,8,10,11,13,28,29,32,33],objs:=[(12,2,112002,.ints 37 .u64 [])],boxes:=[4,5,8,11] }
  | 4=>some { keep:=[2,3,4,5,8,10,11,13,15,16,28,29,32,33,49,50],objs:=[(12,2,112002,.ints 37 .u64 [])],boxes:=[4,5,8,11] }
  | _=>none
def solve.As.Lo.Bb:List (Nat × Entry):=[(77,Cw.Cv.down.spec),(151,Aa.Bq.own.spec),(78,solve.Eb.spec),(158,Af.Div.spec),(150,Af.Finite.spec),(157,Af.Mul.spec),(156,Af.Sub.spec)]
def solve.As.Lo.E:Env:=Bc (Ba solve.As.Lo.Bb) (fun n=>Nat.beq n 24) solve.As.Lo.hint (fun _=>none)
def solve.As.Lo.L0 (N M:Nat) (r c:Int) (l:List Int) (p q:Int) (m:List Int) (n p29:Int) (p2_2:List Int):Option DV:=B3 solve.As.Lo.E N Tryz.f76 (Am Tryz.f76) [1,1,1,0,1,0] [] M ⟨Gb 108 [(2,.fn 77 [.int .i64 n] []),(3,.fn 78 [] []),(4,.ptr 4 0 0),(5,.ptr 5 0 0),(8,.ptr 8 0 0),(10,.int .i64 r),(11,.ptr 11 0 0),(28,.int .i64 q),(29,.int .i64 p29)],[(4,false,.box [.int .i64 r,.int .i64 c,.ints .arg .u64 l]),(5,false,.box [.int .i64 p,.int .i64 q,.ints .arg .u64 m]),(8,false,.box [.int .i64 0,.int .i64 0,.nil]),(11,false,.box [.int .i64 r,.int .i64 q,.oref 112002]),(112002,false,.ints 37 .u64 p2_2)]⟩
def solve.As.Lo.L1 (N M0 M:Nat) (r c:Int) (l:List Int) (p q:Int) (m:List Int) (n p33:Int) (p2:List Int) (p13 p29_1:Int):Option DV:=B3 solve.As.Lo.E N Tryz.f76 (Am Tryz.f76) [1,1,1,0,1,0,0,1,1,0,0,1,0,1,1,0] [M0] M ⟨Gb 108 [(2,.fn 77 [.int .i64 n] []),(3,.fn 78 [] []),(4,.ptr 4 0 0),(5,.ptr 5 0 0),(8,.ptr 8 0 0),(10,.int .i64 r),(11,.ptr 11 0 0),(13,.int .i64 p13),(28,.int .i64 q),(29,.int .i64 p29_1),(32,.int .i64 r),(33,.int .i64 p33)],[(4,false,.box [.int .i64 r,.int .i64 c,.ints .arg .u64 l]),(5,false,.box [.int .i64 p,.int .i64 q,.ints .arg .u64 m]),(8,false,.box [.int .i64 0,.int .i64 0,.nil]),(11,false,.box [.int .i64 r,.int .i64 q,.oref 112002]),(112002,false,.ints 37 .u64 p2)]⟩
def solve.As.Lo.L2 (N M0 M1 M:Nat) (r c:Int) (l:List Int) (p q:Int) (m:List Int) (n p16:Int) (p50 p13_1:Int) (p15 p29_2 p33_1:Int) (p2_1:List Int):Option DV:=B3 solve.As.Lo.E N Tryz.f76 (Am Tryz.f76) [1,1,1,0,1,0,0,1,1,0,0,1,0,1,1,0,0,1,1,0,0,1,1,1,0,1,0] [M0,M1] M ⟨Gb 108 [(2,.fn 77 [.int .i64 n] []),(3,.fn 78 [] []),(4,.ptr 4 0 0),(5,.ptr 5 0 0),(8,.ptr 8 0 0),(10,.int .i64 r),(11,.ptr 11 0 0),(13,.int .i64 p13_1),(15,.int .i64 p15),(16,.int .u64 p16),(28,.int .i64 q),(29,.int .i64 p29_2),(32,.int .i64 r),(33,.int .i64 p33_1),(49,.int .i64 r),(50,.int .i64 p50)],[(4,false,.box [.int .i64 r,.int .i64 c,.ints .arg .u64 l]),(5,false,.box [.int .i64 p,.int .i64 q,.ints .arg .u64 m]),(8,false,.box [.int .i64 0,.int .i64 0,.nil]),(11,false,.box [.int .i64 r,.int .i64 q,.oref 112002]),(112002,false,.ints 37 .u64 p2_1)]⟩
theorem solve.As.Lo.Au (N M:Nat) (r c:Int) (l:List Int) (p q:Int) (m:List Int) (n p29:Int) (p2_2:List Int):solve.As.Lo.L0 N (M+1) r c l p q m n p29 p2_2=bif (A2 p29 q) then solve.As.Lo.L1 N M N r c l p q m n 0 p2_2 p29 p29 else bif (Cx p2_2) then bif (!(Dz p2_2)) then some (.tup [.agg [.int .i64 0,.int .i64 0,.nil],.int .i64 2]) else some (.tup [.agg [.int .i64 r,.int .i64 q,.ints (.own 112002 37) .u64 p2_2],.int .i64 0]) else none:=by kernel_rfl
theorem solve.As.Lo.Cf (N M0 M:Nat) (r c:Int) (l:List Int) (p q:Int) (m:List Int) (n p33:Int) (p2:List Int) (p13 p29_1:Int):solve.As.Lo.L1 N M0 (M+1) r c l p q m n p33 p2 p13 p29_1=bif (A2 p33 r) then bif ((decide (0≤(Ab ((Ab (p33*q))+p13))))&&(decide ((Ab ((Ab (p33*q))+p13))<(List.length m:Int)))) then solve.As.Lo.L2 N M0 M N r c l p q m n (List.getD m (Int.toNat (Ab ((Ab (p33*q))+p13))) 0) 0 p13 p33 p29_1 p33 p2 else none else solve.As.Lo.L0 N M0 r c l p q m n (Ab (p29_1+1)) p2:=by kernel_rfl
theorem solve.As.Lo.Hm (N M0 M1 M:Nat) (r c:Int) (l:List Int) (p q:Int) (m:List Int) (n p16:Int) (p50 p13_1:Int) (p15 p29_2 p33_1:Int) (p2_1:List Int):solve.As.Lo.L2 N M0 M1 (M+1) r c l p q m n p16 p50 p13_1 p15 p29_2 p33_1 p2_1=bif (A2 p50 r) then bif (decide (p50<p15)) then bif ((decide (0≤(Ab ((Ab (p15*r))+p50))))&&(decide ((Ab ((Ab (p15*r))+p50))<(List.length l:Int)))) then bif ((decide (0≤(Ab ((Ab (p50*q))+p13_1))))&&(decide ((Ab ((Ab (p50*q))+p13_1))<(List.length p2_1:Int)))) then bif (decide ((Int.toNat (Ab ((Ab (p50*q))+p13_1)))<(List.length p2_1))) then bif (Ai (List.getD l (Int.toNat (Ab ((Ab (p15*r))+p50))) 0)&&Ai (List.getD p2_1 (Int.toNat (Ab ((Ab (p50*q))+p13_1))) 0)) then bif (Ai p16&&Ai (Ek (List.getD l (Int.toNat (Ab ((Ab (p15*r))+p50))) 0) (List.getD p2_1 (Int.toNat (Ab ((Ab (p50*q))+p13_1))) 0))) then solve.As.Lo.L2 N M0 M1 M r c l p q m n (Dr p16 (Ek (List.getD l (Int.toNat (Ab ((Ab (p15*r))+p50))) 0) (List.getD p2_1 (Int.toNat (Ab ((Ab (p50*q))+p13_1))) 0))) (Ab (p50+1)) p13_1 p15 p29_2 p33_1 p2_1 else none else none else none else none else none else solve.As.Lo.L2 N M0 M1 M r c l p q m n p16 (Ab (p50+1)) p13_1 p15 p29_2 p33_1 p2_1 else bif ((decide (0≤(Ab ((Ab (p15*r))+p15))))&&(decide ((Ab ((Ab (p15*r))+p15))<(List.length l:Int)))) then bif (Ai p16&&Ai (List.getD l (Int.toNat (Ab ((Ab (p15*r))+p15))) 0)) then bif ((decide (0≤(Ab ((Ab (p15*q))+p13_1))))&&(decide ((Ab ((Ab (p15*q))+p13_1))<(List.length p2_1:Int)))) then bif (decide ((Int.toNat (Ab ((Ab (p15*q))+p13_1)))<(List.length p2_1))) then solve.As.Lo.L1 N M0 M1 r c l p q m n (Ab (p33_1+1)) (List.set p2_1 (Int.toNat (Ab ((Ab (p15*q))+p13_1))) (Ev p16 (List.getD l (Int.toNat (Ab ((Ab (p15*r))+p15))) 0))) p13_1 p29_2 else none else none else none else none :=
  Eq.trans (by kernel_rfl)
  (Es (Es (Da (Mq (decide (0≤(Ab ((Ab (p15*r))+p50)))) (decide ((Ab ((Ab (p15*r))+p50))<(List.length l:Int)))) (Da (Mq (decide (0≤(Ab ((Ab (p50*q))+p13_1)))) (decide ((Ab ((Ab (p50*q))+p13_1))<(List.length p2_1:Int)))) (Da (De (decide ((Int.toNat (Ab ((Ab (p50*q))+p13_1)))<(List.length p2_1)))) (Da (De (Ai (List.getD l (Int.toNat (Ab ((Ab (p15*r))+p50))) 0)&&Ai (List.getD p2_1 (Int.toNat (Ab ((Ab (p50*q))+p13_1))) 0))) (Da (De (Ai p16&&Ai (Ek (List.getD l (Int.toNat (Ab ((Ab (p15*r))+p50))) 0) (List.getD p2_1 (Int.toNat (Ab ((Ab (p50*q))+p13_1))) 0)))) rfl rfl) rfl) rfl) rfl) rfl) rfl) (Da (Mq (decide (0≤(Ab ((Ab (p15*r))+p15)))) (decide ((Ab ((Ab (p15*r))+p15))<(List.length l:Int)))) (Da (De (Ai p16&&Ai (List.getD l (Int.toNat (Ab ((Ab (p15*r))+p15))) 0))) (Da (Mq (decide (0≤(Ab ((Ab (p15*q))+p13_1)))) (decide ((Ab ((Ab (p15*q))+p13_1))<(List.length p2_1:Int)))) (Da (De (decide ((Int.toNat (Ab ((Ab (p15*q))+p13_1)))<(List.length p2_1)))) rfl rfl) rfl) rfl) rfl))
theorem solve.As.Lo.ev (N:Nat) (r c:Int) (l:List Int) (p q:Int) (m:List Int) (n:Int):Bw solve.As.Lo.E N Tryz.f76 (Am Tryz.f76) [.agg [.int .i64 r,.int .i64 c,.ints .arg .u64 l],.agg [.int .i64 p,.int .i64 q,.ints .arg .u64 m],.fn 77 [.int .i64 n] [],.fn 78 [] []]=bif (Bg r&&Bg q) then solve.As.Lo.L0 N N r c l p q m n 0 (Bf (Int.toNat r) (Int.toNat q) (fun _ _=>0)) else none:=by kernel_rfl
abbrev _root_.Go.Proofs.S1.solve.As.Lo.Kn:=A6 Tryz.prog 76 solve.As.Lo.spec
theorem solve.As.Lo.Ad (hk:A0 Tryz.prog solve.As.Lo.Bb) (h:∀ (r c:Int) (l:List Int) (p q:Int) (m:List Int) (n:Int),solve.As.Lo.pre [.i r,.i c,.l l,.i p,.i q,.l m,.i n]=true→Be solve.As.Lo.E Tryz.f76 [.agg [.int .i64 r,.int .i64 c,.ints .arg .u64 l],.agg [.int .i64 p,.int .i64 q,.ints .arg .u64 m],.fn 77 [.int .i64 n] [],.fn 78 [] []] (solve.As.Lo.out [.i r,.i c,.l l,.i p,.i q,.l m,.i n])):solve.As.Lo.Kn :=
  Ak (A1 hk _ _ _) Tryz.func76 (by kernel_rfl) (by kernel_rfl) h
def solve.G3.Bb:List (Nat × Entry):=[(75,solve.check.spec),(76,solve.As.Lo.spec)]
def solve.G3.E:Env:=Bc (Ba solve.G3.Bb) (fun _=>false) (fun _=>none) (fun _=>none)
theorem solve.G3.ev (N:Nat) (r c:Int) (l:List Int) (p q:Int) (m:List Int):Bw solve.G3.E N Tryz.f22 (Am Tryz.f22) [.agg [.int .i64 r,.int .i64 c,.ints .arg .u64 l],.agg [.int .i64 p,.int .i64 q,.ints .arg .u64 m]]=bif (Ah l&&Ah m) then bif ((Nv r c l p q m) !=(0:Int)) then some (.tup [.agg [.int .i64 0,.int .i64 0,.nil],.int .i64 (Nv r c l p q m)]) else bif (Oi r c l p q m&&decide (r=r)) then some (.tup [.agg [.int .i64 ((Jo r q (Xa c l q m (Int.toNat r) (Int.toNat q))).1),.int .i64 ((Jo r q (Xa c l q m (Int.toNat r) (Int.toNat q))).2.1),.ints .fresh .u64 ((Jo r q (Xa c l q m (Int.toNat r) (Int.toNat q))).2.2.1)],.int .i64 ((Jo r q (Xa c l q m (Int.toNat r) (Int.toNat q))).2.2.2)]) else none else none:=by kernel_rfl
abbrev _root_.Go.Proofs.S1.solve.G3.Kn:=A6 Tryz.prog 22 solve.G3.spec
theorem solve.G3.Ad (hk:A0 Tryz.prog solve.G3.Bb) (h:∀ (r c:Int) (l:List Int) (p q:Int) (m:List Int),solve.G3.pre [.i r,.i c,.l l,.i p,.i q,.l m]=true→Be solve.G3.E Tryz.f22 [.agg [.int .i64 r,.int .i64 c,.ints .arg .u64 l],.agg [.int .i64 p,.int .i64 q,.ints .arg .u64 m]] (solve.G3.out [.i r,.i c,.l l,.i p,.i q,.l m])):solve.G3.Kn :=
  Ak (A1 hk _ _ _) Tryz.func22 (by kernel_rfl) (by kernel_rfl) h
end EqLow
open EqLow
theorem solve.Eb.known:solve.Eb.Kn:=solve.Eb.Ad .nil fun i k _=>by
  refine ⟨0,solve.Eb.out [.i i,.i k],[],?_,.bool⟩
  rw [solve.Eb.ev,At]; rfl
theorem Ad2.known:Cw.Cv.down.Kn:=Cw.Cv.down.Ad .nil fun n k _=>⟨0,Cw.Cv.down.out [.i n,.i k],[],by rw [Cw.Cv.down.ev]; rfl,.int⟩
section
variable {n Q:Nat} {l m:List Int}
def loF (n Q:Nat) (l m:List Int) (i j:Nat):Int:=(U5 (n:Int) l (fun i=>D4 (Q:Int) m (i:Int) (j:Int)) n).getD i 0
def loD (j k a b:Nat):Bool:=decide (b<j∨(b=j∧a<k))
def U4 (n Q:Nat) (l m:List Int) (j k:Nat):List Int:=Bf n Q fun a b=>if loD j k a b=true then loF n Q l m a b else 0
theorem Ak9 (i j:Nat):Ai (loF n Q l m i j)=true:=Sg (Aei _ _ _ _) i
theorem Arq (j k:Nat):Ah (U4 n Q l m j k)=true:=F4 fun a b=>by
  split
  · exact Ak9 _ _
  · exact Jr
theorem Aon {j k t:Nat} (ht:t<n) (hj:j<Q) (hk:t<k):D4 (Q:Int) (U4 n Q l m j k) (t:Int) (j:Int)=loF n Q l m t j:=by
  unfold U4
  have hd:loD j k t j=true:=Auu (.inr ⟨rfl,hk⟩)
  rw [Py ht hj,hd,if_pos rfl]
theorem Zq (j k:Nat):(U4 n Q l m j k).length=n*Q:=Bn _ _ _
theorem Aom {i j:Nat} (hj:j<Q) {x:Int} (hx:x=loF n Q l m i j):List.set (U4 n Q l m j i) (Int.toNat ((i:Int)*(Q:Int)+(j:Int))) x=U4 n Q l m j (i+1):=by
  refine Wu hj hx fun a b ha hb=>?_
  unfold loD
  rw [Au0,Au0]
  omega
theorem Ak6 (j:Nat):U4 n Q l m j n=U4 n Q l m (j+1) 0:=by
  unfold U4
  refine C2 fun a b ha hb=>?_
  have:loD j n a b=loD (j+1) 0 a b:=by
    unfold loD
    rw [decide_eq_decide]
    omega
  rw [this]
theorem Ak5:U4 n Q l m 0 0=Bf n Q fun _ _=>0:=by
  unfold U4
  refine C2 fun a b ha hb=>?_
  have:loD 0 0 a b=false:=Auy (by omega)
  rw [this]; rfl
theorem Aoo:U4 n Q l m Q 0=Xa (n:Int) l (Q:Int) m n Q:=by
  unfold U4 Xa
  refine C2 fun a b ha hb=>?_
  have:loD Q 0 a b=true:=Auu (.inl hb)
  rw [this]; rfl
def loR (n Q:Nat) (l m:List Int) (i j t:Nat) (s:Int):Int:=Lk (n:Int) l (i:Int) s (t:Int) (((U5 (n:Int) l (fun i=>D4 (Q:Int) m (i:Int) (j:Int)) n).take i).drop t)
theorem Aga {i j:Nat} (hi:i<n) (s:Int):loR n Q l m i j i s=s:=by
  unfold loR
  rw [Au7 (by rw [List.length_take,Ha]; omega),Lk]
theorem Ak7 {i j t:Nat} (hi:i<n) (ht:t<i) (s:Int):loR n Q l m i j t s=loR n Q l m i j (t+1) (Dr s (Ek (D4 (n:Int) l (i:Int) (t:Int)) (loF n Q l m t j))):=by
  unfold loR loF
  rw [X8 (by rw [List.length_take,Ha]; omega),Au3,List.getElem?_take_of_lt ht,← Au3]
  rfl
theorem Aop {i j:Nat} (hi:i<n):Ev (loR n Q l m i j 0 (D4 (Q:Int) m (i:Int) (j:Int))) (D4 (n:Int) l (i:Int) (i:Int))=loF n Q l m i j:=by
  unfold loR loF
  rw [List.drop_zero,Aoq hi]; rfl
theorem Ak3 (N:Nat) (n6:n≤6) (q6:Q≤6) (hl:l.length=n*n) (al:Ah l=true) {i j:Nat} (hi:i<n) (hj:j<Q) (M0 M1:Nat) (p29 p33:Int) :
    ∀ (cnt t F:Nat) (s:Int),t+cnt=n→cnt<F→Ai s=true→(i<t→t≤n) →
    solve.As.Lo.L2 N M0 M1 F (n:Int) (n:Int) l (n:Int) (Q:Int) m (n:Int) s (t:Int) (j:Int) (i:Int) p29 p33 (U4 n Q l m j i) =
    solve.As.Lo.L1 N M0 M1 (n:Int) (n:Int) l (n:Int) (Q:Int) m (n:Int) (Ab (p33+(1:Int))) (List.set (U4 n Q l m j i) (Int.toNat ((i:Int)*(Q:Int)+(j:Int))) (Ev (if t<i then loR n Q l m i j t s else s) (D4 (n:Int) l (i:Int) (i:Int)))) (j:Int) p29:=by
  intro cnt
  induction cnt with
  | zero =>
    intro t F s ht hF hs _
    obtain ⟨F,rfl⟩:∃ G,F=G+1:=⟨F-1,by omega⟩
    obtain ⟨e1,g1,g2⟩:=Gy (R:=(n:Int)) (Ft n6 n6 hl hi hi)
    obtain ⟨e2,g3,g4⟩:=Gy (R:=(n:Int)) (Ft n6 q6 (Zq (l:=l) (m:=m) j i) hi hj)
    rw [if_neg (by omega)]
    rw [solve.As.Lo.Hm,At,Auy (show ¬ (t:Int)<(n:Int) by omega),Aux,e1,Auu g1,Auu g2,Auz,Aut,hs,show Ai (List.getD l (Int.toNat ((i:Int)*(n:Int)+(i:Int))) 0)=true from Hd (c:=(n:Int)) al,Auz,Aut,
      e2,Auu g3,Auu g4,Auz,Aut,Auu (show Int.toNat ((i:Int)*(Q:Int)+(j:Int))<(U4 n Q l m j i).length by omega),Aut]
    rfl
  | succ cnt ih =>
    intro t F s ht hF hs _
    obtain ⟨F,rfl⟩:∃ G,F=G+1:=⟨F-1,by omega⟩
    by_cases hti:t<i
    · obtain ⟨e1,g1,g2⟩:=Gy (R:=(n:Int)) (Ft n6 n6 hl hi (show t<n by omega))
      obtain ⟨e2,g3,g4⟩:=Gy (R:=(n:Int)) (Ft n6 q6 (Zq (l:=l) (m:=m) j i) (show t<n by omega) hj)
      have hx:List.getD (U4 n Q l m j i) (Int.toNat ((t:Int)*(Q:Int)+(j:Int))) 0=loF n Q l m t j:=Aon (by omega) hj hti
      have:=ih (t+1) F (Dr s (Ek (D4 (n:Int) l (i:Int) (t:Int)) (loF n Q l m t j))) (by omega) (by omega) (Nd hs (Mg _ _)) (by omega)
      rw [if_pos hti,Ak7 hi hti]
      rw [solve.As.Lo.Hm,At,Auu (show (t:Int)<(n:Int) by omega),Aut,Auu (show (t:Int)<(i:Int) by omega),Aut,e1,Auu g1,Auu g2,Auz,Aut,
        e2,Auu g3,Auu g4,Auz,Aut,Auu (show Int.toNat ((t:Int)*(Q:Int)+(j:Int))<(U4 n Q l m j i).length by omega),Aut,hx,
        show Ai (List.getD l (Int.toNat ((i:Int)*(n:Int)+(t:Int))) 0)=true from Hd (c:=(n:Int)) al,Ak9,Auz,Aut,hs,Mg,Auz,Aut,Al (x:=(t:Int)+1) (by omega) (by omega)]
      have e:(if t+1<i then loR n Q l m i j (t+1) (Dr s (Ek (D4 (n:Int) l (i:Int) (t:Int)) (loF n Q l m t j))) else Dr s (Ek (D4 (n:Int) l (i:Int) (t:Int)) (loF n Q l m t j)))=loR n Q l m i j (t+1) (Dr s (Ek (D4 (n:Int) l (i:Int) (t:Int)) (loF n Q l m t j))):=by
        by_cases h2:t+1<i
        · rw [if_pos h2]
        · rw [if_neg h2,show t+1=i by omega,Aga hi]
      rw [e] at this
      exact this
    · have:=ih (t+1) F s (by omega) (by omega) hs (by omega)
      rw [if_neg hti,solve.As.Lo.Hm,At,Auu (show (t:Int)<(n:Int) by omega),Aut,Auy (show ¬ (t:Int)<(i:Int) by omega),Aux,Al (by omega) (by omega)]
      rw [if_neg (by omega)] at this
      exact this
theorem Aok (N:Nat) (n6:n≤6) (q6:Q≤6) (hN:7<N) (hl:l.length=n*n) (hm:m.length=n*Q) (al:Ah l=true) (am:Ah m=true) {j:Nat} (hj:j<Q) (M0:Nat):∀ (cnt k F:Nat),k+cnt=n→cnt<F →
    solve.As.Lo.L1 N M0 F (n:Int) (n:Int) l (n:Int) (Q:Int) m (n:Int) (k:Int) (U4 n Q l m j k) (j:Int) (j:Int) =
    solve.As.Lo.L0 N M0 (n:Int) (n:Int) l (n:Int) (Q:Int) m (n:Int) ((j+1:Nat):Int) (U4 n Q l m j n):=by
  intro cnt
  induction cnt with
  | zero =>
    intro k F hk hF
    obtain ⟨F,rfl⟩:∃ G,F=G+1:=⟨F-1,by omega⟩
    obtain rfl:k=n:=by omega
    rw [solve.As.Lo.Cf,At,Auy (by omega),Aux,Al (by omega) (by omega)]
    rfl
  | succ cnt ih =>
    intro k F hk hF
    obtain ⟨F,rfl⟩:∃ G,F=G+1:=⟨F-1,by omega⟩
    obtain ⟨e2,g3,g4⟩:=Gy (R:=(n:Int)) (Ft n6 q6 hm (show k<n by omega) hj)
    have hr:=Ak3 (n:=n) (Q:=Q) (l:=l) (m:=m) N n6 q6 hl al (show k<n by omega) hj M0 F (j:Int) (k:Int) n 0 N (D4 (Q:Int) m (k:Int) (j:Int)) (by omega) (by omega) (Hd (c:=(Q:Int)) am) (by omega)
    have e:(if 0<k then loR n Q l m k j 0 (D4 (Q:Int) m (k:Int) (j:Int)) else D4 (Q:Int) m (k:Int) (j:Int))=loR n Q l m k j 0 (D4 (Q:Int) m (k:Int) (j:Int)):=by
      by_cases h:0<k
      · rw [if_pos h]
      · obtain rfl:k=0:=by omega
        rw [if_neg h,Aga (by omega)]
    rw [e,Aom hj (Aop (by omega)),Al (by omega) (by omega)] at hr
    rw [solve.As.Lo.Cf,At,Auu (show (k:Int)<(n:Int) by omega),Aut,e2,Auu g3,Auu g4,Auz,Aut]
    exact hr.trans (ih (k+1) F (by omega) (by omega))
theorem Aol (N:Nat) (n6:n≤6) (q6:Q≤6) (hN:7<N) (hl:l.length=n*n) (hm:m.length=n*Q) (al:Ah l=true) (am:Ah m=true):∀ (cnt j F:Nat),j+cnt=Q→cnt<F →
    solve.As.Lo.L0 N F (n:Int) (n:Int) l (n:Int) (Q:Int) m (n:Int) (j:Int) (U4 n Q l m j 0) =
    bif Dz (U4 n Q l m Q 0) then some (.tup [.agg [.int .i64 (n:Int),.int .i64 (Q:Int),.ints (.own 112002 tB) .u64 (U4 n Q l m Q 0)],.int .i64 (0:Int)]) else some (Ad6 2):=by
  intro cnt
  induction cnt with
  | zero =>
    intro j F hj hF
    obtain ⟨F,rfl⟩:∃ G,F=G+1:=⟨F-1,by omega⟩
    obtain rfl:j=Q:=by omega
    have h36:=Nat.mul_le_mul n6 q6
    rw [solve.As.Lo.Au,At,Auy (by omega),Aux,Kd (Arq _ _) (by rw [Zq]; omega),Aut]
    cases Dz (U4 n j l m j 0)<;>rfl
  | succ cnt ih =>
    intro j F hj hF
    obtain ⟨F,rfl⟩:∃ G,F=G+1:=⟨F-1,by omega⟩
    have hr:=Aok N n6 q6 hN hl hm al am (show j<Q by omega) F n 0 N (by omega) (by omega)
    rw [Ak6] at hr
    rw [solve.As.Lo.Au,At,Auu (show (j:Int)<(Q:Int) by omega),Aut]
    exact hr.trans (ih (j+1) F (by omega) (by omega))
end
theorem solve.As.Lo.known:solve.As.Lo.Kn:=solve.As.Lo.Ad (.cons Ad2.known (.cons Aa.Bq.own.known (.cons solve.Eb.known (.cons Af.Div.known (.cons Af.Finite.known (.cons Af.Mul.known (.cons Af.Sub.known .nil))))))) fun r c l p q m n hp=>by
  show ∃ N dv drops,_=some dv∧Wk drops dv (Qq (Jo r q (Xa c l q m (Int.toNat r) (Int.toNat q))))
  obtain ⟨h1,hn⟩:=Ae.1 (show (Oi r c l p q m&&decide (n=r))=true from hp)
  obtain ⟨h2,h3⟩:=Ae.1 h1
  obtain ⟨hr,hm⟩:=Ae.1 h2
  obtain ⟨h4,h5⟩:=Ae.1 h3
  obtain ⟨al,am⟩:=Ae.1 h4
  obtain ⟨rfl,rfl⟩:=Aq.1 h5
  obtain rfl:=of_decide_eq_true hn
  have s1:=(Fg hr).1
  have s2:=(Fg hm).2
  obtain ⟨R,C,rfl,hC,r6,c6,hl⟩:=Dd hr
  obtain ⟨P,Q,hP,rfl,p6,q6,hl2⟩:=Dd hm
  obtain rfl:R=C:=by omega
  obtain rfl:R=P:=by omega
  have h:=Aol (n:=R) (Q:=Q) (l:=l) (m:=m) 8 r6 q6 (by omega) hl hl2 al am Q 0 8 (by omega) (by omega)
  rw [Ak5,Aoo,show ((0:Nat):Int)=0 from rfl] at h
  rw [Auv,Auv]
  unfold Jo
  cases hf:Dz (Xa (R:Int) l (Q:Int) m R Q) with
  | true =>
    rw [hf,Aut] at h
    rw [if_pos rfl]
    refine ⟨8,.tup [.agg [.int .i64 (R:Int),.int .i64 (Q:Int),.ints (.own 112002 tB) .u64 (Xa (R:Int) l (Q:Int) m R Q)],.int .i64 0],[112002],?_,Wk.Gu (.cons (Vh (List.mem_singleton.2 rfl)) (.cons .int .nil))⟩
    rw [solve.As.Lo.ev,s1,s2,Auz,Aut,Auv,Auv]
    exact h
  | false =>
    rw [hf,Aux] at h
    rw [if_neg (by decide)]
    refine ⟨8,Ad6 2,[],?_,Hs⟩
    rw [solve.As.Lo.ev,s1,s2,Auz,Aut,Auv,Auv]
    exact h
theorem solve.G3.known:solve.G3.Kn:=solve.G3.Ad (.cons solve.check.known (.cons solve.As.Lo.known .nil)) fun r c l p q m hp=>by
  have hp:(Ah l&&Ah m)=true:=hp
  show ∃ N dv drops,_=some dv∧Wk drops dv (Qq (U3 r c l p q m))
  unfold U3
  by_cases h:Nv r c l p q m=0
  · obtain ⟨h1,h2,h3,h4⟩:=P0 h
    have ht:Oi r c l p q m=true:=Ae.2 ⟨Ae.2 ⟨h1,h2⟩,Ae.2 ⟨hp,Aq.2 ⟨h3,h4⟩⟩⟩
    rw [if_neg (by rw [h]; decide)]
    exact ⟨0,_,[],by rw [solve.G3.ev,hp,Aut,F2 h,Aux,ht,Auu rfl]; rfl,Mc⟩
  · rw [if_pos h]
    exact ⟨0,_,[],by rw [solve.G3.ev,hp,Aut,Ti h,Aut]; rfl,Hs⟩
end Go.Proofs.S1
end
