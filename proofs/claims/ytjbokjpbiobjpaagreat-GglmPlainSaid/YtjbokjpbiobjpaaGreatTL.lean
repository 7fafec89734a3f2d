/- A verified evaluator of the program's form and its use for this seat: S1EqGg, S1PGg, S1PGgA, S1EqRef21, S1PRef21, S1PRef21A, S1PRef21B, S1EqRefM, S1PRefM, S1EqLaw17, S1PLaw17, S1EqLaw21, S1PLaw21, TileL, DiffL, MagL, ExaL, S1PExa, S1PExaA, S1PExaG, S1EqTame, S1PTame. -/
import Derived.Test.YtjbokjpbiobjpaaGreatTE
import Derived.Test.YtjbokjpbiobjpaaGreatTF
import Derived.Test.YtjbokjpbiobjpaaGreatTK
import Derived.Test.YtjbokjpbiobjpaaGreatTG
import Derived.Test.YtjbokjpbiobjpaaGreatTJ
import Derived.Test.YtjbokjpbiobjpaaGreatTI
set_option linter.unusedVariables false
set_option linter.unusedSimpArgs false
noncomputable section
namespace Go.Proofs.S1
open Go Go.Den Go.Rnd Go.Proofs
set_option maxRecDepth 100000
namespace EqGg
def rq.both.Bb:List (Nat × Entry):=[(167,Aa.Df.spec)]
def rq.both.E:Env:=Be (Ba rq.both.Bb) (fun _=>false) (fun _=>none) (fun _=>none)
theorem rq.both.ev (N:Nat) (r c:Int) (l:List Int) (p q:Int) (m:List Int):B0 rq.both.E N Tryz.f231 (Al Tryz.f231) [.agg [.int .i64 r,.int .i64 c,.ints .arg .u64 l],.agg [.int .i64 p,.int .i64 q,.ints .arg .u64 m]]=some (.tup [.agg [.int .i64 ((Bc p q m).1),.int .i64 ((Bc p q m).2.1),.ints .fresh .u64 ((Bc p q m).2.2.1)],.agg [.int .i64 ((Bc r c l).1),.int .i64 ((Bc r c l).2.1),.ints .fresh .u64 ((Bc r c l).2.2.1)]]):=by kernel_rfl
abbrev _root_.Go.Proofs.S1.rq.both.Kn:=A8 Tryz.prog 231 rq.both.spec
theorem rq.both.Ad (hk:Az Tryz.prog rq.both.Bb) (h:∀ (r c:Int) (l:List Int) (p q:Int) (m:List Int),rq.both.pre [.i r,.i c,.l l,.i p,.i q,.l m]=true→Bf rq.both.E Tryz.f231 [.agg [.int .i64 r,.int .i64 c,.ints .arg .u64 l],.agg [.int .i64 p,.int .i64 q,.ints .arg .u64 m]] (rq.both.out [.i r,.i c,.l l,.i p,.i q,.l m])):rq.both.Kn :=
  Ak (A0 hk _ _ _) Tryz.func231 (by kernel_rfl) (by kernel_rfl) h
def rq.Lq.Bb:List (Nat × Entry):=[(167,Aa.Df.spec),(166,qr.Dc.spec),(231,rq.both.spec)]
def rq.Lq.E:Env:=Be (Ba rq.Lq.Bb) (fun _=>false) (fun _=>none) (fun _=>none)
theorem rq.Lq.ev (N:Nat) (r c:Int) (l:List Int):B0 rq.Lq.E N Tryz.f200 (Al Tryz.f200) [.agg [.int .i64 r,.int .i64 c,.ints .arg .u64 l]]=bif (((Bc r c l).2.2.2) !=(0:Int)) then some (.tup [.agg [.int .i64 0,.int .i64 0,.nil],.agg [.int .i64 0,.int .i64 0,.nil],.int .i64 ((Bc r c l).2.2.2)]) else bif (Ah ((Bc r c l).2.2.1)) then bif ((Gh ((Bc r c l).1) ((Bc r c l).2.1) ((Bc r c l).2.2.1)) !=(0:Int)) then some (.tup [.agg [.int .i64 0,.int .i64 0,.nil],.agg [.int .i64 0,.int .i64 0,.nil],.int .i64 (Gh ((Bc r c l).1) ((Bc r c l).2.1) ((Bc r c l).2.2.1))]) else some (.tup [.agg [.int .i64 ((Bc ((rX ((Bc r c l).1) ((Bc r c l).2.1) ((Bc r c l).2.2.1)).1) ((rX ((Bc r c l).1) ((Bc r c l).2.1) ((Bc r c l).2.2.1)).2.1) ((rX ((Bc r c l).1) ((Bc r c l).2.1) ((Bc r c l).2.2.1)).2.2.1)).1),.int .i64 ((Bc ((rX ((Bc r c l).1) ((Bc r c l).2.1) ((Bc r c l).2.2.1)).1) ((rX ((Bc r c l).1) ((Bc r c l).2.1) ((Bc r c l).2.2.1)).2.1) ((rX ((Bc r c l).1) ((Bc r c l).2.1) ((Bc r c l).2.2.1)).2.2.1)).2.1),.ints .fresh .u64 ((Bc ((rX ((Bc r c l).1) ((Bc r c l).2.1) ((Bc r c l).2.2.1)).1) ((rX ((Bc r c l).1) ((Bc r c l).2.1) ((Bc r c l).2.2.1)).2.1) ((rX ((Bc r c l).1) ((Bc r c l).2.1) ((Bc r c l).2.2.1)).2.2.1)).2.2.1)],.agg [.int .i64 ((Bc ((qX ((Bc r c l).1) ((Bc r c l).2.1) ((Bc r c l).2.2.1)).1) ((qX ((Bc r c l).1) ((Bc r c l).2.1) ((Bc r c l).2.2.1)).2.1) ((qX ((Bc r c l).1) ((Bc r c l).2.1) ((Bc r c l).2.2.1)).2.2.1)).1),.int .i64 ((Bc ((qX ((Bc r c l).1) ((Bc r c l).2.1) ((Bc r c l).2.2.1)).1) ((qX ((Bc r c l).1) ((Bc r c l).2.1) ((Bc r c l).2.2.1)).2.1) ((qX ((Bc r c l).1) ((Bc r c l).2.1) ((Bc r c l).2.2.1)).2.2.1)).2.1),.ints .fresh .u64 ((Bc ((qX ((Bc r c l).1) ((Bc r c l).2.1) ((Bc r c l).2.2.1)).1) ((qX ((Bc r c l).1) ((Bc r c l).2.1) ((Bc r c l).2.2.1)).2.1) ((qX ((Bc r c l).1) ((Bc r c l).2.1) ((Bc r c l).2.2.1)).2.2.1)).2.2.1)],.int .i64 0]) else none:=by kernel_rfl
abbrev _root_.Go.Proofs.S1.rq.Lq.Kn:=A8 Tryz.prog 200 rq.Lq.spec
theorem rq.Lq.Ad (hk:Az Tryz.prog rq.Lq.Bb) (h:∀ (r c:Int) (l:List Int),rq.Lq.pre [.i r,.i c,.l l]=true→Bf rq.Lq.E Tryz.f200 [.agg [.int .i64 r,.int .i64 c,.ints .arg .u64 l]] (rq.Lq.out [.i r,.i c,.l l])):rq.Lq.Kn :=
  Ak (A0 hk _ _ _) Tryz.func200 (by kernel_rfl) (by kernel_rfl) h
def A6.Check.hint:Nat→Option A9
  | 0=>some { keep:=[1,14,15],objs:=[],boxes:=[1] }
  | _=>none
def A6.Check.Bb:List (Nat × Entry):=[(86,Cb.Check.spec)]
def A6.Check.E:Env:=Be (Ba A6.Check.Bb) (fun _=>false) A6.Check.hint (fun _=>none)
theorem A6.Check.ev (N:Nat) (r c:Int) (l:List Int) (p q:Int) (m:List Int) (u v:Int) (h:List Int):B0 A6.Check.E (N+5) Tryz.f56 (Al Tryz.f56) [.agg [.int .i64 r,.int .i64 c,.ints .arg .u64 l,.int .i64 p,.int .i64 q,.ints .arg .u64 m,.int .i64 u,.int .i64 v,.ints .arg .u64 h]]=bif (Ah l) then bif ((B6 r c l) !=(0:Int)) then some (.int .i64 (B6 r c l)) else bif (Ah m) then bif ((B6 p q m) !=(0:Int)) then some (.int .i64 (B6 p q m)) else bif (Ah h) then bif ((B6 u v h) !=(0:Int)) then some (.int .i64 (B6 u v h)) else bif (((((p !=r)||(u !=r))||(v !=(1:Int)))||(A4 r c))||(A4 (Ab (c+q)) r)) then some (.int .i64 3) else some (.int .i64 0) else none else none else none :=
  Eq.trans (by kernel_rfl)
  (Ev (Ev rfl (Ev (Ev rfl (Ev (Ev rfl (Ar (U4 (p !=r)) (Ar (Tk (p !=r)) (Ar (Tk (p !=r)) (Ar (U4 (p !=r)) (Ar (tt8 (p !=r)) (Ar (tt6 (p !=r)) (Ar (Ac8 (p !=r) (u !=r)) (Ar (Aau (p !=r) (u !=r)) (Ar (Aau (p !=r) (u !=r)) (Ar (Aau (p !=r) (u !=r)) (Ar (Amw (p !=r) (u !=r)) (Ar (Aiw (p !=r) (u !=r) (v !=(1:Int))) (Ar (Aiw (p !=r) (u !=r) (v !=(1:Int))) (Ar (Ats (p !=r) (u !=r) (v !=(1:Int))) (Ar (Amx (p !=r) (u !=r) (v !=(1:Int))) (Ar (Ac9 (p !=r) (u !=r) (v !=(1:Int)) (A4 r c)) (Ar (Ac9 (p !=r) (u !=r) (v !=(1:Int)) (A4 r c)) (Ar (Ac9 (p !=r) (u !=r) (v !=(1:Int)) (A4 r c)) (Ar (Amy (p !=r) (u !=r) (v !=(1:Int)) (A4 r c)) (Ar (Amy (p !=r) (u !=r) (v !=(1:Int)) (A4 r c)) (Ar (Amz (p !=r) (u !=r) (v !=(1:Int)) (A4 r c)) (Ar (Amz (p !=r) (u !=r) (v !=(1:Int)) (A4 r c)) (Ar (Aqb (p !=r) (u !=r) (v !=(1:Int)) (A4 r c)) (C3 (Asx (p !=r) (u !=r) (v !=(1:Int)) (A4 r c) (A4 (Ab (c+q)) r)) rfl rfl))))))))))))))))))))))))) rfl)) rfl)) rfl)
abbrev _root_.Go.Proofs.S1.A6.Check.Kn:=A8 Tryz.prog 56 A6.Check.spec
theorem A6.Check.Ad (hk:Az Tryz.prog A6.Check.Bb) (h:∀ (r c:Int) (l:List Int) (p q:Int) (m:List Int) (u v:Int) (h:List Int),A6.Check.pre [.i r,.i c,.l l,.i p,.i q,.l m,.i u,.i v,.l h]=true→Bf A6.Check.E Tryz.f56 [.agg [.int .i64 r,.int .i64 c,.ints .arg .u64 l,.int .i64 p,.int .i64 q,.ints .arg .u64 m,.int .i64 u,.int .i64 v,.ints .arg .u64 h]] (A6.Check.out [.i r,.i c,.l l,.i p,.i q,.l m,.i u,.i v,.l h])):A6.Check.Kn :=
  Ak (A0 hk _ _ _) Tryz.func56 (by kernel_rfl) (by kernel_rfl) h
def A6.Ef.Bb:List (Nat × Entry):=[(124,Aa.Part.spec)]
def A6.Ef.E:Env:=Be (Ba A6.Ef.Bb) (fun _=>false) (fun _=>none) (fun _=>none)
theorem A6.Ef.ev (N:Nat) (r c:Int) (l:List Int) (x y:Int):B0 A6.Ef.E N Tryz.f199 (Al Tryz.f199) [.agg [.int .i64 r,.int .i64 c,.ints .arg .u64 l],.int .i64 x,.int .i64 y]=some (.agg [.int .i64 ((Dz r c l x 0 (Ab (y-x)) c).1),.int .i64 ((Dz r c l x 0 (Ab (y-x)) c).2.1),.ints .fresh .u64 ((Dz r c l x 0 (Ab (y-x)) c).2.2.1)]):=by kernel_rfl
abbrev _root_.Go.Proofs.S1.A6.Ef.Kn:=A8 Tryz.prog 199 A6.Ef.spec
theorem A6.Ef.Ad (hk:Az Tryz.prog A6.Ef.Bb) (h:∀ (r c:Int) (l:List Int) (x y:Int),A6.Ef.pre [.i r,.i c,.l l,.i x,.i y]=true→Bf A6.Ef.E Tryz.f199 [.agg [.int .i64 r,.int .i64 c,.ints .arg .u64 l],.int .i64 x,.int .i64 y] (A6.Ef.out [.i r,.i c,.l l,.i x,.i y])):A6.Ef.Kn :=
  Ak (A0 hk _ _ _) Tryz.func199 (by kernel_rfl) (by kernel_rfl) h
def A6.apart.Bb:List (Nat × Entry):=[(86,Cb.Check.spec),(199,A6.Ef.spec),(166,qr.Dc.spec),(98,qr.Es.spec),(24,solve.Flat.spec)]
def A6.apart.live:Nat→Option (List Nat)
  | 2=>some [1,2,4,5,6]
  | 7=>some [1,2,4,7,8,9,10]
  | 11=>some [1,2,4,7,8,9,10,13]
  | 12=>some [2,7,8,9,10,13,15]
  | 14=>some [2,7,8,9,10,13,15]
  | _=>none
def A6.apart.E:Env:=Be (Ba A6.apart.Bb) (fun _=>false) (fun _=>none) A6.apart.live
def A6.apart.C2 (N:Nat) (r c:Int) (l:List Int) (p q:Int) (m:List Int) (u v:Int) (h:List Int) (p6 p5 p5_1:Int) (p5_2:List Int) (p4 p4_1:Int) (p4_2:List Int):Option DV:=cutAt A6.apart.E N Tryz.f135 (Al Tryz.f135) [1,1,0] [] ⟨Fy 88 [(1,.ptr 1 0 0),(2,.ptr 2 0 0),(4,.ptr 4 0 0),(5,.ptr 5 0 0),(6,.int .i64 p6)],[(5,false,.box [.int .i64 p5,.int .i64 p5_1,.ints .arg .u64 p5_2]),(4,false,.box [.int .i64 p4,.int .i64 p4_1,.ints .arg .u64 p4_2]),(2,false,.box [.int .i64 0,.int .i64 0,.nil,.int .i64 0,.int .i64 0,.nil,.int .i64 0,.int .i64 0,.nil,.int .i64 0,.int .i64 0,.nil,.int .i64 0,.int .i64 0,.nil]),(1,false,.box [.int .i64 r,.int .i64 c,.ints .arg .u64 l,.int .i64 p,.int .i64 q,.ints .arg .u64 m,.int .i64 u,.int .i64 v,.ints .arg .u64 h])]⟩
def A6.apart.C7 (N:Nat) (r c:Int) (l:List Int) (p q:Int) (m:List Int) (u v:Int) (h:List Int) (p5 p5_1:Int) (p5_2:List Int) (p4 p4_1:Int) (p4_2:List Int) (p10 p10_1:Int) (p10_2:List Int):Option DV:=cutAt A6.apart.E N Tryz.f135 (Al Tryz.f135) [1,1,1,1,1,1,0] [] ⟨Fy 88 [(1,.ptr 1 0 0),(2,.ptr 2 0 0),(4,.ptr 4 0 0),(7,.int .i64 r),(8,.int .i64 c),(9,.fn 199 [] []),(10,.ptr 10 0 0)],[(10,false,.box [.int .i64 p10,.int .i64 p10_1,.ints .fresh .u64 p10_2]),(5,false,.box [.int .i64 p5,.int .i64 p5_1,.ints .arg .u64 p5_2]),(4,false,.box [.int .i64 p4,.int .i64 p4_1,.ints .arg .u64 p4_2]),(2,false,.box [.int .i64 0,.int .i64 0,.nil,.int .i64 0,.int .i64 0,.nil,.int .i64 0,.int .i64 0,.nil,.int .i64 0,.int .i64 0,.nil,.int .i64 0,.int .i64 0,.nil]),(1,false,.box [.int .i64 r,.int .i64 c,.ints .arg .u64 l,.int .i64 p,.int .i64 q,.ints .arg .u64 m,.int .i64 u,.int .i64 v,.ints .arg .u64 h])]⟩
def A6.apart.C11 (N:Nat) (r c:Int) (l:List Int) (p q:Int) (m:List Int) (u v:Int) (h:List Int) (p5 p5_1:Int) (p5_2:List Int) (p4 p4_1:Int) (p4_2:List Int) (p10 p10_1:Int) (p10_2:List Int) (p13 p13_1:Int) (p13_2:List Int):Option DV:=cutAt A6.apart.E N Tryz.f135 (Al Tryz.f135) [1,1,1,1,1,1,1,1] [] ⟨Fy 88 [(1,.ptr 1 0 0),(2,.ptr 2 0 0),(4,.ptr 4 0 0),(7,.int .i64 r),(8,.int .i64 c),(9,.fn 199 [] []),(10,.ptr 10 0 0),(13,.ptr 13 0 0)],[(13,false,.box [.int .i64 p13,.int .i64 p13_1,.ints .fresh .u64 p13_2]),(10,false,.box [.int .i64 p10,.int .i64 p10_1,.ints .fresh .u64 p10_2]),(5,false,.box [.int .i64 p5,.int .i64 p5_1,.ints .arg .u64 p5_2]),(4,false,.box [.int .i64 p4,.int .i64 p4_1,.ints .arg .u64 p4_2]),(2,false,.box [.int .i64 0,.int .i64 0,.nil,.int .i64 0,.int .i64 0,.nil,.int .i64 0,.int .i64 0,.nil,.int .i64 0,.int .i64 0,.nil,.int .i64 0,.int .i64 0,.nil]),(1,false,.box [.int .i64 r,.int .i64 c,.ints .arg .u64 l,.int .i64 p,.int .i64 q,.ints .arg .u64 m,.int .i64 u,.int .i64 v,.ints .arg .u64 h])]⟩
def A6.apart.C12 (N:Nat) (r c:Int) (l:List Int) (p q:Int) (m:List Int) (u v:Int) (h:List Int) (p5 p5_1:Int) (p5_2:List Int) (p4 p4_1:Int) (p4_2:List Int) (p10 p10_1:Int) (p10_2:List Int) (p13 p13_1:Int) (p13_2:List Int) (p15 p15_1:Int) (p15_2:List Int):Option DV:=cutAt A6.apart.E N Tryz.f135 (Al Tryz.f135) [1,1,1,1,1,1,1,1,1,0] [] ⟨Fy 88 [(2,.ptr 2 0 0),(7,.int .i64 r),(8,.int .i64 c),(9,.fn 199 [] []),(10,.ptr 10 0 0),(13,.ptr 13 0 0),(15,.ptr 15 0 0)],[(15,false,.box [.int .i64 p15,.int .i64 p15_1,.ints .fresh .u64 p15_2]),(13,false,.box [.int .i64 p13,.int .i64 p13_1,.ints .fresh .u64 p13_2]),(10,false,.box [.int .i64 p10,.int .i64 p10_1,.ints .fresh .u64 p10_2]),(5,false,.box [.int .i64 p5,.int .i64 p5_1,.ints .arg .u64 p5_2]),(4,false,.box [.int .i64 p4,.int .i64 p4_1,.ints .arg .u64 p4_2]),(2,false,.box [.int .i64 0,.int .i64 0,.nil,.int .i64 0,.int .i64 0,.nil,.int .i64 0,.int .i64 0,.nil,.int .i64 0,.int .i64 0,.nil,.int .i64 0,.int .i64 0,.nil]),(1,false,.box [.int .i64 r,.int .i64 c,.ints .arg .u64 l,.int .i64 p,.int .i64 q,.ints .arg .u64 m,.int .i64 u,.int .i64 v,.ints .arg .u64 h])]⟩
def A6.apart.C14 (N:Nat) (r c:Int) (l:List Int) (p q:Int) (m:List Int) (u v:Int) (h:List Int) (p5 p5_1:Int) (p5_2:List Int) (p4 p4_1:Int) (p4_2:List Int) (p10 p10_1:Int) (p10_2:List Int) (p13 p13_1:Int) (p13_2:List Int) (p15 p15_1:Int) (p15_2:List Int):Option DV:=cutAt A6.apart.E N Tryz.f135 (Al Tryz.f135) [1,1,1,1,1,1,1,1,1,1] [] ⟨Fy 88 [(2,.ptr 2 0 0),(7,.int .i64 r),(8,.int .i64 c),(9,.fn 199 [] []),(10,.ptr 10 0 0),(13,.ptr 13 0 0),(15,.ptr 15 0 0)],[(15,false,.box [.int .i64 p15,.int .i64 p15_1,.ints .fresh .u64 p15_2]),(13,false,.box [.int .i64 p13,.int .i64 p13_1,.ints .fresh .u64 p13_2]),(10,false,.box [.int .i64 p10,.int .i64 p10_1,.ints .fresh .u64 p10_2]),(5,false,.box [.int .i64 p5,.int .i64 p5_1,.ints .arg .u64 p5_2]),(4,false,.box [.int .i64 p4,.int .i64 p4_1,.ints .arg .u64 p4_2]),(2,false,.box [.int .i64 0,.int .i64 0,.nil,.int .i64 0,.int .i64 0,.nil,.int .i64 0,.int .i64 0,.nil,.int .i64 0,.int .i64 0,.nil,.int .i64 0,.int .i64 0,.nil]),(1,false,.box [.int .i64 r,.int .i64 c,.ints .arg .u64 l,.int .i64 p,.int .i64 q,.ints .arg .u64 m,.int .i64 u,.int .i64 v,.ints .arg .u64 h])]⟩
theorem A6.apart.Ami (N:Nat) (r c:Int) (l:List Int) (p q:Int) (m:List Int) (u v:Int) (h:List Int) (p6 p5 p5_1:Int) (p5_2:List Int) (p4 p4_1:Int) (p4_2:List Int):A6.apart.C2 N r c l p q m u v h p6 p5 p5_1 p5_2 p4 p4_1 p4_2=bif (p6 !=(0:Int)) then some (.tup [.agg [.int .i64 0,.int .i64 0,.nil,.int .i64 0,.int .i64 0,.nil,.int .i64 0,.int .i64 0,.nil,.int .i64 0,.int .i64 0,.nil,.int .i64 0,.int .i64 0,.nil],.int .i64 p6]) else bif (Cr (-100≤(0:Int)∧(0:Int)≤100∧-100≤c∧c≤100)) then A6.apart.C7 N r c l p q m u v h p5 p5_1 p5_2 p4 p4_1 p4_2 ((Dz p5 p5_1 p5_2 0 0 (c-0) p5_1).1) ((Dz p5 p5_1 p5_2 0 0 (c-0) p5_1).2.1) ((Dz p5 p5_1 p5_2 0 0 (c-0) p5_1).2.2.1) else none:=(D1 _ _ _ _ _ _ _).trans (by kernel_rfl)
theorem A6.apart.Amh (N:Nat) (r c:Int) (l:List Int) (p q:Int) (m:List Int) (u v:Int) (h:List Int) (p5 p5_1:Int) (p5_2:List Int) (p4 p4_1:Int) (p4_2:List Int) (p10 p10_1:Int) (p10_2:List Int):A6.apart.C7 N r c l p q m u v h p5 p5_1 p5_2 p4 p4_1 p4_2 p10 p10_1 p10_2=bif (Ah p10_2) then bif ((Nv p10 p10_1 p10_2).1) then some (.tup [.agg [.int .i64 0,.int .i64 0,.nil,.int .i64 0,.int .i64 0,.nil,.int .i64 0,.int .i64 0,.nil,.int .i64 0,.int .i64 0,.nil,.int .i64 0,.int .i64 0,.nil],.int .i64 5]) else bif (Ah p4_2&&Ah h) then A6.apart.C11 N r c l p q m u v h p5 p5_1 p5_2 p4 p4_1 p4_2 p10 p10_1 p10_2 ((El p4 p4_1 p4_2 u v h).1) ((El p4 p4_1 p4_2 u v h).2.1) ((El p4 p4_1 p4_2 u v h).2.2.1) else none else none:=(D1 _ _ _ _ _ _ _).trans (by kernel_rfl)
theorem A6.apart.Ae3 (N:Nat) (r c:Int) (l:List Int) (p q:Int) (m:List Int) (u v:Int) (h:List Int) (p5 p5_1:Int) (p5_2:List Int) (p4 p4_1:Int) (p4_2:List Int) (p10 p10_1:Int) (p10_2:List Int) (p13 p13_1:Int) (p13_2:List Int):A6.apart.C11 N r c l p q m u v h p5 p5_1 p5_2 p4 p4_1 p4_2 p10 p10_1 p10_2 p13 p13_1 p13_2=bif (Ah p4_2&&Ah m) then A6.apart.C12 N r c l p q m u v h p5 p5_1 p5_2 p4 p4_1 p4_2 p10 p10_1 p10_2 p13 p13_1 p13_2 ((El p4 p4_1 p4_2 p q m).1) ((El p4 p4_1 p4_2 p q m).2.1) ((El p4 p4_1 p4_2 p q m).2.2.1) else none:=(D1 _ _ _ _ _ _ _).trans (by kernel_rfl)
theorem A6.apart.Wx (N:Nat) (r c:Int) (l:List Int) (p q:Int) (m:List Int) (u v:Int) (h:List Int) (p5 p5_1:Int) (p5_2:List Int) (p4 p4_1:Int) (p4_2:List Int) (p10 p10_1:Int) (p10_2:List Int) (p13 p13_1:Int) (p13_2:List Int) (p15 p15_1:Int) (p15_2:List Int):A6.apart.C12 N r c l p q m u v h p5 p5_1 p5_2 p4 p4_1 p4_2 p10 p10_1 p10_2 p13 p13_1 p13_2 p15 p15_1 p15_2=bif (Ah p13_2) then bif (((B6 p13 p13_1 p13_2) !=(0:Int))||(Ah p15_2)) then bif (((B6 p13 p13_1 p13_2) !=(0:Int))||((B6 p15 p15_1 p15_2) !=(0:Int))) then some (.tup [.agg [.int .i64 0,.int .i64 0,.nil,.int .i64 0,.int .i64 0,.nil,.int .i64 0,.int .i64 0,.nil,.int .i64 0,.int .i64 0,.nil,.int .i64 0,.int .i64 0,.nil],.int .i64 2]) else A6.apart.C14 N r c l p q m u v h p5 p5_1 p5_2 p4 p4_1 p4_2 p10 p10_1 p10_2 p13 p13_1 p13_2 p15 p15_1 p15_2 else none else none :=
  Eq.trans ((D1 _ _ _ _ _ _ _).trans (by kernel_rfl))
  (Ev (Ar (U4 ((B6 p13 p13_1 p13_2) !=(0:Int))) (C3 (Ap6 ((B6 p13 p13_1 p13_2) !=(0:Int)) (Ah p15_2)) (Ar (Tk ((B6 p13 p13_1 p13_2) !=(0:Int))) (Ar (tt6 ((B6 p13 p13_1 p13_2) !=(0:Int))) (C3 (tt5 ((B6 p13 p13_1 p13_2) !=(0:Int)) ((B6 p15 p15_1 p15_2) !=(0:Int))) rfl rfl))) rfl)) rfl)
theorem A6.apart.Ww (N:Nat) (r c:Int) (l:List Int) (p q:Int) (m:List Int) (u v:Int) (h:List Int) (p5 p5_1:Int) (p5_2:List Int) (p4 p4_1:Int) (p4_2:List Int) (p10 p10_1:Int) (p10_2:List Int) (p13 p13_1:Int) (p13_2:List Int) (p15 p15_1:Int) (p15_2:List Int):A6.apart.C14 N r c l p q m u v h p5 p5_1 p5_2 p4 p4_1 p4_2 p10 p10_1 p10_2 p13 p13_1 p13_2 p15 p15_1 p15_2=bif (Cr (-100≤(0:Int)∧(0:Int)≤100∧-100≤c∧c≤100)) then bif (Cr (-100≤c∧c≤100∧-100≤r∧r≤100)) then bif (Cr (-100≤(0:Int)∧(0:Int)≤100∧-100≤c∧c≤100)) then bif (Cr (-100≤c∧c≤100∧-100≤r∧r≤100)) then some (.tup [.agg [.int .i64 p10,.int .i64 p10_1,.ints .fresh .u64 p10_2,.int .i64 ((Dz p13 p13_1 p13_2 0 0 (c-0) p13_1).1),.int .i64 ((Dz p13 p13_1 p13_2 0 0 (c-0) p13_1).2.1),.ints .fresh .u64 ((Dz p13 p13_1 p13_2 0 0 (c-0) p13_1).2.2.1),.int .i64 ((Dz p13 p13_1 p13_2 c 0 (r-c) p13_1).1),.int .i64 ((Dz p13 p13_1 p13_2 c 0 (r-c) p13_1).2.1),.ints .fresh .u64 ((Dz p13 p13_1 p13_2 c 0 (r-c) p13_1).2.2.1),.int .i64 ((Dz p15 p15_1 p15_2 0 0 (c-0) p15_1).1),.int .i64 ((Dz p15 p15_1 p15_2 0 0 (c-0) p15_1).2.1),.ints .fresh .u64 ((Dz p15 p15_1 p15_2 0 0 (c-0) p15_1).2.2.1),.int .i64 ((Dz p15 p15_1 p15_2 c 0 (r-c) p15_1).1),.int .i64 ((Dz p15 p15_1 p15_2 c 0 (r-c) p15_1).2.1),.ints .fresh .u64 ((Dz p15 p15_1 p15_2 c 0 (r-c) p15_1).2.2.1)],.int .i64 0]) else none else none else none else none :=
  Eq.trans ((D1 _ _ _ _ _ _ _).trans (by kernel_rfl))
  (C3 (C4 (Cr (-100≤(0:Int)∧(0:Int)≤100∧-100≤c∧c≤100))) (C3 (C4 (Cr (-100≤c∧c≤100∧-100≤r∧r≤100))) (C3 (C4 (Cr (-100≤(0:Int)∧(0:Int)≤100∧-100≤c∧c≤100))) (C3 (C4 (Cr (-100≤c∧c≤100∧-100≤r∧r≤100))) rfl rfl) rfl) rfl) rfl)
theorem A6.apart.ev (N:Nat) (r c:Int) (l:List Int) (p q:Int) (m:List Int) (u v:Int) (h:List Int):B0 A6.apart.E N Tryz.f135 (Al Tryz.f135) [.agg [.int .i64 r,.int .i64 c,.ints .arg .u64 l,.int .i64 p,.int .i64 q,.ints .arg .u64 m,.int .i64 u,.int .i64 v,.ints .arg .u64 h]]=bif (Ah l) then A6.apart.C2 N r c l p q m u v h (Gh r c l) ((rX r c l).1) ((rX r c l).2.1) ((rX r c l).2.2.1) ((qX r c l).1) ((qX r c l).2.1) ((qX r c l).2.2.1) else none:=by kernel_rfl
abbrev _root_.Go.Proofs.S1.A6.apart.Kn:=A8 Tryz.prog 135 A6.apart.spec
theorem A6.apart.Ad (hk:Az Tryz.prog A6.apart.Bb) (h:∀ (r c:Int) (l:List Int) (p q:Int) (m:List Int) (u v:Int) (h:List Int),A6.apart.pre [.i r,.i c,.l l,.i p,.i q,.l m,.i u,.i v,.l h]=true→Bf A6.apart.E Tryz.f135 [.agg [.int .i64 r,.int .i64 c,.ints .arg .u64 l,.int .i64 p,.int .i64 q,.ints .arg .u64 m,.int .i64 u,.int .i64 v,.ints .arg .u64 h]] (A6.apart.out [.i r,.i c,.l l,.i p,.i q,.l m,.i u,.i v,.l h])):A6.apart.Kn :=
  Ak (A0 hk _ _ _) Tryz.func135 (by kernel_rfl) (by kernel_rfl) h
def A6.errors.Bb:List (Nat × Entry):=[(86,Cb.Check.spec),(124,Aa.Part.spec),(98,qr.Es.spec),(200,rq.Lq.spec),(24,solve.Flat.spec),(22,solve.Gz.spec)]
def A6.errors.live:Nat→Option (List Nat)
  | 2=>some [2,3,4,6,7,8]
  | 6=>some [3,4,7,9,10]
  | 10=>some [4,7,8,9,14]
  | 13=>some [4,14,15]
  | 14=>some [4,8,17]
  | _=>none
def A6.errors.E:Env:=Be (Ba A6.errors.Bb) (fun _=>false) (fun _=>none) A6.errors.live
def A6.errors.C2 (N:Nat) (r c:Int) (l:List Int) (p q:Int) (m:List Int) (p8 p7 p7_1:Int) (p7_2:List Int) (p6 p6_1:Int) (p6_2:List Int):Option DV:=cutAt A6.errors.E N Tryz.f136 (Al Tryz.f136) [1,1,0] [] ⟨Fy 77 [(2,.ptr 2 0 0),(3,.ptr 3 0 0),(4,.ptr 4 0 0),(6,.ptr 6 0 0),(7,.ptr 7 0 0),(8,.int .i64 p8)],[(7,false,.box [.int .i64 p7,.int .i64 p7_1,.ints .fresh .u64 p7_2]),(6,false,.box [.int .i64 p6,.int .i64 p6_1,.ints .fresh .u64 p6_2]),(4,false,.box [.int .i64 0,.int .i64 0,.nil]),(3,false,.box [.int .i64 p,.int .i64 q,.ints .arg .u64 m]),(2,false,.box [.int .i64 r,.int .i64 c,.ints .arg .u64 l])]⟩
def A6.errors.C6 (N:Nat) (r c:Int) (l:List Int) (p q:Int) (m:List Int) (p7 p7_1:Int) (p7_2:List Int) (p6 p6_1:Int) (p6_2:List Int) (p10 p10_1:Int) (p10_2:List Int):Option DV:=cutAt A6.errors.E N Tryz.f136 (Al Tryz.f136) [1,1,1,1,1,0] [] ⟨Fy 77 [(3,.ptr 3 0 0),(4,.ptr 4 0 0),(7,.ptr 7 0 0),(9,.int .i64 r),(10,.ptr 10 0 0)],[(10,false,.box [.int .i64 p10,.int .i64 p10_1,.ints .fresh .u64 p10_2]),(7,false,.box [.int .i64 p7,.int .i64 p7_1,.ints .fresh .u64 p7_2]),(6,false,.box [.int .i64 p6,.int .i64 p6_1,.ints .fresh .u64 p6_2]),(4,false,.box [.int .i64 0,.int .i64 0,.nil]),(3,false,.box [.int .i64 p,.int .i64 q,.ints .arg .u64 m]),(2,false,.box [.int .i64 r,.int .i64 c,.ints .arg .u64 l])]⟩
def A6.errors.C10 (N:Nat) (r c:Int) (l:List Int) (p q:Int) (m:List Int) (p7 p7_1:Int) (p7_2:List Int) (p6 p6_1:Int) (p6_2:List Int) (p10 p10_1:Int) (p10_2:List Int) (p8_1 p14 p14_1:Int) (p14_2:List Int):Option DV:=cutAt A6.errors.E N Tryz.f136 (Al Tryz.f136) [1,1,1,1,1,1,1,0] [] ⟨Fy 77 [(4,.ptr 4 0 0),(7,.ptr 7 0 0),(8,.int .i64 p8_1),(9,.int .i64 r),(14,.ptr 14 0 0)],[(14,false,.box [.int .i64 p14,.int .i64 p14_1,.ints .fresh .u64 p14_2]),(10,false,.box [.int .i64 p10,.int .i64 p10_1,.ints .fresh .u64 p10_2]),(7,false,.box [.int .i64 p7,.int .i64 p7_1,.ints .fresh .u64 p7_2]),(6,false,.box [.int .i64 p6,.int .i64 p6_1,.ints .fresh .u64 p6_2]),(4,false,.box [.int .i64 0,.int .i64 0,.nil]),(3,false,.box [.int .i64 p,.int .i64 q,.ints .arg .u64 m]),(2,false,.box [.int .i64 r,.int .i64 c,.ints .arg .u64 l])]⟩
def A6.errors.C13 (N:Nat) (r c:Int) (l:List Int) (p q:Int) (m:List Int) (p7 p7_1:Int) (p7_2:List Int) (p6 p6_1:Int) (p6_2:List Int) (p10 p10_1:Int) (p10_2:List Int) (p14 p14_1:Int) (p14_2:List Int) (p15 p15_1:Int) (p15_2:List Int):Option DV:=cutAt A6.errors.E N Tryz.f136 (Al Tryz.f136) [1,1,1,1,1,1,1,1,1] [] ⟨Fy 77 [(4,.ptr 4 0 0),(14,.ptr 14 0 0),(15,.ptr 15 0 0)],[(15,false,.box [.int .i64 p15,.int .i64 p15_1,.ints .fresh .u64 p15_2]),(14,false,.box [.int .i64 p14,.int .i64 p14_1,.ints .fresh .u64 p14_2]),(10,false,.box [.int .i64 p10,.int .i64 p10_1,.ints .fresh .u64 p10_2]),(7,false,.box [.int .i64 p7,.int .i64 p7_1,.ints .fresh .u64 p7_2]),(6,false,.box [.int .i64 p6,.int .i64 p6_1,.ints .fresh .u64 p6_2]),(4,false,.box [.int .i64 0,.int .i64 0,.nil]),(3,false,.box [.int .i64 p,.int .i64 q,.ints .arg .u64 m]),(2,false,.box [.int .i64 r,.int .i64 c,.ints .arg .u64 l])]⟩
def A6.errors.C14 (N:Nat) (r c:Int) (l:List Int) (p q:Int) (m:List Int) (p7 p7_1:Int) (p7_2:List Int) (p6 p6_1:Int) (p6_2:List Int) (p10 p10_1:Int) (p10_2:List Int) (p14 p14_1:Int) (p14_2:List Int) (p15 p15_1:Int) (p15_2:List Int) (p8_2 p17 p17_1:Int) (p17_2:List Int):Option DV:=cutAt A6.errors.E N Tryz.f136 (Al Tryz.f136) [1,1,1,1,1,1,1,1,1,1,0] [] ⟨Fy 77 [(4,.ptr 4 0 0),(8,.int .i64 p8_2),(17,.ptr 17 0 0)],[(17,false,.box [.int .i64 p17,.int .i64 p17_1,.ints .fresh .u64 p17_2]),(15,false,.box [.int .i64 p15,.int .i64 p15_1,.ints .fresh .u64 p15_2]),(14,false,.box [.int .i64 p14,.int .i64 p14_1,.ints .fresh .u64 p14_2]),(10,false,.box [.int .i64 p10,.int .i64 p10_1,.ints .fresh .u64 p10_2]),(7,false,.box [.int .i64 p7,.int .i64 p7_1,.ints .fresh .u64 p7_2]),(6,false,.box [.int .i64 p6,.int .i64 p6_1,.ints .fresh .u64 p6_2]),(4,false,.box [.int .i64 0,.int .i64 0,.nil]),(3,false,.box [.int .i64 p,.int .i64 q,.ints .arg .u64 m]),(2,false,.box [.int .i64 r,.int .i64 c,.ints .arg .u64 l])]⟩
theorem A6.errors.Ami (N:Nat) (r c:Int) (l:List Int) (p q:Int) (m:List Int) (p8 p7 p7_1:Int) (p7_2:List Int) (p6 p6_1:Int) (p6_2:List Int):A6.errors.C2 N r c l p q m p8 p7 p7_1 p7_2 p6 p6_1 p6_2=bif (p8 !=(0:Int)) then some (.tup [.agg [.int .i64 0,.int .i64 0,.nil],.int .i64 p8]) else A6.errors.C6 N r c l p q m p7 p7_1 p7_2 p6 p6_1 p6_2 ((Dz p6 p6_1 p6_2 0 0 r r).1) ((Dz p6 p6_1 p6_2 0 0 r r).2.1) ((Dz p6 p6_1 p6_2 0 0 r r).2.2.1):=(D1 _ _ _ _ _ _ _).trans (by kernel_rfl)
theorem A6.errors.Auh (N:Nat) (r c:Int) (l:List Int) (p q:Int) (m:List Int) (p7 p7_1:Int) (p7_2:List Int) (p6 p6_1:Int) (p6_2:List Int) (p10 p10_1:Int) (p10_2:List Int):A6.errors.C6 N r c l p q m p7 p7_1 p7_2 p6 p6_1 p6_2 p10 p10_1 p10_2=bif (Ah p10_2) then bif ((Nv p10 p10_1 p10_2).1) then some (.tup [.agg [.int .i64 0,.int .i64 0,.nil],.int .i64 5]) else bif (Ah p10_2&&Ah m) then A6.errors.C10 N r c l p q m p7 p7_1 p7_2 p6 p6_1 p6_2 p10 p10_1 p10_2 ((Zp p10 p10_1 p10_2 p q m).2.2.2) ((Zp p10 p10_1 p10_2 p q m).1) ((Zp p10 p10_1 p10_2 p q m).2.1) ((Zp p10 p10_1 p10_2 p q m).2.2.1) else none else none:=(D1 _ _ _ _ _ _ _).trans (by kernel_rfl)
theorem A6.errors.Ar2 (N:Nat) (r c:Int) (l:List Int) (p q:Int) (m:List Int) (p7 p7_1:Int) (p7_2:List Int) (p6 p6_1:Int) (p6_2:List Int) (p10 p10_1:Int) (p10_2:List Int) (p8_1 p14 p14_1:Int) (p14_2:List Int):A6.errors.C10 N r c l p q m p7 p7_1 p7_2 p6 p6_1 p6_2 p10 p10_1 p10_2 p8_1 p14 p14_1 p14_2=bif (p8_1 !=(0:Int)) then some (.tup [.agg [.int .i64 0,.int .i64 0,.nil],.int .i64 p8_1]) else A6.errors.C13 N r c l p q m p7 p7_1 p7_2 p6 p6_1 p6_2 p10 p10_1 p10_2 p14 p14_1 p14_2 ((Dz p7 p7_1 p7_2 0 0 r p7_1).1) ((Dz p7 p7_1 p7_2 0 0 r p7_1).2.1) ((Dz p7 p7_1 p7_2 0 0 r p7_1).2.2.1):=(D1 _ _ _ _ _ _ _).trans (by kernel_rfl)
theorem A6.errors.Ar1 (N:Nat) (r c:Int) (l:List Int) (p q:Int) (m:List Int) (p7 p7_1:Int) (p7_2:List Int) (p6 p6_1:Int) (p6_2:List Int) (p10 p10_1:Int) (p10_2:List Int) (p14 p14_1:Int) (p14_2:List Int) (p15 p15_1:Int) (p15_2:List Int):A6.errors.C13 N r c l p q m p7 p7_1 p7_2 p6 p6_1 p6_2 p10 p10_1 p10_2 p14 p14_1 p14_2 p15 p15_1 p15_2=bif (Ah p15_2&&Ah p14_2) then A6.errors.C14 N r c l p q m p7 p7_1 p7_2 p6 p6_1 p6_2 p10 p10_1 p10_2 p14 p14_1 p14_2 p15 p15_1 p15_2 ((El p15 p15_1 p15_2 p14 p14_1 p14_2).2.2.2) ((El p15 p15_1 p15_2 p14 p14_1 p14_2).1) ((El p15 p15_1 p15_2 p14 p14_1 p14_2).2.1) ((El p15 p15_1 p15_2 p14 p14_1 p14_2).2.2.1) else none:=(D1 _ _ _ _ _ _ _).trans (by kernel_rfl)
theorem A6.errors.Ww (N:Nat) (r c:Int) (l:List Int) (p q:Int) (m:List Int) (p7 p7_1:Int) (p7_2:List Int) (p6 p6_1:Int) (p6_2:List Int) (p10 p10_1:Int) (p10_2:List Int) (p14 p14_1:Int) (p14_2:List Int) (p15 p15_1:Int) (p15_2:List Int) (p8_2 p17 p17_1:Int) (p17_2:List Int):A6.errors.C14 N r c l p q m p7 p7_1 p7_2 p6 p6_1 p6_2 p10 p10_1 p10_2 p14 p14_1 p14_2 p15 p15_1 p15_2 p8_2 p17 p17_1 p17_2=bif ((!(p8_2==(0:Int)))||(Ah p17_2)) then bif ((p8_2==(0:Int))&&((B6 p17 p17_1 p17_2) !=(0:Int))) then some (.tup [.agg [.int .i64 p17,.int .i64 p17_1,.ints .fresh .u64 p17_2],.int .i64 2]) else some (.tup [.agg [.int .i64 p17,.int .i64 p17_1,.ints .fresh .u64 p17_2],.int .i64 p8_2]) else none :=
  Eq.trans ((D1 _ _ _ _ _ _ _).trans (by kernel_rfl))
  (Ar (N2 (p8_2==(0:Int))) (C3 (Ap7 (p8_2==(0:Int)) (Ah p17_2)) (Ar (Ke (p8_2==(0:Int))) (Ar (Sj (p8_2==(0:Int))) (C3 (tt1 (p8_2==(0:Int)) ((B6 p17 p17_1 p17_2) !=(0:Int))) rfl rfl))) rfl))
theorem A6.errors.ev (N:Nat) (r c:Int) (l:List Int) (p q:Int) (m:List Int):B0 A6.errors.E N Tryz.f136 (Al Tryz.f136) [.agg [.int .i64 r,.int .i64 c,.ints .arg .u64 l],.agg [.int .i64 p,.int .i64 q,.ints .arg .u64 m]]=bif (Ah l) then A6.errors.C2 N r c l p q m (Tt r c l) ((lqQ r c l).1) ((lqQ r c l).2.1) ((lqQ r c l).2.2.1) ((lqL r c l).1) ((lqL r c l).2.1) ((lqL r c l).2.2.1) else none:=by kernel_rfl
abbrev _root_.Go.Proofs.S1.A6.errors.Kn:=A8 Tryz.prog 136 A6.errors.spec
theorem A6.errors.Ad (hk:Az Tryz.prog A6.errors.Bb) (h:∀ (r c:Int) (l:List Int) (p q:Int) (m:List Int),A6.errors.pre [.i r,.i c,.l l,.i p,.i q,.l m]=true→Bf A6.errors.E Tryz.f136 [.agg [.int .i64 r,.int .i64 c,.ints .arg .u64 l],.agg [.int .i64 p,.int .i64 q,.ints .arg .u64 m]] (A6.errors.out [.i r,.i c,.l l,.i p,.i q,.l m])):A6.errors.Kn :=
  Ak (A0 hk _ _ _) Tryz.func136 (by kernel_rfl) (by kernel_rfl) h
def A6.Solve.Bb:List (Nat × Entry):=[(86,Cb.Check.spec),(56,A6.Check.spec),(135,A6.apart.spec),(136,A6.errors.spec),(123,Aa.Mul.spec),(125,Aa.Sub.spec),(36,solve.Gu.spec)]
def A6.Solve.live:Nat→Option (List Nat)
  | 5=>some [2,3,4,5]
  | 8=>some [2,3,4,5]
  | 11=>some [2,3,5,6]
  | 12=>some [2,3,5,8]
  | 15=>some [2,3,4]
  | _=>none
def A6.Solve.E:Env:=Be (Ba A6.Solve.Bb) (fun _=>false) (fun _=>none) A6.Solve.live
def A6.Solve.C5 (N:Nat) (r c:Int) (l:List Int) (p q:Int) (m:List Int) (u v:Int) (h:List Int) (p4 p5 p5_1:Int) (p5_2:List Int) (p5_3 p5_4:Int) (p5_5:List Int) (p5_6 p5_7:Int) (p5_8:List Int) (p5_9 p5_10:Int) (p5_11:List Int) (p5_12 p5_13:Int) (p5_14:List Int):Option DV:=cutAt A6.Solve.E N Tryz.f60 (Al Tryz.f60) [1,1,1,0] [] ⟨Fy 73 [(2,.ptr 2 0 0),(3,.ptr 3 0 0),(4,.int .i64 p4),(5,.ptr 5 0 0)],[(5,false,.box [.int .i64 p5,.int .i64 p5_1,.ints .fresh .u64 p5_2,.int .i64 p5_3,.int .i64 p5_4,.ints .fresh .u64 p5_5,.int .i64 p5_6,.int .i64 p5_7,.ints .fresh .u64 p5_8,.int .i64 p5_9,.int .i64 p5_10,.ints .fresh .u64 p5_11,.int .i64 p5_12,.int .i64 p5_13,.ints .fresh .u64 p5_14]),(3,false,.box [.int .i64 0,.int .i64 0,.nil]),(2,false,.box [.int .i64 0,.int .i64 0,.nil]),(1,false,.box [.int .i64 r,.int .i64 c,.ints .arg .u64 l,.int .i64 p,.int .i64 q,.ints .arg .u64 m,.int .i64 u,.int .i64 v,.ints .arg .u64 h])]⟩
def A6.Solve.C8 (N:Nat) (r c:Int) (l:List Int) (p q:Int) (m:List Int) (u v:Int) (h:List Int) (p5 p5_1:Int) (p5_2:List Int) (p5_3 p5_4:Int) (p5_5:List Int) (p5_6 p5_7:Int) (p5_8:List Int) (p5_9 p5_10:Int) (p5_11:List Int) (p5_12 p5_13:Int) (p5_14:List Int) (p4_1 p3 p3_1:Int) (p3_2:List Int):Option DV:=cutAt A6.Solve.E N Tryz.f60 (Al Tryz.f60) [1,1,1,1,0,1] [] ⟨Fy 73 [(2,.ptr 2 0 0),(3,.ptr 3 0 0),(4,.int .i64 p4_1),(5,.ptr 5 0 0)],[(5,false,.box [.int .i64 p5,.int .i64 p5_1,.ints .fresh .u64 p5_2,.int .i64 p5_3,.int .i64 p5_4,.ints .fresh .u64 p5_5,.int .i64 p5_6,.int .i64 p5_7,.ints .fresh .u64 p5_8,.int .i64 p5_9,.int .i64 p5_10,.ints .fresh .u64 p5_11,.int .i64 p5_12,.int .i64 p5_13,.ints .fresh .u64 p5_14]),(3,false,.box [.int .i64 p3,.int .i64 p3_1,.ints .fresh .u64 p3_2]),(2,false,.box [.int .i64 0,.int .i64 0,.nil]),(1,false,.box [.int .i64 r,.int .i64 c,.ints .arg .u64 l,.int .i64 p,.int .i64 q,.ints .arg .u64 m,.int .i64 u,.int .i64 v,.ints .arg .u64 h])]⟩
def A6.Solve.C11 (N:Nat) (r c:Int) (l:List Int) (p q:Int) (m:List Int) (u v:Int) (h:List Int) (p5 p5_1:Int) (p5_2:List Int) (p5_3 p5_4:Int) (p5_5:List Int) (p5_6 p5_7:Int) (p5_8:List Int) (p5_9 p5_10:Int) (p5_11:List Int) (p5_12 p5_13:Int) (p5_14:List Int) (p3 p3_1:Int) (p3_2:List Int) (p6 p6_1:Int) (p6_2:List Int):Option DV:=cutAt A6.Solve.E N Tryz.f60 (Al Tryz.f60) [1,1,1,1,1,1] [] ⟨Fy 73 [(2,.ptr 2 0 0),(3,.ptr 3 0 0),(5,.ptr 5 0 0),(6,.ptr 6 0 0)],[(6,false,.box [.int .i64 p6,.int .i64 p6_1,.ints .fresh .u64 p6_2]),(5,false,.box [.int .i64 p5,.int .i64 p5_1,.ints .fresh .u64 p5_2,.int .i64 p5_3,.int .i64 p5_4,.ints .fresh .u64 p5_5,.int .i64 p5_6,.int .i64 p5_7,.ints .fresh .u64 p5_8,.int .i64 p5_9,.int .i64 p5_10,.ints .fresh .u64 p5_11,.int .i64 p5_12,.int .i64 p5_13,.ints .fresh .u64 p5_14]),(3,false,.box [.int .i64 p3,.int .i64 p3_1,.ints .fresh .u64 p3_2]),(2,false,.box [.int .i64 0,.int .i64 0,.nil]),(1,false,.box [.int .i64 r,.int .i64 c,.ints .arg .u64 l,.int .i64 p,.int .i64 q,.ints .arg .u64 m,.int .i64 u,.int .i64 v,.ints .arg .u64 h])]⟩
def A6.Solve.C12 (N:Nat) (r c:Int) (l:List Int) (p q:Int) (m:List Int) (u v:Int) (h:List Int) (p5 p5_1:Int) (p5_2:List Int) (p5_3 p5_4:Int) (p5_5:List Int) (p5_6 p5_7:Int) (p5_8:List Int) (p5_9 p5_10:Int) (p5_11:List Int) (p5_12 p5_13:Int) (p5_14:List Int) (p3 p3_1:Int) (p3_2:List Int) (p6 p6_1:Int) (p6_2:List Int) (p8 p8_1:Int) (p8_2:List Int):Option DV:=cutAt A6.Solve.E N Tryz.f60 (Al Tryz.f60) [1,1,1,1,1,1,1,0] [] ⟨Fy 73 [(2,.ptr 2 0 0),(3,.ptr 3 0 0),(5,.ptr 5 0 0),(8,.ptr 8 0 0)],[(8,false,.box [.int .i64 p8,.int .i64 p8_1,.ints .fresh .u64 p8_2]),(6,false,.box [.int .i64 p6,.int .i64 p6_1,.ints .fresh .u64 p6_2]),(5,false,.box [.int .i64 p5,.int .i64 p5_1,.ints .fresh .u64 p5_2,.int .i64 p5_3,.int .i64 p5_4,.ints .fresh .u64 p5_5,.int .i64 p5_6,.int .i64 p5_7,.ints .fresh .u64 p5_8,.int .i64 p5_9,.int .i64 p5_10,.ints .fresh .u64 p5_11,.int .i64 p5_12,.int .i64 p5_13,.ints .fresh .u64 p5_14]),(3,false,.box [.int .i64 p3,.int .i64 p3_1,.ints .fresh .u64 p3_2]),(2,false,.box [.int .i64 0,.int .i64 0,.nil]),(1,false,.box [.int .i64 r,.int .i64 c,.ints .arg .u64 l,.int .i64 p,.int .i64 q,.ints .arg .u64 m,.int .i64 u,.int .i64 v,.ints .arg .u64 h])]⟩
def A6.Solve.C15 (N:Nat) (r c:Int) (l:List Int) (p q:Int) (m:List Int) (u v:Int) (h:List Int) (p5 p5_1:Int) (p5_2:List Int) (p5_3 p5_4:Int) (p5_5:List Int) (p5_6 p5_7:Int) (p5_8:List Int) (p5_9 p5_10:Int) (p5_11:List Int) (p5_12 p5_13:Int) (p5_14:List Int) (p3 p3_1:Int) (p3_2:List Int) (p6 p6_1:Int) (p6_2:List Int) (p8 p8_1:Int) (p8_2:List Int) (p4_2 p2 p2_1:Int) (p2_2:List Int):Option DV:=cutAt A6.Solve.E N Tryz.f60 (Al Tryz.f60) [1,1,1,1,1,1,1,1,0,1] [] ⟨Fy 73 [(2,.ptr 2 0 0),(3,.ptr 3 0 0),(4,.int .i64 p4_2)],[(8,false,.box [.int .i64 p8,.int .i64 p8_1,.ints .fresh .u64 p8_2]),(6,false,.box [.int .i64 p6,.int .i64 p6_1,.ints .fresh .u64 p6_2]),(5,false,.box [.int .i64 p5,.int .i64 p5_1,.ints .fresh .u64 p5_2,.int .i64 p5_3,.int .i64 p5_4,.ints .fresh .u64 p5_5,.int .i64 p5_6,.int .i64 p5_7,.ints .fresh .u64 p5_8,.int .i64 p5_9,.int .i64 p5_10,.ints .fresh .u64 p5_11,.int .i64 p5_12,.int .i64 p5_13,.ints .fresh .u64 p5_14]),(3,false,.box [.int .i64 p3,.int .i64 p3_1,.ints .fresh .u64 p3_2]),(2,false,.box [.int .i64 p2,.int .i64 p2_1,.ints .fresh .u64 p2_2]),(1,false,.box [.int .i64 r,.int .i64 c,.ints .arg .u64 l,.int .i64 p,.int .i64 q,.ints .arg .u64 m,.int .i64 u,.int .i64 v,.ints .arg .u64 h])]⟩
theorem A6.Solve.Aui (N:Nat) (r c:Int) (l:List Int) (p q:Int) (m:List Int) (u v:Int) (h:List Int) (p4 p5 p5_1:Int) (p5_2:List Int) (p5_3 p5_4:Int) (p5_5:List Int) (p5_6 p5_7:Int) (p5_8:List Int) (p5_9 p5_10:Int) (p5_11:List Int) (p5_12 p5_13:Int) (p5_14:List Int):A6.Solve.C5 N r c l p q m u v h p4 p5 p5_1 p5_2 p5_3 p5_4 p5_5 p5_6 p5_7 p5_8 p5_9 p5_10 p5_11 p5_12 p5_13 p5_14=bif (p4 !=(0:Int)) then some (.tup [.agg [.int .i64 0,.int .i64 0,.nil],.agg [.int .i64 0,.int .i64 0,.nil],.int .i64 p4]) else bif (Ah p5_14&&Ah p5_8) then A6.Solve.C8 N r c l p q m u v h p5 p5_1 p5_2 p5_3 p5_4 p5_5 p5_6 p5_7 p5_8 p5_9 p5_10 p5_11 p5_12 p5_13 p5_14 ((erZ (p5_12,p5_13,p5_14,0) (p5_6,p5_7,p5_8,0)).2.2.2) ((erZ (p5_12,p5_13,p5_14,0) (p5_6,p5_7,p5_8,0)).1) ((erZ (p5_12,p5_13,p5_14,0) (p5_6,p5_7,p5_8,0)).2.1) ((erZ (p5_12,p5_13,p5_14,0) (p5_6,p5_7,p5_8,0)).2.2.1) else none:=(D1 _ _ _ _ _ _ _).trans (by kernel_rfl)
theorem A6.Solve.Apt (N:Nat) (r c:Int) (l:List Int) (p q:Int) (m:List Int) (u v:Int) (h:List Int) (p5 p5_1:Int) (p5_2:List Int) (p5_3 p5_4:Int) (p5_5:List Int) (p5_6 p5_7:Int) (p5_8:List Int) (p5_9 p5_10:Int) (p5_11:List Int) (p5_12 p5_13:Int) (p5_14:List Int) (p4_1 p3 p3_1:Int) (p3_2:List Int):A6.Solve.C8 N r c l p q m u v h p5 p5_1 p5_2 p5_3 p5_4 p5_5 p5_6 p5_7 p5_8 p5_9 p5_10 p5_11 p5_12 p5_13 p5_14 p4_1 p3 p3_1 p3_2=bif (p4_1 !=(0:Int)) then some (.tup [.agg [.int .i64 0,.int .i64 0,.nil],.agg [.int .i64 0,.int .i64 0,.nil],.int .i64 p4_1]) else bif (Ah p5_11&&Ah p3_2) then A6.Solve.C11 N r c l p q m u v h p5 p5_1 p5_2 p5_3 p5_4 p5_5 p5_6 p5_7 p5_8 p5_9 p5_10 p5_11 p5_12 p5_13 p5_14 p3 p3_1 p3_2 ((Ml p5_9 p5_10 p5_11 p3 p3_1 p3_2).1) ((Ml p5_9 p5_10 p5_11 p3 p3_1 p3_2).2.1) ((Ml p5_9 p5_10 p5_11 p3 p3_1 p3_2).2.2.1) else none:=(D1 _ _ _ _ _ _ _).trans (by kernel_rfl)
theorem A6.Solve.Ae3 (N:Nat) (r c:Int) (l:List Int) (p q:Int) (m:List Int) (u v:Int) (h:List Int) (p5 p5_1:Int) (p5_2:List Int) (p5_3 p5_4:Int) (p5_5:List Int) (p5_6 p5_7:Int) (p5_8:List Int) (p5_9 p5_10:Int) (p5_11:List Int) (p5_12 p5_13:Int) (p5_14:List Int) (p3 p3_1:Int) (p3_2:List Int) (p6 p6_1:Int) (p6_2:List Int):A6.Solve.C11 N r c l p q m u v h p5 p5_1 p5_2 p5_3 p5_4 p5_5 p5_6 p5_7 p5_8 p5_9 p5_10 p5_11 p5_12 p5_13 p5_14 p3 p3_1 p3_2 p6 p6_1 p6_2=bif (Ah p5_5&&Ah p6_2) then A6.Solve.C12 N r c l p q m u v h p5 p5_1 p5_2 p5_3 p5_4 p5_5 p5_6 p5_7 p5_8 p5_9 p5_10 p5_11 p5_12 p5_13 p5_14 p3 p3_1 p3_2 p6 p6_1 p6_2 ((T8 p5_3 p5_4 p5_5 p6 p6_1 p6_2).1) ((T8 p5_3 p5_4 p5_5 p6 p6_1 p6_2).2.1) ((T8 p5_3 p5_4 p5_5 p6 p6_1 p6_2).2.2.1) else none:=(D1 _ _ _ _ _ _ _).trans (by kernel_rfl)
theorem A6.Solve.Wx (N:Nat) (r c:Int) (l:List Int) (p q:Int) (m:List Int) (u v:Int) (h:List Int) (p5 p5_1:Int) (p5_2:List Int) (p5_3 p5_4:Int) (p5_5:List Int) (p5_6 p5_7:Int) (p5_8:List Int) (p5_9 p5_10:Int) (p5_11:List Int) (p5_12 p5_13:Int) (p5_14:List Int) (p3 p3_1:Int) (p3_2:List Int) (p6 p6_1:Int) (p6_2:List Int) (p8 p8_1:Int) (p8_2:List Int):A6.Solve.C12 N r c l p q m u v h p5 p5_1 p5_2 p5_3 p5_4 p5_5 p5_6 p5_7 p5_8 p5_9 p5_10 p5_11 p5_12 p5_13 p5_14 p3 p3_1 p3_2 p6 p6_1 p6_2 p8 p8_1 p8_2=bif (Ah p8_2) then bif ((B6 p8 p8_1 p8_2) !=(0:Int)) then some (.tup [.agg [.int .i64 0,.int .i64 0,.nil],.agg [.int .i64 0,.int .i64 0,.nil],.int .i64 2]) else bif (Ah p5_2&&Ah p8_2) then A6.Solve.C15 N r c l p q m u v h p5 p5_1 p5_2 p5_3 p5_4 p5_5 p5_6 p5_7 p5_8 p5_9 p5_10 p5_11 p5_12 p5_13 p5_14 p3 p3_1 p3_2 p6 p6_1 p6_2 p8 p8_1 p8_2 ((Xc p5 p5_1 p5_2 p8 p8_1 p8_2).2.2.2) ((Xc p5 p5_1 p5_2 p8 p8_1 p8_2).1) ((Xc p5 p5_1 p5_2 p8 p8_1 p8_2).2.1) ((Xc p5 p5_1 p5_2 p8 p8_1 p8_2).2.2.1) else none else none:=(D1 _ _ _ _ _ _ _).trans (by kernel_rfl)
theorem A6.Solve.Ar0 (N:Nat) (r c:Int) (l:List Int) (p q:Int) (m:List Int) (u v:Int) (h:List Int) (p5 p5_1:Int) (p5_2:List Int) (p5_3 p5_4:Int) (p5_5:List Int) (p5_6 p5_7:Int) (p5_8:List Int) (p5_9 p5_10:Int) (p5_11:List Int) (p5_12 p5_13:Int) (p5_14:List Int) (p3 p3_1:Int) (p3_2:List Int) (p6 p6_1:Int) (p6_2:List Int) (p8 p8_1:Int) (p8_2:List Int) (p4_2 p2 p2_1:Int) (p2_2:List Int):A6.Solve.C15 N r c l p q m u v h p5 p5_1 p5_2 p5_3 p5_4 p5_5 p5_6 p5_7 p5_8 p5_9 p5_10 p5_11 p5_12 p5_13 p5_14 p3 p3_1 p3_2 p6 p6_1 p6_2 p8 p8_1 p8_2 p4_2 p2 p2_1 p2_2=bif (p4_2 !=(0:Int)) then some (.tup [.agg [.int .i64 0,.int .i64 0,.nil],.agg [.int .i64 0,.int .i64 0,.nil],.int .i64 p4_2]) else some (.tup [.agg [.int .i64 p2,.int .i64 p2_1,.ints .fresh .u64 p2_2],.agg [.int .i64 p3,.int .i64 p3_1,.ints .fresh .u64 p3_2],.int .i64 0]):=(D1 _ _ _ _ _ _ _).trans (by kernel_rfl)
theorem A6.Solve.ev (N:Nat) (r c:Int) (l:List Int) (p q:Int) (m:List Int) (u v:Int) (h:List Int):B0 A6.Solve.E N Tryz.f60 (Al Tryz.f60) [.agg [.int .i64 r,.int .i64 c,.ints .arg .u64 l,.int .i64 p,.int .i64 q,.ints .arg .u64 m,.int .i64 u,.int .i64 v,.ints .arg .u64 h]]=bif (Th l m h) then bif ((Ig r c l p q m u v h) !=(0:Int)) then some (.tup [.agg [.int .i64 0,.int .i64 0,.nil],.agg [.int .i64 0,.int .i64 0,.nil],.int .i64 (Ig r c l p q m u v h)]) else bif (Th l m h&&decide (Ig r c l p q m u v h=0)) then A6.Solve.C5 N r c l p q m u v h (gE r c l p q m u v h) ((Na (gE r c l p q m u v h) (gT r c l)).1) ((Na (gE r c l p q m u v h) (gT r c l)).2.1) ((Na (gE r c l p q m u v h) (gT r c l)).2.2.1) ((Na (gE r c l p q m u v h) (G1 c (gC r c l u v h))).1) ((Na (gE r c l p q m u v h) (G1 c (gC r c l u v h))).2.1) ((Na (gE r c l p q m u v h) (G1 c (gC r c l u v h))).2.2.1) ((Na (gE r c l p q m u v h) (Ft r c (gC r c l u v h))).1) ((Na (gE r c l p q m u v h) (Ft r c (gC r c l u v h))).2.1) ((Na (gE r c l p q m u v h) (Ft r c (gC r c l u v h))).2.2.1) ((Na (gE r c l p q m u v h) (G1 c (gC r c l p q m))).1) ((Na (gE r c l p q m u v h) (G1 c (gC r c l p q m))).2.1) ((Na (gE r c l p q m u v h) (G1 c (gC r c l p q m))).2.2.1) ((Na (gE r c l p q m u v h) (Ft r c (gC r c l p q m))).1) ((Na (gE r c l p q m u v h) (Ft r c (gC r c l p q m))).2.1) ((Na (gE r c l p q m u v h) (Ft r c (gC r c l p q m))).2.2.1) else none else none:=by kernel_rfl
abbrev _root_.Go.Proofs.S1.A6.Solve.Kn:=A8 Tryz.prog 60 A6.Solve.spec
theorem A6.Solve.Ad (hk:Az Tryz.prog A6.Solve.Bb) (h:∀ (r c:Int) (l:List Int) (p q:Int) (m:List Int) (u v:Int) (h:List Int),A6.Solve.pre [.i r,.i c,.l l,.i p,.i q,.l m,.i u,.i v,.l h]=true→Bf A6.Solve.E Tryz.f60 [.agg [.int .i64 r,.int .i64 c,.ints .arg .u64 l,.int .i64 p,.int .i64 q,.ints .arg .u64 m,.int .i64 u,.int .i64 v,.ints .arg .u64 h]] (A6.Solve.out [.i r,.i c,.l l,.i p,.i q,.l m,.i u,.i v,.l h])):A6.Solve.Kn :=
  Ak (A0 hk _ _ _) Tryz.func60 (by kernel_rfl) (by kernel_rfl) h
end EqGg
open EqGg
def P0 (o:Option DV) (d:DV):Prop:=∃ dv drops,o=some dv∧Wk drops dv d
theorem Rq {E:Env} {fn:Func} {ds:List DV} {d:DV} (h:P0 (B0 E 0 fn (Al fn) ds) d):Bf E fn ds d:=by
  obtain ⟨dv,drops,e1,e2⟩:=h
  exact ⟨0,dv,drops,e1,e2⟩
def Vn (x y:MX) (e:Int):DV:=.tup [.agg [.int .i64 x.1,.int .i64 x.2.1,.ints .fresh .u64 x.2.2.1],.agg [.int .i64 y.1,.int .i64 y.2.1,.ints .fresh .u64 y.2.2.1],.int .i64 e]
theorem Aap {drops:List Nat} {r c:Int} {l:List Int}:Wk drops (.agg [.int .i64 r,.int .i64 c,.ints .fresh .u64 l]) (.agg [.int .i64 r,.int .i64 c,.ints .fresh .u64 l]):=Wk.Ix (.cons .int (.cons .int (.cons .J5 .nil)))
theorem Afl {o:Option DV} {x y:MX} {e:Int} (h:o=some (Vn x y e)):P0 o (Vn x y e):=⟨_,[],h,Wk.Gm (.cons Aap (.cons Aap (.cons .int .nil)))⟩
theorem Lp {o:Option DV} {e e1 e2:Int} (h:o=some (Xu e)):P0 o (Vn (Gk e1) (Gk e2) e):=⟨_,[],h,Yp⟩
theorem rq.both.known:rq.both.Kn:=rq.both.Ad (.cons Aa.Df.known .nil) fun r c l p q m _ =>
  ⟨0,_,[],rq.both.ev 0 r c l p q m,Wk.Gm (.cons Aap (.cons Aap .nil))⟩
theorem rq.Lq.known:rq.Lq.Kn:=rq.Lq.Ad (.cons Aa.Df.known (.cons qr.Dc.known (.cons rq.both.known .nil))) fun r c l hp=>Rq (by
  have al:Ah l=true:=hp
  show P0 _ (Vn (lqL r c l) (lqQ r c l) (Tt r c l))
  rw [rq.Lq.ev]
  by_cases k:(Bc r c l).2.2.2=0
  · rw [F7 k,Auo,O8 al,Auk]
    by_cases kf:Gh (Bc r c l).1 (Bc r c l).2.1 (Bc r c l).2.2.1=0
    · have e:Tt r c l=0:=by unfold Tt; rw [if_neg (fun h=>h k)]; exact kf
      have d1:lqL r c l=P1 (rX (Bc r c l).1 (Bc r c l).2.1 (Bc r c l).2.2.1):=by unfold lqL; rw [if_neg (fun h=>h e)]
      have d2:lqQ r c l=P1 (qX (Bc r c l).1 (Bc r c l).2.1 (Bc r c l).2.2.1):=by unfold lqQ; rw [if_neg (fun h=>h e)]
      rw [F7 kf,Auo,d1,d2,e]
      exact Afl rfl
    · have e:Tt r c l=Gh (Bc r c l).1 (Bc r c l).2.1 (Bc r c l).2.2.1:=by unfold Tt; rw [if_neg (fun h=>h k)]
      have d1:lqL r c l=Gk (Tt r c l):=by unfold lqL; rw [if_pos (by rw [e]; exact kf)]
      have d2:lqQ r c l=Gk (Tt r c l):=by unfold lqQ; rw [if_pos (by rw [e]; exact kf)]
      rw [Ts kf,Auk,d1,d2,e]
      exact Lp rfl
  · have e:Tt r c l=(Bc r c l).2.2.2:=by unfold Tt; rw [if_pos k]
    have d1:lqL r c l=Gk (Tt r c l):=by unfold lqL; rw [if_pos (by rw [e]; exact k)]
    have d2:lqQ r c l=Gk (Tt r c l):=by unfold lqQ; rw [if_pos (by rw [e]; exact k)]
    rw [Ts k,Auk,d1,d2,e]
    exact Lp rfl)
theorem Apj {r c:Int} {l:List Int} (al:Ah l=true):Ah (lqL r c l).2.2.1=true∧Ah (lqQ r c l).2.2.1=true:=by
  unfold lqL lqQ
  by_cases k:Tt r c l=0
  · rw [if_neg (fun h=>h k),if_neg (fun h=>h k)]
    exact ⟨O8 (Abf (O8 al)).2,O8 (Abf (O8 al)).1⟩
  · rw [if_pos k,if_pos k]; exact ⟨Ep,Ep⟩
theorem Ahr {r c p q u v:Int} (h:0≤c∧c≤6) (h':0≤q∧q≤6) :
    (((((p !=r)||(u !=r))||(v !=(1:Int)))||(A4 r c))||(A4 (Ab (c+q)) r))=decide (p≠r∨u≠r∨v≠1∨r<c∨c+q<r):=by
  rw [An (by omega) (by omega),Au,Au,Au0]
  simp [or_assoc]
theorem A6.Check.known:A6.Check.Kn:=A6.Check.Ad (.cons Cb.Check.known .nil) fun r c l p q m u v h hp=>by
  obtain ⟨h1,ah⟩:=Ag.1 (show ((Ah l&&Ah m)&&Ah h)=true from hp)
  obtain ⟨al,am⟩:=Ag.1 h1
  refine ⟨0+5,A6.Check.out [.i r,.i c,.l l,.i p,.i q,.l m,.i u,.i v,.l h],[],?_,.int⟩
  show _=some (DV.int .i64 (Ig r c l p q m u v h))
  rw [A6.Check.ev,al,am,ah,Auk,Auk,Auk]
  unfold Ig
  by_cases k1:B6 r c l=0
  · rw [F7 k1,Auo,if_neg (fun h=>h k1)]
    by_cases k2:B6 p q m=0
    · rw [F7 k2,Auo,if_neg (fun h=>h k2)]
      by_cases k4:B6 u v h=0
      · rw [F7 k4,Auo,if_neg (fun h=>h k4)]
        have s1:=Vf (G7 k1).1
        have s2:=Vf (G7 k2).1
        rw [Ahr s1.2.2 s2.2.2]
        by_cases k5:p≠r∨u≠r∨v≠1∨r<c∨c+q<r
        · rw [Aul k5,Auk,if_pos k5]
        · rw [Aup k5,Auo,if_neg k5]
      · rw [Ts k4,Auk,if_pos k4]
    · rw [Ts k2,Auk,if_pos k2]
  · rw [Ts k1,Auk,if_pos k1]
theorem Adc {r c:Int} {l:List Int} {p q:Int} {m:List Int} {u v:Int} {h:List Int} (e:Ig r c l p q m u v h=0) :
    B6 r c l=0∧B6 p q m=0∧B6 u v h=0∧p=r∧u=r∧v=1∧c≤r∧r≤c+q:=by
  unfold Ig at e
  by_cases k1:B6 r c l=0
  · rw [if_neg (fun h=>h k1)] at e
    by_cases k2:B6 p q m=0
    · rw [if_neg (fun h=>h k2)] at e
      by_cases k4:B6 u v h=0
      · rw [if_neg (fun h=>h k4)] at e
        by_cases k5:p≠r∨u≠r∨v≠1∨r<c∨c+q<r
        · rw [if_pos k5] at e; exact absurd e (by decide)
        · exact ⟨k1,k2,k4,by omega⟩
      · rw [if_pos k4] at e; exact absurd e k4
    · rw [if_pos k2] at e; exact absurd e k2
  · rw [if_pos k1] at e; exact absurd e k1
theorem A6.Ef.known:A6.Ef.Kn:=A6.Ef.Ad (.cons Aa.Part.known .nil) fun r c l x y hp=>by
  have h:=Ap.1 (show Cr (-100≤x∧x≤100∧-100≤y∧y≤100)=true from hp)
  have e:=A6.Ef.ev 0 r c l x y
  rw [An (by omega) (by omega)] at e
  exact ⟨0,_,[],e,Aap⟩
def Ann (a b c d f:MX) (e:Int):DV:=.tup [.agg [.int .i64 a.1,.int .i64 a.2.1,.ints .fresh .u64 a.2.2.1,.int .i64 b.1,.int .i64 b.2.1,.ints .fresh .u64 b.2.2.1,.int .i64 c.1,.int .i64 c.2.1,.ints .fresh .u64 c.2.2.1,.int .i64 d.1,.int .i64 d.2.1,.ints .fresh .u64 d.2.2.1,.int .i64 f.1,.int .i64 f.2.1,.ints .fresh .u64 f.2.2.1],.int .i64 e]
def At1 (e:Int):DV:=.tup [.agg [.int .i64 0,.int .i64 0,.nil,.int .i64 0,.int .i64 0,.nil,.int .i64 0,.int .i64 0,.nil,.int .i64 0,.int .i64 0,.nil,.int .i64 0,.int .i64 0,.nil],.int .i64 e]
theorem Anl {o:Option DV} {a b c d f:MX} {e:Int} (h:o=some (Ann a b c d f e)):P0 o (Ann a b c d f e) :=
  ⟨_,[],h,Wk.Gm (.cons (Wk.Ix (.cons .int (.cons .int (.cons .J5 (.cons .int (.cons .int (.cons .J5 (.cons .int (.cons .int (.cons .J5 (.cons .int (.cons .int (.cons .J5 (.cons .int (.cons .int (.cons .J5 .nil)))))))))))))))) (.cons .int .nil))⟩
theorem Anm {o:Option DV} {e:Int} (h:o=some (At1 e)) {a b c d f:Int}:P0 o (Ann (Gk a) (Gk b) (Gk c) (Gk d) (Gk f) e) :=
  ⟨_,[],h,Wk.Gm (.cons (Wk.Ix (.cons .int (.cons .int (.cons Ic (.cons .int (.cons .int (.cons Ic (.cons .int (.cons .int (.cons Ic (.cons .int (.cons .int (.cons Ic (.cons .int (.cons .int (.cons Ic .nil)))))))))))))))) (.cons .int .nil))⟩
theorem Ou {e:Int} (h:e=0) (x:MX):Na e x=x:=by unfold Na; rw [if_neg (fun k=>k h)]
theorem Wb {e:Int} (h:e≠0) (x:MX):Na e x=Gk e:=by unfold Na; rw [if_pos h]
def Ag0 (e:Int) (a b c d f:MX):DV:=Ann (Na e a) (Na e b) (Na e c) (Na e d) (Na e f) e
theorem Ui {o:Option DV} {e:Int} {a b c d f:MX} (he:e≠0) (h:o=some (At1 e)):P0 o (Ag0 e a b c d f):=by
  unfold Ag0
  rw [Wb he,Wb he,Wb he,Wb he,Wb he]
  exact Anm h
section
variable {N:Nat} {r c p q u v:Int} {l m h:List Int} {R Q T C W:MX}
theorem Ard (hr:0≤r∧r≤6) (hc:0≤c∧c≤6):P0 (A6.apart.C14 N r c l p q m u v h R.1 R.2.1 R.2.2.1 Q.1 Q.2.1 Q.2.2.1 T.1 T.2.1 T.2.2.1 C.1 C.2.1 C.2.2.1 W.1 W.2.1 W.2.2.1) (Ag0 0 T (G1 c C) (Ft r c C) (G1 c W) (Ft r c W)):=by
  rw [A6.apart.Ww,Ap.2 (show -100≤(0:Int)∧(0:Int)≤100∧-100≤c∧c≤100 by omega),Ap.2 (show -100≤c∧c≤100∧-100≤r∧r≤100 by omega),Auk,Auk,Auk,Auk,Int.sub_zero]
  exact Anl rfl
theorem Are (hr:0≤r∧r≤6) (hc:0≤c∧c≤6) (aC:Ah C.2.2.1=true) (aW:Ah W.2.2.1=true):P0 (A6.apart.C12 N r c l p q m u v h R.1 R.2.1 R.2.2.1 Q.1 Q.2.1 Q.2.2.1 T.1 T.2.1 T.2.2.1 C.1 C.2.1 C.2.2.1 W.1 W.2.1 W.2.2.1)
    (Ag0 (if Mb C≠0∨Mb W≠0 then 2 else 0) T (G1 c C) (Ft r c C) (G1 c W) (Ft r c W)):=by
  rw [A6.apart.Wx,aC,aW,Bool.or_true,Auk,Auk]
  by_cases k1:Mb C=0
  · rw [F7 (show B6 C.1 C.2.1 C.2.2.1=0 from k1),Bool.false_or]
    by_cases k2:Mb W=0
    · rw [F7 (show B6 W.1 W.2.1 W.2.2.1=0 from k2),Auo,if_neg (fun h=>h.elim (fun h=>h k1) (fun h=>h k2))]
      exact Ard hr hc
    · rw [Ts (show B6 W.1 W.2.1 W.2.2.1≠0 from k2),Auk,if_pos (.inr k2)]
      exact Ui (by decide) rfl
  · rw [Ts (show B6 C.1 C.2.1 C.2.2.1≠0 from k1),Bool.true_or,Auk,if_pos (.inl k1)]
    exact Ui (by decide) rfl
theorem At7 (hr:0≤r∧r≤6) (hc:0≤c∧c≤6) (aT:Ah T.2.2.1=true) (aQ:Ah Q.2.2.1=true) (ah:Ah h=true) (am:Ah m=true):P0 (A6.apart.C7 N r c l p q m u v h R.1 R.2.1 R.2.2.1 Q.1 Q.2.1 Q.2.2.1 T.1 T.2.1 T.2.2.1)
    (Ag0 (if R8 T=true then 5 else if Mb (Fl Q (u,v,h,0))≠0∨Mb (Fl Q (p,q,m,0))≠0 then 2 else 0) T (G1 c (Fl Q (u,v,h,0))) (Ft r c (Fl Q (u,v,h,0))) (G1 c (Fl Q (p,q,m,0))) (Ft r c (Fl Q (p,q,m,0)))):=by
  rw [A6.apart.Amh,aT,Auk]
  cases k:R8 T with
  | true =>
    rw [show (Nv T.1 T.2.1 T.2.2.1).1=true from k,Auk,if_pos rfl]
    exact Ui (by decide) rfl
  | false =>
    rw [show (Nv T.1 T.2.1 T.2.2.1).1=false from k,Auo,if_neg (by decide),aQ,ah,Auq,Auk,A6.apart.Ae3,aQ,am,Auq,Auk]
    exact Are (C:=Fl Q (u,v,h,0)) (W:=Fl Q (p,q,m,0)) hr hc (Ks _ _ _ _ _ _) (Ks _ _ _ _ _ _)
theorem A6.apart.known:A6.apart.Kn:=A6.apart.Ad (.cons Cb.Check.known (.cons A6.Ef.known (.cons qr.Dc.known (.cons qr.Es.known (.cons solve.Flat.known .nil))))) fun r c l p q m u v h hp=>Rq (by
  obtain ⟨h0,hz⟩:=Ag.1 (show (Th l m h&&decide (Ig r c l p q m u v h=0))=true from hp)
  obtain ⟨h1,ah⟩:=Ag.1 (show ((Ah l&&Ah m)&&Ah h)=true from h0)
  obtain ⟨al,am⟩:=Ag.1 h1
  obtain ⟨k1,_⟩:=Adc (of_decide_eq_true hz)
  have s1:=Vf (G7 k1).1
  show P0 _ (Ag0 (gE r c l p q m u v h) (gT r c l) (G1 c (gC r c l u v h)) (Ft r c (gC r c l u v h)) (G1 c (gC r c l p q m)) (Ft r c (gC r c l p q m)))
  rw [A6.apart.ev,al,Auk,A6.apart.Ami]
  unfold gE
  by_cases k:Gh r c l=0
  · rw [F7 k,Auo,if_neg (fun h=>h k),Ap.2 (show -100≤(0:Int)∧(0:Int)≤100∧-100≤c∧c≤100 by omega),Auk,Int.sub_zero]
    exact At7 (R:=rX r c l) (Q:=qX r c l) (T:=gT r c l) ⟨s1.1,s1.2.1⟩ s1.2.2 (Ln (Abf al).2 _ _ _ _) (Abf al).1 ah am
  · rw [Ts k,Auk,if_pos k]
    exact Ui k rfl)
end
def Ac0 (o:Option DV) (x:MX):Prop:=P0 o (Qk x)
theorem Y8 {o:Option DV} {x:MX} (h:o=some (Qk x)):Ac0 o x:=⟨_,[],h,Mu⟩
theorem Y9 {o:Option DV} {e:Int} (h:o=some (Ag4 e)):Ac0 o (Gk e):=⟨_,[],h,Lk⟩
section
variable {N:Nat} {r c p q:Int} {l m:List Int} {Q L S w o y:MX}
theorem Arm (ay:Ah y.2.2.1=true):Ac0 (A6.errors.C14 N r c l p q m Q.1 Q.2.1 Q.2.2.1 L.1 L.2.1 L.2.2.1 S.1 S.2.1 S.2.2.1 w.1 w.2.1 w.2.2.1 o.1 o.2.1 o.2.2.1 y.2.2.2 y.1 y.2.1 y.2.2.1) (y.1,y.2.1,y.2.2.1,(Acj y).2.2.2):=by
  rw [A6.errors.Ww,ay,Bool.or_true,Auk]
  unfold Acj Ahv
  by_cases k:y.2.2.2=0
  · rw [k,if_neg (fun h=>h rfl),show ((0:Int)==0)=true from rfl,Bool.true_and]
    by_cases k1:B6 y.1 y.2.1 y.2.2.1=0
    · rw [F7 k1,Auo,if_neg (fun h=>h k1)]; exact Y8 rfl
    · rw [Ts k1,Auk,if_pos k1]; exact Y8 rfl
  · rw [show (y.2.2.2==(0:Int))=false from by rw [beq_eq_false_iff_ne]; exact k,Bool.false_and,Auo,if_pos k]; exact Y8 rfl
theorem A6.errors.known:A6.errors.Kn:=A6.errors.Ad (.cons Cb.Check.known (.cons Aa.Part.known (.cons qr.Es.known (.cons rq.Lq.known (.cons solve.Flat.known (.cons solve.Gz.known .nil)))))) fun r c l p q m hp=>Rq (by
  obtain ⟨al,am⟩:=Ag.1 (show (Ah l&&Ah m)=true from hp)
  show Ac0 _ (erZ (r,c,l,0) (p,q,m,0))
  rw [A6.errors.ev,al,Auk,A6.errors.Ami]
  unfold erZ
  by_cases k:Tt r c l=0
  · rw [F7 k,Auo,if_neg (fun h=>h k),A6.errors.Auh,Ln (Apj al).1,Auk]
    cases kf:R8 (X9 (r,c,l,0)) with
    | true =>
      refine (congrArg (fun o=>Ac0 o _) ((congrArg (fun x=>bif x then _ else _) (show _=true from kf)).trans (Auk _ _))).mpr ?_
      rw [if_pos rfl]
      exact Y9 rfl
    | false =>
      refine (congrArg (fun o=>Ac0 o _) ((congrArg (fun x=>bif x then _ else _) (show _=false from kf)).trans (Auo _ _))).mpr ?_
      rw [if_neg (by decide),am,Bool.and_true,Auk,A6.errors.Ar2]
      by_cases k2:(Ua (X9 (r,c,l,0)) (p,q,m,0)).2.2.2=0
      · refine (congrArg (fun o=>Ac0 o _) ((congrArg (fun x=>bif x then _ else _) (F7 k2)).trans (Auo _ _))).mpr ?_
        rw [if_neg (fun h=>h k2),A6.errors.Ar1,Ln (Apj al).2,Aeb,Auq,Auk]
        exact Arm (Q:=lqQ r c l) (L:=lqL r c l) (S:=X9 (r,c,l,0)) (w:=Ua (X9 (r,c,l,0)) (p,q,m,0)) (o:=erO (r,c,l,0)) (y:=Fl (erO (r,c,l,0)) (Ua (X9 (r,c,l,0)) (p,q,m,0))) (Ks _ _ _ _ _ _)
      · refine (congrArg (fun o=>Ac0 o _) ((congrArg (fun x=>bif x then _ else _) (Ts k2)).trans (Auk _ _))).mpr ?_
        rw [if_pos k2]; exact Y9 rfl
  · rw [Ts k,Auk,if_pos k]; exact Y9 rfl)
end
open EqGg
theorem Asa {r c:Int} {l:List Int} {p q:Int} {m:List Int} (h:(Xc r c l p q m).2.2.2≠0):Xc r c l p q m=Gk (Xc r c l p q m).2.2.2:=by
  unfold Xc Iw at h ⊢
  by_cases k:Mr r c l p q m=0
  · rw [if_neg (fun h=>h k)] at h ⊢
    by_cases k2:Dw (upG c l q m r.toNat q.toNat)=true
    · rw [if_pos k2] at h; exact absurd rfl h
    · rw [if_neg k2]; rfl
  · rw [if_pos k]; rfl
theorem Aom (x y:MX):(erZ x y).2.2.2=(erY x y).2.2.2∧((erY x y).2.2.2=0→erZ x y=erY x y):=by
  unfold erZ erY
  by_cases k1:Tt x.1 x.2.1 x.2.2.1≠0
  · rw [if_pos k1,if_pos k1]; exact ⟨rfl,fun _=>rfl⟩
  · rw [if_neg k1,if_neg k1]
    by_cases k2:R8 (X9 x)=true
    · rw [if_pos k2,if_pos k2]; exact ⟨rfl,fun _=>rfl⟩
    · rw [if_neg k2,if_neg k2]
      by_cases k3:(Ua (X9 x) y).2.2.2≠0
      · rw [if_pos k3,if_pos k3]; exact ⟨rfl,fun _=>rfl⟩
      · rw [if_neg k3,if_neg k3]
        generalize Fl (erO x) (Ua (X9 x) y)=z
        refine ⟨rfl,?_⟩
        unfold Acj Ahv
        by_cases k4:z.2.2.2≠0
        · rw [if_pos k4]; intro h; exact absurd h k4
        · rw [if_neg k4]
          by_cases k5:B6 z.1 z.2.1 z.2.2.1≠0
          · rw [if_pos k5]; intro h; exact absurd h (by decide)
          · rw [if_neg k5]; intro _; rfl
theorem Arn (x y:MX):Ah (erY x y).2.2.1=true:=by
  unfold erY
  split
  · exact Ep
  · split
    · exact Ep
    · split
      · exact Ep
      · exact Aoh (Ks _ _ _ _ _ _)
section
variable {N:Nat} {r c p q u v:Int} {l m h:List Int} {T C E c1 c2 e1 e2 y d f x:MX}
theorem Aqk (hx:x.2.2.2≠0→x=Gk x.2.2.2) :
    P0 (A6.Solve.C15 N r c l p q m u v h T.1 T.2.1 T.2.2.1 c1.1 c1.2.1 c1.2.2.1 c2.1 c2.2.1 c2.2.2.1 e1.1 e1.2.1 e1.2.2.1 e2.1 e2.2.1 e2.2.2.1 y.1 y.2.1 y.2.2.1 d.1 d.2.1 d.2.2.1 f.1 f.2.1 f.2.2.1 x.2.2.2 x.1 x.2.1 x.2.2.1) (Vn x (if x.2.2.2≠0 then Gk x.2.2.2 else y) x.2.2.2):=by
  rw [A6.Solve.Ar0]
  by_cases k:x.2.2.2=0
  · rw [F7 k,Auo,if_neg (fun h=>h k),k]; exact Afl rfl
  · have e:Vn x (Gk x.2.2.2) x.2.2.2=Vn (Gk x.2.2.2) (Gk x.2.2.2) x.2.2.2:=congrArg (fun z=>Vn z (Gk x.2.2.2) x.2.2.2) (hx k)
    rw [Ts k,Auk,if_pos k,e]; exact Lp rfl
theorem Aql (aT:Ah T.2.2.1=true) (af:Ah f.2.2.1=true) :
    P0 (A6.Solve.C12 N r c l p q m u v h T.1 T.2.1 T.2.2.1 c1.1 c1.2.1 c1.2.2.1 c2.1 c2.2.1 c2.2.2.1 e1.1 e1.2.1 e1.2.2.1 e2.1 e2.2.1 e2.2.2.1 y.1 y.2.1 y.2.2.1 d.1 d.2.1 d.2.2.1 f.1 f.2.1 f.2.2.1)
      (Vn (if Mb f≠0 then Gk 2 else upM T f) (if Mb f≠0 then Gk 2 else if (upM T f).2.2.2≠0 then Gk (upM T f).2.2.2 else y) (if Mb f≠0 then Gk 2 else upM T f).2.2.2):=by
  rw [A6.Solve.Wx,aT,af,Auq,Auk,Auk]
  by_cases k:Mb f=0
  · have k':¬ (Mb f≠0):=fun h=>h k
    rw [F7 (show B6 f.1 f.2.1 f.2.2.1=0 from k),Auo,if_neg k',if_neg k']
    exact Aqk (x:=upM T f) Asa
  · rw [Ts (show B6 f.1 f.2.1 f.2.2.1≠0 from k),Auk,if_pos k,if_pos k]; exact Lp rfl
theorem Atz (aT:Ah T.2.2.1=true) (aC:Ah (G1 c C).2.2.1=true) (aE:Ah (G1 c E).2.2.1=true) (ay:Ah y.2.2.1=true) :
    P0 (A6.Solve.C8 N r c l p q m u v h T.1 T.2.1 T.2.2.1 (G1 c C).1 (G1 c C).2.1 (G1 c C).2.2.1 c2.1 c2.2.1 c2.2.2.1 (G1 c E).1 (G1 c E).2.1 (G1 c E).2.2.1 e2.1 e2.2.1 e2.2.2.1 y.2.2.2 y.1 y.2.1 y.2.2.1)
      (Vn (gX2 r c T C E y) (gY2 r c T C E y) (gX2 r c T C E y).2.2.2):=by
  rw [A6.Solve.Apt]
  unfold gX2 gY2
  by_cases k:y.2.2.2=0
  · have k':¬ (y.2.2.2≠0):=fun h=>h k
    rw [F7 k,Auo,if_neg k',if_neg k',aE,ay,Auq,Auk,A6.Solve.Ae3,aC,Zk,Auq,Auk]
    exact Aql (c1:=G1 c C) (e1:=G1 c E) (d:=mulM (G1 c E) y) (f:=gF r c C E y) aT (Am6 aC (Zk _ _ _ _ _ _))
  · rw [Ts k,Auk,if_pos k,if_pos k]; exact Lp rfl
end
theorem A6.Solve.known:A6.Solve.Kn:=A6.Solve.Ad (.cons Cb.Check.known (.cons A6.Check.known (.cons A6.apart.known (.cons A6.errors.known (.cons Aa.Mul.known (.cons Aa.Sub.known (.cons solve.Gu.known .nil))))))) fun r c l p q m u v h hp=>Rq (by
  have h0:Th l m h=true:=hp
  obtain ⟨h1,ah⟩:=Ag.1 (show ((Ah l&&Ah m)&&Ah h)=true from h0)
  obtain ⟨al,am⟩:=Ag.1 h1
  show P0 _ (Vn (gX r c l p q m u v h) (gY r c l p q m u v h) (gX r c l p q m u v h).2.2.2)
  rw [A6.Solve.ev,h0,Auk]
  unfold gX gY
  by_cases k:Ig r c l p q m u v h=0
  · have k':¬ (Ig r c l p q m u v h≠0):=fun h=>h k
    rw [F7 k,Auo,Aul k,Auq,Auk,if_neg k',if_neg k',A6.Solve.Aui]
    by_cases k2:gE r c l p q m u v h=0
    · have aC:Ah (gC r c l u v h).2.2.1=true:=Ks _ _ _ _ _ _
      have aE:Ah (gC r c l p q m).2.2.1=true:=Ks _ _ _ _ _ _
      have aT:Ah (gT r c l).2.2.1=true:=Ln (Abf al).2 _ _ _ _
      have k2':¬ (gE r c l p q m u v h≠0):=fun h=>h k2
      rw [F7 k2,Auo,if_neg k2',if_neg k2',Ou k2,Ou k2,Ou k2,Ou k2,Ou k2,
        show Ah (Ft r c (gC r c l p q m)).2.2.1=true from Ln aE _ _ _ _,show Ah (Ft r c (gC r c l u v h)).2.2.1=true from Ln aC _ _ _ _,Auq,Auk]
      obtain ⟨s1,s2⟩:=Aom (Ft r c (gC r c l p q m)) (Ft r c (gC r c l u v h))
      by_cases k3:(erY (Ft r c (gC r c l p q m)) (Ft r c (gC r c l u v h))).2.2.2=0
      · have e:erZ ((Ft r c (gC r c l p q m)).1,(Ft r c (gC r c l p q m)).2.1,(Ft r c (gC r c l p q m)).2.2.1,0) ((Ft r c (gC r c l u v h)).1,(Ft r c (gC r c l u v h)).2.1,(Ft r c (gC r c l u v h)).2.2.1,0)=gY0 r c l p q m u v h:=s2 k3
        rw [e]
        exact Atz (c2:=Ft r c (gC r c l u v h)) (e2:=Ft r c (gC r c l p q m)) aT (Ln aC _ _ _ _) (Ln aE _ _ _ _) (Arn _ _)
      · have e:(erZ ((Ft r c (gC r c l p q m)).1,(Ft r c (gC r c l p q m)).2.1,(Ft r c (gC r c l p q m)).2.2.1,0) ((Ft r c (gC r c l u v h)).1,(Ft r c (gC r c l u v h)).2.1,(Ft r c (gC r c l u v h)).2.2.1,0)).2.2.2=(gY0 r c l p q m u v h).2.2.2:=s1
        have k4:(gY0 r c l p q m u v h).2.2.2≠0:=k3
        rw [A6.Solve.Apt,e,Ts k4,Auk]
        unfold gX2 gY2
        rw [if_pos k4,if_pos k4]
        exact Lp rfl
    · rw [Ts k2,Auk,if_pos k2,if_pos k2]; exact Lp rfl
  · rw [Ts k,Auk,if_pos k,if_pos k]
    exact Lp rfl)
namespace EqRef21
end EqRef21
open EqRef21
open EqRef21
theorem Jf.lo' {R:Nat} {x y:MX} (h:Jf R R x) (e:(Ua x y).2.2.2=0):∃ C,Jf R C (Ua x y)∧FM (Ua x y):=by
  obtain ⟨l,rfl,r6,c6,hl,al⟩:=h
  obtain ⟨P,Q,Y,e1,e2,a6,b6,e3,e4,e5,e6⟩:=Abz e
  dsimp only at e1 e2
  obtain rfl:P=R:=by omega
  have e7:Ua ((P:Int),(P:Int),l,0) y=((P:Int),(Q:Int),Y,0):=e3
  rw [e7]
  exact ⟨Q,.mk a6 b6 e4 e6,e5⟩
section
variable {N R C:Nat} {p q:Int} {l m:List Int} {Q L S w y:MX} {ok:Bool}
end
open EqRef21
section
variable {N n k b:Nat} {l m h:List Int} {Q R C W y f x:MX} {ok:Bool}
end
namespace EqRefM
def Ac.single.hint:Nat→Option A9
  | 0=>some { keep:=[0,1,5,6,7],objs:=[(0,5,100005,.ints 173 .u32 [])],boxes:=[] }
  | _=>none
def Ac.single.Bb:List (Nat × Entry):=[]
def Ac.single.E:Env:=Be (Ba Ac.single.Bb) (fun _=>false) Ac.single.hint (fun _=>none)
def Ac.single.L0 (N M:Nat) (a:List Int) (x p6 p7:Int) (p5:List Int):Option DV:=B7 Ac.single.E N Tryz.f175 (Al Tryz.f175) [1,1,1,0,1,0] [] M ⟨Fy 39 [(0,.ints .arg .u32 a),(1,.int .u32 x),(5,.oref 100005),(6,.int .u64 p6),(7,.int .i64 p7)],[(100005,false,.ints 173 .u32 p5)]⟩
theorem Ac.single.At (N M:Nat) (a:List Int) (x p6 p7:Int) (p5:List Int):Ac.single.L0 N (M+1) a x p6 p7 p5=bif (A4 p7 (List.length a:Int)) then bif ((decide (0≤p7))&&(decide (p7<(List.length a:Int)))) then bif (decide ((List.length p5)+1≤Gf)) then Ac.single.L0 N M a x (A7 (Int.tdiv (A7 ((A7 ((A7 (List.getD a (Int.toNat p7) 0))*(A7 x)))+p6)) 4294967296)) (Ab (p7+1)) (p5++[(Hj (Int.tmod (A7 ((A7 ((A7 (List.getD a (Int.toNat p7) 0))*(A7 x)))+p6)) 4294967296))]) else none else none else bif (decide ((List.length p5)+1≤Gf)) then some (.ints (.own 38 173) .u32 (p5++[(Hj p6)])) else none:=by kernel_rfl
theorem Ac.single.ev (N:Nat) (a:List Int) (x:Int):B0 Ac.single.E N Tryz.f175 (Al Tryz.f175) [.ints .arg .u32 a,.int .u32 x] =
  Ac.single.L0 N N a x 0 0 []:=by kernel_rfl
abbrev _root_.Go.Proofs.S1.Ac.single.Kn:=A8 Tryz.prog 175 Ac.single.spec
theorem Ac.single.Ad (hk:Az Tryz.prog Ac.single.Bb) (h:∀ (a:List Int) (x:Int),Ac.single.pre [.l a,.i x]=true→Bf Ac.single.E Tryz.f175 [.ints .arg .u32 a,.int .u32 x] (Ac.single.out [.l a,.i x])):Ac.single.Kn :=
  Ak (A0 hk _ _ _) Tryz.func175 (by kernel_rfl) (by kernel_rfl) h
def Ac.Mul.hint:Nat→Option A9
  | 0=>some { keep:=[2,3,4,5,6],objs:=[(0,5,100005,.ints 173 .u32 [])],boxes:=[2,3,4] }
  | _=>none
def Ac.Mul.Bb:List (Nat × Entry):=[(171,Ac.Made.spec),(174,Ac.plus.own.spec),(175,Ac.single.spec)]
def Ac.Mul.E:Env:=Be (Ba Ac.Mul.Bb) (fun n=>Nat.beq n 29) Ac.Mul.hint (fun _=>none)
def Ac.Mul.L0 (N M:Nat) (n:Bool) (a:List Int) (m:Bool) (b:List Int) (p6:Int) (p5:List Int):Option DV:=B7 Ac.Mul.E N Tryz.f110 (Al Tryz.f110) [1,1,0,1,0] [] M ⟨Fy 37 [(2,.ptr 2 0 0),(3,.ptr 3 0 0),(4,.ptr 4 0 0),(5,.oref 100005),(6,.int .i64 p6)],[(2,false,.box [.bool n,.ints .arg .u32 a]),(3,false,.box [.bool m,.ints .arg .u32 b]),(4,false,.box [.bool false,.nil]),(100005,false,.ints 173 .u32 p5)]⟩
theorem Ac.Mul.At (N M:Nat) (n:Bool) (a:List Int) (m:Bool) (b:List Int) (p6:Int) (p5:List Int):Ac.Mul.L0 N (M+1) n a m b p6 p5=bif (Dv 0 p6) then bif (decide (1+(List.length p5)≤Gf)) then bif ((decide (0≤p6))&&(decide (p6<(List.length b:Int)))) then bif (Fh a&&Afy (List.getD b (Int.toNat p6) 0)) then bif (Fh ([(0:Int)]++p5)&&Fh (singleL a (List.getD b (Int.toNat p6) 0))) then Ac.Mul.L0 N M n a m b (Ab (p6-1)) (He ([(0:Int)]++p5) (singleL a (List.getD b (Int.toNat p6) 0))) else none else none else none else none else bif (Fh p5) then some (.agg [.bool (Av (wv (!(n==m)) p5)),.ints .arg .u32 (Ae (wv (!(n==m)) p5))]) else none :=
  Eq.trans (by kernel_rfl)
  (Ev (Ev (C3 (Li (decide (0≤p6)) (decide (p6<(List.length b:Int)))) (C3 (C4 (Fh a&&Afy (List.getD b (Int.toNat p6) 0))) (C3 (C4 (Fh ([(0:Int)]++p5)&&Fh (singleL a (List.getD b (Int.toNat p6) 0)))) rfl rfl) rfl) rfl) rfl) rfl)
theorem Ac.Mul.ev (N:Nat) (n:Bool) (a:List Int) (m:Bool) (b:List Int):B0 Ac.Mul.E N Tryz.f110 (Al Tryz.f110) [.agg [.bool n,.ints .arg .u32 a],.agg [.bool m,.ints .arg .u32 b]] =
  Ac.Mul.L0 N N n a m b (Ab ((List.length b:Int)-1)) []:=by kernel_rfl
abbrev _root_.Go.Proofs.S1.Ac.Mul.Kn:=A8 Tryz.prog 110 Ac.Mul.spec
theorem Ac.Mul.Ad (hk:Az Tryz.prog Ac.Mul.Bb) (h:∀ (n:Bool) (a:List Int) (m:Bool) (b:List Int),Ac.Mul.pre [.b n,.l a,.b m,.l b]=true→Bf Ac.Mul.E Tryz.f110 [.agg [.bool n,.ints .arg .u32 a],.agg [.bool m,.ints .arg .u32 b]] (Ac.Mul.out [.b n,.l a,.b m,.l b])):Ac.Mul.Kn :=
  Ak (A0 hk _ _ _) Tryz.func110 (by kernel_rfl) (by kernel_rfl) h
def Ay.Mul.Bb:List (Nat × Entry):=[(110,Ac.Mul.spec),(109,Ay.Of.spec)]
def Ay.Mul.E:Env:=Be (Ba Ay.Mul.Bb) (fun _=>false) (fun _=>none) (fun _=>none)
theorem Ay.Mul.ev (N:Nat) (n:Bool) (a:List Int) (e:Int) (m:Bool) (b:List Int) (f:Int):B0 Ay.Mul.E N Tryz.f41 (Al Tryz.f41) [.agg [.bool n,.ints .arg .u32 a,.int .i64 e],.agg [.bool m,.ints .arg .u32 b,.int .i64 f]]=bif (Zb n a&&Zb m b) then bif (Ib (Av (wv n a*wv m b)) (Ae (wv n a*wv m b))&&S2 (Ab (e+f))) then some (.agg [.bool (Av (mD (wv (Av (wv n a*wv m b)) (Ae (wv n a*wv m b))))),.ints .arg .u32 (Ae (mD (wv (Av (wv n a*wv m b)) (Ae (wv n a*wv m b))))),.int .i64 (eD (wv (Av (wv n a*wv m b)) (Ae (wv n a*wv m b))) (Ab (e+f)))]) else none else none :=
  Eq.trans (by kernel_rfl)
  (C3 (C4 (Zb n a&&Zb m b)) (C3 (C4 (Ib (Av (wv n a*wv m b)) (Ae (wv n a*wv m b))&&S2 (Ab (e+f)))) rfl rfl) rfl)
abbrev _root_.Go.Proofs.S1.Ay.Mul.Kn:=A8 Tryz.prog 41 Ay.Mul.spec
theorem Ay.Mul.Ad (hk:Az Tryz.prog Ay.Mul.Bb) (h:∀ (n:Bool) (a:List Int) (e:Int) (m:Bool) (b:List Int) (f:Int),Ay.Mul.pre [.b n,.l a,.i e,.b m,.l b,.i f]=true→Bf Ay.Mul.E Tryz.f41 [.agg [.bool n,.ints .arg .u32 a,.int .i64 e],.agg [.bool m,.ints .arg .u32 b,.int .i64 f]] (Ay.Mul.out [.b n,.l a,.i e,.b m,.l b,.i f])):Ay.Mul.Kn :=
  Ak (A0 hk _ _ _) Tryz.func41 (by kernel_rfl) (by kernel_rfl) h
abbrev _root_.Go.Proofs.S1.Ac.plus.own.Kn:Prop:=A8 Tryz.prog 174 Ac.plus.own.spec
theorem _root_.Go.Proofs.S1.Ac.plus.own.call:∀ (args:Array Value) (w:World),(callFunc 174 args).run Tryz.prog w=.ok (.enter 174 args) w:=Ni Tryz.func174 (by kernel_rfl) (show Tryz.f174.body=some (Al Tryz.f174) by kernel_rfl)
theorem _root_.Go.Proofs.S1.Ac.plus.meets {E:Env} (he:H7 Tryz.prog E) {ts:List AT} {pre:List Atom→Bool} {out:List Atom→DV} (h:∀ ats ds,Ez ts ats ds→pre ats=true→∃ fuel d drops,B0 E fuel Tryz.f174 (Al Tryz.f174) ds=some d∧Wk drops d (out ats)):T5 Tryz.prog 174 (entry ts pre out):=Oj he Tryz.func174 (show Tryz.f174.body=some (Al Tryz.f174) by kernel_rfl) h
end EqRefM
open EqRefM
theorem Uk {n:Bool} {l:List Int} (h:Zb n l=true):∃ v,n=Av v∧l=Ae v∧C0 v.natAbs<33554432:=by
  have h:=Ap.1 h
  obtain ⟨h1,h2,h3⟩:=h
  obtain ⟨e1,e2⟩:=Tf h2 h3
  refine ⟨wv n l,e1,e2,?_⟩
  rw [e2,B3] at h1
  exact h1
theorem Aq0 {v:Int} (h:C0 v.natAbs<33554432):Zb (Av v) (Ae v)=true :=
  Ap.2 ⟨by rw [B3]; exact h,Wo v⟩
theorem Ac.plus.own.known:Ac.plus.own.Kn:=by
  refine ⟨Ac.plus.meets (E:=EqRefA.Ac.plus.E) (A0 (.cons Ac.Hu.known .nil) _ _ _) fun ats dvs he hp=>?_,Ac.plus.own.call⟩
  obtain ⟨a,_,_,rfl,rfl,he0⟩:=he.Aph
  obtain ⟨b,_,_,rfl,rfl,he1⟩:=he0.Aph
  obtain ⟨rfl,rfl⟩:=he1.Zi
  obtain ⟨ha,hb⟩:=Ag.1 (show (Fh a&&Fh b)=true from hp)
  refine ⟨max a.length b.length+2,.ints (.own 100005 tW) .u32 (He a b),[],?_,.keep _ _ _ _ (List.not_mem_nil)⟩
  rw [EqRefA.Ac.plus.ev]
  exact Xo _ ha hb (max a.length b.length+1) 0 0 _ (by omega) (by omega) (by omega) (by simp)
theorem Yz {x y c:Nat} (hx:x<4294967296) (hy:y<4294967296) (hc:c<4294967296):x*y+c<18446744073709551616:=by
  have:=Nat.mul_le_mul (show x≤4294967295 by omega) (show y≤4294967295 by omega)
  omega
theorem Aa5 (N:Nat) {a:List Int} {X:Nat} (ha:Fh a=true) (hX:X<4294967296):∀ (k i c F:Nat),i+k=a.length→k<F→c<4294967296 →
    By a / 2^(32*i)*X+c=By a*X / 2^(32*i) →
    Ac.single.L0 N F a (X:Int) (c:Int) (i:Int) (digits i (By a*X))=some (.ints (.own 38 tW) .u32 (singleL a (X:Int))):=by
  obtain ⟨la,ia⟩:=Il ha
  intro k
  induction k with
  | zero =>
    intro i c F hi hF hc h
    obtain ⟨F,rfl⟩:∃ G,F=G+1:=⟨F-1,by omega⟩
    have t0:decide ((i:Int)<(a.length:Int))=false:=Aup (by omega)
    have t1:decide ((digits i (By a*X)).length+1≤Gf)=true:=Aul (by rw [Dn]; unfold Gf; omega)
    have hz:By a / 2^(32*i)=0:=Nat.div_eq_of_lt (by rw [show i=a.length by omega]; exact Ie ia)
    rw [hz,Nat.zero_mul,Nat.zero_add] at h
    rw [Ac.single.At,Au,t0,Auo,t1,Auk,Hi (by omega) (by omega)]
    unfold singleL
    rw [Aum,H6,← show i=a.length by omega,← h,Aux hc]
  | succ k ih =>
    intro i c F hi hF hc h
    obtain ⟨F,rfl⟩:∃ G,F=G+1:=⟨F-1,by omega⟩
    have t0:decide ((i:Int)<(a.length:Int))=true:=Aul (by omega)
    have t2:decide ((0:Int)≤(i:Int))=true:=Aul (by omega)
    have t1:decide ((digits i (By a*X)).length+1≤Gf)=true:=Aul (by rw [Dn]; unfold Gf; omega)
    rw [Ac.single.At,Au,t0,t1,t2]
    simp only [Auk,Auq]
    rw [Aum,Lt ia i]
    have ih:=ih (i+1)
    rw [J9,Nat.mul_comm 4294967296,← Nat.div_div_eq_div_mul,← Nat.div_div_eq_div_mul,H6] at ih
    generalize By a / 2^(32*i)=x at *
    generalize By a*X / 2^(32*i)=z at *
    have hb:=Yz (x:=x%4294967296) (y:=X) (c:=c) (Nat.mod_lt _ (by decide)) hX hc
    have hm:x*X=x / 4294967296*X*4294967296+x%4294967296*X:=by
      rw [Nat.mul_right_comm,← Nat.add_mul]
      congr 1
      omega
    have e1:A7 (A7 (A7 ((x%4294967296:Nat):Int)*A7 (X:Int))+(c:Int))=((x%4294967296*X+c:Nat):Int):=by
      rw [Cn (x:=((x%4294967296:Nat):Int)) (by omega) (by omega),Cn (x:=(X:Int)) (by omega) (by omega),← Au5,Cn (x:=((x%4294967296*X:Nat):Int)) (by omega) (by omega),Cn (by omega) (by omega)]
      omega
    have hlt:(x%4294967296*X+c) / 4294967296<4294967296:=by omega
    rw [e1,Ab2,Hk,Hl,Hi (by omega) (by omega),Cn (by omega) (by omega),An (by omega) (by omega)]
    rw [hm] at h
    generalize x%4294967296*X=p at *
    generalize x / 4294967296*X=q at *
    have e2:(p+c)%4294967296=z%4294967296:=by omega
    rw [e2]
    exact ih ((p+c) / 4294967296) F (by omega) (by omega) hlt (by omega)
theorem Ac.single.known:Ac.single.Kn:=Ac.single.Ad .nil fun a x hp=>by
  obtain ⟨ha,hx⟩:=Ag.1 hp
  have hx:=Ap.1 hx
  obtain ⟨X,rfl⟩:∃ k:Nat,x=k:=⟨x.toNat,by omega⟩
  refine ⟨a.length+1,.ints (.own 38 tW) .u32 (singleL a X),[38],?_,Y7⟩
  rw [Ac.single.ev]
  exact Aa5 _ ha (by omega) a.length 0 0 _ (by omega) (by omega) (by omega) (by simp)
theorem Va (a:List Int) (x:Int):R4 (singleL a x):=K0 _ _
theorem N9 (a:List Int) (x:Int):(singleL a x).length=a.length+1:=Dn _ _
theorem Aa6 {a:List Int} (ia:R4 a) {X:Nat} (hX:X<4294967296):By (singleL a (X:Int))=By a*X:=by
  have h:=Ie ia
  unfold singleL
  rw [Hx,Aum,Aux]
  rw [J9,Nat.mul_comm 4294967296]
  exact Nat.mul_lt_mul'' h hX
theorem Aj1 (N:Nat) {n m:Bool} {a b:List Int} (ha:R4 a) (hb:R4 b) (la:a.length<33554432) (lb:b.length<33554432) :
    ∀ (j F:Nat) (p:List Int),j≤b.length→j<F→R4 p→p.length≤a.length+2*(b.length-j)→By p=By a*(By b / 2^(32*j)) →
    Ac.Mul.L0 N F n a m b ((j:Int)-1) p=some (.agg [.bool (Av (H8 (!(n==m)) (By a*By b))),.ints .arg .u32 (Ae (H8 (!(n==m)) (By a*By b)))]):=by
  intro j
  induction j with
  | zero =>
    intro F p hj hF ip lp vp
    obtain ⟨F,rfl⟩:∃ G,F=G+1:=⟨F-1,by omega⟩
    have o:Fh p=true:=Ik (by omega) ip
    rw [Nat.mul_zero,Nat.pow_zero,Nat.div_one] at vp
    rw [Ac.Mul.At,Ed,Aup (by omega),Auo,o,Auk]
    unfold wv
    rw [vp]
  | succ j ih =>
    intro F p hj hF ip lp vp
    obtain ⟨F,rfl⟩:∃ G,F=G+1:=⟨F-1,by omega⟩
    have e0:((j+1:Nat):Int)-1=(j:Int):=by omega
    have hX:By b / 2^(32*j)%4294967296<4294967296:=Nat.mod_lt _ (by decide)
    have o1:Fh a=true:=Ik (by omega) ha
    have i0:R4 ([(0:Int)]++p):=Aca ip
    have o2:Fh ([(0:Int)]++p)=true:=Ik (by rw [List.length_append]; show 1+p.length<_; omega) i0
    have o3:Fh (singleL a ((By b / 2^(32*j)%4294967296:Nat):Int))=true:=Ik (by rw [N9]; omega) (Va _ _)
    have o4:Afy ((By b / 2^(32*j)%4294967296:Nat):Int)=true:=Ap.2 (by omega)
    have vz:By ([(0:Int)]++p)=4294967296*By p:=by
      show (0:Int).toNat+4294967296*By p=_
      rw [show (0:Int).toNat=0 from rfl,Nat.zero_add]
    have c1:decide (1+p.length≤Gf)=true:=Aul (by unfold Gf; omega)
    have c2:decide ((j:Int)<(b.length:Int))=true:=Aul (by omega)
    have c3:decide ((0:Int)≤(j:Int))=true:=Aul (by omega)
    rw [e0,Ac.Mul.At,Ed,c3,Auk,c1,Auk,c2,Auq,Auk,Aum,Lt hb j,o1,o4,Auq,Auk,o2,o3,Auq,Auk,An (by omega) (by omega)]
    refine ih F _ (by omega) (by omega) (Vm _ _) ?_ ?_
    · rw [M3,List.length_append,N9]
      show max (1+p.length) _+1≤_
      omega
    · rw [Xp i0 (Va _ _),vz,Aa6 ha hX,vp,J9,Nat.mul_comm 4294967296 (2^(32*j)),← Nat.div_div_eq_div_mul,Nat.mul_left_comm,← Nat.mul_add]
      congr 1
      omega
theorem Am8 (s t:Bool) (x y:Nat):H8 (!(s==t)) (x*y)=H8 s x*H8 t y:=by
  unfold H8
  cases s<;>cases t<;>simp [Au5,Int.neg_mul,Int.mul_neg]
theorem Ac.Mul.known:Ac.Mul.Kn:=Ac.Mul.Ad (.cons Ac.Made.known (.cons Ac.plus.own.known (.cons Ac.single.known .nil))) fun n a m b hp=>by
  obtain ⟨h1,h2⟩:=Ag.1 hp
  obtain ⟨v,rfl,rfl,hv⟩:=Uk h1
  obtain ⟨w,rfl,rfl,hw⟩:=Uk h2
  refine ⟨(Ae w).length+1,Ac.Mul.out [.b (Av v),.l (Ae v),.b (Av w),.l (Ae w)],[],?_,Yq⟩
  have lv:=B3 v
  have lw:=B3 w
  have iw:=Fe w
  have hz:By (Ae w) / 2^(32*(Ae w).length)=0:=Nat.div_eq_of_lt (Ie iw)
  rw [Ac.Mul.ev,An (by omega) (by omega)]
  refine (Aj1 _ (Fe v) iw (by omega) (by omega) (Ae w).length _ [] (Nat.le_refl _) (by omega) (fun x h=>by cases h) (by show 0≤_; omega) (by rw [hz,Nat.mul_zero]; rfl)).trans ?_
  rw [Am8]
  rfl
theorem Akr (n m:Nat):C0 (n*m)≤C0 n+C0 m:=by
  refine Ko ?_
  rw [Nat.mul_add,Nat.pow_add]
  exact Nat.mul_lt_mul'' (Io n) (Io m)
theorem Ay.Mul.known:Ay.Mul.Kn:=Ay.Mul.Ad (.cons Ac.Mul.known (.cons Ay.Of.known .nil)) fun n a e m b f hp=>by
  obtain ⟨h1,h2⟩:=Ag.1 hp
  obtain ⟨h3,h4⟩:=Ag.1 h2
  have he:=Ap.1 h3
  have hf:=Ap.1 h4
  obtain ⟨h5,h6⟩:=Ag.1 h1
  obtain ⟨v,rfl,rfl,hv⟩:=Uk h5
  obtain ⟨w,rfl,rfl,hw⟩:=Uk h6
  refine ⟨0,Ay.Mul.out [.b (Av v),.l (Ae v),.i e,.b (Av w),.l (Ae w),.i f],[],?_,wdy⟩
  have hl:=Akr v.natAbs w.natAbs
  have o1:Ib (Av (v*w)) (Ae (v*w))=true:=I8 (by rw [Int.natAbs_mul]; omega)
  have o2:S2 (e+f)=true:=Ap.2 (by omega)
  rw [Ay.Mul.ev,h5,h6,Auq,Auk,An (by omega) (by omega)]
  simp only [Fo]
  rw [o1,o2,Auq,Auk]
  show _=some (DV.agg [.bool (Av (mD (wv (Av v) (Ae v)*wv (Av w) (Ae w)))),.ints .arg .u32 (Ae (mD (wv (Av v) (Ae v)*wv (Av w) (Ae w)))),.int .i64 (eD (wv (Av v) (Ae v)*wv (Av w) (Ae w)) (e+f))])
  rw [Fo,Fo]
namespace EqLaw17
end EqLaw17
open EqLaw17
namespace EqLaw21
def Bm.Cl.hint:Nat→Option A9
  | 0=>some { keep:=[0,2,3,4],objs:=[],boxes:=[2,3] }
  | _=>none
def Bm.Cl.Bb:List (Nat × Entry):=[(42,Ay.Add.spec),(41,Ay.Mul.spec),(63,A5.Value.spec)]
def Bm.Cl.E:Env:=Be (Ba Bm.Cl.Bb) (fun _=>false) Bm.Cl.hint (fun _=>none)
def Bm.Cl.L0 (N M:Nat) (x:List Int):Option DV:=B7 Bm.Cl.E N Tryz.f55 (Al Tryz.f55) [1,1,0,1,0] [] M ⟨Fy 24 [(0,.ints .arg .u64 x),(2,.ptr 2 0 0),(3,.ptr 3 0 0),(4,.int .i64 0)],[(2,false,.box [.bool false,.nil,.int .i64 0]),(3,false,.box [.bool false,.nil,.int .i64 0])]⟩
def Bm.Cl.L1 (N M:Nat) (x:List Int) (p4:Int) (p3:Bool) (p3_1:List Int) (p3_2:Int):Option DV:=B7 Bm.Cl.E N Tryz.f55 (Al Tryz.f55) [1,1,0,1,0] [] M ⟨Fy 24 [(0,.ints .arg .u64 x),(2,.ptr 2 0 0),(3,.ptr 3 0 0),(4,.int .i64 p4)],[(2,false,.box [.bool false,.nil,.int .i64 0]),(3,false,.box [.bool p3,.ints .arg .u32 p3_1,.int .i64 p3_2])]⟩
theorem Bm.Cl.At (N M:Nat) (x:List Int):Bm.Cl.L0 N (M+1) x=bif (A4 0 (List.length x:Int)) then bif (decide ((0:Int)<(List.length x:Int))) then bif (Ai (List.getD x 0 0)) then bif ((Zb (Av (mD (A2 (List.getD x 0 0)))) (Ae (mD (A2 (List.getD x 0 0))))&&Zb (Av (mD (A2 (List.getD x 0 0)))) (Ae (mD (A2 (List.getD x 0 0)))))&&(S3 (eD (A2 (List.getD x 0 0)) (Aw (List.getD x 0 0)))&&S3 (eD (A2 (List.getD x 0 0)) (Aw (List.getD x 0 0))))) then bif (((Wy false []&&Wy (Av (mD (wv (Av (mD (A2 (List.getD x 0 0)))) (Ae (mD (A2 (List.getD x 0 0))))*wv (Av (mD (A2 (List.getD x 0 0)))) (Ae (mD (A2 (List.getD x 0 0))))))) (Ae (mD (wv (Av (mD (A2 (List.getD x 0 0)))) (Ae (mD (A2 (List.getD x 0 0))))*wv (Av (mD (A2 (List.getD x 0 0)))) (Ae (mD (A2 (List.getD x 0 0))))))))&&S3 0)&&S3 (eD (wv (Av (mD (A2 (List.getD x 0 0)))) (Ae (mD (A2 (List.getD x 0 0))))*wv (Av (mD (A2 (List.getD x 0 0)))) (Ae (mD (A2 (List.getD x 0 0))))) ((eD (A2 (List.getD x 0 0)) (Aw (List.getD x 0 0)))+(eD (A2 (List.getD x 0 0)) (Aw (List.getD x 0 0)))))) then Bm.Cl.L1 N M x 1 (Av (Acz (wv false []) 0 (wv (Av (mD (wv (Av (mD (A2 (List.getD x 0 0)))) (Ae (mD (A2 (List.getD x 0 0))))*wv (Av (mD (A2 (List.getD x 0 0)))) (Ae (mD (A2 (List.getD x 0 0))))))) (Ae (mD (wv (Av (mD (A2 (List.getD x 0 0)))) (Ae (mD (A2 (List.getD x 0 0))))*wv (Av (mD (A2 (List.getD x 0 0)))) (Ae (mD (A2 (List.getD x 0 0)))))))) (eD (wv (Av (mD (A2 (List.getD x 0 0)))) (Ae (mD (A2 (List.getD x 0 0))))*wv (Av (mD (A2 (List.getD x 0 0)))) (Ae (mD (A2 (List.getD x 0 0))))) ((eD (A2 (List.getD x 0 0)) (Aw (List.getD x 0 0)))+(eD (A2 (List.getD x 0 0)) (Aw (List.getD x 0 0))))))) (Ae (Acz (wv false []) 0 (wv (Av (mD (wv (Av (mD (A2 (List.getD x 0 0)))) (Ae (mD (A2 (List.getD x 0 0))))*wv (Av (mD (A2 (List.getD x 0 0)))) (Ae (mD (A2 (List.getD x 0 0))))))) (Ae (mD (wv (Av (mD (A2 (List.getD x 0 0)))) (Ae (mD (A2 (List.getD x 0 0))))*wv (Av (mD (A2 (List.getD x 0 0)))) (Ae (mD (A2 (List.getD x 0 0)))))))) (eD (wv (Av (mD (A2 (List.getD x 0 0)))) (Ae (mD (A2 (List.getD x 0 0))))*wv (Av (mD (A2 (List.getD x 0 0)))) (Ae (mD (A2 (List.getD x 0 0))))) ((eD (A2 (List.getD x 0 0)) (Aw (List.getD x 0 0)))+(eD (A2 (List.getD x 0 0)) (Aw (List.getD x 0 0))))))) (Amd (wv false []) 0 (wv (Av (mD (wv (Av (mD (A2 (List.getD x 0 0)))) (Ae (mD (A2 (List.getD x 0 0))))*wv (Av (mD (A2 (List.getD x 0 0)))) (Ae (mD (A2 (List.getD x 0 0))))))) (Ae (mD (wv (Av (mD (A2 (List.getD x 0 0)))) (Ae (mD (A2 (List.getD x 0 0))))*wv (Av (mD (A2 (List.getD x 0 0)))) (Ae (mD (A2 (List.getD x 0 0)))))))) (eD (wv (Av (mD (A2 (List.getD x 0 0)))) (Ae (mD (A2 (List.getD x 0 0))))*wv (Av (mD (A2 (List.getD x 0 0)))) (Ae (mD (A2 (List.getD x 0 0))))) ((eD (A2 (List.getD x 0 0)) (Aw (List.getD x 0 0)))+(eD (A2 (List.getD x 0 0)) (Aw (List.getD x 0 0)))))) else none else none else none else none else some (.agg [.bool false,.nil,.int .i64 0]) :=
  Eq.trans (by kernel_rfl)
  (Ev (Ev (Ev (C3 (C4 ((Zb (Av (mD (A2 (List.getD x 0 0)))) (Ae (mD (A2 (List.getD x 0 0))))&&Zb (Av (mD (A2 (List.getD x 0 0)))) (Ae (mD (A2 (List.getD x 0 0)))))&&(S3 (eD (A2 (List.getD x 0 0)) (Aw (List.getD x 0 0)))&&S3 (eD (A2 (List.getD x 0 0)) (Aw (List.getD x 0 0)))))) (C3 (C4 (((Wy false []&&Wy (Av (mD (wv (Av (mD (A2 (List.getD x 0 0)))) (Ae (mD (A2 (List.getD x 0 0))))*wv (Av (mD (A2 (List.getD x 0 0)))) (Ae (mD (A2 (List.getD x 0 0))))))) (Ae (mD (wv (Av (mD (A2 (List.getD x 0 0)))) (Ae (mD (A2 (List.getD x 0 0))))*wv (Av (mD (A2 (List.getD x 0 0)))) (Ae (mD (A2 (List.getD x 0 0))))))))&&S3 0)&&S3 (eD (wv (Av (mD (A2 (List.getD x 0 0)))) (Ae (mD (A2 (List.getD x 0 0))))*wv (Av (mD (A2 (List.getD x 0 0)))) (Ae (mD (A2 (List.getD x 0 0))))) ((eD (A2 (List.getD x 0 0)) (Aw (List.getD x 0 0)))+(eD (A2 (List.getD x 0 0)) (Aw (List.getD x 0 0))))))) rfl rfl) rfl) rfl) rfl) rfl)
theorem Bm.Cl.Ck (N M:Nat) (x:List Int) (p4:Int) (p3:Bool) (p3_1:List Int) (p3_2:Int):Bm.Cl.L1 N (M+1) x p4 p3 p3_1 p3_2=bif (A4 p4 (List.length x:Int)) then bif ((decide (0≤p4))&&(decide (p4<(List.length x:Int)))) then bif (Ai (List.getD x (Int.toNat p4) 0)) then bif ((Zb (Av (mD (A2 (List.getD x (Int.toNat p4) 0)))) (Ae (mD (A2 (List.getD x (Int.toNat p4) 0))))&&Zb (Av (mD (A2 (List.getD x (Int.toNat p4) 0)))) (Ae (mD (A2 (List.getD x (Int.toNat p4) 0)))))&&(S3 (eD (A2 (List.getD x (Int.toNat p4) 0)) (Aw (List.getD x (Int.toNat p4) 0)))&&S3 (eD (A2 (List.getD x (Int.toNat p4) 0)) (Aw (List.getD x (Int.toNat p4) 0))))) then bif (((Wy p3 p3_1&&Wy (Av (mD (wv (Av (mD (A2 (List.getD x (Int.toNat p4) 0)))) (Ae (mD (A2 (List.getD x (Int.toNat p4) 0))))*wv (Av (mD (A2 (List.getD x (Int.toNat p4) 0)))) (Ae (mD (A2 (List.getD x (Int.toNat p4) 0))))))) (Ae (mD (wv (Av (mD (A2 (List.getD x (Int.toNat p4) 0)))) (Ae (mD (A2 (List.getD x (Int.toNat p4) 0))))*wv (Av (mD (A2 (List.getD x (Int.toNat p4) 0)))) (Ae (mD (A2 (List.getD x (Int.toNat p4) 0))))))))&&S3 p3_2)&&S3 (eD (wv (Av (mD (A2 (List.getD x (Int.toNat p4) 0)))) (Ae (mD (A2 (List.getD x (Int.toNat p4) 0))))*wv (Av (mD (A2 (List.getD x (Int.toNat p4) 0)))) (Ae (mD (A2 (List.getD x (Int.toNat p4) 0))))) ((eD (A2 (List.getD x (Int.toNat p4) 0)) (Aw (List.getD x (Int.toNat p4) 0)))+(eD (A2 (List.getD x (Int.toNat p4) 0)) (Aw (List.getD x (Int.toNat p4) 0)))))) then Bm.Cl.L1 N M x (Ab (p4+1)) (Av (Acz (wv p3 p3_1) p3_2 (wv (Av (mD (wv (Av (mD (A2 (List.getD x (Int.toNat p4) 0)))) (Ae (mD (A2 (List.getD x (Int.toNat p4) 0))))*wv (Av (mD (A2 (List.getD x (Int.toNat p4) 0)))) (Ae (mD (A2 (List.getD x (Int.toNat p4) 0))))))) (Ae (mD (wv (Av (mD (A2 (List.getD x (Int.toNat p4) 0)))) (Ae (mD (A2 (List.getD x (Int.toNat p4) 0))))*wv (Av (mD (A2 (List.getD x (Int.toNat p4) 0)))) (Ae (mD (A2 (List.getD x (Int.toNat p4) 0)))))))) (eD (wv (Av (mD (A2 (List.getD x (Int.toNat p4) 0)))) (Ae (mD (A2 (List.getD x (Int.toNat p4) 0))))*wv (Av (mD (A2 (List.getD x (Int.toNat p4) 0)))) (Ae (mD (A2 (List.getD x (Int.toNat p4) 0))))) ((eD (A2 (List.getD x (Int.toNat p4) 0)) (Aw (List.getD x (Int.toNat p4) 0)))+(eD (A2 (List.getD x (Int.toNat p4) 0)) (Aw (List.getD x (Int.toNat p4) 0))))))) (Ae (Acz (wv p3 p3_1) p3_2 (wv (Av (mD (wv (Av (mD (A2 (List.getD x (Int.toNat p4) 0)))) (Ae (mD (A2 (List.getD x (Int.toNat p4) 0))))*wv (Av (mD (A2 (List.getD x (Int.toNat p4) 0)))) (Ae (mD (A2 (List.getD x (Int.toNat p4) 0))))))) (Ae (mD (wv (Av (mD (A2 (List.getD x (Int.toNat p4) 0)))) (Ae (mD (A2 (List.getD x (Int.toNat p4) 0))))*wv (Av (mD (A2 (List.getD x (Int.toNat p4) 0)))) (Ae (mD (A2 (List.getD x (Int.toNat p4) 0)))))))) (eD (wv (Av (mD (A2 (List.getD x (Int.toNat p4) 0)))) (Ae (mD (A2 (List.getD x (Int.toNat p4) 0))))*wv (Av (mD (A2 (List.getD x (Int.toNat p4) 0)))) (Ae (mD (A2 (List.getD x (Int.toNat p4) 0))))) ((eD (A2 (List.getD x (Int.toNat p4) 0)) (Aw (List.getD x (Int.toNat p4) 0)))+(eD (A2 (List.getD x (Int.toNat p4) 0)) (Aw (List.getD x (Int.toNat p4) 0))))))) (Amd (wv p3 p3_1) p3_2 (wv (Av (mD (wv (Av (mD (A2 (List.getD x (Int.toNat p4) 0)))) (Ae (mD (A2 (List.getD x (Int.toNat p4) 0))))*wv (Av (mD (A2 (List.getD x (Int.toNat p4) 0)))) (Ae (mD (A2 (List.getD x (Int.toNat p4) 0))))))) (Ae (mD (wv (Av (mD (A2 (List.getD x (Int.toNat p4) 0)))) (Ae (mD (A2 (List.getD x (Int.toNat p4) 0))))*wv (Av (mD (A2 (List.getD x (Int.toNat p4) 0)))) (Ae (mD (A2 (List.getD x (Int.toNat p4) 0)))))))) (eD (wv (Av (mD (A2 (List.getD x (Int.toNat p4) 0)))) (Ae (mD (A2 (List.getD x (Int.toNat p4) 0))))*wv (Av (mD (A2 (List.getD x (Int.toNat p4) 0)))) (Ae (mD (A2 (List.getD x (Int.toNat p4) 0))))) ((eD (A2 (List.getD x (Int.toNat p4) 0)) (Aw (List.getD x (Int.toNat p4) 0)))+(eD (A2 (List.getD x (Int.toNat p4) 0)) (Aw (List.getD x (Int.toNat p4) 0)))))) else none else none else none else none else some (.agg [.bool p3,.ints .arg .u32 p3_1,.int .i64 p3_2]) :=
  Eq.trans (by kernel_rfl)
  (Ev (Ev (Ev (C3 (C4 ((Zb (Av (mD (A2 (List.getD x (Int.toNat p4) 0)))) (Ae (mD (A2 (List.getD x (Int.toNat p4) 0))))&&Zb (Av (mD (A2 (List.getD x (Int.toNat p4) 0)))) (Ae (mD (A2 (List.getD x (Int.toNat p4) 0)))))&&(S3 (eD (A2 (List.getD x (Int.toNat p4) 0)) (Aw (List.getD x (Int.toNat p4) 0)))&&S3 (eD (A2 (List.getD x (Int.toNat p4) 0)) (Aw (List.getD x (Int.toNat p4) 0)))))) (C3 (C4 (((Wy p3 p3_1&&Wy (Av (mD (wv (Av (mD (A2 (List.getD x (Int.toNat p4) 0)))) (Ae (mD (A2 (List.getD x (Int.toNat p4) 0))))*wv (Av (mD (A2 (List.getD x (Int.toNat p4) 0)))) (Ae (mD (A2 (List.getD x (Int.toNat p4) 0))))))) (Ae (mD (wv (Av (mD (A2 (List.getD x (Int.toNat p4) 0)))) (Ae (mD (A2 (List.getD x (Int.toNat p4) 0))))*wv (Av (mD (A2 (List.getD x (Int.toNat p4) 0)))) (Ae (mD (A2 (List.getD x (Int.toNat p4) 0))))))))&&S3 p3_2)&&S3 (eD (wv (Av (mD (A2 (List.getD x (Int.toNat p4) 0)))) (Ae (mD (A2 (List.getD x (Int.toNat p4) 0))))*wv (Av (mD (A2 (List.getD x (Int.toNat p4) 0)))) (Ae (mD (A2 (List.getD x (Int.toNat p4) 0))))) ((eD (A2 (List.getD x (Int.toNat p4) 0)) (Aw (List.getD x (Int.toNat p4) 0)))+(eD (A2 (List.getD x (Int.toNat p4) 0)) (Aw (List.getD x (Int.toNat p4) 0))))))) rfl rfl) rfl) rfl) rfl) rfl)
theorem Bm.Cl.ev (N:Nat) (x:List Int):B0 Bm.Cl.E N Tryz.f55 (Al Tryz.f55) [.ints .arg .u64 x] =
  Bm.Cl.L0 N N x:=by kernel_rfl
abbrev _root_.Go.Proofs.S1.Bm.Cl.Kn:=A8 Tryz.prog 55 Bm.Cl.spec
theorem Bm.Cl.Ad (hk:Az Tryz.prog Bm.Cl.Bb) (h:∀ (x:List Int),Bm.Cl.pre [.l x]=true→Bf Bm.Cl.E Tryz.f55 [.ints .arg .u64 x] (Bm.Cl.out [.l x])):Bm.Cl.Kn :=
  Ak (A0 hk _ _ _) Tryz.func55 (by kernel_rfl) (by kernel_rfl) h
def Ca.one.Bb:List (Nat × Entry):=[]
def Ca.one.E:Env:=Be (Ba Ca.one.Bb) (fun _=>false) (fun _=>none) (fun _=>none)
theorem Ca.one.ev (N:Nat) (b:Int):B0 Ca.one.E N Tryz.f134 (Al Tryz.f134) [.int .u64 b]=some (.agg [.int .i64 1,.int .i64 1,.ints (.own 4 37) .u64 [b]]):=by kernel_rfl
abbrev _root_.Go.Proofs.S1.Ca.one.Kn:=A8 Tryz.prog 134 Ca.one.spec
theorem Ca.one.Ad (hk:Az Tryz.prog Ca.one.Bb) (h:∀ (b:Int),Ca.one.pre [.i b]=true→Bf Ca.one.E Tryz.f134 [.int .u64 b] (Ca.one.out [.i b])):Ca.one.Kn :=
  Ak (A0 hk _ _ _) Tryz.func134 (by kernel_rfl) (by kernel_rfl) h
def Ca.Gj.Bb:List (Nat × Entry):=[(60,A6.Solve.spec),(134,Ca.one.spec),(54,Ay.D2.spec),(55,Bm.Cl.spec)]
def Ca.Gj.E:Env:=Be (Ba Ca.Gj.Bb) (fun _=>false) (fun _=>none) (fun _=>none)
theorem Ca.Gj.ev (N:Nat):B0 Ca.Gj.E N Tryz.f59 (Al Tryz.f59) []=bif (Th [] ([(4607182418800017408:Int)]) ([(4613937818241073152:Int)])) then bif ((!((((gX 1 0 [] 1 1 ([(4607182418800017408:Int)]) 1 1 ([(4613937818241073152:Int)])).2.2.2)==(0:Int))&&((List.length ((gY 1 0 [] 1 1 ([(4607182418800017408:Int)]) 1 1 ([(4613937818241073152:Int)])).2.2.1):Int)==(1:Int))))||(Cw ((gY 1 0 [] 1 1 ([(4607182418800017408:Int)]) 1 1 ([(4613937818241073152:Int)])).2.2.1)&&Cr (List.length ((gY 1 0 [] 1 1 ([(4607182418800017408:Int)]) 1 1 ([(4613937818241073152:Int)])).2.2.1)=1))) then bif ((((gX 1 0 [] 1 1 ([(4607182418800017408:Int)]) 1 1 ([(4613937818241073152:Int)])).2.2.2)==(0:Int))&&((List.length ((gY 1 0 [] 1 1 ([(4607182418800017408:Int)]) 1 1 ([(4613937818241073152:Int)])).2.2.1):Int)==(1:Int))) then bif (((((gX 1 0 [] 1 1 ([(4607182418800017408:Int)]) 1 1 ([(4613937818241073152:Int)])).2.2.2)==(0:Int))&&((List.length ((gY 1 0 [] 1 1 ([(4607182418800017408:Int)]) 1 1 ([(4613937818241073152:Int)])).2.2.1):Int)==(1:Int)))&&(Cw [(4613937818241073152:Int)]&&Cr (List.length [(4613937818241073152:Int)]=1))) then bif ((!((((gX 1 0 [] 1 1 ([(4607182418800017408:Int)]) 1 1 ([(4613937818241073152:Int)])).2.2.2)==(0:Int))&&((List.length ((gY 1 0 [] 1 1 ([(4607182418800017408:Int)]) 1 1 ([(4613937818241073152:Int)])).2.2.1):Int)==(1:Int))))||(Ib (Av (sqM (List.getD ((gY 1 0 [] 1 1 ([(4607182418800017408:Int)]) 1 1 ([(4613937818241073152:Int)])).2.2.1) 0 0))) (Ae (sqM (List.getD ((gY 1 0 [] 1 1 ([(4607182418800017408:Int)]) 1 1 ([(4613937818241073152:Int)])).2.2.1) 0 0)))&&Ib (Av (sqM (List.getD [(4613937818241073152:Int)] 0 0))) (Ae (sqM (List.getD [(4613937818241073152:Int)] 0 0))))) then some (.bool (bif (bif (((gX 1 0 [] 1 1 ([(4607182418800017408:Int)]) 1 1 ([(4613937818241073152:Int)])).2.2.2)==(0:Int)) then ((List.length ((gY 1 0 [] 1 1 ([(4607182418800017408:Int)]) 1 1 ([(4613937818241073152:Int)])).2.2.1):Int)==(1:Int)) else false) then (((decide ((sqE (List.getD ((gY 1 0 [] 1 1 ([(4607182418800017408:Int)]) 1 1 ([(4613937818241073152:Int)])).2.2.1) 0 0))=(sqE (List.getD [(4613937818241073152:Int)] 0 0))))&&Rh (wv (Av (sqM (List.getD ((gY 1 0 [] 1 1 ([(4607182418800017408:Int)]) 1 1 ([(4613937818241073152:Int)])).2.2.1) 0 0))) (Ae (sqM (List.getD ((gY 1 0 [] 1 1 ([(4607182418800017408:Int)]) 1 1 ([(4613937818241073152:Int)])).2.2.1) 0 0)))) (wv (Av (sqM (List.getD [(4613937818241073152:Int)] 0 0))) (Ae (sqM (List.getD [(4613937818241073152:Int)] 0 0)))))) else false)) else none else none else none else none else none :=
  Eq.trans (by kernel_rfl)
  (Ev (Ar (N2 (((gX 1 0 [] 1 1 ([(4607182418800017408:Int)]) 1 1 ([(4613937818241073152:Int)])).2.2.2)==(0:Int))) (Ar (Ke (((gX 1 0 [] 1 1 ([(4607182418800017408:Int)]) 1 1 ([(4613937818241073152:Int)])).2.2.2)==(0:Int))) (Ar (Ke (((gX 1 0 [] 1 1 ([(4607182418800017408:Int)]) 1 1 ([(4613937818241073152:Int)])).2.2.2)==(0:Int))) (Ar (Ke (((gX 1 0 [] 1 1 ([(4607182418800017408:Int)]) 1 1 ([(4613937818241073152:Int)])).2.2.2)==(0:Int))) (Ar (Sj (((gX 1 0 [] 1 1 ([(4607182418800017408:Int)]) 1 1 ([(4613937818241073152:Int)])).2.2.2)==(0:Int))) (Ar (As3 (((gX 1 0 [] 1 1 ([(4607182418800017408:Int)]) 1 1 ([(4613937818241073152:Int)])).2.2.2)==(0:Int)) ((List.length ((gY 1 0 [] 1 1 ([(4607182418800017408:Int)]) 1 1 ([(4613937818241073152:Int)])).2.2.1):Int)==(1:Int))) (Ar (Ap8 (((gX 1 0 [] 1 1 ([(4607182418800017408:Int)]) 1 1 ([(4613937818241073152:Int)])).2.2.2)==(0:Int)) ((List.length ((gY 1 0 [] 1 1 ([(4607182418800017408:Int)]) 1 1 ([(4613937818241073152:Int)])).2.2.1):Int)==(1:Int))) (C3 (tt95 (((gX 1 0 [] 1 1 ([(4607182418800017408:Int)]) 1 1 ([(4613937818241073152:Int)])).2.2.2)==(0:Int)) ((List.length ((gY 1 0 [] 1 1 ([(4607182418800017408:Int)]) 1 1 ([(4613937818241073152:Int)])).2.2.1):Int)==(1:Int)) (Cw ((gY 1 0 [] 1 1 ([(4607182418800017408:Int)]) 1 1 ([(4613937818241073152:Int)])).2.2.1)&&Cr (List.length ((gY 1 0 [] 1 1 ([(4607182418800017408:Int)]) 1 1 ([(4613937818241073152:Int)])).2.2.1)=1))) (C3 (Atq (((gX 1 0 [] 1 1 ([(4607182418800017408:Int)]) 1 1 ([(4613937818241073152:Int)])).2.2.2)==(0:Int)) ((List.length ((gY 1 0 [] 1 1 ([(4607182418800017408:Int)]) 1 1 ([(4613937818241073152:Int)])).2.2.1):Int)==(1:Int))) (C3 (Atr (((gX 1 0 [] 1 1 ([(4607182418800017408:Int)]) 1 1 ([(4613937818241073152:Int)])).2.2.2)==(0:Int)) ((List.length ((gY 1 0 [] 1 1 ([(4607182418800017408:Int)]) 1 1 ([(4613937818241073152:Int)])).2.2.1):Int)==(1:Int)) (Cw [(4613937818241073152:Int)]&&Cr (List.length [(4613937818241073152:Int)]=1))) (C3 (tt78 (((gX 1 0 [] 1 1 ([(4607182418800017408:Int)]) 1 1 ([(4613937818241073152:Int)])).2.2.2)==(0:Int)) ((List.length ((gY 1 0 [] 1 1 ([(4607182418800017408:Int)]) 1 1 ([(4613937818241073152:Int)])).2.2.1):Int)==(1:Int)) (Ib (Av (sqM (List.getD ((gY 1 0 [] 1 1 ([(4607182418800017408:Int)]) 1 1 ([(4613937818241073152:Int)])).2.2.1) 0 0))) (Ae (sqM (List.getD ((gY 1 0 [] 1 1 ([(4607182418800017408:Int)]) 1 1 ([(4613937818241073152:Int)])).2.2.1) 0 0)))&&Ib (Av (sqM (List.getD [(4613937818241073152:Int)] 0 0))) (Ae (sqM (List.getD [(4613937818241073152:Int)] 0 0))))) (Ar (As4 (((gX 1 0 [] 1 1 ([(4607182418800017408:Int)]) 1 1 ([(4613937818241073152:Int)])).2.2.2)==(0:Int)) ((List.length ((gY 1 0 [] 1 1 ([(4607182418800017408:Int)]) 1 1 ([(4613937818241073152:Int)])).2.2.1):Int)==(1:Int))) rfl) rfl) rfl) rfl) rfl)))))))) rfl)
abbrev _root_.Go.Proofs.S1.Ca.Gj.Kn:=A8 Tryz.prog 59 Ca.Gj.spec
theorem Ca.Gj.Ad (hk:Az Tryz.prog Ca.Gj.Bb) (h:∀ (_:Unit),Ca.Gj.pre []=true→Bf Ca.Gj.E Tryz.f59 [] (Ca.Gj.out [])):Ca.Gj.Kn :=
  Ak (A0 hk _ _ _) Tryz.func59 (by kernel_rfl) (by kernel_rfl) (h ())
end EqLaw21
open EqLaw21
theorem All {v e:Int} {t:Nat} (h:v.natAbs<2^t) (h0:0<t) (he:-3000≤e∧e≤3000) (ht:t≤300):S3 (eD v e)=true:=by
  refine Ap.2 ?_
  unfold eD
  by_cases k:v=0
  · rw [if_pos k]; omega
  · rw [if_neg k]
    have:=U1 (m:=v.natAbs) (t:=t) h (by omega)
    omega
theorem Ai8 (b:Nat):(mD (A2 (b:Int))*mD (A2 (b:Int))).natAbs<2^106:=by
  have hm:=Ei b
  have ha:=Q5 b
  have h1:(mD (A2 (b:Int))).natAbs<2^53:=by
    have:=Pl (A2 (b:Int))
    omega
  rw [Int.natAbs_mul]
  exact Nat.lt_of_lt_of_le (Nat.mul_lt_mul'' h1 h1) (by decide)
theorem Bm.Cl.known:Bm.Cl.Kn:=Bm.Cl.Ad (.cons Ay.Add.known (.cons Ay.Mul.known (.cons A5.Value.known .nil))) fun x hp=>by
  obtain ⟨h1,h2⟩:=Ag.1 (show (Cw x&&Cr (List.length x=1))=true from hp)
  obtain ⟨b,rfl⟩:=List.length_eq_one_iff.1 (Ap.1 h2)
  have hb:Ai b=true:=Ap.1 (Pr h1) b List.mem_cons_self
  obtain ⟨n,rfl,hn⟩:=Bv hb
  obtain ⟨v1,v2,v3⟩:=Aij n
  have pe:=Di n
  have hv:=Q5 n
  have hm:=Ei n
  have hl:C0 (mD (A2 (n:Int))).natAbs<3:=Nat.lt_of_le_of_lt (Jc (Pl _)) v1
  have oM:Zb (Av (mD (A2 (n:Int)))) (Ae (mD (A2 (n:Int))))=true:=Aq0 (by omega)
  have oE:S3 (eD (A2 (n:Int)) (Aw (n:Int)))=true:=Ap.2 ⟨v2,v3⟩
  have hs:=Ai8 n
  have hl2:C0 (mD (mD (A2 (n:Int))*mD (A2 (n:Int)))).natAbs<5:=Nat.lt_of_le_of_lt (Jc (Pl _)) (Zs (k:=4) (Nat.lt_of_lt_of_le hs (by decide)) (by omega))
  have oV:Wy (Av (mD (mD (A2 (n:Int))*mD (A2 (n:Int))))) (Ae (mD (mD (A2 (n:Int))*mD (A2 (n:Int)))))=true:=Ad1 (by omega)
  have ee:-1074≤eD (A2 (n:Int)) (Aw (n:Int))∨eD (A2 (n:Int)) (Aw (n:Int))=0:=by
    by_cases k:A2 (n:Int)=0
    · right; unfold eD; rw [if_pos k]
    · left; exact Aub pe.1 k
  have e2:eD (A2 (n:Int)) (Aw (n:Int))≤1025:=by
    unfold eD
    by_cases k:A2 (n:Int)=0
    · rw [if_pos k]; omega
    · rw [if_neg k]
      have:=U1 (m:=(A2 (n:Int)).natAbs) (t:=53) (by rw [hv]; exact hm) (by omega)
      have:Aw (n:Int)≤972:=pe.2
      omega
  have oE2:S3 (eD (mD (A2 (n:Int))*mD (A2 (n:Int))) (eD (A2 (n:Int)) (Aw (n:Int))+eD (A2 (n:Int)) (Aw (n:Int))))=true:=All hs (by decide) (by omega) (by decide)
  have z:wv false []=0:=by decide
  refine ⟨2,Bm.Cl.out [.l [(n:Int)]],[],?_,Wk.Ix (.cons .bool (.cons .Al6 (.cons .int .nil)))⟩
  rw [Bm.Cl.ev,Bm.Cl.At,Au]
  simp only [Fo,List.getD_cons_zero,List.length_singleton]
  rw [Aul (show (0:Int)<((1:Nat):Int) by decide),Auk,Auk,hb,Auk,oM,oE,Auq,Auq,Auk,oV,oE2,show Wy false []=true from Ad1 (v:=0) (by decide),show S3 0=true from Ap.2 (by decide),Auq,Auq,Auq,Auk,Bm.Cl.Ck,Au,Aup (by simp),Auo]
  rfl
theorem Ca.one.known:Ca.one.Kn:=Ca.one.Ad .nil fun b _ =>
  ⟨0,_,[4],Ca.one.ev 0 b,U0 (List.mem_singleton.2 rfl)⟩
theorem Arb:gX 1 0 [] 1 1 [4607182418800017408] 1 1 [4613937818241073152]=(0,1,[],0):=by decide +kernel
theorem Ara:gY 1 0 [] 1 1 [4607182418800017408] 1 1 [4613937818241073152]=(1,1,[4613937818241073152],0):=by decide +kernel
theorem Akx {x:Int} (h:decide (0≤x∧x<18446744073709551616)=true):Ah [x]=true:=Ap.2 fun y hy=>by
  rw [List.mem_singleton.1 hy]; exact Ap.2 (of_decide_eq_true h)
theorem Aqy {x:Int} (h:decide (0≤x∧x<18446744073709551616)=true):Cw [x]=true:=Ap.2 ⟨by simp,fun y hy=>by
  rw [List.mem_singleton.1 hy]; exact Ap.2 (of_decide_eq_true h)⟩
theorem Ai7:sqM 4613937818241073152=9:=by decide +kernel
theorem Ca.Gj.known:Ca.Gj.Kn:=Ca.Gj.Ad (.cons A6.Solve.known (.cons Ca.one.known (.cons Ay.D2.known (.cons Bm.Cl.known .nil)))) fun _ _=>by
  have a1:Th [] [4607182418800017408] [4613937818241073152]=true:=by
    unfold Th
    rw [Akx (by decide),Akx (x:=4613937818241073152) (by decide),Ep]; rfl
  have o1:Cw [4613937818241073152]=true:=Aqy (by decide)
  have o2:Cr (List.length [(4613937818241073152:Int)]=1)=true:=Ap.2 rfl
  have o3:Ib (Av 9) (Ae 9)=true:=I8 (by decide)
  refine ⟨0,Ca.Gj.out [],[],?_,.bool⟩
  rw [Ca.Gj.ev,a1,Arb,Ara]
  simp only [List.getD_cons_zero,Ai7,Fo,o1,o2,o3]
  rfl
end Go.Proofs.S1
namespace Go.Rnd
open Go.Den
theorem Zf (n:Bool):Ao (B1 n 0)=0∧Aq (B1 n 0)=0∧Ax (B1 n 0)=-1074:=by
  cases n<;>decide +kernel
theorem Q0 {s:Nat} (hs:s<2^64) (k3:Ao s≠3) (k4:Ao s≠4) (hn:s≠2^63) (n:Bool):(H9 s (B1 n 0)).1=s:=by
  obtain ⟨z1,z2,z3⟩:=Zf n
  have he:=Di s
  have em:min (Ax s) (Ax (B1 n 0))=-1074:=by rw [z3]; omega
  rw [Wt (by omega) k3 (by omega),em]
  have vz:Gp (B1 n 0) (-1074)=0:=by
    unfold Gp
    rw [z2,Nat.zero_mul]
    cases Cs (B1 n 0)<;>rfl
  rw [vz,Int.add_zero]
  have hw:=Pb k4
  by_cases h0:Aq s=0
  · have vs:Gp s (-1074)=0:=by
      unfold Gp
      rw [h0,Nat.zero_mul]
      cases Cs s<;>rfl
    rw [h0,Pa] at hw
    have s0:s=0:=by omega
    unfold J1
    rw [vs,if_pos rfl,s0]
    cases n<;>rfl
  · obtain ⟨d,hd⟩:∃ d:Nat,Ax s=-1074+(d:Int):=⟨(Ax s+1074).toNat,by omega⟩
    have e1:(Ax s - -1074).toNat=d:=by omega
    unfold Gp
    rw [e1,Mz _ _ (Ja h0)]
    have:=(Dl (Aq s) d (Ax s)).1
    have e2:Ax s-(d:Int)=-1074:=by omega
    rw [e2] at this
    rw [this]
    exact We hs k4
theorem Vu {b:Nat} (k3:Ao b≠3) (k4:Ao b≠4):(Lj 0 b).1=B1 (Cs b) 0:=by
  have z:Ao 0=0∧Aq 0=0∧Cs 0=false:=by decide
  unfold Lj
  rw [if_neg (by omega),if_neg (by omega),z.2.1,Nat.zero_mul,Pa,z.2.2]
  cases Cs b<;>rfl
structure Good (x:Int):Prop where
  word:Ai x=true
  k3:Ao x.toNat≠3
  k4:Ao x.toNat≠4
  ne:x.toNat≠2^63
theorem Q3 {x:Int} (h:Ai x=true):x.toNat<2^64:=by
  have:=Ap.1 h
  omega
theorem X5:Good 0:=⟨Ap.2 (by omega),by decide,by decide,by decide⟩
end Go.Rnd
namespace Go.Rnd
open Go.Den
theorem X2 (n:Nat):Ir n=!(decide (Ao n=3)||decide (Ao n=4)):=by
  have:=Ij n
  unfold Ir Ao
  by_cases h:Em n=2047
  · by_cases h2:Dt n=0<;>simp [h,h2]
  · have h3:Em n<2047:=by omega
    by_cases h4:0<Em n
    · simp [h,h3,h4]
    · by_cases h5:0<Dt n<;>simp [h,h3,h4,h5]
theorem Afe (s:Bool) (m:Nat):(H8 s m).natAbs=m:=by unfold H8; split<;>omega
end Go.Rnd
namespace Go.Rnd
open Go.Den
def pw (k:Nat):Nat:=(k+1023)*2^52
theorem Vj {k:Nat} (h:k≤1023):Aq (pw k)=2^52∧Ax (pw k)=(k:Int)-52∧Ao (pw k)=2∧pw k%2^63=pw k∧pw k<Gg:=by
  have hp:Em (pw k)=k+1023:=by unfold Em pw; omega
  have hf:Dt (pw k)=0:=by unfold Dt pw; omega
  refine ⟨?_,?_,?_,?_,?_⟩
  · unfold Aq; rw [hp,hf,if_neg (by omega)]
  · unfold Ax; rw [hp,if_neg (by omega)]; omega
  · unfold Ao; rw [hp,if_neg (by omega),if_pos (by omega)]
  · unfold pw; omega
  · rw [Jk]; unfold pw; omega
def Zn (a:Nat):Nat:=K6 a (-1074)
theorem Afh {k:Nat} (h:k≤1023):Zn (pw k)=2^(k+1074):=by
  obtain ⟨h1,h2,_⟩:=Vj h
  unfold Zn K6
  rw [h1,h2,← Nat.pow_add]
  congr 1; omega
theorem Ang {k:Nat} (h:k≤1023):B8 (2^(k+1074)) (-1074)=pw k:=by
  obtain ⟨h1,h2,h3,h4,_⟩:=Vj h
  have:=Ok (b:=pw k) (f:=-1074) (by omega) (by omega)
  rw [h4] at this
  rw [← this,← Afh h]; rfl
def Bd (k:Nat) (a:Nat):Prop:=Ao a≠3∧Ao a≠4∧Zn a≤2^(k+1074)
theorem Bd.Afo {k a:Nat} (hk:k≤1023) (h4:Ao a≠4) (h:a%2^63≤pw k):Bd k a:=by
  obtain ⟨p1,p2,p3,p4,p5⟩:=Vj hk
  have h3:Ao a≠3:=fun e=>by have:=An9 e; omega
  refine ⟨h3,h4,?_⟩
  have ha:=Di a
  rcases Nat.lt_or_ge (Zn (pw k)) (Zn a) with g | g
  · have:=(Aq4 (f:=-1074) (by omega) h4 (by omega) ha.1).1 g
    omega
  · rw [Afh hk] at g; exact g
theorem X1 (s:Bool) (V:Nat) (E:Int):Ao (B1 s (B8 V E))≠4:=by
  have h:=Y3 V E
  rw [Jk] at h
  have hp:=Sw s (r:=B8 V E) (by omega)
  have hf:=Qr s (B8 V E)
  unfold Ao
  rw [hp,hf]
  split
  · split
    · omega
    · omega
  · split
    · omega
    · split<;>omega
theorem Bd.B8 {k:Nat} (s:Bool) {V:Nat} {E:Int} (hk:k≤1023) (h:B8 V E≤pw k):Bd k (B1 s (B8 V E)):=by
  refine .Afo hk (X1 s V E) ?_
  have:=Pd V E
  have e:B1 s (Go.Rnd.B8 V E)%2^63=Go.Rnd.B8 V E:=by unfold B1; split<;>omega
  rw [e]; exact h
theorem Bd.zero (s:Bool) (k:Nat):Bd k (B1 s 0):=by
  have:Ao (B1 s 0)=0∧Zn (B1 s 0)=0:=by cases s<;>decide +kernel
  exact ⟨by omega,by omega,by rw [this.2]; exact Nat.zero_le _⟩
theorem Abt (a:Nat):(Gp a (-1074)).natAbs=Zn a:=by
  unfold Gp Zn K6
  rw [Afe]
theorem Bd.add {k a b:Nat} (hk:k+1≤1023) (ha:Bd k a) (hb:Bd k b):Bd (k+1) (H9 a b).1:=by
  obtain ⟨a3,a4,am⟩:=ha
  obtain ⟨b3,b4,bm⟩:=hb
  have pa:=Di a
  have pb:=Di b
  have ek:=Apa a3 a4 b3 b4 (g:=-1074) (by omega)
  have e4:Ao (H9 a b).1≠4:=by
    rw [Wt (by omega) a3 b3]
    unfold J1
    split
    · have:Ao (B1 (Cs a&&Cs b) 0)=0:=by cases (Cs a&&Cs b)<;>decide
      show Ao (B1 (Cs a&&Cs b) 0)≠4
      omega
    · exact X1 _ _ _
  refine .Afo hk e4 ?_
  have hs:(Gp a (-1074)+Gp b (-1074)).natAbs≤2^(k+1+1074):=by
    have h1:=Abt a
    have h2:=Abt b
    have:2^(k+1+1074)=2^(k+1074)+2^(k+1074):=by rw [show k+1+1074=k+1074+1 by omega,Nat.pow_succ]; omega
    omega
  have hr:=Sq (E:=-1074) hs
  rw [Ang hk] at hr
  have hn:(Ny (H9 a b).1).natAbs=(H9 a b).1%2^63:=by unfold Ny; rw [Afe]
  rw [← hn,ek]
  unfold Adr
  split<;>omega
theorem Bd.fin {k a:Nat} (h:Bd k a):Ir a=true:=by rw [X2]; simp [h.1,h.2.1]
theorem Bd.any {a:Nat} (h:Ir a=true):Ao a≠3∧Ao a≠4:=⟨(Hn h).2,(Hn h).1⟩
theorem Bd.Aq1 {k a:Nat} (hf:Ir a=true) (h:Aq a≠0→((Aq a).log2:Int)+Ax a<(k:Int)):Bd k a:=by
  refine ⟨(Hn hf).2,(Hn hf).1,?_⟩
  have pa:=Di a
  unfold Zn K6
  by_cases h0:Aq a=0
  · rw [h0,Nat.zero_mul]; exact Nat.zero_le _
  · have hl:=h h0
    have h1:=Nat.lt_log2_self (n:=Aq a)
    have h2:Aq a*2^(Ax a - -1074).toNat≤2^((Aq a).log2+1)*2^(Ax a - -1074).toNat:=Auw _ (by omega)
    rw [← Nat.pow_add] at h2
    exact Nat.le_trans h2 (Auz (by decide) (by omega))
end Go.Rnd
namespace Go.Rnd
open Go.Den
structure Fw (x:Int):Prop where
  word:Ai x=true
  fin:Cv x=true
theorem Fw.k {x:Int} (h:Fw x):Ao x.toNat≠3∧Ao x.toNat≠4:=⟨(Hn h.fin).2,(Hn h.fin).1⟩
theorem Fw.Ak2 {x:Int} (h:Fw x) (hn:x≠9223372036854775808):Good x:=⟨h.word,h.k.1,h.k.2,fun e=>hn (by have:=Ap.1 h.word; omega)⟩
theorem Good.fn {x:Int} (h:Good x):Fw x:=⟨h.word,by
  show Ir x.toNat=true
  rw [X2]; simp [h.k3,h.k4]⟩
def Zr (x:Int):Prop:=x=0∨x=9223372036854775808
def Wv (x y:Int):Prop:=x=y∨(Zr x∧Zr y)
def L6 (x:Int):Int:=if x=9223372036854775808 then 0 else x
theorem Vl (x:Int):Wv (L6 x) x:=by
  unfold L6
  split
  · rename_i h; exact .inr ⟨.inl rfl,.inr h⟩
  · exact .inl rfl
theorem Wv.refl (x:Int):Wv x x:=.inl rfl
theorem Wv.trans {x y z:Int} (h:Wv x y) (g:Wv y z):Wv x z:=by
  rcases h with rfl | ⟨h1,h2⟩
  · exact g
  · rcases g with rfl | ⟨g1,g2⟩
    · exact .inr ⟨h1,h2⟩
    · exact .inr ⟨h1,g2⟩
theorem Ar7 {x:Int} (h:Zr x):Fw x:=by
  rcases h with rfl | rfl
  · exact ⟨Ap.2 (by decide),by decide⟩
  · exact ⟨Ap.2 (by decide),by decide⟩
theorem Wv.fn {x y:Int} (h:Wv x y) (g:Fw y):Fw x:=by
  rcases h with rfl | ⟨h1,h2⟩
  · exact g
  · exact Ar7 h1
theorem Sx {x:Int} (h:Fw x):Good (L6 x):=by
  unfold L6
  split
  · exact X5
  · rename_i g; exact h.Ak2 g
theorem Ale {n i:Nat} (hi:i<n) {g:Nat→Int} (hg:∀ j,j<n→Fw (g j)):∀ (k j:Nat) (s:Int),j+k=n→(j≤i→s=0)→(i<j→s=L6 (g i)) →
    Ub s.toNat (((List.range n).map fun b:Nat=>Co (i:Int) (b:Int)).drop j) (((List.range n).map g).drop j)=(L6 (g i)).toNat:=by
  intro k
  induction k with
  | zero =>
    intro j s hj h1 h2
    have l1:((List.range n).map fun b:Nat=>Co (i:Int) (b:Int)).length=n:=by rw [List.length_map,List.length_range]
    rw [Auy (by omega),h2 (by omega)]
    rfl
  | succ k ih =>
    intro j s hj h1 h2
    have l1:j<((List.range n).map fun b:Nat=>Co (i:Int) (b:Int)).length:=by rw [List.length_map,List.length_range]; omega
    have l2:j<((List.range n).map g).length:=by rw [List.length_map,List.length_range]; omega
    have gj:=hg j (by omega)
    have sg:Good s:=by
      rcases Nat.lt_or_ge i j with h | h
      · rw [h2 h]; exact Sx (hg i hi)
      · rw [h1 h]; exact X5
    rw [List.drop_eq_getElem_cons l1,List.drop_eq_getElem_cons l2,List.getElem_map,List.getElem_map,List.getElem_range]
    show Ub (H9 s.toNat (Lj (Co (i:Int) (j:Int)).toNat (g j).toNat).1).1 _ _=_
    by_cases hij:i=j
    · subst hij
      have e1:Co (i:Int) (i:Int)=4607182418800017408:=if_pos rfl
      have s0:=h1 (Nat.le_refl i)
      have w:=Q3 gj.word
      have em:(Lj (4607182418800017408:Int).toNat (g i).toNat).1=(g i).toNat:=by
        rw [Ahc]
        exact congrArg Prod.fst (mul_one w gj.k.1 gj.k.2)
      have ea:(H9 s.toNat (g i).toNat).1=(L6 (g i)).toNat:=by
        rw [s0,Ym]
        by_cases hz:g i=9223372036854775808
        · unfold L6; rw [if_pos hz,hz]; decide +kernel
        · unfold L6; rw [if_neg hz]
          exact Q0 w gj.k.1 gj.k.2 (gj.Ak2 hz).ne false
      rw [e1,em,ea]
      exact ih (i+1) (L6 (g i)) (by omega) (fun h=>by omega) (fun _=>rfl)
    · have e1:Co (i:Int) (j:Int)=0:=if_neg (by omega)
      have ea:(H9 s.toNat (Lj (0:Int).toNat (g j).toNat).1).1=s.toNat:=by
        show (H9 s.toNat (Lj 0 (g j).toNat).1).1=_
        rw [Vu gj.k.1 gj.k.2]
        exact Q0 (Q3 sg.word) sg.k3 sg.k4 sg.ne _
      rw [e1,ea]
      exact ih (j+1) s (by omega) (fun h=>h1 (by omega)) (fun h=>h2 (by omega))
theorem Ald {n i:Nat} (hi:i<n) {g:Nat→Int} (hg:∀ j,j<n→Fw (g j)):Nf ((List.range n).map fun b:Nat=>Co (i:Int) (b:Int)) ((List.range n).map g)=L6 (g i):=by
  have h:=Ale hi hg n 0 0 (by omega) (fun _=>rfl) (fun h=>by omega)
  rw [List.drop_zero,List.drop_zero] at h
  have w:=Ap.1 (Sx (hg i hi)).word
  show ((Ub 0 _ _:Nat):Int)=L6 (g i)
  have h:Ub 0 ((List.range n).map fun b:Nat=>Co (i:Int) (b:Int)) ((List.range n).map g)=(L6 (g i)).toNat:=h
  rw [h]
  omega
theorem Apv {x:Int} (h:Fw x):Zr (Eg 0 x):=by
  unfold Eg
  rw [show (0:Int).toNat=0 from rfl,Vu h.k.1 h.k.2]
  cases Cs x.toNat
  · exact .inl (by decide)
  · exact .inr (by decide)
theorem Apu {z:Int} (hz:Zr z) {x:Int} (h:Fw x):Wv (Dk x z) x:=by
  unfold Dk Aqi
  by_cases hx:x=9223372036854775808
  · rcases hz with rfl | rfl
    · rw [hx]; exact .inr ⟨by unfold Zr; decide +kernel,.inr rfl⟩
    · rw [hx]; exact .inr ⟨by unfold Zr; decide +kernel,.inr rfl⟩
  · have g:=h.Ak2 hx
    have w:=Ap.1 h.word
    have e:∀ n:Bool,((H9 x.toNat (B1 n 0)).1:Int)=x:=fun n=>by
      rw [Q0 (Q3 h.word) g.k3 g.k4 g.ne n]; omega
    rcases hz with rfl | rfl
    · exact .inl (e true)
    · exact .inl (e false)
theorem Als {x:Int} (h:Fw x):Eo x 4607182418800017408=x:=by
  have w:=Ap.1 h.word
  have hk:=h.k
  unfold Eo
  by_cases k0:Ao x.toNat=0
  · have hz:x.toNat%2^63=0:=by
      rw [← Aj7 x.toNat (Ax x.toNat)]
      unfold K6
      have:Aq x.toNat=0:=by unfold Ao at k0; unfold Aq; split at k0<;>(try split at k0)<;>(try split at k0)<;>simp_all<;>omega
      rw [this,Nat.zero_mul]
    have hx:x.toNat=0∨x.toNat=2^63:=by have:=Q3 h.word; omega
    rcases hx with e | e
    · rw [e]; have:x=0:=by omega
      rw [this]; decide +kernel
    · rw [e]; have:x=9223372036854775808:=by omega
      rw [this]; decide +kernel
  · have:=div_one (Q3 h.word) k0 hk.1 hk.2
    rw [show (4607182418800017408:Int).toNat=4607182418800017408 from rfl,this]
    show ((x.toNat:Nat):Int)=x
    omega
end Go.Rnd
namespace Go.Proofs.S1
open Go Go.Den Go.Rnd Go.Proofs
theorem Ajf {R C:Nat} {l:List Int} (hl:l.length=R*C) {I:Nat} (hI:I<R):J0 (C:Int) l (I:Int)=(List.range C).map fun k:Nat=>Ee (C:Int) l (I:Int) (k:Int):=by
  have hlen:=Qg hl hI
  have e1:((I:Int)*(C:Int)).toNat=I*C:=by rw [← Au5,Aum]
  have e2:(((I:Int)+1)*(C:Int)).toNat=(I+1)*C:=by
    have:((I:Int)+1)*(C:Int)=(((I+1)*C:Nat):Int):=by rw [Au5]; rfl
    rw [this,Aum]
  refine Rz (by rw [hlen,List.length_map,List.length_range]) fun j hj=>?_
  rw [hlen] at hj
  have hp:=Hz hI hj
  have h1:(I+1)*C=I*C+C:=by rw [Nat.add_mul,Nat.one_mul]
  rw [List.getElem?_map,List.getElem?_range hj]
  unfold J0
  rw [List.getElem?_drop,e1,e2,List.getElem?_take,if_pos (by omega)]
  show l[I*C+j]?=some (Ee (C:Int) l (I:Int) (j:Int))
  rw [Sf,Auu,Au1 (by omega)]
  rfl
theorem Ak1 {r c:Nat} {f:Nat→Nat→Int} (g:Int→Int):(Bl r c f).map g=Bl r c fun i k=>g (f i k):=by
  unfold Bl
  rw [List.map_map]
  rfl
def Ju (n:Nat):MX:=((n:Int),(n:Int),D7 n,0)
theorem Alc (i k:Int):Ai (Co i k)=true:=by
  unfold Co
  split
  · exact B5 (n:=4607182418800017408) (by decide)
  · exact B5 (n:=0) (by decide)
theorem Wg {n:Nat} (h:n≤6):Jf n n (Ju n):=⟨_,rfl,h,h,Bu _ _ _,Gr fun _ _=>Alc _ _⟩
def Vk (x:MX):MX:=(x.1,x.2.1,x.2.2.1.map L6,0)
theorem Ak5 {l:List Int} (al:Ah l=true) (fl:Dw l=true) {j:Nat} (hj:j<l.length):Fw (l.getD j 0) :=
  ⟨No al hj,by
    unfold Dw at fl
    rw [List.all_eq_true] at fl
    rw [Auu,Au1 hj]
    exact fl _ (List.getElem_mem hj)⟩
theorem Apo {R C i k:Nat} {x:MX} (h:Jf R C x) (f:FM x) (hi:i<R) (hk:k<C):Fw (Ee (C:Int) x.2.2.1 (i:Int) (k:Int)):=by
  obtain ⟨l,rfl,r6,c6,hl,al⟩:=h
  rw [Sf]
  exact Ak5 al f (by have:=Hz hi hk; omega)
theorem Rw {n K:Nat} {y:MX} (h:Jf n K y) (f:FM y):mulM (Ju n) y=Vk y:=by
  have hr:=h.right
  have he:=(Wg h.r6).right
  have hfn:=fun (i k:Nat) (hi:i<n) (hk:k<K)=>Apo h f hi hk
  obtain ⟨l,rfl,r6,c6,hl,al⟩:=h
  unfold mulM Ml
  rw [he,hr,Auq,if_pos rfl]
  unfold Vk Ju
  rw [if_pos rfl]
  dsimp only
  rw [Aum,Aum]
  have e:(Bl n K fun (i k:Nat)=>Nf (J0 (n:Int) (D7 n) (i:Int)) (N0 (n:Int) (K:Int) l (k:Int)))=l.map L6:=by
    conv=>rhs; rw [← Pp hl,Ak1]
    refine C9 fun i k hi hk=>?_
    rw [Ajf (show (D7 n).length=n*n from Bu _ _ _) hi]
    unfold N0
    rw [Aum]
    have e1:((List.range n).map fun b:Nat=>Ee (n:Int) (D7 n) (i:Int) (b:Int))=(List.range n).map fun b:Nat=>Co (i:Int) (b:Int) :=
      List.map_congr_left fun b hb=>R6 hi (List.mem_range.1 hb)
    rw [e1]
    exact Ald hi fun j hj=>hfn j k hj hk
  rw [e]
theorem Afi {R C:Nat} {x:MX} (h:Jf R C x) (f:FM x):Jf R C (Vk x)∧FM (Vk x):=by
  obtain ⟨l,rfl,r6,c6,hl,al⟩:=h
  have hg:∀ y∈l.map L6,Good y:=fun y hy=>by
    obtain ⟨z,hz,rfl⟩:=List.mem_map.1 hy
    obtain ⟨j,hj,rfl⟩:=List.mem_iff_getElem.1 hz
    have:=Ak5 al f hj
    rw [Auu,Au1 hj] at this
    exact Sx this
  refine ⟨⟨_,rfl,r6,c6,by rw [List.length_map]; exact hl,Ap.2 fun y hy=>(hg y hy).word⟩,?_⟩
  show (l.map L6).all Cv=true
  rw [List.all_eq_true]
  exact fun y hy=>(hg y hy).fn.fin
theorem Ajo {R C:Nat} {x:MX} (h:Jf R C x):I7 x 0 0 (R:Int) (C:Int)=x:=by
  have hr:=h.right
  obtain ⟨l,rfl,r6,c6,hl,al⟩:=h
  unfold I7 Dz
  dsimp only
  rw [if_pos hr,if_pos (show Ns (R:Int) (C:Int) 0 0 (R:Int) (C:Int)=true from Rm (i:=0) (k:=0) (by omega) (by omega)),Aum,Aum]
  have e:(Bl R C fun (i k:Nat)=>Ee (C:Int) l (0+(i:Int)) (0+(k:Int)))=l:=by
    conv=>rhs; rw [← Pp hl]
    refine C9 fun i k _ _=>?_
    rw [Int.zero_add,Int.zero_add]
  rw [e]
theorem Xz {n k:Nat} (hk:k<n):∀ (xs:List Int) (j:Nat) (s:Int),(∀ x∈xs,Fw x)→Fw s→j+xs.length≤k→Wv (K8 (n:Int) (D7 n) (k:Int) s (j:Int) xs) s
  | [],j,s,_,_,_=>.refl s
  | x::xs,j,s,hx,hs,hj=>by
    simp only [List.length_cons] at hj
    have e:Ee (n:Int) (D7 n) (k:Int) (j:Int)=0:=by
      rw [show Ee (n:Int) (D7 n) (k:Int) (j:Int)=Co (k:Int) (j:Int) from R6 hk (by omega)]
      exact if_neg (by omega)
    have h1:Wv (Dk s (Eg 0 x)) s:=Apu (Apv (hx x List.mem_cons_self)) hs
    have h2:=Xz hk xs (j+1) (Dk s (Eg 0 x)) (fun y hy=>hx y (List.mem_cons_of_mem _ hy)) (h1.fn hs) (by omega)
    show Wv (K8 (n:Int) (D7 n) (k:Int) (Dk s (Eg (Ee (n:Int) (D7 n) (k:Int) (j:Int)) x)) ((j:Int)+1) xs) s
    rw [e]
    exact Wv.trans h2 h1
theorem Akg {n:Nat} {b:Nat→Int} (hb:∀ i,i<n→Fw (b i)):∀ k,k≤n→∀ i,i<k→Wv ((Ur (n:Int) (D7 n) b k).getD i 0) (b i)
  | 0,_,i,hi=>by omega
  | k+1,hk,i,hi=>by
    have ih:=Akg hb k (by omega)
    have hl:=G5 (n:Int) (D7 n) b k
    show Wv ((Ur (n:Int) (D7 n) b k++[Eo (K8 (n:Int) (D7 n) (k:Int) (b k) 0 (Ur (n:Int) (D7 n) b k)) (Ee (n:Int) (D7 n) (k:Int) (k:Int))]).getD i 0) (b i)
    by_cases h:i<k
    · rw [Auu,List.getElem?_append_left (by omega),← Auu]
      exact ih i h
    · obtain rfl:i=k:=by omega
      rw [Auu,List.getElem?_append_right (by omega),hl,Nat.sub_self]
      have e:Ee (n:Int) (D7 n) (i:Int) (i:Int)=4607182418800017408:=by
        rw [show Ee (n:Int) (D7 n) (i:Int) (i:Int)=Co (i:Int) (i:Int) from R6 (by omega) (by omega)]
        exact if_pos rfl
      have hs:=Xz (n:=n) (k:=i) (by omega) (Ur (n:Int) (D7 n) b i) 0 (b i) (fun x hx=>by
        obtain ⟨j,hj,rfl⟩:=List.mem_iff_getElem.1 hx
        have:=ih j (by omega)
        rw [Auu,Au1 hj] at this
        exact this.fn (hb j (by omega))) (hb i (by omega)) (by omega)
      show Wv (Eo _ _) (b i)
      rw [e]
      exact (congrArg (fun z=>Wv z (b i)) (Als (hs.fn (hb i (by omega))))).mpr hs
theorem Z1:∀ n:Fin 7,B6 (n.val:Int) (n.val:Int) (D7 n.val)=0∧Afp (n.val:Int) (D7 n.val) n.val=false:=by decide +kernel
theorem Aq6 {n K:Nat} {y:MX} (h:Jf n K y) (f:FM y):∃ Y,Ua (Ju n) y=((n:Int),(K:Int),Y,0)∧Y.length=n*K∧Dw Y=true∧Ah Y=true∧∀ i k,i<n→k<K→Wv (Y.getD (i*K+k) 0) (Ee (K:Int) y.2.2.1 (i:Int) (k:Int)):=by
  have hfn:=fun (i k:Nat) (hi:i<n) (hk:k<K)=>Apo h f hi hk
  have hc:=h.chk f
  obtain ⟨e1,e2⟩:=Z1 ⟨n,by have:=h.r6; omega⟩
  dsimp only at e1 e2
  obtain ⟨l,rfl,r6,c6,hl,al⟩:=h
  have hs:=fun (k:Nat) (hk:k<K)=>Akg (n:=n) (b:=fun i=>Ee (K:Int) l (i:Int) (k:Int)) (fun i hi=>hfn i k hi hk) n (Nat.le_refl n)
  have hg:∀ i k,i<n→k<K→(W3 (n:Int) (D7 n) (K:Int) l n K).getD (i*K+k) 0=(Ur (n:Int) (D7 n) (fun i=>Ee (K:Int) l (i:Int) (k:Int)) n).getD i 0:=fun i k hi hk=>Acd hi hk
  have hlen:(W3 (n:Int) (D7 n) (K:Int) l n K).length=n*K:=Bu _ _ _
  have hfin:Dw (W3 (n:Int) (D7 n) (K:Int) l n K)=true:=by
    unfold Dw
    rw [List.all_eq_true]
    intro x hx
    obtain ⟨j,hj,rfl⟩:=List.mem_iff_getElem.1 hx
    rw [hlen] at hj
    have hK:0<K:=Nat.pos_of_ne_zero fun h=>by rw [h,Nat.mul_zero] at hj; omega
    have hi:j / K<n:=Nat.div_lt_of_lt_mul (by rw [Nat.mul_comm]; exact hj)
    have hk:=Nat.mod_lt j hK
    have:=(hs (j%K) hk (j / K) hi).fn (hfn (j / K) (j%K) hi hk)
    rw [← hg (j / K) (j%K) hi hk,Nat.div_add_mod',Auu,Au1 (by omega)] at this
    exact this.fin
  have ct:Mr (n:Int) (n:Int) (D7 n) (n:Int) (K:Int) l=0:=by
    unfold Mr
    rw [if_neg (fun h=>h e1),if_neg (fun h=>h hc),if_neg (by omega),Aum,e2,if_neg (by decide)]
  have e3:Ua (Ju n) ((n:Int),(K:Int),l,0)=((n:Int),(K:Int),W3 (n:Int) (D7 n) (K:Int) l n K,0):=by
    unfold Ua Zp Ju
    dsimp only
    rw [if_neg (fun h=>h ct),Aum,Aum]
    unfold Iw
    rw [if_pos hfin]
  refine ⟨_,e3,hlen,hfin,?_,fun i k hi hk=>by rw [hg i k hi hk]; exact hs k hk i hi⟩
  have:=Aeb (n:Int) (n:Int) (D7 n) (n:Int) (K:Int) l
  rw [show Zp (n:Int) (n:Int) (D7 n) (n:Int) (K:Int) l=((n:Int),(K:Int),W3 (n:Int) (D7 n) (K:Int) l n K,0) from e3] at this
  exact this
def BL (k:Nat) (l:List Int):Prop:=∀ x∈l,Bd k x.toNat
theorem Ar8 {x:Int} (h:Zr x) (k:Nat):Bd k x.toNat:=by
  rcases h with rfl | rfl
  · exact Bd.zero false k
  · exact Bd.zero true k
theorem Aqm {x y:Int} {k:Nat} (h:Wv x y) (g:Bd k y.toNat):Bd k x.toNat:=by
  rcases h with rfl | ⟨h1,_⟩
  · exact g
  · exact Ar8 h1 k
theorem BL.pos {k:Nat} {l:List Int} (h:BL k l):BL k (l.map L6):=fun y hy=>by
  obtain ⟨x,hx,rfl⟩:=List.mem_map.1 hy
  exact Aqm (Vl x) (h x hx)
theorem Am4 {k:Nat} {x:Int} (h:Aav (k:Int) x=true):Bd k x.toNat:=by
  unfold Aav at h
  rw [Auv,Bool.or_eq_true,Auv,Aur,Aur,Aur] at h
  obtain ⟨hf,h⟩:=h
  refine .Aq1 hf fun h0=>?_
  have kn:Ao x.toNat≠0:=fun e=>by
    unfold Ao at e
    unfold Aq at h0
    split at e
    · split at e<;>omega
    · split at e
      · omega
      · split at e
        · omega
        · rw [if_pos (by omega)] at h0; omega
  rcases h with h | ⟨_,h⟩
  · exact absurd (show Ao x.toNat=0 by unfold A1 at h; omega) kn
  · unfold Bt Aem at h
    rw [if_pos ⟨hf,kn⟩] at h
    exact h
theorem Agh {k:Nat} {l:List Int} (h:U6 l (k:Int)=true):BL k l∧Dw l=true:=by
  unfold U6 at h
  rw [List.all_eq_true] at h
  refine ⟨fun x hx=>Am4 (h x hx),?_⟩
  unfold Dw
  rw [List.all_eq_true]
  exact fun x hx=>(Ag.1 (h x hx)).1
theorem Ari {R C:Nat} {x:MX} (h:Jf R C x) (f:FM x):Acj x=x:=by
  have hc:=h.chk f
  obtain ⟨l,rfl,r6,c6,hl,al⟩:=h
  unfold Acj Ahv
  rw [if_neg (fun h=>h rfl),if_neg (fun h=>h hc)]
theorem Ajv:∀ r:Fin 7,B6 (r.val:Int) 0 []=0∧Gh (r.val:Int) 0 []=0∧tqX (r.val:Int) 0 []=((r.val:Int),0,[],0)∧trX (r.val:Int) 0 []=(0,0,[],0)∧Bc (r.val:Int) 0 []=(0,(r.val:Int),[],0):=by decide +kernel
theorem Aj2 {R:Nat} {f:MX} (hf:Jf R 1 f):Ml 0 (R:Int) [] f.1 f.2.1 f.2.2.1=(0,1,[],0):=by
  have hr:=hf.right
  have r6:=hf.r6
  obtain ⟨l,rfl,_,c6,hl,al⟩:=hf
  unfold Ml
  rw [show Bg 0 (R:Int) []=true from Oc (r:=0) (c:=R) (by omega) r6 (by simp),hr,Auq,if_pos rfl,if_pos rfl]
  have e:(Bl (Int.toNat 0) (Int.toNat ((1:Nat):Int)) fun (i k:Nat)=>Nf (J0 (R:Int) [] (i:Int)) (N0 (R:Int) ((1:Nat):Int) l (k:Int)))=[]:=List.eq_nil_of_length_eq_zero (by rw [Bu]; rfl)
  rw [e]
  rfl
theorem Aoe:∀ n:Fin 7,Gh (n.val:Int) 0 []=0∧qX (n.val:Int) 0 []=Ju n.val∧gT (n.val:Int) 0 []=(0,0,[],0)∧R8 (0,0,[],0)=false∧P1 (Ju n.val)=Ju n.val ∧
    gC (n.val:Int) 0 [] (n.val:Int) (n.val:Int) (D7 n.val)=Ju n.val:=by decide +kernel
theorem Arc:∀ n:Fin 7,Tt (n.val:Int) (n.val:Int) (D7 n.val)=0∧X9 (Ju n.val)=Ju n.val∧erO (Ju n.val)=Ju n.val∧R8 (Ju n.val)=false∧G1 0 (Ju n.val)=(0,(n.val:Int),[],0) ∧
    Ft (n.val:Int) 0 (Ju n.val)=Ju n.val:=by decide +kernel
theorem Aj3 {n:Nat} {y:MX} (hy:Jf n 1 y):mulM (0,(n:Int),[],0) y=(0,1,[],0):=Aj2 hy
theorem Ai1:Atu (0,1,[],0) (0,1,[],0)=(0,1,[],0):=by decide
theorem Alz:Mb (0,1,[],0)=0:=by decide
theorem Ae6:upM (0,0,[],0) (0,1,[],0)=(0,1,[],0):=by decide
theorem Anu {n C:Nat} {x:MX} (h:Jf n C x):Ft (n:Int) 0 x=x:=by
  unfold Ft
  rw [h.cols,Int.sub_zero]
  exact Ajo h
theorem Aiz {n:Nat} {x:MX} (h:Jf n 1 x):G1 0 x=(0,1,[],0):=by
  have hr:=h.right
  obtain ⟨l,rfl,r6,c6,hl,al⟩:=h
  unfold G1 I7 Dz
  dsimp only
  rw [if_pos hr,if_pos (show Ns (n:Int) ((1:Nat):Int) 0 0 0 ((1:Nat):Int)=true from Rm (i:=0) (k:=0) (a:=0) (b:=1) (by omega) (by omega))]
  have e:(Bl (Int.toNat 0) (Int.toNat ((1:Nat):Int)) fun (i k:Nat)=>Ee ((1:Nat):Int) l (0+(i:Int)) (0+(k:Int)))=[]:=List.eq_nil_of_length_eq_zero (by rw [Bu]; rfl)
  rw [e]
  rfl
theorem Ak3 {n:Nat} {d:List Int} (hD:Jf n 1 ((n:Int),1,d,0)) (fD:Dw d=true) :
    ∃ Y,gX (n:Int) 0 [] (n:Int) (n:Int) (D7 n) (n:Int) 1 d=(0,1,[],0)∧gY (n:Int) 0 [] (n:Int) (n:Int) (D7 n) (n:Int) 1 d=((n:Int),1,Y,0)∧Jf n 1 ((n:Int),1,Y,0)∧Dw Y=true∧∀ i,i<n→Wv (Y.getD i 0) (d.getD i 0):=by
  have n6:=hD.r6
  obtain ⟨a1,a2,a3,a4,a5,a6⟩:=Aoe ⟨n,by omega⟩
  obtain ⟨b1,b2,b3,b4,b5,b6⟩:=Arc ⟨n,by omega⟩
  dsimp only at a1 a2 a3 a4 a5 a6 b1 b2 b3 b4 b5 b6
  have eM:=Wg n6
  have fE:FM (Ju n):=(G7 (Z1 ⟨n,by omega⟩).1).2
  have k1:B6 (n:Int) 0 []=0:=(Ajv ⟨n,by omega⟩).1
  have k2:B6 (n:Int) (n:Int) (D7 n)=0:=(Z1 ⟨n,by omega⟩).1
  have k3:B6 (n:Int) 1 d=0:=hD.chk fD
  have kt:Ig (n:Int) 0 [] (n:Int) (n:Int) (D7 n) (n:Int) 1 d=0:=by
    unfold Ig
    rw [if_neg (fun h=>h k1),if_neg (fun h=>h k2),if_neg (fun h=>h k3),if_neg (by omega)]
  obtain ⟨hC,fC⟩:=Afi hD fD
  have eC:gC (n:Int) 0 [] (n:Int) 1 d=Vk ((n:Int),1,d,0):=by
    unfold gC
    rw [a2]
    show Fl (Ju n) ((n:Int),1,d,0)=_
    rw [U3 eM,a5,Rw hD fD]
  obtain ⟨Y0,e0,hl0,f0,i0,s0⟩:=Aq6 hC fC
  have hY0:Jf n 1 ((n:Int),1,Y0,0):=⟨Y0,rfl,n6,by decide,hl0,i0⟩
  obtain ⟨hX,fX⟩:=Afi hY0 f0
  have ge:gE (n:Int) 0 [] (n:Int) (n:Int) (D7 n) (n:Int) 1 d=0:=by
    unfold gE
    have c1:Mb (Vk ((n:Int),1,d,0))=0:=hC.chk fC
    have c2:Mb (Ju n)=0:=eM.chk fE
    rw [if_neg (fun h=>h a1),a3,a4,if_neg (by decide),eC,a6,if_neg (fun h=>h.elim (fun h=>h c1) (fun h=>h c2))]
  have ey:gY0 (n:Int) 0 [] (n:Int) (n:Int) (D7 n) (n:Int) 1 d=Vk ((n:Int),1,Y0,0):=by
    unfold gY0
    rw [eC,a6,b6,Anu hC]
    unfold erY
    have e1:Tt (Ju n).1 (Ju n).2.1 (Ju n).2.2.1=0:=b1
    rw [if_neg (fun h=>h e1),b2,b4,if_neg (by decide),b3,e0,if_neg (fun h=>h rfl),U3 eM,a5]
    show Acj (mulM (Ju n) ((n:Int),1,Y0,0))=_
    rw [Rw hY0 f0,Ari hX fX]
  have ef:gF (n:Int) 0 (Vk ((n:Int),1,d,0)) (Ju n) (Vk ((n:Int),1,Y0,0))=(0,1,[],0):=by
    unfold gF
    rw [Aiz hC,b5,Aj3 hX,Ai1]
  have kt':¬ (Ig (n:Int) 0 [] (n:Int) (n:Int) (D7 n) (n:Int) 1 d≠0):=fun h=>h kt
  have ge':¬ (gE (n:Int) 0 [] (n:Int) (n:Int) (D7 n) (n:Int) 1 d≠0):=fun h=>h ge
  have kY:¬ ((Vk ((n:Int),1,Y0,0)).2.2.2≠0):=fun h=>h rfl
  have kc:¬ (Mb (0,1,[],0)≠0):=fun h=>h Alz
  refine ⟨Y0.map L6,?_,?_,hX,fX,fun i hi=>?_⟩
  · unfold gX
    rw [if_neg kt',if_neg ge',ey,eC,a6,a3]
    unfold gX2
    rw [if_neg kY,ef,if_neg kc,Ae6]
  · unfold gY
    rw [if_neg kt',if_neg ge',ey,eC,a6,a3]
    unfold gY2
    rw [if_neg kY,ef,if_neg kc,Ae6,if_neg (fun h=>h rfl)]
    rfl
  · have hi':i<Y0.length:=by omega
    rw [Auu,List.getElem?_map,Au1 hi']
    have h1:=s0 i 0 hi (by decide)
    rw [Sf,Nat.mul_one,Nat.add_zero,Auu,Au1 hi'] at h1
    obtain ⟨dl,ed,_,_,hdl,_⟩:=hD
    have hd:d.length=n*1:=by have:d=dl:=congrArg (fun z:MX=>z.2.2.1) ed; rw [this]; exact hdl
    have h2:(Vk ((n:Int),1,d,0)).2.2.1.getD i 0=L6 (d.getD i 0):=by
      show (d.map L6).getD i 0=_
      rw [Auu,List.getElem?_map,Auu,Au1 (show i<d.length by omega)]
      rfl
    rw [h2] at h1
    exact (Vl _).trans (h1.trans (Vl _))
namespace EqTame
def Bm.Hc.hint:Nat→Option A9
  | 0=>some { keep:=[0,1,5],objs:=[],boxes:=[] }
  | _=>none
def Bm.Hc.Bb:List (Nat × Entry):=[(131,A5.Finite.spec),(62,A5.Kind.spec),(132,G4.Kd.spec)]
def Bm.Hc.E:Env:=Be (Ba Bm.Hc.Bb) (fun _=>false) Bm.Hc.hint (fun _=>none)
def Bm.Hc.L0 (N M:Nat) (x:List Int) (k p5:Int):Option DV:=B7 Bm.Hc.E N Tryz.f53 (Al Tryz.f53) [1,0,1,0] [] M ⟨Fy 43 [(0,.ints .arg .u64 x),(1,.int .i64 k),(5,.int .i64 p5)],[]⟩
theorem Bm.Hc.At (N M:Nat) (x:List Int) (k p5:Int):Bm.Hc.L0 N (M+1) x k p5=bif (A4 p5 (List.length x:Int)) then bif ((decide (0≤p5))&&(decide (p5<(List.length x:Int)))) then bif (Ai (List.getD x (Int.toNat p5) 0)) then bif (!(Cv (List.getD x (Int.toNat p5) 0))) then some (.bool false) else bif ((decide (0≤p5))&&(decide (p5<(List.length x:Int)))) then bif (Nx (List.getD x (Int.toNat p5) 0)) then bif ((!((A1 (List.getD x (Int.toNat p5) 0)) !=(0:Int)))||((decide (0≤p5))&&(decide (p5<(List.length x:Int))))) then bif ((!((A1 (List.getD x (Int.toNat p5) 0)) !=(0:Int)))||(Ai (List.getD x (Int.toNat p5) 0))) then bif ((!(((A1 (List.getD x (Int.toNat p5) 0)) !=(0:Int))&&(!(A4 (Bt (List.getD x (Int.toNat p5) 0)) (Ab ((0:Int)-k))))))||((decide (0≤p5))&&(decide (p5<(List.length x:Int))))) then bif ((!(((A1 (List.getD x (Int.toNat p5) 0)) !=(0:Int))&&(!(A4 (Bt (List.getD x (Int.toNat p5) 0)) (Ab ((0:Int)-k))))))||(Ai (List.getD x (Int.toNat p5) 0))) then bif (((A1 (List.getD x (Int.toNat p5) 0)) !=(0:Int))&&((A4 (Bt (List.getD x (Int.toNat p5) 0)) (Ab ((0:Int)-k)))||(Dv k (Bt (List.getD x (Int.toNat p5) 0))))) then some (.bool false) else Bm.Hc.L0 N M x k (Ab (p5+1)) else none else none else none else none else none else none else none else none else some (.bool true) :=
  Eq.trans (by kernel_rfl)
  (Ev (Ev (Ev (Ev rfl (Ev (Ev (Ar (N2 ((A1 (List.getD x (Int.toNat p5) 0)) !=(0:Int))) (Ar (N2 ((A1 (List.getD x (Int.toNat p5) 0)) !=(0:Int))) (C3 (As2 ((A1 (List.getD x (Int.toNat p5) 0)) !=(0:Int)) (decide (0≤p5)) (decide (p5<(List.length x:Int)))) (Ar (Ke ((A1 (List.getD x (Int.toNat p5) 0)) !=(0:Int))) (C3 (Ap7 ((A1 (List.getD x (Int.toNat p5) 0)) !=(0:Int)) (Ai (List.getD x (Int.toNat p5) 0))) (Ar (N2 ((A1 (List.getD x (Int.toNat p5) 0)) !=(0:Int))) (Ar (Ke ((A1 (List.getD x (Int.toNat p5) 0)) !=(0:Int))) (Ar (Agd ((A1 (List.getD x (Int.toNat p5) 0)) !=(0:Int))) (Ar (Ke ((A1 (List.getD x (Int.toNat p5) 0)) !=(0:Int))) (Ar (Aix ((A1 (List.getD x (Int.toNat p5) 0)) !=(0:Int)) (A4 (Bt (List.getD x (Int.toNat p5) 0)) (Ab ((0:Int)-k)))) (Ar (Aix ((A1 (List.getD x (Int.toNat p5) 0)) !=(0:Int)) (A4 (Bt (List.getD x (Int.toNat p5) 0)) (Ab ((0:Int)-k)))) (C3 (Atl ((A1 (List.getD x (Int.toNat p5) 0)) !=(0:Int)) (A4 (Bt (List.getD x (Int.toNat p5) 0)) (Ab ((0:Int)-k))) (decide (0≤p5)) (decide (p5<(List.length x:Int)))) (Ar (Ati ((A1 (List.getD x (Int.toNat p5) 0)) !=(0:Int)) (A4 (Bt (List.getD x (Int.toNat p5) 0)) (Ab ((0:Int)-k)))) (C3 (Atm ((A1 (List.getD x (Int.toNat p5) 0)) !=(0:Int)) (A4 (Bt (List.getD x (Int.toNat p5) 0)) (Ab ((0:Int)-k))) (Ai (List.getD x (Int.toNat p5) 0))) (Ar (Aix ((A1 (List.getD x (Int.toNat p5) 0)) !=(0:Int)) (A4 (Bt (List.getD x (Int.toNat p5) 0)) (Ab ((0:Int)-k)))) (Ar (Ath ((A1 (List.getD x (Int.toNat p5) 0)) !=(0:Int)) (A4 (Bt (List.getD x (Int.toNat p5) 0)) (Ab ((0:Int)-k)))) (Ar (Ato ((A1 (List.getD x (Int.toNat p5) 0)) !=(0:Int)) (A4 (Bt (List.getD x (Int.toNat p5) 0)) (Ab ((0:Int)-k)))) (Ar (Sj ((A1 (List.getD x (Int.toNat p5) 0)) !=(0:Int))) (C3 (Atn ((A1 (List.getD x (Int.toNat p5) 0)) !=(0:Int)) (A4 (Bt (List.getD x (Int.toNat p5) 0)) (Ab ((0:Int)-k))) (Dv k (Bt (List.getD x (Int.toNat p5) 0)))) rfl rfl))))) rfl)) rfl))))))) rfl)) rfl))) rfl) rfl)) rfl) rfl) rfl)
theorem Bm.Hc.ev (N:Nat) (x:List Int) (k:Int):B0 Bm.Hc.E N Tryz.f53 (Al Tryz.f53) [.ints .arg .u64 x,.int .i64 k] =
  Bm.Hc.L0 N N x k 0:=by kernel_rfl
abbrev _root_.Go.Proofs.S1.Bm.Hc.Kn:=A8 Tryz.prog 53 Bm.Hc.spec
theorem Bm.Hc.Ad (hk:Az Tryz.prog Bm.Hc.Bb) (h:∀ (x:List Int) (k:Int),Bm.Hc.pre [.l x,.i k]=true→Bf Bm.Hc.E Tryz.f53 [.ints .arg .u64 x,.int .i64 k] (Bm.Hc.out [.l x,.i k])):Bm.Hc.Kn :=
  Ak (A0 hk _ _ _) Tryz.func53 (by kernel_rfl) (by kernel_rfl) h
end EqTame
open EqTame
theorem Agi {k b:Int} (hk:0≤k∧k≤1000):((A1 b !=(0:Int))&&((A4 (Bt b) (Ab ((0:Int)-k)))||(Dv k (Bt b))))=!(decide (A1 b=0)||(decide (-k≤Bt b)&&decide (Bt b<k))):=by
  rw [An (by omega) (by omega),Au,Ed,Au0]
  simp only [Auv,Bool.or_eq_true,Bool.not_eq_true',Bool.or_eq_false_iff,Bool.and_eq_false_iff,Aur,Au3,bne_iff_ne,ne_eq]
  omega
theorem Agg (N:Nat) {x:List Int} (ax:Ah x=true) (hx:x.length<4611686018427387904) {k:Int} (hk:0≤k∧k≤1000):∀ (t d:List Int) (F:Nat),x=d++t→t.length<F →
    Bm.Hc.L0 N F x k (d.length:Int)=some (.bool (t.all (Aav k))):=by
  intro t
  induction t with
  | nil =>
    intro d F hy hF
    obtain ⟨F,rfl⟩:∃ G,F=G+1:=⟨F-1,by omega⟩
    rw [List.append_nil] at hy
    subst hy
    rw [Bm.Hc.At,Au,Aup (by omega),Auo]
    rfl
  | cons b t ih =>
    intro d F hy hF
    obtain ⟨F,rfl⟩:∃ G,F=G+1:=⟨F-1,by omega⟩
    have hl:d.length<x.length:=by rw [hy,List.length_append,List.length_cons]; omega
    have hb:List.getD x d.length 0=b:=by rw [hy,Auu,List.getElem?_append_right (Nat.le_refl _),Nat.sub_self]; rfl
    have ib:Ai b=true:=by rw [← hb]; exact No ax hl
    obtain ⟨n,hn,_⟩:=Bv ib
    have nb:Nx b=true:=by rw [hn]; exact Oh n
    rw [Bm.Hc.At,Au,Aul (show (d.length:Int)<(x.length:Int) by omega),Aul (show (0:Int)≤(d.length:Int) by omega),Aum,hb,ib,nb,Agi hk]
    simp only [Auk,Auq,Bool.or_true]
    show (bif !Cv b then some (DV.bool false) else _)=some (DV.bool ((Cv b&&(decide (A1 b=0)||(decide (-k≤Bt b)&&decide (Bt b<k))))&&t.all (Aav k)))
    cases Cv b with
    | false=>rfl
    | true =>
      rw [Bool.not_true,Auo,Bool.true_and]
      cases (decide (A1 b=0)||(decide (-k≤Bt b)&&decide (Bt b<k))) with
      | false=>rfl
      | true =>
        have:=ih (d++[b]) F (by rw [hy,List.append_assoc]; rfl) (by simp only [List.length_cons] at hF; omega)
        rw [List.length_append] at this
        rw [Bool.not_true,Auo,Bool.true_and,An (by omega) (by omega)]
        exact this
theorem Bm.Hc.known:Bm.Hc.Kn:=Bm.Hc.Ad (.cons A5.Finite.known (.cons A5.Kind.known (.cons G4.Kd.known .nil))) fun x k hp=>by
  obtain ⟨ox,hk⟩:=Ag.1 (show (Cw x&&Cr (0≤k∧k≤1000))=true from hp)
  refine ⟨x.length+1,.bool (U6 x k),[],?_,.bool⟩
  rw [Bm.Hc.ev]
  exact Agg (x.length+1) (Pr ox) (Ap.1 ox).1 (Ap.1 hk) x [] (x.length+1) rfl (by omega)
end Go.Proofs.S1
end
