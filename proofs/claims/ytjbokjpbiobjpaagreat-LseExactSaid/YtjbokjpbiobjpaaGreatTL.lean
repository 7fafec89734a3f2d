/- A verified evaluator of the program's form and its use for this seat: S1EqLse, S1PLse, S1POfS, S1EqRef20, S1PSubSt, S1PLseA, S1PRefL, S1PRef20, S1PRef20A, S1PRef20B, S1EqLaw17, S1PLaw17, S1EqLaw20, S1PLaw20, S1PMx, S1EqGg, S1PGg, S1PGgA, S1EqRef21, S1PRef21, S1PRef21A, S1PRef21B, S1EqRefM, S1PRefM, S1EqLaw21, S1PLaw21, TileL, DiffL, MagL, ExaL, S1PExa, S1PExaA, S1EqTame. -/
import Derived.Test.YtjbokjpbiobjpaaGreatTE
import Derived.Test.YtjbokjpbiobjpaaGreatTF
import Derived.Test.YtjbokjpbiobjpaaGreatTK
import Derived.Test.YtjbokjpbiobjpaaGreatTJ
import Derived.Test.YtjbokjpbiobjpaaGreatTG
import Derived.Test.YtjbokjpbiobjpaaGreatTI
set_option linter.unusedVariables false
set_option linter.unusedSimpArgs false
noncomputable section
namespace Go.Proofs.S1
open Go Go.Den Go.Rnd Go.Proofs
set_option maxRecDepth 100000
namespace EqLse
def C6.Check.hint:Nat→Option A8
  | 0=>some { keep:=[1,16,17],objs:=[],boxes:=[1] }
  | _=>none
def C6.Check.Bb:List (Nat × Entry):=[(86,Cc.Check.spec)]
def C6.Check.E:Env:=Bc (Ba C6.Check.Bb) (fun _=>false) C6.Check.hint (fun _=>none)
theorem C6.Check.ev (N:Nat) (r c:Int) (l:List Int) (p q:Int) (m:List Int) (a b:Int) (g:List Int) (u v:Int) (h:List Int):Bw C6.Check.E (N+6) Tryz.f120 (Am Tryz.f120) [.agg [.int .i64 r,.int .i64 c,.ints .arg .u64 l,.int .i64 p,.int .i64 q,.ints .arg .u64 m,.int .i64 a,.int .i64 b,.ints .arg .u64 g,.int .i64 u,.int .i64 v,.ints .arg .u64 h]]=bif (Ah l) then bif ((Bt r c l) !=(0:Int)) then some (.int .i64 (Bt r c l)) else bif (Ah m) then bif ((Bt p q m) !=(0:Int)) then some (.int .i64 (Bt p q m)) else bif (Ah g) then bif ((Bt a b g) !=(0:Int)) then some (.int .i64 (Bt a b g)) else bif (Ah h) then bif ((Bt u v h) !=(0:Int)) then some (.int .i64 (Bt u v h)) else bif (((((((q !=c)||(a !=r))||(u !=p))||(b !=(1:Int)))||(v !=(1:Int)))||(A2 c p))||(A2 (Ab (r+p)) c)) then some (.int .i64 3) else some (.int .i64 0) else none else none else none else none :=
  Eq.trans (by kernel_rfl)
  (Es (Es rfl (Es (Es rfl (Es (Es rfl (Es (Es rfl (Ap (Ul (q !=c)) (Ap (Q9 (q !=c)) (Ap (Q9 (q !=c)) (Ap (Ul (q !=c)) (Ap (Q9 (q !=c)) (Ap (Q9 (q !=c)) (Ap (tt8 (q !=c)) (Ap (tt6 (q !=c)) (Ap (Aap (q !=c) (a !=r)) (Ap (Adf (q !=c) (a !=r)) (Ap (Adf (q !=c) (a !=r)) (Ap (Aap (q !=c) (a !=r)) (Ap (Ang (q !=c) (a !=r)) (Ap (Anj (q !=c) (a !=r)) (Ap (Ank (q !=c) (a !=r) (u !=p)) (Ap (Adg (q !=c) (a !=r) (u !=p)) (Ap (Adg (q !=c) (a !=r) (u !=p)) (Ap (Adg (q !=c) (a !=r) (u !=p)) (Ap (Anl (q !=c) (a !=r) (u !=p)) (Ap (Aji (q !=c) (a !=r) (u !=p) (b !=(1:Int))) (Ap (Ajj (q !=c) (a !=r) (u !=p) (b !=(1:Int))) (Ap (Ajj (q !=c) (a !=r) (u !=p) (b !=(1:Int))) (Ap (Ajj (q !=c) (a !=r) (u !=p) (b !=(1:Int))) (Ap (Aqt (q !=c) (a !=r) (u !=p) (b !=(1:Int))) (Ap (Anm (q !=c) (a !=r) (u !=p) (b !=(1:Int)) (v !=(1:Int))) (Ap (Anm (q !=c) (a !=r) (u !=p) (b !=(1:Int)) (v !=(1:Int))) (Ap (Atd (q !=c) (a !=r) (u !=p) (b !=(1:Int)) (v !=(1:Int))) (Ap (Ate (q !=c) (a !=r) (u !=p) (b !=(1:Int)) (v !=(1:Int))) (Ap (Agw (q !=c) (a !=r) (u !=p) (b !=(1:Int)) (v !=(1:Int)) (A2 c p)) (Ap (Agw (q !=c) (a !=r) (u !=p) (b !=(1:Int)) (v !=(1:Int)) (A2 c p)) (Ap (Aqu (q !=c) (a !=r) (u !=p) (b !=(1:Int)) (v !=(1:Int)) (A2 c p)) (Ap (Aqu (q !=c) (a !=r) (u !=p) (b !=(1:Int)) (v !=(1:Int)) (A2 c p)) (Ap (Agw (q !=c) (a !=r) (u !=p) (b !=(1:Int)) (v !=(1:Int)) (A2 c p)) (Ap (Ann (q !=c) (a !=r) (u !=p) (b !=(1:Int)) (v !=(1:Int)) (A2 c p)) (Ap (Ann (q !=c) (a !=r) (u !=p) (b !=(1:Int)) (v !=(1:Int)) (A2 c p)) (Ap (Atf (q !=c) (a !=r) (u !=p) (b !=(1:Int)) (v !=(1:Int)) (A2 c p)) (Da (tt94 (q !=c) (a !=r) (u !=p) (b !=(1:Int)) (v !=(1:Int)) (A2 c p) (A2 (Ab (r+p)) c)) rfl rfl)))))))))))))))))))))))))))))))))))))) rfl)) rfl)) rfl)) rfl)
abbrev _root_.Go.Proofs.S1.C6.Check.Kn:=A6 Tryz.prog 120 C6.Check.spec
theorem C6.Check.Ad (hk:A0 Tryz.prog C6.Check.Bb) (h:∀ (r c:Int) (l:List Int) (p q:Int) (m:List Int) (a b:Int) (g:List Int) (u v:Int) (h:List Int),C6.Check.pre [.i r,.i c,.l l,.i p,.i q,.l m,.i a,.i b,.l g,.i u,.i v,.l h]=true→Be C6.Check.E Tryz.f120 [.agg [.int .i64 r,.int .i64 c,.ints .arg .u64 l,.int .i64 p,.int .i64 q,.ints .arg .u64 m,.int .i64 a,.int .i64 b,.ints .arg .u64 g,.int .i64 u,.int .i64 v,.ints .arg .u64 h]] (C6.Check.out [.i r,.i c,.l l,.i p,.i q,.l m,.i a,.i b,.l g,.i u,.i v,.l h])):C6.Check.Kn :=
  Ak (A1 hk _ _ _) Tryz.func120 (by kernel_rfl) (by kernel_rfl) h
def C6.finite.Bb:List (Nat × Entry):=[(86,Cc.Check.spec)]
def C6.finite.E:Env:=Bc (Ba C6.finite.Bb) (fun _=>false) (fun _=>none) (fun _=>none)
theorem C6.finite.ev (N:Nat) (r c:Int) (l:List Int) (e:Int):Bw C6.finite.E N Tryz.f122 (Am Tryz.f122) [.agg [.int .i64 r,.int .i64 c,.ints .arg .u64 l],.int .i64 e]=bif ((!(e==(0:Int)))||(Ah l)) then bif ((e==(0:Int))&&((Bt r c l) !=(0:Int))) then some (.tup [.agg [.int .i64 0,.int .i64 0,.nil],.int .i64 2]) else bif (e !=(0:Int)) then some (.tup [.agg [.int .i64 0,.int .i64 0,.nil],.int .i64 e]) else some (.tup [.agg [.int .i64 r,.int .i64 c,.ints .arg .u64 l],.int .i64 0]) else none :=
  Eq.trans (by kernel_rfl)
  (Ap (N4 (e==(0:Int))) (Da (Aqq (e==(0:Int)) (Ah l)) (Ap (Ki (e==(0:Int))) (Ap (Sr (e==(0:Int))) (Da (tt1 (e==(0:Int)) ((Bt r c l) !=(0:Int))) rfl rfl))) rfl))
abbrev _root_.Go.Proofs.S1.C6.finite.Kn:=A6 Tryz.prog 122 C6.finite.spec
theorem C6.finite.Ad (hk:A0 Tryz.prog C6.finite.Bb) (h:∀ (r c:Int) (l:List Int) (e:Int),C6.finite.pre [.i r,.i c,.l l,.i e]=true→Be C6.finite.E Tryz.f122 [.agg [.int .i64 r,.int .i64 c,.ints .arg .u64 l],.int .i64 e] (C6.finite.out [.i r,.i c,.l l,.i e])):C6.finite.Kn :=
  Ak (A1 hk _ _ _) Tryz.func122 (by kernel_rfl) (by kernel_rfl) h
def C6.held.Bb:List (Nat × Entry):=[(124,Aa.Part.spec),(167,Aa.Dn.spec),(166,qr.Di.spec),(24,solve.Flat.spec),(22,solve.G3.spec)]
def C6.held.live:Nat→Option (List Nat)
  | 5=>some [1,2,3,4,6]
  | 8=>some [1,2,3,7]
  | 9=>some [1,2,3,9]
  | _=>none
def C6.held.E:Env:=Bc (Ba C6.held.Bb) (fun _=>false) (fun _=>none) C6.held.live
def C6.held.C5 (N:Nat) (r c:Int) (l:List Int) (p q:Int) (m:List Int) (a b:Int) (g:List Int) (u v:Int) (h:List Int) (p4 p6 p6_1:Int) (p6_2:List Int) (p5 p5_1:Int) (p5_2:List Int) (p2 p2_1:Int) (p2_2:List Int):Option DV:=cutAt C6.held.E N Tryz.f121 (Am Tryz.f121) [1,1,1,1,0] [] ⟨Gb 69 [(1,.ptr 1 0 0),(2,.ptr 2 0 0),(3,.ptr 3 0 0),(4,.int .i64 p4),(6,.ptr 6 0 0)],[(6,false,.box [.int .i64 p6,.int .i64 p6_1,.ints .arg .u64 p6_2]),(5,false,.box [.int .i64 p5,.int .i64 p5_1,.ints .fresh .u64 p5_2]),(3,false,.box [.int .i64 0,.int .i64 0,.nil]),(2,false,.box [.int .i64 p2,.int .i64 p2_1,.ints .arg .u64 p2_2]),(1,false,.box [.int .i64 r,.int .i64 c,.ints .arg .u64 l,.int .i64 p,.int .i64 q,.ints .arg .u64 m,.int .i64 a,.int .i64 b,.ints .arg .u64 g,.int .i64 u,.int .i64 v,.ints .arg .u64 h])]⟩
def C6.held.C8 (N:Nat) (r c:Int) (l:List Int) (p q:Int) (m:List Int) (a b:Int) (g:List Int) (u v:Int) (h:List Int) (p6 p6_1:Int) (p6_2:List Int) (p5 p5_1:Int) (p5_2:List Int) (p2 p2_1:Int) (p2_2:List Int) (p7 p7_1:Int) (p7_2:List Int):Option DV:=cutAt C6.held.E N Tryz.f121 (Am Tryz.f121) [1,1,1,1,1,1] [] ⟨Gb 69 [(1,.ptr 1 0 0),(2,.ptr 2 0 0),(3,.ptr 3 0 0),(7,.ptr 7 0 0)],[(7,false,.box [.int .i64 p7,.int .i64 p7_1,.ints .fresh .u64 p7_2]),(6,false,.box [.int .i64 p6,.int .i64 p6_1,.ints .arg .u64 p6_2]),(5,false,.box [.int .i64 p5,.int .i64 p5_1,.ints .fresh .u64 p5_2]),(3,false,.box [.int .i64 0,.int .i64 0,.nil]),(2,false,.box [.int .i64 p2,.int .i64 p2_1,.ints .arg .u64 p2_2]),(1,false,.box [.int .i64 r,.int .i64 c,.ints .arg .u64 l,.int .i64 p,.int .i64 q,.ints .arg .u64 m,.int .i64 a,.int .i64 b,.ints .arg .u64 g,.int .i64 u,.int .i64 v,.ints .arg .u64 h])]⟩
def C6.held.C9 (N:Nat) (r c:Int) (l:List Int) (p q:Int) (m:List Int) (a b:Int) (g:List Int) (u v:Int) (h:List Int) (p6 p6_1:Int) (p6_2:List Int) (p5 p5_1:Int) (p5_2:List Int) (p2 p2_1:Int) (p2_2:List Int) (p7 p7_1:Int) (p7_2:List Int) (p9 p9_1:Int) (p9_2:List Int):Option DV:=cutAt C6.held.E N Tryz.f121 (Am Tryz.f121) [1,1,1,1,1,1,1,0] [] ⟨Gb 69 [(1,.ptr 1 0 0),(2,.ptr 2 0 0),(3,.ptr 3 0 0),(9,.ptr 9 0 0)],[(9,false,.box [.int .i64 p9,.int .i64 p9_1,.ints .fresh .u64 p9_2]),(7,false,.box [.int .i64 p7,.int .i64 p7_1,.ints .fresh .u64 p7_2]),(6,false,.box [.int .i64 p6,.int .i64 p6_1,.ints .arg .u64 p6_2]),(5,false,.box [.int .i64 p5,.int .i64 p5_1,.ints .fresh .u64 p5_2]),(3,false,.box [.int .i64 0,.int .i64 0,.nil]),(2,false,.box [.int .i64 p2,.int .i64 p2_1,.ints .arg .u64 p2_2]),(1,false,.box [.int .i64 r,.int .i64 c,.ints .arg .u64 l,.int .i64 p,.int .i64 q,.ints .arg .u64 m,.int .i64 a,.int .i64 b,.ints .arg .u64 g,.int .i64 u,.int .i64 v,.ints .arg .u64 h])]⟩
theorem C6.held.Am0 (N:Nat) (r c:Int) (l:List Int) (p q:Int) (m:List Int) (a b:Int) (g:List Int) (u v:Int) (h:List Int) (p4 p6 p6_1:Int) (p6_2:List Int) (p5 p5_1:Int) (p5_2:List Int) (p2 p2_1:Int) (p2_2:List Int):C6.held.C5 N r c l p q m a b g u v h p4 p6 p6_1 p6_2 p5 p5_1 p5_2 p2 p2_1 p2_2=bif (p4 !=(0:Int)) then some (.tup [.agg [.int .i64 0,.int .i64 0,.nil],.agg [.int .i64 0,.int .i64 0,.nil],.int .i64 p4]) else C6.held.C8 N r c l p q m a b g u v h p6 p6_1 p6_2 p5 p5_1 p5_2 p2 p2_1 p2_2 ((Ey p6 p6_1 p6_2 0 0 p p).1) ((Ey p6 p6_1 p6_2 0 0 p p).2.1) ((Ey p6 p6_1 p6_2 0 0 p p).2.2.1):=(Fq _ _ _ _ _ _ _).trans (by kernel_rfl)
theorem C6.held.Aur (N:Nat) (r c:Int) (l:List Int) (p q:Int) (m:List Int) (a b:Int) (g:List Int) (u v:Int) (h:List Int) (p6 p6_1:Int) (p6_2:List Int) (p5 p5_1:Int) (p5_2:List Int) (p2 p2_1:Int) (p2_2:List Int) (p7 p7_1:Int) (p7_2:List Int):C6.held.C8 N r c l p q m a b g u v h p6 p6_1 p6_2 p5 p5_1 p5_2 p2 p2_1 p2_2 p7 p7_1 p7_2 =
  C6.held.C9 N r c l p q m a b g u v h p6 p6_1 p6_2 p5 p5_1 p5_2 p2 p2_1 p2_2 p7 p7_1 p7_2 ((Ck p7 p7_1 p7_2).1) ((Ck p7 p7_1 p7_2).2.1) ((Ck p7 p7_1 p7_2).2.2.1):=(Fq _ _ _ _ _ _ _).trans (by kernel_rfl)
theorem C6.held.Amz (N:Nat) (r c:Int) (l:List Int) (p q:Int) (m:List Int) (a b:Int) (g:List Int) (u v:Int) (h:List Int) (p6 p6_1:Int) (p6_2:List Int) (p5 p5_1:Int) (p5_2:List Int) (p2 p2_1:Int) (p2_2:List Int) (p7 p7_1:Int) (p7_2:List Int) (p9 p9_1:Int) (p9_2:List Int):C6.held.C9 N r c l p q m a b g u v h p6 p6_1 p6_2 p5 p5_1 p5_2 p2 p2_1 p2_2 p7 p7_1 p7_2 p9 p9_1 p9_2=bif (Ah p9_2) then bif ((J5 p9 p9_1 p9_2).1) then some (.tup [.agg [.int .i64 0,.int .i64 0,.nil],.agg [.int .i64 0,.int .i64 0,.nil],.int .i64 5]) else bif (Ah p9_2&&Ah h) then some (.tup [.agg [.int .i64 p2,.int .i64 p2_1,.ints .arg .u64 p2_2],.agg [.int .i64 ((U3 p9 p9_1 p9_2 u v h).1),.int .i64 ((U3 p9 p9_1 p9_2 u v h).2.1),.ints .fresh .u64 ((U3 p9 p9_1 p9_2 u v h).2.2.1)],.int .i64 ((U3 p9 p9_1 p9_2 u v h).2.2.2)]) else none else none:=(Fq _ _ _ _ _ _ _).trans (by kernel_rfl)
theorem C6.held.ev (N:Nat) (r c:Int) (l:List Int) (p q:Int) (m:List Int) (a b:Int) (g:List Int) (u v:Int) (h:List Int):Bw C6.held.E N Tryz.f121 (Am Tryz.f121) [.agg [.int .i64 r,.int .i64 c,.ints .arg .u64 l,.int .i64 p,.int .i64 q,.ints .arg .u64 m,.int .i64 a,.int .i64 b,.ints .arg .u64 g,.int .i64 u,.int .i64 v,.ints .arg .u64 h]]=bif (((Ck p q m).2.2.2) !=(0:Int)) then some (.tup [.agg [.int .i64 0,.int .i64 0,.nil],.agg [.int .i64 0,.int .i64 0,.nil],.int .i64 ((Ck p q m).2.2.2)]) else bif (Ah ((Ck p q m).2.2.1)) then C6.held.C5 N r c l p q m a b g u v h (E1 ((Ck p q m).1) ((Ck p q m).2.1) ((Ck p q m).2.2.1)) ((rX ((Ck p q m).1) ((Ck p q m).2.1) ((Ck p q m).2.2.1)).1) ((rX ((Ck p q m).1) ((Ck p q m).2.1) ((Ck p q m).2.2.1)).2.1) ((rX ((Ck p q m).1) ((Ck p q m).2.1) ((Ck p q m).2.2.1)).2.2.1) ((Ck p q m).1) ((Ck p q m).2.1) ((Ck p q m).2.2.1) ((qX ((Ck p q m).1) ((Ck p q m).2.1) ((Ck p q m).2.2.1)).1) ((qX ((Ck p q m).1) ((Ck p q m).2.1) ((Ck p q m).2.2.1)).2.1) ((qX ((Ck p q m).1) ((Ck p q m).2.1) ((Ck p q m).2.2.1)).2.2.1) else none:=by kernel_rfl
abbrev _root_.Go.Proofs.S1.C6.held.Kn:=A6 Tryz.prog 121 C6.held.spec
theorem C6.held.Ad (hk:A0 Tryz.prog C6.held.Bb) (h:∀ (r c:Int) (l:List Int) (p q:Int) (m:List Int) (a b:Int) (g:List Int) (u v:Int) (h:List Int),C6.held.pre [.i r,.i c,.l l,.i p,.i q,.l m,.i a,.i b,.l g,.i u,.i v,.l h]=true→Be C6.held.E Tryz.f121 [.agg [.int .i64 r,.int .i64 c,.ints .arg .u64 l,.int .i64 p,.int .i64 q,.ints .arg .u64 m,.int .i64 a,.int .i64 b,.ints .arg .u64 g,.int .i64 u,.int .i64 v,.ints .arg .u64 h]] (C6.held.out [.i r,.i c,.l l,.i p,.i q,.l m,.i a,.i b,.l g,.i u,.i v,.l h])):C6.held.Kn :=
  Ak (A1 hk _ _ _) Tryz.func121 (by kernel_rfl) (by kernel_rfl) h
def C6.Solve.Bb:List (Nat × Entry):=[(120,C6.Check.spec),(122,C6.finite.spec),(121,C6.held.spec),(123,Aa.Mul.spec),(124,Aa.Part.spec),(126,Aa.Stack.spec),(125,Aa.Sub.spec),(30,solve.Gs.spec)]
def C6.Solve.live:Nat→Option (List Nat)
  | 5=>some [1,2,5,6,7]
  | 9=>some [1,2,5,6,7,8,9,10]
  | 12=>some [1,2,5,6,8,9,10,11]
  | 13=>some [1,2,5,6,11,13]
  | 14=>some [1,2,5,6,13,15]
  | 15=>some [2,5,6,7,13,17]
  | 18=>some [2,5,6,7,18]
  | _=>none
def C6.Solve.E:Env:=Bc (Ba C6.Solve.Bb) (fun _=>false) (fun _=>none) C6.Solve.live
def C6.Solve.C5 (N:Nat) (r c:Int) (l:List Int) (p q:Int) (m:List Int) (a b:Int) (g:List Int) (u v:Int) (h:List Int) (p7 p6 p6_1:Int) (p6_2:List Int) (p5 p5_1:Int) (p5_2:List Int):Option DV:=cutAt C6.Solve.E N Tryz.f47 (Am Tryz.f47) [1,1,1,0] [] ⟨Gb 125 [(1,.ptr 1 0 0),(2,.ptr 2 0 0),(5,.ptr 5 0 0),(6,.ptr 6 0 0),(7,.int .i64 p7)],[(6,false,.box [.int .i64 p6,.int .i64 p6_1,.ints .fresh .u64 p6_2]),(5,false,.box [.int .i64 p5,.int .i64 p5_1,.ints .arg .u64 p5_2]),(2,false,.box [.int .i64 0,.int .i64 0,.nil]),(1,false,.box [.int .i64 r,.int .i64 c,.ints .arg .u64 l,.int .i64 p,.int .i64 q,.ints .arg .u64 m,.int .i64 a,.int .i64 b,.ints .arg .u64 g,.int .i64 u,.int .i64 v,.ints .arg .u64 h])]⟩
def C6.Solve.C9 (N:Nat) (r c:Int) (l:List Int) (p q:Int) (m:List Int) (a b:Int) (g:List Int) (u v:Int) (h:List Int) (p6 p6_1:Int) (p6_2:List Int) (p5 p5_1:Int) (p5_2:List Int) (p7_1 p10 p10_1:Int) (p10_2:List Int):Option DV:=cutAt C6.Solve.E N Tryz.f47 (Am Tryz.f47) [1,1,1,1,1,1,0] [] ⟨Gb 125 [(1,.ptr 1 0 0),(2,.ptr 2 0 0),(5,.ptr 5 0 0),(6,.ptr 6 0 0),(7,.int .i64 p7_1),(8,.int .i64 c),(9,.int .i64 p),(10,.ptr 10 0 0)],[(10,false,.box [.int .i64 p10,.int .i64 p10_1,.ints .arg .u64 p10_2]),(6,false,.box [.int .i64 p6,.int .i64 p6_1,.ints .fresh .u64 p6_2]),(5,false,.box [.int .i64 p5,.int .i64 p5_1,.ints .arg .u64 p5_2]),(2,false,.box [.int .i64 0,.int .i64 0,.nil]),(1,false,.box [.int .i64 r,.int .i64 c,.ints .arg .u64 l,.int .i64 p,.int .i64 q,.ints .arg .u64 m,.int .i64 a,.int .i64 b,.ints .arg .u64 g,.int .i64 u,.int .i64 v,.ints .arg .u64 h])]⟩
def C6.Solve.C12 (N:Nat) (r c:Int) (l:List Int) (p q:Int) (m:List Int) (a b:Int) (g:List Int) (u v:Int) (h:List Int) (p6 p6_1:Int) (p6_2:List Int) (p5 p5_1:Int) (p5_2:List Int) (p10 p10_1:Int) (p10_2:List Int) (p11 p11_1:Int) (p11_2:List Int):Option DV:=cutAt C6.Solve.E N Tryz.f47 (Am Tryz.f47) [1,1,1,1,1,1,1,1] [] ⟨Gb 125 [(1,.ptr 1 0 0),(2,.ptr 2 0 0),(5,.ptr 5 0 0),(6,.ptr 6 0 0),(8,.int .i64 c),(9,.int .i64 p),(10,.ptr 10 0 0),(11,.ptr 11 0 0)],[(11,false,.box [.int .i64 p11,.int .i64 p11_1,.ints .fresh .u64 p11_2]),(10,false,.box [.int .i64 p10,.int .i64 p10_1,.ints .arg .u64 p10_2]),(6,false,.box [.int .i64 p6,.int .i64 p6_1,.ints .fresh .u64 p6_2]),(5,false,.box [.int .i64 p5,.int .i64 p5_1,.ints .arg .u64 p5_2]),(2,false,.box [.int .i64 0,.int .i64 0,.nil]),(1,false,.box [.int .i64 r,.int .i64 c,.ints .arg .u64 l,.int .i64 p,.int .i64 q,.ints .arg .u64 m,.int .i64 a,.int .i64 b,.ints .arg .u64 g,.int .i64 u,.int .i64 v,.ints .arg .u64 h])]⟩
def C6.Solve.C13 (N:Nat) (r c:Int) (l:List Int) (p q:Int) (m:List Int) (a b:Int) (g:List Int) (u v:Int) (h:List Int) (p6 p6_1:Int) (p6_2:List Int) (p5 p5_1:Int) (p5_2:List Int) (p10 p10_1:Int) (p10_2:List Int) (p11 p11_1:Int) (p11_2:List Int) (p13 p13_1:Int) (p13_2:List Int):Option DV:=cutAt C6.Solve.E N Tryz.f47 (Am Tryz.f47) [1,1,1,1,1,1,1,1,1] [] ⟨Gb 125 [(1,.ptr 1 0 0),(2,.ptr 2 0 0),(5,.ptr 5 0 0),(6,.ptr 6 0 0),(11,.ptr 11 0 0),(13,.ptr 13 0 0)],[(13,false,.box [.int .i64 p13,.int .i64 p13_1,.ints .fresh .u64 p13_2]),(11,false,.box [.int .i64 p11,.int .i64 p11_1,.ints .fresh .u64 p11_2]),(10,false,.box [.int .i64 p10,.int .i64 p10_1,.ints .arg .u64 p10_2]),(6,false,.box [.int .i64 p6,.int .i64 p6_1,.ints .fresh .u64 p6_2]),(5,false,.box [.int .i64 p5,.int .i64 p5_1,.ints .arg .u64 p5_2]),(2,false,.box [.int .i64 0,.int .i64 0,.nil]),(1,false,.box [.int .i64 r,.int .i64 c,.ints .arg .u64 l,.int .i64 p,.int .i64 q,.ints .arg .u64 m,.int .i64 a,.int .i64 b,.ints .arg .u64 g,.int .i64 u,.int .i64 v,.ints .arg .u64 h])]⟩
def C6.Solve.C14 (N:Nat) (r c:Int) (l:List Int) (p q:Int) (m:List Int) (a b:Int) (g:List Int) (u v:Int) (h:List Int) (p6 p6_1:Int) (p6_2:List Int) (p5 p5_1:Int) (p5_2:List Int) (p10 p10_1:Int) (p10_2:List Int) (p11 p11_1:Int) (p11_2:List Int) (p13 p13_1:Int) (p13_2:List Int) (p15 p15_1:Int) (p15_2:List Int):Option DV:=cutAt C6.Solve.E N Tryz.f47 (Am Tryz.f47) [1,1,1,1,1,1,1,1,1,1] [] ⟨Gb 125 [(1,.ptr 1 0 0),(2,.ptr 2 0 0),(5,.ptr 5 0 0),(6,.ptr 6 0 0),(13,.ptr 13 0 0),(15,.ptr 15 0 0)],[(15,false,.box [.int .i64 p15,.int .i64 p15_1,.ints .fresh .u64 p15_2]),(13,false,.box [.int .i64 p13,.int .i64 p13_1,.ints .fresh .u64 p13_2]),(11,false,.box [.int .i64 p11,.int .i64 p11_1,.ints .fresh .u64 p11_2]),(10,false,.box [.int .i64 p10,.int .i64 p10_1,.ints .arg .u64 p10_2]),(6,false,.box [.int .i64 p6,.int .i64 p6_1,.ints .fresh .u64 p6_2]),(5,false,.box [.int .i64 p5,.int .i64 p5_1,.ints .arg .u64 p5_2]),(2,false,.box [.int .i64 0,.int .i64 0,.nil]),(1,false,.box [.int .i64 r,.int .i64 c,.ints .arg .u64 l,.int .i64 p,.int .i64 q,.ints .arg .u64 m,.int .i64 a,.int .i64 b,.ints .arg .u64 g,.int .i64 u,.int .i64 v,.ints .arg .u64 h])]⟩
def C6.Solve.C15 (N:Nat) (r c:Int) (l:List Int) (p q:Int) (m:List Int) (a b:Int) (g:List Int) (u v:Int) (h:List Int) (p6 p6_1:Int) (p6_2:List Int) (p5 p5_1:Int) (p5_2:List Int) (p10 p10_1:Int) (p10_2:List Int) (p11 p11_1:Int) (p11_2:List Int) (p13 p13_1:Int) (p13_2:List Int) (p15 p15_1:Int) (p15_2:List Int) (p7_2 p17 p17_1:Int) (p17_2:List Int):Option DV:=cutAt C6.Solve.E N Tryz.f47 (Am Tryz.f47) [1,1,1,1,1,1,1,1,1,1,1,0] [] ⟨Gb 125 [(2,.ptr 2 0 0),(5,.ptr 5 0 0),(6,.ptr 6 0 0),(7,.int .i64 p7_2),(13,.ptr 13 0 0),(17,.ptr 17 0 0)],[(17,false,.box [.int .i64 p17,.int .i64 p17_1,.ints .arg .u64 p17_2]),(15,false,.box [.int .i64 p15,.int .i64 p15_1,.ints .fresh .u64 p15_2]),(13,false,.box [.int .i64 p13,.int .i64 p13_1,.ints .fresh .u64 p13_2]),(11,false,.box [.int .i64 p11,.int .i64 p11_1,.ints .fresh .u64 p11_2]),(10,false,.box [.int .i64 p10,.int .i64 p10_1,.ints .arg .u64 p10_2]),(6,false,.box [.int .i64 p6,.int .i64 p6_1,.ints .fresh .u64 p6_2]),(5,false,.box [.int .i64 p5,.int .i64 p5_1,.ints .arg .u64 p5_2]),(2,false,.box [.int .i64 0,.int .i64 0,.nil]),(1,false,.box [.int .i64 r,.int .i64 c,.ints .arg .u64 l,.int .i64 p,.int .i64 q,.ints .arg .u64 m,.int .i64 a,.int .i64 b,.ints .arg .u64 g,.int .i64 u,.int .i64 v,.ints .arg .u64 h])]⟩
def C6.Solve.C18 (N:Nat) (r c:Int) (l:List Int) (p q:Int) (m:List Int) (a b:Int) (g:List Int) (u v:Int) (h:List Int) (p6 p6_1:Int) (p6_2:List Int) (p5 p5_1:Int) (p5_2:List Int) (p10 p10_1:Int) (p10_2:List Int) (p11 p11_1:Int) (p11_2:List Int) (p13 p13_1:Int) (p13_2:List Int) (p15 p15_1:Int) (p15_2:List Int) (p17 p17_1:Int) (p17_2:List Int) (p7_3 p18 p18_1:Int) (p18_2:List Int):Option DV:=cutAt C6.Solve.E N Tryz.f47 (Am Tryz.f47) [1,1,1,1,1,1,1,1,1,1,1,1,1,0] [] ⟨Gb 125 [(2,.ptr 2 0 0),(5,.ptr 5 0 0),(6,.ptr 6 0 0),(7,.int .i64 p7_3),(18,.ptr 18 0 0)],[(18,false,.box [.int .i64 p18,.int .i64 p18_1,.ints .fresh .u64 p18_2]),(17,false,.box [.int .i64 p17,.int .i64 p17_1,.ints .arg .u64 p17_2]),(15,false,.box [.int .i64 p15,.int .i64 p15_1,.ints .fresh .u64 p15_2]),(13,false,.box [.int .i64 p13,.int .i64 p13_1,.ints .fresh .u64 p13_2]),(11,false,.box [.int .i64 p11,.int .i64 p11_1,.ints .fresh .u64 p11_2]),(10,false,.box [.int .i64 p10,.int .i64 p10_1,.ints .arg .u64 p10_2]),(6,false,.box [.int .i64 p6,.int .i64 p6_1,.ints .fresh .u64 p6_2]),(5,false,.box [.int .i64 p5,.int .i64 p5_1,.ints .arg .u64 p5_2]),(2,false,.box [.int .i64 0,.int .i64 0,.nil]),(1,false,.box [.int .i64 r,.int .i64 c,.ints .arg .u64 l,.int .i64 p,.int .i64 q,.ints .arg .u64 m,.int .i64 a,.int .i64 b,.ints .arg .u64 g,.int .i64 u,.int .i64 v,.ints .arg .u64 h])]⟩
theorem C6.Solve.Am0 (N:Nat) (r c:Int) (l:List Int) (p q:Int) (m:List Int) (a b:Int) (g:List Int) (u v:Int) (h:List Int) (p7 p6 p6_1:Int) (p6_2:List Int) (p5 p5_1:Int) (p5_2:List Int):C6.Solve.C5 N r c l p q m a b g u v h p7 p6 p6_1 p6_2 p5 p5_1 p5_2=bif (p7 !=(0:Int)) then some (.tup [.agg [.int .i64 0,.int .i64 0,.nil],.int .i64 p7]) else bif (Ah l&&Ah p5_2) then bif (Ah ((En r c l p5 p5_1 p5_2).2.2.1)) then C6.Solve.C9 N r c l p q m a b g u v h p6 p6_1 p6_2 p5 p5_1 p5_2 ((Lv ((En r c l p5 p5_1 p5_2).1) ((En r c l p5 p5_1 p5_2).2.1) ((En r c l p5 p5_1 p5_2).2.2.1) ((En r c l p5 p5_1 p5_2).2.2.2)).2.2.2) ((Lv ((En r c l p5 p5_1 p5_2).1) ((En r c l p5 p5_1 p5_2).2.1) ((En r c l p5 p5_1 p5_2).2.2.1) ((En r c l p5 p5_1 p5_2).2.2.2)).1) ((Lv ((En r c l p5 p5_1 p5_2).1) ((En r c l p5 p5_1 p5_2).2.1) ((En r c l p5 p5_1 p5_2).2.2.1) ((En r c l p5 p5_1 p5_2).2.2.2)).2.1) ((Lv ((En r c l p5 p5_1 p5_2).1) ((En r c l p5 p5_1 p5_2).2.1) ((En r c l p5 p5_1 p5_2).2.2.1) ((En r c l p5 p5_1 p5_2).2.2.2)).2.2.1) else none else none:=(Fq _ _ _ _ _ _ _).trans (by kernel_rfl)
theorem C6.Solve.Amz (N:Nat) (r c:Int) (l:List Int) (p q:Int) (m:List Int) (a b:Int) (g:List Int) (u v:Int) (h:List Int) (p6 p6_1:Int) (p6_2:List Int) (p5 p5_1:Int) (p5_2:List Int) (p7_1 p10 p10_1:Int) (p10_2:List Int):C6.Solve.C9 N r c l p q m a b g u v h p6 p6_1 p6_2 p5 p5_1 p5_2 p7_1 p10 p10_1 p10_2=bif (p7_1 !=(0:Int)) then some (.tup [.agg [.int .i64 0,.int .i64 0,.nil],.int .i64 p7_1]) else C6.Solve.C12 N r c l p q m a b g u v h p6 p6_1 p6_2 p5 p5_1 p5_2 p10 p10_1 p10_2 ((Ey p10 p10_1 p10_2 0 0 r p).1) ((Ey p10 p10_1 p10_2 0 0 r p).2.1) ((Ey p10 p10_1 p10_2 0 0 r p).2.2.1):=(Fq _ _ _ _ _ _ _).trans (by kernel_rfl)
theorem C6.Solve.Afg (N:Nat) (r c:Int) (l:List Int) (p q:Int) (m:List Int) (a b:Int) (g:List Int) (u v:Int) (h:List Int) (p6 p6_1:Int) (p6_2:List Int) (p5 p5_1:Int) (p5_2:List Int) (p10 p10_1:Int) (p10_2:List Int) (p11 p11_1:Int) (p11_2:List Int):C6.Solve.C12 N r c l p q m a b g u v h p6 p6_1 p6_2 p5 p5_1 p5_2 p10 p10_1 p10_2 p11 p11_1 p11_2 =
  C6.Solve.C13 N r c l p q m a b g u v h p6 p6_1 p6_2 p5 p5_1 p5_2 p10 p10_1 p10_2 p11 p11_1 p11_2 ((Ey p10 p10_1 p10_2 0 p r (Ab (c-p))).1) ((Ey p10 p10_1 p10_2 0 p r (Ab (c-p))).2.1) ((Ey p10 p10_1 p10_2 0 p r (Ab (c-p))).2.2.1):=(Fq _ _ _ _ _ _ _).trans (by kernel_rfl)
theorem C6.Solve.Asb (N:Nat) (r c:Int) (l:List Int) (p q:Int) (m:List Int) (a b:Int) (g:List Int) (u v:Int) (h:List Int) (p6 p6_1:Int) (p6_2:List Int) (p5 p5_1:Int) (p5_2:List Int) (p10 p10_1:Int) (p10_2:List Int) (p11 p11_1:Int) (p11_2:List Int) (p13 p13_1:Int) (p13_2:List Int):C6.Solve.C13 N r c l p q m a b g u v h p6 p6_1 p6_2 p5 p5_1 p5_2 p10 p10_1 p10_2 p11 p11_1 p11_2 p13 p13_1 p13_2=bif (Ah p11_2&&Ah p6_2) then C6.Solve.C14 N r c l p q m a b g u v h p6 p6_1 p6_2 p5 p5_1 p5_2 p10 p10_1 p10_2 p11 p11_1 p11_2 p13 p13_1 p13_2 ((En p11 p11_1 p11_2 p6 p6_1 p6_2).1) ((En p11 p11_1 p11_2 p6 p6_1 p6_2).2.1) ((En p11 p11_1 p11_2 p6 p6_1 p6_2).2.2.1) else none:=(Fq _ _ _ _ _ _ _).trans (by kernel_rfl)
theorem C6.Solve.Aff (N:Nat) (r c:Int) (l:List Int) (p q:Int) (m:List Int) (a b:Int) (g:List Int) (u v:Int) (h:List Int) (p6 p6_1:Int) (p6_2:List Int) (p5 p5_1:Int) (p5_2:List Int) (p10 p10_1:Int) (p10_2:List Int) (p11 p11_1:Int) (p11_2:List Int) (p13 p13_1:Int) (p13_2:List Int) (p15 p15_1:Int) (p15_2:List Int):C6.Solve.C14 N r c l p q m a b g u v h p6 p6_1 p6_2 p5 p5_1 p5_2 p10 p10_1 p10_2 p11 p11_1 p11_2 p13 p13_1 p13_2 p15 p15_1 p15_2=bif (Ah g&&Ah p15_2) then bif (Ah ((Ir a b g p15 p15_1 p15_2).2.2.1)) then C6.Solve.C15 N r c l p q m a b g u v h p6 p6_1 p6_2 p5 p5_1 p5_2 p10 p10_1 p10_2 p11 p11_1 p11_2 p13 p13_1 p13_2 p15 p15_1 p15_2 ((Lv ((Ir a b g p15 p15_1 p15_2).1) ((Ir a b g p15 p15_1 p15_2).2.1) ((Ir a b g p15 p15_1 p15_2).2.2.1) ((Ir a b g p15 p15_1 p15_2).2.2.2)).2.2.2) ((Lv ((Ir a b g p15 p15_1 p15_2).1) ((Ir a b g p15 p15_1 p15_2).2.1) ((Ir a b g p15 p15_1 p15_2).2.2.1) ((Ir a b g p15 p15_1 p15_2).2.2.2)).1) ((Lv ((Ir a b g p15 p15_1 p15_2).1) ((Ir a b g p15 p15_1 p15_2).2.1) ((Ir a b g p15 p15_1 p15_2).2.2.1) ((Ir a b g p15 p15_1 p15_2).2.2.2)).2.1) ((Lv ((Ir a b g p15 p15_1 p15_2).1) ((Ir a b g p15 p15_1 p15_2).2.1) ((Ir a b g p15 p15_1 p15_2).2.2.1) ((Ir a b g p15 p15_1 p15_2).2.2.2)).2.2.1) else none else none:=(Fq _ _ _ _ _ _ _).trans (by kernel_rfl)
theorem C6.Solve.Ar9 (N:Nat) (r c:Int) (l:List Int) (p q:Int) (m:List Int) (a b:Int) (g:List Int) (u v:Int) (h:List Int) (p6 p6_1:Int) (p6_2:List Int) (p5 p5_1:Int) (p5_2:List Int) (p10 p10_1:Int) (p10_2:List Int) (p11 p11_1:Int) (p11_2:List Int) (p13 p13_1:Int) (p13_2:List Int) (p15 p15_1:Int) (p15_2:List Int) (p7_2 p17 p17_1:Int) (p17_2:List Int):C6.Solve.C15 N r c l p q m a b g u v h p6 p6_1 p6_2 p5 p5_1 p5_2 p10 p10_1 p10_2 p11 p11_1 p11_2 p13 p13_1 p13_2 p15 p15_1 p15_2 p7_2 p17 p17_1 p17_2=bif (p7_2 !=(0:Int)) then some (.tup [.agg [.int .i64 0,.int .i64 0,.nil],.int .i64 p7_2]) else bif (Ah p13_2&&Ah p17_2) then C6.Solve.C18 N r c l p q m a b g u v h p6 p6_1 p6_2 p5 p5_1 p5_2 p10 p10_1 p10_2 p11 p11_1 p11_2 p13 p13_1 p13_2 p15 p15_1 p15_2 p17 p17_1 p17_2 ((I1 p13 p13_1 p13_2 p17 p17_1 p17_2).2.2.2) ((I1 p13 p13_1 p13_2 p17 p17_1 p17_2).1) ((I1 p13 p13_1 p13_2 p17 p17_1 p17_2).2.1) ((I1 p13 p13_1 p13_2 p17 p17_1 p17_2).2.2.1) else none:=(Fq _ _ _ _ _ _ _).trans (by kernel_rfl)
theorem C6.Solve.Afe (N:Nat) (r c:Int) (l:List Int) (p q:Int) (m:List Int) (a b:Int) (g:List Int) (u v:Int) (h:List Int) (p6 p6_1:Int) (p6_2:List Int) (p5 p5_1:Int) (p5_2:List Int) (p10 p10_1:Int) (p10_2:List Int) (p11 p11_1:Int) (p11_2:List Int) (p13 p13_1:Int) (p13_2:List Int) (p15 p15_1:Int) (p15_2:List Int) (p17 p17_1:Int) (p17_2:List Int) (p7_3 p18 p18_1:Int) (p18_2:List Int):C6.Solve.C18 N r c l p q m a b g u v h p6 p6_1 p6_2 p5 p5_1 p5_2 p10 p10_1 p10_2 p11 p11_1 p11_2 p13 p13_1 p13_2 p15 p15_1 p15_2 p17 p17_1 p17_2 p7_3 p18 p18_1 p18_2=bif (p7_3 !=(0:Int)) then some (.tup [.agg [.int .i64 0,.int .i64 0,.nil],.int .i64 p7_3]) else bif (((B6 p6 p6_1 p6_2 p18 p18_1 p18_2).2.2.2) !=(0:Int)) then some (.tup [.agg [.int .i64 0,.int .i64 0,.nil],.int .i64 ((B6 p6 p6_1 p6_2 p18 p18_1 p18_2).2.2.2)]) else bif (Ah p5_2&&Ah ((B6 p6 p6_1 p6_2 p18 p18_1 p18_2).2.2.1)) then bif (Ah ((En p5 p5_1 p5_2 ((B6 p6 p6_1 p6_2 p18 p18_1 p18_2).1) ((B6 p6 p6_1 p6_2 p18 p18_1 p18_2).2.1) ((B6 p6 p6_1 p6_2 p18 p18_1 p18_2).2.2.1)).2.2.1)) then some (.tup [.agg [.int .i64 ((Lv ((En p5 p5_1 p5_2 ((B6 p6 p6_1 p6_2 p18 p18_1 p18_2).1) ((B6 p6 p6_1 p6_2 p18 p18_1 p18_2).2.1) ((B6 p6 p6_1 p6_2 p18 p18_1 p18_2).2.2.1)).1) ((En p5 p5_1 p5_2 ((B6 p6 p6_1 p6_2 p18 p18_1 p18_2).1) ((B6 p6 p6_1 p6_2 p18 p18_1 p18_2).2.1) ((B6 p6 p6_1 p6_2 p18 p18_1 p18_2).2.2.1)).2.1) ((En p5 p5_1 p5_2 ((B6 p6 p6_1 p6_2 p18 p18_1 p18_2).1) ((B6 p6 p6_1 p6_2 p18 p18_1 p18_2).2.1) ((B6 p6 p6_1 p6_2 p18 p18_1 p18_2).2.2.1)).2.2.1) ((En p5 p5_1 p5_2 ((B6 p6 p6_1 p6_2 p18 p18_1 p18_2).1) ((B6 p6 p6_1 p6_2 p18 p18_1 p18_2).2.1) ((B6 p6 p6_1 p6_2 p18 p18_1 p18_2).2.2.1)).2.2.2)).1),.int .i64 ((Lv ((En p5 p5_1 p5_2 ((B6 p6 p6_1 p6_2 p18 p18_1 p18_2).1) ((B6 p6 p6_1 p6_2 p18 p18_1 p18_2).2.1) ((B6 p6 p6_1 p6_2 p18 p18_1 p18_2).2.2.1)).1) ((En p5 p5_1 p5_2 ((B6 p6 p6_1 p6_2 p18 p18_1 p18_2).1) ((B6 p6 p6_1 p6_2 p18 p18_1 p18_2).2.1) ((B6 p6 p6_1 p6_2 p18 p18_1 p18_2).2.2.1)).2.1) ((En p5 p5_1 p5_2 ((B6 p6 p6_1 p6_2 p18 p18_1 p18_2).1) ((B6 p6 p6_1 p6_2 p18 p18_1 p18_2).2.1) ((B6 p6 p6_1 p6_2 p18 p18_1 p18_2).2.2.1)).2.2.1) ((En p5 p5_1 p5_2 ((B6 p6 p6_1 p6_2 p18 p18_1 p18_2).1) ((B6 p6 p6_1 p6_2 p18 p18_1 p18_2).2.1) ((B6 p6 p6_1 p6_2 p18 p18_1 p18_2).2.2.1)).2.2.2)).2.1),.ints .arg .u64 ((Lv ((En p5 p5_1 p5_2 ((B6 p6 p6_1 p6_2 p18 p18_1 p18_2).1) ((B6 p6 p6_1 p6_2 p18 p18_1 p18_2).2.1) ((B6 p6 p6_1 p6_2 p18 p18_1 p18_2).2.2.1)).1) ((En p5 p5_1 p5_2 ((B6 p6 p6_1 p6_2 p18 p18_1 p18_2).1) ((B6 p6 p6_1 p6_2 p18 p18_1 p18_2).2.1) ((B6 p6 p6_1 p6_2 p18 p18_1 p18_2).2.2.1)).2.1) ((En p5 p5_1 p5_2 ((B6 p6 p6_1 p6_2 p18 p18_1 p18_2).1) ((B6 p6 p6_1 p6_2 p18 p18_1 p18_2).2.1) ((B6 p6 p6_1 p6_2 p18 p18_1 p18_2).2.2.1)).2.2.1) ((En p5 p5_1 p5_2 ((B6 p6 p6_1 p6_2 p18 p18_1 p18_2).1) ((B6 p6 p6_1 p6_2 p18 p18_1 p18_2).2.1) ((B6 p6 p6_1 p6_2 p18 p18_1 p18_2).2.2.1)).2.2.2)).2.2.1)],.int .i64 ((Lv ((En p5 p5_1 p5_2 ((B6 p6 p6_1 p6_2 p18 p18_1 p18_2).1) ((B6 p6 p6_1 p6_2 p18 p18_1 p18_2).2.1) ((B6 p6 p6_1 p6_2 p18 p18_1 p18_2).2.2.1)).1) ((En p5 p5_1 p5_2 ((B6 p6 p6_1 p6_2 p18 p18_1 p18_2).1) ((B6 p6 p6_1 p6_2 p18 p18_1 p18_2).2.1) ((B6 p6 p6_1 p6_2 p18 p18_1 p18_2).2.2.1)).2.1) ((En p5 p5_1 p5_2 ((B6 p6 p6_1 p6_2 p18 p18_1 p18_2).1) ((B6 p6 p6_1 p6_2 p18 p18_1 p18_2).2.1) ((B6 p6 p6_1 p6_2 p18 p18_1 p18_2).2.2.1)).2.2.1) ((En p5 p5_1 p5_2 ((B6 p6 p6_1 p6_2 p18 p18_1 p18_2).1) ((B6 p6 p6_1 p6_2 p18 p18_1 p18_2).2.1) ((B6 p6 p6_1 p6_2 p18 p18_1 p18_2).2.2.1)).2.2.2)).2.2.2)]) else none else none:=(Fq _ _ _ _ _ _ _).trans (by kernel_rfl)
theorem C6.Solve.ev (N:Nat) (r c:Int) (l:List Int) (p q:Int) (m:List Int) (a b:Int) (g:List Int) (u v:Int) (h:List Int):Bw C6.Solve.E N Tryz.f47 (Am Tryz.f47) [.agg [.int .i64 r,.int .i64 c,.ints .arg .u64 l,.int .i64 p,.int .i64 q,.ints .arg .u64 m,.int .i64 a,.int .i64 b,.ints .arg .u64 g,.int .i64 u,.int .i64 v,.ints .arg .u64 h]]=bif (So l m g h) then bif ((Le r c l p q m a b g u v h) !=(0:Int)) then some (.tup [.agg [.int .i64 0,.int .i64 0,.nil],.int .i64 (Le r c l p q m a b g u v h)]) else bif (So l m g h&&decide (Le r c l p q m a b g u v h=0)) then C6.Solve.C5 N r c l p q m a b g u v h ((hY p q m u v h).2.2.2) ((hY p q m u v h).1) ((hY p q m u v h).2.1) ((hY p q m u v h).2.2.1) ((hQ p q m).1) ((hQ p q m).2.1) ((hQ p q m).2.2.1) else none else none:=by kernel_rfl
abbrev _root_.Go.Proofs.S1.C6.Solve.Kn:=A6 Tryz.prog 47 C6.Solve.spec
theorem C6.Solve.Ad (hk:A0 Tryz.prog C6.Solve.Bb) (h:∀ (r c:Int) (l:List Int) (p q:Int) (m:List Int) (a b:Int) (g:List Int) (u v:Int) (h:List Int),C6.Solve.pre [.i r,.i c,.l l,.i p,.i q,.l m,.i a,.i b,.l g,.i u,.i v,.l h]=true→Be C6.Solve.E Tryz.f47 [.agg [.int .i64 r,.int .i64 c,.ints .arg .u64 l,.int .i64 p,.int .i64 q,.ints .arg .u64 m,.int .i64 a,.int .i64 b,.ints .arg .u64 g,.int .i64 u,.int .i64 v,.ints .arg .u64 h]] (C6.Solve.out [.i r,.i c,.l l,.i p,.i q,.l m,.i a,.i b,.l g,.i u,.i v,.l h])):C6.Solve.Kn :=
  Ak (A1 hk _ _ _) Tryz.func47 (by kernel_rfl) (by kernel_rfl) h
end EqLse
open EqLse
theorem Rs {r c:Int} {l:List Int} (h:Av r c l=true):0≤r∧r≤6∧0≤c∧c≤6:=by
  obtain ⟨R,C,rfl,rfl,r6,c6,_⟩:=Dd h
  omega
theorem Ajx {r c p q a u b v:Int} (h:0≤r∧r≤6) (h':0≤p∧p≤6) :
    (((((((q !=c)||(a !=r))||(u !=p))||(b !=(1:Int)))||(v !=(1:Int)))||(A2 c p))||(A2 (Ab (r+p)) c))=decide (q≠c∨a≠r∨u≠p∨b≠1∨v≠1∨c<p∨r+p<c):=by
  rw [Al (by omega) (by omega),At,At,Au9]
  simp [or_assoc]
theorem C6.Check.known:C6.Check.Kn:=C6.Check.Ad (.cons Cc.Check.known .nil) fun r c l p q m a b g u v h hp=>by
  obtain ⟨h1,h2⟩:=Ae.1 (show ((Ah l&&Ah m)&&(Ah g&&Ah h))=true from hp)
  obtain ⟨al,am⟩:=Ae.1 h1
  obtain ⟨ag,ah⟩:=Ae.1 h2
  refine ⟨0+6,C6.Check.out [.i r,.i c,.l l,.i p,.i q,.l m,.i a,.i b,.l g,.i u,.i v,.l h],[],?_,.int⟩
  show _=some (DV.int .i64 (Le r c l p q m a b g u v h))
  rw [C6.Check.ev,al,am,ag,ah,Aut,Aut,Aut,Aut]
  unfold Le
  by_cases k1:Bt r c l=0
  · rw [F2 k1,Aux,if_neg (by rw [k1]; decide)]
    by_cases k2:Bt p q m=0
    · rw [F2 k2,Aux,if_neg (by rw [k2]; decide)]
      by_cases k3:Bt a b g=0
      · rw [F2 k3,Aux,if_neg (by rw [k3]; decide)]
        by_cases k4:Bt u v h=0
        · rw [F2 k4,Aux,if_neg (by rw [k4]; decide)]
          have s1:=Rs (Gq k1).1
          have s2:=Rs (Gq k2).1
          rw [Ajx ⟨s1.1,s1.2.1⟩ ⟨s2.1,s2.2.1⟩]
          by_cases k5:q≠c∨a≠r∨u≠p∨b≠1∨v≠1∨c<p∨r+p<c
          · rw [Auu k5,Aut,if_pos k5]
          · rw [Auy k5,Aux,if_neg k5]
        · rw [Ti k4,Aut,if_pos k4]
      · rw [Ti k3,Aut,if_pos k3]
    · rw [Ti k2,Aut,if_pos k2]
  · rw [Ti k1,Aut,if_pos k1]
theorem Xo {r c:Int} {l:List Int} {p q:Int} {m:List Int} {a b:Int} {g:List Int} {u v:Int} {h:List Int} (e:Le r c l p q m a b g u v h=0) :
    Bt r c l=0∧Bt p q m=0∧Bt a b g=0∧Bt u v h=0∧q=c∧a=r∧u=p∧b=1∧v=1∧p≤c∧c≤r+p:=by
  unfold Le at e
  by_cases k1:Bt r c l=0
  · rw [if_neg (by rw [k1]; decide)] at e
    by_cases k2:Bt p q m=0
    · rw [if_neg (by rw [k2]; decide)] at e
      by_cases k3:Bt a b g=0
      · rw [if_neg (by rw [k3]; decide)] at e
        by_cases k4:Bt u v h=0
        · rw [if_neg (by rw [k4]; decide)] at e
          by_cases k5:q≠c∨a≠r∨u≠p∨b≠1∨v≠1∨c<p∨r+p<c
          · rw [if_pos k5] at e; exact absurd e (by decide)
          · exact ⟨k1,k2,k3,k4,by omega⟩
        · rw [if_pos k4] at e; exact absurd e k4
      · rw [if_pos k3] at e; exact absurd e k3
    · rw [if_pos k2] at e; exact absurd e k2
  · rw [if_pos k1] at e; exact absurd e k1
theorem Agg {r c:Int} {l:List Int} {e:Int} (al:Ah l=true):Ah (Lv r c l e).2.2.1=true:=by
  unfold Lv
  split
  · exact Dx
  · split
    · exact Dx
    · exact al
theorem Agf {r c:Int} {l:List Int} (al:Ah l=true):Ah (Jo r c l).2.2.1=true:=by
  unfold Jo
  split
  · exact al
  · exact Dx
theorem Aeh (r c:Int) (l:List Int) (p q:Int) (m:List Int):Ah (U3 r c l p q m).2.2.1=true:=by
  unfold U3
  split
  · exact Dx
  · exact Agf (F4 fun i k=>Sg (Aei _ _ _ _) i)
theorem Ai9 (r c:Int) (l:List Int) (p q:Int) (m:List Int):Ah (upX r c l p q m).2.2.1=true:=by
  unfold upX
  split
  · exact Dx
  · exact Agf (F4 fun i k=>Sg (Adb _ _ _ _ _) i)
theorem Ah9 (r c:Int) (l:List Int) (p q:Int) (m:List Int):Ah (I1 r c l p q m).2.2.1=true:=by
  unfold I1
  split
  · exact Dx
  · split
    · exact Dx
    · split
      · exact Dx
      · split
        · exact Dx
        · split
          · exact Dx
          · unfold Am9
            split
            · exact Dx
            · exact Ai9 _ _ _ _ _ _
theorem Afn {r c:Int} {l:List Int} {p q:Int} {m:List Int} (al:Ah l=true) (am:Ah m=true):Ah (Ir r c l p q m).2.2.1=true:=by
  unfold Ir
  by_cases h:(Av r c l&&Av p q m)=true
  · rw [if_pos h]
    by_cases h2:r=p∧c=q
    · rw [if_pos h2]; exact (show Ah (Bf _ _ fun i k=>Dr (D4 c l i k) (D4 q m i k))=true from F4 fun _ _=>Nd (Ma al) (Ma am))
    · rw [if_neg h2]; exact Dx
  · rw [if_neg h]; exact Dx
theorem Ag6 {r c:Int} {l:List Int} {q:Int} {m:List Int} (al:Ah l=true) (am:Ah m=true) (i k:Int):Ai (Hp r c l q m i k)=true:=by
  unfold Hp
  by_cases h:i<r
  · rw [if_pos h]; exact Ma al
  · rw [if_neg h]; exact Ma am
theorem Ag5 {r c:Int} {l:List Int} {p q:Int} {m:List Int} (al:Ah l=true) (am:Ah m=true):Ah (B6 r c l p q m).2.2.1=true:=by
  unfold B6
  by_cases h:(Av r c l&&Av p q m)=true
  · rw [if_pos h]
    by_cases h2:c=q∧r+p≤6
    · rw [if_pos h2]; exact (show Ah (Bf _ _ fun i k=>Hp r c l q m i k)=true from F4 fun _ _=>Ag6 al am _ _)
    · rw [if_neg h2]; exact Dx
  · rw [if_neg h]; exact Dx
theorem Ap5 {r c:Int} {l:List Int} (al:Ah l=true):Ah (qX r c l).2.2.1=true∧Ah (rX r c l).2.2.1=true:=by
  by_cases k:E1 r c l=0
  · rw [(Uv k).1,(Uv k).2]; exact Alw al k
  · rw [(Vu rfl k).1,(Vu rfl k).2]; exact ⟨Dx,Dx⟩
theorem C6.finite.known:C6.finite.Kn:=C6.finite.Ad (.cons Cc.Check.known .nil) fun r c l e hp=>by
  have al:Ah l=true:=hp
  show ∃ N dv drops,_=some dv∧Wk drops dv (Aho (Lv r c l e))
  have hrun:=C6.finite.ev 0 r c l e
  rw [al,Bool.or_true,Aut] at hrun
  unfold Lv
  by_cases k:e=0
  · rw [if_neg (by rw [k]; decide)]
    rw [k] at hrun ⊢
    by_cases k1:Bt r c l=0
    · rw [F2 k1,Bool.and_false,Aux] at hrun
      rw [if_neg (by rw [k1]; decide)]
      exact ⟨0,_,[],hrun,Afj (x:=(r,c,l,0))⟩
    · rw [Ti k1] at hrun
      rw [if_pos k1]
      exact ⟨0,_,[],hrun,Ac8⟩
  · rw [if_pos k]
    have e1:(e==(0:Int))=false:=by rw [beq_eq_false_iff_ne]; exact k
    rw [e1,Bool.false_and,Aux,Ti k,Aut] at hrun
    exact ⟨0,_,[],hrun,Ac8⟩
theorem Anf {p q:Int} {m:List Int} (h:Av p q m=true):(Ck p q m).1=q∧(Ck p q m).2.1=p∧(Ck p q m).2.2.2=0:=by
  unfold Ck; rw [if_pos h]; exact ⟨rfl,rfl,rfl⟩
theorem C6.held.known:C6.held.Kn:=C6.held.Ad (.cons Aa.Part.known (.cons Aa.Dn.known (.cons qr.Di.known (.cons solve.Flat.known (.cons solve.G3.known .nil))))) fun r c l p q m a b g u v h hp=>by
  obtain ⟨h0,hz⟩:=Ae.1 (show (So l m g h&&decide (Le r c l p q m a b g u v h=0))=true from hp)
  obtain ⟨h1,h2⟩:=Ae.1 (show ((Ah l&&Ah m)&&(Ah g&&Ah h))=true from h0)
  obtain ⟨al,am⟩:=Ae.1 h1
  obtain ⟨ag,ah⟩:=Ae.1 h2
  obtain ⟨k1,k2,k3,k4,_⟩:=Xo (of_decide_eq_true hz)
  obtain ⟨e1,e2,e3⟩:=Anf (Gq k2).1
  show ∃ N dv drops,_=some dv∧Wk drops dv (DV.tup [.agg [.int .i64 (hQ p q m).1,.int .i64 (hQ p q m).2.1,.ints .arg .u64 (hQ p q m).2.2.1],.agg [.int .i64 (hY p q m u v h).1,.int .i64 (hY p q m u v h).2.1,.ints .fresh .u64 (hY p q m u v h).2.2.1],.int .i64 (hY p q m u v h).2.2.2])
  have at':Ah (eqT p q m)=true:=Rf am
  have as':Ah (Pz p q m).2.2.1=true:=Rf (Rw (Ap5 at').2 _ _ _ _)
  have hrun:=C6.held.ev 0 r c l p q m a b g u v h
  rw [e3,F2 rfl,Aux,Rf am,Aut,e1,e2,C6.held.Am0] at hrun
  by_cases kf:E1 q p (eqT p q m)=0
  · rw [F2 (show E1 q p (Ck p q m).2.2.1=0 from kf),Aux,C6.held.Aur,C6.held.Amz] at hrun
    have hrun2:Bw C6.held.E 0 _ _ _=(bif Ah (Pz p q m).2.2.1 then bif (J5 (Pz p q m).1 (Pz p q m).2.1 (Pz p q m).2.2.1).1 then some (V2 5) else bif Ah (Pz p q m).2.2.1&&Ah h then
        some (.tup [.agg [.int .i64 (qX q p (eqT p q m)).1,.int .i64 (qX q p (eqT p q m)).2.1,.ints .arg .u64 (qX q p (eqT p q m)).2.2.1],.agg [.int .i64 (U3 (Pz p q m).1 (Pz p q m).2.1 (Pz p q m).2.2.1 u v h).1,.int .i64 (U3 (Pz p q m).1 (Pz p q m).2.1 (Pz p q m).2.2.1 u v h).2.1,.ints .fresh .u64 (U3 (Pz p q m).1 (Pz p q m).2.1 (Pz p q m).2.2.1 u v h).2.2.1],.int .i64 (U3 (Pz p q m).1 (Pz p q m).2.1 (Pz p q m).2.2.1 u v h).2.2.2]) else none else none):=hrun
    rw [as',Aut,ah,Bool.and_true,Aut] at hrun2
    cases kb:(J5 (Pz p q m).1 (Pz p q m).2.1 (Pz p q m).2.2.1).1 with
    | true =>
      rw [kb,Aut] at hrun2
      have d1:hQ p q m=I7 5:=by unfold hQ; rw [if_neg (by rw [kf]; decide),kb,if_pos rfl]
      have d2:hY p q m u v h=I7 5:=by unfold hY; rw [if_neg (by rw [kf]; decide),kb,if_pos rfl]
      rw [d1,d2]
      exact ⟨0,_,[],hrun2,Ss⟩
    | false =>
      rw [kb,Aux] at hrun2
      have d1:hQ p q m=qX q p (eqT p q m):=by unfold hQ; rw [if_neg (by rw [kf]; decide),kb,if_neg (by decide)]
      have d2:hY p q m u v h=U3 (Pz p q m).1 (Pz p q m).2.1 (Pz p q m).2.2.1 u v h:=by unfold hY; rw [if_neg (by rw [kf]; decide),kb,if_neg (by decide)]
      rw [d1,d2]
      exact ⟨0,_,[],hrun2,Wk.Gu (.cons (Wk.H0 (.cons .int (.cons .int (.cons .Ae9 .nil)))) (.cons (Wk.H0 (.cons .int (.cons .int (.cons .No .nil)))) (.cons .int .nil)))⟩
  · rw [Ti (show E1 q p (Ck p q m).2.2.1≠0 from kf),Aut] at hrun
    have d1:hQ p q m=I7 (E1 q p (eqT p q m)):=by unfold hQ; rw [if_pos kf]
    have d2:hY p q m u v h=I7 (E1 q p (eqT p q m)):=by unfold hY; rw [if_pos kf]
    rw [d1,d2]
    exact ⟨0,_,[],hrun,Ss⟩
open EqMat EqOf
theorem Aa.G0.known:Aa.G0.Kn:=Aa.G0.Ad (.cons Aa.get.known (.cons Af.Sub.known .nil)) fun i k r c l p q m hp=>by
  obtain ⟨h1,am⟩:=Ae.1 (show (((Dq r c l i k&&Dq p q m i k)&&Ah l)&&Ah m)=true from hp)
  obtain ⟨h2,al⟩:=Ae.1 h1
  obtain ⟨h3,h4⟩:=Ae.1 h2
  refine ⟨0,Aa.G0.out [.i i,.i k,.i r,.i c,.l l,.i p,.i q,.l m],[],?_,.int⟩
  rw [Aa.G0.ev,h3,h4,Hd al,Hd am]; rfl
theorem of.Sub.inner (N:Nat) (r c:Int) (l:List Int) (p q:Int) (m:List Int) {A B:Nat} (hA:A≤6) (hB:B≤6) {F:Nat→Nat→Int} (hF:∀ i j:Nat,F i j=Dr (D4 c l (i:Int) (j:Int)) (D4 q m (i:Int) (j:Int))) {i:Nat} (hi:i<A) (hp:∀ j:Nat,j<B→(((Dq r c l (i:Int) (j:Int)&&Dq p q m (i:Int) (j:Int))&&Ah l)&&Ah m)=true):∀ (k j M0 M:Nat),j+k=B→k<M →
    Aa.of.Sub.L1 N M0 M (A:Int) (B:Int) r c l p q m (i:Int) (i:Int) (j:Int) (Bf i B F++(List.range j).map (F i))=Aa.of.Sub.L0 N M0 (A:Int) (B:Int) r c l p q m ((i+1:Nat):Int) (Bf (i+1) B F):=by
  intro k
  induction k with
  | zero =>
    intro j M0 M hj hM
    obtain ⟨M,rfl⟩:∃ G,M=G+1:=⟨M-1,by omega⟩
    obtain rfl:j=B:=by omega
    rw [Aa.of.Sub.Cf,At,Auy (by omega),Aux,Al (by omega) (by omega),← Jn]
    rfl
  | succ k ih =>
    intro j M0 M hj hM
    obtain ⟨M,rfl⟩:∃ G,M=G+1:=⟨M-1,by omega⟩
    have d:decide ((Bf i B F++(List.range j).map (F i)).length+1≤Gd)=true:=by
      refine Auu ?_
      have:=Nat.mul_le_mul (show i≤6 by omega) hB
      rw [List.length_append,Bn,List.length_map,List.length_range]; unfold Gd; omega
    rw [Aa.of.Sub.Cf,At,Auu (by omega),Aut,hp j (by omega),Aut,d,Aut,Al (by omega) (by omega),← hF i j]
    have:=ih (j+1) M0 M (by omega) (by omega)
    rw [Hy,← List.append_assoc] at this
    exact this
theorem of.Sub.outer (N:Nat) (r c:Int) (l:List Int) (p q:Int) (m:List Int) {A B:Nat} (hA:A≤6) (hB:B≤6) (hN:6<N) {F:Nat→Nat→Int} (hF:∀ i j:Nat,F i j=Dr (D4 c l (i:Int) (j:Int)) (D4 q m (i:Int) (j:Int))) (hp:∀ i j:Nat,i<A→j<B→(((Dq r c l (i:Int) (j:Int)&&Dq p q m (i:Int) (j:Int))&&Ah l)&&Ah m)=true):∀ (k i M:Nat),i+k=A→k<M →
    Aa.of.Sub.L0 N M (A:Int) (B:Int) r c l p q m (i:Int) (Bf i B F)=some (.agg [.int .i64 (A:Int),.int .i64 (B:Int),.ints (.own 108002 tB) .u64 (Bf A B F)]):=by
  intro k
  induction k with
  | zero =>
    intro i M hi hM
    obtain ⟨M,rfl⟩:∃ G,M=G+1:=⟨M-1,by omega⟩
    obtain rfl:i=A:=by omega
    rw [Aa.of.Sub.Au,At,Auy (by omega),Aux]
  | succ k ih =>
    intro i M hi hM
    obtain ⟨M,rfl⟩:∃ G,M=G+1:=⟨M-1,by omega⟩
    have n:=of.Sub.inner N r c l p q m hA hB hF (show i<A by omega) (fun j hj=>hp i j (by omega) hj) B 0 M N (by omega) (by omega)
    rw [List.range_zero,List.map_nil,List.append_nil] at n
    rw [Aa.of.Sub.Au,At,Auu (by omega),Aut]
    exact n.trans (ih (i+1) M (by omega) (by omega))
theorem Aa.of.Sub.known:Aa.of.Sub.Kn:=Aa.of.Sub.Ad (.cons Aa.G0.known .nil) fun a b r c l p q m hp=>by
  obtain ⟨h12,hy⟩:=Ae.1 (show (((Bg a&&Bg b)&&((Av r c l&&Av p q m)&&(Ah l&&Ah m)))&&decide (a=r∧b=c∧p=r∧q=c))=true from hp)
  obtain ⟨h1,hx⟩:=Ae.1 h12
  have h2:=Ae.2 ⟨hx,hy⟩
  obtain ⟨ha,hb⟩:=Ae.1 h1
  obtain ⟨A,rfl,hA⟩:=Eu ha
  obtain ⟨B,rfl,hB⟩:=Eu hb
  obtain ⟨h3,he⟩:=Ae.1 h2
  obtain ⟨h4,h5⟩:=Ae.1 h3
  obtain ⟨hr,hm⟩:=Ae.1 h4
  obtain ⟨al,am⟩:=Ae.1 h5
  obtain ⟨e1,e2,e3,e4⟩:=of_decide_eq_true he
  have hp:∀ i j:Nat,i<A→j<B→(((Dq r c l (i:Int) (j:Int)&&Dq p q m (i:Int) (j:Int))&&Ah l)&&Ah m)=true:=fun i j hi hj =>
    Ae.2 ⟨Ae.2 ⟨Ae.2 ⟨Im hr (by omega) (by omega) (by omega) (by omega) r,Im hm (by omega) (by omega) (by omega) (by omega) p⟩,al⟩,am⟩
  refine ⟨8,.agg [.int .i64 (A:Int),.int .i64 (B:Int),.ints (.own 108002 tB) .u64 (Bf A B fun (i j:Nat)=>Dr (D4 c l (i:Int) (j:Int)) (D4 q m (i:Int) (j:Int)))],[108002],?_,Wk.H0 (.cons .int (.cons .int (.cons (.drop _ _ _ _ (List.mem_singleton.2 rfl)) .nil)))⟩
  rw [Aa.of.Sub.ev]
  have n:=of.Sub.outer 8 r c l p q m hA hB (by omega) (F:=fun (i j:Nat)=>Dr (D4 c l (i:Int) (j:Int)) (D4 q m (i:Int) (j:Int))) (fun _ _=>rfl) hp A 0 8 (by omega) (by omega)
  rw [Jm] at n
  exact n
namespace EqRef20
end EqRef20
open EqOf EqRef20
theorem Aa.Sub.known:Aa.Sub.Kn:=Aa.Sub.Ad (.cons Aa.of.Sub.known (.cons Aa.two.known .nil)) fun r c l p q m hp=>by
  show ∃ N dv drops,_=some dv∧Wk drops dv (Qq (Ir r c l p q m))
  unfold Ir
  have hp:(Ah l&&Ah m)=true:=hp
  by_cases h:(Av r c l&&Av p q m)=true
  · obtain ⟨h1,h2⟩:=Ae.1 h
    by_cases hc:r=p∧c=q
    · have e:(!((r==p)&&(c==q)))=false:=by rw [hc.1,hc.2]; simp
      rw [if_pos h,if_pos hc]
      exact ⟨0,_,[],by rw [Aa.Sub.ev,Nb,h,e,(Fg h1).1,(Fg h1).2,hp,Auu ⟨rfl,rfl,hc.1.symm,hc.2.symm⟩]; rfl,Mc⟩
    · have e:(!((r==p)&&(c==q)))=true:=by
        rw [Bool.not_eq_true',Bool.eq_false_iff]
        intro h
        simp only [Au4,beq_iff_eq] at h
        exact hc h
      rw [if_pos h,if_neg hc]
      exact ⟨0,_,[],by rw [Aa.Sub.ev,Nb,h,e]; rfl,Hs⟩
  · have e:(Av r c l&&Av p q m)=false:=by simpa using h
    rw [if_neg h]
    exact ⟨0,_,[],by rw [Aa.Sub.ev,Nb,e,Ade e]; rfl,Hs⟩
theorem Adm {R P C:Nat} {l m:List Int} (hl:l.length=R*C) (hm:m.length=P*C) :
    (Bf (R+P) C fun (i k:Nat)=>Hp (R:Int) (C:Int) l (C:Int) m (i:Int) (k:Int))=l++m:=by
  have h:(l++m).length=(R+P)*C:=by rw [List.length_append,hl,hm,Nat.add_mul]
  conv=>rhs; rw [← La h]
  refine C2 fun i k hi hk=>?_
  unfold Hp
  by_cases hlt:(i:Int)<(R:Int)
  · have:=Hg (r:=R) (c:=C) (i:=i) (k:=k) (by omega) hk
    rw [if_pos hlt,K3,K3,Au3,Au3,List.getElem?_append_left (by omega)]
  · have es:(i:Int)-(R:Int)=((i-R:Nat):Int):=by omega
    have e2:i*C=R*C+(i-R)*C:=by rw [← Nat.add_mul]; congr 1; omega
    rw [if_neg hlt,es,K3,K3,Au3,Au3,List.getElem?_append_right (by omega),hl,e2]
    congr 2; omega
open EqLse
def Out (o:Option DV) (x:MX):Prop:=∃ dv drops,o=some dv∧Wk drops dv (Aho x)
theorem Te {o:Option DV} {e:Int} (h:o=some (Ad6 e)):Out o (I7 e):=⟨_,[],h,Ac8⟩
theorem Aq9 {o:Option DV} {x:MX} (h:o=some (Aho x)):Out o x:=⟨_,[],h,Afj⟩
section
variable {N:Nat} {r c p q a b u v:Int} {l m g h:List Int} {w one two done f y Q z:MX}
theorem Aof (aq:Ah Q.2.2.1=true) (ay:Ah y.2.2.1=true) (az:Ah z.2.2.1=true) :
    Out (C6.Solve.C18 N r c l p q m a b g u v h y.1 y.2.1 y.2.2.1 Q.1 Q.2.1 Q.2.2.1 w.1 w.2.1 w.2.2.1 one.1 one.2.1 one.2.2.1 two.1 two.2.1 two.2.2.1 done.1 done.2.1 done.2.2.1 f.1 f.2.1 f.2.2.1 z.2.2.2 z.1 z.2.1 z.2.2.1) (Abu Q y z):=by
  rw [C6.Solve.Afe]
  unfold Abu
  by_cases k:z.2.2.2=0
  · rw [F2 k,Aux,if_neg (fun h=>h k)]
    by_cases k2:(Sz y z).2.2.2=0
    · rw [F2 (show (B6 y.1 y.2.1 y.2.2.1 z.1 z.2.1 z.2.2.1).2.2.2=0 from k2),Aux,if_neg (fun h=>h k2),aq,Ag5 ay az,Auz,Aut,Nl,Aut]
      exact Aq9 rfl
    · rw [Ti (show (B6 y.1 y.2.1 y.2.2.1 z.1 z.2.1 z.2.2.1).2.2.2≠0 from k2),Aut,if_pos k2]; exact Te rfl
  · rw [Ti k,Aut,if_pos k]; exact Te rfl
theorem Aog (aq:Ah Q.2.2.1=true) (ay:Ah y.2.2.1=true) (a2:Ah two.2.2.1=true) (af:Ah f.2.2.1=true) :
    Out (C6.Solve.C15 N r c l p q m a b g u v h y.1 y.2.1 y.2.2.1 Q.1 Q.2.1 Q.2.2.1 w.1 w.2.1 w.2.2.1 one.1 one.2.1 one.2.2.1 two.1 two.2.1 two.2.2.1 done.1 done.2.1 done.2.2.1 f.2.2.2 f.1 f.2.1 f.2.2.1) (if f.2.2.2≠0 then I7 f.2.2.2 else Abu Q y (Tm two f)):=by
  rw [C6.Solve.Ar9]
  by_cases k:f.2.2.2=0
  · rw [F2 k,Aux,if_neg (fun h=>h k),a2,af,Auz,Aut]
    exact Aof (z:=Tm two f) aq ay (Ah9 _ _ _ _ _ _)
  · rw [Ti k,Aut,if_pos k]; exact Te rfl
theorem Aoh (aq:Ah Q.2.2.1=true) (ay:Ah y.2.2.1=true) (aw:Ah w.2.2.1=true) (ag:Ah g=true) (hw:Ab (c-p)=c-p) :
    Out (C6.Solve.C12 N r c l p q m a b g u v h y.1 y.2.1 y.2.2.1 Q.1 Q.2.1 Q.2.2.1 w.1 w.2.1 w.2.2.1 (Gi w 0 0 r p).1 (Gi w 0 0 r p).2.1 (Gi w 0 0 r p).2.2.1) (Aky Q y w (Aoi a b g (Aee w y r p)) r c p):=by
  have a1:Ah (Gi w 0 0 r p).2.2.1=true:=Rw aw _ _ _ _
  have a2:Ah (Gi w 0 p r (c-p)).2.2.1=true:=Rw aw _ _ _ _
  have a3:Ah (Aee w y r p).2.2.1=true:=Nl _ _ _ _ _ _
  rw [C6.Solve.Afg,hw,C6.Solve.Asb,a1,ay,Auz,Aut,C6.Solve.Aff,ag,Nl,Auz,Aut,Afn ag (Nl _ _ _ _ _ _),Aut]
  exact Aog (two:=Gi w 0 p r (c-p)) (f:=Aoi a b g (Aee w y r p)) (one:=Gi w 0 0 r p) (done:=Aee w y r p) aq ay a2 (Agg (Afn ag a3))
theorem Arn (aq:Ah Q.2.2.1=true) (ay:Ah y.2.2.1=true) (al:Ah l=true) (ag:Ah g=true) (hw:Ab (c-p)=c-p) :
    Out (C6.Solve.C5 N r c l p q m a b g u v h y.2.2.2 y.1 y.2.1 y.2.2.1 Q.1 Q.2.1 Q.2.2.1) (if y.2.2.2≠0 then I7 y.2.2.2 else Af8 Q y (Acl (mulM (r,c,l,0) Q)) r c p a b g):=by
  rw [C6.Solve.Am0]
  by_cases k:y.2.2.2=0
  · rw [F2 k,Aux,if_neg (fun h=>h k),al,aq,Auz,Aut,Nl,Aut,C6.Solve.Amz]
    unfold Af8
    by_cases k2:(Acl (mulM (r,c,l,0) Q)).2.2.2=0
    · rw [if_neg (fun h=>h k2)]
      refine (congrArg (fun o=>Out o _) ((congrArg (fun x=>bif x then _ else _) (F2 k2)).trans (Aux _ _))).mpr ?_
      exact Aoh (w:=Acl (mulM (r,c,l,0) Q)) aq ay (Agg (Nl _ _ _ _ _ _)) ag hw
    · rw [if_pos k2]
      refine (congrArg (fun o=>Out o _) ((congrArg (fun x=>bif x then _ else _) (Ti k2)).trans (Aut _ _))).mpr ?_
      exact Te rfl
  · rw [Ti k,Aut,if_pos k]; exact Te rfl
end
theorem Aui {p q:Int} {m:List Int} (am:Ah m=true):Ah (hQ p q m).2.2.1=true:=by
  unfold hQ
  split
  · exact Dx
  · split
    · exact Dx
    · exact (Ap5 (Rf am)).1
theorem Auh (p q:Int) (m:List Int) (u v:Int) (h:List Int):Ah (hY p q m u v h).2.2.1=true:=by
  unfold hY
  split
  · exact Dx
  · split
    · exact Dx
    · exact Aeh _ _ _ _ _ _
theorem C6.Solve.known:C6.Solve.Kn:=C6.Solve.Ad (.cons C6.Check.known (.cons C6.finite.known (.cons C6.held.known (.cons Aa.Mul.known (.cons Aa.Part.known (.cons Aa.Stack.known (.cons Aa.Sub.known (.cons solve.Gs.known .nil)))))))) fun r c l p q m a b g u v h hp=>by
  have h0:So l m g h=true:=hp
  obtain ⟨h1,h2⟩:=Ae.1 (show ((Ah l&&Ah m)&&(Ah g&&Ah h))=true from h0)
  obtain ⟨al,am⟩:=Ae.1 h1
  obtain ⟨ag,ah⟩:=Ae.1 h2
  suffices hs:Out (Bw C6.Solve.E 0 _ _ _) (Cd r c l p q m a b g u v h) by
    obtain ⟨dv,drops,e1,e2⟩:=hs
    exact ⟨0,dv,drops,e1,e2⟩
  rw [C6.Solve.ev,h0,Aut]
  unfold Cd
  by_cases k:Le r c l p q m a b g u v h=0
  · obtain ⟨k1,k2,_,_,rfl,_,_,_,_,hpc,_⟩:=Xo k
    have s1:=Rs (Gq k1).1
    have s2:=Rs (Gq k2).1
    rw [F2 k,Aux,Auu k,Auz,Aut,if_neg (fun h=>h k)]
    exact Arn (Q:=hQ p q m) (y:=hY p q m u v h) (Aui am) (Auh _ _ _ _ _ _) al ag (Al (by omega) (by omega))
  · rw [Ti k,Aut,if_pos k]
    exact Te rfl
open EqRef14 EqLow
theorem Aru {c:Int} {l:List Int} {i k:Int} (h:Dz l=true):Cy (D4 c l i k)=true:=by
  unfold D4
  rw [Au3]
  cases hx:l[(i*c+k).toNat]? with
  | none=>exact (by decide:Cy 0=true)
  | some x =>
    unfold Dz at h
    exact List.all_eq_true.1 h x (List.mem_of_getElem? hx)
theorem Ack {r c:Nat} {f:Nat→Nat→Int} (h:∀ i k,Cy (f i k)=true):Dz (Bf r c f)=true:=by
  unfold Dz
  rw [List.all_eq_true]
  intro x hx
  obtain ⟨j,_,rfl⟩:=List.mem_map.1 hx
  exact h _ _
section
variable {n Q:Nat} {l m:List Int}
end
open EqRef20
theorem Aby {r c:Int} {l:List Int} {p q:Int} {m:List Int} (h:(U3 r c l p q m).2.2.2=0) :
    ∃ (R Q:Nat) (Y:List Int),r=R∧q=Q∧R≤6∧Q≤6∧U3 r c l p q m=((R:Int),(Q:Int),Y,0)∧Y.length=R*Q∧Dz Y=true∧Ah Y=true:=by
  have hin:=Aeh r c l p q m
  unfold U3 at h hin ⊢
  by_cases k:Nv r c l p q m=0
  · rw [if_neg (fun h=>h k)] at h hin ⊢
    obtain ⟨h1,h2,rfl,rfl⟩:=P0 k
    obtain ⟨R,C,rfl,hC,r6,c6,hl⟩:=Dd h1
    obtain ⟨P,Q,hP,rfl,p6,q6,hl2⟩:=Dd h2
    unfold Jo at h hin ⊢
    by_cases kf:Dz (Xa (R:Int) l (Q:Int) m (R:Int).toNat (Q:Int).toNat)=true
    · rw [if_pos kf] at hin ⊢
      exact ⟨R,Q,_,rfl,rfl,r6,q6,rfl,by unfold Xa; rw [Bn,Auv,Auv],kf,hin⟩
    · rw [if_neg kf] at h; exact absurd h (by decide)
  · rw [if_pos k] at h; exact absurd h k
theorem Ai7 {r c:Int} {l:List Int} {p q:Int} {m:List Int} (h:(upX r c l p q m).2.2.2=0) :
    ∃ (R Q:Nat) (Y:List Int),r=R∧q=Q∧R≤6∧Q≤6∧upX r c l p q m=((R:Int),(Q:Int),Y,0)∧Y.length=R*Q∧Dz Y=true∧Ah Y=true:=by
  have hin:=Ai9 r c l p q m
  unfold upX at h hin ⊢
  by_cases k:Nv r c l p q m=0
  · rw [if_neg (fun h=>h k)] at h hin ⊢
    obtain ⟨h1,h2,rfl,rfl⟩:=P0 k
    obtain ⟨R,C,rfl,hC,r6,c6,hl⟩:=Dd h1
    obtain ⟨P,Q,hP,rfl,p6,q6,hl2⟩:=Dd h2
    unfold Jo at h hin ⊢
    by_cases kf:Dz (upG (R:Int) l (Q:Int) m (R:Int).toNat (Q:Int).toNat)=true
    · rw [if_pos kf] at hin ⊢
      exact ⟨R,Q,_,rfl,rfl,r6,q6,rfl,by unfold upG; rw [Bn,Auv,Auv],kf,hin⟩
    · rw [if_neg kf] at h; exact absurd h (by decide)
  · rw [if_pos k] at h; exact absurd h k
open EqRef20
section
variable {N:Nat} {r c p q a b u v:Int} {l m g h:List Int} {p6_3 p6_4:Int} {p6_5 p7 p10 p11:List Int} {p6_6:Bool}
end
open EqRef20
namespace EqLaw17
end EqLaw17
open EqLaw17
namespace EqLaw20
def B9.one.Bb:List (Nat × Entry):=[]
def B9.one.E:Env:=Bc (Ba B9.one.Bb) (fun _=>false) (fun _=>none) (fun _=>none)
theorem B9.one.ev (N:Nat) (b:Int):Bw B9.one.E N Tryz.f130 (Am Tryz.f130) [.int .u64 b]=some (.agg [.int .i64 1,.int .i64 1,.ints (.own 4 37) .u64 [b]]):=by kernel_rfl
abbrev _root_.Go.Proofs.S1.B9.one.Kn:=A6 Tryz.prog 130 B9.one.spec
theorem B9.one.Ad (hk:A0 Tryz.prog B9.one.Bb) (h:∀ (b:Int),B9.one.pre [.i b]=true→Be B9.one.E Tryz.f130 [.int .u64 b] (B9.one.out [.i b])):B9.one.Kn :=
  Ak (A1 hk _ _ _) Tryz.func130 (by kernel_rfl) (by kernel_rfl) h
def B9.Gx.Bb:List (Nat × Entry):=[(130,B9.one.spec),(47,C6.Solve.spec)]
def B9.Gx.E:Env:=Bc (Ba B9.Gx.Bb) (fun _=>false) (fun _=>none) (fun _=>none)
theorem B9.Gx.ev (N:Nat):Bw B9.Gx.E N Tryz.f50 (Am Tryz.f50) []=bif (So ([(4607182418800017408:Int)]) ([(4607182418800017408:Int)]) ([(0:Int)]) ([(4613937818241073152:Int)])) then bif ((!((((Cd 1 1 ([(4607182418800017408:Int)]) 1 1 ([(4607182418800017408:Int)]) 1 1 ([(0:Int)]) 1 1 ([(4613937818241073152:Int)])).2.2.2)==(0:Int))&&((List.length ((Cd 1 1 ([(4607182418800017408:Int)]) 1 1 ([(4607182418800017408:Int)]) 1 1 ([(0:Int)]) 1 1 ([(4613937818241073152:Int)])).2.2.1):Int)==(1:Int))))||(decide ((0:Int)<(List.length ((Cd 1 1 ([(4607182418800017408:Int)]) 1 1 ([(4607182418800017408:Int)]) 1 1 ([(0:Int)]) 1 1 ([(4613937818241073152:Int)])).2.2.1):Int)))) then some (.bool (bif (bif (((Cd 1 1 ([(4607182418800017408:Int)]) 1 1 ([(4607182418800017408:Int)]) 1 1 ([(0:Int)]) 1 1 ([(4613937818241073152:Int)])).2.2.2)==(0:Int)) then ((List.length ((Cd 1 1 ([(4607182418800017408:Int)]) 1 1 ([(4607182418800017408:Int)]) 1 1 ([(0:Int)]) 1 1 ([(4613937818241073152:Int)])).2.2.1):Int)==(1:Int)) else false) then ((List.getD ((Cd 1 1 ([(4607182418800017408:Int)]) 1 1 ([(4607182418800017408:Int)]) 1 1 ([(0:Int)]) 1 1 ([(4613937818241073152:Int)])).2.2.1) 0 0)==(4613937818241073152:Int)) else false)) else none else none :=
  Eq.trans (by kernel_rfl)
  (Es (Ap (N4 (((Cd 1 1 ([(4607182418800017408:Int)]) 1 1 ([(4607182418800017408:Int)]) 1 1 ([(0:Int)]) 1 1 ([(4613937818241073152:Int)])).2.2.2)==(0:Int))) (Ap (Ki (((Cd 1 1 ([(4607182418800017408:Int)]) 1 1 ([(4607182418800017408:Int)]) 1 1 ([(0:Int)]) 1 1 ([(4613937818241073152:Int)])).2.2.2)==(0:Int))) (Ap (Ki (((Cd 1 1 ([(4607182418800017408:Int)]) 1 1 ([(4607182418800017408:Int)]) 1 1 ([(0:Int)]) 1 1 ([(4613937818241073152:Int)])).2.2.2)==(0:Int))) (Ap (Ki (((Cd 1 1 ([(4607182418800017408:Int)]) 1 1 ([(4607182418800017408:Int)]) 1 1 ([(0:Int)]) 1 1 ([(4613937818241073152:Int)])).2.2.2)==(0:Int))) (Ap (Sr (((Cd 1 1 ([(4607182418800017408:Int)]) 1 1 ([(4607182418800017408:Int)]) 1 1 ([(0:Int)]) 1 1 ([(4613937818241073152:Int)])).2.2.2)==(0:Int))) (Ap (As8 (((Cd 1 1 ([(4607182418800017408:Int)]) 1 1 ([(4607182418800017408:Int)]) 1 1 ([(0:Int)]) 1 1 ([(4613937818241073152:Int)])).2.2.2)==(0:Int)) ((List.length ((Cd 1 1 ([(4607182418800017408:Int)]) 1 1 ([(4607182418800017408:Int)]) 1 1 ([(0:Int)]) 1 1 ([(4613937818241073152:Int)])).2.2.1):Int)==(1:Int))) (Ap (Ajh (((Cd 1 1 ([(4607182418800017408:Int)]) 1 1 ([(4607182418800017408:Int)]) 1 1 ([(0:Int)]) 1 1 ([(4613937818241073152:Int)])).2.2.2)==(0:Int)) ((List.length ((Cd 1 1 ([(4607182418800017408:Int)]) 1 1 ([(4607182418800017408:Int)]) 1 1 ([(0:Int)]) 1 1 ([(4613937818241073152:Int)])).2.2.1):Int)==(1:Int))) (Da (tt95 (((Cd 1 1 ([(4607182418800017408:Int)]) 1 1 ([(4607182418800017408:Int)]) 1 1 ([(0:Int)]) 1 1 ([(4613937818241073152:Int)])).2.2.2)==(0:Int)) ((List.length ((Cd 1 1 ([(4607182418800017408:Int)]) 1 1 ([(4607182418800017408:Int)]) 1 1 ([(0:Int)]) 1 1 ([(4613937818241073152:Int)])).2.2.1):Int)==(1:Int)) (decide ((0:Int)<(List.length ((Cd 1 1 ([(4607182418800017408:Int)]) 1 1 ([(4607182418800017408:Int)]) 1 1 ([(0:Int)]) 1 1 ([(4613937818241073152:Int)])).2.2.1):Int)))) (Ap (Ajh (((Cd 1 1 ([(4607182418800017408:Int)]) 1 1 ([(4607182418800017408:Int)]) 1 1 ([(0:Int)]) 1 1 ([(4613937818241073152:Int)])).2.2.2)==(0:Int)) ((List.length ((Cd 1 1 ([(4607182418800017408:Int)]) 1 1 ([(4607182418800017408:Int)]) 1 1 ([(0:Int)]) 1 1 ([(4613937818241073152:Int)])).2.2.1):Int)==(1:Int))) (Ap (Ajh (((Cd 1 1 ([(4607182418800017408:Int)]) 1 1 ([(4607182418800017408:Int)]) 1 1 ([(0:Int)]) 1 1 ([(4613937818241073152:Int)])).2.2.2)==(0:Int)) ((List.length ((Cd 1 1 ([(4607182418800017408:Int)]) 1 1 ([(4607182418800017408:Int)]) 1 1 ([(0:Int)]) 1 1 ([(4613937818241073152:Int)])).2.2.1):Int)==(1:Int))) (Ap (As9 (((Cd 1 1 ([(4607182418800017408:Int)]) 1 1 ([(4607182418800017408:Int)]) 1 1 ([(0:Int)]) 1 1 ([(4613937818241073152:Int)])).2.2.2)==(0:Int)) ((List.length ((Cd 1 1 ([(4607182418800017408:Int)]) 1 1 ([(4607182418800017408:Int)]) 1 1 ([(0:Int)]) 1 1 ([(4613937818241073152:Int)])).2.2.1):Int)==(1:Int))) rfl))) rfl)))))))) rfl)
abbrev _root_.Go.Proofs.S1.B9.Gx.Kn:=A6 Tryz.prog 50 B9.Gx.spec
theorem B9.Gx.Ad (hk:A0 Tryz.prog B9.Gx.Bb) (h:∀ (_:Unit),B9.Gx.pre []=true→Be B9.Gx.E Tryz.f50 [] (B9.Gx.out [])):B9.Gx.Kn :=
  Ak (A1 hk _ _ _) Tryz.func50 (by kernel_rfl) (by kernel_rfl) (h ())
end EqLaw20
open EqLaw20
theorem B9.one.known:B9.one.Kn:=B9.one.Ad .nil fun b _ =>
  ⟨0,_,[4],B9.one.ev 0 b,Vh (List.mem_singleton.2 rfl)⟩
theorem Aoe:Cd 1 1 [4607182418800017408] 1 1 [4607182418800017408] 1 1 [0] 1 1 [4613937818241073152]=(1,1,[4613937818241073152],0):=by decide +kernel
theorem Aep {x:Int} (h:decide (0≤x∧x<18446744073709551616)=true):Ah [x]=true:=Aq.2 fun y hy=>by
  rw [List.mem_singleton.1 hy]; exact Aq.2 (of_decide_eq_true h)
theorem Sn:So [4607182418800017408] [4607182418800017408] [0] [4613937818241073152]=true:=by
  unfold So
  rw [Aep (by decide),Aep (x:=0) (by decide),Aep (x:=4613937818241073152) (by decide)]; rfl
theorem B9.Gx.known:B9.Gx.Kn:=B9.Gx.Ad (.cons B9.one.known (.cons C6.Solve.known .nil)) fun _ _=>by
  refine ⟨0,B9.Gx.out [],[],?_,.bool⟩
  rw [B9.Gx.ev,Sn,Aoe]
  rfl
def H5 (R C:Nat) (x:MX):Prop:=∃ l,x=((R:Int),(C:Int),l,0)∧R≤6∧C≤6∧l.length=R*C∧Ah l=true
def FM (x:MX):Prop:=Dz x.2.2.1=true
theorem FM.of {r c e:Int} {l:List Int} (h:Dz l=true):FM (r,c,l,e):=h
theorem H5.mk {R C:Nat} {l:List Int} (r6:R≤6) (c6:C≤6) (hl:l.length=R*C) (al:Ah l=true):H5 R C ((R:Int),(C:Int),l,0):=⟨l,rfl,r6,c6,hl,al⟩
section
variable {R C K:Nat} {x y:MX}
theorem H5.right (h:H5 R C x):Av x.1 x.2.1 x.2.2.1=true:=by
  obtain ⟨l,rfl,r6,c6,hl,al⟩:=h
  exact Mr r6 c6 hl
theorem H5.inn (h:H5 R C x):Ah x.2.2.1=true:=by obtain ⟨l,rfl,r6,c6,hl,al⟩:=h; exact al
theorem H5.err (h:H5 R C x):x.2.2.2=0:=by obtain ⟨l,rfl,_⟩:=h; rfl
theorem H5.rows (h:H5 R C x):x.1=R:=by obtain ⟨l,rfl,_⟩:=h; rfl
theorem H5.r6 (h:H5 R C x):R≤6:=by obtain ⟨l,rfl,r6,_⟩:=h; exact r6
theorem H5.c6 (h:H5 R C x):C≤6:=by obtain ⟨l,rfl,_,c6,_⟩:=h; exact c6
theorem H5.len (h:H5 R C x):x.2.2.1.length≤36:=by
  obtain ⟨l,rfl,r6,c6,hl,_⟩:=h
  have:=Nat.mul_le_mul r6 c6
  show l.length≤36
  omega
theorem H5.chk (h:H5 R C x) (f:FM x):Aun x=0:=Ar1 h.right f
theorem H5.fin (h:Aun x=0):FM x:=(Gq h).2
theorem Rx {i k a b:Nat} (ha:i+a≤R) (hb:k+b≤C):Li (R:Int) (C:Int) (i:Int) (k:Int) (a:Int) (b:Int)=true:=Auu (by omega)
theorem H5.part {i k a b:Nat} (h:H5 R C x) (ha:i+a≤R) (hb:k+b≤C):H5 a b (Gi x i k a b):=by
  have hr:=h.right
  obtain ⟨l,rfl,r6,c6,hl,al⟩:=h
  refine ⟨_,by unfold Gi Ey; dsimp only; rw [if_pos hr,if_pos (Rx ha hb)],by omega,by omega,by rw [Bn,Auv,Auv],F4 fun _ _=>Hd al⟩
theorem FM.part {i k a b:Nat} (h:H5 R C x) (f:FM x) (ha:i+a≤R) (hb:k+b≤C):FM (Gi x i k a b):=by
  have hr:=h.right
  obtain ⟨l,rfl,r6,c6,hl,al⟩:=h
  unfold Gi Ey
  dsimp only
  rw [if_pos hr,if_pos (Rx ha hb)]
  exact .of (Ack fun _ _=>Aru (show Dz _=true from f))
theorem H5.mul (h:H5 R K x) (g:H5 K C y):H5 R C (mulM x y):=by
  have hr:=h.right
  have hg:=g.right
  obtain ⟨l,rfl,r6,c6,hl,al⟩:=h
  obtain ⟨m,rfl,p6,q6,hm,am⟩:=g
  refine ⟨_,by unfold mulM En; rw [hr,hg,Auz,if_pos rfl,if_pos rfl],r6,q6,by rw [Bn,Auv,Auv],F4 fun _ _=>U8 _ _⟩
theorem H5.sub (h:H5 R C x) (g:H5 R C y):H5 R C (Adi x y):=by
  have hr:=h.right
  have hg:=g.right
  obtain ⟨l,rfl,r6,c6,hl,al⟩:=h
  obtain ⟨m,rfl,p6,q6,hm,am⟩:=g
  refine ⟨_,by unfold Adi Ir; rw [hr,hg,Auz,if_pos rfl,if_pos ⟨rfl,rfl⟩],r6,c6,by rw [Bn,Auv,Auv],F4 fun _ _=>Nd (Hd al) (Hd am)⟩
theorem H5.lo (h:H5 R R x) (g:H5 R C y) (e:(loM x y).2.2.2=0):H5 R C (loM x y)∧FM (loM x y):=by
  obtain ⟨l,rfl,r6,c6,hl,al⟩:=h
  obtain ⟨m,rfl,p6,q6,hm,am⟩:=g
  obtain ⟨P,Q,Y,e1,e2,a6,b6,e3,e4,e5,e6⟩:=Aby e
  dsimp only at e1 e2
  obtain rfl:P=R:=by omega
  obtain rfl:Q=C:=by omega
  have e7:loM ((P:Int),(P:Int),l,0) ((P:Int),(Q:Int),m,0)=((P:Int),(Q:Int),Y,0):=e3
  rw [e7]
  exact ⟨.mk a6 b6 e4 e6,e5⟩
theorem H5.up (h:H5 R R x) (g:H5 R C y) (e:(upM x y).2.2.2=0):H5 R C (upM x y)∧FM (upM x y):=by
  obtain ⟨l,rfl,r6,c6,hl,al⟩:=h
  obtain ⟨m,rfl,p6,q6,hm,am⟩:=g
  obtain ⟨P,Q,Y,e1,e2,a6,b6,e3,e4,e5,e6⟩:=Ai7 e
  dsimp only at e1 e2
  obtain rfl:P=R:=by omega
  obtain rfl:Q=C:=by omega
  have e7:upM ((P:Int),(P:Int),l,0) ((P:Int),(Q:Int),m,0)=((P:Int),(Q:Int),Y,0):=e3
  rw [e7]
  exact ⟨.mk a6 b6 e4 e6,e5⟩
end
namespace EqGg
end EqGg
open EqGg
section
variable {N:Nat} {r c p q u v:Int} {l m h:List Int} {R Q T C W:MX}
end
section
variable {N:Nat} {r c p q:Int} {l m:List Int} {Q L S w o y:MX}
end
open EqGg
section
variable {N:Nat} {r c p q u v:Int} {l m h:List Int} {T C E c1 c2 e1 e2 y d f x:MX}
end
namespace EqRef21
end EqRef21
open EqRef21
open EqRef21
theorem H5.lo' {R:Nat} {x y:MX} (h:H5 R R x) (e:(loM x y).2.2.2=0):∃ C,H5 R C (loM x y)∧FM (loM x y):=by
  obtain ⟨l,rfl,r6,c6,hl,al⟩:=h
  obtain ⟨P,Q,Y,e1,e2,a6,b6,e3,e4,e5,e6⟩:=Aby e
  dsimp only at e1 e2
  obtain rfl:P=R:=by omega
  have e7:loM ((P:Int),(P:Int),l,0) y=((P:Int),(Q:Int),Y,0):=e3
  rw [e7]
  exact ⟨Q,.mk a6 b6 e4 e6,e5⟩
section
variable {N R C:Nat} {p q:Int} {l m:List Int} {Q L S w y:MX} {ok:Bool}
end
open EqRef21
section
variable {N n k b:Nat} {l m h:List Int} {Q R C W y f x:MX} {ok:Bool}
end
namespace EqRefM
def Ac.single.hint:Nat→Option A8
  | 0=>some { keep:=[0,1,5,6,7],objs:=[(0,5,100005,.ints 173 .u32 [])],boxes:=[] }
  | _=>none
def Ac.single.Bb:List (Nat × Entry):=[]
def Ac.single.E:Env:=Bc (Ba Ac.single.Bb) (fun _=>false) Ac.single.hint (fun _=>none)
def Ac.single.L0 (N M:Nat) (a:List Int) (x p6 p7:Int) (p5:List Int):Option DV:=B3 Ac.single.E N Tryz.f175 (Am Tryz.f175) [1,1,1,0,1,0] [] M ⟨Gb 39 [(0,.ints .arg .u32 a),(1,.int .u32 x),(5,.oref 100005),(6,.int .u64 p6),(7,.int .i64 p7)],[(100005,false,.ints 173 .u32 p5)]⟩
theorem Ac.single.Au (N M:Nat) (a:List Int) (x p6 p7:Int) (p5:List Int):Ac.single.L0 N (M+1) a x p6 p7 p5=bif (A2 p7 (List.length a:Int)) then bif ((decide (0≤p7))&&(decide (p7<(List.length a:Int)))) then bif (decide ((List.length p5)+1≤Gd)) then Ac.single.L0 N M a x (A9 (Int.tdiv (A9 ((A9 ((A9 (List.getD a (Int.toNat p7) 0))*(A9 x)))+p6)) 4294967296)) (Ab (p7+1)) (p5++[(Hu (Int.tmod (A9 ((A9 ((A9 (List.getD a (Int.toNat p7) 0))*(A9 x)))+p6)) 4294967296))]) else none else none else bif (decide ((List.length p5)+1≤Gd)) then some (.ints (.own 38 173) .u32 (p5++[(Hu p6)])) else none:=by kernel_rfl
theorem Ac.single.ev (N:Nat) (a:List Int) (x:Int):Bw Ac.single.E N Tryz.f175 (Am Tryz.f175) [.ints .arg .u32 a,.int .u32 x] =
  Ac.single.L0 N N a x 0 0 []:=by kernel_rfl
abbrev _root_.Go.Proofs.S1.Ac.single.Kn:=A6 Tryz.prog 175 Ac.single.spec
theorem Ac.single.Ad (hk:A0 Tryz.prog Ac.single.Bb) (h:∀ (a:List Int) (x:Int),Ac.single.pre [.l a,.i x]=true→Be Ac.single.E Tryz.f175 [.ints .arg .u32 a,.int .u32 x] (Ac.single.out [.l a,.i x])):Ac.single.Kn :=
  Ak (A1 hk _ _ _) Tryz.func175 (by kernel_rfl) (by kernel_rfl) h
def Ac.Mul.hint:Nat→Option A8
  | 0=>some { keep:=[2,3,4,5,6],objs:=[(0,5,100005,.ints 173 .u32 [])],boxes:=[2,3,4] }
  | _=>none
def Ac.Mul.Bb:List (Nat × Entry):=[(171,Ac.Made.spec),(174,Ac.plus.own.spec),(175,Ac.single.spec)]
def Ac.Mul.E:Env:=Bc (Ba Ac.Mul.Bb) (fun n=>Nat.beq n 29) Ac.Mul.hint (fun _=>none)
def Ac.Mul.L0 (N M:Nat) (n:Bool) (a:List Int) (m:Bool) (b:List Int) (p6:Int) (p5:List Int):Option DV:=B3 Ac.Mul.E N Tryz.f110 (Am Tryz.f110) [1,1,0,1,0] [] M ⟨Gb 37 [(2,.ptr 2 0 0),(3,.ptr 3 0 0),(4,.ptr 4 0 0),(5,.oref 100005),(6,.int .i64 p6)],[(2,false,.box [.bool n,.ints .arg .u32 a]),(3,false,.box [.bool m,.ints .arg .u32 b]),(4,false,.box [.bool false,.nil]),(100005,false,.ints 173 .u32 p5)]⟩
theorem Ac.Mul.Au (N M:Nat) (n:Bool) (a:List Int) (m:Bool) (b:List Int) (p6:Int) (p5:List Int):Ac.Mul.L0 N (M+1) n a m b p6 p5=bif (D1 0 p6) then bif (decide (1+(List.length p5)≤Gd)) then bif ((decide (0≤p6))&&(decide (p6<(List.length b:Int)))) then bif (Fo a&&Agd (List.getD b (Int.toNat p6) 0)) then bif (Fo ([(0:Int)]++p5)&&Fo (singleL a (List.getD b (Int.toNat p6) 0))) then Ac.Mul.L0 N M n a m b (Ab (p6-1)) (Hn ([(0:Int)]++p5) (singleL a (List.getD b (Int.toNat p6) 0))) else none else none else none else none else bif (Fo p5) then some (.agg [.bool (Ax (wv (!(n==m)) p5)),.ints .arg .u32 (Ag (wv (!(n==m)) p5))]) else none :=
  Eq.trans (by kernel_rfl)
  (Es (Es (Da (Mq (decide (0≤p6)) (decide (p6<(List.length b:Int)))) (Da (De (Fo a&&Agd (List.getD b (Int.toNat p6) 0))) (Da (De (Fo ([(0:Int)]++p5)&&Fo (singleL a (List.getD b (Int.toNat p6) 0)))) rfl rfl) rfl) rfl) rfl) rfl)
theorem Ac.Mul.ev (N:Nat) (n:Bool) (a:List Int) (m:Bool) (b:List Int):Bw Ac.Mul.E N Tryz.f110 (Am Tryz.f110) [.agg [.bool n,.ints .arg .u32 a],.agg [.bool m,.ints .arg .u32 b]] =
  Ac.Mul.L0 N N n a m b (Ab ((List.length b:Int)-1)) []:=by kernel_rfl
abbrev _root_.Go.Proofs.S1.Ac.Mul.Kn:=A6 Tryz.prog 110 Ac.Mul.spec
theorem Ac.Mul.Ad (hk:A0 Tryz.prog Ac.Mul.Bb) (h:∀ (n:Bool) (a:List Int) (m:Bool) (b:List Int),Ac.Mul.pre [.b n,.l a,.b m,.l b]=true→Be Ac.Mul.E Tryz.f110 [.agg [.bool n,.ints .arg .u32 a],.agg [.bool m,.ints .arg .u32 b]] (Ac.Mul.out [.b n,.l a,.b m,.l b])):Ac.Mul.Kn :=
  Ak (A1 hk _ _ _) Tryz.func110 (by kernel_rfl) (by kernel_rfl) h
def Ay.Mul.Bb:List (Nat × Entry):=[(110,Ac.Mul.spec),(109,Ay.Of.spec)]
def Ay.Mul.E:Env:=Bc (Ba Ay.Mul.Bb) (fun _=>false) (fun _=>none) (fun _=>none)
theorem Ay.Mul.ev (N:Nat) (n:Bool) (a:List Int) (e:Int) (m:Bool) (b:List Int) (f:Int):Bw Ay.Mul.E N Tryz.f41 (Am Tryz.f41) [.agg [.bool n,.ints .arg .u32 a,.int .i64 e],.agg [.bool m,.ints .arg .u32 b,.int .i64 f]]=bif (Zd n a&&Zd m b) then bif (Jh (Ax (wv n a*wv m b)) (Ag (wv n a*wv m b))&&Tf (Ab (e+f))) then some (.agg [.bool (Ax (mD (wv (Ax (wv n a*wv m b)) (Ag (wv n a*wv m b))))),.ints .arg .u32 (Ag (mD (wv (Ax (wv n a*wv m b)) (Ag (wv n a*wv m b))))),.int .i64 (eD (wv (Ax (wv n a*wv m b)) (Ag (wv n a*wv m b))) (Ab (e+f)))]) else none else none :=
  Eq.trans (by kernel_rfl)
  (Da (De (Zd n a&&Zd m b)) (Da (De (Jh (Ax (wv n a*wv m b)) (Ag (wv n a*wv m b))&&Tf (Ab (e+f)))) rfl rfl) rfl)
abbrev _root_.Go.Proofs.S1.Ay.Mul.Kn:=A6 Tryz.prog 41 Ay.Mul.spec
theorem Ay.Mul.Ad (hk:A0 Tryz.prog Ay.Mul.Bb) (h:∀ (n:Bool) (a:List Int) (e:Int) (m:Bool) (b:List Int) (f:Int),Ay.Mul.pre [.b n,.l a,.i e,.b m,.l b,.i f]=true→Be Ay.Mul.E Tryz.f41 [.agg [.bool n,.ints .arg .u32 a,.int .i64 e],.agg [.bool m,.ints .arg .u32 b,.int .i64 f]] (Ay.Mul.out [.b n,.l a,.i e,.b m,.l b,.i f])):Ay.Mul.Kn :=
  Ak (A1 hk _ _ _) Tryz.func41 (by kernel_rfl) (by kernel_rfl) h
abbrev _root_.Go.Proofs.S1.Ac.plus.own.Kn:Prop:=A6 Tryz.prog 174 Ac.plus.own.spec
theorem _root_.Go.Proofs.S1.Ac.plus.own.call:∀ (args:Array Value) (w:World),(callFunc 174 args).run Tryz.prog w=.ok (.enter 174 args) w:=Nw Tryz.func174 (by kernel_rfl) (show Tryz.f174.body=some (Am Tryz.f174) by kernel_rfl)
theorem _root_.Go.Proofs.S1.Ac.plus.meets {E:Env} (he:Io Tryz.prog E) {ts:List AT} {pre:List Atom→Bool} {out:List Atom→DV} (h:∀ ats ds,E4 ts ats ds→pre ats=true→∃ fuel d drops,Bw E fuel Tryz.f174 (Am Tryz.f174) ds=some d∧Wk drops d (out ats)):Uj Tryz.prog 174 (entry ts pre out):=Ov he Tryz.func174 (show Tryz.f174.body=some (Am Tryz.f174) by kernel_rfl) h
end EqRefM
open EqRefM
theorem Uy {n:Bool} {l:List Int} (h:Zd n l=true):∃ v,n=Ax v∧l=Ag v∧C1 v.natAbs<33554432:=by
  have h:=Aq.1 h
  obtain ⟨h1,h2,h3⟩:=h
  obtain ⟨e1,e2⟩:=Tw h2 h3
  refine ⟨wv n l,e1,e2,?_⟩
  rw [e2,B2] at h1
  exact h1
theorem Arf {v:Int} (h:C1 v.natAbs<33554432):Zd (Ax v) (Ag v)=true :=
  Aq.2 ⟨by rw [B2]; exact h,Wx v⟩
theorem Ac.plus.own.known:Ac.plus.own.Kn:=by
  refine ⟨Ac.plus.meets (E:=EqRefA.Ac.plus.E) (A1 (.cons Ac.H8.known .nil) _ _ _) fun ats dvs he hp=>?_,Ac.plus.own.call⟩
  obtain ⟨a,_,_,rfl,rfl,he0⟩:=he.Ap4
  obtain ⟨b,_,_,rfl,rfl,he1⟩:=he0.Ap4
  obtain ⟨rfl,rfl⟩:=he1.Zk
  obtain ⟨ha,hb⟩:=Ae.1 (show (Fo a&&Fo b)=true from hp)
  refine ⟨max a.length b.length+2,.ints (.own 100005 tW) .u32 (Hn a b),[],?_,.keep _ _ _ _ (List.not_mem_nil)⟩
  rw [EqRefA.Ac.plus.ev]
  exact Xw _ ha hb (max a.length b.length+1) 0 0 _ (by omega) (by omega) (by omega) (by simp)
theorem Y6 {x y c:Nat} (hx:x<4294967296) (hy:y<4294967296) (hc:c<4294967296):x*y+c<18446744073709551616:=by
  have:=Nat.mul_le_mul (show x≤4294967295 by omega) (show y≤4294967295 by omega)
  omega
theorem Aa3 (N:Nat) {a:List Int} {X:Nat} (ha:Fo a=true) (hX:X<4294967296):∀ (k i c F:Nat),i+k=a.length→k<F→c<4294967296 →
    By a / 2^(32*i)*X+c=By a*X / 2^(32*i) →
    Ac.single.L0 N F a (X:Int) (c:Int) (i:Int) (digits i (By a*X))=some (.ints (.own 38 tW) .u32 (singleL a (X:Int))):=by
  obtain ⟨la,ia⟩:=Iw ha
  intro k
  induction k with
  | zero =>
    intro i c F hi hF hc h
    obtain ⟨F,rfl⟩:∃ G,F=G+1:=⟨F-1,by omega⟩
    have t0:decide ((i:Int)<(a.length:Int))=false:=Auy (by omega)
    have t1:decide ((digits i (By a*X)).length+1≤Gd)=true:=Auu (by rw [Du]; unfold Gd; omega)
    have hz:By a / 2^(32*i)=0:=Nat.div_eq_of_lt (by rw [show i=a.length by omega]; exact Iq ia)
    rw [hz,Nat.zero_mul,Nat.zero_add] at h
    rw [Ac.single.Au,At,t0,Aux,t1,Aut,Ht (by omega) (by omega)]
    unfold singleL
    rw [Auv,Il,← show i=a.length by omega,← h,Au6 hc]
  | succ k ih =>
    intro i c F hi hF hc h
    obtain ⟨F,rfl⟩:∃ G,F=G+1:=⟨F-1,by omega⟩
    have t0:decide ((i:Int)<(a.length:Int))=true:=Auu (by omega)
    have t2:decide ((0:Int)≤(i:Int))=true:=Auu (by omega)
    have t1:decide ((digits i (By a*X)).length+1≤Gd)=true:=Auu (by rw [Du]; unfold Gd; omega)
    rw [Ac.single.Au,At,t0,t1,t2]
    simp only [Aut,Auz]
    rw [Auv,L5 ia i]
    have ih:=ih (i+1)
    rw [Kl,Nat.mul_comm 4294967296,← Nat.div_div_eq_div_mul,← Nat.div_div_eq_div_mul,Il] at ih
    generalize By a / 2^(32*i)=x at *
    generalize By a*X / 2^(32*i)=z at *
    have hb:=Y6 (x:=x%4294967296) (y:=X) (c:=c) (Nat.mod_lt _ (by decide)) hX hc
    have hm:x*X=x / 4294967296*X*4294967296+x%4294967296*X:=by
      rw [Nat.mul_right_comm,← Nat.add_mul]
      congr 1
      omega
    have e1:A9 (A9 (A9 ((x%4294967296:Nat):Int)*A9 (X:Int))+(c:Int))=((x%4294967296*X+c:Nat):Int):=by
      rw [Co (x:=((x%4294967296:Nat):Int)) (by omega) (by omega),Co (x:=(X:Int)) (by omega) (by omega),← Ave,Co (x:=((x%4294967296*X:Nat):Int)) (by omega) (by omega),Co (by omega) (by omega)]
      omega
    have hlt:(x%4294967296*X+c) / 4294967296<4294967296:=by omega
    rw [e1,Ab1,Hw,Hx,Ht (by omega) (by omega),Co (by omega) (by omega),Al (by omega) (by omega)]
    rw [hm] at h
    generalize x%4294967296*X=p at *
    generalize x / 4294967296*X=q at *
    have e2:(p+c)%4294967296=z%4294967296:=by omega
    rw [e2]
    exact ih ((p+c) / 4294967296) F (by omega) (by omega) hlt (by omega)
theorem Ac.single.known:Ac.single.Kn:=Ac.single.Ad .nil fun a x hp=>by
  obtain ⟨ha,hx⟩:=Ae.1 hp
  have hx:=Aq.1 hx
  obtain ⟨X,rfl⟩:∃ k:Nat,x=k:=⟨x.toNat,by omega⟩
  refine ⟨a.length+1,.ints (.own 38 tW) .u32 (singleL a X),[38],?_,Zb⟩
  rw [Ac.single.ev]
  exact Aa3 _ ha (by omega) a.length 0 0 _ (by omega) (by omega) (by omega) (by simp)
theorem Vm (a:List Int) (x:Int):Se (singleL a x):=Lb _ _
theorem Ok (a:List Int) (x:Int):(singleL a x).length=a.length+1:=Du _ _
theorem Aa4 {a:List Int} (ia:Se a) {X:Nat} (hX:X<4294967296):By (singleL a (X:Int))=By a*X:=by
  have h:=Iq ia
  unfold singleL
  rw [Ib,Auv,Au6]
  rw [Kl,Nat.mul_comm 4294967296]
  exact Nat.mul_lt_mul'' h hX
theorem Ako (N:Nat) {n m:Bool} {a b:List Int} (ha:Se a) (hb:Se b) (la:a.length<33554432) (lb:b.length<33554432) :
    ∀ (j F:Nat) (p:List Int),j≤b.length→j<F→Se p→p.length≤a.length+2*(b.length-j)→By p=By a*(By b / 2^(32*j)) →
    Ac.Mul.L0 N F n a m b ((j:Int)-1) p=some (.agg [.bool (Ax (Ie (!(n==m)) (By a*By b))),.ints .arg .u32 (Ag (Ie (!(n==m)) (By a*By b)))]):=by
  intro j
  induction j with
  | zero =>
    intro F p hj hF ip lp vp
    obtain ⟨F,rfl⟩:∃ G,F=G+1:=⟨F-1,by omega⟩
    have o:Fo p=true:=Iv (by omega) ip
    rw [Nat.mul_zero,Nat.pow_zero,Nat.div_one] at vp
    rw [Ac.Mul.Au,Ej,Auy (by omega),Aux,o,Aut]
    unfold wv
    rw [vp]
  | succ j ih =>
    intro F p hj hF ip lp vp
    obtain ⟨F,rfl⟩:∃ G,F=G+1:=⟨F-1,by omega⟩
    have e0:((j+1:Nat):Int)-1=(j:Int):=by omega
    have hX:By b / 2^(32*j)%4294967296<4294967296:=Nat.mod_lt _ (by decide)
    have o1:Fo a=true:=Iv (by omega) ha
    have i0:Se ([(0:Int)]++p):=Aca ip
    have o2:Fo ([(0:Int)]++p)=true:=Iv (by rw [List.length_append]; show 1+p.length<_; omega) i0
    have o3:Fo (singleL a ((By b / 2^(32*j)%4294967296:Nat):Int))=true:=Iv (by rw [Ok]; omega) (Vm _ _)
    have o4:Agd ((By b / 2^(32*j)%4294967296:Nat):Int)=true:=Aq.2 (by omega)
    have vz:By ([(0:Int)]++p)=4294967296*By p:=by
      show (0:Int).toNat+4294967296*By p=_
      rw [show (0:Int).toNat=0 from rfl,Nat.zero_add]
    have c1:decide (1+p.length≤Gd)=true:=Auu (by unfold Gd; omega)
    have c2:decide ((j:Int)<(b.length:Int))=true:=Auu (by omega)
    have c3:decide ((0:Int)≤(j:Int))=true:=Auu (by omega)
    rw [e0,Ac.Mul.Au,Ej,c3,Aut,c1,Aut,c2,Auz,Aut,Auv,L5 hb j,o1,o4,Auz,Aut,o2,o3,Auz,Aut,Al (by omega) (by omega)]
    refine ih F _ (by omega) (by omega) (Vw _ _) ?_ ?_
    · rw [Ng,List.length_append,Ok]
      show max (1+p.length) _+1≤_
      omega
    · rw [Xx i0 (Vm _ _),vz,Aa4 ha hX,vp,Kl,Nat.mul_comm 4294967296 (2^(32*j)),← Nat.div_div_eq_div_mul,Nat.mul_left_comm,← Nat.mul_add]
      congr 1
      omega
theorem Anv (s t:Bool) (x y:Nat):Ie (!(s==t)) (x*y)=Ie s x*Ie t y:=by
  unfold Ie
  cases s<;>cases t<;>simp [Ave,Int.neg_mul,Int.mul_neg]
theorem Ac.Mul.known:Ac.Mul.Kn:=Ac.Mul.Ad (.cons Ac.Made.known (.cons Ac.plus.own.known (.cons Ac.single.known .nil))) fun n a m b hp=>by
  obtain ⟨h1,h2⟩:=Ae.1 hp
  obtain ⟨v,rfl,rfl,hv⟩:=Uy h1
  obtain ⟨w,rfl,rfl,hw⟩:=Uy h2
  refine ⟨(Ag w).length+1,Ac.Mul.out [.b (Ax v),.l (Ag v),.b (Ax w),.l (Ag w)],[],?_,Yw⟩
  have lv:=B2 v
  have lw:=B2 w
  have iw:=Fl w
  have hz:By (Ag w) / 2^(32*(Ag w).length)=0:=Nat.div_eq_of_lt (Iq iw)
  rw [Ac.Mul.ev,Al (by omega) (by omega)]
  refine (Ako _ (Fl v) iw (by omega) (by omega) (Ag w).length _ [] (Nat.le_refl _) (by omega) (fun x h=>by cases h) (by show 0≤_; omega) (by rw [hz,Nat.mul_zero]; rfl)).trans ?_
  rw [Anv]
  rfl
theorem Ale (n m:Nat):C1 (n*m)≤C1 n+C1 m:=by
  refine K1 ?_
  rw [Nat.mul_add,Nat.pow_add]
  exact Nat.mul_lt_mul'' (Iy n) (Iy m)
theorem Ay.Mul.known:Ay.Mul.Kn:=Ay.Mul.Ad (.cons Ac.Mul.known (.cons Ay.Of.known .nil)) fun n a e m b f hp=>by
  obtain ⟨h1,h2⟩:=Ae.1 hp
  obtain ⟨h3,h4⟩:=Ae.1 h2
  have he:=Aq.1 h3
  have hf:=Aq.1 h4
  obtain ⟨h5,h6⟩:=Ae.1 h1
  obtain ⟨v,rfl,rfl,hv⟩:=Uy h5
  obtain ⟨w,rfl,rfl,hw⟩:=Uy h6
  refine ⟨0,Ay.Mul.out [.b (Ax v),.l (Ag v),.i e,.b (Ax w),.l (Ag w),.i f],[],?_,wdy⟩
  have hl:=Ale v.natAbs w.natAbs
  have o1:Jh (Ax (v*w)) (Ag (v*w))=true:=Jg (by rw [Int.natAbs_mul]; omega)
  have o2:Tf (e+f)=true:=Aq.2 (by omega)
  rw [Ay.Mul.ev,h5,h6,Auz,Aut,Al (by omega) (by omega)]
  simp only [Fz]
  rw [o1,o2,Auz,Aut]
  show _=some (DV.agg [.bool (Ax (mD (wv (Ax v) (Ag v)*wv (Ax w) (Ag w)))),.ints .arg .u32 (Ag (mD (wv (Ax v) (Ag v)*wv (Ax w) (Ag w)))),.int .i64 (eD (wv (Ax v) (Ag v)*wv (Ax w) (Ag w)) (e+f))])
  rw [Fz,Fz]
namespace EqLaw21
def Bk.Cm.hint:Nat→Option A8
  | 0=>some { keep:=[0,2,3,4],objs:=[],boxes:=[2,3] }
  | _=>none
def Bk.Cm.Bb:List (Nat × Entry):=[(42,Ay.Add.spec),(41,Ay.Mul.spec),(63,A5.Value.spec)]
def Bk.Cm.E:Env:=Bc (Ba Bk.Cm.Bb) (fun _=>false) Bk.Cm.hint (fun _=>none)
def Bk.Cm.L0 (N M:Nat) (x:List Int):Option DV:=B3 Bk.Cm.E N Tryz.f55 (Am Tryz.f55) [1,1,0,1,0] [] M ⟨Gb 24 [(0,.ints .arg .u64 x),(2,.ptr 2 0 0),(3,.ptr 3 0 0),(4,.int .i64 0)],[(2,false,.box [.bool false,.nil,.int .i64 0]),(3,false,.box [.bool false,.nil,.int .i64 0])]⟩
def Bk.Cm.L1 (N M:Nat) (x:List Int) (p4:Int) (p3:Bool) (p3_1:List Int) (p3_2:Int):Option DV:=B3 Bk.Cm.E N Tryz.f55 (Am Tryz.f55) [1,1,0,1,0] [] M ⟨Gb 24 [(0,.ints .arg .u64 x),(2,.ptr 2 0 0),(3,.ptr 3 0 0),(4,.int .i64 p4)],[(2,false,.box [.bool false,.nil,.int .i64 0]),(3,false,.box [.bool p3,.ints .arg .u32 p3_1,.int .i64 p3_2])]⟩
theorem Bk.Cm.Au (N M:Nat) (x:List Int):Bk.Cm.L0 N (M+1) x=bif (A2 0 (List.length x:Int)) then bif (decide ((0:Int)<(List.length x:Int))) then bif (Ai (List.getD x 0 0)) then bif ((Zd (Ax (mD (A7 (List.getD x 0 0)))) (Ag (mD (A7 (List.getD x 0 0))))&&Zd (Ax (mD (A7 (List.getD x 0 0)))) (Ag (mD (A7 (List.getD x 0 0)))))&&(Tg (eD (A7 (List.getD x 0 0)) (Az (List.getD x 0 0)))&&Tg (eD (A7 (List.getD x 0 0)) (Az (List.getD x 0 0))))) then bif (((W4 false []&&W4 (Ax (mD (wv (Ax (mD (A7 (List.getD x 0 0)))) (Ag (mD (A7 (List.getD x 0 0))))*wv (Ax (mD (A7 (List.getD x 0 0)))) (Ag (mD (A7 (List.getD x 0 0))))))) (Ag (mD (wv (Ax (mD (A7 (List.getD x 0 0)))) (Ag (mD (A7 (List.getD x 0 0))))*wv (Ax (mD (A7 (List.getD x 0 0)))) (Ag (mD (A7 (List.getD x 0 0))))))))&&Tg 0)&&Tg (eD (wv (Ax (mD (A7 (List.getD x 0 0)))) (Ag (mD (A7 (List.getD x 0 0))))*wv (Ax (mD (A7 (List.getD x 0 0)))) (Ag (mD (A7 (List.getD x 0 0))))) ((eD (A7 (List.getD x 0 0)) (Az (List.getD x 0 0)))+(eD (A7 (List.getD x 0 0)) (Az (List.getD x 0 0)))))) then Bk.Cm.L1 N M x 1 (Ax (Aae (wv false []) 0 (wv (Ax (mD (wv (Ax (mD (A7 (List.getD x 0 0)))) (Ag (mD (A7 (List.getD x 0 0))))*wv (Ax (mD (A7 (List.getD x 0 0)))) (Ag (mD (A7 (List.getD x 0 0))))))) (Ag (mD (wv (Ax (mD (A7 (List.getD x 0 0)))) (Ag (mD (A7 (List.getD x 0 0))))*wv (Ax (mD (A7 (List.getD x 0 0)))) (Ag (mD (A7 (List.getD x 0 0)))))))) (eD (wv (Ax (mD (A7 (List.getD x 0 0)))) (Ag (mD (A7 (List.getD x 0 0))))*wv (Ax (mD (A7 (List.getD x 0 0)))) (Ag (mD (A7 (List.getD x 0 0))))) ((eD (A7 (List.getD x 0 0)) (Az (List.getD x 0 0)))+(eD (A7 (List.getD x 0 0)) (Az (List.getD x 0 0))))))) (Ag (Aae (wv false []) 0 (wv (Ax (mD (wv (Ax (mD (A7 (List.getD x 0 0)))) (Ag (mD (A7 (List.getD x 0 0))))*wv (Ax (mD (A7 (List.getD x 0 0)))) (Ag (mD (A7 (List.getD x 0 0))))))) (Ag (mD (wv (Ax (mD (A7 (List.getD x 0 0)))) (Ag (mD (A7 (List.getD x 0 0))))*wv (Ax (mD (A7 (List.getD x 0 0)))) (Ag (mD (A7 (List.getD x 0 0)))))))) (eD (wv (Ax (mD (A7 (List.getD x 0 0)))) (Ag (mD (A7 (List.getD x 0 0))))*wv (Ax (mD (A7 (List.getD x 0 0)))) (Ag (mD (A7 (List.getD x 0 0))))) ((eD (A7 (List.getD x 0 0)) (Az (List.getD x 0 0)))+(eD (A7 (List.getD x 0 0)) (Az (List.getD x 0 0))))))) (Amv (wv false []) 0 (wv (Ax (mD (wv (Ax (mD (A7 (List.getD x 0 0)))) (Ag (mD (A7 (List.getD x 0 0))))*wv (Ax (mD (A7 (List.getD x 0 0)))) (Ag (mD (A7 (List.getD x 0 0))))))) (Ag (mD (wv (Ax (mD (A7 (List.getD x 0 0)))) (Ag (mD (A7 (List.getD x 0 0))))*wv (Ax (mD (A7 (List.getD x 0 0)))) (Ag (mD (A7 (List.getD x 0 0)))))))) (eD (wv (Ax (mD (A7 (List.getD x 0 0)))) (Ag (mD (A7 (List.getD x 0 0))))*wv (Ax (mD (A7 (List.getD x 0 0)))) (Ag (mD (A7 (List.getD x 0 0))))) ((eD (A7 (List.getD x 0 0)) (Az (List.getD x 0 0)))+(eD (A7 (List.getD x 0 0)) (Az (List.getD x 0 0)))))) else none else none else none else none else some (.agg [.bool false,.nil,.int .i64 0]) :=
  Eq.trans (by kernel_rfl)
  (Es (Es (Es (Da (De ((Zd (Ax (mD (A7 (List.getD x 0 0)))) (Ag (mD (A7 (List.getD x 0 0))))&&Zd (Ax (mD (A7 (List.getD x 0 0)))) (Ag (mD (A7 (List.getD x 0 0)))))&&(Tg (eD (A7 (List.getD x 0 0)) (Az (List.getD x 0 0)))&&Tg (eD (A7 (List.getD x 0 0)) (Az (List.getD x 0 0)))))) (Da (De (((W4 false []&&W4 (Ax (mD (wv (Ax (mD (A7 (List.getD x 0 0)))) (Ag (mD (A7 (List.getD x 0 0))))*wv (Ax (mD (A7 (List.getD x 0 0)))) (Ag (mD (A7 (List.getD x 0 0))))))) (Ag (mD (wv (Ax (mD (A7 (List.getD x 0 0)))) (Ag (mD (A7 (List.getD x 0 0))))*wv (Ax (mD (A7 (List.getD x 0 0)))) (Ag (mD (A7 (List.getD x 0 0))))))))&&Tg 0)&&Tg (eD (wv (Ax (mD (A7 (List.getD x 0 0)))) (Ag (mD (A7 (List.getD x 0 0))))*wv (Ax (mD (A7 (List.getD x 0 0)))) (Ag (mD (A7 (List.getD x 0 0))))) ((eD (A7 (List.getD x 0 0)) (Az (List.getD x 0 0)))+(eD (A7 (List.getD x 0 0)) (Az (List.getD x 0 0))))))) rfl rfl) rfl) rfl) rfl) rfl)
theorem Bk.Cm.Cf (N M:Nat) (x:List Int) (p4:Int) (p3:Bool) (p3_1:List Int) (p3_2:Int):Bk.Cm.L1 N (M+1) x p4 p3 p3_1 p3_2=bif (A2 p4 (List.length x:Int)) then bif ((decide (0≤p4))&&(decide (p4<(List.length x:Int)))) then bif (Ai (List.getD x (Int.toNat p4) 0)) then bif ((Zd (Ax (mD (A7 (List.getD x (Int.toNat p4) 0)))) (Ag (mD (A7 (List.getD x (Int.toNat p4) 0))))&&Zd (Ax (mD (A7 (List.getD x (Int.toNat p4) 0)))) (Ag (mD (A7 (List.getD x (Int.toNat p4) 0)))))&&(Tg (eD (A7 (List.getD x (Int.toNat p4) 0)) (Az (List.getD x (Int.toNat p4) 0)))&&Tg (eD (A7 (List.getD x (Int.toNat p4) 0)) (Az (List.getD x (Int.toNat p4) 0))))) then bif (((W4 p3 p3_1&&W4 (Ax (mD (wv (Ax (mD (A7 (List.getD x (Int.toNat p4) 0)))) (Ag (mD (A7 (List.getD x (Int.toNat p4) 0))))*wv (Ax (mD (A7 (List.getD x (Int.toNat p4) 0)))) (Ag (mD (A7 (List.getD x (Int.toNat p4) 0))))))) (Ag (mD (wv (Ax (mD (A7 (List.getD x (Int.toNat p4) 0)))) (Ag (mD (A7 (List.getD x (Int.toNat p4) 0))))*wv (Ax (mD (A7 (List.getD x (Int.toNat p4) 0)))) (Ag (mD (A7 (List.getD x (Int.toNat p4) 0))))))))&&Tg p3_2)&&Tg (eD (wv (Ax (mD (A7 (List.getD x (Int.toNat p4) 0)))) (Ag (mD (A7 (List.getD x (Int.toNat p4) 0))))*wv (Ax (mD (A7 (List.getD x (Int.toNat p4) 0)))) (Ag (mD (A7 (List.getD x (Int.toNat p4) 0))))) ((eD (A7 (List.getD x (Int.toNat p4) 0)) (Az (List.getD x (Int.toNat p4) 0)))+(eD (A7 (List.getD x (Int.toNat p4) 0)) (Az (List.getD x (Int.toNat p4) 0)))))) then Bk.Cm.L1 N M x (Ab (p4+1)) (Ax (Aae (wv p3 p3_1) p3_2 (wv (Ax (mD (wv (Ax (mD (A7 (List.getD x (Int.toNat p4) 0)))) (Ag (mD (A7 (List.getD x (Int.toNat p4) 0))))*wv (Ax (mD (A7 (List.getD x (Int.toNat p4) 0)))) (Ag (mD (A7 (List.getD x (Int.toNat p4) 0))))))) (Ag (mD (wv (Ax (mD (A7 (List.getD x (Int.toNat p4) 0)))) (Ag (mD (A7 (List.getD x (Int.toNat p4) 0))))*wv (Ax (mD (A7 (List.getD x (Int.toNat p4) 0)))) (Ag (mD (A7 (List.getD x (Int.toNat p4) 0)))))))) (eD (wv (Ax (mD (A7 (List.getD x (Int.toNat p4) 0)))) (Ag (mD (A7 (List.getD x (Int.toNat p4) 0))))*wv (Ax (mD (A7 (List.getD x (Int.toNat p4) 0)))) (Ag (mD (A7 (List.getD x (Int.toNat p4) 0))))) ((eD (A7 (List.getD x (Int.toNat p4) 0)) (Az (List.getD x (Int.toNat p4) 0)))+(eD (A7 (List.getD x (Int.toNat p4) 0)) (Az (List.getD x (Int.toNat p4) 0))))))) (Ag (Aae (wv p3 p3_1) p3_2 (wv (Ax (mD (wv (Ax (mD (A7 (List.getD x (Int.toNat p4) 0)))) (Ag (mD (A7 (List.getD x (Int.toNat p4) 0))))*wv (Ax (mD (A7 (List.getD x (Int.toNat p4) 0)))) (Ag (mD (A7 (List.getD x (Int.toNat p4) 0))))))) (Ag (mD (wv (Ax (mD (A7 (List.getD x (Int.toNat p4) 0)))) (Ag (mD (A7 (List.getD x (Int.toNat p4) 0))))*wv (Ax (mD (A7 (List.getD x (Int.toNat p4) 0)))) (Ag (mD (A7 (List.getD x (Int.toNat p4) 0)))))))) (eD (wv (Ax (mD (A7 (List.getD x (Int.toNat p4) 0)))) (Ag (mD (A7 (List.getD x (Int.toNat p4) 0))))*wv (Ax (mD (A7 (List.getD x (Int.toNat p4) 0)))) (Ag (mD (A7 (List.getD x (Int.toNat p4) 0))))) ((eD (A7 (List.getD x (Int.toNat p4) 0)) (Az (List.getD x (Int.toNat p4) 0)))+(eD (A7 (List.getD x (Int.toNat p4) 0)) (Az (List.getD x (Int.toNat p4) 0))))))) (Amv (wv p3 p3_1) p3_2 (wv (Ax (mD (wv (Ax (mD (A7 (List.getD x (Int.toNat p4) 0)))) (Ag (mD (A7 (List.getD x (Int.toNat p4) 0))))*wv (Ax (mD (A7 (List.getD x (Int.toNat p4) 0)))) (Ag (mD (A7 (List.getD x (Int.toNat p4) 0))))))) (Ag (mD (wv (Ax (mD (A7 (List.getD x (Int.toNat p4) 0)))) (Ag (mD (A7 (List.getD x (Int.toNat p4) 0))))*wv (Ax (mD (A7 (List.getD x (Int.toNat p4) 0)))) (Ag (mD (A7 (List.getD x (Int.toNat p4) 0)))))))) (eD (wv (Ax (mD (A7 (List.getD x (Int.toNat p4) 0)))) (Ag (mD (A7 (List.getD x (Int.toNat p4) 0))))*wv (Ax (mD (A7 (List.getD x (Int.toNat p4) 0)))) (Ag (mD (A7 (List.getD x (Int.toNat p4) 0))))) ((eD (A7 (List.getD x (Int.toNat p4) 0)) (Az (List.getD x (Int.toNat p4) 0)))+(eD (A7 (List.getD x (Int.toNat p4) 0)) (Az (List.getD x (Int.toNat p4) 0)))))) else none else none else none else none else some (.agg [.bool p3,.ints .arg .u32 p3_1,.int .i64 p3_2]) :=
  Eq.trans (by kernel_rfl)
  (Es (Es (Es (Da (De ((Zd (Ax (mD (A7 (List.getD x (Int.toNat p4) 0)))) (Ag (mD (A7 (List.getD x (Int.toNat p4) 0))))&&Zd (Ax (mD (A7 (List.getD x (Int.toNat p4) 0)))) (Ag (mD (A7 (List.getD x (Int.toNat p4) 0)))))&&(Tg (eD (A7 (List.getD x (Int.toNat p4) 0)) (Az (List.getD x (Int.toNat p4) 0)))&&Tg (eD (A7 (List.getD x (Int.toNat p4) 0)) (Az (List.getD x (Int.toNat p4) 0)))))) (Da (De (((W4 p3 p3_1&&W4 (Ax (mD (wv (Ax (mD (A7 (List.getD x (Int.toNat p4) 0)))) (Ag (mD (A7 (List.getD x (Int.toNat p4) 0))))*wv (Ax (mD (A7 (List.getD x (Int.toNat p4) 0)))) (Ag (mD (A7 (List.getD x (Int.toNat p4) 0))))))) (Ag (mD (wv (Ax (mD (A7 (List.getD x (Int.toNat p4) 0)))) (Ag (mD (A7 (List.getD x (Int.toNat p4) 0))))*wv (Ax (mD (A7 (List.getD x (Int.toNat p4) 0)))) (Ag (mD (A7 (List.getD x (Int.toNat p4) 0))))))))&&Tg p3_2)&&Tg (eD (wv (Ax (mD (A7 (List.getD x (Int.toNat p4) 0)))) (Ag (mD (A7 (List.getD x (Int.toNat p4) 0))))*wv (Ax (mD (A7 (List.getD x (Int.toNat p4) 0)))) (Ag (mD (A7 (List.getD x (Int.toNat p4) 0))))) ((eD (A7 (List.getD x (Int.toNat p4) 0)) (Az (List.getD x (Int.toNat p4) 0)))+(eD (A7 (List.getD x (Int.toNat p4) 0)) (Az (List.getD x (Int.toNat p4) 0))))))) rfl rfl) rfl) rfl) rfl) rfl)
theorem Bk.Cm.ev (N:Nat) (x:List Int):Bw Bk.Cm.E N Tryz.f55 (Am Tryz.f55) [.ints .arg .u64 x] =
  Bk.Cm.L0 N N x:=by kernel_rfl
abbrev _root_.Go.Proofs.S1.Bk.Cm.Kn:=A6 Tryz.prog 55 Bk.Cm.spec
theorem Bk.Cm.Ad (hk:A0 Tryz.prog Bk.Cm.Bb) (h:∀ (x:List Int),Bk.Cm.pre [.l x]=true→Be Bk.Cm.E Tryz.f55 [.ints .arg .u64 x] (Bk.Cm.out [.l x])):Bk.Cm.Kn :=
  Ak (A1 hk _ _ _) Tryz.func55 (by kernel_rfl) (by kernel_rfl) h
end EqLaw21
open EqLaw21
theorem Al5 {v e:Int} {t:Nat} (h:v.natAbs<2^t) (h0:0<t) (he:-3000≤e∧e≤3000) (ht:t≤300):Tg (eD v e)=true:=by
  refine Aq.2 ?_
  unfold eD
  by_cases k:v=0
  · rw [if_pos k]; omega
  · rw [if_neg k]
    have:=Rd (m:=v.natAbs) (t:=t) h (by omega)
    omega
theorem Aa1 (b:Nat):(mD (A7 (b:Int))*mD (A7 (b:Int))).natAbs<2^106:=by
  have hm:=Eo b
  have ha:=Rc b
  have h1:(mD (A7 (b:Int))).natAbs<2^53:=by
    have:=K9 (A7 (b:Int))
    omega
  rw [Int.natAbs_mul]
  exact Nat.lt_of_lt_of_le (Nat.mul_lt_mul'' h1 h1) (by decide)
theorem Bk.Cm.known:Bk.Cm.Kn:=Bk.Cm.Ad (.cons Ay.Add.known (.cons Ay.Mul.known (.cons A5.Value.known .nil))) fun x hp=>by
  obtain ⟨h1,h2⟩:=Ae.1 (show (Cx x&&Cu (List.length x=1))=true from hp)
  obtain ⟨b,rfl⟩:=List.length_eq_one_iff.1 (Aq.1 h2)
  have hb:Ai b=true:=Aq.1 (P1 h1) b List.mem_cons_self
  obtain ⟨n,rfl,hn⟩:=Bu hb
  obtain ⟨v1,v2,v3⟩:=Ac9 n
  have pe:=Dc n
  have hv:=Rc n
  have hm:=Eo n
  have hl:C1 (mD (A7 (n:Int))).natAbs<3:=Nat.lt_of_le_of_lt (Hj (K9 _)) v1
  have oM:Zd (Ax (mD (A7 (n:Int)))) (Ag (mD (A7 (n:Int))))=true:=Arf (by omega)
  have oE:Tg (eD (A7 (n:Int)) (Az (n:Int)))=true:=Aq.2 ⟨v2,v3⟩
  have hs:=Aa1 n
  have hl2:C1 (mD (mD (A7 (n:Int))*mD (A7 (n:Int)))).natAbs<5:=Nat.lt_of_le_of_lt (Hj (K9 _)) (U6 (k:=4) (Nat.lt_of_lt_of_le hs (by decide)) (by omega))
  have oV:W4 (Ax (mD (mD (A7 (n:Int))*mD (A7 (n:Int))))) (Ag (mD (mD (A7 (n:Int))*mD (A7 (n:Int)))))=true:=Ad5 (by omega)
  have ee:-1074≤eD (A7 (n:Int)) (Az (n:Int))∨eD (A7 (n:Int)) (Az (n:Int))=0:=by
    by_cases k:A7 (n:Int)=0
    · right; unfold eD; rw [if_pos k]
    · left; exact Aul pe.1 k
  have e2:eD (A7 (n:Int)) (Az (n:Int))≤1025:=by
    unfold eD
    by_cases k:A7 (n:Int)=0
    · rw [if_pos k]; omega
    · rw [if_neg k]
      have:=Rd (m:=(A7 (n:Int)).natAbs) (t:=53) (by rw [hv]; exact hm) (by omega)
      have:Az (n:Int)≤972:=pe.2
      omega
  have oE2:Tg (eD (mD (A7 (n:Int))*mD (A7 (n:Int))) (eD (A7 (n:Int)) (Az (n:Int))+eD (A7 (n:Int)) (Az (n:Int))))=true:=Al5 hs (by decide) (by omega) (by decide)
  have z:wv false []=0:=by decide
  refine ⟨2,Bk.Cm.out [.l [(n:Int)]],[],?_,Wk.H0 (.cons .bool (.cons .Ae9 (.cons .int .nil)))⟩
  rw [Bk.Cm.ev,Bk.Cm.Au,At]
  simp only [Fz,List.getD_cons_zero,List.length_singleton]
  rw [Auu (show (0:Int)<((1:Nat):Int) by decide),Aut,Aut,hb,Aut,oM,oE,Auz,Auz,Aut,oV,oE2,show W4 false []=true from Ad5 (v:=0) (by decide),show Tg 0=true from Aq.2 (by decide),Auz,Auz,Auz,Aut,Bk.Cm.Cf,At,Auy (by simp),Aux]
  rfl
end Go.Proofs.S1
namespace Go.Rnd
open Go.Den
theorem Zh (n:Bool):Ao (B0 n 0)=0∧Ar (B0 n 0)=0∧Aw (B0 n 0)=-1074:=by
  cases n<;>decide +kernel
theorem Q7 {s:Nat} (hs:s<2^64) (k3:Ao s≠3) (k4:Ao s≠4) (hn:s≠2^63) (n:Bool):(H9 s (B0 n 0)).1=s:=by
  obtain ⟨z1,z2,z3⟩:=Zh n
  have he:=Dc s
  have em:min (Aw s) (Aw (B0 n 0))=-1074:=by rw [z3]; omega
  rw [W2 (by omega) k3 (by omega),em]
  have vz:F5 (B0 n 0) (-1074)=0:=by
    unfold F5
    rw [z2,Nat.zero_mul]
    cases Cs (B0 n 0)<;>rfl
  rw [vz,Int.add_zero]
  have hw:=Pl k4
  by_cases h0:Ar s=0
  · have vs:F5 s (-1074)=0:=by
      unfold F5
      rw [h0,Nat.zero_mul]
      cases Cs s<;>rfl
    rw [h0,Pk] at hw
    have s0:s=0:=by omega
    unfold Kb
    rw [vs,if_pos rfl,s0]
    cases n<;>rfl
  · obtain ⟨d,hd⟩:∃ d:Nat,Aw s=-1074+(d:Int):=⟨(Aw s+1074).toNat,by omega⟩
    have e1:(Aw s - -1074).toNat=d:=by omega
    unfold F5
    rw [e1,Nf _ _ (Jj h0)]
    have:=(Df (Ar s) d (Aw s)).1
    have e2:Aw s-(d:Int)=-1074:=by omega
    rw [e2] at this
    rw [this]
    exact Wp hs k4
theorem V4 {b:Nat} (k3:Ao b≠3) (k4:Ao b≠4):(Kg 0 b).1=B0 (Cs b) 0:=by
  have z:Ao 0=0∧Ar 0=0∧Cs 0=false:=by decide
  unfold Kg
  rw [if_neg (by omega),if_neg (by omega),z.2.1,Nat.zero_mul,Pk,z.2.2]
  cases Cs b<;>rfl
structure Good (x:Int):Prop where
  word:Ai x=true
  k3:Ao x.toNat≠3
  k4:Ao x.toNat≠4
  ne:x.toNat≠2^63
theorem Pf {x:Int} (h:Ai x=true):x.toNat<2^64:=by
  have:=Aq.1 h
  omega
theorem Yc:Good 0:=⟨Aq.2 (by omega),by decide,by decide,by decide⟩
end Go.Rnd
namespace Go.Rnd
open Go.Den
theorem Tn (n:Nat):Hk n=!(decide (Ao n=3)||decide (Ao n=4)):=by
  have:=Iu n
  unfold Hk Ao
  by_cases h:Em n=2047
  · by_cases h2:Dt n=0<;>simp [h,h2]
  · have h3:Em n<2047:=by omega
    by_cases h4:0<Em n
    · simp [h,h3,h4]
    · by_cases h5:0<Dt n<;>simp [h,h3,h4,h5]
theorem Afs (s:Bool) (m:Nat):(Ie s m).natAbs=m:=by unfold Ie; split<;>omega
theorem Agt {b:Nat} (h:b<2^64) (g:Int):F5 (G9 b) g=-(F5 b g)∧Aw (G9 b)=Aw b∧Hk (G9 b)=Hk b:=by
  obtain ⟨h1,h2,h3⟩:=Abn h
  have hm:Ar (G9 b)=Ar b:=by unfold Ar; rw [h2,h3]
  have he:Aw (G9 b)=Aw b:=by unfold Aw; rw [h2]
  refine ⟨?_,he,by unfold Hk; rw [h2]⟩
  unfold F5
  rw [h1,hm,he]
  unfold Ie
  cases Cs b
  · rfl
  · show ((_:Nat):Int)=- -((_:Nat):Int)
    omega
end Go.Rnd
namespace Go.Rnd
open Go.Den
def pw (k:Nat):Nat:=(k+1023)*2^52
theorem Vv {k:Nat} (h:k≤1023):Ar (pw k)=2^52∧Aw (pw k)=(k:Int)-52∧Ao (pw k)=2∧pw k%2^63=pw k∧pw k<Gp:=by
  have hp:Em (pw k)=k+1023:=by unfold Em pw; omega
  have hf:Dt (pw k)=0:=by unfold Dt pw; omega
  refine ⟨?_,?_,?_,?_,?_⟩
  · unfold Ar; rw [hp,hf,if_neg (by omega)]
  · unfold Aw; rw [hp,if_neg (by omega)]; omega
  · unfold Ao; rw [hp,if_neg (by omega),if_pos (by omega)]
  · unfold pw; omega
  · rw [Ju]; unfold pw; omega
def Qw (a:Nat):Nat:=J1 a (-1074)
theorem Afw {k:Nat} (h:k≤1023):Qw (pw k)=2^(k+1074):=by
  obtain ⟨h1,h2,_⟩:=Vv h
  unfold Qw J1
  rw [h1,h2,← Nat.pow_add]
  congr 1; omega
theorem Afv {k:Nat} (h:k≤1023):B7 (2^(k+1074)) (-1074)=pw k:=by
  obtain ⟨h1,h2,h3,h4,_⟩:=Vv h
  have:=Ow (b:=pw k) (f:=-1074) (by omega) (by omega)
  rw [h4] at this
  rw [← this,← Afw h]; rfl
def Bd (k:Nat) (a:Nat):Prop:=Ao a≠3∧Ao a≠4∧Qw a≤2^(k+1074)
theorem Bd.mono {j k a:Nat} (h:Bd j a) (hk:j≤k):Bd k a:=⟨h.1,h.2.1,Nat.le_trans h.2.2 (Au8 (by decide) (by omega))⟩
theorem Bd.Af2 {k a:Nat} (hk:k≤1023) (h4:Ao a≠4) (h:a%2^63≤pw k):Bd k a:=by
  obtain ⟨p1,p2,p3,p4,p5⟩:=Vv hk
  have h3:Ao a≠3:=fun e=>by have:=Aow e; omega
  refine ⟨h3,h4,?_⟩
  have ha:=Dc a
  rcases Nat.lt_or_ge (Qw (pw k)) (Qw a) with g | g
  · have:=(Arl (f:=-1074) (by omega) h4 (by omega) ha.1).1 g
    omega
  · rw [Afw hk] at g; exact g
theorem X9 (s:Bool) (V:Nat) (E:Int):Ao (B0 s (B7 V E))≠4:=by
  have h:=Y9 V E
  rw [Ju] at h
  have hp:=Ta s (r:=B7 V E) (by omega)
  have hf:=Qx s (B7 V E)
  unfold Ao
  rw [hp,hf]
  split
  · split
    · omega
    · omega
  · split
    · omega
    · split<;>omega
theorem Bd.B7 {k:Nat} (s:Bool) {V:Nat} {E:Int} (hk:k≤1023) (h:B7 V E≤pw k):Bd k (B0 s (B7 V E)):=by
  refine .Af2 hk (X9 s V E) ?_
  have:=Po V E
  have e:B0 s (Go.Rnd.B7 V E)%2^63=Go.Rnd.B7 V E:=by unfold B0; split<;>omega
  rw [e]; exact h
theorem Bd.zero (s:Bool) (k:Nat):Bd k (B0 s 0):=by
  have:Ao (B0 s 0)=0∧Qw (B0 s 0)=0:=by cases s<;>decide +kernel
  exact ⟨by omega,by omega,by rw [this.2]; exact Nat.zero_le _⟩
theorem R7 (a:Nat):(F5 a (-1074)).natAbs=Qw a:=by
  unfold F5 Qw J1
  rw [Afs]
theorem Bd.add {k a b:Nat} (hk:k+1≤1023) (ha:Bd k a) (hb:Bd k b):Bd (k+1) (H9 a b).1:=by
  obtain ⟨a3,a4,am⟩:=ha
  obtain ⟨b3,b4,bm⟩:=hb
  have pa:=Dc a
  have pb:=Dc b
  have ek:=Aps a3 a4 b3 b4 (g:=-1074) (by omega)
  have e4:Ao (H9 a b).1≠4:=by
    rw [W2 (by omega) a3 b3]
    unfold Kb
    split
    · have:Ao (B0 (Cs a&&Cs b) 0)=0:=by cases (Cs a&&Cs b)<;>decide
      show Ao (B0 (Cs a&&Cs b) 0)≠4
      omega
    · exact X9 _ _ _
  refine .Af2 hk e4 ?_
  have hs:(F5 a (-1074)+F5 b (-1074)).natAbs≤2^(k+1+1074):=by
    have h1:=R7 a
    have h2:=R7 b
    have:2^(k+1+1074)=2^(k+1074)+2^(k+1074):=by rw [show k+1+1074=k+1074+1 by omega,Nat.pow_succ]; omega
    omega
  have hr:=Pn (E:=-1074) hs
  rw [Afv hk] at hr
  have hn:(Ob (H9 a b).1).natAbs=(H9 a b).1%2^63:=by unfold Ob; rw [Afs]
  rw [← hn,ek]
  unfold Adw
  split<;>omega
theorem Bd.mul {j k a b:Nat} (hk:j+k≤1023) (ha:Bd j a) (hb:Bd k b):Bd (j+k) (Kg a b).1:=by
  obtain ⟨a3,a4,am⟩:=ha
  obtain ⟨b3,b4,bm⟩:=hb
  have pa:=Dc a
  have pb:=Dc b
  unfold Kg
  rw [if_neg (by omega),if_neg (by omega)]
  refine .B7 _ hk ?_
  obtain ⟨u,hu⟩:∃ u:Nat,Aw a=(u:Int)-1074:=⟨(Aw a+1074).toNat,by omega⟩
  obtain ⟨v,hv⟩:∃ v:Nat,Aw b=(v:Int)-1074:=⟨(Aw b+1074).toNat,by omega⟩
  have ea:Qw a=Ar a*2^u:=by unfold Qw J1; congr 2; omega
  have eb:Qw b=Ar b*2^v:=by unfold Qw J1; congr 2; omega
  have s1:=(Df (Ar a*Ar b) (u+v) (Aw a+Aw b)).1
  obtain ⟨t,ht⟩:∃ t:Nat,t=1074:=⟨1074,rfl⟩
  rw [← s1,← Afv hk,← (Df (2^(j+k+1074)) t (-1074)).1]
  rw [← ht] at am bm ⊢
  have ee:Aw a+Aw b-((u+v:Nat):Int)=-1074-(t:Int):=by omega
  rw [ee]
  refine Pn ?_
  have:Ar a*Ar b*2^(u+v)=Qw a*Qw b:=by
    rw [ea,eb,Nat.pow_add,Nat.mul_mul_mul_comm]
  rw [this,← Nat.pow_add,show j+k+t+t=(j+t)+(k+t) by omega,Nat.pow_add]
  exact Nat.mul_le_mul am bm
theorem Akt {k b:Nat} (hb:b<2^64) (h:Bd k b):Bd k (G9 b):=by
  obtain ⟨h3,h4,hm⟩:=h
  obtain ⟨v1,v2,v3⟩:=Agt hb (-1074)
  have hf:Hk b=true:=by rw [Tn]; simp [h3,h4]
  have k':=Hb (v3.trans hf)
  refine ⟨k'.2,k'.1,?_⟩
  rw [← R7,v1,Int.natAbs_neg,R7]; exact hm
theorem Bd.sub {k a b:Nat} (hk:k+1≤1023) (hb64:b<2^64) (ha:Bd k a) (hb:Bd k b):Bd (k+1) (Ajp a b).1:=Bd.add hk ha (Akt hb64 hb)
theorem Bd.fin {k a:Nat} (h:Bd k a):Hk a=true:=by rw [Tn]; simp [h.1,h.2.1]
theorem Bd.any {a:Nat} (h:Hk a=true):Ao a≠3∧Ao a≠4:=⟨(Hb h).2,(Hb h).1⟩
theorem Bd.Arh {k a:Nat} (hf:Hk a=true) (h:Ar a≠0→((Ar a).log2:Int)+Aw a<(k:Int)):Bd k a:=by
  refine ⟨(Hb hf).2,(Hb hf).1,?_⟩
  have pa:=Dc a
  unfold Qw J1
  by_cases h0:Ar a=0
  · rw [h0,Nat.zero_mul]; exact Nat.zero_le _
  · have hl:=h h0
    have h1:=Nat.lt_log2_self (n:=Ar a)
    have h2:Ar a*2^(Aw a - -1074).toNat≤2^((Ar a).log2+1)*2^(Aw a - -1074).toNat:=Au5 _ (by omega)
    rw [← Nat.pow_add] at h2
    exact Nat.le_trans h2 (Au8 (by decide) (by omega))
end Go.Rnd
namespace Go.Rnd
open Go.Den
structure Fw (x:Int):Prop where
  word:Ai x=true
  fin:Cy x=true
theorem Fw.k {x:Int} (h:Fw x):Ao x.toNat≠3∧Ao x.toNat≠4:=⟨(Hb h.fin).2,(Hb h.fin).1⟩
theorem Fw.Aln {x:Int} (h:Fw x) (hn:x≠9223372036854775808):Good x:=⟨h.word,h.k.1,h.k.2,fun e=>hn (by have:=Aq.1 h.word; omega)⟩
theorem Good.fn {x:Int} (h:Good x):Fw x:=⟨h.word,by
  show Hk x.toNat=true
  rw [Tn]; simp [h.k3,h.k4]⟩
def Zr (x:Int):Prop:=x=0∨x=9223372036854775808
def Vd (x y:Int):Prop:=x=y∨(Zr x∧Zr y)
def Mf (x:Int):Int:=if x=9223372036854775808 then 0 else x
theorem Abg (x:Int):Vd (Mf x) x:=by
  unfold Mf
  split
  · rename_i h; exact .inr ⟨.inl rfl,.inr h⟩
  · exact .inl rfl
theorem Vd.refl (x:Int):Vd x x:=.inl rfl
theorem Vd.trans {x y z:Int} (h:Vd x y) (g:Vd y z):Vd x z:=by
  rcases h with rfl | ⟨h1,h2⟩
  · exact g
  · rcases g with rfl | ⟨g1,g2⟩
    · exact .inr ⟨h1,h2⟩
    · exact .inr ⟨h1,g2⟩
theorem Asd {x:Int} (h:Zr x):Fw x:=by
  rcases h with rfl | rfl
  · exact ⟨Aq.2 (by decide),by decide⟩
  · exact ⟨Aq.2 (by decide),by decide⟩
theorem Vd.fn {x y:Int} (h:Vd x y) (g:Fw y):Fw x:=by
  rcases h with rfl | ⟨h1,h2⟩
  · exact g
  · exact Asd h1
theorem Tb {x:Int} (h:Fw x):Good (Mf x):=by
  unfold Mf
  split
  · exact Yc
  · rename_i g; exact h.Aln g
theorem Aly {n i:Nat} (hi:i<n) {g:Nat→Int} (hg:∀ j,j<n→Fw (g j)):∀ (k j:Nat) (s:Int),j+k=n→(j≤i→s=0)→(i<j→s=Mf (g i)) →
    Oc s.toNat (((List.range n).map fun b:Nat=>Ca (i:Int) (b:Int)).drop j) (((List.range n).map g).drop j)=(Mf (g i)).toNat:=by
  intro k
  induction k with
  | zero =>
    intro j s hj h1 h2
    have l1:((List.range n).map fun b:Nat=>Ca (i:Int) (b:Int)).length=n:=by rw [List.length_map,List.length_range]
    rw [Au7 (by omega),h2 (by omega)]
    rfl
  | succ k ih =>
    intro j s hj h1 h2
    have l1:j<((List.range n).map fun b:Nat=>Ca (i:Int) (b:Int)).length:=by rw [List.length_map,List.length_range]; omega
    have l2:j<((List.range n).map g).length:=by rw [List.length_map,List.length_range]; omega
    have gj:=hg j (by omega)
    have sg:Good s:=by
      rcases Nat.lt_or_ge i j with h | h
      · rw [h2 h]; exact Tb (hg i hi)
      · rw [h1 h]; exact Yc
    rw [List.drop_eq_getElem_cons l1,List.drop_eq_getElem_cons l2,List.getElem_map,List.getElem_map,List.getElem_range]
    show Oc (H9 s.toNat (Kg (Ca (i:Int) (j:Int)).toNat (g j).toNat).1).1 _ _=_
    by_cases hij:i=j
    · subst hij
      have e1:Ca (i:Int) (i:Int)=4607182418800017408:=if_pos rfl
      have s0:=h1 (Nat.le_refl i)
      have w:=Pf gj.word
      have em:(Kg (4607182418800017408:Int).toNat (g i).toNat).1=(g i).toNat:=by
        rw [X2]
        exact congrArg Prod.fst (mul_one w gj.k.1 gj.k.2)
      have ea:(H9 s.toNat (g i).toNat).1=(Mf (g i)).toNat:=by
        rw [s0,Yt]
        by_cases hz:g i=9223372036854775808
        · unfold Mf; rw [if_pos hz,hz]; decide +kernel
        · unfold Mf; rw [if_neg hz]
          exact Q7 w gj.k.1 gj.k.2 (gj.Aln hz).ne false
      rw [e1,em,ea]
      exact ih (i+1) (Mf (g i)) (by omega) (fun h=>by omega) (fun _=>rfl)
    · have e1:Ca (i:Int) (j:Int)=0:=if_neg (by omega)
      have ea:(H9 s.toNat (Kg (0:Int).toNat (g j).toNat).1).1=s.toNat:=by
        show (H9 s.toNat (Kg 0 (g j).toNat).1).1=_
        rw [V4 gj.k.1 gj.k.2]
        exact Q7 (Pf sg.word) sg.k3 sg.k4 sg.ne _
      rw [e1,ea]
      exact ih (j+1) s (by omega) (fun h=>h1 (by omega)) (fun h=>h2 (by omega))
theorem Acq {n i:Nat} (hi:i<n) {g:Nat→Int} (hg:∀ j,j<n→Fw (g j)):Lw ((List.range n).map fun b:Nat=>Ca (i:Int) (b:Int)) ((List.range n).map g)=Mf (g i):=by
  have h:=Aly hi hg n 0 0 (by omega) (fun _=>rfl) (fun h=>by omega)
  rw [List.drop_zero,List.drop_zero] at h
  have w:=Aq.1 (Tb (hg i hi)).word
  show ((Oc 0 _ _:Nat):Int)=Mf (g i)
  have h:Oc 0 ((List.range n).map fun b:Nat=>Ca (i:Int) (b:Int)) ((List.range n).map g)=(Mf (g i)).toNat:=h
  rw [h]
  omega
theorem Aqh {x:Int} (h:Fw x):Zr (Ek 0 x):=by
  unfold Ek
  rw [show (0:Int).toNat=0 from rfl,V4 h.k.1 h.k.2]
  cases Cs x.toNat
  · exact .inl (by decide)
  · exact .inr (by decide)
theorem Aqg {z:Int} (hz:Zr z) {x:Int} (h:Fw x):Vd (Dr x z) x:=by
  unfold Dr Ajp
  by_cases hx:x=9223372036854775808
  · rcases hz with rfl | rfl
    · rw [hx]; exact .inr ⟨by unfold Zr; decide +kernel,.inr rfl⟩
    · rw [hx]; exact .inr ⟨by unfold Zr; decide +kernel,.inr rfl⟩
  · have g:=h.Aln hx
    have w:=Aq.1 h.word
    have e:∀ n:Bool,((H9 x.toNat (B0 n 0)).1:Int)=x:=fun n=>by
      rw [Q7 (Pf h.word) g.k3 g.k4 g.ne n]; omega
    rcases hz with rfl | rfl
    · exact .inl (e true)
    · exact .inl (e false)
theorem Amc {x:Int} (h:Fw x):Ev x 4607182418800017408=x:=by
  have w:=Aq.1 h.word
  have hk:=h.k
  unfold Ev
  by_cases k0:Ao x.toNat=0
  · have hz:x.toNat%2^63=0:=by
      rw [← Aku x.toNat (Aw x.toNat)]
      unfold J1
      have:Ar x.toNat=0:=by unfold Ao at k0; unfold Ar; split at k0<;>(try split at k0)<;>(try split at k0)<;>simp_all<;>omega
      rw [this,Nat.zero_mul]
    have hx:x.toNat=0∨x.toNat=2^63:=by have:=Pf h.word; omega
    rcases hx with e | e
    · rw [e]; have:x=0:=by omega
      rw [this]; decide +kernel
    · rw [e]; have:x=9223372036854775808:=by omega
      rw [this]; decide +kernel
  · have:=div_one (Pf h.word) k0 hk.1 hk.2
    rw [show (4607182418800017408:Int).toNat=4607182418800017408 from rfl,this]
    show ((x.toNat:Nat):Int)=x
    omega
end Go.Rnd
namespace Go.Proofs.S1
open Go Go.Den Go.Rnd Go.Proofs
theorem Aba {R C:Nat} {l:List Int} (hl:l.length=R*C) {I:Nat} (hI:I<R):It (C:Int) l (I:Int)=(List.range C).map fun k:Nat=>D4 (C:Int) l (I:Int) (k:Int):=by
  have hlen:=Qm hl hI
  have e1:((I:Int)*(C:Int)).toNat=I*C:=by rw [← Ave,Auv]
  have e2:(((I:Int)+1)*(C:Int)).toNat=(I+1)*C:=by
    have:((I:Int)+1)*(C:Int)=(((I+1)*C:Nat):Int):=by rw [Ave]; rfl
    rw [this,Auv]
  refine Sa (by rw [hlen,List.length_map,List.length_range]) fun j hj=>?_
  rw [hlen] at hj
  have hp:=Hg hI hj
  have h1:(I+1)*C=I*C+C:=by rw [Nat.add_mul,Nat.one_mul]
  rw [List.getElem?_map,List.getElem?_range hj]
  unfold It
  rw [List.getElem?_drop,e1,e2,List.getElem?_take,if_pos (by omega)]
  show l[I*C+j]?=some (D4 (C:Int) l (I:Int) (j:Int))
  rw [K3,Au3,Ava (by omega)]
  rfl
theorem Acd {r c:Nat} {f:Nat→Nat→Int} (g:Int→Int):(Bf r c f).map g=Bf r c fun i k=>g (f i k):=by
  unfold Bf
  rw [List.map_map]
  rfl
def Tq (n:Nat):MX:=((n:Int),(n:Int),D5 n,0)
theorem Alx (i k:Int):Ai (Ca i k)=true:=by
  unfold Ca
  split
  · exact B5 (n:=4607182418800017408) (by decide)
  · exact B5 (n:=0) (by decide)
theorem Sj {n:Nat} (h:n≤6):H5 n n (Tq n):=⟨_,rfl,h,h,Bn _ _ _,F4 fun _ _=>Alx _ _⟩
def Ru (x:MX):MX:=(x.1,x.2.1,x.2.2.1.map Mf,0)
theorem Alp {l:List Int} (al:Ah l=true) (fl:Dz l=true) {j:Nat} (hj:j<l.length):Fw (l.getD j 0) :=
  ⟨N2 al hj,by
    unfold Dz at fl
    rw [List.all_eq_true] at fl
    rw [Au3,Ava hj]
    exact fl _ (List.getElem_mem hj)⟩
theorem Alq {R C i k:Nat} {x:MX} (h:H5 R C x) (f:FM x) (hi:i<R) (hk:k<C):Fw (D4 (C:Int) x.2.2.1 (i:Int) (k:Int)):=by
  obtain ⟨l,rfl,r6,c6,hl,al⟩:=h
  rw [K3]
  exact Alp al f (by have:=Hg hi hk; omega)
theorem Zm {n K:Nat} {y:MX} (h:H5 n K y) (f:FM y):mulM (Tq n) y=Ru y:=by
  have hr:=h.right
  have he:=(Sj h.r6).right
  have hfn:=fun (i k:Nat) (hi:i<n) (hk:k<K)=>Alq h f hi hk
  obtain ⟨l,rfl,r6,c6,hl,al⟩:=h
  unfold mulM En
  rw [he,hr,Auz,if_pos rfl]
  unfold Ru Tq
  rw [if_pos rfl]
  dsimp only
  rw [Auv,Auv]
  have e:(Bf n K fun (i k:Nat)=>Lw (It (n:Int) (D5 n) (i:Int)) (Mk (n:Int) (K:Int) l (k:Int)))=l.map Mf:=by
    conv=>rhs; rw [← La hl,Acd]
    refine C2 fun i k hi hk=>?_
    rw [Aba (show (D5 n).length=n*n from Bn _ _ _) hi]
    unfold Mk
    rw [Auv]
    have e1:((List.range n).map fun b:Nat=>D4 (n:Int) (D5 n) (i:Int) (b:Int))=(List.range n).map fun b:Nat=>Ca (i:Int) (b:Int) :=
      List.map_congr_left fun b hb=>Py hi (List.mem_range.1 hb)
    rw [e1]
    exact Acq hi fun j hj=>hfn j k hj hk
  rw [e]
theorem W7 {R n:Nat} {x:MX} (h:H5 R n x) (f:FM x):mulM x (Tq n)=Ru x:=by
  have hr:=h.right
  have he:=(Sj h.c6).right
  have hfn:=fun (i k:Nat) (hi:i<R) (hk:k<n)=>Alq h f hi hk
  obtain ⟨l,rfl,r6,c6,hl,al⟩:=h
  unfold mulM En
  rw [he,hr,Auz,if_pos rfl]
  unfold Ru Tq
  rw [if_pos rfl]
  dsimp only
  rw [Auv,Auv]
  have e:(Bf R n fun (i k:Nat)=>Lw (It (n:Int) l (i:Int)) (Mk (n:Int) (n:Int) (D5 n) (k:Int)))=l.map Mf:=by
    conv=>rhs; rw [← La hl,Acd]
    refine C2 fun i k hi hk=>?_
    rw [Aba hl hi,Ain]
    unfold Mk
    rw [Auv]
    have e1:((List.range n).map fun j:Nat=>D4 (n:Int) (D5 n) (j:Int) (k:Int))=(List.range n).map fun b:Nat=>Ca (k:Int) (b:Int):=by
      refine List.map_congr_left fun b hb=>?_
      rw [show D4 (n:Int) (D5 n) (b:Int) (k:Int)=Ca (b:Int) (k:Int) from Py (List.mem_range.1 hb) hk]
      unfold Ca
      by_cases hbk:(b:Int)=(k:Int)
      · rw [if_pos hbk,if_pos hbk.symm]
      · rw [if_neg hbk,if_neg (fun h=>hbk h.symm)]
    rw [e1]
    exact Acq hk fun j hj=>hfn i j hi hj
  rw [e]
theorem Afx {R C:Nat} {x:MX} (h:H5 R C x) (f:FM x):H5 R C (Ru x)∧FM (Ru x):=by
  obtain ⟨l,rfl,r6,c6,hl,al⟩:=h
  have hg:∀ y∈l.map Mf,Good y:=fun y hy=>by
    obtain ⟨z,hz,rfl⟩:=List.mem_map.1 hy
    obtain ⟨j,hj,rfl⟩:=List.mem_iff_getElem.1 hz
    have:=Alp al f hj
    rw [Au3,Ava hj] at this
    exact Tb this
  refine ⟨⟨_,rfl,r6,c6,by rw [List.length_map]; exact hl,Aq.2 fun y hy=>(hg y hy).word⟩,?_⟩
  show (l.map Mf).all Cy=true
  rw [List.all_eq_true]
  exact fun y hy=>(hg y hy).fn.fin
theorem Akb {R C:Nat} {x:MX} (h:H5 R C x):Gi x 0 0 (R:Int) (C:Int)=x:=by
  have hr:=h.right
  obtain ⟨l,rfl,r6,c6,hl,al⟩:=h
  unfold Gi Ey
  dsimp only
  rw [if_pos hr,if_pos (show Li (R:Int) (C:Int) 0 0 (R:Int) (C:Int)=true from Rx (i:=0) (k:=0) (by omega) (by omega)),Auv,Auv]
  have e:(Bf R C fun (i k:Nat)=>D4 (C:Int) l (0+(i:Int)) (0+(k:Int)))=l:=by
    conv=>rhs; rw [← La hl]
    refine C2 fun i k _ _=>?_
    rw [Int.zero_add,Int.zero_add]
  rw [e]
theorem Ahn {R C:Nat} {x:MX} (h:H5 R C x):Gi x 0 (C:Int) (R:Int) ((C:Int)-(C:Int))=((R:Int),0,[],0):=by
  have hr:=h.right
  obtain ⟨l,rfl,r6,c6,hl,al⟩:=h
  rw [Int.sub_self]
  unfold Gi Ey
  dsimp only
  rw [if_pos hr,if_pos (show Li (R:Int) (C:Int) 0 (C:Int) (R:Int) 0=true from Rx (i:=0) (k:=C) (a:=R) (b:=0) (by omega) (by omega)),Auv]
  have e:(Bf R (Int.toNat 0) fun (i k:Nat)=>D4 (C:Int) l (0+(i:Int)) ((C:Int)+(k:Int)))=[]:=List.eq_nil_of_length_eq_zero (by rw [Bn]; rfl)
  rw [e]
theorem X7 {n k:Nat} (hk:k<n):∀ (xs:List Int) (j:Nat) (s:Int),(∀ x∈xs,Fw x)→Fw s→j+xs.length≤k→Vd (Lk (n:Int) (D5 n) (k:Int) s (j:Int) xs) s
  | [],j,s,_,_,_=>.refl s
  | x::xs,j,s,hx,hs,hj=>by
    simp only [List.length_cons] at hj
    have e:D4 (n:Int) (D5 n) (k:Int) (j:Int)=0:=by
      rw [show D4 (n:Int) (D5 n) (k:Int) (j:Int)=Ca (k:Int) (j:Int) from Py hk (by omega)]
      exact if_neg (by omega)
    have h1:Vd (Dr s (Ek 0 x)) s:=Aqg (Aqh (hx x List.mem_cons_self)) hs
    have h2:=X7 hk xs (j+1) (Dr s (Ek 0 x)) (fun y hy=>hx y (List.mem_cons_of_mem _ hy)) (h1.fn hs) (by omega)
    show Vd (Lk (n:Int) (D5 n) (k:Int) (Dr s (Ek (D4 (n:Int) (D5 n) (k:Int) (j:Int)) x)) ((j:Int)+1) xs) s
    rw [e]
    exact Vd.trans h2 h1
theorem Ak4 {n:Nat} {b:Nat→Int} (hb:∀ i,i<n→Fw (b i)):∀ k,k≤n→∀ i,i<k→Vd ((U5 (n:Int) (D5 n) b k).getD i 0) (b i)
  | 0,_,i,hi=>by omega
  | k+1,hk,i,hi=>by
    have ih:=Ak4 hb k (by omega)
    have hl:=Ha (n:Int) (D5 n) b k
    show Vd ((U5 (n:Int) (D5 n) b k++[Ev (Lk (n:Int) (D5 n) (k:Int) (b k) 0 (U5 (n:Int) (D5 n) b k)) (D4 (n:Int) (D5 n) (k:Int) (k:Int))]).getD i 0) (b i)
    by_cases h:i<k
    · rw [Au3,List.getElem?_append_left (by omega),← Au3]
      exact ih i h
    · obtain rfl:i=k:=by omega
      rw [Au3,List.getElem?_append_right (by omega),hl,Nat.sub_self]
      have e:D4 (n:Int) (D5 n) (i:Int) (i:Int)=4607182418800017408:=by
        rw [show D4 (n:Int) (D5 n) (i:Int) (i:Int)=Ca (i:Int) (i:Int) from Py (by omega) (by omega)]
        exact if_pos rfl
      have hs:=X7 (n:=n) (k:=i) (by omega) (U5 (n:Int) (D5 n) b i) 0 (b i) (fun x hx=>by
        obtain ⟨j,hj,rfl⟩:=List.mem_iff_getElem.1 hx
        have:=ih j (by omega)
        rw [Au3,Ava hj] at this
        exact this.fn (hb j (by omega))) (hb i (by omega)) (by omega)
      show Vd (Ev _ _) (b i)
      rw [e]
      exact (congrArg (fun z=>Vd z (b i)) (Amc (hs.fn (hb i (by omega))))).mpr hs
theorem Agh:∀ n:Fin 7,Bt (n.val:Int) (n.val:Int) (D5 n.val)=0∧Af3 (n.val:Int) (D5 n.val) n.val=false:=by decide +kernel
theorem Arp {n K:Nat} {y:MX} (h:H5 n K y) (f:FM y):∃ Y,loM (Tq n) y=((n:Int),(K:Int),Y,0)∧Y.length=n*K∧Dz Y=true∧Ah Y=true∧∀ i k,i<n→k<K→Vd (Y.getD (i*K+k) 0) (D4 (K:Int) y.2.2.1 (i:Int) (k:Int)):=by
  have hfn:=fun (i k:Nat) (hi:i<n) (hk:k<K)=>Alq h f hi hk
  have hc:=h.chk f
  obtain ⟨e1,e2⟩:=Agh ⟨n,by have:=h.r6; omega⟩
  dsimp only at e1 e2
  obtain ⟨l,rfl,r6,c6,hl,al⟩:=h
  have hs:=fun (k:Nat) (hk:k<K)=>Ak4 (n:=n) (b:=fun i=>D4 (K:Int) l (i:Int) (k:Int)) (fun i hi=>hfn i k hi hk) n (Nat.le_refl n)
  have hg:∀ i k,i<n→k<K→(Xa (n:Int) (D5 n) (K:Int) l n K).getD (i*K+k) 0=(U5 (n:Int) (D5 n) (fun i=>D4 (K:Int) l (i:Int) (k:Int)) n).getD i 0:=fun i k hi hk=>Ace hi hk
  have hlen:(Xa (n:Int) (D5 n) (K:Int) l n K).length=n*K:=Bn _ _ _
  have hfin:Dz (Xa (n:Int) (D5 n) (K:Int) l n K)=true:=by
    unfold Dz
    rw [List.all_eq_true]
    intro x hx
    obtain ⟨j,hj,rfl⟩:=List.mem_iff_getElem.1 hx
    rw [hlen] at hj
    have hK:0<K:=Nat.pos_of_ne_zero fun h=>by rw [h,Nat.mul_zero] at hj; omega
    have hi:j / K<n:=Nat.div_lt_of_lt_mul (by rw [Nat.mul_comm]; exact hj)
    have hk:=Nat.mod_lt j hK
    have:=(hs (j%K) hk (j / K) hi).fn (hfn (j / K) (j%K) hi hk)
    rw [← hg (j / K) (j%K) hi hk,Nat.div_add_mod',Au3,Ava (by omega)] at this
    exact this.fin
  have ct:Nv (n:Int) (n:Int) (D5 n) (n:Int) (K:Int) l=0:=by
    unfold Nv
    rw [if_neg (fun h=>h e1),if_neg (fun h=>h hc),if_neg (by omega),Auv,e2,if_neg (by decide)]
  have e3:loM (Tq n) ((n:Int),(K:Int),l,0)=((n:Int),(K:Int),Xa (n:Int) (D5 n) (K:Int) l n K,0):=by
    unfold loM U3 Tq
    dsimp only
    rw [if_neg (fun h=>h ct),Auv,Auv]
    unfold Jo
    rw [if_pos hfin]
  refine ⟨_,e3,hlen,hfin,?_,fun i k hi hk=>by rw [hg i k hi hk]; exact hs k hk i hi⟩
  have:=Aeh (n:Int) (n:Int) (D5 n) (n:Int) (K:Int) l
  rw [show U3 (n:Int) (n:Int) (D5 n) (n:Int) (K:Int) l=((n:Int),(K:Int),Xa (n:Int) (D5 n) (K:Int) l n K,0) from e3] at this
  exact this
def BL (k:Nat) (l:List Int):Prop:=∀ x∈l,Bd k x.toNat
theorem Ase {x:Int} (h:Zr x) (k:Nat):Bd k x.toNat:=by
  rcases h with rfl | rfl
  · exact Bd.zero false k
  · exact Bd.zero true k
theorem Ajv {x y:Int} {k:Nat} (h:Vd x y) (g:Bd k y.toNat):Bd k x.toNat:=by
  rcases h with rfl | ⟨h1,_⟩
  · exact g
  · exact Ase h1 k
theorem BL.pos {k:Nat} {l:List Int} (h:BL k l):BL k (l.map Mf):=fun y hy=>by
  obtain ⟨x,hx,rfl⟩:=List.mem_map.1 hy
  exact Ajv (Abg x) (h x hx)
theorem Anq {k:Nat} {x:Int} (h:Aas (k:Int) x=true):Bd k x.toNat:=by
  unfold Aas at h
  rw [Au4,Bool.or_eq_true,Au4,Au0,Au0,Au0] at h
  obtain ⟨hf,h⟩:=h
  refine .Arh hf fun h0=>?_
  have kn:Ao x.toNat≠0:=fun e=>by
    unfold Ao at e
    unfold Ar at h0
    split at e
    · split at e<;>omega
    · split at e
      · omega
      · split at e
        · omega
        · rw [if_pos (by omega)] at h0; omega
  rcases h with h | ⟨_,h⟩
  · exact absurd (show Ao x.toNat=0 by unfold A3 at h; omega) kn
  · unfold Bs Aev at h
    rw [if_pos ⟨hf,kn⟩] at h
    exact h
theorem Sw {k:Nat} {l:List Int} (h:Ct l (k:Int)=true):BL k l∧Dz l=true:=by
  unfold Ct at h
  rw [List.all_eq_true] at h
  refine ⟨fun x hx=>Anq (h x hx),?_⟩
  unfold Dz
  rw [List.all_eq_true]
  exact fun x hx=>(Ae.1 (h x hx)).1
theorem Agj:∀ (x y:List Int) (s t:Nat),BL 30 x→BL 30 y→Bd (60+t) s→t+x.length≤900→Bd (60+(t+x.length)) (Oc s x y)
  | [],_,s,t,_,_,hs,_=>hs
  | a::x,[],s,t,_,_,hs,_=>hs.mono (by omega)
  | a::x,b::y,s,t,hx,hy,hs,ht=>by
    simp only [List.length_cons] at ht ⊢
    have h1:Bd (60+t+1) (H9 s (Kg a.toNat b.toNat).1).1:=Bd.add (by omega) hs ((Bd.mul (j:=30) (k:=30) (by omega) (hx a List.mem_cons_self) (hy b List.mem_cons_self)).mono (by omega))
    have:=Agj x y _ (t+1) (fun z hz=>hx z (List.mem_cons_of_mem _ hz)) (fun z hz=>hy z (List.mem_cons_of_mem _ hz)) h1 (by omega)
    rw [show t+(x.length+1)=t+1+x.length by omega]
    exact this
theorem Aml {k:Nat} {c i j:Int} {l:List Int} (h:BL k l):Bd k (D4 c l i j).toNat:=by
  unfold D4
  by_cases hj:(i*c+j).toNat<l.length
  · rw [Au3,Ava hj]; exact h _ (List.getElem_mem hj)
  · rw [Au3,List.getElem?_eq_none (by omega)]; exact Bd.zero false k
theorem Ark {R K C:Nat} {x y:MX} (h:H5 R K x) (g:H5 K C y) (bx:BL 30 x.2.2.1) (by_:BL 30 y.2.2.1):BL 66 (mulM x y).2.2.1:=by
  have hr:=h.right
  have hg:=g.right
  obtain ⟨l,rfl,r6,c6,hl,al⟩:=h
  obtain ⟨m,rfl,p6,q6,hm,am⟩:=g
  unfold mulM En
  rw [hr,hg,Auz,if_pos rfl,if_pos rfl]
  intro z hz
  obtain ⟨j,_,rfl⟩:=List.mem_map.1 hz
  dsimp only
  show Bd 66 (Int.toNat ((Oc 0 _ _:Nat):Int))
  rw [Auv]
  have b1:BL 30 (It (K:Int) l (((j / ((C:Int).toNat):Nat)):Int)):=fun x hx=>bx x (List.mem_of_mem_take (List.mem_of_mem_drop hx))
  have b2:BL 30 (Mk (K:Int) (C:Int) m (((j%((C:Int).toNat):Nat)):Int)):=fun x hx=>by
    obtain ⟨i,_,rfl⟩:=List.mem_map.1 hx
    exact Aml by_
  have hlen:(It (K:Int) l (((j / ((C:Int).toNat):Nat)):Int)).length≤6:=by
    unfold It
    rw [List.length_drop,List.length_take]
    have e1:((((j / ((C:Int).toNat):Nat)):Int)*(K:Int)).toNat=(j / ((C:Int).toNat))*K:=by rw [← Ave,Auv]
    have e2:(((((j / ((C:Int).toNat):Nat)):Int)+1)*(K:Int)).toNat=(j / ((C:Int).toNat))*K+K:=by
      have:((((j / ((C:Int).toNat):Nat)):Int)+1)*(K:Int)=(((j / ((C:Int).toNat))*K+K:Nat):Int):=by rw [Int.add_mul,Int.one_mul,Int.natCast_add,Ave]
      rw [this,Auv]
    rw [e1,e2]
    omega
  exact (Agj _ _ 0 0 b1 b2 (Bd.zero false 60) (by omega)).mono (by omega)
theorem Anr {R C:Nat} {x y:MX} (h:H5 R C x) (g:H5 R C y) (bx:BL 66 x.2.2.1) (by_:BL 66 y.2.2.1):FM (Adi x y):=by
  have hr:=h.right
  have hg:=g.right
  obtain ⟨l,rfl,r6,c6,hl,al⟩:=h
  obtain ⟨m,rfl,p6,q6,hm,am⟩:=g
  unfold Adi Ir
  rw [hr,hg,Auz,if_pos rfl,if_pos ⟨rfl,rfl⟩]
  refine .of (Ack fun i k=>?_)
  show Hk (Int.toNat ((Ajp _ _).1:Int))=true
  rw [Auv]
  exact (Bd.sub (k:=66) (by omega) (Pf (Hd am)) (Aml bx) (Aml by_)).fin
theorem Aet {R C:Nat} {x:MX} (h:H5 R C x) (f:FM x):Acl x=x:=by
  have hc:=h.chk f
  obtain ⟨l,rfl,r6,c6,hl,al⟩:=h
  unfold Acl Lv
  rw [if_neg (fun h=>h rfl),if_neg (fun h=>h hc)]
theorem Arv:∀ n:Fin 7,hQ (n.val:Int) (n.val:Int) (D5 n.val)=Tq n.val∧Pz (n.val:Int) (n.val:Int) (D5 n.val)=Tq n.val∧(J5 (n.val:Int) (n.val:Int) (D5 n.val)).1=false∧E1 (n.val:Int) (n.val:Int) (eqT (n.val:Int) (n.val:Int) (D5 n.val))=0:=by decide +kernel
theorem Aki:∀ r:Fin 7,Bt (r.val:Int) 0 []=0∧E1 (r.val:Int) 0 []=0∧Hv (r.val:Int) 0 []=((r.val:Int),0,[],0)∧Mo (r.val:Int) 0 []=(0,0,[],0)∧Ck (r.val:Int) 0 []=(0,(r.val:Int),[],0):=by decide +kernel
theorem Aih:(J5 0 0 []).1=false:=by decide
theorem Am7:upX 0 0 [] 0 1 []=(0,1,[],0):=by decide
theorem Akp {R:Nat} {f:MX} (hf:H5 R 1 f):En 0 (R:Int) [] f.1 f.2.1 f.2.2.1=(0,1,[],0):=by
  have hr:=hf.right
  have r6:=hf.r6
  obtain ⟨l,rfl,_,c6,hl,al⟩:=hf
  unfold En
  rw [show Av 0 (R:Int) []=true from Mr (r:=0) (c:=R) (by omega) r6 (by simp),hr,Auz,if_pos rfl,if_pos rfl]
  have e:(Bf (Int.toNat 0) (Int.toNat ((1:Nat):Int)) fun (i k:Nat)=>Lw (It (R:Int) [] (i:Int)) (Mk (R:Int) ((1:Nat):Int) l (k:Int)))=[]:=List.eq_nil_of_length_eq_zero (by rw [Bn]; rfl)
  rw [e]
  rfl
theorem Aem {R:Nat} {f:MX} (hf:H5 R 1 f) (ff:FM f):Tm ((R:Int),0,[],0) f=(0,1,[],0):=by
  obtain ⟨c1,c2,c3,c4,c5⟩:=Aki ⟨R,by have:=hf.r6; omega⟩
  dsimp only at c1 c2 c3 c4 c5
  have hc:Bt f.1 f.2.1 f.2.2.1=0:=hf.chk ff
  unfold Tm I1
  dsimp only
  rw [if_neg (fun h=>h c1),if_neg (fun h=>h hc),if_neg (by rw [hf.rows]; omega),if_neg (fun h=>h c2),c4]
  dsimp only
  rw [Aih,if_neg (by decide),c3]
  unfold Am9 Dl
  dsimp only
  rw [c5]
  simp only [ne_eq,not_true_eq_false,if_false,Akp hf]
  exact Am7
theorem Adl {n:Nat} {Y:List Int} (h:H5 n 1 ((n:Int),1,Y,0)):Sz ((n:Int),1,Y,0) (0,1,[],0)=((n:Int),1,Y,0):=by
  have hr:=h.right
  have n6:=h.r6
  obtain ⟨l,e,_,_,hl,_⟩:=h
  obtain rfl:Y=l:=congrArg (fun z:MX=>z.2.2.1) e
  unfold Sz B6
  dsimp only
  rw [hr,show Av 0 1 []=true from by decide,Auz,if_pos rfl,if_pos ⟨rfl,by omega⟩,Int.add_zero,Auv]
  have:=Adm (R:=n) (P:=0) (C:=1) (l:=Y) (m:=[]) hl rfl
  rw [List.append_nil,Nat.add_zero] at this
  rw [show (1:Int).toNat=1 from rfl]
  exact congrArg (fun z=>((n:Int),(1:Int),z,(0:Int))) this
theorem Ah2 {R n:Nat} {l m d:List Int} (hA:H5 R n ((R:Int),(n:Int),l,0)) (hC:H5 R 1 ((R:Int),1,m,0)) (hD:H5 n 1 ((n:Int),1,d,0)) (bA:BL 30 l) (bC:BL 30 m) (bD:BL 30 d) (fA:Dz l=true) (fC:Dz m=true) (fD:Dz d=true) :
    ∃ Y,Cd (R:Int) (n:Int) l (n:Int) (n:Int) (D5 n) (R:Int) 1 m (n:Int) 1 d=((n:Int),1,Y,0)∧H5 n 1 ((n:Int),1,Y,0)∧Dz Y=true∧∀ i,i<n→Vd (Y.getD i 0) (d.getD i 0):=by
  have n6:=hA.c6
  obtain ⟨q1,q2,q3,q4⟩:=Arv ⟨n,by omega⟩
  dsimp only at q1 q2 q3 q4
  have eM:=Sj n6
  have k1:Bt (R:Int) (n:Int) l=0:=hA.chk fA
  have k2:Bt (n:Int) (n:Int) (D5 n)=0:=(Agh ⟨n,by omega⟩).1
  have k3:Bt (R:Int) 1 m=0:=hC.chk fC
  have k4:Bt (n:Int) 1 d=0:=hD.chk fD
  have kt:Le (R:Int) (n:Int) l (n:Int) (n:Int) (D5 n) (R:Int) 1 m (n:Int) 1 d=0:=by
    unfold Le
    rw [if_neg (fun h=>h k1),if_neg (fun h=>h k2),if_neg (fun h=>h k3),if_neg (fun h=>h k4),if_neg (by omega)]
  obtain ⟨Y0,e0,hl0,f0,a0,s0⟩:=Arp hD fD
  have hy:hY (n:Int) (n:Int) (D5 n) (n:Int) 1 d=((n:Int),1,Y0,0):=by
    unfold hY
    rw [if_neg (fun h=>h q4),q2,show (J5 (Tq n).1 (Tq n).2.1 (Tq n).2.2.1).1=false from q3,if_neg (by decide)]
    exact e0
  have hY0:H5 n 1 ((n:Int),1,Y0,0):=⟨Y0,rfl,n6,by decide,hl0,a0⟩
  have sim0:∀ i,i<n→Vd (Y0.getD i 0) (d.getD i 0):=fun i hi=>by
    have:=s0 i 0 hi (by decide)
    rw [K3,Nat.mul_one,Nat.add_zero] at this
    exact this
  have bY:BL 30 Y0:=fun x hx=>by
    obtain ⟨j,hj,rfl⟩:=List.mem_iff_getElem.1 hx
    have hj':j<n:=by omega
    have:=sim0 j hj'
    rw [Au3,Ava hj] at this
    refine Ajv this ?_
    obtain ⟨dl,ed,_,_,hdl,_⟩:=hD
    have hd:d.length=n*1:=by have:d=dl:=congrArg (fun z:MX=>z.2.2.1) ed; rw [this]; exact hdl
    rw [Au3,Ava (by omega)]
    exact bD _ (List.getElem_mem _)
  obtain ⟨hW,fW⟩:=Afx hA fA
  have ew:Aro (R:Int) (n:Int) l (n:Int) (n:Int) (D5 n)=Ru ((R:Int),(n:Int),l,0):=by
    unfold Aro
    rw [q1,W7 hA fA,Aet hW fW]
  have eD:Aee (Ru ((R:Int),(n:Int),l,0)) ((n:Int),1,Y0,0) (R:Int) (n:Int)=mulM (Ru ((R:Int),(n:Int),l,0)) ((n:Int),1,Y0,0):=by
    unfold Aee
    rw [Akb hW]
  have hP:=hW.mul hY0
  have bP:=Ark hW hY0 (show BL 30 (l.map Mf) from bA.pos) bY
  have hF:=hC.sub hP
  have fF:FM (Adi ((R:Int),1,m,0) (mulM (Ru ((R:Int),(n:Int),l,0)) ((n:Int),1,Y0,0))):=Anr hC hP (fun x hx=>(bC x hx).mono (by decide)) bP
  have eF:Aoi (R:Int) 1 m (mulM (Ru ((R:Int),(n:Int),l,0)) ((n:Int),1,Y0,0))=Adi ((R:Int),1,m,0) (mulM (Ru ((R:Int),(n:Int),l,0)) ((n:Int),1,Y0,0)):=Aet hF fF
  have ez:Tm (Gi (Ru ((R:Int),(n:Int),l,0)) 0 (n:Int) (R:Int) ((n:Int)-(n:Int))) (Adi ((R:Int),1,m,0) (mulM (Ru ((R:Int),(n:Int),l,0)) ((n:Int),1,Y0,0)))=(0,1,[],0):=by
    rw [Ahn hW]
    exact Aem hF fF
  obtain ⟨hX,fX⟩:=Afx hY0 f0
  refine ⟨Y0.map Mf,?_,hX,fX,fun i hi=>?_⟩
  · unfold Cd
    rw [if_neg (fun h=>h kt),hy,if_neg (fun h=>h rfl),ew,q1]
    unfold Af8
    rw [if_neg (fun h=>h hW.err),eD,eF]
    unfold Aky
    rw [if_neg (fun h=>h hF.err),ez]
    unfold Abu
    rw [if_neg (fun h=>h rfl),Adl hY0,if_neg (fun h=>h rfl),Zm hY0 f0,Aet hX fX]
    rfl
  · have hi':i<Y0.length:=by omega
    rw [Au3,List.getElem?_map,Ava hi']
    have:=sim0 i hi
    rw [Au3,Ava hi'] at this
    exact (Abg _).trans this
namespace EqTame
def Bk.Ec.hint:Nat→Option A8
  | 0=>some { keep:=[0,1,5],objs:=[],boxes:=[] }
  | _=>none
def Bk.Ec.Bb:List (Nat × Entry):=[(131,A5.Finite.spec),(62,A5.Kind.spec),(132,G8.Kq.spec)]
def Bk.Ec.E:Env:=Bc (Ba Bk.Ec.Bb) (fun _=>false) Bk.Ec.hint (fun _=>none)
def Bk.Ec.L0 (N M:Nat) (x:List Int) (k p5:Int):Option DV:=B3 Bk.Ec.E N Tryz.f53 (Am Tryz.f53) [1,0,1,0] [] M ⟨Gb 43 [(0,.ints .arg .u64 x),(1,.int .i64 k),(5,.int .i64 p5)],[]⟩
theorem Bk.Ec.Au (N M:Nat) (x:List Int) (k p5:Int):Bk.Ec.L0 N (M+1) x k p5=bif (A2 p5 (List.length x:Int)) then bif ((decide (0≤p5))&&(decide (p5<(List.length x:Int)))) then bif (Ai (List.getD x (Int.toNat p5) 0)) then bif (!(Cy (List.getD x (Int.toNat p5) 0))) then some (.bool false) else bif ((decide (0≤p5))&&(decide (p5<(List.length x:Int)))) then bif (Oa (List.getD x (Int.toNat p5) 0)) then bif ((!((A3 (List.getD x (Int.toNat p5) 0)) !=(0:Int)))||((decide (0≤p5))&&(decide (p5<(List.length x:Int))))) then bif ((!((A3 (List.getD x (Int.toNat p5) 0)) !=(0:Int)))||(Ai (List.getD x (Int.toNat p5) 0))) then bif ((!(((A3 (List.getD x (Int.toNat p5) 0)) !=(0:Int))&&(!(A2 (Bs (List.getD x (Int.toNat p5) 0)) (Ab ((0:Int)-k))))))||((decide (0≤p5))&&(decide (p5<(List.length x:Int))))) then bif ((!(((A3 (List.getD x (Int.toNat p5) 0)) !=(0:Int))&&(!(A2 (Bs (List.getD x (Int.toNat p5) 0)) (Ab ((0:Int)-k))))))||(Ai (List.getD x (Int.toNat p5) 0))) then bif (((A3 (List.getD x (Int.toNat p5) 0)) !=(0:Int))&&((A2 (Bs (List.getD x (Int.toNat p5) 0)) (Ab ((0:Int)-k)))||(D1 k (Bs (List.getD x (Int.toNat p5) 0))))) then some (.bool false) else Bk.Ec.L0 N M x k (Ab (p5+1)) else none else none else none else none else none else none else none else none else some (.bool true) :=
  Eq.trans (by kernel_rfl)
  (Es (Es (Es (Es rfl (Es (Es (Ap (N4 ((A3 (List.getD x (Int.toNat p5) 0)) !=(0:Int))) (Ap (N4 ((A3 (List.getD x (Int.toNat p5) 0)) !=(0:Int))) (Da (As7 ((A3 (List.getD x (Int.toNat p5) 0)) !=(0:Int)) (decide (0≤p5)) (decide (p5<(List.length x:Int)))) (Ap (Ki ((A3 (List.getD x (Int.toNat p5) 0)) !=(0:Int))) (Da (Aqq ((A3 (List.getD x (Int.toNat p5) 0)) !=(0:Int)) (Ai (List.getD x (Int.toNat p5) 0))) (Ap (N4 ((A3 (List.getD x (Int.toNat p5) 0)) !=(0:Int))) (Ap (Ki ((A3 (List.getD x (Int.toNat p5) 0)) !=(0:Int))) (Ap (Agy ((A3 (List.getD x (Int.toNat p5) 0)) !=(0:Int))) (Ap (Ki ((A3 (List.getD x (Int.toNat p5) 0)) !=(0:Int))) (Ap (Ajm ((A3 (List.getD x (Int.toNat p5) 0)) !=(0:Int)) (A2 (Bs (List.getD x (Int.toNat p5) 0)) (Ab ((0:Int)-k)))) (Ap (Ajm ((A3 (List.getD x (Int.toNat p5) 0)) !=(0:Int)) (A2 (Bs (List.getD x (Int.toNat p5) 0)) (Ab ((0:Int)-k)))) (Da (At0 ((A3 (List.getD x (Int.toNat p5) 0)) !=(0:Int)) (A2 (Bs (List.getD x (Int.toNat p5) 0)) (Ab ((0:Int)-k))) (decide (0≤p5)) (decide (p5<(List.length x:Int)))) (Ap (Atp ((A3 (List.getD x (Int.toNat p5) 0)) !=(0:Int)) (A2 (Bs (List.getD x (Int.toNat p5) 0)) (Ab ((0:Int)-k)))) (Da (At1 ((A3 (List.getD x (Int.toNat p5) 0)) !=(0:Int)) (A2 (Bs (List.getD x (Int.toNat p5) 0)) (Ab ((0:Int)-k))) (Ai (List.getD x (Int.toNat p5) 0))) (Ap (Ajm ((A3 (List.getD x (Int.toNat p5) 0)) !=(0:Int)) (A2 (Bs (List.getD x (Int.toNat p5) 0)) (Ab ((0:Int)-k)))) (Ap (Ato ((A3 (List.getD x (Int.toNat p5) 0)) !=(0:Int)) (A2 (Bs (List.getD x (Int.toNat p5) 0)) (Ab ((0:Int)-k)))) (Ap (At3 ((A3 (List.getD x (Int.toNat p5) 0)) !=(0:Int)) (A2 (Bs (List.getD x (Int.toNat p5) 0)) (Ab ((0:Int)-k)))) (Ap (Sr ((A3 (List.getD x (Int.toNat p5) 0)) !=(0:Int))) (Da (At2 ((A3 (List.getD x (Int.toNat p5) 0)) !=(0:Int)) (A2 (Bs (List.getD x (Int.toNat p5) 0)) (Ab ((0:Int)-k))) (D1 k (Bs (List.getD x (Int.toNat p5) 0)))) rfl rfl))))) rfl)) rfl))))))) rfl)) rfl))) rfl) rfl)) rfl) rfl) rfl)
theorem Bk.Ec.ev (N:Nat) (x:List Int) (k:Int):Bw Bk.Ec.E N Tryz.f53 (Am Tryz.f53) [.ints .arg .u64 x,.int .i64 k] =
  Bk.Ec.L0 N N x k 0:=by kernel_rfl
abbrev _root_.Go.Proofs.S1.Bk.Ec.Kn:=A6 Tryz.prog 53 Bk.Ec.spec
theorem Bk.Ec.Ad (hk:A0 Tryz.prog Bk.Ec.Bb) (h:∀ (x:List Int) (k:Int),Bk.Ec.pre [.l x,.i k]=true→Be Bk.Ec.E Tryz.f53 [.ints .arg .u64 x,.int .i64 k] (Bk.Ec.out [.l x,.i k])):Bk.Ec.Kn :=
  Ak (A1 hk _ _ _) Tryz.func53 (by kernel_rfl) (by kernel_rfl) h
def Dp.Ec.Bb:List (Nat × Entry):=[(53,Bk.Ec.spec),(91,Bl.Gh.spec)]
def Dp.Ec.E:Env:=Bc (Ba Dp.Ec.Bb) (fun _=>false) (fun _=>none) (fun _=>none)
theorem Dp.Ec.ev (N:Nat) (r c:Int) (l:List Int) (k:Int):Bw Dp.Ec.E N Tryz.f39 (Am Tryz.f39) [.agg [.int .i64 r,.int .i64 c,.ints .arg .u64 l],.int .i64 k]=bif ((!(Av r c l))||(Cx l&&Cu (0≤k∧k≤1000))) then some (.bool (bif (Av r c l) then (Ct l k) else false)) else none :=
  Eq.trans (by kernel_rfl)
  (Ap (N4 (Av r c l)) (Ap (Ki (Av r c l)) (Ap (N4 (Av r c l)) (Da (As4 (Av r c l) (Cx l&&Cu (0≤k∧k≤1000))) (Ap (Sr (Av r c l)) rfl) rfl))))
abbrev _root_.Go.Proofs.S1.Dp.Ec.Kn:=A6 Tryz.prog 39 Dp.Ec.spec
theorem Dp.Ec.Ad (hk:A0 Tryz.prog Dp.Ec.Bb) (h:∀ (r c:Int) (l:List Int) (k:Int),Dp.Ec.pre [.i r,.i c,.l l,.i k]=true→Be Dp.Ec.E Tryz.f39 [.agg [.int .i64 r,.int .i64 c,.ints .arg .u64 l],.int .i64 k] (Dp.Ec.out [.i r,.i c,.l l,.i k])):Dp.Ec.Kn :=
  Ak (A1 hk _ _ _) Tryz.func39 (by kernel_rfl) (by kernel_rfl) h
end EqTame
end Go.Proofs.S1
end
