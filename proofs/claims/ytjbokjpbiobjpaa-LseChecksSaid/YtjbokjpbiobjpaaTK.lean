/- A verified evaluator of the program's form and its use for this seat: S1EqLse, S1PLse, S1POfS, S1EqRef20, S1PSubSt, S1PLseA, S1PRefL, S1PRef20, S1PRef20A, S1PRef20B, S1EqLaw17, S1PLaw17, S1EqLaw20, S1PLaw20. -/
import Derived.Test.YtjbokjpbiobjpaaTE
import Derived.Test.YtjbokjpbiobjpaaTF
import Derived.Test.YtjbokjpbiobjpaaTJ
import Derived.Test.YtjbokjpbiobjpaaTI
set_option linter.unusedVariables false
set_option linter.unusedSimpArgs false
noncomputable section
namespace Go.Proofs.S1
open Go Go.Den Go.Rnd Go.Proofs
set_option maxRecDepth 100000
namespace EqLse
def Cd.Check.hint:Nat→Option A0
  | 0=>some { keep:=[1,16,17],objs:=[],boxes:=[1] }
  | _=>none
def Cd.Check.A8:List (Nat × Entry):=[(8,Bn.Check.spec)]
def Cd.Check.E:Env:=Ba (A6 Cd.Check.A8) (fun _=>false) Cd.Check.hint (fun _=>none)
theorem Cd.Check.ev (N:Nat) (r c:Int) (l:List Int) (p q:Int) (m:List Int) (a b:Int) (g:List Int) (u v:Int) (h:List Int):Bo Cd.Check.E (N+6) Try.f4 (An Try.f4) [.agg [.int .i64 r,.int .i64 c,.ints .arg .u64 l,.int .i64 p,.int .i64 q,.ints .arg .u64 m,.int .i64 a,.int .i64 b,.ints .arg .u64 g,.int .i64 u,.int .i64 v,.ints .arg .u64 h]]=bif (Af l) then bif ((Bh r c l) !=(0:Int)) then some (.int .i64 (Bh r c l)) else bif (Af m) then bif ((Bh p q m) !=(0:Int)) then some (.int .i64 (Bh p q m)) else bif (Af g) then bif ((Bh a b g) !=(0:Int)) then some (.int .i64 (Bh a b g)) else bif (Af h) then bif ((Bh u v h) !=(0:Int)) then some (.int .i64 (Bh u v h)) else bif (((((((q !=c)||(a !=r))||(u !=p))||(b !=(1:Int)))||(v !=(1:Int)))||(Au c p))||(Au (Ab (r+p)) c)) then some (.int .i64 3) else some (.int .i64 0) else none else none else none else none :=
  Eq.trans (by kernel_rfl)
  (Ew (Ew rfl (Ew (Ew rfl (Ew (Ew rfl (Ew (Ew rfl (Am (Qb (q !=c)) (Am (Mu (q !=c)) (Am (Mu (q !=c)) (Am (Qb (q !=c)) (Am (Mu (q !=c)) (Am (Mu (q !=c)) (Am (tt8 (q !=c)) (Am (Vv (q !=c)) (Am (V2 (q !=c) (a !=r)) (Am (Ue (q !=c) (a !=r)) (Am (Ue (q !=c) (a !=r)) (Am (V2 (q !=c) (a !=r)) (Am (Afl (q !=c) (a !=r)) (Am (Afn (q !=c) (a !=r)) (Am (Afo (q !=c) (a !=r) (u !=p)) (Am (V3 (q !=c) (a !=r) (u !=p)) (Am (V3 (q !=c) (a !=r) (u !=p)) (Am (V3 (q !=c) (a !=r) (u !=p)) (Am (Afp (q !=c) (a !=r) (u !=p)) (Am (Aah (q !=c) (a !=r) (u !=p) (b !=(1:Int))) (Am (V4 (q !=c) (a !=r) (u !=p) (b !=(1:Int))) (Am (V4 (q !=c) (a !=r) (u !=p) (b !=(1:Int))) (Am (V4 (q !=c) (a !=r) (u !=p) (b !=(1:Int))) (Am (Afq (q !=c) (a !=r) (u !=p) (b !=(1:Int))) (Am (Aai (q !=c) (a !=r) (u !=p) (b !=(1:Int)) (v !=(1:Int))) (Am (Aai (q !=c) (a !=r) (u !=p) (b !=(1:Int)) (v !=(1:Int))) (Am (tt54 (q !=c) (a !=r) (u !=p) (b !=(1:Int)) (v !=(1:Int))) (Am (tt53 (q !=c) (a !=r) (u !=p) (b !=(1:Int)) (v !=(1:Int))) (Am (Ug (q !=c) (a !=r) (u !=p) (b !=(1:Int)) (v !=(1:Int)) (Au c p)) (Am (Ug (q !=c) (a !=r) (u !=p) (b !=(1:Int)) (v !=(1:Int)) (Au c p)) (Am (Uf (q !=c) (a !=r) (u !=p) (b !=(1:Int)) (v !=(1:Int)) (Au c p)) (Am (Uf (q !=c) (a !=r) (u !=p) (b !=(1:Int)) (v !=(1:Int)) (Au c p)) (Am (Ug (q !=c) (a !=r) (u !=p) (b !=(1:Int)) (v !=(1:Int)) (Au c p)) (Am (Aaj (q !=c) (a !=r) (u !=p) (b !=(1:Int)) (v !=(1:Int)) (Au c p)) (Am (Aaj (q !=c) (a !=r) (u !=p) (b !=(1:Int)) (v !=(1:Int)) (Au c p)) (Am (tt49 (q !=c) (a !=r) (u !=p) (b !=(1:Int)) (v !=(1:Int)) (Au c p)) (Dp (tt84 (q !=c) (a !=r) (u !=p) (b !=(1:Int)) (v !=(1:Int)) (Au c p) (Au (Ab (r+p)) c)) rfl rfl)))))))))))))))))))))))))))))))))))))) rfl)) rfl)) rfl)) rfl)
abbrev _root_.Go.Proofs.S1.Cd.Check.Kn:=A4 Try.prog 4 Cd.Check.spec
theorem Cd.Check.Ae (hk:Av Try.prog Cd.Check.A8) (h:∀ (r c:Int) (l:List Int) (p q:Int) (m:List Int) (a b:Int) (g:List Int) (u v:Int) (h:List Int),Cd.Check.pre [.i r,.i c,.l l,.i p,.i q,.l m,.i a,.i b,.l g,.i u,.i v,.l h]=true→Bd Cd.Check.E Try.f4 [.agg [.int .i64 r,.int .i64 c,.ints .arg .u64 l,.int .i64 p,.int .i64 q,.ints .arg .u64 m,.int .i64 a,.int .i64 b,.ints .arg .u64 g,.int .i64 u,.int .i64 v,.ints .arg .u64 h]] (Cd.Check.out [.i r,.i c,.l l,.i p,.i q,.l m,.i a,.i b,.l g,.i u,.i v,.l h])):Cd.Check.Kn :=
  Aj (Ax hk _ _ _) Try.func4 (by kernel_rfl) (by kernel_rfl) h
def Cd.finite.A8:List (Nat × Entry):=[(8,Bn.Check.spec)]
def Cd.finite.E:Env:=Ba (A6 Cd.finite.A8) (fun _=>false) (fun _=>none) (fun _=>none)
theorem Cd.finite.ev (N:Nat) (r c:Int) (l:List Int) (e:Int):Bo Cd.finite.E N Try.f17 (An Try.f17) [.agg [.int .i64 r,.int .i64 c,.ints .arg .u64 l],.int .i64 e]=bif ((!(e==(0:Int)))||(Af l)) then bif ((e==(0:Int))&&((Bh r c l) !=(0:Int))) then some (.tup [.agg [.int .i64 0,.int .i64 0,.nil],.int .i64 2]) else bif (e !=(0:Int)) then some (.tup [.agg [.int .i64 0,.int .i64 0,.nil],.int .i64 e]) else some (.tup [.agg [.int .i64 r,.int .i64 c,.ints .arg .u64 l],.int .i64 0]) else none :=
  Eq.trans (by kernel_rfl)
  (Am (Su (e==(0:Int))) (Dp (tt85 (e==(0:Int)) (Af l)) (Am (Qz (e==(0:Int))) (Am (Vw (e==(0:Int))) (Dp (tt1 (e==(0:Int)) ((Bh r c l) !=(0:Int))) rfl rfl))) rfl))
abbrev _root_.Go.Proofs.S1.Cd.finite.Kn:=A4 Try.prog 17 Cd.finite.spec
theorem Cd.finite.Ae (hk:Av Try.prog Cd.finite.A8) (h:∀ (r c:Int) (l:List Int) (e:Int),Cd.finite.pre [.i r,.i c,.l l,.i e]=true→Bd Cd.finite.E Try.f17 [.agg [.int .i64 r,.int .i64 c,.ints .arg .u64 l],.int .i64 e] (Cd.finite.out [.i r,.i c,.l l,.i e])):Cd.finite.Kn :=
  Aj (Ax hk _ _ _) Try.func17 (by kernel_rfl) (by kernel_rfl) h
def Cd.held.A8:List (Nat × Entry):=[(19,Aa.Part.spec),(26,Aa.Cl.spec),(27,qr.Ch.spec),(28,solve.Flat.spec),(29,solve.Fx.spec)]
def Cd.held.live:Nat→Option (List Nat)
  | 5=>some [1,2,3,4,6]
  | 8=>some [1,2,3,7]
  | 9=>some [1,2,3,9]
  | _=>none
def Cd.held.E:Env:=Ba (A6 Cd.held.A8) (fun _=>false) (fun _=>none) Cd.held.live
def Cd.held.C5 (N:Nat) (r c:Int) (l:List Int) (p q:Int) (m:List Int) (a b:Int) (g:List Int) (u v:Int) (h:List Int) (p4 p6 p6_1:Int) (p6_2:List Int) (p5 p5_1:Int) (p5_2:List Int) (p2 p2_1:Int) (p2_2:List Int):Option DV:=cutAt Cd.held.E N Try.f16 (An Try.f16) [1,1,1,1,0] [] ⟨Gy 69 [(1,.ptr 1 0 0),(2,.ptr 2 0 0),(3,.ptr 3 0 0),(4,.int .i64 p4),(6,.ptr 6 0 0)],[(6,false,.box [.int .i64 p6,.int .i64 p6_1,.ints .arg .u64 p6_2]),(5,false,.box [.int .i64 p5,.int .i64 p5_1,.ints .fresh .u64 p5_2]),(3,false,.box [.int .i64 0,.int .i64 0,.nil]),(2,false,.box [.int .i64 p2,.int .i64 p2_1,.ints .arg .u64 p2_2]),(1,false,.box [.int .i64 r,.int .i64 c,.ints .arg .u64 l,.int .i64 p,.int .i64 q,.ints .arg .u64 m,.int .i64 a,.int .i64 b,.ints .arg .u64 g,.int .i64 u,.int .i64 v,.ints .arg .u64 h])]⟩
def Cd.held.C8 (N:Nat) (r c:Int) (l:List Int) (p q:Int) (m:List Int) (a b:Int) (g:List Int) (u v:Int) (h:List Int) (p6 p6_1:Int) (p6_2:List Int) (p5 p5_1:Int) (p5_2:List Int) (p2 p2_1:Int) (p2_2:List Int) (p7 p7_1:Int) (p7_2:List Int):Option DV:=cutAt Cd.held.E N Try.f16 (An Try.f16) [1,1,1,1,1,1] [] ⟨Gy 69 [(1,.ptr 1 0 0),(2,.ptr 2 0 0),(3,.ptr 3 0 0),(7,.ptr 7 0 0)],[(7,false,.box [.int .i64 p7,.int .i64 p7_1,.ints .fresh .u64 p7_2]),(6,false,.box [.int .i64 p6,.int .i64 p6_1,.ints .arg .u64 p6_2]),(5,false,.box [.int .i64 p5,.int .i64 p5_1,.ints .fresh .u64 p5_2]),(3,false,.box [.int .i64 0,.int .i64 0,.nil]),(2,false,.box [.int .i64 p2,.int .i64 p2_1,.ints .arg .u64 p2_2]),(1,false,.box [.int .i64 r,.int .i64 c,.ints .arg .u64 l,.int .i64 p,.int .i64 q,.ints .arg .u64 m,.int .i64 a,.int .i64 b,.ints .arg .u64 g,.int .i64 u,.int .i64 v,.ints .arg .u64 h])]⟩
def Cd.held.C9 (N:Nat) (r c:Int) (l:List Int) (p q:Int) (m:List Int) (a b:Int) (g:List Int) (u v:Int) (h:List Int) (p6 p6_1:Int) (p6_2:List Int) (p5 p5_1:Int) (p5_2:List Int) (p2 p2_1:Int) (p2_2:List Int) (p7 p7_1:Int) (p7_2:List Int) (p9 p9_1:Int) (p9_2:List Int):Option DV:=cutAt Cd.held.E N Try.f16 (An Try.f16) [1,1,1,1,1,1,1,0] [] ⟨Gy 69 [(1,.ptr 1 0 0),(2,.ptr 2 0 0),(3,.ptr 3 0 0),(9,.ptr 9 0 0)],[(9,false,.box [.int .i64 p9,.int .i64 p9_1,.ints .fresh .u64 p9_2]),(7,false,.box [.int .i64 p7,.int .i64 p7_1,.ints .fresh .u64 p7_2]),(6,false,.box [.int .i64 p6,.int .i64 p6_1,.ints .arg .u64 p6_2]),(5,false,.box [.int .i64 p5,.int .i64 p5_1,.ints .fresh .u64 p5_2]),(3,false,.box [.int .i64 0,.int .i64 0,.nil]),(2,false,.box [.int .i64 p2,.int .i64 p2_1,.ints .arg .u64 p2_2]),(1,false,.box [.int .i64 r,.int .i64 c,.ints .arg .u64 l,.int .i64 p,.int .i64 q,.ints .arg .u64 m,.int .i64 a,.int .i64 b,.ints .arg .u64 g,.int .i64 u,.int .i64 v,.ints .arg .u64 h])]⟩
theorem Cd.held.Ae8 (N:Nat) (r c:Int) (l:List Int) (p q:Int) (m:List Int) (a b:Int) (g:List Int) (u v:Int) (h:List Int) (p4 p6 p6_1:Int) (p6_2:List Int) (p5 p5_1:Int) (p5_2:List Int) (p2 p2_1:Int) (p2_2:List Int):Cd.held.C5 N r c l p q m a b g u v h p4 p6 p6_1 p6_2 p5 p5_1 p5_2 p2 p2_1 p2_2=bif (p4 !=(0:Int)) then some (.tup [.agg [.int .i64 0,.int .i64 0,.nil],.agg [.int .i64 0,.int .i64 0,.nil],.int .i64 p4]) else Cd.held.C8 N r c l p q m a b g u v h p6 p6_1 p6_2 p5 p5_1 p5_2 p2 p2_1 p2_2 ((Es p6 p6_1 p6_2 0 0 p p).1) ((Es p6 p6_1 p6_2 0 0 p p).2.1) ((Es p6 p6_1 p6_2 0 0 p p).2.2.1):=(En _ _ _ _ _ _ _).trans (by kernel_rfl)
theorem Cd.held.C8_eq (N:Nat) (r c:Int) (l:List Int) (p q:Int) (m:List Int) (a b:Int) (g:List Int) (u v:Int) (h:List Int) (p6 p6_1:Int) (p6_2:List Int) (p5 p5_1:Int) (p5_2:List Int) (p2 p2_1:Int) (p2_2:List Int) (p7 p7_1:Int) (p7_2:List Int):Cd.held.C8 N r c l p q m a b g u v h p6 p6_1 p6_2 p5 p5_1 p5_2 p2 p2_1 p2_2 p7 p7_1 p7_2 =
  Cd.held.C9 N r c l p q m a b g u v h p6 p6_1 p6_2 p5 p5_1 p5_2 p2 p2_1 p2_2 p7 p7_1 p7_2 ((Bw p7 p7_1 p7_2).1) ((Bw p7 p7_1 p7_2).2.1) ((Bw p7 p7_1 p7_2).2.2.1):=(En _ _ _ _ _ _ _).trans (by kernel_rfl)
theorem Cd.held.Ae7 (N:Nat) (r c:Int) (l:List Int) (p q:Int) (m:List Int) (a b:Int) (g:List Int) (u v:Int) (h:List Int) (p6 p6_1:Int) (p6_2:List Int) (p5 p5_1:Int) (p5_2:List Int) (p2 p2_1:Int) (p2_2:List Int) (p7 p7_1:Int) (p7_2:List Int) (p9 p9_1:Int) (p9_2:List Int):Cd.held.C9 N r c l p q m a b g u v h p6 p6_1 p6_2 p5 p5_1 p5_2 p2 p2_1 p2_2 p7 p7_1 p7_2 p9 p9_1 p9_2=bif (Af p9_2) then bif ((Jn p9 p9_1 p9_2).1) then some (.tup [.agg [.int .i64 0,.int .i64 0,.nil],.agg [.int .i64 0,.int .i64 0,.nil],.int .i64 5]) else bif (Af p9_2&&Af h) then some (.tup [.agg [.int .i64 p2,.int .i64 p2_1,.ints .arg .u64 p2_2],.agg [.int .i64 ((Vx p9 p9_1 p9_2 u v h).1),.int .i64 ((Vx p9 p9_1 p9_2 u v h).2.1),.ints .fresh .u64 ((Vx p9 p9_1 p9_2 u v h).2.2.1)],.int .i64 ((Vx p9 p9_1 p9_2 u v h).2.2.2)]) else none else none:=(En _ _ _ _ _ _ _).trans (by kernel_rfl)
theorem Cd.held.ev (N:Nat) (r c:Int) (l:List Int) (p q:Int) (m:List Int) (a b:Int) (g:List Int) (u v:Int) (h:List Int):Bo Cd.held.E N Try.f16 (An Try.f16) [.agg [.int .i64 r,.int .i64 c,.ints .arg .u64 l,.int .i64 p,.int .i64 q,.ints .arg .u64 m,.int .i64 a,.int .i64 b,.ints .arg .u64 g,.int .i64 u,.int .i64 v,.ints .arg .u64 h]]=bif (((Bw p q m).2.2.2) !=(0:Int)) then some (.tup [.agg [.int .i64 0,.int .i64 0,.nil],.agg [.int .i64 0,.int .i64 0,.nil],.int .i64 ((Bw p q m).2.2.2)]) else bif (Af ((Bw p q m).2.2.1)) then Cd.held.C5 N r c l p q m a b g u v h (Ei ((Bw p q m).1) ((Bw p q m).2.1) ((Bw p q m).2.2.1)) ((rX ((Bw p q m).1) ((Bw p q m).2.1) ((Bw p q m).2.2.1)).1) ((rX ((Bw p q m).1) ((Bw p q m).2.1) ((Bw p q m).2.2.1)).2.1) ((rX ((Bw p q m).1) ((Bw p q m).2.1) ((Bw p q m).2.2.1)).2.2.1) ((Bw p q m).1) ((Bw p q m).2.1) ((Bw p q m).2.2.1) ((qX ((Bw p q m).1) ((Bw p q m).2.1) ((Bw p q m).2.2.1)).1) ((qX ((Bw p q m).1) ((Bw p q m).2.1) ((Bw p q m).2.2.1)).2.1) ((qX ((Bw p q m).1) ((Bw p q m).2.1) ((Bw p q m).2.2.1)).2.2.1) else none:=by kernel_rfl
abbrev _root_.Go.Proofs.S1.Cd.held.Kn:=A4 Try.prog 16 Cd.held.spec
theorem Cd.held.Ae (hk:Av Try.prog Cd.held.A8) (h:∀ (r c:Int) (l:List Int) (p q:Int) (m:List Int) (a b:Int) (g:List Int) (u v:Int) (h:List Int),Cd.held.pre [.i r,.i c,.l l,.i p,.i q,.l m,.i a,.i b,.l g,.i u,.i v,.l h]=true→Bd Cd.held.E Try.f16 [.agg [.int .i64 r,.int .i64 c,.ints .arg .u64 l,.int .i64 p,.int .i64 q,.ints .arg .u64 m,.int .i64 a,.int .i64 b,.ints .arg .u64 g,.int .i64 u,.int .i64 v,.ints .arg .u64 h]] (Cd.held.out [.i r,.i c,.l l,.i p,.i q,.l m,.i a,.i b,.l g,.i u,.i v,.l h])):Cd.held.Kn :=
  Aj (Ax hk _ _ _) Try.func16 (by kernel_rfl) (by kernel_rfl) h
def Cd.Solve.A8:List (Nat × Entry):=[(4,Cd.Check.spec),(17,Cd.finite.spec),(16,Cd.held.spec),(18,Aa.Mul.spec),(19,Aa.Part.spec),(22,Aa.Stack.spec),(20,Aa.Sub.spec),(21,solve.Fj.spec)]
def Cd.Solve.live:Nat→Option (List Nat)
  | 5=>some [1,2,5,6,7]
  | 9=>some [1,2,5,6,7,8,9,10]
  | 12=>some [1,2,5,6,8,9,10,11]
  | 13=>some [1,2,5,6,11,13]
  | 14=>some [1,2,5,6,13,15]
  | 15=>some [2,5,6,7,13,17]
  | 18=>some [2,5,6,7,18]
  | _=>none
def Cd.Solve.E:Env:=Ba (A6 Cd.Solve.A8) (fun _=>false) (fun _=>none) Cd.Solve.live
def Cd.Solve.C5 (N:Nat) (r c:Int) (l:List Int) (p q:Int) (m:List Int) (a b:Int) (g:List Int) (u v:Int) (h:List Int) (p7 p6 p6_1:Int) (p6_2:List Int) (p5 p5_1:Int) (p5_2:List Int):Option DV:=cutAt Cd.Solve.E N Try.f10 (An Try.f10) [1,1,1,0] [] ⟨Gy 125 [(1,.ptr 1 0 0),(2,.ptr 2 0 0),(5,.ptr 5 0 0),(6,.ptr 6 0 0),(7,.int .i64 p7)],[(6,false,.box [.int .i64 p6,.int .i64 p6_1,.ints .fresh .u64 p6_2]),(5,false,.box [.int .i64 p5,.int .i64 p5_1,.ints .arg .u64 p5_2]),(2,false,.box [.int .i64 0,.int .i64 0,.nil]),(1,false,.box [.int .i64 r,.int .i64 c,.ints .arg .u64 l,.int .i64 p,.int .i64 q,.ints .arg .u64 m,.int .i64 a,.int .i64 b,.ints .arg .u64 g,.int .i64 u,.int .i64 v,.ints .arg .u64 h])]⟩
def Cd.Solve.C9 (N:Nat) (r c:Int) (l:List Int) (p q:Int) (m:List Int) (a b:Int) (g:List Int) (u v:Int) (h:List Int) (p6 p6_1:Int) (p6_2:List Int) (p5 p5_1:Int) (p5_2:List Int) (p7_1 p10 p10_1:Int) (p10_2:List Int):Option DV:=cutAt Cd.Solve.E N Try.f10 (An Try.f10) [1,1,1,1,1,1,0] [] ⟨Gy 125 [(1,.ptr 1 0 0),(2,.ptr 2 0 0),(5,.ptr 5 0 0),(6,.ptr 6 0 0),(7,.int .i64 p7_1),(8,.int .i64 c),(9,.int .i64 p),(10,.ptr 10 0 0)],[(10,false,.box [.int .i64 p10,.int .i64 p10_1,.ints .arg .u64 p10_2]),(6,false,.box [.int .i64 p6,.int .i64 p6_1,.ints .fresh .u64 p6_2]),(5,false,.box [.int .i64 p5,.int .i64 p5_1,.ints .arg .u64 p5_2]),(2,false,.box [.int .i64 0,.int .i64 0,.nil]),(1,false,.box [.int .i64 r,.int .i64 c,.ints .arg .u64 l,.int .i64 p,.int .i64 q,.ints .arg .u64 m,.int .i64 a,.int .i64 b,.ints .arg .u64 g,.int .i64 u,.int .i64 v,.ints .arg .u64 h])]⟩
def Cd.Solve.C12 (N:Nat) (r c:Int) (l:List Int) (p q:Int) (m:List Int) (a b:Int) (g:List Int) (u v:Int) (h:List Int) (p6 p6_1:Int) (p6_2:List Int) (p5 p5_1:Int) (p5_2:List Int) (p10 p10_1:Int) (p10_2:List Int) (p11 p11_1:Int) (p11_2:List Int):Option DV:=cutAt Cd.Solve.E N Try.f10 (An Try.f10) [1,1,1,1,1,1,1,1] [] ⟨Gy 125 [(1,.ptr 1 0 0),(2,.ptr 2 0 0),(5,.ptr 5 0 0),(6,.ptr 6 0 0),(8,.int .i64 c),(9,.int .i64 p),(10,.ptr 10 0 0),(11,.ptr 11 0 0)],[(11,false,.box [.int .i64 p11,.int .i64 p11_1,.ints .fresh .u64 p11_2]),(10,false,.box [.int .i64 p10,.int .i64 p10_1,.ints .arg .u64 p10_2]),(6,false,.box [.int .i64 p6,.int .i64 p6_1,.ints .fresh .u64 p6_2]),(5,false,.box [.int .i64 p5,.int .i64 p5_1,.ints .arg .u64 p5_2]),(2,false,.box [.int .i64 0,.int .i64 0,.nil]),(1,false,.box [.int .i64 r,.int .i64 c,.ints .arg .u64 l,.int .i64 p,.int .i64 q,.ints .arg .u64 m,.int .i64 a,.int .i64 b,.ints .arg .u64 g,.int .i64 u,.int .i64 v,.ints .arg .u64 h])]⟩
def Cd.Solve.C13 (N:Nat) (r c:Int) (l:List Int) (p q:Int) (m:List Int) (a b:Int) (g:List Int) (u v:Int) (h:List Int) (p6 p6_1:Int) (p6_2:List Int) (p5 p5_1:Int) (p5_2:List Int) (p10 p10_1:Int) (p10_2:List Int) (p11 p11_1:Int) (p11_2:List Int) (p13 p13_1:Int) (p13_2:List Int):Option DV:=cutAt Cd.Solve.E N Try.f10 (An Try.f10) [1,1,1,1,1,1,1,1,1] [] ⟨Gy 125 [(1,.ptr 1 0 0),(2,.ptr 2 0 0),(5,.ptr 5 0 0),(6,.ptr 6 0 0),(11,.ptr 11 0 0),(13,.ptr 13 0 0)],[(13,false,.box [.int .i64 p13,.int .i64 p13_1,.ints .fresh .u64 p13_2]),(11,false,.box [.int .i64 p11,.int .i64 p11_1,.ints .fresh .u64 p11_2]),(10,false,.box [.int .i64 p10,.int .i64 p10_1,.ints .arg .u64 p10_2]),(6,false,.box [.int .i64 p6,.int .i64 p6_1,.ints .fresh .u64 p6_2]),(5,false,.box [.int .i64 p5,.int .i64 p5_1,.ints .arg .u64 p5_2]),(2,false,.box [.int .i64 0,.int .i64 0,.nil]),(1,false,.box [.int .i64 r,.int .i64 c,.ints .arg .u64 l,.int .i64 p,.int .i64 q,.ints .arg .u64 m,.int .i64 a,.int .i64 b,.ints .arg .u64 g,.int .i64 u,.int .i64 v,.ints .arg .u64 h])]⟩
def Cd.Solve.C14 (N:Nat) (r c:Int) (l:List Int) (p q:Int) (m:List Int) (a b:Int) (g:List Int) (u v:Int) (h:List Int) (p6 p6_1:Int) (p6_2:List Int) (p5 p5_1:Int) (p5_2:List Int) (p10 p10_1:Int) (p10_2:List Int) (p11 p11_1:Int) (p11_2:List Int) (p13 p13_1:Int) (p13_2:List Int) (p15 p15_1:Int) (p15_2:List Int):Option DV:=cutAt Cd.Solve.E N Try.f10 (An Try.f10) [1,1,1,1,1,1,1,1,1,1] [] ⟨Gy 125 [(1,.ptr 1 0 0),(2,.ptr 2 0 0),(5,.ptr 5 0 0),(6,.ptr 6 0 0),(13,.ptr 13 0 0),(15,.ptr 15 0 0)],[(15,false,.box [.int .i64 p15,.int .i64 p15_1,.ints .fresh .u64 p15_2]),(13,false,.box [.int .i64 p13,.int .i64 p13_1,.ints .fresh .u64 p13_2]),(11,false,.box [.int .i64 p11,.int .i64 p11_1,.ints .fresh .u64 p11_2]),(10,false,.box [.int .i64 p10,.int .i64 p10_1,.ints .arg .u64 p10_2]),(6,false,.box [.int .i64 p6,.int .i64 p6_1,.ints .fresh .u64 p6_2]),(5,false,.box [.int .i64 p5,.int .i64 p5_1,.ints .arg .u64 p5_2]),(2,false,.box [.int .i64 0,.int .i64 0,.nil]),(1,false,.box [.int .i64 r,.int .i64 c,.ints .arg .u64 l,.int .i64 p,.int .i64 q,.ints .arg .u64 m,.int .i64 a,.int .i64 b,.ints .arg .u64 g,.int .i64 u,.int .i64 v,.ints .arg .u64 h])]⟩
def Cd.Solve.C15 (N:Nat) (r c:Int) (l:List Int) (p q:Int) (m:List Int) (a b:Int) (g:List Int) (u v:Int) (h:List Int) (p6 p6_1:Int) (p6_2:List Int) (p5 p5_1:Int) (p5_2:List Int) (p10 p10_1:Int) (p10_2:List Int) (p11 p11_1:Int) (p11_2:List Int) (p13 p13_1:Int) (p13_2:List Int) (p15 p15_1:Int) (p15_2:List Int) (p7_2 p17 p17_1:Int) (p17_2:List Int):Option DV:=cutAt Cd.Solve.E N Try.f10 (An Try.f10) [1,1,1,1,1,1,1,1,1,1,1,0] [] ⟨Gy 125 [(2,.ptr 2 0 0),(5,.ptr 5 0 0),(6,.ptr 6 0 0),(7,.int .i64 p7_2),(13,.ptr 13 0 0),(17,.ptr 17 0 0)],[(17,false,.box [.int .i64 p17,.int .i64 p17_1,.ints .arg .u64 p17_2]),(15,false,.box [.int .i64 p15,.int .i64 p15_1,.ints .fresh .u64 p15_2]),(13,false,.box [.int .i64 p13,.int .i64 p13_1,.ints .fresh .u64 p13_2]),(11,false,.box [.int .i64 p11,.int .i64 p11_1,.ints .fresh .u64 p11_2]),(10,false,.box [.int .i64 p10,.int .i64 p10_1,.ints .arg .u64 p10_2]),(6,false,.box [.int .i64 p6,.int .i64 p6_1,.ints .fresh .u64 p6_2]),(5,false,.box [.int .i64 p5,.int .i64 p5_1,.ints .arg .u64 p5_2]),(2,false,.box [.int .i64 0,.int .i64 0,.nil]),(1,false,.box [.int .i64 r,.int .i64 c,.ints .arg .u64 l,.int .i64 p,.int .i64 q,.ints .arg .u64 m,.int .i64 a,.int .i64 b,.ints .arg .u64 g,.int .i64 u,.int .i64 v,.ints .arg .u64 h])]⟩
def Cd.Solve.C18 (N:Nat) (r c:Int) (l:List Int) (p q:Int) (m:List Int) (a b:Int) (g:List Int) (u v:Int) (h:List Int) (p6 p6_1:Int) (p6_2:List Int) (p5 p5_1:Int) (p5_2:List Int) (p10 p10_1:Int) (p10_2:List Int) (p11 p11_1:Int) (p11_2:List Int) (p13 p13_1:Int) (p13_2:List Int) (p15 p15_1:Int) (p15_2:List Int) (p17 p17_1:Int) (p17_2:List Int) (p7_3 p18 p18_1:Int) (p18_2:List Int):Option DV:=cutAt Cd.Solve.E N Try.f10 (An Try.f10) [1,1,1,1,1,1,1,1,1,1,1,1,1,0] [] ⟨Gy 125 [(2,.ptr 2 0 0),(5,.ptr 5 0 0),(6,.ptr 6 0 0),(7,.int .i64 p7_3),(18,.ptr 18 0 0)],[(18,false,.box [.int .i64 p18,.int .i64 p18_1,.ints .fresh .u64 p18_2]),(17,false,.box [.int .i64 p17,.int .i64 p17_1,.ints .arg .u64 p17_2]),(15,false,.box [.int .i64 p15,.int .i64 p15_1,.ints .fresh .u64 p15_2]),(13,false,.box [.int .i64 p13,.int .i64 p13_1,.ints .fresh .u64 p13_2]),(11,false,.box [.int .i64 p11,.int .i64 p11_1,.ints .fresh .u64 p11_2]),(10,false,.box [.int .i64 p10,.int .i64 p10_1,.ints .arg .u64 p10_2]),(6,false,.box [.int .i64 p6,.int .i64 p6_1,.ints .fresh .u64 p6_2]),(5,false,.box [.int .i64 p5,.int .i64 p5_1,.ints .arg .u64 p5_2]),(2,false,.box [.int .i64 0,.int .i64 0,.nil]),(1,false,.box [.int .i64 r,.int .i64 c,.ints .arg .u64 l,.int .i64 p,.int .i64 q,.ints .arg .u64 m,.int .i64 a,.int .i64 b,.ints .arg .u64 g,.int .i64 u,.int .i64 v,.ints .arg .u64 h])]⟩
theorem Cd.Solve.Ae8 (N:Nat) (r c:Int) (l:List Int) (p q:Int) (m:List Int) (a b:Int) (g:List Int) (u v:Int) (h:List Int) (p7 p6 p6_1:Int) (p6_2:List Int) (p5 p5_1:Int) (p5_2:List Int):Cd.Solve.C5 N r c l p q m a b g u v h p7 p6 p6_1 p6_2 p5 p5_1 p5_2=bif (p7 !=(0:Int)) then some (.tup [.agg [.int .i64 0,.int .i64 0,.nil],.int .i64 p7]) else bif (Af l&&Af p5_2) then bif (Af ((Dx r c l p5 p5_1 p5_2).2.2.1)) then Cd.Solve.C9 N r c l p q m a b g u v h p6 p6_1 p6_2 p5 p5_1 p5_2 ((J1 ((Dx r c l p5 p5_1 p5_2).1) ((Dx r c l p5 p5_1 p5_2).2.1) ((Dx r c l p5 p5_1 p5_2).2.2.1) ((Dx r c l p5 p5_1 p5_2).2.2.2)).2.2.2) ((J1 ((Dx r c l p5 p5_1 p5_2).1) ((Dx r c l p5 p5_1 p5_2).2.1) ((Dx r c l p5 p5_1 p5_2).2.2.1) ((Dx r c l p5 p5_1 p5_2).2.2.2)).1) ((J1 ((Dx r c l p5 p5_1 p5_2).1) ((Dx r c l p5 p5_1 p5_2).2.1) ((Dx r c l p5 p5_1 p5_2).2.2.1) ((Dx r c l p5 p5_1 p5_2).2.2.2)).2.1) ((J1 ((Dx r c l p5 p5_1 p5_2).1) ((Dx r c l p5 p5_1 p5_2).2.1) ((Dx r c l p5 p5_1 p5_2).2.2.1) ((Dx r c l p5 p5_1 p5_2).2.2.2)).2.2.1) else none else none:=(En _ _ _ _ _ _ _).trans (by kernel_rfl)
theorem Cd.Solve.Ae7 (N:Nat) (r c:Int) (l:List Int) (p q:Int) (m:List Int) (a b:Int) (g:List Int) (u v:Int) (h:List Int) (p6 p6_1:Int) (p6_2:List Int) (p5 p5_1:Int) (p5_2:List Int) (p7_1 p10 p10_1:Int) (p10_2:List Int):Cd.Solve.C9 N r c l p q m a b g u v h p6 p6_1 p6_2 p5 p5_1 p5_2 p7_1 p10 p10_1 p10_2=bif (p7_1 !=(0:Int)) then some (.tup [.agg [.int .i64 0,.int .i64 0,.nil],.int .i64 p7_1]) else Cd.Solve.C12 N r c l p q m a b g u v h p6 p6_1 p6_2 p5 p5_1 p5_2 p10 p10_1 p10_2 ((Es p10 p10_1 p10_2 0 0 r p).1) ((Es p10 p10_1 p10_2 0 0 r p).2.1) ((Es p10 p10_1 p10_2 0 0 r p).2.2.1):=(En _ _ _ _ _ _ _).trans (by kernel_rfl)
theorem Cd.Solve.Zf (N:Nat) (r c:Int) (l:List Int) (p q:Int) (m:List Int) (a b:Int) (g:List Int) (u v:Int) (h:List Int) (p6 p6_1:Int) (p6_2:List Int) (p5 p5_1:Int) (p5_2:List Int) (p10 p10_1:Int) (p10_2:List Int) (p11 p11_1:Int) (p11_2:List Int):Cd.Solve.C12 N r c l p q m a b g u v h p6 p6_1 p6_2 p5 p5_1 p5_2 p10 p10_1 p10_2 p11 p11_1 p11_2 =
  Cd.Solve.C13 N r c l p q m a b g u v h p6 p6_1 p6_2 p5 p5_1 p5_2 p10 p10_1 p10_2 p11 p11_1 p11_2 ((Es p10 p10_1 p10_2 0 p r (Ab (c-p))).1) ((Es p10 p10_1 p10_2 0 p r (Ab (c-p))).2.1) ((Es p10 p10_1 p10_2 0 p r (Ab (c-p))).2.2.1):=(En _ _ _ _ _ _ _).trans (by kernel_rfl)
theorem Cd.Solve.C13_eq (N:Nat) (r c:Int) (l:List Int) (p q:Int) (m:List Int) (a b:Int) (g:List Int) (u v:Int) (h:List Int) (p6 p6_1:Int) (p6_2:List Int) (p5 p5_1:Int) (p5_2:List Int) (p10 p10_1:Int) (p10_2:List Int) (p11 p11_1:Int) (p11_2:List Int) (p13 p13_1:Int) (p13_2:List Int):Cd.Solve.C13 N r c l p q m a b g u v h p6 p6_1 p6_2 p5 p5_1 p5_2 p10 p10_1 p10_2 p11 p11_1 p11_2 p13 p13_1 p13_2=bif (Af p11_2&&Af p6_2) then Cd.Solve.C14 N r c l p q m a b g u v h p6 p6_1 p6_2 p5 p5_1 p5_2 p10 p10_1 p10_2 p11 p11_1 p11_2 p13 p13_1 p13_2 ((Dx p11 p11_1 p11_2 p6 p6_1 p6_2).1) ((Dx p11 p11_1 p11_2 p6 p6_1 p6_2).2.1) ((Dx p11 p11_1 p11_2 p6 p6_1 p6_2).2.2.1) else none:=(En _ _ _ _ _ _ _).trans (by kernel_rfl)
theorem Cd.Solve.Ze (N:Nat) (r c:Int) (l:List Int) (p q:Int) (m:List Int) (a b:Int) (g:List Int) (u v:Int) (h:List Int) (p6 p6_1:Int) (p6_2:List Int) (p5 p5_1:Int) (p5_2:List Int) (p10 p10_1:Int) (p10_2:List Int) (p11 p11_1:Int) (p11_2:List Int) (p13 p13_1:Int) (p13_2:List Int) (p15 p15_1:Int) (p15_2:List Int):Cd.Solve.C14 N r c l p q m a b g u v h p6 p6_1 p6_2 p5 p5_1 p5_2 p10 p10_1 p10_2 p11 p11_1 p11_2 p13 p13_1 p13_2 p15 p15_1 p15_2=bif (Af g&&Af p15_2) then bif (Af ((Hx a b g p15 p15_1 p15_2).2.2.1)) then Cd.Solve.C15 N r c l p q m a b g u v h p6 p6_1 p6_2 p5 p5_1 p5_2 p10 p10_1 p10_2 p11 p11_1 p11_2 p13 p13_1 p13_2 p15 p15_1 p15_2 ((J1 ((Hx a b g p15 p15_1 p15_2).1) ((Hx a b g p15 p15_1 p15_2).2.1) ((Hx a b g p15 p15_1 p15_2).2.2.1) ((Hx a b g p15 p15_1 p15_2).2.2.2)).2.2.2) ((J1 ((Hx a b g p15 p15_1 p15_2).1) ((Hx a b g p15 p15_1 p15_2).2.1) ((Hx a b g p15 p15_1 p15_2).2.2.1) ((Hx a b g p15 p15_1 p15_2).2.2.2)).1) ((J1 ((Hx a b g p15 p15_1 p15_2).1) ((Hx a b g p15 p15_1 p15_2).2.1) ((Hx a b g p15 p15_1 p15_2).2.2.1) ((Hx a b g p15 p15_1 p15_2).2.2.2)).2.1) ((J1 ((Hx a b g p15 p15_1 p15_2).1) ((Hx a b g p15 p15_1 p15_2).2.1) ((Hx a b g p15 p15_1 p15_2).2.2.1) ((Hx a b g p15 p15_1 p15_2).2.2.2)).2.2.1) else none else none:=(En _ _ _ _ _ _ _).trans (by kernel_rfl)
theorem Cd.Solve.C15_eq (N:Nat) (r c:Int) (l:List Int) (p q:Int) (m:List Int) (a b:Int) (g:List Int) (u v:Int) (h:List Int) (p6 p6_1:Int) (p6_2:List Int) (p5 p5_1:Int) (p5_2:List Int) (p10 p10_1:Int) (p10_2:List Int) (p11 p11_1:Int) (p11_2:List Int) (p13 p13_1:Int) (p13_2:List Int) (p15 p15_1:Int) (p15_2:List Int) (p7_2 p17 p17_1:Int) (p17_2:List Int):Cd.Solve.C15 N r c l p q m a b g u v h p6 p6_1 p6_2 p5 p5_1 p5_2 p10 p10_1 p10_2 p11 p11_1 p11_2 p13 p13_1 p13_2 p15 p15_1 p15_2 p7_2 p17 p17_1 p17_2=bif (p7_2 !=(0:Int)) then some (.tup [.agg [.int .i64 0,.int .i64 0,.nil],.int .i64 p7_2]) else bif (Af p13_2&&Af p17_2) then Cd.Solve.C18 N r c l p q m a b g u v h p6 p6_1 p6_2 p5 p5_1 p5_2 p10 p10_1 p10_2 p11 p11_1 p11_2 p13 p13_1 p13_2 p15 p15_1 p15_2 p17 p17_1 p17_2 ((Hl p13 p13_1 p13_2 p17 p17_1 p17_2).2.2.2) ((Hl p13 p13_1 p13_2 p17 p17_1 p17_2).1) ((Hl p13 p13_1 p13_2 p17 p17_1 p17_2).2.1) ((Hl p13 p13_1 p13_2 p17 p17_1 p17_2).2.2.1) else none:=(En _ _ _ _ _ _ _).trans (by kernel_rfl)
theorem Cd.Solve.Zd (N:Nat) (r c:Int) (l:List Int) (p q:Int) (m:List Int) (a b:Int) (g:List Int) (u v:Int) (h:List Int) (p6 p6_1:Int) (p6_2:List Int) (p5 p5_1:Int) (p5_2:List Int) (p10 p10_1:Int) (p10_2:List Int) (p11 p11_1:Int) (p11_2:List Int) (p13 p13_1:Int) (p13_2:List Int) (p15 p15_1:Int) (p15_2:List Int) (p17 p17_1:Int) (p17_2:List Int) (p7_3 p18 p18_1:Int) (p18_2:List Int):Cd.Solve.C18 N r c l p q m a b g u v h p6 p6_1 p6_2 p5 p5_1 p5_2 p10 p10_1 p10_2 p11 p11_1 p11_2 p13 p13_1 p13_2 p15 p15_1 p15_2 p17 p17_1 p17_2 p7_3 p18 p18_1 p18_2=bif (p7_3 !=(0:Int)) then some (.tup [.agg [.int .i64 0,.int .i64 0,.nil],.int .i64 p7_3]) else bif (((Bi p6 p6_1 p6_2 p18 p18_1 p18_2).2.2.2) !=(0:Int)) then some (.tup [.agg [.int .i64 0,.int .i64 0,.nil],.int .i64 ((Bi p6 p6_1 p6_2 p18 p18_1 p18_2).2.2.2)]) else bif (Af p5_2&&Af ((Bi p6 p6_1 p6_2 p18 p18_1 p18_2).2.2.1)) then bif (Af ((Dx p5 p5_1 p5_2 ((Bi p6 p6_1 p6_2 p18 p18_1 p18_2).1) ((Bi p6 p6_1 p6_2 p18 p18_1 p18_2).2.1) ((Bi p6 p6_1 p6_2 p18 p18_1 p18_2).2.2.1)).2.2.1)) then some (.tup [.agg [.int .i64 ((J1 ((Dx p5 p5_1 p5_2 ((Bi p6 p6_1 p6_2 p18 p18_1 p18_2).1) ((Bi p6 p6_1 p6_2 p18 p18_1 p18_2).2.1) ((Bi p6 p6_1 p6_2 p18 p18_1 p18_2).2.2.1)).1) ((Dx p5 p5_1 p5_2 ((Bi p6 p6_1 p6_2 p18 p18_1 p18_2).1) ((Bi p6 p6_1 p6_2 p18 p18_1 p18_2).2.1) ((Bi p6 p6_1 p6_2 p18 p18_1 p18_2).2.2.1)).2.1) ((Dx p5 p5_1 p5_2 ((Bi p6 p6_1 p6_2 p18 p18_1 p18_2).1) ((Bi p6 p6_1 p6_2 p18 p18_1 p18_2).2.1) ((Bi p6 p6_1 p6_2 p18 p18_1 p18_2).2.2.1)).2.2.1) ((Dx p5 p5_1 p5_2 ((Bi p6 p6_1 p6_2 p18 p18_1 p18_2).1) ((Bi p6 p6_1 p6_2 p18 p18_1 p18_2).2.1) ((Bi p6 p6_1 p6_2 p18 p18_1 p18_2).2.2.1)).2.2.2)).1),.int .i64 ((J1 ((Dx p5 p5_1 p5_2 ((Bi p6 p6_1 p6_2 p18 p18_1 p18_2).1) ((Bi p6 p6_1 p6_2 p18 p18_1 p18_2).2.1) ((Bi p6 p6_1 p6_2 p18 p18_1 p18_2).2.2.1)).1) ((Dx p5 p5_1 p5_2 ((Bi p6 p6_1 p6_2 p18 p18_1 p18_2).1) ((Bi p6 p6_1 p6_2 p18 p18_1 p18_2).2.1) ((Bi p6 p6_1 p6_2 p18 p18_1 p18_2).2.2.1)).2.1) ((Dx p5 p5_1 p5_2 ((Bi p6 p6_1 p6_2 p18 p18_1 p18_2).1) ((Bi p6 p6_1 p6_2 p18 p18_1 p18_2).2.1) ((Bi p6 p6_1 p6_2 p18 p18_1 p18_2).2.2.1)).2.2.1) ((Dx p5 p5_1 p5_2 ((Bi p6 p6_1 p6_2 p18 p18_1 p18_2).1) ((Bi p6 p6_1 p6_2 p18 p18_1 p18_2).2.1) ((Bi p6 p6_1 p6_2 p18 p18_1 p18_2).2.2.1)).2.2.2)).2.1),.ints .arg .u64 ((J1 ((Dx p5 p5_1 p5_2 ((Bi p6 p6_1 p6_2 p18 p18_1 p18_2).1) ((Bi p6 p6_1 p6_2 p18 p18_1 p18_2).2.1) ((Bi p6 p6_1 p6_2 p18 p18_1 p18_2).2.2.1)).1) ((Dx p5 p5_1 p5_2 ((Bi p6 p6_1 p6_2 p18 p18_1 p18_2).1) ((Bi p6 p6_1 p6_2 p18 p18_1 p18_2).2.1) ((Bi p6 p6_1 p6_2 p18 p18_1 p18_2).2.2.1)).2.1) ((Dx p5 p5_1 p5_2 ((Bi p6 p6_1 p6_2 p18 p18_1 p18_2).1) ((Bi p6 p6_1 p6_2 p18 p18_1 p18_2).2.1) ((Bi p6 p6_1 p6_2 p18 p18_1 p18_2).2.2.1)).2.2.1) ((Dx p5 p5_1 p5_2 ((Bi p6 p6_1 p6_2 p18 p18_1 p18_2).1) ((Bi p6 p6_1 p6_2 p18 p18_1 p18_2).2.1) ((Bi p6 p6_1 p6_2 p18 p18_1 p18_2).2.2.1)).2.2.2)).2.2.1)],.int .i64 ((J1 ((Dx p5 p5_1 p5_2 ((Bi p6 p6_1 p6_2 p18 p18_1 p18_2).1) ((Bi p6 p6_1 p6_2 p18 p18_1 p18_2).2.1) ((Bi p6 p6_1 p6_2 p18 p18_1 p18_2).2.2.1)).1) ((Dx p5 p5_1 p5_2 ((Bi p6 p6_1 p6_2 p18 p18_1 p18_2).1) ((Bi p6 p6_1 p6_2 p18 p18_1 p18_2).2.1) ((Bi p6 p6_1 p6_2 p18 p18_1 p18_2).2.2.1)).2.1) ((Dx p5 p5_1 p5_2 ((Bi p6 p6_1 p6_2 p18 p18_1 p18_2).1) ((Bi p6 p6_1 p6_2 p18 p18_1 p18_2).2.1) ((Bi p6 p6_1 p6_2 p18 p18_1 p18_2).2.2.1)).2.2.1) ((Dx p5 p5_1 p5_2 ((Bi p6 p6_1 p6_2 p18 p18_1 p18_2).1) ((Bi p6 p6_1 p6_2 p18 p18_1 p18_2).2.1) ((Bi p6 p6_1 p6_2 p18 p18_1 p18_2).2.2.1)).2.2.2)).2.2.2)]) else none else none:=(En _ _ _ _ _ _ _).trans (by kernel_rfl)
theorem Cd.Solve.ev (N:Nat) (r c:Int) (l:List Int) (p q:Int) (m:List Int) (a b:Int) (g:List Int) (u v:Int) (h:List Int):Bo Cd.Solve.E N Try.f10 (An Try.f10) [.agg [.int .i64 r,.int .i64 c,.ints .arg .u64 l,.int .i64 p,.int .i64 q,.ints .arg .u64 m,.int .i64 a,.int .i64 b,.ints .arg .u64 g,.int .i64 u,.int .i64 v,.ints .arg .u64 h]]=bif (L8 l m g h) then bif ((F9 r c l p q m a b g u v h) !=(0:Int)) then some (.tup [.agg [.int .i64 0,.int .i64 0,.nil],.int .i64 (F9 r c l p q m a b g u v h)]) else bif (L8 l m g h&&decide (F9 r c l p q m a b g u v h=0)) then Cd.Solve.C5 N r c l p q m a b g u v h ((hY p q m u v h).2.2.2) ((hY p q m u v h).1) ((hY p q m u v h).2.1) ((hY p q m u v h).2.2.1) ((hQ p q m).1) ((hQ p q m).2.1) ((hQ p q m).2.2.1) else none else none:=by kernel_rfl
abbrev _root_.Go.Proofs.S1.Cd.Solve.Kn:=A4 Try.prog 10 Cd.Solve.spec
theorem Cd.Solve.Ae (hk:Av Try.prog Cd.Solve.A8) (h:∀ (r c:Int) (l:List Int) (p q:Int) (m:List Int) (a b:Int) (g:List Int) (u v:Int) (h:List Int),Cd.Solve.pre [.i r,.i c,.l l,.i p,.i q,.l m,.i a,.i b,.l g,.i u,.i v,.l h]=true→Bd Cd.Solve.E Try.f10 [.agg [.int .i64 r,.int .i64 c,.ints .arg .u64 l,.int .i64 p,.int .i64 q,.ints .arg .u64 m,.int .i64 a,.int .i64 b,.ints .arg .u64 g,.int .i64 u,.int .i64 v,.ints .arg .u64 h]] (Cd.Solve.out [.i r,.i c,.l l,.i p,.i q,.l m,.i a,.i b,.l g,.i u,.i v,.l h])):Cd.Solve.Kn :=
  Aj (Ax hk _ _ _) Try.func10 (by kernel_rfl) (by kernel_rfl) h
end EqLse
open EqLse
theorem Ka {r c:Int} {l:List Int} (h:Aw r c l=true):0≤r∧r≤6∧0≤c∧c≤6:=by
  obtain ⟨R,C,rfl,rfl,r6,c6,_⟩:=Dj h
  omega
theorem Wg {r c p q a u b v:Int} (h:0≤r∧r≤6) (h':0≤p∧p≤6) :
    (((((((q !=c)||(a !=r))||(u !=p))||(b !=(1:Int)))||(v !=(1:Int)))||(Au c p))||(Au (Ab (r+p)) c))=decide (q≠c∨a≠r∨u≠p∨b≠1∨v≠1∨c<p∨r+p<c):=by
  rw [Ak (by omega) (by omega),Aq,Aq,Ah3]
  simp [or_assoc]
theorem Cd.Check.known:Cd.Check.Kn:=Cd.Check.Ae (.cons Bn.Check.known .nil) fun r c l p q m a b g u v h hp=>by
  obtain ⟨h1,h2⟩:=Ad.1 (show ((Af l&&Af m)&&(Af g&&Af h))=true from hp)
  obtain ⟨al,am⟩:=Ad.1 h1
  obtain ⟨ag,ah⟩:=Ad.1 h2
  refine ⟨0+6,Cd.Check.out [.i r,.i c,.l l,.i p,.i q,.l m,.i a,.i b,.l g,.i u,.i v,.l h],[],?_,.int⟩
  show _=some (DV.int .i64 (F9 r c l p q m a b g u v h))
  rw [Cd.Check.ev,al,am,ag,ah,Ahn,Ahn,Ahn,Ahn]
  unfold F9
  by_cases k1:Bh r c l=0
  · rw [Ea k1,Ahr,if_neg (by rw [k1]; decide)]
    by_cases k2:Bh p q m=0
    · rw [Ea k2,Ahr,if_neg (by rw [k2]; decide)]
      by_cases k3:Bh a b g=0
      · rw [Ea k3,Ahr,if_neg (by rw [k3]; decide)]
        by_cases k4:Bh u v h=0
        · rw [Ea k4,Ahr,if_neg (by rw [k4]; decide)]
          have s1:=Ka (E8 k1).1
          have s2:=Ka (E8 k2).1
          rw [Wg ⟨s1.1,s1.2.1⟩ ⟨s2.1,s2.2.1⟩]
          by_cases k5:q≠c∨a≠r∨u≠p∨b≠1∨v≠1∨c<p∨r+p<c
          · rw [Aho k5,Ahn,if_pos k5]
          · rw [Ahs k5,Ahr,if_neg k5]
        · rw [Nr k4,Ahn,if_pos k4]
      · rw [Nr k3,Ahn,if_pos k3]
    · rw [Nr k2,Ahn,if_pos k2]
  · rw [Nr k1,Ahn,if_pos k1]
theorem Tc {r c:Int} {l:List Int} {p q:Int} {m:List Int} {a b:Int} {g:List Int} {u v:Int} {h:List Int} (e:F9 r c l p q m a b g u v h=0) :
    Bh r c l=0∧Bh p q m=0∧Bh a b g=0∧Bh u v h=0∧q=c∧a=r∧u=p∧b=1∧v=1∧p≤c∧c≤r+p:=by
  unfold F9 at e
  by_cases k1:Bh r c l=0
  · rw [if_neg (by rw [k1]; decide)] at e
    by_cases k2:Bh p q m=0
    · rw [if_neg (by rw [k2]; decide)] at e
      by_cases k3:Bh a b g=0
      · rw [if_neg (by rw [k3]; decide)] at e
        by_cases k4:Bh u v h=0
        · rw [if_neg (by rw [k4]; decide)] at e
          by_cases k5:q≠c∨a≠r∨u≠p∨b≠1∨v≠1∨c<p∨r+p<c
          · rw [if_pos k5] at e; exact absurd e (by decide)
          · exact ⟨k1,k2,k3,k4,by omega⟩
        · rw [if_pos k4] at e; exact absurd e k4
      · rw [if_pos k3] at e; exact absurd e k3
    · rw [if_pos k2] at e; exact absurd e k2
  · rw [if_pos k1] at e; exact absurd e k1
theorem Z3 {r c:Int} {l:List Int} {e:Int} (al:Af l=true):Af (J1 r c l e).2.2.1=true:=by
  unfold J1
  split
  · exact Ct
  · split
    · exact Ct
    · exact al
theorem Z2 {r c:Int} {l:List Int} (al:Af l=true):Af (Iv r c l).2.2.1=true:=by
  unfold Iv
  split
  · exact al
  · exact Ct
theorem loX_in (r c:Int) (l:List Int) (p q:Int) (m:List Int):Af (Vx r c l p q m).2.2.1=true:=by
  unfold Vx
  split
  · exact Ct
  · exact Z2 (Gl fun i k=>O5 (Yo _ _ _ _) i)
theorem upX_in (r c:Int) (l:List Int) (p q:Int) (m:List Int):Af (upX r c l p q m).2.2.1=true:=by
  unfold upX
  split
  · exact Ct
  · exact Z2 (Gl fun i k=>O5 (Xy _ _ _ _ _) i)
theorem Abm (r c:Int) (l:List Int) (p q:Int) (m:List Int):Af (Hl r c l p q m).2.2.1=true:=by
  unfold Hl
  split
  · exact Ct
  · split
    · exact Ct
    · split
      · exact Ct
      · split
        · exact Ct
        · split
          · exact Ct
          · unfold upTX
            split
            · exact Ct
            · exact upX_in _ _ _ _ _ _
theorem Zj {r c:Int} {l:List Int} {p q:Int} {m:List Int} (al:Af l=true) (am:Af m=true):Af (Hx r c l p q m).2.2.1=true:=by
  unfold Hx
  by_cases h:(Aw r c l&&Aw p q m)=true
  · rw [if_pos h]
    by_cases h2:r=p∧c=q
    · rw [if_pos h2]; exact (show Af (By _ _ fun i k=>C0 (Dr c l i k) (Dr q m i k))=true from Gl fun _ _=>Lj (Jr al) (Jr am))
    · rw [if_neg h2]; exact Ct
  · rw [if_neg h]; exact Ct
theorem Aao {r c:Int} {l:List Int} {q:Int} {m:List Int} (al:Af l=true) (am:Af m=true) (i k:Int):Ag (G3 r c l q m i k)=true:=by
  unfold G3
  by_cases h:i<r
  · rw [if_pos h]; exact Jr al
  · rw [if_neg h]; exact Jr am
theorem Aan {r c:Int} {l:List Int} {p q:Int} {m:List Int} (al:Af l=true) (am:Af m=true):Af (Bi r c l p q m).2.2.1=true:=by
  unfold Bi
  by_cases h:(Aw r c l&&Aw p q m)=true
  · rw [if_pos h]
    by_cases h2:c=q∧r+p≤6
    · rw [if_pos h2]; exact (show Af (By _ _ fun i k=>G3 r c l q m i k)=true from Gl fun _ _=>Aao al am _ _)
    · rw [if_neg h2]; exact Ct
  · rw [if_neg h]; exact Ct
theorem qX_in {r c:Int} {l:List Int} (al:Af l=true):Af (qX r c l).2.2.1=true∧Af (rX r c l).2.2.1=true:=by
  by_cases k:Ei r c l=0
  · rw [(Q3 k).1,(Q3 k).2]; exact Aee al k
  · rw [(Ro rfl k).1,(Ro rfl k).2]; exact ⟨Ct,Ct⟩
theorem Cd.finite.known:Cd.finite.Kn:=Cd.finite.Ae (.cons Bn.Check.known .nil) fun r c l e hp=>by
  have al:Af l=true:=hp
  show ∃ N dv drops,_=some dv∧Wk drops dv (Aa7 (J1 r c l e))
  have hrun:=Cd.finite.ev 0 r c l e
  rw [al,Bool.or_true,Ahn] at hrun
  unfold J1
  by_cases k:e=0
  · rw [if_neg (by rw [k]; decide)]
    rw [k] at hrun ⊢
    by_cases k1:Bh r c l=0
    · rw [Ea k1,Bool.and_false,Ahr] at hrun
      rw [if_neg (by rw [k1]; decide)]
      exact ⟨0,_,[],hrun,Zg (x:=(r,c,l,0))⟩
    · rw [Nr k1] at hrun
      rw [if_pos k1]
      exact ⟨0,_,[],hrun,Xw⟩
  · rw [if_pos k]
    have e1:(e==(0:Int))=false:=by rw [beq_eq_false_iff_ne]; exact k
    rw [e1,Bool.false_and,Ahr,Nr k,Ahn] at hrun
    exact ⟨0,_,[],hrun,Xw⟩
theorem Afk {p q:Int} {m:List Int} (h:Aw p q m=true):(Bw p q m).1=q∧(Bw p q m).2.1=p∧(Bw p q m).2.2.2=0:=by
  unfold Bw; rw [if_pos h]; exact ⟨rfl,rfl,rfl⟩
theorem Cd.held.known:Cd.held.Kn:=Cd.held.Ae (.cons Aa.Part.known (.cons Aa.Cl.known (.cons qr.Ch.known (.cons solve.Flat.known (.cons solve.Fx.known .nil))))) fun r c l p q m a b g u v h hp=>by
  obtain ⟨h0,hz⟩:=Ad.1 (show (L8 l m g h&&decide (F9 r c l p q m a b g u v h=0))=true from hp)
  obtain ⟨h1,h2⟩:=Ad.1 (show ((Af l&&Af m)&&(Af g&&Af h))=true from h0)
  obtain ⟨al,am⟩:=Ad.1 h1
  obtain ⟨ag,ah⟩:=Ad.1 h2
  obtain ⟨k1,k2,k3,k4,_⟩:=Tc (of_decide_eq_true hz)
  obtain ⟨e1,e2,e3⟩:=Afk (E8 k2).1
  show ∃ N dv drops,_=some dv∧Wk drops dv (DV.tup [.agg [.int .i64 (hQ p q m).1,.int .i64 (hQ p q m).2.1,.ints .arg .u64 (hQ p q m).2.2.1],.agg [.int .i64 (hY p q m u v h).1,.int .i64 (hY p q m u v h).2.1,.ints .fresh .u64 (hY p q m u v h).2.2.1],.int .i64 (hY p q m u v h).2.2.2])
  have at':Af (Z4 p q m)=true:=Oc am
  have as':Af (Mz p q m).2.2.1=true:=Oc (Oo (qX_in at').2 _ _ _ _)
  have hrun:=Cd.held.ev 0 r c l p q m a b g u v h
  rw [e3,Ea rfl,Ahr,Oc am,Ahn,e1,e2,Cd.held.Ae8] at hrun
  by_cases kf:Ei q p (Z4 p q m)=0
  · rw [Ea (show Ei q p (Bw p q m).2.2.1=0 from kf),Ahr,Cd.held.C8_eq,Cd.held.Ae7] at hrun
    have hrun2:Bo Cd.held.E 0 _ _ _=(bif Af (Mz p q m).2.2.1 then bif (Jn (Mz p q m).1 (Mz p q m).2.1 (Mz p q m).2.2.1).1 then some (Ru 5) else bif Af (Mz p q m).2.2.1&&Af h then
        some (.tup [.agg [.int .i64 (qX q p (Z4 p q m)).1,.int .i64 (qX q p (Z4 p q m)).2.1,.ints .arg .u64 (qX q p (Z4 p q m)).2.2.1],.agg [.int .i64 (Vx (Mz p q m).1 (Mz p q m).2.1 (Mz p q m).2.2.1 u v h).1,.int .i64 (Vx (Mz p q m).1 (Mz p q m).2.1 (Mz p q m).2.2.1 u v h).2.1,.ints .fresh .u64 (Vx (Mz p q m).1 (Mz p q m).2.1 (Mz p q m).2.2.1 u v h).2.2.1],.int .i64 (Vx (Mz p q m).1 (Mz p q m).2.1 (Mz p q m).2.2.1 u v h).2.2.2]) else none else none):=hrun
    rw [as',Ahn,ah,Bool.and_true,Ahn] at hrun2
    cases kb:(Jn (Mz p q m).1 (Mz p q m).2.1 (Mz p q m).2.2.1).1 with
    | true =>
      rw [kb,Ahn] at hrun2
      have d1:hQ p q m=Hc 5:=by unfold hQ; rw [if_neg (by rw [kf]; decide),kb,if_pos rfl]
      have d2:hY p q m u v h=Hc 5:=by unfold hY; rw [if_neg (by rw [kf]; decide),kb,if_pos rfl]
      rw [d1,d2]
      exact ⟨0,_,[],hrun2,Pf⟩
    | false =>
      rw [kb,Ahr] at hrun2
      have d1:hQ p q m=qX q p (Z4 p q m):=by unfold hQ; rw [if_neg (by rw [kf]; decide),kb,if_neg (by decide)]
      have d2:hY p q m u v h=Vx (Mz p q m).1 (Mz p q m).2.1 (Mz p q m).2.2.1 u v h:=by unfold hY; rw [if_neg (by rw [kf]; decide),kb,if_neg (by decide)]
      rw [d1,d2]
      exact ⟨0,_,[],hrun2,Wk.Fl (.cons (Wk.Hr (.cons .int (.cons .int (.cons .Xn .nil)))) (.cons (Wk.Hr (.cons .int (.cons .int (.cons .Ly .nil)))) (.cons .int .nil)))⟩
  · rw [Nr (show Ei q p (Bw p q m).2.2.1≠0 from kf),Ahn] at hrun
    have d1:hQ p q m=Hc (Ei q p (Z4 p q m)):=by unfold hQ; rw [if_pos kf]
    have d2:hY p q m u v h=Hc (Ei q p (Z4 p q m)):=by unfold hY; rw [if_pos kf]
    rw [d1,d2]
    exact ⟨0,_,[],hrun,Pf⟩
open EqMat EqOf
theorem Aa.Ft.known:Aa.Ft.Kn:=Aa.Ft.Ae (.cons Aa.get.known (.cons Ac.Sub.known .nil)) fun i k r c l p q m hp=>by
  obtain ⟨h1,am⟩:=Ad.1 (show (((Cx r c l i k&&Cx p q m i k)&&Af l)&&Af m)=true from hp)
  obtain ⟨h2,al⟩:=Ad.1 h1
  obtain ⟨h3,h4⟩:=Ad.1 h2
  refine ⟨0,Aa.Ft.out [.i i,.i k,.i r,.i c,.l l,.i p,.i q,.l m],[],?_,.int⟩
  rw [Aa.Ft.ev,h3,h4,Hq al,Hq am]; rfl
theorem of.Sub.inner (N:Nat) (r c:Int) (l:List Int) (p q:Int) (m:List Int) {A B:Nat} (hA:A≤6) (hB:B≤6) {F:Nat→Nat→Int} (hF:∀ i j:Nat,F i j=C0 (Dr c l (i:Int) (j:Int)) (Dr q m (i:Int) (j:Int))) {i:Nat} (hi:i<A) (hp:∀ j:Nat,j<B→(((Cx r c l (i:Int) (j:Int)&&Cx p q m (i:Int) (j:Int))&&Af l)&&Af m)=true):∀ (k j M0 M:Nat),j+k=B→k<M →
    Aa.of.Sub.L1 N M0 M (A:Int) (B:Int) r c l p q m (i:Int) (i:Int) (j:Int) (By i B F++(List.range j).map (F i))=Aa.of.Sub.L0 N M0 (A:Int) (B:Int) r c l p q m ((i+1:Nat):Int) (By (i+1) B F):=by
  intro k
  induction k with
  | zero =>
    intro j M0 M hj hM
    obtain ⟨M,rfl⟩:∃ G,M=G+1:=⟨M-1,by omega⟩
    obtain rfl:j=B:=by omega
    rw [Aa.of.Sub.Ca,Aq,Ahs (by omega),Ahr,Ak (by omega) (by omega),← Ho]
    rfl
  | succ k ih =>
    intro j M0 M hj hM
    obtain ⟨M,rfl⟩:∃ G,M=G+1:=⟨M-1,by omega⟩
    have d:decide ((By i B F++(List.range j).map (F i)).length+1≤Hv)=true:=by
      refine Aho ?_
      have:=Nat.mul_le_mul (show i≤6 by omega) hB
      rw [List.length_append,Bq,List.length_map,List.length_range]; unfold Hv; omega
    rw [Aa.of.Sub.Ca,Aq,Aho (by omega),Ahn,hp j (by omega),Ahn,d,Ahn,Ak (by omega) (by omega),← hF i j]
    have:=ih (j+1) M0 M (by omega) (by omega)
    rw [Gg,← List.append_assoc] at this
    exact this
theorem of.Sub.outer (N:Nat) (r c:Int) (l:List Int) (p q:Int) (m:List Int) {A B:Nat} (hA:A≤6) (hB:B≤6) (hN:6<N) {F:Nat→Nat→Int} (hF:∀ i j:Nat,F i j=C0 (Dr c l (i:Int) (j:Int)) (Dr q m (i:Int) (j:Int))) (hp:∀ i j:Nat,i<A→j<B→(((Cx r c l (i:Int) (j:Int)&&Cx p q m (i:Int) (j:Int))&&Af l)&&Af m)=true):∀ (k i M:Nat),i+k=A→k<M →
    Aa.of.Sub.L0 N M (A:Int) (B:Int) r c l p q m (i:Int) (By i B F)=some (.agg [.int .i64 (A:Int),.int .i64 (B:Int),.ints (.own 108002 tB) .u64 (By A B F)]):=by
  intro k
  induction k with
  | zero =>
    intro i M hi hM
    obtain ⟨M,rfl⟩:∃ G,M=G+1:=⟨M-1,by omega⟩
    obtain rfl:i=A:=by omega
    rw [Aa.of.Sub.As,Aq,Ahs (by omega),Ahr]
  | succ k ih =>
    intro i M hi hM
    obtain ⟨M,rfl⟩:∃ G,M=G+1:=⟨M-1,by omega⟩
    have n:=of.Sub.inner N r c l p q m hA hB hF (show i<A by omega) (fun j hj=>hp i j (by omega) hj) B 0 M N (by omega) (by omega)
    rw [List.range_zero,List.map_nil,List.append_nil] at n
    rw [Aa.of.Sub.As,Aq,Aho (by omega),Ahn]
    exact n.trans (ih (i+1) M (by omega) (by omega))
theorem Aa.of.Sub.known:Aa.of.Sub.Kn:=Aa.of.Sub.Ae (.cons Aa.Ft.known .nil) fun a b r c l p q m hp=>by
  obtain ⟨h12,hy⟩:=Ad.1 (show (((A7 a&&A7 b)&&((Aw r c l&&Aw p q m)&&(Af l&&Af m)))&&decide (a=r∧b=c∧p=r∧q=c))=true from hp)
  obtain ⟨h1,hx⟩:=Ad.1 h12
  have h2:=Ad.2 ⟨hx,hy⟩
  obtain ⟨ha,hb⟩:=Ad.1 h1
  obtain ⟨A,rfl,hA⟩:=Ex ha
  obtain ⟨B,rfl,hB⟩:=Ex hb
  obtain ⟨h3,he⟩:=Ad.1 h2
  obtain ⟨h4,h5⟩:=Ad.1 h3
  obtain ⟨hr,hm⟩:=Ad.1 h4
  obtain ⟨al,am⟩:=Ad.1 h5
  obtain ⟨e1,e2,e3,e4⟩:=of_decide_eq_true he
  have hp:∀ i j:Nat,i<A→j<B→(((Cx r c l (i:Int) (j:Int)&&Cx p q m (i:Int) (j:Int))&&Af l)&&Af m)=true:=fun i j hi hj =>
    Ad.2 ⟨Ad.2 ⟨Ad.2 ⟨G1 hr (by omega) (by omega) (by omega) (by omega) r,G1 hm (by omega) (by omega) (by omega) (by omega) p⟩,al⟩,am⟩
  refine ⟨8,.agg [.int .i64 (A:Int),.int .i64 (B:Int),.ints (.own 108002 tB) .u64 (By A B fun (i j:Nat)=>C0 (Dr c l (i:Int) (j:Int)) (Dr q m (i:Int) (j:Int)))],[108002],?_,Wk.Hr (.cons .int (.cons .int (.cons (.drop _ _ _ _ (List.mem_singleton.2 rfl)) .nil)))⟩
  rw [Aa.of.Sub.ev]
  have n:=of.Sub.outer 8 r c l p q m hA hB (by omega) (F:=fun (i j:Nat)=>C0 (Dr c l (i:Int) (j:Int)) (Dr q m (i:Int) (j:Int))) (fun _ _=>rfl) hp A 0 8 (by omega) (by omega)
  rw [Hn] at n
  exact n
namespace EqRef20
def Fc.Check.hint:Nat→Option A0
  | 0=>some { keep:=[1,3,4],objs:=[(0,3,100003,.recs 24 3 [])],boxes:=[1] }
  | _=>none
def Fc.Check.A8:List (Nat × Entry):=[(9,Fm.Check.spec)]
def Fc.Check.E:Env:=Ba (A6 Fc.Check.A8) (fun _=>false) Fc.Check.hint (fun _=>none)
theorem Fc.Check.ev (N:Nat) (r c:Int) (l:List Int) (p q:Int) (m:List Int) (a b:Int) (g:List Int) (u v:Int) (h:List Int):Bo Fc.Check.E (N+6) Try.f5 (An Try.f5) [.agg [.int .i64 r,.int .i64 c,.ints .arg .u64 l,.int .i64 p,.int .i64 q,.ints .arg .u64 m,.int .i64 a,.int .i64 b,.ints .arg .u64 g,.int .i64 u,.int .i64 v,.ints .arg .u64 h]]=bif (Af l) then bif ((Bh r c l) !=(0:Int)) then bif (Af l) then some (.int .i64 (Bh r c l)) else none else bif (Af m) then bif ((Bh p q m) !=(0:Int)) then bif (Af m) then some (.int .i64 (Bh p q m)) else none else bif (Af g) then bif ((Bh a b g) !=(0:Int)) then bif (Af g) then some (.int .i64 (Bh a b g)) else none else bif (Af h) then bif ((Bh u v h) !=(0:Int)) then bif (Af h) then some (.int .i64 (Bh u v h)) else none else bif (((((((c !=q)||(r !=a))||(p !=u))||(b !=(1:Int)))||(v !=(1:Int)))||(Au c p))||(Au (Ab (r+p)) c)) then some (.int .i64 3) else some (.int .i64 0) else none else none else none else none :=
  Eq.trans (by kernel_rfl)
  (Ew (Ew rfl (Ew (Ew rfl (Ew (Ew rfl (Ew (Ew rfl (Am (Qb (c !=q)) (Am (Mu (c !=q)) (Am (Mu (c !=q)) (Am (Qb (c !=q)) (Am (Mu (c !=q)) (Am (Mu (c !=q)) (Am (tt8 (c !=q)) (Am (Vv (c !=q)) (Am (V2 (c !=q) (r !=a)) (Am (Ue (c !=q) (r !=a)) (Am (Ue (c !=q) (r !=a)) (Am (V2 (c !=q) (r !=a)) (Am (Ue (c !=q) (r !=a)) (Am (Ue (c !=q) (r !=a)) (Am (Afl (c !=q) (r !=a)) (Am (Afn (c !=q) (r !=a)) (Am (Afo (c !=q) (r !=a) (p !=u)) (Am (V3 (c !=q) (r !=a) (p !=u)) (Am (V3 (c !=q) (r !=a) (p !=u)) (Am (V3 (c !=q) (r !=a) (p !=u)) (Am (Afp (c !=q) (r !=a) (p !=u)) (Am (Aah (c !=q) (r !=a) (p !=u) (b !=(1:Int))) (Am (V4 (c !=q) (r !=a) (p !=u) (b !=(1:Int))) (Am (V4 (c !=q) (r !=a) (p !=u) (b !=(1:Int))) (Am (V4 (c !=q) (r !=a) (p !=u) (b !=(1:Int))) (Am (Afq (c !=q) (r !=a) (p !=u) (b !=(1:Int))) (Am (Aai (c !=q) (r !=a) (p !=u) (b !=(1:Int)) (v !=(1:Int))) (Am (Acp (c !=q) (r !=a) (p !=u) (b !=(1:Int)) (v !=(1:Int))) (Am (Acp (c !=q) (r !=a) (p !=u) (b !=(1:Int)) (v !=(1:Int))) (Am (Aai (c !=q) (r !=a) (p !=u) (b !=(1:Int)) (v !=(1:Int))) (Am (Acp (c !=q) (r !=a) (p !=u) (b !=(1:Int)) (v !=(1:Int))) (Am (Acp (c !=q) (r !=a) (p !=u) (b !=(1:Int)) (v !=(1:Int))) (Am (tt54 (c !=q) (r !=a) (p !=u) (b !=(1:Int)) (v !=(1:Int))) (Am (tt53 (c !=q) (r !=a) (p !=u) (b !=(1:Int)) (v !=(1:Int))) (Am (Ug (c !=q) (r !=a) (p !=u) (b !=(1:Int)) (v !=(1:Int)) (Au c p)) (Am (Uf (c !=q) (r !=a) (p !=u) (b !=(1:Int)) (v !=(1:Int)) (Au c p)) (Am (Uf (c !=q) (r !=a) (p !=u) (b !=(1:Int)) (v !=(1:Int)) (Au c p)) (Am (Ug (c !=q) (r !=a) (p !=u) (b !=(1:Int)) (v !=(1:Int)) (Au c p)) (Am (Uf (c !=q) (r !=a) (p !=u) (b !=(1:Int)) (v !=(1:Int)) (Au c p)) (Am (Uf (c !=q) (r !=a) (p !=u) (b !=(1:Int)) (v !=(1:Int)) (Au c p)) (Am (Ug (c !=q) (r !=a) (p !=u) (b !=(1:Int)) (v !=(1:Int)) (Au c p)) (Am (Uf (c !=q) (r !=a) (p !=u) (b !=(1:Int)) (v !=(1:Int)) (Au c p)) (Am (Uf (c !=q) (r !=a) (p !=u) (b !=(1:Int)) (v !=(1:Int)) (Au c p)) (Am (Aaj (c !=q) (r !=a) (p !=u) (b !=(1:Int)) (v !=(1:Int)) (Au c p)) (Am (Aaj (c !=q) (r !=a) (p !=u) (b !=(1:Int)) (v !=(1:Int)) (Au c p)) (Am (tt49 (c !=q) (r !=a) (p !=u) (b !=(1:Int)) (v !=(1:Int)) (Au c p)) (Dp (tt84 (c !=q) (r !=a) (p !=u) (b !=(1:Int)) (v !=(1:Int)) (Au c p) (Au (Ab (r+p)) c)) rfl rfl)))))))))))))))))))))))))))))))))))))))))))))))) rfl)) rfl)) rfl)) rfl)
abbrev _root_.Go.Proofs.S1.Fc.Check.Kn:=A4 Try.prog 5 Fc.Check.spec
theorem Fc.Check.Ae (hk:Av Try.prog Fc.Check.A8) (h:∀ (r c:Int) (l:List Int) (p q:Int) (m:List Int) (a b:Int) (g:List Int) (u v:Int) (h:List Int),Fc.Check.pre [.i r,.i c,.l l,.i p,.i q,.l m,.i a,.i b,.l g,.i u,.i v,.l h]=true→Bd Fc.Check.E Try.f5 [.agg [.int .i64 r,.int .i64 c,.ints .arg .u64 l,.int .i64 p,.int .i64 q,.ints .arg .u64 m,.int .i64 a,.int .i64 b,.ints .arg .u64 g,.int .i64 u,.int .i64 v,.ints .arg .u64 h]] (Fc.Check.out [.i r,.i c,.l l,.i p,.i q,.l m,.i a,.i b,.l g,.i u,.i v,.l h])):Fc.Check.Kn :=
  Aj (Ax hk _ _ _) Try.func5 (by kernel_rfl) (by kernel_rfl) h
end EqRef20
open EqOf EqRef20
theorem Aa.Sub.known:Aa.Sub.Kn:=Aa.Sub.Ae (.cons Aa.of.Sub.known (.cons Aa.two.known .nil)) fun r c l p q m hp=>by
  show ∃ N dv drops,_=some dv∧Wk drops dv (Nq (Hx r c l p q m))
  unfold Hx
  have hp:(Af l&&Af m)=true:=hp
  by_cases h:(Aw r c l&&Aw p q m)=true
  · obtain ⟨h1,h2⟩:=Ad.1 h
    by_cases hc:r=p∧c=q
    · have e:(!((r==p)&&(c==q)))=false:=by rw [hc.1,hc.2]; simp
      rw [if_pos h,if_pos hc]
      exact ⟨0,_,[],by rw [Aa.Sub.ev,Km,h,e,(Ec h1).1,(Ec h1).2,hp,Aho ⟨rfl,rfl,hc.1.symm,hc.2.symm⟩]; rfl,Jt⟩
    · have e:(!((r==p)&&(c==q)))=true:=by
        rw [Bool.not_eq_true',Bool.eq_false_iff]
        intro h
        simp only [Ahy,beq_iff_eq] at h
        exact hc h
      rw [if_pos h,if_neg hc]
      exact ⟨0,_,[],by rw [Aa.Sub.ev,Km,h,e]; rfl,Ge⟩
  · have e:(Aw r c l&&Aw p q m)=false:=by simpa using h
    rw [if_neg h]
    exact ⟨0,_,[],by rw [Aa.Sub.ev,Km,e,Xz e]; rfl,Ge⟩
open EqLse
def Out (o:Option DV) (x:MX):Prop:=∃ dv drops,o=some dv∧Wk drops dv (Aa7 x)
theorem Pv {o:Option DV} {e:Int} (h:o=some (Yh e)):Out o (Hc e):=⟨_,[],h,Xw⟩
theorem out_ok {o:Option DV} {x:MX} (h:o=some (Aa7 x)):Out o x:=⟨_,[],h,Zg⟩
section
variable {N:Nat} {r c p q a b u v:Int} {l m g h:List Int} {w one two done f y Q z:MX}
theorem Agg (aq:Af Q.2.2.1=true) (ay:Af y.2.2.1=true) (az:Af z.2.2.1=true) :
    Out (Cd.Solve.C18 N r c l p q m a b g u v h y.1 y.2.1 y.2.2.1 Q.1 Q.2.1 Q.2.2.1 w.1 w.2.1 w.2.2.1 one.1 one.2.1 one.2.2.1 two.1 two.2.1 two.2.2.1 done.1 done.2.1 done.2.2.1 f.1 f.2.1 f.2.2.1 z.2.2.2 z.1 z.2.1 z.2.2.1) (Zw Q y z):=by
  rw [Cd.Solve.Zd]
  unfold Zw
  by_cases k:z.2.2.2=0
  · rw [Ea k,Ahr,if_neg (fun h=>h k)]
    by_cases k2:(Uk y z).2.2.2=0
    · rw [Ea (show (Bi y.1 y.2.1 y.2.2.1 z.1 z.2.1 z.2.2.1).2.2.2=0 from k2),Ahr,if_neg (fun h=>h k2),aq,Aan ay az,Aht,Ahn,Kv,Ahn]
      exact out_ok rfl
    · rw [Nr (show (Bi y.1 y.2.1 y.2.2.1 z.1 z.2.1 z.2.2.1).2.2.2≠0 from k2),Ahn,if_pos k2]; exact Pv rfl
  · rw [Nr k,Ahn,if_pos k]; exact Pv rfl
theorem Agh (aq:Af Q.2.2.1=true) (ay:Af y.2.2.1=true) (a2:Af two.2.2.1=true) (af:Af f.2.2.1=true) :
    Out (Cd.Solve.C15 N r c l p q m a b g u v h y.1 y.2.1 y.2.2.1 Q.1 Q.2.1 Q.2.2.1 w.1 w.2.1 w.2.2.1 one.1 one.2.1 one.2.2.1 two.1 two.2.1 two.2.2.1 done.1 done.2.1 done.2.2.1 f.2.2.2 f.1 f.2.1 f.2.2.1) (if f.2.2.2≠0 then Hc f.2.2.2 else Zw Q y (Yq two f)):=by
  rw [Cd.Solve.C15_eq]
  by_cases k:f.2.2.2=0
  · rw [Ea k,Ahr,if_neg (fun h=>h k),a2,af,Aht,Ahn]
    exact Agg (z:=Yq two f) aq ay (Abm _ _ _ _ _ _)
  · rw [Nr k,Ahn,if_pos k]; exact Pv rfl
theorem Agi (aq:Af Q.2.2.1=true) (ay:Af y.2.2.1=true) (aw:Af w.2.2.1=true) (ag:Af g=true) (hw:Ab (c-p)=c-p) :
    Out (Cd.Solve.C12 N r c l p q m a b g u v h y.1 y.2.1 y.2.2.1 Q.1 Q.2.1 Q.2.2.1 w.1 w.2.1 w.2.2.1 (Jx w 0 0 r p).1 (Jx w 0 0 r p).2.1 (Jx w 0 0 r p).2.2.1) (lseX3 Q y w (lseF a b g (Adr w y r p)) r c p):=by
  have a1:Af (Jx w 0 0 r p).2.2.1=true:=Oo aw _ _ _ _
  have a2:Af (Jx w 0 p r (c-p)).2.2.1=true:=Oo aw _ _ _ _
  have a3:Af (Adr w y r p).2.2.1=true:=Kv _ _ _ _ _ _
  rw [Cd.Solve.Zf,hw,Cd.Solve.C13_eq,a1,ay,Aht,Ahn,Cd.Solve.Ze,ag,Kv,Aht,Ahn,Zj ag (Kv _ _ _ _ _ _),Ahn]
  exact Agh (two:=Jx w 0 p r (c-p)) (f:=lseF a b g (Adr w y r p)) (one:=Jx w 0 0 r p) (done:=Adr w y r p) aq ay a2 (Z3 (Zj ag a3))
theorem lse_c5 (aq:Af Q.2.2.1=true) (ay:Af y.2.2.1=true) (al:Af l=true) (ag:Af g=true) (hw:Ab (c-p)=c-p) :
    Out (Cd.Solve.C5 N r c l p q m a b g u v h y.2.2.2 y.1 y.2.1 y.2.2.1 Q.1 Q.2.1 Q.2.2.1) (if y.2.2.2≠0 then Hc y.2.2.2 else Adq Q y (Abu (mulM (r,c,l,0) Q)) r c p a b g):=by
  rw [Cd.Solve.Ae8]
  by_cases k:y.2.2.2=0
  · rw [Ea k,Ahr,if_neg (fun h=>h k),al,aq,Aht,Ahn,Kv,Ahn,Cd.Solve.Ae7]
    unfold Adq
    by_cases k2:(Abu (mulM (r,c,l,0) Q)).2.2.2=0
    · rw [if_neg (fun h=>h k2)]
      refine (congrArg (fun o=>Out o _) ((congrArg (fun x=>bif x then _ else _) (Ea k2)).trans (Ahr _ _))).mpr ?_
      exact Agi (w:=Abu (mulM (r,c,l,0) Q)) aq ay (Z3 (Kv _ _ _ _ _ _)) ag hw
    · rw [if_pos k2]
      refine (congrArg (fun o=>Out o _) ((congrArg (fun x=>bif x then _ else _) (Nr k2)).trans (Ahn _ _))).mpr ?_
      exact Pv rfl
  · rw [Nr k,Ahn,if_pos k]; exact Pv rfl
end
theorem hQ_in {p q:Int} {m:List Int} (am:Af m=true):Af (hQ p q m).2.2.1=true:=by
  unfold hQ
  split
  · exact Ct
  · split
    · exact Ct
    · exact (qX_in (Oc am)).1
theorem hY_in (p q:Int) (m:List Int) (u v:Int) (h:List Int):Af (hY p q m u v h).2.2.1=true:=by
  unfold hY
  split
  · exact Ct
  · split
    · exact Ct
    · exact loX_in _ _ _ _ _ _
theorem Cd.Solve.known:Cd.Solve.Kn:=Cd.Solve.Ae (.cons Cd.Check.known (.cons Cd.finite.known (.cons Cd.held.known (.cons Aa.Mul.known (.cons Aa.Part.known (.cons Aa.Stack.known (.cons Aa.Sub.known (.cons solve.Fj.known .nil)))))))) fun r c l p q m a b g u v h hp=>by
  have h0:L8 l m g h=true:=hp
  obtain ⟨h1,h2⟩:=Ad.1 (show ((Af l&&Af m)&&(Af g&&Af h))=true from h0)
  obtain ⟨al,am⟩:=Ad.1 h1
  obtain ⟨ag,ah⟩:=Ad.1 h2
  suffices hs:Out (Bo Cd.Solve.E 0 _ _ _) (Gq r c l p q m a b g u v h) by
    obtain ⟨dv,drops,e1,e2⟩:=hs
    exact ⟨0,dv,drops,e1,e2⟩
  rw [Cd.Solve.ev,h0,Ahn]
  unfold Gq
  by_cases k:F9 r c l p q m a b g u v h=0
  · obtain ⟨k1,k2,_,_,rfl,_,_,_,_,hpc,_⟩:=Tc k
    have s1:=Ka (E8 k1).1
    have s2:=Ka (E8 k2).1
    rw [Ea k,Ahr,Aho k,Aht,Ahn,if_neg (fun h=>h k)]
    exact lse_c5 (Q:=hQ p q m) (y:=hY p q m u v h) (hQ_in am) (hY_in _ _ _ _ _ _) al ag (Ak (by omega) (by omega))
  · rw [Nr k,Ahn,if_pos k]
    exact Pv rfl
open EqRef14 EqLow
section
variable {n Q:Nat} {l m:List Int}
end
open EqRef20
theorem Aau {r c p q a u b v:Int} (h:0≤r∧r≤6) (h':0≤p∧p≤6) :
    (((((((c !=q)||(r !=a))||(p !=u))||(b !=(1:Int)))||(v !=(1:Int)))||(Au c p))||(Au (Ab (r+p)) c))=decide (q≠c∨a≠r∨u≠p∨b≠1∨v≠1∨c<p∨r+p<c):=by
  rw [← Wg h h',bne_comm (a:=c),bne_comm (a:=r) (b:=a),bne_comm (a:=p) (b:=u)]
theorem Fc.Check.known:Fc.Check.Kn:=Fc.Check.Ae (.cons Fm.Check.known .nil) fun r c l p q m a b g u v h hp=>by
  obtain ⟨h1,h2⟩:=Ad.1 (show ((Af l&&Af m)&&(Af g&&Af h))=true from hp)
  obtain ⟨al,am⟩:=Ad.1 h1
  obtain ⟨ag,ah⟩:=Ad.1 h2
  refine ⟨0+6,Fc.Check.out [.i r,.i c,.l l,.i p,.i q,.l m,.i a,.i b,.l g,.i u,.i v,.l h],[],?_,.int⟩
  show _=some (DV.int .i64 (F9 r c l p q m a b g u v h))
  rw [Fc.Check.ev,al,am,ag,ah]
  simp only [Ahn]
  unfold F9
  by_cases k1:Bh r c l=0
  · rw [Ea k1,Ahr,if_neg (fun h=>h k1)]
    by_cases k2:Bh p q m=0
    · rw [Ea k2,Ahr,if_neg (fun h=>h k2)]
      by_cases k3:Bh a b g=0
      · rw [Ea k3,Ahr,if_neg (fun h=>h k3)]
        by_cases k4:Bh u v h=0
        · rw [Ea k4,Ahr,if_neg (fun h=>h k4)]
          have s1:=Ka (E8 k1).1
          have s2:=Ka (E8 k2).1
          rw [Aau ⟨s1.1,s1.2.1⟩ ⟨s2.1,s2.2.1⟩]
          by_cases k5:q≠c∨a≠r∨u≠p∨b≠1∨v≠1∨c<p∨r+p<c
          · rw [Aho k5,Ahn,if_pos k5]
          · rw [Ahs k5,Ahr,if_neg k5]
        · rw [Nr k4,Ahn,if_pos k4]
      · rw [Nr k3,Ahn,if_pos k3]
    · rw [Nr k2,Ahn,if_pos k2]
  · rw [Nr k1,Ahn,if_pos k1]
open EqRef20
section
variable {N:Nat} {r c p q a b u v:Int} {l m g h:List Int} {p6_3 p6_4:Int} {p6_5 p7 p10 p11:List Int} {p6_6:Bool}
end
open EqRef20
namespace EqLaw17
end EqLaw17
open EqLaw17
namespace EqLaw20
def Bf.one.A8:List (Nat × Entry):=[]
def Bf.one.E:Env:=Ba (A6 Bf.one.A8) (fun _=>false) (fun _=>none) (fun _=>none)
theorem Bf.one.ev (N:Nat) (b:Int):Bo Bf.one.E N Try.f11 (An Try.f11) [.int .u64 b]=some (.agg [.int .i64 1,.int .i64 1,.ints (.own 4 41) .u64 [b]]):=by kernel_rfl
abbrev _root_.Go.Proofs.S1.Bf.one.Kn:=A4 Try.prog 11 Bf.one.spec
theorem Bf.one.Ae (hk:Av Try.prog Bf.one.A8) (h:∀ (b:Int),Bf.one.pre [.i b]=true→Bd Bf.one.E Try.f11 [.int .u64 b] (Bf.one.out [.i b])):Bf.one.Kn :=
  Aj (Ax hk _ _ _) Try.func11 (by kernel_rfl) (by kernel_rfl) h
def Bf.Fq.A8:List (Nat × Entry):=[(11,Bf.one.spec),(10,Cd.Solve.spec)]
def Bf.Fq.E:Env:=Ba (A6 Bf.Fq.A8) (fun _=>false) (fun _=>none) (fun _=>none)
theorem Bf.Fq.ev (N:Nat):Bo Bf.Fq.E N Try.f7 (An Try.f7) []=bif (L8 ([(4607182418800017408:Int)]) ([(4607182418800017408:Int)]) ([(0:Int)]) ([(4613937818241073152:Int)])) then bif ((!((((Gq 1 1 ([(4607182418800017408:Int)]) 1 1 ([(4607182418800017408:Int)]) 1 1 ([(0:Int)]) 1 1 ([(4613937818241073152:Int)])).2.2.2)==(0:Int))&&((List.length ((Gq 1 1 ([(4607182418800017408:Int)]) 1 1 ([(4607182418800017408:Int)]) 1 1 ([(0:Int)]) 1 1 ([(4613937818241073152:Int)])).2.2.1):Int)==(1:Int))))||(decide ((0:Int)<(List.length ((Gq 1 1 ([(4607182418800017408:Int)]) 1 1 ([(4607182418800017408:Int)]) 1 1 ([(0:Int)]) 1 1 ([(4613937818241073152:Int)])).2.2.1):Int)))) then some (.bool (bif (bif (((Gq 1 1 ([(4607182418800017408:Int)]) 1 1 ([(4607182418800017408:Int)]) 1 1 ([(0:Int)]) 1 1 ([(4613937818241073152:Int)])).2.2.2)==(0:Int)) then ((List.length ((Gq 1 1 ([(4607182418800017408:Int)]) 1 1 ([(4607182418800017408:Int)]) 1 1 ([(0:Int)]) 1 1 ([(4613937818241073152:Int)])).2.2.1):Int)==(1:Int)) else false) then ((List.getD ((Gq 1 1 ([(4607182418800017408:Int)]) 1 1 ([(4607182418800017408:Int)]) 1 1 ([(0:Int)]) 1 1 ([(4613937818241073152:Int)])).2.2.1) 0 0)==(4613937818241073152:Int)) else false)) else none else none :=
  Eq.trans (by kernel_rfl)
  (Ew (Am (Su (((Gq 1 1 ([(4607182418800017408:Int)]) 1 1 ([(4607182418800017408:Int)]) 1 1 ([(0:Int)]) 1 1 ([(4613937818241073152:Int)])).2.2.2)==(0:Int))) (Am (Qz (((Gq 1 1 ([(4607182418800017408:Int)]) 1 1 ([(4607182418800017408:Int)]) 1 1 ([(0:Int)]) 1 1 ([(4613937818241073152:Int)])).2.2.2)==(0:Int))) (Am (Qz (((Gq 1 1 ([(4607182418800017408:Int)]) 1 1 ([(4607182418800017408:Int)]) 1 1 ([(0:Int)]) 1 1 ([(4613937818241073152:Int)])).2.2.2)==(0:Int))) (Am (Qz (((Gq 1 1 ([(4607182418800017408:Int)]) 1 1 ([(4607182418800017408:Int)]) 1 1 ([(0:Int)]) 1 1 ([(4613937818241073152:Int)])).2.2.2)==(0:Int))) (Am (Vw (((Gq 1 1 ([(4607182418800017408:Int)]) 1 1 ([(4607182418800017408:Int)]) 1 1 ([(0:Int)]) 1 1 ([(4613937818241073152:Int)])).2.2.2)==(0:Int))) (Am (tt77 (((Gq 1 1 ([(4607182418800017408:Int)]) 1 1 ([(4607182418800017408:Int)]) 1 1 ([(0:Int)]) 1 1 ([(4613937818241073152:Int)])).2.2.2)==(0:Int)) ((List.length ((Gq 1 1 ([(4607182418800017408:Int)]) 1 1 ([(4607182418800017408:Int)]) 1 1 ([(0:Int)]) 1 1 ([(4613937818241073152:Int)])).2.2.1):Int)==(1:Int))) (Am (Aco (((Gq 1 1 ([(4607182418800017408:Int)]) 1 1 ([(4607182418800017408:Int)]) 1 1 ([(0:Int)]) 1 1 ([(4613937818241073152:Int)])).2.2.2)==(0:Int)) ((List.length ((Gq 1 1 ([(4607182418800017408:Int)]) 1 1 ([(4607182418800017408:Int)]) 1 1 ([(0:Int)]) 1 1 ([(4613937818241073152:Int)])).2.2.1):Int)==(1:Int))) (Dp (tt86 (((Gq 1 1 ([(4607182418800017408:Int)]) 1 1 ([(4607182418800017408:Int)]) 1 1 ([(0:Int)]) 1 1 ([(4613937818241073152:Int)])).2.2.2)==(0:Int)) ((List.length ((Gq 1 1 ([(4607182418800017408:Int)]) 1 1 ([(4607182418800017408:Int)]) 1 1 ([(0:Int)]) 1 1 ([(4613937818241073152:Int)])).2.2.1):Int)==(1:Int)) (decide ((0:Int)<(List.length ((Gq 1 1 ([(4607182418800017408:Int)]) 1 1 ([(4607182418800017408:Int)]) 1 1 ([(0:Int)]) 1 1 ([(4613937818241073152:Int)])).2.2.1):Int)))) (Am (Aco (((Gq 1 1 ([(4607182418800017408:Int)]) 1 1 ([(4607182418800017408:Int)]) 1 1 ([(0:Int)]) 1 1 ([(4613937818241073152:Int)])).2.2.2)==(0:Int)) ((List.length ((Gq 1 1 ([(4607182418800017408:Int)]) 1 1 ([(4607182418800017408:Int)]) 1 1 ([(0:Int)]) 1 1 ([(4613937818241073152:Int)])).2.2.1):Int)==(1:Int))) (Am (Aco (((Gq 1 1 ([(4607182418800017408:Int)]) 1 1 ([(4607182418800017408:Int)]) 1 1 ([(0:Int)]) 1 1 ([(4613937818241073152:Int)])).2.2.2)==(0:Int)) ((List.length ((Gq 1 1 ([(4607182418800017408:Int)]) 1 1 ([(4607182418800017408:Int)]) 1 1 ([(0:Int)]) 1 1 ([(4613937818241073152:Int)])).2.2.1):Int)==(1:Int))) (Am (tt75 (((Gq 1 1 ([(4607182418800017408:Int)]) 1 1 ([(4607182418800017408:Int)]) 1 1 ([(0:Int)]) 1 1 ([(4613937818241073152:Int)])).2.2.2)==(0:Int)) ((List.length ((Gq 1 1 ([(4607182418800017408:Int)]) 1 1 ([(4607182418800017408:Int)]) 1 1 ([(0:Int)]) 1 1 ([(4613937818241073152:Int)])).2.2.1):Int)==(1:Int))) rfl))) rfl)))))))) rfl)
abbrev _root_.Go.Proofs.S1.Bf.Fq.Kn:=A4 Try.prog 7 Bf.Fq.spec
theorem Bf.Fq.Ae (hk:Av Try.prog Bf.Fq.A8) (h:∀ (_:Unit),Bf.Fq.pre []=true→Bd Bf.Fq.E Try.f7 [] (Bf.Fq.out [])):Bf.Fq.Kn :=
  Aj (Ax hk _ _ _) Try.func7 (by kernel_rfl) (by kernel_rfl) (h ())
def Bf.task.A8:List (Nat × Entry):=[]
def Bf.task.E:Env:=Ba (A6 Bf.task.A8) (fun _=>false) (fun _=>none) (fun _=>none)
theorem Bf.task.ev (N:Nat) (r c:Int) (l:List Int) (p q:Int) (m:List Int) (a b:Int) (g:List Int) (u v:Int) (h:List Int):Bo Bf.task.E N Try.f6 (An Try.f6) [.agg [.int .i64 r,.int .i64 c,.ints .arg .u64 l,.int .i64 p,.int .i64 q,.ints .arg .u64 m,.int .i64 a,.int .i64 b,.ints .arg .u64 g,.int .i64 u,.int .i64 v,.ints .arg .u64 h]]=some (.agg [.int .i64 r,.int .i64 c,.ints .arg .u64 l,.int .i64 p,.int .i64 q,.ints .arg .u64 m,.int .i64 a,.int .i64 b,.ints .arg .u64 g,.int .i64 u,.int .i64 v,.ints .arg .u64 h]):=by kernel_rfl
abbrev _root_.Go.Proofs.S1.Bf.task.Kn:=A4 Try.prog 6 Bf.task.spec
theorem Bf.task.Ae (hk:Av Try.prog Bf.task.A8) (h:∀ (r c:Int) (l:List Int) (p q:Int) (m:List Int) (a b:Int) (g:List Int) (u v:Int) (h:List Int),Bf.task.pre [.i r,.i c,.l l,.i p,.i q,.l m,.i a,.i b,.l g,.i u,.i v,.l h]=true→Bd Bf.task.E Try.f6 [.agg [.int .i64 r,.int .i64 c,.ints .arg .u64 l,.int .i64 p,.int .i64 q,.ints .arg .u64 m,.int .i64 a,.int .i64 b,.ints .arg .u64 g,.int .i64 u,.int .i64 v,.ints .arg .u64 h]] (Bf.task.out [.i r,.i c,.l l,.i p,.i q,.l m,.i a,.i b,.l g,.i u,.i v,.l h])):Bf.task.Kn :=
  Aj (Ax hk _ _ _) Try.func6 (by kernel_rfl) (by kernel_rfl) h
def Bf.Ce.A8:List (Nat × Entry):=[(7,Bf.Fq.spec),(6,Bf.task.spec),(4,Cd.Check.spec),(5,Fc.Check.spec)]
def Bf.Ce.E:Env:=Ba (A6 Bf.Ce.A8) (fun _=>false) (fun _=>none) (fun _=>none)
theorem Bf.Ce.ev (N:Nat) (r c:Int) (l:List Int) (p q:Int) (m:List Int) (a b:Int) (g:List Int) (u v:Int) (h:List Int):Bo Bf.Ce.E N Try.f3 (An Try.f3) [.agg [.int .i64 r,.int .i64 c,.ints .arg .u64 l,.int .i64 p,.int .i64 q,.ints .arg .u64 m,.int .i64 a,.int .i64 b,.ints .arg .u64 g,.int .i64 u,.int .i64 v,.ints .arg .u64 h]]=bif (L8 l m g h) then bif (L8 l m g h) then some (.bool (bif ((F9 r c l p q m a b g u v h)==(F9 r c l p q m a b g u v h)) then true else false)) else none else none :=
  Eq.trans (by kernel_rfl)
  (Dp (Eh (L8 l m g h)) (Dp (Eh (L8 l m g h)) (Am (tt88 ((F9 r c l p q m a b g u v h)==(F9 r c l p q m a b g u v h))) (Am (tt87 ((F9 r c l p q m a b g u v h)==(F9 r c l p q m a b g u v h))) rfl)) rfl) rfl)
abbrev _root_.Go.Proofs.S1.Bf.Ce.Kn:=A4 Try.prog 3 Bf.Ce.spec
theorem Bf.Ce.Ae (hk:Av Try.prog Bf.Ce.A8) (h:∀ (r c:Int) (l:List Int) (p q:Int) (m:List Int) (a b:Int) (g:List Int) (u v:Int) (h:List Int),Bf.Ce.pre [.i r,.i c,.l l,.i p,.i q,.l m,.i a,.i b,.l g,.i u,.i v,.l h]=true→Bd Bf.Ce.E Try.f3 [.agg [.int .i64 r,.int .i64 c,.ints .arg .u64 l,.int .i64 p,.int .i64 q,.ints .arg .u64 m,.int .i64 a,.int .i64 b,.ints .arg .u64 g,.int .i64 u,.int .i64 v,.ints .arg .u64 h]] (Bf.Ce.out [.i r,.i c,.l l,.i p,.i q,.l m,.i a,.i b,.l g,.i u,.i v,.l h])):Bf.Ce.Kn :=
  Aj (Ax hk _ _ _) Try.func3 (by kernel_rfl) (by kernel_rfl) h
end EqLaw20
open EqLaw20
theorem Bf.task.known:Bf.task.Kn:=Bf.task.Ae .nil fun r c l p q m a b g u v h _ =>
  ⟨0,_,[],Bf.task.ev 0 r c l p q m a b g u v h,Wk.Hr (.cons .int (.cons .int (.cons .Xn (.cons .int (.cons .int (.cons .Xn (.cons .int (.cons .int (.cons .Xn (.cons .int (.cons .int (.cons .Xn .nil))))))))))))⟩
theorem Bf.one.known:Bf.one.Kn:=Bf.one.Ae .nil fun b _ =>
  ⟨0,_,[4],Bf.one.ev 0 b,Xv (List.mem_singleton.2 rfl)⟩
theorem Agf:Gq 1 1 [4607182418800017408] 1 1 [4607182418800017408] 1 1 [0] 1 1 [4613937818241073152]=(1,1,[4613937818241073152],0):=by decide +kernel
theorem Yt {x:Int} (h:decide (0≤x∧x<18446744073709551616)=true):Af [x]=true:=Ar.2 fun y hy=>by
  rw [List.mem_singleton.1 hy]; exact Ar.2 (of_decide_eq_true h)
theorem Pc:L8 [4607182418800017408] [4607182418800017408] [0] [4613937818241073152]=true:=by
  unfold L8
  rw [Yt (by decide),Yt (x:=0) (by decide),Yt (x:=4613937818241073152) (by decide)]; rfl
theorem Bf.Fq.known:Bf.Fq.Kn:=Bf.Fq.Ae (.cons Bf.one.known (.cons Cd.Solve.known .nil)) fun _ _=>by
  refine ⟨0,Bf.Fq.out [],[],?_,.bool⟩
  rw [Bf.Fq.ev,Pc,Agf]
  rfl
theorem Bf.Ce.known:Bf.Ce.Kn:=Bf.Ce.Ae (.cons Bf.Fq.known (.cons Bf.task.known (.cons Cd.Check.known (.cons Fc.Check.known .nil)))) fun r c l p q m a b g u v h hp=>by
  refine ⟨0,Bf.Ce.out [.i r,.i c,.l l,.i p,.i q,.l m,.i a,.i b,.l g,.i u,.i v,.l h],[],?_,.bool⟩
  show _=some (DV.bool true)
  rw [Bf.Ce.ev,show L8 l m g h=true from hp,beq_self_eq_true]
  rfl
end Go.Proofs.S1
end
