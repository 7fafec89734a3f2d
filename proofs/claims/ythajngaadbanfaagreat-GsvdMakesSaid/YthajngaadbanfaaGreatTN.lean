/- A verified evaluator of the program's form and its use for this seat: S1PMx, S1EqGg, S1PGg, S1EqRidge, S1PRidge, S1EqRef22, S1PRef22, S1EqLaw17, S1PLaw17, S1EqLaw22, S1PLaw22, S1EqTot, S1PTot, S1PGgA, S1EqRef21, S1PRef21, S1EqGsv, S1EqRef23, S1PGs, S1EqLaw23, S1PGsA, S1PLaw23. -/
import Derived.Test.YthajngaadbanfaaGreatTM
import Derived.Test.YthajngaadbanfaaGreatTE
import Derived.Test.YthajngaadbanfaaGreatTF
import Derived.Test.YthajngaadbanfaaGreatTL
set_option linter.unusedVariables false
set_option linter.unusedSimpArgs false
noncomputable section
open Int (toNat)
open List (length getD)
open Go.Proofs.Tryz
namespace Go.Proofs.S1
open Go Go.Den Go.Rnd Go.Proofs
def P6 (R C:Nat) (x:MX):Prop:=∃ l,x=((R:Int),(C:Int),l,0)∧R≤6∧C≤6∧l.length=R*C∧Al l=true
def FM (x:MX):Prop:=Dc x.2.2.1=true
theorem FM.of {r c e:Int} {l:List Int} (h:Dc l=true):FM (r,c,l,e):=h
theorem P6.mk {R C:Nat} {l:List Int} (r6:R≤6) (c6:C≤6) (hl:l.length=R*C) (al:Al l=true):P6 R C ((R:Int),(C:Int),l,0):=⟨l,rfl,r6,c6,hl,al⟩
section
variable {R C K:Nat} {x y:MX}
theorem P6.right (h:P6 R C x):A0 x.1 x.2.1 x.2.2.1=true:=by
 obtain ⟨l,rfl,r6,c6,hl,al⟩:=h
 exact Em r6 c6 hl
theorem P6.inn (h:P6 R C x):Al x.2.2.1=true:=by obtain ⟨l,rfl,r6,c6,hl,al⟩:=h; exact al
theorem P6.rows (h:P6 R C x):x.1=R:=by obtain ⟨l,rfl,_⟩:=h; rfl
theorem P6.Apm (h:P6 R C x):x.2.1=C:=by obtain ⟨l,rfl,_⟩:=h; rfl
theorem P6.r6 (h:P6 R C x):R≤6:=by obtain ⟨l,rfl,r6,_⟩:=h; exact r6
theorem P6.c6 (h:P6 R C x):C≤6:=by obtain ⟨l,rfl,_,c6,_⟩:=h; exact c6
theorem P6.len (h:P6 R C x):x.2.2.1.length≤36:=by
 obtain ⟨l,rfl,r6,c6,hl,_⟩:=h
 have:=A5c r6 c6
 show l.length≤36
 omega
theorem P6.chk (h:P6 R C x) (f:FM x):A3s x=0:=Atz h.right f
theorem Vw {i k a b:Nat} (ha:i+a≤R) (hb:k+b≤C):Ia (R:Int) (C:Int) (i:Int) (k:Int) (a:Int) (b:Int)=true:=A4h (by omega)
theorem P6.part {i k a b:Nat} (h:P6 R C x) (ha:i+a≤R) (hb:k+b≤C):P6 a b (Q6 x i k a b):=by
 have hr:=h.right
 obtain ⟨l,rfl,r6,c6,hl,al⟩:=h
 refine ⟨_,by unfold Q6 Cv; dsimp only; rw [A43 hr,A43 (Vw ha hb)],by omega,by omega,by rw [Cl,A4i,A4i],Mk fun _ _=>At7 al⟩
theorem FM.part {i k a b:Nat} (h:P6 R C x) (f:FM x) (ha:i+a≤R) (hb:k+b≤C):FM (Q6 x i k a b):=by
 have hr:=h.right
 obtain ⟨l,rfl,r6,c6,hl,al⟩:=h
 unfold Q6 Cv
 dsimp only
 rw [A43 hr,A43 (Vw ha hb)]
 exact .of (Ata fun _ _=>Ayv (show Dc _=true from f))
theorem P6.mul (h:P6 R K x) (g:P6 K C y):P6 R C (mulM x y):=by
 have hr:=h.right
 have hg:=g.right
 obtain ⟨l,rfl,r6,c6,hl,al⟩:=h
 obtain ⟨m,rfl,p6,q6,hm,am⟩:=g
 refine ⟨_,by unfold mulM O7; rw [hr,hg,A4m,A43 rfl,A43 rfl],r6,q6,by rw [Cl,A4i,A4i],Mk fun _ _=>G6 _ _⟩
theorem P6.fac (h:P6 R C x) (e:Fa x.1 x.2.1 x.2.2.1=0):P6 R R (qX x.1 x.2.1 x.2.2.1)∧P6 R C (rX x.1 x.2.1 x.2.2.1)∧FM (qX x.1 x.2.1 x.2.2.1)∧FM (rX x.1 x.2.1 x.2.2.1):=by
 obtain ⟨l,rfl,r6,c6,hl,al⟩:=h
 obtain ⟨q1,g1⟩:=Vt e
 obtain ⟨A,B,eA,eB,_,_,_,aq,hq,ar,hr,fq,fr⟩:=Abn al e
 dsimp only at eA eB
 obtain rfl:A=R:=by omega
 obtain rfl:B=C:=by omega
 dsimp only at q1 g1 ⊢
 rw [q1,g1]
 rw [A4i,A4i]
 exact ⟨.mk r6 r6 hq aq,.mk r6 c6 hr ar,fq,fr⟩
end
set_option maxRecDepth 100000
namespace EqGg
end EqGg
open EqGg
theorem Azl {drops:List Nat} {r c:Int} {l:List Int}:Wk drops (.agg [.int .i64 r,.int .i64 c,.ints .fresh .u64 l]) (.agg [.int .i64 r,.int .i64 c,.ints .fresh .u64 l]):=Wk.F7 (.cons .int (.cons .int (.cons .Jh .nil)))
section
variable {N:Nat} {r c p q u v:Int} {l m h:List Int} {R Q T C W:MX}
end
section
variable {N:Nat} {r c p q:Int} {l m:List Int} {Q L S w o y:MX}
end
namespace EqRidge
end EqRidge
open EqRidge
section
variable {r c p q u v x:Int} {l m h:List Int}
end
namespace EqRef22
end EqRef22
open EqRef22
namespace EqLaw17
end EqLaw17
open EqLaw17
namespace EqLaw22
end EqLaw22
open EqLaw22
namespace EqTot
end EqTot
open EqTot
theorem X6 {r c:Int} {l:List Int} (h:D5 r c l=0):A0 r c l=true∧Dc l=true:=by
 unfold D5 at h
 by_cases h1:A0 r c l=true
 ·rw [A43 h1] at h
  by_cases h2:Dc l=true
  ·exact ⟨h1,h2⟩
  ·rw [A42 h2] at h; cases h
 ·rw [A42 h1] at h; cases h
section
variable {C:Nat} {V:List Int} (c6:C<6) (hV:V.length=(C+1)*(C+1)) (aV:Al V=true) (N:Nat)
include c6 aV
include hV
end
section
variable {C:Nat} {V:List Int} (c6:C<6) (hV:V.length=(C+1)*(C+1)) (aV:Al V=true) (N:Nat) (p7 p7_1:Int) (p7_2 p7_6:List Int) (p7_7:Int)
include c6 hV aV
end
open EqGg
section
variable {N:Nat} {r c p q u v:Int} {l m h:List Int} {T C E c1 c2 e1 e2 y d f x:MX}
end
namespace EqRef21
abbrev _root_.Go.Proofs.S1.Ae.Part.m.Kn:Prop:=A8 prog 72 Ae.Part.m.spec
abbrev _root_.Go.Proofs.S1.Ae.Mul.m.Kn:Prop:=A8 prog 73 Ae.Mul.m.spec
end EqRef21
open EqRef21
theorem Awx {drops:List Nat} {x:MX} {r c:Int} {l:List Int} (e:x=(r,c,l,0)):Wk drops (.agg [.int .i64 r,.int .i64 c,.ints .fresh .u64 l]) (.agg [.int .i64 x.1,.int .i64 x.2.1,.ints .fresh .u64 x.2.2.1]):=by rw [e]; exact Azl
theorem Ae.Part.m.known:Ae.Part.m.Kn:=A8.Agl (P:=_) (pre:=Ae.Part.pre) (out:=Ae.Part.out) Ae.Part.known [] fun ats h=>by
 unfold Ae.Part.m.pre at h
 split at h
 ·obtain ⟨h1,h2⟩:=Ac.1 h
  exact ⟨h,Awx (by unfold Cv; rw [A43 h1,A43 h2])⟩
 ·cases h
theorem Ae.Mul.m.known:Ae.Mul.m.Kn:=A8.Agl (P:=_) (pre:=Ae.Mul.pre) (out:=Ae.Mul.out) Ae.Mul.known [] fun ats h=>by
 unfold Ae.Mul.m.pre at h
 split at h
 ·obtain ⟨h1,h2⟩:=Ac.1 h
  exact ⟨h,Awx (by unfold O7; rw [A43 h1,A43 (A46 (Ac.1 h2).2)])⟩
 ·cases h
namespace EqGsv
def Cf.Check.hint:Nat→Option Ba
 | 0=>some { keep:=[2,3,10,11],objs:=[],boxes:=[2,3] }
 | _=>none
def Cf.Check.Bc:List (Nat × Entry):=[(69,Dv.Check.spec)]
def Cf.Check.E:Env:=Bi (Be Cf.Check.Bc) (fun _=>false) Cf.Check.hint (fun _=>none)
theorem Cf.Check.ev (N:Nat) (r c:Int) (l:List Int) (p q:Int) (m:List Int):B0 Cf.Check.E (N+4) f27 (Ak f27) [.agg [.int .i64 r,.int .i64 c,.ints .arg .u64 l],.agg [.int .i64 p,.int .i64 q,.ints .arg .u64 m]]=bif (Al l) then bif ((D5 r c l) !=(0:Int)) then some (.int .i64 (D5 r c l)) else bif (Al m) then bif ((D5 p q m) !=(0:Int)) then some (.int .i64 (D5 p q m)) else bif ((((c !=q)||(Bb c 1))||(Bb (Ab (r+p)) c))||(Bb 6 (Ab (r+p)))) then some (.int .i64 3) else some (.int .i64 0) else none else none :=
 Eq.trans (by kernel_rfl)
 (E1 (E1 rfl (E1 (E1 rfl (Ax (W4 (c !=q)) (Ax (T8 (c !=q)) (Ax (T8 (c !=q)) (Ax (tt6 (c !=q)) (Ax (Zt (c !=q) (Bb c 1)) (Ax (Ab7 (c !=q) (Bb c 1)) (Ax (Zt (c !=q) (Bb c 1)) (Ax (Ab7 (c !=q) (Bb c 1)) (Ax (Zt (c !=q) (Bb c 1)) (Ax (Ab7 (c !=q) (Bb c 1)) (Ax (Anc (c !=q) (Bb c 1)) (Ax (Anc (c !=q) (Bb c 1)) (Ax (Aql (c !=q) (Bb c 1)) (Ax (Agp (c !=q) (Bb c 1) (Bb (Ab (r+p)) c)) (Ax (Aeq (c !=q) (Bb c 1) (Bb (Ab (r+p)) c)) (Ax (Agp (c !=q) (Bb c 1) (Bb (Ab (r+p)) c)) (Ax (Aeq (c !=q) (Bb c 1) (Bb (Ab (r+p)) c)) (Ax (Axs (c !=q) (Bb c 1) (Bb (Ab (r+p)) c)) (Ax (Aeq (c !=q) (Bb c 1) (Bb (Ab (r+p)) c)) (Ax (Aqm (c !=q) (Bb c 1) (Bb (Ab (r+p)) c)) (Cw (Az6 _ _ _ _) rfl rfl)))))))))))))))))))))) rfl)) rfl)
abbrev _root_.Go.Proofs.S1.Cf.Check.Kn:=A8 prog 27 Cf.Check.spec
theorem Cf.Check.Ad (hk:A2 prog Cf.Check.Bc) (h:Hyp Cf.Check.E f27 Cf.Check.ts Cf.Check.pre Cf.Check.out):Cf.Check.Kn :=
 Am (A5 hk _ _ _) func27 (by kernel_rfl) (by kernel_rfl) h
def Cf.Bn.hint:Nat→Option Ba
 | 0=>some { keep:=[4,19,21,100,101],objs:=[(22,13,122013,.ints 43 .u64 [])],boxes:=[4,19,21] }
 | _=>none
def Cf.Bn.Bc:List (Nat × Entry):=[(27,Cf.Check.spec),(68,Aa.D6.spec),(65,Aa.Mul.spec),(63,Aa.Part.spec),(61,Aa.Stack.spec),(62,qr.Gu.spec),(64,B4.Az.spec),(66,Ag.Finite.spec),(67,Ag.Norm.spec)]
def Cf.Bn.live:Nat→Option (List Nat)
 | 4=>some [2,3,4]
 | 7=>some [2,3,4,7]
 | 10=>some [2,3,4,9,10]
 | 13=>some [4,10,11,12,14]
 | 16=>some [4,10,11,14,16,17,18]
 | 19=>some [4,10,11,16,17,18,19]
 | 26=>some [4,21]
 | _=>none
def Cf.Bn.E:Env:=Bi (Be Cf.Bn.Bc) (fun _=>false) Cf.Bn.hint Cf.Bn.live
section
variable (N M:Nat) (r c:Int) (l:List Int) (p q:Int) (m:List Int) (p7 p7_1:Int) (p7_2:List Int) (p10 p10_1:Int) (p10_2:List Int) (p9 p9_1:Int) (p9_2:List Int) (p14 p14_1:Int) (p14_2:List Int) (p12 p12_1:Int) (p12_2 p18:List Int) (p17 p17_1:Int) (p17_2:List Int) (p16 p16_1:Int) (p16_2:List Int) (p19 p19_1:Int) (p19_2:List Int) (p101:Int) (p13:List Int)
def Cf.Bn.C4:Option DV:=cutAt Cf.Bn.E N f25 (Ak f25) [1,1] [] ⟨Ff 119 [(2,.ptr 2 0 0),(3,.ptr 3 0 0),(4,.ptr 4 0 0)],[(4,false,.box [.int .i64 0,.int .i64 0,.nil,.int .i64 0,.int .i64 0,.nil,.int .i64 0,.int .i64 0,.nil,.int .i64 0,.int .i64 0,.nil,.nil,.nil]),(3,false,.box [.int .i64 p,.int .i64 q,.ints .arg .u64 m]),(2,false,.box [.int .i64 r,.int .i64 c,.ints .arg .u64 l])]⟩
def Cf.Bn.C7:Option DV:=cutAt Cf.Bn.E N f25 (Ak f25) [1,1,1,1] [] ⟨Ff 119 [(2,.ptr 2 0 0),(3,.ptr 3 0 0),(4,.ptr 4 0 0),(7,.ptr 7 0 0)],[(7,false,.box [.int .i64 p7,.int .i64 p7_1,.ints .fresh .u64 p7_2]),(4,false,.box [.int .i64 0,.int .i64 0,.nil,.int .i64 0,.int .i64 0,.nil,.int .i64 0,.int .i64 0,.nil,.int .i64 0,.int .i64 0,.nil,.nil,.nil]),(3,false,.box [.int .i64 p,.int .i64 q,.ints .arg .u64 m]),(2,false,.box [.int .i64 r,.int .i64 c,.ints .arg .u64 l])]⟩
def Cf.Bn.C10:Option DV:=cutAt Cf.Bn.E N f25 (Ak f25) [1,1,1,1,1,1] [] ⟨Ff 119 [(2,.ptr 2 0 0),(3,.ptr 3 0 0),(4,.ptr 4 0 0),(9,.ptr 9 0 0),(10,.ptr 10 0 0)],[(10,false,.box [.int .i64 p10,.int .i64 p10_1,.ints .fresh .u64 p10_2]),(9,false,.box [.int .i64 p9,.int .i64 p9_1,.ints .fresh .u64 p9_2]),(7,false,.box [.int .i64 p7,.int .i64 p7_1,.ints .fresh .u64 p7_2]),(4,false,.box [.int .i64 0,.int .i64 0,.nil,.int .i64 0,.int .i64 0,.nil,.int .i64 0,.int .i64 0,.nil,.int .i64 0,.int .i64 0,.nil,.nil,.nil]),(3,false,.box [.int .i64 p,.int .i64 q,.ints .arg .u64 m]),(2,false,.box [.int .i64 r,.int .i64 c,.ints .arg .u64 l])]⟩
def Cf.Bn.C13:Option DV:=cutAt Cf.Bn.E N f25 (Ak f25) [1,1,1,1,1,1,1,1,1] [] ⟨Ff 119 [(4,.ptr 4 0 0),(10,.ptr 10 0 0),(11,.int .i64 c),(12,.ptr 12 0 0),(14,.ptr 14 0 0)],[(14,false,.box [.int .i64 p14,.int .i64 p14_1,.ints .fresh .u64 p14_2]),(12,false,.box [.int .i64 p12,.int .i64 p12_1,.ints .fresh .u64 p12_2]),(10,false,.box [.int .i64 p10,.int .i64 p10_1,.ints .fresh .u64 p10_2]),(9,false,.box [.int .i64 p9,.int .i64 p9_1,.ints .fresh .u64 p9_2]),(7,false,.box [.int .i64 p7,.int .i64 p7_1,.ints .fresh .u64 p7_2]),(4,false,.box [.int .i64 0,.int .i64 0,.nil,.int .i64 0,.int .i64 0,.nil,.int .i64 0,.int .i64 0,.nil,.int .i64 0,.int .i64 0,.nil,.nil,.nil]),(3,false,.box [.int .i64 p,.int .i64 q,.ints .arg .u64 m]),(2,false,.box [.int .i64 r,.int .i64 c,.ints .arg .u64 l])]⟩
def Cf.Bn.C16:Option DV:=cutAt Cf.Bn.E N f25 (Ak f25) [1,1,1,1,1,1,1,1,1,1,1] [] ⟨Ff 119 [(4,.ptr 4 0 0),(10,.ptr 10 0 0),(11,.int .i64 c),(14,.ptr 14 0 0),(16,.ptr 16 0 0),(17,.ptr 17 0 0),(18,.ints .fresh .u64 p18)],[(17,false,.box [.int .i64 p17,.int .i64 p17_1,.ints .fresh .u64 p17_2]),(16,false,.box [.int .i64 p16,.int .i64 p16_1,.ints .arg .u64 p16_2]),(14,false,.box [.int .i64 p14,.int .i64 p14_1,.ints .fresh .u64 p14_2]),(12,false,.box [.int .i64 p12,.int .i64 p12_1,.ints .fresh .u64 p12_2]),(10,false,.box [.int .i64 p10,.int .i64 p10_1,.ints .fresh .u64 p10_2]),(9,false,.box [.int .i64 p9,.int .i64 p9_1,.ints .fresh .u64 p9_2]),(7,false,.box [.int .i64 p7,.int .i64 p7_1,.ints .fresh .u64 p7_2]),(4,false,.box [.int .i64 0,.int .i64 0,.nil,.int .i64 0,.int .i64 0,.nil,.int .i64 0,.int .i64 0,.nil,.int .i64 0,.int .i64 0,.nil,.nil,.nil]),(3,false,.box [.int .i64 p,.int .i64 q,.ints .arg .u64 m]),(2,false,.box [.int .i64 r,.int .i64 c,.ints .arg .u64 l])]⟩
def Cf.Bn.C19:Option DV:=cutAt Cf.Bn.E N f25 (Ak f25) [1,1,1,1,1,1,1,1,1,1,1,1,1] [] ⟨Ff 119 [(4,.ptr 4 0 0),(10,.ptr 10 0 0),(11,.int .i64 c),(16,.ptr 16 0 0),(17,.ptr 17 0 0),(18,.ints .fresh .u64 p18),(19,.ptr 19 0 0)],[(19,false,.box [.int .i64 p19,.int .i64 p19_1,.ints .fresh .u64 p19_2]),(17,false,.box [.int .i64 p17,.int .i64 p17_1,.ints .fresh .u64 p17_2]),(16,false,.box [.int .i64 p16,.int .i64 p16_1,.ints .arg .u64 p16_2]),(14,false,.box [.int .i64 p14,.int .i64 p14_1,.ints .fresh .u64 p14_2]),(12,false,.box [.int .i64 p12,.int .i64 p12_1,.ints .fresh .u64 p12_2]),(10,false,.box [.int .i64 p10,.int .i64 p10_1,.ints .fresh .u64 p10_2]),(9,false,.box [.int .i64 p9,.int .i64 p9_1,.ints .fresh .u64 p9_2]),(7,false,.box [.int .i64 p7,.int .i64 p7_1,.ints .fresh .u64 p7_2]),(4,false,.box [.int .i64 0,.int .i64 0,.nil,.int .i64 0,.int .i64 0,.nil,.int .i64 0,.int .i64 0,.nil,.int .i64 0,.int .i64 0,.nil,.nil,.nil]),(3,false,.box [.int .i64 p,.int .i64 q,.ints .arg .u64 m]),(2,false,.box [.int .i64 r,.int .i64 c,.ints .arg .u64 l])]⟩
def Cf.Bn.L0:Option DV:=B8 Cf.Bn.E N f25 (Ak f25) [1,1,1,1,1,1,1,1,1,1,1,1,1,1,0,1,0] [] M ⟨Ff 119 [(4,.ptr 4 0 0),(19,.ptr 19 0 0),(21,.ptr 21 0 0),(100,.int .i64 c),(101,.int .i64 p101)],[(4,false,.box [.int .i64 0,.int .i64 0,.nil,.int .i64 0,.int .i64 0,.nil,.int .i64 0,.int .i64 0,.nil,.int .i64 0,.int .i64 0,.nil,.nil,.nil]),(19,false,.box [.int .i64 p19,.int .i64 p19_1,.ints .fresh .u64 p19_2]),(21,false,.box [.int .i64 p16,.int .i64 p16_1,.ints .arg .u64 p16_2,.int .i64 p19,.int .i64 p19_1,.ints .fresh .u64 p19_2,.int .i64 p17,.int .i64 p17_1,.ints .fresh .u64 p17_2,.int .i64 p10,.int .i64 p10_1,.ints .fresh .u64 p10_2,.ints .fresh .u64 p18,.oref 122013]),(122013,false,.ints 43 .u64 p13)]⟩
def Cf.Bn.C26:Option DV:=cutAt Cf.Bn.E N f25 (Ak f25) [1,1,1,1,1,1,1,1,1,1,1,1,1,1,1] [] ⟨Ff 119 [(4,.ptr 4 0 0),(21,.ptr 21 0 0)],[(4,false,.box [.int .i64 0,.int .i64 0,.nil,.int .i64 0,.int .i64 0,.nil,.int .i64 0,.int .i64 0,.nil,.int .i64 0,.int .i64 0,.nil,.nil,.nil]),(19,false,.box [.int .i64 p19,.int .i64 p19_1,.ints .fresh .u64 p19_2]),(21,false,.box [.int .i64 p16,.int .i64 p16_1,.ints .arg .u64 p16_2,.int .i64 p19,.int .i64 p19_1,.ints .fresh .u64 p19_2,.int .i64 p17,.int .i64 p17_1,.ints .fresh .u64 p17_2,.int .i64 p10,.int .i64 p10_1,.ints .fresh .u64 p10_2,.ints .fresh .u64 p18,.oref 122013]),(122013,false,.ints 43 .u64 p13)]⟩
theorem Cf.Bn.Ajg:Cf.Bn.C4 N r c l p q m=bif (((L4 r c l p q m).2.2.2) !=(0:Int)) then some (.tup [.agg [.int .i64 0,.int .i64 0,.nil,.int .i64 0,.int .i64 0,.nil,.int .i64 0,.int .i64 0,.nil,.int .i64 0,.int .i64 0,.nil,.nil,.nil],.int .i64 ((L4 r c l p q m).2.2.2)]) else Cf.Bn.C7 N r c l p q m ((L4 r c l p q m).1) ((L4 r c l p q m).2.1) ((L4 r c l p q m).2.2.1):=(Di _ _ _ _ _ _ _).trans (by kernel_rfl)
theorem Cf.Bn.Aeg:Cf.Bn.C7 N r c l p q m p7 p7_1 p7_2=bif (Al p7_2) then bif ((Fa p7 p7_1 p7_2) !=(0:Int)) then some (.tup [.agg [.int .i64 0,.int .i64 0,.nil,.int .i64 0,.int .i64 0,.nil,.int .i64 0,.int .i64 0,.nil,.int .i64 0,.int .i64 0,.nil,.nil,.nil],.int .i64 (Fa p7 p7_1 p7_2)]) else Cf.Bn.C10 N r c l p q m p7 p7_1 p7_2 ((Og p7 p7_1 p7_2).1) ((Og p7 p7_1 p7_2).2.1) ((Og p7 p7_1 p7_2).2.2.1) ((Un p7 p7_1 p7_2).1) ((Un p7 p7_1 p7_2).2.1) ((Un p7 p7_1 p7_2).2.2.1) else none:=(Di _ _ _ _ _ _ _).trans (by kernel_rfl)
theorem Cf.Bn.Agf:Cf.Bn.C10 N r c l p q m p7 p7_1 p7_2 p10 p10_1 p10_2 p9 p9_1 p9_2 =
 Cf.Bn.C13 N r c l p q m p7 p7_1 p7_2 p10 p10_1 p10_2 p9 p9_1 p9_2 ((Cv p9 p9_1 p9_2 r 0 p c).1) ((Cv p9 p9_1 p9_2 r 0 p c).2.1) ((Cv p9 p9_1 p9_2 r 0 p c).2.2.1) ((Cv p9 p9_1 p9_2 0 0 r c).1) ((Cv p9 p9_1 p9_2 0 0 r c).2.1) ((Cv p9 p9_1 p9_2 0 0 r c).2.2.1):=(Di _ _ _ _ _ _ _).trans (by kernel_rfl)
theorem Cf.Bn.Age:Cf.Bn.C13 N r c l p q m p7 p7_1 p7_2 p10 p10_1 p10_2 p9 p9_1 p9_2 p14 p14_1 p14_2 p12 p12_1 p12_2=bif (Al p12_2) then bif ((Ht p12 p12_1 p12_2) !=(0:Int)) then some (.tup [.agg [.int .i64 0,.int .i64 0,.nil,.int .i64 0,.int .i64 0,.nil,.int .i64 0,.int .i64 0,.nil,.int .i64 0,.int .i64 0,.nil,.nil,.nil],.int .i64 (Ht p12 p12_1 p12_2)]) else Cf.Bn.C16 N r c l p q m p7 p7_1 p7_2 p10 p10_1 p10_2 p9 p9_1 p9_2 p14 p14_1 p14_2 p12 p12_1 p12_2 (O5 p12 p12_1 p12_2) ((Hg p12 p12_1 p12_2).1) ((Hg p12 p12_1 p12_2).2.1) ((Hg p12 p12_1 p12_2).2.2.1) ((Fq p12 p12_1 p12_2).1) ((Fq p12 p12_1 p12_2).2.1) ((Fq p12 p12_1 p12_2).2.2.1) else none:=(Di _ _ _ _ _ _ _).trans (by kernel_rfl)
theorem Cf.Bn.Alk:Cf.Bn.C16 N r c l p q m p7 p7_1 p7_2 p10 p10_1 p10_2 p9 p9_1 p9_2 p14 p14_1 p14_2 p12 p12_1 p12_2 p18 p17 p17_1 p17_2 p16 p16_1 p16_2=bif (Al p14_2&&Al p17_2) then bif (Bs ((O7 p14 p14_1 p14_2 p17 p17_1 p17_2).2.2.1)) then bif (!(Dc ((O7 p14 p14_1 p14_2 p17 p17_1 p17_2).2.2.1))) then some (.tup [.agg [.int .i64 0,.int .i64 0,.nil,.int .i64 0,.int .i64 0,.nil,.int .i64 0,.int .i64 0,.nil,.int .i64 0,.int .i64 0,.nil,.nil,.nil],.int .i64 2]) else Cf.Bn.C19 N r c l p q m p7 p7_1 p7_2 p10 p10_1 p10_2 p9 p9_1 p9_2 p14 p14_1 p14_2 p12 p12_1 p12_2 p18 p17 p17_1 p17_2 p16 p16_1 p16_2 ((O7 p14 p14_1 p14_2 p17 p17_1 p17_2).1) ((O7 p14 p14_1 p14_2 p17 p17_1 p17_2).2.1) ((O7 p14 p14_1 p14_2 p17 p17_1 p17_2).2.2.1) else none else none:=(Di _ _ _ _ _ _ _).trans (by kernel_rfl)
theorem Cf.Bn.Ay9:Cf.Bn.C19 N r c l p q m p7 p7_1 p7_2 p10 p10_1 p10_2 p9 p9_1 p9_2 p14 p14_1 p14_2 p12 p12_1 p12_2 p18 p17 p17_1 p17_2 p16 p16_1 p16_2 p19 p19_1 p19_2 =
 Cf.Bn.L0 N N c p10 p10_1 p10_2 p18 p17 p17_1 p17_2 p16 p16_1 p16_2 p19 p19_1 p19_2 0 []:=(Di _ _ _ _ _ _ _).trans (by kernel_rfl)
theorem Cf.Bn.Ar:Cf.Bn.L0 N (M+1) c p10 p10_1 p10_2 p18 p17 p17_1 p17_2 p16 p16_1 p16_2 p19 p19_1 p19_2 p101 p13=bif (Bb p101 c) then bif (Fv p19 p19_1 p19_2 p101&&B5 (0≤(0:Int)∧(0:Int)≤p19)) then bif (Bs (Ci p19_1 p19_2 p101 0 (toNat (p19-0)))&&B5 (length (Ci p19_1 p19_2 p101 0 (toNat (p19-0)))≤64)) then bif (decide ((length p13)+1≤Ha)) then Cf.Bn.L0 N M c p10 p10_1 p10_2 p18 p17 p17_1 p17_2 p16 p16_1 p16_2 p19 p19_1 p19_2 (Ab (p101+1)) (p13++[(Bt (Ci p19_1 p19_2 p101 0 (toNat (p19-0))))]) else none else none else none else Cf.Bn.C26 N p10 p10_1 p10_2 p18 p17 p17_1 p17_2 p16 p16_1 p16_2 p19 p19_1 p19_2 p13:=by kernel_rfl
theorem Cf.Bn.Ay7:Cf.Bn.C26 N p10 p10_1 p10_2 p18 p17 p17_1 p17_2 p16 p16_1 p16_2 p19 p19_1 p19_2 p13=some (.tup [.agg [.int .i64 p16,.int .i64 p16_1,.ints .arg .u64 p16_2,.int .i64 p19,.int .i64 p19_1,.ints .fresh .u64 p19_2,.int .i64 p17,.int .i64 p17_1,.ints .fresh .u64 p17_2,.int .i64 p10,.int .i64 p10_1,.ints .fresh .u64 p10_2,.ints .fresh .u64 p18,.ints (.own 122013 43) .u64 p13],.int .i64 0]):=(Di _ _ _ _ _ _ _).trans (by kernel_rfl)
theorem Cf.Bn.ev:B0 Cf.Bn.E N f25 (Ak f25) [.agg [.int .i64 r,.int .i64 c,.ints .arg .u64 l],.agg [.int .i64 p,.int .i64 q,.ints .arg .u64 m]]=bif (Al l&&Al m) then bif ((Zj r c l p q m) !=(0:Int)) then some (.tup [.agg [.int .i64 0,.int .i64 0,.nil,.int .i64 0,.int .i64 0,.nil,.int .i64 0,.int .i64 0,.nil,.int .i64 0,.int .i64 0,.nil,.nil,.nil],.int .i64 (Zj r c l p q m)]) else Cf.Bn.C4 N r c l p q m else none:=by kernel_rfl
end
abbrev _root_.Go.Proofs.S1.Cf.Bn.Kn:=A8 prog 25 Cf.Bn.spec
theorem Cf.Bn.Ad (hk:A2 prog Cf.Bn.Bc) (h:Hyp Cf.Bn.E f25 Cf.Bn.ts Cf.Bn.pre Cf.Bn.out):Cf.Bn.Kn :=
 Am (A5 hk _ _ _) func25 (by kernel_rfl) (by kernel_rfl) h
def Cf.Dn.hint:Nat→Option Ba
 | 0=>some { keep:=[3,4,9,10,11],objs:=[],boxes:=[] }
 | _=>none
def Cf.Dn.Bc:List (Nat × Entry):=[(78,compare.Lt.spec),(79,Ag.Bu.spec)]
def Cf.Dn.E:Env:=Bi (Be Cf.Dn.Bc) (fun _=>false) Cf.Dn.hint (fun _=>none)
section
variable (N:Nat) (a1 b1:Int) (l1:List Int) (a2 b2:Int) (l2:List Int) (a3 b3:Int) (l3:List Int) (a4 b4:Int) (l4 x:List Int) (M:Nat) (y:List Int) (p3 p11:Int)
def Cf.Dn.L0:Option DV:=B8 Cf.Dn.E N f46 (Ak f46) [1,1,1,0,1,0] [] M ⟨Ff 23 [(3,.int .i64 p3),(4,.int .u64 (Bg 4607182418800017408 (-40:Int))),(9,.ints .arg .u64 y),(10,.int .i64 (length y:Int)),(11,.int .i64 p11)],[]⟩
theorem Cf.Dn.Ar:Cf.Dn.L0 N (M+1) y p3 p11=bif (Bb p11 (length y:Int)) then bif ((decide (0≤p11))&&(decide (p11<(length y:Int)))) then bif (Af (Bg 4607182418800017408 (-40:Int))&&Af (getD y (toNat p11) 0)) then bif (!(decide (Hq (Bg 4607182418800017408 (-40:Int)) (getD y (toNat p11) 0)<0))) then Cf.Dn.L0 N M y (Ab (p3+1)) (Ab (p11+1)) else Cf.Dn.L0 N M y p3 (Ab (p11+1)) else none else none else some (.int .i64 p3):=by kernel_rfl
theorem Cf.Dn.ev:B0 Cf.Dn.E N f46 (Ak f46) [.agg [.int .i64 a1,.int .i64 b1,.ints .arg .u64 l1,.int .i64 a2,.int .i64 b2,.ints .arg .u64 l2,.int .i64 a3,.int .i64 b3,.ints .arg .u64 l3,.int .i64 a4,.int .i64 b4,.ints .arg .u64 l4,.ints .arg .u64 x,.ints .arg .u64 y]]=bif (Df 4607182418800017408 (-40:Int)) then Cf.Dn.L0 N N y 0 (0:Int) else none:=by kernel_rfl
end
abbrev _root_.Go.Proofs.S1.Cf.Dn.Kn:=A8 prog 46 Cf.Dn.spec
theorem Cf.Dn.Ad (hk:A2 prog Cf.Dn.Bc) (h:Hyp Cf.Dn.E f46 Cf.Dn.ts Cf.Dn.pre Cf.Dn.out):Cf.Dn.Kn :=
 Am (A5 hk _ _ _) func46 (by kernel_rfl) (by kernel_rfl) h
end EqGsv
namespace EqRef23
def Cu.Check.Bc:List (Nat × Entry):=[(35,Ij.Check.spec)]
def Cu.Check.E:Env:=Bi (Be Cu.Check.Bc) (fun _=>false) (fun _=>none) (fun _=>none)
theorem Cu.Check.ev (N:Nat) (r c:Int) (l:List Int) (p q:Int) (m:List Int):B0 Cu.Check.E N f28 (Ak f28) [.agg [.int .i64 r,.int .i64 c,.ints .arg .u64 l],.agg [.int .i64 p,.int .i64 q,.ints .arg .u64 m]]=bif (Al l) then bif ((D5 r c l) !=(0:Int)) then bif (Al l) then some (.int .i64 (D5 r c l)) else none else bif (Al m) then bif ((D5 p q m) !=(0:Int)) then bif (Al m) then some (.int .i64 (D5 p q m)) else none else bif ((((c !=q)||(Bb c 1))||(Bb (Ab (r+p)) c))||(Bb 6 (Ab (r+p)))) then some (.int .i64 3) else some (.int .i64 0) else none else none :=
 Eq.trans (by kernel_rfl)
 (E1 (E1 rfl (E1 (E1 rfl (Ax (W4 (c !=q)) (Ax (T8 (c !=q)) (Ax (T8 (c !=q)) (Ax (tt6 (c !=q)) (Ax (Zt (c !=q) (Bb c 1)) (Ax (Ab7 (c !=q) (Bb c 1)) (Ax (Zt (c !=q) (Bb c 1)) (Ax (Ab7 (c !=q) (Bb c 1)) (Ax (Zt (c !=q) (Bb c 1)) (Ax (Ab7 (c !=q) (Bb c 1)) (Ax (Anc (c !=q) (Bb c 1)) (Ax (Anc (c !=q) (Bb c 1)) (Ax (Aql (c !=q) (Bb c 1)) (Ax (Agp (c !=q) (Bb c 1) (Bb (Ab (r+p)) c)) (Ax (Aeq (c !=q) (Bb c 1) (Bb (Ab (r+p)) c)) (Ax (Agp (c !=q) (Bb c 1) (Bb (Ab (r+p)) c)) (Ax (Aeq (c !=q) (Bb c 1) (Bb (Ab (r+p)) c)) (Ax (Axs (c !=q) (Bb c 1) (Bb (Ab (r+p)) c)) (Ax (Aeq (c !=q) (Bb c 1) (Bb (Ab (r+p)) c)) (Ax (Aqm (c !=q) (Bb c 1) (Bb (Ab (r+p)) c)) (Cw (Az6 _ _ _ _) rfl rfl)))))))))))))))))))))) rfl)) rfl)
abbrev _root_.Go.Proofs.S1.Cu.Check.Kn:=A8 prog 28 Cu.Check.spec
theorem Cu.Check.Ad (hk:A2 prog Cu.Check.Bc) (h:Hyp Cu.Check.E f28 Cu.Check.ts Cu.Check.pre Cu.Check.out):Cu.Check.Kn :=
 Am (A5 hk _ _ _) func28 (by kernel_rfl) (by kernel_rfl) h
def Cu.Bn.Bc:List (Nat × Entry):=[(74,Ah.Finite.spec),(73,Ae.Mul.m.spec),(72,Ae.Part.m.spec),(71,Ae.Stack.spec),(70,Cb.Gu.spec),(75,Ao.F5.spec),(37,Ao.Az.spec),(28,Cu.Check.spec)]
def Cu.Bn.live:Nat→Option (List Nat)
 | 3=>some [2,3,4]
 | 6=>some [2,3,4,5]
 | 9=>some [2,3,4,5,6]
 | 12=>some [4,5,6,7]
 | _=>none
def Cu.Bn.E:Env:=Bi (Be Cu.Bn.Bc) (fun _=>false) (fun _=>none) Cu.Bn.live
section
variable (N:Nat) (r c:Int) (l:List Int) (p q:Int) (m:List Int) (p5 p5_1:Int) (p5_2:List Int) (p5_3 p5_4:Int) (p5_5:List Int) (p5_6:Bool) (p6 p6_1:Int) (p6_2:List Int) (p6_3 p6_4:Int) (p6_5 p6_6:List Int) (p6_7 p7 p7_1:Int) (p7_2:List Int)
def Cu.Bn.C3:Option DV:=cutAt Cu.Bn.E N f29 (Ak f29) [1,1] [] ⟨Ff 67 [(2,.ptr 2 0 0),(3,.ptr 3 0 0),(4,.ptr 4 0 0)],[(4,false,.box [.int .i64 0,.int .i64 0,.nil,.int .i64 0,.int .i64 0,.nil,.int .i64 0,.int .i64 0,.nil,.int .i64 0,.int .i64 0,.nil,.nil,.nil,.int .i64 0]),(3,false,.box [.int .i64 p,.int .i64 q,.ints .arg .u64 m]),(2,false,.box [.int .i64 r,.int .i64 c,.ints .arg .u64 l])]⟩
def Cu.Bn.C6:Option DV:=cutAt Cu.Bn.E N f29 (Ak f29) [1,1,1,1] [] ⟨Ff 67 [(2,.ptr 2 0 0),(3,.ptr 3 0 0),(4,.ptr 4 0 0),(5,.ptr 5 0 0)],[(5,false,.box [.int .i64 p5,.int .i64 p5_1,.ints .arg .u64 p5_2,.int .i64 p5_3,.int .i64 p5_4,.ints .arg .u64 p5_5,.bool p5_6]),(4,false,.box [.int .i64 0,.int .i64 0,.nil,.int .i64 0,.int .i64 0,.nil,.int .i64 0,.int .i64 0,.nil,.int .i64 0,.int .i64 0,.nil,.nil,.nil,.int .i64 0]),(3,false,.box [.int .i64 p,.int .i64 q,.ints .arg .u64 m]),(2,false,.box [.int .i64 r,.int .i64 c,.ints .arg .u64 l])]⟩
def Cu.Bn.C9:Option DV:=cutAt Cu.Bn.E N f29 (Ak f29) [1,1,1,1,1,1] [] ⟨Ff 67 [(2,.ptr 2 0 0),(3,.ptr 3 0 0),(4,.ptr 4 0 0),(5,.ptr 5 0 0),(6,.ptr 6 0 0)],[(6,false,.box [.int .i64 p6,.int .i64 p6_1,.ints .arg .u64 p6_2,.int .i64 p6_3,.int .i64 p6_4,.ints .arg .u64 p6_5,.ints .fresh .u64 p6_6,.int .i64 p6_7]),(5,false,.box [.int .i64 p5,.int .i64 p5_1,.ints .arg .u64 p5_2,.int .i64 p5_3,.int .i64 p5_4,.ints .arg .u64 p5_5,.bool p5_6]),(4,false,.box [.int .i64 0,.int .i64 0,.nil,.int .i64 0,.int .i64 0,.nil,.int .i64 0,.int .i64 0,.nil,.int .i64 0,.int .i64 0,.nil,.nil,.nil,.int .i64 0]),(3,false,.box [.int .i64 p,.int .i64 q,.ints .arg .u64 m]),(2,false,.box [.int .i64 r,.int .i64 c,.ints .arg .u64 l])]⟩
def Cu.Bn.C12:Option DV:=cutAt Cu.Bn.E N f29 (Ak f29) [1,1,1,1,1,1,1,1] [] ⟨Ff 67 [(4,.ptr 4 0 0),(5,.ptr 5 0 0),(6,.ptr 6 0 0),(7,.ptr 7 0 0)],[(7,false,.box [.int .i64 p7,.int .i64 p7_1,.ints .fresh .u64 p7_2]),(6,false,.box [.int .i64 p6,.int .i64 p6_1,.ints .arg .u64 p6_2,.int .i64 p6_3,.int .i64 p6_4,.ints .arg .u64 p6_5,.ints .fresh .u64 p6_6,.int .i64 p6_7]),(5,false,.box [.int .i64 p5,.int .i64 p5_1,.ints .arg .u64 p5_2,.int .i64 p5_3,.int .i64 p5_4,.ints .arg .u64 p5_5,.bool p5_6]),(4,false,.box [.int .i64 0,.int .i64 0,.nil,.int .i64 0,.int .i64 0,.nil,.int .i64 0,.int .i64 0,.nil,.int .i64 0,.int .i64 0,.nil,.nil,.nil,.int .i64 0]),(3,false,.box [.int .i64 p,.int .i64 q,.ints .arg .u64 m]),(2,false,.box [.int .i64 r,.int .i64 c,.ints .arg .u64 l])]⟩
theorem Cu.Bn.Auj:Cu.Bn.C3 N r c l p q m=bif ((A0 r c l&&A0 p q m)&&decide (q=c)) then bif ((A0 (r+p) c (l++m)&&Dc (l++m))&&Al (l++m)) then bif (!(decide (Fa (r+p) c (l++m)=0))) then some (.agg [.int .i64 0,.int .i64 0,.nil,.int .i64 0,.int .i64 0,.nil,.int .i64 0,.int .i64 0,.nil,.int .i64 0,.int .i64 0,.nil,.nil,.nil,.int .i64 2]) else Cu.Bn.C6 N r c l p q m ((Un (r+p) c (l++m)).1) ((Un (r+p) c (l++m)).2.1) ((Un (r+p) c (l++m)).2.2.1) ((Og (r+p) c (l++m)).1) ((Og (r+p) c (l++m)).2.1) ((Og (r+p) c (l++m)).2.2.1) (decide (Fa (r+p) c (l++m)=0)) else none else none:=(Di _ _ _ _ _ _ _).trans (by kernel_rfl)
theorem Cu.Bn.A13:Cu.Bn.C6 N r c l p q m p5 p5_1 p5_2 p5_3 p5_4 p5_5 p5_6=bif (A0 p5 p5_1 p5_2&&Ia p5 p5_1 0 0 r c) then bif (A0 ((Cv p5 p5_1 p5_2 0 0 r c).1) ((Cv p5 p5_1 p5_2 0 0 r c).2.1) ((Cv p5 p5_1 p5_2 0 0 r c).2.2.1)&&(Al ((Cv p5 p5_1 p5_2 0 0 r c).2.2.1)&&decide (Dc ((Cv p5 p5_1 p5_2 0 0 r c).2.2.1)=true))) then bif ((Ht ((Cv p5 p5_1 p5_2 0 0 r c).1) ((Cv p5 p5_1 p5_2 0 0 r c).2.1) ((Cv p5 p5_1 p5_2 0 0 r c).2.2.1)) !=(0:Int)) then some (.agg [.int .i64 0,.int .i64 0,.nil,.int .i64 0,.int .i64 0,.nil,.int .i64 0,.int .i64 0,.nil,.int .i64 0,.int .i64 0,.nil,.nil,.nil,.int .i64 (Ht ((Cv p5 p5_1 p5_2 0 0 r c).1) ((Cv p5 p5_1 p5_2 0 0 r c).2.1) ((Cv p5 p5_1 p5_2 0 0 r c).2.2.1))]) else Cu.Bn.C9 N r c l p q m p5 p5_1 p5_2 p5_3 p5_4 p5_5 p5_6 ((Fq ((Cv p5 p5_1 p5_2 0 0 r c).1) ((Cv p5 p5_1 p5_2 0 0 r c).2.1) ((Cv p5 p5_1 p5_2 0 0 r c).2.2.1)).1) ((Fq ((Cv p5 p5_1 p5_2 0 0 r c).1) ((Cv p5 p5_1 p5_2 0 0 r c).2.1) ((Cv p5 p5_1 p5_2 0 0 r c).2.2.1)).2.1) ((Fq ((Cv p5 p5_1 p5_2 0 0 r c).1) ((Cv p5 p5_1 p5_2 0 0 r c).2.1) ((Cv p5 p5_1 p5_2 0 0 r c).2.2.1)).2.2.1) ((Hg ((Cv p5 p5_1 p5_2 0 0 r c).1) ((Cv p5 p5_1 p5_2 0 0 r c).2.1) ((Cv p5 p5_1 p5_2 0 0 r c).2.2.1)).1) ((Hg ((Cv p5 p5_1 p5_2 0 0 r c).1) ((Cv p5 p5_1 p5_2 0 0 r c).2.1) ((Cv p5 p5_1 p5_2 0 0 r c).2.2.1)).2.1) ((Hg ((Cv p5 p5_1 p5_2 0 0 r c).1) ((Cv p5 p5_1 p5_2 0 0 r c).2.1) ((Cv p5 p5_1 p5_2 0 0 r c).2.2.1)).2.2.1) (O5 ((Cv p5 p5_1 p5_2 0 0 r c).1) ((Cv p5 p5_1 p5_2 0 0 r c).2.1) ((Cv p5 p5_1 p5_2 0 0 r c).2.2.1)) (Ht ((Cv p5 p5_1 p5_2 0 0 r c).1) ((Cv p5 p5_1 p5_2 0 0 r c).2.1) ((Cv p5 p5_1 p5_2 0 0 r c).2.2.1)) else none else none:=(Di _ _ _ _ _ _ _).trans (by kernel_rfl)
theorem Cu.Bn.A12:Cu.Bn.C9 N r c l p q m p5 p5_1 p5_2 p5_3 p5_4 p5_5 p5_6 p6 p6_1 p6_2 p6_3 p6_4 p6_5 p6_6 p6_7=bif (A0 p5 p5_1 p5_2&&Ia p5 p5_1 r 0 p c) then bif ((A0 ((Cv p5 p5_1 p5_2 r 0 p c).1) ((Cv p5 p5_1 p5_2 r 0 p c).2.1) ((Cv p5 p5_1 p5_2 r 0 p c).2.2.1)&&A0 p6_3 p6_4 p6_5)&&((Al ((Cv p5 p5_1 p5_2 r 0 p c).2.2.1)&&Al p6_5)&&decide (((Cv p5 p5_1 p5_2 r 0 p c).2.1)=p6_3))) then bif (Bs ((O7 ((Cv p5 p5_1 p5_2 r 0 p c).1) ((Cv p5 p5_1 p5_2 r 0 p c).2.1) ((Cv p5 p5_1 p5_2 r 0 p c).2.2.1) p6_3 p6_4 p6_5).2.2.1)) then bif (!(Dc ((O7 ((Cv p5 p5_1 p5_2 r 0 p c).1) ((Cv p5 p5_1 p5_2 r 0 p c).2.1) ((Cv p5 p5_1 p5_2 r 0 p c).2.2.1) p6_3 p6_4 p6_5).2.2.1))) then some (.agg [.int .i64 0,.int .i64 0,.nil,.int .i64 0,.int .i64 0,.nil,.int .i64 0,.int .i64 0,.nil,.int .i64 0,.int .i64 0,.nil,.nil,.nil,.int .i64 2]) else Cu.Bn.C12 N r c l p q m p5 p5_1 p5_2 p5_3 p5_4 p5_5 p5_6 p6 p6_1 p6_2 p6_3 p6_4 p6_5 p6_6 p6_7 ((O7 ((Cv p5 p5_1 p5_2 r 0 p c).1) ((Cv p5 p5_1 p5_2 r 0 p c).2.1) ((Cv p5 p5_1 p5_2 r 0 p c).2.2.1) p6_3 p6_4 p6_5).1) ((O7 ((Cv p5 p5_1 p5_2 r 0 p c).1) ((Cv p5 p5_1 p5_2 r 0 p c).2.1) ((Cv p5 p5_1 p5_2 r 0 p c).2.2.1) p6_3 p6_4 p6_5).2.1) ((O7 ((Cv p5 p5_1 p5_2 r 0 p c).1) ((Cv p5 p5_1 p5_2 r 0 p c).2.1) ((Cv p5 p5_1 p5_2 r 0 p c).2.2.1) p6_3 p6_4 p6_5).2.2.1) else none else none else none :=
 Eq.trans ((Di _ _ _ _ _ _ _).trans (by kernel_rfl))
 (Cw (Cy _) (Cw (Cy _) rfl rfl) rfl)
theorem Cu.Bn.Ve:Cu.Bn.C12 N r c l p q m p5 p5_1 p5_2 p5_3 p5_4 p5_5 p5_6 p6 p6_1 p6_2 p6_3 p6_4 p6_5 p6_6 p6_7 p7 p7_1 p7_2=bif (A0 p7 p7_1 p7_2&&Al p7_2) then some (.agg [.int .i64 p6,.int .i64 p6_1,.ints .arg .u64 p6_2,.int .i64 p7,.int .i64 p7_1,.ints .fresh .u64 p7_2,.int .i64 p6_3,.int .i64 p6_4,.ints .arg .u64 p6_5,.int .i64 p5_3,.int .i64 p5_4,.ints .arg .u64 p5_5,.ints .fresh .u64 p6_6,.ints .fresh .u64 (Ca (toNat p7) (toNat p7_1) p7_2),.int .i64 0]) else none :=
 Eq.trans ((Di _ _ _ _ _ _ _).trans (by kernel_rfl))
 (Cw (Cy _) rfl rfl)
theorem Cu.Bn.ev:B0 Cu.Bn.E N f29 (Ak f29) [.agg [.int .i64 r,.int .i64 c,.ints .arg .u64 l],.agg [.int .i64 p,.int .i64 q,.ints .arg .u64 m]]=bif (Al l&&Al m) then bif ((Zj r c l p q m) !=(0:Int)) then bif (Al l&&Al m) then some (.agg [.int .i64 0,.int .i64 0,.nil,.int .i64 0,.int .i64 0,.nil,.int .i64 0,.int .i64 0,.nil,.int .i64 0,.int .i64 0,.nil,.nil,.nil,.int .i64 (Zj r c l p q m)]) else none else Cu.Bn.C3 N r c l p q m else none:=by kernel_rfl
end
abbrev _root_.Go.Proofs.S1.Cu.Bn.Kn:=A8 prog 29 Cu.Bn.spec
theorem Cu.Bn.Ad (hk:A2 prog Cu.Bn.Bc) (h:Hyp Cu.Bn.E f29 Cu.Bn.ts Cu.Bn.pre Cu.Bn.out):Cu.Bn.Kn :=
 Am (A5 hk _ _ _) func29 (by kernel_rfl) (by kernel_rfl) h
end EqRef23
open EqGsv EqRef23
theorem P6.upr {R C:Nat} {x:MX} (h:P6 R C x) (e:Ht x.1 x.2.1 x.2.2.1=0):P6 R C (Fq x.1 x.2.1 x.2.2.1)∧P6 C C (Hg x.1 x.2.1 x.2.2.1)∧Al (O5 x.1 x.2.1 x.2.2.1)=true∧(O5 x.1 x.2.1 x.2.2.1).length=C:=by
 obtain ⟨l,rfl,r6,c6,hl,al⟩:=h
 dsimp only at e ⊢
 have hi:Iu R C ((Ei R C l).1,(Ei R C l).2.1,true):=Iu.Ej 60 (S7 hl al)
 have eW:Fq (R:Int) (C:Int) l=((R:Int),(C:Int),K8 R C l,0):=by unfold Fq; rw [A42 (fun k=>k e),A4i,A4i]
 have eV:Hg (R:Int) (C:Int) l=((C:Int),(C:Int),R1 R C l,0):=by unfold Hg; rw [A42 (fun k=>k e),A4i,A4i]
 have eS:O5 (R:Int) (C:Int) l=Ca R C (K8 R C l):=by unfold O5; rw [A42 (fun k=>k e),A4i,A4i]
 rw [eW,eV,eS]
 exact ⟨.mk r6 c6 (by unfold K8; rw [Jq,Ga]) (Tb (Kw hi.1.2)),.mk c6 c6 (Ga ..) (Kw hi.2.2),Xp ..,On ..⟩
structure Agd (R C P:Nat) (l m:List Int):Prop where
 c1:1≤C
 cr:C≤R+P
 r6:R+P≤6
 hl:A0 (R:Int) (C:Int) l=true
 hm:A0 (P:Int) (C:Int) m=true
 ll:l.length=R*C
 lm:m.length=P*C
 fl:Dc l=true
 fm:Dc m=true
theorem As4 {r c:Int} {l:List Int} {p q:Int} {m:List Int} (h:Zj r c l p q m=0):∃ R C P:Nat,r=R∧c=C∧p=P∧q=C∧Agd R C P l m:=by
 unfold Zj at h
 by_cases k:Ala r c l p q m=0
 ·rw [A42 (fun g=>g k)] at h
  by_cases g:c≠q∨c<1∨r+p<c∨6<r+p
  ·rw [A43 g] at h; cases h
  ·have k1:D5 r c l=0:=by
    unfold Ala at k
    by_cases h:D5 r c l=0
    ·exact h
    ·rw [A43 h] at k; exact k
   have k2:D5 p q m=0:=by unfold Ala at k; rw [A42 (fun h=>h k1)] at k; exact k
   obtain ⟨hr,fl⟩:=X6 k1
   obtain ⟨hm,fm⟩:=X6 k2
   obtain ⟨R,C,rfl,rfl,r6,c6,hl⟩:=Co hr
   obtain ⟨P,Q,rfl,rfl,p6,q6,hm'⟩:=Co hm
   obtain rfl:C=Q:=by omega
   exact ⟨R,C,P,rfl,rfl,rfl,rfl,by omega,by omega,by omega,hr,hm,hl,hm',fl,fm⟩
 ·rw [A43 k] at h; exact absurd h k
section
variable {R C P:Nat} {l m:List Int} (h:Agd R C P l m) (al:Al l=true) (am:Al m=true)
include h al am
theorem Agd.mat:P6 (R+P) C (((R:Int)+(P:Int),(C:Int),l++m,0):MX)∧FM (((R:Int)+(P:Int),(C:Int),l++m,0):MX):=by
 have e:(R:Int)+(P:Int)=((R+P:Nat):Int):=(Int.natCast_add _ _).symm
 rw [e]
 refine ⟨.mk h.r6 (by have:=h.cr; have:=h.r6; omega) (by rw [A48,h.ll,h.lm,A5k]) (Aq.2 fun y hy=>?_),.of ?_⟩
 ·rcases List.mem_append.1 hy with hy | hy
  ·exact Aq.1 al y hy
  ·exact Aq.1 am y hy
 ·unfold Dc
  rw [List.all_append]
  exact Ac.2 ⟨h.fl,h.fm⟩
omit al am in
theorem Agd.stack:L4 (R:Int) (C:Int) l (P:Int) (C:Int) m=((R:Int)+(P:Int),(C:Int),l++m,0):=by
 have e:(R:Int)+(P:Int)=((R+P:Nat):Int):=(Int.natCast_add _ _).symm
 have r6:=h.r6
 unfold L4
 rw [h.hl,h.hm,A4m,A43 rfl,A43 ⟨rfl,by omega⟩,e,A4i,A4i,Ajx h.ll h.lm]
theorem Agd.thin (k:Fa ((R:Int)+(P:Int)) (C:Int) (l++m)=0):(P6 (R+P) C (gsQ (R:Int) (C:Int) l (P:Int) m)∧FM (gsQ (R:Int) (C:Int) l (P:Int) m))∧P6 C C (Og ((R:Int)+(P:Int)) (C:Int) (l++m)):=by
 have e:(R:Int)+(P:Int)=((R+P:Nat):Int):=(Int.natCast_add _ _).symm
 have hm:=(h.mat al am).1
 have cr:=h.cr
 have c6:=hm.c6
 unfold gsQ
 rw [e] at k hm ⊢
 obtain ⟨f1,f2,f3,f4⟩:=hm.fac k
 have emin:min ((R+P:Nat):Int) (C:Int)=(C:Int):=by omega
 have q1:=f1.part (i:=0) (k:=0) (a:=R+P) (b:=C) (by omega) (by omega)
 have q2:=FM.part f1 f3 (i:=0) (k:=0) (a:=R+P) (b:=C) (by omega) (by omega)
 have q3:=f2.part (i:=0) (k:=0) (a:=C) (b:=C) (by omega) (by omega)
 have eq:qX ((R+P:Nat):Int) (C:Int) (l++m)=(((R+P:Nat):Int),((R+P:Nat):Int),Pa (R+P) C (l++m),0):=by
  unfold qX; rw [A42 (fun g=>g k),A4i,A4i]
 have er:rX ((R+P:Nat):Int) (C:Int) (l++m)=(((R+P:Nat):Int),(C:Int),Na (R+P) C (l++m),0):=by
  unfold rX; rw [A42 (fun g=>g k),A4i,A4i]
 have t1:Un ((R+P:Nat):Int) (C:Int) (l++m)=Q6 (qX ((R+P:Nat):Int) (C:Int) (l++m)) ((0:Nat):Int) ((0:Nat):Int) ((R+P:Nat):Int) (C:Int):=by
  obtain ⟨t,et,_⟩:=q1
  rw [et]
  unfold Un
  rw [A42 (fun g=>g k),emin,A4i,A4i]
  have:Cv ((R+P:Nat):Int) ((R+P:Nat):Int) (Pa (R+P) C (l++m)) 0 0 ((R+P:Nat):Int) (C:Int)=(((R+P:Nat):Int),(C:Int),t,0):=by
   rw [← et,eq]; rfl
  rw [this]
 have t2:Og ((R+P:Nat):Int) (C:Int) (l++m)=Q6 (rX ((R+P:Nat):Int) (C:Int) (l++m)) ((0:Nat):Int) ((0:Nat):Int) (C:Int) (C:Int):=by
  obtain ⟨t,et,_⟩:=q3
  rw [et]
  unfold Og
  rw [A42 (fun g=>g k),emin,A4i,A4i]
  have:Cv ((R+P:Nat):Int) (C:Int) (Na (R+P) C (l++m)) 0 0 (C:Int) (C:Int)=((C:Int),(C:Int),t,0):=by
   rw [← et,er]; rfl
  rw [this]
 rw [t1,t2]
 exact ⟨⟨q1,q2⟩,q3⟩
theorem Agd.parts (k:Fa ((R:Int)+(P:Int)) (C:Int) (l++m)=0):(P6 R C (Hb (R:Int) (C:Int) l (P:Int) m)∧FM (Hb (R:Int) (C:Int) l (P:Int) m))∧P6 P C (gsL (R:Int) (C:Int) l (P:Int) m):=by
 obtain ⟨⟨q1,q2⟩,_⟩:=h.thin al am k
 exact ⟨⟨q1.part (i:=0) (k:=0) (by omega) (by omega),FM.part q1 q2 (i:=0) (k:=0) (by omega) (by omega)⟩,q1.part (i:=R) (k:=0) (by omega) (by omega)⟩
theorem Agd.prod (k:Fa ((R:Int)+(P:Int)) (C:Int) (l++m)=0) (e:Ht (Hb (R:Int) (C:Int) l (P:Int) m).1 (Hb (R:Int) (C:Int) l (P:Int) m).2.1 (Hb (R:Int) (C:Int) l (P:Int) m).2.2.1=0):P6 P C (Yt (R:Int) (C:Int) l (P:Int) m):=by
 obtain ⟨⟨t1,_⟩,t2⟩:=h.parts al am k
 exact t2.mul (t1.upr e).2.1
end
def Vx (a b:List Int) (W U V R:MX) (f g h:W3):List DV :=
 [.int .i64 W.1,.int .i64 W.2.1,.ints .arg .u64 W.2.2.1,.int .i64 U.1,.int .i64 U.2.1,.ints .fresh .u64 U.2.2.1,.int .i64 V.1,.int .i64 V.2.1,.ints f .u64 V.2.2.1,.int .i64 R.1,.int .i64 R.2.1,.ints g .u64 R.2.2.1,.ints .fresh .u64 a,.ints h .u64 b]
def noP:List DV:=[.int .i64 0,.int .i64 0,.nil,.int .i64 0,.int .i64 0,.nil,.int .i64 0,.int .i64 0,.nil,.int .i64 0,.int .i64 0,.nil,.nil,.nil]
def gsP (r c:Int) (l:List Int) (p q:Int) (m:List Int) (f g:W3):List DV:=Vx (Gs r c l p q m) (O9 r c l p q m) (Cn r c l p q m) (Dx r c l p q m) (Fw r c l p q m) (R4 r c l p q m) f g .fresh
theorem Ys {r c:Int} {l:List Int} {p q:Int} {m:List Int} {f g:W3} (h:Cj r c l p q m≠0):gsP r c l p q m f g=Vx [] [] (L8 0) (L8 0) (L8 0) (L8 0) f g .fresh:=by
 unfold gsP Cn Dx Fw R4 Gs O9 gsO As5
 rw [A43 h,A43 h,A43 h,A43 h,A43 h,A43 h]
 rfl
theorem As3 {r c:Int} {l:List Int} {p q:Int} {m:List Int} {f g:W3} (h:Cj r c l p q m=0):gsP r c l p q m f g =
 Vx (O5 (Hb r c l p m).1 (Hb r c l p m).2.1 (Hb r c l p m).2.2.1) (Ca p.toNat c.toNat (Yt r c l p m).2.2.1) (Fq (Hb r c l p m).1 (Hb r c l p m).2.1 (Hb r c l p m).2.2.1) (Yt r c l p m) (gsV r c l p m) (Og (r+p) c (l++m)) f g .fresh:=by
 have h':¬ Cj r c l p q m≠0:=fun k=>k h
 unfold gsP Cn Dx Fw R4 Gs O9 gsO As5
 rw [A42 h',A42 h',A42 h',A42 h',A42 h',A42 h']
theorem Aej {drops:List Nat} {f g:W3}:Wk drops (.agg noP) (.agg (Vx [] [] (L8 0) (L8 0) (L8 0) (L8 0) f g .fresh)) :=
 Wk.F7 (.cons .int (.cons .int (.cons (.nil _ _) (.cons .int (.cons .int (.cons (.nil _ _) (.cons .int (.cons .int (.cons (.nil _ _) (.cons .int (.cons .int (.cons (.nil _ _) (.cons (.nil _ _) (.cons (.nil _ _) .nil))))))))))))))
theorem Y8 {drops:List Nat} {f g:W3} {e:Int}:Wk drops (.agg (noP++[.int .i64 e])) (.agg (Vx [] [] (L8 0) (L8 0) (L8 0) (L8 0) f g .fresh++[.int .i64 e])) :=
 Wk.F7 (.cons .int (.cons .int (.cons (.nil _ _) (.cons .int (.cons .int (.cons (.nil _ _) (.cons .int (.cons .int (.cons (.nil _ _) (.cons .int (.cons .int (.cons (.nil _ _) (.cons (.nil _ _) (.cons (.nil _ _) (.cons .int .nil)))))))))))))))
theorem Cf.Check.known:Cf.Check.Kn:=Cf.Check.Ad (.cons Dv.Check.known .nil) fun r c l p q m hp=>by
 obtain ⟨al,am⟩:=Ac.1 (show (Al l&&Al m)=true from hp)
 refine ⟨0+4,.int .i64 (Zj r c l p q m),[],?_,.int⟩
 rw [Cf.Check.ev,al,am,A4g,A4g]
 unfold Zj Ala
 by_cases k1:D5 r c l=0
 ·rw [Pd k1,A4k]
  have z1:¬ D5 r c l≠0:=fun h=>h k1
  rw [A42 z1]
  by_cases k2:D5 p q m=0
  ·rw [Pd k2,A4k,A42 (fun h=>h k2)]
   obtain ⟨R,C,rfl,rfl,r6,c6,_⟩:=Co (X6 k1).1
   obtain ⟨P,Q,rfl,rfl,p6,q6,_⟩:=Co (X6 k2).1
   rw [An (by omega) (by omega),Av,Av,Av]
   by_cases g:(C:Int)≠(Q:Int)∨(C:Int)<1∨(R:Int)+(P:Int)<(C:Int)∨6<(R:Int)+(P:Int)
   ·rw [A43 g]
    have:(((((C:Int) !=(Q:Int))||decide ((C:Int)<1))||decide ((R:Int)+(P:Int)<(C:Int)))||decide (6<(R:Int)+(P:Int)))=true:=by
     simp only [Bool.or_eq_true,bne_iff_ne,A4n]
     omega
    rw [this,A4g]
   ·rw [A42 g]
    have e:(C:Int)=(Q:Int):=by omega
    rw [e,A4l (by omega),A4l (by omega),A4l (by omega),show ((Q:Int) !=(Q:Int))=false by simp]
    rfl
  ·rw [neI k2,A4g,A43 k2]
 ·rw [neI k1,A4g,A43 k1,A43 k1]
theorem Cu.Check.known:Cu.Check.Kn:=Cu.Check.Ad (.cons Ij.Check.known .nil) fun r c l p q m hp=>by
 obtain ⟨al,am⟩:=Ac.1 (show (Al l&&Al m)=true from hp)
 refine ⟨0,.int .i64 (Zj r c l p q m),[],?_,.int⟩
 rw [Cu.Check.ev,al,am,A4g,A4g,A4g,A4g]
 unfold Zj Ala
 by_cases k1:D5 r c l=0
 ·rw [Pd k1,A4k]
  have z1:¬ D5 r c l≠0:=fun h=>h k1
  rw [A42 z1]
  by_cases k2:D5 p q m=0
  ·rw [Pd k2,A4k,A42 (fun h=>h k2)]
   obtain ⟨R,C,rfl,rfl,r6,c6,_⟩:=Co (X6 k1).1
   obtain ⟨P,Q,rfl,rfl,p6,q6,_⟩:=Co (X6 k2).1
   rw [An (by omega) (by omega),Av,Av,Av]
   by_cases g:(C:Int)≠(Q:Int)∨(C:Int)<1∨(R:Int)+(P:Int)<(C:Int)∨6<(R:Int)+(P:Int)
   ·rw [A43 g]
    have:(((((C:Int) !=(Q:Int))||decide ((C:Int)<1))||decide ((R:Int)+(P:Int)<(C:Int)))||decide (6<(R:Int)+(P:Int)))=true:=by
     simp only [Bool.or_eq_true,bne_iff_ne,A4n]
     omega
    rw [this,A4g]
   ·rw [A42 g]
    have e:(C:Int)=(Q:Int):=by omega
    rw [e,A4l (by omega),A4l (by omega),A4l (by omega),show ((Q:Int) !=(Q:Int))=false by simp]
    rfl
  ·rw [neI k2,A4g,A43 k2]
 ·rw [neI k1,A4g,A43 k1,A43 k1]
theorem Aiq {r c:Int} {l:List Int} {p q:Int} {m:List Int} (h:Zj r c l p q m≠0):Cj r c l p q m=Zj r c l p q m:=A43 h
section
variable {R C P:Nat} {l m:List Int} (h:Agd R C P l m) (al:Al l=true) (am:Al m=true) (he:Zj (R:Int) (C:Int) l (P:Int) (C:Int) m=0)
include he
theorem Atj (k:Fa ((R:Int)+(P:Int)) (C:Int) (l++m)≠0):Cj (R:Int) (C:Int) l (P:Int) (C:Int) m=2:=by
 unfold Cj; rw [A42 (fun g=>g he),A43 k]
theorem Ati (k:Fa ((R:Int)+(P:Int)) (C:Int) (l++m)=0) (e:Ht (Hb (R:Int) (C:Int) l (P:Int) m).1 (Hb (R:Int) (C:Int) l (P:Int) m).2.1 (Hb (R:Int) (C:Int) l (P:Int) m).2.2.1≠0) :
 Cj (R:Int) (C:Int) l (P:Int) (C:Int) m=Ht (Hb (R:Int) (C:Int) l (P:Int) m).1 (Hb (R:Int) (C:Int) l (P:Int) m).2.1 (Hb (R:Int) (C:Int) l (P:Int) m).2.2.1:=by
 unfold Cj; rw [A42 (fun g=>g he),A42 (fun g=>g k),A43 e]
theorem Axf (k:Fa ((R:Int)+(P:Int)) (C:Int) (l++m)=0) (e:Ht (Hb (R:Int) (C:Int) l (P:Int) m).1 (Hb (R:Int) (C:Int) l (P:Int) m).2.1 (Hb (R:Int) (C:Int) l (P:Int) m).2.2.1=0) :
 Cj (R:Int) (C:Int) l (P:Int) (C:Int) m=if Dc (Yt (R:Int) (C:Int) l (P:Int) m).2.2.1=true then 0 else 2:=by
 unfold Cj; rw [A42 (fun g=>g he),A42 (fun g=>g k),A42 (fun g=>g e)]
omit he
include h al am
theorem Agd.A3r (k:Fa ((R:Int)+(P:Int)) (C:Int) (l++m)≠0):Fa ((R:Int)+(P:Int)) (C:Int) (l++m)=2:=by
 obtain ⟨h1,h2⟩:=h.mat al am
 have hc:D5 ((R:Int)+(P:Int)) (C:Int) (l++m)=0:=h1.chk h2
 unfold Fa at k ⊢
 rw [A42 (fun g=>g hc)] at k ⊢
 split at k
 ·exact absurd rfl k
 ·rename_i g; rw [A42 g]
end
theorem As2 {P C:Nat} {u:List Int} (p6:P≤6) (c6:C≤6) (hr:A0 (P:Int) (C:Int) u=true) (au:Al u=true) (N:Nat) (a b:Int) (x y:List Int) (v w:Int) (z:List Int) (s t:Int) (o:List Int):∀ (d k F:Nat),k+d=C→d<F →
 Cf.Bn.L0 N F (C:Int) a b x y v w z s t o (P:Int) (C:Int) u (k:Int) ((List.range k).map fun c=>Bt (Ev P C u c))=Cf.Bn.C26 N a b x y v w z s t o (P:Int) (C:Int) u (Ca P C u):=by
 intro d
 induction d with
 | zero =>
   intro k F hk hF
   obtain ⟨F,rfl⟩:∃ G,F=G+1:=⟨F-1,by omega⟩
   obtain rfl:k=C:=by omega
   rw [Cf.Bn.Ar,Av,A4l (by omega),A4k]
   rfl
 | succ d ih =>
   intro k F hk hF
   obtain ⟨F,rfl⟩:∃ G,F=G+1:=⟨F-1,by omega⟩
   have cp:(Fv (P:Int) (C:Int) u (k:Int)&&B5 (0≤(0:Int)∧(0:Int)≤(P:Int)))=true:=Ac.2 ⟨Ac.2 ⟨hr,Aq.2 (by omega)⟩,Aq.2 (by omega)⟩
   have ln:(Ci (C:Int) u (k:Int) 0 P).length≤6:=by rw [F9]; exact p6
   rw [Cf.Bn.Ar,Av,A4h (by omega),A4g,cp,A4g,show toNat ((P:Int)-(0:Int))=P by omega,Afb (Kt au) ln,A4g,A4h (by rw [A5m,A5j]; unfold Ha; omega),A4g,An (by omega) (by omega)]
   have:=ih (k+1) F (by omega) (by omega)
   rw [List.range_succ,List.map_append] at this
   exact this
theorem Cf.Bn.known:Cf.Bn.Kn:=Cf.Bn.Ad (.cons Cf.Check.known (.cons Aa.D6.known (.cons Aa.Mul.known (.cons Aa.Part.known (.cons Aa.Stack.known (.cons qr.Gu.known (.cons B4.Az.known (.cons Ag.Finite.known (.cons Ag.Norm.known .nil))))))))) fun r c l p q m hp=>by
 have hall:(Al l&&Al m)=true:=hp
 obtain ⟨al,am⟩:=Ac.1 hall
 show ∃ N dv drops,_=some dv∧Wk drops dv (.tup [.agg (gsP r c l p q m .fresh .fresh),.int .i64 (Cj r c l p q m)])
 by_cases k:Zj r c l p q m=0
 ·obtain ⟨R,C,P,rfl,rfl,rfl,rfl,h⟩:=As4 k
  have e4:B0 Cf.Bn.E 8 Tryz.f25 (Ak Tryz.f25) [.agg [.int .i64 (R:Int),.int .i64 (C:Int),.ints .arg .u64 l],.agg [.int .i64 (P:Int),.int .i64 (C:Int),.ints .arg .u64 m]] =
   Cf.Bn.C7 8 (R:Int) (C:Int) l (P:Int) (C:Int) m ((R:Int)+(P:Int)) (C:Int) (l++m):=by
   rw [Cf.Bn.ev,hall,A4g,Pd k,A4k,Cf.Bn.Ajg,h.stack]
   rfl
  have aA:Al (l++m)=true:=(h.mat al am).1.inn
  by_cases kf:Fa ((R:Int)+(P:Int)) (C:Int) (l++m)=0
  ·obtain ⟨⟨t1,t2⟩,t3⟩:=h.parts al am kf
   have e13:B0 Cf.Bn.E 8 Tryz.f25 (Ak Tryz.f25) [.agg [.int .i64 (R:Int),.int .i64 (C:Int),.ints .arg .u64 l],.agg [.int .i64 (P:Int),.int .i64 (C:Int),.ints .arg .u64 m]] =
    Cf.Bn.C13 8 (R:Int) (C:Int) l (P:Int) (C:Int) m ((R:Int)+(P:Int)) (C:Int) (l++m) (Og ((R:Int)+(P:Int)) (C:Int) (l++m)).1 (Og ((R:Int)+(P:Int)) (C:Int) (l++m)).2.1 (Og ((R:Int)+(P:Int)) (C:Int) (l++m)).2.2.1
     (gsQ (R:Int) (C:Int) l (P:Int) m).1 (gsQ (R:Int) (C:Int) l (P:Int) m).2.1 (gsQ (R:Int) (C:Int) l (P:Int) m).2.2.1 (gsL (R:Int) (C:Int) l (P:Int) m).1 (gsL (R:Int) (C:Int) l (P:Int) m).2.1 (gsL (R:Int) (C:Int) l (P:Int) m).2.2.1
     (Hb (R:Int) (C:Int) l (P:Int) m).1 (Hb (R:Int) (C:Int) l (P:Int) m).2.1 (Hb (R:Int) (C:Int) l (P:Int) m).2.2.1:=by
    rw [e4,Cf.Bn.Aeg,aA,A4g,Pd kf,A4k,Cf.Bn.Agf]
    rfl
   by_cases ku:Ht (Hb (R:Int) (C:Int) l (P:Int) m).1 (Hb (R:Int) (C:Int) l (P:Int) m).2.1 (Hb (R:Int) (C:Int) l (P:Int) m).2.2.1=0
   ·have hU:=h.prod al am kf ku
    have hV:=(t1.upr ku).2.1
    have oU:Bs (Yt (R:Int) (C:Int) l (P:Int) m).2.2.1=true:=Fu hU.inn (by have:=hU.len; omega)
    have e16:B0 Cf.Bn.E 8 Tryz.f25 (Ak Tryz.f25) [.agg [.int .i64 (R:Int),.int .i64 (C:Int),.ints .arg .u64 l],.agg [.int .i64 (P:Int),.int .i64 (C:Int),.ints .arg .u64 m]] =
     (bif (!(Dc (Yt (R:Int) (C:Int) l (P:Int) m).2.2.1)) then some (.tup [.agg noP,.int .i64 2]) else
      Cf.Bn.L0 8 8 (C:Int) (Og ((R:Int)+(P:Int)) (C:Int) (l++m)).1 (Og ((R:Int)+(P:Int)) (C:Int) (l++m)).2.1 (Og ((R:Int)+(P:Int)) (C:Int) (l++m)).2.2.1 (O5 (Hb (R:Int) (C:Int) l (P:Int) m).1 (Hb (R:Int) (C:Int) l (P:Int) m).2.1 (Hb (R:Int) (C:Int) l (P:Int) m).2.2.1)
       (gsV (R:Int) (C:Int) l (P:Int) m).1 (gsV (R:Int) (C:Int) l (P:Int) m).2.1 (gsV (R:Int) (C:Int) l (P:Int) m).2.2.1
       (Fq (Hb (R:Int) (C:Int) l (P:Int) m).1 (Hb (R:Int) (C:Int) l (P:Int) m).2.1 (Hb (R:Int) (C:Int) l (P:Int) m).2.2.1).1 (Fq (Hb (R:Int) (C:Int) l (P:Int) m).1 (Hb (R:Int) (C:Int) l (P:Int) m).2.1 (Hb (R:Int) (C:Int) l (P:Int) m).2.2.1).2.1 (Fq (Hb (R:Int) (C:Int) l (P:Int) m).1 (Hb (R:Int) (C:Int) l (P:Int) m).2.1 (Hb (R:Int) (C:Int) l (P:Int) m).2.2.1).2.2.1
       (Yt (R:Int) (C:Int) l (P:Int) m).1 (Yt (R:Int) (C:Int) l (P:Int) m).2.1 (Yt (R:Int) (C:Int) l (P:Int) m).2.2.1 (0:Int) []):=by
     rw [e13,Cf.Bn.Age,t1.inn,A4g,Pd ku,A4k,Cf.Bn.Alk,t3.inn,hV.inn,A4m,A4g]
     show (bif Bs (Yt (R:Int) (C:Int) l (P:Int) m).2.2.1 then _ else _)=_
     rw [oU,A4g,Cf.Bn.Ay9]
     rfl
    have eE:=Axf k kf ku
    cases hf:Dc (Yt (R:Int) (C:Int) l (P:Int) m).2.2.1 with
    | false =>
      rw [hf,A42 (by decide)] at eE
      refine ⟨8,.tup [.agg noP,.int .i64 2],[],by rw [e16,hf]; rfl,?_⟩
      rw [Ys (by rw [eE]; decide),eE]
      exact Wk.Hm (.cons Aej (.cons .int .nil))
    | true =>
      rw [hf,A43 rfl] at eE
      have hr:=hU.right
      have au:=hU.inn
      have r1:=hU.rows
      have c1:=hU.Apm
      rw [r1,c1] at hr
      refine ⟨8,.tup [.agg (Vx (O5 (Hb (R:Int) (C:Int) l (P:Int) m).1 (Hb (R:Int) (C:Int) l (P:Int) m).2.1 (Hb (R:Int) (C:Int) l (P:Int) m).2.2.1) (Ca P C (Yt (R:Int) (C:Int) l (P:Int) m).2.2.1) (Fq (Hb (R:Int) (C:Int) l (P:Int) m).1 (Hb (R:Int) (C:Int) l (P:Int) m).2.1 (Hb (R:Int) (C:Int) l (P:Int) m).2.2.1) (Yt (R:Int) (C:Int) l (P:Int) m) (gsV (R:Int) (C:Int) l (P:Int) m) (Og ((R:Int)+(P:Int)) (C:Int) (l++m)) .fresh .fresh (.own 122013 tB)),.int .i64 0],[122013],?_,?_⟩
      ·rw [e16,hf,A5f,A4k,r1,c1]
       refine (As2 hU.r6 hU.c6 hr au 8 _ _ _ _ _ _ _ _ _ _ C 0 8 (by omega) (by have:=hU.c6; omega)).trans ?_
       rw [Cf.Bn.Ay7]
       unfold Vx
       rw [r1,c1]
      ·rw [As3 eE,eE,A4i,A4i]
       exact Wk.Hm (.cons (Wk.F7 (.cons .int (.cons .int (.cons .N1 (.cons .int (.cons .int (.cons .Jh (.cons .int (.cons .int (.cons .Jh (.cons .int (.cons .int (.cons .Jh (.cons .Jh (.cons (.drop _ _ _ _ (List.mem_singleton.2 rfl)) .nil))))))))))))))) (.cons .int .nil))
   ·have eE:=Ati k kf ku
    refine ⟨8,.tup [.agg noP,.int .i64 (Ht (Hb (R:Int) (C:Int) l (P:Int) m).1 (Hb (R:Int) (C:Int) l (P:Int) m).2.1 (Hb (R:Int) (C:Int) l (P:Int) m).2.2.1)],[],by rw [e13,Cf.Bn.Age,t1.inn,A4g,neI ku,A4g]; rfl,?_⟩
    rw [Ys (by rw [eE]; exact ku),eE]
    exact Wk.Hm (.cons Aej (.cons .int .nil))
  ·have eE:=Atj k kf
   refine ⟨8,.tup [.agg noP,.int .i64 2],[],by rw [e4,Cf.Bn.Aeg,aA,A4g,neI kf,A4g,h.A3r al am kf]; rfl,?_⟩
   rw [Ys (by rw [eE]; decide),eE]
   exact Wk.Hm (.cons Aej (.cons .int .nil))
 ·refine ⟨0,.tup [.agg noP,.int .i64 (Zj r c l p q m)],[],by rw [Cf.Bn.ev,hall,A4g,neI k,A4g]; rfl,?_⟩
  rw [Ys (by rw [Aiq k]; exact k),Aiq k]
  exact Wk.Hm (.cons Aej (.cons .int .nil))
namespace EqLaw23
def Dh.one.Bc:List (Nat × Entry):=[]
def Dh.one.E:Env:=Bi (Be Dh.one.Bc) (fun _=>false) (fun _=>none) (fun _=>none)
theorem Dh.one.ev (N:Nat) (b:Int):B0 Dh.one.E N f45 (Ak f45) [.int .u64 b]=some (.agg [.int .i64 1,.int .i64 1,.ints (.own 4 43) .u64 [b]]):=by kernel_rfl
abbrev _root_.Go.Proofs.S1.Dh.one.Kn:=A8 prog 45 Dh.one.spec
theorem Dh.one.Ad (hk:A2 prog Dh.one.Bc) (h:Hyp Dh.one.E f45 Dh.one.ts Dh.one.pre Dh.one.out):Dh.one.Kn :=
 Am (A5 hk _ _ _) func45 (by kernel_rfl) (by kernel_rfl) h
def Dh.Ib.Bc:List (Nat × Entry):=[(46,Cf.Dn.spec),(25,Cf.Bn.spec),(45,Dh.one.spec)]
def Dh.Ib.E:Env:=Bi (Be Dh.Ib.Bc) (fun _=>false) (fun _=>none) (fun _=>none)
theorem Dh.Ib.ev (N:Nat):B0 Dh.Ib.E N f10 (Ak f10) []=bif (Al ([(4607182418800017408:Int)])&&Al ([(0:Int)])) then bif ((!(((Cj 1 1 ([(4607182418800017408:Int)]) 1 1 ([(0:Int)]))==(0:Int))&&((length (Gs 1 1 ([(4607182418800017408:Int)]) 1 1 ([(0:Int)])):Int)==(1:Int))))||(decide ((0:Int)<(length (Gs 1 1 ([(4607182418800017408:Int)]) 1 1 ([(0:Int)])):Int)))) then bif ((!(((((Cj 1 1 ([(4607182418800017408:Int)]) 1 1 ([(0:Int)]))==(0:Int))&&((length (Gs 1 1 ([(4607182418800017408:Int)]) 1 1 ([(0:Int)])):Int)==(1:Int)))&&((getD (Gs 1 1 ([(4607182418800017408:Int)]) 1 1 ([(0:Int)])) 0 0)==(4607182418800017408:Int)))&&((length (O9 1 1 ([(4607182418800017408:Int)]) 1 1 ([(0:Int)])):Int)==(1:Int))))||(Bs (O9 1 1 ([(4607182418800017408:Int)]) 1 1 ([(0:Int)])))) then some (.bool (bif (bif (bif (bif ((Cj 1 1 ([(4607182418800017408:Int)]) 1 1 ([(0:Int)]))==(0:Int)) then ((length (Gs 1 1 ([(4607182418800017408:Int)]) 1 1 ([(0:Int)])):Int)==(1:Int)) else false) then ((getD (Gs 1 1 ([(4607182418800017408:Int)]) 1 1 ([(0:Int)])) 0 0)==(4607182418800017408:Int)) else false) then ((length (O9 1 1 ([(4607182418800017408:Int)]) 1 1 ([(0:Int)])):Int)==(1:Int)) else false) then ((Y4 (O9 1 1 ([(4607182418800017408:Int)]) 1 1 ([(0:Int)])))==(1:Int)) else false)) else none else none else none :=
 Eq.trans (by kernel_rfl)
 (E1 (Ax (R6 ((Cj 1 1 ([(4607182418800017408:Int)]) 1 1 ([(0:Int)]))==(0:Int))) (Ax (No ((Cj 1 1 ([(4607182418800017408:Int)]) 1 1 ([(0:Int)]))==(0:Int))) (Ax (No ((Cj 1 1 ([(4607182418800017408:Int)]) 1 1 ([(0:Int)]))==(0:Int))) (Ax (No ((Cj 1 1 ([(4607182418800017408:Int)]) 1 1 ([(0:Int)]))==(0:Int))) (Ax (W5 ((Cj 1 1 ([(4607182418800017408:Int)]) 1 1 ([(0:Int)]))==(0:Int))) (Ax (Aqi ((Cj 1 1 ([(4607182418800017408:Int)]) 1 1 ([(0:Int)]))==(0:Int)) ((length (Gs 1 1 ([(4607182418800017408:Int)]) 1 1 ([(0:Int)])):Int)==(1:Int))) (Ax (Ajs ((Cj 1 1 ([(4607182418800017408:Int)]) 1 1 ([(0:Int)]))==(0:Int)) ((length (Gs 1 1 ([(4607182418800017408:Int)]) 1 1 ([(0:Int)])):Int)==(1:Int))) (Cw (A2w _ _ _) (Ax (Ajs ((Cj 1 1 ([(4607182418800017408:Int)]) 1 1 ([(0:Int)]))==(0:Int)) ((length (Gs 1 1 ([(4607182418800017408:Int)]) 1 1 ([(0:Int)])):Int)==(1:Int))) (Ax (Ajs ((Cj 1 1 ([(4607182418800017408:Int)]) 1 1 ([(0:Int)]))==(0:Int)) ((length (Gs 1 1 ([(4607182418800017408:Int)]) 1 1 ([(0:Int)])):Int)==(1:Int))) (Ax (Auv ((Cj 1 1 ([(4607182418800017408:Int)]) 1 1 ([(0:Int)]))==(0:Int)) ((length (Gs 1 1 ([(4607182418800017408:Int)]) 1 1 ([(0:Int)])):Int)==(1:Int))) (Ax (A0b ((Cj 1 1 ([(4607182418800017408:Int)]) 1 1 ([(0:Int)]))==(0:Int)) ((length (Gs 1 1 ([(4607182418800017408:Int)]) 1 1 ([(0:Int)])):Int)==(1:Int)) ((getD (Gs 1 1 ([(4607182418800017408:Int)]) 1 1 ([(0:Int)])) 0 0)==(4607182418800017408:Int))) (Ax (Aqj ((Cj 1 1 ([(4607182418800017408:Int)]) 1 1 ([(0:Int)]))==(0:Int)) ((length (Gs 1 1 ([(4607182418800017408:Int)]) 1 1 ([(0:Int)])):Int)==(1:Int)) ((getD (Gs 1 1 ([(4607182418800017408:Int)]) 1 1 ([(0:Int)])) 0 0)==(4607182418800017408:Int))) (Ax (Aqj ((Cj 1 1 ([(4607182418800017408:Int)]) 1 1 ([(0:Int)]))==(0:Int)) ((length (Gs 1 1 ([(4607182418800017408:Int)]) 1 1 ([(0:Int)])):Int)==(1:Int)) ((getD (Gs 1 1 ([(4607182418800017408:Int)]) 1 1 ([(0:Int)])) 0 0)==(4607182418800017408:Int))) (Ax (Aqj ((Cj 1 1 ([(4607182418800017408:Int)]) 1 1 ([(0:Int)]))==(0:Int)) ((length (Gs 1 1 ([(4607182418800017408:Int)]) 1 1 ([(0:Int)])):Int)==(1:Int)) ((getD (Gs 1 1 ([(4607182418800017408:Int)]) 1 1 ([(0:Int)])) 0 0)==(4607182418800017408:Int))) (Ax (A0c ((Cj 1 1 ([(4607182418800017408:Int)]) 1 1 ([(0:Int)]))==(0:Int)) ((length (Gs 1 1 ([(4607182418800017408:Int)]) 1 1 ([(0:Int)])):Int)==(1:Int)) ((getD (Gs 1 1 ([(4607182418800017408:Int)]) 1 1 ([(0:Int)])) 0 0)==(4607182418800017408:Int))) (Ax (Auw ((Cj 1 1 ([(4607182418800017408:Int)]) 1 1 ([(0:Int)]))==(0:Int)) ((length (Gs 1 1 ([(4607182418800017408:Int)]) 1 1 ([(0:Int)])):Int)==(1:Int)) ((getD (Gs 1 1 ([(4607182418800017408:Int)]) 1 1 ([(0:Int)])) 0 0)==(4607182418800017408:Int)) ((length (O9 1 1 ([(4607182418800017408:Int)]) 1 1 ([(0:Int)])):Int)==(1:Int))) (Cw (A08 _ _ _ _ _) (Ax (Aqk ((Cj 1 1 ([(4607182418800017408:Int)]) 1 1 ([(0:Int)]))==(0:Int)) ((length (Gs 1 1 ([(4607182418800017408:Int)]) 1 1 ([(0:Int)])):Int)==(1:Int)) ((getD (Gs 1 1 ([(4607182418800017408:Int)]) 1 1 ([(0:Int)])) 0 0)==(4607182418800017408:Int)) ((length (O9 1 1 ([(4607182418800017408:Int)]) 1 1 ([(0:Int)])):Int)==(1:Int))) (Ax (A0e ((Cj 1 1 ([(4607182418800017408:Int)]) 1 1 ([(0:Int)]))==(0:Int)) ((length (Gs 1 1 ([(4607182418800017408:Int)]) 1 1 ([(0:Int)])):Int)==(1:Int)) ((getD (Gs 1 1 ([(4607182418800017408:Int)]) 1 1 ([(0:Int)])) 0 0)==(4607182418800017408:Int)) ((length (O9 1 1 ([(4607182418800017408:Int)]) 1 1 ([(0:Int)])):Int)==(1:Int))) rfl)) rfl)))))))))) rfl)))))))) rfl)
abbrev _root_.Go.Proofs.S1.Dh.Ib.Kn:=A8 prog 10 Dh.Ib.spec
theorem Dh.Ib.Ad (hk:A2 prog Dh.Ib.Bc) (h:Unit→Hyp Dh.Ib.E f10 Dh.Ib.ts Dh.Ib.pre Dh.Ib.out):Dh.Ib.Kn :=
 Am (A5 hk _ _ _) func10 (by kernel_rfl) (by kernel_rfl) (h ())
def Dh.Eg.Bc:List (Nat × Entry):=[(27,Cf.Check.spec),(25,Cf.Bn.spec),(10,Dh.Ib.spec),(30,Ah.E8.spec),(24,Ae.Ng.spec),(26,Ae.E8.spec),(28,Cu.Check.spec),(29,Cu.Bn.spec)]
def Dh.Eg.E:Env:=Bi (Be Dh.Eg.Bc) (fun _=>false) (fun _=>none) (fun _=>none)
theorem Dh.Eg.ev (N:Nat) (r c:Int) (l:List Int) (p q:Int) (m:List Int):B0 Dh.Eg.E N f6 (Ak f6) [.agg [.int .i64 r,.int .i64 c,.ints .arg .u64 l],.agg [.int .i64 p,.int .i64 q,.ints .arg .u64 m]]=bif (Hz l) then bif (Hz m) then bif (Al l&&Al m) then bif (Hz l) then bif ((!(Ds r c l r c l))||(Hz m)) then bif (((!(Ds r c l r c l))||(!(Ds p q m p q m)))||(Al l&&Al m)) then bif (((!(Ds r c l r c l))||(!(Ds p q m p q m)))||(Al l&&Al m)) then bif (((!(Ds r c l r c l))||(!(Ds p q m p q m)))||((Zj r c l p q m) !=(Zj r c l p q m))) then some (.bool false) else bif (Al l&&Al m) then bif (((Cj r c l p q m) !=(Cj r c l p q m))||(Hz ((Cn r c l p q m).2.2.1))) then bif ((((Cj r c l p q m) !=(Cj r c l p q m))||(!(Ds ((Cn r c l p q m).1) ((Cn r c l p q m).2.1) ((Cn r c l p q m).2.2.1) ((Cn r c l p q m).1) ((Cn r c l p q m).2.1) ((Cn r c l p q m).2.2.1))))||(Hz ((Dx r c l p q m).2.2.1))) then bif (((((Cj r c l p q m) !=(Cj r c l p q m))||(!(Ds ((Cn r c l p q m).1) ((Cn r c l p q m).2.1) ((Cn r c l p q m).2.2.1) ((Cn r c l p q m).1) ((Cn r c l p q m).2.1) ((Cn r c l p q m).2.2.1))))||(!(Ds ((Dx r c l p q m).1) ((Dx r c l p q m).2.1) ((Dx r c l p q m).2.2.1) ((Dx r c l p q m).1) ((Dx r c l p q m).2.1) ((Dx r c l p q m).2.2.1))))||(Hz ((Fw r c l p q m).2.2.1))) then bif ((((((Cj r c l p q m) !=(Cj r c l p q m))||(!(Ds ((Cn r c l p q m).1) ((Cn r c l p q m).2.1) ((Cn r c l p q m).2.2.1) ((Cn r c l p q m).1) ((Cn r c l p q m).2.1) ((Cn r c l p q m).2.2.1))))||(!(Ds ((Dx r c l p q m).1) ((Dx r c l p q m).2.1) ((Dx r c l p q m).2.2.1) ((Dx r c l p q m).1) ((Dx r c l p q m).2.1) ((Dx r c l p q m).2.2.1))))||(!(Ds ((Fw r c l p q m).1) ((Fw r c l p q m).2.1) ((Fw r c l p q m).2.2.1) ((Fw r c l p q m).1) ((Fw r c l p q m).2.1) ((Fw r c l p q m).2.2.1))))||(Hz ((R4 r c l p q m).2.2.1))) then bif ((((((Cj r c l p q m) !=(Cj r c l p q m))||(!(Ds ((Cn r c l p q m).1) ((Cn r c l p q m).2.1) ((Cn r c l p q m).2.2.1) ((Cn r c l p q m).1) ((Cn r c l p q m).2.1) ((Cn r c l p q m).2.2.1))))||(!(Ds ((Dx r c l p q m).1) ((Dx r c l p q m).2.1) ((Dx r c l p q m).2.2.1) ((Dx r c l p q m).1) ((Dx r c l p q m).2.1) ((Dx r c l p q m).2.2.1))))||(!(Ds ((Fw r c l p q m).1) ((Fw r c l p q m).2.1) ((Fw r c l p q m).2.2.1) ((Fw r c l p q m).1) ((Fw r c l p q m).2.1) ((Fw r c l p q m).2.2.1))))||(!(Ds ((R4 r c l p q m).1) ((R4 r c l p q m).2.1) ((R4 r c l p q m).2.2.1) ((R4 r c l p q m).1) ((R4 r c l p q m).2.1) ((R4 r c l p q m).2.2.1)))) then some (.bool false) else bif (Hz (Gs r c l p q m)) then bif ((!(Ka (Gs r c l p q m) (Gs r c l p q m)))||(Hz (O9 r c l p q m))) then some (.bool (bif (bif (Ka (Gs r c l p q m) (Gs r c l p q m)) then (Ka (O9 r c l p q m) (O9 r c l p q m)) else false) then true else false)) else none else none else none else none else none else none else none else none else none else none else none else none else none else none :=
 Eq.trans (by kernel_rfl)
 (E1 (E1 (E1 (Cw (Cy _) (Ax (Awz (Ds r c l r c l)) (Ax (Awz (Ds r c l r c l)) (Cw (A0v _ _) (Ax (A0w (Ds r c l r c l)) (Ax (A0x (Ds r c l r c l)) (Ax (Als (Ds r c l r c l) (Ds p q m p q m)) (Ax (Als (Ds r c l r c l) (Ds p q m p q m)) (Cw (Aw0 _ _ _) (Ax (Als (Ds r c l r c l) (Ds p q m p q m)) (Ax (Als (Ds r c l r c l) (Ds p q m p q m)) (Cw (Aw0 _ _ _) (Ax (A0y (Ds r c l r c l) (Ds p q m p q m)) (Ax (A0z (Ds r c l r c l) (Ds p q m p q m)) (Cw (A0l _ _ _) rfl (E1 (Ax (W4 ((Cj r c l p q m) !=(Cj r c l p q m))) (Ax (T8 ((Cj r c l p q m) !=(Cj r c l p q m))) (Ax (W4 ((Cj r c l p q m) !=(Cj r c l p q m))) (Ax (T8 ((Cj r c l p q m) !=(Cj r c l p q m))) (Cw (A00 _ _) (Ax (T8 ((Cj r c l p q m) !=(Cj r c l p q m))) (Ax (tt6 ((Cj r c l p q m) !=(Cj r c l p q m))) (Ax (Aw1 ((Cj r c l p q m) !=(Cj r c l p q m)) (Ds ((Cn r c l p q m).1) ((Cn r c l p q m).2.1) ((Cn r c l p q m).2.2.1) ((Cn r c l p q m).1) ((Cn r c l p q m).2.1) ((Cn r c l p q m).2.2.1))) (Ax (Aqp ((Cj r c l p q m) !=(Cj r c l p q m)) (Ds ((Cn r c l p q m).1) ((Cn r c l p q m).2.1) ((Cn r c l p q m).2.2.1) ((Cn r c l p q m).1) ((Cn r c l p q m).2.1) ((Cn r c l p q m).2.2.1))) (Ax (Aw1 ((Cj r c l p q m) !=(Cj r c l p q m)) (Ds ((Cn r c l p q m).1) ((Cn r c l p q m).2.1) ((Cn r c l p q m).2.2.1) ((Cn r c l p q m).1) ((Cn r c l p q m).2.1) ((Cn r c l p q m).2.2.1))) (Ax (Aqp ((Cj r c l p q m) !=(Cj r c l p q m)) (Ds ((Cn r c l p q m).1) ((Cn r c l p q m).2.1) ((Cn r c l p q m).2.2.1) ((Cn r c l p q m).1) ((Cn r c l p q m).2.1) ((Cn r c l p q m).2.2.1))) (Cw (A01 _ _ _) (Ax (Aqp ((Cj r c l p q m) !=(Cj r c l p q m)) (Ds ((Cn r c l p q m).1) ((Cn r c l p q m).2.1) ((Cn r c l p q m).2.2.1) ((Cn r c l p q m).1) ((Cn r c l p q m).2.1) ((Cn r c l p q m).2.2.1))) (Ax (A02 ((Cj r c l p q m) !=(Cj r c l p q m)) (Ds ((Cn r c l p q m).1) ((Cn r c l p q m).2.1) ((Cn r c l p q m).2.2.1) ((Cn r c l p q m).1) ((Cn r c l p q m).2.1) ((Cn r c l p q m).2.2.1))) (Ax (Aw2 ((Cj r c l p q m) !=(Cj r c l p q m)) (Ds ((Cn r c l p q m).1) ((Cn r c l p q m).2.1) ((Cn r c l p q m).2.2.1) ((Cn r c l p q m).1) ((Cn r c l p q m).2.1) ((Cn r c l p q m).2.2.1)) (Ds ((Dx r c l p q m).1) ((Dx r c l p q m).2.1) ((Dx r c l p q m).2.2.1) ((Dx r c l p q m).1) ((Dx r c l p q m).2.1) ((Dx r c l p q m).2.2.1))) (Ax (Aqq ((Cj r c l p q m) !=(Cj r c l p q m)) (Ds ((Cn r c l p q m).1) ((Cn r c l p q m).2.1) ((Cn r c l p q m).2.2.1) ((Cn r c l p q m).1) ((Cn r c l p q m).2.1) ((Cn r c l p q m).2.2.1)) (Ds ((Dx r c l p q m).1) ((Dx r c l p q m).2.1) ((Dx r c l p q m).2.2.1) ((Dx r c l p q m).1) ((Dx r c l p q m).2.1) ((Dx r c l p q m).2.2.1))) (Ax (Aw2 ((Cj r c l p q m) !=(Cj r c l p q m)) (Ds ((Cn r c l p q m).1) ((Cn r c l p q m).2.1) ((Cn r c l p q m).2.2.1) ((Cn r c l p q m).1) ((Cn r c l p q m).2.1) ((Cn r c l p q m).2.2.1)) (Ds ((Dx r c l p q m).1) ((Dx r c l p q m).2.1) ((Dx r c l p q m).2.2.1) ((Dx r c l p q m).1) ((Dx r c l p q m).2.1) ((Dx r c l p q m).2.2.1))) (Ax (Aqq ((Cj r c l p q m) !=(Cj r c l p q m)) (Ds ((Cn r c l p q m).1) ((Cn r c l p q m).2.1) ((Cn r c l p q m).2.2.1) ((Cn r c l p q m).1) ((Cn r c l p q m).2.1) ((Cn r c l p q m).2.2.1)) (Ds ((Dx r c l p q m).1) ((Dx r c l p q m).2.1) ((Dx r c l p q m).2.2.1) ((Dx r c l p q m).1) ((Dx r c l p q m).2.1) ((Dx r c l p q m).2.2.1))) (Cw (A03 _ _ _ _) (Ax (Aqq ((Cj r c l p q m) !=(Cj r c l p q m)) (Ds ((Cn r c l p q m).1) ((Cn r c l p q m).2.1) ((Cn r c l p q m).2.2.1) ((Cn r c l p q m).1) ((Cn r c l p q m).2.1) ((Cn r c l p q m).2.2.1)) (Ds ((Dx r c l p q m).1) ((Dx r c l p q m).2.1) ((Dx r c l p q m).2.2.1) ((Dx r c l p q m).1) ((Dx r c l p q m).2.1) ((Dx r c l p q m).2.2.1))) (Ax (A04 ((Cj r c l p q m) !=(Cj r c l p q m)) (Ds ((Cn r c l p q m).1) ((Cn r c l p q m).2.1) ((Cn r c l p q m).2.2.1) ((Cn r c l p q m).1) ((Cn r c l p q m).2.1) ((Cn r c l p q m).2.2.1)) (Ds ((Dx r c l p q m).1) ((Dx r c l p q m).2.1) ((Dx r c l p q m).2.2.1) ((Dx r c l p q m).1) ((Dx r c l p q m).2.1) ((Dx r c l p q m).2.2.1))) (Ax (Aw3 ((Cj r c l p q m) !=(Cj r c l p q m)) (Ds ((Cn r c l p q m).1) ((Cn r c l p q m).2.1) ((Cn r c l p q m).2.2.1) ((Cn r c l p q m).1) ((Cn r c l p q m).2.1) ((Cn r c l p q m).2.2.1)) (Ds ((Dx r c l p q m).1) ((Dx r c l p q m).2.1) ((Dx r c l p q m).2.2.1) ((Dx r c l p q m).1) ((Dx r c l p q m).2.1) ((Dx r c l p q m).2.2.1)) (Ds ((Fw r c l p q m).1) ((Fw r c l p q m).2.1) ((Fw r c l p q m).2.2.1) ((Fw r c l p q m).1) ((Fw r c l p q m).2.1) ((Fw r c l p q m).2.2.1))) (Ax (Aqr ((Cj r c l p q m) !=(Cj r c l p q m)) (Ds ((Cn r c l p q m).1) ((Cn r c l p q m).2.1) ((Cn r c l p q m).2.2.1) ((Cn r c l p q m).1) ((Cn r c l p q m).2.1) ((Cn r c l p q m).2.2.1)) (Ds ((Dx r c l p q m).1) ((Dx r c l p q m).2.1) ((Dx r c l p q m).2.2.1) ((Dx r c l p q m).1) ((Dx r c l p q m).2.1) ((Dx r c l p q m).2.2.1)) (Ds ((Fw r c l p q m).1) ((Fw r c l p q m).2.1) ((Fw r c l p q m).2.2.1) ((Fw r c l p q m).1) ((Fw r c l p q m).2.1) ((Fw r c l p q m).2.2.1))) (Ax (Aw3 ((Cj r c l p q m) !=(Cj r c l p q m)) (Ds ((Cn r c l p q m).1) ((Cn r c l p q m).2.1) ((Cn r c l p q m).2.2.1) ((Cn r c l p q m).1) ((Cn r c l p q m).2.1) ((Cn r c l p q m).2.2.1)) (Ds ((Dx r c l p q m).1) ((Dx r c l p q m).2.1) ((Dx r c l p q m).2.2.1) ((Dx r c l p q m).1) ((Dx r c l p q m).2.1) ((Dx r c l p q m).2.2.1)) (Ds ((Fw r c l p q m).1) ((Fw r c l p q m).2.1) ((Fw r c l p q m).2.2.1) ((Fw r c l p q m).1) ((Fw r c l p q m).2.1) ((Fw r c l p q m).2.2.1))) (Ax (Aqr ((Cj r c l p q m) !=(Cj r c l p q m)) (Ds ((Cn r c l p q m).1) ((Cn r c l p q m).2.1) ((Cn r c l p q m).2.2.1) ((Cn r c l p q m).1) ((Cn r c l p q m).2.1) ((Cn r c l p q m).2.2.1)) (Ds ((Dx r c l p q m).1) ((Dx r c l p q m).2.1) ((Dx r c l p q m).2.2.1) ((Dx r c l p q m).1) ((Dx r c l p q m).2.1) ((Dx r c l p q m).2.2.1)) (Ds ((Fw r c l p q m).1) ((Fw r c l p q m).2.1) ((Fw r c l p q m).2.2.1) ((Fw r c l p q m).1) ((Fw r c l p q m).2.1) ((Fw r c l p q m).2.2.1))) (Cw (A05 _ _ _ _ _) (Ax (Aqr ((Cj r c l p q m) !=(Cj r c l p q m)) (Ds ((Cn r c l p q m).1) ((Cn r c l p q m).2.1) ((Cn r c l p q m).2.2.1) ((Cn r c l p q m).1) ((Cn r c l p q m).2.1) ((Cn r c l p q m).2.2.1)) (Ds ((Dx r c l p q m).1) ((Dx r c l p q m).2.1) ((Dx r c l p q m).2.2.1) ((Dx r c l p q m).1) ((Dx r c l p q m).2.1) ((Dx r c l p q m).2.2.1)) (Ds ((Fw r c l p q m).1) ((Fw r c l p q m).2.1) ((Fw r c l p q m).2.2.1) ((Fw r c l p q m).1) ((Fw r c l p q m).2.1) ((Fw r c l p q m).2.2.1))) (Ax (A06 ((Cj r c l p q m) !=(Cj r c l p q m)) (Ds ((Cn r c l p q m).1) ((Cn r c l p q m).2.1) ((Cn r c l p q m).2.2.1) ((Cn r c l p q m).1) ((Cn r c l p q m).2.1) ((Cn r c l p q m).2.2.1)) (Ds ((Dx r c l p q m).1) ((Dx r c l p q m).2.1) ((Dx r c l p q m).2.2.1) ((Dx r c l p q m).1) ((Dx r c l p q m).2.1) ((Dx r c l p q m).2.2.1)) (Ds ((Fw r c l p q m).1) ((Fw r c l p q m).2.1) ((Fw r c l p q m).2.2.1) ((Fw r c l p q m).1) ((Fw r c l p q m).2.1) ((Fw r c l p q m).2.2.1))) (Cw (A07 _ _ _ _ _) rfl (E1 (Ax (R6 (Ka (Gs r c l p q m) (Gs r c l p q m))) (Ax (No (Ka (Gs r c l p q m) (Gs r c l p q m))) (Ax (R6 (Ka (Gs r c l p q m) (Gs r c l p q m))) (Ax (No (Ka (Gs r c l p q m) (Gs r c l p q m))) (Cw (A2v _ _) (Ax (W5 (Ka (Gs r c l p q m) (Gs r c l p q m))) (Ax (Aqi (Ka (Gs r c l p q m) (Gs r c l p q m)) (Ka (O9 r c l p q m) (O9 r c l p q m))) (Ax (Auv (Ka (Gs r c l p q m) (Gs r c l p q m)) (Ka (O9 r c l p q m) (O9 r c l p q m))) rfl))) rfl))))) rfl)))) rfl))))))) rfl))))))) rfl))))))) rfl))))) rfl)))) rfl))) rfl))))) rfl))) rfl) rfl) rfl) rfl)
abbrev _root_.Go.Proofs.S1.Dh.Eg.Kn:=A8 prog 6 Dh.Eg.spec
theorem Dh.Eg.Ad (hk:A2 prog Dh.Eg.Bc) (h:Hyp Dh.Eg.E f6 Dh.Eg.ts Dh.Eg.pre Dh.Eg.out):Dh.Eg.Kn :=
 Am (A5 hk _ _ _) func6 (by kernel_rfl) (by kernel_rfl) h
end EqLaw23
open EqGsv EqRef23 EqLaw23
theorem Cu.Bn.known:Cu.Bn.Kn:=Cu.Bn.Ad (.cons Ah.Finite.known (.cons Ae.Mul.m.known (.cons Ae.Part.m.known (.cons Ae.Stack.known (.cons Cb.Gu.known (.cons Ao.F5.known (.cons Ao.Az.known (.cons Cu.Check.known .nil)))))))) fun r c l p q m hp=>by
 have hall:(Al l&&Al m)=true:=hp
 obtain ⟨al,am⟩:=Ac.1 hall
 show ∃ N dv drops,_=some dv∧Wk drops dv (.agg (gsP r c l p q m .arg .arg++[.int .i64 (Cj r c l p q m)]))
 by_cases k:Zj r c l p q m=0
 ·obtain ⟨R,C,P,rfl,rfl,rfl,rfl,h⟩:=As4 k
  obtain ⟨hA,fA⟩:=h.mat al am
  have fA:Dc (l++m)=true:=fA
  have aA:Al (l++m)=true:=hA.inn
  have rA:A0 ((R:Int)+(P:Int)) (C:Int) (l++m)=true:=hA.right
  have e3:B0 Cu.Bn.E 0 Tryz.f29 (Ak Tryz.f29) [.agg [.int .i64 (R:Int),.int .i64 (C:Int),.ints .arg .u64 l],.agg [.int .i64 (P:Int),.int .i64 (C:Int),.ints .arg .u64 m]] =
   (bif (!(decide (Fa ((R:Int)+(P:Int)) (C:Int) (l++m)=0))) then some (.agg (noP++[.int .i64 2])) else
    Cu.Bn.C6 0 (R:Int) (C:Int) l (P:Int) (C:Int) m (gsQ (R:Int) (C:Int) l (P:Int) m).1 (gsQ (R:Int) (C:Int) l (P:Int) m).2.1 (gsQ (R:Int) (C:Int) l (P:Int) m).2.2.1 (Og ((R:Int)+(P:Int)) (C:Int) (l++m)).1 (Og ((R:Int)+(P:Int)) (C:Int) (l++m)).2.1 (Og ((R:Int)+(P:Int)) (C:Int) (l++m)).2.2.1 (decide (Fa ((R:Int)+(P:Int)) (C:Int) (l++m)=0))):=by
   rw [Cu.Bn.ev,hall,A4g,Pd k,A4k,Cu.Bn.Auj,h.hl,h.hm,A4h rfl,A4m,A4m,A4g,rA,fA,aA,A4m,A4m,A4g]
   rfl
  by_cases kf:Fa ((R:Int)+(P:Int)) (C:Int) (l++m)=0
  ·obtain ⟨⟨q1,_⟩,_⟩:=h.thin al am kf
   obtain ⟨⟨t1,t2⟩,t3⟩:=h.parts al am kf
   have cr:=h.cr
   have pT:Ia (gsQ (R:Int) (C:Int) l (P:Int) m).1 (gsQ (R:Int) (C:Int) l (P:Int) m).2.1 (0:Int) (0:Int) (R:Int) (C:Int)=true:=by
    rw [q1.rows,q1.Apm]; exact Vw (i:=0) (k:=0) (by omega) (by omega)
   have pL:Ia (gsQ (R:Int) (C:Int) l (P:Int) m).1 (gsQ (R:Int) (C:Int) l (P:Int) m).2.1 (R:Int) (0:Int) (P:Int) (C:Int)=true:=by
    rw [q1.rows,q1.Apm]; exact Vw (i:=R) (k:=0) (by omega) (by omega)
   have fT:Dc (Hb (R:Int) (C:Int) l (P:Int) m).2.2.1=true:=t2
   have e6:B0 Cu.Bn.E 0 Tryz.f29 (Ak Tryz.f29) [.agg [.int .i64 (R:Int),.int .i64 (C:Int),.ints .arg .u64 l],.agg [.int .i64 (P:Int),.int .i64 (C:Int),.ints .arg .u64 m]] =
    (bif (Ht (Hb (R:Int) (C:Int) l (P:Int) m).1 (Hb (R:Int) (C:Int) l (P:Int) m).2.1 (Hb (R:Int) (C:Int) l (P:Int) m).2.2.1 !=(0:Int)) then some (.agg (noP++[.int .i64 (Ht (Hb (R:Int) (C:Int) l (P:Int) m).1 (Hb (R:Int) (C:Int) l (P:Int) m).2.1 (Hb (R:Int) (C:Int) l (P:Int) m).2.2.1)])) else
     Cu.Bn.C9 0 (R:Int) (C:Int) l (P:Int) (C:Int) m (gsQ (R:Int) (C:Int) l (P:Int) m).1 (gsQ (R:Int) (C:Int) l (P:Int) m).2.1 (gsQ (R:Int) (C:Int) l (P:Int) m).2.2.1 (Og ((R:Int)+(P:Int)) (C:Int) (l++m)).1 (Og ((R:Int)+(P:Int)) (C:Int) (l++m)).2.1 (Og ((R:Int)+(P:Int)) (C:Int) (l++m)).2.2.1 true
      (Fq (Hb (R:Int) (C:Int) l (P:Int) m).1 (Hb (R:Int) (C:Int) l (P:Int) m).2.1 (Hb (R:Int) (C:Int) l (P:Int) m).2.2.1).1 (Fq (Hb (R:Int) (C:Int) l (P:Int) m).1 (Hb (R:Int) (C:Int) l (P:Int) m).2.1 (Hb (R:Int) (C:Int) l (P:Int) m).2.2.1).2.1 (Fq (Hb (R:Int) (C:Int) l (P:Int) m).1 (Hb (R:Int) (C:Int) l (P:Int) m).2.1 (Hb (R:Int) (C:Int) l (P:Int) m).2.2.1).2.2.1
      (gsV (R:Int) (C:Int) l (P:Int) m).1 (gsV (R:Int) (C:Int) l (P:Int) m).2.1 (gsV (R:Int) (C:Int) l (P:Int) m).2.2.1 (O5 (Hb (R:Int) (C:Int) l (P:Int) m).1 (Hb (R:Int) (C:Int) l (P:Int) m).2.1 (Hb (R:Int) (C:Int) l (P:Int) m).2.2.1) (Ht (Hb (R:Int) (C:Int) l (P:Int) m).1 (Hb (R:Int) (C:Int) l (P:Int) m).2.1 (Hb (R:Int) (C:Int) l (P:Int) m).2.2.1)):=by
    rw [e3,A4h kf,A5f,A4k,Cu.Bn.A13,q1.right,pT,A4m,A4g]
    show (bif A0 (Hb (R:Int) (C:Int) l (P:Int) m).1 (Hb (R:Int) (C:Int) l (P:Int) m).2.1 (Hb (R:Int) (C:Int) l (P:Int) m).2.2.1&&(Al (Hb (R:Int) (C:Int) l (P:Int) m).2.2.1&&decide (Dc (Hb (R:Int) (C:Int) l (P:Int) m).2.2.1=true)) then _ else _)=_
    rw [t1.right,t1.inn,A4h fT,A4m,A4m,A4g]
    rfl
   by_cases ku:Ht (Hb (R:Int) (C:Int) l (P:Int) m).1 (Hb (R:Int) (C:Int) l (P:Int) m).2.1 (Hb (R:Int) (C:Int) l (P:Int) m).2.2.1=0
   ·have hU:=h.prod al am kf ku
    have hV:P6 C C (gsV (R:Int) (C:Int) l (P:Int) m):=(t1.upr ku).2.1
    have oU:Bs (Yt (R:Int) (C:Int) l (P:Int) m).2.2.1=true:=Fu hU.inn (by have:=hU.len; omega)
    have e9:B0 Cu.Bn.E 0 Tryz.f29 (Ak Tryz.f29) [.agg [.int .i64 (R:Int),.int .i64 (C:Int),.ints .arg .u64 l],.agg [.int .i64 (P:Int),.int .i64 (C:Int),.ints .arg .u64 m]] =
     (bif (!(Dc (Yt (R:Int) (C:Int) l (P:Int) m).2.2.1)) then some (.agg (noP++[.int .i64 2])) else
      some (.agg (Vx (O5 (Hb (R:Int) (C:Int) l (P:Int) m).1 (Hb (R:Int) (C:Int) l (P:Int) m).2.1 (Hb (R:Int) (C:Int) l (P:Int) m).2.2.1) (Ca P C (Yt (R:Int) (C:Int) l (P:Int) m).2.2.1) (Fq (Hb (R:Int) (C:Int) l (P:Int) m).1 (Hb (R:Int) (C:Int) l (P:Int) m).2.1 (Hb (R:Int) (C:Int) l (P:Int) m).2.2.1) (Yt (R:Int) (C:Int) l (P:Int) m) (gsV (R:Int) (C:Int) l (P:Int) m) (Og ((R:Int)+(P:Int)) (C:Int) (l++m)) .arg .arg .fresh++[.int .i64 0]))):=by
     have dc:decide ((gsL (R:Int) (C:Int) l (P:Int) m).2.1=(gsV (R:Int) (C:Int) l (P:Int) m).1)=true:=A4h (by rw [t3.Apm,hV.rows])
     rw [e6,Pd ku,A4k,Cu.Bn.A12,q1.right,pL,A4m,A4g]
     show (bif (A0 (gsL (R:Int) (C:Int) l (P:Int) m).1 (gsL (R:Int) (C:Int) l (P:Int) m).2.1 (gsL (R:Int) (C:Int) l (P:Int) m).2.2.1&&A0 (gsV (R:Int) (C:Int) l (P:Int) m).1 (gsV (R:Int) (C:Int) l (P:Int) m).2.1 (gsV (R:Int) (C:Int) l (P:Int) m).2.2.1)&&((Al (gsL (R:Int) (C:Int) l (P:Int) m).2.2.1&&Al (gsV (R:Int) (C:Int) l (P:Int) m).2.2.1)&&decide ((gsL (R:Int) (C:Int) l (P:Int) m).2.1=(gsV (R:Int) (C:Int) l (P:Int) m).1)) then _ else _)=_
     rw [t3.right,hV.right,t3.inn,hV.inn,dc,A4m,A4m,A4m,A4g]
     show (bif Bs (Yt (R:Int) (C:Int) l (P:Int) m).2.2.1 then (bif !(Dc (Yt (R:Int) (C:Int) l (P:Int) m).2.2.1) then _ else Cu.Bn.C12 0 (R:Int) (C:Int) l (P:Int) (C:Int) m _ _ _ _ _ _ _ _ _ _ _ _ _ _ _ (Yt (R:Int) (C:Int) l (P:Int) m).1 (Yt (R:Int) (C:Int) l (P:Int) m).2.1 (Yt (R:Int) (C:Int) l (P:Int) m).2.2.1) else _)=_
     rw [oU,A4g,Cu.Bn.Ve,hU.right,hU.inn,A4m,A4g,hU.rows,hU.Apm,A4i,A4i]
     unfold Vx
     rw [hU.rows,hU.Apm]
     rfl
    have eE:=Axf k kf ku
    cases hf:Dc (Yt (R:Int) (C:Int) l (P:Int) m).2.2.1 with
    | false =>
      rw [hf,A42 (by decide)] at eE
      refine ⟨0,.agg (noP++[.int .i64 2]),[],by rw [e9,hf]; rfl,?_⟩
      rw [Ys (by rw [eE]; decide),eE]
      exact Y8
    | true =>
      rw [hf,A43 rfl] at eE
      refine ⟨0,_,[],by rw [e9,hf,A5f,A4k],?_⟩
      rw [As3 eE,eE,A4i,A4i]
      exact Wk.F7 (.cons .int (.cons .int (.cons .N1 (.cons .int (.cons .int (.cons .Jh (.cons .int (.cons .int (.cons .N1 (.cons .int (.cons .int (.cons .N1 (.cons .Jh (.cons .Jh (.cons .int .nil)))))))))))))))
   ·have eE:=Ati k kf ku
    refine ⟨0,_,[],by rw [e6,neI ku,A4g],?_⟩
    rw [Ys (by rw [eE]; exact ku),eE]
    exact Y8
  ·have eE:=Atj k kf
   refine ⟨0,.agg (noP++[.int .i64 2]),[],by rw [e3,A4l kf]; rfl,?_⟩
   rw [Ys (by rw [eE]; decide),eE]
   exact Y8
 ·refine ⟨0,.agg (noP++[.int .i64 (Zj r c l p q m)]),[],by rw [Cu.Bn.ev,hall,A4g,neI k,A4g,A4g]; rfl,?_⟩
  rw [Ys (by rw [Aiq k]; exact k),Aiq k]
  exact Y8
theorem Ady:Af (Bg 4607182418800017408 (-40))=true∧Df 4607182418800017408 (-40)=true:=⟨G8 Ni,Ac.2 ⟨Ni,Aq.2 (by decide)⟩⟩
theorem Aqw {y:List Int} {i:Nat} (h:i<y.length):Y4 (y.take (i+1))=Y4 (y.take i)+(if Ak2 (y.getD i 0)=true then 1 else 0):=by
 unfold Y4
 rw [List.take_succ_eq_append_getElem h,List.countP_append,A4q,A4x h]
 show _=_+(if Ak2 y[i]=true then (1:Int) else 0)
 by_cases k:Ak2 y[i]=true
 ·rw [A43 k,List.countP_cons_of_pos k]; rfl
 ·rw [A42 k,List.countP_cons_of_neg k]; rfl
theorem Ayw (y:List Int):0≤Y4 y∧Y4 y≤y.length:=by
 have:=List.countP_le_length (p:=Ak2) (l:=y)
 unfold Y4; omega
theorem Asy (N:Nat) {y:List Int} (hy:Bs y=true):∀ (k i F:Nat),i+k=y.length→k<F→Cf.Dn.L0 N F y (Y4 (y.take i)) (i:Int)=some (.int .i64 (Y4 y)):=by
 obtain ⟨hl,hu⟩:=Hs hy
 obtain ⟨w1,w2⟩:=Ady
 intro k
 induction k with
 | zero =>
   intro i F hi hF
   obtain ⟨F,rfl⟩:∃ G,F=G+1:=⟨F-1,by omega⟩
   rw [Cf.Dn.Ar,Av,A4l (by omega),A4k,List.take_of_length_le (by omega)]
 | succ k ih =>
   intro i F hi hF
   obtain ⟨F,rfl⟩:∃ G,F=G+1:=⟨F-1,by omega⟩
   have ih:=ih (i+1) F (by omega) (by omega)
   rw [Aqw (by omega)] at ih
   have hb:=Ayw (y.take i)
   rw [List.length_take] at hb
   rw [Cf.Dn.Ar,Av,A4h (show (i:Int)<(y.length:Int) by omega),A4g,A4h (show (0:Int)≤(i:Int) by omega),A4m,A4g,A4i,w1,hu i (by omega),A4m,A4g,An (x:=(i:Int)+1) (by omega) (by omega),An (by omega) (by omega)]
   have e:(!(decide (Hq (Bg 4607182418800017408 (-40)) (y.getD i 0)<0)))=Ak2 (y.getD i 0):=rfl
   rw [e]
   cases h:Ak2 (y.getD i 0) with
   | true=>rw [h,A43 rfl] at ih; exact ih
   | false=>rw [h,A42 (by decide),Int.add_zero] at ih; exact ih
theorem Cf.Dn.known:Cf.Dn.Kn:=Cf.Dn.Ad (.cons compare.Lt.known (.cons Ag.Bu.known .nil)) fun a1 b1 l1 a2 b2 l2 a3 b3 l3 a4 b4 l4 x y hp=>by
 have oy:Bs y=true:=hp
 refine ⟨y.length+1,.int .i64 (Y4 y),[],?_,.int⟩
 rw [Cf.Dn.ev,Ady.2,A4g]
 exact Asy (y.length+1) oy y.length 0 (y.length+1) (by omega) (by omega)
theorem Dh.one.known:Dh.one.Kn:=Dh.one.Ad .nil fun b _ =>
 ⟨0,_,[4],Dh.one.ev 0 b,Uk (List.mem_singleton.2 rfl)⟩
open EqGsv EqRef23 EqLaw23
theorem A3t:Cj 1 1 [4607182418800017408] 1 1 [0]=0∧Gs 1 1 [4607182418800017408] 1 1 [0]=[4607182418800017408]∧O9 1 1 [4607182418800017408] 1 1 [0]=[0]∧Y4 [0]=1:=by decide +kernel
theorem Abd {x:Int} (h:decide (0≤x∧x<18446744073709551616)=true):Al [x]=true:=Aq.2 fun y hy=>by
 rw [List.mem_singleton.1 hy]; exact Aq.2 (A46 h)
theorem Dh.Ib.known:Dh.Ib.Kn:=Dh.Ib.Ad (.cons Cf.Dn.known (.cons Cf.Bn.known (.cons Dh.one.known .nil))) fun _ _=>by
 obtain ⟨h1,h2,h3,h4⟩:=A3t
 have o0:Bs [(0:Int)]=true:=Fu (Abd (by decide)) (by decide)
 refine ⟨0,Dh.Ib.out [],[],?_,.bool⟩
 rw [Dh.Ib.ev,Abd (by decide),Abd (x:=0) (by decide),h1,h2,h3,h4,o0]
 rfl
theorem okl {l:List Int} (h:l.length≤36):Hz l=true:=Aq.2 (A5n h (by decide))
theorem Av2 {r c:Int} {l:List Int} {p q:Int} {m:List Int} (al:Al l=true) (am:Al m=true) :
 ((Hz (Cn r c l p q m).2.2.1=true∧Hz (Dx r c l p q m).2.2.1=true)∧Hz (Fw r c l p q m).2.2.1=true∧Hz (R4 r c l p q m).2.2.1=true)∧Hz (Gs r c l p q m)=true∧Hz (O9 r c l p q m)=true:=by
 unfold Cn Dx Fw R4 Gs O9 gsO As5
 by_cases h:Cj r c l p q m=0
 ·have h':¬ Cj r c l p q m≠0:=fun k=>k h
  rw [A42 h',A42 h',A42 h',A42 h',A42 h',A42 h']
  have k:Zj r c l p q m=0:=Decidable.byContradiction fun k=>k ((Aiq k).symm.trans h)
  obtain ⟨R,C,P,rfl,rfl,rfl,rfl,g⟩:=As4 k
  have kf:Fa ((R:Int)+(P:Int)) (C:Int) (l++m)=0:=Decidable.byContradiction fun kf=>by
   have:=Atj k kf; rw [h] at this; cases this
  have ku:Ht (Hb (R:Int) (C:Int) l (P:Int) m).1 (Hb (R:Int) (C:Int) l (P:Int) m).2.1 (Hb (R:Int) (C:Int) l (P:Int) m).2.2.1=0:=Decidable.byContradiction fun ku=>by
   have:=Ati k kf ku; rw [h] at this; exact ku this.symm
  obtain ⟨⟨t1,_⟩,t3⟩:=g.parts al am kf
  obtain ⟨u1,u2,u3,u4⟩:=t1.upr ku
  have hU:=g.prod al am kf ku
  refine ⟨⟨⟨okl u1.len,okl hU.len⟩,okl (show P6 C C (gsV (R:Int) (C:Int) l (P:Int) m) from u2).len,okl (g.thin al am kf).2.len⟩,okl ?_,okl ?_⟩
  ·have:=u2.c6; omega
  ·rw [On,A4i]; have:=u2.c6; omega
 ·rw [A43 h,A43 h,A43 h,A43 h,A43 h,A43 h]
  have o:Hz []=true:=okl (Nat.zero_le _)
  exact ⟨⟨⟨o,o⟩,o,o⟩,o,o⟩
theorem Ans (r c:Int) (l:List Int):Ds r c l r c l=true:=by unfold Ds; simp
theorem ne_self (x:Int):(x !=x)=false:=by simp
theorem Aj4 (l:List Int):Ka l l=true:=A4h rfl
theorem Dh.Eg.known:Dh.Eg.Kn:=Dh.Eg.Ad (.cons Cf.Check.known (.cons Cf.Bn.known (.cons Dh.Ib.known (.cons Ah.E8.known (.cons Ae.Ng.known (.cons Ae.E8.known (.cons Cu.Check.known (.cons Cu.Bn.known .nil)))))))) fun r c l p q m hp=>by
 obtain ⟨hall,hlen⟩:=Ac.1 (show ((Al l&&Al m)&&(Hz l&&Hz m))=true from hp)
 obtain ⟨al,am⟩:=Ac.1 hall
 obtain ⟨ol,om⟩:=Ac.1 hlen
 obtain ⟨⟨⟨o1,o2⟩,o3,o4⟩,o5,o6⟩:=Av2 (r:=r) (c:=c) (p:=p) (q:=q) al am
 refine ⟨0,.bool true,[],?_,.bool⟩
 rw [Dh.Eg.ev,ol,om,hall]
 simp only [Ans,ne_self,Aj4,o1,o2,o3,o4,o5,o6,A5s,A5f,Bool.or_self,A4g,A4k]
end Go.Proofs.S1
end
