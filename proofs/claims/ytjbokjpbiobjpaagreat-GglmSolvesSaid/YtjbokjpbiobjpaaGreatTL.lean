/- A verified evaluator of the program's form and its use for this seat: S1EqRef17, S1PRef17, S1EqRef14, S1PRef13, S1PRef14, S1EqLow, S1PLow, S1EqLse, S1PLse, S1POfS, S1EqRef20, S1PSubSt, S1PLseA, S1PRefL, S1PRef20, S1PMx. -/
import Derived.Test.YtjbokjpbiobjpaaGreatTE
import Derived.Test.YtjbokjpbiobjpaaGreatTF
import Derived.Test.YtjbokjpbiobjpaaGreatTK
import Derived.Test.YtjbokjpbiobjpaaGreatTI
import Derived.Test.YtjbokjpbiobjpaaGreatTJ
set_option linter.unusedVariables false
set_option linter.unusedSimpArgs false
noncomputable section
open Int (toNat)
open List (length getD)
open Go.Proofs.Tryz
namespace Go.Proofs.S1
open Go Go.Den Go.Rnd Go.Proofs
set_option maxRecDepth 100000
namespace EqRef17
def Ai.Div.Bc:List (Nat × Entry):=[(102,Ai.B.spec),(159,Ai.F.spec)]
def Ai.Div.E:Env:=Be (Bb Ai.Div.Bc) (fun _=>false) (fun _=>none) (fun _=>none)
theorem Ai.Div.ev (N:Nat) (a b:Int):Bu Ai.Div.E N f84 (Am f84) [.int .u64 a,.int .u64 b]=bif (Ak a) then bif (Ak b) then some (.int .u64 (Ge ((Ieee.double.div (toNat a) (toNat b)).getD nanBits))) else none else none:=by kernel_rfl
abbrev _root_.Go.Proofs.S1.Ai.Div.Kn:=A7 prog 84 Ai.Div.spec
theorem Ai.Div.Ac (hk:A1 prog Ai.Div.Bc) (h:Hyp Ai.Div.E f84 Ai.Div.ts Ai.Div.pre Ai.Div.out):Ai.Div.Kn :=
 Al (A2 hk _ _ _) func84 (by kernel_rfl) (by kernel_rfl) h
def Ai.Finite.hint:Nat→Option Bg
 | 0=>some { keep:=[0,3],objs:=[],boxes:=[] }
 | _=>none
def Ai.Finite.Bc:List (Nat × Entry):=[(131,A5.Finite.spec)]
def Ai.Finite.E:Env:=Be (Bb Ai.Finite.Bc) (fun _=>false) Ai.Finite.hint (fun _=>none)
section
variable (N M:Nat) (x:List Int) (p3:Int)
def Ai.Finite.L0:Option DV:=Bx Ai.Finite.E N f92 (Am f92) [1,0,1,0] [] M ⟨E5 16 [(0,.ints .arg .u64 x),(3,.int .i64 p3)],[]⟩
theorem Ai.Finite.Av:Ai.Finite.L0 N (M+1) x p3=bif (Bd p3 (length x:Int)) then bif ((decide (0≤p3))&&(decide (p3<(length x:Int)))) then bif (Ak (getD x (toNat p3) 0)) then bif (!(Dg (getD x (toNat p3) 0))) then some (.bool false) else Ai.Finite.L0 N M x (Ab (p3+1)) else none else none else some (.bool true):=by kernel_rfl
theorem Ai.Finite.ev:Bu Ai.Finite.E N f92 (Am f92) [.ints .arg .u64 x] =
 Ai.Finite.L0 N N x 0:=by kernel_rfl
end
abbrev _root_.Go.Proofs.S1.Ai.Finite.Kn:=A7 prog 92 Ai.Finite.spec
theorem Ai.Finite.Ac (hk:A1 prog Ai.Finite.Bc) (h:Hyp Ai.Finite.E f92 Ai.Finite.ts Ai.Finite.pre Ai.Finite.out):Ai.Finite.Kn :=
 Al (A2 hk _ _ _) func92 (by kernel_rfl) (by kernel_rfl) h
def F7.Check.Bc:List (Nat × Entry):=[(92,Ai.Finite.spec),(91,Af.Hl.spec)]
def F7.Check.E:Env:=Be (Bb F7.Check.Bc) (fun _=>false) (fun _=>none) (fun _=>none)
theorem F7.Check.ev (N:Nat) (r c:Int) (l:List Int):Bu F7.Check.E N f25 (Am f25) [.agg [.int .i64 r,.int .i64 c,.ints .arg .u64 l]]=bif (!(A0 r c l)) then some (.int .i64 1) else bif (Cy l) then bif (!(Dj l)) then some (.int .i64 4) else some (.int .i64 0) else none:=by kernel_rfl
abbrev _root_.Go.Proofs.S1.F7.Check.Kn:=A7 prog 25 F7.Check.spec
theorem F7.Check.Ac (hk:A1 prog F7.Check.Bc) (h:Hyp F7.Check.E f25 F7.Check.ts F7.Check.pre F7.Check.out):F7.Check.Kn :=
 Al (A2 hk _ _ _) func25 (by kernel_rfl) (by kernel_rfl) h
def A3.Check.hint:Nat→Option Bg
 | 0=>some { keep:=[2,5],objs:=[],boxes:=[2] }
 | _=>none
def A3.Check.Bc:List (Nat × Entry):=[(62,A5.Kind.spec),(80,Af.At.spec),(25,F7.Check.spec)]
def A3.Check.E:Env:=Be (Bb A3.Check.Bc) (fun _=>false) A3.Check.hint (fun _=>none)
section
variable (N M:Nat) (r c:Int) (l:List Int) (p q:Int) (m:List Int) (p5:Int)
def A3.Check.L0:Option DV:=Bx A3.Check.E N f79 (Am f79) [1,1,1,1,0,1,0] [] M ⟨E5 40 [(2,.ptr 2 0 0),(5,.int .i64 p5)],[(2,false,.box [.int .i64 r,.int .i64 c,.ints .arg .u64 l])]⟩
theorem A3.Check.Av:A3.Check.L0 N (M+1) r c l p5=bif (Bd p5 r) then bif (Cj r c l p5 p5) then bif (K9 (D0 c l p5 p5)) then bif ((Bk (D0 c l p5 p5))==(0:Int)) then some (.int .i64 5) else A3.Check.L0 N M r c l (Ab (p5+1)) else none else none else some (.int .i64 0):=by kernel_rfl
theorem A3.Check.ev:Bu A3.Check.E N f79 (Am f79) [.agg [.int .i64 r,.int .i64 c,.ints .arg .u64 l],.agg [.int .i64 p,.int .i64 q,.ints .arg .u64 m]]=bif (Ag l) then bif ((B4 r c l) !=(0:Int)) then bif (Ag l) then some (.int .i64 (B4 r c l)) else none else bif (Ag m) then bif ((B4 p q m) !=(0:Int)) then bif (Ag m) then some (.int .i64 (B4 p q m)) else none else bif ((r !=c)||(r !=p)) then some (.int .i64 3) else A3.Check.L0 N N r c l (0:Int) else none else none :=
 Eq.trans (by kernel_rfl)
 (Ec (Ec rfl (Ec (Ec rfl (Ax (Uc (r !=c)) (Ax (Sr (r !=c)) (Ax (Uc (r !=c)) (Ax (Sr (r !=c)) (Ax (tt8 (r !=c)) (Ax (Ye (r !=c)) (Cp (tt5 (r !=c) (r !=p)) rfl rfl)))))))) rfl)) rfl)
end
abbrev _root_.Go.Proofs.S1.A3.Check.Kn:=A7 prog 79 A3.Check.spec
theorem A3.Check.Ac (hk:A1 prog A3.Check.Bc) (h:Hyp A3.Check.E f79 A3.Check.ts A3.Check.pre A3.Check.out):A3.Check.Kn :=
 Al (A2 hk _ _ _) func79 (by kernel_rfl) (by kernel_rfl) h
def A3.finite.Bc:List (Nat × Entry):=[(92,Ai.Finite.spec)]
def A3.finite.E:Env:=Be (Bb A3.finite.Bc) (fun _=>false) (fun _=>none) (fun _=>none)
theorem A3.finite.ev (N:Nat) (r c:Int) (l:List Int):Bu A3.finite.E N f85 (Am f85) [.agg [.int .i64 r,.int .i64 c,.ints .arg .u64 l]]=bif (Cy l) then bif (!(Dj l)) then some (.tup [.agg [.int .i64 0,.int .i64 0,.nil],.int .i64 2]) else some (.tup [.agg [.int .i64 r,.int .i64 c,.ints .arg .u64 l],.int .i64 0]) else none:=by kernel_rfl
abbrev _root_.Go.Proofs.S1.A3.finite.Kn:=A7 prog 85 A3.finite.spec
theorem A3.finite.Ac (hk:A1 prog A3.finite.Bc) (h:Hyp A3.finite.E f85 A3.finite.ts A3.finite.pre A3.finite.out):A3.finite.Kn :=
 Al (A2 hk _ _ _) func85 (by kernel_rfl) (by kernel_rfl) h
def A3.Cq.hint:Nat→Option Bg
 | 0=>some { keep:=[2,3,4,6,7],objs:=[],boxes:=[2,3,4,6] }
 | 2=>some { keep:=[2,3,4,6,7,8],objs:=[],boxes:=[2,3,4,6] }
 | 4=>some { keep:=[2,3,4,6,7,8,9,10],objs:=[],boxes:=[2,3,4,6] }
 | _=>none
def A3.Cq.Bc:List (Nat × Entry):=[(84,Ai.Div.spec),(82,Ai.Mul.spec),(81,Ai.Sub.spec),(80,Af.At.spec),(83,Af.Fp.spec),(35,Af.Bn.spec),(79,A3.Check.spec),(85,A3.finite.spec)]
def A3.Cq.E:Env:=Be (Bb A3.Cq.Bc) (fun _=>false) A3.Cq.hint (fun _=>none)
section
variable (N M0 M1 M:Nat) (r c:Int) (l:List Int) (p q:Int) (m:List Int) (p9 p10 p7_2 p8_1:Int) (p6_1:List Int) (p8:Int) (p6:List Int) (p7_1 p7:Int) (p6_2:List Int)
def A3.Cq.L0:Option DV:=Bx A3.Cq.E N f101 (Am f101) [1,1,1,0,1,0] [] M ⟨E5 74 [(2,.ptr 2 0 0),(3,.ptr 3 0 0),(4,.ptr 4 0 0),(6,.ptr 6 0 0),(7,.int .i64 p7)],[(2,false,.box [.int .i64 r,.int .i64 c,.ints .arg .u64 l]),(3,false,.box [.int .i64 p,.int .i64 q,.ints .arg .u64 m]),(4,false,.box [.int .i64 0,.int .i64 0,.nil]),(6,false,.box [.int .i64 p,.int .i64 q,.ints .fresh .u64 p6_2])]⟩
def A3.Cq.L1:Option DV:=Bx A3.Cq.E N f101 (Am f101) [1,1,1,0,1,0,0,1,0,0,1,0] [M0] M ⟨E5 74 [(2,.ptr 2 0 0),(3,.ptr 3 0 0),(4,.ptr 4 0 0),(6,.ptr 6 0 0),(7,.int .i64 p7_1),(8,.int .i64 p8)],[(2,false,.box [.int .i64 r,.int .i64 c,.ints .arg .u64 l]),(3,false,.box [.int .i64 p,.int .i64 q,.ints .arg .u64 m]),(4,false,.box [.int .i64 0,.int .i64 0,.nil]),(6,false,.box [.int .i64 p,.int .i64 q,.ints .fresh .u64 p6])]⟩
def A3.Cq.L2:Option DV:=Bx A3.Cq.E N f101 (Am f101) [1,1,1,0,1,0,0,1,0,0,1,0,0,1,0,0,1,0,1,0] [M0,M1] M ⟨E5 74 [(2,.ptr 2 0 0),(3,.ptr 3 0 0),(4,.ptr 4 0 0),(6,.ptr 6 0 0),(7,.int .i64 p7_2),(8,.int .i64 p8_1),(9,.int .u64 p9),(10,.int .i64 p10)],[(2,false,.box [.int .i64 r,.int .i64 c,.ints .arg .u64 l]),(3,false,.box [.int .i64 p,.int .i64 q,.ints .arg .u64 m]),(4,false,.box [.int .i64 0,.int .i64 0,.nil]),(6,false,.box [.int .i64 p,.int .i64 q,.ints .fresh .u64 p6_1])]⟩
theorem A3.Cq.Av:A3.Cq.L0 N (M+1) r c l p q m p7 p6_2=bif (Bd p7 q) then A3.Cq.L1 N M N r c l p q m (Ab (r-1)) p6_2 p7 else bif (Ag p6_2&&A0 p q p6_2) then some (.tup [.agg [.int .i64 ((Gx p q p6_2).1),.int .i64 ((Gx p q p6_2).2.1),.ints .arg .u64 ((Gx p q p6_2).2.2.1)],.int .i64 ((Gx p q p6_2).2.2.2)]) else none:=by kernel_rfl
theorem A3.Cq.B6:A3.Cq.L1 N M0 (M+1) r c l p q m p8 p6 p7_1=bif (Es 0 p8) then bif (Cj p q m p8 p7_1) then A3.Cq.L2 N M0 M N r c l p q m (D0 q m p8 p7_1) (Ab (p8+1)) p7_1 p8 p6 else none else A3.Cq.L0 N M0 r c l p q m (Ab (p7_1+1)) p6:=by kernel_rfl
theorem A3.Cq.Fl:A3.Cq.L2 N M0 M1 (M+1) r c l p q m p9 p10 p7_2 p8_1 p6_1=bif (Bd p10 r) then bif (Cj r c l p8_1 p10) then bif (Cj p q p6_1 p10 p7_2) then bif (Ak (D0 c l p8_1 p10)&&Ak (D0 q p6_1 p10 p7_2)) then bif (Ak p9&&Ak (D5 (D0 c l p8_1 p10) (D0 q p6_1 p10 p7_2))) then A3.Cq.L2 N M0 M1 M r c l p q m (Dl p9 (D5 (D0 c l p8_1 p10) (D0 q p6_1 p10 p7_2))) (Ab (p10+1)) p7_2 p8_1 p6_1 else none else none else none else none else bif (Cj r c l p8_1 p8_1) then bif (Ak p9&&Ak (D0 c l p8_1 p8_1)) then bif (Cj p q p6_1 p8_1 p7_2) then A3.Cq.L1 N M0 M1 r c l p q m (Ab (p8_1-1)) (List.set p6_1 (toNat (p8_1*q+p7_2)) (Ez p9 (D0 c l p8_1 p8_1))) p7_2 else none else none else none :=
 Eq.trans (by kernel_rfl)
 (Ec (Cp (Cd (Cj r c l p8_1 p10)) (Cp (Cd (Cj p q p6_1 p10 p7_2)) (Cp (Cd (Ak (D0 c l p8_1 p10)&&Ak (D0 q p6_1 p10 p7_2))) (Cp (Cd (Ak p9&&Ak (D5 (D0 c l p8_1 p10) (D0 q p6_1 p10 p7_2)))) rfl rfl) rfl) rfl) rfl) (Cp (Cd (Cj r c l p8_1 p8_1)) (Cp (Cd (Ak p9&&Ak (D0 c l p8_1 p8_1))) (Cp (Cd (Cj p q p6_1 p8_1 p7_2)) rfl rfl) rfl) rfl))
theorem A3.Cq.ev:Bu A3.Cq.E N f101 (Am f101) [.agg [.int .i64 r,.int .i64 c,.ints .arg .u64 l],.agg [.int .i64 p,.int .i64 q,.ints .arg .u64 m]]=bif (Ag l&&Ag m) then bif ((Ld r c l p q m) !=(0:Int)) then bif (Ag l&&Ag m) then some (.tup [.agg [.int .i64 0,.int .i64 0,.nil],.int .i64 (Ld r c l p q m)]) else none else bif (Bv p&&Bv q) then A3.Cq.L0 N N r c l p q m 0 (Cx (toNat p) (toNat q) (fun _ _=>0)) else none else none:=by kernel_rfl
end
abbrev _root_.Go.Proofs.S1.A3.Cq.Kn:=A7 prog 101 A3.Cq.spec
theorem A3.Cq.Ac (hk:A1 prog A3.Cq.Bc) (h:Hyp A3.Cq.E f101 A3.Cq.ts A3.Cq.pre A3.Cq.out):A3.Cq.Kn :=
 Al (A2 hk _ _ _) func101 (by kernel_rfl) (by kernel_rfl) h
end EqRef17
open EqRef17
theorem Ai.Div.known:Ai.Div.Kn:=Ai.Div.Ac (.cons Ai.B.known (.cons Ai.F.known .nil)) fun a b hp=>by
 obtain ⟨ha,hb⟩:=Ad.1 hp
 obtain ⟨a,rfl,hn⟩:=Bo ha
 obtain ⟨b,rfl,hm⟩:=Bo hb
 refine ⟨0,Ai.Div.out [.i a,.i b],[],?_,.int⟩
 rw [Ai.Div.ev,ha,hb,A06,A06]
 unfold Ge
 rw [Aq5 hn hm G3]; rfl
theorem Xo (N:Nat) {x:List Int} (hx:Cy x=true):∀ (k i F:Nat),i+k=x.length→k<F→Ai.Finite.L0 N F x (i:Int)=some (.bool ((x.drop i).all Dg)):=by
 obtain ⟨hl,hu⟩:=Ip hx
 intro k
 induction k with
 | zero =>
   intro i F hi hF
   obtain ⟨F,rfl⟩:∃ G,F=G+1:=⟨F-1,by omega⟩
   rw [Ai.Finite.Av,Aw,A09 (by omega),A08,A1i (by omega)]; rfl
 | succ k ih =>
   intro i F hi hF
   obtain ⟨F,rfl⟩:∃ G,F=G+1:=⟨F-1,by omega⟩
   rw [Ai.Finite.Av,Aw,A05 (show (i:Int)<(x.length:Int) by omega),A04,A05 (show (0:Int)≤(i:Int) by omega),A1a,A04,A06,hu i (by omega),A04,Hh (by omega),List.all_cons]
   cases Dg (x.getD i 0) with
   | false=>rfl
   | true =>
     rw [A13,A08,An (by omega) (by omega),A2h]
     exact ih (i+1) F (by omega) (by omega)
theorem Ai.Finite.known:Ai.Finite.Kn:=Ai.Finite.Ac (.cons A5.Finite.known .nil) fun x hp=>by
 have hp:Cy x=true:=hp
 refine ⟨x.length+1,Ai.Finite.out [.l x],[],?_,.bool⟩
 show _=some (DV.bool (x.all Dg))
 rw [Ai.Finite.ev]
 exact Xo _ hp x.length 0 (x.length+1) (by omega) (by omega)
theorem F7.Check.known:F7.Check.Kn:=F7.Check.Ac (.cons Ai.Finite.known (.cons Af.Hl.known .nil)) fun r c l hp=>by
 have hp:Ag l=true:=hp
 refine ⟨0,F7.Check.out [.i r,.i c,.l l],[],?_,.int⟩
 show _=some (DV.int .i64 (B4 r c l))
 rw [F7.Check.ev]
 unfold B4
 by_cases h:A0 r c l=true
 ·have:=O1 h
  rw [h,A13,A08,I1 hp (by omega),A04,A1r rfl]
  cases Dj l<;>rfl
 ·have h':A0 r c l=false:=by simpa using h
  rw [h']; rfl
theorem Yz (N:Nat) {n:Nat} {l:List Int} (n6:n≤6) (hl:l.length=n*n) (al:Ag l=true):∀ (cnt i F:Nat),i+cnt=n→cnt<F →
 A3.Check.L0 N F (n:Int) (n:Int) l (i:Int)=some (.int .i64 (if ((List.range n).drop i).any (fun i:Nat=>decide (Bk (D0 (n:Int) l (i:Int) (i:Int))=0))=true then 5 else 0)):=by
 intro cnt
 induction cnt with
 | zero =>
   intro i F hi hF
   obtain ⟨F,rfl⟩:∃ G,F=G+1:=⟨F-1,by omega⟩
   rw [A3.Check.Av,Aw,A09 (by omega),A08,A1i (by rw [A17]; omega)]; rfl
 | succ cnt ih =>
   intro i F hi hF
   obtain ⟨F,rfl⟩:∃ G,F=G+1:=⟨F-1,by omega⟩
   have hn:K9 (D0 (n:Int) l (i:Int) (i:Int))=true:=by
    obtain ⟨k,hk,_⟩:=Bo (Fx (c:=(n:Int)) (i:=(i:Int)) (k:=(i:Int)) al)
    rw [hk]; exact I2 k
   rw [A3.Check.Av,Aw,A05 (show (i:Int)<(n:Int) by omega),A04,C3 n6 n6 hl (show i<n by omega) (show i<n by omega),A04,hn,A04,Y2 (by omega),List.any_cons]
   by_cases hk:Bk (D0 (n:Int) l (i:Int) (i:Int))=0
   ·have e:(Bk (D0 (n:Int) l (i:Int) (i:Int))==(0:Int))=true:=by rw [hk]; rfl
    rw [e,A04,A05 hk]; rfl
   ·have e:(Bk (D0 (n:Int) l (i:Int) (i:Int))==(0:Int))=false:=by simpa using hk
    rw [e,A08,A09 hk,Bool.false_or,An (by omega) (by omega)]
    exact ih (i+1) F (by omega) (by omega)
theorem A3.Check.known:A3.Check.Kn:=A3.Check.Ac (.cons A5.Kind.known (.cons Af.At.known (.cons F7.Check.known .nil))) fun r c l p q m hp=>by
 obtain ⟨al,am⟩:=Ad.1 (show (Ag l&&Ag m)=true from hp)
 refine ⟨8,A3.Check.out [.i r,.i c,.l l,.i p,.i q,.l m],[],?_,.int⟩
 show _=some (DV.int .i64 (Ld r c l p q m))
 rw [A3.Check.ev,al,A04,A04,am,A04,A04,Aum]
 unfold Ld
 by_cases h1:B4 r c l=0
 ·rw [E0 h1,A08,A1q (by rw [h1]; decide)]
  by_cases h2:B4 p q m=0
  ·rw [E0 h2,A08,A1q (by rw [h2]; decide)]
   by_cases h3:r≠c∨r≠p
   ·rw [A05 h3,A04,A1r h3]
   ·rw [A09 h3,A08,A1q h3]
    obtain rfl:r=c:=Decidable.byContradiction fun h=>h3 (.inl h)
    obtain ⟨R,C,rfl,hC,r6,c6,hl⟩:=Ck (Gt h1).1
    obtain rfl:R=C:=by omega
    rw [A06]
    exact Yz 8 r6 hl al R 0 8 (by omega) (by omega)
  ·rw [Pa h2,A04,A1r h2]
 ·rw [Pa h1,A04,A1r h1]
def Aio (x:MX):DV:=.tup [.agg [.int .i64 x.1,.int .i64 x.2.1,.ints .arg .u64 x.2.2.1],.int .i64 x.2.2.2]
theorem Acw {drops:List Nat} {x:MX}:Wk drops (Aio x) (Aio x) :=
 Wk.Gv (.cons (Wk.Gy (.cons .int (.cons .int (.cons .Qv .nil)))) (.cons .int .nil))
theorem Acu {drops:List Nat} {e:Int}:Wk drops (Af8 e) (Aio (Ga e)) :=
 Wk.Gv (.cons (Wk.Gy (.cons .int (.cons .int (.cons (.nil _ _) .nil)))) (.cons .int .nil))
theorem A3.finite.known:A3.finite.Kn:=A3.finite.Ac (.cons Ai.Finite.known .nil) fun r c l hp=>by
 obtain ⟨al,hr⟩:=Ad.1 (show (Ag l&&A0 r c l)=true from hp)
 have:=O1 hr
 show ∃ N dv drops,_=some dv∧Wk drops dv (Aio (Gx r c l))
 unfold Gx
 cases hf:Dj l with
 | true =>
   rw [A1r rfl]
   exact ⟨0,_,[],by rw [A3.finite.ev,I1 al (by omega),hf]; rfl,Acw⟩
 | false =>
   rw [A1q (by decide)]
   exact ⟨0,_,[],by rw [A3.finite.ev,I1 al (by omega),hf]; rfl,Acu⟩
section
variable {n Q:Nat} {l m:List Int}
theorem Adf (N:Nat) (n6:n≤6) (q6:Q≤6) (hl:l.length=n*n) (al:Ag l=true) {i j k:Nat} (hi:i+k+1=n) (hj:j<Q) (M0 M1:Nat) :
 ∀ (cnt t F:Nat) (s:Int),t+cnt=n→cnt<F→i+1≤t→Ak s=true →
 A3.Cq.L2 N M0 M1 F (n:Int) (n:Int) l (n:Int) (Q:Int) m s (t:Int) (j:Int) (i:Int) (Sp n Q l m j k) =
 A3.Cq.L1 N M0 M1 (n:Int) (n:Int) l (n:Int) (Q:Int) m (Ab ((i:Int)-(1:Int))) (List.set (Sp n Q l m j k) (toNat ((i:Int)*(Q:Int)+(j:Int))) (Ez (Ob (n:Int) l (i:Int) s (t:Int) ((upL (n:Int) l (fun i=>D0 (Q:Int) m (i:Int) (j:Int)) n n).drop t)) (D0 (n:Int) l (i:Int) (i:Int)))) (j:Int):=by
 intro cnt
 induction cnt with
 | zero =>
   intro t F s ht hF hit hs
   obtain ⟨F,rfl⟩:∃ G,F=G+1:=⟨F-1,by omega⟩
   rw [A1i (by rw [Nc]; omega),Ob]
   rw [A3.Cq.Fl,Aw,A09 (show ¬ (t:Int)<(n:Int) by omega),A08,C3 n6 n6 hl (show i<n by omega) (show i<n by omega),A04,hs,Fx al,A1a,A04,
    C3 n6 q6 (Uh (l:=l) (m:=m) j k) (show i<n by omega) hj,A04]
 | succ cnt ih =>
   intro t F s ht hF hit hs
   obtain ⟨F,rfl⟩:∃ G,F=G+1:=⟨F-1,by omega⟩
   rw [A3.Cq.Fl,Aw,A05 (show (t:Int)<(n:Int) by omega),A04,C3 n6 n6 hl (show i<n by omega) (show t<n by omega),A04,C3 n6 q6 (Uh (l:=l) (m:=m) j k) (show t<n by omega) hj,A04,
    Aj5 (show t<n by omega) hj (by omega),Fx al,Ah7,A1a,A04,hs,Il,A1a,A04,An (x:=(t:Int)+1) (by omega) (by omega)]
   have:=ih (t+1) F (Dl s (D5 (D0 (n:Int) l (i:Int) (t:Int)) (upF n Q l m t j))) (by omega) (by omega) (by omega) (K5 hs (Il _ _))
   rw [Wo (by rw [Nc]; omega)]
   exact this
theorem Afy (N:Nat) (n6:n≤6) (q6:Q≤6) (hN:7<N) (hl:l.length=n*n) (hm:m.length=n*Q) (al:Ag l=true) (am:Ag m=true) {j:Nat} (hj:j<Q) (M0:Nat):∀ (cnt k F:Nat),k+cnt=n→cnt<F →
 A3.Cq.L1 N M0 F (n:Int) (n:Int) l (n:Int) (Q:Int) m ((n:Int)-1-(k:Int)) (Sp n Q l m j k) (j:Int) =
 A3.Cq.L0 N M0 (n:Int) (n:Int) l (n:Int) (Q:Int) m ((j+1:Nat):Int) (Sp n Q l m j n):=by
 intro cnt
 induction cnt with
 | zero =>
   intro k F hk hF
   obtain ⟨F,rfl⟩:∃ G,F=G+1:=⟨F-1,by omega⟩
   obtain rfl:k=n:=by omega
   rw [A3.Cq.B6,Ej,A09 (by omega),A08,An (by omega) (by omega)]
   rfl
 | succ cnt ih =>
   intro k F hk hF
   obtain ⟨F,rfl⟩:∃ G,F=G+1:=⟨F-1,by omega⟩
   obtain ⟨i,hi⟩:∃ i:Nat,i+k+1=n:=⟨n-k-1,by omega⟩
   have ei:(n:Int)-1-(k:Int)=(i:Int):=by omega
   have hr:=Adf (n:=n) (Q:=Q) (l:=l) (m:=m) N n6 q6 hl al hi hj M0 F (n-(i+1)) (i+1) N (D0 (Q:Int) m (i:Int) (j:Int)) (by omega) (by omega) (by omega) (Fx (c:=(Q:Int)) am)
   rw [Aj4 hi hj (Aj7 (show i<n by omega)).symm,An (by omega) (by omega),show (i:Int)-1=(n:Int)-1-((k+1:Nat):Int) by omega] at hr
   rw [ei,A3.Cq.B6,Ej,A05 (show (0:Int)≤(i:Int) by omega),A04,C3 n6 q6 hm (show i<n by omega) hj,A04,An (x:=(i:Int)+1) (by omega) (by omega)]
   exact hr.trans (ih (k+1) F (by omega) (by omega))
theorem Afz (N:Nat) (n6:n≤6) (q6:Q≤6) (hN:7<N) (hl:l.length=n*n) (hm:m.length=n*Q) (al:Ag l=true) (am:Ag m=true):∀ (cnt j F:Nat),j+cnt=Q→cnt<F →
 A3.Cq.L0 N F (n:Int) (n:Int) l (n:Int) (Q:Int) m (j:Int) (Sp n Q l m j 0)=some (Aio (Gx (n:Int) (Q:Int) (Sp n Q l m Q 0))):=by
 intro cnt
 induction cnt with
 | zero =>
   intro j F hj hF
   obtain ⟨F,rfl⟩:∃ G,F=G+1:=⟨F-1,by omega⟩
   obtain rfl:j=Q:=by omega
   have hr:A0 (n:Int) (j:Int) (Sp n j l m j 0)=true:=Ajb _ n6 q6
   rw [A3.Cq.Av,Aw,A09 (by omega),A08,Aoc,hr,A1a,A04]
   rfl
 | succ cnt ih =>
   intro j F hj hF
   obtain ⟨F,rfl⟩:∃ G,F=G+1:=⟨F-1,by omega⟩
   have hr:=Afy N n6 q6 hN hl hm al am (show j<Q by omega) F n 0 N (by omega) (by omega)
   rw [Ae4,show (n:Int)-1-((0:Nat):Int)=(n:Int)-1 by omega] at hr
   rw [A3.Cq.Av,Aw,A05 (show (j:Int)<(Q:Int) by omega),A04,An (x:=(n:Int)-1) (by omega) (by omega)]
   exact hr.trans (ih (j+1) F (by omega) (by omega))
end
theorem A3.Cq.known:A3.Cq.Kn:=A3.Cq.Ac (.cons Ai.Div.known (.cons Ai.Mul.known (.cons Ai.Sub.known (.cons Af.At.known (.cons Af.Fp.known (.cons Af.Bn.known (.cons A3.Check.known (.cons A3.finite.known .nil)))))))) fun r c l p q m hp=>by
 have hp:(Ag l&&Ag m)=true:=hp
 obtain ⟨al,am⟩:=Ad.1 hp
 show ∃ N dv drops,_=some dv∧Wk drops dv (Aio (Sz r c l p q m))
 unfold Sz
 by_cases h:Ld r c l p q m=0
 ·obtain ⟨h1,h2,rfl,rfl⟩:=Na h
  have s1:=Fj h2
  obtain ⟨R,C,rfl,hC,r6,c6,hl⟩:=Ck h1
  obtain ⟨P,Q,hP,rfl,p6,q6,hl2⟩:=Ck h2
  obtain rfl:R=C:=by omega
  obtain rfl:R=P:=by omega
  have n:=Afz (n:=R) (Q:=Q) (l:=l) (m:=m) 8 r6 q6 (by omega) hl hl2 al am Q 0 8 (by omega) (by omega)
  rw [Ae3,Aj6,show ((0:Nat):Int)=0 from rfl] at n
  rw [A1q (by rw [h]; decide),A06,A06]
  refine ⟨8,_,[],?_,Acw⟩
  rw [A3.Cq.ev,al,am,A1a,A04,E0 h,A08,s1.1,s1.2,A1a,A04,A06,A06]
  exact n
 ·rw [A1r h]
  exact ⟨0,_,[],by rw [A3.Cq.ev,hp,A04,A04,Pa h,A04]; rfl,Acu⟩
namespace EqRef14
def Cm.By.hint:Nat→Option Bg
 | 0=>some { keep:=[1,2,3,4,5],objs:=[(0,4,100004,.recs 191 3 [])],boxes:=[1,2,3] }
 | 2=>some { keep:=[2,3,4,9,10],objs:=[(0,4,100004,.recs 191 3 [])],boxes:=[2,3,9] }
 | _=>none
def Cm.By.Bc:List (Nat × Entry):=[(92,Ai.Finite.spec),(108,Af.Pp.spec),(33,Af.Ew.arg.spec),(198,Bf.Apply.spec),(196,Bf.Dw.spec),(197,Cm.Dr.spec)]
def Cm.By.E:Env:=Ws (Bb Cm.By.Bc) (fun _=>false) Cm.By.hint (fun _=>none) (Ahr [(22,[.s .u64]),(37,[.i .u64])])
section
variable (N M:Nat) (r c p10:Int) (p3_1:List Int) (p4_1:List (List DV)) (p9 l:List Int) (p5:Int) (p3:List Int) (p4:List (List DV))
def Cm.By.L0:Option DV:=Bx Cm.By.E N f127 (Am f127) [1,1,1,0,1,0] [] M ⟨E5 95 [(1,.ptr 1 0 0),(2,.ptr 2 0 0),(3,.ptr 3 0 0),(4,.oref 100004),(5,.int .i64 p5)],[(1,false,.box [.int .i64 r,.int .i64 c,.ints .arg .u64 l]),(2,false,.box [.int .i64 0,.int .i64 0,.nil,.int .i64 0,.int .i64 0,.nil,.bool false]),(3,false,.box [.int .i64 r,.int .i64 c,.ints .arg .u64 p3]),(100004,false,.recs 191 3 p4)]⟩
def Cm.By.L1:Option DV:=Bx Cm.By.E N f127 (Am f127) [1,1,1,1,1,0,1,0] [] M ⟨E5 95 [(2,.ptr 2 0 0),(3,.ptr 3 0 0),(4,.oref 100004),(9,.ptr 9 0 0),(10,.int .i64 p10)],[(2,false,.box [.int .i64 0,.int .i64 0,.nil,.int .i64 0,.int .i64 0,.nil,.bool false]),(3,false,.box [.int .i64 r,.int .i64 c,.ints .arg .u64 p3_1]),(9,false,.box [.int .i64 r,.int .i64 r,.ints .arg .u64 p9]),(100004,false,.recs 191 3 p4_1)]⟩
theorem Cm.By.Av:Cm.By.L0 N (M+1) r c l p5 p3 p4=bif ((Bd p5 c)&&(Bd p5 (Ab (r-1)))) then bif (Hi r c p3 p5&&Co (0≤p5∧p5≤r)) then bif (Cy (C0 c p3 p5 p5 (toNat (r-p5)))) then bif (!(Dj (C0 c p3 p5 p5 (toNat (r-p5))))) then some (.agg [.int .i64 0,.int .i64 0,.nil,.int .i64 0,.int .i64 0,.nil,.bool false]) else bif (Cy (C0 c p3 p5 p5 (toNat (r-p5)))&&Co (1≤length (C0 c p3 p5 p5 (toNat (r-p5)))∧length (C0 c p3 p5 p5 (toNat (r-p5)))≤64)) then bif (!(decide ((J0 (C0 c p3 p5 p5 (toNat (r-p5)))).2.2.2=0))) then some (.agg [.int .i64 0,.int .i64 0,.nil,.int .i64 0,.int .i64 0,.nil,.bool false]) else bif (((A0 r c p3&&Ic r c p5 p5 ((J0 (C0 c p3 p5 p5 (toNat (r-p5)))).1))&&(Ag p3&&Ag ((J0 (C0 c p3 p5 p5 (toNat (r-p5)))).1)))&&Ak ((J0 (C0 c p3 p5 p5 (toNat (r-p5)))).2.1)) then bif (A0 r c (Fk (toNat r) (toNat c) p3 p5 p5 ((J0 (C0 c p3 p5 p5 (toNat (r-p5)))).1) ((J0 (C0 c p3 p5 p5 (toNat (r-p5)))).2.1))&&Co (0≤p5∧p5<r∧p5<c)) then bif (decide ((length p4)+1≤Ags)) then Cm.By.L0 N M r c l (Ab (p5+1)) (Nt (toNat r) (toNat c) (Fk (toNat r) (toNat c) p3 p5 p5 ((J0 (C0 c p3 p5 p5 (toNat (r-p5)))).1) ((J0 (C0 c p3 p5 p5 (toNat (r-p5)))).2.1)) (toNat p5) ((J0 (C0 c p3 p5 p5 (toNat (r-p5)))).2.2.1)) (p4++[[.ints .arg .u64 ((J0 (C0 c p3 p5 p5 (toNat (r-p5)))).1),.int .u64 ((J0 (C0 c p3 p5 p5 (toNat (r-p5)))).2.1),.int .u64 ((J0 (C0 c p3 p5 p5 (toNat (r-p5)))).2.2.1)]]) else none else none else none else none else none else none else bif (Bv r) then Cm.By.L1 N N r c (Ab ((length p4:Int)-1)) p3 p4 (Jg (toNat r)) else none :=
 Eq.trans (by kernel_rfl)
 (Ax (Oj (Bd p5 c)) (Ax (Oj (Bd p5 c)) (Ax (L7 (Bd p5 c)) (Ax (L7 (Bd p5 c)) (Ax (Ac2 (Bd p5 c)) (Ax (Th (Bd p5 c)) (Cp (tt1 (Bd p5 c) (Bd p5 (Ab (r-1)))) (Ec (Ec (Ec rfl (Ec (Ec rfl (Cp (Cd (((A0 r c p3&&Ic r c p5 p5 ((J0 (C0 c p3 p5 p5 (toNat (r-p5)))).1))&&(Ag p3&&Ag ((J0 (C0 c p3 p5 p5 (toNat (r-p5)))).1)))&&Ak ((J0 (C0 c p3 p5 p5 (toNat (r-p5)))).2.1))) (Cp (Cd (A0 r c (Fk (toNat r) (toNat c) p3 p5 p5 ((J0 (C0 c p3 p5 p5 (toNat (r-p5)))).1) ((J0 (C0 c p3 p5 p5 (toNat (r-p5)))).2.1))&&Co (0≤p5∧p5<r∧p5<c))) rfl rfl) rfl)) rfl)) rfl) rfl) rfl)))))))
theorem Cm.By.B6:Cm.By.L1 N (M+1) r c p10 p3_1 p4_1 p9=bif (Es 0 p10) then bif ((decide (0≤p10))&&(decide (p10<(length p4_1:Int)))) then bif ((decide ((toNat p10)<(length p4_1)))&&(isC (.s .u64) (getD (getD p4_1 (toNat p10) []) 0 .undef))) then bif ((decide (0≤p10))&&(decide (p10<(length p4_1:Int)))) then bif ((decide ((toNat p10)<(length p4_1)))&&(isC (.i .u64) (getD (getD p4_1 (toNat p10) []) 1 .undef))) then bif (((A0 r r p9&&Ic r r p10 0 (Mc (getD (getD p4_1 (toNat p10) []) 0 .undef)))&&(Ag p9&&Ag (Mc (getD (getD p4_1 (toNat p10) []) 0 .undef))))&&Ak (Aac (getD (getD p4_1 (toNat p10) []) 1 .undef))) then Cm.By.L1 N M r c (Ab (p10-1)) p3_1 p4_1 (Fk (toNat r) (toNat r) p9 p10 0 (Mc (getD (getD p4_1 (toNat p10) []) 0 .undef)) (Aac (getD (getD p4_1 (toNat p10) []) 1 .undef))) else none else none else none else none else none else bif (Cy p9) then bif ((!(Dj p9))||(Cy p3_1)) then bif ((!(Dj p9))||(!(Dj p3_1))) then some (.agg [.int .i64 0,.int .i64 0,.nil,.int .i64 0,.int .i64 0,.nil,.bool false]) else some (.agg [.int .i64 r,.int .i64 r,.ints .arg .u64 p9,.int .i64 r,.int .i64 c,.ints .arg .u64 p3_1,.bool true]) else none else none :=
 Eq.trans (by kernel_rfl)
 (Ec (Cp (I9 (decide (0≤p10)) (decide (p10<(length p4_1:Int)))) (Cp (I9 (decide ((toNat p10)<(length p4_1))) (isC (.s .u64) (getD (getD p4_1 (toNat p10) []) 0 .undef))) (Cp (I9 (decide (0≤p10)) (decide (p10<(length p4_1:Int)))) (Cp (I9 (decide ((toNat p10)<(length p4_1))) (isC (.i .u64) (getD (getD p4_1 (toNat p10) []) 1 .undef))) (Cp (Cd (((A0 r r p9&&Ic r r p10 0 (Mc (getD (getD p4_1 (toNat p10) []) 0 .undef)))&&(Ag p9&&Ag (Mc (getD (getD p4_1 (toNat p10) []) 0 .undef))))&&Ak (Aac (getD (getD p4_1 (toNat p10) []) 1 .undef)))) rfl rfl) rfl) rfl) rfl) rfl) (Ec (Ax (Aaw (Dj p9)) (Ax (Q0 (Dj p9)) (Cp (Aol (Dj p9) (Cy p3_1)) (Ax (Q0 (Dj p9)) (Ax (Ac1 (Dj p9)) (Cp (Asa (Dj p9) (Dj p3_1)) rfl rfl))) rfl))) rfl))
theorem Cm.By.ev:Bu Cm.By.E N f127 (Am f127) [.agg [.int .i64 r,.int .i64 c,.ints .arg .u64 l]] =
 Cm.By.L0 N N r c l 0 l []:=by kernel_rfl
end
abbrev _root_.Go.Proofs.S1.Cm.By.Kn:=A7 prog 127 Cm.By.spec
theorem Cm.By.Ac (hk:A1 prog Cm.By.Bc) (h:Hyp Cm.By.E f127 Cm.By.ts Cm.By.pre Cm.By.out):Cm.By.Kn :=
 Al (X6 hk _ _ _ _) func127 (by kernel_rfl) (by kernel_rfl) h
end EqRef14
open EqRef13 EqRef14
theorem Af.Fp.arg.known:Af.Fp.arg.Kn:=A7.Yb (P:=_) (pre:=Af.Fp.pre) (out:=Af.Fp.out) Af.Fp.known [] fun ats h=>by
 unfold Af.Fp.arg.pre at h
 split at h
 ·exact ⟨h,Wk.Gy (.cons .int (.cons .int (.cons (.fresh _ _) .nil)))⟩
 ·cases h
theorem Af.Ew.arg.known:Af.Ew.arg.Kn:=A7.Yb (P:=_) (pre:=Af.Ew.pre) (out:=Af.Ew.out) Af.Ew.known [] fun ats h=>by
 unfold Af.Ew.arg.pre at h
 split at h
 ·exact ⟨h,Wk.Gy (.cons .int (.cons .int (.cons (.fresh _ _) .nil)))⟩
 ·cases h
theorem Wa (N:Nat) {x:List Int} (hx:Cy x=true):∀ (k i F:Nat),i+k=x.length→k<F→Bf.Bw.L0 N F x (i:Int)=some (.bool (En (x.drop i))):=by
 obtain ⟨hl,hu⟩:=Ip hx
 intro k
 induction k with
 | zero =>
   intro i F hi hF
   obtain ⟨F,rfl⟩:∃ G,F=G+1:=⟨F-1,by omega⟩
   rw [Bf.Bw.Av,Aw,A09 (by omega),A08,A1i (by omega)]; rfl
 | succ k ih =>
   intro i F hi hF
   obtain ⟨F,rfl⟩:∃ G,F=G+1:=⟨F-1,by omega⟩
   obtain ⟨n,hn,_⟩:=Bo (hu i (by omega))
   rw [Bf.Bw.Av,Aw,A05 (show (i:Int)<(x.length:Int) by omega),A04,A05 (show (0:Int)≤(i:Int) by omega),A1a,A04,A06,show K9 (x.getD i 0)=true by rw [hn]; exact I2 n,A04,X5,Hh (by omega)]
   unfold En
   rw [List.all_cons]
   cases decide (Bk (x.getD i 0)=0) with
   | false=>rfl
   | true =>
     rw [A13,A08,A2h,An (by omega) (by omega)]
     exact ih (i+1) F (by omega) (by omega)
theorem Bf.Bw.known:Bf.Bw.Kn:=Bf.Bw.Ac (.cons A5.Kind.known .nil) fun x hp=>by
 refine ⟨x.length+1,.bool (En (x.drop 1)),[],?_,.bool⟩
 rw [Bf.Bw.ev]
 by_cases h:x.length=0
 ·rw [Bf.Bw.Av,Aw,A09 (by omega),A08,A1i (by omega)]; rfl
 ·exact Wa (x.length+1) hp (x.length-1) 1 (x.length+1) (by omega) (by omega)
theorem Aa1 (N:Nat) {x:List Int} (hx:Cy x=true):∀ (k i F:Nat),i+k=x.length→k<F→Bf.lead.L0 N F x (i:Int)=some (.int .i64 (Qr (x.drop i) (i:Int))):=by
 obtain ⟨hl,hu⟩:=Ip hx
 intro k
 induction k with
 | zero =>
   intro i F hi hF
   obtain ⟨F,rfl⟩:∃ G,F=G+1:=⟨F-1,by omega⟩
   rw [Bf.lead.Av,Aw,A09 (by omega),A08,A1i (by omega)]; rfl
 | succ k ih =>
   intro i F hi hF
   obtain ⟨F,rfl⟩:∃ G,F=G+1:=⟨F-1,by omega⟩
   obtain ⟨n,hn,_⟩:=Bo (hu i (by omega))
   rw [Bf.lead.Av,Aw,A05 (show (i:Int)<(x.length:Int) by omega),A04,A05 (show (0:Int)≤(i:Int) by omega),A1a,A04,A06,show K9 (x.getD i 0)=true by rw [hn]; exact I2 n,A04,X5,Hh (by omega),Qr]
   by_cases h:Bk (x.getD i 0)=0
   ·rw [A05 h,A1r h,A13,A08,An (by omega) (by omega)]
    exact ih (i+1) F (by omega) (by omega)
   ·rw [A09 h,A1q h]; rfl
theorem Bf.lead.known:Bf.lead.Kn:=Bf.lead.Ac (.cons A5.Kind.known .nil) fun x hp=>by
 refine ⟨x.length+1,.int .i64 (Qr x 0),[],?_,.int⟩
 rw [Bf.lead.ev]
 exact Aa1 (x.length+1) hp x.length 0 (x.length+1) (by omega) (by omega)
theorem Akx:∀ (x:List Int) (i:Nat),En x=false→∃ j:Nat,Qr x (i:Int)=((i+j:Nat):Int)∧j<x.length∧x.getD j 0=Pf x
 | [],i,h=>by cases h
 | b::l,i,h=>by
   unfold Qr Pf
   by_cases hk:Bk b=0
   ·rw [A1r hk,A1r hk]
    have h':En l=false:=by
     unfold En at h ⊢
     rw [List.all_cons,A05 hk,A2h] at h
     exact h
    obtain ⟨j,e1,e2,e3⟩:=Akx l (i+1) h'
    refine ⟨j+1,?_,by simp; omega,by simpa using e3⟩
    have:((i:Int)+1)=((i+1:Nat):Int):=rfl
    rw [this,e1]; omega
   ·rw [A1q hk,A1q hk]
    exact ⟨0,rfl,by simp,rfl⟩
theorem Adz {x:List Int} (h:En (x.drop 1)=false):En x=false:=by
 cases x with
 | nil=>exact h
 | cons b l =>
   have h:En l=false:=h
   unfold En at h ⊢
   rw [List.all_cons,h,Bool.and_false]
theorem Aaz (N:Nat) {x:List Int} (h64:x.length≤64):∀ (k i F:Nat),i+1+k=x.length→k<F →
 Bf.Dw.L0 N F x ((i+1:Nat):Int) (Jq (i+1) fun _=>0)=some (.tup [.agg [.ints (.own 100004 tB) .u64 (Jq x.length fun _=>0),.int .u64 0,.int .u64 (x.getD 0 0)],.bool true]):=by
 intro k
 induction k with
 | zero =>
   intro i F hi hF
   obtain ⟨F,rfl⟩:∃ G,F=G+1:=⟨F-1,by omega⟩
   rw [Bf.Dw.Av,Aw,A09 (by omega),A08,A05 (by omega),A04,show i+1=x.length by omega]
 | succ k ih =>
   intro i F hi hF
   obtain ⟨F,rfl⟩:∃ G,F=G+1:=⟨F-1,by omega⟩
   rw [Bf.Dw.Av,Aw,A05 (by omega),A04,A05 (by rw [Px (by omega)]; unfold Gw; omega),A04,An (by omega) (by omega)]
   have:=ih (i+1) F (by omega) (by omega)
   rw [J6 (i+1+1) (i+1) _ rfl,Ih] at this
   rw [J6 (i+1) i _ rfl]
   exact this
theorem Adl (N:Nat) {y:List Int} {mu beta d:Int} (ay:Ag y=true) (hmu:Ak mu=true) (hd:Ak d=true) (h64:y.length≤64):∀ (k i F:Nat),i+1+k=y.length→k<F →
 Bf.Dw.L2 N F y mu beta d ((i+1:Nat):Int) (Jq (i+1) fun j=>Ez (y.getD j 0) d)=some (.tup [.agg [.ints (.own 100004 tB) .u64 (Jq y.length fun j=>Ez (y.getD j 0) d),.int .u64 (Ez (Dl mu (y.getD 0 0)) mu),.int .u64 beta],.bool true]):=by
 intro k
 induction k with
 | zero =>
   intro i F hi hF
   obtain ⟨F,rfl⟩:∃ G,F=G+1:=⟨F-1,by omega⟩
   have hy:=I7 ay 0
   rw [Bf.Dw.Fl,Aw,A09 (by omega),A08,A05 (show (0:Int)<(y.length:Int) by omega),A04,A05 (show 0<y.length by omega),A04,hmu,hy,A1a,A04,K5 hmu hy,A1a,A04,show i+1=y.length by omega]
 | succ k ih =>
   intro i F hi hF
   obtain ⟨F,rfl⟩:∃ G,F=G+1:=⟨F-1,by omega⟩
   rw [Bf.Dw.Fl,Aw,A05 (show ((i+1:Nat):Int)<(y.length:Int) by omega),A04,A05 (show (0:Int)≤((i+1:Nat):Int) by omega),A1a,A04,A06,A05 (show i+1<y.length by omega),A04,I7 ay,hd,A1a,A04,A05 (by rw [Px (by omega)]; unfold Gw; omega),A04,An (by omega) (by omega)]
   have:=ih (i+1) F (by omega) (by omega)
   rw [J6 (i+1+1) (i+1) _ rfl,Ih] at this
   rw [J6 (i+1) i _ rfl]
   exact this
theorem Yy (N:Nat) {x:List Int} (hx:Cy x=true) (hl:x.length≤64):∀ (k i F:Nat),i+k=x.length→k<F →
 Bf.Dw.L1 N F x (i:Int) ((x.take i).map fun b=>B3 b (-Bz (Bl x)))=Bf.Dw.L1 N (F-k) x (x.length:Int) (Bs x (-Bz (Bl x))):=by
 obtain ⟨_,hu⟩:=Ip hx
 have he:=Aaa (Bl x)
 intro k
 induction k with
 | zero =>
   intro i F hi hF
   rw [show i=x.length by omega,List.take_of_length_le (A1y _)]; rfl
 | succ k ih =>
   intro i F hi hF
   obtain ⟨F,rfl⟩:∃ G,F=G+1:=⟨F-1,by omega⟩
   rw [Bf.Dw.B6,Aw,A05 (show (i:Int)<(x.length:Int) by omega),A04,A05 (show (0:Int)≤(i:Int) by omega),A1a,A04,A06,An (x:=(0:Int)-Bz (Bl x)) (by omega) (by omega),show (0:Int)-Bz (Bl x)=-Bz (Bl x) by omega,
    show Ds (getD x i 0) (-Bz (Bl x))=true from Ad.2 ⟨hu i (by omega),Au.2 (by omega)⟩,A04,A05 (by rw [A2a,List.length_take]; unfold Gw; omega),A04,An (by omega) (by omega)]
   have:=ih (i+1) F (by omega) (by omega)
   rw [Yh (by omega)] at this
   rw [show F+1-(k+1)=F-k by omega]
   exact this
theorem Bf.Dw.known:Bf.Dw.Kn:=Bf.Dw.Ac (.cons A5.Finite.known (.cons A5.Dp.known (.cons A5.Neg.known (.cons Bq.K3.known (.cons Ai.Br.known (.cons Ai.Div.known (.cons Ai.Norm.known (.cons Ai.Bt.known (.cons Ai.Sub.known (.cons Bf.lead.known (.cons Bf.Bw.known .nil))))))))))) fun x hp=>by
 obtain ⟨hx,hl⟩:=Ad.1 (show (Cy x&&Co (1≤length x∧length x≤64))=true from hp)
 have hl:=Au.1 hl
 have al:=W0 hx
 have he:=Aaa (Bl x)
 show ∃ N dv drops,_=some dv∧Wk drops dv (DV.tup [.agg [.ints .fresh .u64 (J0 x).1,.int .u64 (J0 x).2.1,.int .u64 (J0 x).2.2.1],.bool (decide ((J0 x).2.2.2=0))])
 have hrun:=Bf.Dw.ev 66 x
 rw [hx,A04] at hrun
 unfold J0
 by_cases h3:En (x.drop 1)=true
 ·rw [h3,A04] at hrun
  rw [A1r h3]
  exact ⟨66,_,[100004],hrun.trans (Aaz 66 (by omega) (x.length-1) 0 66 (by omega) (by omega)),Wk.Gv (.cons (Wk.Gy (.cons (.drop _ _ _ _ (List.mem_singleton.2 rfl)) (.cons .int (.cons .int .nil)))) (.cons .bool .nil))⟩
 ·rw [A1q h3]
  have h3:En (x.drop 1)=false:=by simpa using h3
  rw [h3,A08,A04,Oo,A04] at hrun
  have hs:=Yy 66 hx hl.2 x.length 0 66 (by omega) (by omega)
  have hrun:=hrun.trans hs
  obtain ⟨j,j1,j2,j3⟩:=Akx x 0 (Adz h3)
  rw [A2e] at j1
  have j1:Qr x 0=(j:Int):=j1
  have ly:=Abj x (-Bz (Bl x))
  have ay:=Abk (-Bz (Bl x)) al
  have oky:Cy (Bs x (-Bz (Bl x)))=true:=I1 ay (by omega)
  have iy:=I7 ay 0
  have gy:=R3 (x:=x) (k:=-Bz (Bl x)) (j:=0) (by omega)
  have sp:∀ mu:Int,Ak mu=true→Ds mu (Bz (Bl x))=true:=fun mu h=>Ad.2 ⟨h,Au.2 (by omega)⟩
  have ny:=X0 (Bs x (-Bz (Bl x)))
  obtain ⟨F,hF⟩:∃ F,66-x.length=F+1:=⟨65-x.length,by omega⟩
  have key:∀ mu:Int,muI x=mu→Ak mu=true→Bf.Dw.L2 66 66 (Bs x (-Bz (Bl x))) mu (B3 mu (Bz (Bl x))) (Dl ((Bs x (-Bz (Bl x))).getD 0 0) mu) 1 [4607182418800017408]=some (.tup [.agg [.ints (.own 100004 tB) .u64 (Sv x),.int .u64 (Tq x),.int .u64 (Fh x)],.bool true]):=by
   intro mu hmu hi
   have:=Adl 66 (y:=Bs x (-Bz (Bl x))) (mu:=mu) (beta:=B3 mu (Bz (Bl x))) (d:=Dl ((Bs x (-Bz (Bl x))).getD 0 0) mu) ay hi (K5 iy hi) (by omega) (x.length-1) 0 66 (by omega) (by omega)
   have e1:Jq (Bs x (-Bz (Bl x))).length (fun j=>Ez (getD (Bs x (-Bz (Bl x))) j 0) (Dl (getD (Bs x (-Bz (Bl x))) 0 0) mu))=Sv x:=by
    unfold Sv
    rw [ly,gy,← hmu]
    exact Abm fun j hj=>by rw [R3 hj]; rfl
   have e2:Ez (Dl mu (getD (Bs x (-Bz (Bl x))) 0 0)) mu=Tq x:=by
    unfold Tq
    rw [gy,hmu]; rfl
   have e3:B3 mu (Bz (Bl x))=Fh x:=by unfold Fh; rw [hmu]
   rw [e1,e2] at this
   rw [e3] at this ⊢
   exact this
  have fin:∀ (b:Bool) (d:Option DV),Dg (Fh x)=b→(d=bif (!b) then some (.tup [.agg [.nil,.int .u64 (0:Int),.int .u64 (0:Int)],.bool false]) else some (.tup [.agg [.ints (.own 100004 tB) .u64 (Sv x),.int .u64 (Tq x),.int .u64 (Fh x)],.bool true])) →
   ∃ dv drops,d=some dv∧Wk drops dv (DV.tup [.agg [.ints .fresh .u64 (if Dg (Fh x)=true then (Sv x,Tq x,Fh x,(0:Int)) else ([],0,0,2)).1,.int .u64 (if Dg (Fh x)=true then (Sv x,Tq x,Fh x,(0:Int)) else ([],0,0,2)).2.1,.int .u64 (if Dg (Fh x)=true then (Sv x,Tq x,Fh x,(0:Int)) else ([],0,0,2)).2.2.1],.bool (decide ((if Dg (Fh x)=true then (Sv x,Tq x,Fh x,(0:Int)) else ([],0,0,2)).2.2.2=0))]):=by
   intro b d hb h
   cases b with
   | true =>
     rw [hb,A1r rfl]
     exact ⟨_,[100004],h,Wk.Gv (.cons (Wk.Gy (.cons (.drop _ _ _ _ (List.mem_singleton.2 rfl)) (.cons .int (.cons .int .nil)))) (.cons .bool .nil))⟩
   | false =>
     rw [hb,A1q (by decide)]
     exact ⟨_,[],h,Wk.Gv (.cons (Wk.Gy (.cons Hb (.cons .int (.cons .int .nil)))) (.cons .bool .nil))⟩
  have go:=fin (Dg (Fh x)) _ rfl (hrun.trans ?_)
  ·obtain ⟨dv,drops,k1,k2⟩:=go
   exact ⟨66,dv,drops,k1,k2⟩
  have hlead:=X4 al
  rw [hF,Bf.Dw.B6,Aw,A09 (show ¬ (x.length:Int)<(x.length:Int) by omega),A08,oky,A04,hx,A04,j1,A05 (show (0:Int)≤(j:Int) by omega),A05 (show (j:Int)<(x.length:Int) by omega),A1a,A04,A06,j3,hlead,A04]
  have d1:decide ((0:Int)<((Bs x (-Bz (Bl x))).length:Int))=true:=A05 (by omega)
  have d2:decide (0<(Bs x (-Bz (Bl x))).length)=true:=A05 (by omega)
  cases hn:D4 (Pf x) with
  | true =>
    have hm:muI x=Dz (Bs x (-Bz (Bl x))):=by unfold muI; rw [A1r hn]
    have eb:Fh x=B3 (Dz (Bs x (-Bz (Bl x)))) (Bz (Bl x)):=by unfold Fh; rw [hm]
    rw [A13,A08,sp _ ny,A04,Ig ny,A04,key _ hm ny,d1,A04,d2,A04,iy,ny,A1a,A04,eb]
  | false =>
    have hm:muI x=Dk (Dz (Bs x (-Bz (Bl x)))):=by unfold muI; rw [A1q (by rw [hn]; decide)]
    have my:=Zi ny
    have eb:Fh x=B3 (Dk (Dz (Bs x (-Bz (Bl x))))) (Bz (Bl x)):=by unfold Fh; rw [hm]
    rw [A2n,A04,ny,A04,sp _ my,A04,Ig my,A04,key _ hm my,d1,A04,d2,A04,iy,my,A1a,A04,eb]
open EqRef13 EqRef14
theorem Ake {c b i:Int} {l:List Int} {n j:Nat} (h:j<n):(C0 c l b i n).getD j 0=D0 c l (i+(j:Int)) b:=by
 unfold C0
 rw [A1e,A2l,List.getElem?_range h]; rfl
theorem Q2 (a c b:Nat):toNat ((a:Int)*(c:Int)+(b:Int))=a*c+b:=by rw [← A1p,← Int.natCast_add,A06]
section
variable {R C i k:Nat} {l v:List Int} {t:Int}
theorem Y0 (N M0:Nat) (r6:R≤6) (c6:C≤6) (al:Ag l=true) (av:Ag v=true) (hv:i+v.length≤R) {c:Nat} (hc:c<C) (hk:k≤c):∀ (cnt j F:Nat),j+cnt=v.length→cnt<F →
 Bf.Apply.L1 N M0 F (R:Int) (C:Int) l (i:Int) v t (j:Int) (apS R C l i k v t c j) (c:Int) (C0 (C:Int) l (c:Int) (i:Int) (R-i)) (T6 (C:Int) l (i:Int) v t (c:Int)) =
 Bf.Apply.L0 N M0 (R:Int) (C:Int) l (i:Int) v t ((c+1:Nat):Int) (apS R C l i k v t (c+1) 0):=by
 intro cnt
 induction cnt with
 | zero =>
   intro j F hj hF
   obtain ⟨F,rfl⟩:∃ G,F=G+1:=⟨F-1,by omega⟩
   obtain rfl:j=v.length:=by omega
   rw [Bf.Apply.B6,Aw,A09 (by omega),A08,An (by omega) (by omega),Aho]
   rfl
 | succ cnt ih =>
   intro j F hj hF
   obtain ⟨F,rfl⟩:∃ G,F=G+1:=⟨F-1,by omega⟩
   have e1:Ab ((i:Int)+(j:Int))=((i+j:Nat):Int):=by rw [An (by omega) (by omega)]; omega
   have hat:Cj (R:Int) (C:Int) (apS R C l i k v t c j) ((i+j:Nat):Int) (c:Int)=true:=C3 r6 c6 (Alf c j) (by omega) hc
   have sl:=Gm (C:Int) (c:Int) (i:Int) (R-i) l
   have a1:=I7 av j
   have a2:=I7 (Pu (c:=(C:Int)) (b:=(c:Int)) (i:=(i:Int)) (n:=R-i) al) j
   have a3:Ak (T6 (C:Int) l (i:Int) v t (c:Int))=true:=Il _ _
   have hx:Dl ((C0 (C:Int) l (c:Int) (i:Int) (R-i)).getD j 0) (D5 (T6 (C:Int) l (i:Int) v t (c:Int)) (v.getD j 0))=Qj (C:Int) l (i:Int) (k:Int) v t ((i+j:Nat):Int) (c:Int):=by
    rw [Ahm hk (by omega),Ake (by omega),Ake (by omega)]
   rw [Bf.Apply.B6,Aw,A05 (show (j:Int)<(v.length:Int) by omega),A04,e1,sl,A05 (show (0:Int)≤(j:Int) by omega),A05 (show (j:Int)<((R-i:Nat):Int) by omega),A1a,A04,A04,A06,a3,a1,A1a,A04,a2,Il,A1a,A04,hat,A04,
    Q2,Ale hc hk (by omega) hx,An (by omega) (by omega)]
   exact ih (j+1) F (by omega) (by omega)
theorem Y1 (N:Nat) (r6:R≤6) (c6:C≤6) (hN:7<N) (hr:A0 (R:Int) (C:Int) l=true) (al:Ag l=true) (av:Ag v=true) (ht:Ak t=true) (hv:i+v.length≤R):∀ (cnt c F:Nat),c+cnt=C→k≤c→cnt<F →
 Bf.Apply.L0 N F (R:Int) (C:Int) l (i:Int) v t (c:Int) (apS R C l i k v t c 0) =
 some (.agg [.int .i64 (R:Int),.int .i64 (C:Int),.ints .arg .u64 (Fk R C l (i:Int) (k:Int) v t)]):=by
 intro cnt
 induction cnt with
 | zero =>
   intro c F hc hk hF
   obtain ⟨F,rfl⟩:∃ G,F=G+1:=⟨F-1,by omega⟩
   obtain rfl:c=C:=by omega
   rw [Bf.Apply.Av,Aw,A09 (by omega),A08,Alg]
 | succ cnt ih =>
   intro c F hc hk hF
   obtain ⟨F,rfl⟩:∃ G,F=G+1:=⟨F-1,by omega⟩
   have cp:Hi (R:Int) (C:Int) l (c:Int)=true:=Ad.2 ⟨hr,Au.2 (by omega)⟩
   have e0:toNat ((R:Int)-(i:Int))=R-i:=by omega
   have st:=Afp (c:=(C:Int)) (b:=(c:Int)) (i:=(i:Int)) (l:=l) (m:=v.length) (n:=R-i) (by omega)
   have sl2:=Gm (C:Int) (c:Int) (i:Int) (R-i) l
   have sl:=Gm (C:Int) (c:Int) (i:Int) v.length l
   have sa:=Pu (c:=(C:Int)) (b:=(c:Int)) (i:=(i:Int)) (n:=v.length) al
   have ft:Pk v (C0 (C:Int) l (c:Int) (i:Int) v.length)=true:=Sh.2 ⟨by omega,by omega⟩
   rw [Bf.Apply.Av,Aw,A05 (by omega),A04,cp,Au.2 (show 0≤(i:Int)∧(i:Int)≤(R:Int) by omega),A1a,A04,e0,A06,st,sl2,
    A05 (show (0:Int)≤(v.length:Int) by omega),A05 (show (v.length:Int)≤((R-i:Nat):Int) by omega),A1a,A04,ft,av,sa,A1a,A1a,A04,ht,Vu,A1a,A04]
   have:=Y0 (t:=t) N F r6 c6 al av hv (show c<C by omega) hk v.length 0 N (by omega) (by omega)
   exact this.trans (ih (c+1) F (by omega) (by omega) (by omega))
end
theorem Bf.Apply.known:Bf.Apply.Kn:=Bf.Apply.Ac (.cons Ai.Hu.known (.cons Ai.Mul.known (.cons Ai.Sub.known (.cons Af.Pp.known (.cons Af.Fp.arg.known .nil))))) fun r c l i k v t hp=>by
 obtain ⟨h1,ht⟩:=Ad.1 (show (((A0 r c l&&Ic r c i k v)&&(Ag l&&Ag v))&&Ak t)=true from hp)
 obtain ⟨h2,h3⟩:=Ad.1 h1
 obtain ⟨hr,hb⟩:=Ad.1 h2
 obtain ⟨al,av⟩:=Ad.1 h3
 have hb:=A1u hb
 obtain ⟨R,C,rfl,rfl,r6,c6,hl⟩:=Ck hr
 obtain ⟨i,rfl⟩:∃ j:Nat,i=j:=⟨i.toNat,by omega⟩
 obtain ⟨k,rfl⟩:∃ j:Nat,k=j:=⟨k.toNat,by omega⟩
 refine ⟨8,Bf.Apply.out [.i (R:Int),.i (C:Int),.l l,.i (i:Int),.i (k:Int),.l v,.i t],[],?_,Wk.Gy (.cons .int (.cons .int (.cons .Qv .nil)))⟩
 show _=some (DV.agg [.int .i64 (R:Int),.int .i64 (C:Int),.ints .arg .u64 (Fk (toNat (R:Int)) (toNat (C:Int)) l (i:Int) (k:Int) v t)])
 rw [Bf.Apply.ev,A06,A06]
 have:=Y1 (R:=R) (C:=C) (i:=i) (k:=k) (l:=l) (v:=v) (t:=t) 8 r6 c6 (by omega) hr al av ht (by omega) (C-k) k 8 (by omega) (by omega) (by omega)
 rw [Ahn hl] at this
 exact this
theorem Ama (N:Nat) {R C j:Nat} {l:List Int} {x:Int} (r6:R≤6) (c6:C≤6) (hj:j<C):∀ (cnt i F:Nat),i+cnt=R→j<i→cnt<F →
 Cm.Dr.L0 N F (R:Int) (C:Int) (j:Int) (i:Int) (clS R C l j x i)=some (.agg [.int .i64 (R:Int),.int .i64 (C:Int),.ints .arg .u64 (Nt R C l j x)]):=by
 intro cnt
 induction cnt with
 | zero =>
   intro i F hi hji hF
   obtain ⟨F,rfl⟩:∃ G,F=G+1:=⟨F-1,by omega⟩
   obtain rfl:i=R:=by omega
   rw [Cm.Dr.Av,Aw,A09 (by omega),A08,Alc]
 | succ cnt ih =>
   intro i F hi hji hF
   obtain ⟨F,rfl⟩:∃ G,F=G+1:=⟨F-1,by omega⟩
   have hat:Cj (R:Int) (C:Int) (clS R C l j x i) (i:Int) (j:Int)=true:=C3 r6 c6 (Alb i) (by omega) hj
   rw [Cm.Dr.Av,Aw,A05 (by omega),A04,hat,A04,Q2,Ala hj hji,An (by omega) (by omega)]
   exact ih (i+1) F (by omega) (by omega) (by omega)
theorem Cm.Dr.known:Cm.Dr.Kn:=Cm.Dr.Ac (.cons Af.Fp.arg.known .nil) fun r c l j b hp=>by
 obtain ⟨hr,hj⟩:=Ad.1 (show (A0 r c l&&Co (0≤j∧j<r∧j<c))=true from hp)
 have hj:=Au.1 hj
 obtain ⟨R,C,rfl,rfl,r6,c6,hl⟩:=Ck hr
 obtain ⟨j,rfl⟩:∃ i:Nat,j=i:=⟨j.toNat,by omega⟩
 refine ⟨8,.agg [.int .i64 (R:Int),.int .i64 (C:Int),.ints .arg .u64 (Nt R C l j b)],[],?_,?_⟩
 ·rw [Cm.Dr.ev,C3 r6 c6 hl (by omega) (by omega),A04,Q2,Ww hl (by omega),An (by omega) (by omega)]
  exact Ama 8 r6 c6 (by omega) (R-(j+1)) (j+1) 8 (by omega) (by omega) (by omega)
 ·show Wk _ _ (DV.agg [.int .i64 (R:Int),.int .i64 (C:Int),.ints .arg .u64 (Nt (toNat (R:Int)) (toNat (C:Int)) l (toNat (j:Int)) b)])
  rw [A06,A06,A06]
  exact Wk.Gy (.cons .int (.cons .int (.cons .Qv .nil)))
def W1 (rows:List (List DV)) (ms:List (List Int × Int)):Prop:=rows.length=ms.length∧∀ i,i<ms.length→∃ b:Int,rows.getD i []=[.ints .arg .u64 (ms.getD i ([],0)).1,.int .u64 (ms.getD i ([],0)).2,.int .u64 b]
theorem W1.A0d {rows:List (List DV)} {ms:List (List Int × Int)} (h:W1 rows ms) (v:List Int) (t b:Int):W1 (rows++[[.ints .arg .u64 v,.int .u64 t,.int .u64 b]]) (ms++[(v,t)]):=by
 refine ⟨by rw [A1w,A1w,h.1]; rfl,fun i hi=>?_⟩
 rw [A1w] at hi
 by_cases hlt:i<ms.length
 ·obtain ⟨b',hb⟩:=h.2 i hlt
  refine ⟨b',?_⟩
  rw [A1e,List.getElem?_append_left (by rw [h.1]; exact hlt),← A1e,hb,A1e (l:=ms++_),List.getElem?_append_left hlt,← A1e]
 ·have he:i=ms.length:=by
   have:i<ms.length+1:=hi
   omega
  refine ⟨b,?_⟩
  rw [A1e,A2i (by rw [h.1]; omega),A1e (l:=ms++_),A2i (by omega),he,h.1,Nat.sub_self]
  rfl
def Apk:DV:=.agg [.int .i64 0,.int .i64 0,.nil,.int .i64 0,.int .i64 0,.nil,.bool false]
theorem Apw {x:List Int} (h0:x.length≠0) (h:x.length≤64) (hf:Dj x=true):Cr x=J0 x:=by
 unfold Cr; rw [A1q (by omega),A1r hf]
theorem Aa2 (N:Nat) {R C:Nat} (l0:List Int) (r6:R≤6) (c6:C≤6):∀ (cnt j F:Nat) (l:List Int) (rows:List (List DV)) (ms:List (List Int × Int)),j+cnt=It R C→cnt<F→l.length=R*C→Ag l=true→ms.length=j→W1 rows ms →
 (Ns R C cnt j l=none→Cm.By.L0 N F (R:Int) (C:Int) l0 (j:Int) l rows=some Apk) ∧
 (∀ x,Ns R C cnt j l=some x→∃ rows',W1 rows' (ms++x.2)∧Cm.By.L0 N F (R:Int) (C:Int) l0 (j:Int) l rows=Cm.By.L1 N N (R:Int) (C:Int) (Ab ((rows'.length:Int)-1)) x.1 rows' (Jg R)):=by
 intro cnt
 induction cnt with
 | zero =>
   intro j F l rows ms hj hF hl al hms hrows
   obtain ⟨F,rfl⟩:∃ G,F=G+1:=⟨F-1,by omega⟩
   unfold It at hj
   have hlt:(Bd (j:Int) (C:Int)&&Bd (j:Int) (Ab ((R:Int)-1)))=false:=by
    rw [Aw,Aw,An (by omega) (by omega),Bool.and_eq_false_iff,A1n,A1n]; omega
   refine ⟨fun h=>(by cases h),fun x hx=>?_⟩
   cases hx
   refine ⟨rows,by rw [List.append_nil]; exact hrows,?_⟩
   rw [Cm.By.Av,hlt,A08,R0 r6,A04,A06]
 | succ cnt ih =>
   intro j F l rows ms hj hF hl al hms hrows
   obtain ⟨F,rfl⟩:∃ G,F=G+1:=⟨F-1,by omega⟩
   have hj0:=hj
   unfold It at hj
   have hr:=Kj r6 c6 hl
   have hlt:(Bd (j:Int) (C:Int)&&Bd (j:Int) (Ab ((R:Int)-1)))=true:=by
    rw [Aw,Aw,An (by omega) (by omega),A05 (by omega),A05 (by omega)]; rfl
   have cp:Hi (R:Int) (C:Int) l (j:Int)=true:=Ad.2 ⟨hr,Au.2 (by omega)⟩
   have ec:C0 (C:Int) l (j:Int) (j:Int) (toNat ((R:Int)-(j:Int)))=Fg R C l j:=by unfold Fg; rw [show toNat ((R:Int)-(j:Int))=R-j by omega]
   have ca:Ag (Fg R C l j)=true:=Pu al
   have cl:(Fg R C l j).length=R-j:=Gm _ _ _ _ _
   have cok:=I1 ca (by omega)
   rw [Cm.By.Av,hlt,A04,cp,Au.2 (show 0≤(j:Int)∧(j:Int)≤(R:Int) by omega),A1a,A04,ec,cok,A04,A06,A06,A06]
   unfold Ns
   by_cases hf:Dj (Fg R C l j)=true
   ·have hmk:=Apw (x:=Fg R C l j) (by omega) (by omega) hf
    rw [hf,A13,A08,Au.2 (show 1≤(Fg R C l j).length∧(Fg R C l j).length≤64 by omega),A1a,A04,← hmk]
    by_cases he:(Cr (Fg R C l j)).2.2.2=0
    ·have hml:=Vb he
     have hma:=Vc ca
     have hap:Ic (R:Int) (C:Int) (j:Int) (j:Int) (Cr (Fg R C l j)).1=true:=A05 (by omega)
     have hlen:=Ll R C l (j:Int) (j:Int) (Cr (Fg R C l j)).1 (Cr (Fg R C l j)).2.1
     have hn:=ih (j+1) F (Zg R C l j) (rows++[[.ints .arg .u64 (Cr (Fg R C l j)).1,.int .u64 (Cr (Fg R C l j)).2.1,.int .u64 (Cr (Fg R C l j)).2.2.1]]) (ms++[((Cr (Fg R C l j)).1,(Cr (Fg R C l j)).2.1)]) (by omega) (by omega) (N9 _ _ _ _) (X2 al j) (by rw [A1w,hms]; rfl) (hrows.A0d _ _ _)
     rw [A1r he,A05 he,A13,A08,hr,hap,al,hma.1,hma.2.1,A1a,A1a,A1a,A04,Kj r6 c6 hlen,Au.2 (show 0≤(j:Int)∧(j:Int)<(R:Int)∧(j:Int)<(C:Int) by omega),A1a,A04,A05 (show rows.length+1≤Ags by rw [hrows.1]; unfold Ags; omega),A04,An (by omega) (by omega)]
     refine ⟨fun h=>?_,fun x hx=>?_⟩
     ·rw [Option.map_eq_none_iff] at h
      exact hn.1 h
     ·rw [Option.map_eq_some_iff] at hx
      obtain ⟨y,hy,rfl⟩:=hx
      obtain ⟨rows',h1,h2⟩:=hn.2 y hy
      refine ⟨rows',?_,h2⟩
      rw [List.append_assoc] at h1
      exact h1
    ·rw [A1q he,A09 he,A2n,A04]
     exact ⟨fun _=>rfl,fun x hx=>(by cases hx)⟩
   ·have hf':Dj (Fg R C l j)=false:=by simpa using hf
    have he:(Cr (Fg R C l j)).2.2.2≠0:=by
     unfold Cr
     rw [A1q (by omega),A1q hf]
     exact (by decide:(4:Int)≠0)
    rw [hf',A2n,A04,A1q he]
    exact ⟨fun _=>rfl,fun x hx=>(by cases hx)⟩
theorem Aa3 (N:Nat) {R C:Nat} {L:List Int} (r6:R≤6) {ms:List (List Int × Int)} {rows:List (List DV)} (hrows:W1 rows ms) (hm:Ab1 R 0 ms) (aL:Cy L=true) (hn:ms.length≤6):∀ (j F:Nat),j≤ms.length→j<F →
 Cm.By.L1 N F (R:Int) (C:Int) ((j:Int)-1) L rows (H0 R j (ms.drop j) (Jg R)) =
 bif (Dj (H0 R 0 ms (Jg R))&&Dj L) then some (.agg [.int .i64 (R:Int),.int .i64 (R:Int),.ints .arg .u64 (H0 R 0 ms (Jg R)),.int .i64 (R:Int),.int .i64 (C:Int),.ints .arg .u64 L,.bool true]) else some Apk:=by
 have h36:=Aot r6
 intro j
 induction j with
 | zero =>
   intro F _ hF
   obtain ⟨F,rfl⟩:∃ G,F=G+1:=⟨F-1,by omega⟩
   have hb:=Sj R ms 0 (Jg R) (Vs R) (by unfold Jg; exact Ca _ _ _)
   have ok1:Cy (H0 R 0 ms (Jg R))=true:=I1 hb.1 (by omega)
   rw [Cm.By.B6,Ej,A09 (by omega),A08,List.drop_zero,ok1,A04,aL,A2g,A04]
   cases Dj (H0 R 0 ms (Jg R)) with
   | false=>rfl
   | true=>cases Dj L<;>rfl
 | succ j ih =>
   intro F hj hF
   obtain ⟨F,rfl⟩:∃ G,F=G+1:=⟨F-1,by omega⟩
   have ej:(((j+1:Nat):Int))-1=(j:Int):=by omega
   have hg:=Wj hm j (by omega)
   have hb:=Sj R (ms.drop (j+1)) (j+1) (Jg R) (Vs R) (by unfold Jg; exact Ca _ _ _)
   have hr1:=Kj r6 r6 hb.2
   have hap:Ic (R:Int) (R:Int) (j:Int) 0 (ms.getD j ([],0)).1=true:=A05 (by omega)
   obtain ⟨b,hrow⟩:=hrows.2 j (by omega)
   rw [Cm.By.B6,ej,Ej,A05 (show (0:Int)≤(j:Int) by omega),A04,hrows.1,A05 (show (j:Int)<(ms.length:Int) by omega),A1a,A04,A06,A05 (show j<ms.length by omega),hrow,A06]
   show (bif true then bif true then bif true then (bif (((A0 (R:Int) (R:Int) (H0 R (j+1) (ms.drop (j+1)) (Jg R))&&Ic (R:Int) (R:Int) (j:Int) (0:Int) (ms.getD j ([],0)).1)&&(Ag (H0 R (j+1) (ms.drop (j+1)) (Jg R))&&Ag (ms.getD j ([],0)).1))&&Ak (ms.getD j ([],0)).2) then
    Cm.By.L1 N F (R:Int) (C:Int) (Ab ((j:Int)-(1:Int))) L rows (Fk R R (H0 R (j+1) (ms.drop (j+1)) (Jg R)) (j:Int) (0:Int) (ms.getD j ([],0)).1 (ms.getD j ([],0)).2) else none) else none else none else none)=_
   rw [A04,A04,A04,hr1,hap,hb.1,hg.1,hg.2.1,A1a,A1a,A1a,A04,An (by omega) (by omega),← Aco (by omega)]
   exact ih F (by omega) (by omega)
theorem Auu {drops:List Nat} {e:Int}:Wk drops Apk (DV.agg [.int .i64 (Ga e).1,.int .i64 (Ga e).2.1,.ints .arg .u64 (Ga e).2.2.1,.int .i64 (Ga e).1,.int .i64 (Ga e).2.1,.ints .arg .u64 (Ga e).2.2.1,.bool false]) :=
 Wk.Gy (.cons .int (.cons .int (.cons Hb (.cons .int (.cons .int (.cons Hb (.cons .bool .nil)))))))
theorem Cm.By.known:Cm.By.Kn:=Cm.By.Ac (.cons Ai.Finite.known (.cons Af.Pp.known (.cons Af.Ew.arg.known (.cons Bf.Apply.known (.cons Bf.Dw.known (.cons Cm.Dr.known .nil)))))) fun r c l hp=>by
 obtain ⟨h1,al⟩:=Ad.1 (show ((A0 r c l&&Dj l)&&Ag l)=true from hp)
 obtain ⟨hr,hf⟩:=Ad.1 h1
 have hc:B4 r c l=0:=Aai hr hf
 obtain ⟨R,C,rfl,rfl,r6,c6,hl⟩:=Ck hr
 show ∃ N dv drops,_=some dv∧Wk drops dv (DV.agg [.int .i64 (qX (R:Int) (C:Int) l).1,.int .i64 (qX (R:Int) (C:Int) l).2.1,.ints .arg .u64 (qX (R:Int) (C:Int) l).2.2.1,.int .i64 (rX (R:Int) (C:Int) l).1,.int .i64 (rX (R:Int) (C:Int) l).2.1,.ints .arg .u64 (rX (R:Int) (C:Int) l).2.2.1,.bool (decide (Gs (R:Int) (C:Int) l=0))])
 have hfe:=Qe hc
 rw [A06,A06] at hfe
 have hrun:=Cm.By.ev 8 (R:Int) (C:Int) l
 obtain ⟨d1,d2⟩:=Aa2 8 l r6 c6 (It R C) 0 8 l [] [] (by omega) (by unfold It; omega) hl al rfl ⟨rfl,fun i h=>absurd h (Nat.not_lt_zero _)⟩
 have bad:∀ d:Option DV,Gs (R:Int) (C:Int) l=2→d=some Apk→∃ dv drops,d=some dv∧Wk drops dv (DV.agg [.int .i64 (qX (R:Int) (C:Int) l).1,.int .i64 (qX (R:Int) (C:Int) l).2.1,.ints .arg .u64 (qX (R:Int) (C:Int) l).2.2.1,.int .i64 (rX (R:Int) (C:Int) l).1,.int .i64 (rX (R:Int) (C:Int) l).2.1,.ints .arg .u64 (rX (R:Int) (C:Int) l).2.2.1,.bool (decide (Gs (R:Int) (C:Int) l=0))]):=fun d he h=>by
  obtain ⟨e1,e2⟩:=Tl he (by decide)
  rw [e1,e2,he]
  exact ⟨Apk,[],h,Auu⟩
 cases hx:Kv R C l with
 | none =>
   have hfo:Nq R C l=false:=by unfold Nq; rw [hx]; rfl
   rw [hfo,A1q (by decide)] at hfe
   obtain ⟨dv,drops,k1,k2⟩:=bad _ hfe (hrun.trans (d1 hx))
   exact ⟨8,dv,drops,k1,k2⟩
 | some x =>
   obtain ⟨x1,x2,x3,x4⟩:=Ahf hl al hx
   obtain ⟨rows,hrows,hd⟩:=d2 x hx
   rw [List.nil_append] at hrows
   have h36:=A10 r6 c6
   have hn:x.2.length≤6:=by rw [x3]; unfold It; omega
   have hb:=Aa3 8 (C:=C) r6 hrows x4 (I1 x1 (by omega)) hn x.2.length 8 (A1y _) (by omega)
   rw [A1i (A1y _)] at hb
   rw [hrows.1,An (by omega) (by omega)] at hd
   have hd:=hd.trans hb
   have hq:Ty R C l=H0 R 0 x.2 (Jg R):=by unfold Ty; rw [hx]
   have hrr:Qd R C l=x.1:=by unfold Qd; rw [hx]
   have hfo:Nq R C l=(Dj (H0 R 0 x.2 (Jg R))&&Dj x.1):=by unfold Nq; rw [hx,hq,hrr]; rfl
   rw [← hfo,← hq,← hrr] at hd
   cases hk:Nq R C l with
   | false =>
     rw [hk,A1q (by decide)] at hfe
     rw [hk,A08] at hd
     obtain ⟨dv,drops,k1,k2⟩:=bad _ hfe (hrun.trans hd)
     exact ⟨8,dv,drops,k1,k2⟩
   | true =>
     rw [hk,A1r rfl] at hfe
     rw [hk,A04] at hd
     obtain ⟨e1,e2⟩:=Uy hfe
     rw [e1,e2,hfe,A06,A06]
     exact ⟨8,_,[],hrun.trans hd,Wk.Gy (.cons .int (.cons .int (.cons .Qv (.cons .int (.cons .int (.cons .Qv (.cons .bool .nil)))))))⟩
namespace EqLow
def Dc.Db.down.Bc:List (Nat × Entry):=[]
def Dc.Db.down.E:Env:=Be (Bb Dc.Db.down.Bc) (fun _=>false) (fun _=>none) (fun _=>none)
theorem Dc.Db.down.ev (N:Nat) (n k:Int):Bu Dc.Db.down.E N f77 (Am f77) [.int .i64 n,.int .i64 k]=some (.int .i64 k):=by kernel_rfl
abbrev _root_.Go.Proofs.S1.Dc.Db.down.Kn:=A7 prog 77 Dc.Db.down.spec
theorem Dc.Db.down.Ac (hk:A1 prog Dc.Db.down.Bc) (h:Hyp Dc.Db.down.E f77 Dc.Db.down.ts Dc.Db.down.pre Dc.Db.down.out):Dc.Db.down.Kn :=
 Al (A2 hk _ _ _) func77 (by kernel_rfl) (by kernel_rfl) h
def solve.El.Bc:List (Nat × Entry):=[]
def solve.El.E:Env:=Be (Bb solve.El.Bc) (fun _=>false) (fun _=>none) (fun _=>none)
theorem solve.El.ev (N:Nat) (i k:Int):Bu solve.El.E N f78 (Am f78) [.int .i64 i,.int .i64 k]=some (.bool (Bd k i)):=by kernel_rfl
abbrev _root_.Go.Proofs.S1.solve.El.Kn:=A7 prog 78 solve.El.spec
theorem solve.El.Ac (hk:A1 prog solve.El.Bc) (h:Hyp solve.El.E f78 solve.El.ts solve.El.pre solve.El.out):solve.El.Kn :=
 Al (A2 hk _ _ _) func78 (by kernel_rfl) (by kernel_rfl) h
def solve.A4.Lo.hint:Nat→Option Bg
 | 0=>some { keep:=[2,3,4,5,8,10,11,28,29],objs:=[(12,2,112002,.ints 37 .u64 [])],boxes:=[4,5,8,11] }
 | 2=>some { keep:=[2,3,4,5,8,10,11,13,28,29,32,33],objs:=[(12,2,112002,.ints 37 .u64 [])],boxes:=[4,5,8,11] }
 | 4=>some { keep:=[2,3,4,5,8,10,11,13,15,16,28,29,32,33,49,50],objs:=[(12,2,112002,.ints 37 .u64 [])],boxes:=[4,5,8,11] }
 | _=>none
def solve.A4.Lo.Bc:List (Nat × Entry):=[(77,Dc.Db.down.spec),(151,Aa.Bn.own.spec),(78,solve.El.spec),(158,Ah.Div.spec),(150,Ah.Finite.spec),(157,Ah.Mul.spec),(156,Ah.Sub.spec)]
def solve.A4.Lo.E:Env:=Be (Bb solve.A4.Lo.Bc) (fun n=>Nat.beq n 24) solve.A4.Lo.hint (fun _=>none)
section
variable (N M0 M1 M:Nat) (r c:Int) (l:List Int) (p q:Int) (m:List Int) (n p16 p50 p13_1 p15 p29_2 p33_1:Int) (p2_1:List Int) (p33:Int) (p2:List Int) (p13 p29_1 p29:Int) (p2_2:List Int)
def solve.A4.Lo.L0:Option DV:=Bx solve.A4.Lo.E N f76 (Am f76) [1,1,1,0,1,0] [] M ⟨E5 108 [(2,.fn 77 [.int .i64 n] []),(3,.fn 78 [] []),(4,.ptr 4 0 0),(5,.ptr 5 0 0),(8,.ptr 8 0 0),(10,.int .i64 r),(11,.ptr 11 0 0),(28,.int .i64 q),(29,.int .i64 p29)],[(4,false,.box [.int .i64 r,.int .i64 c,.ints .arg .u64 l]),(5,false,.box [.int .i64 p,.int .i64 q,.ints .arg .u64 m]),(8,false,.box [.int .i64 0,.int .i64 0,.nil]),(11,false,.box [.int .i64 r,.int .i64 q,.oref 112002]),(112002,false,.ints 37 .u64 p2_2)]⟩
def solve.A4.Lo.L1:Option DV:=Bx solve.A4.Lo.E N f76 (Am f76) [1,1,1,0,1,0,0,1,1,0,0,1,0,1,1,0] [M0] M ⟨E5 108 [(2,.fn 77 [.int .i64 n] []),(3,.fn 78 [] []),(4,.ptr 4 0 0),(5,.ptr 5 0 0),(8,.ptr 8 0 0),(10,.int .i64 r),(11,.ptr 11 0 0),(13,.int .i64 p13),(28,.int .i64 q),(29,.int .i64 p29_1),(32,.int .i64 r),(33,.int .i64 p33)],[(4,false,.box [.int .i64 r,.int .i64 c,.ints .arg .u64 l]),(5,false,.box [.int .i64 p,.int .i64 q,.ints .arg .u64 m]),(8,false,.box [.int .i64 0,.int .i64 0,.nil]),(11,false,.box [.int .i64 r,.int .i64 q,.oref 112002]),(112002,false,.ints 37 .u64 p2)]⟩
def solve.A4.Lo.L2:Option DV:=Bx solve.A4.Lo.E N f76 (Am f76) [1,1,1,0,1,0,0,1,1,0,0,1,0,1,1,0,0,1,1,0,0,1,1,1,0,1,0] [M0,M1] M ⟨E5 108 [(2,.fn 77 [.int .i64 n] []),(3,.fn 78 [] []),(4,.ptr 4 0 0),(5,.ptr 5 0 0),(8,.ptr 8 0 0),(10,.int .i64 r),(11,.ptr 11 0 0),(13,.int .i64 p13_1),(15,.int .i64 p15),(16,.int .u64 p16),(28,.int .i64 q),(29,.int .i64 p29_2),(32,.int .i64 r),(33,.int .i64 p33_1),(49,.int .i64 r),(50,.int .i64 p50)],[(4,false,.box [.int .i64 r,.int .i64 c,.ints .arg .u64 l]),(5,false,.box [.int .i64 p,.int .i64 q,.ints .arg .u64 m]),(8,false,.box [.int .i64 0,.int .i64 0,.nil]),(11,false,.box [.int .i64 r,.int .i64 q,.oref 112002]),(112002,false,.ints 37 .u64 p2_1)]⟩
theorem solve.A4.Lo.Av:solve.A4.Lo.L0 N (M+1) r c l p q m n p29 p2_2=bif (Bd p29 q) then solve.A4.Lo.L1 N M N r c l p q m n 0 p2_2 p29 p29 else bif (Cy p2_2) then bif (!(Dj p2_2)) then some (.tup [.agg [.int .i64 0,.int .i64 0,.nil],.int .i64 2]) else some (.tup [.agg [.int .i64 r,.int .i64 q,.ints (.own 112002 37) .u64 p2_2],.int .i64 0]) else none:=by kernel_rfl
theorem solve.A4.Lo.B6:solve.A4.Lo.L1 N M0 (M+1) r c l p q m n p33 p2 p13 p29_1=bif (Bd p33 r) then bif ((decide (0≤(Ab ((Ab (p33*q))+p13))))&&(decide ((Ab ((Ab (p33*q))+p13))<(length m:Int)))) then solve.A4.Lo.L2 N M0 M N r c l p q m n (getD m (toNat (Ab ((Ab (p33*q))+p13))) 0) 0 p13 p33 p29_1 p33 p2 else none else solve.A4.Lo.L0 N M0 r c l p q m n (Ab (p29_1+1)) p2:=by kernel_rfl
theorem solve.A4.Lo.Fl:solve.A4.Lo.L2 N M0 M1 (M+1) r c l p q m n p16 p50 p13_1 p15 p29_2 p33_1 p2_1=bif (Bd p50 r) then bif (decide (p50<p15)) then bif ((decide (0≤(Ab ((Ab (p15*r))+p50))))&&(decide ((Ab ((Ab (p15*r))+p50))<(length l:Int)))) then bif ((decide (0≤(Ab ((Ab (p50*q))+p13_1))))&&(decide ((Ab ((Ab (p50*q))+p13_1))<(length p2_1:Int)))) then bif (decide ((toNat (Ab ((Ab (p50*q))+p13_1)))<(length p2_1))) then bif (Ak (getD l (toNat (Ab ((Ab (p15*r))+p50))) 0)&&Ak (getD p2_1 (toNat (Ab ((Ab (p50*q))+p13_1))) 0)) then bif (Ak p16&&Ak (D5 (getD l (toNat (Ab ((Ab (p15*r))+p50))) 0) (getD p2_1 (toNat (Ab ((Ab (p50*q))+p13_1))) 0))) then solve.A4.Lo.L2 N M0 M1 M r c l p q m n (Dl p16 (D5 (getD l (toNat (Ab ((Ab (p15*r))+p50))) 0) (getD p2_1 (toNat (Ab ((Ab (p50*q))+p13_1))) 0))) (Ab (p50+1)) p13_1 p15 p29_2 p33_1 p2_1 else none else none else none else none else none else solve.A4.Lo.L2 N M0 M1 M r c l p q m n p16 (Ab (p50+1)) p13_1 p15 p29_2 p33_1 p2_1 else bif ((decide (0≤(Ab ((Ab (p15*r))+p15))))&&(decide ((Ab ((Ab (p15*r))+p15))<(length l:Int)))) then bif (Ak p16&&Ak (getD l (toNat (Ab ((Ab (p15*r))+p15))) 0)) then bif ((decide (0≤(Ab ((Ab (p15*q))+p13_1))))&&(decide ((Ab ((Ab (p15*q))+p13_1))<(length p2_1:Int)))) then bif (decide ((toNat (Ab ((Ab (p15*q))+p13_1)))<(length p2_1))) then solve.A4.Lo.L1 N M0 M1 r c l p q m n (Ab (p33_1+1)) (List.set p2_1 (toNat (Ab ((Ab (p15*q))+p13_1))) (Ez p16 (getD l (toNat (Ab ((Ab (p15*r))+p15))) 0))) p13_1 p29_2 else none else none else none else none :=
 Eq.trans (by kernel_rfl)
 (Ec (Ec (Cp (I9 (decide (0≤(Ab ((Ab (p15*r))+p50)))) (decide ((Ab ((Ab (p15*r))+p50))<(length l:Int)))) (Cp (I9 (decide (0≤(Ab ((Ab (p50*q))+p13_1)))) (decide ((Ab ((Ab (p50*q))+p13_1))<(length p2_1:Int)))) (Cp (Cd (decide ((toNat (Ab ((Ab (p50*q))+p13_1)))<(length p2_1)))) (Cp (Cd (Ak (getD l (toNat (Ab ((Ab (p15*r))+p50))) 0)&&Ak (getD p2_1 (toNat (Ab ((Ab (p50*q))+p13_1))) 0))) (Cp (Cd (Ak p16&&Ak (D5 (getD l (toNat (Ab ((Ab (p15*r))+p50))) 0) (getD p2_1 (toNat (Ab ((Ab (p50*q))+p13_1))) 0)))) rfl rfl) rfl) rfl) rfl) rfl) rfl) (Cp (I9 (decide (0≤(Ab ((Ab (p15*r))+p15)))) (decide ((Ab ((Ab (p15*r))+p15))<(length l:Int)))) (Cp (Cd (Ak p16&&Ak (getD l (toNat (Ab ((Ab (p15*r))+p15))) 0))) (Cp (I9 (decide (0≤(Ab ((Ab (p15*q))+p13_1)))) (decide ((Ab ((Ab (p15*q))+p13_1))<(length p2_1:Int)))) (Cp (Cd (decide ((toNat (Ab ((Ab (p15*q))+p13_1)))<(length p2_1)))) rfl rfl) rfl) rfl) rfl))
theorem solve.A4.Lo.ev:Bu solve.A4.Lo.E N f76 (Am f76) [.agg [.int .i64 r,.int .i64 c,.ints .arg .u64 l],.agg [.int .i64 p,.int .i64 q,.ints .arg .u64 m],.fn 77 [.int .i64 n] [],.fn 78 [] []]=bif (Bv r&&Bv q) then solve.A4.Lo.L0 N N r c l p q m n 0 (Cx (toNat r) (toNat q) (fun _ _=>0)) else none:=by kernel_rfl
end
abbrev _root_.Go.Proofs.S1.solve.A4.Lo.Kn:=A7 prog 76 solve.A4.Lo.spec
theorem solve.A4.Lo.Ac (hk:A1 prog solve.A4.Lo.Bc) (h:Hyp solve.A4.Lo.E f76 solve.A4.Lo.ts solve.A4.Lo.pre solve.A4.Lo.out):solve.A4.Lo.Kn :=
 Al (A2 hk _ _ _) func76 (by kernel_rfl) (by kernel_rfl) h
def solve.Ct.Bc:List (Nat × Entry):=[(75,solve.check.spec),(76,solve.A4.Lo.spec)]
def solve.Ct.E:Env:=Be (Bb solve.Ct.Bc) (fun _=>false) (fun _=>none) (fun _=>none)
theorem solve.Ct.ev (N:Nat) (r c:Int) (l:List Int) (p q:Int) (m:List Int):Bu solve.Ct.E N f22 (Am f22) [.agg [.int .i64 r,.int .i64 c,.ints .arg .u64 l],.agg [.int .i64 p,.int .i64 q,.ints .arg .u64 m]]=bif (Ag l&&Ag m) then bif ((Ld r c l p q m) !=(0:Int)) then some (.tup [.agg [.int .i64 0,.int .i64 0,.nil],.int .i64 (Ld r c l p q m)]) else bif (Q1 r c l p q m&&decide (r=r)) then some (.tup [.agg [.int .i64 ((Gx r q (loG c l q m (toNat r) (toNat q))).1),.int .i64 ((Gx r q (loG c l q m (toNat r) (toNat q))).2.1),.ints .fresh .u64 ((Gx r q (loG c l q m (toNat r) (toNat q))).2.2.1)],.int .i64 ((Gx r q (loG c l q m (toNat r) (toNat q))).2.2.2)]) else none else none:=by kernel_rfl
abbrev _root_.Go.Proofs.S1.solve.Ct.Kn:=A7 prog 22 solve.Ct.spec
theorem solve.Ct.Ac (hk:A1 prog solve.Ct.Bc) (h:Hyp solve.Ct.E f22 solve.Ct.ts solve.Ct.pre solve.Ct.out):solve.Ct.Kn :=
 Al (A2 hk _ _ _) func22 (by kernel_rfl) (by kernel_rfl) h
def A3.Ct.hint:Nat→Option Bg
 | 0=>some { keep:=[2,3,4,6,7],objs:=[],boxes:=[2,3,4,6] }
 | 2=>some { keep:=[2,3,4,6,7,8],objs:=[],boxes:=[2,3,4,6] }
 | 4=>some { keep:=[2,3,4,6,7,8,9,10],objs:=[],boxes:=[2,3,4,6] }
 | _=>none
def A3.Ct.Bc:List (Nat × Entry):=[(84,Ai.Div.spec),(82,Ai.Mul.spec),(81,Ai.Sub.spec),(80,Af.At.spec),(83,Af.Fp.spec),(35,Af.Bn.spec),(79,A3.Check.spec),(85,A3.finite.spec)]
def A3.Ct.E:Env:=Be (Bb A3.Ct.Bc) (fun _=>false) A3.Ct.hint (fun _=>none)
section
variable (N M0 M1 M:Nat) (r c:Int) (l:List Int) (p q:Int) (m:List Int) (p7_2 p8_1 p9:Int) (p6_1:List Int) (p10 p8:Int) (p6:List Int) (p7_1 p7:Int) (p6_2:List Int)
def A3.Ct.L0:Option DV:=Bx A3.Ct.E N f23 (Am f23) [1,1,1,0,1,0] [] M ⟨E5 70 [(2,.ptr 2 0 0),(3,.ptr 3 0 0),(4,.ptr 4 0 0),(6,.ptr 6 0 0),(7,.int .i64 p7)],[(2,false,.box [.int .i64 r,.int .i64 c,.ints .arg .u64 l]),(3,false,.box [.int .i64 p,.int .i64 q,.ints .arg .u64 m]),(4,false,.box [.int .i64 0,.int .i64 0,.nil]),(6,false,.box [.int .i64 p,.int .i64 q,.ints .fresh .u64 p6_2])]⟩
def A3.Ct.L1:Option DV:=Bx A3.Ct.E N f23 (Am f23) [1,1,1,0,1,0,0,1,0,0,1,0] [M0] M ⟨E5 70 [(2,.ptr 2 0 0),(3,.ptr 3 0 0),(4,.ptr 4 0 0),(6,.ptr 6 0 0),(7,.int .i64 p7_1),(8,.int .i64 p8)],[(2,false,.box [.int .i64 r,.int .i64 c,.ints .arg .u64 l]),(3,false,.box [.int .i64 p,.int .i64 q,.ints .arg .u64 m]),(4,false,.box [.int .i64 0,.int .i64 0,.nil]),(6,false,.box [.int .i64 p,.int .i64 q,.ints .fresh .u64 p6])]⟩
def A3.Ct.L2:Option DV:=Bx A3.Ct.E N f23 (Am f23) [1,1,1,0,1,0,0,1,0,0,1,0,0,1,0,0,1,0,1,0] [M0,M1] M ⟨E5 70 [(2,.ptr 2 0 0),(3,.ptr 3 0 0),(4,.ptr 4 0 0),(6,.ptr 6 0 0),(7,.int .i64 p7_2),(8,.int .i64 p8_1),(9,.int .u64 p9),(10,.int .i64 p10)],[(2,false,.box [.int .i64 r,.int .i64 c,.ints .arg .u64 l]),(3,false,.box [.int .i64 p,.int .i64 q,.ints .arg .u64 m]),(4,false,.box [.int .i64 0,.int .i64 0,.nil]),(6,false,.box [.int .i64 p,.int .i64 q,.ints .fresh .u64 p6_1])]⟩
theorem A3.Ct.Av:A3.Ct.L0 N (M+1) r c l p q m p7 p6_2=bif (Bd p7 q) then A3.Ct.L1 N M N r c l p q m 0 p6_2 p7 else bif (Ag p6_2&&A0 p q p6_2) then some (.tup [.agg [.int .i64 ((Gx p q p6_2).1),.int .i64 ((Gx p q p6_2).2.1),.ints .arg .u64 ((Gx p q p6_2).2.2.1)],.int .i64 ((Gx p q p6_2).2.2.2)]) else none:=by kernel_rfl
theorem A3.Ct.B6:A3.Ct.L1 N M0 (M+1) r c l p q m p8 p6 p7_1=bif (Bd p8 r) then bif (Cj p q m p8 p7_1) then A3.Ct.L2 N M0 M N r c l p q m p7_1 p8 (D0 q m p8 p7_1) p6 (0:Int) else none else A3.Ct.L0 N M0 r c l p q m (Ab (p7_1+1)) p6:=by kernel_rfl
theorem A3.Ct.Fl:A3.Ct.L2 N M0 M1 (M+1) r c l p q m p7_2 p8_1 p9 p6_1 p10=bif (Bd p10 p8_1) then bif (Cj r c l p8_1 p10) then bif (Cj p q p6_1 p10 p7_2) then bif (Ak (D0 c l p8_1 p10)&&Ak (D0 q p6_1 p10 p7_2)) then bif (Ak p9&&Ak (D5 (D0 c l p8_1 p10) (D0 q p6_1 p10 p7_2))) then A3.Ct.L2 N M0 M1 M r c l p q m p7_2 p8_1 (Dl p9 (D5 (D0 c l p8_1 p10) (D0 q p6_1 p10 p7_2))) p6_1 (Ab (p10+1)) else none else none else none else none else bif (Cj r c l p8_1 p8_1) then bif (Ak p9&&Ak (D0 c l p8_1 p8_1)) then bif (Cj p q p6_1 p8_1 p7_2) then A3.Ct.L1 N M0 M1 r c l p q m (Ab (p8_1+1)) (List.set p6_1 (toNat (p8_1*q+p7_2)) (Ez p9 (D0 c l p8_1 p8_1))) p7_2 else none else none else none :=
 Eq.trans (by kernel_rfl)
 (Ec (Cp (Cd (Cj r c l p8_1 p10)) (Cp (Cd (Cj p q p6_1 p10 p7_2)) (Cp (Cd (Ak (D0 c l p8_1 p10)&&Ak (D0 q p6_1 p10 p7_2))) (Cp (Cd (Ak p9&&Ak (D5 (D0 c l p8_1 p10) (D0 q p6_1 p10 p7_2)))) rfl rfl) rfl) rfl) rfl) (Cp (Cd (Cj r c l p8_1 p8_1)) (Cp (Cd (Ak p9&&Ak (D0 c l p8_1 p8_1))) (Cp (Cd (Cj p q p6_1 p8_1 p7_2)) rfl rfl) rfl) rfl))
theorem A3.Ct.ev:Bu A3.Ct.E N f23 (Am f23) [.agg [.int .i64 r,.int .i64 c,.ints .arg .u64 l],.agg [.int .i64 p,.int .i64 q,.ints .arg .u64 m]]=bif (Ag l&&Ag m) then bif ((Ld r c l p q m) !=(0:Int)) then bif (Ag l&&Ag m) then some (.tup [.agg [.int .i64 0,.int .i64 0,.nil],.int .i64 (Ld r c l p q m)]) else none else bif (Bv p&&Bv q) then A3.Ct.L0 N N r c l p q m 0 (Cx (toNat p) (toNat q) (fun _ _=>0)) else none else none:=by kernel_rfl
end
abbrev _root_.Go.Proofs.S1.A3.Ct.Kn:=A7 prog 23 A3.Ct.spec
theorem A3.Ct.Ac (hk:A1 prog A3.Ct.Bc) (h:Hyp A3.Ct.E f23 A3.Ct.ts A3.Ct.pre A3.Ct.out):A3.Ct.Kn :=
 Al (A2 hk _ _ _) func23 (by kernel_rfl) (by kernel_rfl) h
def A3.Flat.hint:Nat→Option Bg
 | 0=>some { keep:=[1,3,4],objs:=[],boxes:=[1] }
 | 2=>some { keep:=[1,3,5],objs:=[],boxes:=[1] }
 | _=>none
def A3.Flat.Bc:List (Nat × Entry):=[(94,Bq.G7.spec),(93,Bq.Max.spec),(95,Bq.Order.spec),(96,Ai.Bt.spec),(80,Af.At.spec)]
def A3.Flat.E:Env:=Be (Bb A3.Flat.Bc) (fun _=>false) A3.Flat.hint (fun _=>none)
section
variable (N M:Nat) (r c:Int) (l:List Int) (p5 p3_1 p3 p4:Int)
def A3.Flat.L0:Option DV:=Bx A3.Flat.E N f26 (Am f26) [1,1,0,1,0] [] M ⟨E5 52 [(1,.ptr 1 0 0),(3,.int .u64 p3),(4,.int .i64 p4)],[(1,false,.box [.int .i64 r,.int .i64 c,.ints .arg .u64 l])]⟩
def A3.Flat.L1:Option DV:=Bx A3.Flat.E N f26 (Am f26) [1,1,1,0,1,0] [] M ⟨E5 52 [(1,.ptr 1 0 0),(3,.int .u64 p3_1),(5,.int .i64 p5)],[(1,false,.box [.int .i64 r,.int .i64 c,.ints .arg .u64 l])]⟩
theorem A3.Flat.Av:A3.Flat.L0 N (M+1) r c l p3 p4=bif ((Bd p4 r)&&(Bd p4 c)) then bif (Cj r c l p4 p4) then bif (Ak (D0 c l p4 p4)) then bif (Ak p3&&Ak (Jt (D0 c l p4 p4))) then A3.Flat.L0 N M r c l (Pc p3 (Jt (D0 c l p4 p4))) (Ab (p4+1)) else none else none else none else A3.Flat.L1 N N r c l 0 p3 :=
 Eq.trans (by kernel_rfl)
 (Ax (Oj (Bd p4 r)) (Ax (Oj (Bd p4 r)) (Ax (L7 (Bd p4 r)) (Ax (Ac2 (Bd p4 r)) (Ax (Th (Bd p4 r)) (Cp (tt1 (Bd p4 r) (Bd p4 c)) rfl rfl))))))
theorem A3.Flat.B6:A3.Flat.L1 N (M+1) r c l p5 p3_1=bif ((Bd p5 r)&&(Bd p5 c)) then bif (Ds p3_1 (-40:Int)) then bif (Cj r c l p5 p5) then bif (Ak (D0 c l p5 p5)) then bif (Ak (B3 p3_1 (-40:Int))&&Ak (Jt (D0 c l p5 p5))) then bif (Es 0 (Tn (B3 p3_1 (-40:Int)) (Jt (D0 c l p5 p5)))) then some (.bool true) else A3.Flat.L1 N M r c l (Ab (p5+1)) p3_1 else none else none else none else none else some (.bool false) :=
 Eq.trans (by kernel_rfl)
 (Ax (Oj (Bd p5 r)) (Ax (Oj (Bd p5 r)) (Ax (L7 (Bd p5 r)) (Ax (Ac2 (Bd p5 r)) (Ax (Th (Bd p5 r)) (Cp (tt1 (Bd p5 r) (Bd p5 c)) (Cp (Cd (Ds p3_1 (-40:Int))) (Cp (Cd (Cj r c l p5 p5)) (Cp (Cd (Ak (D0 c l p5 p5))) (Cp (Cd (Ak (B3 p3_1 (-40:Int))&&Ak (Jt (D0 c l p5 p5)))) rfl rfl) rfl) rfl) rfl) rfl))))))
theorem A3.Flat.ev:Bu A3.Flat.E N f26 (Am f26) [.agg [.int .i64 r,.int .i64 c,.ints .arg .u64 l]] =
 A3.Flat.L0 N N r c l 0 0:=by kernel_rfl
end
abbrev _root_.Go.Proofs.S1.A3.Flat.Kn:=A7 prog 26 A3.Flat.spec
theorem A3.Flat.Ac (hk:A1 prog A3.Flat.Bc) (h:Hyp A3.Flat.E f26 A3.Flat.ts A3.Flat.pre A3.Flat.out):A3.Flat.Kn :=
 Al (A2 hk _ _ _) func26 (by kernel_rfl) (by kernel_rfl) h
end EqLow
open EqLow
theorem solve.El.known:solve.El.Kn:=solve.El.Ac .nil fun i k _=>by
 refine ⟨0,solve.El.out [.i i,.i k],[],?_,.bool⟩
 rw [solve.El.ev,Aw]; rfl
theorem Aip.known:Dc.Db.down.Kn:=Dc.Db.down.Ac .nil fun n k _=>⟨0,Dc.Db.down.out [.i n,.i k],[],by rw [Dc.Db.down.ev]; rfl,.int⟩
section
variable {n Q:Nat} {l m:List Int}
def loF (n Q:Nat) (l m:List Int) (i j:Nat):Int:=(loL (n:Int) l (fun i=>D0 (Q:Int) m (i:Int) (j:Int)) n).getD i 0
def loD (j k a b:Nat):Bool:=decide (b<j∨(b=j∧a<k))
def Sw (n Q:Nat) (l m:List Int) (j k:Nat):List Int:=Cx n Q fun a b=>if loD j k a b=true then loF n Q l m a b else 0
theorem Ai4 (i j:Nat):Ak (loF n Q l m i j)=true:=Vo (Ai3 _ _ _ _) i
theorem Ap5 (j k:Nat):Ag (Sw n Q l m j k)=true:=Ia fun a b=>by
 split
 ·exact Ai4 _ _
 ·exact I8
theorem Akt {j k t:Nat} (ht:t<n) (hj:j<Q) (hk:t<k):D0 (Q:Int) (Sw n Q l m j k) (t:Int) (j:Int)=loF n Q l m t j:=by
 unfold Sw
 have hd:loD j k t j=true:=A05 (.inr ⟨rfl,hk⟩)
 rw [Ak1 ht hj,hd,A1r rfl]
theorem Sd (j k:Nat):(Sw n Q l m j k).length=n*Q:=Ca _ _ _
theorem Aks {i j:Nat} (hj:j<Q) {x:Int} (hx:x=loF n Q l m i j):List.set (Sw n Q l m j i) (toNat ((i:Int)*(Q:Int)+(j:Int))) x=Sw n Q l m j (i+1):=by
 refine Aaf hj hx fun a b ha hb=>?_
 unfold loD
 rw [A1b,A1b]
 omega
theorem Agl (j:Nat):Sw n Q l m j n=Sw n Q l m (j+1) 0:=by
 unfold Sw
 refine D7 fun a b ha hb=>?_
 have:loD j n a b=loD (j+1) 0 a b:=by
  unfold loD
  rw [decide_eq_decide]
  omega
 rw [this]
theorem Agk:Sw n Q l m 0 0=Cx n Q fun _ _=>0:=by
 unfold Sw
 refine D7 fun a b ha hb=>?_
 have:loD 0 0 a b=false:=A09 (by omega)
 rw [this]; rfl
theorem Aku:Sw n Q l m Q 0=loG (n:Int) l (Q:Int) m n Q:=by
 unfold Sw loG
 refine D7 fun a b ha hb=>?_
 have:loD Q 0 a b=true:=A05 (.inl hb)
 rw [this]; rfl
def loR (n Q:Nat) (l m:List Int) (i j t:Nat) (s:Int):Int:=Ob (n:Int) l (i:Int) s (t:Int) (((loL (n:Int) l (fun i=>D0 (Q:Int) m (i:Int) (j:Int)) n).take i).drop t)
theorem Ad5 {i j:Nat} (hi:i<n) (s:Int):loR n Q l m i j i s=s:=by
 unfold loR
 rw [A1i (by rw [List.length_take,J2]; omega),Ob]
theorem Agm {i j t:Nat} (hi:i<n) (ht:t<i) (s:Int):loR n Q l m i j t s=loR n Q l m i j (t+1) (Dl s (D5 (D0 (n:Int) l (i:Int) (t:Int)) (loF n Q l m t j))):=by
 unfold loR loF
 rw [Wo (by rw [List.length_take,J2]; omega),A1e,List.getElem?_take_of_lt ht,← A1e]
 rfl
theorem Akv {i j:Nat} (hi:i<n):Ez (loR n Q l m i j 0 (D0 (Q:Int) m (i:Int) (j:Int))) (D0 (n:Int) l (i:Int) (i:Int))=loF n Q l m i j:=by
 unfold loR loF
 rw [List.drop_zero,Atf hi]; rfl
theorem Ap3 (N:Nat) (n6:n≤6) (q6:Q≤6) (hl:l.length=n*n) (al:Ag l=true) {i j:Nat} (hi:i<n) (hj:j<Q) (M0 M1:Nat) (p29 p33:Int) :
 ∀ (cnt t F:Nat) (s:Int),t+cnt=n→cnt<F→Ak s=true→(i<t→t≤n) →
 solve.A4.Lo.L2 N M0 M1 F (n:Int) (n:Int) l (n:Int) (Q:Int) m (n:Int) s (t:Int) (j:Int) (i:Int) p29 p33 (Sw n Q l m j i) =
 solve.A4.Lo.L1 N M0 M1 (n:Int) (n:Int) l (n:Int) (Q:Int) m (n:Int) (Ab (p33+(1:Int))) (List.set (Sw n Q l m j i) (toNat ((i:Int)*(Q:Int)+(j:Int))) (Ez (if t<i then loR n Q l m i j t s else s) (D0 (n:Int) l (i:Int) (i:Int)))) (j:Int) p29:=by
 intro cnt
 induction cnt with
 | zero =>
   intro t F s ht hF hs _
   obtain ⟨F,rfl⟩:∃ G,F=G+1:=⟨F-1,by omega⟩
   obtain ⟨e1,g1,g2⟩:=Ib (R:=(n:Int)) (C3 n6 n6 hl hi hi)
   obtain ⟨e2,g3,g4⟩:=Ib (R:=(n:Int)) (C3 n6 q6 (Sd (l:=l) (m:=m) j i) hi hj)
   rw [A1q (by omega)]
   rw [solve.A4.Lo.Fl,Aw,A09 (show ¬ (t:Int)<(n:Int) by omega),A08,e1,A05 g1,A05 g2,A1a,A04,hs,show Ak (getD l (toNat ((i:Int)*(n:Int)+(i:Int))) 0)=true from Fx (c:=(n:Int)) al,A1a,A04,
    e2,A05 g3,A05 g4,A1a,A04,A05 (show toNat ((i:Int)*(Q:Int)+(j:Int))<(Sw n Q l m j i).length by omega),A04]
   rfl
 | succ cnt ih =>
   intro t F s ht hF hs _
   obtain ⟨F,rfl⟩:∃ G,F=G+1:=⟨F-1,by omega⟩
   by_cases hti:t<i
   ·obtain ⟨e1,g1,g2⟩:=Ib (R:=(n:Int)) (C3 n6 n6 hl hi (show t<n by omega))
    obtain ⟨e2,g3,g4⟩:=Ib (R:=(n:Int)) (C3 n6 q6 (Sd (l:=l) (m:=m) j i) (show t<n by omega) hj)
    have hx:getD (Sw n Q l m j i) (toNat ((t:Int)*(Q:Int)+(j:Int))) 0=loF n Q l m t j:=Akt (by omega) hj hti
    have:=ih (t+1) F (Dl s (D5 (D0 (n:Int) l (i:Int) (t:Int)) (loF n Q l m t j))) (by omega) (by omega) (K5 hs (Il _ _)) (by omega)
    rw [A1r hti,Agm hi hti]
    rw [solve.A4.Lo.Fl,Aw,A05 (show (t:Int)<(n:Int) by omega),A04,A05 (show (t:Int)<(i:Int) by omega),A04,e1,A05 g1,A05 g2,A1a,A04,
     e2,A05 g3,A05 g4,A1a,A04,A05 (show toNat ((t:Int)*(Q:Int)+(j:Int))<(Sw n Q l m j i).length by omega),A04,hx,
     show Ak (getD l (toNat ((i:Int)*(n:Int)+(t:Int))) 0)=true from Fx (c:=(n:Int)) al,Ai4,A1a,A04,hs,Il,A1a,A04,An (x:=(t:Int)+1) (by omega) (by omega)]
    have e:(if t+1<i then loR n Q l m i j (t+1) (Dl s (D5 (D0 (n:Int) l (i:Int) (t:Int)) (loF n Q l m t j))) else Dl s (D5 (D0 (n:Int) l (i:Int) (t:Int)) (loF n Q l m t j)))=loR n Q l m i j (t+1) (Dl s (D5 (D0 (n:Int) l (i:Int) (t:Int)) (loF n Q l m t j))):=by
     by_cases h2:t+1<i
     ·rw [A1r h2]
     ·rw [A1q h2,show t+1=i by omega,Ad5 hi]
    rw [e] at this
    exact this
   ·have:=ih (t+1) F s (by omega) (by omega) hs (by omega)
    rw [A1q hti,solve.A4.Lo.Fl,Aw,A05 (show (t:Int)<(n:Int) by omega),A04,A09 (show ¬ (t:Int)<(i:Int) by omega),A08,An (by omega) (by omega)]
    rw [A1q (by omega)] at this
    exact this
theorem Atd (N:Nat) (n6:n≤6) (q6:Q≤6) (hN:7<N) (hl:l.length=n*n) (hm:m.length=n*Q) (al:Ag l=true) (am:Ag m=true) {j:Nat} (hj:j<Q) (M0:Nat):∀ (cnt k F:Nat),k+cnt=n→cnt<F →
 solve.A4.Lo.L1 N M0 F (n:Int) (n:Int) l (n:Int) (Q:Int) m (n:Int) (k:Int) (Sw n Q l m j k) (j:Int) (j:Int) =
 solve.A4.Lo.L0 N M0 (n:Int) (n:Int) l (n:Int) (Q:Int) m (n:Int) ((j+1:Nat):Int) (Sw n Q l m j n):=by
 intro cnt
 induction cnt with
 | zero =>
   intro k F hk hF
   obtain ⟨F,rfl⟩:∃ G,F=G+1:=⟨F-1,by omega⟩
   obtain rfl:k=n:=by omega
   rw [solve.A4.Lo.B6,Aw,A09 (by omega),A08,An (by omega) (by omega)]
   rfl
 | succ cnt ih =>
   intro k F hk hF
   obtain ⟨F,rfl⟩:∃ G,F=G+1:=⟨F-1,by omega⟩
   obtain ⟨e2,g3,g4⟩:=Ib (R:=(n:Int)) (C3 n6 q6 hm (show k<n by omega) hj)
   have hr:=Ap3 (n:=n) (Q:=Q) (l:=l) (m:=m) N n6 q6 hl al (show k<n by omega) hj M0 F (j:Int) (k:Int) n 0 N (D0 (Q:Int) m (k:Int) (j:Int)) (by omega) (by omega) (Fx (c:=(Q:Int)) am) (by omega)
   have e:(if 0<k then loR n Q l m k j 0 (D0 (Q:Int) m (k:Int) (j:Int)) else D0 (Q:Int) m (k:Int) (j:Int))=loR n Q l m k j 0 (D0 (Q:Int) m (k:Int) (j:Int)):=by
    by_cases h:0<k
    ·rw [A1r h]
    ·obtain rfl:k=0:=by omega
     rw [A1q h,Ad5 (by omega)]
   rw [e,Aks hj (Akv (by omega)),An (by omega) (by omega)] at hr
   rw [solve.A4.Lo.B6,Aw,A05 (show (k:Int)<(n:Int) by omega),A04,e2,A05 g3,A05 g4,A1a,A04]
   exact hr.trans (ih (k+1) F (by omega) (by omega))
theorem Ate (N:Nat) (n6:n≤6) (q6:Q≤6) (hN:7<N) (hl:l.length=n*n) (hm:m.length=n*Q) (al:Ag l=true) (am:Ag m=true):∀ (cnt j F:Nat),j+cnt=Q→cnt<F →
 solve.A4.Lo.L0 N F (n:Int) (n:Int) l (n:Int) (Q:Int) m (n:Int) (j:Int) (Sw n Q l m j 0) =
 bif Dj (Sw n Q l m Q 0) then some (.tup [.agg [.int .i64 (n:Int),.int .i64 (Q:Int),.ints (.own 112002 tB) .u64 (Sw n Q l m Q 0)],.int .i64 (0:Int)]) else some (Af8 2):=by
 intro cnt
 induction cnt with
 | zero =>
   intro j F hj hF
   obtain ⟨F,rfl⟩:∃ G,F=G+1:=⟨F-1,by omega⟩
   obtain rfl:j=Q:=by omega
   have h36:=A10 n6 q6
   rw [solve.A4.Lo.Av,Aw,A09 (by omega),A08,I1 (Ap5 _ _) (by rw [Sd]; omega),A04]
   cases Dj (Sw n j l m j 0)<;>rfl
 | succ cnt ih =>
   intro j F hj hF
   obtain ⟨F,rfl⟩:∃ G,F=G+1:=⟨F-1,by omega⟩
   have hr:=Atd N n6 q6 hN hl hm al am (show j<Q by omega) F n 0 N (by omega) (by omega)
   rw [Agl] at hr
   rw [solve.A4.Lo.Av,Aw,A05 (show (j:Int)<(Q:Int) by omega),A04]
   exact hr.trans (ih (j+1) F (by omega) (by omega))
end
theorem solve.A4.Lo.known:solve.A4.Lo.Kn:=solve.A4.Lo.Ac (.cons Aip.known (.cons Aa.Bn.own.known (.cons solve.El.known (.cons Ah.Div.known (.cons Ah.Finite.known (.cons Ah.Mul.known (.cons Ah.Sub.known .nil))))))) fun r c l p q m n hp=>by
 show ∃ N dv drops,_=some dv∧Wk drops dv (Su (Gx r q (loG c l q m (toNat r) (toNat q))))
 obtain ⟨h1,hn⟩:=Ad.1 (show (Q1 r c l p q m&&decide (n=r))=true from hp)
 obtain ⟨h2,h3⟩:=Ad.1 h1
 obtain ⟨hr,hm⟩:=Ad.1 h2
 obtain ⟨h4,h5⟩:=Ad.1 h3
 obtain ⟨al,am⟩:=Ad.1 h4
 obtain ⟨rfl,rfl⟩:=Au.1 h5
 obtain rfl:=A1u hn
 have s1:=(Fj hr).1
 have s2:=(Fj hm).2
 obtain ⟨R,C,rfl,hC,r6,c6,hl⟩:=Ck hr
 obtain ⟨P,Q,hP,rfl,p6,q6,hl2⟩:=Ck hm
 obtain rfl:R=C:=by omega
 obtain rfl:R=P:=by omega
 have h:=Ate (n:=R) (Q:=Q) (l:=l) (m:=m) 8 r6 q6 (by omega) hl hl2 al am Q 0 8 (by omega) (by omega)
 rw [Agk,Aku,show ((0:Nat):Int)=0 from rfl] at h
 rw [A06,A06]
 unfold Gx
 cases hf:Dj (loG (R:Int) l (Q:Int) m R Q) with
 | true =>
   rw [hf,A04] at h
   rw [A1r rfl]
   refine ⟨8,.tup [.agg [.int .i64 (R:Int),.int .i64 (Q:Int),.ints (.own 112002 tB) .u64 (loG (R:Int) l (Q:Int) m R Q)],.int .i64 0],[112002],?_,Wk.Gv (.cons (Tf (List.mem_singleton.2 rfl)) (.cons .int .nil))⟩
   rw [solve.A4.Lo.ev,s1,s2,A1a,A04,A06,A06]
   exact h
 | false =>
   rw [hf,A08] at h
   rw [A1q (by decide)]
   refine ⟨8,Af8 2,[],?_,N3⟩
   rw [solve.A4.Lo.ev,s1,s2,A1a,A04,A06,A06]
   exact h
theorem solve.Ct.known:solve.Ct.Kn:=solve.Ct.Ac (.cons solve.check.known (.cons solve.A4.Lo.known .nil)) fun r c l p q m hp=>by
 have hp:(Ag l&&Ag m)=true:=hp
 show ∃ N dv drops,_=some dv∧Wk drops dv (Su (Ud r c l p q m))
 unfold Ud
 by_cases h:Ld r c l p q m=0
 ·obtain ⟨h1,h2,h3,h4⟩:=Na h
  have ht:Q1 r c l p q m=true:=Ad.2 ⟨Ad.2 ⟨h1,h2⟩,Ad.2 ⟨hp,Au.2 ⟨h3,h4⟩⟩⟩
  rw [A1q (by rw [h]; decide)]
  exact ⟨0,_,[],by rw [solve.Ct.ev,hp,A04,E0 h,A08,ht,A05 rfl]; rfl,Pq⟩
 ·rw [A1r h]
  exact ⟨0,_,[],by rw [solve.Ct.ev,hp,A04,Pa h,A04]; rfl,N3⟩
namespace EqLse
end EqLse
open EqLse
theorem Q7 {r c:Int} {l:List Int} (h:A0 r c l=true):0≤r∧r≤6∧0≤c∧c≤6:=by
 obtain ⟨R,C,rfl,rfl,r6,c6,_⟩:=Ck h
 omega
theorem Ats {r c:Int} {l:List Int} {e:Int} (al:Ag l=true):Ag (Ag9 r c l e).2.2.1=true:=by
 unfold Ag9
 split
 ·exact F8
 ·split
  ·exact F8
  ·exact al
theorem Ak2 {r c:Int} {l:List Int} (al:Ag l=true):Ag (Gx r c l).2.2.1=true:=by
 unfold Gx
 split
 ·exact al
 ·exact F8
theorem Ap4 (r c:Int) (l:List Int) (p q:Int) (m:List Int):Ag (Ud r c l p q m).2.2.1=true:=by
 unfold Ud
 split
 ·exact F8
 ·exact Ak2 (Ia fun i k=>Vo (Ai3 _ _ _ _) i)
theorem Auw (r c:Int) (l:List Int) (p q:Int) (m:List Int):Ag (Sz r c l p q m).2.2.1=true:=by
 unfold Sz
 split
 ·exact F8
 ·exact Ak2 (Ia fun i k=>Vo (Ah6 _ _ _ _ _) i)
theorem Ase {r c:Int} {l:List Int} {p q:Int} {m:List Int} (al:Ag l=true) (am:Ag m=true):Ag (Ok r c l p q m).2.2.1=true:=by
 unfold Ok
 by_cases h:(A0 r c l&&A0 p q m)=true
 ·rw [A1r h]
  by_cases h2:r=p∧c=q
  ·rw [A1r h2]; exact (show Ag (Cx _ _ fun i k=>Dl (D0 c l i k) (D0 q m i k))=true from Ia fun _ _=>K5 (Sl al) (Sl am))
  ·rw [A1q h2]; exact F8
 ·rw [A1q h]; exact F8
theorem Af2 {r c:Int} {l:List Int} (al:Ag l=true):Ag (qX r c l).2.2.1=true∧Ag (rX r c l).2.2.1=true:=by
 by_cases k:Gs r c l=0
 ·rw [(Uy k).1,(Uy k).2]; exact Awb al k
 ·rw [(Tl rfl k).1,(Tl rfl k).2]; exact ⟨F8,F8⟩
open EqMat EqOf
theorem Aa.Hk.known:Aa.Hk.Kn:=Aa.Hk.Ac (.cons Aa.get.known (.cons Ah.Sub.known .nil)) fun i k r c l p q m hp=>by
 obtain ⟨h1,am⟩:=Ad.1 (show (((Cj r c l i k&&Cj p q m i k)&&Ag l)&&Ag m)=true from hp)
 obtain ⟨h2,al⟩:=Ad.1 h1
 obtain ⟨h3,h4⟩:=Ad.1 h2
 refine ⟨0,Aa.Hk.out [.i i,.i k,.i r,.i c,.l l,.i p,.i q,.l m],[],?_,.int⟩
 rw [Aa.Hk.ev,h3,h4,Fx al,Fx am]; rfl
theorem of.Sub.inner (N:Nat) (r c:Int) (l:List Int) (p q:Int) (m:List Int) {A B:Nat} (hA:A≤6) (hB:B≤6) {F:Nat→Nat→Int} (hF:∀ i j:Nat,F i j=Dl (D0 c l (i:Int) (j:Int)) (D0 q m (i:Int) (j:Int))) {i:Nat} (hi:i<A) (hp:∀ j:Nat,j<B→(((Cj r c l (i:Int) (j:Int)&&Cj p q m (i:Int) (j:Int))&&Ag l)&&Ag m)=true):∀ (k j M0 M:Nat),j+k=B→k<M →
 Aa.of.Sub.L1 N M0 M (A:Int) (B:Int) r c l p q m (i:Int) (i:Int) (j:Int) (Cx i B F++(List.range j).map (F i))=Aa.of.Sub.L0 N M0 (A:Int) (B:Int) r c l p q m ((i+1:Nat):Int) (Cx (i+1) B F):=by
 intro k
 induction k with
 | zero =>
   intro j M0 M hj hM
   obtain ⟨M,rfl⟩:∃ G,M=G+1:=⟨M-1,by omega⟩
   obtain rfl:j=B:=by omega
   rw [Aa.of.Sub.B6,Aw,A09 (by omega),A08,An (by omega) (by omega),← M8]
   rfl
 | succ k ih =>
   intro j M0 M hj hM
   obtain ⟨M,rfl⟩:∃ G,M=G+1:=⟨M-1,by omega⟩
   have d:decide ((Cx i B F++(List.range j).map (F i)).length+1≤Gw)=true:=by
    refine A05 ?_
    have:=A10 (show i≤6 by omega) hB
    rw [A1w,Ca,A2a,A17]; unfold Gw; omega
   rw [Aa.of.Sub.B6,Aw,A05 (by omega),A04,hp j (by omega),A04,d,A04,An (by omega) (by omega),← hF i j]
   have:=ih (j+1) M0 M (by omega) (by omega)
   rw [Ih,← List.append_assoc] at this
   exact this
theorem of.Sub.outer (N:Nat) (r c:Int) (l:List Int) (p q:Int) (m:List Int) {A B:Nat} (hA:A≤6) (hB:B≤6) (hN:6<N) {F:Nat→Nat→Int} (hF:∀ i j:Nat,F i j=Dl (D0 c l (i:Int) (j:Int)) (D0 q m (i:Int) (j:Int))) (hp:∀ i j:Nat,i<A→j<B→(((Cj r c l (i:Int) (j:Int)&&Cj p q m (i:Int) (j:Int))&&Ag l)&&Ag m)=true):∀ (k i M:Nat),i+k=A→k<M →
 Aa.of.Sub.L0 N M (A:Int) (B:Int) r c l p q m (i:Int) (Cx i B F)=some (.agg [.int .i64 (A:Int),.int .i64 (B:Int),.ints (.own 108002 tB) .u64 (Cx A B F)]):=by
 intro k
 induction k with
 | zero =>
   intro i M hi hM
   obtain ⟨M,rfl⟩:∃ G,M=G+1:=⟨M-1,by omega⟩
   obtain rfl:i=A:=by omega
   rw [Aa.of.Sub.Av,Aw,A09 (by omega),A08]
 | succ k ih =>
   intro i M hi hM
   obtain ⟨M,rfl⟩:∃ G,M=G+1:=⟨M-1,by omega⟩
   have n:=of.Sub.inner N r c l p q m hA hB hF (show i<A by omega) (fun j hj=>hp i j (by omega) hj) B 0 M N (by omega) (by omega)
   rw [List.range_zero,List.map_nil,List.append_nil] at n
   rw [Aa.of.Sub.Av,Aw,A05 (by omega),A04]
   exact n.trans (ih (i+1) M (by omega) (by omega))
theorem Aa.of.Sub.known:Aa.of.Sub.Kn:=Aa.of.Sub.Ac (.cons Aa.Hk.known .nil) fun a b r c l p q m hp=>by
 obtain ⟨h12,hy⟩:=Ad.1 (show (((Bv a&&Bv b)&&((A0 r c l&&A0 p q m)&&(Ag l&&Ag m)))&&decide (a=r∧b=c∧p=r∧q=c))=true from hp)
 obtain ⟨h1,hx⟩:=Ad.1 h12
 have h2:=Ad.2 ⟨hx,hy⟩
 obtain ⟨ha,hb⟩:=Ad.1 h1
 obtain ⟨A,rfl,hA⟩:=E9 ha
 obtain ⟨B,rfl,hB⟩:=E9 hb
 obtain ⟨h3,he⟩:=Ad.1 h2
 obtain ⟨h4,h5⟩:=Ad.1 h3
 obtain ⟨hr,hm⟩:=Ad.1 h4
 obtain ⟨al,am⟩:=Ad.1 h5
 obtain ⟨e1,e2,e3,e4⟩:=A1u he
 have hp:∀ i j:Nat,i<A→j<B→(((Cj r c l (i:Int) (j:Int)&&Cj p q m (i:Int) (j:Int))&&Ag l)&&Ag m)=true:=fun i j hi hj =>
  Ad.2 ⟨Ad.2 ⟨Ad.2 ⟨Lx hr (by omega) (by omega) (by omega) (by omega) r,Lx hm (by omega) (by omega) (by omega) (by omega) p⟩,al⟩,am⟩
 refine ⟨8,.agg [.int .i64 (A:Int),.int .i64 (B:Int),.ints (.own 108002 tB) .u64 (Cx A B fun (i j:Nat)=>Dl (D0 c l (i:Int) (j:Int)) (D0 q m (i:Int) (j:Int)))],[108002],?_,Wk.Gy (.cons .int (.cons .int (.cons (.drop _ _ _ _ (List.mem_singleton.2 rfl)) .nil)))⟩
 rw [Aa.of.Sub.ev]
 have n:=of.Sub.outer 8 r c l p q m hA hB (by omega) (F:=fun (i j:Nat)=>Dl (D0 c l (i:Int) (j:Int)) (D0 q m (i:Int) (j:Int))) (fun _ _=>rfl) hp A 0 8 (by omega) (by omega)
 rw [M7] at n
 exact n
namespace EqRef20
def Af.Bn.own.Bc:List (Nat × Entry):=[]
def Af.Bn.own.E:Env:=Be (Bb Af.Bn.own.Bc) (fun _=>false) (fun _=>none) (fun _=>none)
theorem Af.Bn.own.ev (N:Nat) (a b:Int):Bu Af.Bn.own.E N f35 (Am f35) [.int .i64 a,.int .i64 b]=bif (((decide ((0:Int)≤(Ab (a*b))))&&(decide ((Ab (a*b))≤(Ab (a*b)))))&&(decide ((Ab (a*b))≤Gw))) then some (.agg [.int .i64 a,.int .i64 b,.ints (.own 10 37) .u64 (List.replicate (toNat (Ab (a*b))) 0)]) else none:=by kernel_rfl
abbrev _root_.Go.Proofs.S1.Af.Bn.own.Kn:=A7 prog 35 Af.Bn.own.spec
theorem Af.Bn.own.Ac (hk:A1 prog Af.Bn.own.Bc) (h:Hyp Af.Bn.own.E f35 Af.Bn.own.ts Af.Bn.own.pre Af.Bn.own.out):Af.Bn.own.Kn :=
 Al (A2 hk _ _ _) func35 (by kernel_rfl) (by kernel_rfl) h
def Af.Sub.hint:Nat→Option Bg
 | 0=>some { keep:=[2,3,4,5,6],objs:=[(6,2,106002,.ints 37 .u64 [])],boxes:=[2,3,4,5] }
 | _=>none
def Af.Sub.Bc:List (Nat × Entry):=[(81,Ai.Sub.spec),(35,Af.Bn.own.spec)]
def Af.Sub.E:Env:=Be (Bb Af.Sub.Bc) (fun n=>Nat.beq n 11) Af.Sub.hint (fun _=>none)
section
variable (N M:Nat) (r c:Int) (l:List Int) (p q:Int) (m:List Int) (p6:Int) (p2:List Int)
def Af.Sub.L0:Option DV:=Bx Af.Sub.E N f129 (Am f129) [1,1,0,1,0] [] M ⟨E5 35 [(2,.ptr 2 0 0),(3,.ptr 3 0 0),(4,.ptr 4 0 0),(5,.ptr 5 0 0),(6,.int .i64 p6)],[(2,false,.box [.int .i64 r,.int .i64 c,.ints .arg .u64 l]),(3,false,.box [.int .i64 p,.int .i64 q,.ints .arg .u64 m]),(4,false,.box [.int .i64 0,.int .i64 0,.nil]),(5,false,.box [.int .i64 r,.int .i64 c,.oref 106002]),(106002,false,.ints 37 .u64 p2)]⟩
theorem Af.Sub.Av:Af.Sub.L0 N (M+1) r c l p q m p6 p2=bif (Bd p6 (length l:Int)) then bif ((decide (0≤p6))&&(decide (p6<(length l:Int)))) then bif ((decide (0≤p6))&&(decide (p6<(length m:Int)))) then bif (Ak (getD l (toNat p6) 0)&&Ak (getD m (toNat p6) 0)) then bif ((decide (0≤p6))&&(decide (p6<(length p2:Int)))) then bif (decide ((toNat p6)<(length p2))) then Af.Sub.L0 N M r c l p q m (Ab (p6+1)) (List.set p2 (toNat p6) (Dl (getD l (toNat p6) 0) (getD m (toNat p6) 0))) else none else none else none else none else none else some (.agg [.int .i64 r,.int .i64 c,.ints (.own 106002 37) .u64 p2]) :=
 Eq.trans (by kernel_rfl)
 (Ec (Cp (I9 (decide (0≤p6)) (decide (p6<(length l:Int)))) (Cp (I9 (decide (0≤p6)) (decide (p6<(length m:Int)))) (Cp (Cd (Ak (getD l (toNat p6) 0)&&Ak (getD m (toNat p6) 0))) (Cp (I9 (decide (0≤p6)) (decide (p6<(length p2:Int)))) (Cp (Cd (decide ((toNat p6)<(length p2)))) rfl rfl) rfl) rfl) rfl) rfl) rfl)
theorem Af.Sub.ev:Bu Af.Sub.E N f129 (Am f129) [.agg [.int .i64 r,.int .i64 c,.ints .arg .u64 l],.agg [.int .i64 p,.int .i64 q,.ints .arg .u64 m]]=bif (Bv r&&Bv c) then Af.Sub.L0 N N r c l p q m 0 (Cx (toNat r) (toNat c) (fun _ _=>0)) else none:=by kernel_rfl
end
abbrev _root_.Go.Proofs.S1.Af.Sub.Kn:=A7 prog 129 Af.Sub.spec
theorem Af.Sub.Ac (hk:A1 prog Af.Sub.Bc) (h:Hyp Af.Sub.E f129 Af.Sub.ts Af.Sub.pre Af.Sub.out):Af.Sub.Kn :=
 Al (A2 hk _ _ _) func129 (by kernel_rfl) (by kernel_rfl) h
end EqRef20
open EqOf EqRef20
theorem Aa.Sub.known:Aa.Sub.Kn:=Aa.Sub.Ac (.cons Aa.of.Sub.known (.cons Aa.two.known .nil)) fun r c l p q m hp=>by
 show ∃ N dv drops,_=some dv∧Wk drops dv (Su (Ok r c l p q m))
 unfold Ok
 have hp:(Ag l&&Ag m)=true:=hp
 by_cases h:(A0 r c l&&A0 p q m)=true
 ·obtain ⟨h1,h2⟩:=Ad.1 h
  by_cases hc:r=p∧c=q
  ·have e:(!((r==p)&&(c==q)))=false:=by rw [hc.1,hc.2]; simp
   rw [A1r h,A1r hc]
   exact ⟨0,_,[],by rw [Aa.Sub.ev,V3,h,e,(Fj h1).1,(Fj h1).2,hp,A05 ⟨rfl,rfl,hc.1.symm,hc.2.symm⟩]; rfl,Pq⟩
  ·have e:(!((r==p)&&(c==q)))=true:=by
    rw [Bool.not_eq_true',Bool.eq_false_iff]
    intro h
    simp only [A1f,beq_iff_eq] at h
    exact hc h
   rw [A1r h,A1q hc]
   exact ⟨0,_,[],by rw [Aa.Sub.ev,V3,h,e]; rfl,N3⟩
 ·have e:(A0 r c l&&A0 p q m)=false:=by simpa using h
  rw [A1q h]
  exact ⟨0,_,[],by rw [Aa.Sub.ev,V3,e,Aof e]; rfl,N3⟩
theorem Af.Bn.own.known:Af.Bn.own.Kn:=Af.Bn.own.Ac .nil fun a b hp=>by
 obtain ⟨ha,hb⟩:=Ad.1 (show (Bv a&&Bv b)=true from hp)
 obtain ⟨A,rfl,hA⟩:=E9 ha
 obtain ⟨B,rfl,hB⟩:=E9 hb
 have hm:=Ja (a:=(A:Int)) (b:=(B:Int)) (by omega) (by omega) (by omega) (by omega)
 have e:((A:Int)*(B:Int)).toNat=A*B:=by rw [← A1p,A06]
 refine ⟨0,.agg [.int .i64 (A:Int),.int .i64 (B:Int),.ints (.own 10 tB) .u64 (Cx A B fun _ _=>0)],[],?_,Wk.Gy (.cons .int (.cons .int (.cons (.keep _ _ _ _ (List.not_mem_nil)) .nil)))⟩
 rw [Af.Bn.own.ev,An (by omega) (by omega),A05 hm.1,A05 (Int.le_refl _),A05 (show (A:Int)*(B:Int)≤(Gw:Int) by unfold Gw; omega),e,Tw]
 rfl
def Te (f:Nat→Int) (n i:Nat):List Int:=(List.range i).map f++List.replicate (n-i) 0
theorem Aei {f:Nat→Int} {n i:Nat} (h:i≤n):(Te f n i).length=n:=by
 unfold Te; rw [A1w,A2a,A17,List.length_replicate]; omega
theorem Ani {f:Nat→Int} {n i:Nat} (h:i<n):List.set (Te f n i) i (f i)=Te f n (i+1):=by
 unfold Te
 have e:n-i=(n-(i+1))+1:=by omega
 rw [e,List.replicate_succ,List.set_append_right _ _ (by rw [A2a,A17]; omega),A2a,A17,Nat.sub_self,List.set_cons_zero,Ih,List.append_assoc]
 rfl
theorem Ajj {f:Nat→Int} {n:Nat}:Te f n 0=List.replicate n 0:=by unfold Te; rfl
theorem Anj {f:Nat→Int} {n:Nat}:Te f n n=(List.range n).map f:=by unfold Te; rw [Nat.sub_self]; exact List.append_nil _
theorem Adg (N:Nat) {R C:Nat} {l m:List Int} (al:Ag l=true) (am:Ag m=true) (h36:l.length≤36) (hm:m.length=l.length) (p q:Int):∀ (k i F:Nat),i+k=l.length→k<F →
 Af.Sub.L0 N F (R:Int) (C:Int) l p q m (i:Int) (Te (fun j=>Dl (l.getD j 0) (m.getD j 0)) l.length i)=some (.agg [.int .i64 (R:Int),.int .i64 (C:Int),.ints (.own 106002 tB) .u64 ((List.range l.length).map fun j=>Dl (l.getD j 0) (m.getD j 0))]):=by
 intro k
 induction k with
 | zero =>
   intro i F hi hF
   obtain ⟨F,rfl⟩:∃ G,F=G+1:=⟨F-1,by omega⟩
   obtain rfl:i=l.length:=by omega
   rw [Af.Sub.Av,Aw,A09 (by omega),A08,Anj]
 | succ k ih =>
   intro i F hi hF
   obtain ⟨F,rfl⟩:∃ G,F=G+1:=⟨F-1,by omega⟩
   rw [Af.Sub.Av,Aw,A05 (show (i:Int)<(l.length:Int) by omega),A04,A05 (show (0:Int)≤(i:Int) by omega),A1a,A04,A05 (show (i:Int)<(m.length:Int) by omega),A1a,A04,A06,
    Qn al (by omega),Qn am (by omega),A1a,A04,Aei (by omega),A05 (show (i:Int)<(l.length:Int) by omega),A1a,A04,A05 (show i<l.length by omega),A04,An (by omega) (by omega)]
   have:=ih (i+1) F (by omega) (by omega)
   rw [← Ani (by omega)] at this
   exact this
theorem Af.Sub.known:Af.Sub.Kn:=Af.Sub.Ac (.cons Ai.Sub.known (.cons Af.Bn.own.known .nil)) fun r c l p q m hp=>by
 obtain ⟨h1,h2⟩:=Ad.1 (show ((A0 r c l&&A0 p q m)&&((Ag l&&Ag m)&&decide (p=r∧q=c)))=true from hp)
 obtain ⟨hr,hm⟩:=Ad.1 h1
 obtain ⟨h3,h4⟩:=Ad.1 h2
 obtain ⟨al,am⟩:=Ad.1 h3
 obtain ⟨rfl,rfl⟩:=A1u h4
 obtain ⟨s1,s2⟩:=Fj hr
 obtain ⟨R,C,rfl,rfl,r6,c6,hl⟩:=Ck hr
 have hl2:m.length=R*C:=by
  have:=(J7.1 hm).2.2
  rw [← A1p] at this
  omega
 have h36:=A10 r6 c6
 have n:=Adg 37 (R:=R) (C:=C) al am (by omega) (by omega) (R:Int) (C:Int) l.length 0 37 (by omega) (by omega)
 rw [Ajj,hl,← Tw,show ((0:Nat):Int)=0 from rfl] at n
 refine ⟨37,.agg [.int .i64 (R:Int),.int .i64 (C:Int),.ints (.own 106002 tB) .u64 (Cx R C fun (i k:Nat)=>Dl (D0 (C:Int) l (i:Int) (k:Int)) (D0 (C:Int) m (i:Int) (k:Int)))],[106002],?_,Tf (List.mem_singleton.2 rfl)⟩
 have e:(List.range (R*C)).map (fun j=>Dl (l.getD j 0) (m.getD j 0))=Cx R C fun (i k:Nat)=>Dl (D0 (C:Int) l (i:Int) (k:Int)) (D0 (C:Int) m (i:Int) (k:Int)):=by
  unfold Cx
  refine List.map_congr_left fun j _=>?_
  dsimp only
  rw [X8,X8,Nat.div_add_mod']
 rw [e] at n
 rw [Af.Sub.ev,s1,s2,A1a,A04,A06,A06]
 exact n
open EqLse
def Out (o:Option DV) (x:MX):Prop:=∃ dv drops,o=some dv∧Wk drops dv (Aio x)
theorem Adp {o:Option DV} {e:Int} (h:o=some (Af8 e)):Out o (Ga e):=⟨_,[],h,Acu⟩
section
variable {N:Nat} {r c p q a b u v:Int} {l m g h:List Int} {w one two done f y Q z:MX}
end
open EqRef14 EqLow
theorem Aqr {c:Int} {l:List Int} {i k:Int} (h:Dj l=true):Dg (D0 c l i k)=true:=by
 unfold D0
 rw [A1e]
 cases hx:l[(i*c+k).toNat]? with
 | none=>exact (by decide:Dg 0=true)
 | some x =>
   unfold Dj at h
   exact List.all_eq_true.1 h x (List.mem_of_getElem? hx)
theorem Ag7 {r c:Nat} {f:Nat→Nat→Int} (h:∀ i k,Dg (f i k)=true):Dj (Cx r c f)=true:=by
 unfold Dj
 rw [List.all_eq_true]
 intro x hx
 obtain ⟨j,_,rfl⟩:=List.mem_map.1 hx
 exact h _ _
section
variable {n Q:Nat} {l m:List Int}
theorem Adh (N:Nat) (n6:n≤6) (q6:Q≤6) (hl:l.length=n*n) (al:Ag l=true) {i j:Nat} (hi:i<n) (hj:j<Q) (M0 M1:Nat) :
 ∀ (cnt t F:Nat) (s:Int),t+cnt=i→cnt<F→Ak s=true →
 A3.Ct.L2 N M0 M1 F (n:Int) (n:Int) l (n:Int) (Q:Int) m (j:Int) (i:Int) s (Sw n Q l m j i) (t:Int) =
 A3.Ct.L1 N M0 M1 (n:Int) (n:Int) l (n:Int) (Q:Int) m (Ab ((i:Int)+(1:Int))) (List.set (Sw n Q l m j i) (toNat ((i:Int)*(Q:Int)+(j:Int))) (Ez (loR n Q l m i j t s) (D0 (n:Int) l (i:Int) (i:Int)))) (j:Int):=by
 intro cnt
 induction cnt with
 | zero =>
   intro t F s ht hF hs
   obtain ⟨F,rfl⟩:∃ G,F=G+1:=⟨F-1,by omega⟩
   obtain rfl:t=i:=by omega
   rw [A3.Ct.Fl,Aw,A09 (by omega),A08,C3 n6 n6 hl hi hi,A04,hs,Fx al,A1a,A04,C3 n6 q6 (Sd (l:=l) (m:=m) j t) hi hj,A04,Ad5 hi]
 | succ cnt ih =>
   intro t F s ht hF hs
   obtain ⟨F,rfl⟩:∃ G,F=G+1:=⟨F-1,by omega⟩
   have:=ih (t+1) F (Dl s (D5 (D0 (n:Int) l (i:Int) (t:Int)) (loF n Q l m t j))) (by omega) (by omega) (K5 hs (Il _ _))
   rw [A3.Ct.Fl,Aw,A05 (show (t:Int)<(i:Int) by omega),A04,C3 n6 n6 hl hi (show t<n by omega),A04,C3 n6 q6 (Sd (l:=l) (m:=m) j i) (show t<n by omega) hj,A04,
    Akt (show t<n by omega) hj (show t<i by omega),Fx al,Ai4,A1a,A04,hs,Il,A1a,A04,An (by omega) (by omega),Agm hi (show t<i by omega)]
   exact this
theorem Af0 (N:Nat) (n6:n≤6) (q6:Q≤6) (hN:7<N) (hl:l.length=n*n) (hm:m.length=n*Q) (al:Ag l=true) (am:Ag m=true) {j:Nat} (hj:j<Q) (M0:Nat):∀ (cnt k F:Nat),k+cnt=n→cnt<F →
 A3.Ct.L1 N M0 F (n:Int) (n:Int) l (n:Int) (Q:Int) m (k:Int) (Sw n Q l m j k) (j:Int) =
 A3.Ct.L0 N M0 (n:Int) (n:Int) l (n:Int) (Q:Int) m ((j+1:Nat):Int) (Sw n Q l m j n):=by
 intro cnt
 induction cnt with
 | zero =>
   intro k F hk hF
   obtain ⟨F,rfl⟩:∃ G,F=G+1:=⟨F-1,by omega⟩
   obtain rfl:k=n:=by omega
   rw [A3.Ct.B6,Aw,A09 (by omega),A08,An (by omega) (by omega)]
   rfl
 | succ cnt ih =>
   intro k F hk hF
   obtain ⟨F,rfl⟩:∃ G,F=G+1:=⟨F-1,by omega⟩
   have hr:=Adh (n:=n) (Q:=Q) (l:=l) (m:=m) N n6 q6 hl al (show k<n by omega) hj M0 F k 0 N (D0 (Q:Int) m (k:Int) (j:Int)) (by omega) (by omega) (Fx (c:=(Q:Int)) am)
   rw [Aks hj (Akv (by omega)),An (by omega) (by omega)] at hr
   rw [A3.Ct.B6,Aw,A05 (show (k:Int)<(n:Int) by omega),A04,C3 n6 q6 hm (show k<n by omega) hj,A04]
   exact hr.trans (ih (k+1) F (by omega) (by omega))
theorem Af1 (N:Nat) (n6:n≤6) (q6:Q≤6) (hN:7<N) (hl:l.length=n*n) (hm:m.length=n*Q) (al:Ag l=true) (am:Ag m=true):∀ (cnt j F:Nat),j+cnt=Q→cnt<F →
 A3.Ct.L0 N F (n:Int) (n:Int) l (n:Int) (Q:Int) m (j:Int) (Sw n Q l m j 0) =
 some (.tup [.agg [.int .i64 (Gx (n:Int) (Q:Int) (Sw n Q l m Q 0)).1,.int .i64 (Gx (n:Int) (Q:Int) (Sw n Q l m Q 0)).2.1,.ints .arg .u64 (Gx (n:Int) (Q:Int) (Sw n Q l m Q 0)).2.2.1],.int .i64 (Gx (n:Int) (Q:Int) (Sw n Q l m Q 0)).2.2.2]):=by
 intro cnt
 induction cnt with
 | zero =>
   intro j F hj hF
   obtain ⟨F,rfl⟩:∃ G,F=G+1:=⟨F-1,by omega⟩
   obtain rfl:j=Q:=by omega
   rw [A3.Ct.Av,Aw,A09 (by omega),A08,Ap5,Kj n6 q6 (Sd _ _),A1a,A04]
 | succ cnt ih =>
   intro j F hj hF
   obtain ⟨F,rfl⟩:∃ G,F=G+1:=⟨F-1,by omega⟩
   have hr:=Af0 N n6 q6 hN hl hm al am (show j<Q by omega) F n 0 N (by omega) (by omega)
   rw [Agl] at hr
   rw [A3.Ct.Av,Aw,A05 (show (j:Int)<(Q:Int) by omega),A04]
   exact hr.trans (ih (j+1) F (by omega) (by omega))
end
theorem A3.Ct.known:A3.Ct.Kn:=A3.Ct.Ac (.cons Ai.Div.known (.cons Ai.Mul.known (.cons Ai.Sub.known (.cons Af.At.known (.cons Af.Fp.known (.cons Af.Bn.known (.cons A3.Check.known (.cons A3.finite.known .nil)))))))) fun r c l p q m hp=>by
 have hp:(Ag l&&Ag m)=true:=hp
 obtain ⟨al,am⟩:=Ad.1 hp
 show ∃ N dv drops,_=some dv∧Wk drops dv (DV.tup [.agg [.int .i64 (Ud r c l p q m).1,.int .i64 (Ud r c l p q m).2.1,.ints .arg .u64 (Ud r c l p q m).2.2.1],.int .i64 (Ud r c l p q m).2.2.2])
 have hrun:=A3.Ct.ev 8 r c l p q m
 rw [hp,A04] at hrun
 unfold Ud
 by_cases h:Ld r c l p q m=0
 ·rw [E0 h,A08] at hrun
  rw [A1q (by rw [h]; decide)]
  obtain ⟨h1,h2,h3,h4⟩:=Na h
  have s:=Fj h2
  obtain ⟨R,C,rfl,rfl,r6,c6,hl⟩:=Ck h1
  obtain ⟨P,Q,rfl,rfl,p6,q6,hl2⟩:=Ck h2
  obtain rfl:R=C:=by omega
  obtain rfl:R=P:=by omega
  have hc:=Af1 (n:=R) (Q:=Q) (l:=l) (m:=m) 8 r6 q6 (by omega) hl hl2 al am Q 0 8 (by omega) (by omega)
  rw [Agk,Aku] at hc
  rw [s.1,s.2,A1a,A04,A06,A06] at hrun
  rw [A06,A06]
  exact ⟨8,_,[],hrun.trans hc,Acw⟩
 ·rw [Pa h,A04,A04] at hrun
  rw [A1r h]
  exact ⟨8,_,[],hrun,Acu⟩
theorem Acg:∀ (d:List Int) (m:Int),(∀ x∈d,∃ n:Nat,x=((Hj n:Nat):Int))→d.foldl (fun m x=>Pc m x) m=d.foldl (fun m x=>Pc m (Jt x)) m
 | [],_,_=>rfl
 | x::d,m,h=>by
   obtain ⟨n,rfl⟩:=h x A2j
   have e:Jt ((Hj n:Nat):Int)=((Hj n:Nat):Int):=by
    unfold Jt
    rw [A06]
    congr 1
    unfold Hj
    omega
   rw [List.foldl_cons,List.foldl_cons,e]
   exact Acg d _ fun y hy=>h y (A19 _ hy)
theorem Ach {c:Int} {l:List Int} {n i:Nat} (h:i<n):(K4 c l n).drop i=Jt (D0 c l (i:Int) (i:Int))::(K4 c l n).drop (i+1):=by
 have hl:(K4 c l n).length=n:=I6 c l n
 rw [List.drop_eq_getElem_cons (by rw [hl]; exact h)]
 congr 1
 simp [K4]
theorem Adi (N:Nat) {R C:Nat} {l:List Int} (r6:R≤6) (c6:C≤6) (hl:l.length=R*C) (al:Ag l=true):∀ (cnt i F:Nat) (g:Int),i+cnt=min R C→cnt<F→Ak g=true →
 A3.Flat.L0 N F (R:Int) (C:Int) l g (i:Int)=A3.Flat.L1 N N (R:Int) (C:Int) l 0 (((K4 (C:Int) l (min R C)).drop i).foldl (fun m x=>Pc m x) g):=by
 intro cnt
 induction cnt with
 | zero =>
   intro i F g hi hF hg
   obtain ⟨F,rfl⟩:∃ G,F=G+1:=⟨F-1,by omega⟩
   have hlt:(Bd (i:Int) (R:Int)&&Bd (i:Int) (C:Int))=false:=by
    rw [Aw,Aw,Bool.and_eq_false_iff,A1n,A1n]; omega
   rw [A3.Flat.Av,hlt,A08,A1i (by rw [I6]; omega)]
   rfl
 | succ cnt ih =>
   intro i F g hi hF hg
   obtain ⟨F,rfl⟩:∃ G,F=G+1:=⟨F-1,by omega⟩
   have hlt:(Bd (i:Int) (R:Int)&&Bd (i:Int) (C:Int))=true:=by
    rw [Aw,Aw,A05 (by omega),A05 (by omega)]; rfl
   rw [A3.Flat.Av,hlt,A04,C3 r6 c6 hl (by omega) (by omega),A04,Fx al,A04,hg,Tu,A1a,A04,An (by omega) (by omega),Ach (by omega),List.foldl_cons]
   exact ih (i+1) F _ (by omega) (by omega) (Apv hg (Tu _))
theorem Adj (N:Nat) {R C:Nat} {l:List Int} {g:Int} (r6:R≤6) (c6:C≤6) (hl:l.length=R*C) (al:Ag l=true) (hg:Ak g=true):∀ (cnt i F:Nat),i+cnt=min R C→cnt<F →
 A3.Flat.L1 N F (R:Int) (C:Int) l (i:Int) g=some (.bool (((K4 (C:Int) l (min R C)).drop i).any fun x=>!(decide (Tn (B3 g (-40)) x<0)))):=by
 intro cnt
 induction cnt with
 | zero =>
   intro i F hi hF
   obtain ⟨F,rfl⟩:∃ G,F=G+1:=⟨F-1,by omega⟩
   have hlt:(Bd (i:Int) (R:Int)&&Bd (i:Int) (C:Int))=false:=by
    rw [Aw,Aw,Bool.and_eq_false_iff,A1n,A1n]; omega
   rw [A3.Flat.B6,hlt,A08,A1i (by rw [I6]; omega)]
   rfl
 | succ cnt ih =>
   intro i F hi hF
   obtain ⟨F,rfl⟩:∃ G,F=G+1:=⟨F-1,by omega⟩
   have hlt:(Bd (i:Int) (R:Int)&&Bd (i:Int) (C:Int))=true:=by
    rw [Aw,Aw,A05 (by omega),A05 (by omega)]; rfl
   have sp:Ds g (-40:Int)=true:=Ad.2 ⟨hg,Au.2 (by omega)⟩
   rw [A3.Flat.B6,hlt,A04,sp,A04,C3 r6 c6 hl (by omega) (by omega),A04,Fx al,A04,Ig hg,Tu,A1a,A04,Ej,Ach (by omega),List.any_cons,An (by omega) (by omega)]
   by_cases h:Tn (B3 g (-40)) (Jt (D0 (C:Int) l (i:Int) (i:Int)))<0
   ·rw [A09 (by omega),A08,A05 h,A13,Bool.false_or]
    exact ih (i+1) F (by omega) (by omega)
   ·rw [A05 (by omega),A04,A09 h]; rfl
theorem A3.Flat.known:A3.Flat.Kn:=A3.Flat.Ac (.cons Bq.G7.known (.cons Bq.Max.known (.cons Bq.Order.known (.cons Ai.Bt.known (.cons Af.At.known .nil))))) fun r c l hp=>by
 obtain ⟨h1,hf⟩:=Ad.1 (show ((A0 r c l&&Ag l)&&Dj l)=true from hp)
 obtain ⟨hr,al⟩:=Ad.1 h1
 obtain ⟨R,C,rfl,rfl,r6,c6,hl⟩:=Ck hr
 refine ⟨8,.bool (Wq (R:Int) (C:Int) l),[],?_,.bool⟩
 rw [A3.Flat.ev]
 have h1:=Adi 8 r6 c6 hl al (min R C) 0 8 0 (by omega) (by omega) I8
 rw [List.drop_zero,Acg _ _ (fun x hx=>by obtain ⟨j,_,rfl⟩:=List.mem_map.1 hx; exact ⟨_,rfl⟩)] at h1
 have h2:=Z2 (K4 (C:Int) l (min R C)) 0 (by decide) (by decide +kernel)
 have h2:(K4 (C:Int) l (min R C)).foldl (fun m x=>Pc m (Jt x)) 0=Bl (K4 (C:Int) l (min R C)):=h2
 rw [h2] at h1
 have h3:=Adj 8 (g:=Bl (K4 (C:Int) l (min R C))) r6 c6 hl al (Oo _) (min R C) 0 8 (by omega) (by omega)
 rw [List.drop_zero] at h3
 unfold Wq Aqo
 rw [A06,A06]
 exact h1.trans h3
open EqRef20
theorem Agj {r c:Int} {l:List Int} {p q:Int} {m:List Int} (h:(Ud r c l p q m).2.2.2=0) :
 ∃ (R Q:Nat) (Y:List Int),r=R∧q=Q∧R≤6∧Q≤6∧Ud r c l p q m=((R:Int),(Q:Int),Y,0)∧Y.length=R*Q∧Dj Y=true∧Ag Y=true:=by
 have hin:=Ap4 r c l p q m
 unfold Ud at h hin ⊢
 by_cases k:Ld r c l p q m=0
 ·rw [A1q (fun h=>h k)] at h hin ⊢
  obtain ⟨h1,h2,rfl,rfl⟩:=Na k
  obtain ⟨R,C,rfl,hC,r6,c6,hl⟩:=Ck h1
  obtain ⟨P,Q,hP,rfl,p6,q6,hl2⟩:=Ck h2
  unfold Gx at h hin ⊢
  by_cases kf:Dj (loG (R:Int) l (Q:Int) m (R:Int).toNat (Q:Int).toNat)=true
  ·rw [A1r kf] at hin ⊢
   exact ⟨R,Q,_,rfl,rfl,r6,q6,rfl,by unfold loG; rw [Ca,A06,A06],kf,hin⟩
  ·rw [A1q kf] at h; exact absurd h (by decide)
 ·rw [A1r k] at h; exact absurd h k
theorem Ae2 {r c:Int} {l:List Int} {p q:Int} {m:List Int} (h:(Sz r c l p q m).2.2.2=0) :
 ∃ (R Q:Nat) (Y:List Int),r=R∧q=Q∧R≤6∧Q≤6∧Sz r c l p q m=((R:Int),(Q:Int),Y,0)∧Y.length=R*Q∧Dj Y=true∧Ag Y=true:=by
 have hin:=Auw r c l p q m
 unfold Sz at h hin ⊢
 by_cases k:Ld r c l p q m=0
 ·rw [A1q (fun h=>h k)] at h hin ⊢
  obtain ⟨h1,h2,rfl,rfl⟩:=Na k
  obtain ⟨R,C,rfl,hC,r6,c6,hl⟩:=Ck h1
  obtain ⟨P,Q,hP,rfl,p6,q6,hl2⟩:=Ck h2
  unfold Gx at h hin ⊢
  by_cases kf:Dj (upG (R:Int) l (Q:Int) m (R:Int).toNat (Q:Int).toNat)=true
  ·rw [A1r kf] at hin ⊢
   exact ⟨R,Q,_,rfl,rfl,r6,q6,rfl,by unfold upG; rw [Ca,A06,A06],kf,hin⟩
  ·rw [A1q kf] at h; exact absurd h (by decide)
 ·rw [A1r k] at h; exact absurd h k
def F6 (R C:Nat) (x:MX):Prop:=∃ l,x=((R:Int),(C:Int),l,0)∧R≤6∧C≤6∧l.length=R*C∧Ag l=true
def FM (x:MX):Prop:=Dj x.2.2.1=true
theorem FM.of {r c e:Int} {l:List Int} (h:Dj l=true):FM (r,c,l,e):=h
theorem F6.mk {R C:Nat} {l:List Int} (r6:R≤6) (c6:C≤6) (hl:l.length=R*C) (al:Ag l=true):F6 R C ((R:Int),(C:Int),l,0):=⟨l,rfl,r6,c6,hl,al⟩
theorem F6.Y8 {r c:Int} {l:List Int} (h:B4 r c l=0) (al:Ag l=true):∃ R C:Nat,r=R∧c=C∧F6 R C (r,c,l,0)∧FM (r,c,l,0):=by
 obtain ⟨R,C,rfl,rfl,r6,c6,hl⟩:=Ck (Gt h).1
 exact ⟨R,C,rfl,rfl,.mk r6 c6 hl al,(Gt h).2⟩
theorem Am8 {r c:Int} {l:List Int} (h:B4 r c l=0):(Jv r c l).1=Wq r c l:=by
 unfold Jv
 rw [A1q (fun k=>k h)]
section
variable {R C K:Nat} {x y:MX}
theorem F6.right (h:F6 R C x):A0 x.1 x.2.1 x.2.2.1=true:=by
 obtain ⟨l,rfl,r6,c6,hl,al⟩:=h
 exact Kj r6 c6 hl
theorem F6.inn (h:F6 R C x):Ag x.2.2.1=true:=by obtain ⟨l,rfl,r6,c6,hl,al⟩:=h; exact al
theorem F6.err (h:F6 R C x):x.2.2.2=0:=by obtain ⟨l,rfl,_⟩:=h; rfl
theorem F6.rows (h:F6 R C x):x.1=R:=by obtain ⟨l,rfl,_⟩:=h; rfl
theorem F6.Md (h:F6 R C x):x.2.1=C:=by obtain ⟨l,rfl,_⟩:=h; rfl
theorem F6.r6 (h:F6 R C x):R≤6:=by obtain ⟨l,rfl,r6,_⟩:=h; exact r6
theorem F6.c6 (h:F6 R C x):C≤6:=by obtain ⟨l,rfl,_,c6,_⟩:=h; exact c6
theorem F6.len (h:F6 R C x):x.2.2.1.length≤36:=by
 obtain ⟨l,rfl,r6,c6,hl,_⟩:=h
 have:=A10 r6 c6
 show l.length≤36
 omega
theorem F6.chk (h:F6 R C x) (f:FM x):Jh x=0:=Aai h.right f
theorem F6.fin (h:Jh x=0):FM x:=(Gt h).2
theorem F6.Ox (h:F6 R C x):F6 C R (Gg x):=by
 have hr:=h.right
 obtain ⟨l,rfl,r6,c6,hl,al⟩:=h
 refine ⟨_,by unfold Gg Ap; rw [A1r hr],c6,r6,by rw [Ca,A06,A06],Ia fun _ _=>Fx al⟩
theorem FM.Ox (h:F6 R C x) (f:FM x):FM (Gg x):=by
 unfold Gg Ap
 rw [A1r h.right]
 exact .of (Ag7 fun _ _=>Aqr (show Dj _=true from f))
theorem Js {i k a b:Nat} (ha:i+a≤R) (hb:k+b≤C):E7 (R:Int) (C:Int) (i:Int) (k:Int) (a:Int) (b:Int)=true:=A05 (by omega)
theorem F6.part {i k a b:Nat} (h:F6 R C x) (ha:i+a≤R) (hb:k+b≤C):F6 a b (Jz x i k a b):=by
 have hr:=h.right
 obtain ⟨l,rfl,r6,c6,hl,al⟩:=h
 refine ⟨_,by unfold Jz Az; dsimp only; rw [A1r hr,A1r (Js ha hb)],by omega,by omega,by rw [Ca,A06,A06],Ia fun _ _=>Fx al⟩
theorem FM.part {i k a b:Nat} (h:F6 R C x) (f:FM x) (ha:i+a≤R) (hb:k+b≤C):FM (Jz x i k a b):=by
 have hr:=h.right
 obtain ⟨l,rfl,r6,c6,hl,al⟩:=h
 unfold Jz Az
 dsimp only
 rw [A1r hr,A1r (Js ha hb)]
 exact .of (Ag7 fun _ _=>Aqr (show Dj _=true from f))
theorem F6.mul (h:F6 R K x) (g:F6 K C y):F6 R C (mulM x y):=by
 have hr:=h.right
 have hg:=g.right
 obtain ⟨l,rfl,r6,c6,hl,al⟩:=h
 obtain ⟨m,rfl,p6,q6,hm,am⟩:=g
 refine ⟨_,by unfold mulM Fo; rw [hr,hg,A1a,A1r rfl,A1r rfl],r6,q6,by rw [Ca,A06,A06],Ia fun _ _=>Vu _ _⟩
theorem F6.sub (h:F6 R C x) (g:F6 R C y):F6 R C (Avd x y):=by
 have hr:=h.right
 have hg:=g.right
 obtain ⟨l,rfl,r6,c6,hl,al⟩:=h
 obtain ⟨m,rfl,p6,q6,hm,am⟩:=g
 refine ⟨_,by unfold Avd Ok; rw [hr,hg,A1a,A1r rfl,A1r ⟨rfl,rfl⟩],r6,c6,by rw [Ca,A06,A06],Ia fun _ _=>K5 (Fx al) (Fx am)⟩
theorem Nd (h:F6 R C x) (y:MX):C4 x y=mulM (Gg x) y:=by
 have e:=h.Ox.err
 unfold Gg at e
 unfold C4 E8
 rw [A1q (fun k=>k e)]
 rfl
theorem F6.lo (h:F6 R R x) (g:F6 R C y) (e:(V2 x y).2.2.2=0):F6 R C (V2 x y)∧FM (V2 x y):=by
 obtain ⟨l,rfl,r6,c6,hl,al⟩:=h
 obtain ⟨m,rfl,p6,q6,hm,am⟩:=g
 obtain ⟨P,Q,Y,e1,e2,a6,b6,e3,e4,e5,e6⟩:=Agj e
 dsimp only at e1 e2
 obtain rfl:P=R:=by omega
 obtain rfl:Q=C:=by omega
 have e7:V2 ((P:Int),(P:Int),l,0) ((P:Int),(Q:Int),m,0)=((P:Int),(Q:Int),Y,0):=e3
 rw [e7]
 exact ⟨.mk a6 b6 e4 e6,e5⟩
theorem F6.up (h:F6 R R x) (g:F6 R C y) (e:(upM x y).2.2.2=0):F6 R C (upM x y)∧FM (upM x y):=by
 obtain ⟨l,rfl,r6,c6,hl,al⟩:=h
 obtain ⟨m,rfl,p6,q6,hm,am⟩:=g
 obtain ⟨P,Q,Y,e1,e2,a6,b6,e3,e4,e5,e6⟩:=Ae2 e
 dsimp only at e1 e2
 obtain rfl:P=R:=by omega
 obtain rfl:Q=C:=by omega
 have e7:upM ((P:Int),(P:Int),l,0) ((P:Int),(Q:Int),m,0)=((P:Int),(Q:Int),Y,0):=e3
 rw [e7]
 exact ⟨.mk a6 b6 e4 e6,e5⟩
theorem F6.fac (h:F6 R C x) (e:Gs x.1 x.2.1 x.2.2.1=0):F6 R R (qX x.1 x.2.1 x.2.2.1)∧F6 R C (rX x.1 x.2.1 x.2.2.1)∧FM (qX x.1 x.2.1 x.2.2.1)∧FM (rX x.1 x.2.1 x.2.2.1):=by
 obtain ⟨l,rfl,r6,c6,hl,al⟩:=h
 obtain ⟨q1,g1⟩:=Uy e
 obtain ⟨A,B,eA,eB,_,_,_,aq,hq,ar,hr,fq,fr⟩:=Ahb al e
 dsimp only at eA eB
 obtain rfl:A=R:=by omega
 obtain rfl:B=C:=by omega
 dsimp only at q1 g1 ⊢
 rw [q1,g1]
 rw [A06,A06]
 exact ⟨.mk r6 r6 hq aq,.mk r6 c6 hr ar,fq,fr⟩
theorem Ai0 (h:F6 R C x):Qp x.1 x.2.1 x.2.2.1=Gs (Gg x).1 (Gg x).2.1 (Gg x).2.2.1:=by
 have e:=h.Ox.err
 unfold Gg at e
 unfold Qp
 rw [A1q (fun k=>k e)]
 rfl
theorem F6.lq (h:F6 R C x) (e:Qp x.1 x.2.1 x.2.2.1=0):F6 R C (Nm x.1 x.2.1 x.2.2.1)∧F6 C C (P8 x.1 x.2.1 x.2.2.1)∧FM (Nm x.1 x.2.1 x.2.2.1)∧FM (P8 x.1 x.2.1 x.2.2.1):=by
 have e2:=e
 rw [Ai0 h] at e2
 obtain ⟨h1,h2,h3,h4⟩:=h.Ox.fac e2
 unfold Nm P8
 rw [A1q (fun k=>k e),A1q (fun k=>k e)]
 exact ⟨h2.Ox,h1.Ox,.Ox h2 h4,.Ox h1 h3⟩
end
end Go.Proofs.S1
end
