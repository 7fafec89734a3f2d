/- A verified evaluator of the program's form and its use for this seat: S1PMatA, S1EqRef10, S1PRef10, S1PFill, S1EqRefA, S1PRefA, S1PRefAa, S1EqRefB, S1PRefB, S1PRefBa, S1EqRefC, S1PRefC, S1PRefCa, S1EqRefE, S1PRefV, S1EqCmp, S1PCmp. -/
import Derived.Test.YthajngaadbanfaaGreatTI
import Derived.Test.YthajngaadbanfaaGreatTE
import Derived.Test.YthajngaadbanfaaGreatTF
set_option linter.unusedVariables false
set_option linter.unusedSimpArgs false
noncomputable section
open Int (toNat)
open List (length getD)
open Go.Proofs.Tryz
namespace Go.Proofs.S1
open Go Go.Den Go.Rnd Go.Proofs
open EqOf
def R3 (x:MX):DV:=.tup [.agg [.int .i64 x.1,.int .i64 x.2.1,.ints .fresh .u64 x.2.2.1],.int .i64 x.2.2.2]
def Asd (e:Int):DV:=.tup [.agg [.int .i64 0,.int .i64 0,.nil],.int .i64 e]
theorem Ol {drops:List Nat} {x:MX}:Wk drops (R3 x) (R3 x) :=
 Wk.Hs (.cons (Wk.Hc (.cons .int (.cons .int (.cons .O4 .nil)))) (.cons .int .nil))
theorem Iy {drops:List Nat} {e:Int}:Wk drops (Asd e) (R3 (M9 e)) :=
 Wk.Hs (.cons (Wk.Hc (.cons .int (.cons .int (.cons (.nil _ _) .nil)))) (.cons .int .nil))
theorem Aa.A9.known:Aa.A9.Kn:=Aa.A9.Ad (.cons Aa.of.A9.known (.cons Aa.size.known .nil)) fun a b _=>by
 show ∃ N dv drops,_=some dv∧Wk drops dv (R3 (Dr a b))
 unfold Dr
 by_cases h:(Bp a&&Bp b)=true
 ·obtain ⟨h1,h2⟩:=Ac.1 h
  rw [A5d h]
  exact ⟨0,_,[],by rw [Aa.A9.ev,h1,h2]; rfl,Ol⟩
 ·have e:((!(Bp a))||(!(Bp b)))=true:=by
   cases h1:Bp a<;>cases h2:Bp b<;>simp_all
  rw [A5c h]
  exact ⟨0,_,[],by rw [Aa.A9.ev,e]; rfl,Iy⟩
theorem Aa.Ff.known:Aa.Ff.Kn:=Aa.Ff.Ad (.cons Aa.of.Ff.known (.cons Aa.size.known .nil)) fun n _=>by
 show ∃ N dv drops,_=some dv∧Wk drops dv (R3 (Pf n))
 unfold Pf
 by_cases h:Bp n=true
 ·rw [A5d h]
  exact ⟨0,_,[],by rw [Aa.Ff.ev,h]; rfl,Ol⟩
 ·have e:Bp n=false:=by simpa using h
  rw [A5c h]
  exact ⟨0,_,[],by rw [Aa.Ff.ev,e]; rfl,Iy⟩
theorem Jv {r c:Int} {l:List Int} (h:A3 r c l=true):Bp r=true∧Bp c=true:=by
 obtain ⟨h1,h2,_⟩:=G2.1 h
 exact ⟨Jd.2 h1,Jd.2 h2⟩
theorem Aa.Cv.known:Aa.Cv.Kn:=Aa.Cv.Ad (.cons Aa.Check.known (.cons Aa.of.Cv.known .nil)) fun r c l _=>by
 show ∃ N dv drops,_=some dv∧Wk drops dv (R3 (Ds r c l))
 unfold Ds
 by_cases h:A3 r c l=true
 ·obtain ⟨h1,h2⟩:=Jv h
  rw [A5d h]
  exact ⟨0,_,[],by rw [Aa.Cv.ev,Va,h,h1,h2,A4r ⟨rfl,rfl⟩]; rfl,Ol⟩
 ·have e:A3 r c l=false:=by simpa using h
  have ec:Lt r c l=1:=by unfold Lt; rw [e]; rfl
  rw [A5c h]
  exact ⟨0,_,[],by rw [Aa.Cv.ev,Va,e,ec]; rfl,Iy⟩
theorem Ada {r c x y a b:Int} (hr:0≤r∧r≤6) (hc:0≤c∧c≤6) :
 ((((((((Bi x (0:Int))||(Bi y (0:Int)))||(Bi a (0:Int)))||(Bi b (0:Int)))||(Bi r x))||(Bi c y))||(Bi (Ab (r-x)) a))||(Bi (Ab (c-y)) b))=!(Rx r c x y a b):=by
 unfold Rx
 simp only [Av]
 by_cases h:0≤x∧0≤y∧x≤r∧y≤c
 ·rw [An (x:=r-x) (by omega) (by omega),An (x:=c-y) (by omega) (by omega),A46]
  simp only [Bool.or_eq_true,A4x,Bool.not_eq_true',A49]
  omega
 ·have e:decide (0≤x∧0≤y∧0≤a∧0≤b∧x≤r∧y≤c∧a≤r-x∧b≤c-y)=false:=A4v (by omega)
  rw [e,A46]
  simp only [Bool.or_eq_true,A4x,A59,iff_true]
  omega
theorem Aj9 {r c x y a b:Int} {l:List Int} (h:A3 r c l=true) (hp:Rx r c x y a b=true):Bp a=true∧Bp b=true:=by
 obtain ⟨h1,h2,_⟩:=G2.1 h
 have:=A5g hp
 exact ⟨Jd.2 (by omega),Jd.2 (by omega)⟩
theorem Aa.Part.known:Aa.Part.Kn:=Aa.Part.Ad (.cons Aa.Check.known (.cons Aa.of.Part.known .nil)) fun r c l x y a b _=>by
 show ∃ N dv drops,_=some dv∧Wk drops dv (R3 (Kf r c l x y a b))
 unfold Kf
 by_cases h:A3 r c l=true
 ·obtain ⟨h1,h2,_⟩:=G2.1 h
  by_cases hp:Rx r c x y a b=true
  ·obtain ⟨s1,s2⟩:=Aj9 h hp
   rw [A5d h,A5d hp]
   exact ⟨0,_,[],by rw [Aa.Part.ev,Va,Ada h1 h2,h,hp,s1,s2]; rfl,Ol⟩
  ·have e:Rx r c x y a b=false:=by simpa using hp
   rw [A5d h,A5c hp]
   exact ⟨0,_,[],by rw [Aa.Part.ev,Va,Ada h1 h2,h,e]; rfl,Iy⟩
 ·have e:A3 r c l=false:=by simpa using h
  have ec:Lt r c l=1:=by unfold Lt; rw [e]; rfl
  rw [A5c h]
  exact ⟨0,_,[],by rw [Aa.Part.ev,Va,e,ec]; rfl,Iy⟩
theorem Py (r c:Int) (l:List Int) (p q:Int) (m:List Int):((Xb r c l p q m) !=(0:Int))=!(A3 r c l&&A3 p q m):=by
 unfold Xb
 cases A3 r c l&&A3 p q m<;>rfl
theorem Ajm {r c:Int} {l:List Int} {p q:Int} {m:List Int} (h:(A3 r c l&&A3 p q m)=false):Xb r c l p q m=1:=by
 unfold Xb; rw [h]; rfl
theorem Aa.Mul.known:Aa.Mul.Kn:=Aa.Mul.Ad (.cons Aa.of.Mul.known (.cons Aa.two.known .nil)) fun r c l p q m hp=>by
 show ∃ N dv drops,_=some dv∧Wk drops dv (R3 (Xv r c l p q m))
 unfold Xv
 have hp:(Aj l&&Aj m)=true:=hp
 by_cases h:(A3 r c l&&A3 p q m)=true
 ·obtain ⟨h1,h2⟩:=Ac.1 h
  by_cases hc:c=p
  ·have e:(c !=p)=false:=by rw [hc]; simp
   rw [A5d h,A5d hc]
   exact ⟨0,_,[],by rw [Aa.Mul.ev,Py,h,e,(Jv h1).1,(Jv h2).2,hp,A4r ⟨rfl,rfl,hc⟩]; rfl,Ol⟩
  ·have e:(c !=p)=true:=by simpa using hc
   rw [A5d h,A5c hc]
   exact ⟨0,_,[],by rw [Aa.Mul.ev,Py,h,e]; rfl,Iy⟩
 ·have e:(A3 r c l&&A3 p q m)=false:=by simpa using h
  rw [A5c h]
  exact ⟨0,_,[],by rw [Aa.Mul.ev,Py,e,Ajm e]; rfl,Iy⟩
theorem Aa.Stack.known:Aa.Stack.Kn:=Aa.Stack.Ad (.cons Aa.of.Stack.known (.cons Aa.two.known .nil)) fun r c l p q m _=>by
 show ∃ N dv drops,_=some dv∧Wk drops dv (R3 (E0 r c l p q m))
 unfold E0
 by_cases h:(A3 r c l&&A3 p q m)=true
 ·obtain ⟨h1,h2⟩:=Ac.1 h
  obtain ⟨r1,c1,_⟩:=G2.1 h1
  obtain ⟨p1,q1,_⟩:=G2.1 h2
  have ew:Ab (r+p)=r+p:=An (by omega) (by omega)
  by_cases hc:c=q∧r+p≤6
  ·have e:((c !=q)||(Bi (6:Int) (r+p)))=false:=by rw [Av,hc.1]; simp; omega
   rw [A5d h,A5d hc]
   exact ⟨0,_,[],by rw [Aa.Stack.ev,ew,Py,h,e,(Jv h1).2,Jd.2 (show 0≤r+p∧r+p≤6 by omega),A4r ⟨rfl,rfl,hc.1.symm⟩]; rfl,Ol⟩
  ·have e:((c !=q)||(Bi (6:Int) (r+p)))=true:=by rw [Av]; simp; omega
   rw [A5d h,A5c hc]
   exact ⟨0,_,[],by rw [Aa.Stack.ev,ew,Py,h,e]; rfl,Iy⟩
 ·have e:(A3 r c l&&A3 p q m)=false:=by simpa using h
  rw [A5c h]
  exact ⟨0,_,[],by rw [Aa.Stack.ev,Py,e,Ajm e]; rfl,Iy⟩
set_option maxRecDepth 100000
namespace EqRef10
def Am.Ip.Ba:List (Nat × Entry):=[]
def Am.Ip.E:Env:=Bg (Bb Am.Ip.Ba) (fun _=>false) (fun _=>none) (fun _=>none)
theorem Am.Ip.ev (N:Nat) (r c:Int) (l:List Int):B0 Am.Ip.E N f90 (Ak f90) [.agg [.int .i64 r,.int .i64 c,.ints .arg .u64 l]]=some (.bool (bif (bif (bif (bif (Ex 0 r) then (Ex r 6) else false) then (Ex 0 c) else false) then (Ex c 6) else false) then ((length l:Int)==(Ab (r*c))) else false)) :=
 Eq.trans (by kernel_rfl)
 (Ay (R5 (Ex 0 r)) (Ay (Oo (Ex 0 r)) (Ay (Oo (Ex 0 r)) (Ay (W8 (Ex 0 r)) (Ay (Aqw (Ex 0 r) (Ex r 6)) (Ay (Ajn (Ex 0 r) (Ex r 6)) (Ay (Ajn (Ex 0 r) (Ex r 6)) (Ay (Au7 (Ex 0 r) (Ex r 6)) (Ay (A3f (Ex 0 r) (Ex r 6) (Ex 0 c)) (Ay (A06 (Ex 0 r) (Ex r 6) (Ex 0 c)) (Ay (A06 (Ex 0 r) (Ex r 6) (Ex 0 c)) (Ay (A3g (Ex 0 r) (Ex r 6) (Ex 0 c)) (Ay (Ayj (Ex 0 r) (Ex r 6) (Ex 0 c) (Ex c 6)) (Ay (Au8 (Ex 0 r) (Ex r 6) (Ex 0 c) (Ex c 6)) (Ay (Au8 (Ex 0 r) (Ex r 6) (Ex 0 c) (Ex c 6)) (Ay (Ayj (Ex 0 r) (Ex r 6) (Ex 0 c) (Ex c 6)) (Ay (Au8 (Ex 0 r) (Ex r 6) (Ex 0 c) (Ex c 6)) (Ay (Ayj (Ex 0 r) (Ex r 6) (Ex 0 c) (Ex c 6)) (Ay (Au8 (Ex 0 r) (Ex r 6) (Ex 0 c) (Ex c 6)) (Ay (A07 (Ex 0 r) (Ex r 6) (Ex 0 c) (Ex c 6)) (Ay (A07 (Ex 0 r) (Ex r 6) (Ex 0 c) (Ex c 6)) (Ay (A3h (Ex 0 r) (Ex r 6) (Ex 0 c) (Ex c 6)) rfl))))))))))))))))))))))
abbrev _root_.Go.Proofs.S1.Am.Ip.Kn:=A8 prog 90 Am.Ip.spec
theorem Am.Ip.Ad (hk:A1 prog Am.Ip.Ba) (h:Hyp Am.Ip.E f90 Am.Ip.ts Am.Ip.pre Am.Ip.out):Am.Ip.Kn :=
 Al (A4 hk _ _ _) func90 (by kernel_rfl) (by kernel_rfl) h
def Am.At.Ba:List (Nat × Entry):=[]
def Am.At.E:Env:=Bg (Bb Am.At.Ba) (fun _=>false) (fun _=>none) (fun _=>none)
theorem Am.At.ev (N:Nat) (r c:Int) (l:List Int) (i k:Int):B0 Am.At.E N f55 (Ak f55) [.agg [.int .i64 r,.int .i64 c,.ints .arg .u64 l],.int .i64 i,.int .i64 k]=bif ((decide (0≤(Ab ((Ab (i*c))+k))))&&(decide ((Ab ((Ab (i*c))+k))<(length l:Int)))) then some (.int .u64 (getD l (toNat (Ab ((Ab (i*c))+k))) 0)) else none:=by kernel_rfl
abbrev _root_.Go.Proofs.S1.Am.At.Kn:=A8 prog 55 Am.At.spec
theorem Am.At.Ad (hk:A1 prog Am.At.Ba) (h:Hyp Am.At.E f55 Am.At.ts Am.At.pre Am.At.out):Am.At.Kn :=
 Al (A4 hk _ _ _) func55 (by kernel_rfl) (by kernel_rfl) h
def Am.A9.Ba:List (Nat × Entry):=[]
def Am.A9.E:Env:=Bg (Bb Am.A9.Ba) (fun _=>false) (fun _=>none) (fun _=>none)
theorem Am.A9.ev (N:Nat) (a b:Int):B0 Am.A9.E N f53 (Ak f53) [.int .i64 a,.int .i64 b]=bif (((decide ((0:Int)≤(Ab (a*b))))&&(decide ((Ab (a*b))≤(Ab (a*b)))))&&(decide ((Ab (a*b))≤G8))) then some (.agg [.int .i64 a,.int .i64 b,.ints (.own 10 43) .u64 (List.replicate (toNat (Ab (a*b))) 0)]) else none:=by kernel_rfl
abbrev _root_.Go.Proofs.S1.Am.A9.Kn:=A8 prog 53 Am.A9.spec
theorem Am.A9.Ad (hk:A1 prog Am.A9.Ba) (h:Hyp Am.A9.E f53 Am.A9.ts Am.A9.pre Am.A9.out):Am.A9.Kn :=
 Al (A4 hk _ _ _) func53 (by kernel_rfl) (by kernel_rfl) h
def Am.Hj.Ba:List (Nat × Entry):=[]
def Am.Hj.E:Env:=Bg (Bb Am.Hj.Ba) (fun _=>false) (fun _=>none) (fun _=>none)
theorem Am.Hj.ev (N:Nat) (r c:Int) (l:List Int) (i k b:Int):B0 Am.Hj.E N f54 (Ak f54) [.agg [.int .i64 r,.int .i64 c,.ints .arg .u64 l],.int .i64 i,.int .i64 k,.int .u64 b]=bif (decide (0+(length l)≤G8)) then bif ((decide (0≤(Ab ((Ab (i*c))+k))))&&(decide ((Ab ((Ab (i*c))+k))<(length ([]++l):Int)))) then bif (decide ((toNat (Ab ((Ab (i*c))+k)))<(length ([]++l)))) then some (.agg [.int .i64 r,.int .i64 c,.ints (.own 13 43) .u64 (List.set ([]++l) (toNat (Ab ((Ab (i*c))+k))) b)]) else none else none else none:=by kernel_rfl
abbrev _root_.Go.Proofs.S1.Am.Hj.Kn:=A8 prog 54 Am.Hj.spec
theorem Am.Hj.Ad (hk:A1 prog Am.Hj.Ba) (h:Hyp Am.Hj.E f54 Am.Hj.ts Am.Hj.pre Am.Hj.out):Am.Hj.Kn :=
 Al (A4 hk _ _ _) func54 (by kernel_rfl) (by kernel_rfl) h
def Am.Ff.hint:Nat→Option Bc
 | 0=>some { keep:=[0,2,3,4],objs:=[],boxes:=[2,3] }
 | _=>none
def Am.Ff.Ba:List (Nat × Entry):=[(54,Am.Hj.spec),(53,Am.A9.spec)]
def Am.Ff.E:Env:=Bg (Bb Am.Ff.Ba) (fun _=>false) Am.Ff.hint (fun _=>none)
section
variable (N M:Nat) (n p4:Int) (p3:List Int)
def Am.Ff.L0:Option DV:=Cb Am.Ff.E N f95 (Ak f95) [1,1,0,1,0] [] M ⟨Fo 18 [(0,.int .i64 n),(2,.ptr 2 0 0),(3,.ptr 3 0 0),(4,.int .i64 p4)],[(2,false,.box [.int .i64 0,.int .i64 0,.nil]),(3,false,.box [.int .i64 n,.int .i64 n,.ints .fresh .u64 p3])]⟩
theorem Am.Ff.Au:Am.Ff.L0 N (M+1) n p4 p3=bif (Bi p4 n) then bif (Em n n p3 p4 p4) then Am.Ff.L0 N M n (Ab (p4+1)) (List.set p3 (toNat (p4*n+p4)) 4607182418800017408) else none else some (.agg [.int .i64 n,.int .i64 n,.ints .fresh .u64 p3]):=by kernel_rfl
theorem Am.Ff.ev:B0 Am.Ff.E N f95 (Ak f95) [.int .i64 n]=bif (Bp n&&Bp n) then Am.Ff.L0 N N n 0 (B8 (toNat n) (toNat n) (fun _ _=>0)) else none:=by kernel_rfl
end
abbrev _root_.Go.Proofs.S1.Am.Ff.Kn:=A8 prog 95 Am.Ff.spec
theorem Am.Ff.Ad (hk:A1 prog Am.Ff.Ba) (h:Hyp Am.Ff.E f95 Am.Ff.ts Am.Ff.pre Am.Ff.out):Am.Ff.Kn :=
 Al (A4 hk _ _ _) func95 (by kernel_rfl) (by kernel_rfl) h
def Am.Fg.Ba:List (Nat × Entry):=[(30,Ah.Fg.spec)]
def Am.Fg.E:Env:=Bg (Bb Am.Fg.Ba) (fun _=>false) (fun _=>none) (fun _=>none)
theorem Am.Fg.ev (N:Nat) (r c:Int) (l:List Int) (p q:Int) (m:List Int):B0 Am.Fg.E N f26 (Ak f26) [.agg [.int .i64 r,.int .i64 c,.ints .arg .u64 l],.agg [.int .i64 p,.int .i64 q,.ints .arg .u64 m]]=bif ((!((r==p)&&(c==q)))||(Aao l)) then some (.bool (bif (bif (r==p) then (c==q) else false) then (Vw l m) else false)) else none :=
 Eq.trans (by kernel_rfl)
 (Ay (R5 (r==p)) (Ay (Oo (r==p)) (Ay (R5 (r==p)) (Ay (Oo (r==p)) (Ay (Ani (r==p)) (Ay (W8 (r==p)) (Ay (Aqw (r==p) (c==q)) (Ay (Ajn (r==p) (c==q)) (Ay (Aqw (r==p) (c==q)) (Ay (Ajn (r==p) (c==q)) (Cw (A3e _ _ _) (Ay (Au7 (r==p) (c==q)) rfl) rfl)))))))))))
abbrev _root_.Go.Proofs.S1.Am.Fg.Kn:=A8 prog 26 Am.Fg.spec
theorem Am.Fg.Ad (hk:A1 prog Am.Fg.Ba) (h:Hyp Am.Fg.E f26 Am.Fg.ts Am.Fg.pre Am.Fg.out):Am.Fg.Kn :=
 Al (A4 hk _ _ _) func26 (by kernel_rfl) (by kernel_rfl) h
def Am.Ru.hint:Nat→Option Bc
 | 0=>some { keep:=[1,3,7,8],objs:=[(0,7,100007,.ints 43 .u64 [])],boxes:=[3] }
 | _=>none
def Am.Ru.Ba:List (Nat × Entry):=[(55,Am.At.spec)]
def Am.Ru.E:Env:=Bg (Bb Am.Ru.Ba) (fun _=>false) Am.Ru.hint (fun _=>none)
section
variable (N M:Nat) (r c:Int) (l:List Int) (k f p8:Int) (p7:List Int)
def Am.Ru.L0:Option DV:=Cb Am.Ru.E N f22 (Ak f22) [1,1,0,1,0] [] M ⟨Fo 25 [(1,.int .i64 k),(3,.ptr 3 0 0),(7,.oref 100007),(8,.int .i64 p8)],[(3,false,.box [.int .i64 r,.int .i64 c,.ints .arg .u64 l]),(100007,false,.ints 43 .u64 p7)]⟩
theorem Am.Ru.Au:Am.Ru.L0 N (M+1) r c l k p8 p7=bif (Bi p8 r) then bif (Em r c l p8 k) then bif (decide ((length p7)+1≤G8)) then Am.Ru.L0 N M r c l k (Ab (p8+1)) (p7++[(D8 c l p8 k)]) else none else none else some (.ints (.own 100007 43) .u64 p7):=by kernel_rfl
theorem Am.Ru.ev:B0 Am.Ru.E N f22 (Ak f22) [.agg [.int .i64 r,.int .i64 c,.ints .arg .u64 l],.int .i64 k,.int .i64 f] =
 Am.Ru.L0 N N r c l k f []:=by kernel_rfl
end
abbrev _root_.Go.Proofs.S1.Am.Ru.Kn:=A8 prog 22 Am.Ru.spec
theorem Am.Ru.Ad (hk:A1 prog Am.Ru.Ba) (h:Hyp Am.Ru.E f22 Am.Ru.ts Am.Ru.pre Am.Ru.out):Am.Ru.Kn :=
 Al (A4 hk _ _ _) func22 (by kernel_rfl) (by kernel_rfl) h
def Am.Mul.hint:Nat→Option Bc
 | 0=>some { keep:=[2,3,4,5,6],objs:=[],boxes:=[2,3,4,5] }
 | 2=>some { keep:=[2,3,4,5,6,7],objs:=[],boxes:=[2,3,4,5] }
 | _=>none
def Am.Cv.hint:Nat→Option Bc
 | 0=>some { keep:=[1,2,3,4],objs:=[],boxes:=[1,2,3] }
 | 2=>some { keep:=[1,2,3,4,5],objs:=[],boxes:=[1,2,3] }
 | _=>none
def Am.Cv.Ba:List (Nat × Entry):=[(55,Am.At.spec),(54,Am.Hj.spec),(53,Am.A9.spec)]
def Am.Cv.E:Env:=Bg (Bb Am.Cv.Ba) (fun _=>false) Am.Cv.hint (fun _=>none)
section
variable (N M0 M:Nat) (r c:Int) (l:List Int) (p5:Int) (p3:List Int) (p4_1 p4:Int) (p3_1:List Int)
def Am.Cv.L0:Option DV:=Cb Am.Cv.E N f14 (Ak f14) [1,1,0,1,0] [] M ⟨Fo 32 [(1,.ptr 1 0 0),(2,.ptr 2 0 0),(3,.ptr 3 0 0),(4,.int .i64 p4)],[(1,false,.box [.int .i64 r,.int .i64 c,.ints .arg .u64 l]),(2,false,.box [.int .i64 0,.int .i64 0,.nil]),(3,false,.box [.int .i64 c,.int .i64 r,.ints .fresh .u64 p3_1])]⟩
def Am.Cv.L1:Option DV:=Cb Am.Cv.E N f14 (Ak f14) [1,1,0,1,0,0,1,0,0,1,0] [M0] M ⟨Fo 32 [(1,.ptr 1 0 0),(2,.ptr 2 0 0),(3,.ptr 3 0 0),(4,.int .i64 p4_1),(5,.int .i64 p5)],[(1,false,.box [.int .i64 r,.int .i64 c,.ints .arg .u64 l]),(2,false,.box [.int .i64 0,.int .i64 0,.nil]),(3,false,.box [.int .i64 c,.int .i64 r,.ints .fresh .u64 p3])]⟩
theorem Am.Cv.Au:Am.Cv.L0 N (M+1) r c l p4 p3_1=bif (Bi p4 r) then Am.Cv.L1 N M N r c l 0 p3_1 p4 else some (.agg [.int .i64 c,.int .i64 r,.ints .fresh .u64 p3_1]):=by kernel_rfl
theorem Am.Cv.Ch:Am.Cv.L1 N M0 (M+1) r c l p5 p3 p4_1=bif (Bi p5 c) then bif (Em r c l p4_1 p5) then bif (Em c r p3 p5 p4_1) then Am.Cv.L1 N M0 M r c l (Ab (p5+1)) (List.set p3 (toNat (p5*r+p4_1)) (D8 c l p4_1 p5)) p4_1 else none else none else Am.Cv.L0 N M0 r c l (Ab (p4_1+1)) p3 :=
 Eq.trans (by kernel_rfl)
 (E1 (Cw (Ct _) (Cw (Ct _) rfl rfl) rfl) rfl)
theorem Am.Cv.ev:B0 Am.Cv.E N f14 (Ak f14) [.agg [.int .i64 r,.int .i64 c,.ints .arg .u64 l]]=bif (Bp c&&Bp r) then Am.Cv.L0 N N r c l 0 (B8 (toNat c) (toNat r) (fun _ _=>0)) else none:=by kernel_rfl
end
abbrev _root_.Go.Proofs.S1.Am.Cv.Kn:=A8 prog 14 Am.Cv.spec
theorem Am.Cv.Ad (hk:A1 prog Am.Cv.Ba) (h:Hyp Am.Cv.E f14 Am.Cv.ts Am.Cv.pre Am.Cv.out):Am.Cv.Kn :=
 Al (A4 hk _ _ _) func14 (by kernel_rfl) (by kernel_rfl) h
abbrev _root_.Go.Proofs.S1.Am.Hj.arg.Kn:Prop:=A8 prog 54 Am.Hj.arg.spec
abbrev _root_.Go.Proofs.S1.Am.A9.arg.Kn:Prop:=A8 prog 53 Am.A9.arg.spec
abbrev _root_.Go.Proofs.S1.Am.Ff.arg.Kn:Prop:=A8 prog 95 Am.Ff.arg.spec
end EqRef10
open EqRef10
theorem Am.Ip.known:Am.Ip.Kn:=Am.Ip.Ad .nil fun r c l _=>by
 refine ⟨0,Am.Ip.out [.i r,.i c,.l l],[],?_,.bool⟩
 have e:(bif (bif (bif (bif (Ex (0:Int) r) then (Ex r (6:Int)) else false) then (Ex (0:Int) c) else false) then (Ex c (6:Int)) else false) then ((length l:Int)==(Ab (r*c))) else false)=A3 r c l:=by
  have:=Aix r c l
  have h:(bif (bif (bif (bif (Ex (0:Int) r) then (Ex r (6:Int)) else false) then (Ex (0:Int) c) else false) then (Ex c (6:Int)) else false) then ((length l:Int)==(Ab (r*c))) else false)=!(((!(Bp r))||(!(Bp c)))||((length l:Int) !=(Ab (r*c)))):=by
   unfold Bp bne
   rw [Fb,Fb,Fb,Fb]
   cases decide (0≤r)<;>cases decide (r≤6)<;>cases decide (0≤c)<;>cases decide (c≤6)<;>cases ((length l:Int)==(Ab (r*c)))<;>rfl
  rw [h,this,Bool.not_not]
 rw [Am.Ip.ev,e]; rfl
theorem Am.At.known:Am.At.Kn:=Am.At.Ad .nil fun r c l i k hp=>by
 obtain ⟨e,h1,h2⟩:=Mr (R:=r) (show Em r c l i k=true from hp)
 refine ⟨0,Am.At.out [.i r,.i c,.l l,.i i,.i k],[],?_,.int⟩
 rw [Am.At.ev,e,A4r h1,A4r h2]
 rfl
theorem R7 {drops:List Nat} {i:Nat} {e:TypeId} {a b:Int} {l:List Int} (h:i∈drops):Wk drops (.agg [.int .i64 a,.int .i64 b,.ints (.own i e) .u64 l]) (.agg [.int .i64 a,.int .i64 b,.ints .fresh .u64 l]) :=
 Wk.Hc (.cons .int (.cons .int (.cons (.drop _ _ _ _ h) .nil)))
theorem Vi {drops:List Nat} {a b:Int} {l:List Int}:Wk drops (.agg [.int .i64 a,.int .i64 b,.ints .fresh .u64 l]) (.agg [.int .i64 a,.int .i64 b,.ints .fresh .u64 l]) :=
 Wk.Hc (.cons .int (.cons .int (.cons .O4 .nil)))
theorem Am.A9.known:Am.A9.Kn:=Am.A9.Ad .nil fun a b hp=>by
 obtain ⟨ha,hb⟩:=Ac.1 (show (Bp a&&Bp b)=true from hp)
 obtain ⟨A,rfl,hA⟩:=Fj ha
 obtain ⟨B,rfl,hB⟩:=Fj hb
 have hm:=L7 (a:=(A:Int)) (b:=(B:Int)) (by omega) (by omega) (by omega) (by omega)
 have e:((A:Int)*(B:Int)).toNat=A*B:=by rw [← A5b,A4s]
 refine ⟨0,.agg [.int .i64 (A:Int),.int .i64 (B:Int),.ints (.own 10 tB) .u64 (B8 A B fun _ _=>0)],[10],?_,R7 (List.mem_singleton.2 rfl)⟩
 rw [Am.A9.ev,An (by omega) (by omega),A4r hm.1,A4r (Int.le_refl _),A4r (show (A:Int)*(B:Int)≤(G8:Int) by unfold G8; omega),e,Abf]
 rfl
theorem Am.Hj.known:Am.Hj.Kn:=Am.Hj.Ad .nil fun r c l i k b hp=>by
 obtain ⟨_,_,_,_,_,_,_,h8⟩:=Aq.1 (show Em r c l i k=true from hp)
 obtain ⟨e,g1,g2⟩:=Mr (R:=r) (show Em r c l i k=true from hp)
 refine ⟨0,.agg [.int .i64 r,.int .i64 c,.ints (.own 13 tB) .u64 (List.set l (i*c+k).toNat b)],[13],?_,R7 (List.mem_singleton.2 rfl)⟩
 rw [Am.Hj.ev,e,List.nil_append,A4r (show 0+l.length≤G8 by unfold G8; omega),A4r g1,A4r g2,A4r (show (i*c+k).toNat<l.length by omega)]
 rfl
theorem Aiu {r c i k:Nat} (hk:k<c) {d d':Nat→Nat→Bool} {f:Nat→Nat→Int} {x:Int} (hx:x=f i k)
 (h:∀ a b,a<r→b<c→(d' a b=true↔d a b=true∨(a=i∧b=k))) :
 List.set (B8 r c fun a b=>if d a b=true then f a b else 0) (toNat ((i:Int)*(c:Int)+(k:Int))) x=B8 r c fun a b=>if d' a b=true then f a b else 0:=by
 have e:((i:Int)*(c:Int)+(k:Int)).toNat=i*c+k:=by rw [← A5b,← Int.natCast_add,A4s]
 rw [e,Qt hk]
 refine D6 fun a b ha hb=>?_
 have h:=h a b ha hb
 by_cases hab:a=i∧b=k
 ·rw [A5d hab,A5d (h.2 (.inr hab)),hx,hab.1,hab.2]
 ·rw [A5c hab]
  by_cases hd:d a b=true
  ·rw [A5d hd,A5d (h.2 (.inl hd))]
  ·rw [A5c hd,A5c (fun k=>(h.1 k).elim hd hab)]
theorem An1 (r c:Int) (l:List Int) (p q:Int) (m:List Int):(bif (bif (r==p) then (c==q) else false) then (Vw l m) else false)=Yl r c l p q m:=by
 unfold Yl Vw
 have e1:(r==p)=decide (r=p):=by rw [A46]; simp
 have e2:(c==q)=decide (c=q):=by rw [A46]; simp
 rw [e1,e2]
 cases decide (r=p)<;>cases decide (c=q)<;>cases decide (l=m)<;>rfl
theorem Am.Fg.known:Am.Fg.Kn:=Am.Fg.Ad (.cons Ah.Fg.known .nil) fun r c l p q m hp=>by
 have hp:Aao l=true:=hp
 refine ⟨0,Am.Fg.out [.i r,.i c,.l l,.i p,.i q,.l m],[],?_,.bool⟩
 rw [Am.Fg.ev,hp,A52,A4q,An1]
 rfl
theorem Ae5 (N:Nat) {R C K f:Nat} {l:List Int} (r6:R≤6) (c6:C≤6) (hl:l.length=R*C) (hk:K<C):∀ (k i F:Nat),f+i+k=R→k<F →
 Am.Ru.L0 N F (R:Int) (C:Int) l (K:Int) ((f+i:Nat):Int) (Cn (C:Int) l (K:Int) (f:Int) i)=some (.ints (.own 100007 tB) .u64 (Cn (C:Int) l (K:Int) (f:Int) (R-f))):=by
 intro k
 induction k with
 | zero =>
   intro i F hi hF
   obtain ⟨F,rfl⟩:∃ G,F=G+1:=⟨F-1,by omega⟩
   rw [Am.Ru.Au,Av,A4v (by omega),A4u,show R-f=i by omega]
 | succ k ih =>
   intro i F hi hF
   obtain ⟨F,rfl⟩:∃ G,F=G+1:=⟨F-1,by omega⟩
   have d:decide ((Cn (C:Int) l (K:Int) (f:Int) i).length+1≤G8)=true:=A4r (by rw [Ky]; unfold G8; omega)
   rw [Am.Ru.Au,Av,A4r (by omega),A4q,Fa r6 c6 hl (show f+i<R by omega) hk,A4q,d,A4q,An (by omega) (by omega)]
   have:=ih (i+1) F (by omega) (by omega)
   unfold Cn at this ⊢
   rw [List.range_succ,List.map_append] at this
   exact this
theorem Am.Ru.known:Am.Ru.Kn:=Am.Ru.Ad (.cons Am.At.known .nil) fun r c l k f hp=>by
 obtain ⟨h0,hf⟩:=Ac.1 (show (Hh r c l k&&B3 (0≤f∧f≤r))=true from hp)
 have hf:=Aq.1 hf
 obtain ⟨hr,hi⟩:=Ac.1 h0
 have hi:=Aq.1 hi
 obtain ⟨R,C,rfl,rfl,r6,c6,hl⟩:=Cu hr
 obtain ⟨K,rfl⟩:∃ j:Nat,k=j:=⟨k.toNat,by omega⟩
 obtain ⟨f,rfl⟩:∃ j:Nat,f=j:=⟨f.toNat,by omega⟩
 refine ⟨8,.ints (.own 100007 tB) .u64 (Cn (C:Int) l (K:Int) (f:Int) (R-f)),[100007],?_,?_⟩
 ·rw [Am.Ru.ev]
  exact Ae5 8 r6 c6 hl (by omega) (R-f) 0 8 (by omega) (by omega)
 ·show Wk _ _ (DV.ints .fresh .u64 (Cn (C:Int) l (K:Int) (f:Int) (toNat ((R:Int)-(f:Int)))))
  rw [show toNat ((R:Int)-(f:Int))=R-f by omega]
  exact .drop _ _ _ _ (List.mem_singleton.2 rfl)
open EqRef10
def dR (i k a b:Nat):Bool:=decide (a<i∨(a=i∧b<k))
def dC (i k a b:Nat):Bool:=decide (b<i∨(b=i∧a<k))
def fill (r c:Nat) (f:Nat→Nat→Int) (d:Nat→Nat→Bool):List Int:=B8 r c fun a b=>if d a b=true then f a b else 0
theorem Pr (r c:Nat) (f:Nat→Nat→Int) (d:Nat→Nat→Bool):(fill r c f d).length=r*c:=Cd _ _ _
theorem Wv {r c i k:Nat} (hk:k<c) {d d':Nat→Nat→Bool} {f:Nat→Nat→Int} {x:Int} (hx:x=f i k) (h:∀ a b,a<r→b<c→(d' a b=true↔d a b=true∨(a=i∧b=k))) :
 List.set (fill r c f d) (toNat ((i:Int)*(c:Int)+(k:Int))) x=fill r c f d':=Aiu hk hx h
theorem Abj {r c:Nat} {f:Nat→Nat→Int} {d d':Nat→Nat→Bool} (h:∀ a b,a<r→b<c→(d a b=true↔d' a b=true)):fill r c f d=fill r c f d':=by
 refine D6 fun a b ha hb=>?_
 have:=h a b ha hb
 by_cases hd:d a b=true
 ·rw [A5d hd,A5d (this.1 hd)]
 ·rw [A5c hd,A5c (fun k=>hd (this.2 k))]
theorem Abk {r c:Nat} {f:Nat→Nat→Int} {d:Nat→Nat→Bool} (h:∀ a b,a<r→b<c→d a b=true):fill r c f d=B8 r c f :=
 D6 fun a b ha hb=>by rw [A5d (h a b ha hb)]
theorem Tu {r c:Nat} {f:Nat→Nat→Int} {d:Nat→Nat→Bool} (h:∀ a b,a<r→b<c→¬ d a b=true):fill r c f d=B8 r c fun _ _=>0 :=
 D6 fun a b ha hb=>by rw [A5c (h a b ha hb)]
theorem Abl.inner (N:Nat) {R C:Nat} {l:List Int} (h6:R≤6∧C≤6) (hl:l.length=R*C) {F:Nat→Nat→Int} (hF:F=fun (i j:Nat)=>D8 (C:Int) l (j:Int) (i:Int)) {i:Nat} (hi:i<R):∀ (k j M0 M:Nat),j+k=C→k<M →
 Am.Cv.L1 N M0 M (R:Int) (C:Int) l (j:Int) (fill C R F (dC i j)) (i:Int)=Am.Cv.L0 N M0 (R:Int) (C:Int) l ((i+1:Nat):Int) (fill C R F (dC (i+1) 0)):=by
 intro k
 induction k with
 | zero =>
   intro j M0 M hj hM
   obtain ⟨M,rfl⟩:∃ G,M=G+1:=⟨M-1,by omega⟩
   have e:fill C R F (dC i j)=fill C R F (dC (i+1) 0):=Abj fun a b ha hb=>by simp only [dC,A4x]; omega
   rw [Am.Cv.Ch,Av,A4v (by omega),A4u,An (by omega) (by omega),e]
   rfl
 | succ k ih =>
   intro j M0 M hj hM
   obtain ⟨M,rfl⟩:∃ G,M=G+1:=⟨M-1,by omega⟩
   have c1:Em (R:Int) (C:Int) l (i:Int) (j:Int)=true:=Fa h6.1 h6.2 hl hi (by omega)
   have c9:Em (C:Int) (R:Int) (fill C R F (dC i j)) (j:Int) (i:Int)=true:=Fa (by omega) (by omega) (Pr _ _ _ _) (by omega) (by omega)
   rw [Am.Cv.Ch,Av,A4r (by omega),A4q,c1,A4q,c9,A4q,An (x:=(j:Int)+1) (by omega) (by omega),Wv (d':=dC i (j+1)) (by omega) (by rw [hF]) (fun a b ha hb=>by simp only [dC,A4x]; omega)]
   exact ih (j+1) M0 M (by omega) (by omega)
theorem Abl.outer (N:Nat) (hN:6<N) {R C:Nat} {l:List Int} (h6:R≤6∧C≤6) (hl:l.length=R*C) {F:Nat→Nat→Int} (hF:F=fun (i j:Nat)=>D8 (C:Int) l (j:Int) (i:Int)):∀ (k i M:Nat),i+k=R→k<M →
 Am.Cv.L0 N M (R:Int) (C:Int) l (i:Int) (fill C R F (dC i 0))=some (.agg [.int .i64 (C:Int),.int .i64 (R:Int),.ints .fresh .u64 (B8 C R F)]):=by
 intro k
 induction k with
 | zero =>
   intro i M hi hM
   obtain ⟨M,rfl⟩:∃ G,M=G+1:=⟨M-1,by omega⟩
   rw [Am.Cv.Au,Av,A4v (by omega),A4u,Abk (fun a b ha hb=>by simp only [dC,A4x]; omega)]
 | succ k ih =>
   intro i M hi hM
   obtain ⟨M,rfl⟩:∃ G,M=G+1:=⟨M-1,by omega⟩
   have n:=Abl.inner N h6 hl hF (show i<R by omega) C 0 M N (by omega) (by omega)
   rw [Am.Cv.Au,Av,A4r (by omega),A4q]
   exact n.trans (ih (i+1) M (by omega) (by omega))
theorem Am.Cv.known:Am.Cv.Kn:=Am.Cv.Ad (.cons Am.At.known (.cons Am.Hj.known (.cons Am.A9.known .nil))) fun r c l hp=>by
 have hr:A3 r c l=true:=hp
 obtain ⟨R,C,rfl,rfl,r6,c6,hl⟩:=Cu hr
 refine ⟨8,.agg [.int .i64 (C:Int),.int .i64 (R:Int),.ints .fresh .u64 (B8 C R fun (i j:Nat)=>D8 (C:Int) l (j:Int) (i:Int))],[],?_,Vi⟩
 have n:=Abl.outer 8 (by omega) ⟨r6,c6⟩ hl rfl R 0 8 (by omega) (by omega)
 rw [Tu (fun a b ha hb=>by simp only [dC,A4x]; omega)] at n
 rw [Am.Cv.ev,Ml r6,Ml c6,A4w,A4q,A4s,A4s]
 exact n
theorem Awr (N:Nat) {n:Nat} (h6:n≤6):∀ (k i M:Nat),i+k=n→k<M →
 Am.Ff.L0 N M (n:Int) (i:Int) (fill n n (fun (a b:Nat)=>N7 (a:Int) (b:Int)) fun a b=>decide (a=b∧a<i))=some (.agg [.int .i64 (n:Int),.int .i64 (n:Int),.ints .fresh .u64 (B8 n n fun (a b:Nat)=>N7 (a:Int) (b:Int))]):=by
 intro k
 induction k with
 | zero =>
   intro i M hi hM
   obtain ⟨M,rfl⟩:∃ G,M=G+1:=⟨M-1,by omega⟩
   have e:fill n n (fun (a b:Nat)=>N7 (a:Int) (b:Int)) (fun a b=>decide (a=b∧a<i))=B8 n n fun (a b:Nat)=>N7 (a:Int) (b:Int):=by
    refine D6 fun a b ha hb=>?_
    by_cases h:a=b
    ·rw [A5d (A4r ⟨h,by omega⟩)]
    ·rw [A5c (fun k=>h (A5g k).1)]
     unfold N7
     rw [A5c (by omega)]
   rw [Am.Ff.Au,Av,A4v (by omega),A4u,e]
 | succ k ih =>
   intro i M hi hM
   obtain ⟨M,rfl⟩:∃ G,M=G+1:=⟨M-1,by omega⟩
   have c9:Em (n:Int) (n:Int) (fill n n (fun (a b:Nat)=>N7 (a:Int) (b:Int)) fun a b=>decide (a=b∧a<i)) (i:Int) (i:Int)=true:=Fa h6 h6 (Pr _ _ _ _) (by omega) (by omega)
   have one:(4607182418800017408:Int)=(fun (a b:Nat)=>N7 (a:Int) (b:Int)) i i:=(A5d rfl).symm
   rw [Am.Ff.Au,Av,A4r (by omega),A4q,c9,A4q,An (by omega) (by omega),Wv (d':=fun a b=>decide (a=b∧a<i+1)) (by omega) one (fun a b ha hb=>by simp only [A4x]; omega)]
   exact ih (i+1) M (by omega) (by omega)
theorem Am.Ff.known:Am.Ff.Kn:=Am.Ff.Ad (.cons Am.Hj.known (.cons Am.A9.known .nil)) fun n hp=>by
 have hp:Bp n=true:=hp
 obtain ⟨n,rfl,h6⟩:=Fj hp
 refine ⟨8,.agg [.int .i64 (n:Int),.int .i64 (n:Int),.ints .fresh .u64 (B8 n n fun (a b:Nat)=>N7 (a:Int) (b:Int))],[],?_,Vi⟩
 have e:=Awr 8 h6 n 0 8 (by omega) (by omega)
 rw [Tu (fun a b ha hb=>by simp only [A4x]; omega)] at e
 rw [Am.Ff.ev,hp,A4w,A4q,A4s]
 exact e
namespace EqRefA
def Ag.Kc.Ba:List (Nat × Entry):=[]
def Ag.Kc.E:Env:=Bg (Bb Ag.Kc.Ba) (fun _=>false) (fun _=>none) (fun _=>none)
theorem Ag.Kc.ev (N:Nat) (l:List Int) (i:Int):B0 Ag.Kc.E N f159 (Ak f159) [.ints .arg .u32 l,.int .i64 i]=bif ((Ex 0 i)&&(Bi i (length l:Int))) then bif ((decide (0≤i))&&(decide (i<(length l:Int)))) then some (.int .u64 (Bs (getD l (toNat i) 0))) else none else some (.int .u64 0) :=
 Eq.trans (by kernel_rfl)
 (Ay (R5 (Ex 0 i)) (Ay (R5 (Ex 0 i)) (Ay (Oo (Ex 0 i)) (Ay (Ani (Ex 0 i)) (Ay (W8 (Ex 0 i)) (Cw (tt1 _ _) rfl rfl))))))
abbrev _root_.Go.Proofs.S1.Ag.Kc.Kn:=A8 prog 159 Ag.Kc.spec
theorem Ag.Kc.Ad (hk:A1 prog Ag.Kc.Ba) (h:Hyp Ag.Kc.E f159 Ag.Kc.ts Ag.Kc.pre Ag.Kc.out):Ag.Kc.Kn :=
 Al (A4 hk _ _ _) func159 (by kernel_rfl) (by kernel_rfl) h
def Ag.Made.hint:Nat→Option Bc
 | 0=>some { keep:=[0,1,4,5],objs:=[],boxes:=[4] }
 | _=>none
def Ag.Made.Ba:List (Nat × Entry):=[]
def Ag.Made.E:Env:=Bg (Bb Ag.Made.Ba) (fun _=>false) Ag.Made.hint (fun _=>none)
section
variable (N M:Nat) (n:Bool) (l:List Int) (p5:Int)
def Ag.Made.L0:Option DV:=Cb Ag.Made.E N f104 (Ak f104) [1,1,0,0] [] M ⟨Fo 28 [(0,.bool n),(1,.ints .arg .u32 l),(4,.ptr 4 0 0),(5,.int .i64 p5)],[(4,false,.box [.bool false,.nil])]⟩
theorem Ag.Made.Au:Ag.Made.L0 N (M+1) n l p5=bif ((!(Bi 0 p5))||((decide (0≤(Ab (p5-1))))&&(decide ((Ab (p5-1))<(length l:Int))))) then bif ((Bi 0 p5)&&((getD l (toNat (Ab (p5-1))) 0)==(0:Int))) then Ag.Made.L0 N M n l (Ab (p5-1)) else bif (p5==(0:Int)) then some (.agg [.bool false,.nil]) else bif ((decide ((0:Int)≤p5))&&(decide (p5≤(length l:Int)))) then some (.agg [.bool n,.ints .arg .u32 (List.take (toNat p5) l)]) else none else none :=
 Eq.trans (by kernel_rfl)
 (Ay (R5 (Bi 0 p5)) (Ay (R5 (Bi 0 p5)) (Ay (Oo (Bi 0 p5)) (Cw (A3d _ _ _) (Ay (Oo (Bi 0 p5)) (Ay (Oo (Bi 0 p5)) (Ay (W8 (Bi 0 p5)) (Cw (tt1 _ _) rfl (E1 rfl (Cw (Kb _ _) rfl rfl)))))) rfl))))
theorem Ag.Made.ev:B0 Ag.Made.E N f104 (Ak f104) [.bool n,.ints .arg .u32 l] =
 Ag.Made.L0 N N n l (length l:Int):=by kernel_rfl
end
abbrev _root_.Go.Proofs.S1.Ag.Made.Kn:=A8 prog 104 Ag.Made.spec
theorem Ag.Made.Ad (hk:A1 prog Ag.Made.Ba) (h:Hyp Ag.Made.E f104 Ag.Made.ts Ag.Made.pre Ag.Made.out):Ag.Made.Kn :=
 Al (A4 hk _ _ _) func104 (by kernel_rfl) (by kernel_rfl) h
def Ag.Of.Ba:List (Nat × Entry):=[(104,Ag.Made.spec)]
def Ag.Of.E:Env:=Bg (Bb Ag.Of.Ba) (fun _=>false) (fun _=>none) (fun _=>none)
theorem Ag.Of.ev (N:Nat) (n:Int):B0 Ag.Of.E N f40 (Ak f40) [.int .i64 n]=bif (Bi n 0) then bif (Lf [(Li (Int.tmod (Bs ((Bs (Ab (0-(Ab (n+1)))))+1)) 4294967296)),(Li (Bs (Int.tdiv (Bs ((Bs (Ab (0-(Ab (n+1)))))+1)) 4294967296)))]) then some (.agg [.bool (Bu (wv true [(Li (Int.tmod (Bs ((Bs (Ab (0-(Ab (n+1)))))+1)) 4294967296)),(Li (Bs (Int.tdiv (Bs ((Bs (Ab (0-(Ab (n+1)))))+1)) 4294967296)))])),.ints .arg .u32 (Aw (wv true [(Li (Int.tmod (Bs ((Bs (Ab (0-(Ab (n+1)))))+1)) 4294967296)),(Li (Bs (Int.tdiv (Bs ((Bs (Ab (0-(Ab (n+1)))))+1)) 4294967296)))]))]) else none else bif (Lf [(Li (Int.tmod n 4294967296)),(Li (Ab (Int.tdiv n 4294967296)))]) then some (.agg [.bool (Bu (wv false [(Li (Int.tmod n 4294967296)),(Li (Ab (Int.tdiv n 4294967296)))])),.ints .arg .u32 (Aw (wv false [(Li (Int.tmod n 4294967296)),(Li (Ab (Int.tdiv n 4294967296)))]))]) else none:=by kernel_rfl
abbrev _root_.Go.Proofs.S1.Ag.Of.Kn:=A8 prog 40 Ag.Of.spec
theorem Ag.Of.Ad (hk:A1 prog Ag.Of.Ba) (h:Hyp Ag.Of.E f40 Ag.Of.ts Ag.Of.pre Ag.Of.out):Ag.Of.Kn :=
 Al (A4 hk _ _ _) func40 (by kernel_rfl) (by kernel_rfl) h
def Ag.Jf.hint:Nat→Option Bc
 | 0=>some { keep:=[0,1,5],objs:=[],boxes:=[] }
 | _=>none
def Ag.Jf.Ba:List (Nat × Entry):=[(159,Ag.Kc.spec)]
def Ag.Jf.E:Env:=Bg (Bb Ag.Jf.Ba) (fun _=>false) Ag.Jf.hint (fun _=>none)
section
variable (N M:Nat) (a b:List Int) (p5:Int)
def Ag.Jf.L0:Option DV:=Cb Ag.Jf.E N f111 (Ak f111) [1,0,1,0] [] M ⟨Fo 29 [(0,.ints .arg .u32 a),(1,.ints .arg .u32 b),(5,.int .i64 p5)],[]⟩
theorem Ag.Jf.Au:Ag.Jf.L0 N (M+1) a b p5=bif (Ex 0 p5) then bif (Lf a) then bif (Lf b) then bif (Bi (Ii a p5) (Ii b p5)) then some (.int .i64 (-1:Int)) else bif (Lf a) then bif (Lf b) then bif (Bi (Ii b p5) (Ii a p5)) then some (.int .i64 1) else Ag.Jf.L0 N M a b (Ab (p5-1)) else none else none else none else none else some (.int .i64 0):=by kernel_rfl
theorem Ag.Jf.ev:B0 Ag.Jf.E N f111 (Ak f111) [.ints .arg .u32 a,.ints .arg .u32 b] =
 Ag.Jf.L0 N N a b (max (length a:Int) (length b:Int)):=by kernel_rfl
end
abbrev _root_.Go.Proofs.S1.Ag.Jf.Kn:=A8 prog 111 Ag.Jf.spec
theorem Ag.Jf.Ad (hk:A1 prog Ag.Jf.Ba) (h:Hyp Ag.Jf.E f111 Ag.Jf.ts Ag.Jf.pre Ag.Jf.out):Ag.Jf.Kn :=
 Al (A4 hk _ _ _) func111 (by kernel_rfl) (by kernel_rfl) h
def Ag.plus.hint:Nat→Option Bc
 | 0=>some { keep:=[0,1,5,6,7],objs:=[(0,5,100005,.ints 121 .u32 [])],boxes:=[] }
 | _=>none
def Ag.plus.Ba:List (Nat × Entry):=[(159,Ag.Kc.spec)]
def Ag.plus.E:Env:=Bg (Bb Ag.plus.Ba) (fun _=>false) Ag.plus.hint (fun _=>none)
section
variable (N M:Nat) (a b:List Int) (p6 p7:Int) (p5:List Int)
def Ag.plus.L0:Option DV:=Cb Ag.plus.E N f110 (Ak f110) [1,1,1,0,1,0] [] M ⟨Fo 37 [(0,.ints .arg .u32 a),(1,.ints .arg .u32 b),(5,.oref 100005),(6,.int .u64 p6),(7,.int .i64 p7)],[(100005,false,.ints 121 .u32 p5)]⟩
theorem Ag.plus.Au:Ag.plus.L0 N (M+1) a b p6 p7 p5=bif (Ex p7 (max (length a:Int) (length b:Int))) then bif (Lf a) then bif (Lf b) then bif (decide ((length p5)+1≤G8)) then Ag.plus.L0 N M a b (Bs (Int.tdiv (Bs ((Bs ((Ii a p7)+(Ii b p7)))+p6)) 4294967296)) (Ab (p7+1)) (p5++[(Li (Int.tmod (Bs ((Bs ((Ii a p7)+(Ii b p7)))+p6)) 4294967296))]) else none else none else none else some (.ints (.own 100005 121) .u32 p5):=by kernel_rfl
theorem Ag.plus.ev:B0 Ag.plus.E N f110 (Ak f110) [.ints .arg .u32 a,.ints .arg .u32 b] =
 Ag.plus.L0 N N a b 0 0 []:=by kernel_rfl
end
abbrev _root_.Go.Proofs.S1.Ag.plus.Kn:=A8 prog 110 Ag.plus.spec
theorem Ag.plus.Ad (hk:A1 prog Ag.plus.Ba) (h:Hyp Ag.plus.E f110 Ag.plus.ts Ag.plus.pre Ag.plus.out):Ag.plus.Kn :=
 Al (A4 hk _ _ _) func110 (by kernel_rfl) (by kernel_rfl) h
def Ag.minus.hint:Nat→Option Bc
 | 0=>some { keep:=[0,1,5,6,7],objs:=[(0,5,100005,.ints 121 .u32 [])],boxes:=[] }
 | _=>none
def Ag.minus.Ba:List (Nat × Entry):=[(159,Ag.Kc.spec)]
def Ag.minus.E:Env:=Bg (Bb Ag.minus.Ba) (fun _=>false) Ag.minus.hint (fun _=>none)
section
variable (N M:Nat) (a b:List Int) (p6 p7:Int) (p5:List Int)
def Ag.minus.L0:Option DV:=Cb Ag.minus.E N f112 (Ak f112) [1,1,1,0,1,0] [] M ⟨Fo 36 [(0,.ints .arg .u32 a),(1,.ints .arg .u32 b),(5,.oref 100005),(6,.int .u64 p6),(7,.int .i64 p7)],[(100005,false,.ints 121 .u32 p5)]⟩
theorem Ag.minus.Au:Ag.minus.L0 N (M+1) a b p6 p7 p5=bif (Bi p7 (length a:Int)) then bif (Lf a) then bif (Lf b) then bif (decide ((length p5)+1≤G8)) then Ag.minus.L0 N M a b (Bs ((1:Int)-(Bs (Int.tdiv (Bs ((Bs ((Bs ((4294967296:Int)+(Ii a p7)))-(Ii b p7)))-p6)) 4294967296)))) (Ab (p7+1)) (p5++[(Li (Int.tmod (Bs ((Bs ((Bs ((4294967296:Int)+(Ii a p7)))-(Ii b p7)))-p6)) 4294967296))]) else none else none else none else some (.ints (.own 100005 121) .u32 p5):=by kernel_rfl
theorem Ag.minus.ev:B0 Ag.minus.E N f112 (Ak f112) [.ints .arg .u32 a,.ints .arg .u32 b] =
 Ag.minus.L0 N N a b 0 0 []:=by kernel_rfl
end
abbrev _root_.Go.Proofs.S1.Ag.minus.Kn:=A8 prog 112 Ag.minus.spec
theorem Ag.minus.Ad (hk:A1 prog Ag.minus.Ba) (h:Hyp Ag.minus.E f112 Ag.minus.ts Ag.minus.pre Ag.minus.out):Ag.minus.Kn :=
 Al (A4 hk _ _ _) func112 (by kernel_rfl) (by kernel_rfl) h
def Ag.Add.Ba:List (Nat × Entry):=[(104,Ag.Made.spec),(111,Ag.Jf.spec),(112,Ag.minus.spec),(110,Ag.plus.spec)]
def Ag.Add.E:Env:=Bg (Bb Ag.Add.Ba) (fun _=>false) (fun _=>none) (fun _=>none)
theorem Ag.Add.ev (N:Nat) (n:Bool) (a:List Int) (m:Bool) (b:List Int):B0 Ag.Add.E N f48 (Ak f48) [.agg [.bool n,.ints .arg .u32 a],.agg [.bool m,.ints .arg .u32 b]]=bif (n==m) then bif (Lf a&&Lf b) then bif (Lf (M5 a b)) then some (.agg [.bool (Bu (wv n (M5 a b))),.ints .arg .u32 (Aw (wv n (M5 a b)))]) else none else none else bif (Lf a&&Lf b) then bif (Bi (X7 (C1 a) (C1 b)) 0) then bif ((Lf b&&Lf a)&&leL a b) then bif (Lf (Jx b a)) then some (.agg [.bool (Bu (wv m (Jx b a))),.ints .arg .u32 (Aw (wv m (Jx b a)))]) else none else none else bif ((Lf a&&Lf b)&&leL b a) then bif (Lf (Jx a b)) then some (.agg [.bool (Bu (wv n (Jx a b))),.ints .arg .u32 (Aw (wv n (Jx a b)))]) else none else none else none :=
 Eq.trans (by kernel_rfl)
 (E1 (Cw (Ct _) (Cw (Ct _) rfl rfl) rfl) (E1 (E1 (Cw (Ct _) (Cw (Ct _) rfl rfl) rfl) (Cw (Ct _) (Cw (Ct _) rfl rfl) rfl)) rfl))
abbrev _root_.Go.Proofs.S1.Ag.Add.Kn:=A8 prog 48 Ag.Add.spec
theorem Ag.Add.Ad (hk:A1 prog Ag.Add.Ba) (h:Hyp Ag.Add.E f48 Ag.Add.ts Ag.Add.pre Ag.Add.out):Ag.Add.Kn :=
 Al (A4 hk _ _ _) func48 (by kernel_rfl) (by kernel_rfl) h
def Ag.Neg.Ba:List (Nat × Entry):=[(104,Ag.Made.spec)]
def Ag.Neg.E:Env:=Bg (Bb Ag.Neg.Ba) (fun _=>false) (fun _=>none) (fun _=>none)
theorem Ag.Neg.ev (N:Nat) (n:Bool) (a:List Int):B0 Ag.Neg.E N f103 (Ak f103) [.agg [.bool n,.ints .arg .u32 a]]=bif (Lf a) then some (.agg [.bool (Bu (wv (!n) a)),.ints .arg .u32 (Aw (wv (!n) a))]) else none:=by kernel_rfl
abbrev _root_.Go.Proofs.S1.Ag.Neg.Kn:=A8 prog 103 Ag.Neg.spec
theorem Ag.Neg.Ad (hk:A1 prog Ag.Neg.Ba) (h:Hyp Ag.Neg.E f103 Ag.Neg.ts Ag.Neg.pre Ag.Neg.out):Ag.Neg.Kn :=
 Al (A4 hk _ _ _) func103 (by kernel_rfl) (by kernel_rfl) h
end EqRefA
open EqRefA
theorem Ag.Kc.known:Ag.Kc.Kn:=Ag.Kc.Ad .nil fun l i hp=>by
 obtain ⟨hl,hi⟩:=Mo hp
 refine ⟨0,Ag.Kc.out [.l l,.i i],[],?_,.int⟩
 rw [Ag.Kc.ev,Fb,Av]
 show _=some (DV.int .u64 (Ii l i))
 by_cases h0:0≤i
 ·obtain ⟨k,rfl⟩:∃ k:Nat,i=k:=⟨i.toNat,by omega⟩
  have hv:=I8 hi k
  have hg:=Tt hi k
  rw [hv,A4s,hg,A4r h0,A53]
  by_cases h1:(k:Int)<(l.length:Int)
  ·rw [A4r h1,A4q,A4q,Ef (by omega) (by omega)]
  ·have h2:l.getD k 0=0:=by
    rw [A40,A58 (by omega)]; rfl
   rw [h2] at hg
   rw [A4v h1,A4u,← hg]
 ·have:Ii l i=0:=by unfold Ii; rw [A5c h0]
  rw [A4v h0,Bool.false_and,A4u,this]
theorem Agh {drops:List Nat} {b:Bool} {l:List Int}:Wk drops (.agg [.bool b,.ints .arg .u32 l]) (.agg [.bool b,.ints .arg .u32 l]):=Wk.Hc (.cons .bool (.cons .W1 .nil))
theorem Aor:Bu 0=false:=rfl
theorem Ah3:Aw 0=[]:=rfl
theorem Ao1 (N:Nat) (n:Bool) {l:List Int} (hl:l.length<1073741824) (hi:inL l):∀ (p F:Nat),p≤l.length→p<F→C1 l<2^(32*p) →
 ∃ dv,Ag.Made.L0 N F n l (p:Int)=some dv∧Wk [] dv (.agg [.bool (Bu (wv n l)),.ints .arg .u32 (Aw (wv n l))]):=by
 have hlast:∀ p,p≤l.length→El (C1 l)=p→p≠0→some (DV.agg [.bool n,.ints .arg .u32 (l.take p)])=some (DV.agg [.bool (Bu (wv n l)),.ints .arg .u32 (Aw (wv n l))]):=by
  intro p hp hq h0
  have h1:=Aku hi
  rw [hq] at h1
  have h2:C1 l≠0:=fun h=>by rw [h] at hq; exact h0 hq.symm
  have e:(wv n l).natAbs=C1 l:=by unfold wv Jb; split<;>omega
  have e1:Aw (wv n l)=Sk (C1 l):=by unfold Aw; rw [e]
  have e2:Bu (wv n l)=n:=by unfold Bu wv Jb; cases n<;>simp<;>omega
  rw [h1,e1,e2]
 intro p
 induction p with
 | zero =>
   intro F hp hF hv
   obtain ⟨F,rfl⟩:∃ G,F=G+1:=⟨F-1,by omega⟩
   have hz:wv n l=0:=by
    have:C1 l=0:=by rw [Nat.mul_zero,A5o] at hv; omega
    unfold wv Jb; rw [this]; cases n<;>rfl
   refine ⟨.agg [.bool false,.nil],?_,?_⟩
   ·rw [Ag.Made.Au,Av]; rfl
   ·rw [hz,Aor,Ah3]
    exact Wk.Hc (.cons .bool (.cons (.nil _ _) .nil))
 | succ p ih =>
   intro F hp hF hv
   obtain ⟨F,rfl⟩:∃ G,F=G+1:=⟨F-1,by omega⟩
   rw [Ag.Made.Au,Av,An (by omega) (by omega)]
   have e0:((p+1:Nat):Int)-1=(p:Int):=by omega
   have t0:decide ((0:Int)<((p+1:Nat):Int))=true:=A4r (by omega)
   have t1:decide ((0:Int)≤(p:Int))=true:=by simp
   have t2:decide ((p:Int)<(l.length:Int))=true:=by simp; omega
   have hg:=Tt hi p
   have hq:C1 l / 2^(32*p)<4294967296:=by
    rw [Nat.div_lt_iff_lt_mul (Co _),← Qg]; exact hv
   rw [A43 hq] at hg
   rw [e0,t0,t1,t2,A4s,hg]
   simp only [A5p,A4w,Bool.false_or,A4q,A53]
   by_cases hz:C1 l / 2^(32*p)=0
   ·have:(((C1 l / 2^(32*p):Nat):Int)==0)=true:=by rw [hz]; rfl
    rw [this,A4q]
    refine ih F (by omega) (by omega) ?_
    rcases A5n (C1 l) (2^(32*p)) with h | h
    ·exact h
    ·have:=Nat.div_pos h (Co _); omega
   ·have:(((C1 l / 2^(32*p):Nat):Int)==0)=false:=by simp only [A5l,ne_eq]; omega
    have t3:(((p+1:Nat):Int)==0)=false:=by simp only [A5l,ne_eq]; omega
    have t4:decide (((p+1:Nat):Int)≤(l.length:Int))=true:=by simp; omega
    have t5:decide ((0:Int)≤((p+1:Nat):Int))=true:=A4r (by omega)
    rw [this,A4u,t3,A4u,t4,t5,A4w,A4q,A4s]
    have hlen:El (C1 l)=p+1:=by
     have a1:=Pp hv
     have a2:=Awg (n:=C1 l) (k:=p) (by
      rcases A5n (C1 l) (2^(32*p)) with h | h
      ·exact absurd (Nat.div_eq_of_lt h) hz
      ·exact h)
     omega
    exact ⟨_,hlast (p+1) hp hlen (by omega),Agh⟩
theorem Ag.Made.known:Ag.Made.Kn:=Ag.Made.Ad .nil fun n l hp=>by
 obtain ⟨hl,hi⟩:=Mo hp
 obtain ⟨dv,h1,h2⟩:=Ao1 (l.length+1) n hl hi l.length (l.length+1) (A5k _) (by omega) (Pg hi)
 exact ⟨l.length+1,dv,[],by rw [Ag.Made.ev]; exact h1,h2⟩
theorem Acu {a b:Int} (ha:0≤a∧a<4294967296) (hb:0≤b∧b<4294967296):Lf [a,b]=true :=
 P0 (show 2<1073741824 by decide) fun x hx=>by
  rcases List.mem_cons.1 hx with rfl | hx
  ·exact ha
  ·rcases List.mem_cons.1 hx with rfl | hx
   ·exact hb
   ·cases hx
theorem Amf:(4294967296:Int)=((4294967296:Nat):Int):=rfl
theorem Ag.Of.known:Ag.Of.Kn:=Ag.Of.Ad (.cons Ag.Made.known .nil) fun n hp=>by
 have hp:=Aq.1 hp
 refine ⟨0,Ag.Of.out [.i n],[],?_,Agh⟩
 rw [Ag.Of.ev,Av]
 show _=some (DV.agg [.bool (Bu n),.ints .arg .u32 (Aw n)])
 by_cases h:n<0
 ·obtain ⟨k,rfl⟩:∃ k:Nat,n=-(k:Int):=⟨(-n).toNat,by omega⟩
  have e1:Bs (Bs (Ab (0-Ab (-(k:Int)+1)))+1)=(k:Int):=by
   rw [An (x:=-(k:Int)+1) (by omega) (by omega),An (by omega) (by omega),Ef (x:=0-(-(k:Int)+1)) (by omega) (by omega),Ef (by omega) (by omega)]; omega
  rw [A4r h,A4q,e1,Amf,Lj,Lk,Mu (by omega) (by omega),Ef (by omega) (by omega),Mu (by omega) (by omega),
   Acu (by omega) (by omega),A4q]
  have e2:wv true [((k%4294967296:Nat):Int),((k / 4294967296:Nat):Int)]=-(k:Int):=by
   unfold wv Jb C1 C1 C1
   rw [A5d rfl,A4s,A4s]
   omega
  rw [e2]
 ·obtain ⟨k,rfl⟩:∃ k:Nat,n=(k:Int):=⟨n.toNat,by omega⟩
  rw [A4v h,A4u,Amf,Lj,Lk,Mu (by omega) (by omega),An (by omega) (by omega),Mu (by omega) (by omega),
   Acu (by omega) (by omega),A4q]
  have e2:wv false [((k%4294967296:Nat):Int),((k / 4294967296:Nat):Int)]=(k:Int):=by
   unfold wv Jb C1 C1 C1
   rw [A5c (by decide),A4s,A4s]
   omega
  rw [e2]
theorem Ag.Neg.known:Ag.Neg.Kn:=Ag.Neg.Ad (.cons Ag.Made.known .nil) fun n a hp=>by
 obtain ⟨v,rfl,rfl,hv⟩:=Kq hp
 refine ⟨0,Ag.Neg.out [.b (Bu v),.l (Aw v)],[],?_,Agh⟩
 rw [Ag.Neg.ev,Qm (by omega),A4q,Ax8]
 rfl
open EqRefA
theorem Aoz (N:Nat) {a b:List Int} (ha:Lf a=true) (hb:Lf b=true):∀ (j F:Nat),j<4000000000→j<F→C1 a / 2^(32*j)=C1 b / 2^(32*j) →
 Ag.Jf.L0 N F a b ((j:Int)-1)=some (.int .i64 (X7 (C1 a) (C1 b))):=by
 have ia:=(Mo ha).2
 have ib:=(Mo hb).2
 intro j
 induction j with
 | zero =>
   intro F hj hF h
   obtain ⟨F,rfl⟩:∃ G,F=G+1:=⟨F-1,by omega⟩
   rw [Nat.mul_zero,A5o,Nat.div_one,Nat.div_one] at h
   have e:X7 (C1 a) (C1 b)=0:=by unfold X7; rw [A5c (by omega),A5c (by omega)]
   rw [Ag.Jf.Au,Fb,e]
   rfl
 | succ j ih =>
   intro F hj hF h
   obtain ⟨F,rfl⟩:∃ G,F=G+1:=⟨F-1,by omega⟩
   have e0:((j+1:Nat):Int)-1=(j:Int):=by omega
   have t0:decide ((0:Int)≤(j:Int))=true:=A4r (by omega)
   rw [Qg,A5e,← A5j,← A5j] at h
   have up:C1 a / 2^(32*j)<C1 b / 2^(32*j)→C1 a<C1 b:=fun k=>by
    rcases A5n (C1 a) (C1 b) with h1 | h1
    ·exact h1
    ·have:=Nat.div_le_div_right (c:=2^(32*j)) h1; omega
   have down:C1 b / 2^(32*j)<C1 a / 2^(32*j)→C1 b<C1 a:=fun k=>by
    rcases A5n (C1 b) (C1 a) with h1 | h1
    ·exact h1
    ·have:=Nat.div_le_div_right (c:=2^(32*j)) h1; omega
   rw [Ag.Jf.Au,e0,Fb,t0,A4q,ha,hb,A4q,A4q,Av,Av,I8 ia,I8 ib,An (by omega) (by omega)]
   have ih:=ih F (by omega) (by omega)
   generalize C1 a / 2^(32*j)=x at *
   generalize C1 b / 2^(32*j)=y at *
   by_cases h1:x%4294967296<y%4294967296
   ·have e:X7 (C1 a) (C1 b)=-1:=by unfold X7; rw [A5d (up (by omega))]
    rw [A4r (by omega),A4q,e]
   ·rw [A4v (by omega),A4u]
    by_cases h2:y%4294967296<x%4294967296
    ·have:=down (by omega)
     have e:X7 (C1 a) (C1 b)=1:=by unfold X7; rw [A5c (by omega),A5d this]
     rw [A4r (by omega),A4q,e]
     rfl
    ·rw [A4v (by omega),A4u]
     exact ih (by omega)
theorem Amq {l:List Int} (h:inL l) {j:Nat} (hj:l.length≤j):C1 l / 2^(32*j)=0 :=
 Nat.div_eq_of_lt (A51 (Pg h) (A45 (by decide) (by omega)))
theorem Ag.Jf.known:Ag.Jf.Kn:=Ag.Jf.Ad (.cons Ag.Kc.known .nil) fun a b hp=>by
 obtain ⟨ha,hb⟩:=Ac.1 hp
 obtain ⟨la,ia⟩:=Mo ha
 obtain ⟨lb,ib⟩:=Mo hb
 refine ⟨max a.length b.length+2,Ag.Jf.out [.l a,.l b],[],?_,.int⟩
 rw [Ag.Jf.ev]
 have e:max (a.length:Int) (b.length:Int)=((max a.length b.length+1:Nat):Int)-1:=by omega
 rw [e]
 exact Aoz _ ha hb _ _ (by omega) (by omega) (by rw [Amq ia (by omega),Amq ib (by omega)])
theorem Aoi (N:Nat) {a b:List Int} (ha:Lf a=true) (hb:Lf b=true):∀ (k i c F:Nat),i+k=max a.length b.length+1→k<F→c≤1 →
 C1 a / 2^(32*i)+C1 b / 2^(32*i)+c=(C1 a+C1 b) / 2^(32*i) →
 Ag.plus.L0 N F a b (c:Int) (i:Int) (digits i (C1 a+C1 b))=some (.ints (.own 100005 tW) .u32 (M5 a b)):=by
 obtain ⟨la,ia⟩:=Mo ha
 obtain ⟨lb,ib⟩:=Mo hb
 intro k
 induction k with
 | zero =>
   intro i c F hi hF hc h
   obtain ⟨F,rfl⟩:∃ G,F=G+1:=⟨F-1,by omega⟩
   have t0:decide ((i:Int)≤max (a.length:Int) (b.length:Int))=false:=A4v (by omega)
   rw [Ag.plus.Au,Fb,t0,A4u]
   unfold M5
   rw [show i=max a.length b.length+1 by omega]
 | succ k ih =>
   intro i c F hi hF hc h
   obtain ⟨F,rfl⟩:∃ G,F=G+1:=⟨F-1,by omega⟩
   have t0:decide ((i:Int)≤max (a.length:Int) (b.length:Int))=true:=A4r (by omega)
   have t1:decide ((digits i (C1 a+C1 b)).length+1≤G8)=true:=A4r (by rw [Gs]; unfold G8; omega)
   rw [Ag.plus.Au,Fb,t0,ha,hb,t1]
   simp only [A4q]
   rw [I8 ia,I8 ib]
   have ih:=ih (i+1)
   rw [Qg,A5e 4294967296,← A5j,← A5j,← A5j,Ps] at ih
   generalize C1 a / 2^(32*i)=x at *
   generalize C1 b / 2^(32*i)=y at *
   generalize (C1 a+C1 b) / 2^(32*i)=z at *
   have e1:Bs (Bs (((x%4294967296:Nat):Int)+((y%4294967296:Nat):Int))+(c:Int))=((x%4294967296+y%4294967296+c:Nat):Int):=by
    rw [Ef (x:=((x%4294967296:Nat):Int)+((y%4294967296:Nat):Int)) (by omega) (by omega),Ef (by omega) (by omega)]; omega
   rw [e1,Amf,Lj,Lk,Mu (by omega) (by omega),Ef (by omega) (by omega),An (by omega) (by omega)]
   have e2:(x%4294967296+y%4294967296+c)%4294967296=z%4294967296:=by omega
   rw [e2]
   exact ih ((x%4294967296+y%4294967296+c) / 4294967296) F (by omega) (by omega) (by omega) (by omega)
theorem Al7 {i:Nat} {e:TypeId} {k:IntKind} {l:List Int}:Wk [i] (.ints (.own i e) k l) (.ints .arg k l):=.dropA i e k l (List.mem_singleton.2 rfl)
theorem Ag.plus.known:Ag.plus.Kn:=Ag.plus.Ad (.cons Ag.Kc.known .nil) fun a b hp=>by
 obtain ⟨ha,hb⟩:=Ac.1 hp
 refine ⟨max a.length b.length+2,.ints (.own 100005 tW) .u32 (M5 a b),[100005],?_,Al7⟩
 rw [Ag.plus.ev]
 exact Aoi _ ha hb (max a.length b.length+1) 0 0 _ (by omega) (by omega) (by omega) (by simp)
theorem Akm (N:Nat) {a b:List Int} (ha:Lf a=true) (hb:Lf b=true):∀ (k i w F:Nat),i+k=a.length→k<F→w≤1 →
 C1 a / 2^(32*i)=C1 b / 2^(32*i)+(C1 a-C1 b) / 2^(32*i)+w →
 Ag.minus.L0 N F a b (w:Int) (i:Int) (digits i (C1 a-C1 b))=some (.ints (.own 100005 tW) .u32 (Jx a b)):=by
 obtain ⟨la,ia⟩:=Mo ha
 obtain ⟨lb,ib⟩:=Mo hb
 intro k
 induction k with
 | zero =>
   intro i c F hi hF hc h
   obtain ⟨F,rfl⟩:∃ G,F=G+1:=⟨F-1,by omega⟩
   have t0:decide ((i:Int)<(a.length:Int))=false:=A4v (by omega)
   rw [Ag.minus.Au,Av,t0,A4u]
   unfold Jx
   rw [show i=a.length by omega]
 | succ k ih =>
   intro i w F hi hF hc h
   obtain ⟨F,rfl⟩:∃ G,F=G+1:=⟨F-1,by omega⟩
   have t0:decide ((i:Int)<(a.length:Int))=true:=A4r (by omega)
   have t1:decide ((digits i (C1 a-C1 b)).length+1≤G8)=true:=A4r (by rw [Gs]; unfold G8; omega)
   rw [Ag.minus.Au,Av,t0,ha,hb,t1]
   simp only [A4q]
   rw [I8 ia,I8 ib]
   have ih:=ih (i+1)
   rw [Qg,A5e 4294967296,← A5j,← A5j,← A5j,Ps] at ih
   generalize C1 a / 2^(32*i)=x at *
   generalize C1 b / 2^(32*i)=y at *
   generalize (C1 a-C1 b) / 2^(32*i)=z at *
   have e1:Bs (Bs (Bs ((4294967296:Int)+((x%4294967296:Nat):Int))-((y%4294967296:Nat):Int))-(w:Int))=((4294967296+x%4294967296-y%4294967296-w:Nat):Int):=by
    rw [Ef (x:=(4294967296:Int)+((x%4294967296:Nat):Int)) (by omega) (by omega),Ef (x:=(4294967296:Int)+((x%4294967296:Nat):Int)-((y%4294967296:Nat):Int)) (by omega) (by omega),Ef (by omega) (by omega)]; omega
   have e2:(4294967296+x%4294967296-y%4294967296-w)%4294967296=z%4294967296:=by omega
   have e3:Bs ((1:Int)-(((4294967296+x%4294967296-y%4294967296-w) / 4294967296:Nat):Int))=((1-(4294967296+x%4294967296-y%4294967296-w) / 4294967296:Nat):Int):=by
    rw [Ef (by omega) (by omega)]; omega
   rw [e1,Amf,Lj,Lk,Mu (by omega) (by omega),Ef (x:=(((4294967296+x%4294967296-y%4294967296-w) / 4294967296:Nat):Int)) (by omega) (by omega),An (by omega) (by omega),e2,e3]
   exact ih (1-(4294967296+x%4294967296-y%4294967296-w) / 4294967296) F (by omega) (by omega) (by omega) (by omega)
theorem Ag.minus.known:Ag.minus.Kn:=Ag.minus.Ad (.cons Ag.Kc.known .nil) fun a b hp=>by
 obtain ⟨h1,hle⟩:=Ac.1 hp
 obtain ⟨ha,hb⟩:=Ac.1 h1
 have hle:=Aq.1 hle
 refine ⟨a.length+1,.ints (.own 100005 tW) .u32 (Jx a b),[100005],?_,Al7⟩
 rw [Ag.minus.ev]
 exact Akm _ ha hb a.length 0 0 _ (by omega) (by omega) (by omega) (by simp; omega)
theorem Ih (v:Int):inL (Aw v):=Ah2 _
theorem Aqf {v w:Int} (h:Bu v=Bu w):wv (Bu v) (M5 (Aw v) (Aw w))=v+w:=by
 unfold wv
 rw [Aoj (Ih _) (Ih _),Et,Et]
 unfold Bu at h ⊢
 unfold Jb
 rw [decide_eq_decide] at h
 by_cases hv:v<0
 ·have hw:=h.1 hv
  rw [A4r hv,A5d rfl]; omega
 ·have hw:¬ w<0:=fun k=>hv (h.2 k)
  rw [A4v hv,A5c (by decide)]; omega
theorem Alj {v w:Int} (h:Bu v≠Bu w) (hl:w.natAbs≤v.natAbs):wv (Bu v) (Jx (Aw v) (Aw w))=v+w:=by
 unfold wv
 rw [Ako _ (Ih _),Et,Et]
 unfold Bu at h ⊢
 unfold Jb
 rw [ne_eq,decide_eq_decide] at h
 by_cases hv:v<0
 ·have hw:¬ w<0:=fun k=>h ⟨fun _=>k,fun _=>hv⟩
  rw [A4r hv,A5d rfl]; omega
 ·have hw:w<0:=by
   rcases Int.lt_or_le w 0 with k | k
   ·exact k
   ·exact absurd ⟨fun k'=>absurd k' hv,fun k'=>by omega⟩ h
  rw [A4v hv,A5c (by decide)]; omega
theorem Ag.Add.known:Ag.Add.Kn:=Ag.Add.Ad (.cons Ag.Made.known (.cons Ag.Jf.known (.cons Ag.minus.known (.cons Ag.plus.known .nil)))) fun n a m b hp=>by
 obtain ⟨h1,h2⟩:=Ac.1 hp
 obtain ⟨v,rfl,rfl,hv⟩:=Kq h1
 obtain ⟨w,rfl,rfl,hw⟩:=Kq h2
 refine ⟨0,Ag.Add.out [.b (Bu v),.l (Aw v),.b (Bu w),.l (Aw w)],[],?_,Agh⟩
 have o1:Lf (Aw v)=true:=Qm (by omega)
 have o2:Lf (Aw w)=true:=Qm (by omega)
 rw [Ag.Add.ev,o1,o2,A4w,A4q]
 show _=some (DV.agg [.bool (Bu (wv (Bu v) (Aw v)+wv (Bu w) (Aw w))),.ints .arg .u32 (Aw (wv (Bu v) (Aw v)+wv (Bu w) (Aw w)))])
 rw [Jc,Jc]
 by_cases hs:Bu v=Bu w
 ·have:(Bu v==Bu w)=true:=by simp [hs]
  have o3:Lf (M5 (Aw v) (Aw w))=true:=P0 (by rw [V1,Di,Di]; omega) (Ahi _ _)
  rw [this,A4q,o3,A4q,Aqf hs]
 ·have:(Bu v==Bu w)=false:=by simp [hs]
  rw [this,A4u,A4q,Av,Et,Et,A53,A53]
  by_cases hl:v.natAbs<w.natAbs
  ·have e:decide (X7 v.natAbs w.natAbs<0)=true:=A4r (by unfold X7; rw [A5d hl]; decide)
   have o3:Lf (Jx (Aw w) (Aw v))=true:=P0 (by rw [Uc,Di]; omega) (Adj _ _)
   have o4:leL (Aw v) (Aw w)=true:=Aq.2 (by rw [Et,Et]; omega)
   rw [e,A4q,o4,A4q,o3,A4q,Alj (fun k=>hs k.symm) (by omega),Int.add_comm]
  ·have e:decide (X7 v.natAbs w.natAbs<0)=false:=A4v (by unfold X7; rw [A5c hl]; split<;>decide)
   have o3:Lf (Jx (Aw v) (Aw w))=true:=P0 (by rw [Uc,Di]; omega) (Adj _ _)
   have o4:leL (Aw w) (Aw v)=true:=Aq.2 (by rw [Et,Et]; omega)
   rw [e,A4u,o4,A4q,o3,A4q,Alj hs (by omega)]
namespace EqRefB
def Ag.Gq.Ba:List (Nat × Entry):=[(104,Ag.Made.spec),(110,Ag.plus.spec)]
def Ag.Gq.E:Env:=Bg (Bb Ag.Gq.Ba) (fun _=>false) (fun _=>none) (fun _=>none)
theorem Ag.Gq.ev (N:Nat) (n:Bool) (a:List Int):B0 Ag.Gq.E N f161 (Ak f161) [.agg [.bool n,.ints .arg .u32 a]]=bif (Lf a&&Lf a) then bif (Lf (M5 a a)) then some (.agg [.bool (Bu (wv n (M5 a a))),.ints .arg .u32 (Aw (wv n (M5 a a)))]) else none else none :=
 Eq.trans (by kernel_rfl)
 (Cw (Ct _) (Cw (Ct _) rfl rfl) rfl)
abbrev _root_.Go.Proofs.S1.Ag.Gq.Kn:=A8 prog 161 Ag.Gq.spec
theorem Ag.Gq.Ad (hk:A1 prog Ag.Gq.Ba) (h:Hyp Ag.Gq.E f161 Ag.Gq.ts Ag.Gq.pre Ag.Gq.out):Ag.Gq.Kn :=
 Al (A4 hk _ _ _) func161 (by kernel_rfl) (by kernel_rfl) h
def Ag.Ix.hint:Nat→Option Bc
 | 0=>some { keep:=[1,2,3,4],objs:=[(0,3,100003,.ints 121 .u32 [])],boxes:=[1,2] }
 | _=>none
def Ag.Ix.Ba:List (Nat × Entry):=[(104,Ag.Made.spec),(159,Ag.Kc.spec)]
def Ag.Ix.E:Env:=Bg (Bb Ag.Ix.Ba) (fun _=>false) Ag.Ix.hint (fun _=>none)
section
variable (N M:Nat) (n:Bool) (a:List Int) (p4:Int) (p3:List Int)
def Ag.Ix.L0:Option DV:=Cb Ag.Ix.E N f106 (Ak f106) [1,1,0,1,0] [] M ⟨Fo 37 [(1,.ptr 1 0 0),(2,.ptr 2 0 0),(3,.oref 100003),(4,.int .i64 p4)],[(1,false,.box [.bool n,.ints .arg .u32 a]),(2,false,.box [.bool false,.nil]),(100003,false,.ints 121 .u32 p3)]⟩
theorem Ag.Ix.Au:Ag.Ix.L0 N (M+1) n a p4 p3=bif (Bi p4 (length a:Int)) then bif (Lf a) then bif (Lf a) then bif ((decide (0≤p4))&&(decide (p4<(length p3:Int)))) then bif (decide ((toNat p4)<(length p3))) then Ag.Ix.L0 N M n a (Ab (p4+1)) (List.set p3 (toNat p4) (Li (Bs (Int.tdiv (Bs ((Bs ((Int.tmod (Ii a (Ab (p4+1))) 2)*4294967296))+(Ii a p4))) 2)))) else none else none else none else none else bif (Lf p3) then some (.agg [.bool (Bu (wv n p3)),.ints .arg .u32 (Aw (wv n p3))]) else none :=
 Eq.trans (by kernel_rfl)
 (E1 (Cw (Ct _) (Cw (Ct _) (Cw (Kb _ _) (Cw (Ct _) rfl rfl) rfl) rfl) rfl) rfl)
theorem Ag.Ix.ev:B0 Ag.Ix.E N f106 (Ak f106) [.agg [.bool n,.ints .arg .u32 a]]=bif (((decide ((0:Int)≤(length a:Int)))&&(decide ((length a:Int)≤(length a:Int))))&&(decide ((length a:Int)≤G8))) then Ag.Ix.L0 N N n a 0 (List.replicate (toNat (length a:Int)) 0) else none:=by kernel_rfl
end
abbrev _root_.Go.Proofs.S1.Ag.Ix.Kn:=A8 prog 106 Ag.Ix.spec
theorem Ag.Ix.Ad (hk:A1 prog Ag.Ix.Ba) (h:Hyp Ag.Ix.E f106 Ag.Ix.ts Ag.Ix.pre Ag.Ix.out):Ag.Ix.Kn :=
 Al (A4 hk _ _ _) func106 (by kernel_rfl) (by kernel_rfl) h
def Ag.Br.hint:Nat→Option Bc
 | 0=>some { keep:=[1,2,4],objs:=[],boxes:=[2,4] }
 | 2=>some { keep:=[1,2,4],objs:=[],boxes:=[2,4] }
 | 4=>some { keep:=[1,2,4],objs:=[],boxes:=[2,4] }
 | 6=>some { keep:=[1,2,4],objs:=[],boxes:=[2,4] }
 | _=>none
def Ag.Br.Ba:List (Nat × Entry):=[(161,Ag.Gq.spec),(106,Ag.Ix.spec),(104,Ag.Made.spec)]
def Ag.Br.E:Env:=Bg (Bb Ag.Br.Ba) (fun _=>false) Ag.Br.hint (fun _=>none)
section
variable (N:Nat) (n:Bool) (a:List Int) (k:Int) (M:Nat) (p1_3:Int) (p2_6:Bool) (p2_7:List Int) (p1_2:Int) (p2_4:Bool) (p2_5:List Int) (p1_1:Int) (p2_2:Bool) (p2_3:List Int) (p1:Int) (p2:Bool) (p2_1:List Int)
def Ag.Br.L0:Option DV:=Cb Ag.Br.E N f113 (Ak f113) [1,0,0] [] M ⟨Fo 63 [(1,.int .i64 p1),(2,.ptr 2 0 0),(4,.ptr 4 0 0)],[(2,false,.box [.bool p2,.ints .arg .u32 p2_1]),(4,false,.box [.bool false,.nil])]⟩
def Ag.Br.L1:Option DV:=Cb Ag.Br.E N f113 (Ak f113) [1,1,0,0] [] M ⟨Fo 63 [(1,.int .i64 p1_1),(2,.ptr 2 0 0),(4,.ptr 4 0 0)],[(2,false,.box [.bool p2_2,.ints .arg .u32 p2_3]),(4,false,.box [.bool false,.nil])]⟩
def Ag.Br.L2:Option DV:=Cb Ag.Br.E N f113 (Ak f113) [1,1,1,0,0] [] M ⟨Fo 63 [(1,.int .i64 p1_2),(2,.ptr 2 0 0),(4,.ptr 4 0 0)],[(2,false,.box [.bool p2_4,.ints .arg .u32 p2_5]),(4,false,.box [.bool false,.nil])]⟩
def Ag.Br.L3:Option DV:=Cb Ag.Br.E N f113 (Ak f113) [1,1,1,1,0,0] [] M ⟨Fo 63 [(1,.int .i64 p1_3),(2,.ptr 2 0 0),(4,.ptr 4 0 0)],[(2,false,.box [.bool p2_6,.ints .arg .u32 p2_7]),(4,false,.box [.bool false,.nil])]⟩
theorem Ag.Br.Au:Ag.Br.L0 N (M+1) p1 p2 p2_1=bif ((Ex 32 p1)&&(Bi 0 (length p2_1:Int))) then bif (decide (1+(length p2_1)≤G8)) then bif (Lf ([(0:Int)]++p2_1)) then Ag.Br.L0 N M (Ab (p1-32)) (Bu (wv p2 ([(0:Int)]++p2_1))) (Aw (wv p2 ([(0:Int)]++p2_1))) else none else none else Ag.Br.L1 N N p1 p2 p2_1 :=
 Eq.trans (by kernel_rfl)
 (Ay (R5 (Ex 32 p1)) (Ay (Oo (Ex 32 p1)) (Ay (Oo (Ex 32 p1)) (Ay (Oo (Ex 32 p1)) (Ay (W8 (Ex 32 p1)) (Cw (tt1 _ _) (Cw (Ct _) (Cw (Ct _) rfl rfl) rfl) rfl))))))
theorem Ag.Br.Ch:Ag.Br.L1 N (M+1) p1_1 p2_2 p2_3=bif ((Bi 0 p1_1)&&(Bi 0 (length p2_3:Int))) then bif (Og p2_2 p2_3) then Ag.Br.L1 N M (Ab (p1_1-1)) (Bu (2*wv p2_2 p2_3)) (Aw (2*wv p2_2 p2_3)) else none else Ag.Br.L2 N N p1_1 p2_2 p2_3 :=
 Eq.trans (by kernel_rfl)
 (Ay (R5 (Bi 0 p1_1)) (Ay (Oo (Bi 0 p1_1)) (Ay (Oo (Bi 0 p1_1)) (Ay (Oo (Bi 0 p1_1)) (Ay (W8 (Bi 0 p1_1)) (Cw (tt1 _ _) rfl rfl))))))
theorem Ag.Br.Kv:Ag.Br.L2 N (M+1) p1_2 p2_4 p2_5=bif ((Ex p1_2 (-32:Int))&&(Bi 0 (length p2_5:Int))) then bif (decide ((1:Int)≤(length p2_5:Int))) then bif (Lf (List.drop 1 p2_5)) then Ag.Br.L2 N M (Ab (p1_2+32)) (Bu (wv p2_4 (List.drop 1 p2_5))) (Aw (wv p2_4 (List.drop 1 p2_5))) else none else none else Ag.Br.L3 N N p1_2 p2_4 p2_5 :=
 Eq.trans (by kernel_rfl)
 (Ay (R5 (Ex p1_2 (-32:Int))) (Ay (Oo (Ex p1_2 (-32:Int))) (Ay (Oo (Ex p1_2 (-32:Int))) (Ay (Oo (Ex p1_2 (-32:Int))) (Ay (W8 (Ex p1_2 (-32:Int))) (Cw (tt1 _ _) (Cw (A05 _) (Cw (Ct _) rfl rfl) rfl) rfl))))))
theorem Ag.Br.Agd:Ag.Br.L3 N (M+1) p1_3 p2_6 p2_7=bif ((Bi p1_3 0)&&(Bi 0 (length p2_7:Int))) then bif (Og p2_6 p2_7) then Ag.Br.L3 N M (Ab (p1_3+1)) (Bu (Mm (wv p2_6 p2_7) 1)) (Aw (Mm (wv p2_6 p2_7) 1)) else none else some (.agg [.bool p2_6,.ints .arg .u32 p2_7]) :=
 Eq.trans (by kernel_rfl)
 (Ay (R5 (Bi p1_3 0)) (Ay (Oo (Bi p1_3 0)) (Ay (Oo (Bi p1_3 0)) (Ay (Oo (Bi p1_3 0)) (Ay (W8 (Bi p1_3 0)) (Cw (tt1 _ _) rfl rfl))))))
theorem Ag.Br.ev:B0 Ag.Br.E N f113 (Ak f113) [.agg [.bool n,.ints .arg .u32 a],.int .i64 k] =
 Ag.Br.L0 N N k n a:=by kernel_rfl
end
abbrev _root_.Go.Proofs.S1.Ag.Br.Kn:=A8 prog 113 Ag.Br.spec
theorem Ag.Br.Ad (hk:A1 prog Ag.Br.Ba) (h:Hyp Ag.Br.E f113 Ag.Br.ts Ag.Br.pre Ag.Br.out):Ag.Br.Kn :=
 Al (A4 hk _ _ _) func113 (by kernel_rfl) (by kernel_rfl) h
def Ag.R1.hint:Nat→Option Bc
 | 0=>some { keep:=[3,4],objs:=[],boxes:=[] }
 | _=>none
def Ag.R1.Ba:List (Nat × Entry):=[]
def Ag.R1.E:Env:=Bg (Bb Ag.R1.Ba) (fun _=>false) Ag.R1.hint (fun _=>none)
def Ag.R1.L0 (N M:Nat) (p3 p4:Int):Option DV:=Cb Ag.R1.E N f160 (Ak f160) [1,1,1,0,1,0] [] M ⟨Fo 29 [(3,.int .i64 p3),(4,.int .u32 p4)],[]⟩
theorem Ag.R1.Au (N M:Nat) (p3 p4:Int):Ag.R1.L0 N (M+1) p3 p4=bif (Bi 0 p4) then Ag.R1.L0 N M (Ab (p3+1)) (Li (Int.tdiv p4 2)) else some (.int .i64 p3):=by kernel_rfl
theorem Ag.R1.ev (N:Nat) (n:Bool) (a:List Int):B0 Ag.R1.E N f160 (Ak f160) [.agg [.bool n,.ints .arg .u32 a]]=bif ((length a:Int)==(0:Int)) then some (.int .i64 0) else bif ((decide (0≤(Ab ((length a:Int)-1))))&&(decide ((Ab ((length a:Int)-1))<(length a:Int)))) then Ag.R1.L0 N N (Ab ((32:Int)*(Ab ((length a:Int)-1)))) (getD a (toNat (Ab ((length a:Int)-1))) 0) else none:=by kernel_rfl
abbrev _root_.Go.Proofs.S1.Ag.R1.Kn:=A8 prog 160 Ag.R1.spec
theorem Ag.R1.Ad (hk:A1 prog Ag.R1.Ba) (h:Hyp Ag.R1.E f160 Ag.R1.ts Ag.R1.pre Ag.R1.out):Ag.R1.Kn :=
 Al (A4 hk _ _ _) func160 (by kernel_rfl) (by kernel_rfl) h
def Ag.Yb.Ba:List (Nat × Entry):=[]
def Ag.Yb.E:Env:=Bg (Bb Ag.Yb.Ba) (fun _=>false) (fun _=>none) (fun _=>none)
theorem Ag.Yb.ev (N:Nat) (n:Bool) (a:List Int):B0 Ag.Yb.E N f105 (Ak f105) [.agg [.bool n,.ints .arg .u32 a]]=bif ((!(Bi 0 (length a:Int)))||(decide ((0:Int)<(length a:Int)))) then some (.bool (bif (Bi 0 (length a:Int)) then ((Int.tmod (getD a 0 0) 2)==(1:Int)) else false)) else none :=
 Eq.trans (by kernel_rfl)
 (Ay (R5 (Bi 0 (length a:Int))) (Ay (Oo (Bi 0 (length a:Int))) (Cw (A3c _ _) (Ay (Oo (Bi 0 (length a:Int))) (Ay (Oo (Bi 0 (length a:Int))) (Ay (Oo (Bi 0 (length a:Int))) (Ay (W8 (Bi 0 (length a:Int))) rfl)))) rfl)))
abbrev _root_.Go.Proofs.S1.Ag.Yb.Kn:=A8 prog 105 Ag.Yb.spec
theorem Ag.Yb.Ad (hk:A1 prog Ag.Yb.Ba) (h:Hyp Ag.Yb.E f105 Ag.Yb.ts Ag.Yb.pre Ag.Yb.out):Ag.Yb.Kn :=
 Al (A4 hk _ _ _) func105 (by kernel_rfl) (by kernel_rfl) h
end EqRefB
open EqRefB
theorem Ag.Gq.known:Ag.Gq.Kn:=Ag.Gq.Ad (.cons Ag.Made.known (.cons Ag.plus.known .nil)) fun n a hp=>by
 obtain ⟨v,rfl,rfl,hv⟩:=Kq hp
 refine ⟨0,Ag.Gq.out [.b (Bu v),.l (Aw v)],[],?_,Agh⟩
 have o1:Lf (Aw v)=true:=Qm (by omega)
 have o3:Lf (M5 (Aw v) (Aw v))=true:=P0 (by rw [V1,Di]; omega) (Ahi _ _)
 rw [Ag.Gq.ev,o1,o3,A4w,A4q,A4q,Aqf rfl]
 show _=some (DV.agg [.bool (Bu (2*wv (Bu v) (Aw v))),.ints .arg .u32 (Aw (2*wv (Bu v) (Aw v)))])
 rw [Jc,Int.two_mul]
theorem Ay1 (l:List Int) (y x:Int) (r:List Int):∀ i,i=l.length→(l++y::r).set i x=l++x::r:=by
 induction l with
 | nil=>intro i h; subst h; rfl
 | cons z l ih =>
   intro i h
   obtain ⟨j,rfl⟩:∃ j,i=j+1:=⟨i-1,by rw [List.length_cons] at h; omega⟩
   show z::(l++y::r).set j x=z::(l++x::r)
   rw [ih j (by rw [List.length_cons] at h; omega)]
theorem Ape (N:Nat) {v:Int} (hv:El v.natAbs<268435456):∀ (k i F:Nat),i+k=El v.natAbs→k<F →
 Ag.Ix.L0 N F (Bu v) (Aw v) (i:Int) (digits i (v.natAbs / 2)++List.replicate k 0)=some (.agg [.bool (Bu (Mm v 1)),.ints .arg .u32 (Aw (Mm v 1))]):=by
 have o1:Lf (Aw v)=true:=Qm (by omega)
 have ia:=Ih v
 intro k
 induction k with
 | zero =>
   intro i F hi hF
   obtain ⟨F,rfl⟩:∃ G,F=G+1:=⟨F-1,by omega⟩
   have t0:decide ((i:Int)<((Aw v).length:Int))=false:=A4v (by rw [Di]; omega)
   rw [List.replicate_zero,List.append_nil,Ag.Ix.Au,Av,t0,A4u]
   have o3:Lf (digits i (v.natAbs / 2))=true:=P0 (by rw [Gs]; omega) (Qv _ _)
   have e:wv (Bu v) (digits i (v.natAbs / 2))=Mm v 1:=by
    unfold wv Mm
    rw [Mv,A43,Nat.pow_one]
    have:=N5 v.natAbs
    rw [show i=El v.natAbs by omega]
    exact A5s (Nat.div_le_self _ _) this
   rw [o3,A4q,e]
 | succ k ih =>
   intro i F hi hF
   obtain ⟨F,rfl⟩:∃ G,F=G+1:=⟨F-1,by omega⟩
   have hlen:(digits i (v.natAbs / 2)++List.replicate (k+1) (0:Int)).length=i+(k+1):=by rw [A5i,Gs,List.length_replicate]
   have t0:decide ((i:Int)<((Aw v).length:Int))=true:=A4r (by rw [Di]; omega)
   have t1:decide ((0:Int)≤(i:Int))=true:=A4r (by omega)
   have t2:decide ((i:Int)<((digits i (v.natAbs / 2)++List.replicate (k+1) (0:Int)).length:Int))=true:=A4r (by rw [hlen]; omega)
   have t3:decide (i<(digits i (v.natAbs / 2)++List.replicate (k+1) (0:Int)).length)=true:=A4r (by rw [hlen]; omega)
   have e0:Ab ((i:Int)+1)=((i+1:Nat):Int):=by rw [An (by omega) (by omega)]; omega
   rw [Ag.Ix.Au,Av,t0,o1,A4s,t1,t2,t3,A4w]
   simp only [A4q]
   rw [e0,I8 ia,I8 ia,Et]
   have ih:=ih (i+1) F (by omega) (by omega)
   rw [Ps,A5j,A5e 2,← A5j] at ih
   rw [Qg,A5e 4294967296,← A5j,List.replicate_succ,Ay1 _ _ _ _ i (Gs _ _).symm]
   rw [List.append_assoc] at ih
   generalize v.natAbs / 2^(32*i)=x at *
   have e1:Int.tmod ((x / 4294967296%4294967296:Nat):Int) 2=((x / 4294967296%4294967296%2:Nat):Int):=Lj _ 2
   have e2:Bs (Bs (((x / 4294967296%4294967296%2:Nat):Int)*4294967296)+((x%4294967296:Nat):Int))=((x / 4294967296%4294967296%2*4294967296+x%4294967296:Nat):Int):=by
    rw [Ef (x:=((x / 4294967296%4294967296%2:Nat):Int)*4294967296) (by omega) (by omega),Ef (by omega) (by omega)]; omega
   have e3:Int.tdiv ((x / 4294967296%4294967296%2*4294967296+x%4294967296:Nat):Int) 2=(((x / 4294967296%4294967296%2*4294967296+x%4294967296) / 2:Nat):Int):=Lk _ 2
   have e4:(x / 4294967296%4294967296%2*4294967296+x%4294967296) / 2=x / 2%4294967296:=by omega
   rw [e1,e2,e3,e4,Ef (by omega) (by omega),Mu (by omega) (by omega)]
   exact ih
theorem Ag.Ix.known:Ag.Ix.Kn:=Ag.Ix.Ad (.cons Ag.Made.known (.cons Ag.Kc.known .nil)) fun n a hp=>by
 obtain ⟨v,rfl,rfl,hv⟩:=Kq hp
 refine ⟨El v.natAbs+1,Ag.Ix.out [.b (Bu v),.l (Aw v)],[],?_,Agh⟩
 show _=some (DV.agg [.bool (Bu (Mm (wv (Bu v) (Aw v)) 1)),.ints .arg .u32 (Aw (Mm (wv (Bu v) (Aw v)) 1))])
 rw [Ag.Ix.ev,Jc,Di,A4r (by omega),A4r (by omega),A4r (by unfold G8; omega),A4w,A4w,A4q,A4s]
 have h:=Ape (El v.natAbs+1) hv (El v.natAbs) 0 (El v.natAbs+1) (by omega) (by omega)
 rw [digits,List.nil_append] at h
 exact h
def Ajf (v:Int):Option DV:=some (.agg [.bool (Bu v),.ints .arg .u32 (Aw v)])
theorem Wr (v:Int):Bi (0:Int) ((Aw v).length:Int)=decide (v≠0):=by
 rw [Av,Di,decide_eq_decide]
 constructor
 ·intro h e
  rw [e] at h
  exact absurd h (by decide)
 ·intro h
  have:=Kg (n:=v.natAbs) (by omega)
  omega
theorem Ayv (N:Nat):∀ (j F:Nat) (v:Int),j<F→j<2000000→El v.natAbs<268435456→Ag.Br.L3 N F (-(j:Int)) (Bu v) (Aw v)=Ajf (Mm v j):=by
 intro j
 induction j with
 | zero =>
   intro F v hF _ hv
   obtain ⟨F,rfl⟩:∃ G,F=G+1:=⟨F-1,by omega⟩
   rw [Ag.Br.Agd,Av,A4v (by omega),Bool.false_and,A4u,Ag2]
   rfl
 | succ j ih =>
   intro F v hF hj hv
   obtain ⟨F,rfl⟩:∃ G,F=G+1:=⟨F-1,by omega⟩
   rw [Ag.Br.Agd,Av,A4r (by omega),A53,Wr]
   by_cases h0:v=0
   ·rw [A4v (by omega),A4u,h0,Td]
    rfl
   ·rw [A4r h0,A4q,K0 hv,A4q,Jc,An (by omega) (by omega)]
    have e:-((j+1:Nat):Int)+1=-(j:Int):=by omega
    have hl:El (Mm v 1).natAbs<268435456:=by
     rw [Nz]
     exact A5s (Oi (Nat.div_le_self _ _)) hv
    rw [e,ih F (Mm v 1) (by omega) (by omega) hl,Aew,Nat.add_comm]
theorem Ali (v:Int):wv (Bu v) ((Aw v).drop 1)=Mm v 32:=by
 unfold wv Mm
 rw [Am8 (Ih v),Et,two32]
theorem Ayw (N:Nat):∀ (F j:Nat) (v:Int),j<F→j<N→j<2000000→El v.natAbs<268435456→Ag.Br.L2 N F (-(j:Int)) (Bu v) (Aw v)=Ajf (Mm v j):=by
 intro F
 induction F with
 | zero=>intro j v h; omega
 | succ F ih =>
   intro j v hF hN hj hv
   rw [Ag.Br.Kv,Fb,Wr]
   by_cases hc:32≤j∧v≠0
   ·have o3:Lf ((Aw v).drop 1)=true:=P0 (by rw [List.length_drop,Di]; omega) (Aid (Ih v))
    have t1:decide ((1:Int)≤((Aw v).length:Int))=true:=A4r (by
     rw [Di]
     have:=Kg (n:=v.natAbs) (by omega)
     omega)
    have hl:El (Mm v 32).natAbs<268435456:=by
     rw [Nz]
     exact A5s (Oi (Nat.div_le_self _ _)) hv
    rw [A4r (by omega),A4r hc.2,A4w,A4q,t1,A4q,o3,A4q,Ali,An (by omega) (by omega)]
    have e:-(j:Int)+32=-((j-32:Nat):Int):=by omega
    rw [e,ih (j-32) (Mm v 32) (by omega) (by omega) (by omega) hl,Aew]
    congr 2
    omega
   ·have:(decide (-(j:Int)≤-32)&&decide (v≠0))=false:=by
     rw [Bool.and_eq_false_iff,A49,A49]
     omega
    rw [this,A4u]
    exact Ayv N j N v hN hj hv
theorem Yi (N F:Nat) {k:Int} (hk:0≤k) (hN:0<N) (v:Int):Ag.Br.L2 N (F+1) k (Bu v) (Aw v)=Ajf v:=by
 obtain ⟨M,rfl⟩:∃ M,N=M+1:=⟨N-1,by omega⟩
 rw [Ag.Br.Kv,Fb,A4v (by omega),Bool.false_and,A4u,Ag.Br.Agd,Av,A4v (by omega),Bool.false_and,A4u]
 rfl
theorem Ayx (N:Nat) (hN:0<N):∀ (j F:Nat) (v:Int),j<F→j<2000000→El v.natAbs+j<268435456→Ag.Br.L1 N F (j:Int) (Bu v) (Aw v)=Ajf (v*((2^j:Nat):Int)):=by
 obtain ⟨M,rfl⟩:∃ M,N=M+1:=⟨N-1,by omega⟩
 intro j
 induction j with
 | zero =>
   intro F v hF _ hv
   obtain ⟨F,rfl⟩:∃ G,F=G+1:=⟨F-1,by omega⟩
   rw [Ag.Br.Ch,Av,A4v (by omega),Bool.false_and,A4u,Yi _ _ (by omega) (by omega),A5o]
   congr 1
   omega
 | succ j ih =>
   intro F v hF hj hv
   obtain ⟨F,rfl⟩:∃ G,F=G+1:=⟨F-1,by omega⟩
   rw [Ag.Br.Ch,Av,A4r (by omega),A53,Wr]
   by_cases h0:v=0
   ·rw [A4v (by omega),A4u,h0,Int.zero_mul,Yi _ _ (by omega) (by omega)]
   ·have hl:=Asv v.natAbs
    have e2:(2*v).natAbs=2*v.natAbs:=by omega
    have e:((j+1:Nat):Int)-1=(j:Int):=by omega
    rw [A4r h0,A4q,K0 (by omega),A4q,Jc,An (by omega) (by omega),e,ih F (2*v) (by omega) (by omega) (by rw [e2]; omega)]
    congr 1
    rw [Nat.pow_succ,A5b,Int.mul_comm 2 v,Int.mul_assoc,Int.mul_comm ((2^j:Nat):Int)]
    rfl
theorem A0e (v:Int):wv (Bu v) ([(0:Int)]++Aw v)=v*((2^32:Nat):Int):=by
 have e:C1 ([(0:Int)]++Aw v)=4294967296*v.natAbs:=by
  show C1 (0::Aw v)=_
  rw [C1,Et]
  exact A50 _
 unfold wv
 rw [e,two32]
 by_cases h:v<0
 ·rw [Vt h]; omega
 ·rw [Vs h]; omega
theorem Ayy (N:Nat):∀ (F j:Nat) (v:Int),j<F→j<N→j<2000000→El v.natAbs+j<268435456→Ag.Br.L0 N F (j:Int) (Bu v) (Aw v)=Ajf (v*((2^j:Nat):Int)):=by
 intro F
 induction F with
 | zero=>intro j v h; omega
 | succ F ih =>
   intro j v hF hN hj hv
   rw [Ag.Br.Au,Fb,Wr]
   by_cases hc:32≤j∧v≠0
   ·have o3:Lf ([(0:Int)]++Aw v)=true:=P0 (by rw [A5i,Di]; show 1+_<_; omega) (As7 (Ih v))
    have t1:decide (1+(Aw v).length≤G8)=true:=A4r (by rw [Di]; unfold G8; omega)
    have e2:(v*((2^32:Nat):Int)).natAbs=v.natAbs*4294967296:=by rw [Int.natAbs_mul,Int.natAbs_natCast,two32]
    have hl:=Awf v.natAbs
    rw [A4r (by omega),A4r hc.2,A4w,A4q,t1,A4q,o3,A4q,A0e,An (by omega) (by omega)]
    have e:(j:Int)-32=((j-32:Nat):Int):=by omega
    rw [e,ih (j-32) _ (by omega) (by omega) (by omega) (by rw [e2]; omega)]
    have e3:2^j=2^32*2^(j-32):=by rw [← A5f]; congr 1; omega
    rw [e3,A5b,Int.mul_assoc]
   ·have:(decide ((32:Int)≤(j:Int))&&decide (v≠0))=false:=by
     rw [Bool.and_eq_false_iff,A49,A49]
     omega
    rw [this,A4u]
    exact Ayx N (by omega) j N v hN hj hv
theorem Aju (N j:Nat) (v:Int) (hj:0<j) (hN:j<N) (hj2:j<2000000) (hv:El v.natAbs<268435456):Ag.Br.L0 N N (-(j:Int)) (Bu v) (Aw v)=Ajf (Mm v j):=by
 obtain ⟨M,rfl⟩:∃ M,N=M+1:=⟨N-1,by omega⟩
 rw [Ag.Br.Au,Fb,A4v (by omega),Bool.false_and,A4u,Ag.Br.Ch,Av,A4v (by omega),Bool.false_and,A4u]
 exact Ayw _ _ j v hN hN hj2 hv
theorem Ag.Br.known:Ag.Br.Kn:=Ag.Br.Ad (.cons Ag.Gq.known (.cons Ag.Ix.known (.cons Ag.Made.known .nil))) fun n a k hp=>by
 obtain ⟨h1,h2⟩:=Ac.1 hp
 obtain ⟨v,rfl,rfl,hv⟩:=Rd h1
 have h2:=Aq.1 h2
 refine ⟨k.natAbs+1,Ag.Br.out [.b (Bu v),.l (Aw v),.i k],[],?_,Agh⟩
 show _=some (DV.agg [.bool (Bu (Jo (wv (Bu v) (Aw v)) k)),.ints .arg .u32 (Aw (Jo (wv (Bu v) (Aw v)) k))])
 rw [Ag.Br.ev,Jc]
 unfold Jo
 by_cases h:0≤k
 ·obtain ⟨j,rfl⟩:∃ j:Nat,k=j:=⟨k.toNat,by omega⟩
  rw [A5d h,A4s,Int.natAbs_natCast]
  exact Ayy _ _ j v (by omega) (by omega) (by omega) (by omega)
 ·obtain ⟨j,rfl⟩:∃ j:Nat,k=-(j:Int):=⟨(-k).toNat,by omega⟩
  have e:(-(-(j:Int))).toNat=j:=by omega
  rw [A5c h,e,Int.natAbs_neg,Int.natAbs_natCast]
  exact Aju _ j v (by omega) (by omega) (by omega) (by omega)
open EqRefB
theorem Ao6 {t:Nat} (h:2≤t):(t / 2).log2+1=t.log2:=by
 have:=Ah0 (n:=t) (m:=1) (by omega)
 rw [Nat.pow_one] at this
 exact this
theorem Asu (N:Nat):∀ (F:Nat) (t:Nat) (p:Int),t<2^32→0<t→t.log2+1<F→-1000≤p→p+t.log2<4611686018427387904 →
 Ag.R1.L0 N F p (t:Int)=some (.int .i64 (p+t.log2+1)):=by
 intro F
 induction F with
 | zero=>intro t p _ _ h; omega
 | succ F ih =>
   intro t p ht h0 hF hp1 hp2
   have e2:Int.tdiv (t:Int) 2=((t / 2:Nat):Int):=Lk t 2
   rw [two32] at ht
   rw [Ag.R1.Au,Av,A4r (by omega),A4q,e2,Mu (by omega) (by omega),An (by omega) (by omega)]
   by_cases h1:t=1
   ·subst h1
    obtain ⟨G,rfl⟩:∃ G,F=G+1:=⟨F-1,by omega⟩
    rw [Ag.R1.Au,Av,A4v (by decide),A4u]
    have:(1:Nat).log2=0:=by decide
    rw [this]
    congr 2
    omega
   ·have hl:=Ao6 (t:=t) (by omega)
    rw [ih (t / 2) (p+1) (by rw [two32]; omega) (by omega) (by omega) (by omega) (by omega)]
    congr 2
    omega
theorem Ag.R1.known:Ag.R1.Kn:=Ag.R1.Ad .nil fun n a hp=>by
 obtain ⟨v,rfl,rfl,hv⟩:=Kq hp
 refine ⟨40,Ag.R1.out [.b (Bu v),.l (Aw v)],[],?_,.int⟩
 show _=some (DV.int .i64 (Aa5 (wv (Bu v) (Aw v))))
 rw [Ag.R1.ev,Jc,Di]
 unfold Aa5
 by_cases h0:v=0
 ·rw [A5d h0,h0]; rfl
 ·have hn:v.natAbs≠0:=by omega
  have hl:=Kg hn
  have e0:((El v.natAbs:Int)==0)=false:=by simp only [A5l,ne_eq]; omega
  have e1:(El v.natAbs:Int)-1=((El v.natAbs-1:Nat):Int):=by omega
  have hlen:El v.natAbs=v.natAbs.log2 / 32+1:=by unfold El; rw [A5c hn]
  have hge:2^(32*(El v.natAbs-1))≤v.natAbs:=A5x (A45 (by decide) (by omega)) (Nat.log2_self_le hn)
  have hq:v.natAbs / 2^(32*(El v.natAbs-1))<2^32:=by
   rw [Nat.div_lt_iff_lt_mul (Co _),← A5f]
   have:=N5 v.natAbs
   have e:32+32*(El v.natAbs-1)=32*El v.natAbs:=by omega
   rw [e]; exact this
  have hlog:=Ah0 hge
  have hg:=Tt (Ih v) (El v.natAbs-1)
  have hq':=hq
  rw [two32] at hq'
  rw [Et,A43 hq'] at hg
  have hpos:=Nat.div_pos hge (Co _)
  have h32:(v.natAbs / 2^(32*(El v.natAbs-1))).log2<32:=(A56 (by omega)).2 hq
  rw [A5c h0,e0,A4u,An (by omega) (by omega),e1,A4r (by omega),A4r (by omega),A4w,A4q,A4s,hg,An (by omega) (by omega)]
  rw [Asu 40 40 _ _ hq hpos (by omega) (by omega) (by omega)]
  congr 2
  omega
theorem Ag.Yb.known:Ag.Yb.Kn:=Ag.Yb.Ad .nil fun n a hp=>by
 obtain ⟨v,rfl,rfl,hv⟩:=Kq hp
 refine ⟨0,Ag.Yb.out [.b (Bu v),.l (Aw v)],[],?_,.bool⟩
 show _=some (DV.bool (Aon (wv (Bu v) (Aw v))))
 rw [Ag.Yb.ev,Jc,Wr]
 have hg:=Tt (Ih v) 0
 rw [Et,Nat.mul_zero,A5o,Nat.div_one] at hg
 have e2:Int.tmod ((v.natAbs%4294967296:Nat):Int) 2=((v.natAbs%4294967296%2:Nat):Int):=Lj _ 2
 unfold Aon
 by_cases h0:v=0
 ·rw [h0]; rfl
 ·have hl:=Kg (n:=v.natAbs) (by omega)
  rw [hg,e2,A4r h0,Di,A4r (by omega),A52,A4q,A4q]
  congr 2
  rw [A46]
  simp only [beq_iff_eq,A4x]
  omega
namespace EqRefC
def A0.Of.hint:Nat→Option Bc
 | 0=>some { keep:=[1,2,4],objs:=[],boxes:=[2,4] }
 | 2=>some { keep:=[1,2,4],objs:=[],boxes:=[2,4] }
 | _=>none
def A0.Of.Ba:List (Nat × Entry):=[(106,Ag.Ix.spec),(104,Ag.Made.spec),(105,Ag.Yb.spec)]
def A0.Of.E:Env:=Bg (Bb A0.Of.Ba) (fun _=>false) A0.Of.hint (fun _=>none)
section
variable (N:Nat) (n:Bool) (a:List Int) (e:Int) (M:Nat) (p1_1:Int) (p2_2:Bool) (p2_3:List Int) (p1:Int) (p2:Bool) (p2_1:List Int)
def A0.Of.L0:Option DV:=Cb A0.Of.E N f39 (Ak f39) [1,1,0,0] [] M ⟨Fo 33 [(1,.int .i64 p1),(2,.ptr 2 0 0),(4,.ptr 4 0 0)],[(2,false,.box [.bool p2,.ints .arg .u32 p2_1]),(4,false,.box [.bool false,.nil,.int .i64 0])]⟩
def A0.Of.L1:Option DV:=Cb A0.Of.E N f39 (Ak f39) [1,1,1,0,0] [] M ⟨Fo 33 [(1,.int .i64 p1_1),(2,.ptr 2 0 0),(4,.ptr 4 0 0)],[(2,false,.box [.bool p2_2,.ints .arg .u32 p2_3]),(4,false,.box [.bool false,.nil,.int .i64 0])]⟩
theorem A0.Of.Au:A0.Of.L0 N (M+1) p1 p2 p2_1=bif (decide ((0:Int)<(length p2_1:Int))) then bif ((getD p2_1 0 0)==(0:Int)) then bif (decide ((1:Int)≤(length p2_1:Int))) then bif (Lf (List.drop 1 p2_1)) then A0.Of.L0 N M (Ab (p1+32)) (Bu (wv p2 (List.drop 1 p2_1))) (Aw (wv p2 (List.drop 1 p2_1))) else none else none else A0.Of.L1 N N p1 p2 p2_1 else none :=
 Eq.trans (by kernel_rfl)
 (E1 (E1 (Cw (A05 _) (Cw (Ct _) rfl rfl) rfl) rfl) rfl)
theorem A0.Of.Ch:A0.Of.L1 N (M+1) p1_1 p2_2 p2_3=bif (Og p2_2 p2_3) then bif (!(Aon (wv p2_2 p2_3))) then bif (Og p2_2 p2_3) then A0.Of.L1 N M (Ab (p1_1+1)) (Bu (Mm (wv p2_2 p2_3) 1)) (Aw (Mm (wv p2_2 p2_3) 1)) else none else some (.agg [.bool p2_2,.ints .arg .u32 p2_3,.int .i64 p1_1]) else none:=by kernel_rfl
theorem A0.Of.ev:B0 A0.Of.E N f39 (Ak f39) [.agg [.bool n,.ints .arg .u32 a],.int .i64 e]=bif ((length a:Int)==(0:Int)) then some (.agg [.bool false,.nil,.int .i64 0]) else A0.Of.L0 N N e n a:=by kernel_rfl
end
abbrev _root_.Go.Proofs.S1.A0.Of.Kn:=A8 prog 39 A0.Of.spec
theorem A0.Of.Ad (hk:A1 prog A0.Of.Ba) (h:Hyp A0.Of.E f39 A0.Of.ts A0.Of.pre A0.Of.out):A0.Of.Kn :=
 Al (A4 hk _ _ _) func39 (by kernel_rfl) (by kernel_rfl) h
def A0.Neg.Ba:List (Nat × Entry):=[(103,Ag.Neg.spec)]
def A0.Neg.E:Env:=Bg (Bb A0.Neg.Ba) (fun _=>false) (fun _=>none) (fun _=>none)
theorem A0.Neg.ev (N:Nat) (n:Bool) (a:List Int) (e:Int):B0 A0.Neg.E N f57 (Ak f57) [.agg [.bool n,.ints .arg .u32 a,.int .i64 e]]=bif (Og n a) then some (.agg [.bool (Bu (- wv n a)),.ints .arg .u32 (Aw (- wv n a)),.int .i64 e]) else none :=
 Eq.trans (by kernel_rfl)
 (Cw (Ct _) rfl rfl)
abbrev _root_.Go.Proofs.S1.A0.Neg.Kn:=A8 prog 57 A0.Neg.spec
theorem A0.Neg.Ad (hk:A1 prog A0.Neg.Ba) (h:Hyp A0.Neg.E f57 A0.Neg.ts A0.Neg.pre A0.Neg.out):A0.Neg.Kn :=
 Al (A4 hk _ _ _) func57 (by kernel_rfl) (by kernel_rfl) h
def A0.Yc.Ba:List (Nat × Entry):=[]
def A0.Yc.E:Env:=Bg (Bb A0.Yc.Ba) (fun _=>false) (fun _=>none) (fun _=>none)
theorem A0.Yc.ev (N:Nat) (n:Bool) (a:List Int) (e:Int) (m:Bool) (b:List Int) (f:Int):B0 A0.Yc.E N f47 (Ak f47) [.agg [.bool n,.ints .arg .u32 a,.int .i64 e],.agg [.bool m,.ints .arg .u32 b,.int .i64 f]]=bif ((length a:Int)==(0:Int)) then some (.int .i64 f) else bif ((length b:Int)==(0:Int)) then some (.int .i64 e) else some (.int .i64 (min e f)):=by kernel_rfl
abbrev _root_.Go.Proofs.S1.A0.Yc.Kn:=A8 prog 47 A0.Yc.spec
theorem A0.Yc.Ad (hk:A1 prog A0.Yc.Ba) (h:Hyp A0.Yc.E f47 A0.Yc.ts A0.Yc.pre A0.Yc.out):A0.Yc.Kn :=
 Al (A4 hk _ _ _) func47 (by kernel_rfl) (by kernel_rfl) h
def A0.Level.Ba:List (Nat × Entry):=[(113,Ag.Br.spec)]
def A0.Level.E:Env:=Bg (Bb A0.Level.Ba) (fun _=>false) (fun _=>none) (fun _=>none)
theorem A0.Level.ev (N:Nat) (n:Bool) (a:List Int) (e f:Int):B0 A0.Level.E N f49 (Ak f49) [.agg [.bool n,.ints .arg .u32 a,.int .i64 e],.int .i64 f]=bif ((length a:Int)==(0:Int)) then some (.agg [.bool n,.ints .arg .u32 a]) else bif (okV n a&&Aze (Ab (e-f))) then some (.agg [.bool (Bu (Jo (wv n a) (Ab (e-f)))),.ints .arg .u32 (Aw (Jo (wv n a) (Ab (e-f))))]) else none:=by kernel_rfl
abbrev _root_.Go.Proofs.S1.A0.Level.Kn:=A8 prog 49 A0.Level.spec
theorem A0.Level.Ad (hk:A1 prog A0.Level.Ba) (h:Hyp A0.Level.E f49 A0.Level.ts A0.Level.pre A0.Level.out):A0.Level.Kn :=
 Al (A4 hk _ _ _) func49 (by kernel_rfl) (by kernel_rfl) h
def A0.Add.Ba:List (Nat × Entry):=[(48,Ag.Add.spec),(49,A0.Level.spec),(47,A0.Yc.spec),(39,A0.Of.spec)]
def A0.Add.E:Env:=Bg (Bb A0.Add.Ba) (fun _=>false) (fun _=>none) (fun _=>none)
theorem A0.Add.ev (N:Nat) (n:Bool) (a:List Int) (e:Int) (m:Bool) (b:List Int) (f:Int):B0 A0.Add.E N f11 (Ak f11) [.agg [.bool n,.ints .arg .u32 a,.int .i64 e],.agg [.bool m,.ints .arg .u32 b,.int .i64 f]]=bif (Og n a&&Og m b) then bif (okV n a&&Aom (wv n a) e (Ec (wv n a) e (wv m b) f)) then bif (okV m b&&Aom (wv m b) f (Ec (wv n a) e (wv m b) f)) then bif (Og (Bu (Jo (wv n a) (e-(Ec (wv n a) e (wv m b) f)))) (Aw (Jo (wv n a) (e-(Ec (wv n a) e (wv m b) f))))&&Og (Bu (Jo (wv m b) (f-(Ec (wv n a) e (wv m b) f)))) (Aw (Jo (wv m b) (f-(Ec (wv n a) e (wv m b) f))))) then bif (Og (Bu (wv (Bu (Jo (wv n a) (e-(Ec (wv n a) e (wv m b) f)))) (Aw (Jo (wv n a) (e-(Ec (wv n a) e (wv m b) f))))+wv (Bu (Jo (wv m b) (f-(Ec (wv n a) e (wv m b) f)))) (Aw (Jo (wv m b) (f-(Ec (wv n a) e (wv m b) f)))))) (Aw (wv (Bu (Jo (wv n a) (e-(Ec (wv n a) e (wv m b) f)))) (Aw (Jo (wv n a) (e-(Ec (wv n a) e (wv m b) f))))+wv (Bu (Jo (wv m b) (f-(Ec (wv n a) e (wv m b) f)))) (Aw (Jo (wv m b) (f-(Ec (wv n a) e (wv m b) f))))))&&Afb (Ec (wv n a) e (wv m b) f)) then some (.agg [.bool (Bu (mD (wv (Bu (wv (Bu (Jo (wv n a) (e-(Ec (wv n a) e (wv m b) f)))) (Aw (Jo (wv n a) (e-(Ec (wv n a) e (wv m b) f))))+wv (Bu (Jo (wv m b) (f-(Ec (wv n a) e (wv m b) f)))) (Aw (Jo (wv m b) (f-(Ec (wv n a) e (wv m b) f)))))) (Aw (wv (Bu (Jo (wv n a) (e-(Ec (wv n a) e (wv m b) f)))) (Aw (Jo (wv n a) (e-(Ec (wv n a) e (wv m b) f))))+wv (Bu (Jo (wv m b) (f-(Ec (wv n a) e (wv m b) f)))) (Aw (Jo (wv m b) (f-(Ec (wv n a) e (wv m b) f))))))))),.ints .arg .u32 (Aw (mD (wv (Bu (wv (Bu (Jo (wv n a) (e-(Ec (wv n a) e (wv m b) f)))) (Aw (Jo (wv n a) (e-(Ec (wv n a) e (wv m b) f))))+wv (Bu (Jo (wv m b) (f-(Ec (wv n a) e (wv m b) f)))) (Aw (Jo (wv m b) (f-(Ec (wv n a) e (wv m b) f)))))) (Aw (wv (Bu (Jo (wv n a) (e-(Ec (wv n a) e (wv m b) f)))) (Aw (Jo (wv n a) (e-(Ec (wv n a) e (wv m b) f))))+wv (Bu (Jo (wv m b) (f-(Ec (wv n a) e (wv m b) f)))) (Aw (Jo (wv m b) (f-(Ec (wv n a) e (wv m b) f))))))))),.int .i64 (eD (wv (Bu (wv (Bu (Jo (wv n a) (e-(Ec (wv n a) e (wv m b) f)))) (Aw (Jo (wv n a) (e-(Ec (wv n a) e (wv m b) f))))+wv (Bu (Jo (wv m b) (f-(Ec (wv n a) e (wv m b) f)))) (Aw (Jo (wv m b) (f-(Ec (wv n a) e (wv m b) f)))))) (Aw (wv (Bu (Jo (wv n a) (e-(Ec (wv n a) e (wv m b) f)))) (Aw (Jo (wv n a) (e-(Ec (wv n a) e (wv m b) f))))+wv (Bu (Jo (wv m b) (f-(Ec (wv n a) e (wv m b) f)))) (Aw (Jo (wv m b) (f-(Ec (wv n a) e (wv m b) f))))))) (Ec (wv n a) e (wv m b) f))]) else none else none else none else none else none :=
 Eq.trans (by kernel_rfl)
 (E1 (Cw (Ct _) (Cw (Ct _) (Cw (Ct _) (Cw (Ct _) rfl rfl) rfl) rfl) rfl) rfl)
abbrev _root_.Go.Proofs.S1.A0.Add.Kn:=A8 prog 11 A0.Add.spec
theorem A0.Add.Ad (hk:A1 prog A0.Add.Ba) (h:Hyp A0.Add.E f11 A0.Add.ts A0.Add.pre A0.Add.out):A0.Add.Kn :=
 Al (A4 hk _ _ _) func11 (by kernel_rfl) (by kernel_rfl) h
def A0.Sub.Ba:List (Nat × Entry):=[(11,A0.Add.spec),(57,A0.Neg.spec)]
def A0.Sub.E:Env:=Bg (Bb A0.Sub.Ba) (fun _=>false) (fun _=>none) (fun _=>none)
theorem A0.Sub.ev (N:Nat) (n:Bool) (a:List Int) (e:Int) (m:Bool) (b:List Int) (f:Int):B0 A0.Sub.E N f56 (Ak f56) [.agg [.bool n,.ints .arg .u32 a,.int .i64 e],.agg [.bool m,.ints .arg .u32 b,.int .i64 f]]=bif (Og m b) then bif (((okV n a&&okV (Bu (- wv m b)) (Aw (- wv m b)))&&okE e)&&okE f) then some (.agg [.bool (Bu (S4 (wv n a) e (wv (Bu (- wv m b)) (Aw (- wv m b))) f)),.ints .arg .u32 (Aw (S4 (wv n a) e (wv (Bu (- wv m b)) (Aw (- wv m b))) f)),.int .i64 (Aui (wv n a) e (wv (Bu (- wv m b)) (Aw (- wv m b))) f)]) else none else none :=
 Eq.trans (by kernel_rfl)
 (Cw (Ct _) (Cw (Ct _) rfl rfl) rfl)
abbrev _root_.Go.Proofs.S1.A0.Sub.Kn:=A8 prog 56 A0.Sub.spec
theorem A0.Sub.Ad (hk:A1 prog A0.Sub.Ba) (h:Hyp A0.Sub.E f56 A0.Sub.ts A0.Sub.pre A0.Sub.out):A0.Sub.Kn :=
 Al (A4 hk _ _ _) func56 (by kernel_rfl) (by kernel_rfl) h
def A0.W7.Ba:List (Nat × Entry):=[(160,Ag.R1.spec)]
def A0.W7.E:Env:=Bg (Bb A0.W7.Ba) (fun _=>false) (fun _=>none) (fun _=>none)
theorem A0.W7.ev (N:Nat) (n:Bool) (a:List Int) (e:Int):B0 A0.W7.E N f109 (Ak f109) [.agg [.bool n,.ints .arg .u32 a,.int .i64 e]]=bif ((length a:Int)==(0:Int)) then some (.int .i64 0) else bif (Og n a) then some (.int .i64 (Ab ((Aa5 (wv n a))+e))) else none :=
 Eq.trans (by kernel_rfl)
 (E1 rfl (Cw (Ct _) rfl rfl))
abbrev _root_.Go.Proofs.S1.A0.W7.Kn:=A8 prog 109 A0.W7.spec
theorem A0.W7.Ad (hk:A1 prog A0.W7.Ba) (h:Hyp A0.W7.E f109 A0.W7.ts A0.W7.pre A0.W7.out):A0.W7.Kn :=
 Al (A4 hk _ _ _) func109 (by kernel_rfl) (by kernel_rfl) h
def A0.Sign.Ba:List (Nat × Entry):=[]
def A0.Sign.E:Env:=Bg (Bb A0.Sign.Ba) (fun _=>false) (fun _=>none) (fun _=>none)
theorem A0.Sign.ev (N:Nat) (n:Bool) (a:List Int) (e:Int):B0 A0.Sign.E N f108 (Ak f108) [.agg [.bool n,.ints .arg .u32 a,.int .i64 e]]=bif n then some (.int .i64 (-1:Int)) else some (.int .i64 (min (length a:Int) 1)):=by kernel_rfl
abbrev _root_.Go.Proofs.S1.A0.Sign.Kn:=A8 prog 108 A0.Sign.spec
theorem A0.Sign.Ad (hk:A1 prog A0.Sign.Ba) (h:Hyp A0.Sign.E f108 A0.Sign.ts A0.Sign.pre A0.Sign.out):A0.Sign.Kn :=
 Al (A4 hk _ _ _) func108 (by kernel_rfl) (by kernel_rfl) h
def A0.Compare.Ba:List (Nat × Entry):=[(108,A0.Sign.spec),(56,A0.Sub.spec),(109,A0.W7.spec)]
def A0.Compare.E:Env:=Bg (Bb A0.Compare.Ba) (fun _=>false) (fun _=>none) (fun _=>none)
theorem A0.Compare.ev (N:Nat) (n:Bool) (a:List Int) (e:Int) (m:Bool) (b:List Int) (f:Int):B0 A0.Compare.E N f43 (Ak f43) [.agg [.bool n,.ints .arg .u32 a,.int .i64 e],.agg [.bool m,.ints .arg .u32 b,.int .i64 f]]=bif (Og n a) then bif (Og m b) then bif ((Pc (wv n a)) !=(Pc (wv m b))) then bif (Og n a) then bif (Og m b) then some (.int .i64 (min 1 (max (-1:Int) (Ab ((Pc (wv n a))-(Pc (wv m b))))))) else none else none else bif (Og n a&&okE e) then bif (Og m b&&okE f) then bif ((Jq (wv n a) e) !=(Jq (wv m b) f)) then bif (Og n a&&okE e) then bif (Og m b&&okE f) then bif (Og n a) then bif ((Bi (Jq (wv m b) f) (Jq (wv n a) e))==(Bi 0 (Pc (wv n a)))) then some (.int .i64 1) else some (.int .i64 (-1:Int)) else none else none else none else bif (((okV n a&&okV m b)&&okE e)&&okE f) then bif (Og (Bu (S4 (wv n a) e (- wv m b) f)) (Aw (S4 (wv n a) e (- wv m b) f))) then some (.int .i64 (Pc (wv (Bu (S4 (wv n a) e (- wv m b) f)) (Aw (S4 (wv n a) e (- wv m b) f))))) else none else none else none else none else none else none :=
 Eq.trans (by kernel_rfl)
 (Cw (Ct _) (Cw (Ct _) (E1 (Cw (Ct _) (Cw (Ct _) rfl rfl) rfl) (Cw (Ct _) (Cw (Ct _) (E1 (Cw (Ct _) (Cw (Ct _) (Cw (Ct _) rfl rfl) rfl) rfl) rfl) rfl) rfl)) rfl) rfl)
abbrev _root_.Go.Proofs.S1.A0.Compare.Kn:=A8 prog 43 A0.Compare.spec
theorem A0.Compare.Ad (hk:A1 prog A0.Compare.Ba) (h:Hyp A0.Compare.E f43 A0.Compare.ts A0.Compare.pre A0.Compare.out):A0.Compare.Kn :=
 Al (A4 hk _ _ _) func43 (by kernel_rfl) (by kernel_rfl) h
end EqRefC
open EqRefC
def Aps (v e:Int):Option DV:=some (.agg [.bool (Bu v),.ints .arg .u32 (Aw v),.int .i64 e])
theorem wdy {drops:List Nat} {b:Bool} {l:List Int} {e:Int}:Wk drops (.agg [.bool b,.ints .arg .u32 l,.int .i64 e]) (.agg [.bool b,.ints .arg .u32 l,.int .i64 e]):=Wk.Hc (.cons .bool (.cons .W1 (.cons .int .nil)))
theorem As9 (v:Int):(Aw v).getD 0 0=((v.natAbs%4294967296:Nat):Int):=by
 have hg:=Tt (Ih v) 0
 rw [Et,Nat.mul_zero,A5o,Nat.div_one] at hg
 exact hg
theorem Alv {v:Int} {k:Nat} (h:El v.natAbs<268435456):El (Mm v k).natAbs<268435456:=by
 rw [Nz]
 exact A5s (Oi (Nat.div_le_self _ _)) h
theorem Aq8 {v:Int} {k:Nat} (h0:v≠0) (h:v.natAbs%2^k=0):Mm v k≠0∧T2 (Mm v k).natAbs+k=T2 v.natAbs:=by
 have hv:=Nat.div_add_mod v.natAbs (2^k)
 rw [h,A5y,A5e] at hv
 have hq:v.natAbs / 2^k≠0:=by
  intro e; rw [e] at hv; omega
 have ht:=Aem hq k
 rw [hv] at ht
 have ha:=Nz v k
 refine ⟨by omega,?_⟩
 rw [ha]
 omega
theorem Ar5 (N:Nat):∀ (F:Nat) (v e:Int),v≠0→T2 v.natAbs<F→El v.natAbs<268435456→-4000000000000≤e→e+T2 v.natAbs≤400000000000000 →
 A0.Of.L1 N F e (Bu v) (Aw v)=Aps (mD v) (eD v e):=by
 intro F
 induction F with
 | zero=>intro v e _ h; omega
 | succ F ih =>
   intro v e h0 hF hv h1 h2
   rw [A0.Of.Ch,K0 hv,A4q,Jc]
   by_cases ho:v%2=1
   ·have:Aon v=true:=A4r ho
    rw [this,A5p,A4u,Azk ho,Azs ho]
    rfl
   ·have:Aon v=false:=A4v ho
    have hm:v.natAbs%2^1=0:=by rw [Nat.pow_one]; omega
    obtain ⟨n1,n2⟩:=Aq8 h0 hm
    rw [this,A59,A4q,A4q,An (by omega) (by omega),ih (Mm v 1) (e+1) n1 (by omega) (Alv hv) (by omega) (by omega),Asp hm]
    have:=Atm (e:=e) hm h0
    rw [← this]
    rfl
theorem Ar6 (N:Nat):∀ (F:Nat) (v e:Int),v≠0→T2 v.natAbs<F→T2 v.natAbs<N→El v.natAbs<268435456→-4000000000000≤e→e+T2 v.natAbs≤400000000000000 →
 A0.Of.L0 N F e (Bu v) (Aw v)=Aps (mD v) (eD v e):=by
 intro F
 induction F with
 | zero=>intro v e _ h; omega
 | succ F ih =>
   intro v e h0 hF hN hv h1 h2
   have hl:=Kg (n:=v.natAbs) (by omega)
   rw [A0.Of.Au,Di,A4r (by omega),A4q,As9]
   by_cases hz:v.natAbs%4294967296=0
   ·have e0:(((v.natAbs%4294967296:Nat):Int)==0)=true:=by rw [hz]; rfl
    have o3:Lf ((Aw v).drop 1)=true:=P0 (by rw [List.length_drop,Di]; omega) (Aid (Ih v))
    have hm:v.natAbs%2^32=0:=by rw [two32]; exact hz
    obtain ⟨n1,n2⟩:=Aq8 h0 hm
    rw [e0,A4q,A4r (by omega),A4q,o3,A4q,Ali,An (by omega) (by omega),ih (Mm v 32) (e+32) n1 (by omega) (by omega) (Alv hv) (by omega) (by omega),Asp hm]
    have:=Atm (e:=e) hm h0
    rw [← this]
    rfl
   ·have e0:(((v.natAbs%4294967296:Nat):Int)==0)=false:=by simp only [A5l,ne_eq]; omega
    rw [e0,A4u]
    exact Ar5 N N v e h0 hN hv h1 h2
theorem Aqr {v:Int} (h0:v≠0) (h:El v.natAbs<268435456):T2 v.natAbs<8589934592:=by
 have h1:=Axt (n:=v.natAbs) (by omega)
 have h2:=Adl (n:=v.natAbs)
 omega
theorem A0.Of.known:A0.Of.Kn:=A0.Of.Ad (.cons Ag.Ix.known (.cons Ag.Made.known (.cons Ag.Yb.known .nil))) fun n a e hp=>by
 obtain ⟨h1,h2⟩:=Ac.1 hp
 obtain ⟨v,rfl,rfl,hv⟩:=Kq h1
 have h2:=Aq.1 h2
 by_cases h0:v=0
 ·subst h0
  refine ⟨0,.agg [.bool false,.nil,.int .i64 (0:Int)],[],?_,?_⟩
  ·rw [A0.Of.ev]; rfl
  ·show Wk [] _ (.agg [.bool (Bu (mD (wv (Bu 0) (Aw 0)))),.ints .arg .u32 (Aw (mD (wv (Bu 0) (Aw 0)))),.int .i64 (eD (wv (Bu 0) (Aw 0)) e)])
   rw [Jc,Rf.2 rfl]
   exact Wk.Hc (.cons .bool (.cons (.nil _ _) (.cons .int .nil)))
 ·refine ⟨T2 v.natAbs+1,A0.Of.out [.b (Bu v),.l (Aw v),.i e],[],?_,wdy⟩
  have ht:=Aqr h0 hv
  have hl:=Kg (n:=v.natAbs) (by omega)
  have e0:(((Aw v).length:Int)==0)=false:=by rw [Di]; simp only [A5l,ne_eq]; omega
  show _=Aps (mD (wv (Bu v) (Aw v))) (eD (wv (Bu v) (Aw v)) e)
  rw [A0.Of.ev,e0,A4u,Jc]
  exact Ar6 _ _ v e h0 (by omega) (by omega) hv (by omega) (by omega)
theorem A0.Neg.known:A0.Neg.Kn:=A0.Neg.Ad (.cons Ag.Neg.known .nil) fun n a e hp=>by
 refine ⟨0,A0.Neg.out [.b n,.l a,.i e],[],?_,wdy⟩
 have hp:Og n a=true:=hp
 rw [A0.Neg.ev,hp,A4q]
 rfl
theorem Wq (v:Int):(((Aw v).length:Int)==0)=decide (v=0):=by
 rw [Di,A46]
 simp only [beq_iff_eq,A4x]
 constructor
 ·intro h
  rcases Int.lt_trichotomy v 0 with k | k | k
  ·have:=Kg (n:=v.natAbs) (by omega); omega
  ·exact k
  ·have:=Kg (n:=v.natAbs) (by omega); omega
 ·intro h; rw [h]; rfl
theorem A0.Yc.known:A0.Yc.Kn:=A0.Yc.Ad .nil fun n a e m b f hp=>by
 obtain ⟨h1,h2⟩:=Ac.1 hp
 obtain ⟨v,rfl,rfl,hv⟩:=Kq h1
 obtain ⟨w,rfl,rfl,hw⟩:=Kq h2
 refine ⟨0,A0.Yc.out [.b (Bu v),.l (Aw v),.i e,.b (Bu w),.l (Aw w),.i f],[],?_,.int⟩
 show _=some (DV.int .i64 (Ec (wv (Bu v) (Aw v)) e (wv (Bu w) (Aw w)) f))
 rw [A0.Yc.ev,Jc,Jc,Wq,Wq]
 unfold Ec
 by_cases h:v=0
 ·rw [A4r h,A4q,A5d h]
 ·rw [A4v h,A4u,A5c h]
  by_cases h':w=0
  ·rw [A4r h',A4q,A5d h']
  ·rw [A4v h',A4u,A5c h']
theorem Z8 (k:Int):Jo 0 k=0:=by
 unfold Jo
 split
 ·exact Int.zero_mul _
 ·exact Td _
theorem A0.Level.known:A0.Level.Kn:=A0.Level.Ad (.cons Ag.Br.known .nil) fun n a e f hp=>by
 obtain ⟨h1,h2⟩:=Ac.1 hp
 obtain ⟨v,rfl,rfl,hv⟩:=Rd h1
 refine ⟨0,A0.Level.out [.b (Bu v),.l (Aw v),.i e,.i f],[],?_,Agh⟩
 show _=Ajf (Jo (wv (Bu v) (Aw v)) (e-f))
 unfold Aom at h2
 rw [Jc] at h2
 obtain ⟨h3,h4⟩:=Ac.1 h2
 have h3:=Aq.1 h3
 have h4:=Aq.1 h4
 rw [A0.Level.ev,Jc,Wq]
 by_cases h:v=0
 ·rw [A4r h,A4q,h,Z8]; rfl
 ·have o:Aze (Ab (e-f))=true:=by rw [An (by omega) (by omega)]; exact Aq.2 (by omega)
  rw [A4v h,A4u,h1,o,A4w,A4q,An (by omega) (by omega)]
  rfl
theorem Asw (n k:Nat):El (n*2^k)≤El n+k:=by
 refine Pp ?_
 have h1:=N5 n
 have h2:n*2^k<2^(32*El n)*2^k:=(Nat.mul_lt_mul_right (Co k)).2 h1
 rw [← A5f] at h2
 exact A51 h2 (A45 (by decide) (by omega))
theorem Asx (v k:Int):El (Jo v k).natAbs≤El v.natAbs+k.toNat:=by
 unfold Jo
 by_cases h:0≤k
 ·rw [A5d h,Int.natAbs_mul,Int.natAbs_natCast]
  exact Asw _ _
 ·rw [A5c h,Nz]
  exact A5x (Oi (Nat.div_le_self _ _)) (Nat.le_add_right _ _)
theorem Ah4 (v w:Int):El (v+w).natAbs≤max (El v.natAbs) (El w.natAbs)+1:=by
 refine Pp ?_
 have h1:=N5 v.natAbs
 have h2:=N5 w.natAbs
 have h3:2^(32*El v.natAbs)≤2^(32*max (El v.natAbs) (El w.natAbs)):=A45 (by decide) (by omega)
 have h4:2^(32*El w.natAbs)≤2^(32*max (El v.natAbs) (El w.natAbs)):=A45 (by decide) (by omega)
 rw [Qg]
 omega
theorem Aa0 {v e w f:Int} (he:-400000≤e∧e≤400000) (hf:-400000≤f∧f≤400000):-400000≤Ec v e w f∧Ec v e w f≤400000:=by
 unfold Ec
 split
 ·exact hf
 ·split
  ·exact he
  ·omega
theorem Zg {v e l:Int} (hv:El v.natAbs<134217728) (h:e-l≤800000):El (Jo v (e-l)).natAbs<140000000:=by
 have:=Asx v (e-l)
 omega
theorem A0.Add.known:A0.Add.Kn:=A0.Add.Ad (.cons Ag.Add.known (.cons A0.Level.known (.cons A0.Yc.known (.cons A0.Of.known .nil)))) fun n a e m b f hp=>by
 obtain ⟨h1,hf⟩:=Ac.1 hp
 obtain ⟨h2,he⟩:=Ac.1 h1
 obtain ⟨h3,h4⟩:=Ac.1 h2
 obtain ⟨v,rfl,rfl,hv⟩:=Rd h3
 obtain ⟨w,rfl,rfl,hw⟩:=Rd h4
 have he:=Aq.1 he
 have hf:=Aq.1 hf
 refine ⟨0,A0.Add.out [.b (Bu v),.l (Aw v),.i e,.b (Bu w),.l (Aw w),.i f],[],?_,wdy⟩
 show _=Aps (S4 (wv (Bu v) (Aw v)) e (wv (Bu w) (Aw w)) f) (Aui (wv (Bu v) (Aw v)) e (wv (Bu w) (Aw w)) f)
 have hlo:=Aa0 (v:=v) (w:=w) he hf
 have l1:=Zg (l:=Ec v e w f) hv (show e-Ec v e w f≤800000 by omega)
 have l2:=Zg (l:=Ec v e w f) hw (show f-Ec v e w f≤800000 by omega)
 have l3:=Ah4 (Jo v (e-Ec v e w f)) (Jo w (f-Ec v e w f))
 have o1:Aom v e (Ec v e w f)=true:=Ac.2 ⟨Aq.2 (by omega),Aq.2 (by omega)⟩
 have o2:Aom w f (Ec v e w f)=true:=Ac.2 ⟨Aq.2 (by omega),Aq.2 (by omega)⟩
 have o3:Afb (Ec v e w f)=true:=Aq.2 (by omega)
 rw [A0.Add.ev]
 simp only [Jc]
 rw [K0 (v:=v) (by omega),K0 (v:=w) (by omega),h3,h4,o1,o2,K0 (v:=Jo v (e-Ec v e w f)) (by omega),K0 (v:=Jo w (f-Ec v e w f)) (by omega),K0 (v:=Jo v (e-Ec v e w f)+Jo w (f-Ec v e w f)) (by omega),o3]
 simp only [A4w,A4q]
 rfl
theorem A0.Sub.known:A0.Sub.Kn:=A0.Sub.Ad (.cons A0.Add.known (.cons A0.Neg.known .nil)) fun n a e m b f hp=>by
 obtain ⟨h1,hf⟩:=Ac.1 hp
 obtain ⟨h2,he⟩:=Ac.1 h1
 obtain ⟨h3,h4⟩:=Ac.1 h2
 obtain ⟨w,rfl,rfl,hw⟩:=Rd h4
 refine ⟨0,A0.Sub.out [.b n,.l a,.i e,.b (Bu w),.l (Aw w),.i f],[],?_,wdy⟩
 show _=Aps (S4 (wv n a) e (- wv (Bu w) (Aw w)) f) (Aui (wv n a) e (- wv (Bu w) (Aw w)) f)
 rw [A0.Sub.ev]
 simp only [Jc]
 rw [K0 (v:=w) (by omega),h3,Ar4 (v:=-w) (by rw [Int.natAbs_neg]; exact hw),he,hf]
 rfl
theorem Ah5 {v:Int} (h:El v.natAbs<268435456):0≤Aa5 v∧Aa5 v≤8589934593:=by
 have h2:=Adl (n:=v.natAbs)
 unfold Aa5
 split
 ·omega
 ·constructor<;>omega
theorem A0.W7.known:A0.W7.Kn:=A0.W7.Ad (.cons Ag.R1.known .nil) fun n a e hp=>by
 obtain ⟨h1,he⟩:=Ac.1 hp
 obtain ⟨v,rfl,rfl,hv⟩:=Kq h1
 have he:=Aq.1 he
 refine ⟨0,A0.W7.out [.b (Bu v),.l (Aw v),.i e],[],?_,.int⟩
 show _=some (DV.int .i64 (Jq (wv (Bu v) (Aw v)) e))
 have hb:=Ah5 hv
 rw [A0.W7.ev,Jc,Wq,h1]
 unfold Jq
 by_cases h:v=0
 ·rw [A4r h,A4q,A5d h]
 ·rw [A4v h,A4u,A4q,A5c h,An (by omega) (by omega)]
theorem A0.Sign.known:A0.Sign.Kn:=A0.Sign.Ad .nil fun n a e hp=>by
 obtain ⟨v,rfl,rfl,hv⟩:=Kq hp
 refine ⟨0,A0.Sign.out [.b (Bu v),.l (Aw v),.i e],[],?_,.int⟩
 show _=some (DV.int .i64 (Pc (wv (Bu v) (Aw v))))
 rw [A0.Sign.ev,Jc,Di]
 unfold Pc Bu
 by_cases h:v<0
 ·rw [A4r h,A4q,A5d h]
 ·rw [A4v h,A4u,A5c h]
  by_cases h':v=0
  ·rw [A5d h',h']; rfl
  ·have:=Kg (n:=v.natAbs) (by omega)
   rw [A5c h']
   congr 2
   omega
open EqRefC
theorem Akr {v e w f:Int}:(v≠0→0≤e-Ec v e w f)∧(w≠0→0≤f-Ec v e w f):=by
 unfold Ec
 constructor
 ·intro h
  rw [A5c h]
  split<;>omega
 ·intro h
  split
  ·omega
  ·omega
theorem Z9 {v k:Int} (h:v≠0→0≤k):∃ j:Nat,Jo v k=v*((2^j:Nat):Int)∧(v≠0→(j:Int)=k):=by
 by_cases h0:v=0
 ·exact ⟨0,by rw [h0,Z8,Int.zero_mul],fun k=>absurd h0 k⟩
 ·have hk:=h h0
  refine ⟨k.toNat,?_,fun _=>by omega⟩
  unfold Jo
  rw [A5d hk]
theorem Aau (v:Int) (j:Nat):(v*((2^j:Nat):Int)<0↔v<0)∧(v*((2^j:Nat):Int)=0↔v=0):=by
 have hp:=Co j
 constructor
 ·constructor
  ·intro h
   rcases Int.lt_or_le v 0 with h1 | h1
   ·exact h1
   ·have:=Int.mul_nonneg h1 (Int.natCast_nonneg (2^j)); omega
  ·intro h
   exact Int.mul_neg_of_neg_of_pos h (by omega)
 ·constructor
  ·intro h
   rcases Int.mul_eq_zero.1 h with h | h
   ·exact h
   ·omega
  ·intro h; rw [h,Int.zero_mul]
theorem Aex (v:Int) (j:Nat):Pc (v*((2^j:Nat):Int))=Pc v:=by
 obtain ⟨h1,h2⟩:=Aau v j
 unfold Pc
 simp only [h1,h2]
theorem Ay0 (v:Int):Pc (mD v)=Pc v:=by
 have:=Aex (mD v) (T2 v.natAbs)
 rw [← Zm] at this
 exact this.symm
theorem Aw8 (x y:Int):Pc (x+-y)=Y9 x y:=by
 unfold Pc Y9
 by_cases h:x<y
 ·rw [A5d (by omega),A5d h]
 ·rw [A5c (by omega),A5c h]
  by_cases h':y<x
  ·rw [A5c (by omega),A5d h']
  ·rw [A5d (by omega),A5c h']
theorem Awc (v e w f:Int):Ec v e (-w) f=Ec v e w f:=by
 unfold Ec
 have:(-w=0)=(w=0):=propext ⟨fun h=>by omega,fun h=>by omega⟩
 simp only [this]
theorem Atz {x y:Int} (h:Pc x≠Pc y):Y9 x y=min 1 (max (-1) (Pc x-Pc y)):=by
 unfold Pc at h ⊢
 unfold Y9
 rcases Int.lt_trichotomy x 0 with h1 | h1 | h1<;>rcases Int.lt_trichotomy y 0 with h2 | h2 | h2
 all_goals
  first
  | (exfalso; apply h; simp [show x<0 by omega,show y<0 by omega]; done)
  | (exfalso; apply h; subst h1; subst h2; rfl)
  | (exfalso; apply h; rw [A5c (by omega),A5c (by omega),A5c (by omega),A5c (by omega)]; done)
  | skip
 ·rw [A5d (by omega),A5d (by omega),A5c (by omega),A5d (by omega)]; decide
 ·rw [A5d (by omega),A5d (by omega),A5c (by omega),A5c (by omega)]; decide
 ·rw [A5c (by omega),A5d (by omega),A5c (by omega),A5d (by omega),A5d (by omega)]; decide
 ·rw [A5d (by omega),A5c (by omega),A5d (by omega),A5c (by omega),A5c (by omega)]; decide
 ·rw [A5c (by omega),A5d (by omega),A5c (by omega),A5c (by omega),A5d (by omega)]; decide
 ·rw [A5c (by omega),A5d (by omega),A5c (by omega),A5c (by omega),A5c (by omega),A5d (by omega)]; decide
theorem Aa2 {a b:Nat} (ha:a≠0) (h:a.log2<b.log2):a<b:=by
 rcases A5n a b with k | k
 ·exact k
 ·have hb:b≠0:=by
   intro e; rw [e] at h
   exact absurd h (by rw [show (0:Nat).log2=0 by decide]; omega)
  have:=(Nat.le_log2 ha).2 (A5x (Nat.log2_self_le hb) k)
  omega
theorem Aw7 {v e w f:Int} (hs:Pc v=Pc w) (ht:Jq v e≠Jq w f) :
 Za v e w f=if (decide (Jq w f<Jq v e)==decide (0<Pc v))=true then 1 else -1:=by
 obtain ⟨u1,u2⟩:=Akr (v:=v) (e:=e) (w:=w) (f:=f)
 obtain ⟨j,hx,hj⟩:=Z9 u1
 obtain ⟨k,hy,hk⟩:=Z9 u2
 unfold Za
 rw [hx,hy]
 have z:v=0↔w=0:=by
  unfold Pc at hs
  constructor
  ·intro h; subst h
   revert hs
   simp
   split<;>simp_all
  ·intro h; subst h
   revert hs
   simp
   split<;>simp_all
 by_cases v0:v=0
 ·exfalso
  apply ht
  unfold Jq
  rw [A5d v0,A5d (z.1 v0)]
 ·have w0:w≠0:=fun h=>v0 (z.2 h)
  have hj:=hj v0
  have hk:=hk w0
  have nv:v.natAbs≠0:=by omega
  have nw:w.natAbs≠0:=by omega
  have l1:=Nd v.natAbs j nv
  have l2:=Nd w.natAbs k nw
  have ax:(v*((2^j:Nat):Int)).natAbs=v.natAbs*2^j:=by rw [Int.natAbs_mul,Int.natAbs_natCast]
  have ay:(w*((2^k:Nat):Int)).natAbs=w.natAbs*2^k:=by rw [Int.natAbs_mul,Int.natAbs_natCast]
  have sx:=(Aau v j).1
  have sy:=(Aau w k).1
  have zx:=Asj v0 j
  have zy:=Asj w0 k
  have tv:Jq v e=(v.natAbs.log2:Int)+1+e:=by unfold Jq Aa5; rw [A5c v0,A5c v0]
  have tw:Jq w f=(w.natAbs.log2:Int)+1+f:=by unfold Jq Aa5; rw [A5c w0,A5c w0]
  have big:Jq w f<Jq v e→w.natAbs*2^k<v.natAbs*2^j:=fun h=>Aa2 (Jw nw) (by omega)
  have lit:Jq v e<Jq w f→v.natAbs*2^j<w.natAbs*2^k:=fun h=>Aa2 (Jw nv) (by omega)
  generalize v*((2^j:Nat):Int)=x at *
  generalize w*((2^k:Nat):Int)=y at *
  by_cases hv:v<0
  ·have sv:Pc v=-1:=by unfold Pc; rw [A5d hv]
   have hw:w<0:=by
    rw [sv] at hs
    unfold Pc at hs
    rcases Int.lt_or_le w 0 with q | q
    ·exact q
    ·rw [A5c (by omega),A5c w0] at hs; omega
   rw [sv]
   unfold Y9
   by_cases h:Jq w f<Jq v e
   ·have:=big h
    rw [A4r h,A5d (by omega)]; rfl
   ·have:=lit (by omega)
    rw [A4v h,A5c (by omega),A5d (by omega)]; rfl
  ·have sv:Pc v=1:=by unfold Pc; rw [A5c hv,A5c v0]
   have hw:¬ w<0:=by
    intro q
    rw [sv] at hs
    unfold Pc at hs
    rw [A5d q] at hs; omega
   rw [sv]
   unfold Y9
   by_cases h:Jq w f<Jq v e
   ·have:=big h
    rw [A4r h,A5c (by omega),A5d (by omega)]; rfl
   ·have:=lit (by omega)
    rw [A4v h,A5d (by omega)]; rfl
theorem Avg (v e w f:Int):Pc (S4 v e (-w) f)=Za v e w f:=by
 obtain ⟨u1,u2⟩:=Akr (v:=v) (e:=e) (w:=w) (f:=f)
 obtain ⟨k,hy,hk⟩:=Z9 u2
 have hy':Jo (-w) (f-Ec v e w f)=-(Jo w (f-Ec v e w f)):=by
  by_cases w0:w=0
  ·rw [w0]; show Jo 0 _=_; rw [Z8]; rfl
  ·unfold Jo
   rw [A5d (u2 w0),A5d (u2 w0),Int.neg_mul]
 unfold S4 Aue Za
 rw [Ay0,Awc,hy',Aw8]
theorem Apu {v e w f:Int} (h:Pc v≠Pc w):Za v e w f=min 1 (max (-1) (Pc v-Pc w)):=by
 obtain ⟨u1,u2⟩:=Akr (v:=v) (e:=e) (w:=w) (f:=f)
 obtain ⟨j,hx,hj⟩:=Z9 u1
 obtain ⟨k,hy,hk⟩:=Z9 u2
 have e1:=Aex v j
 have e2:=Aex w k
 unfold Za
 rw [hx,hy,← e1,← e2]
 exact Atz (by rw [e1,e2]; exact h)
theorem Aaa (v:Int):-1≤Pc v∧Pc v≤1:=by unfold Pc; split<;>(try split)<;>omega
theorem Auh {v e w f:Int} (hv:El v.natAbs<134217728) (hw:El w.natAbs<134217728) (he:-400000≤e∧e≤400000) (hf:-400000≤f∧f≤400000):El (S4 v e w f).natAbs<140000001:=by
 have hlo:=Aa0 (v:=v) (w:=w) he hf
 have l1:=Zg (l:=Ec v e w f) hv (show e-Ec v e w f≤800000 by omega)
 have l2:=Zg (l:=Ec v e w f) hw (show f-Ec v e w f≤800000 by omega)
 have l3:=Ah4 (Jo v (e-Ec v e w f)) (Jo w (f-Ec v e w f))
 have l4:=Oi (Adk (Aue v e w f))
 unfold S4
 unfold Aue at l4 ⊢
 omega
theorem A0.Compare.known:A0.Compare.Kn:=A0.Compare.Ad (.cons A0.Sign.known (.cons A0.Sub.known (.cons A0.W7.known .nil))) fun n a e m b f hp=>by
 obtain ⟨h1,hf⟩:=Ac.1 hp
 obtain ⟨h2,he⟩:=Ac.1 h1
 obtain ⟨h3,h4⟩:=Ac.1 h2
 obtain ⟨v,rfl,rfl,hv⟩:=Rd h3
 obtain ⟨w,rfl,rfl,hw⟩:=Rd h4
 refine ⟨0,A0.Compare.out [.b (Bu v),.l (Aw v),.i e,.b (Bu w),.l (Aw w),.i f],[],?_,.int⟩
 show _=some (DV.int .i64 (Za (wv (Bu v) (Aw v)) e (wv (Bu w) (Aw w)) f))
 have bv:=Aaa v
 have bw:=Aaa w
 have hm:=Auh (v:=v) (w:=-w) hv (by rw [Int.natAbs_neg]; exact hw) (Aq.1 he) (Aq.1 hf)
 rw [A0.Compare.ev]
 simp only [Jc]
 rw [K0 (v:=v) (by omega),K0 (v:=w) (by omega),K0 (v:=S4 v e (-w) f) (by omega),h3,h4,he,hf,Av,Av]
 simp only [A4w,A4q]
 by_cases hs:Pc v=Pc w
 ·have e0:(Pc v !=Pc w)=false:=by simp [hs]
  rw [e0,A4u]
  by_cases ht:Jq v e=Jq w f
  ·have e1:(Jq v e !=Jq w f)=false:=by simp [ht]
   rw [e1,A4u,Avg]
  ·have e1:(Jq v e !=Jq w f)=true:=by simp [ht]
   rw [e1,A4q,Aw7 hs ht]
   cases (decide (Jq w f<Jq v e)==decide (0<Pc v))<;>rfl
 ·have e0:(Pc v !=Pc w)=true:=by simp [hs]
  rw [e0,A4q,Apu hs,An (by omega) (by omega)]
namespace EqRefE
def A6.Value.Ba:List (Nat × Entry):=[(103,Ag.Neg.spec),(40,Ag.Of.spec),(39,A0.Of.spec),(100,A6.Lx.spec),(102,A6.Neg.spec),(101,A6.Power.spec)]
def A6.Value.E:Env:=Bg (Bb A6.Value.Ba) (fun _=>false) (fun _=>none) (fun _=>none)
theorem A6.Value.ev (N:Nat) (x:Int):B0 A6.Value.E N f38 (Ak f38) [.int .u64 x]=bif (Re x) then bif (Amk (Ab (Dq x))) then bif (Re x) then bif (Bi 0 (N0 x)) then bif (Re x) then bif (Amk (Ab (Bs ((Dq x)+4503599627370496)))) then bif (Re x) then bif (Af x) then bif (Eb x) then bif (Og (Bu ((Ab (Bs ((Dq x)+4503599627370496))))) (Aw ((Ab (Bs ((Dq x)+4503599627370496)))))) then bif (Og (Bu (- wv (Bu ((Ab (Bs ((Dq x)+4503599627370496))))) (Aw ((Ab (Bs ((Dq x)+4503599627370496))))))) (Aw (- wv (Bu ((Ab (Bs ((Dq x)+4503599627370496))))) (Aw ((Ab (Bs ((Dq x)+4503599627370496)))))))&&Afb (Ab ((N0 x)-1075))) then some (.agg [.bool (Bu (mD (wv (Bu (- wv (Bu ((Ab (Bs ((Dq x)+4503599627370496))))) (Aw ((Ab (Bs ((Dq x)+4503599627370496))))))) (Aw (- wv (Bu ((Ab (Bs ((Dq x)+4503599627370496))))) (Aw ((Ab (Bs ((Dq x)+4503599627370496)))))))))),.ints .arg .u32 (Aw (mD (wv (Bu (- wv (Bu ((Ab (Bs ((Dq x)+4503599627370496))))) (Aw ((Ab (Bs ((Dq x)+4503599627370496))))))) (Aw (- wv (Bu ((Ab (Bs ((Dq x)+4503599627370496))))) (Aw ((Ab (Bs ((Dq x)+4503599627370496)))))))))),.int .i64 (eD (wv (Bu (- wv (Bu ((Ab (Bs ((Dq x)+4503599627370496))))) (Aw ((Ab (Bs ((Dq x)+4503599627370496))))))) (Aw (- wv (Bu ((Ab (Bs ((Dq x)+4503599627370496))))) (Aw ((Ab (Bs ((Dq x)+4503599627370496)))))))) (Ab ((N0 x)-1075)))]) else none else none else bif (Og (Bu ((Ab (Bs ((Dq x)+4503599627370496))))) (Aw ((Ab (Bs ((Dq x)+4503599627370496)))))&&Afb (Ab ((N0 x)-1075))) then some (.agg [.bool (Bu (mD (wv (Bu ((Ab (Bs ((Dq x)+4503599627370496))))) (Aw ((Ab (Bs ((Dq x)+4503599627370496)))))))),.ints .arg .u32 (Aw (mD (wv (Bu ((Ab (Bs ((Dq x)+4503599627370496))))) (Aw ((Ab (Bs ((Dq x)+4503599627370496)))))))),.int .i64 (eD (wv (Bu ((Ab (Bs ((Dq x)+4503599627370496))))) (Aw ((Ab (Bs ((Dq x)+4503599627370496)))))) (Ab ((N0 x)-1075)))]) else none else none else none else none else none else bif (Af x) then bif (Eb x) then bif (Og (Bu ((Ab (Dq x)))) (Aw ((Ab (Dq x))))) then bif (Og (Bu (- wv (Bu ((Ab (Dq x)))) (Aw ((Ab (Dq x)))))) (Aw (- wv (Bu ((Ab (Dq x)))) (Aw ((Ab (Dq x))))))&&Afb (-1074:Int)) then some (.agg [.bool (Bu (mD (wv (Bu (- wv (Bu ((Ab (Dq x)))) (Aw ((Ab (Dq x)))))) (Aw (- wv (Bu ((Ab (Dq x)))) (Aw ((Ab (Dq x))))))))),.ints .arg .u32 (Aw (mD (wv (Bu (- wv (Bu ((Ab (Dq x)))) (Aw ((Ab (Dq x)))))) (Aw (- wv (Bu ((Ab (Dq x)))) (Aw ((Ab (Dq x))))))))),.int .i64 (eD (wv (Bu (- wv (Bu ((Ab (Dq x)))) (Aw ((Ab (Dq x)))))) (Aw (- wv (Bu ((Ab (Dq x)))) (Aw ((Ab (Dq x))))))) (-1074:Int))]) else none else none else bif (Og (Bu ((Ab (Dq x)))) (Aw ((Ab (Dq x))))&&Afb (-1074:Int)) then some (.agg [.bool (Bu (mD (wv (Bu ((Ab (Dq x)))) (Aw ((Ab (Dq x))))))),.ints .arg .u32 (Aw (mD (wv (Bu ((Ab (Dq x)))) (Aw ((Ab (Dq x))))))),.int .i64 (eD (wv (Bu ((Ab (Dq x)))) (Aw ((Ab (Dq x))))) (-1074:Int))]) else none else none else none else none else none:=by kernel_rfl
abbrev _root_.Go.Proofs.S1.A6.Value.Kn:=A8 prog 38 A6.Value.spec
theorem A6.Value.Ad (hk:A1 prog A6.Value.Ba) (h:Hyp A6.Value.E f38 A6.Value.ts A6.Value.pre A6.Value.out):A6.Value.Kn :=
 Al (A4 hk _ _ _) func38 (by kernel_rfl) (by kernel_rfl) h
end EqRefE
open EqRefE
theorem Amg {n k:Nat} (h:n<2^(32*k)) {m:Nat} (hk:k<m):El n<m:=A5s (Pp h) hk
theorem Vr (m:Nat):Jb false m=(m:Int):=rfl
theorem Ag3 (m:Nat):Jb true m=-(m:Int):=rfl
theorem A6.Value.known:A6.Value.Kn:=A6.Value.Ad (.cons Ag.Neg.known (.cons Ag.Of.known (.cons A0.Of.known (.cons A6.Lx.known (.cons A6.Neg.known (.cons A6.Power.known .nil)))))) fun x hp=>by
 obtain ⟨n,rfl,hn⟩:=By (x:=x) hp
 refine ⟨0,A6.Value.out [.i n],[],?_,wdy⟩
 show _=Aps (mD (F8 n)) (eD (F8 n) (Bo n))
 have hf:=Kh n
 have hw:=J4 n
 have small:∀ k:Nat,k<2^54→El k<268435456:=fun k hk=>Amg (k:=2) (Nat.lt_trans hk (by decide)) (by omega)
 have o1:∀ k:Nat,k<2^54→Og (Bu (k:Int)) (Aw (k:Int))=true:=fun k hk=>K0 (by rw [Int.natAbs_natCast]; exact small k hk)
 have o2:∀ k:Nat,k<2^54→Og (Bu (-(k:Int))) (Aw (-(k:Int)))=true:=fun k hk=>K0 (by rw [Int.natAbs_neg,Int.natAbs_natCast]; exact small k hk)
 rw [A6.Value.ev]
 unfold Dq N0 Eb F8 Bo
 simp only [Jc,A4s]
 have e1:Ab ((Dj n:Nat):Int)=((Dj n:Nat):Int):=An (by omega) (by omega)
 have e2:Ab (Bs (((Dj n:Nat):Int)+4503599627370496))=((Dj n+2^52:Nat):Int):=by
  rw [Ef (by omega) (by omega),An (by omega) (by omega)]; omega
 have i1:∀ k:Nat,k<2^54→Amk (k:Int)=true:=fun k hk=>Aq.2 (by omega)
 rw [Na,Cm hn,e1,e2,i1 _ (by omega),i1 _ (by omega),Av,An (by omega) (by omega)]
 simp only [A4q]
 unfold Ax A2
 by_cases h:D7 n=0
 ·have o3:Afb (-1074)=true:=Aq.2 (by omega)
  rw [A5d h,A5d h,A4v (by omega),A4u,o1 _ (by omega),o2 _ (by omega),o3]
  cases Bx n
  ·rw [A4u,Vr]; rfl
  ·rw [A4q,Ag3]; rfl
 ·have o3:Afb ((D7 n:Int)-1075)=true:=Aq.2 (by omega)
  rw [A5c h,A5c h,A4r (by omega),A4q,o1 _ (by omega),o2 _ (by omega),o3]
  cases Bx n
  ·rw [A4u,Vr]; rfl
  ·rw [A4q,Ag3]; rfl
theorem Aqs {m t:Nat} (h:m<2^t) (h0:m≠0):T2 m<t:=A5s (Axt h0) ((A56 h0).2 h)
theorem Aqh (b:Nat) (g:Int):Ho b g=vAt (F8 (b:Int)) (A2 b) g:=by
 unfold Ho vAt F8
 rw [A4s]
 generalize 2^(A2 b-g).toNat=p
 unfold Jb
 cases Bx b
 ·exact A5b _ _
 ·show -((Ax b*p:Nat):Int)=-(Ax b:Int)*(p:Int)
  rw [A5b,Int.neg_mul]
theorem Aej (b:Nat):(F8 (b:Int)).natAbs=Ax b:=by
 unfold F8 Jb
 rw [A4s]
 split<;>omega
theorem Aya (b:Nat):El (F8 (b:Int)).natAbs<3∧-400000≤eD (F8 (b:Int)) (A2 b)∧eD (F8 (b:Int)) (A2 b)≤400000:=by
 have hm:=Gc b
 have he:=Dt b
 have ha:=Aej b
 refine ⟨Amg (k:=2) (by rw [ha]; exact Nat.lt_trans hm (by decide)) (by omega),?_⟩
 unfold eD
 by_cases h:F8 (b:Int)=0
 ·rw [A5d h]; omega
 ·rw [A5c h]
  have:=Aqs (m:=(F8 (b:Int)).natAbs) (t:=53) (by rw [ha]; exact hm) (by omega)
  omega
namespace EqCmp
def compare.Ma.Ba:List (Nat × Entry):=[(181,soft.Sign.spec)]
def compare.Ma.E:Env:=Bg (Bb compare.Ma.Ba) (fun _=>false) (fun _=>none) (fun _=>none)
theorem compare.Ma.ev (N:Nat) (b:Int):B0 compare.Ma.E N f172 (Ak f172) [.int .u64 b]=bif (Af b) then bif (Eb b) then some (.int .i64 (Ab (0-(Ab (H8 .u64 b 9223372036854775808))))) else some (.int .i64 (Ab b)) else none:=by kernel_rfl
abbrev _root_.Go.Proofs.S1.compare.Ma.Kn:=A8 prog 172 compare.Ma.spec
theorem compare.Ma.Ad (hk:A1 prog compare.Ma.Ba) (h:Hyp compare.Ma.E f172 compare.Ma.ts compare.Ma.pre compare.Ma.out):compare.Ma.Kn :=
 Al (A4 hk _ _ _) func172 (by kernel_rfl) (by kernel_rfl) h
def compare.Order.Ba:List (Nat × Entry):=[(172,compare.Ma.spec),(165,soft.Kind.spec)]
def compare.Order.E:Env:=Bg (Bb compare.Order.Ba) (fun _=>false) (fun _=>none) (fun _=>none)
theorem compare.Order.ev (N:Nat) (a b:Int):B0 compare.Order.E N f131 (Ak f131) [.int .u64 a,.int .u64 b]=bif (Af a) then bif ((Bz a)==(4:Int)) then some (.tup [.int .i64 0,.bool false]) else bif (Af b) then bif ((Bz b)==(4:Int)) then some (.tup [.int .i64 0,.bool false]) else bif (Af a) then bif (Af b) then bif (Bi (Ac9 a) (Ac9 b)) then some (.tup [.int .i64 (-1:Int),.bool true]) else bif (Af a) then bif (Af b) then bif (Bi (Ac9 b) (Ac9 a)) then some (.tup [.int .i64 1,.bool true]) else some (.tup [.int .i64 0,.bool true]) else none else none else none else none else none else none:=by kernel_rfl
abbrev _root_.Go.Proofs.S1.compare.Order.Kn:=A8 prog 131 compare.Order.spec
theorem compare.Order.Ad (hk:A1 prog compare.Order.Ba) (h:Hyp compare.Order.E f131 compare.Order.ts compare.Order.pre compare.Order.out):compare.Order.Kn :=
 Al (A4 hk _ _ _) func131 (by kernel_rfl) (by kernel_rfl) h
def compare.K3.Ba:List (Nat × Entry):=[(131,compare.Order.spec)]
def compare.K3.E:Env:=Bg (Bb compare.K3.Ba) (fun _=>false) (fun _=>none) (fun _=>none)
theorem compare.K3.ev (N:Nat) (a b:Int):B0 compare.K3.E N f78 (Ak f78) [.int .u64 a,.int .u64 b]=bif (Af a&&Af b) then some (.bool (Bi (G7 a b) 0)) else none:=by kernel_rfl
abbrev _root_.Go.Proofs.S1.compare.K3.Kn:=A8 prog 78 compare.K3.spec
theorem compare.K3.Ad (hk:A1 prog compare.K3.Ba) (h:Hyp compare.K3.E f78 compare.K3.ts compare.K3.pre compare.K3.out):compare.K3.Kn :=
 Al (A4 hk _ _ _) func78 (by kernel_rfl) (by kernel_rfl) h
def compare.Hn.Ba:List (Nat × Entry):=[]
def compare.Hn.E:Env:=Bg (Bb compare.Hn.Ba) (fun _=>false) (fun _=>none) (fun _=>none)
theorem compare.Hn.ev (N:Nat) (a:Int):B0 compare.Hn.E N f80 (Ak f80) [.int .u64 a]=some (.int .u64 (H8 .u64 a 9223372036854775808)):=by kernel_rfl
abbrev _root_.Go.Proofs.S1.compare.Hn.Kn:=A8 prog 80 compare.Hn.spec
theorem compare.Hn.Ad (hk:A1 prog compare.Hn.Ba) (h:Hyp compare.Hn.E f80 compare.Hn.ts compare.Hn.pre compare.Hn.out):compare.Hn.Kn :=
 Al (A4 hk _ _ _) func80 (by kernel_rfl) (by kernel_rfl) h
def compare.Fv.hint:Nat→Option Bc
 | 1=>some { keep:=[0,6,7,8],objs:=[],boxes:=[] }
 | _=>none
def compare.Fv.Ba:List (Nat × Entry):=[(165,soft.Kind.spec),(180,soft.D5.spec),(166,soft.Gy.spec),(181,soft.Sign.spec)]
def compare.Fv.E:Env:=Bg (Bb compare.Fv.Ba) (fun _=>false) compare.Fv.hint (fun _=>none)
section
variable (N M:Nat) (a n p6 p7:Int) (p8:Bool)
def compare.Fv.L0:Option DV:=Cb compare.Fv.E N f143 (Ak f143) [1,1,1,1,1,1,0,0] [] M ⟨Fo 59 [(0,.int .u64 a),(6,.int .u64 p6),(7,.int .i64 p7),(8,.bool p8)],[]⟩
theorem compare.Fv.Au:compare.Fv.L0 N (M+1) a p6 p7 p8=bif ((Bi p7 (-1130:Int))&&(Bi 1 p6)) then compare.Fv.L0 N M a (Ed .u64 p6 1) (Ab (p7+1)) (bif p8 then true else ((Fy .u64 p6 1)==(1:Int))) else bif (Bi p7 (-1130:Int)) then bif (Af a) then bif (Fe 0 (-1074:Int) true) then some (.tup [.int .u64 (F1 (Eb a) 0 (-1074:Int) true),.int .u8 (F0 (Eb a) 0 (-1074:Int) true)]) else none else none else bif (Af a) then bif (Fe p6 p7 p8) then some (.tup [.int .u64 (F1 (Eb a) p6 p7 p8),.int .u8 (F0 (Eb a) p6 p7 p8)]) else none else none :=
 Eq.trans (by kernel_rfl)
 (Ay (R5 (Bi p7 (-1130:Int))) (Ay (Oo (Bi p7 (-1130:Int))) (Ay (W8 (Bi p7 (-1130:Int))) (Cw (tt1 _ _) (Ay (T3 p8) (Ay (Rv p8) (Ay (Rv p8) (Ay (Y5 p8) rfl)))) rfl))))
theorem compare.Fv.ev:B0 compare.Fv.E N f143 (Ak f143) [.int .u64 a,.int .i64 n]=bif (Af a) then bif ((Bz a)==(4:Int)) then some (.tup [.int .u64 9221120237041090560,.int .u8 0]) else bif ((Bz a)==(3:Int)) then bif ((Bz a)==(3:Int)) then some (.tup [.int .u64 a,.int .u8 0]) else bif (Af a) then compare.Fv.L0 N N a (B7 a) (Ab ((Bo a)+(max (-2300:Int) (min 2300 n)))) false else none else bif ((Bz a)==(0:Int)) then some (.tup [.int .u64 a,.int .u8 0]) else bif (Af a) then compare.Fv.L0 N N a (B7 a) (Ab ((Bo a)+(max (-2300:Int) (min 2300 n)))) false else none else none:=by kernel_rfl
end
abbrev _root_.Go.Proofs.S1.compare.Fv.Kn:=A8 prog 143 compare.Fv.spec
theorem compare.Fv.Ad (hk:A1 prog compare.Fv.Ba) (h:Hyp compare.Fv.E f143 compare.Fv.ts compare.Fv.pre compare.Fv.out):compare.Fv.Kn :=
 Al (A4 hk _ _ _) func143 (by kernel_rfl) (by kernel_rfl) h
def Ae.Br.Ba:List (Nat × Entry):=[(143,compare.Fv.spec)]
def Ae.Br.E:Env:=Bg (Bb Ae.Br.Ba) (fun _=>false) (fun _=>none) (fun _=>none)
theorem Ae.Br.ev (N:Nat) (a n:Int):B0 Ae.Br.E N f79 (Ak f79) [.int .u64 a,.int .i64 n]=bif (Dd a n) then some (.int .u64 (Bf a n)) else none:=by kernel_rfl
abbrev _root_.Go.Proofs.S1.Ae.Br.Kn:=A8 prog 79 Ae.Br.spec
theorem Ae.Br.Ad (hk:A1 prog Ae.Br.Ba) (h:Hyp Ae.Br.E f79 Ae.Br.ts Ae.Br.pre Ae.Br.out):Ae.Br.Kn :=
 Al (A4 hk _ _ _) func79 (by kernel_rfl) (by kernel_rfl) h
def Ae.Div.Ba:List (Nat × Entry):=[(144,times.Div.spec)]
def Ae.Div.E:Env:=Bg (Bb Ae.Div.Ba) (fun _=>false) (fun _=>none) (fun _=>none)
theorem Ae.Div.ev (N:Nat) (a b:Int):B0 Ae.Div.E N f82 (Ak f82) [.int .u64 a,.int .u64 b]=bif (Af a&&Af b) then some (.int .u64 (Es a b)) else none:=by kernel_rfl
abbrev _root_.Go.Proofs.S1.Ae.Div.Kn:=A8 prog 82 Ae.Div.spec
theorem Ae.Div.Ad (hk:A1 prog Ae.Div.Ba) (h:Hyp Ae.Div.E f82 Ae.Div.ts Ae.Div.pre Ae.Div.out):Ae.Div.Kn :=
 Al (A4 hk _ _ _) func82 (by kernel_rfl) (by kernel_rfl) h
def Ae.Bv.hint:Nat→Option Bc
 | 0=>some { keep:=[3,6,7,8],objs:=[],boxes:=[] }
 | _=>none
def Ae.Bv.Ba:List (Nat × Entry):=[(80,compare.Hn.spec),(165,soft.Kind.spec)]
def Ae.Bv.E:Env:=Bg (Bb Ae.Bv.Ba) (fun _=>false) Ae.Bv.hint (fun _=>none)
section
variable (N M:Nat) (x:List Int) (p3 p8:Int)
def Ae.Bv.L0:Option DV:=Cb Ae.Bv.E N f124 (Ak f124) [1,1,0,1,0] [] M ⟨Fo 21 [(3,.int .u64 p3),(6,.ints .arg .u64 x),(7,.int .i64 (length x:Int)),(8,.int .i64 p8)],[]⟩
theorem Ae.Bv.Au:Ae.Bv.L0 N (M+1) x p3 p8=bif (Bi p8 (length x:Int)) then bif ((decide (0≤p8))&&(decide (p8<(length x:Int)))) then bif (Af (getD x (toNat p8) 0)) then bif ((Bz (getD x (toNat p8) 0))==(4:Int)) then some (.int .u64 9221120237041090560) else bif (Af (getD x (toNat p8) 0)) then Ae.Bv.L0 N M x (max p3 (Gj (getD x (toNat p8) 0))) (Ab (p8+1)) else none else none else none else some (.int .u64 p3):=by kernel_rfl
theorem Ae.Bv.ev:B0 Ae.Bv.E N f124 (Ak f124) [.ints .arg .u64 x] =
 Ae.Bv.L0 N N x 0 0:=by kernel_rfl
end
abbrev _root_.Go.Proofs.S1.Ae.Bv.Kn:=A8 prog 124 Ae.Bv.spec
theorem Ae.Bv.Ad (hk:A1 prog Ae.Bv.Ba) (h:Hyp Ae.Bv.E f124 Ae.Bv.ts Ae.Bv.pre Ae.Bv.out):Ae.Bv.Kn :=
 Al (A4 hk _ _ _) func124 (by kernel_rfl) (by kernel_rfl) h
def Ae.Finite.hint:Nat→Option Bc
 | 0=>some { keep:=[5,6,7],objs:=[],boxes:=[] }
 | _=>none
def Ae.Finite.Ba:List (Nat × Entry):=[(136,soft.Finite.spec)]
def Ae.Finite.E:Env:=Bg (Bb Ae.Finite.Ba) (fun _=>false) Ae.Finite.hint (fun _=>none)
section
variable (N M:Nat) (x:List Int) (p7:Int)
def Ae.Finite.L0:Option DV:=Cb Ae.Finite.E N f66 (Ak f66) [1,0,1,0] [] M ⟨Fo 15 [(5,.ints .arg .u64 x),(6,.int .i64 (length x:Int)),(7,.int .i64 p7)],[]⟩
theorem Ae.Finite.Au:Ae.Finite.L0 N (M+1) x p7=bif (Bi p7 (length x:Int)) then bif ((decide (0≤p7))&&(decide (p7<(length x:Int)))) then bif (Af (getD x (toNat p7) 0)) then bif (!(Dw (getD x (toNat p7) 0))) then some (.bool false) else Ae.Finite.L0 N M x (Ab (p7+1)) else none else none else some (.bool true):=by kernel_rfl
theorem Ae.Finite.ev:B0 Ae.Finite.E N f66 (Ak f66) [.ints .arg .u64 x] =
 Ae.Finite.L0 N N x 0:=by kernel_rfl
end
abbrev _root_.Go.Proofs.S1.Ae.Finite.Kn:=A8 prog 66 Ae.Finite.spec
theorem Ae.Finite.Ad (hk:A1 prog Ae.Finite.Ba) (h:Hyp Ae.Finite.E f66 Ae.Finite.ts Ae.Finite.pre Ae.Finite.out):Ae.Finite.Kn :=
 Al (A4 hk _ _ _) func66 (by kernel_rfl) (by kernel_rfl) h
def Cz.Check.hint:Nat→Option Bc
 | 0=>some { keep:=[9,10,11],objs:=[],boxes:=[] }
 | _=>none
def Cz.Check.Ba:List (Nat × Entry):=[(121,Aa.Check.spec),(136,soft.Finite.spec)]
def Cz.Check.E:Env:=Bg (Bb Cz.Check.Ba) (fun _=>false) Cz.Check.hint (fun _=>none)
section
variable (N:Nat) (r c:Int) (M:Nat) (l:List Int) (p11:Int)
def Cz.Check.L0:Option DV:=Cb Cz.Check.E N f69 (Ak f69) [1,1,0,1,0] [] M ⟨Fo 19 [(9,.ints .arg .u64 l),(10,.int .i64 (length l:Int)),(11,.int .i64 p11)],[]⟩
theorem Cz.Check.Au:Cz.Check.L0 N (M+1) l p11=bif (Bi p11 (length l:Int)) then bif ((decide (0≤p11))&&(decide (p11<(length l:Int)))) then bif (Af (getD l (toNat p11) 0)) then bif (!(Dw (getD l (toNat p11) 0))) then some (.int .i64 4) else Cz.Check.L0 N M l (Ab (p11+1)) else none else none else some (.int .i64 0):=by kernel_rfl
theorem Cz.Check.ev:B0 Cz.Check.E N f69 (Ak f69) [.agg [.int .i64 r,.int .i64 c,.ints .arg .u64 l]]=bif ((Lt r c l) !=(0:Int)) then some (.int .i64 1) else Cz.Check.L0 N N l 0:=by kernel_rfl
end
abbrev _root_.Go.Proofs.S1.Cz.Check.Kn:=A8 prog 69 Cz.Check.spec
theorem Cz.Check.Ad (hk:A1 prog Cz.Check.Ba) (h:Hyp Cz.Check.E f69 Cz.Check.ts Cz.Check.pre Cz.Check.out):Cz.Check.Kn :=
 Al (A4 hk _ _ _) func69 (by kernel_rfl) (by kernel_rfl) h
end EqCmp
open EqCmp
theorem Tj {k j:Nat} (h:k≠j):(((k:Nat):Int)==((j:Nat):Int))=false:=by rw [A5l]; omega
theorem Aee (n:Nat):n%2^63<2^63:=Nat.mod_lt _ (by decide)
theorem Ab3 {n:Nat} (h:n<2^64):H8 .u64 (n:Int) (9223372036854775808:Int)=((n%2^63:Nat):Int):=by
 have:=Rt (Bx n) (Aee n)
 rw [Oc h] at this
 exact this
theorem compare.Hn.known:compare.Hn.Kn:=compare.Hn.Ad .nil fun a hp=>by
 obtain ⟨n,rfl,hn⟩:=By (show Af a=true from hp)
 refine ⟨0,compare.Hn.out [.i (n:Int)],[],?_,.int⟩
 show _=some (DV.int .u64 (((n:Int).toNat%2^63:Nat):Int))
 rw [compare.Hn.ev,Ab3 hn,A4s]
theorem compare.Ma.known:compare.Ma.Kn:=compare.Ma.Ad (.cons soft.Sign.known .nil) fun b hp=>by
 have hp:Af b=true:=hp
 obtain ⟨n,rfl,hn⟩:=By hp
 refine ⟨0,compare.Ma.out [.i (n:Int)],[],?_,.int⟩
 show _=some (DV.int .i64 (Hr (n:Int).toNat))
 have h63:=Aee n
 rw [compare.Ma.ev,hp,A4q,Ab3 hn,A4s]
 unfold Hr Jb Eb
 rw [A4s]
 cases hs:Bx n with
 | true =>
   rw [A4q,A5d rfl,An (x:=((n%2^63:Nat):Int)) (by omega) (by omega),An (by omega) (by omega)]
   congr 2; omega
 | false =>
   have:n<2^63:=by
    unfold Bx at hs
    have:=of_decide_eq_false hs
    omega
   rw [A4u,A5c (by decide),A43 this,An (by omega) (by omega)]
theorem compare.Order.known:compare.Order.Kn:=compare.Order.Ad (.cons compare.Ma.known (.cons soft.Kind.known .nil)) fun a b hp=>by
 obtain ⟨ha,hb⟩:=Ac.1 (show (Af a&&Af b)=true from hp)
 refine ⟨0,compare.Order.out [.i a,.i b],[],?_,Wk.Hs (.cons .int (.cons .bool .nil))⟩
 show _=some (DV.tup [.int .i64 (Acf a.toNat b.toNat),.bool (Aal a.toNat b.toNat)])
 rw [compare.Order.ev,ha,hb,A4q,A4q,A4q,A4q,A4q,A4q,Av,Av]
 unfold Acf Aal Ac9 Bz
 by_cases h1:Ai a.toNat=4
 ·have e:(((Ai a.toNat:Nat):Int)==(4:Int))=true:=by rw [h1]; rfl
  rw [e,A4q,A5d (.inl h1),A4r (.inl h1)]; rfl
 ·have e:(((Ai a.toNat:Nat):Int)==(4:Int))=false:=Tj h1
  rw [e,A4u]
  by_cases h2:Ai b.toNat=4
  ·have e:(((Ai b.toNat:Nat):Int)==(4:Int))=true:=by rw [h2]; rfl
   rw [e,A4q,A5d (.inr h2),A4r (.inr h2)]; rfl
  ·have e:(((Ai b.toNat:Nat):Int)==(4:Int))=false:=Tj h2
   have hn:¬ (Ai a.toNat=4∨Ai b.toNat=4):=fun h=>h.elim h1 h2
   rw [e,A4u,A5c hn,A4v hn]
   by_cases h3:Hr a.toNat<Hr b.toNat
   ·rw [A4r h3,A5d h3]; rfl
   ·rw [A4v h3,A5c h3]
    by_cases h4:Hr b.toNat<Hr a.toNat
    ·rw [A4r h4,A5d h4]; rfl
    ·rw [A4v h4,A5c h4]; rfl
theorem compare.K3.known:compare.K3.Kn:=compare.K3.Ad (.cons compare.Order.known .nil) fun a b hp=>by
 have hp:(Af a&&Af b)=true:=hp
 refine ⟨0,compare.K3.out [.i a,.i b],[],?_,.bool⟩
 rw [compare.K3.ev,hp,Av]; rfl
theorem Ajx (N:Nat) {a:Int} (ha:Af a=true):∀ (k F m:Nat) (e:Int) (b:Bool),e=-1130-(k:Int)→k<F→m<2^53→(m≠0∨b=true)→-9000<e →
 compare.Fv.L0 N F a (m:Int) e b=some (.tup [.int .u64 (((Bl (Bx a.toNat) 0,3):Nat × Nat).1:Nat),.int .u8 (((Bl (Bx a.toNat) 0,3):Nat × Nat).2:Nat)]):=by
 have pre1:Fe (0:Int) (-1074:Int) true=true:=Aq.2 (by omega)
 intro k
 induction k with
 | zero =>
   intro F m e b he hF hm h0 _
   obtain ⟨F,rfl⟩:∃ G,F=G+1:=⟨F-1,by omega⟩
   have hlt:Bi e (-1130:Int)=false:=by rw [Av]; exact A4v (by omega)
   have T4:Fe (m:Int) e b=true:=Aq.2 (by omega)
   rw [compare.Fv.Au,hlt,Bool.false_and,A4u,A4u,ha,A4q,T4,A4q]
   unfold F1 F0 Eb
   rw [A4s,Aos _ hm h0 (by omega)]
 | succ k ih =>
   intro F m e b he hF hm h0 hb
   obtain ⟨F,rfl⟩:∃ G,F=G+1:=⟨F-1,by omega⟩
   have hlt:Bi e (-1130:Int)=true:=by rw [Av]; exact A4r (by omega)
   rw [compare.Fv.Au,hlt,A53,A4q,Av]
   by_cases h1:(1:Int)<(m:Int)
   ·have em:Ed .u64 (m:Int) (1:Int)=((m / 2^1:Nat):Int):=Je .u64 m 1 (by decide)
    rw [A4r h1,A4q,em,An (by omega) (by omega)]
    exact ih F (m / 2^1) (e+1) _ (by omega) (by omega) (by omega) (.inl (by omega)) (by omega)
   ·rw [A4v h1,A4u,ha,A4q,pre1,A4q]
    unfold F1 F0 Eb
    rw [show (0:Int).toNat=0 from rfl,Ase]
theorem compare.Fv.known:compare.Fv.Kn:=compare.Fv.Ad (.cons soft.Kind.known (.cons soft.D5.known (.cons soft.Gy.known (.cons soft.Sign.known .nil)))) fun a n hp=>by
 obtain ⟨ha,hn⟩:=Ac.1 (show Dd a n=true from hp)
 have hn:=Aq.1 hn
 refine ⟨3000,compare.Fv.out [.i a,.i n],[],?_,Wk.Hs (.cons .int (.cons .int .nil))⟩
 show _=some (DV.tup [.int .u64 ((Fk a.toNat n).1:Nat),.int .u8 ((Fk a.toNat n).2:Nat)])
 have em:max (-2300:Int) (min (2300:Int) n)=n:=by omega
 have pE:=Dt a.toNat
 have pM:=Gc a.toNat
 have ee:Ab (Bo a+n)=A2 a.toNat+n:=by unfold Bo; exact An (by omega) (by omega)
 rw [compare.Fv.ev,ha,A4q,A4q,em,ee]
 unfold Bz
 by_cases h4:Ai a.toNat=4
 ·have e:(((Ai a.toNat:Nat):Int)==(4:Int))=true:=by rw [h4]; rfl
  rw [e,A4q]
  unfold Fk
  rw [A5d h4]; rfl
 have e4:(((Ai a.toNat:Nat):Int)==(4:Int))=false:=Tj h4
 rw [e4,A4u]
 by_cases h3:Ai a.toNat=3
 ·have e:(((Ai a.toNat:Nat):Int)==(3:Int))=true:=by rw [h3]; rfl
  obtain ⟨k,rfl,hk⟩:=By ha
  rw [e,A4q,A4q]
  unfold Fk
  rw [A5c h4,A5d (.inl h3),A4s]; rfl
 have e3:(((Ai a.toNat:Nat):Int)==(3:Int))=false:=Tj h3
 rw [e3,A4u]
 by_cases h0:Ai a.toNat=0
 ·have e:(((Ai a.toNat:Nat):Int)==(0:Int))=true:=by rw [h0]; rfl
  obtain ⟨k,rfl,hk⟩:=By ha
  rw [e,A4q]
  unfold Fk
  rw [A5c h4,A5d (.inr h0),A4s]; rfl
 have e0:(((Ai a.toNat:Nat):Int)==(0:Int))=false:=Tj h0
 have hk:¬ (Ai a.toNat=3∨Ai a.toNat=0):=fun h=>h.elim h3 h0
 have hm:Ax a.toNat≠0:=fun h=>h0 ((Hq h3 h4).1 h)
 rw [e0,A4u]
 show compare.Fv.L0 3000 3000 a (Ax a.toNat:Nat) (A2 a.toNat+n) false=_
 by_cases ht:A2 a.toNat+n≤-1130
 ·rw [Ajw h4 hk ht]
  exact Ajx 3000 ha (-1130-(A2 a.toNat+n)).toNat 3000 _ _ false (by omega) (by omega) (by omega) (.inl hm) (by omega)
 ·have hlt:Bi (A2 a.toNat+n) (-1130:Int)=false:=by rw [Av]; exact A4v (by omega)
  have T4:Fe ((Ax a.toNat:Nat):Int) (A2 a.toNat+n) false=true:=Aq.2 ⟨by omega,by omega,by omega,by omega,fun h=>by cases h⟩
  rw [Xh h4 hk,show (3000:Nat)=2999+1 from rfl,compare.Fv.Au,hlt,Bool.false_and,A4u,A4u,ha,A4q,T4,A4q]
  unfold F1 F0 Eb
  rw [A4s,Yp]
theorem Ae.Br.known:Ae.Br.Kn:=Ae.Br.Ad (.cons compare.Fv.known .nil) fun a n hp=>by
 have hp:Dd a n=true:=hp
 refine ⟨0,Ae.Br.out [.i a,.i n],[],?_,.int⟩
 rw [Ae.Br.ev,hp]; rfl
theorem Ae.Div.known:Ae.Div.Kn:=Ae.Div.Ad (.cons times.Div.known .nil) fun a b hp=>by
 have hp:(Af a&&Af b)=true:=hp
 refine ⟨0,Ae.Div.out [.i a,.i b],[],?_,.int⟩
 rw [Ae.Div.ev,hp]; rfl
theorem J8 {l:List Int} {i:Nat} (h:i<l.length):l.drop i=l.getD i 0::l.drop (i+1):=by
 rw [List.drop_eq_getElem_cons h,A40,A47 h]; rfl
theorem I4 {l:List Int} (h:B4 l=true):l.length<4611686018427387904∧∀ j,j<l.length→Af (l.getD j 0)=true:=by
 obtain ⟨h1,h2⟩:=Aq.1 h
 exact ⟨h1,fun j hj=>by rw [A40,A47 hj]; exact h2 _ (List.getElem_mem hj)⟩
theorem Gi {l:List Int} (h:Aj l=true) (hl:l.length≤1000):B4 l=true:=Aq.2 ⟨by omega,Aq.1 h⟩
theorem Aik (N:Nat) {x:List Int} (hx:B4 x=true):∀ (k i F:Nat),i+k=x.length→k<F→Ae.Finite.L0 N F x (i:Int)=some (.bool ((x.drop i).all Dw)):=by
 obtain ⟨hl,hu⟩:=I4 hx
 intro k
 induction k with
 | zero =>
   intro i F hi hF
   obtain ⟨F,rfl⟩:∃ G,F=G+1:=⟨F-1,by omega⟩
   rw [Ae.Finite.Au,Av,A4v (by omega),A4u,A44 (by omega)]; rfl
 | succ k ih =>
   intro i F hi hF
   obtain ⟨F,rfl⟩:∃ G,F=G+1:=⟨F-1,by omega⟩
   rw [Ae.Finite.Au,Av,A4r (show (i:Int)<(x.length:Int) by omega),A4q,A4r (show (0:Int)≤(i:Int) by omega),A4w,A4q,A4s,hu i (by omega),A4q,J8 (by omega),List.all_cons]
   cases Dw (x.getD i 0) with
   | false=>rfl
   | true =>
     rw [A5p,A4u,An (by omega) (by omega),A53]
     exact ih (i+1) F (by omega) (by omega)
theorem Ae.Finite.known:Ae.Finite.Kn:=Ae.Finite.Ad (.cons soft.Finite.known .nil) fun x hp=>by
 have hp:B4 x=true:=hp
 refine ⟨x.length+1,Ae.Finite.out [.l x],[],?_,.bool⟩
 show _=some (DV.bool (x.all Dw))
 rw [Ae.Finite.ev]
 exact Aik _ hp x.length 0 (x.length+1) (by omega) (by omega)
theorem Ap4 {x:List Int} {i:Nat} (h:i<x.length) (m:Nat):P6 (x.drop i) m=if Ai (x.getD i 0).toNat=4 then Ok else P6 (x.drop (i+1)) (max m (Ge (x.getD i 0).toNat)):=by
 rw [J8 h]; rfl
theorem Af3 (N:Nat) {x:List Int} (hx:B4 x=true):∀ (k i F m:Nat),i+k=x.length→k<F→Ae.Bv.L0 N F x (m:Int) (i:Int)=some (.int .u64 ((P6 (x.drop i) m:Nat):Int)):=by
 obtain ⟨hl,hu⟩:=I4 hx
 intro k
 induction k with
 | zero =>
   intro i F m hi hF
   obtain ⟨F,rfl⟩:∃ G,F=G+1:=⟨F-1,by omega⟩
   rw [Ae.Bv.Au,Av,A4v (by omega),A4u,A44 (by omega)]; rfl
 | succ k ih =>
   intro i F m hi hF
   obtain ⟨F,rfl⟩:∃ G,F=G+1:=⟨F-1,by omega⟩
   rw [Ae.Bv.Au,Av,A4r (show (i:Int)<(x.length:Int) by omega),A4q,A4r (show (0:Int)≤(i:Int) by omega),A4w,A4q,A4s,hu i (by omega),A4q,Ap4 (by omega)]
   unfold Bz
   by_cases h4:Ai (x.getD i 0).toNat=4
   ·have e:(((Ai (x.getD i 0).toNat:Nat):Int)==(4:Int))=true:=by rw [h4]; rfl
    rw [e,A4q,A5d h4]; rfl
   ·have e:(((Ai (x.getD i 0).toNat:Nat):Int)==(4:Int))=false:=Tj h4
    have em:max (m:Int) (Gj (x.getD i 0))=((max m (Ge (x.getD i 0).toNat):Nat):Int):=by unfold Gj; omega
    rw [e,A4u,A4q,A5c h4,em,An (by omega) (by omega)]
    exact ih (i+1) F _ (by omega) (by omega)
theorem Ae.Bv.known:Ae.Bv.Kn:=Ae.Bv.Ad (.cons compare.Hn.known (.cons soft.Kind.known .nil)) fun x hp=>by
 have hp:B4 x=true:=hp
 refine ⟨x.length+1,Ae.Bv.out [.l x],[],?_,.int⟩
 rw [Ae.Bv.ev]
 exact Af3 _ hp x.length 0 (x.length+1) 0 (by omega) (by omega)
theorem Af2 (N:Nat) {x:List Int} (hx:B4 x=true):∀ (k i F:Nat),i+k=x.length→k<F→Cz.Check.L0 N F x (i:Int)=some (.int .i64 (if (x.drop i).all Dw=true then 0 else 4)):=by
 obtain ⟨hl,hu⟩:=I4 hx
 intro k
 induction k with
 | zero =>
   intro i F hi hF
   obtain ⟨F,rfl⟩:∃ G,F=G+1:=⟨F-1,by omega⟩
   rw [Cz.Check.Au,Av,A4v (by omega),A4u,A44 (by omega)]; rfl
 | succ k ih =>
   intro i F hi hF
   obtain ⟨F,rfl⟩:∃ G,F=G+1:=⟨F-1,by omega⟩
   rw [Cz.Check.Au,Av,A4r (show (i:Int)<(x.length:Int) by omega),A4q,A4r (show (0:Int)≤(i:Int) by omega),A4w,A4q,A4s,hu i (by omega),A4q,J8 (by omega),List.all_cons]
   cases Dw (x.getD i 0) with
   | false=>rfl
   | true =>
     rw [A5p,A4u,An (by omega) (by omega),A53]
     exact ih (i+1) F (by omega) (by omega)
theorem Th {r c:Int} {l:List Int} (h:A3 r c l=true):l.length≤36:=by
 obtain ⟨R,C,rfl,rfl,r6,c6,hl⟩:=Cu h
 have:=A5m r6 c6
 omega
theorem Cz.Check.known:Cz.Check.Kn:=Cz.Check.Ad (.cons Aa.Check.known (.cons soft.Finite.known .nil)) fun r c l hp=>by
 have hp:Aj l=true:=hp
 refine ⟨l.length+1,Cz.Check.out [.i r,.i c,.l l],[],?_,.int⟩
 show _=some (DV.int .i64 (Cj r c l))
 rw [Cz.Check.ev]
 unfold Lt Cj D2
 by_cases h:A3 r c l=true
 ·have:=Th h
  rw [A5d h,A5d h]
  have e:((0:Int) !=(0:Int))=false:=by decide
  rw [e,A4u]
  exact Af2 _ (Gi hp (by omega)) l.length 0 (l.length+1) (by omega) (by omega)
 ·rw [A5c h,A5c h]; rfl
end Go.Proofs.S1
end
