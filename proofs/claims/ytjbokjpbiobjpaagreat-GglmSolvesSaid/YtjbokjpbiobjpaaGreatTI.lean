/- A verified evaluator of the program's form and its use for this seat: S1EqBits6, S1EqTimes, S1PTimes, S1PTimesA, S1EqVec, S1PVec, S1EqMat, S1PMat, S1EqCmp, S1PCmp, S1PDiv, RootM, HouL, S1EqRoot, S1PRoot. -/
import Derived.Test.YtjbokjpbiobjpaaGreatTE
import Derived.Test.YtjbokjpbiobjpaaGreatTF
import Derived.Test.YtjbokjpbiobjpaaGreatTH
import Derived.Test.YtjbokjpbiobjpaaGreatTG
set_option linter.unusedVariables false
set_option linter.unusedSimpArgs false
noncomputable section
open Int (toNat)
open List (length getD)
open Go.Proofs.Tryz
namespace Go.Proofs.S1
open Go Go.Den Go.Rnd Go.Proofs
set_option maxRecDepth 100000
namespace EqBits6
def Cz.B5.Bc:List (Nat × Entry):=[(261,Cz.K1.spec)]
def Cz.B5.E:Env:=Be (Bb Cz.B5.Bc) (fun _=>false) (fun _=>none) (fun _=>none)
theorem Cz.B5.ev (N:Nat) (x:Int):Bu Cz.B5.E N f250 (Am f250) [.int .u64 x]=bif (Ak x) then some (.int .i64 (Ab ((64:Int)-(Ff x)))) else none:=by kernel_rfl
abbrev _root_.Go.Proofs.S1.Cz.B5.Kn:=A7 prog 250 Cz.B5.spec
theorem Cz.B5.Ac (hk:A1 prog Cz.B5.Bc) (h:Hyp Cz.B5.E f250 Cz.B5.ts Cz.B5.pre Cz.B5.out):Cz.B5.Kn :=
 Al (A2 hk _ _ _) func250 (by kernel_rfl) (by kernel_rfl) h
def Cz.Hn.Bc:List (Nat × Entry):=[]
def Cz.Hn.E:Env:=Be (Bb Cz.Hn.Bc) (fun _=>false) (fun _=>none) (fun _=>none)
theorem Cz.Hn.ev (N:Nat) (x y:Int):Bu Cz.Hn.E N f237 (Am f237) [.int .u64 x,.int .u64 y]=some (.tup [.int .u64 (Bm ((Bm ((Bm ((Dy .u64 x 32)*(Dy .u64 y 32)))+(Dy .u64 (Bm ((Bm ((Dy .u64 x 32)*(E6 .u64 y 4294967295)))+(Dy .u64 (Bm ((E6 .u64 x 4294967295)*(E6 .u64 y 4294967295))) 32))) 32)))+(Dy .u64 (Bm ((E6 .u64 (Bm ((Bm ((Dy .u64 x 32)*(E6 .u64 y 4294967295)))+(Dy .u64 (Bm ((E6 .u64 x 4294967295)*(E6 .u64 y 4294967295))) 32))) 4294967295)+(Bm ((E6 .u64 x 4294967295)*(Dy .u64 y 32))))) 32))),.int .u64 (Bm (x*y))]):=by kernel_rfl
abbrev _root_.Go.Proofs.S1.Cz.Hn.Kn:=A7 prog 237 Cz.Hn.spec
theorem Cz.Hn.Ac (hk:A1 prog Cz.Hn.Bc) (h:Hyp Cz.Hn.E f237 Cz.Hn.ts Cz.Hn.pre Cz.Hn.out):Cz.Hn.Kn :=
 Al (A2 hk _ _ _) func237 (by kernel_rfl) (by kernel_rfl) h
abbrev _root_.Go.Proofs.S1.Cz.K1.Kn:Prop:=A7 prog 261 Cz.K1.spec
theorem _root_.Go.Proofs.S1.Cz.K1.call:∀ (args:Array Value) (w:World),(callFunc 261 args).run prog w=.ok (.enter 261 args) w:=Qh func261 (by kernel_rfl) (show f261.body=some (Am f261) by kernel_rfl)
theorem _root_.Go.Proofs.S1.Cz.K1.run (x:Int) (w:World) (h0:0≤x) (h1:x≤18446744073709551615):Calls prog 261 #[.int .u64 x] w fun e w'=>e=.returned (.int .i64 (Lib.bitLen x.toNat))∧w'=w:=Tryz.Ajs x w h0 h1
end EqBits6
namespace EqTimes
def times.signed.Bc:List (Nat × Entry):=[(233,soft.Dp.spec)]
def times.signed.E:Env:=Be (Bb times.signed.Bc) (fun _=>false) (fun _=>none) (fun _=>none)
theorem times.signed.ev (N:Nat) (b:Int) (n:Bool):Bu times.signed.E N f235 (Am f235) [.int .u64 b,.bool n]=bif n then bif (Ak b) then some (.int .u64 (Dk b)) else none else some (.int .u64 b):=by kernel_rfl
abbrev _root_.Go.Proofs.S1.times.signed.Kn:=A7 prog 235 times.signed.spec
theorem times.signed.Ac (hk:A1 prog times.signed.Bc) (h:Hyp times.signed.E f235 times.signed.ts times.signed.pre times.signed.out):times.signed.Kn :=
 Al (A2 hk _ _ _) func235 (by kernel_rfl) (by kernel_rfl) h
def times.nan.Bc:List (Nat × Entry):=[(155,soft.Kind.spec)]
def times.nan.E:Env:=Be (Bb times.nan.Bc) (fun _=>false) (fun _=>none) (fun _=>none)
theorem times.nan.ev (N:Nat) (a b:Int):Bu times.nan.E N f234 (Am f234) [.int .u64 a,.int .u64 b]=bif (Ak a) then bif ((Bk a)==(4:Int)) then some (.bool true) else bif (Ak b) then bif ((Bk b)==(4:Int)) then some (.bool true) else some (.bool false) else none else none:=by kernel_rfl
abbrev _root_.Go.Proofs.S1.times.nan.Kn:=A7 prog 234 times.nan.spec
theorem times.nan.Ac (hk:A1 prog times.nan.Bc) (h:Hyp times.nan.E f234 times.nan.ts times.nan.pre times.nan.out):times.nan.Kn :=
 Al (A2 hk _ _ _) func234 (by kernel_rfl) (by kernel_rfl) h
def times.norm.Bc:List (Nat × Entry):=[(250,Cz.B5.spec),(211,soft.Fz.spec)]
def times.norm.E:Env:=Be (Bb times.norm.Bc) (fun _=>false) (fun _=>none) (fun _=>none)
theorem times.norm.ev (N:Nat) (b:Int):Bu times.norm.E N f236 (Am f236) [.int .u64 b]=bif (Ak b) then bif (Ak (B1 b)) then bif (decide (0≤(Ab ((64-Ff (B1 b))-11)))) then some (.tup [.int .u64 (B9 .u64 (B1 b) (Ab ((64-Ff (B1 b))-11))),.int .i64 (Ab ((Ba b)-(Ab ((64-Ff (B1 b))-11))))]) else none else none else none:=by kernel_rfl
abbrev _root_.Go.Proofs.S1.times.norm.Kn:=A7 prog 236 times.norm.spec
theorem times.norm.Ac (hk:A1 prog times.norm.Bc) (h:Hyp times.norm.E f236 times.norm.ts times.norm.pre times.norm.out):times.norm.Kn :=
 Al (A2 hk _ _ _) func236 (by kernel_rfl) (by kernel_rfl) h
def times.wide.hint:Nat→Option Bg
 | 0=>some { keep:=[0,1,2,3],objs:=[],boxes:=[] }
 | _=>none
def times.wide.Bc:List (Nat × Entry):=[(212,soft.Du.spec)]
def times.wide.E:Env:=Be (Bb times.wide.Bc) (fun _=>false) times.wide.hint (fun _=>none)
section
variable (N M:Nat) (n:Bool) (m e:Int) (r:Bool) (p1 p2:Int) (p3:Bool)
def times.wide.L0:Option DV:=Bx times.wide.E N f238 (Am f238) [1,0,0] [] M ⟨E5 39 [(0,.bool n),(1,.int .u64 p1),(2,.int .i64 p2),(3,.bool p3)],[]⟩
theorem times.wide.Av:times.wide.L0 N (M+1) n p1 p2 p3=bif ((Bd p2 (-1130:Int))&&(Bd 1 p1)) then times.wide.L0 N M n (Dy .u64 p1 1) (Ab (p2+1)) (bif p3 then true else ((E6 .u64 p1 1)==(1:Int))) else bif (Bd p2 (-1130:Int)) then bif (Er 0 (-1074:Int) true) then some (.tup [.int .u64 (Fe n 0 (-1074:Int) true),.int .u8 (Fc n 0 (-1074:Int) true)]) else none else bif (Er p1 p2 p3) then some (.tup [.int .u64 (Fe n p1 p2 p3),.int .u8 (Fc n p1 p2 p3)]) else none :=
 Eq.trans (by kernel_rfl)
 (Ax (Oj (Bd p2 (-1130:Int))) (Ax (L7 (Bd p2 (-1130:Int))) (Ax (Th (Bd p2 (-1130:Int))) (Cp (tt1 (Bd p2 (-1130:Int)) (Bd 1 p1)) (Ax (Uc p3) (Ax (Sr p3) (Ax (Sr p3) (Ax (Ye p3) rfl)))) rfl))))
theorem times.wide.ev:Bu times.wide.E N f238 (Am f238) [.bool n,.int .u64 m,.int .i64 e,.bool r] =
 times.wide.L0 N N n m e r:=by kernel_rfl
end
abbrev _root_.Go.Proofs.S1.times.wide.Kn:=A7 prog 238 times.wide.spec
theorem times.wide.Ac (hk:A1 prog times.wide.Bc) (h:Hyp times.wide.E f238 times.wide.ts times.wide.pre times.wide.out):times.wide.Kn :=
 Al (A2 hk _ _ _) func238 (by kernel_rfl) (by kernel_rfl) h
def times.Mul.Bc:List (Nat × Entry):=[(237,Cz.Hn.spec),(155,soft.Kind.spec),(213,soft.Sign.spec),(234,times.nan.spec),(236,times.norm.spec),(235,times.signed.spec),(238,times.wide.spec)]
def times.Mul.E:Env:=Be (Bb times.Mul.Bc) (fun _=>false) (fun _=>none) (fun _=>none)
theorem times.Mul.ev (N:Nat) (a b:Int):Bu times.Mul.E N f208 (Am f208) [.int .u64 a,.int .u64 b]=bif (Ak a) then bif (Ak b) then bif (Ak a) then bif (Ak b) then bif (Ak a&&Ak b) then bif (Apo a b) then some (.tup [.int .u64 9221120237041090560,.int .u8 0]) else bif ((((Bk a)==(3:Int))&&((Bk b)==(0:Int)))||(((Bk a)==(0:Int))&&((Bk b)==(3:Int)))) then some (.tup [.int .u64 9221120237041090560,.int .u8 16]) else bif (((Bk a)==(3:Int))||((Bk b)==(3:Int))) then bif (Ak 9218868437227405312) then some (.tup [.int .u64 (S2 (!((D4 a)==(D4 b))) 9218868437227405312),.int .u8 0]) else none else bif (((Bk a)==(0:Int))||((Bk b)==(0:Int))) then bif (Ak 0) then some (.tup [.int .u64 (S2 (!((D4 a)==(D4 b))) 0),.int .u8 0]) else none else bif (Ak a&&Mn a) then bif (Ak b&&Mn b) then bif (Ak (De a)&&Ak (De b)) then bif (Pr (Iu .u64 (B9 .u64 (S5 (De a) (De b)) 20) (Dy .u64 (N8 (De a) (De b)) 44)) (Ab ((Ab ((Hy a)+(Hy b)))+44))) then some (.tup [.int .u64 (Fe (!((D4 a)==(D4 b))) (Iu .u64 (B9 .u64 (S5 (De a) (De b)) 20) (Dy .u64 (N8 (De a) (De b)) 44)) (Ab ((Ab ((Hy a)+(Hy b)))+44)) ((B9 .u64 (N8 (De a) (De b)) 20) !=(0:Int))),.int .u8 (Fc (!((D4 a)==(D4 b))) (Iu .u64 (B9 .u64 (S5 (De a) (De b)) 20) (Dy .u64 (N8 (De a) (De b)) 44)) (Ab ((Ab ((Hy a)+(Hy b)))+44)) ((B9 .u64 (N8 (De a) (De b)) 20) !=(0:Int)))]) else none else none else none else none else none else none else none else none else none :=
 Eq.trans (by kernel_rfl)
 (Ec (Ec (Ec (Ec (Ec (Ec rfl (Ax (Oj ((Bk a)==(3:Int))) (Ax (L7 ((Bk a)==(3:Int))) (Ax (Th ((Bk a)==(3:Int))) (Ax (Axy ((Bk a)==(3:Int)) ((Bk b)==(0:Int))) (Ax (Ar9 ((Bk a)==(3:Int)) ((Bk b)==(0:Int))) (Ax (Ar9 ((Bk a)==(3:Int)) ((Bk b)==(0:Int))) (Ax (Axz ((Bk a)==(3:Int)) ((Bk b)==(0:Int)) ((Bk a)==(0:Int))) (Ax (Ax0 ((Bk a)==(3:Int)) ((Bk b)==(0:Int)) ((Bk a)==(0:Int))) (Ax (Ax1 ((Bk a)==(3:Int)) ((Bk b)==(0:Int)) ((Bk a)==(0:Int))) (Ax (Ax2 ((Bk a)==(3:Int)) ((Bk b)==(0:Int))) (Cp (Ax3 ((Bk a)==(3:Int)) ((Bk b)==(0:Int)) ((Bk a)==(0:Int)) ((Bk b)==(3:Int))) rfl (Ax (Uc ((Bk a)==(3:Int))) (Ax (Sr ((Bk a)==(3:Int))) (Ax (Ye ((Bk a)==(3:Int))) (Cp (tt5 ((Bk a)==(3:Int)) ((Bk b)==(3:Int))) rfl (Ax (Uc ((Bk a)==(0:Int))) (Ax (Sr ((Bk a)==(0:Int))) (Ax (Ye ((Bk a)==(0:Int))) (Cp (tt5 ((Bk a)==(0:Int)) ((Bk b)==(0:Int))) rfl rfl)))))))))))))))))))) rfl) rfl) rfl) rfl) rfl)
abbrev _root_.Go.Proofs.S1.times.Mul.Kn:=A7 prog 208 times.Mul.spec
theorem times.Mul.Ac (hk:A1 prog times.Mul.Bc) (h:Hyp times.Mul.E f208 times.Mul.ts times.Mul.pre times.Mul.out):times.Mul.Kn :=
 Al (A2 hk _ _ _) func208 (by kernel_rfl) (by kernel_rfl) h
def times.Div.hint:Nat→Option Bg
 | 1=>some { keep:=[6,10,11,12,13,14,78],objs:=[],boxes:=[] }
 | _=>none
def times.Div.Bc:List (Nat × Entry):=[(155,soft.Kind.spec),(213,soft.Sign.spec),(234,times.nan.spec),(236,times.norm.spec),(235,times.signed.spec),(238,times.wide.spec)]
def times.Div.E:Env:=Be (Bb times.Div.Bc) (fun _=>false) times.Div.hint (fun _=>none)
section
variable (N M:Nat) (a b p13 p14 p78:Int)
def times.Div.L0:Option DV:=Bx times.Div.E N f209 (Am f209) [1,1,1,1,1,1,1,0,1,0] [] M ⟨E5 104 [(6,.bool (!((D4 a)==(D4 b)))),(10,.int .i64 (Hy a)),(11,.int .u64 (De b)),(12,.int .i64 (Hy b)),(13,.int .u64 p13),(14,.int .u64 p14),(78,.int .i64 p78)],[]⟩
theorem times.Div.Av:times.Div.L0 N (M+1) a b p13 p14 p78=bif (Bd p78 61) then bif (Es (De b) (B9 .u64 p14 1)) then times.Div.L0 N M a b (Iu .u64 (B9 .u64 p13 1) 1) (Bm ((B9 .u64 p14 1)-(De b))) (Ab (p78+1)) else times.Div.L0 N M a b (B9 .u64 p13 1) (B9 .u64 p14 1) (Ab (p78+1)) else bif (Pr p13 (Ab ((Ab ((Hy a)-(Hy b)))-61))) then some (.tup [.int .u64 (Fe (!((D4 a)==(D4 b))) p13 (Ab ((Ab ((Hy a)-(Hy b)))-61)) (p14 !=(0:Int))),.int .u8 (Fc (!((D4 a)==(D4 b))) p13 (Ab ((Ab ((Hy a)-(Hy b)))-61)) (p14 !=(0:Int)))]) else none:=by kernel_rfl
theorem times.Div.ev:Bu times.Div.E N f209 (Am f209) [.int .u64 a,.int .u64 b]=bif (Ak a) then bif (Ak b) then bif (Ak a) then bif (Ak b) then bif (Ak a&&Ak b) then bif (Apo a b) then some (.tup [.int .u64 9221120237041090560,.int .u8 0]) else bif ((((Bk a)==(3:Int))&&((Bk b)==(3:Int)))||(((Bk a)==(0:Int))&&((Bk b)==(0:Int)))) then some (.tup [.int .u64 9221120237041090560,.int .u8 16]) else bif ((Bk a)==(3:Int)) then bif (Ak 9218868437227405312) then some (.tup [.int .u64 (S2 (!((D4 a)==(D4 b))) 9218868437227405312),.int .u8 0]) else none else bif (((Bk b)==(3:Int))||((Bk a)==(0:Int))) then bif (Ak 0) then some (.tup [.int .u64 (S2 (!((D4 a)==(D4 b))) 0),.int .u8 0]) else none else bif ((Bk b)==(0:Int)) then bif (Ak 9218868437227405312) then some (.tup [.int .u64 (S2 (!((D4 a)==(D4 b))) 9218868437227405312),.int .u8 8]) else none else bif (Ak a&&Mn a) then bif (Ak b&&Mn b) then bif ((De b) !=0) then bif ((De b) !=0) then times.Div.L0 N N a b (Bm (Int.tdiv (De a) (De b))) (Int.tmod (De a) (De b)) (0:Int) else none else none else none else none else none else none else none else none else none :=
 Eq.trans (by kernel_rfl)
 (Ec (Ec (Ec (Ec (Ec (Ec rfl (Ax (Oj ((Bk a)==(3:Int))) (Ax (L7 ((Bk a)==(3:Int))) (Ax (Th ((Bk a)==(3:Int))) (Ax (Axy ((Bk a)==(3:Int)) ((Bk b)==(3:Int))) (Ax (Ar9 ((Bk a)==(3:Int)) ((Bk b)==(3:Int))) (Ax (Ar9 ((Bk a)==(3:Int)) ((Bk b)==(3:Int))) (Ax (Axz ((Bk a)==(3:Int)) ((Bk b)==(3:Int)) ((Bk a)==(0:Int))) (Ax (Ax0 ((Bk a)==(3:Int)) ((Bk b)==(3:Int)) ((Bk a)==(0:Int))) (Ax (Ax1 ((Bk a)==(3:Int)) ((Bk b)==(3:Int)) ((Bk a)==(0:Int))) (Ax (Ax2 ((Bk a)==(3:Int)) ((Bk b)==(3:Int))) (Cp (Ax3 ((Bk a)==(3:Int)) ((Bk b)==(3:Int)) ((Bk a)==(0:Int)) ((Bk b)==(0:Int))) rfl (Ec rfl (Ax (Uc ((Bk b)==(3:Int))) (Ax (Sr ((Bk b)==(3:Int))) (Ax (Ye ((Bk b)==(3:Int))) (Cp (tt5 ((Bk b)==(3:Int)) ((Bk a)==(0:Int))) rfl (Ec rfl (Ec (Ec (Cp (Cd ((De b) !=0)) (Cp (Cd ((De b) !=0)) rfl rfl) rfl) rfl) rfl))))))))))))))))))) rfl) rfl) rfl) rfl) rfl)
end
abbrev _root_.Go.Proofs.S1.times.Div.Kn:=A7 prog 209 times.Div.spec
theorem times.Div.Ac (hk:A1 prog times.Div.Bc) (h:Hyp times.Div.E f209 times.Div.ts times.Div.pre times.Div.out):times.Div.Kn :=
 Al (A2 hk _ _ _) func209 (by kernel_rfl) (by kernel_rfl) h
end EqTimes
open EqBits6 EqTimes
theorem Ahk {n:Nat} (h0:n≠0) (h:n<2^64):Go.Lib.bitLen n=n.log2+1:=by
 have h1:=Nat.log2_self_le h0
 have h2:=Nat.lt_log2_self (n:=n)
 have hp:=Cw n.log2
 have e:n / 2^n.log2=1:=by
  rw [Nat.pow_succ] at h2
  exact Nat.div_eq_of_lt_le (by omega) (by omega)
 have e1:Go.Lib.bitLen 1=1:=by decide
 rw [Go.Lib.bitLen_shift n.log2 n h1 h,e,e1]
theorem Cz.K1.known:Cz.K1.Kn:=by
 refine ⟨?_,Cz.K1.call⟩
 intro args ha
 simp only [Cz.K1.spec,entry] at ha ⊢
 cases hd:Mu [.i .u64] args with
 | none=>rw [hd] at ha; cases ha
 | some ats =>
   rw [hd] at ha
   simp only at ha ⊢
   obtain ⟨ds,h1,h2⟩:=Mt hd
   obtain ⟨x,_,_,rfl,rfl,he⟩:=h1.Aqj
   obtain ⟨rfl,rfl⟩:=he.X1
   obtain ⟨n,rfl,hn⟩:=Bo (x:=x) ha
   refine Ot.args ?_ h2
   intro w vals I hI hv
   obtain ⟨u,us,e1,e2,e3⟩:=hv
   simp only [As] at e2
   have e3:us=[]:=e3
   subst e2 e3
   have e4:vals=#[.int .u64 (n:Int)]:=Array.ext' e1
   subst e4
   refine (Cz.K1.run n w (by omega) (by omega)).mono ?_
   rintro e w' ⟨rfl,rfl⟩
   refine ⟨_,fun _=>none,rfl,Go.RowKit.Below.refl _ _,⟨fun i b h=>(by cases h),fun i j b h=>(by cases h)⟩,?_⟩
   show As _ _ (DV.int .i64 (Ff n)) _
   simp only [As]
   congr 1
   unfold Ff
   rw [A06]
   by_cases h0:n=0
   ·subst h0; rfl
   ·rw [Ahk h0 hn,A1q (by omega)]; rfl
theorem Aqb {n:Nat} (hn:n<2^64):0≤Ff n∧Ff n≤64:=by
 unfold Ff
 rw [A06]
 by_cases h0:n=0
 ·subst h0; decide
 ·have:=(A2k h0).2 hn
  rw [A1q (by omega)]; omega
theorem Cz.B5.known:Cz.B5.Kn:=Cz.B5.Ac (.cons Cz.K1.known .nil) fun x hp=>by
 obtain ⟨n,rfl,hn⟩:=Bo (x:=x) hp
 have:=Aqb hn
 refine ⟨0,Cz.B5.out [.i n],[],?_,.int⟩
 rw [Cz.B5.ev,Ce hn,A04,An (by omega) (by omega)]
 rfl
theorem J9 {a b:Nat} (ha:a<4294967296) (hb:b<4294967296):a*b≤18446744065119617025 :=
 A2b (A10 (show a≤4294967295 by omega) (show b≤4294967295 by omega)) (by decide)
theorem Apt (x y:Nat) (hx:x<2^64) (hy:y<2^64) :
 x*y / 18446744073709551616=(x / 2^32)*(y / 2^32)+((x / 2^32)*(y%2^32)+(x%2^32)*(y%2^32) / 2^32) / 2^32 +
  (((x / 2^32)*(y%2^32)+(x%2^32)*(y%2^32) / 2^32)%2^32+(x%2^32)*(y / 2^32)) / 2^32:=by
 have ex:x=x / 2^32*4294967296+x%2^32:=by omega
 have ey:y=y / 2^32*4294967296+y%2^32:=by omega
 have ha:x / 2^32<4294967296:=by omega
 have hc:y / 2^32<4294967296:=by omega
 have hb:x%2^32<4294967296:=by omega
 have hd:y%2^32<4294967296:=by omega
 generalize x / 2^32=a at *
 generalize x%2^32=b at *
 generalize y / 2^32=c at *
 generalize y%2^32=d at *
 have e:x*y=a*c*18446744073709551616+(a*d+b*c)*4294967296+b*d:=by
  rw [ex,ey,A18,Nat.mul_add,Nat.mul_add]
  have e1:a*4294967296*(c*4294967296)=a*c*18446744073709551616:=by
   rw [Nat.mul_mul_mul_comm]
  have e2:a*4294967296*d=a*d*4294967296:=Nat.mul_right_comm _ _ _
  have e3:b*(c*4294967296)=b*c*4294967296:=(A1v _ _ _).symm
  rw [e1,e2,e3]
  omega
 have b1:=J9 ha hc
 have b2:=J9 ha hd
 have b3:=J9 hb hc
 have b4:=J9 hb hd
 rw [e]
 clear e ex ey
 generalize a*c=p at *
 generalize a*d=q at *
 generalize b*c=r at *
 generalize b*d=s at *
 omega
theorem Cz.Hn.known:Cz.Hn.Kn:=Cz.Hn.Ac .nil fun x y hp=>by
 obtain ⟨h1,h2⟩:=Ad.1 hp
 obtain ⟨x,rfl,hx⟩:=Bo h1
 obtain ⟨y,rfl,hy⟩:=Bo h2
 refine ⟨0,Cz.Hn.out [.i x,.i y],[],?_,Wk.Gv (.cons .int (.cons .int .nil))⟩
 show _=some (DV.tup [.int .u64 (S5 x y),.int .u64 (N8 x y)])
 have s32:∀ n:Nat,Dy .u64 (n:Int) (32:Int)=((n / 2^32:Nat):Int):=fun n=>Ii .u64 n 32 (by decide)
 have m32:∀ n:Nat,n<2^64→E6 .u64 (n:Int) (4294967295:Int)=((n%2^32:Nat):Int):=fun n hn=>Ji 32 hn (by decide)
 have ha:x / 2^32<4294967296:=by omega
 have hc:y / 2^32<4294967296:=by omega
 have hb:x%2^32<4294967296:=by omega
 have hd:y%2^32<4294967296:=by omega
 have b1:=J9 ha hc
 have b2:=J9 ha hd
 have b3:=J9 hb hc
 have b4:=J9 hb hd
 have hhi:=Apt x y hx hy
 have wn:∀ n:Nat,n<2^64→Bm (n:Int)=n:=fun n hn=>Dh (by omega) (by omega)
 have hlt:x*y / 18446744073709551616<2^64:=by
  rw [Nat.div_lt_iff_lt_mul (by decide)]
  have:=A10 (show x≤18446744073709551615 by omega) (show y≤18446744073709551615 by omega)
  omega
 rw [Cz.Hn.ev]
 simp only [s32,m32 x hx,m32 y hy]
 generalize hA:x / 2^32=a at *
 generalize hB:x%2^32=b at *
 generalize hC:y / 2^32=c at *
 generalize hD:y%2^32=d at *
 simp only [← A1p]
 rw [wn (a*c) (by omega),wn (a*d) (by omega),wn (b*c) (by omega),wn (b*d) (by omega),s32]
 simp only [← Int.natCast_add]
 rw [wn (a*d+b*d / 2^32) (by omega),s32,m32 _ (by omega)]
 simp only [← Int.natCast_add]
 rw [wn (a*c+(a*d+b*d / 2^32) / 2^32) (by omega),wn _ (by omega),s32]
 simp only [← Int.natCast_add]
 rw [← hhi,wn _ hlt]
 unfold S5 N8
 rw [A06,A06,Ow]
 congr 3
theorem times.signed.known:times.signed.Kn:=times.signed.Ac (.cons soft.Dp.known .nil) fun b n hp=>by
 have hp:Ak b=true:=hp
 refine ⟨0,times.signed.out [.i b,.b n],[],?_,.int⟩
 rw [times.signed.ev,hp]
 cases n<;>rfl
theorem times.nan.known:times.nan.Kn:=times.nan.Ac (.cons soft.Kind.known .nil) fun a b hp=>by
 obtain ⟨ha,hb⟩:=Ad.1 hp
 refine ⟨0,times.nan.out [.i a,.i b],[],?_,.bool⟩
 rw [times.nan.ev,ha,hb,A04,A04]
 show _=some (DV.bool (decide (Bk a=4)||decide (Bk b=4)))
 by_cases h1:Bk a=4
 ·rw [h1]; rfl
 ·have e1:(Bk a==(4:Int))=false:=by simp; exact h1
  rw [e1,A09 h1,A08]
  by_cases h2:Bk b=4
  ·rw [h2]; rfl
  ·have e2:(Bk b==(4:Int))=false:=by simp; exact h2
   rw [e2,A09 h2]; rfl
theorem O9 {n:Nat} (h:Ay n≠0):(Ay n).log2≤52∧2^52≤Ay n*2^Ci n∧Ay n*2^Ci n<2^53∧Ci n≤52:=by
 have h1:=E1 n
 have h2:(Ay n).log2<53:=(A2k h).2 (by omega)
 have hz:=Lu (Ay n) (Ci n) h
 have hne:Ay n*2^Ci n≠0:=I3 h
 have hl:(Ay n*2^Ci n).log2=52:=by rw [hz]; unfold Ci; omega
 refine ⟨by omega,?_,?_,by unfold Ci; omega⟩
 ·rw [← Nat.le_log2 hne]; omega
 ·rw [← A2k hne]; omega
theorem times.norm.known:times.norm.Kn:=times.norm.Ac (.cons Cz.B5.known (.cons soft.Fz.known .nil)) fun b hp=>by
 obtain ⟨h1,h2⟩:=Ad.1 hp
 obtain ⟨n,rfl,hn⟩:=Bo h1
 have h2:Ay n≠0:=Au.1 h2
 obtain ⟨l1,l2,l3,l4⟩:=O9 h2
 have hM:=E1 n
 have hE:=Ey n
 refine ⟨0,times.norm.out [.i n],[],?_,Wk.Gv (.cons .int (.cons .int .nil))⟩
 show _=some (DV.tup [.int .u64 (De n),.int .i64 (Hy n)])
 have e1:B1 (n:Int)=(Ay n:Int):=rfl
 have e2:Ba (n:Int)=A9 n:=rfl
 have e3:Ff (Ay n:Int)=((Ay n).log2:Int)+1:=by
  unfold Ff
  rw [A1q (by omega),A06]
 have e4:Ab ((64-(((Ay n).log2:Int)+1))-(11:Int))=((Ci n:Nat):Int):=by
  rw [An (by omega) (by omega)]; unfold Ci; omega
 rw [times.norm.ev,Ce hn,e1,e2,Ce (n:=Ay n) (by omega),e3,e4,Fw _ _ (by omega),A1h (by omega),An (by omega) (by omega),A05 (by omega)]
 rfl
theorem Alv {V t:Nat} {E:Int} (h0:V≠0) (h:V<2^t) (hE:E+t≤-1075):Cv V E=0∧flagsOf V E=3:=by
 have hl:V.log2<t:=(A2k h0).2 h
 have hL:Cs V E=-1074:=by unfold Cs; omega
 obtain ⟨k,hk⟩:∃ k:Nat,(-1074-E).toNat=t+1+k:=⟨(-1074-E).toNat-t-1,by omega⟩
 have hp:2^(t+1)≤2^(t+1+k):=A1j (by decide) (by omega)
 have ht:2^(t+1)=2*2^t:=by rw [Nat.pow_succ]; omega
 have e2:(-(-1074-E)).toNat=0:=by omega
 have hr:Kk V (-1074-E)=0:=by
  unfold Kk Nh
  rw [e2,hk,A12,A2d,Nat.div_eq_of_lt (by omega),A1h (by omega),A1q (by omega)]
 have hru:Cv V E=0:=by
  unfold Cv kept
  rw [A1q h0,hL,hr]
  simp
 refine ⟨hru,?_⟩
 unfold flagsOf exact Nb
 rw [A1q h0,hru,hL,e2,hk,A12,A2d,A1h (by omega),A09 h0]
 decide
theorem Amp (n:Bool) {m:Nat} {e:Int} (r:Bool) (hm:1<m) (he:e < -1130):Gz n (m / 2) (e+1) (r||decide (m%2=1))=Gz n m e r:=by
 have e1:(4*m+r.toNat) / 2^3=m / 2:=by cases r<;>simp<;>omega
 have e2:(r||decide (m%2=1))=decide ((4*m+r.toNat)%2^3≠0):=by
  rw [A1k]
  cases r
  ·simp; omega
  ·simp; omega
 have:=U8 n (V:=4*m+r.toNat) (k:=3) (E:=e-2) (e:=e+1) (s:=r||decide (m%2=1)) (by omega) e2 (by omega) (.inr (by omega))
 rw [e1] at this
 exact this
theorem U7 (n:Bool) {e:Int} (r:Bool) (he:e < -1130):Gz n 1 e r=Gz n 0 (-1074) true:=by
 have h1:r.toNat≤1:=by cases r<;>decide
 obtain ⟨a1,a2⟩:=Alv (V:=4*1+r.toNat) (t:=3) (E:=e-2) (by omega) (by omega) (by omega)
 obtain ⟨b1,b2⟩:=Alv (V:=4*0+true.toNat) (t:=1) (E:=-1074-2) (by decide) (by decide) (by decide)
 unfold Gz
 rw [a1,a2,b1,b2]
theorem Alm (N:Nat) (n:Bool):∀ (k m:Nat) (e:Int) (r:Bool),1≤m→m<2^62→m≤2^k→-7000≤e→e≤6000→(2^60≤m∨e≤-1130) →
 times.wide.L0 N (k+1) n (m:Int) e r=some (.tup [.int .u64 (((Gz n m e r).1:Nat):Int),.int .u8 (((Gz n m e r).2:Nat):Int)]):=by
 intro k
 induction k with
 | zero =>
   intro m e r h1 h2 h3 h4 h5 h6
   have hm:m=1:=by simp at h3; omega
   subst hm
   rw [times.wide.Av,Aw,Aw]
   have c1:decide ((1:Int)<((1:Nat):Int))=false:=by decide
   rw [c1,Bool.and_false,A08]
   by_cases he:e < -1130
   ·have hp:Er (0:Int) (-1074:Int) true=true:=Au.2 (by omega)
    rw [A05 he,A04,hp,A04,U7 n r he]
    rfl
   ·have he:e=-1130:=by omega
    subst he
    have hp:Er ((1:Nat):Int) (-1130:Int) r=true:=Au.2 (by omega)
    rw [A09 (by omega),A08,hp,A04]
    rfl
 | succ k ih =>
   intro m e r h1 h2 h3 h4 h5 h6
   rw [times.wide.Av,Aw,Aw]
   by_cases he:e < -1130
   ·by_cases hm:1<m
    ·have c1:decide ((1:Int)<(m:Int))=true:=A05 (by omega)
     have e1:Dy .u64 (m:Int) (1:Int)=((m / 2:Nat):Int):=Ii .u64 m 1 (by decide)
     have e2:E6 .u64 (m:Int) (1:Int)=((m%2:Nat):Int):=Ji (a:=m) 1 (by omega) (by decide)
     have e3:(bif r then true else (E6 .u64 (m:Int) (1:Int))==(1:Int))=(r||decide (m%2=1)):=by
      rw [e2]
      cases r
      ·rw [A1k]; simp; omega
      ·rfl
     rw [A05 he,c1,A1a,A04,e1,e3,An (by omega) (by omega)]
     have hk:m / 2≤2^k:=by rw [Nat.pow_succ] at h3; omega
     rw [ih (m / 2) (e+1) _ (by omega) (by omega) hk (by omega) (by omega) (.inr (by omega)),Amp n r hm he]
    ·have hm:m=1:=by omega
     subst hm
     have c1:decide ((1:Int)<((1:Nat):Int))=false:=by decide
     have hp:Er (0:Int) (-1074:Int) true=true:=Au.2 (by omega)
     rw [c1,Bool.and_false,A08,A05 he,A04,hp,A04,U7 n r he]
     rfl
   ·have hp:Er (m:Int) e r=true:=Au.2 ⟨by omega,by omega,by omega,.inl (by omega),fun _=>by omega⟩
    rw [A09 he,Bool.false_and,A08,A08,hp,A04]
    rfl
theorem times.wide.known:times.wide.Kn:=times.wide.Ac (.cons soft.Du.known .nil) fun n m e r hp=>by
 obtain ⟨h1,h2,h3,h4⟩:=Au.1 (show Pr m e=true from hp)
 obtain ⟨m,rfl⟩:∃ k:Nat,m=k:=⟨m.toNat,by omega⟩
 refine ⟨63,times.wide.out [.b n,.i m,.i e,.b r],[],?_,Wk.Gv (.cons .int (.cons .int .nil))⟩
 rw [times.wide.ev,Alm 63 n 62 m e r (by omega) (by omega) (by omega) (by omega) (by omega) (.inl (by omega))]
 rfl
open EqTimes
theorem O4 {b:Nat} (h0:Ao b≠0) (h3:Ao b≠3) (h4:Ao b≠4):Ay b≠0:=by
 have:=Jx b
 unfold Ao at h0 h3 h4
 unfold Ay
 by_cases h1:Ea b=2047
 ·rw [A1r h1] at h3 h4
  by_cases h2:Di b=0
  ·rw [A1r h2] at h3; exact absurd rfl h3
  ·rw [A1q h2] at h4; exact absurd rfl h4
 ·rw [A1q h1] at h0
  by_cases h2:0<Ea b
  ·rw [A1q (by omega)]; omega
  ·rw [A1q h2] at h0
   by_cases h5:0<Di b
   ·rw [A1r (by omega)]; omega
   ·rw [A1q h5] at h0; exact absurd rfl h0
theorem Wf {b:Nat} (h0:Ao b=0):Ay b=0:=by
 unfold Ao at h0
 unfold Ay
 by_cases h1:Ea b=2047
 ·rw [A1r h1] at h0; split at h0<;>omega
 ·rw [A1q h1] at h0
  by_cases h2:0<Ea b
  ·rw [A1r h2] at h0; omega
  ·rw [A1q h2] at h0
   by_cases h5:0<Di b
   ·rw [A1r h5] at h0; omega
   ·rw [A1r (by omega)]; omega
theorem Aiu {x y:Nat} (hx1:2^52≤x) (hx2:x<2^53) (hy1:2^52≤y) (hy2:y<2^53):2^104≤x*y∧x*y<2^106:=by
 have h1:=A10 hx1 hy1
 have h2:x*y<2^53*2^53:=Nat.mul_lt_mul'' hx2 hy2
 exact ⟨A2b (by decide) h1,A2f h2 (by decide)⟩
theorem Asw {V:Nat} (h:V<2^106):Iu .u64 (B9 .u64 ((V / 18446744073709551616:Nat):Int) (20:Int)) (Dy .u64 ((V%18446744073709551616:Nat):Int) (44:Int))=((V / 2^44:Nat):Int):=by
 have e1:B9 .u64 ((V / 18446744073709551616:Nat):Int) (20:Int)=((V / 18446744073709551616*2^20%2^64:Nat):Int):=Fw _ 20 (by decide)
 have e2:Dy .u64 ((V%18446744073709551616:Nat):Int) (44:Int)=((V%18446744073709551616 / 2^44:Nat):Int):=Ii .u64 _ 44 (by decide)
 rw [e1,e2,A1h (by omega),Nu (k:=20) (by omega) (by omega)]
 congr 1
 omega
theorem Asv {V:Nat}:((B9 .u64 ((V%18446744073709551616:Nat):Int) (20:Int)) !=(0:Int))=decide (V%2^44≠0):=by
 have e1:B9 .u64 ((V%18446744073709551616:Nat):Int) (20:Int)=((V%18446744073709551616*2^20%2^64:Nat):Int):=Fw _ 20 (by decide)
 rw [e1,A1k]
 simp only [bne_iff_ne,ne_eq,A1b]
 omega
theorem Ad0 (s t:Bool):(!(s==t))=(s !=t):=rfl
theorem w53 {x:Nat} (h:x<2^53):Ak (x:Int)=true:=Ce (by omega)
theorem As6 (n:Bool) {a b:Nat} (ha:Ay a≠0) (hb:Ay b≠0) :
 (bif (Ak (De a)&&Ak (De b)) then
  bif (Pr (Iu .u64 (B9 .u64 (S5 (De a) (De b)) (20:Int)) (Dy .u64 (N8 (De a) (De b)) (44:Int))) (Ab ((Ab ((Hy a)+(Hy b)))+(44:Int)))) then
   some (DV.tup [.int .u64 (Fe n (Iu .u64 (B9 .u64 (S5 (De a) (De b)) (20:Int)) (Dy .u64 (N8 (De a) (De b)) (44:Int))) (Ab ((Ab ((Hy a)+(Hy b)))+(44:Int))) ((B9 .u64 (N8 (De a) (De b)) (20:Int)) !=(0:Int))),.int .u8 (Fc n (Iu .u64 (B9 .u64 (S5 (De a) (De b)) (20:Int)) (Dy .u64 (N8 (De a) (De b)) (44:Int))) (Ab ((Ab ((Hy a)+(Hy b)))+(44:Int))) ((B9 .u64 (N8 (De a) (De b)) (20:Int)) !=(0:Int)))])
  else none
 else none)=some (.tup [.int .u64 ((Bp n (Cv (Ay a*Ay b) (A9 a+A9 b)):Nat):Int),.int .u8 ((flagsOf (Ay a*Ay b) (A9 a+A9 b):Nat):Int)]):=by
 obtain ⟨a1,a2,a3,a4⟩:=O9 ha
 obtain ⟨b1,b2,b3,b4⟩:=O9 hb
 have ea:=Ey a
 have eb:=Ey b
 have ma:De (a:Int)=((Ay a*2^Ci a:Nat):Int):=rfl
 have mb:De (b:Int)=((Ay b*2^Ci b:Nat):Int):=rfl
 have na:Hy (a:Int)=A9 a-Ci a:=rfl
 have nb:Hy (b:Int)=A9 b-Ci b:=rfl
 have hi:S5 (De a) (De b)=((Ay a*2^Ci a*(Ay b*2^Ci b) / 18446744073709551616:Nat):Int):=rfl
 have lo:N8 (De a) (De b)=((Ay a*2^Ci a*(Ay b*2^Ci b)%18446744073709551616:Nat):Int):=rfl
 rw [hi,lo,ma,mb,na,nb,w53 a3,w53 b3,A1a,A04]
 obtain ⟨v1,v2⟩:=Aiu a2 a3 b2 b3
 have ev:Ay a*2^Ci a*(Ay b*2^Ci b)=Ay a*Ay b*2^(Ci a+Ci b):=by
  rw [Nat.mul_mul_mul_comm,← A1t]
 obtain ⟨s1,s2⟩:=Eo (Ay a*Ay b) (Ci a+Ci b) (A9 a+A9 b)
 rw [← ev] at s1 s2
 generalize Ay a*2^Ci a*(Ay b*2^Ci b)=V at *
 rw [Asw v2,Asv,An (x:=_+_) (by rw [An (by omega) (by omega)]; omega) (by rw [An (by omega) (by omega)]; omega),An (by omega) (by omega)]
 have hw:Pr ((V / 2^44:Nat):Int) (A9 a-Ci a+(A9 b-Ci b)+44)=true:=Au.2 ⟨by omega,by omega,by omega,by omega⟩
 rw [hw,A04]
 unfold Fe Fc
 rw [A06,U8 n (V:=V) (k:=44) (E:=A9 a+A9 b-((Ci a+Ci b:Nat):Int)) (e:=A9 a-Ci a+(A9 b-Ci b)+44) (s:=decide (V%2^44≠0)) (by omega) rfl (by omega) (.inl (by omega)),s1,s2]
theorem kq (b k:Nat):(((Ao b:Nat):Int)==((k:Nat):Int))=decide (Ao b=k):=by
 rw [A1k]; simp only [beq_iff_eq,A1b]; omega
theorem Abi (n:Bool) {r:Nat} (h:r<2^63):S2 n (r:Int)=((Bp n r:Nat):Int):=by
 unfold S2 Bp Dk
 cases n
 ·rfl
 ·simp only [if_true]
  rw [A06,Zh h]
theorem Agx (n:Bool):S2 n (9218868437227405312:Int)=((Bp n Eh:Nat):Int):=Abi n (r:=Eh) (by decide)
theorem Aba (n:Bool):S2 n (0:Int)=((Bp n 0:Nat):Int):=Abi n (r:=0) (by decide)
theorem Sf (b:Nat):Bk (b:Int)=((Ao b:Nat):Int):=rfl
theorem Ako (a b:Nat):Apo (a:Int) (b:Int)=(decide (Ao a=4)||decide (Ao b=4)):=by
 unfold Apo Bk
 simp only [A06]
 rw [A1k]
 simp only [Bool.or_eq_true,A1b]
 omega
theorem k3 (b:Nat):(((Ao b:Nat):Int)==(3:Int))=decide (Ao b=3):=kq b 3
theorem k0 (b:Nat):(((Ao b:Nat):Int)==(0:Int))=decide (Ao b=0):=kq b 0
theorem times.Mul.known:times.Mul.Kn:=times.Mul.Ac (.cons Cz.Hn.known (.cons soft.Kind.known (.cons soft.Sign.known (.cons times.nan.known (.cons times.norm.known (.cons times.signed.known (.cons times.wide.known .nil))))))) fun a b hp=>by
 obtain ⟨ha,hb⟩:=Ad.1 hp
 obtain ⟨a,rfl,hn⟩:=Bo ha
 obtain ⟨b,rfl,hm⟩:=Bo hb
 refine ⟨0,times.Mul.out [.i a,.i b],[],?_,Wk.Gv (.cons .int (.cons .int .nil))⟩
 have i1:Ak (9218868437227405312:Int)=true:=Ce (n:=9218868437227405312) (by decide)
 have i2:Ak (0:Int)=true:=Ce (n:=0) (by decide)
 rw [times.Mul.ev,ha,hb,Ako,Sf,Sf,k3,k3,k0,k0,i1,i2,Agx,Aba,Ad0]
 show _=some (DV.tup [.int .u64 (((Nz a b).1:Nat):Int),.int .u8 (((Nz a b).2:Nat):Int)])
 have ea:D4 (a:Int)=B0 a:=rfl
 have eb:D4 (b:Int)=B0 b:=rfl
 rw [ea,eb]
 unfold Nz
 simp only [A1a,A04]
 by_cases h4:Ao a=4∨Ao b=4
 ·have c4:(decide (Ao a=4)||decide (Ao b=4))=true:=by simp; exact h4
  rw [A1r h4,c4,A04]; rfl
 ·have c4:(decide (Ao a=4)||decide (Ao b=4))=false:=by simp; omega
  rw [A1q h4,c4,A08]
  by_cases h3:Ao a=3∨Ao b=3
  ·rw [A1r h3]
   by_cases h0:Ao a=0∨Ao b=0
   ·have c0:(decide (Ao a=3)&&decide (Ao b=0)||decide (Ao a=0)&&decide (Ao b=3))=true:=by simp; omega
    rw [A1r h0,c0,A04]; rfl
   ·have c0:(decide (Ao a=3)&&decide (Ao b=0)||decide (Ao a=0)&&decide (Ao b=3))=false:=by simp; omega
    have c3:(decide (Ao a=3)||decide (Ao b=3))=true:=by simp; omega
    rw [A1q h0,c0,A08,c3,A04]; rfl
  ·have c0:(decide (Ao a=3)&&decide (Ao b=0)||decide (Ao a=0)&&decide (Ao b=3))=false:=by simp; omega
   have c3:(decide (Ao a=3)||decide (Ao b=3))=false:=by simp; omega
   rw [A1q h3,c0,A08,c3,A08]
   by_cases h0:Ao a=0∨Ao b=0
   ·have c5:(decide (Ao a=0)||decide (Ao b=0))=true:=by simp; exact h0
    have hz:Ay a*Ay b=0:=by
     rcases h0 with h | h
     ·rw [Wf h,Nat.zero_mul]
     ·rw [Wf h,Nat.mul_zero]
    rw [c5,A04,hz,R6,Qb]; rfl
   ·have c5:(decide (Ao a=0)||decide (Ao b=0))=false:=by simp; omega
    have pa:=O4 (b:=a) (by omega) (by omega) (by omega)
    have pb:=O4 (b:=b) (by omega) (by omega) (by omega)
    have na:Mn (a:Int)=true:=Au.2 pa
    have nb:Mn (b:Int)=true:=Au.2 pb
    rw [c5,A08,na,nb,A1a,A04,A04]
    exact As6 _ pa pb
theorem Aq4 (N:Nat) {a b:Nat} {X Y:Nat} (hY:0<Y) (hY2:Y<2^53) (hX:X<2*Y) (em:De (b:Int)=(Y:Int)):∀ (k i:Nat),k+i=61 →
 times.Div.L0 N (k+1) a b ((X*2^i / Y:Nat):Int) ((X*2^i%Y:Nat):Int) (i:Int) =
  times.Div.L0 N 1 a b ((X*2^61 / Y:Nat):Int) ((X*2^61%Y:Nat):Int) (61:Int):=by
 intro k
 induction k with
 | zero =>
   intro i hi
   have:i=61:=by omega
   subst this
   rfl
 | succ k ih =>
   intro i hi
   have hq:X*2^i / Y<2^62:=by
    rw [Nat.div_lt_iff_lt_mul hY]
    have h1:X*2^i<2*Y*2^i:=(Nat.mul_lt_mul_right (Cw i)).2 hX
    have h2:2*2^i≤2^62:=by
     rw [A1s,← Nat.pow_succ]; exact A1j (by decide) (by omega)
    have h3:2*2^i*Y≤2^62*Y:=A1g _ h2
    rw [Nat.mul_right_comm] at h1
    omega
   have hr:X*2^i%Y<Y:=Nat.mod_lt _ hY
   have hd:=Nat.div_add_mod (X*2^i) Y
   have e2:X*2^(i+1)=X*2^i*2:=by rw [Nat.pow_succ,A1v]
   rw [times.Div.Av,Aw,Ej,em,A05 (by omega),A04]
   have s1:B9 .u64 ((X*2^i%Y:Nat):Int) (1:Int)=((X*2^i%Y*2:Nat):Int):=by
    have:=Fw (X*2^i%Y) 1 (by decide)
    rw [A1h (a:=X*2^i%Y*2^1) (by omega)] at this
    exact this
   have s2:B9 .u64 ((X*2^i / Y:Nat):Int) (1:Int)=((X*2^i / Y*2^1:Nat):Int):=by
    have:=Fw (X*2^i / Y) 1 (by decide)
    rw [A1h (a:=X*2^i / Y*2^1) (by omega)] at this
    exact this
   have s3:Iu .u64 ((X*2^i / Y*2^1:Nat):Int) (1:Int)=((X*2^i / Y*2^1+1:Nat):Int):=Nu (k:=1) (b:=1) (by decide) (by omega)
   have ei:Ab ((i:Int)+1)=((i+1:Nat):Int):=by rw [An (by omega) (by omega)]; rfl
   rw [s1,s2,s3,ei]
   generalize hq':X*2^i / Y=q at *
   generalize hr':X*2^i%Y=r at *
   have step:∀ c,X*2^i*2=Y*(2*q+c)+(2*r-c*Y)→c*Y≤2*r→2*r<c*Y+Y→X*2^(i+1) / Y=2*q+c∧X*2^(i+1)%Y=2*r-c*Y:=fun c h1 h2 h3=>by
    rw [e2,h1]
    constructor
    ·rw [Nat.mul_add_div hY,Nat.div_eq_of_lt (by omega)]; omega
    ·rw [Nat.mul_add_mod,A1h (by omega)]
   by_cases hc:Y≤r*2
   ·obtain ⟨t1,t2⟩:=step 1 (by rw [Nat.mul_add,A2d,Nat.mul_left_comm]; omega) (by omega) (by omega)
    have:=ih (i+1) (by omega)
    rw [t1,t2] at this
    rw [A05 (by omega),A04,Dh (by omega) (by omega)]
    have e3:((r*2:Nat):Int)-(Y:Int)=((2*r-1*Y:Nat):Int):=by omega
    have e4:q*2^1+1=2*q+1:=by omega
    rw [e3,e4]
    exact this
   ·obtain ⟨t1,t2⟩:=step 0 (by rw [A2c,Nat.mul_left_comm]; omega) (by omega) (by omega)
    have:=ih (i+1) (by omega)
    rw [t1,t2] at this
    rw [A09 (by omega),A08]
    have e3:r*2=2*r-0*Y:=by omega
    have e4:q*2^1=2*q+0:=by omega
    rw [e3,e4]
    exact this
theorem Atz {a b:Nat} (ha:Ay a≠0) (hb:Ay b≠0) :
 times.Div.L0 62 62 a b (Bm (Int.tdiv (De a) (De b))) (Int.tmod (De a) (De b)) (0:Int) =
  some (.tup [.int .u64 ((Bp (B0 a !=B0 b) (Cv (F3 (Ay a) (Ay b) 120) (A9 a-A9 b-121)):Nat):Int),.int .u8 ((flagsOf (F3 (Ay a) (Ay b) 120) (A9 a-A9 b-121):Nat):Int)]):=by
 obtain ⟨a1,a2,a3,a4⟩:=O9 ha
 obtain ⟨b1,b2,b3,b4⟩:=O9 hb
 have ea:=Ey a
 have eb:=Ey b
 have ma:De (a:Int)=((Ay a*2^Ci a:Nat):Int):=rfl
 have mb:De (b:Int)=((Ay b*2^Ci b:Nat):Int):=rfl
 have na:Hy (a:Int)=A9 a-Ci a:=rfl
 have nb:Hy (b:Int)=A9 b-Ci b:=rfl
 have sL:=Aia (Ay a) (Ay b*2^Ci b) (Ci a) 61
 have hpos:0<Ay b*2^Ci b:=by omega
 have hq1:2^53≤Ay a*2^Ci a*2^61 / (Ay b*2^Ci b):=by
  rw [Nat.le_div_iff_mul_le hpos]; omega
 have hqq:2^60≤Ay a*2^Ci a*2^61 / (Ay b*2^Ci b):=by
  rw [Nat.le_div_iff_mul_le hpos]; omega
 have hq2:Ay a*2^Ci a*2^61 / (Ay b*2^Ci b)<2^62:=by
  rw [Nat.div_lt_iff_lt_mul hpos]; omega
 have hstick:F3 (Ay a*2^Ci a) (Ay b*2^Ci b) 61=F3 (Ay a) (Ay b) (61+Ci a-Ci b):=by
  rw [sL]
  have:61+Ci a=61+Ci a-Ci b+Ci b:=by omega
  conv=>lhs; rw [this]
  rw [Afb]
 have hge1:2^53≤Ay a*2^(61+Ci a-Ci b) / Ay b:=by
  have e1:Ay a*2^Ci a*2^61=Ay a*2^(61+Ci a-Ci b)*2^Ci b:=by
   rw [A1v,← A1t,A1v,← A1t]
   congr 2
   omega
  rw [e1,Nat.mul_div_mul_right _ _ (Cw _)] at hq1
  exact hq1
 have hge2:2^53≤Ay a*2^120 / Ay b:=Ao6 (t:=53) (by omega) (by omega) (by have:=E1 b; omega) (by omega)
 obtain ⟨s1,s2⟩:=Yk (X:=Ay a) (Y:=Ay b) (K:=61+Ci a-Ci b) (L:=120) (E:=A9 a-Ci a-(A9 b-Ci b)-61-1) (F:=A9 a-A9 b-121) (by omega) hge1 hge2 (by omega)
 have d1:Bm (Int.tdiv (De a) (De b))=((Ay a*2^Ci a*2^0 / (Ay b*2^Ci b):Nat):Int):=by
  rw [ma,mb,Jo,A12,A2d]
  have h1:=Nat.div_le_self (Ay a*2^Ci a) (Ay b*2^Ci b)
  have h2:Ay a*2^Ci a / (Ay b*2^Ci b)<2^64:=A16 h1 (Nat.lt_trans a3 (by decide))
  generalize Ay a*2^Ci a / (Ay b*2^Ci b)=q at h2 ⊢
  exact Dh (Int.natCast_nonneg q) (by omega)
 have d2:Int.tmod (De a) (De b)=((Ay a*2^Ci a*2^0%(Ay b*2^Ci b):Nat):Int):=by
  rw [ma,mb,Jn,A12,A2d]
 rw [d1,d2]
 have lp:=Aq4 62 (a:=a) (b:=b) hpos b3 (X:=Ay a*2^Ci a) (by omega) mb 61 0 (by omega)
 refine lp.trans ?_
 rw [times.Div.Av,Aw,na,nb,A09 (by omega),A08]
 have we:Ab (Ab (A9 a-Ci a-(A9 b-Ci b))-61)=A9 a-Ci a-(A9 b-Ci b)-61:=by
  rw [An (x:=A9 a-Ci a-(A9 b-Ci b)) (by omega) (by omega),An (by omega) (by omega)]
 have hne:(((Ay a*2^Ci a*2^61%(Ay b*2^Ci b):Nat):Int) !=(0:Int))=decide (Ay a*2^Ci a*2^61%(Ay b*2^Ci b)≠0):=by
  rw [A1k]; simp only [bne_iff_ne,ne_eq,A1b]; omega
 rw [we,hne]
 have hw:Pr ((Ay a*2^Ci a*2^61 / (Ay b*2^Ci b):Nat):Int) (A9 a-Ci a-(A9 b-Ci b)-61)=true:=Au.2 ⟨by omega,by omega,by omega,by omega⟩
 have hn:D4 (a:Int)=B0 a:=rfl
 have hn':D4 (b:Int)=B0 b:=rfl
 rw [hw,A04,Ad0,hn,hn']
 unfold Fe Fc
 rw [A06,Amr _ rfl rfl hq1,hstick,s1,s2]
theorem times.Div.known:times.Div.Kn:=times.Div.Ac (.cons soft.Kind.known (.cons soft.Sign.known (.cons times.nan.known (.cons times.norm.known (.cons times.signed.known (.cons times.wide.known .nil)))))) fun a b hp=>by
 obtain ⟨ha,hb⟩:=Ad.1 hp
 obtain ⟨a,rfl,hn⟩:=Bo ha
 obtain ⟨b,rfl,hm⟩:=Bo hb
 refine ⟨62,times.Div.out [.i a,.i b],[],?_,Wk.Gv (.cons .int (.cons .int .nil))⟩
 have i1:Ak (9218868437227405312:Int)=true:=Ce (n:=9218868437227405312) (by decide)
 have i2:Ak (0:Int)=true:=Ce (n:=0) (by decide)
 rw [times.Div.ev,ha,hb,Ako,Sf,Sf,k3,k3,k0,k0,i1,i2,Agx,Aba,Ad0]
 show _=some (DV.tup [.int .u64 (((Aek a b).1:Nat):Int),.int .u8 (((Aek a b).2:Nat):Int)])
 have ea:D4 (a:Int)=B0 a:=rfl
 have eb:D4 (b:Int)=B0 b:=rfl
 rw [ea,eb]
 unfold Aek
 rw [A1a,A04,A04,A04,A04,A04]
 by_cases h4:Ao a=4∨Ao b=4
 ·have c4:(decide (Ao a=4)||decide (Ao b=4))=true:=by simp; exact h4
  rw [A1r h4,c4,A04]; rfl
 ·have c4:(decide (Ao a=4)||decide (Ao b=4))=false:=by simp; omega
  rw [A1q h4,c4,A08]
  by_cases h1:Ao a=Ao b∧(Ao a=3∨Ao a=0)
  ·have c1:(decide (Ao a=3)&&decide (Ao b=3)||decide (Ao a=0)&&decide (Ao b=0))=true:=by simp; omega
   rw [A1r h1,c1,A04]; rfl
  ·have c1:(decide (Ao a=3)&&decide (Ao b=3)||decide (Ao a=0)&&decide (Ao b=0))=false:=by simp; omega
   rw [A1q h1,c1,A08]
   by_cases h2:Ao a=3
   ·rw [A1r h2,A05 h2,A04]; rfl
   ·rw [A1q h2,A09 h2,A08]
    by_cases h3:Ao b=3∨Ao a=0
    ·have c3:(decide (Ao b=3)||decide (Ao a=0))=true:=by simp; exact h3
     rw [A1r h3,c3,A04]; rfl
    ·have c3:(decide (Ao b=3)||decide (Ao a=0))=false:=by simp; omega
     rw [A1q h3,c3,A08]
     by_cases h5:Ao b=0
     ·rw [A1r h5,A05 h5,A04]; rfl
     ·rw [A1q h5,A09 h5,A08]
      have pa:=O4 (b:=a) (by omega) (by omega) (by omega)
      have pb:=O4 (b:=b) (by omega) (by omega) (by omega)
      have na:Mn (a:Int)=true:=Au.2 pa
      have nb:Mn (b:Int)=true:=Au.2 pb
      have hnb:(De (b:Int) !=0)=true:=by
       obtain ⟨_,l2,_,_⟩:=O9 pb
       have mb:De (b:Int)=((Ay b*2^Ci b:Nat):Int):=rfl
       rw [mb]
       simp only [bne_iff_ne,ne_eq]
       omega
      rw [na,nb,hnb,A1a,A04,A04,A04,A04,Atz pa pb]
namespace EqVec
def Ah.Add.Bc:List (Nat × Entry):=[(232,sum.Add.spec)]
def Ah.Add.E:Env:=Be (Bb Ah.Add.Bc) (fun _=>false) (fun _=>none) (fun _=>none)
theorem Ah.Add.ev (N:Nat) (a b:Int):Bu Ah.Add.E N f226 (Am f226) [.int .u64 a,.int .u64 b]=bif (Ak a&&Ak b) then some (.int .u64 (Kd a b)) else none:=by kernel_rfl
abbrev _root_.Go.Proofs.S1.Ah.Add.Kn:=A7 prog 226 Ah.Add.spec
theorem Ah.Add.Ac (hk:A1 prog Ah.Add.Bc) (h:Hyp Ah.Add.E f226 Ah.Add.ts Ah.Add.pre Ah.Add.out):Ah.Add.Kn :=
 Al (A2 hk _ _ _) func226 (by kernel_rfl) (by kernel_rfl) h
def Ah.Sub.Bc:List (Nat × Entry):=[(207,sum.Sub.spec)]
def Ah.Sub.E:Env:=Be (Bb Ah.Sub.Bc) (fun _=>false) (fun _=>none) (fun _=>none)
theorem Ah.Sub.ev (N:Nat) (a b:Int):Bu Ah.Sub.E N f156 (Am f156) [.int .u64 a,.int .u64 b]=bif (Ak a&&Ak b) then some (.int .u64 (Dl a b)) else none:=by kernel_rfl
abbrev _root_.Go.Proofs.S1.Ah.Sub.Kn:=A7 prog 156 Ah.Sub.spec
theorem Ah.Sub.Ac (hk:A1 prog Ah.Sub.Bc) (h:Hyp Ah.Sub.E f156 Ah.Sub.ts Ah.Sub.pre Ah.Sub.out):Ah.Sub.Kn :=
 Al (A2 hk _ _ _) func156 (by kernel_rfl) (by kernel_rfl) h
def Ah.Mul.Bc:List (Nat × Entry):=[(208,times.Mul.spec)]
def Ah.Mul.E:Env:=Be (Bb Ah.Mul.Bc) (fun _=>false) (fun _=>none) (fun _=>none)
theorem Ah.Mul.ev (N:Nat) (a b:Int):Bu Ah.Mul.E N f157 (Am f157) [.int .u64 a,.int .u64 b]=bif (Ak a&&Ak b) then some (.int .u64 (D5 a b)) else none:=by kernel_rfl
abbrev _root_.Go.Proofs.S1.Ah.Mul.Kn:=A7 prog 157 Ah.Mul.spec
theorem Ah.Mul.Ac (hk:A1 prog Ah.Mul.Bc) (h:Hyp Ah.Mul.E f157 Ah.Mul.ts Ah.Mul.pre Ah.Mul.out):Ah.Mul.Kn :=
 Al (A2 hk _ _ _) func157 (by kernel_rfl) (by kernel_rfl) h
def Ah.fit.Bc:List (Nat × Entry):=[]
def Ah.fit.E:Env:=Be (Bb Ah.fit.Bc) (fun _=>false) (fun _=>none) (fun _=>none)
theorem Ah.fit.ev (N:Nat) (x y:List Int):Bu Ah.fit.E N f225 (Am f225) [.ints .arg .u64 x,.ints .arg .u64 y]=some (.bool (bif ((length x:Int)==(length y:Int)) then (Es (length x:Int) 64) else false)) :=
 Eq.trans (by kernel_rfl)
 (Ax (Oj ((length x:Int)==(length y:Int))) (Ax (L7 ((length x:Int)==(length y:Int))) (Ax (L7 ((length x:Int)==(length y:Int))) (Ax (Th ((length x:Int)==(length y:Int))) rfl))))
abbrev _root_.Go.Proofs.S1.Ah.fit.Kn:=A7 prog 225 Ah.fit.spec
theorem Ah.fit.Ac (hk:A1 prog Ah.fit.Bc) (h:Hyp Ah.fit.E f225 Ah.fit.ts Ah.fit.pre Ah.fit.out):Ah.fit.Kn :=
 Al (A2 hk _ _ _) func225 (by kernel_rfl) (by kernel_rfl) h
def Ah.Hu.hint:Nat→Option Bg
 | 0=>some { keep:=[0,1,6,13,14],objs:=[],boxes:=[] }
 | _=>none
def Ah.Hu.Bc:List (Nat × Entry):=[(226,Ah.Add.spec),(157,Ah.Mul.spec),(225,Ah.fit.spec)]
def Ah.Hu.E:Env:=Be (Bb Ah.Hu.Bc) (fun _=>false) Ah.Hu.hint (fun _=>none)
section
variable (N M:Nat) (x y:List Int) (p6 p14:Int)
def Ah.Hu.L0:Option DV:=Bx Ah.Hu.E N f189 (Am f189) [1,1,1,0,1,0] [] M ⟨E5 30 [(0,.ints .arg .u64 x),(1,.ints .arg .u64 y),(6,.int .u64 p6),(13,.int .i64 (length x:Int)),(14,.int .i64 p14)],[]⟩
theorem Ah.Hu.Av:Ah.Hu.L0 N (M+1) x y p6 p14=bif (Bd p14 (length x:Int)) then bif ((decide (0≤p14))&&(decide (p14<(length x:Int)))) then bif ((decide (0≤p14))&&(decide (p14<(length y:Int)))) then bif (Ak (getD x (toNat p14) 0)&&Ak (getD y (toNat p14) 0)) then bif (Ak p6&&Ak (D5 (getD x (toNat p14) 0) (getD y (toNat p14) 0))) then Ah.Hu.L0 N M x y (Kd p6 (D5 (getD x (toNat p14) 0) (getD y (toNat p14) 0))) (Ab (p14+1)) else none else none else none else none else some (.tup [.int .u64 p6,.int .i64 0]) :=
 Eq.trans (by kernel_rfl)
 (Ec (Cp (I9 (decide (0≤p14)) (decide (p14<(length x:Int)))) (Cp (I9 (decide (0≤p14)) (decide (p14<(length y:Int)))) (Cp (Cd (Ak (getD x (toNat p14) 0)&&Ak (getD y (toNat p14) 0))) (Cp (Cd (Ak p6&&Ak (D5 (getD x (toNat p14) 0) (getD y (toNat p14) 0)))) rfl rfl) rfl) rfl) rfl) rfl)
theorem Ah.Hu.ev:Bu Ah.Hu.E N f189 (Am f189) [.ints .arg .u64 x,.ints .arg .u64 y]=bif (!(Pk x y)) then some (.tup [.int .u64 0,.int .i64 3]) else Ah.Hu.L0 N N x y 0 0:=by kernel_rfl
end
abbrev _root_.Go.Proofs.S1.Ah.Hu.Kn:=A7 prog 189 Ah.Hu.spec
theorem Ah.Hu.Ac (hk:A1 prog Ah.Hu.Bc) (h:Hyp Ah.Hu.E f189 Ah.Hu.ts Ah.Hu.pre Ah.Hu.out):Ah.Hu.Kn :=
 Al (A2 hk _ _ _) func189 (by kernel_rfl) (by kernel_rfl) h
def Ai.F.Bc:List (Nat × Entry):=[]
def Ai.F.E:Env:=Be (Bb Ai.F.Bc) (fun _=>false) (fun _=>none) (fun _=>none)
theorem Ai.F.ev (N:Nat) (x:Int):Bu Ai.F.E N f159 (Am f159) [.int .u64 x]=bif (decide (0≤x)) then some (.fl (toNat x)) else none:=by kernel_rfl
abbrev _root_.Go.Proofs.S1.Ai.F.Kn:=A7 prog 159 Ai.F.spec
theorem Ai.F.Ac (hk:A1 prog Ai.F.Bc) (h:Hyp Ai.F.E f159 Ai.F.ts Ai.F.pre Ai.F.out):Ai.F.Kn :=
 Al (A2 hk _ _ _) func159 (by kernel_rfl) (by kernel_rfl) h
def Ai.B.Bc:List (Nat × Entry):=[(168,Ep.Canon.nb.spec)]
def Ai.B.E:Env:=Be (Bb Ai.B.Bc) (fun _=>false) (fun _=>none) (fun _=>none)
theorem Ai.B.ev (N x:Nat):Bu Ai.B.E N f102 (Am f102) [.fl x]=some (.int .u64 (Ge x)):=by kernel_rfl
abbrev _root_.Go.Proofs.S1.Ai.B.Kn:=A7 prog 102 Ai.B.spec
theorem Ai.B.Ac (hk:A1 prog Ai.B.Bc) (h:Hyp Ai.B.E f102 Ai.B.ts Ai.B.pre Ai.B.out):Ai.B.Kn :=
 Al (A2 hk _ _ _) func102 (by kernel_rfl) (by kernel_rfl) h
def Ai.Add.Bc:List (Nat × Entry):=[(102,Ai.B.spec),(159,Ai.F.spec)]
def Ai.Add.E:Env:=Be (Bb Ai.Add.Bc) (fun _=>false) (fun _=>none) (fun _=>none)
theorem Ai.Add.ev (N:Nat) (a b:Int):Bu Ai.Add.E N f181 (Am f181) [.int .u64 a,.int .u64 b]=bif (Ak a) then bif (Ak b) then some (.int .u64 (Ge ((Ieee.double.add (toNat a) (toNat b)).getD nanBits))) else none else none:=by kernel_rfl
abbrev _root_.Go.Proofs.S1.Ai.Add.Kn:=A7 prog 181 Ai.Add.spec
theorem Ai.Add.Ac (hk:A1 prog Ai.Add.Bc) (h:Hyp Ai.Add.E f181 Ai.Add.ts Ai.Add.pre Ai.Add.out):Ai.Add.Kn :=
 Al (A2 hk _ _ _) func181 (by kernel_rfl) (by kernel_rfl) h
def Ai.Sub.Bc:List (Nat × Entry):=[(102,Ai.B.spec),(159,Ai.F.spec)]
def Ai.Sub.E:Env:=Be (Bb Ai.Sub.Bc) (fun _=>false) (fun _=>none) (fun _=>none)
theorem Ai.Sub.ev (N:Nat) (a b:Int):Bu Ai.Sub.E N f81 (Am f81) [.int .u64 a,.int .u64 b]=bif (Ak a) then bif (Ak b) then some (.int .u64 (Ge ((Ieee.double.sub (toNat a) (toNat b)).getD nanBits))) else none else none:=by kernel_rfl
abbrev _root_.Go.Proofs.S1.Ai.Sub.Kn:=A7 prog 81 Ai.Sub.spec
theorem Ai.Sub.Ac (hk:A1 prog Ai.Sub.Bc) (h:Hyp Ai.Sub.E f81 Ai.Sub.ts Ai.Sub.pre Ai.Sub.out):Ai.Sub.Kn :=
 Al (A2 hk _ _ _) func81 (by kernel_rfl) (by kernel_rfl) h
def Ai.Mul.Bc:List (Nat × Entry):=[(102,Ai.B.spec),(159,Ai.F.spec)]
def Ai.Mul.E:Env:=Be (Bb Ai.Mul.Bc) (fun _=>false) (fun _=>none) (fun _=>none)
theorem Ai.Mul.ev (N:Nat) (a b:Int):Bu Ai.Mul.E N f82 (Am f82) [.int .u64 a,.int .u64 b]=bif (Ak a) then bif (Ak b) then some (.int .u64 (Ge ((Ieee.double.mul (toNat a) (toNat b)).getD nanBits))) else none else none:=by kernel_rfl
abbrev _root_.Go.Proofs.S1.Ai.Mul.Kn:=A7 prog 82 Ai.Mul.spec
theorem Ai.Mul.Ac (hk:A1 prog Ai.Mul.Bc) (h:Hyp Ai.Mul.E f82 Ai.Mul.ts Ai.Mul.pre Ai.Mul.out):Ai.Mul.Kn :=
 Al (A2 hk _ _ _) func82 (by kernel_rfl) (by kernel_rfl) h
def Ai.Hu.hint:Nat→Option Bg
 | 0=>some { keep:=[0,1,5,6],objs:=[],boxes:=[] }
 | _=>none
def Ai.Hu.Bc:List (Nat × Entry):=[(181,Ai.Add.spec),(82,Ai.Mul.spec)]
def Ai.Hu.E:Env:=Be (Bb Ai.Hu.Bc) (fun _=>false) Ai.Hu.hint (fun _=>none)
section
variable (N M:Nat) (x y:List Int) (p5 p6:Int)
def Ai.Hu.L0:Option DV:=Bx Ai.Hu.E N f118 (Am f118) [1,1,0,1,0] [] M ⟨E5 25 [(0,.ints .arg .u64 x),(1,.ints .arg .u64 y),(5,.int .u64 p5),(6,.int .i64 p6)],[]⟩
theorem Ai.Hu.Av:Ai.Hu.L0 N (M+1) x y p5 p6=bif (Bd p6 (length x:Int)) then bif ((decide (0≤p6))&&(decide (p6<(length x:Int)))) then bif ((decide (0≤p6))&&(decide (p6<(length y:Int)))) then bif (Ak (getD x (toNat p6) 0)&&Ak (getD y (toNat p6) 0)) then bif (Ak p5&&Ak (D5 (getD x (toNat p6) 0) (getD y (toNat p6) 0))) then Ai.Hu.L0 N M x y (Kd p5 (D5 (getD x (toNat p6) 0) (getD y (toNat p6) 0))) (Ab (p6+1)) else none else none else none else none else some (.int .u64 p5) :=
 Eq.trans (by kernel_rfl)
 (Ec (Cp (I9 (decide (0≤p6)) (decide (p6<(length x:Int)))) (Cp (I9 (decide (0≤p6)) (decide (p6<(length y:Int)))) (Cp (Cd (Ak (getD x (toNat p6) 0)&&Ak (getD y (toNat p6) 0))) (Cp (Cd (Ak p5&&Ak (D5 (getD x (toNat p6) 0) (getD y (toNat p6) 0)))) rfl rfl) rfl) rfl) rfl) rfl)
theorem Ai.Hu.ev:Bu Ai.Hu.E N f118 (Am f118) [.ints .arg .u64 x,.ints .arg .u64 y] =
 Ai.Hu.L0 N N x y 0 0:=by kernel_rfl
end
abbrev _root_.Go.Proofs.S1.Ai.Hu.Kn:=A7 prog 118 Ai.Hu.spec
theorem Ai.Hu.Ac (hk:A1 prog Ai.Hu.Bc) (h:Hyp Ai.Hu.E f118 Ai.Hu.ts Ai.Hu.pre Ai.Hu.out):Ai.Hu.Kn :=
 Al (A2 hk _ _ _) func118 (by kernel_rfl) (by kernel_rfl) h
def Ai.Cn.hint:Nat→Option Bg
 | 0=>some { keep:=[0,1,5],objs:=[],boxes:=[] }
 | _=>none
def Ai.Cn.Bc:List (Nat × Entry):=[]
def Ai.Cn.E:Env:=Be (Bb Ai.Cn.Bc) (fun _=>false) Ai.Cn.hint (fun _=>none)
section
variable (N M:Nat) (x y:List Int) (p5:Int)
def Ai.Cn.L0:Option DV:=Bx Ai.Cn.E N f99 (Am f99) [1,1,0,1,0] [] M ⟨E5 26 [(0,.ints .arg .u64 x),(1,.ints .arg .u64 y),(5,.int .i64 p5)],[]⟩
theorem Ai.Cn.Av:Ai.Cn.L0 N (M+1) x y p5=bif (Bd p5 (length x:Int)) then bif ((decide (0≤p5))&&(decide (p5<(length x:Int)))) then bif ((decide (0≤p5))&&(decide (p5<(length y:Int)))) then bif ((getD x (toNat p5) 0) !=(getD y (toNat p5) 0)) then some (.bool false) else Ai.Cn.L0 N M x y (Ab (p5+1)) else none else none else some (.bool true) :=
 Eq.trans (by kernel_rfl)
 (Ec (Cp (I9 (decide (0≤p5)) (decide (p5<(length x:Int)))) (Cp (I9 (decide (0≤p5)) (decide (p5<(length y:Int)))) rfl rfl) rfl) rfl)
theorem Ai.Cn.ev:Bu Ai.Cn.E N f99 (Am f99) [.ints .arg .u64 x,.ints .arg .u64 y]=bif ((length x:Int) !=(length y:Int)) then some (.bool false) else Ai.Cn.L0 N N x y 0:=by kernel_rfl
end
abbrev _root_.Go.Proofs.S1.Ai.Cn.Kn:=A7 prog 99 Ai.Cn.spec
theorem Ai.Cn.Ac (hk:A1 prog Ai.Cn.Bc) (h:Hyp Ai.Cn.E f99 Ai.Cn.ts Ai.Cn.pre Ai.Cn.out):Ai.Cn.Kn :=
 Al (A2 hk _ _ _) func99 (by kernel_rfl) (by kernel_rfl) h
end EqVec
open Go Go.Den Go.Rnd Go.Proofs Ieee
open EqVec
theorem U6 {b:Nat} (h3:Ao b≠3) (h4:Ao b≠4):Ay b=0↔Ao b=0 :=
 ⟨fun h=>by
  by_cases h0:Ao b=0
  ·exact h0
  ·exact absurd h (O4 h0 h3 h4),Wf⟩
theorem Lf (s:Bool):D8 (Bp s Eh)=Bp s Eh:=G8 s (A1y _)
theorem Va {a b:Nat} (ha:a<2^64) (hb:b<2^64) {d:Nat} (hd:Ao d=4):D8 ((Ieee.double.mul a b).getD d)=(Nz a b).1:=by
 have cd:D8 d=Qw:=A1r hd
 have ex:∀ s t:Bool,(s ^^ t)=(s !=t):=fun s t=>by cases s<;>cases t<;>rfl
 unfold Format.mul
 rw [Jb ha,Jb hb]
 unfold Nz
 by_cases a4:Ao a=4
 ·rw [A1r (.inl a4),Hf a4]; exact cd
 ·by_cases b4:Ao b=4
  ·rw [A1r (.inr b4),Hf b4]
   by_cases a3:Ao a=3
   ·rw [Ev a3]; exact cd
   ·rw [Eu a3 a4]; exact cd
  ·rw [A1q (fun h=>h.elim a4 b4)]
   by_cases a3:Ao a=3
   ·rw [A1r (.inl a3),Ev a3]
    by_cases b3:Ao b=3
    ·rw [Ev b3,A1q (by omega)]
     show D8 (Bp (B0 a ^^ B0 b) Eh)=_
     rw [Lf,ex]
    ·rw [Eu b3 b4]
     have z:=U6 b3 b4
     by_cases b0:Ao b=0
     ·have e:(Datum.infinity (B0 a)).product (.number (B0 b) (Ay b) (A9 b))=none:=A1r (z.2 b0)
      rw [e,A1r (.inr b0)]; exact cd
     ·have e:(Datum.infinity (B0 a)).product (.number (B0 b) (Ay b) (A9 b))=some (.infinity (B0 a ^^ B0 b)):=A1q (fun k=>b0 (z.1 k))
      rw [e,A1q (by omega)]
      show D8 (Bp (B0 a ^^ B0 b) Eh)=_
      rw [Lf,ex]
   ·rw [Eu a3 a4]
    have z:=U6 a3 a4
    by_cases b3:Ao b=3
    ·rw [A1r (.inr b3),Ev b3]
     have sw:∀ s t:Bool,(t ^^ s)=(s !=t):=fun s t=>by cases s<;>cases t<;>rfl
     by_cases a0:Ao a=0
     ·have e:(Datum.number (B0 a) (Ay a) (A9 a)).product (.infinity (B0 b))=none:=A1r (z.2 a0)
      rw [e,A1r (.inl a0)]; exact cd
     ·have e:(Datum.number (B0 a) (Ay a) (A9 a)).product (.infinity (B0 b))=some (.infinity (B0 b ^^ B0 a)):=A1q (fun k=>a0 (z.1 k))
      rw [e,A1q (by omega)]
      show D8 (Bp (B0 b ^^ B0 a) Eh)=_
      rw [Lf,sw]
    ·rw [Eu b3 b4,A1q (by omega)]
     show D8 (Ieee.double.write (.number (B0 a ^^ B0 b) (Ay a*Ay b) (A9 a+A9 b)))=_
     rw [Mv,G8 _ (Lj _ _),ex]
theorem G3:Ao nanBits=4:=by decide +kernel
theorem Ah.Add.known:Ah.Add.Kn:=Ah.Add.Ac (.cons sum.Add.known .nil) fun a b hp=>by
 have hp:(Ak a&&Ak b)=true:=hp
 refine ⟨0,Ah.Add.out [.i a,.i b],[],?_,.int⟩
 rw [Ah.Add.ev,hp]; rfl
theorem Ah.Sub.known:Ah.Sub.Kn:=Ah.Sub.Ac (.cons sum.Sub.known .nil) fun a b hp=>by
 have hp:(Ak a&&Ak b)=true:=hp
 refine ⟨0,Ah.Sub.out [.i a,.i b],[],?_,.int⟩
 rw [Ah.Sub.ev,hp]; rfl
theorem Ah.Mul.known:Ah.Mul.Kn:=Ah.Mul.Ac (.cons times.Mul.known .nil) fun a b hp=>by
 have hp:(Ak a&&Ak b)=true:=hp
 refine ⟨0,Ah.Mul.out [.i a,.i b],[],?_,.int⟩
 rw [Ah.Mul.ev,hp]; rfl
theorem Aqp (x y:List Int):(bif ((length x:Int)==(length y:Int)) then (Es (length x:Int) (64:Int)) else false)=Pk x y:=by
 unfold Pk
 rw [Ej,A1k]
 by_cases h:x.length=y.length
 ·have:((x.length:Int)==(y.length:Int))=true:=by rw [beq_iff_eq]; omega
  rw [this,A04,A05 h,A2h,A1b,A1b]; omega
 ·have:((x.length:Int)==(y.length:Int))=false:=by rw [A1z]; omega
  rw [this,A08,A09 h,Bool.false_and]
theorem Ah.fit.known:Ah.fit.Kn:=Ah.fit.Ac .nil fun x y _=>by
 refine ⟨0,Ah.fit.out [.l x,.l y],[],?_,.bool⟩
 rw [Ah.fit.ev,Aqp]; rfl
theorem Sh {x y:List Int}:Pk x y=true↔x.length=y.length∧x.length≤64:=by unfold Pk; simp
theorem Vt {l:List Int} {i:Nat} (h:i<l.length):l.drop i=l.getD i 0::l.drop (i+1):=by
 rw [List.drop_eq_getElem_cons h,A1e,A1l h]; rfl
theorem Ahg {x y:List Int} {i:Nat} (s:Nat) (hx:i<x.length) (hy:i<y.length) :
 Aeh s (x.drop i) (y.drop i)=Aeh (Lg s (Nz (x.getD i 0).toNat (y.getD i 0).toNat).1).1 (x.drop (i+1)) (y.drop (i+1)):=by
 rw [Vt hx,Vt hy]; rfl
theorem Aq3 (N:Nat) {x y:List Int} (hf:Pk x y=true) (hx:Ag x=true) (hy:Ag y=true):∀ (k i F s:Nat),i+k=x.length→k<F→s<2^64 →
 Ah.Hu.L0 N F x y (s:Int) (i:Int)=some (.tup [.int .u64 ((Aeh s (x.drop i) (y.drop i):Nat):Int),.int .i64 (0:Int)]):=by
 obtain ⟨h1,h2⟩:=Sh.1 hf
 intro k
 induction k with
 | zero =>
   intro i F s hi hF hs
   obtain ⟨F,rfl⟩:∃ G,F=G+1:=⟨F-1,by omega⟩
   rw [Ah.Hu.Av,Aw,A09 (by omega),A08,A1i (by omega)]
   rfl
 | succ k ih =>
   intro i F s hi hF hs
   obtain ⟨F,rfl⟩:∃ G,F=G+1:=⟨F-1,by omega⟩
   have c1:decide ((i:Int)<(x.length:Int))=true:=A05 (by omega)
   have c2:decide ((i:Int)<(y.length:Int))=true:=A05 (by omega)
   have c3:decide ((0:Int)≤(i:Int))=true:=A05 (by omega)
   have g1:=Qn hx (show i<x.length by omega)
   have g2:=Qn hy (show i<y.length by omega)
   have em:D5 (x.getD i 0) (y.getD i 0)=(((Nz (x.getD i 0).toNat (y.getD i 0).toNat).1:Nat):Int):=rfl
   have ea:∀ t:Nat,Kd (s:Int) (t:Int)=(((Lg s t).1:Nat):Int):=fun t=>rfl
   rw [Ah.Hu.Av,Aw,c1,c2,c3,A06,g1,g2,em,ea,Ce hs,Ce Sb,A1a,A04,A04,A04,A04,A04,An (by omega) (by omega),Ahg s (by omega) (by omega)]
   exact ih (i+1) F _ (by omega) (by omega) (Vz hs Sb).1
theorem Ah.Hu.known:Ah.Hu.Kn:=Ah.Hu.Ac (.cons Ah.Add.known (.cons Ah.Mul.known (.cons Ah.fit.known .nil))) fun x y hp=>by
 obtain ⟨h1,hy⟩:=Ad.1 hp
 obtain ⟨hf,hx⟩:=Ad.1 h1
 refine ⟨x.length+1,Ah.Hu.out [.l x,.l y],[],?_,Wk.Gv (.cons .int (.cons .int .nil))⟩
 rw [Ah.Hu.ev,hf,A13,A08]
 exact Aq3 _ hf hx hy x.length 0 _ 0 (by omega) (by omega) (by decide)
theorem Ai.F.known:Ai.F.Kn:=Ai.F.Ac .nil fun x hp=>by
 obtain ⟨n,rfl,hn⟩:=Bo (x:=x) hp
 refine ⟨0,Ai.F.out [.i n],[],?_,.fl⟩
 rw [Ai.F.ev,A05 (Int.natCast_nonneg n)]; rfl
theorem Ai.B.known:Ai.B.Kn:=Ai.B.Ac (.cons Ep.Canon.Apm .nil) fun x _=>by
 refine ⟨0,Ai.B.out [.f x],[],?_,.int⟩
 rw [Ai.B.ev]; rfl
theorem Ai.Add.known:Ai.Add.Kn:=Ai.Add.Ac (.cons Ai.B.known (.cons Ai.F.known .nil)) fun a b hp=>by
 obtain ⟨ha,hb⟩:=Ad.1 hp
 obtain ⟨a,rfl,hn⟩:=Bo ha
 obtain ⟨b,rfl,hm⟩:=Bo hb
 refine ⟨0,Ai.Add.out [.i a,.i b],[],?_,.int⟩
 rw [Ai.Add.ev,ha,hb,A06,A06]
 unfold Ge
 rw [Ark hn hm G3]; rfl
theorem Ai.Sub.known:Ai.Sub.Kn:=Ai.Sub.Ac (.cons Ai.B.known (.cons Ai.F.known .nil)) fun a b hp=>by
 obtain ⟨ha,hb⟩:=Ad.1 hp
 obtain ⟨a,rfl,hn⟩:=Bo ha
 obtain ⟨b,rfl,hm⟩:=Bo hb
 refine ⟨0,Ai.Sub.out [.i a,.i b],[],?_,.int⟩
 rw [Ai.Sub.ev,ha,hb,A06,A06]
 unfold Ge
 rw [Aon hn hm G3]; rfl
theorem Ai.Mul.known:Ai.Mul.Kn:=Ai.Mul.Ac (.cons Ai.B.known (.cons Ai.F.known .nil)) fun a b hp=>by
 obtain ⟨ha,hb⟩:=Ad.1 hp
 obtain ⟨a,rfl,hn⟩:=Bo ha
 obtain ⟨b,rfl,hm⟩:=Bo hb
 refine ⟨0,Ai.Mul.out [.i a,.i b],[],?_,.int⟩
 rw [Ai.Mul.ev,ha,hb,A06,A06]
 unfold Ge
 rw [Va hn hm G3]; rfl
theorem Adk (N:Nat) {x y:List Int} (hf:Pk x y=true) (hx:Ag x=true) (hy:Ag y=true):∀ (k i F s:Nat),i+k=x.length→k<F→s<2^64 →
 Ai.Hu.L0 N F x y (s:Int) (i:Int)=some (.int .u64 ((Aeh s (x.drop i) (y.drop i):Nat):Int)):=by
 obtain ⟨h1,h2⟩:=Sh.1 hf
 intro k
 induction k with
 | zero =>
   intro i F s hi hF hs
   obtain ⟨F,rfl⟩:∃ G,F=G+1:=⟨F-1,by omega⟩
   rw [Ai.Hu.Av,Aw,A09 (by omega),A08,A1i (by omega)]
   rfl
 | succ k ih =>
   intro i F s hi hF hs
   obtain ⟨F,rfl⟩:∃ G,F=G+1:=⟨F-1,by omega⟩
   have c1:decide ((i:Int)<(x.length:Int))=true:=A05 (by omega)
   have c2:decide ((i:Int)<(y.length:Int))=true:=A05 (by omega)
   have c3:decide ((0:Int)≤(i:Int))=true:=A05 (by omega)
   have g1:=Qn hx (show i<x.length by omega)
   have g2:=Qn hy (show i<y.length by omega)
   have em:D5 (x.getD i 0) (y.getD i 0)=(((Nz (x.getD i 0).toNat (y.getD i 0).toNat).1:Nat):Int):=rfl
   have ea:∀ t:Nat,Kd (s:Int) (t:Int)=(((Lg s t).1:Nat):Int):=fun t=>rfl
   rw [Ai.Hu.Av,Aw,c1,c2,c3,A06,g1,g2,em,ea,Ce hs,Ce Sb,A1a,A04,A04,A04,A04,A04,An (by omega) (by omega),Ahg s (by omega) (by omega)]
   exact ih (i+1) F _ (by omega) (by omega) (Vz hs Sb).1
theorem Ai.Hu.known:Ai.Hu.Kn:=Ai.Hu.Ac (.cons Ai.Add.known (.cons Ai.Mul.known .nil)) fun x y hp=>by
 obtain ⟨h1,hy⟩:=Ad.1 hp
 obtain ⟨hf,hx⟩:=Ad.1 h1
 refine ⟨x.length+1,Ai.Hu.out [.l x,.l y],[],?_,.int⟩
 rw [Ai.Hu.ev]
 exact Adk _ hf hx hy x.length 0 _ 0 (by omega) (by omega) (by decide)
theorem Al1 (N:Nat) (x y:List Int) (hl:x.length=y.length) (hb:x.length<2^62):∀ (k i F:Nat),i+k=x.length→k<F →
 Ai.Cn.L0 N F x y (i:Int)=some (.bool (Uv (x.drop i) (y.drop i))):=by
 intro k
 induction k with
 | zero =>
   intro i F hi hF
   obtain ⟨F,rfl⟩:∃ G,F=G+1:=⟨F-1,by omega⟩
   rw [Ai.Cn.Av,Aw,A09 (by omega),A08,A1i (by omega),A1i (by omega)]
   rfl
 | succ k ih =>
   intro i F hi hF
   obtain ⟨F,rfl⟩:∃ G,F=G+1:=⟨F-1,by omega⟩
   have c1:decide ((i:Int)<(x.length:Int))=true:=A05 (by omega)
   have c2:decide ((i:Int)<(y.length:Int))=true:=A05 (by omega)
   have c3:decide ((0:Int)≤(i:Int))=true:=A05 (by omega)
   rw [Ai.Cn.Av,Aw,c1,c2,c3,A06,Vt (show i<x.length by omega),Vt (show i<y.length by omega)]
   unfold Uv
   by_cases h:x.getD i 0=y.getD i 0
   ·have:(x.getD i 0 !=y.getD i 0)=false:=by rw [h]; simp
    have ih:=ih (i+1) F (by omega) (by omega)
    unfold Uv at ih
    rw [this,A1a,A04,A04,A04,A08,An (by omega) (by omega)]
    refine ih.trans ?_
    rw [h]
    simp
   ·have:(x.getD i 0 !=y.getD i 0)=true:=by simpa using h
    rw [this,A1a,A04,A04,A04,A04]
    simp only [List.cons.injEq,h,false_and,decide_false]
theorem Ai.Cn.known:Ai.Cn.Kn:=Ai.Cn.Ac .nil fun x y hp=>by
 have hp:=Au.1 (show Gp x=true from hp)
 refine ⟨x.length+1,Ai.Cn.out [.l x,.l y],[],?_,.bool⟩
 rw [Ai.Cn.ev]
 by_cases h:x.length=y.length
 ·have:((x.length:Int) !=(y.length:Int))=false:=by rw [h]; simp
  rw [this,A08]
  exact Al1 _ x y h (by omega) x.length 0 _ (by omega) (by omega)
 ·have:((x.length:Int) !=(y.length:Int))=true:=by simp only [bne_iff_ne,ne_eq]; omega
  rw [this,A04]
  have e:Uv x y=false:=A09 fun k=>h (by rw [k])
  show _=some (DV.bool (Uv x y))
  rw [e]
namespace EqMat
def Aa.size.Bc:List (Nat × Entry):=[]
def Aa.size.E:Env:=Be (Bb Aa.size.Bc) (fun _=>false) (fun _=>none) (fun _=>none)
theorem Aa.size.ev (N:Nat) (n:Int):Bu Aa.size.E N f204 (Am f204) [.int .i64 n]=some (.bool (bif (Es 0 n) then (Es n 6) else false)) :=
 Eq.trans (by kernel_rfl)
 (Ax (Oj (Es 0 n)) (Ax (L7 (Es 0 n)) (Ax (Th (Es 0 n)) rfl)))
abbrev _root_.Go.Proofs.S1.Aa.size.Kn:=A7 prog 204 Aa.size.spec
theorem Aa.size.Ac (hk:A1 prog Aa.size.Bc) (h:Hyp Aa.size.E f204 Aa.size.ts Aa.size.pre Aa.size.out):Aa.size.Kn :=
 Al (A2 hk _ _ _) func204 (by kernel_rfl) (by kernel_rfl) h
def Aa.Check.Bc:List (Nat × Entry):=[(204,Aa.size.spec)]
def Aa.Check.E:Env:=Be (Bb Aa.Check.Bc) (fun _=>false) (fun _=>none) (fun _=>none)
theorem Aa.Check.ev (N:Nat) (r c:Int) (l:List Int):Bu Aa.Check.E N f160 (Am f160) [.agg [.int .i64 r,.int .i64 c,.ints .arg .u64 l]]=bif (((!(Bv r))||(!(Bv c)))||((length l:Int) !=(Ab (r*c)))) then some (.int .i64 1) else some (.int .i64 0) :=
 Eq.trans (by kernel_rfl)
 (Ax (Aaw (Bv r)) (Ax (Q0 (Bv r)) (Ax (Q0 (Bv r)) (Ax (Q0 (Bv r)) (Ax (Ac1 (Bv r)) (Ax (Aok (Bv r) (Bv c)) (Ax (Ah9 (Bv r) (Bv c)) (Ax (Ah9 (Bv r) (Bv c)) (Ax (Aok (Bv r) (Bv c)) (Ax (Ah9 (Bv r) (Bv c)) (Ax (Aok (Bv r) (Bv c)) (Ax (Ah9 (Bv r) (Bv c)) (Ax (Axw (Bv r) (Bv c)) (Ax (Axw (Bv r) (Bv c)) (Ax (Axx (Bv r) (Bv c)) (Cp (Az1 (Bv r) (Bv c) ((length l:Int) !=(Ab (r*c)))) rfl rfl))))))))))))))))
abbrev _root_.Go.Proofs.S1.Aa.Check.Kn:=A7 prog 160 Aa.Check.spec
theorem Aa.Check.Ac (hk:A1 prog Aa.Check.Bc) (h:Hyp Aa.Check.E f160 Aa.Check.ts Aa.Check.pre Aa.Check.out):Aa.Check.Kn :=
 Al (A2 hk _ _ _) func160 (by kernel_rfl) (by kernel_rfl) h
def Aa.get.Bc:List (Nat × Entry):=[]
def Aa.get.E:Env:=Be (Bb Aa.get.Bc) (fun _=>false) (fun _=>none) (fun _=>none)
theorem Aa.get.ev (N:Nat) (r c:Int) (l:List Int) (i k:Int):Bu Aa.get.E N f193 (Am f193) [.agg [.int .i64 r,.int .i64 c,.ints .arg .u64 l],.int .i64 i,.int .i64 k]=bif ((decide (0≤(Ab ((Ab (i*c))+k))))&&(decide ((Ab ((Ab (i*c))+k))<(length l:Int)))) then some (.int .u64 (getD l (toNat (Ab ((Ab (i*c))+k))) 0)) else none:=by kernel_rfl
abbrev _root_.Go.Proofs.S1.Aa.get.Kn:=A7 prog 193 Aa.get.spec
theorem Aa.get.Ac (hk:A1 prog Aa.get.Bc) (h:Hyp Aa.get.E f193 Aa.get.ts Aa.get.pre Aa.get.out):Aa.get.Kn :=
 Al (A2 hk _ _ _) func193 (by kernel_rfl) (by kernel_rfl) h
def Aa.two.Bc:List (Nat × Entry):=[(160,Aa.Check.spec)]
def Aa.two.E:Env:=Be (Bb Aa.two.Bc) (fun _=>false) (fun _=>none) (fun _=>none)
theorem Aa.two.ev (N:Nat) (r c:Int) (l:List Int) (p q:Int) (m:List Int):Bu Aa.two.E N f186 (Am f186) [.agg [.int .i64 r,.int .i64 c,.ints .arg .u64 l],.agg [.int .i64 p,.int .i64 q,.ints .arg .u64 m]]=bif (((Le r c l) !=(0:Int))||((Le p q m) !=(0:Int))) then some (.int .i64 1) else some (.int .i64 0) :=
 Eq.trans (by kernel_rfl)
 (Ax (Uc ((Le r c l) !=(0:Int))) (Ax (Sr ((Le r c l) !=(0:Int))) (Ax (Sr ((Le r c l) !=(0:Int))) (Ax (Ye ((Le r c l) !=(0:Int))) (Cp (tt5 ((Le r c l) !=(0:Int)) ((Le p q m) !=(0:Int))) rfl rfl)))))
abbrev _root_.Go.Proofs.S1.Aa.two.Kn:=A7 prog 186 Aa.two.spec
theorem Aa.two.Ac (hk:A1 prog Aa.two.Bc) (h:Hyp Aa.two.E f186 Aa.two.ts Aa.two.pre Aa.two.out):Aa.two.Kn :=
 Al (A2 hk _ _ _) func186 (by kernel_rfl) (by kernel_rfl) h
def Aa.Row.Bc:List (Nat × Entry):=[]
def Aa.Row.E:Env:=Be (Bb Aa.Row.Bc) (fun _=>false) (fun _=>none) (fun _=>none)
theorem Aa.Row.ev (N:Nat) (r c:Int) (l:List Int) (i f:Int):Bu Aa.Row.E N f190 (Am f190) [.agg [.int .i64 r,.int .i64 c,.ints .arg .u64 l],.int .i64 i,.int .i64 f]=bif (((decide ((0:Int)≤(Ab ((Ab (i*c))+f))))&&(decide ((Ab ((Ab (i*c))+f))≤(Ab ((Ab (i+1))*c)))))&&((decide ((0:Int)≤(Ab ((Ab (i+1))*c))))&&(decide ((Ab ((Ab (i+1))*c))≤(length l:Int))))) then bif (decide (0+(length (List.drop (toNat (Ab ((Ab (i*c))+f))) (List.take (toNat (Ab ((Ab (i+1))*c))) l)))≤Gw)) then some (.ints (.own 22 37) .u64 ([]++(List.drop (toNat (Ab ((Ab (i*c))+f))) (List.take (toNat (Ab ((Ab (i+1))*c))) l)))) else none else none :=
 Eq.trans (by kernel_rfl)
 (Cp (Axv (decide ((0:Int)≤(Ab ((Ab (i*c))+f)))) (decide ((Ab ((Ab (i*c))+f))≤(Ab ((Ab (i+1))*c)))) (decide ((0:Int)≤(Ab ((Ab (i+1))*c)))) (decide ((Ab ((Ab (i+1))*c))≤(length l:Int)))) rfl rfl)
abbrev _root_.Go.Proofs.S1.Aa.Row.Kn:=A7 prog 190 Aa.Row.spec
theorem Aa.Row.Ac (hk:A1 prog Aa.Row.Bc) (h:Hyp Aa.Row.E f190 Aa.Row.ts Aa.Row.pre Aa.Row.out):Aa.Row.Kn :=
 Al (A2 hk _ _ _) func190 (by kernel_rfl) (by kernel_rfl) h
def Aa.D3.hint:Nat→Option Bg
 | 0=>some { keep:=[1,3,7,8],objs:=[(0,7,100007,.ints 37 .u64 [])],boxes:=[3] }
 | _=>none
def Aa.D3.Bc:List (Nat × Entry):=[(193,Aa.get.spec)]
def Aa.D3.E:Env:=Be (Bb Aa.D3.Bc) (fun _=>false) Aa.D3.hint (fun _=>none)
section
variable (N M:Nat) (r c:Int) (l:List Int) (k f p8:Int) (p7:List Int)
def Aa.D3.L0:Option DV:=Bx Aa.D3.E N f191 (Am f191) [1,1,0,1,0] [] M ⟨E5 24 [(1,.int .i64 k),(3,.ptr 3 0 0),(7,.oref 100007),(8,.int .i64 p8)],[(3,false,.box [.int .i64 r,.int .i64 c,.ints .arg .u64 l]),(100007,false,.ints 37 .u64 p7)]⟩
theorem Aa.D3.Av:Aa.D3.L0 N (M+1) r c l k p8 p7=bif (Bd p8 r) then bif (Cj r c l p8 k) then bif (decide ((length p7)+1≤Gw)) then Aa.D3.L0 N M r c l k (Ab (p8+1)) (p7++[(D0 c l p8 k)]) else none else none else some (.ints (.own 100007 37) .u64 p7):=by kernel_rfl
theorem Aa.D3.ev:Bu Aa.D3.E N f191 (Am f191) [.agg [.int .i64 r,.int .i64 c,.ints .arg .u64 l],.int .i64 k,.int .i64 f] =
 Aa.D3.L0 N N r c l k f []:=by kernel_rfl
end
abbrev _root_.Go.Proofs.S1.Aa.D3.Kn:=A7 prog 191 Aa.D3.spec
theorem Aa.D3.Ac (hk:A1 prog Aa.D3.Bc) (h:Hyp Aa.D3.E f191 Aa.D3.ts Aa.D3.pre Aa.D3.out):Aa.D3.Kn :=
 Al (A2 hk _ _ _) func191 (by kernel_rfl) (by kernel_rfl) h
def Aa.Ed.Bc:List (Nat × Entry):=[]
def Aa.Ed.E:Env:=Be (Bb Aa.Ed.Bc) (fun _=>false) (fun _=>none) (fun _=>none)
theorem Aa.Ed.ev (N:Nat) (i k:Int):Bu Aa.Ed.E N f205 (Am f205) [.int .i64 i,.int .i64 k]=some (.int .u64 0):=by kernel_rfl
abbrev _root_.Go.Proofs.S1.Aa.Ed.Kn:=A7 prog 205 Aa.Ed.spec
theorem Aa.Ed.Ac (hk:A1 prog Aa.Ed.Bc) (h:Hyp Aa.Ed.E f205 Aa.Ed.ts Aa.Ed.pre Aa.Ed.out):Aa.Ed.Kn :=
 Al (A2 hk _ _ _) func205 (by kernel_rfl) (by kernel_rfl) h
def Aa.Hq.Bc:List (Nat × Entry):=[]
def Aa.Hq.E:Env:=Be (Bb Aa.Hq.Bc) (fun _=>false) (fun _=>none) (fun _=>none)
theorem Aa.Hq.ev (N:Nat) (i k:Int):Bu Aa.Hq.E N f246 (Am f246) [.int .i64 i,.int .i64 k]=bif (i==k) then some (.int .u64 4607182418800017408) else some (.int .u64 0):=by kernel_rfl
abbrev _root_.Go.Proofs.S1.Aa.Hq.Kn:=A7 prog 246 Aa.Hq.spec
theorem Aa.Hq.Ac (hk:A1 prog Aa.Hq.Bc) (h:Hyp Aa.Hq.E f246 Aa.Hq.ts Aa.Hq.pre Aa.Hq.out):Aa.Hq.Kn :=
 Al (A2 hk _ _ _) func246 (by kernel_rfl) (by kernel_rfl) h
def Aa.Fq.Bc:List (Nat × Entry):=[(193,Aa.get.spec)]
def Aa.Fq.E:Env:=Be (Bb Aa.Fq.Bc) (fun _=>false) (fun _=>none) (fun _=>none)
theorem Aa.Fq.ev (N:Nat) (i k:Int) (r c:Int) (l:List Int):Bu Aa.Fq.E N f220 (Am f220) [.int .i64 i,.int .i64 k,.cellp [.int .i64 r,.int .i64 c,.ints .arg .u64 l]]=bif (Cj r c l k i) then some (.int .u64 (D0 c l k i)) else none:=by kernel_rfl
abbrev _root_.Go.Proofs.S1.Aa.Fq.Kn:=A7 prog 220 Aa.Fq.spec
theorem Aa.Fq.Ac (hk:A1 prog Aa.Fq.Bc) (h:Hyp Aa.Fq.E f220 Aa.Fq.ts Aa.Fq.pre Aa.Fq.out):Aa.Fq.Kn :=
 Al (A2 hk _ _ _) func220 (by kernel_rfl) (by kernel_rfl) h
def Aa.Fs.Bc:List (Nat × Entry):=[(193,Aa.get.spec)]
def Aa.Fs.E:Env:=Be (Bb Aa.Fs.Bc) (fun _=>false) (fun _=>none) (fun _=>none)
theorem Aa.Fs.ev (N:Nat) (i k:Int) (r c:Int) (l:List Int) (x y:Int):Bu Aa.Fs.E N f192 (Am f192) [.int .i64 i,.int .i64 k,.cellp [.int .i64 r,.int .i64 c,.ints .arg .u64 l],.cellp [.int .i64 x],.cellp [.int .i64 y]]=bif (Cj r c l (Ab (x+i)) (Ab (y+k))) then some (.int .u64 (D0 c l (Ab (x+i)) (Ab (y+k)))) else none:=by kernel_rfl
abbrev _root_.Go.Proofs.S1.Aa.Fs.Kn:=A7 prog 192 Aa.Fs.spec
theorem Aa.Fs.Ac (hk:A1 prog Aa.Fs.Bc) (h:Hyp Aa.Fs.E f192 Aa.Fs.ts Aa.Fs.pre Aa.Fs.out):Aa.Fs.Kn :=
 Al (A2 hk _ _ _) func192 (by kernel_rfl) (by kernel_rfl) h
def Aa.Hk.Bc:List (Nat × Entry):=[(193,Aa.get.spec),(156,Ah.Sub.spec)]
def Aa.Hk.E:Env:=Be (Bb Aa.Hk.Bc) (fun _=>false) (fun _=>none) (fun _=>none)
theorem Aa.Hk.ev (N:Nat) (i k:Int) (r c:Int) (l:List Int) (p q:Int) (m:List Int):Bu Aa.Hk.E N f194 (Am f194) [.int .i64 i,.int .i64 k,.cellp [.int .i64 r,.int .i64 c,.ints .arg .u64 l],.cellp [.int .i64 p,.int .i64 q,.ints .arg .u64 m]]=bif (Cj r c l i k) then bif (Cj p q m i k) then bif (Ak (D0 c l i k)&&Ak (D0 q m i k)) then some (.int .u64 (Dl (D0 c l i k) (D0 q m i k))) else none else none else none :=
 Eq.trans (by kernel_rfl)
 (Cp (Cd (Cj r c l i k)) (Cp (Cd (Cj p q m i k)) (Cp (Cd (Ak (D0 c l i k)&&Ak (D0 q m i k))) rfl rfl) rfl) rfl)
abbrev _root_.Go.Proofs.S1.Aa.Hk.Kn:=A7 prog 194 Aa.Hk.spec
theorem Aa.Hk.Ac (hk:A1 prog Aa.Hk.Bc) (h:Hyp Aa.Hk.E f194 Aa.Hk.ts Aa.Hk.pre Aa.Hk.out):Aa.Hk.Kn :=
 Al (A2 hk _ _ _) func194 (by kernel_rfl) (by kernel_rfl) h
def Aa.Hm.Bc:List (Nat × Entry):=[(191,Aa.D3.spec),(190,Aa.Row.spec),(189,Ah.Hu.spec)]
def Aa.Hm.E:Env:=Be (Bb Aa.Hm.Bc) (fun _=>false) (fun _=>none) (fun _=>none)
theorem Aa.Hm.ev (N:Nat) (i k:Int) (r c:Int) (l:List Int) (p q:Int) (m:List Int):Bu Aa.Hm.E N f188 (Am f188) [.int .i64 i,.int .i64 k,.cellp [.int .i64 r,.int .i64 c,.ints .arg .u64 l],.cellp [.int .i64 p,.int .i64 q,.ints .arg .u64 m]]=bif (Py r c l i&&decide ((0:Int)=0)) then bif (Hi p q m k&&Co (0≤(0:Int)∧(0:Int)≤p)) then bif ((Pk (Jr c l i) (C0 q m k 0 (toNat (p-0)))&&Ag (Jr c l i))&&Ag (C0 q m k 0 (toNat (p-0)))) then some (.int .u64 (Ms (Jr c l i) (C0 q m k 0 (toNat (p-0))))) else none else none else none :=
 Eq.trans (by kernel_rfl)
 (Cp (Cd (Py r c l i&&decide ((0:Int)=0))) (Cp (Cd (Hi p q m k&&Co (0≤(0:Int)∧(0:Int)≤p))) (Cp (Cd ((Pk (Jr c l i) (C0 q m k 0 (toNat (p-0)))&&Ag (Jr c l i))&&Ag (C0 q m k 0 (toNat (p-0))))) rfl rfl) rfl) rfl)
abbrev _root_.Go.Proofs.S1.Aa.Hm.Kn:=A7 prog 188 Aa.Hm.spec
theorem Aa.Hm.Ac (hk:A1 prog Aa.Hm.Bc) (h:Hyp Aa.Hm.E f188 Aa.Hm.ts Aa.Hm.pre Aa.Hm.out):Aa.Hm.Kn :=
 Al (A2 hk _ _ _) func188 (by kernel_rfl) (by kernel_rfl) h
end EqMat
open EqMat
theorem Ja {a b:Int} (h1:0≤a) (h2:a<20) (h3:0≤b) (h4:b<20):0≤a*b∧a*b<400:=by
 have:=Int.mul_nonneg h1 h3
 have h5:a*b≤19*19:=Int.mul_le_mul (by omega) (by omega) h3 (by omega)
 omega
theorem Aa.size.known:Aa.size.Kn:=Aa.size.Ac .nil fun n _=>by
 refine ⟨0,Aa.size.out [.i n],[],?_,.bool⟩
 have e:(bif (Es (0:Int) n) then (Es n (6:Int)) else false)=Bv n:=by
  unfold Bv
  rw [Ej,Ej]
  cases decide (0≤n)<;>rfl
 rw [Aa.size.ev,e]; rfl
theorem Ahi (r c:Int) (l:List Int):(((!(Bv r))||(!(Bv c)))||((length l:Int) !=(Ab (r*c))))=!(A0 r c l):=by
 unfold A0
 cases h1:Bv r with
 | false=>rfl
 | true =>
   cases h2:Bv c with
   | false=>rfl
   | true =>
     obtain ⟨r1,r2⟩:=Jp.1 h1
     obtain ⟨c1,c2⟩:=Jp.1 h2
     have:=Ja (a:=r) (b:=c) r1 (by omega) c1 (by omega)
     rw [An (by omega) (by omega),A1k]
     simp
theorem Aa.Check.known:Aa.Check.Kn:=Aa.Check.Ac (.cons Aa.size.known .nil) fun r c l _=>by
 refine ⟨0,Aa.Check.out [.i r,.i c,.l l],[],?_,.int⟩
 rw [Aa.Check.ev,Ahi]
 show _=some (DV.int .i64 (Le r c l))
 unfold Le
 cases A0 r c l<;>rfl
theorem Ib {c i k:Int} {l:List Int} {R:Int} (h:Cj R c l i k=true):Ab (Ab (i*c)+k)=i*c+k∧0≤i*c+k∧i*c+k<l.length:=by
 obtain ⟨h1,h2,h3,h4,h5,h6,h7,_⟩:=Au.1 h
 have:=Ja h1 (by omega) h5 (by omega)
 rw [An (x:=i*c) (by omega) (by omega),An (by omega) (by omega)]
 omega
theorem Aa.get.known:Aa.get.Kn:=Aa.get.Ac .nil fun r c l i k hp=>by
 obtain ⟨e,h1,h2⟩:=Ib (R:=r) (show Cj r c l i k=true from hp)
 refine ⟨0,Aa.get.out [.i r,.i c,.l l,.i i,.i k],[],?_,.int⟩
 rw [Aa.get.ev,e,A05 h1,A05 h2]
 rfl
theorem T2 (r c:Int) (l:List Int):((Le r c l) !=(0:Int))=!(A0 r c l):=by
 unfold Le
 cases A0 r c l<;>rfl
theorem Aa.two.known:Aa.two.Kn:=Aa.two.Ac (.cons Aa.Check.known .nil) fun r c l p q m _=>by
 refine ⟨0,Aa.two.out [.i r,.i c,.l l,.i p,.i q,.l m],[],?_,.int⟩
 rw [Aa.two.ev,T2,T2]
 show _=some (DV.int .i64 (Yd r c l p q m))
 unfold Yd
 cases A0 r c l<;>cases A0 p q m<;>rfl
theorem Aa.Row.known:Aa.Row.Kn:=Aa.Row.Ac .nil fun r c l i f hp=>by
 obtain ⟨h0,hf⟩:=Ad.1 hp
 obtain rfl:=A1u hf
 obtain ⟨hr,hi⟩:=Ad.1 h0
 have hi:=Au.1 hi
 obtain ⟨R,C,rfl,rfl,r6,c6,hl⟩:=Ck hr
 obtain ⟨I,rfl⟩:∃ k:Nat,i=k:=⟨i.toNat,by omega⟩
 have hm:=Ja (a:=(I:Int)) (b:=(C:Int)) (by omega) (by omega) (by omega) (by omega)
 have hm2:=Ja (a:=(I:Int)+1) (b:=(C:Int)) (by omega) (by omega) (by omega) (by omega)
 have hle:(I+1)*C≤R*C:=A1g C (by omega)
 have hle2:I*C≤(I+1)*C:=A1g C (by omega)
 have e1:(I:Int)*(C:Int)=((I*C:Nat):Int):=(A1p _ _).symm
 have e2:((I:Int)+1)*(C:Int)=(((I+1)*C:Nat):Int):=by rw [A1p]; rfl
 refine ⟨0,.ints (.own 22 tB) .u64 (Jr (C:Int) l (I:Int)),[22],?_,.drop _ _ _ _ (List.mem_singleton.2 rfl)⟩
 rw [Aa.Row.ev,An (x:=(I:Int)+1) (by omega) (by omega),An (x:=(I:Int)*(C:Int)) (by omega) (by omega),Int.add_zero,An (x:=(I:Int)*(C:Int)) (by omega) (by omega),An (x:=((I:Int)+1)*(C:Int)) (by omega) (by omega)]
 unfold Jr
 have d1:decide ((0:Int)≤(I:Int)*(C:Int))=true:=A05 (by omega)
 have d2:decide ((I:Int)*(C:Int)≤((I:Int)+1)*(C:Int))=true:=A05 (by rw [e1,e2]; omega)
 have d3:decide ((0:Int)≤((I:Int)+1)*(C:Int))=true:=A05 (by omega)
 have d4:decide (((I:Int)+1)*(C:Int)≤(l.length:Int))=true:=A05 (by rw [e2]; omega)
 have d5:decide (0+(List.drop ((I:Int)*(C:Int)).toNat (List.take (((I:Int)+1)*(C:Int)).toNat l)).length≤Gw)=true:=by
  refine A05 ?_
  rw [List.length_drop,List.length_take]
  unfold Gw
  omega
 rw [d1,d2,d3,d4,d5]
 rfl
theorem Gm (c b i:Int) (n:Nat) (l:List Int):(C0 c l b i n).length=n:=by unfold C0; rw [A2a,A17]
theorem Ak8 (r c:Int) (l:List Int) (k:Int):C0 c l k 0 (toNat (r-0))=Pm r c l k:=by
 unfold C0 Pm
 rw [Int.sub_zero]
 refine List.map_congr_left fun j _=>?_
 rw [Int.zero_add]
theorem X9 {r:Int} (h:0≤r):Co (0≤(0:Int)∧0≤r)=true:=Au.2 ⟨Int.le_refl _,h⟩
theorem Aq9 (N:Nat) {R C K f:Nat} {l:List Int} (r6:R≤6) (c6:C≤6) (hl:l.length=R*C) (hk:K<C):∀ (k i F:Nat),f+i+k=R→k<F →
 Aa.D3.L0 N F (R:Int) (C:Int) l (K:Int) ((f+i:Nat):Int) (C0 (C:Int) l (K:Int) (f:Int) i)=some (.ints (.own 100007 tB) .u64 (C0 (C:Int) l (K:Int) (f:Int) (R-f))):=by
 intro k
 induction k with
 | zero =>
   intro i F hi hF
   obtain ⟨F,rfl⟩:∃ G,F=G+1:=⟨F-1,by omega⟩
   rw [Aa.D3.Av,Aw,A09 (by omega),A08,show R-f=i by omega]
 | succ k ih =>
   intro i F hi hF
   obtain ⟨F,rfl⟩:∃ G,F=G+1:=⟨F-1,by omega⟩
   have d:decide ((C0 (C:Int) l (K:Int) (f:Int) i).length+1≤Gw)=true:=A05 (by rw [Gm]; unfold Gw; omega)
   rw [Aa.D3.Av,Aw,A05 (by omega),A04,C3 r6 c6 hl (show f+i<R by omega) hk,A04,d,A04,An (by omega) (by omega)]
   have:=ih (i+1) F (by omega) (by omega)
   unfold C0 at this ⊢
   rw [List.range_succ,List.map_append] at this
   exact this
theorem Aa.D3.known:Aa.D3.Kn:=Aa.D3.Ac (.cons Aa.get.known .nil) fun r c l k f hp=>by
 obtain ⟨h0,hf⟩:=Ad.1 (show (Hi r c l k&&Co (0≤f∧f≤r))=true from hp)
 have hf:=Au.1 hf
 obtain ⟨hr,hi⟩:=Ad.1 h0
 have hi:=Au.1 hi
 obtain ⟨R,C,rfl,rfl,r6,c6,hl⟩:=Ck hr
 obtain ⟨K,rfl⟩:∃ j:Nat,k=j:=⟨k.toNat,by omega⟩
 obtain ⟨f,rfl⟩:∃ j:Nat,f=j:=⟨f.toNat,by omega⟩
 refine ⟨8,.ints (.own 100007 tB) .u64 (C0 (C:Int) l (K:Int) (f:Int) (R-f)),[100007],?_,?_⟩
 ·rw [Aa.D3.ev]
  exact Aq9 8 r6 c6 hl (by omega) (R-f) 0 8 (by omega) (by omega)
 ·show Wk _ _ (DV.ints .fresh .u64 (C0 (C:Int) l (K:Int) (f:Int) (toNat ((R:Int)-(f:Int)))))
  rw [show toNat ((R:Int)-(f:Int))=R-f by omega]
  exact .drop _ _ _ _ (List.mem_singleton.2 rfl)
theorem Lx {r c i k:Int} {l:List Int} (h:A0 r c l=true) (h1:0≤i) (h2:i<r) (h3:0≤k) (h4:k<c) (R:Int):Cj R c l i k=true:=by
 obtain ⟨R',C,rfl,rfl,r6,c6,hl⟩:=Ck h
 obtain ⟨I,rfl⟩:∃ j:Nat,i=j:=⟨i.toNat,by omega⟩
 obtain ⟨K,rfl⟩:∃ j:Nat,k=j:=⟨k.toNat,by omega⟩
 exact C3 r6 c6 hl (by omega) (by omega)
theorem Aa.Ed.known:Aa.Ed.Kn:=Aa.Ed.Ac .nil fun i k _=>by
 refine ⟨0,Aa.Ed.out [.i i,.i k],[],?_,.int⟩
 rw [Aa.Ed.ev]; rfl
theorem Aa.Hq.known:Aa.Hq.Kn:=Aa.Hq.Ac .nil fun i k _=>by
 refine ⟨0,Aa.Hq.out [.i i,.i k],[],?_,.int⟩
 rw [Aa.Hq.ev]
 show _=some (DV.int .u64 (N0 i k))
 unfold N0
 by_cases h:i=k
 ·have:(i==k)=true:=by rw [h]; simp
  rw [this,A1r h]; rfl
 ·have:(i==k)=false:=by simpa using h
  rw [this,A1q h]; rfl
theorem Aa.Fq.known:Aa.Fq.Kn:=Aa.Fq.Ac (.cons Aa.get.known .nil) fun i k r c l hp=>by
 have hp:Cj r c l k i=true:=hp
 refine ⟨0,Aa.Fq.out [.i i,.i k,.i r,.i c,.l l],[],?_,.int⟩
 rw [Aa.Fq.ev,hp]; rfl
theorem Aa.Fs.known:Aa.Fs.Kn:=Aa.Fs.Ac (.cons Aa.get.known .nil) fun i k r c l x y hp=>by
 obtain ⟨h1,h2⟩:=Ad.1 hp
 have h2:=Au.1 h2
 refine ⟨0,Aa.Fs.out [.i i,.i k,.i r,.i c,.l l,.i x,.i y],[],?_,.int⟩
 rw [Aa.Fs.ev,An (x:=x+i) (by omega) (by omega),An (x:=y+k) (by omega) (by omega),h1]; rfl
theorem Pw {R C:Nat} {l:List Int} (hl:l.length=R*C) {I:Nat} (hi:I<R):(Jr (C:Int) l (I:Int)).length=C:=by
 have hle:(I+1)*C≤R*C:=A1g C (by omega)
 have e1:((I:Int)*(C:Int)).toNat=I*C:=by rw [← A1p,A06]
 have e2:(((I:Int)+1)*(C:Int)).toNat=(I+1)*C:=by
  have:((I:Int)+1)*(C:Int)=(((I+1)*C:Nat):Int):=by rw [A1p]; rfl
  rw [this,A06]
 unfold Jr
 rw [List.length_drop,List.length_take,e1,e2]
 rw [A18,Nat.one_mul] at hle ⊢
 omega
theorem Aah (R:Nat) (C:Int) (l:List Int) (K:Int):(Pm (R:Int) C l K).length=R:=by
 unfold Pm
 rw [A2a,A17,A06]
theorem Akg {c i:Int} {l:List Int} (h:Ag l=true):Ag (Jr c l i)=true:=by
 have h:=Au.1 h
 exact Au.2 fun x hx=>h x (List.mem_of_mem_take (List.mem_of_mem_drop hx))
theorem Fx {c i k:Int} {l:List Int} (h:Ag l=true):Ak (D0 c l i k)=true:=by
 unfold D0
 by_cases hj:(i*c+k).toNat<l.length
 ·exact Qn h hj
 ·rw [A1e,A2m (by omega)]
  exact Ce (n:=0) (by decide)
theorem Ak9 {r c k:Int} {l:List Int} (h:Ag l=true):Ag (Pm r c l k)=true:=by
 refine Au.2 fun x hx=>?_
 obtain ⟨j,_,rfl⟩:=List.mem_map.1 hx
 exact Fx h
theorem Aa.Hm.known:Aa.Hm.Kn:=Aa.Hm.Ac (.cons Aa.D3.known (.cons Aa.Row.known (.cons Ah.Hu.known .nil))) fun i k r c l p q m hp=>by
 obtain ⟨h1,h2⟩:=Ad.1 (show Tp r c l p q m i k=true from hp)
 obtain ⟨h3,h4⟩:=Ad.1 h1
 obtain ⟨h5,h6⟩:=Ad.1 h2
 obtain ⟨hl,hm⟩:=Ad.1 h5
 obtain rfl:=Au.1 h6
 obtain ⟨hr,hi⟩:=Ad.1 h3
 have hi:=Au.1 hi
 obtain ⟨R,C,rfl,rfl,r6,c6,ll⟩:=Ck hr
 obtain ⟨I,rfl⟩:∃ j:Nat,i=j:=⟨i.toNat,by omega⟩
 refine ⟨0,Aa.Hm.out [.i I,.i k,.i R,.i C,.l l,.i C,.i q,.l m],[],?_,.int⟩
 have hf:Pk (Jr (C:Int) l (I:Int)) (Pm (C:Int) q m k)=true:=Sh.2 ⟨by rw [Pw ll (by omega),Aah],by rw [Pw ll (by omega)]; omega⟩
 rw [Aa.Hm.ev,Ak8,h3,h4,hf,Akg hl,Ak9 hm,X9 (by omega)]
 rfl
namespace EqCmp
def compare.K8.Bc:List (Nat × Entry):=[(213,soft.Sign.spec)]
def compare.K8.E:Env:=Be (Bb compare.K8.Bc) (fun _=>false) (fun _=>none) (fun _=>none)
theorem compare.K8.ev (N:Nat) (b:Int):Bu compare.K8.E N f214 (Am f214) [.int .u64 b]=bif (Ak b) then bif (D4 b) then some (.int .i64 (Ab (0-(Ab (G5 .u64 b 9223372036854775808))))) else some (.int .i64 (Ab b)) else none:=by kernel_rfl
abbrev _root_.Go.Proofs.S1.compare.K8.Kn:=A7 prog 214 compare.K8.spec
theorem compare.K8.Ac (hk:A1 prog compare.K8.Bc) (h:Hyp compare.K8.E f214 compare.K8.ts compare.K8.pre compare.K8.out):compare.K8.Kn :=
 Al (A2 hk _ _ _) func214 (by kernel_rfl) (by kernel_rfl) h
def compare.Order.Bc:List (Nat × Entry):=[(214,compare.K8.spec),(155,soft.Kind.spec)]
def compare.Order.E:Env:=Be (Bb compare.Order.Bc) (fun _=>false) (fun _=>none) (fun _=>none)
theorem compare.Order.ev (N:Nat) (a b:Int):Bu compare.Order.E N f162 (Am f162) [.int .u64 a,.int .u64 b]=bif (Ak a) then bif ((Bk a)==(4:Int)) then some (.tup [.int .i64 0,.bool false]) else bif (Ak b) then bif ((Bk b)==(4:Int)) then some (.tup [.int .i64 0,.bool false]) else bif (Ak a) then bif (Ak b) then bif (Bd (Abq a) (Abq b)) then some (.tup [.int .i64 (-1:Int),.bool true]) else bif (Ak a) then bif (Ak b) then bif (Bd (Abq b) (Abq a)) then some (.tup [.int .i64 1,.bool true]) else some (.tup [.int .i64 0,.bool true]) else none else none else none else none else none else none:=by kernel_rfl
abbrev _root_.Go.Proofs.S1.compare.Order.Kn:=A7 prog 162 compare.Order.spec
theorem compare.Order.Ac (hk:A1 prog compare.Order.Bc) (h:Hyp compare.Order.E f162 compare.Order.ts compare.Order.pre compare.Order.out):compare.Order.Kn :=
 Al (A2 hk _ _ _) func162 (by kernel_rfl) (by kernel_rfl) h
def compare.Lh.Bc:List (Nat × Entry):=[(162,compare.Order.spec)]
def compare.Lh.E:Env:=Be (Bb compare.Lh.Bc) (fun _=>false) (fun _=>none) (fun _=>none)
theorem compare.Lh.ev (N:Nat) (a b:Int):Bu compare.Lh.E N f90 (Am f90) [.int .u64 a,.int .u64 b]=bif (Ak a&&Ak b) then some (.bool (Bd (Tn a b) 0)) else none:=by kernel_rfl
abbrev _root_.Go.Proofs.S1.compare.Lh.Kn:=A7 prog 90 compare.Lh.spec
theorem compare.Lh.Ac (hk:A1 prog compare.Lh.Bc) (h:Hyp compare.Lh.E f90 compare.Lh.ts compare.Lh.pre compare.Lh.out):compare.Lh.Kn :=
 Al (A2 hk _ _ _) func90 (by kernel_rfl) (by kernel_rfl) h
def compare.G7.Bc:List (Nat × Entry):=[]
def compare.G7.E:Env:=Be (Bb compare.G7.Bc) (fun _=>false) (fun _=>none) (fun _=>none)
theorem compare.G7.ev (N:Nat) (a:Int):Bu compare.G7.E N f87 (Am f87) [.int .u64 a]=some (.int .u64 (G5 .u64 a 9223372036854775808)):=by kernel_rfl
abbrev _root_.Go.Proofs.S1.compare.G7.Kn:=A7 prog 87 compare.G7.spec
theorem compare.G7.Ac (hk:A1 prog compare.G7.Bc) (h:Hyp compare.G7.E f87 compare.G7.ts compare.G7.pre compare.G7.out):compare.G7.Kn :=
 Al (A2 hk _ _ _) func87 (by kernel_rfl) (by kernel_rfl) h
def compare.E3.hint:Nat→Option Bg
 | 1=>some { keep:=[0,6,7,8],objs:=[],boxes:=[] }
 | _=>none
def compare.E3.Bc:List (Nat × Entry):=[(155,soft.Kind.spec),(212,soft.Du.spec),(211,soft.Fz.spec),(213,soft.Sign.spec)]
def compare.E3.E:Env:=Be (Bb compare.E3.Bc) (fun _=>false) compare.E3.hint (fun _=>none)
section
variable (N M:Nat) (a n p6 p7:Int) (p8:Bool)
def compare.E3.L0:Option DV:=Bx compare.E3.E N f161 (Am f161) [1,1,1,1,1,1,0,0] [] M ⟨E5 59 [(0,.int .u64 a),(6,.int .u64 p6),(7,.int .i64 p7),(8,.bool p8)],[]⟩
theorem compare.E3.Av:compare.E3.L0 N (M+1) a p6 p7 p8=bif ((Bd p7 (-1130:Int))&&(Bd 1 p6)) then compare.E3.L0 N M a (Dy .u64 p6 1) (Ab (p7+1)) (bif p8 then true else ((E6 .u64 p6 1)==(1:Int))) else bif (Bd p7 (-1130:Int)) then bif (Ak a) then bif (Er 0 (-1074:Int) true) then some (.tup [.int .u64 (Fe (D4 a) 0 (-1074:Int) true),.int .u8 (Fc (D4 a) 0 (-1074:Int) true)]) else none else none else bif (Ak a) then bif (Er p6 p7 p8) then some (.tup [.int .u64 (Fe (D4 a) p6 p7 p8),.int .u8 (Fc (D4 a) p6 p7 p8)]) else none else none :=
 Eq.trans (by kernel_rfl)
 (Ax (Oj (Bd p7 (-1130:Int))) (Ax (L7 (Bd p7 (-1130:Int))) (Ax (Th (Bd p7 (-1130:Int))) (Cp (tt1 (Bd p7 (-1130:Int)) (Bd 1 p6)) (Ax (Uc p8) (Ax (Sr p8) (Ax (Sr p8) (Ax (Ye p8) rfl)))) rfl))))
theorem compare.E3.ev:Bu compare.E3.E N f161 (Am f161) [.int .u64 a,.int .i64 n]=bif (Ak a) then bif ((Bk a)==(4:Int)) then some (.tup [.int .u64 9221120237041090560,.int .u8 0]) else bif ((Bk a)==(3:Int)) then bif ((Bk a)==(3:Int)) then some (.tup [.int .u64 a,.int .u8 0]) else bif (Ak a) then compare.E3.L0 N N a (B1 a) (Ab ((Ba a)+(max (-2300:Int) (min 2300 n)))) false else none else bif ((Bk a)==(0:Int)) then some (.tup [.int .u64 a,.int .u8 0]) else bif (Ak a) then compare.E3.L0 N N a (B1 a) (Ab ((Ba a)+(max (-2300:Int) (min 2300 n)))) false else none else none:=by kernel_rfl
end
abbrev _root_.Go.Proofs.S1.compare.E3.Kn:=A7 prog 161 compare.E3.spec
theorem compare.E3.Ac (hk:A1 prog compare.E3.Bc) (h:Hyp compare.E3.E f161 compare.E3.ts compare.E3.pre compare.E3.out):compare.E3.Kn :=
 Al (A2 hk _ _ _) func161 (by kernel_rfl) (by kernel_rfl) h
def Ah.Bt.Bc:List (Nat × Entry):=[(161,compare.E3.spec)]
def Ah.Bt.E:Env:=Be (Bb Ah.Bt.Bc) (fun _=>false) (fun _=>none) (fun _=>none)
theorem Ah.Bt.ev (N:Nat) (a n:Int):Bu Ah.Bt.E N f88 (Am f88) [.int .u64 a,.int .i64 n]=bif (Ds a n) then some (.int .u64 (B3 a n)) else none:=by kernel_rfl
abbrev _root_.Go.Proofs.S1.Ah.Bt.Kn:=A7 prog 88 Ah.Bt.spec
theorem Ah.Bt.Ac (hk:A1 prog Ah.Bt.Bc) (h:Hyp Ah.Bt.E f88 Ah.Bt.ts Ah.Bt.pre Ah.Bt.out):Ah.Bt.Kn :=
 Al (A2 hk _ _ _) func88 (by kernel_rfl) (by kernel_rfl) h
def Ah.Div.Bc:List (Nat × Entry):=[(209,times.Div.spec)]
def Ah.Div.E:Env:=Be (Bb Ah.Div.Bc) (fun _=>false) (fun _=>none) (fun _=>none)
theorem Ah.Div.ev (N:Nat) (a b:Int):Bu Ah.Div.E N f158 (Am f158) [.int .u64 a,.int .u64 b]=bif (Ak a&&Ak b) then some (.int .u64 (Ez a b)) else none:=by kernel_rfl
abbrev _root_.Go.Proofs.S1.Ah.Div.Kn:=A7 prog 158 Ah.Div.spec
theorem Ah.Div.Ac (hk:A1 prog Ah.Div.Bc) (h:Hyp Ah.Div.E f158 Ah.Div.ts Ah.Div.pre Ah.Div.out):Ah.Div.Kn :=
 Al (A2 hk _ _ _) func158 (by kernel_rfl) (by kernel_rfl) h
def Ah.Br.hint:Nat→Option Bg
 | 0=>some { keep:=[3,6,7,8],objs:=[],boxes:=[] }
 | _=>none
def Ah.Br.Bc:List (Nat × Entry):=[(87,compare.G7.spec),(155,soft.Kind.spec)]
def Ah.Br.E:Env:=Be (Bb Ah.Br.Bc) (fun _=>false) Ah.Br.hint (fun _=>none)
section
variable (N M:Nat) (x:List Int) (p3 p8:Int)
def Ah.Br.L0:Option DV:=Bx Ah.Br.E N f89 (Am f89) [1,1,0,1,0] [] M ⟨E5 21 [(3,.int .u64 p3),(6,.ints .arg .u64 x),(7,.int .i64 (length x:Int)),(8,.int .i64 p8)],[]⟩
theorem Ah.Br.Av:Ah.Br.L0 N (M+1) x p3 p8=bif (Bd p8 (length x:Int)) then bif ((decide (0≤p8))&&(decide (p8<(length x:Int)))) then bif (Ak (getD x (toNat p8) 0)) then bif ((Bk (getD x (toNat p8) 0))==(4:Int)) then some (.int .u64 9221120237041090560) else bif (Ak (getD x (toNat p8) 0)) then Ah.Br.L0 N M x (max p3 (Jt (getD x (toNat p8) 0))) (Ab (p8+1)) else none else none else none else some (.int .u64 p3):=by kernel_rfl
theorem Ah.Br.ev:Bu Ah.Br.E N f89 (Am f89) [.ints .arg .u64 x] =
 Ah.Br.L0 N N x 0 0:=by kernel_rfl
end
abbrev _root_.Go.Proofs.S1.Ah.Br.Kn:=A7 prog 89 Ah.Br.spec
theorem Ah.Br.Ac (hk:A1 prog Ah.Br.Bc) (h:Hyp Ah.Br.E f89 Ah.Br.ts Ah.Br.pre Ah.Br.out):Ah.Br.Kn :=
 Al (A2 hk _ _ _) func89 (by kernel_rfl) (by kernel_rfl) h
def Ah.Finite.hint:Nat→Option Bg
 | 0=>some { keep:=[5,6,7],objs:=[],boxes:=[] }
 | _=>none
def Ah.Finite.Bc:List (Nat × Entry):=[(148,soft.Finite.spec)]
def Ah.Finite.E:Env:=Be (Bb Ah.Finite.Bc) (fun _=>false) Ah.Finite.hint (fun _=>none)
section
variable (N M:Nat) (x:List Int) (p7:Int)
def Ah.Finite.L0:Option DV:=Bx Ah.Finite.E N f150 (Am f150) [1,0,1,0] [] M ⟨E5 15 [(5,.ints .arg .u64 x),(6,.int .i64 (length x:Int)),(7,.int .i64 p7)],[]⟩
theorem Ah.Finite.Av:Ah.Finite.L0 N (M+1) x p7=bif (Bd p7 (length x:Int)) then bif ((decide (0≤p7))&&(decide (p7<(length x:Int)))) then bif (Ak (getD x (toNat p7) 0)) then bif (!(Dg (getD x (toNat p7) 0))) then some (.bool false) else Ah.Finite.L0 N M x (Ab (p7+1)) else none else none else some (.bool true):=by kernel_rfl
theorem Ah.Finite.ev:Bu Ah.Finite.E N f150 (Am f150) [.ints .arg .u64 x] =
 Ah.Finite.L0 N N x 0:=by kernel_rfl
end
abbrev _root_.Go.Proofs.S1.Ah.Finite.Kn:=A7 prog 150 Ah.Finite.spec
theorem Ah.Finite.Ac (hk:A1 prog Ah.Finite.Bc) (h:Hyp Ah.Finite.E f150 Ah.Finite.ts Ah.Finite.pre Ah.Finite.out):Ah.Finite.Kn :=
 Al (A2 hk _ _ _) func150 (by kernel_rfl) (by kernel_rfl) h
def Cu.Check.hint:Nat→Option Bg
 | 0=>some { keep:=[9,10,11],objs:=[],boxes:=[] }
 | _=>none
def Cu.Check.Bc:List (Nat × Entry):=[(160,Aa.Check.spec),(148,soft.Finite.spec)]
def Cu.Check.E:Env:=Be (Bb Cu.Check.Bc) (fun _=>false) Cu.Check.hint (fun _=>none)
section
variable (N:Nat) (r c:Int) (M:Nat) (l:List Int) (p11:Int)
def Cu.Check.L0:Option DV:=Bx Cu.Check.E N f86 (Am f86) [1,1,0,1,0] [] M ⟨E5 19 [(9,.ints .arg .u64 l),(10,.int .i64 (length l:Int)),(11,.int .i64 p11)],[]⟩
theorem Cu.Check.Av:Cu.Check.L0 N (M+1) l p11=bif (Bd p11 (length l:Int)) then bif ((decide (0≤p11))&&(decide (p11<(length l:Int)))) then bif (Ak (getD l (toNat p11) 0)) then bif (!(Dg (getD l (toNat p11) 0))) then some (.int .i64 4) else Cu.Check.L0 N M l (Ab (p11+1)) else none else none else some (.int .i64 0):=by kernel_rfl
theorem Cu.Check.ev:Bu Cu.Check.E N f86 (Am f86) [.agg [.int .i64 r,.int .i64 c,.ints .arg .u64 l]]=bif ((Le r c l) !=(0:Int)) then some (.int .i64 1) else Cu.Check.L0 N N l 0:=by kernel_rfl
end
abbrev _root_.Go.Proofs.S1.Cu.Check.Kn:=A7 prog 86 Cu.Check.spec
theorem Cu.Check.Ac (hk:A1 prog Cu.Check.Bc) (h:Hyp Cu.Check.E f86 Cu.Check.ts Cu.Check.pre Cu.Check.out):Cu.Check.Kn :=
 Al (A2 hk _ _ _) func86 (by kernel_rfl) (by kernel_rfl) h
end EqCmp
open EqCmp
theorem Sa {k j:Nat} (h:k≠j):(((k:Nat):Int)==((j:Nat):Int))=false:=by rw [A1z]; omega
theorem Acs (n:Nat):n%2^63<2^63:=Nat.mod_lt _ (by decide)
theorem Aaq {n:Nat} (h:n<2^64):G5 .u64 (n:Int) (9223372036854775808:Int)=((n%2^63:Nat):Int):=by
 have:=Qm (B0 n) (Acs n)
 rw [M3 h] at this
 exact this
theorem compare.G7.known:compare.G7.Kn:=compare.G7.Ac .nil fun a hp=>by
 obtain ⟨n,rfl,hn⟩:=Bo (show Ak a=true from hp)
 refine ⟨0,compare.G7.out [.i (n:Int)],[],?_,.int⟩
 show _=some (DV.int .u64 (((n:Int).toNat%2^63:Nat):Int))
 rw [compare.G7.ev,Aaq hn,A06]
theorem compare.K8.known:compare.K8.Kn:=compare.K8.Ac (.cons soft.Sign.known .nil) fun b hp=>by
 have hp:Ak b=true:=hp
 obtain ⟨n,rfl,hn⟩:=Bo hp
 refine ⟨0,compare.K8.out [.i (n:Int)],[],?_,.int⟩
 show _=some (DV.int .i64 (Im (n:Int).toNat))
 have h63:=Acs n
 rw [compare.K8.ev,hp,A04,Aaq hn,A06]
 unfold Im Hv D4
 rw [A06]
 cases hs:B0 n with
 | true =>
   rw [A04,A1r rfl,An (x:=((n%2^63:Nat):Int)) (by omega) (by omega),An (by omega) (by omega)]
   congr 2; omega
 | false =>
   have:n<2^63:=by
    unfold B0 at hs
    have:=of_decide_eq_false hs
    omega
   rw [A08,A1q (by decide),A1h this,An (by omega) (by omega)]
theorem compare.Order.known:compare.Order.Kn:=compare.Order.Ac (.cons compare.K8.known (.cons soft.Kind.known .nil)) fun a b hp=>by
 obtain ⟨ha,hb⟩:=Ad.1 (show (Ak a&&Ak b)=true from hp)
 refine ⟨0,compare.Order.out [.i a,.i b],[],?_,Wk.Gv (.cons .int (.cons .bool .nil))⟩
 show _=some (DV.tup [.int .i64 (Af6 a.toNat b.toNat),.bool (Aa4 a.toNat b.toNat)])
 rw [compare.Order.ev,ha,hb,A04,A04,A04,A04,A04,A04,Aw,Aw]
 unfold Af6 Aa4 Abq Bk
 by_cases h1:Ao a.toNat=4
 ·have e:(((Ao a.toNat:Nat):Int)==(4:Int))=true:=by rw [h1]; rfl
  rw [e,A04,A1r (.inl h1),A05 (.inl h1)]; rfl
 ·have e:(((Ao a.toNat:Nat):Int)==(4:Int))=false:=Sa h1
  rw [e,A08]
  by_cases h2:Ao b.toNat=4
  ·have e:(((Ao b.toNat:Nat):Int)==(4:Int))=true:=by rw [h2]; rfl
   rw [e,A04,A1r (.inr h2),A05 (.inr h2)]; rfl
  ·have e:(((Ao b.toNat:Nat):Int)==(4:Int))=false:=Sa h2
   have hn:¬ (Ao a.toNat=4∨Ao b.toNat=4):=fun h=>h.elim h1 h2
   rw [e,A08,A1q hn,A09 hn]
   by_cases h3:Im a.toNat<Im b.toNat
   ·rw [A05 h3,A1r h3]; rfl
   ·rw [A09 h3,A1q h3]
    by_cases h4:Im b.toNat<Im a.toNat
    ·rw [A05 h4,A1r h4]; rfl
    ·rw [A09 h4,A1q h4]; rfl
theorem compare.Lh.known:compare.Lh.Kn:=compare.Lh.Ac (.cons compare.Order.known .nil) fun a b hp=>by
 have hp:(Ak a&&Ak b)=true:=hp
 refine ⟨0,compare.Lh.out [.i a,.i b],[],?_,.bool⟩
 rw [compare.Lh.ev,hp,Aw]; rfl
theorem Aif (N:Nat) {a:Int} (ha:Ak a=true):∀ (k F m:Nat) (e:Int) (b:Bool),e=-1130-(k:Int)→k<F→m<2^53→(m≠0∨b=true)→-9000<e →
 compare.E3.L0 N F a (m:Int) e b=some (.tup [.int .u64 (((Bp (B0 a.toNat) 0,3):Nat × Nat).1:Nat),.int .u8 (((Bp (B0 a.toNat) 0,3):Nat × Nat).2:Nat)]):=by
 have pre1:Er (0:Int) (-1074:Int) true=true:=Au.2 (by omega)
 intro k
 induction k with
 | zero =>
   intro F m e b he hF hm h0 _
   obtain ⟨F,rfl⟩:∃ G,F=G+1:=⟨F-1,by omega⟩
   have hlt:Bd e (-1130:Int)=false:=by rw [Aw]; exact A09 (by omega)
   have Ss:Er (m:Int) e b=true:=Au.2 (by omega)
   rw [compare.E3.Av,hlt,Bool.false_and,A08,A08,ha,A04,Ss,A04]
   unfold Fe Fc D4
   rw [A06,Amm _ hm h0 (by omega)]
 | succ k ih =>
   intro F m e b he hF hm h0 hb
   obtain ⟨F,rfl⟩:∃ G,F=G+1:=⟨F-1,by omega⟩
   have hlt:Bd e (-1130:Int)=true:=by rw [Aw]; exact A05 (by omega)
   rw [compare.E3.Av,hlt,A2h,A04,Aw]
   by_cases h1:(1:Int)<(m:Int)
   ·have em:Dy .u64 (m:Int) (1:Int)=((m / 2^1:Nat):Int):=Ii .u64 m 1 (by decide)
    rw [A05 h1,A04,em,An (by omega) (by omega)]
    exact ih F (m / 2^1) (e+1) _ (by omega) (by omega) (by omega) (.inl (by omega)) (by omega)
   ·rw [A09 h1,A08,ha,A04,pre1,A04]
    unfold Fe Fc D4
    rw [show (0:Int).toNat=0 from rfl,Apl]
theorem compare.E3.known:compare.E3.Kn:=compare.E3.Ac (.cons soft.Kind.known (.cons soft.Du.known (.cons soft.Fz.known (.cons soft.Sign.known .nil)))) fun a n hp=>by
 obtain ⟨ha,hn⟩:=Ad.1 (show Ds a n=true from hp)
 have hn:=Au.1 hn
 refine ⟨3000,compare.E3.out [.i a,.i n],[],?_,Wk.Gv (.cons .int (.cons .int .nil))⟩
 show _=some (DV.tup [.int .u64 ((G1 a.toNat n).1:Nat),.int .u8 ((G1 a.toNat n).2:Nat)])
 have em:max (-2300:Int) (min (2300:Int) n)=n:=by omega
 have pE:=Ey a.toNat
 have pM:=E1 a.toNat
 have ee:Ab (Ba a+n)=A9 a.toNat+n:=by unfold Ba; exact An (by omega) (by omega)
 rw [compare.E3.ev,ha,A04,A04,em,ee]
 unfold Bk
 by_cases h4:Ao a.toNat=4
 ·have e:(((Ao a.toNat:Nat):Int)==(4:Int))=true:=by rw [h4]; rfl
  rw [e,A04]
  unfold G1
  rw [A1r h4]; rfl
 have e4:(((Ao a.toNat:Nat):Int)==(4:Int))=false:=Sa h4
 rw [e4,A08]
 by_cases h3:Ao a.toNat=3
 ·have e:(((Ao a.toNat:Nat):Int)==(3:Int))=true:=by rw [h3]; rfl
  obtain ⟨k,rfl,hk⟩:=Bo ha
  rw [e,A04,A04]
  unfold G1
  rw [A1q h4,A1r (.inl h3),A06]; rfl
 have e3:(((Ao a.toNat:Nat):Int)==(3:Int))=false:=Sa h3
 rw [e3,A08]
 by_cases h0:Ao a.toNat=0
 ·have e:(((Ao a.toNat:Nat):Int)==(0:Int))=true:=by rw [h0]; rfl
  obtain ⟨k,rfl,hk⟩:=Bo ha
  rw [e,A04]
  unfold G1
  rw [A1q h4,A1r (.inr h0),A06]; rfl
 have e0:(((Ao a.toNat:Nat):Int)==(0:Int))=false:=Sa h0
 have hk:¬ (Ao a.toNat=3∨Ao a.toNat=0):=fun h=>h.elim h3 h0
 have hm:Ay a.toNat≠0:=fun h=>h0 ((H3 h3 h4).1 h)
 rw [e0,A08]
 show compare.E3.L0 3000 3000 a (Ay a.toNat:Nat) (A9 a.toNat+n) false=_
 by_cases ht:A9 a.toNat+n≤-1130
 ·rw [Aie h4 hk ht]
  exact Aif 3000 ha (-1130-(A9 a.toNat+n)).toNat 3000 _ _ false (by omega) (by omega) (by omega) (.inl hm) (by omega)
 ·have hlt:Bd (A9 a.toNat+n) (-1130:Int)=false:=by rw [Aw]; exact A09 (by omega)
  have Ss:Er ((Ay a.toNat:Nat):Int) (A9 a.toNat+n) false=true:=Au.2 ⟨by omega,by omega,by omega,by omega,fun h=>by cases h⟩
  rw [Alz h4 hk,show (3000:Nat)=2999+1 from rfl,compare.E3.Av,hlt,Bool.false_and,A08,A08,ha,A04,Ss,A04]
  unfold Fe Fc D4
  rw [A06,Xc]
theorem Ah.Bt.known:Ah.Bt.Kn:=Ah.Bt.Ac (.cons compare.E3.known .nil) fun a n hp=>by
 have hp:Ds a n=true:=hp
 refine ⟨0,Ah.Bt.out [.i a,.i n],[],?_,.int⟩
 rw [Ah.Bt.ev,hp]; rfl
theorem Ah.Div.known:Ah.Div.Kn:=Ah.Div.Ac (.cons times.Div.known .nil) fun a b hp=>by
 have hp:(Ak a&&Ak b)=true:=hp
 refine ⟨0,Ah.Div.out [.i a,.i b],[],?_,.int⟩
 rw [Ah.Div.ev,hp]; rfl
theorem Hh {l:List Int} {i:Nat} (h:i<l.length):l.drop i=l.getD i 0::l.drop (i+1):=by
 rw [List.drop_eq_getElem_cons h,A1e,A1l h]; rfl
theorem Ip {l:List Int} (h:Cy l=true):l.length<4611686018427387904∧∀ j,j<l.length→Ak (l.getD j 0)=true:=by
 obtain ⟨h1,h2⟩:=Au.1 h
 exact ⟨h1,fun j hj=>by rw [A1e,A1l hj]; exact h2 _ (List.getElem_mem hj)⟩
theorem I1 {l:List Int} (h:Ag l=true) (hl:l.length≤1000):Cy l=true:=Au.2 ⟨by omega,Au.1 h⟩
theorem Ag5 (N:Nat) {x:List Int} (hx:Cy x=true):∀ (k i F:Nat),i+k=x.length→k<F→Ah.Finite.L0 N F x (i:Int)=some (.bool ((x.drop i).all Dg)):=by
 obtain ⟨hl,hu⟩:=Ip hx
 intro k
 induction k with
 | zero =>
   intro i F hi hF
   obtain ⟨F,rfl⟩:∃ G,F=G+1:=⟨F-1,by omega⟩
   rw [Ah.Finite.Av,Aw,A09 (by omega),A08,A1i (by omega)]; rfl
 | succ k ih =>
   intro i F hi hF
   obtain ⟨F,rfl⟩:∃ G,F=G+1:=⟨F-1,by omega⟩
   rw [Ah.Finite.Av,Aw,A05 (show (i:Int)<(x.length:Int) by omega),A04,A05 (show (0:Int)≤(i:Int) by omega),A1a,A04,A06,hu i (by omega),A04,Hh (by omega),List.all_cons]
   cases Dg (x.getD i 0) with
   | false=>rfl
   | true =>
     rw [A13,A08,An (by omega) (by omega),A2h]
     exact ih (i+1) F (by omega) (by omega)
theorem Ah.Finite.known:Ah.Finite.Kn:=Ah.Finite.Ac (.cons soft.Finite.known .nil) fun x hp=>by
 have hp:Cy x=true:=hp
 refine ⟨x.length+1,Ah.Finite.out [.l x],[],?_,.bool⟩
 show _=some (DV.bool (x.all Dg))
 rw [Ah.Finite.ev]
 exact Ag5 _ hp x.length 0 (x.length+1) (by omega) (by omega)
theorem Anr {x:List Int} {i:Nat} (h:i<x.length) (m:Nat):Aao (x.drop i) m=if Ao (x.getD i 0).toNat=4 then Qw else Aao (x.drop (i+1)) (max m (Hj (x.getD i 0).toNat)):=by
 rw [Hh h]; rfl
theorem Aeo (N:Nat) {x:List Int} (hx:Cy x=true):∀ (k i F m:Nat),i+k=x.length→k<F→Ah.Br.L0 N F x (m:Int) (i:Int)=some (.int .u64 ((Aao (x.drop i) m:Nat):Int)):=by
 obtain ⟨hl,hu⟩:=Ip hx
 intro k
 induction k with
 | zero =>
   intro i F m hi hF
   obtain ⟨F,rfl⟩:∃ G,F=G+1:=⟨F-1,by omega⟩
   rw [Ah.Br.Av,Aw,A09 (by omega),A08,A1i (by omega)]; rfl
 | succ k ih =>
   intro i F m hi hF
   obtain ⟨F,rfl⟩:∃ G,F=G+1:=⟨F-1,by omega⟩
   rw [Ah.Br.Av,Aw,A05 (show (i:Int)<(x.length:Int) by omega),A04,A05 (show (0:Int)≤(i:Int) by omega),A1a,A04,A06,hu i (by omega),A04,Anr (by omega)]
   unfold Bk
   by_cases h4:Ao (x.getD i 0).toNat=4
   ·have e:(((Ao (x.getD i 0).toNat:Nat):Int)==(4:Int))=true:=by rw [h4]; rfl
    rw [e,A04,A1r h4]; rfl
   ·have e:(((Ao (x.getD i 0).toNat:Nat):Int)==(4:Int))=false:=Sa h4
    have em:max (m:Int) (Jt (x.getD i 0))=((max m (Hj (x.getD i 0).toNat):Nat):Int):=by unfold Jt; omega
    rw [e,A08,A04,A1q h4,em,An (by omega) (by omega)]
    exact ih (i+1) F _ (by omega) (by omega)
theorem Ah.Br.known:Ah.Br.Kn:=Ah.Br.Ac (.cons compare.G7.known (.cons soft.Kind.known .nil)) fun x hp=>by
 have hp:Cy x=true:=hp
 refine ⟨x.length+1,Ah.Br.out [.l x],[],?_,.int⟩
 rw [Ah.Br.ev]
 exact Aeo _ hp x.length 0 (x.length+1) 0 (by omega) (by omega)
theorem Aen (N:Nat) {x:List Int} (hx:Cy x=true):∀ (k i F:Nat),i+k=x.length→k<F→Cu.Check.L0 N F x (i:Int)=some (.int .i64 (if (x.drop i).all Dg=true then 0 else 4)):=by
 obtain ⟨hl,hu⟩:=Ip hx
 intro k
 induction k with
 | zero =>
   intro i F hi hF
   obtain ⟨F,rfl⟩:∃ G,F=G+1:=⟨F-1,by omega⟩
   rw [Cu.Check.Av,Aw,A09 (by omega),A08,A1i (by omega)]; rfl
 | succ k ih =>
   intro i F hi hF
   obtain ⟨F,rfl⟩:∃ G,F=G+1:=⟨F-1,by omega⟩
   rw [Cu.Check.Av,Aw,A05 (show (i:Int)<(x.length:Int) by omega),A04,A05 (show (0:Int)≤(i:Int) by omega),A1a,A04,A06,hu i (by omega),A04,Hh (by omega),List.all_cons]
   cases Dg (x.getD i 0) with
   | false=>rfl
   | true =>
     rw [A13,A08,An (by omega) (by omega),A2h]
     exact ih (i+1) F (by omega) (by omega)
theorem O1 {r c:Int} {l:List Int} (h:A0 r c l=true):l.length≤36:=by
 obtain ⟨R,C,rfl,rfl,r6,c6,hl⟩:=Ck h
 have:=A10 r6 c6
 omega
theorem Cu.Check.known:Cu.Check.Kn:=Cu.Check.Ac (.cons Aa.Check.known (.cons soft.Finite.known .nil)) fun r c l hp=>by
 have hp:Ag l=true:=hp
 refine ⟨l.length+1,Cu.Check.out [.i r,.i c,.l l],[],?_,.int⟩
 show _=some (DV.int .i64 (B4 r c l))
 rw [Cu.Check.ev]
 unfold Le B4 Dj
 by_cases h:A0 r c l=true
 ·have:=O1 h
  rw [A1r h,A1r h]
  have e:((0:Int) !=(0:Int))=false:=by decide
  rw [e,A08]
  exact Aen _ (I1 hp (by omega)) l.length 0 (l.length+1) (by omega) (by omega)
 ·rw [A1q h,A1q h]; rfl
open Go Go.Den Go.Rnd Go.Proofs Ieee
theorem Ao5 {m n:Nat} (hm:m≠0) (hn:n≠0) (lm:m<2^53) (ln:n<2^53) (i j:Int) :
 Cv (F3 m n (54+n.log2-m.log2)) (i-j-((54+n.log2-m.log2:Nat):Int)-1)=Cv (F3 m n 120) (i-j-121):=by
 have l1:=(A2k hm).2 lm
 have a1:=Nat.log2_self_le hm
 have a2:=Nat.lt_log2_self (n:=n)
 have g1:2^53≤m*2^(54+n.log2-m.log2) / n:=by
  rw [Nat.le_div_iff_mul_le (by omega)]
  have h1:2^m.log2*2^(54+n.log2-m.log2)≤m*2^(54+n.log2-m.log2):=A1g _ a1
  have h2:2^m.log2*2^(54+n.log2-m.log2)=2^53*2^(n.log2+1):=by
   rw [← A1t,← A1t]
   congr 1
   omega
  have h3:2^53*n≤2^53*2^(n.log2+1):=Nat.mul_le_mul_left _ (by omega)
  omega
 have g2:2^53≤m*2^120 / n:=Ao6 (t:=53) (by omega) (by omega) ln (by omega)
 exact (Yk (by omega) g1 g2 (by omega)).1
theorem Ass (s t:Bool) (m:Nat) (i:Int) (n:Nat) (j:Int) (hn:n≠0):(Datum.number s m i).quotient 54 (.number t n j) =
 some (.number (s ^^ t) (F3 m n (54+n.log2-m.log2)) (i-j-((54+n.log2-m.log2:Nat):Int)-1)):=by
 have e:(Datum.number s m i).quotient 54 (.number t n j)=some (.number (s ^^ t) (2*(m <<< (54+n.log2-m.log2) / n)+(m <<< (54+n.log2-m.log2)%n !=0).toNat) (i-j-((54+n.log2-m.log2:Nat):Int)-1)):=A1q hn
 rw [e,Nat.shiftLeft_eq]
 unfold F3
 congr 3
 by_cases h:m*2^(54+n.log2-m.log2)%n=0
 ·rw [A1r h,h]; rfl
 ·have:(m*2^(54+n.log2-m.log2)%n !=0)=true:=by simpa using h
  rw [A1q h,this]; rfl
theorem Aq5 {a b:Nat} (ha:a<2^64) (hb:b<2^64) {d:Nat} (hd:Ao d=4):D8 ((Ieee.double.div a b).getD d)=(Aek a b).1:=by
 have cd:D8 d=Qw:=A1r hd
 have ex:∀ s t:Bool,(s ^^ t)=(s !=t):=fun s t=>by cases s<;>cases t<;>rfl
 have e54:Ieee.double.fractionBits+2=54:=rfl
 unfold Format.div
 rw [Jb ha,Jb hb,e54]
 unfold Aek
 by_cases a4:Ao a=4
 ·rw [A1r (.inl a4),Hf a4]; exact cd
 ·by_cases b4:Ao b=4
  ·rw [A1r (.inr b4),Hf b4]
   by_cases a3:Ao a=3
   ·rw [Ev a3]; exact cd
   ·rw [Eu a3 a4]; exact cd
  ·rw [A1q (fun h=>h.elim a4 b4)]
   by_cases a3:Ao a=3
   ·rw [Ev a3]
    by_cases b3:Ao b=3
    ·rw [Ev b3,A1r ⟨by omega,.inl a3⟩]; exact cd
    ·rw [Eu b3 b4,A1q (by omega),A1r a3]
     show D8 (Bp (B0 a ^^ B0 b) Eh)=_
     rw [Go.Proofs.S1.Lf,ex]
   ·rw [Eu a3 a4]
    by_cases b3:Ao b=3
    ·rw [Ev b3,A1q (by omega),A1q a3,A1r (.inl b3)]
     show D8 (Ieee.double.write (.number (B0 a ^^ B0 b) 0 0))=_
     rw [Mv,R6,ex]
     exact G8 _ (Nat.zero_le _)
    ·rw [Eu b3 b4]
     have za:=U6 a3 a4
     have zb:=U6 b3 b4
     by_cases b0:Ao b=0
     ·by_cases a0:Ao a=0
      ·have e:(Datum.number (B0 a) (Ay a) (A9 a)).quotient 54 (.number (B0 b) (Ay b) (A9 b))=none:=by
        show (if Ay b=0 then (if Ay a=0 then none else _) else _)=_
        rw [A1r (zb.2 b0),A1r (za.2 a0)]
       rw [e,A1r ⟨by omega,.inr a0⟩]; exact cd
      ·have e:(Datum.number (B0 a) (Ay a) (A9 a)).quotient 54 (.number (B0 b) (Ay b) (A9 b))=some (.infinity (B0 a ^^ B0 b)):=by
        show (if Ay b=0 then (if Ay a=0 then none else _) else _)=_
        rw [A1r (zb.2 b0),A1q (fun k=>a0 (za.1 k))]
       rw [e,A1q (by omega),A1q a3,A1q (by omega),A1r b0]
       show D8 (Bp (B0 a ^^ B0 b) Eh)=_
       rw [Go.Proofs.S1.Lf,ex]
     ·have hn:Ay b≠0:=fun k=>b0 (zb.1 k)
      rw [Ass _ _ _ _ _ _ hn,A1q (by omega),A1q a3]
      show D8 (Ieee.double.write (.number _ _ _))=_
      rw [Mv,G8 _ (Lj _ _),ex]
      by_cases a0:Ao a=0
      ·rw [A1r (.inr a0),za.2 a0]
       have:F3 0 (Ay b) (54+(Ay b).log2-Nat.log2 0)=0:=by
        unfold F3
        rw [Nat.zero_mul,Nat.zero_div,Nat.zero_mod,A1r rfl]
       rw [this,R6]
      ·have hm:Ay a≠0:=fun k=>a0 (za.1 k)
       have la:=E1 a
       have lb:=E1 b
       rw [A1q (by omega),A1q b0,Ao5 hm hn (by omega) (by omega)]
end Go.Proofs.S1
namespace Go.Rnd
open Go.Den
theorem Ajk {P root rest two:Nat} (h1:P=root*root+rest) (h2:rest≤2*root) (h3:two<4) :
 (4*root+1≤4*rest+two→4*P+two=(2*root+1)*(2*root+1)+(4*rest+two-(4*root+1))∧4*rest+two-(4*root+1)≤2*(2*root+1)) ∧
 (4*rest+two<4*root+1→4*P+two=(2*root)*(2*root)+(4*rest+two)∧4*rest+two≤2*(2*root)):=by
 have e1:(2*root+1)*(2*root+1)=4*(root*root)+(4*root+1):=by
  rw [A18,Nat.mul_add,Nat.mul_add]
  have:2*root*(2*root)=4*(root*root):=by rw [Nat.mul_mul_mul_comm]
  omega
 have e2:(2*root)*(2*root)=4*(root*root):=by rw [Nat.mul_mul_mul_comm]
 constructor
 ·intro h; rw [e1]; omega
 ·intro h; rw [e2]; omega
theorem Asl {P root rest:Nat} (h1:P=root*root+rest) (h2:rest≤2*root):root=Tv P:=by
 refine Zw (by omega) ?_
 have:(root+1)*(root+1)=root*root+2*root+1:=by rw [A18,Nat.mul_add]; omega
 omega
end Go.Rnd
namespace Go.Rnd
open Go.Den
theorem I8:Ak (0:Int)=true:=Ce (n:=0) (by decide)
theorem Apd:Ak Avt=true:=Ce (n:=4607182418800017408) (by decide)
theorem Al0 {b:Nat} {n:Int} (h:b<2^64):(G1 b n).1<2^64:=by
 unfold G1
 by_cases h4:Ao b=4
 ·rw [A1r h4]; exact (by decide:Qw<2^64)
 rw [A1q h4]
 by_cases h3:Ao b=3∨Ao b=0
 ·rw [A1r h3]; exact h
 rw [A1q h3]
 exact Un _ _ _
theorem Ig {b n:Int} (h:Ak b=true):Ak (B3 b n)=true:=by
 obtain ⟨x,rfl,hx⟩:=Bo h
 exact Ce (Al0 (by rw [A06]; exact hx))
theorem Sm (b:Nat):Hj b<2^63:=Nat.mod_lt _ (by decide)
theorem Aan:∀ (l:List Int) (m:Nat),m<2^64→Aao l m<2^64
 | [],m,h=>h
 | x::l,m,h=>by
   unfold Aao
   split
   ·exact (by decide:Qw<2^64)
   ·have h2:=Sm x.toNat
    exact Aan l _ (by omega)
theorem Oo (l:List Int):Ak (Bl l)=true:=Ce (Aan l 0 (by decide))
theorem Tu (x:Int):Ak (Jt x)=true:=Ce (Nat.lt_trans (Sm x.toNat) (by decide))
theorem Ajw {a b:Int} (ha:Ak a=true) (hb:Ak b=true):Ak (Kd a b)=true:=by
 obtain ⟨x,rfl,hx⟩:=Bo ha
 obtain ⟨y,rfl,hy⟩:=Bo hb
 exact Ce (Vz (by rw [A06]; exact hx) (by rw [A06]; exact hy)).1
theorem Zi {a:Int} (ha:Ak a=true):Ak (Dk a)=true:=by
 obtain ⟨x,rfl,hx⟩:=Bo ha
 exact Ce (Wl (by rw [A06]; exact hx))
theorem Aoq {b:Nat} (h:b<2^64):(Oz b).1<2^64:=by
 by_cases h4:Ao b=4
 ·rw [Ym h4]; exact (by decide:Qw<2^64)
 by_cases h0:Ao b=0∨b=Eh
 ·rw [Oy h4 h0]; exact h
 cases hn:B0 b with
 | true=>rw [Ul h4 h0 hn]; exact (by decide:Qw<2^64)
 | false =>
   unfold Oz
   rw [A1q h4,A1q h0,hn,A1q (by decide)]
   exact Nat.lt_trans (Xw _ _) (by decide)
theorem Ac6 {a:Int} (ha:Ak a=true):Ak (Gc a)=true:=by
 obtain ⟨x,rfl,hx⟩:=Bo ha
 exact Ce (Aoq (by rw [A06]; exact hx))
theorem Aop (k:Int):∀ (l:List Int) {s:Int},Ak s=true→Ak (Afh k s l)=true
 | [],_,h=>h
 | _::l,_,h=>Aop k l (Ajw h (Il _ _))
theorem X0 (x:List Int):Ak (Dz x)=true:=by
 unfold Dz
 split
 ·exact Oo x
 ·exact Ig (Ac6 (Aop _ _ I8))
theorem Ayl (x:List Int):Ak (muI x)=true:=by
 unfold muI
 split
 ·exact X0 _
 ·exact Zi (X0 _)
theorem Aua (x:List Int):Ak (Fh x)=true:=Ig (Ayl x)
theorem Anc (b:Nat):-1100≤Ane b∧Ane b≤1100:=by
 unfold Ane
 split
 ·have h1:=Ey b
  have h2:=E1 b
  rename_i h
  have h3:(Ay b).log2<53:=by
   by_cases h0:Ay b=0
   ·rw [h0]; decide
   ·exact (A2k h0).2 h2
  omega
 ·omega
theorem Aaa (x:Int):-1100≤Bz x∧Bz x≤1100:=Anc x.toNat
theorem I7 {l:List Int} (h:Ag l=true) (j:Nat):Ak (l.getD j 0)=true:=Vo (Au.1 h) j
theorem Sk {l:List Int} (h:∀ x∈l,Ak x=true):Ag l=true:=Au.2 h
theorem F8:Ag []=true:=Sk fun _ h=>by cases h
theorem Ahq {α:Type} {l:List α} {f:α→Int} (h:∀ j,Ak (f j)=true):Ag (l.map f)=true:=Sk fun x hx=>by
 obtain ⟨j,_,rfl⟩:=List.mem_map.1 hx
 exact h j
theorem Anu {x:Int} {l:List Int} (h1:Ak x=true) (h2:Ag l=true):Ag (x::l)=true:=Sk fun y hy=>by
 rcases List.mem_cons.1 hy with rfl | hy
 ·exact h1
 ·exact Au.1 h2 y hy
theorem Sl {c i k:Int} {l:List Int} (h:Ag l=true):Ak (D0 c l i k)=true:=I7 h _
theorem Afq (c b i:Int) (n:Nat) (l:List Int):(C0 c l b i n).length=n:=by unfold C0; rw [A2a,A17]
theorem Pu {c b i:Int} {n:Nat} {l:List Int} (h:Ag l=true):Ag (C0 c l b i n)=true:=Ahq fun _=>Sl h
theorem Ao0 (n:Nat) {f:Nat→Int} (h:∀ j,Ak (f j)=true):Ag (Jq n f)=true:=Anu Apd (Ahq fun _=>h _)
theorem Px {n:Nat} (h:n≠0) (f:Nat→Int):(Jq n f).length=n:=by
 unfold Jq
 rw [List.length_cons,A2a,A17]
 omega
theorem Vc {x:List Int} (h:Ag x=true):Ag (Cr x).1=true∧Ak (Cr x).2.1=true∧Ak (Cr x).2.2.1=true:=by
 have hz:Ag []=true∧Ak (0:Int)=true∧Ak (0:Int)=true:=⟨F8,I8,I8⟩
 unfold Cr
 split
 ·exact hz
 split
 ·unfold J0
  split
  ·dsimp only
   exact ⟨Ao0 _ fun _=>I8,I8,I7 h 0⟩
  ·split
   ·dsimp only
    exact ⟨Ao0 _ fun _=>Aej _ _,Aej _ _,Aua x⟩
   ·exact hz
 ·exact hz
theorem Vb {x:List Int} (h:(Cr x).2.2.2=0):(Cr x).1.length=x.length:=by
 unfold Cr at h ⊢
 by_cases h1:x.length=0∨64<x.length
 ·rw [A1r h1] at h; exact absurd h (by decide)
 rw [A1q h1] at h ⊢
 by_cases h2:Dj x=true
 ·rw [A1r h2] at h ⊢
  unfold J0 at h ⊢
  by_cases h3:En (x.drop 1)=true
  ·rw [A1r h3]; dsimp only; exact Px (n:=x.length) (by omega) _
  ·rw [A1q h3] at h ⊢
   by_cases h4:Dg (Fh x)=true
   ·rw [A1r h4]; dsimp only [Sv]; exact Px (n:=x.length) (by omega) _
   ·rw [A1q h4] at h; exact absurd h (by decide)
 ·rw [A1q h2] at h; exact absurd h (by decide)
theorem Vu (x y:List Int):Ak (Ms x y)=true:=Ce (Aeg x y 0 (by decide))
theorem Ant {c i k t a b:Int} {l v:List Int} (h:Ag l=true):Ak (Qj c l i k v t a b)=true:=by
 unfold Qj
 split
 ·exact K5 (Sl h) (Il _ _)
 ·exact Sl h
theorem Acp {r c:Nat} {l:List Int} (h:Ag l=true) (i k:Int) (v:List Int) (t:Int):Ag (Fk r c l i k v t)=true:=Ia fun _ _=>Ant h
theorem Ll (r c:Nat) (l:List Int) (i k:Int) (v:List Int) (t:Int):(Fk r c l i k v t).length=r*c:=Ca _ _ _
theorem Anm {r c:Nat} {l:List Int} (h:Ag l=true) (j:Nat) {x:Int} (hx:Ak x=true):Ag (Nt r c l j x)=true:=Ia fun a b=>by
 split
 ·split
  ·exact hx
  ·exact I8
 ·exact Sl h
theorem N9 (r c:Nat) (l:List Int) (j:Nat):(Zg r c l j).length=r*c:=by unfold Zg Nt; exact Ca _ _ _
theorem X2 {r c:Nat} {l:List Int} (h:Ag l=true) (j:Nat):Ag (Zg r c l j)=true:=Anm (Acp h _ _ _ _) _ (Vc (Pu h)).2.2
def Ab1 (r:Nat):Nat→List (List Int × Int)→Prop
 | _,[]=>True
 | j,m::ms=>(Ag m.1=true∧Ak m.2=true∧m.1.length+j=r)∧Ab1 r (j+1) ms
theorem Aae (r c:Nat):∀ (n j:Nat) (l:List Int) (x:List Int × List (List Int × Int)),Ag l=true→l.length=r*c→j+n≤r→Ns r c n j l=some x→Ag x.1=true∧x.1.length=r*c∧x.2.length=n∧Ab1 r j x.2
 | 0,j,l,x,ha,hl,_,h=>by
   cases h
   exact ⟨ha,hl,rfl,trivial⟩
 | n+1,j,l,x,ha,hl,hj,h=>by
   unfold Ns at h
   by_cases h1:(Cr (Fg r c l j)).2.2.2=0
   ·rw [A1r h1,Option.map_eq_some_iff] at h
    obtain ⟨y,hy,rfl⟩:=h
    obtain ⟨a1,a2,a3,a4⟩:=Aae r c n (j+1) _ y (X2 ha j) (N9 r c l j) (by omega) hy
    have hm:=Vc (x:=Fg r c l j) (Pu ha)
    have hlen:=Vb h1
    refine ⟨a1,a2,by rw [List.length_cons,a3],⟨hm.1,hm.2.1,?_⟩,a4⟩
    show (Cr (Fg r c l j)).1.length+j=r
    rw [hlen]
    unfold Fg
    rw [Afq]
    omega
   ·rw [A1q h1] at h; cases h
theorem Vs (n:Nat):Ag (Jg n)=true:=Ia fun i k=>by
 unfold N0
 split
 ·exact Apd
 ·exact I8
theorem Sj (n:Nat):∀ (ms:List (List Int × Int)) (j:Nat) (q:List Int),Ag q=true→q.length=n*n→Ag (H0 n j ms q)=true∧(H0 n j ms q).length=n*n
 | [],_,_,h1,h2=>⟨h1,h2⟩
 | m::ms,j,q,h1,h2=>by
   unfold H0
   exact ⟨Acp (Sj n ms (j+1) q h1 h2).1 _ _ _ _,Ll _ _ _ _ _ _ _⟩
theorem Atv {r c:Nat} {l:List Int} (h:(Kv r c l).isSome=true):Ag (Ty r c l)=true∧(Ty r c l).length=r*r:=by
 unfold Ty
 cases hd:Kv r c l with
 | none=>rw [hd] at h; cases h
 | some x=>exact Sj r x.2 0 _ (Vs r) (by unfold Jg; exact Ca _ _ _)
theorem Atu {r c:Nat} {l:List Int} (ha:Ag l=true) (hl:l.length=r*c) (h:(Kv r c l).isSome=true):Ag (Qd r c l)=true∧(Qd r c l).length=r*c:=by
 unfold Qd
 cases hd:Kv r c l with
 | none=>rw [hd] at h; cases h
 | some x =>
   have hn:It r c≤r:=by unfold It; omega
   have:=Aae r c (It r c) 0 l x ha hl (by omega) hd
   exact ⟨this.1,this.2.1⟩
end Go.Rnd
namespace Go.Proofs.S1
open Go Go.Den Go.Rnd Go.Proofs
set_option maxRecDepth 100000
namespace EqRoot
def root.G2.hint:Nat→Option Bg
 | 0=>some { keep:=[0,4,5,6,14],objs:=[],boxes:=[] }
 | _=>none
def root.G2.Bc:List (Nat × Entry):=[]
def root.G2.E:Env:=Be (Bb root.G2.Bc) (fun _=>false) root.G2.hint (fun _=>none)
section
variable (N M:Nat) (m p4 p5 p6 p14:Int)
def root.G2.L0:Option DV:=Bx root.G2.E N f265 (Am f265) [1,1,0,1,0] [] M ⟨E5 68 [(0,.int .u64 m),(4,.int .u64 p4),(5,.int .u64 p5),(6,.int .u64 p6),(14,.int .i64 p14)],[]⟩
theorem root.G2.Av:root.G2.L0 N (M+1) m p4 p5 p6 p14=bif (Bd p14 64) then bif (Bd p14 32) then bif (decide (0≤(Ab ((62:Int)-(Ab ((2:Int)*p14)))))) then bif (decide ((Hd (Iu .u64 (B9 .u64 p6 2) (E6 .u64 (Dy .u64 m (Ab ((62:Int)-(Ab ((2:Int)*p14))))) 3)) (Iu .u64 (B9 .u64 p4 2) 1) 0)≤1)) then bif ((Hd (Iu .u64 (B9 .u64 p5 2) (Dy .u64 p6 62)) (Dy .u64 p4 62) (Hd (Iu .u64 (B9 .u64 p6 2) (E6 .u64 (Dy .u64 m (Ab ((62:Int)-(Ab ((2:Int)*p14))))) 3)) (Iu .u64 (B9 .u64 p4 2) 1) 0))==(0:Int)) then root.G2.L0 N M m (Iu .u64 (B9 .u64 p4 1) 1) (N4 (Iu .u64 (B9 .u64 p5 2) (Dy .u64 p6 62)) (Dy .u64 p4 62) (Hd (Iu .u64 (B9 .u64 p6 2) (E6 .u64 (Dy .u64 m (Ab ((62:Int)-(Ab ((2:Int)*p14))))) 3)) (Iu .u64 (B9 .u64 p4 2) 1) 0)) (N4 (Iu .u64 (B9 .u64 p6 2) (E6 .u64 (Dy .u64 m (Ab ((62:Int)-(Ab ((2:Int)*p14))))) 3)) (Iu .u64 (B9 .u64 p4 2) 1) 0) (Ab (p14+1)) else root.G2.L0 N M m (B9 .u64 p4 1) (Iu .u64 (B9 .u64 p5 2) (Dy .u64 p6 62)) (Iu .u64 (B9 .u64 p6 2) (E6 .u64 (Dy .u64 m (Ab ((62:Int)-(Ab ((2:Int)*p14))))) 3)) (Ab (p14+1)) else none else none else bif (decide ((Hd (Iu .u64 (B9 .u64 p6 2) 0) (Iu .u64 (B9 .u64 p4 2) 1) 0)≤1)) then bif ((Hd (Iu .u64 (B9 .u64 p5 2) (Dy .u64 p6 62)) (Dy .u64 p4 62) (Hd (Iu .u64 (B9 .u64 p6 2) 0) (Iu .u64 (B9 .u64 p4 2) 1) 0))==(0:Int)) then root.G2.L0 N M m (Iu .u64 (B9 .u64 p4 1) 1) (N4 (Iu .u64 (B9 .u64 p5 2) (Dy .u64 p6 62)) (Dy .u64 p4 62) (Hd (Iu .u64 (B9 .u64 p6 2) 0) (Iu .u64 (B9 .u64 p4 2) 1) 0)) (N4 (Iu .u64 (B9 .u64 p6 2) 0) (Iu .u64 (B9 .u64 p4 2) 1) 0) (Ab (p14+1)) else root.G2.L0 N M m (B9 .u64 p4 1) (Iu .u64 (B9 .u64 p5 2) (Dy .u64 p6 62)) (Iu .u64 (B9 .u64 p6 2) 0) (Ab (p14+1)) else none else some (.tup [.int .u64 p4,.bool (bif (p5==(0:Int)) then (p6==(0:Int)) else false)]) :=
 Eq.trans (by kernel_rfl)
 (Ec rfl (Ax (Oj (p5==(0:Int))) (Ax (L7 (p5==(0:Int))) (Ax (Th (p5==(0:Int))) rfl))))
theorem root.G2.ev:Bu root.G2.E N f265 (Am f265) [.int .u64 m] =
 root.G2.L0 N N m 0 0 0 0:=by kernel_rfl
end
abbrev _root_.Go.Proofs.S1.root.G2.Kn:=A7 prog 265 root.G2.spec
theorem root.G2.Ac (hk:A1 prog root.G2.Bc) (h:Hyp root.G2.E f265 root.G2.ts root.G2.pre root.G2.out):root.G2.Kn :=
 Al (A2 hk _ _ _) func265 (by kernel_rfl) (by kernel_rfl) h
def root.Sqrt.hint:Nat→Option Bg
 | 5=>some { keep:=[5,7,9],objs:=[],boxes:=[] }
 | _=>none
def root.Sqrt.Bc:List (Nat × Entry):=[(250,Cz.B5.spec),(265,root.G2.spec),(155,soft.Kind.spec),(212,soft.Du.spec),(211,soft.Fz.spec),(213,soft.Sign.spec)]
def root.Sqrt.E:Env:=Be (Bb root.Sqrt.Bc) (fun _=>false) root.Sqrt.hint (fun _=>none)
section
variable (N:Nat) (a:Int) (M:Nat) (p5 p7:Int) (p9:Bool)
def root.Sqrt.L0:Option DV:=Bx root.Sqrt.E N f264 (Am f264) [1,1,1,1,1,1,1,1,1,0,0] [] M ⟨E5 73 [(5,.int .i64 p5),(7,.int .u64 p7),(9,.bool p9)],[]⟩
theorem root.Sqrt.Av:root.Sqrt.L0 N (M+1) p5 p7 p9=bif (Es 4611686018427387904 p7) then root.Sqrt.L0 N M (Ab (p5+2)) (Dy .u64 p7 1) (bif p9 then true else ((E6 .u64 p7 1)==(1:Int))) else bif (Er p7 (Ab ((Ab (Int.tdiv p5 2))-32)) p9) then some (.tup [.int .u64 (Fe false p7 (Ab ((Ab (Int.tdiv p5 2))-32)) p9),.int .u8 (Fc false p7 (Ab ((Ab (Int.tdiv p5 2))-32)) p9)]) else none :=
 Eq.trans (by kernel_rfl)
 (Ec (Ax (Uc p9) (Ax (Sr p9) (Ax (Sr p9) (Ax (Ye p9) rfl)))) rfl)
theorem root.Sqrt.ev:Bu root.Sqrt.E N f264 (Am f264) [.int .u64 a]=bif (Ak a) then bif ((Bk a)==(4:Int)) then some (.tup [.int .u64 9221120237041090560,.int .u8 0]) else bif (Ak a) then bif ((Bk a)==(0:Int)) then some (.tup [.int .u64 a,.int .u8 0]) else bif (a==(9218868437227405312:Int)) then some (.tup [.int .u64 a,.int .u8 0]) else bif (Ak a) then bif (D4 a) then some (.tup [.int .u64 9221120237041090560,.int .u8 16]) else bif (Ak a) then bif (Ak (B1 a)) then bif ((Int.tmod (Ab ((Ba a)-(Ab ((64-Ff (B1 a))-2)))) 2) !=(0:Int)) then bif (decide (0≤(Ab ((Ab ((64-Ff (B1 a))-2))-1)))) then bif (Co (0≤(B9 .u64 (B1 a) (Ab ((Ab ((64-Ff (B1 a))-2))-1)))∧(B9 .u64 (B1 a) (Ab ((Ab ((64-Ff (B1 a))-2))-1)))<9223372036854775808)) then root.Sqrt.L0 N N (Ab ((Ba a)-(Ab ((Ab ((64-Ff (B1 a))-2))-1)))) (Ve (B9 .u64 (B1 a) (Ab ((Ab ((64-Ff (B1 a))-2))-1)))) (!(Vf (B9 .u64 (B1 a) (Ab ((Ab ((64-Ff (B1 a))-2))-1))))) else none else none else bif (decide (0≤(Ab ((64-Ff (B1 a))-2)))) then bif (Co (0≤(B9 .u64 (B1 a) (Ab ((64-Ff (B1 a))-2)))∧(B9 .u64 (B1 a) (Ab ((64-Ff (B1 a))-2)))<9223372036854775808)) then root.Sqrt.L0 N N (Ab ((Ba a)-(Ab ((64-Ff (B1 a))-2)))) (Ve (B9 .u64 (B1 a) (Ab ((64-Ff (B1 a))-2)))) (!(Vf (B9 .u64 (B1 a) (Ab ((64-Ff (B1 a))-2))))) else none else none else none else none else none else none else none:=by kernel_rfl
end
abbrev _root_.Go.Proofs.S1.root.Sqrt.Kn:=A7 prog 264 root.Sqrt.spec
theorem root.Sqrt.Ac (hk:A1 prog root.Sqrt.Bc) (h:Hyp root.Sqrt.E f264 root.Sqrt.ts root.Sqrt.pre root.Sqrt.out):root.Sqrt.Kn :=
 Al (A2 hk _ _ _) func264 (by kernel_rfl) (by kernel_rfl) h
def Ah.Sqrt.Bc:List (Nat × Entry):=[(264,root.Sqrt.spec)]
def Ah.Sqrt.E:Env:=Be (Bb Ah.Sqrt.Bc) (fun _=>false) (fun _=>none) (fun _=>none)
theorem Ah.Sqrt.ev (N:Nat) (a:Int):Bu Ah.Sqrt.E N f262 (Am f262) [.int .u64 a]=bif (Ak a) then some (.int .u64 (Gc a)) else none:=by kernel_rfl
abbrev _root_.Go.Proofs.S1.Ah.Sqrt.Kn:=A7 prog 262 Ah.Sqrt.spec
theorem Ah.Sqrt.Ac (hk:A1 prog Ah.Sqrt.Bc) (h:Hyp Ah.Sqrt.E f262 Ah.Sqrt.ts Ah.Sqrt.pre Ah.Sqrt.out):Ah.Sqrt.Kn :=
 Al (A2 hk _ _ _) func262 (by kernel_rfl) (by kernel_rfl) h
def compare.K3.Bc:List (Nat × Entry):=[(261,Cz.K1.spec),(148,soft.Finite.spec),(155,soft.Kind.spec),(211,soft.Fz.spec)]
def compare.K3.E:Env:=Be (Bb compare.K3.Bc) (fun _=>false) (fun _=>none) (fun _=>none)
theorem compare.K3.ev (N:Nat) (a:Int):Bu compare.K3.E N f255 (Am f255) [.int .u64 a]=bif (Ak a) then bif ((!(Dg a))||(Ak a)) then bif ((!(Dg a))||((Bk a)==(0:Int))) then some (.int .i64 0) else bif (Ak a) then bif (Ak (B1 a)) then some (.int .i64 (Ab ((Ab ((Ff (B1 a))-1))+(Ba a)))) else none else none else none else none :=
 Eq.trans (by kernel_rfl)
 (Ec (Ax (Aaw (Dg a)) (Cp (Aol (Dg a) (Ak a)) (Ax (Q0 (Dg a)) (Ax (Ac1 (Dg a)) (Cp (Ava (Dg a) ((Bk a)==(0:Int))) rfl rfl))) rfl)) rfl)
abbrev _root_.Go.Proofs.S1.compare.K3.Kn:=A7 prog 255 compare.K3.spec
theorem compare.K3.Ac (hk:A1 prog compare.K3.Bc) (h:Hyp compare.K3.E f255 compare.K3.ts compare.K3.pre compare.K3.out):compare.K3.Kn :=
 Al (A2 hk _ _ _) func255 (by kernel_rfl) (by kernel_rfl) h
def Ah.Norm.hint:Nat→Option Bg
 | 0=>some { keep:=[5,6,25,26,27],objs:=[],boxes:=[] }
 | _=>none
def Ah.Norm.Bc:List (Nat × Entry):=[(255,compare.K3.spec),(148,soft.Finite.spec),(226,Ah.Add.spec),(89,Ah.Br.spec),(157,Ah.Mul.spec),(88,Ah.Bt.spec),(262,Ah.Sqrt.spec)]
def Ah.Norm.E:Env:=Be (Bb Ah.Norm.Bc) (fun _=>false) Ah.Norm.hint (fun _=>none)
section
variable (N M:Nat) (x:List Int) (p6 p27:Int)
def Ah.Norm.L0:Option DV:=Bx Ah.Norm.E N f257 (Am f257) [1,1,1,1,1,1,0,1,0] [] M ⟨E5 45 [(5,.int .i64 (Bz (Bl x))),(6,.int .u64 p6),(25,.ints .arg .u64 x),(26,.int .i64 (length x:Int)),(27,.int .i64 p27)],[]⟩
theorem Ah.Norm.Av:Ah.Norm.L0 N (M+1) x p6 p27=bif (Bd p27 (length x:Int)) then bif ((decide (0≤p27))&&(decide (p27<(length x:Int)))) then bif (Ds (getD x (toNat p27) 0) (Ab (0-(Bz (Bl x))))) then bif (Ak (B3 (getD x (toNat p27) 0) (Ab (0-(Bz (Bl x)))))&&Ak (B3 (getD x (toNat p27) 0) (Ab (0-(Bz (Bl x)))))) then bif (Ak p6&&Ak (D5 (B3 (getD x (toNat p27) 0) (Ab (0-(Bz (Bl x))))) (B3 (getD x (toNat p27) 0) (Ab (0-(Bz (Bl x))))))) then Ah.Norm.L0 N M x (Kd p6 (D5 (B3 (getD x (toNat p27) 0) (Ab (0-(Bz (Bl x))))) (B3 (getD x (toNat p27) 0) (Ab (0-(Bz (Bl x))))))) (Ab (p27+1)) else none else none else none else none else bif (Ak p6) then bif (Ds (Gc p6) (Bz (Bl x))) then some (.tup [.int .u64 (B3 (Gc p6) (Bz (Bl x))),.int .i64 0]) else none else none:=by kernel_rfl
theorem Ah.Norm.ev:Bu Ah.Norm.E N f257 (Am f257) [.ints .arg .u64 x]=bif (Bd 64 (length x:Int)) then some (.tup [.int .u64 0,.int .i64 3]) else bif (Cy x) then bif (((Bl x)==(0:Int))||(Ak (Bl x))) then bif (((Bl x)==(0:Int))||(!(Dg (Bl x)))) then some (.tup [.int .u64 (Bl x),.int .i64 0]) else bif (Ak (Bl x)) then Ah.Norm.L0 N N x 0 (0:Int) else none else none else none :=
 Eq.trans (by kernel_rfl)
 (Ec rfl (Ec (Ax (Uc ((Bl x)==(0:Int))) (Cp (Alp ((Bl x)==(0:Int)) (Ak (Bl x))) (Ax (Sr ((Bl x)==(0:Int))) (Ax (Ye ((Bl x)==(0:Int))) (Cp (Axk ((Bl x)==(0:Int)) (Dg (Bl x))) rfl rfl))) rfl)) rfl))
end
abbrev _root_.Go.Proofs.S1.Ah.Norm.Kn:=A7 prog 257 Ah.Norm.spec
theorem Ah.Norm.Ac (hk:A1 prog Ah.Norm.Bc) (h:Hyp Ah.Norm.E f257 Ah.Norm.ts Ah.Norm.pre Ah.Norm.out):Ah.Norm.Kn :=
 Al (A2 hk _ _ _) func257 (by kernel_rfl) (by kernel_rfl) h
end EqRoot
open EqRoot
theorem Rr (n s:Nat) (h:s≤64):Dy .u64 (n:Int) (s:Int)=((n / 2^s:Nat):Int):=Ii .u64 n s h
theorem sh2 {n t:Nat} (ht:t<4):Iu .u64 (B9 .u64 (n:Int) (2:Int)) (t:Int)=((n%2^62*4+t:Nat):Int):=by
 rw [show (2:Int)=((2:Nat):Int) from rfl,Fw n 2 (by decide),show n*2^2%2^64=(n%2^62)*2^2 by omega]
 exact Nu ht (by omega)
theorem sh1 {n:Nat} (h:n<2^63):B9 .u64 (n:Int) (1:Int)=((2*n:Nat):Int):=by
 rw [show (1:Int)=((1:Nat):Int) from rfl,Fw n 1 (by decide)]
 congr 1; omega
theorem A0f {n:Nat} (h:n<2^63):Iu .u64 (B9 .u64 (n:Int) (1:Int)) (1:Int)=((2*n+1:Nat):Int):=by
 rw [show (1:Int)=((1:Nat):Int) from rfl,Fw n 1 (by decide),show n*2^1%2^64=n*2^1 by omega,A1s 2 n]
 exact Nu (k:=1) (by decide) (by omega)
theorem Aoh {m i:Nat} (hi:i<32):E6 .u64 (Dy .u64 (m:Int) (Ab ((62:Int)-(Ab ((2:Int)*(i:Int)))))) (3:Int)=((m / 2^(62-2*i)%2^64%4:Nat):Int)∨2^64≤m:=by
 by_cases hm:m<2^64
 ·left
  rw [An (x:=(2:Int)*(i:Int)) (by omega) (by omega),An (x:=(62:Int)-2*(i:Int)) (by omega) (by omega),show (62:Int)-2*(i:Int)=((62-2*i:Nat):Int) by omega,Rr _ _ (by omega)]
  have hd:m / 2^(62-2*i)<2^64:=A16 (Nat.div_le_self _ _) hm
  rw [show (3:Int)=((2^2-1:Nat):Int) from rfl,Ji 2 hd (by decide)]
  congr 1
  omega
 ·right; omega
def Ss (m i:Nat):Nat:=m*2^64 / 2^(128-2*i)
theorem Apa {m i:Nat} (hi:i<32):Ss m (i+1)=4*Ss m i+m / 2^(62-2*i)%4:=by
 unfold Ss
 have e1:128-2*i=64+(64-2*i):=by omega
 have e2:128-2*(i+1)=64+(62-2*i):=by omega
 rw [e1,e2,A1t,A1t,A1s (2^64),A1s (2^64),Nat.mul_div_mul_right _ _ (by decide),Nat.mul_div_mul_right _ _ (by decide),show 64-2*i=(62-2*i)+2 by omega,A1t,← A1x]
 omega
theorem Ame {m i:Nat} (hi:32≤i) (h:i<64):Ss m (i+1)=4*Ss m i:=by
 unfold Ss
 have e1:(2:Nat)^64=2^(2*i-64)*2^(128-2*i):=by rw [← A1t]; congr 1; omega
 have e2:(2:Nat)^64=2^(2*i-64)*4*2^(128-2*(i+1)):=by
  rw [show (4:Nat)=2^2 from rfl,← A1t,← A1t]; congr 1; omega
 have a1:m*2^64 / 2^(128-2*i)=m*2^(2*i-64):=by rw [e1,← A1v,Nat.mul_div_cancel _ (Cw _)]
 have a2:m*2^64 / 2^(128-2*(i+1))=m*(2^(2*i-64)*4):=by rw [e2,← A1v,Nat.mul_div_cancel _ (Cw _)]
 rw [a1,a2,← A1v,A1s 4]
theorem Asd {A B tl th:Nat} (hA:A<2^64) (htl:tl<2^64) (hB:B<2^64) (hth:th<4) :
 (Hd (A:Int) (tl:Int) (0:Int)=0∨Hd (A:Int) (tl:Int) (0:Int)=1) ∧
 (th*2^64+tl≤B*2^64+A→(Hd (B:Int) (th:Int) (Hd (A:Int) (tl:Int) (0:Int))==(0:Int))=true ∧
  ∃ h l:Nat,N4 (B:Int) (th:Int) (Hd (A:Int) (tl:Int) (0:Int))=(h:Int)∧N4 (A:Int) (tl:Int) (0:Int)=(l:Int)∧l<2^64∧h*2^64+l=B*2^64+A-(th*2^64+tl)) ∧
 (B*2^64+A<th*2^64+tl→(Hd (B:Int) (th:Int) (Hd (A:Int) (tl:Int) (0:Int))==(0:Int))=false):=by
 have e1:Hd (A:Int) (tl:Int) (0:Int)=((if A<tl then 1 else 0:Nat):Int):=by
  unfold Hd
  rw [A06,A06]
  rfl
 by_cases h:A<tl
 ·rw [A1r h] at e1
  rw [e1]
  have e2:Hd (B:Int) (th:Int) ((1:Nat):Int)=((if B<th+1 then 1 else 0:Nat):Int):=by
   unfold Hd
   rw [A06,A06]
   rfl
  refine ⟨.inr rfl,fun hle=>?_,fun hlt=>?_⟩
  ·rw [A1q (by omega)] at e2
   rw [e2]
   refine ⟨rfl,B-th-1,A+2^64-tl,?_,?_,by omega,by omega⟩
   ·unfold N4
    rw [A06,A06,A06]
    congr 1; omega
   ·unfold N4
    rw [A06,A06]
    show ((_:Nat):Int)=_
    congr 1
    show (A+18446744073709551616-tl-0)%18446744073709551616=_
    omega
  ·rw [A1r (by omega)] at e2
   rw [e2]; rfl
 ·rw [A1q h] at e1
  rw [e1]
  have e2:Hd (B:Int) (th:Int) ((0:Nat):Int)=((if B<th then 1 else 0:Nat):Int):=by
   unfold Hd
   rw [A06,A06]
   rfl
  refine ⟨.inl rfl,fun hle=>?_,fun hlt=>?_⟩
  ·rw [A1q (by omega)] at e2
   rw [e2]
   refine ⟨rfl,B-th,A-tl,?_,?_,by omega,by omega⟩
   ·unfold N4
    rw [A06,A06,A06]
    congr 1; omega
   ·unfold N4
    rw [A06,A06]
    show ((_:Nat):Int)=_
    congr 1
    show (A+18446744073709551616-tl-0)%18446744073709551616=_
    omega
  ·rw [A1r (by omega)] at e2
   rw [e2]; rfl
theorem glue (n t:Nat):n / 2^62*2^64+(n%2^62*4+t)=4*n+t:=by omega
theorem Amy (N:Nat) {m:Nat} (hm:m<2^63):∀ (k i F rt rest:Nat),i+k=64→k<F→Ss m i=rt*rt+rest→rest≤2*rt→rt<2^i→∀ hi lo:Nat,hi*2^64+lo=rest→lo<2^64 →
 root.G2.L0 N F (m:Int) (rt:Int) (hi:Int) (lo:Int) (i:Int)=some (.tup [.int .u64 (Ve m),.bool (Vf m)]):=by
 intro k
 induction k with
 | zero =>
   intro i F rt rest hi hF hP hr hb h l e hl
   obtain ⟨F,rfl⟩:∃ G,F=G+1:=⟨F-1,by omega⟩
   obtain rfl:i=64:=by omega
   have hP':m*2^64=rt*rt+rest:=by
    rw [← hP]; unfold Ss
    rw [show 128-2*64=0 from rfl,A12,Nat.div_one]
   have hroot:=Asl hP' hr
   rw [root.G2.Av,Aw,A09 (by omega),A08]
   have e1:Ve (m:Int)=(rt:Int):=by unfold Ve; rw [A06,← hroot]
   have e2:Vf (m:Int)=(bif ((h:Int)==(0:Int)) then ((l:Int)==(0:Int)) else false):=by
    unfold Vf
    rw [A06,← hroot,hP']
    by_cases h0:h=0
    ·subst h0
     rw [show (((0:Nat):Int)==(0:Int))=true from rfl,A04,A1k,A1b,beq_iff_eq]
     omega
    ·rw [show ((h:Int)==(0:Int))=false by rw [A1z]; omega,A08,A09]
     omega
   rw [e1,e2]
 | succ k ih =>
   intro i F rt rest hi hF hP hr hb h l e hl
   obtain ⟨F,rfl⟩:∃ G,F=G+1:=⟨F-1,by omega⟩
   have hp:2^i≤2^63:=A1j (by decide) (by omega)
   have hi63:2^(i+1)=2*2^i:=by rw [Nat.pow_succ,A1s]
   have f1:2*rt+1<2^(i+1):=by rw [hi63]; omega
   have f2:2*rt<2^(i+1):=by omega
   have hh:h=0:=by omega
   subst hh
   have hrest:rest=l:=by omega
   subst hrest
   obtain ⟨two,t4,hP',hcode⟩:∃ two:Nat,two<4∧Ss m (i+1)=4*Ss m i+two ∧
    root.G2.L0 N (F+1) (m:Int) (rt:Int) ((0:Nat):Int) (rest:Int) (i:Int) =
    (bif (decide ((Hd (Iu .u64 (B9 .u64 (rest:Int) (2:Int)) (two:Int)) (Iu .u64 (B9 .u64 (rt:Int) (2:Int)) (1:Int)) (0:Int))≤1)) then
     bif ((Hd (Iu .u64 (B9 .u64 ((0:Nat):Int) (2:Int)) (Dy .u64 (rest:Int) (62:Int))) (Dy .u64 (rt:Int) (62:Int)) (Hd (Iu .u64 (B9 .u64 (rest:Int) (2:Int)) (two:Int)) (Iu .u64 (B9 .u64 (rt:Int) (2:Int)) (1:Int)) (0:Int)))==(0:Int)) then
      root.G2.L0 N F (m:Int) (Iu .u64 (B9 .u64 (rt:Int) (1:Int)) (1:Int)) (N4 (Iu .u64 (B9 .u64 ((0:Nat):Int) (2:Int)) (Dy .u64 (rest:Int) (62:Int))) (Dy .u64 (rt:Int) (62:Int)) (Hd (Iu .u64 (B9 .u64 (rest:Int) (2:Int)) (two:Int)) (Iu .u64 (B9 .u64 (rt:Int) (2:Int)) (1:Int)) (0:Int))) (N4 (Iu .u64 (B9 .u64 (rest:Int) (2:Int)) (two:Int)) (Iu .u64 (B9 .u64 (rt:Int) (2:Int)) (1:Int)) (0:Int)) (Ab ((i:Int)+(1:Int)))
     else root.G2.L0 N F (m:Int) (B9 .u64 (rt:Int) (1:Int)) (Iu .u64 (B9 .u64 ((0:Nat):Int) (2:Int)) (Dy .u64 (rest:Int) (62:Int))) (Iu .u64 (B9 .u64 (rest:Int) (2:Int)) (two:Int)) (Ab ((i:Int)+(1:Int)))
    else none):=by
    by_cases h32:i<32
    ·refine ⟨m / 2^(62-2*i)%4,Nat.mod_lt _ (by decide),Apa h32,?_⟩
     have ht:=(Aoh (m:=m) h32).resolve_right (by omega)
     have hq:m / 2^(62-2*i)%2^64%4=m / 2^(62-2*i)%4:=by omega
     rw [hq] at ht
     rw [root.G2.Av,Aw,A05 (show (i:Int)<64 by omega),A04,Aw,A05 (show (i:Int)<32 by omega),A04,ht,An (x:=(2:Int)*(i:Int)) (by omega) (by omega),An (x:=(62:Int)-2*(i:Int)) (by omega) (by omega),A05 (show (0:Int)≤62-2*(i:Int) by omega),A04]
    ·refine ⟨0,by decide,by rw [Ame (by omega) (by omega),A2c],?_⟩
     rw [root.G2.Av,Aw,A05 (show (i:Int)<64 by omega),A04,Aw,A09 (show ¬ (i:Int)<32 by omega),A08]
     rfl
   obtain ⟨s1,s2⟩:=Ajk hP hr t4
   have eA:=sh2 (n:=rest) t4
   have eT:=sh2 (n:=rt) (t:=1) (by decide)
   have eB:Iu .u64 (B9 .u64 ((0:Nat):Int) (2:Int)) (Dy .u64 (rest:Int) (62:Int))=((rest / 2^62:Nat):Int):=by
    rw [show (62:Int)=((62:Nat):Int) from rfl,Rr _ _ (by decide),sh2 (n:=0) (t:=rest / 2^62) (by omega)]
    congr 1; omega
   have eH:Dy .u64 (rt:Int) (62:Int)=((rt / 2^62:Nat):Int):=by rw [show (62:Int)=((62:Nat):Int) from rfl,Rr _ _ (by decide)]
   have eT':Iu .u64 (B9 .u64 (rt:Int) (2:Int)) (1:Int)=((rt%2^62*4+1:Nat):Int):=eT
   obtain ⟨b1,b2,b3⟩:=Asd (A:=rest%2^62*4+two) (B:=rest / 2^62) (tl:=rt%2^62*4+1) (th:=rt / 2^62) (by omega) (by omega) (by omega) (by omega)
   rw [hcode,eA,eT',eB,eH,A05 (by rcases b1 with b | b<;>rw [b]<;>decide),A04,An (by omega) (by omega)]
   by_cases hc:4*rt+1≤4*rest+two
   ·obtain ⟨c1,hh,ll,c2,c3,c4,c5⟩:=b2 (by rw [glue,glue]; exact hc)
    obtain ⟨d1,d2⟩:=s1 hc
    rw [c1,A04,c2,c3,A0f (by omega)]
    refine ih (i+1) F (2*rt+1) (4*rest+two-(4*rt+1)) (by omega) (by omega) (hP'.trans d1) d2 f1 hh ll ?_ c4
    rw [c5,glue,glue]
   ·rw [b3 (by rw [glue,glue]; omega),A08,sh1 (by omega)]
    obtain ⟨d1,d2⟩:=s2 (by omega)
    refine ih (i+1) F (2*rt) (4*rest+two) (by omega) (by omega) (hP'.trans d1) d2 f2 _ _ (glue _ _) ?_
    clear hcode
    omega
theorem root.G2.known:root.G2.Kn:=root.G2.Ac .nil fun m hp=>by
 have hp:=Au.1 hp
 obtain ⟨n,rfl⟩:∃ n:Nat,m=n:=⟨m.toNat,by omega⟩
 refine ⟨65,root.G2.out [.i n],[],?_,Wk.Gv (.cons .int (.cons .bool .nil))⟩
 rw [root.G2.ev]
 have h0:Ss n 0=0*0+0:=by
  unfold Ss
  rw [Nat.div_eq_of_lt]
  show n*18446744073709551616<340282366920938463463374607431768211456
  omega
 exact Amy 65 (by omega) 64 0 65 0 0 rfl (by omega) h0 (A1y 0) Nat.one_pos 0 0 rfl (Nat.pow_pos (by decide))
end Go.Proofs.S1
end
