/- A verified evaluator of the program's form and its use for this seat: S1EqBits6, S1EqTimes, S1PTimes, S1EqRefD, S1PRefD, S1PTimesA, S1EqVec, S1PVec, S1EqMat, S1PMat, S1EqCmp, S1PCmp, S1PDiv, RootM, HouL, S1EqRoot, S1PRoot. -/
import Derived.Test.YtclmlepbdjafdaaGreatTE
import Derived.Test.YtclmlepbdjafdaaGreatTF
import Derived.Test.YtclmlepbdjafdaaGreatTG
set_option linter.unusedVariables false
set_option linter.unusedSimpArgs false
noncomputable section
open Int (toNat)
open List (length getD)
open Go.Proofs.Tryz
namespace Go.Proofs.S1
open Go Go.Den Go.Rnd Go.Proofs
set_option maxRecDepth 100000
namespace EqBits6
def B5.Bm.Bh:List (Nat × Entry):=[(91,B5.Hx.spec)]
def B5.Bm.E:Env:=Bi (Bg B5.Bm.Bh) (fun _=>false) (fun _=>none) (fun _=>none)
theorem B5.Bm.ev (N:Nat) (x:Int):Bw B5.Bm.E N f121 (Aq f121) [.int .u64 x]=bif (Aj x) then some (.int .i64 (Ab ((64:Int)-(Dx x)))) else none:=by kernel_rfl
abbrev _root_.Go.Proofs.S1.B5.Bm.Kn:=A6 prog 121 B5.Bm.spec
theorem B5.Bm.Ad (hk:Ay prog B5.Bm.Bh) (h:Hyp B5.Bm.E f121 B5.Bm.ts B5.Bm.pre B5.Bm.out):B5.Bm.Kn :=
 Am (A2 hk _ _ _) func121 (by kernel_rfl) (by kernel_rfl) h
def B5.Fi.Bh:List (Nat × Entry):=[]
def B5.Fi.E:Env:=Bi (Bg B5.Fi.Bh) (fun _=>false) (fun _=>none) (fun _=>none)
theorem B5.Fi.ev (N:Nat) (x y:Int):Bw B5.Fi.E N f119 (Aq f119) [.int .u64 x,.int .u64 y]=some (.tup [.int .u64 (Bb ((Bb ((Bb ((Ct .u64 x 32)*(Ct .u64 y 32)))+(Ct .u64 (Bb ((Bb ((Ct .u64 x 32)*(Dq .u64 y 4294967295)))+(Ct .u64 (Bb ((Dq .u64 x 4294967295)*(Dq .u64 y 4294967295))) 32))) 32)))+(Ct .u64 (Bb ((Dq .u64 (Bb ((Bb ((Ct .u64 x 32)*(Dq .u64 y 4294967295)))+(Ct .u64 (Bb ((Dq .u64 x 4294967295)*(Dq .u64 y 4294967295))) 32))) 4294967295)+(Bb ((Dq .u64 x 4294967295)*(Ct .u64 y 32))))) 32))),.int .u64 (Bb (x*y))]):=by kernel_rfl
abbrev _root_.Go.Proofs.S1.B5.Fi.Kn:=A6 prog 119 B5.Fi.spec
theorem B5.Fi.Ad (hk:Ay prog B5.Fi.Bh) (h:Hyp B5.Fi.E f119 B5.Fi.ts B5.Fi.pre B5.Fi.out):B5.Fi.Kn :=
 Am (A2 hk _ _ _) func119 (by kernel_rfl) (by kernel_rfl) h
abbrev _root_.Go.Proofs.S1.B5.Hx.Kn:Prop:=A6 prog 91 B5.Hx.spec
theorem _root_.Go.Proofs.S1.B5.Hx.call:∀ (args:Array Value) (w:World),(callFunc 91 args).run prog w=.ok (.enter 91 args) w:=P0 func91 (by kernel_rfl) (show f91.body=some (Aq f91) by kernel_rfl)
theorem _root_.Go.Proofs.S1.B5.Hx.run (x:Int) (w:World) (h0:0≤x) (h1:x≤18446744073709551615):Calls prog 91 #[.int .u64 x] w fun e w'=>e=.returned (.int .i64 (Lib.bitLen x.toNat))∧w'=w:=Tryz.Acr x w h0 h1
end EqBits6
namespace EqTimes
def times.signed.Bh:List (Nat × Entry):=[(96,soft.Ef.spec)]
def times.signed.E:Env:=Bi (Bg times.signed.Bh) (fun _=>false) (fun _=>none) (fun _=>none)
theorem times.signed.ev (N:Nat) (b:Int) (n:Bool):Bw times.signed.E N f117 (Aq f117) [.int .u64 b,.bool n]=bif n then bif (Aj b) then some (.int .u64 (Dc b)) else none else some (.int .u64 b):=by kernel_rfl
abbrev _root_.Go.Proofs.S1.times.signed.Kn:=A6 prog 117 times.signed.spec
theorem times.signed.Ad (hk:Ay prog times.signed.Bh) (h:Hyp times.signed.E f117 times.signed.ts times.signed.pre times.signed.out):times.signed.Kn :=
 Am (A2 hk _ _ _) func117 (by kernel_rfl) (by kernel_rfl) h
def times.nan.Bh:List (Nat × Entry):=[(31,soft.Kind.spec)]
def times.nan.E:Env:=Bi (Bg times.nan.Bh) (fun _=>false) (fun _=>none) (fun _=>none)
theorem times.nan.ev (N:Nat) (a b:Int):Bw times.nan.E N f116 (Aq f116) [.int .u64 a,.int .u64 b]=bif (Aj a) then bif ((Ba a)==(4:Int)) then some (.bool true) else bif (Aj b) then bif ((Ba b)==(4:Int)) then some (.bool true) else some (.bool false) else none else none:=by kernel_rfl
abbrev _root_.Go.Proofs.S1.times.nan.Kn:=A6 prog 116 times.nan.spec
theorem times.nan.Ad (hk:Ay prog times.nan.Bh) (h:Hyp times.nan.E f116 times.nan.ts times.nan.pre times.nan.out):times.nan.Kn :=
 Am (A2 hk _ _ _) func116 (by kernel_rfl) (by kernel_rfl) h
def times.norm.Bh:List (Nat × Entry):=[(121,B5.Bm.spec),(32,soft.Ea.spec)]
def times.norm.E:Env:=Bi (Bg times.norm.Bh) (fun _=>false) (fun _=>none) (fun _=>none)
theorem times.norm.ev (N:Nat) (b:Int):Bw times.norm.E N f118 (Aq f118) [.int .u64 b]=bif (Aj b) then bif (Aj (Bk b)) then bif (decide (0≤(Ab ((64-Dx (Bk b))-11)))) then some (.tup [.int .u64 (Bq .u64 (Bk b) (Ab ((64-Dx (Bk b))-11))),.int .i64 (Ab ((A7 b)-(Ab ((64-Dx (Bk b))-11))))]) else none else none else none:=by kernel_rfl
abbrev _root_.Go.Proofs.S1.times.norm.Kn:=A6 prog 118 times.norm.spec
theorem times.norm.Ad (hk:Ay prog times.norm.Bh) (h:Hyp times.norm.E f118 times.norm.ts times.norm.pre times.norm.out):times.norm.Kn :=
 Am (A2 hk _ _ _) func118 (by kernel_rfl) (by kernel_rfl) h
def times.wide.hint:Nat→Option Bc
 | 0=>some { keep:=[0,1,2,3],objs:=[],boxes:=[] }
 | _=>none
def times.wide.Bh:List (Nat × Entry):=[(33,soft.Cq.spec)]
def times.wide.E:Env:=Bi (Bg times.wide.Bh) (fun _=>false) times.wide.hint (fun _=>none)
section
variable (N M:Nat) (n:Bool) (m e:Int) (r:Bool) (p1 p2:Int) (p3:Bool)
def times.wide.L0:Option DV:=B3 times.wide.E N f120 (Aq f120) [1,0,0] [] M ⟨G8 39 [(0,.bool n),(1,.int .u64 p1),(2,.int .i64 p2),(3,.bool p3)],[]⟩
theorem times.wide.Au:times.wide.L0 N (M+1) n p1 p2 p3=bif ((A3 p2 (-1130:Int))&&(A3 1 p1)) then times.wide.L0 N M n (Ct .u64 p1 1) (Ab (p2+1)) (bif p3 then true else ((Dq .u64 p1 1)==(1:Int))) else bif (A3 p2 (-1130:Int)) then bif (Dk 0 (-1074:Int) true) then some (.tup [.int .u64 (Dw n 0 (-1074:Int) true),.int .u8 (Dv n 0 (-1074:Int) true)]) else none else bif (Dk p1 p2 p3) then some (.tup [.int .u64 (Dw n p1 p2 p3),.int .u8 (Dv n p1 p2 p3)]) else none :=
 Eq.trans (by kernel_rfl)
 (Aw (H0 (A3 p2 (-1130:Int))) (Aw (Fm (A3 p2 (-1130:Int))) (Aw (J3 (A3 p2 (-1130:Int))) (Df (Tt (A3 p2 (-1130:Int)) (A3 1 p1)) (Aw (Kl p3) (Aw (I9 p3) (Aw (I9 p3) (Aw (Mt p3) rfl)))) rfl))))
theorem times.wide.ev:Bw times.wide.E N f120 (Aq f120) [.bool n,.int .u64 m,.int .i64 e,.bool r] =
 times.wide.L0 N N n m e r:=by kernel_rfl
end
abbrev _root_.Go.Proofs.S1.times.wide.Kn:=A6 prog 120 times.wide.spec
theorem times.wide.Ad (hk:Ay prog times.wide.Bh) (h:Hyp times.wide.E f120 times.wide.ts times.wide.pre times.wide.out):times.wide.Kn :=
 Am (A2 hk _ _ _) func120 (by kernel_rfl) (by kernel_rfl) h
def times.Mul.Bh:List (Nat × Entry):=[(119,B5.Fi.spec),(31,soft.Kind.spec),(34,soft.Sign.spec),(116,times.nan.spec),(118,times.norm.spec),(117,times.signed.spec),(120,times.wide.spec)]
def times.Mul.E:Env:=Bi (Bg times.Mul.Bh) (fun _=>false) (fun _=>none) (fun _=>none)
theorem times.Mul.ev (N:Nat) (a b:Int):Bw times.Mul.E N f100 (Aq f100) [.int .u64 a,.int .u64 b]=bif (Aj a) then bif (Aj b) then bif (Aj a) then bif (Aj b) then bif (Aj a&&Aj b) then bif (Ahk a b) then some (.tup [.int .u64 9221120237041090560,.int .u8 0]) else bif ((((Ba a)==(3:Int))&&((Ba b)==(0:Int)))||(((Ba a)==(0:Int))&&((Ba b)==(3:Int)))) then some (.tup [.int .u64 9221120237041090560,.int .u8 16]) else bif (((Ba a)==(3:Int))||((Ba b)==(3:Int))) then bif (Aj 9218868437227405312) then some (.tup [.int .u64 (O2 (!((C9 a)==(C9 b))) 9218868437227405312),.int .u8 0]) else none else bif (((Ba a)==(0:Int))||((Ba b)==(0:Int))) then bif (Aj 0) then some (.tup [.int .u64 (O2 (!((C9 a)==(C9 b))) 0),.int .u8 0]) else none else bif (Aj a&&Jm a) then bif (Aj b&&Jm b) then bif (Aj (Ch a)&&Aj (Ch b)) then bif (Lw (F9 .u64 (Bq .u64 (O6 (Ch a) (Ch b)) 20) (Ct .u64 (Kq (Ch a) (Ch b)) 44)) (Ab ((Ab ((Fu a)+(Fu b)))+44))) then some (.tup [.int .u64 (Dw (!((C9 a)==(C9 b))) (F9 .u64 (Bq .u64 (O6 (Ch a) (Ch b)) 20) (Ct .u64 (Kq (Ch a) (Ch b)) 44)) (Ab ((Ab ((Fu a)+(Fu b)))+44)) ((Bq .u64 (Kq (Ch a) (Ch b)) 20) !=(0:Int))),.int .u8 (Dv (!((C9 a)==(C9 b))) (F9 .u64 (Bq .u64 (O6 (Ch a) (Ch b)) 20) (Ct .u64 (Kq (Ch a) (Ch b)) 44)) (Ab ((Ab ((Fu a)+(Fu b)))+44)) ((Bq .u64 (Kq (Ch a) (Ch b)) 20) !=(0:Int)))]) else none else none else none else none else none else none else none else none else none :=
 Eq.trans (by kernel_rfl)
 (Eu (Eu (Eu (Eu (Eu (Eu rfl (Aw (H0 ((Ba a)==(3:Int))) (Aw (Fm ((Ba a)==(3:Int))) (Aw (J3 ((Ba a)==(3:Int))) (Aw (Aom ((Ba a)==(3:Int)) ((Ba b)==(0:Int))) (Aw (Ajr ((Ba a)==(3:Int)) ((Ba b)==(0:Int))) (Aw (Ajr ((Ba a)==(3:Int)) ((Ba b)==(0:Int))) (Aw (Aon ((Ba a)==(3:Int)) ((Ba b)==(0:Int)) ((Ba a)==(0:Int))) (Aw (Aoo ((Ba a)==(3:Int)) ((Ba b)==(0:Int)) ((Ba a)==(0:Int))) (Aw (Aop ((Ba a)==(3:Int)) ((Ba b)==(0:Int)) ((Ba a)==(0:Int))) (Aw (Aoq ((Ba a)==(3:Int)) ((Ba b)==(0:Int))) (Df (Aor ((Ba a)==(3:Int)) ((Ba b)==(0:Int)) ((Ba a)==(0:Int)) ((Ba b)==(3:Int))) rfl (Aw (Kl ((Ba a)==(3:Int))) (Aw (I9 ((Ba a)==(3:Int))) (Aw (Mt ((Ba a)==(3:Int))) (Df (Ts ((Ba a)==(3:Int)) ((Ba b)==(3:Int))) rfl (Aw (Kl ((Ba a)==(0:Int))) (Aw (I9 ((Ba a)==(0:Int))) (Aw (Mt ((Ba a)==(0:Int))) (Df (Ts ((Ba a)==(0:Int)) ((Ba b)==(0:Int))) rfl rfl)))))))))))))))))))) rfl) rfl) rfl) rfl) rfl)
abbrev _root_.Go.Proofs.S1.times.Mul.Kn:=A6 prog 100 times.Mul.spec
theorem times.Mul.Ad (hk:Ay prog times.Mul.Bh) (h:Hyp times.Mul.E f100 times.Mul.ts times.Mul.pre times.Mul.out):times.Mul.Kn :=
 Am (A2 hk _ _ _) func100 (by kernel_rfl) (by kernel_rfl) h
def times.Div.hint:Nat→Option Bc
 | 1=>some { keep:=[6,10,11,12,13,14,78],objs:=[],boxes:=[] }
 | _=>none
def times.Div.Bh:List (Nat × Entry):=[(31,soft.Kind.spec),(34,soft.Sign.spec),(116,times.nan.spec),(118,times.norm.spec),(117,times.signed.spec),(120,times.wide.spec)]
def times.Div.E:Env:=Bi (Bg times.Div.Bh) (fun _=>false) times.Div.hint (fun _=>none)
section
variable (N M:Nat) (a b p13 p14 p78:Int)
def times.Div.L0:Option DV:=B3 times.Div.E N f134 (Aq f134) [1,1,1,1,1,1,1,0,1,0] [] M ⟨G8 104 [(6,.bool (!((C9 a)==(C9 b)))),(10,.int .i64 (Fu a)),(11,.int .u64 (Ch b)),(12,.int .i64 (Fu b)),(13,.int .u64 p13),(14,.int .u64 p14),(78,.int .i64 p78)],[]⟩
theorem times.Div.Au:times.Div.L0 N (M+1) a b p13 p14 p78=bif (A3 p78 61) then bif (H2 (Ch b) (Bq .u64 p14 1)) then times.Div.L0 N M a b (F9 .u64 (Bq .u64 p13 1) 1) (Bb ((Bq .u64 p14 1)-(Ch b))) (Ab (p78+1)) else times.Div.L0 N M a b (Bq .u64 p13 1) (Bq .u64 p14 1) (Ab (p78+1)) else bif (Lw p13 (Ab ((Ab ((Fu a)-(Fu b)))-61))) then some (.tup [.int .u64 (Dw (!((C9 a)==(C9 b))) p13 (Ab ((Ab ((Fu a)-(Fu b)))-61)) (p14 !=(0:Int))),.int .u8 (Dv (!((C9 a)==(C9 b))) p13 (Ab ((Ab ((Fu a)-(Fu b)))-61)) (p14 !=(0:Int)))]) else none:=by kernel_rfl
theorem times.Div.ev:Bw times.Div.E N f134 (Aq f134) [.int .u64 a,.int .u64 b]=bif (Aj a) then bif (Aj b) then bif (Aj a) then bif (Aj b) then bif (Aj a&&Aj b) then bif (Ahk a b) then some (.tup [.int .u64 9221120237041090560,.int .u8 0]) else bif ((((Ba a)==(3:Int))&&((Ba b)==(3:Int)))||(((Ba a)==(0:Int))&&((Ba b)==(0:Int)))) then some (.tup [.int .u64 9221120237041090560,.int .u8 16]) else bif ((Ba a)==(3:Int)) then bif (Aj 9218868437227405312) then some (.tup [.int .u64 (O2 (!((C9 a)==(C9 b))) 9218868437227405312),.int .u8 0]) else none else bif (((Ba b)==(3:Int))||((Ba a)==(0:Int))) then bif (Aj 0) then some (.tup [.int .u64 (O2 (!((C9 a)==(C9 b))) 0),.int .u8 0]) else none else bif ((Ba b)==(0:Int)) then bif (Aj 9218868437227405312) then some (.tup [.int .u64 (O2 (!((C9 a)==(C9 b))) 9218868437227405312),.int .u8 8]) else none else bif (Aj a&&Jm a) then bif (Aj b&&Jm b) then bif ((Ch b) !=0) then bif ((Ch b) !=0) then times.Div.L0 N N a b (Bb (Int.tdiv (Ch a) (Ch b))) (Int.tmod (Ch a) (Ch b)) (0:Int) else none else none else none else none else none else none else none else none else none :=
 Eq.trans (by kernel_rfl)
 (Eu (Eu (Eu (Eu (Eu (Eu rfl (Aw (H0 ((Ba a)==(3:Int))) (Aw (Fm ((Ba a)==(3:Int))) (Aw (J3 ((Ba a)==(3:Int))) (Aw (Aom ((Ba a)==(3:Int)) ((Ba b)==(3:Int))) (Aw (Ajr ((Ba a)==(3:Int)) ((Ba b)==(3:Int))) (Aw (Ajr ((Ba a)==(3:Int)) ((Ba b)==(3:Int))) (Aw (Aon ((Ba a)==(3:Int)) ((Ba b)==(3:Int)) ((Ba a)==(0:Int))) (Aw (Aoo ((Ba a)==(3:Int)) ((Ba b)==(3:Int)) ((Ba a)==(0:Int))) (Aw (Aop ((Ba a)==(3:Int)) ((Ba b)==(3:Int)) ((Ba a)==(0:Int))) (Aw (Aoq ((Ba a)==(3:Int)) ((Ba b)==(3:Int))) (Df (Aor ((Ba a)==(3:Int)) ((Ba b)==(3:Int)) ((Ba a)==(0:Int)) ((Ba b)==(0:Int))) rfl (Eu rfl (Aw (Kl ((Ba b)==(3:Int))) (Aw (I9 ((Ba b)==(3:Int))) (Aw (Mt ((Ba b)==(3:Int))) (Df (Ts ((Ba b)==(3:Int)) ((Ba a)==(0:Int))) rfl (Eu rfl (Eu (Eu (Df (Gc ((Ch b) !=0)) (Df (Gc ((Ch b) !=0)) rfl rfl) rfl) rfl) rfl))))))))))))))))))) rfl) rfl) rfl) rfl) rfl)
end
abbrev _root_.Go.Proofs.S1.times.Div.Kn:=A6 prog 134 times.Div.spec
theorem times.Div.Ad (hk:Ay prog times.Div.Bh) (h:Hyp times.Div.E f134 times.Div.ts times.Div.pre times.Div.out):times.Div.Kn :=
 Am (A2 hk _ _ _) func134 (by kernel_rfl) (by kernel_rfl) h
end EqTimes
open EqBits6 EqTimes
theorem Aax {n:Nat} (h0:n≠0) (h:n<2^64):Go.Lib.bitLen n=n.log2+1:=by
 have h1:=Nat.log2_self_le h0
 have h2:=Nat.lt_log2_self (n:=n)
 have hp:=By n.log2
 have e:n / 2^n.log2=1:=by
  rw [Nat.pow_succ] at h2
  exact Nat.div_eq_of_lt_le (by omega) (by omega)
 have e1:Go.Lib.bitLen 1=1:=by decide
 rw [Go.Lib.bitLen_shift n.log2 n h1 h,e,e1]
theorem B5.Hx.known:B5.Hx.Kn:=by
 refine ⟨?_,B5.Hx.call⟩
 intro args ha
 simp only [B5.Hx.spec,entry] at ha ⊢
 cases hd:Jt [.i .u64] args with
 | none=>rw [hd] at ha; cases ha
 | some ats =>
   rw [hd] at ha
   simp only at ha ⊢
   obtain ⟨ds,h1,h2⟩:=Js hd
   obtain ⟨x,_,_,rfl,rfl,he⟩:=h1.Aib
   obtain ⟨rfl,rfl⟩:=he.X0
   obtain ⟨n,rfl,hn⟩:=Bt (x:=x) ha
   refine La.args ?_ h2
   intro w vals I hI hv
   obtain ⟨u,us,e1,e2,e3⟩:=hv
   simp only [Ak] at e2
   have e3:us=[]:=e3
   subst e2 e3
   have e4:vals=#[.int .u64 (n:Int)]:=Array.ext' e1
   subst e4
   refine (B5.Hx.run n w (by omega) (by omega)).mono ?_
   rintro e w' ⟨rfl,rfl⟩
   refine ⟨_,fun _=>none,rfl,Go.RowKit.Below.refl _ _,⟨fun i b h=>(by cases h),fun i j b h=>(by cases h)⟩,?_⟩
   show Ak _ _ (DV.int .i64 (Dx n)) _
   simp only [Ak]
   congr 1
   unfold Dx
   rw [Art]
   by_cases h0:n=0
   ·subst h0; rfl
   ·rw [Aax h0 hn,Asd (by omega)]; rfl
theorem Ah3 {n:Nat} (hn:n<2^64):0≤Dx n∧Dx n≤64:=by
 unfold Dx
 rw [Art]
 by_cases h0:n=0
 ·subst h0; decide
 ·have:=(As8 h0).2 hn
  rw [Asd (by omega)]; omega
theorem B5.Bm.known:B5.Bm.Kn:=B5.Bm.Ad (.cons B5.Hx.known .nil) fun x hp=>by
 obtain ⟨n,rfl,hn⟩:=Bt (x:=x) hp
 have:=Ah3 hn
 refine ⟨0,B5.Bm.out [.i n],[],?_,.int⟩
 rw [B5.Bm.ev,B6 hn,Arr,Ao (by omega) (by omega)]
 rfl
theorem Hg {a b:Nat} (ha:a<4294967296) (hb:b<4294967296):a*b≤18446744065119617025 :=
 Asz (Aso (show a≤4294967295 by omega) (show b≤4294967295 by omega)) (by decide)
theorem Ahn (x y:Nat) (hx:x<2^64) (hy:y<2^64) :
 x*y / 18446744073709551616=(x / 2^32)*(y / 2^32)+((x / 2^32)*(y%2^32)+(x%2^32)*(y%2^32) / 2^32) / 2^32 +
  (((x / 2^32)*(y%2^32)+(x%2^32)*(y%2^32) / 2^32)%2^32+(x%2^32)*(y / 2^32)) / 2^32:=by
 have ex:x=x / 2^32*4294967296+x%2^32:=by omega
 have ey:y=y / 2^32*4294967296+y%2^32:=by omega
 have ha:x / 2^32<4294967296:=by omega
 have hc:y / 2^32<4294967296:=by omega
 have hb:x%2^32<4294967296:=by omega
 have hd:y%2^32<4294967296:=by omega
 generalize x / 2^32=a at *
 generalize x%2^32=b at *
 generalize y / 2^32=c at *
 generalize y%2^32=d at *
 have e:x*y=a*c*18446744073709551616+(a*d+b*c)*4294967296+b*d:=by
  rw [ex,ey,Asw,Nat.mul_add,Nat.mul_add]
  have e1:a*4294967296*(c*4294967296)=a*c*18446744073709551616:=by
   rw [Nat.mul_mul_mul_comm]
  have e2:a*4294967296*d=a*d*4294967296:=Nat.mul_right_comm _ _ _
  have e3:b*(c*4294967296)=b*c*4294967296:=(Asi _ _ _).symm
  rw [e1,e2,e3]
  omega
 have b1:=Hg ha hc
 have b2:=Hg ha hd
 have b3:=Hg hb hc
 have b4:=Hg hb hd
 rw [e]
 clear e ex ey
 generalize a*c=p at *
 generalize a*d=q at *
 generalize b*c=r at *
 generalize b*d=s at *
 omega
theorem B5.Fi.known:B5.Fi.Kn:=B5.Fi.Ad .nil fun x y hp=>by
 obtain ⟨h1,h2⟩:=Af.1 hp
 obtain ⟨x,rfl,hx⟩:=Bt h1
 obtain ⟨y,rfl,hy⟩:=Bt h2
 refine ⟨0,B5.Fi.out [.i x,.i y],[],?_,Wk.E5 (.cons .int (.cons .int .nil))⟩
 show _=some (DV.tup [.int .u64 (O6 x y),.int .u64 (Kq x y)])
 have s32:∀ n:Nat,Ct .u64 (n:Int) (32:Int)=((n / 2^32:Nat):Int):=fun n=>F4 .u64 n 32 (by decide)
 have m32:∀ n:Nat,n<2^64→Dq .u64 (n:Int) (4294967295:Int)=((n%2^32:Nat):Int):=fun n hn=>Gt 32 hn (by decide)
 have ha:x / 2^32<4294967296:=by omega
 have hc:y / 2^32<4294967296:=by omega
 have hb:x%2^32<4294967296:=by omega
 have hd:y%2^32<4294967296:=by omega
 have b1:=Hg ha hc
 have b2:=Hg ha hd
 have b3:=Hg hb hc
 have b4:=Hg hb hd
 have hhi:=Ahn x y hx hy
 have wn:∀ n:Nat,n<2^64→Bb (n:Int)=n:=fun n hn=>Cu (by omega) (by omega)
 have hlt:x*y / 18446744073709551616<2^64:=by
  rw [Nat.div_lt_iff_lt_mul (by decide)]
  have:=Aso (show x≤18446744073709551615 by omega) (show y≤18446744073709551615 by omega)
  omega
 rw [B5.Fi.ev]
 simp only [s32,m32 x hx,m32 y hy]
 generalize hA:x / 2^32=a at *
 generalize hB:x%2^32=b at *
 generalize hC:y / 2^32=c at *
 generalize hD:y%2^32=d at *
 simp only [← Asc]
 rw [wn (a*c) (by omega),wn (a*d) (by omega),wn (b*c) (by omega),wn (b*d) (by omega),s32]
 simp only [← Int.natCast_add]
 rw [wn (a*d+b*d / 2^32) (by omega),s32,m32 _ (by omega)]
 simp only [← Int.natCast_add]
 rw [wn (a*c+(a*d+b*d / 2^32) / 2^32) (by omega),wn _ (by omega),s32]
 simp only [← Int.natCast_add]
 rw [← hhi,wn _ hlt]
 unfold O6 Kq
 rw [Art,Art,P7]
 congr 3
theorem times.signed.known:times.signed.Kn:=times.signed.Ad (.cons soft.Ef.known .nil) fun b n hp=>by
 have hp:Aj b=true:=hp
 refine ⟨0,times.signed.out [.i b,.b n],[],?_,.int⟩
 rw [times.signed.ev,hp]
 cases n<;>rfl
theorem times.nan.known:times.nan.Kn:=times.nan.Ad (.cons soft.Kind.known .nil) fun a b hp=>by
 obtain ⟨ha,hb⟩:=Af.1 hp
 refine ⟨0,times.nan.out [.i a,.i b],[],?_,.bool⟩
 rw [times.nan.ev,ha,hb,Arr,Arr]
 show _=some (DV.bool (decide (Ba a=4)||decide (Ba b=4)))
 by_cases h1:Ba a=4
 ·rw [h1]; rfl
 ·have e1:(Ba a==(4:Int))=false:=by simp; exact h1
  rw [e1,Arw h1,Arv]
  by_cases h2:Ba b=4
  ·rw [h2]; rfl
  ·have e2:(Ba b==(4:Int))=false:=by simp; exact h2
   rw [e2,Arw h2]; rfl
theorem Ln {n:Nat} (h:Ar n≠0):(Ar n).log2≤52∧2^52≤Ar n*2^Bv n∧Ar n*2^Bv n<2^53∧Bv n≤52:=by
 have h1:=Er n
 have h2:(Ar n).log2<53:=(As8 h).2 (by omega)
 have hz:=Kc (Ar n) (Bv n) h
 have hne:Ar n*2^Bv n≠0:=Gf h
 have hl:(Ar n*2^Bv n).log2=52:=by rw [hz]; unfold Bv; omega
 refine ⟨by omega,?_,?_,by unfold Bv; omega⟩
 ·rw [← Nat.le_log2 hne]; omega
 ·rw [← As8 hne]; omega
theorem times.norm.known:times.norm.Kn:=times.norm.Ad (.cons B5.Bm.known (.cons soft.Ea.known .nil)) fun b hp=>by
 obtain ⟨h1,h2⟩:=Af.1 hp
 obtain ⟨n,rfl,hn⟩:=Bt h1
 have h2:Ar n≠0:=Al.1 h2
 obtain ⟨l1,l2,l3,l4⟩:=Ln h2
 have hM:=Er n
 have hE:=Dt n
 refine ⟨0,times.norm.out [.i n],[],?_,Wk.E5 (.cons .int (.cons .int .nil))⟩
 show _=some (DV.tup [.int .u64 (Ch n),.int .i64 (Fu n)])
 have e1:Bk (n:Int)=(Ar n:Int):=rfl
 have e2:A7 (n:Int)=Ax n:=rfl
 have e3:Dx (Ar n:Int)=((Ar n).log2:Int)+1:=by
  unfold Dx
  rw [Asd (by omega),Art]
 have e4:Ab ((64-(((Ar n).log2:Int)+1))-(11:Int))=((Bv n:Nat):Int):=by
  rw [Ao (by omega) (by omega)]; unfold Bv; omega
 rw [times.norm.ev,B6 hn,e1,e2,B6 (n:=Ar n) (by omega),e3,e4,D8 _ _ (by omega),Ar4 (by omega),Ao (by omega) (by omega),Ars (by omega)]
 rfl
theorem Ad8 {V t:Nat} {E:Int} (h0:V≠0) (h:V<2^t) (hE:E+t≤-1075):B1 V E=0∧flagsOf V E=3:=by
 have hl:V.log2<t:=(As8 h0).2 h
 have hL:Bx V E=-1074:=by unfold Bx; omega
 obtain ⟨k,hk⟩:∃ k:Nat,(-1074-E).toNat=t+1+k:=⟨(-1074-E).toNat-t-1,by omega⟩
 have hp:2^(t+1)≤2^(t+1+k):=Ar6 (by decide) (by omega)
 have ht:2^(t+1)=2*2^t:=by rw [Nat.pow_succ]; omega
 have e2:(-(-1074-E)).toNat=0:=by omega
 have hr:Ho V (-1074-E)=0:=by
  unfold Ho J8
  rw [e2,hk,Asq,As1,Nat.div_eq_of_lt (by omega),Ar4 (by omega),Asd (by omega)]
 have hru:B1 V E=0:=by
  unfold B1 kept
  rw [Asd h0,hL,hr]
  simp
 refine ⟨hru,?_⟩
 unfold flagsOf exact J1
 rw [Asd h0,hru,hL,e2,hk,Asq,As1,Ar4 (by omega),Arw h0]
 decide
theorem Ae4 (n:Bool) {m:Nat} {e:Int} (r:Bool) (hm:1<m) (he:e < -1130):Ev n (m / 2) (e+1) (r||decide (m%2=1))=Ev n m e r:=by
 have e1:(4*m+r.toNat) / 2^3=m / 2:=by cases r<;>simp<;>omega
 have e2:(r||decide (m%2=1))=decide ((4*m+r.toNat)%2^3≠0):=by
  rw [Ar7]
  cases r
  ·simp; omega
  ·simp; omega
 have:=Qw n (V:=4*m+r.toNat) (k:=3) (E:=e-2) (e:=e+1) (s:=r||decide (m%2=1)) (by omega) e2 (by omega) (.inr (by omega))
 rw [e1] at this
 exact this
theorem Qv (n:Bool) {e:Int} (r:Bool) (he:e < -1130):Ev n 1 e r=Ev n 0 (-1074) true:=by
 have h1:r.toNat≤1:=by cases r<;>decide
 obtain ⟨a1,a2⟩:=Ad8 (V:=4*1+r.toNat) (t:=3) (E:=e-2) (by omega) (by omega) (by omega)
 obtain ⟨b1,b2⟩:=Ad8 (V:=4*0+true.toNat) (t:=1) (E:=-1074-2) (by decide) (by decide) (by decide)
 unfold Ev
 rw [a1,a2,b1,b2]
theorem Ad5 (N:Nat) (n:Bool):∀ (k m:Nat) (e:Int) (r:Bool),1≤m→m<2^62→m≤2^k→-7000≤e→e≤6000→(2^60≤m∨e≤-1130) →
 times.wide.L0 N (k+1) n (m:Int) e r=some (.tup [.int .u64 (((Ev n m e r).1:Nat):Int),.int .u8 (((Ev n m e r).2:Nat):Int)]):=by
 intro k
 induction k with
 | zero =>
   intro m e r h1 h2 h3 h4 h5 h6
   have hm:m=1:=by simp at h3; omega
   subst hm
   rw [times.wide.Au,Av,Av]
   have c1:decide ((1:Int)<((1:Nat):Int))=false:=by decide
   rw [c1,Bool.and_false,Arv]
   by_cases he:e < -1130
   ·have hp:Dk (0:Int) (-1074:Int) true=true:=Al.2 (by omega)
    rw [Ars he,Arr,hp,Arr,Qv n r he]
    rfl
   ·have he:e=-1130:=by omega
    subst he
    have hp:Dk ((1:Nat):Int) (-1130:Int) r=true:=Al.2 (by omega)
    rw [Arw (by omega),Arv,hp,Arr]
    rfl
 | succ k ih =>
   intro m e r h1 h2 h3 h4 h5 h6
   rw [times.wide.Au,Av,Av]
   by_cases he:e < -1130
   ·by_cases hm:1<m
    ·have c1:decide ((1:Int)<(m:Int))=true:=Ars (by omega)
     have e1:Ct .u64 (m:Int) (1:Int)=((m / 2:Nat):Int):=F4 .u64 m 1 (by decide)
     have e2:Dq .u64 (m:Int) (1:Int)=((m%2:Nat):Int):=Gt (a:=m) 1 (by omega) (by decide)
     have e3:(bif r then true else (Dq .u64 (m:Int) (1:Int))==(1:Int))=(r||decide (m%2=1)):=by
      rw [e2]
      cases r
      ·rw [Ar7]; simp; omega
      ·rfl
     rw [Ars he,c1,Arx,Arr,e1,e3,Ao (by omega) (by omega)]
     have hk:m / 2≤2^k:=by rw [Nat.pow_succ] at h3; omega
     rw [ih (m / 2) (e+1) _ (by omega) (by omega) hk (by omega) (by omega) (.inr (by omega)),Ae4 n r hm he]
    ·have hm:m=1:=by omega
     subst hm
     have c1:decide ((1:Int)<((1:Nat):Int))=false:=by decide
     have hp:Dk (0:Int) (-1074:Int) true=true:=Al.2 (by omega)
     rw [c1,Bool.and_false,Arv,Ars he,Arr,hp,Arr,Qv n r he]
     rfl
   ·have hp:Dk (m:Int) e r=true:=Al.2 ⟨by omega,by omega,by omega,.inl (by omega),fun _=>by omega⟩
    rw [Arw he,Bool.false_and,Arv,Arv,hp,Arr]
    rfl
theorem times.wide.known:times.wide.Kn:=times.wide.Ad (.cons soft.Cq.known .nil) fun n m e r hp=>by
 obtain ⟨h1,h2,h3,h4⟩:=Al.1 (show Lw m e=true from hp)
 obtain ⟨m,rfl⟩:∃ k:Nat,m=k:=⟨m.toNat,by omega⟩
 refine ⟨63,times.wide.out [.b n,.i m,.i e,.b r],[],?_,Wk.E5 (.cons .int (.cons .int .nil))⟩
 rw [times.wide.ev,Ad5 63 n 62 m e r (by omega) (by omega) (by omega) (by omega) (by omega) (.inl (by omega))]
 rfl
namespace EqRefD
def A0.Neg.Bh:List (Nat × Entry):=[]
def A0.Neg.E:Env:=Bi (Bg A0.Neg.Bh) (fun _=>false) (fun _=>none) (fun _=>none)
theorem A0.Neg.ev (N:Nat) (x:Int):Bw A0.Neg.E N f39 (Aq f39) [.int .u64 x]=some (.bool ((Bb (Int.tdiv x 9223372036854775808))==(1:Int))):=by kernel_rfl
abbrev _root_.Go.Proofs.S1.A0.Neg.Kn:=A6 prog 39 A0.Neg.spec
theorem A0.Neg.Ad (hk:Ay prog A0.Neg.Bh) (h:Hyp A0.Neg.E f39 A0.Neg.ts A0.Neg.pre A0.Neg.out):A0.Neg.Kn :=
 Am (A2 hk _ _ _) func39 (by kernel_rfl) (by kernel_rfl) h
def A0.Power.Bh:List (Nat × Entry):=[]
def A0.Power.E:Env:=Bi (Bg A0.Power.Bh) (fun _=>false) (fun _=>none) (fun _=>none)
theorem A0.Power.ev (N:Nat) (x:Int):Bw A0.Power.E N f36 (Aq f36) [.int .u64 x]=some (.int .i64 (Ab (Bb (Int.tdiv (Int.tmod x 9223372036854775808) 4503599627370496)))):=by kernel_rfl
abbrev _root_.Go.Proofs.S1.A0.Power.Kn:=A6 prog 36 A0.Power.spec
theorem A0.Power.Ad (hk:Ay prog A0.Power.Bh) (h:Hyp A0.Power.E f36 A0.Power.ts A0.Power.pre A0.Power.out):A0.Power.Kn :=
 Am (A2 hk _ _ _) func36 (by kernel_rfl) (by kernel_rfl) h
def A0.Hy.Bh:List (Nat × Entry):=[]
def A0.Hy.E:Env:=Bi (Bg A0.Hy.Bh) (fun _=>false) (fun _=>none) (fun _=>none)
theorem A0.Hy.ev (N:Nat) (x:Int):Bw A0.Hy.E N f37 (Aq f37) [.int .u64 x]=some (.int .u64 (Int.tmod x 4503599627370496)):=by kernel_rfl
abbrev _root_.Go.Proofs.S1.A0.Hy.Kn:=A6 prog 37 A0.Hy.spec
theorem A0.Hy.Ad (hk:Ay prog A0.Hy.Bh) (h:Hyp A0.Hy.E f37 A0.Hy.ts A0.Hy.pre A0.Hy.out):A0.Hy.Kn :=
 Am (A2 hk _ _ _) func37 (by kernel_rfl) (by kernel_rfl) h
def A0.Kind.Bh:List (Nat × Entry):=[(37,A0.Hy.spec),(36,A0.Power.spec)]
def A0.Kind.E:Env:=Bi (Bg A0.Kind.Bh) (fun _=>false) (fun _=>none) (fun _=>none)
theorem A0.Kind.ev (N:Nat) (x:Int):Bw A0.Kind.E N f15 (Aq f15) [.int .u64 x]=bif (L9 x) then bif ((Ja x)==(2047:Int)) then bif (L9 x) then bif ((Cg x)==(0:Int)) then some (.int .i64 3) else some (.int .i64 4) else none else bif (L9 x) then bif (A3 0 (Ja x)) then some (.int .i64 2) else bif (L9 x) then bif (A3 0 (Cg x)) then some (.int .i64 1) else some (.int .i64 0) else none else none else none:=by kernel_rfl
abbrev _root_.Go.Proofs.S1.A0.Kind.Kn:=A6 prog 15 A0.Kind.spec
theorem A0.Kind.Ad (hk:Ay prog A0.Kind.Bh) (h:Hyp A0.Kind.E f15 A0.Kind.ts A0.Kind.pre A0.Kind.out):A0.Kind.Kn :=
 Am (A2 hk _ _ _) func15 (by kernel_rfl) (by kernel_rfl) h
def A0.Finite.Bh:List (Nat × Entry):=[(36,A0.Power.spec)]
def A0.Finite.E:Env:=Bi (Bg A0.Finite.Bh) (fun _=>false) (fun _=>none) (fun _=>none)
theorem A0.Finite.ev (N:Nat) (x:Int):Bw A0.Finite.E N f38 (Aq f38) [.int .u64 x]=bif (L9 x) then some (.bool (A3 (Ja x) 2047)) else none:=by kernel_rfl
abbrev _root_.Go.Proofs.S1.A0.Finite.Kn:=A6 prog 38 A0.Finite.spec
theorem A0.Finite.Ad (hk:Ay prog A0.Finite.Bh) (h:Hyp A0.Finite.E f38 A0.Finite.ts A0.Finite.pre A0.Finite.out):A0.Finite.Kn :=
 Am (A2 hk _ _ _) func38 (by kernel_rfl) (by kernel_rfl) h
def Dj.Canon.Bh:List (Nat × Entry):=[(15,A0.Kind.spec)]
def Dj.Canon.E:Env:=Bi (Bg Dj.Canon.Bh) (fun _=>false) (fun _=>none) (fun _=>none)
theorem Dj.Canon.ev (N:Nat) (x:Int):Bw Dj.Canon.E N f46 (Aq f46) [.int .u64 x]=bif (L9 x) then bif ((Ba x)==(4:Int)) then some (.int .u64 9221120237041090560) else some (.int .u64 x) else none:=by kernel_rfl
abbrev _root_.Go.Proofs.S1.Dj.Canon.Kn:=A6 prog 46 Dj.Canon.spec
theorem Dj.Canon.Ad (hk:Ay prog Dj.Canon.Bh) (h:Hyp Dj.Canon.E f46 Dj.Canon.ts Dj.Canon.pre Dj.Canon.out):Dj.Canon.Kn :=
 Am (A2 hk _ _ _) func46 (by kernel_rfl) (by kernel_rfl) h
abbrev _root_.Go.Proofs.S1.Dj.Canon.nb.Kn:Prop:=A6 prog 46 Dj.Canon.nb.spec
end EqRefD
open EqRefD
theorem Hm (n m:Nat):Int.tdiv (n:Int) (m:Int)=((n / m:Nat):Int):=rfl
theorem Hl (n m:Nat):Int.tmod (n:Int) (m:Int)=((n%m:Nat):Int):=rfl
theorem Al3:(9223372036854775808:Int)=((2^63:Nat):Int):=rfl
theorem Al4:(4503599627370496:Int)=((2^52:Nat):Int):=rfl
theorem A0.Neg.known:A0.Neg.Kn:=A0.Neg.Ad .nil fun x hp=>by
 obtain ⟨n,rfl,hn⟩:=Bt (x:=x) hp
 refine ⟨0,A0.Neg.out [.i n],[],?_,.bool⟩
 rw [A0.Neg.ev,Al3,Hm,Cu (by omega) (by omega)]
 show _=some (DV.bool (C9 n))
 unfold C9 Bu
 rw [Art]
 congr 2
 rw [Ar7]
 simp only [beq_iff_eq,Ary]
 omega
theorem A0.Power.known:A0.Power.Kn:=A0.Power.Ad .nil fun x hp=>by
 obtain ⟨n,rfl⟩:=Qx (x:=x) hp
 refine ⟨0,A0.Power.out [.i n],[],?_,.int⟩
 rw [A0.Power.ev,Al3,Al4,Hl,Hm,Cu (by omega) (by omega),Ao (by omega) (by omega)]
 show _=some (DV.int .i64 (Ja n))
 unfold Ja C8
 rw [Art]
 congr 2
 have:n%2^63 / 2^52=n / 2^52%2048:=by omega
 rw [this]
theorem A0.Hy.known:A0.Hy.Kn:=A0.Hy.Ad .nil fun x hp=>by
 obtain ⟨n,rfl⟩:=Qx (x:=x) hp
 refine ⟨0,A0.Hy.out [.i n],[],?_,.int⟩
 rw [A0.Hy.ev,Al4,Hl]
 rfl
theorem A0.Kind.known:A0.Kind.Kn:=A0.Kind.Ad (.cons A0.Hy.known (.cons A0.Power.known .nil)) fun x hp=>by
 obtain ⟨n,rfl⟩:=Qx (x:=x) hp
 refine ⟨0,A0.Kind.out [.i n],[],?_,.int⟩
 rw [A0.Kind.ev,Kb]
 show _=some (DV.int .i64 (Ba n))
 unfold Ba Ag Ja Cg
 simp only [Art,Arr,Av]
 have:=G6 n
 by_cases h1:C8 n=2047
 ·by_cases h2:Co n=0
  ·simp [h1,h2]
  ·have:((Co n:Int)==0)=false:=by simp; exact h2
   simp [h1,this,h2]
 ·have h1':((C8 n:Int)==2047)=false:=by simp; omega
  rw [h1']
  by_cases h3:0<C8 n
  ·simp [h1,h3]
  ·by_cases h4:0<Co n
   ·simp [h1,h3,h4]
   ·simp [h1,h3,h4]
theorem A0.Finite.known:A0.Finite.Kn:=A0.Finite.Ad (.cons A0.Power.known .nil) fun x hp=>by
 obtain ⟨n,rfl,hn⟩:=Bt (x:=x) hp
 refine ⟨0,A0.Finite.out [.i n],[],?_,.bool⟩
 rw [A0.Finite.ev,Kb,Arr,Av]
 show _=some (DV.bool (Da n))
 unfold Da Ii Ja
 rw [Art]
 have:decide ((C8 n:Int)<2047)=decide (C8 n<2047):=decide_eq_decide.2 (by omega)
 rw [this]
theorem Dj.Canon.known:Dj.Canon.Kn:=Dj.Canon.Ad (.cons A0.Kind.known .nil) fun x hp=>by
 obtain ⟨n,rfl⟩:=Qx (x:=x) hp
 refine ⟨0,Dj.Canon.out [.i n],[],?_,.int⟩
 rw [Dj.Canon.ev,Kb,Arr]
 show _=some (DV.int .u64 (Vi n))
 unfold Vi E2 Ba
 rw [Art]
 by_cases h:Ag n=4
 ·have:((Ag n:Int)==4)=true:=by simp; omega
  rw [this,Ase h]; rfl
 ·have:((Ag n:Int)==4)=false:=by simp; omega
  rw [this,Asd h]; rfl
theorem Afm {n m:Nat} (h:Mv n m):E2 n=E2 m:=by
 rcases h with rfl | ⟨h1,h2⟩
 ·rfl
 ·unfold Ec at h1 h2
  rw [Uh n] at h1
  rw [Uh m] at h2
  unfold E2
  rw [Ase (Ash h1),Ase (Ash h2)]
theorem Akc {c:Ctx} {w:World} {d:DV} {vs:List Value} (h:A5 c w [d] vs):∃ v,vs=[v]∧Ak c w d v:=by
 simp only [A5] at h
 obtain ⟨u,us,rfl,hv,rfl⟩:=h
 exact ⟨u,rfl,hv⟩
theorem Dj.Canon.Ahi:Dj.Canon.nb.Kn:=by
 refine ⟨fun args ha=>?_,Dj.Canon.known.call⟩
 unfold Dj.Canon.nb.spec entry at ha ⊢
 simp only at ha ⊢
 cases hd:Jt [.nb] args with
 | none=>rw [hd] at ha; cases ha
 | some bs =>
   rw [hd] at ha
   obtain ⟨ds,h1,h2⟩:=Js hd
   obtain ⟨x,_,_,rfl,rfl,he⟩:=h1.Anb
   obtain ⟨rfl,rfl⟩:=he.X0
   refine La.args (args:=[.nb x]) ?_ h2
   intro w vals I hI hl
   obtain ⟨v,hv,hr⟩:=Akc hl
   simp only [Ak] at hr
   obtain ⟨m,rfl,hm⟩:=hr
   have e:Dj.Canon.nb.out [.f x]=Dj.Canon.spec.out [.int .u64 (m:Int)]:=by
    show DV.int .u64 (Kw x)=DV.int .u64 (Vi (m:Int))
    unfold Kw Vi
    rw [Art,Afm hm]
   show Calls _ _ _ _ fun e' w'=>∃ v own,e'=.returned v∧Go.RowKit.Below w.heap.size w w'∧Ad3 own w w'∧Ak (C2 I own w w') w' (Dj.Canon.nb.out [.f x]) v
   rw [e]
   exact Dj.Canon.known.meets [.int .u64 (m:Int)] (Kb m) w vals I hI (by rw [hv]; exact ⟨_,_,rfl,rfl,rfl⟩)
open EqTimes
theorem Lh {b:Nat} (h0:Ag b≠0) (h3:Ag b≠3) (h4:Ag b≠4):Ar b≠0:=by
 have:=G6 b
 unfold Ag at h0 h3 h4
 unfold Ar
 by_cases h1:C8 b=2047
 ·rw [Ase h1] at h3 h4
  by_cases h2:Co b=0
  ·rw [Ase h2] at h3; exact absurd rfl h3
  ·rw [Asd h2] at h4; exact absurd rfl h4
 ·rw [Asd h1] at h0
  by_cases h2:0<C8 b
  ·rw [Asd (by omega)]; omega
  ·rw [Asd h2] at h0
   by_cases h5:0<Co b
   ·rw [Ase (by omega)]; omega
   ·rw [Asd h5] at h0; exact absurd rfl h0
theorem Rt {b:Nat} (h0:Ag b=0):Ar b=0:=by
 unfold Ag at h0
 unfold Ar
 by_cases h1:C8 b=2047
 ·rw [Ase h1] at h0; split at h0<;>omega
 ·rw [Asd h1] at h0
  by_cases h2:0<C8 b
  ·rw [Ase h2] at h0; omega
  ·rw [Asd h2] at h0
   by_cases h5:0<Co b
   ·rw [Ase h5] at h0; omega
   ·rw [Ase (by omega)]; omega
theorem Ab1 {x y:Nat} (hx1:2^52≤x) (hx2:x<2^53) (hy1:2^52≤y) (hy2:y<2^53):2^104≤x*y∧x*y<2^106:=by
 have h1:=Aso hx1 hy1
 have h2:x*y<2^53*2^53:=Nat.mul_lt_mul'' hx2 hy2
 exact ⟨Asz (by decide) h1,As3 h2 (by decide)⟩
theorem Aj9 {V:Nat} (h:V<2^106):F9 .u64 (Bq .u64 ((V / 18446744073709551616:Nat):Int) (20:Int)) (Ct .u64 ((V%18446744073709551616:Nat):Int) (44:Int))=((V / 2^44:Nat):Int):=by
 have e1:Bq .u64 ((V / 18446744073709551616:Nat):Int) (20:Int)=((V / 18446744073709551616*2^20%2^64:Nat):Int):=D8 _ 20 (by decide)
 have e2:Ct .u64 ((V%18446744073709551616:Nat):Int) (44:Int)=((V%18446744073709551616 / 2^44:Nat):Int):=F4 .u64 _ 44 (by decide)
 rw [e1,e2,Ar4 (by omega),Kg (k:=20) (by omega) (by omega)]
 congr 1
 omega
theorem Aj8 {V:Nat}:((Bq .u64 ((V%18446744073709551616:Nat):Int) (20:Int)) !=(0:Int))=decide (V%2^44≠0):=by
 have e1:Bq .u64 ((V%18446744073709551616:Nat):Int) (20:Int)=((V%18446744073709551616*2^20%2^64:Nat):Int):=D8 _ 20 (by decide)
 rw [e1,Ar7]
 simp only [bne_iff_ne,ne_eq,Ary]
 omega
theorem Xy (s t:Bool):(!(s==t))=(s !=t):=rfl
theorem w53 {x:Nat} (h:x<2^53):Aj (x:Int)=true:=B6 (by omega)
theorem Akj (n:Bool) {a b:Nat} (ha:Ar a≠0) (hb:Ar b≠0) :
 (bif (Aj (Ch a)&&Aj (Ch b)) then
  bif (Lw (F9 .u64 (Bq .u64 (O6 (Ch a) (Ch b)) (20:Int)) (Ct .u64 (Kq (Ch a) (Ch b)) (44:Int))) (Ab ((Ab ((Fu a)+(Fu b)))+(44:Int)))) then
   some (DV.tup [.int .u64 (Dw n (F9 .u64 (Bq .u64 (O6 (Ch a) (Ch b)) (20:Int)) (Ct .u64 (Kq (Ch a) (Ch b)) (44:Int))) (Ab ((Ab ((Fu a)+(Fu b)))+(44:Int))) ((Bq .u64 (Kq (Ch a) (Ch b)) (20:Int)) !=(0:Int))),.int .u8 (Dv n (F9 .u64 (Bq .u64 (O6 (Ch a) (Ch b)) (20:Int)) (Ct .u64 (Kq (Ch a) (Ch b)) (44:Int))) (Ab ((Ab ((Fu a)+(Fu b)))+(44:Int))) ((Bq .u64 (Kq (Ch a) (Ch b)) (20:Int)) !=(0:Int)))])
  else none
 else none)=some (.tup [.int .u64 ((Be n (B1 (Ar a*Ar b) (Ax a+Ax b)):Nat):Int),.int .u8 ((flagsOf (Ar a*Ar b) (Ax a+Ax b):Nat):Int)]):=by
 obtain ⟨a1,a2,a3,a4⟩:=Ln ha
 obtain ⟨b1,b2,b3,b4⟩:=Ln hb
 have ea:=Dt a
 have eb:=Dt b
 have ma:Ch (a:Int)=((Ar a*2^Bv a:Nat):Int):=rfl
 have mb:Ch (b:Int)=((Ar b*2^Bv b:Nat):Int):=rfl
 have na:Fu (a:Int)=Ax a-Bv a:=rfl
 have nb:Fu (b:Int)=Ax b-Bv b:=rfl
 have hi:O6 (Ch a) (Ch b)=((Ar a*2^Bv a*(Ar b*2^Bv b) / 18446744073709551616:Nat):Int):=rfl
 have lo:Kq (Ch a) (Ch b)=((Ar a*2^Bv a*(Ar b*2^Bv b)%18446744073709551616:Nat):Int):=rfl
 rw [hi,lo,ma,mb,na,nb,w53 a3,w53 b3,Arx,Arr]
 obtain ⟨v1,v2⟩:=Ab1 a2 a3 b2 b3
 have ev:Ar a*2^Bv a*(Ar b*2^Bv b)=Ar a*Ar b*2^(Bv a+Bv b):=by
  rw [Nat.mul_mul_mul_comm,← Asg]
 obtain ⟨s1,s2⟩:=Di (Ar a*Ar b) (Bv a+Bv b) (Ax a+Ax b)
 rw [← ev] at s1 s2
 generalize Ar a*2^Bv a*(Ar b*2^Bv b)=V at *
 rw [Aj9 v2,Aj8,Ao (x:=_+_) (by rw [Ao (by omega) (by omega)]; omega) (by rw [Ao (by omega) (by omega)]; omega),Ao (by omega) (by omega)]
 have hw:Lw ((V / 2^44:Nat):Int) (Ax a-Bv a+(Ax b-Bv b)+44)=true:=Al.2 ⟨by omega,by omega,by omega,by omega⟩
 rw [hw,Arr]
 unfold Dw Dv
 rw [Art,Qw n (V:=V) (k:=44) (E:=Ax a+Ax b-((Bv a+Bv b:Nat):Int)) (e:=Ax a-Bv a+(Ax b-Bv b)+44) (s:=decide (V%2^44≠0)) (by omega) rfl (by omega) (.inl (by omega)),s1,s2]
theorem kq (b k:Nat):(((Ag b:Nat):Int)==((k:Nat):Int))=decide (Ag b=k):=by
 rw [Ar7]; simp only [beq_iff_eq,Ary]; omega
theorem Wb (n:Bool) {r:Nat} (h:r<2^63):O2 n (r:Int)=((Be n r:Nat):Int):=by
 unfold O2 Be Dc
 cases n
 ·rfl
 ·simp only [if_true]
  rw [Art,Un h]
theorem Aad (n:Bool):O2 n (9218868437227405312:Int)=((Be n Dy:Nat):Int):=Wb n (r:=Dy) (by decide)
theorem V3 (n:Bool):O2 n (0:Int)=((Be n 0:Nat):Int):=Wb n (r:=0) (by decide)
theorem Om (b:Nat):Ba (b:Int)=((Ag b:Nat):Int):=rfl
theorem Adl (a b:Nat):Ahk (a:Int) (b:Int)=(decide (Ag a=4)||decide (Ag b=4)):=by
 unfold Ahk Ba
 simp only [Art]
 rw [Ar7]
 simp only [Bool.or_eq_true,Ary]
 omega
theorem k3 (b:Nat):(((Ag b:Nat):Int)==(3:Int))=decide (Ag b=3):=kq b 3
theorem k0 (b:Nat):(((Ag b:Nat):Int)==(0:Int))=decide (Ag b=0):=kq b 0
theorem times.Mul.known:times.Mul.Kn:=times.Mul.Ad (.cons B5.Fi.known (.cons soft.Kind.known (.cons soft.Sign.known (.cons times.nan.known (.cons times.norm.known (.cons times.signed.known (.cons times.wide.known .nil))))))) fun a b hp=>by
 obtain ⟨ha,hb⟩:=Af.1 hp
 obtain ⟨a,rfl,hn⟩:=Bt ha
 obtain ⟨b,rfl,hm⟩:=Bt hb
 refine ⟨0,times.Mul.out [.i a,.i b],[],?_,Wk.E5 (.cons .int (.cons .int .nil))⟩
 have i1:Aj (9218868437227405312:Int)=true:=B6 (n:=9218868437227405312) (by decide)
 have i2:Aj (0:Int)=true:=B6 (n:=0) (by decide)
 rw [times.Mul.ev,ha,hb,Adl,Om,Om,k3,k3,k0,k0,i1,i2,Aad,V3,Xy]
 show _=some (DV.tup [.int .u64 (((K3 a b).1:Nat):Int),.int .u8 (((K3 a b).2:Nat):Int)])
 have ea:C9 (a:Int)=Bu a:=rfl
 have eb:C9 (b:Int)=Bu b:=rfl
 rw [ea,eb]
 unfold K3
 simp only [Arx,Arr]
 by_cases h4:Ag a=4∨Ag b=4
 ·have c4:(decide (Ag a=4)||decide (Ag b=4))=true:=by simp; exact h4
  rw [Ase h4,c4,Arr]; rfl
 ·have c4:(decide (Ag a=4)||decide (Ag b=4))=false:=by simp; omega
  rw [Asd h4,c4,Arv]
  by_cases h3:Ag a=3∨Ag b=3
  ·rw [Ase h3]
   by_cases h0:Ag a=0∨Ag b=0
   ·have c0:(decide (Ag a=3)&&decide (Ag b=0)||decide (Ag a=0)&&decide (Ag b=3))=true:=by simp; omega
    rw [Ase h0,c0,Arr]; rfl
   ·have c0:(decide (Ag a=3)&&decide (Ag b=0)||decide (Ag a=0)&&decide (Ag b=3))=false:=by simp; omega
    have c3:(decide (Ag a=3)||decide (Ag b=3))=true:=by simp; omega
    rw [Asd h0,c0,Arv,c3,Arr]; rfl
  ·have c0:(decide (Ag a=3)&&decide (Ag b=0)||decide (Ag a=0)&&decide (Ag b=3))=false:=by simp; omega
   have c3:(decide (Ag a=3)||decide (Ag b=3))=false:=by simp; omega
   rw [Asd h3,c0,Arv,c3,Arv]
   by_cases h0:Ag a=0∨Ag b=0
   ·have c5:(decide (Ag a=0)||decide (Ag b=0))=true:=by simp; exact h0
    have hz:Ar a*Ar b=0:=by
     rcases h0 with h | h
     ·rw [Rt h,Nat.zero_mul]
     ·rw [Rt h,Nat.mul_zero]
    rw [c5,Arr,hz,We,Md]; rfl
   ·have c5:(decide (Ag a=0)||decide (Ag b=0))=false:=by simp; omega
    have pa:=Lh (b:=a) (by omega) (by omega) (by omega)
    have pb:=Lh (b:=b) (by omega) (by omega) (by omega)
    have na:Jm (a:Int)=true:=Al.2 pa
    have nb:Jm (b:Int)=true:=Al.2 pb
    rw [c5,Arv,na,nb,Arx,Arr,Arr]
    exact Akj _ pa pb
theorem Aiu (N:Nat) {a b:Nat} {X Y:Nat} (hY:0<Y) (hY2:Y<2^53) (hX:X<2*Y) (em:Ch (b:Int)=(Y:Int)):∀ (k i:Nat),k+i=61 →
 times.Div.L0 N (k+1) a b ((X*2^i / Y:Nat):Int) ((X*2^i%Y:Nat):Int) (i:Int) =
  times.Div.L0 N 1 a b ((X*2^61 / Y:Nat):Int) ((X*2^61%Y:Nat):Int) (61:Int):=by
 intro k
 induction k with
 | zero =>
   intro i hi
   have:i=61:=by omega
   subst this
   rfl
 | succ k ih =>
   intro i hi
   have hq:X*2^i / Y<2^62:=by
    rw [Nat.div_lt_iff_lt_mul hY]
    have h1:X*2^i<2*Y*2^i:=(Nat.mul_lt_mul_right (By i)).2 hX
    have h2:2*2^i≤2^62:=by
     rw [Asf,← Nat.pow_succ]; exact Ar6 (by decide) (by omega)
    have h3:2*2^i*Y≤2^62*Y:=Ar3 _ h2
    rw [Nat.mul_right_comm] at h1
    omega
   have hr:X*2^i%Y<Y:=Nat.mod_lt _ hY
   have hd:=Nat.div_add_mod (X*2^i) Y
   have e2:X*2^(i+1)=X*2^i*2:=by rw [Nat.pow_succ,Asi]
   rw [times.Div.Au,Av,Ee,em,Ars (by omega),Arr]
   have s1:Bq .u64 ((X*2^i%Y:Nat):Int) (1:Int)=((X*2^i%Y*2:Nat):Int):=by
    have:=D8 (X*2^i%Y) 1 (by decide)
    rw [Ar4 (a:=X*2^i%Y*2^1) (by omega)] at this
    exact this
   have s2:Bq .u64 ((X*2^i / Y:Nat):Int) (1:Int)=((X*2^i / Y*2^1:Nat):Int):=by
    have:=D8 (X*2^i / Y) 1 (by decide)
    rw [Ar4 (a:=X*2^i / Y*2^1) (by omega)] at this
    exact this
   have s3:F9 .u64 ((X*2^i / Y*2^1:Nat):Int) (1:Int)=((X*2^i / Y*2^1+1:Nat):Int):=Kg (k:=1) (b:=1) (by decide) (by omega)
   have ei:Ab ((i:Int)+1)=((i+1:Nat):Int):=by rw [Ao (by omega) (by omega)]; rfl
   rw [s1,s2,s3,ei]
   generalize hq':X*2^i / Y=q at *
   generalize hr':X*2^i%Y=r at *
   have step:∀ c,X*2^i*2=Y*(2*q+c)+(2*r-c*Y)→c*Y≤2*r→2*r<c*Y+Y→X*2^(i+1) / Y=2*q+c∧X*2^(i+1)%Y=2*r-c*Y:=fun c h1 h2 h3=>by
    rw [e2,h1]
    constructor
    ·rw [Nat.mul_add_div hY,Nat.div_eq_of_lt (by omega)]; omega
    ·rw [Nat.mul_add_mod,Ar4 (by omega)]
   by_cases hc:Y≤r*2
   ·obtain ⟨t1,t2⟩:=step 1 (by rw [Nat.mul_add,As1,Nat.mul_left_comm]; omega) (by omega) (by omega)
    have:=ih (i+1) (by omega)
    rw [t1,t2] at this
    rw [Ars (by omega),Arr,Cu (by omega) (by omega)]
    have e3:((r*2:Nat):Int)-(Y:Int)=((2*r-1*Y:Nat):Int):=by omega
    have e4:q*2^1+1=2*q+1:=by omega
    rw [e3,e4]
    exact this
   ·obtain ⟨t1,t2⟩:=step 0 (by rw [As0,Nat.mul_left_comm]; omega) (by omega) (by omega)
    have:=ih (i+1) (by omega)
    rw [t1,t2] at this
    rw [Arw (by omega),Arv]
    have e3:r*2=2*r-0*Y:=by omega
    have e4:q*2^1=2*q+0:=by omega
    rw [e3,e4]
    exact this
theorem Ak6 {a b:Nat} (ha:Ar a≠0) (hb:Ar b≠0) :
 times.Div.L0 62 62 a b (Bb (Int.tdiv (Ch a) (Ch b))) (Int.tmod (Ch a) (Ch b)) (0:Int) =
  some (.tup [.int .u64 ((Be (Bu a !=Bu b) (B1 (E4 (Ar a) (Ar b) 120) (Ax a-Ax b-121)):Nat):Int),.int .u8 ((flagsOf (E4 (Ar a) (Ar b) 120) (Ax a-Ax b-121):Nat):Int)]):=by
 obtain ⟨a1,a2,a3,a4⟩:=Ln ha
 obtain ⟨b1,b2,b3,b4⟩:=Ln hb
 have ea:=Dt a
 have eb:=Dt b
 have ma:Ch (a:Int)=((Ar a*2^Bv a:Nat):Int):=rfl
 have mb:Ch (b:Int)=((Ar b*2^Bv b:Nat):Int):=rfl
 have na:Fu (a:Int)=Ax a-Bv a:=rfl
 have nb:Fu (b:Int)=Ax b-Bv b:=rfl
 have sL:=Abg (Ar a) (Ar b*2^Bv b) (Bv a) 61
 have hpos:0<Ar b*2^Bv b:=by omega
 have hq1:2^53≤Ar a*2^Bv a*2^61 / (Ar b*2^Bv b):=by
  rw [Nat.le_div_iff_mul_le hpos]; omega
 have hqq:2^60≤Ar a*2^Bv a*2^61 / (Ar b*2^Bv b):=by
  rw [Nat.le_div_iff_mul_le hpos]; omega
 have hq2:Ar a*2^Bv a*2^61 / (Ar b*2^Bv b)<2^62:=by
  rw [Nat.div_lt_iff_lt_mul hpos]; omega
 have hstick:E4 (Ar a*2^Bv a) (Ar b*2^Bv b) 61=E4 (Ar a) (Ar b) (61+Bv a-Bv b):=by
  rw [sL]
  have:61+Bv a=61+Bv a-Bv b+Bv b:=by omega
  conv=>lhs; rw [this]
  rw [Y7]
 have hge1:2^53≤Ar a*2^(61+Bv a-Bv b) / Ar b:=by
  have e1:Ar a*2^Bv a*2^61=Ar a*2^(61+Bv a-Bv b)*2^Bv b:=by
   rw [Asi,← Asg,Asi,← Asg]
   congr 2
   omega
  rw [e1,Nat.mul_div_mul_right _ _ (By _)] at hq1
  exact hq1
 have hge2:2^53≤Ar a*2^120 / Ar b:=Am3 (t:=53) (by omega) (by omega) (by have:=Er b; omega) (by omega)
 obtain ⟨s1,s2⟩:=Abf (X:=Ar a) (Y:=Ar b) (K:=61+Bv a-Bv b) (L:=120) (E:=Ax a-Bv a-(Ax b-Bv b)-61-1) (F:=Ax a-Ax b-121) (by omega) hge1 hge2 (by omega)
 have d1:Bb (Int.tdiv (Ch a) (Ch b))=((Ar a*2^Bv a*2^0 / (Ar b*2^Bv b):Nat):Int):=by
  rw [ma,mb,Hm,Asq,As1]
  have h1:=Nat.div_le_self (Ar a*2^Bv a) (Ar b*2^Bv b)
  have h2:Ar a*2^Bv a / (Ar b*2^Bv b)<2^64:=Asu h1 (Nat.lt_trans a3 (by decide))
  generalize Ar a*2^Bv a / (Ar b*2^Bv b)=q at h2 ⊢
  exact Cu (Int.natCast_nonneg q) (by omega)
 have d2:Int.tmod (Ch a) (Ch b)=((Ar a*2^Bv a*2^0%(Ar b*2^Bv b):Nat):Int):=by
  rw [ma,mb,Hl,Asq,As1]
 rw [d1,d2]
 have lp:=Aiu 62 (a:=a) (b:=b) hpos b3 (X:=Ar a*2^Bv a) (by omega) mb 61 0 (by omega)
 refine lp.trans ?_
 rw [times.Div.Au,Av,na,nb,Arw (by omega),Arv]
 have we:Ab (Ab (Ax a-Bv a-(Ax b-Bv b))-61)=Ax a-Bv a-(Ax b-Bv b)-61:=by
  rw [Ao (x:=Ax a-Bv a-(Ax b-Bv b)) (by omega) (by omega),Ao (by omega) (by omega)]
 have hne:(((Ar a*2^Bv a*2^61%(Ar b*2^Bv b):Nat):Int) !=(0:Int))=decide (Ar a*2^Bv a*2^61%(Ar b*2^Bv b)≠0):=by
  rw [Ar7]; simp only [bne_iff_ne,ne_eq,Ary]; omega
 rw [we,hne]
 have hw:Lw ((Ar a*2^Bv a*2^61 / (Ar b*2^Bv b):Nat):Int) (Ax a-Bv a-(Ax b-Bv b)-61)=true:=Al.2 ⟨by omega,by omega,by omega,by omega⟩
 have hn:C9 (a:Int)=Bu a:=rfl
 have hn':C9 (b:Int)=Bu b:=rfl
 rw [hw,Arr,Xy,hn,hn']
 unfold Dw Dv
 rw [Art,Ae6 _ rfl rfl hq1,hstick,s1,s2]
theorem times.Div.known:times.Div.Kn:=times.Div.Ad (.cons soft.Kind.known (.cons soft.Sign.known (.cons times.nan.known (.cons times.norm.known (.cons times.signed.known (.cons times.wide.known .nil)))))) fun a b hp=>by
 obtain ⟨ha,hb⟩:=Af.1 hp
 obtain ⟨a,rfl,hn⟩:=Bt ha
 obtain ⟨b,rfl,hm⟩:=Bt hb
 refine ⟨62,times.Div.out [.i a,.i b],[],?_,Wk.E5 (.cons .int (.cons .int .nil))⟩
 have i1:Aj (9218868437227405312:Int)=true:=B6 (n:=9218868437227405312) (by decide)
 have i2:Aj (0:Int)=true:=B6 (n:=0) (by decide)
 rw [times.Div.ev,ha,hb,Adl,Om,Om,k3,k3,k0,k0,i1,i2,Aad,V3,Xy]
 show _=some (DV.tup [.int .u64 (((Aci a b).1:Nat):Int),.int .u8 (((Aci a b).2:Nat):Int)])
 have ea:C9 (a:Int)=Bu a:=rfl
 have eb:C9 (b:Int)=Bu b:=rfl
 rw [ea,eb]
 unfold Aci
 rw [Arx,Arr,Arr,Arr,Arr,Arr]
 by_cases h4:Ag a=4∨Ag b=4
 ·have c4:(decide (Ag a=4)||decide (Ag b=4))=true:=by simp; exact h4
  rw [Ase h4,c4,Arr]; rfl
 ·have c4:(decide (Ag a=4)||decide (Ag b=4))=false:=by simp; omega
  rw [Asd h4,c4,Arv]
  by_cases h1:Ag a=Ag b∧(Ag a=3∨Ag a=0)
  ·have c1:(decide (Ag a=3)&&decide (Ag b=3)||decide (Ag a=0)&&decide (Ag b=0))=true:=by simp; omega
   rw [Ase h1,c1,Arr]; rfl
  ·have c1:(decide (Ag a=3)&&decide (Ag b=3)||decide (Ag a=0)&&decide (Ag b=0))=false:=by simp; omega
   rw [Asd h1,c1,Arv]
   by_cases h2:Ag a=3
   ·rw [Ase h2,Ars h2,Arr]; rfl
   ·rw [Asd h2,Arw h2,Arv]
    by_cases h3:Ag b=3∨Ag a=0
    ·have c3:(decide (Ag b=3)||decide (Ag a=0))=true:=by simp; exact h3
     rw [Ase h3,c3,Arr]; rfl
    ·have c3:(decide (Ag b=3)||decide (Ag a=0))=false:=by simp; omega
     rw [Asd h3,c3,Arv]
     by_cases h5:Ag b=0
     ·rw [Ase h5,Ars h5,Arr]; rfl
     ·rw [Asd h5,Arw h5,Arv]
      have pa:=Lh (b:=a) (by omega) (by omega) (by omega)
      have pb:=Lh (b:=b) (by omega) (by omega) (by omega)
      have na:Jm (a:Int)=true:=Al.2 pa
      have nb:Jm (b:Int)=true:=Al.2 pb
      have hnb:(Ch (b:Int) !=0)=true:=by
       obtain ⟨_,l2,_,_⟩:=Ln pb
       have mb:Ch (b:Int)=((Ar b*2^Bv b:Nat):Int):=rfl
       rw [mb]
       simp only [bne_iff_ne,ne_eq]
       omega
      rw [na,nb,hnb,Arx,Arr,Arr,Arr,Arr,Ak6 pa pb]
namespace EqVec
def Ac.Add.Bh:List (Nat × Entry):=[(99,sum.Add.spec)]
def Ac.Add.E:Env:=Bi (Bg Ac.Add.Bh) (fun _=>false) (fun _=>none) (fun _=>none)
theorem Ac.Add.ev (N:Nat) (a b:Int):Bw Ac.Add.E N f72 (Aq f72) [.int .u64 a,.int .u64 b]=bif (Aj a&&Aj b) then some (.int .u64 (Jh a b)) else none:=by kernel_rfl
abbrev _root_.Go.Proofs.S1.Ac.Add.Kn:=A6 prog 72 Ac.Add.spec
theorem Ac.Add.Ad (hk:Ay prog Ac.Add.Bh) (h:Hyp Ac.Add.E f72 Ac.Add.ts Ac.Add.pre Ac.Add.out):Ac.Add.Kn :=
 Am (A2 hk _ _ _) func72 (by kernel_rfl) (by kernel_rfl) h
def Ac.Sub.Bh:List (Nat × Entry):=[(133,sum.Sub.spec)]
def Ac.Sub.E:Env:=Bi (Bg Ac.Sub.Bh) (fun _=>false) (fun _=>none) (fun _=>none)
theorem Ac.Sub.ev (N:Nat) (a b:Int):Bw Ac.Sub.E N f108 (Aq f108) [.int .u64 a,.int .u64 b]=bif (Aj a&&Aj b) then some (.int .u64 (Gu a b)) else none:=by kernel_rfl
abbrev _root_.Go.Proofs.S1.Ac.Sub.Kn:=A6 prog 108 Ac.Sub.spec
theorem Ac.Sub.Ad (hk:Ay prog Ac.Sub.Bh) (h:Hyp Ac.Sub.E f108 Ac.Sub.ts Ac.Sub.pre Ac.Sub.out):Ac.Sub.Kn :=
 Am (A2 hk _ _ _) func108 (by kernel_rfl) (by kernel_rfl) h
def Ac.Mul.Bh:List (Nat × Entry):=[(100,times.Mul.spec)]
def Ac.Mul.E:Env:=Bi (Bg Ac.Mul.Bh) (fun _=>false) (fun _=>none) (fun _=>none)
theorem Ac.Mul.ev (N:Nat) (a b:Int):Bw Ac.Mul.E N f73 (Aq f73) [.int .u64 a,.int .u64 b]=bif (Aj a&&Aj b) then some (.int .u64 (Hh a b)) else none:=by kernel_rfl
abbrev _root_.Go.Proofs.S1.Ac.Mul.Kn:=A6 prog 73 Ac.Mul.spec
theorem Ac.Mul.Ad (hk:Ay prog Ac.Mul.Bh) (h:Hyp Ac.Mul.E f73 Ac.Mul.ts Ac.Mul.pre Ac.Mul.out):Ac.Mul.Kn :=
 Am (A2 hk _ _ _) func73 (by kernel_rfl) (by kernel_rfl) h
def Ac.fit.Bh:List (Nat × Entry):=[]
def Ac.fit.E:Env:=Bi (Bg Ac.fit.Bh) (fun _=>false) (fun _=>none) (fun _=>none)
theorem Ac.fit.ev (N:Nat) (x y:List Int):Bw Ac.fit.E N f98 (Aq f98) [.ints .arg .u64 x,.ints .arg .u64 y]=some (.bool (bif ((length x:Int)==(length y:Int)) then (H2 (length x:Int) 64) else false)) :=
 Eq.trans (by kernel_rfl)
 (Aw (H0 ((length x:Int)==(length y:Int))) (Aw (Fm ((length x:Int)==(length y:Int))) (Aw (Fm ((length x:Int)==(length y:Int))) (Aw (J3 ((length x:Int)==(length y:Int))) rfl))))
abbrev _root_.Go.Proofs.S1.Ac.fit.Kn:=A6 prog 98 Ac.fit.spec
theorem Ac.fit.Ad (hk:Ay prog Ac.fit.Bh) (h:Hyp Ac.fit.E f98 Ac.fit.ts Ac.fit.pre Ac.fit.out):Ac.fit.Kn :=
 Am (A2 hk _ _ _) func98 (by kernel_rfl) (by kernel_rfl) h
def Ac.Lv.hint:Nat→Option Bc
 | 0=>some { keep:=[0,1,6,13,14],objs:=[],boxes:=[] }
 | _=>none
def Ac.Lv.Bh:List (Nat × Entry):=[(72,Ac.Add.spec),(73,Ac.Mul.spec),(98,Ac.fit.spec)]
def Ac.Lv.E:Env:=Bi (Bg Ac.Lv.Bh) (fun _=>false) Ac.Lv.hint (fun _=>none)
section
variable (N M:Nat) (x y:List Int) (p6 p14:Int)
def Ac.Lv.L0:Option DV:=B3 Ac.Lv.E N f69 (Aq f69) [1,1,1,0,1,0] [] M ⟨G8 30 [(0,.ints .arg .u64 x),(1,.ints .arg .u64 y),(6,.int .u64 p6),(13,.int .i64 (length x:Int)),(14,.int .i64 p14)],[]⟩
theorem Ac.Lv.Au:Ac.Lv.L0 N (M+1) x y p6 p14=bif (A3 p14 (length x:Int)) then bif ((decide (0≤p14))&&(decide (p14<(length x:Int)))) then bif ((decide (0≤p14))&&(decide (p14<(length y:Int)))) then bif (Aj (getD x (toNat p14) 0)&&Aj (getD y (toNat p14) 0)) then bif (Aj p6&&Aj (Hh (getD x (toNat p14) 0) (getD y (toNat p14) 0))) then Ac.Lv.L0 N M x y (Jh p6 (Hh (getD x (toNat p14) 0) (getD y (toNat p14) 0))) (Ab (p14+1)) else none else none else none else none else some (.tup [.int .u64 p6,.int .i64 0]) :=
 Eq.trans (by kernel_rfl)
 (Eu (Df (tt4 (decide (0≤p14)) (decide (p14<(length x:Int)))) (Df (tt4 (decide (0≤p14)) (decide (p14<(length y:Int)))) (Df (Gc (Aj (getD x (toNat p14) 0)&&Aj (getD y (toNat p14) 0))) (Df (Gc (Aj p6&&Aj (Hh (getD x (toNat p14) 0) (getD y (toNat p14) 0)))) rfl rfl) rfl) rfl) rfl) rfl)
theorem Ac.Lv.ev:Bw Ac.Lv.E N f69 (Aq f69) [.ints .arg .u64 x,.ints .arg .u64 y]=bif (!(R4 x y)) then some (.tup [.int .u64 0,.int .i64 3]) else Ac.Lv.L0 N N x y 0 0:=by kernel_rfl
end
abbrev _root_.Go.Proofs.S1.Ac.Lv.Kn:=A6 prog 69 Ac.Lv.spec
theorem Ac.Lv.Ad (hk:Ay prog Ac.Lv.Bh) (h:Hyp Ac.Lv.E f69 Ac.Lv.ts Ac.Lv.pre Ac.Lv.out):Ac.Lv.Kn :=
 Am (A2 hk _ _ _) func69 (by kernel_rfl) (by kernel_rfl) h
def B0.F.Bh:List (Nat × Entry):=[]
def B0.F.E:Env:=Bi (Bg B0.F.Bh) (fun _=>false) (fun _=>none) (fun _=>none)
theorem B0.F.ev (N:Nat) (x:Int):Bw B0.F.E N f21 (Aq f21) [.int .u64 x]=bif (decide (0≤x)) then some (.fl (toNat x)) else none:=by kernel_rfl
abbrev _root_.Go.Proofs.S1.B0.F.Kn:=A6 prog 21 B0.F.spec
theorem B0.F.Ad (hk:Ay prog B0.F.Bh) (h:Hyp B0.F.E f21 B0.F.ts B0.F.pre B0.F.out):B0.F.Kn :=
 Am (A2 hk _ _ _) func21 (by kernel_rfl) (by kernel_rfl) h
def B0.B.Bh:List (Nat × Entry):=[(46,Dj.Canon.nb.spec)]
def B0.B.E:Env:=Bi (Bg B0.B.Bh) (fun _=>false) (fun _=>none) (fun _=>none)
theorem B0.B.ev (N x:Nat):Bw B0.B.E N f19 (Aq f19) [.fl x]=some (.int .u64 (Kw x)):=by kernel_rfl
abbrev _root_.Go.Proofs.S1.B0.B.Kn:=A6 prog 19 B0.B.spec
theorem B0.B.Ad (hk:Ay prog B0.B.Bh) (h:Hyp B0.B.E f19 B0.B.ts B0.B.pre B0.B.out):B0.B.Kn :=
 Am (A2 hk _ _ _) func19 (by kernel_rfl) (by kernel_rfl) h
end EqVec
open Go Go.Den Go.Rnd Go.Proofs Ieee
open EqVec
theorem Zv {b:Nat} (h3:Ag b≠3) (h4:Ag b≠4):Ar b=0↔Ag b=0 :=
 ⟨fun h=>by
  by_cases h0:Ag b=0
  ·exact h0
  ·exact absurd h (Lh h0 h3 h4),Rt⟩
theorem Ou (s:Bool):E2 (Be s Dy)=Be s Dy:=Vh s (Asm _)
theorem Uj {a b:Nat} (ha:a<2^64) (hb:b<2^64) {d:Nat} (hd:Ag d=4):E2 ((Ieee.double.mul a b).getD d)=(K3 a b).1:=by
 have cd:E2 d=Vq:=Ase hd
 have ex:∀ s t:Bool,(s ^^ t)=(s !=t):=fun s t=>by cases s<;>cases t<;>rfl
 unfold Format.mul
 rw [Og ha,Og hb]
 unfold K3
 by_cases a4:Ag a=4
 ·rw [Ase (.inl a4),Oh a4]; exact cd
 ·by_cases b4:Ag b=4
  ·rw [Ase (.inr b4),Oh b4]
   by_cases a3:Ag a=3
   ·rw [Ib a3]; exact cd
   ·rw [Ia a3 a4]; exact cd
  ·rw [Asd (fun h=>h.elim a4 b4)]
   by_cases a3:Ag a=3
   ·rw [Ase (.inl a3),Ib a3]
    by_cases b3:Ag b=3
    ·rw [Ib b3,Asd (by omega)]
     show E2 (Be (Bu a ^^ Bu b) Dy)=_
     rw [Ou,ex]
    ·rw [Ia b3 b4]
     have z:=Zv b3 b4
     by_cases b0:Ag b=0
     ·have e:(Datum.infinity (Bu a)).product (.number (Bu b) (Ar b) (Ax b))=none:=Ase (z.2 b0)
      rw [e,Ase (.inr b0)]; exact cd
     ·have e:(Datum.infinity (Bu a)).product (.number (Bu b) (Ar b) (Ax b))=some (.infinity (Bu a ^^ Bu b)):=Asd (fun k=>b0 (z.1 k))
      rw [e,Asd (by omega)]
      show E2 (Be (Bu a ^^ Bu b) Dy)=_
      rw [Ou,ex]
   ·rw [Ia a3 a4]
    have z:=Zv a3 a4
    by_cases b3:Ag b=3
    ·rw [Ase (.inr b3),Ib b3]
     have sw:∀ s t:Bool,(t ^^ s)=(s !=t):=fun s t=>by cases s<;>cases t<;>rfl
     by_cases a0:Ag a=0
     ·have e:(Datum.number (Bu a) (Ar a) (Ax a)).product (.infinity (Bu b))=none:=Ase (z.2 a0)
      rw [e,Ase (.inl a0)]; exact cd
     ·have e:(Datum.number (Bu a) (Ar a) (Ax a)).product (.infinity (Bu b))=some (.infinity (Bu b ^^ Bu a)):=Asd (fun k=>a0 (z.1 k))
      rw [e,Asd (by omega)]
      show E2 (Be (Bu b ^^ Bu a) Dy)=_
      rw [Ou,sw]
    ·rw [Ia b3 b4,Asd (by omega)]
     show E2 (Ieee.double.write (.number (Bu a ^^ Bu b) (Ar a*Ar b) (Ax a+Ax b)))=_
     rw [Ad4,Vh _ (Od _ _),ex]
theorem Ma:Ag nanBits=4:=by decide +kernel
theorem Ac.Add.known:Ac.Add.Kn:=Ac.Add.Ad (.cons sum.Add.known .nil) fun a b hp=>by
 have hp:(Aj a&&Aj b)=true:=hp
 refine ⟨0,Ac.Add.out [.i a,.i b],[],?_,.int⟩
 rw [Ac.Add.ev,hp]; rfl
theorem Ac.Sub.known:Ac.Sub.Kn:=Ac.Sub.Ad (.cons sum.Sub.known .nil) fun a b hp=>by
 have hp:(Aj a&&Aj b)=true:=hp
 refine ⟨0,Ac.Sub.out [.i a,.i b],[],?_,.int⟩
 rw [Ac.Sub.ev,hp]; rfl
theorem Ac.Mul.known:Ac.Mul.Kn:=Ac.Mul.Ad (.cons times.Mul.known .nil) fun a b hp=>by
 have hp:(Aj a&&Aj b)=true:=hp
 refine ⟨0,Ac.Mul.out [.i a,.i b],[],?_,.int⟩
 rw [Ac.Mul.ev,hp]; rfl
theorem Aif (x y:List Int):(bif ((length x:Int)==(length y:Int)) then (H2 (length x:Int) (64:Int)) else false)=R4 x y:=by
 unfold R4
 rw [Ee,Ar7]
 by_cases h:x.length=y.length
 ·have:((x.length:Int)==(y.length:Int))=true:=by rw [beq_iff_eq]; omega
  rw [this,Arr,Ars h,As5,Ary,Ary]; omega
 ·have:((x.length:Int)==(y.length:Int))=false:=by rw [Asn]; omega
  rw [this,Arv,Arw h,Bool.false_and]
theorem Ac.fit.known:Ac.fit.Kn:=Ac.fit.Ad .nil fun x y _=>by
 refine ⟨0,Ac.fit.out [.l x,.l y],[],?_,.bool⟩
 rw [Ac.fit.ev,Aif]; rfl
theorem Yc {x y:List Int}:R4 x y=true↔x.length=y.length∧x.length≤64:=by unfold R4; simp
theorem Aaq {l:List Int} {i:Nat} (h:i<l.length):l.drop i=l.getD i 0::l.drop (i+1):=by
 rw [List.drop_eq_getElem_cons h,Ar1,Ar8 h]; rfl
theorem Ais {x y:List Int} {i:Nat} (s:Nat) (hx:i<x.length) (hy:i<y.length) :
 Aas s (x.drop i) (y.drop i)=Aas (N1 s (K3 (x.getD i 0).toNat (y.getD i 0).toNat).1).1 (x.drop (i+1)) (y.drop (i+1)):=by
 rw [Aaq hx,Aaq hy]; rfl
theorem Ait (N:Nat) {x y:List Int} (hf:R4 x y=true) (hx:A1 x=true) (hy:A1 y=true):∀ (k i F s:Nat),i+k=x.length→k<F→s<2^64 →
 Ac.Lv.L0 N F x y (s:Int) (i:Int)=some (.tup [.int .u64 ((Aas s (x.drop i) (y.drop i):Nat):Int),.int .i64 (0:Int)]):=by
 obtain ⟨h1,h2⟩:=Yc.1 hf
 intro k
 induction k with
 | zero =>
   intro i F s hi hF hs
   obtain ⟨F,rfl⟩:∃ G,F=G+1:=⟨F-1,by omega⟩
   rw [Ac.Lv.Au,Av,Arw (by omega),Arv,Ar5 (by omega)]
   rfl
 | succ k ih =>
   intro i F s hi hF hs
   obtain ⟨F,rfl⟩:∃ G,F=G+1:=⟨F-1,by omega⟩
   have c1:decide ((i:Int)<(x.length:Int))=true:=Ars (by omega)
   have c2:decide ((i:Int)<(y.length:Int))=true:=Ars (by omega)
   have c3:decide ((0:Int)≤(i:Int))=true:=Ars (by omega)
   have g1:=Ys hx (show i<x.length by omega)
   have g2:=Ys hy (show i<y.length by omega)
   have em:Hh (x.getD i 0) (y.getD i 0)=(((K3 (x.getD i 0).toNat (y.getD i 0).toNat).1:Nat):Int):=rfl
   have ea:∀ t:Nat,Jh (s:Int) (t:Int)=(((N1 s t).1:Nat):Int):=fun t=>rfl
   rw [Ac.Lv.Au,Av,c1,c2,c3,Art,g1,g2,em,ea,B6 hs,B6 Tg,Arx,Arr,Arr,Arr,Arr,Arr,Ao (by omega) (by omega),Ais s (by omega) (by omega)]
   exact ih (i+1) F _ (by omega) (by omega) (Tn hs Tg).1
theorem Ac.Lv.known:Ac.Lv.Kn:=Ac.Lv.Ad (.cons Ac.Add.known (.cons Ac.Mul.known (.cons Ac.fit.known .nil))) fun x y hp=>by
 obtain ⟨h1,hy⟩:=Af.1 hp
 obtain ⟨hf,hx⟩:=Af.1 h1
 refine ⟨x.length+1,Ac.Lv.out [.l x,.l y],[],?_,Wk.E5 (.cons .int (.cons .int .nil))⟩
 rw [Ac.Lv.ev,hf,Asr,Arv]
 exact Ait _ hf hx hy x.length 0 _ 0 (by omega) (by omega) (by decide)
theorem B0.F.known:B0.F.Kn:=B0.F.Ad .nil fun x hp=>by
 obtain ⟨n,rfl,hn⟩:=Bt (x:=x) hp
 refine ⟨0,B0.F.out [.i n],[],?_,.fl⟩
 rw [B0.F.ev,Ars (Int.natCast_nonneg n)]; rfl
theorem B0.B.known:B0.B.Kn:=B0.B.Ad (.cons Dj.Canon.Ahi .nil) fun x _=>by
 refine ⟨0,B0.B.out [.f x],[],?_,.int⟩
 rw [B0.B.ev]; rfl
namespace EqMat
def Aa.size.Bh:List (Nat × Entry):=[]
def Aa.size.E:Env:=Bi (Bg Aa.size.Bh) (fun _=>false) (fun _=>none) (fun _=>none)
theorem Aa.size.ev (N:Nat) (n:Int):Bw Aa.size.E N f90 (Aq f90) [.int .i64 n]=some (.bool (bif (H2 0 n) then (H2 n 6) else false)) :=
 Eq.trans (by kernel_rfl)
 (Aw (H0 (H2 0 n)) (Aw (Fm (H2 0 n)) (Aw (J3 (H2 0 n)) rfl)))
abbrev _root_.Go.Proofs.S1.Aa.size.Kn:=A6 prog 90 Aa.size.spec
theorem Aa.size.Ad (hk:Ay prog Aa.size.Bh) (h:Hyp Aa.size.E f90 Aa.size.ts Aa.size.pre Aa.size.out):Aa.size.Kn :=
 Am (A2 hk _ _ _) func90 (by kernel_rfl) (by kernel_rfl) h
def Aa.Check.Bh:List (Nat × Entry):=[(90,Aa.size.spec)]
def Aa.Check.E:Env:=Bi (Bg Aa.Check.Bh) (fun _=>false) (fun _=>none) (fun _=>none)
theorem Aa.Check.ev (N:Nat) (r c:Int) (l:List Int):Bw Aa.Check.E N f57 (Aq f57) [.agg [.int .i64 r,.int .i64 c,.ints .arg .u64 l]]=bif (((!(B9 r))||(!(B9 c)))||((length l:Int) !=(Ab (r*c)))) then some (.int .i64 1) else some (.int .i64 0) :=
 Eq.trans (by kernel_rfl)
 (Aw (tt9 (B9 r)) (Aw (tt7 (B9 r)) (Aw (tt7 (B9 r)) (Aw (tt7 (B9 r)) (Aw (tt6 (B9 r)) (Aw (Amo (B9 r) (B9 c)) (Aw (Ajq (B9 r) (B9 c)) (Aw (Ajq (B9 r) (B9 c)) (Aw (Amo (B9 r) (B9 c)) (Aw (Ajq (B9 r) (B9 c)) (Aw (Amo (B9 r) (B9 c)) (Aw (Ajq (B9 r) (B9 c)) (Aw (Aol (B9 r) (B9 c)) (Aw (Aol (B9 r) (B9 c)) (Aw (Aqg (B9 r) (B9 c)) (Df (Aqh (B9 r) (B9 c) ((length l:Int) !=(Ab (r*c)))) rfl rfl))))))))))))))))
abbrev _root_.Go.Proofs.S1.Aa.Check.Kn:=A6 prog 57 Aa.Check.spec
theorem Aa.Check.Ad (hk:Ay prog Aa.Check.Bh) (h:Hyp Aa.Check.E f57 Aa.Check.ts Aa.Check.pre Aa.Check.out):Aa.Check.Kn :=
 Am (A2 hk _ _ _) func57 (by kernel_rfl) (by kernel_rfl) h
def Aa.get.Bh:List (Nat × Entry):=[]
def Aa.get.E:Env:=Bi (Bg Aa.get.Bh) (fun _=>false) (fun _=>none) (fun _=>none)
theorem Aa.get.ev (N:Nat) (r c:Int) (l:List Int) (i k:Int):Bw Aa.get.E N f55 (Aq f55) [.agg [.int .i64 r,.int .i64 c,.ints .arg .u64 l],.int .i64 i,.int .i64 k]=bif ((decide (0≤(Ab ((Ab (i*c))+k))))&&(decide ((Ab ((Ab (i*c))+k))<(length l:Int)))) then some (.int .u64 (getD l (toNat (Ab ((Ab (i*c))+k))) 0)) else none:=by kernel_rfl
abbrev _root_.Go.Proofs.S1.Aa.get.Kn:=A6 prog 55 Aa.get.spec
theorem Aa.get.Ad (hk:Ay prog Aa.get.Bh) (h:Hyp Aa.get.E f55 Aa.get.ts Aa.get.pre Aa.get.out):Aa.get.Kn :=
 Am (A2 hk _ _ _) func55 (by kernel_rfl) (by kernel_rfl) h
def Aa.two.Bh:List (Nat × Entry):=[(57,Aa.Check.spec)]
def Aa.two.E:Env:=Bi (Bg Aa.two.Bh) (fun _=>false) (fun _=>none) (fun _=>none)
theorem Aa.two.ev (N:Nat) (r c:Int) (l:List Int) (p q:Int) (m:List Int):Bw Aa.two.E N f52 (Aq f52) [.agg [.int .i64 r,.int .i64 c,.ints .arg .u64 l],.agg [.int .i64 p,.int .i64 q,.ints .arg .u64 m]]=bif (((Kf r c l) !=(0:Int))||((Kf p q m) !=(0:Int))) then some (.int .i64 1) else some (.int .i64 0) :=
 Eq.trans (by kernel_rfl)
 (Aw (Kl ((Kf r c l) !=(0:Int))) (Aw (I9 ((Kf r c l) !=(0:Int))) (Aw (I9 ((Kf r c l) !=(0:Int))) (Aw (Mt ((Kf r c l) !=(0:Int))) (Df (Ts ((Kf r c l) !=(0:Int)) ((Kf p q m) !=(0:Int))) rfl rfl)))))
abbrev _root_.Go.Proofs.S1.Aa.two.Kn:=A6 prog 52 Aa.two.spec
theorem Aa.two.Ad (hk:Ay prog Aa.two.Bh) (h:Hyp Aa.two.E f52 Aa.two.ts Aa.two.pre Aa.two.out):Aa.two.Kn :=
 Am (A2 hk _ _ _) func52 (by kernel_rfl) (by kernel_rfl) h
def Aa.Row.Bh:List (Nat × Entry):=[]
def Aa.Row.E:Env:=Bi (Bg Aa.Row.Bh) (fun _=>false) (fun _=>none) (fun _=>none)
theorem Aa.Row.ev (N:Nat) (r c:Int) (l:List Int) (i f:Int):Bw Aa.Row.E N f70 (Aq f70) [.agg [.int .i64 r,.int .i64 c,.ints .arg .u64 l],.int .i64 i,.int .i64 f]=bif (((decide ((0:Int)≤(Ab ((Ab (i*c))+f))))&&(decide ((Ab ((Ab (i*c))+f))≤(Ab ((Ab (i+1))*c)))))&&((decide ((0:Int)≤(Ab ((Ab (i+1))*c))))&&(decide ((Ab ((Ab (i+1))*c))≤(length l:Int))))) then bif (decide (0+(length (List.drop (toNat (Ab ((Ab (i*c))+f))) (List.take (toNat (Ab ((Ab (i+1))*c))) l)))≤Gy)) then some (.ints (.own 22 32) .u64 ([]++(List.drop (toNat (Ab ((Ab (i*c))+f))) (List.take (toNat (Ab ((Ab (i+1))*c))) l)))) else none else none :=
 Eq.trans (by kernel_rfl)
 (Df (Aqf (decide ((0:Int)≤(Ab ((Ab (i*c))+f)))) (decide ((Ab ((Ab (i*c))+f))≤(Ab ((Ab (i+1))*c)))) (decide ((0:Int)≤(Ab ((Ab (i+1))*c)))) (decide ((Ab ((Ab (i+1))*c))≤(length l:Int)))) rfl rfl)
abbrev _root_.Go.Proofs.S1.Aa.Row.Kn:=A6 prog 70 Aa.Row.spec
theorem Aa.Row.Ad (hk:Ay prog Aa.Row.Bh) (h:Hyp Aa.Row.E f70 Aa.Row.ts Aa.Row.pre Aa.Row.out):Aa.Row.Kn :=
 Am (A2 hk _ _ _) func70 (by kernel_rfl) (by kernel_rfl) h
def Aa.Cr.hint:Nat→Option Bc
 | 0=>some { keep:=[1,3,7,8],objs:=[(0,7,100007,.ints 32 .u64 [])],boxes:=[3] }
 | _=>none
def Aa.Cr.Bh:List (Nat × Entry):=[(55,Aa.get.spec)]
def Aa.Cr.E:Env:=Bi (Bg Aa.Cr.Bh) (fun _=>false) Aa.Cr.hint (fun _=>none)
section
variable (N M:Nat) (r c:Int) (l:List Int) (k f p8:Int) (p7:List Int)
def Aa.Cr.L0:Option DV:=B3 Aa.Cr.E N f30 (Aq f30) [1,1,0,1,0] [] M ⟨G8 24 [(1,.int .i64 k),(3,.ptr 3 0 0),(7,.oref 100007),(8,.int .i64 p8)],[(3,false,.box [.int .i64 r,.int .i64 c,.ints .arg .u64 l]),(100007,false,.ints 32 .u64 p7)]⟩
theorem Aa.Cr.Au:Aa.Cr.L0 N (M+1) r c l k p8 p7=bif (A3 p8 r) then bif (I4 r c l p8 k) then bif (decide ((length p7)+1≤Gy)) then Aa.Cr.L0 N M r c l k (Ab (p8+1)) (p7++[(Mr c l p8 k)]) else none else none else some (.ints (.own 100007 32) .u64 p7):=by kernel_rfl
theorem Aa.Cr.ev:Bw Aa.Cr.E N f30 (Aq f30) [.agg [.int .i64 r,.int .i64 c,.ints .arg .u64 l],.int .i64 k,.int .i64 f] =
 Aa.Cr.L0 N N r c l k f []:=by kernel_rfl
end
abbrev _root_.Go.Proofs.S1.Aa.Cr.Kn:=A6 prog 30 Aa.Cr.spec
theorem Aa.Cr.Ad (hk:Ay prog Aa.Cr.Bh) (h:Hyp Aa.Cr.E f30 Aa.Cr.ts Aa.Cr.pre Aa.Cr.out):Aa.Cr.Kn :=
 Am (A2 hk _ _ _) func30 (by kernel_rfl) (by kernel_rfl) h
def Aa.Fl.Bh:List (Nat × Entry):=[]
def Aa.Fl.E:Env:=Bi (Bg Aa.Fl.Bh) (fun _=>false) (fun _=>none) (fun _=>none)
theorem Aa.Fl.ev (N:Nat) (i k:Int):Bw Aa.Fl.E N f93 (Aq f93) [.int .i64 i,.int .i64 k]=bif (i==k) then some (.int .u64 4607182418800017408) else some (.int .u64 0):=by kernel_rfl
abbrev _root_.Go.Proofs.S1.Aa.Fl.Kn:=A6 prog 93 Aa.Fl.spec
theorem Aa.Fl.Ad (hk:Ay prog Aa.Fl.Bh) (h:Hyp Aa.Fl.E f93 Aa.Fl.ts Aa.Fl.pre Aa.Fl.out):Aa.Fl.Kn :=
 Am (A2 hk _ _ _) func93 (by kernel_rfl) (by kernel_rfl) h
def Aa.D3.Bh:List (Nat × Entry):=[(55,Aa.get.spec)]
def Aa.D3.E:Env:=Bi (Bg Aa.D3.Bh) (fun _=>false) (fun _=>none) (fun _=>none)
theorem Aa.D3.ev (N:Nat) (i k:Int) (r c:Int) (l:List Int) (x y:Int):Bw Aa.D3.E N f58 (Aq f58) [.int .i64 i,.int .i64 k,.cellp [.int .i64 r,.int .i64 c,.ints .arg .u64 l],.cellp [.int .i64 x],.cellp [.int .i64 y]]=bif (I4 r c l (Ab (x+i)) (Ab (y+k))) then some (.int .u64 (Mr c l (Ab (x+i)) (Ab (y+k)))) else none:=by kernel_rfl
abbrev _root_.Go.Proofs.S1.Aa.D3.Kn:=A6 prog 58 Aa.D3.spec
theorem Aa.D3.Ad (hk:Ay prog Aa.D3.Bh) (h:Hyp Aa.D3.E f58 Aa.D3.ts Aa.D3.pre Aa.D3.out):Aa.D3.Kn :=
 Am (A2 hk _ _ _) func58 (by kernel_rfl) (by kernel_rfl) h
def Aa.De.Bh:List (Nat × Entry):=[(55,Aa.get.spec)]
def Aa.De.E:Env:=Bi (Bg Aa.De.Bh) (fun _=>false) (fun _=>none) (fun _=>none)
theorem Aa.De.ev (N:Nat) (i k:Int) (r c:Int) (l:List Int) (p q:Int) (m:List Int):Bw Aa.De.E N f54 (Aq f54) [.int .i64 i,.int .i64 k,.cellp [.int .i64 r,.int .i64 c,.ints .arg .u64 l],.cellp [.int .i64 p,.int .i64 q,.ints .arg .u64 m]]=bif (A3 i r) then bif (I4 r c l i k) then some (.int .u64 (Mr c l i k)) else none else bif (I4 p q m (Ab (i-r)) k) then some (.int .u64 (Mr q m (Ab (i-r)) k)) else none:=by kernel_rfl
abbrev _root_.Go.Proofs.S1.Aa.De.Kn:=A6 prog 54 Aa.De.spec
theorem Aa.De.Ad (hk:Ay prog Aa.De.Bh) (h:Hyp Aa.De.E f54 Aa.De.ts Aa.De.pre Aa.De.out):Aa.De.Kn :=
 Am (A2 hk _ _ _) func54 (by kernel_rfl) (by kernel_rfl) h
def Aa.Fh.Bh:List (Nat × Entry):=[(30,Aa.Cr.spec),(70,Aa.Row.spec),(69,Ac.Lv.spec)]
def Aa.Fh.E:Env:=Bi (Bg Aa.Fh.Bh) (fun _=>false) (fun _=>none) (fun _=>none)
theorem Aa.Fh.ev (N:Nat) (i k:Int) (r c:Int) (l:List Int) (p q:Int) (m:List Int):Bw Aa.Fh.E N f68 (Aq f68) [.int .i64 i,.int .i64 k,.cellp [.int .i64 r,.int .i64 c,.ints .arg .u64 l],.cellp [.int .i64 p,.int .i64 q,.ints .arg .u64 m]]=bif (Xt r c l i&&decide ((0:Int)=0)) then bif (Gl p q m k&&Br (0≤(0:Int)∧(0:Int)≤p)) then bif ((R4 (K1 c l i) (C6 q m k 0 (toNat (p-0)))&&A1 (K1 c l i))&&A1 (C6 q m k 0 (toNat (p-0)))) then some (.int .u64 (Oz (K1 c l i) (C6 q m k 0 (toNat (p-0))))) else none else none else none :=
 Eq.trans (by kernel_rfl)
 (Df (Gc (Xt r c l i&&decide ((0:Int)=0))) (Df (Gc (Gl p q m k&&Br (0≤(0:Int)∧(0:Int)≤p))) (Df (Gc ((R4 (K1 c l i) (C6 q m k 0 (toNat (p-0)))&&A1 (K1 c l i))&&A1 (C6 q m k 0 (toNat (p-0))))) rfl rfl) rfl) rfl)
abbrev _root_.Go.Proofs.S1.Aa.Fh.Kn:=A6 prog 68 Aa.Fh.spec
theorem Aa.Fh.Ad (hk:Ay prog Aa.Fh.Bh) (h:Hyp Aa.Fh.E f68 Aa.Fh.ts Aa.Fh.pre Aa.Fh.out):Aa.Fh.Kn :=
 Am (A2 hk _ _ _) func68 (by kernel_rfl) (by kernel_rfl) h
end EqMat
open EqMat
theorem Lc {a b:Int} (h1:0≤a) (h2:a<20) (h3:0≤b) (h4:b<20):0≤a*b∧a*b<400:=by
 have:=Int.mul_nonneg h1 h3
 have h5:a*b≤19*19:=Int.mul_le_mul (by omega) (by omega) h3 (by omega)
 omega
theorem Aa.size.known:Aa.size.Kn:=Aa.size.Ad .nil fun n _=>by
 refine ⟨0,Aa.size.out [.i n],[],?_,.bool⟩
 have e:(bif (H2 (0:Int) n) then (H2 n (6:Int)) else false)=B9 n:=by
  unfold B9
  rw [Ee,Ee]
  cases decide (0≤n)<;>rfl
 rw [Aa.size.ev,e]; rfl
theorem Ai3 (r c:Int) (l:List Int):(((!(B9 r))||(!(B9 c)))||((length l:Int) !=(Ab (r*c))))=!(Bo r c l):=by
 unfold Bo
 cases h1:B9 r with
 | false=>rfl
 | true =>
   cases h2:B9 c with
   | false=>rfl
   | true =>
     obtain ⟨r1,r2⟩:=Gd.1 h1
     obtain ⟨c1,c2⟩:=Gd.1 h2
     have:=Lc (a:=r) (b:=c) r1 (by omega) c1 (by omega)
     rw [Ao (by omega) (by omega),Ar7]
     simp
theorem Aa.Check.known:Aa.Check.Kn:=Aa.Check.Ad (.cons Aa.size.known .nil) fun r c l _=>by
 refine ⟨0,Aa.Check.out [.i r,.i c,.l l],[],?_,.int⟩
 rw [Aa.Check.ev,Ai3]
 show _=some (DV.int .i64 (Kf r c l))
 unfold Kf
 cases Bo r c l<;>rfl
theorem Alp {c i k:Int} {l:List Int} {R:Int} (h:I4 R c l i k=true):Ab (Ab (i*c)+k)=i*c+k∧0≤i*c+k∧i*c+k<l.length:=by
 obtain ⟨h1,h2,h3,h4,h5,h6,h7,_⟩:=Al.1 h
 have:=Lc h1 (by omega) h5 (by omega)
 rw [Ao (x:=i*c) (by omega) (by omega),Ao (by omega) (by omega)]
 omega
theorem Aa.get.known:Aa.get.Kn:=Aa.get.Ad .nil fun r c l i k hp=>by
 obtain ⟨e,h1,h2⟩:=Alp (R:=r) (show I4 r c l i k=true from hp)
 refine ⟨0,Aa.get.out [.i r,.i c,.l l,.i i,.i k],[],?_,.int⟩
 rw [Aa.get.ev,e,Ars h1,Ars h2]
 rfl
theorem Vf (r c:Int) (l:List Int):((Kf r c l) !=(0:Int))=!(Bo r c l):=by
 unfold Kf
 cases Bo r c l<;>rfl
theorem Aa.two.known:Aa.two.Kn:=Aa.two.Ad (.cons Aa.Check.known .nil) fun r c l p q m _=>by
 refine ⟨0,Aa.two.out [.i r,.i c,.l l,.i p,.i q,.l m],[],?_,.int⟩
 rw [Aa.two.ev,Vf,Vf]
 show _=some (DV.int .i64 (Tr r c l p q m))
 unfold Tr
 cases Bo r c l<;>cases Bo p q m<;>rfl
theorem Aa.Row.known:Aa.Row.Kn:=Aa.Row.Ad .nil fun r c l i f hp=>by
 obtain ⟨h0,hf⟩:=Af.1 hp
 obtain rfl:=Ash hf
 obtain ⟨hr,hi⟩:=Af.1 h0
 have hi:=Al.1 hi
 obtain ⟨R,C,rfl,rfl,r6,c6,hl⟩:=Gm hr
 obtain ⟨I,rfl⟩:∃ k:Nat,i=k:=⟨i.toNat,by omega⟩
 have hm:=Lc (a:=(I:Int)) (b:=(C:Int)) (by omega) (by omega) (by omega) (by omega)
 have hm2:=Lc (a:=(I:Int)+1) (b:=(C:Int)) (by omega) (by omega) (by omega) (by omega)
 have hle:(I+1)*C≤R*C:=Ar3 C (by omega)
 have hle2:I*C≤(I+1)*C:=Ar3 C (by omega)
 have e1:(I:Int)*(C:Int)=((I*C:Nat):Int):=(Asc _ _).symm
 have e2:((I:Int)+1)*(C:Int)=(((I+1)*C:Nat):Int):=by rw [Asc]; rfl
 refine ⟨0,.ints (.own 22 tB) .u64 (K1 (C:Int) l (I:Int)),[22],?_,.drop _ _ _ _ (List.mem_singleton.2 rfl)⟩
 rw [Aa.Row.ev,Ao (x:=(I:Int)+1) (by omega) (by omega),Ao (x:=(I:Int)*(C:Int)) (by omega) (by omega),Int.add_zero,Ao (x:=(I:Int)*(C:Int)) (by omega) (by omega),Ao (x:=((I:Int)+1)*(C:Int)) (by omega) (by omega)]
 unfold K1
 have d1:decide ((0:Int)≤(I:Int)*(C:Int))=true:=Ars (by omega)
 have d2:decide ((I:Int)*(C:Int)≤((I:Int)+1)*(C:Int))=true:=Ars (by rw [e1,e2]; omega)
 have d3:decide ((0:Int)≤((I:Int)+1)*(C:Int))=true:=Ars (by omega)
 have d4:decide (((I:Int)+1)*(C:Int)≤(l.length:Int))=true:=Ars (by rw [e2]; omega)
 have d5:decide (0+(List.drop ((I:Int)*(C:Int)).toNat (List.take (((I:Int)+1)*(C:Int)).toNat l)).length≤Gy)=true:=by
  refine Ars ?_
  rw [List.length_drop,List.length_take]
  unfold Gy
  omega
 rw [d1,d2,d3,d4,d5]
 rfl
theorem H6 (c b i:Int) (n:Nat) (l:List Int):(C6 c l b i n).length=n:=by unfold C6; rw [Asy,Asv]
theorem Ak8 (r c:Int) (l:List Int) (k:Int):C6 c l k 0 (toNat (r-0))=Py r c l k:=by
 unfold C6 Py
 rw [Int.sub_zero]
 refine List.map_congr_left fun j _=>?_
 rw [Int.zero_add]
theorem Aa6 {r:Int} (h:0≤r):Br (0≤(0:Int)∧0≤r)=true:=Al.2 ⟨Int.le_refl _,h⟩
theorem Aiz (N:Nat) {R C K f:Nat} {l:List Int} (r6:R≤6) (c6:C≤6) (hl:l.length=R*C) (hk:K<C):∀ (k i F:Nat),f+i+k=R→k<F →
 Aa.Cr.L0 N F (R:Int) (C:Int) l (K:Int) ((f+i:Nat):Int) (C6 (C:Int) l (K:Int) (f:Int) i)=some (.ints (.own 100007 tB) .u64 (C6 (C:Int) l (K:Int) (f:Int) (R-f))):=by
 intro k
 induction k with
 | zero =>
   intro i F hi hF
   obtain ⟨F,rfl⟩:∃ G,F=G+1:=⟨F-1,by omega⟩
   rw [Aa.Cr.Au,Av,Arw (by omega),Arv,show R-f=i by omega]
 | succ k ih =>
   intro i F hi hF
   obtain ⟨F,rfl⟩:∃ G,F=G+1:=⟨F-1,by omega⟩
   have d:decide ((C6 (C:Int) l (K:Int) (f:Int) i).length+1≤Gy)=true:=Ars (by rw [H6]; unfold Gy; omega)
   rw [Aa.Cr.Au,Av,Ars (by omega),Arr,Aaz r6 c6 hl (show f+i<R by omega) hk,Arr,d,Arr,Ao (by omega) (by omega)]
   have:=ih (i+1) F (by omega) (by omega)
   unfold C6 at this ⊢
   rw [List.range_succ,List.map_append] at this
   exact this
theorem Aa.Cr.known:Aa.Cr.Kn:=Aa.Cr.Ad (.cons Aa.get.known .nil) fun r c l k f hp=>by
 obtain ⟨h0,hf⟩:=Af.1 (show (Gl r c l k&&Br (0≤f∧f≤r))=true from hp)
 have hf:=Al.1 hf
 obtain ⟨hr,hi⟩:=Af.1 h0
 have hi:=Al.1 hi
 obtain ⟨R,C,rfl,rfl,r6,c6,hl⟩:=Gm hr
 obtain ⟨K,rfl⟩:∃ j:Nat,k=j:=⟨k.toNat,by omega⟩
 obtain ⟨f,rfl⟩:∃ j:Nat,f=j:=⟨f.toNat,by omega⟩
 refine ⟨8,.ints (.own 100007 tB) .u64 (C6 (C:Int) l (K:Int) (f:Int) (R-f)),[100007],?_,?_⟩
 ·rw [Aa.Cr.ev]
  exact Aiz 8 r6 c6 hl (by omega) (R-f) 0 8 (by omega) (by omega)
 ·show Wk _ _ (DV.ints .fresh .u64 (C6 (C:Int) l (K:Int) (f:Int) (toNat ((R:Int)-(f:Int)))))
  rw [show toNat ((R:Int)-(f:Int))=R-f by omega]
  exact .drop _ _ _ _ (List.mem_singleton.2 rfl)
theorem Nx {r c i k:Int} {l:List Int} (h:Bo r c l=true) (h1:0≤i) (h2:i<r) (h3:0≤k) (h4:k<c) (R:Int):I4 R c l i k=true:=by
 obtain ⟨R',C,rfl,rfl,r6,c6,hl⟩:=Gm h
 obtain ⟨I,rfl⟩:∃ j:Nat,i=j:=⟨i.toNat,by omega⟩
 obtain ⟨K,rfl⟩:∃ j:Nat,k=j:=⟨k.toNat,by omega⟩
 exact Aaz r6 c6 hl (by omega) (by omega)
theorem Aa.Fl.known:Aa.Fl.Kn:=Aa.Fl.Ad .nil fun i k _=>by
 refine ⟨0,Aa.Fl.out [.i i,.i k],[],?_,.int⟩
 rw [Aa.Fl.ev]
 show _=some (DV.int .u64 (R7 i k))
 unfold R7
 by_cases h:i=k
 ·have:(i==k)=true:=by rw [h]; simp
  rw [this,Ase h]; rfl
 ·have:(i==k)=false:=by simpa using h
  rw [this,Asd h]; rfl
theorem Aa.D3.known:Aa.D3.Kn:=Aa.D3.Ad (.cons Aa.get.known .nil) fun i k r c l x y hp=>by
 obtain ⟨h1,h2⟩:=Af.1 hp
 have h2:=Al.1 h2
 refine ⟨0,Aa.D3.out [.i i,.i k,.i r,.i c,.l l,.i x,.i y],[],?_,.int⟩
 rw [Aa.D3.ev,Ao (x:=x+i) (by omega) (by omega),Ao (x:=y+k) (by omega) (by omega),h1]; rfl
theorem Aa.De.known:Aa.De.Kn:=Aa.De.Ad (.cons Aa.get.known .nil) fun i k r c l p q m hp=>by
 obtain ⟨h1,h2,h3,h4,h5⟩:=Al.1 (show J5 r c l p q m i k=true from hp)
 refine ⟨0,Aa.De.out [.i i,.i k,.i r,.i c,.l l,.i p,.i q,.l m],[],?_,.int⟩
 show _=some (DV.int .u64 (J6 r c l q m i k))
 rw [Aa.De.ev,Av,Ao (x:=i-r) (by omega) (by omega)]
 unfold J6
 by_cases h:i<r
 ·rw [Ase h] at h5
  rw [Ars h,Arr,h5,Arr,Ase h]
 ·rw [Asd h] at h5
  rw [Arw h,Arv,h5,Arr,Asd h]
theorem T7 {R C:Nat} {l:List Int} (hl:l.length=R*C) {I:Nat} (hi:I<R):(K1 (C:Int) l (I:Int)).length=C:=by
 have hle:(I+1)*C≤R*C:=Ar3 C (by omega)
 have e1:((I:Int)*(C:Int)).toNat=I*C:=by rw [← Asc,Art]
 have e2:(((I:Int)+1)*(C:Int)).toNat=(I+1)*C:=by
  have:((I:Int)+1)*(C:Int)=(((I+1)*C:Nat):Int):=by rw [Asc]; rfl
  rw [this,Art]
 unfold K1
 rw [List.length_drop,List.length_take,e1,e2]
 rw [Asw,Nat.one_mul] at hle ⊢
 omega
theorem Acl (R:Nat) (C:Int) (l:List Int) (K:Int):(Py (R:Int) C l K).length=R:=by
 unfold Py
 rw [Asy,Asv,Art]
theorem Aj3 {c i:Int} {l:List Int} (h:A1 l=true):A1 (K1 c l i)=true:=by
 have h:=Al.1 h
 exact Al.2 fun x hx=>h x (List.mem_of_mem_take (List.mem_of_mem_drop hx))
theorem Anu {c i k:Int} {l:List Int} (h:A1 l=true):Aj (Mr c l i k)=true:=by
 unfold Mr
 by_cases hj:(i*c+k).toNat<l.length
 ·exact Ys h hj
 ·rw [Ar1,Ata (by omega)]
  exact B6 (n:=0) (by decide)
theorem Ak9 {r c k:Int} {l:List Int} (h:A1 l=true):A1 (Py r c l k)=true:=by
 refine Al.2 fun x hx=>?_
 obtain ⟨j,_,rfl⟩:=List.mem_map.1 hx
 exact Anu h
theorem Aa.Fh.known:Aa.Fh.Kn:=Aa.Fh.Ad (.cons Aa.Cr.known (.cons Aa.Row.known (.cons Ac.Lv.known .nil))) fun i k r c l p q m hp=>by
 obtain ⟨h1,h2⟩:=Af.1 (show Pq r c l p q m i k=true from hp)
 obtain ⟨h3,h4⟩:=Af.1 h1
 obtain ⟨h5,h6⟩:=Af.1 h2
 obtain ⟨hl,hm⟩:=Af.1 h5
 obtain rfl:=Al.1 h6
 obtain ⟨hr,hi⟩:=Af.1 h3
 have hi:=Al.1 hi
 obtain ⟨R,C,rfl,rfl,r6,c6,ll⟩:=Gm hr
 obtain ⟨I,rfl⟩:∃ j:Nat,i=j:=⟨i.toNat,by omega⟩
 refine ⟨0,Aa.Fh.out [.i I,.i k,.i R,.i C,.l l,.i C,.i q,.l m],[],?_,.int⟩
 have hf:R4 (K1 (C:Int) l (I:Int)) (Py (C:Int) q m k)=true:=Yc.2 ⟨by rw [T7 ll (by omega),Acl],by rw [T7 ll (by omega)]; omega⟩
 rw [Aa.Fh.ev,Ak8,h3,h4,hf,Aj3 hl,Ak9 hm,Aa6 (by omega)]
 rfl
namespace EqCmp
def compare.Ic.Bh:List (Nat × Entry):=[(34,soft.Sign.spec)]
def compare.Ic.E:Env:=Bi (Bg compare.Ic.Bh) (fun _=>false) (fun _=>none) (fun _=>none)
theorem compare.Ic.ev (N:Nat) (b:Int):Bw compare.Ic.E N f35 (Aq f35) [.int .u64 b]=bif (Aj b) then bif (C9 b) then some (.int .i64 (Ab (0-(Ab (E0 .u64 b 9223372036854775808))))) else some (.int .i64 (Ab b)) else none:=by kernel_rfl
abbrev _root_.Go.Proofs.S1.compare.Ic.Kn:=A6 prog 35 compare.Ic.spec
theorem compare.Ic.Ad (hk:Ay prog compare.Ic.Bh) (h:Hyp compare.Ic.E f35 compare.Ic.ts compare.Ic.pre compare.Ic.out):compare.Ic.Kn :=
 Am (A2 hk _ _ _) func35 (by kernel_rfl) (by kernel_rfl) h
def compare.Order.Bh:List (Nat × Entry):=[(35,compare.Ic.spec),(31,soft.Kind.spec)]
def compare.Order.E:Env:=Bi (Bg compare.Order.Bh) (fun _=>false) (fun _=>none) (fun _=>none)
theorem compare.Order.ev (N:Nat) (a b:Int):Bw compare.Order.E N f14 (Aq f14) [.int .u64 a,.int .u64 b]=bif (Aj a) then bif ((Ba a)==(4:Int)) then some (.tup [.int .i64 0,.bool false]) else bif (Aj b) then bif ((Ba b)==(4:Int)) then some (.tup [.int .i64 0,.bool false]) else bif (Aj a) then bif (Aj b) then bif (A3 (Wj a) (Wj b)) then some (.tup [.int .i64 (-1:Int),.bool true]) else bif (Aj a) then bif (Aj b) then bif (A3 (Wj b) (Wj a)) then some (.tup [.int .i64 1,.bool true]) else some (.tup [.int .i64 0,.bool true]) else none else none else none else none else none else none:=by kernel_rfl
abbrev _root_.Go.Proofs.S1.compare.Order.Kn:=A6 prog 14 compare.Order.spec
theorem compare.Order.Ad (hk:Ay prog compare.Order.Bh) (h:Hyp compare.Order.E f14 compare.Order.ts compare.Order.pre compare.Order.out):compare.Order.Kn :=
 Am (A2 hk _ _ _) func14 (by kernel_rfl) (by kernel_rfl) h
def compare.Ij.Bh:List (Nat × Entry):=[(14,compare.Order.spec)]
def compare.Ij.E:Env:=Bi (Bg compare.Ij.Bh) (fun _=>false) (fun _=>none) (fun _=>none)
theorem compare.Ij.ev (N:Nat) (a b:Int):Bw compare.Ij.E N f8 (Aq f8) [.int .u64 a,.int .u64 b]=bif (Aj a&&Aj b) then some (.bool (A3 (Qr a b) 0)) else none:=by kernel_rfl
abbrev _root_.Go.Proofs.S1.compare.Ij.Kn:=A6 prog 8 compare.Ij.spec
theorem compare.Ij.Ad (hk:Ay prog compare.Ij.Bh) (h:Hyp compare.Ij.E f8 compare.Ij.ts compare.Ij.pre compare.Ij.out):compare.Ij.Kn :=
 Am (A2 hk _ _ _) func8 (by kernel_rfl) (by kernel_rfl) h
def compare.H3.Bh:List (Nat × Entry):=[]
def compare.H3.E:Env:=Bi (Bg compare.H3.Bh) (fun _=>false) (fun _=>none) (fun _=>none)
theorem compare.H3.ev (N:Nat) (a:Int):Bw compare.H3.E N f92 (Aq f92) [.int .u64 a]=some (.int .u64 (E0 .u64 a 9223372036854775808)):=by kernel_rfl
abbrev _root_.Go.Proofs.S1.compare.H3.Kn:=A6 prog 92 compare.H3.spec
theorem compare.H3.Ad (hk:Ay prog compare.H3.Bh) (h:Hyp compare.H3.E f92 compare.H3.ts compare.H3.pre compare.H3.out):compare.H3.Kn :=
 Am (A2 hk _ _ _) func92 (by kernel_rfl) (by kernel_rfl) h
def compare.Dn.hint:Nat→Option Bc
 | 1=>some { keep:=[0,6,7,8],objs:=[],boxes:=[] }
 | _=>none
def compare.Dn.Bh:List (Nat × Entry):=[(31,soft.Kind.spec),(33,soft.Cq.spec),(32,soft.Ea.spec),(34,soft.Sign.spec)]
def compare.Dn.E:Env:=Bi (Bg compare.Dn.Bh) (fun _=>false) compare.Dn.hint (fun _=>none)
section
variable (N M:Nat) (a n p6 p7:Int) (p8:Bool)
def compare.Dn.L0:Option DV:=B3 compare.Dn.E N f13 (Aq f13) [1,1,1,1,1,1,0,0] [] M ⟨G8 59 [(0,.int .u64 a),(6,.int .u64 p6),(7,.int .i64 p7),(8,.bool p8)],[]⟩
theorem compare.Dn.Au:compare.Dn.L0 N (M+1) a p6 p7 p8=bif ((A3 p7 (-1130:Int))&&(A3 1 p6)) then compare.Dn.L0 N M a (Ct .u64 p6 1) (Ab (p7+1)) (bif p8 then true else ((Dq .u64 p6 1)==(1:Int))) else bif (A3 p7 (-1130:Int)) then bif (Aj a) then bif (Dk 0 (-1074:Int) true) then some (.tup [.int .u64 (Dw (C9 a) 0 (-1074:Int) true),.int .u8 (Dv (C9 a) 0 (-1074:Int) true)]) else none else none else bif (Aj a) then bif (Dk p6 p7 p8) then some (.tup [.int .u64 (Dw (C9 a) p6 p7 p8),.int .u8 (Dv (C9 a) p6 p7 p8)]) else none else none :=
 Eq.trans (by kernel_rfl)
 (Aw (H0 (A3 p7 (-1130:Int))) (Aw (Fm (A3 p7 (-1130:Int))) (Aw (J3 (A3 p7 (-1130:Int))) (Df (Tt (A3 p7 (-1130:Int)) (A3 1 p6)) (Aw (Kl p8) (Aw (I9 p8) (Aw (I9 p8) (Aw (Mt p8) rfl)))) rfl))))
theorem compare.Dn.ev:Bw compare.Dn.E N f13 (Aq f13) [.int .u64 a,.int .i64 n]=bif (Aj a) then bif ((Ba a)==(4:Int)) then some (.tup [.int .u64 9221120237041090560,.int .u8 0]) else bif ((Ba a)==(3:Int)) then bif ((Ba a)==(3:Int)) then some (.tup [.int .u64 a,.int .u8 0]) else bif (Aj a) then compare.Dn.L0 N N a (Bk a) (Ab ((A7 a)+(max (-2300:Int) (min 2300 n)))) false else none else bif ((Ba a)==(0:Int)) then some (.tup [.int .u64 a,.int .u8 0]) else bif (Aj a) then compare.Dn.L0 N N a (Bk a) (Ab ((A7 a)+(max (-2300:Int) (min 2300 n)))) false else none else none:=by kernel_rfl
end
abbrev _root_.Go.Proofs.S1.compare.Dn.Kn:=A6 prog 13 compare.Dn.spec
theorem compare.Dn.Ad (hk:Ay prog compare.Dn.Bh) (h:Hyp compare.Dn.E f13 compare.Dn.ts compare.Dn.pre compare.Dn.out):compare.Dn.Kn :=
 Am (A2 hk _ _ _) func13 (by kernel_rfl) (by kernel_rfl) h
def Ac.Bf.Bh:List (Nat × Entry):=[(13,compare.Dn.spec)]
def Ac.Bf.E:Env:=Bi (Bg Ac.Bf.Bh) (fun _=>false) (fun _=>none) (fun _=>none)
theorem Ac.Bf.ev (N:Nat) (a n:Int):Bw Ac.Bf.E N f7 (Aq f7) [.int .u64 a,.int .i64 n]=bif (C0 a n) then some (.int .u64 (Bs a n)) else none:=by kernel_rfl
abbrev _root_.Go.Proofs.S1.Ac.Bf.Kn:=A6 prog 7 Ac.Bf.spec
theorem Ac.Bf.Ad (hk:Ay prog Ac.Bf.Bh) (h:Hyp Ac.Bf.E f7 Ac.Bf.ts Ac.Bf.pre Ac.Bf.out):Ac.Bf.Kn :=
 Am (A2 hk _ _ _) func7 (by kernel_rfl) (by kernel_rfl) h
def Ac.Div.Bh:List (Nat × Entry):=[(134,times.Div.spec)]
def Ac.Div.E:Env:=Bi (Bg Ac.Div.Bh) (fun _=>false) (fun _=>none) (fun _=>none)
theorem Ac.Div.ev (N:Nat) (a b:Int):Bw Ac.Div.E N f109 (Aq f109) [.int .u64 a,.int .u64 b]=bif (Aj a&&Aj b) then some (.int .u64 (Gj a b)) else none:=by kernel_rfl
abbrev _root_.Go.Proofs.S1.Ac.Div.Kn:=A6 prog 109 Ac.Div.spec
theorem Ac.Div.Ad (hk:Ay prog Ac.Div.Bh) (h:Hyp Ac.Div.E f109 Ac.Div.ts Ac.Div.pre Ac.Div.out):Ac.Div.Kn :=
 Am (A2 hk _ _ _) func109 (by kernel_rfl) (by kernel_rfl) h
def Ac.Ce.hint:Nat→Option Bc
 | 0=>some { keep:=[3,6,7,8],objs:=[],boxes:=[] }
 | _=>none
def Ac.Ce.Bh:List (Nat × Entry):=[(92,compare.H3.spec),(31,soft.Kind.spec)]
def Ac.Ce.E:Env:=Bi (Bg Ac.Ce.Bh) (fun _=>false) Ac.Ce.hint (fun _=>none)
section
variable (N M:Nat) (x:List Int) (p3 p8:Int)
def Ac.Ce.L0:Option DV:=B3 Ac.Ce.E N f60 (Aq f60) [1,1,0,1,0] [] M ⟨G8 21 [(3,.int .u64 p3),(6,.ints .arg .u64 x),(7,.int .i64 (length x:Int)),(8,.int .i64 p8)],[]⟩
theorem Ac.Ce.Au:Ac.Ce.L0 N (M+1) x p3 p8=bif (A3 p8 (length x:Int)) then bif ((decide (0≤p8))&&(decide (p8<(length x:Int)))) then bif (Aj (getD x (toNat p8) 0)) then bif ((Ba (getD x (toNat p8) 0))==(4:Int)) then some (.int .u64 9221120237041090560) else bif (Aj (getD x (toNat p8) 0)) then Ac.Ce.L0 N M x (max p3 (Ahs (getD x (toNat p8) 0))) (Ab (p8+1)) else none else none else none else some (.int .u64 p3):=by kernel_rfl
theorem Ac.Ce.ev:Bw Ac.Ce.E N f60 (Aq f60) [.ints .arg .u64 x] =
 Ac.Ce.L0 N N x 0 0:=by kernel_rfl
end
abbrev _root_.Go.Proofs.S1.Ac.Ce.Kn:=A6 prog 60 Ac.Ce.spec
theorem Ac.Ce.Ad (hk:Ay prog Ac.Ce.Bh) (h:Hyp Ac.Ce.E f60 Ac.Ce.ts Ac.Ce.pre Ac.Ce.out):Ac.Ce.Kn :=
 Am (A2 hk _ _ _) func60 (by kernel_rfl) (by kernel_rfl) h
def Ac.Finite.hint:Nat→Option Bc
 | 0=>some { keep:=[5,6,7],objs:=[],boxes:=[] }
 | _=>none
def Ac.Finite.Bh:List (Nat × Entry):=[(71,soft.Finite.spec)]
def Ac.Finite.E:Env:=Bi (Bg Ac.Finite.Bh) (fun _=>false) Ac.Finite.hint (fun _=>none)
section
variable (N M:Nat) (x:List Int) (p7:Int)
def Ac.Finite.L0:Option DV:=B3 Ac.Finite.E N f28 (Aq f28) [1,0,1,0] [] M ⟨G8 15 [(5,.ints .arg .u64 x),(6,.int .i64 (length x:Int)),(7,.int .i64 p7)],[]⟩
theorem Ac.Finite.Au:Ac.Finite.L0 N (M+1) x p7=bif (A3 p7 (length x:Int)) then bif ((decide (0≤p7))&&(decide (p7<(length x:Int)))) then bif (Aj (getD x (toNat p7) 0)) then bif (!(Da (getD x (toNat p7) 0))) then some (.bool false) else Ac.Finite.L0 N M x (Ab (p7+1)) else none else none else some (.bool true):=by kernel_rfl
theorem Ac.Finite.ev:Bw Ac.Finite.E N f28 (Aq f28) [.ints .arg .u64 x] =
 Ac.Finite.L0 N N x 0:=by kernel_rfl
end
abbrev _root_.Go.Proofs.S1.Ac.Finite.Kn:=A6 prog 28 Ac.Finite.spec
theorem Ac.Finite.Ad (hk:Ay prog Ac.Finite.Bh) (h:Hyp Ac.Finite.E f28 Ac.Finite.ts Ac.Finite.pre Ac.Finite.out):Ac.Finite.Kn :=
 Am (A2 hk _ _ _) func28 (by kernel_rfl) (by kernel_rfl) h
def Cd.Check.hint:Nat→Option Bc
 | 0=>some { keep:=[9,10,11],objs:=[],boxes:=[] }
 | _=>none
def Cd.Check.Bh:List (Nat × Entry):=[(57,Aa.Check.spec),(71,soft.Finite.spec)]
def Cd.Check.E:Env:=Bi (Bg Cd.Check.Bh) (fun _=>false) Cd.Check.hint (fun _=>none)
section
variable (N:Nat) (r c:Int) (M:Nat) (l:List Int) (p11:Int)
def Cd.Check.L0:Option DV:=B3 Cd.Check.E N f51 (Aq f51) [1,1,0,1,0] [] M ⟨G8 19 [(9,.ints .arg .u64 l),(10,.int .i64 (length l:Int)),(11,.int .i64 p11)],[]⟩
theorem Cd.Check.Au:Cd.Check.L0 N (M+1) l p11=bif (A3 p11 (length l:Int)) then bif ((decide (0≤p11))&&(decide (p11<(length l:Int)))) then bif (Aj (getD l (toNat p11) 0)) then bif (!(Da (getD l (toNat p11) 0))) then some (.int .i64 4) else Cd.Check.L0 N M l (Ab (p11+1)) else none else none else some (.int .i64 0):=by kernel_rfl
theorem Cd.Check.ev:Bw Cd.Check.E N f51 (Aq f51) [.agg [.int .i64 r,.int .i64 c,.ints .arg .u64 l]]=bif ((Kf r c l) !=(0:Int)) then some (.int .i64 1) else Cd.Check.L0 N N l 0:=by kernel_rfl
end
abbrev _root_.Go.Proofs.S1.Cd.Check.Kn:=A6 prog 51 Cd.Check.spec
theorem Cd.Check.Ad (hk:Ay prog Cd.Check.Bh) (h:Hyp Cd.Check.E f51 Cd.Check.ts Cd.Check.pre Cd.Check.out):Cd.Check.Kn :=
 Am (A2 hk _ _ _) func51 (by kernel_rfl) (by kernel_rfl) h
end EqCmp
open EqCmp
theorem Oj {k j:Nat} (h:k≠j):(((k:Nat):Int)==((j:Nat):Int))=false:=by rw [Asn]; omega
theorem Aa9 (n:Nat):n%2^63<2^63:=Nat.mod_lt _ (by decide)
theorem Vn {n:Nat} (h:n<2^64):E0 .u64 (n:Int) (9223372036854775808:Int)=((n%2^63:Nat):Int):=by
 have:=Mk (Bu n) (Aa9 n)
 rw [Jv h] at this
 exact this
theorem compare.H3.known:compare.H3.Kn:=compare.H3.Ad .nil fun a hp=>by
 obtain ⟨n,rfl,hn⟩:=Bt (show Aj a=true from hp)
 refine ⟨0,compare.H3.out [.i (n:Int)],[],?_,.int⟩
 show _=some (DV.int .u64 (((n:Int).toNat%2^63:Nat):Int))
 rw [compare.H3.ev,Vn hn,Art]
theorem compare.Ic.known:compare.Ic.Kn:=compare.Ic.Ad (.cons soft.Sign.known .nil) fun b hp=>by
 have hp:Aj b=true:=hp
 obtain ⟨n,rfl,hn⟩:=Bt hp
 refine ⟨0,compare.Ic.out [.i (n:Int)],[],?_,.int⟩
 show _=some (DV.int .i64 (E6 (n:Int).toNat))
 have h63:=Aa9 n
 rw [compare.Ic.ev,hp,Arr,Vn hn,Art]
 unfold E6 Gz C9
 rw [Art]
 cases hs:Bu n with
 | true =>
   rw [Arr,Ase rfl,Ao (x:=((n%2^63:Nat):Int)) (by omega) (by omega),Ao (by omega) (by omega)]
   congr 2; omega
 | false =>
   have:n<2^63:=by
    unfold Bu at hs
    have:=of_decide_eq_false hs
    omega
   rw [Arv,Asd (by decide),Ar4 this,Ao (by omega) (by omega)]
theorem compare.Order.known:compare.Order.Kn:=compare.Order.Ad (.cons compare.Ic.known (.cons soft.Kind.known .nil)) fun a b hp=>by
 obtain ⟨ha,hb⟩:=Af.1 (show (Aj a&&Aj b)=true from hp)
 refine ⟨0,compare.Order.out [.i a,.i b],[],?_,Wk.E5 (.cons .int (.cons .bool .nil))⟩
 show _=some (DV.tup [.int .i64 (Ag7 a.toNat b.toNat),.bool (Ag8 a.toNat b.toNat)])
 rw [compare.Order.ev,ha,hb,Arr,Arr,Arr,Arr,Arr,Arr,Av,Av]
 unfold Ag7 Ag8 Wj Ba
 by_cases h1:Ag a.toNat=4
 ·have e:(((Ag a.toNat:Nat):Int)==(4:Int))=true:=by rw [h1]; rfl
  rw [e,Arr,Ase (.inl h1),Ars (.inl h1)]; rfl
 ·have e:(((Ag a.toNat:Nat):Int)==(4:Int))=false:=Oj h1
  rw [e,Arv]
  by_cases h2:Ag b.toNat=4
  ·have e:(((Ag b.toNat:Nat):Int)==(4:Int))=true:=by rw [h2]; rfl
   rw [e,Arr,Ase (.inr h2),Ars (.inr h2)]; rfl
  ·have e:(((Ag b.toNat:Nat):Int)==(4:Int))=false:=Oj h2
   have hn:¬ (Ag a.toNat=4∨Ag b.toNat=4):=fun h=>h.elim h1 h2
   rw [e,Arv,Asd hn,Arw hn]
   by_cases h3:E6 a.toNat<E6 b.toNat
   ·rw [Ars h3,Ase h3]; rfl
   ·rw [Arw h3,Asd h3]
    by_cases h4:E6 b.toNat<E6 a.toNat
    ·rw [Ars h4,Ase h4]; rfl
    ·rw [Arw h4,Asd h4]; rfl
theorem compare.Ij.known:compare.Ij.Kn:=compare.Ij.Ad (.cons compare.Order.known .nil) fun a b hp=>by
 have hp:(Aj a&&Aj b)=true:=hp
 refine ⟨0,compare.Ij.out [.i a,.i b],[],?_,.bool⟩
 rw [compare.Ij.ev,hp,Av]; rfl
theorem Abl (N:Nat) {a:Int} (ha:Aj a=true):∀ (k F m:Nat) (e:Int) (b:Bool),e=-1130-(k:Int)→k<F→m<2^53→(m≠0∨b=true)→-9000<e →
 compare.Dn.L0 N F a (m:Int) e b=some (.tup [.int .u64 (((Be (Bu a.toNat) 0,3):Nat × Nat).1:Nat),.int .u8 (((Be (Bu a.toNat) 0,3):Nat × Nat).2:Nat)]):=by
 have pre1:Dk (0:Int) (-1074:Int) true=true:=Al.2 (by omega)
 intro k
 induction k with
 | zero =>
   intro F m e b he hF hm h0 _
   obtain ⟨F,rfl⟩:∃ G,F=G+1:=⟨F-1,by omega⟩
   have hlt:A3 e (-1130:Int)=false:=by rw [Av]; exact Arw (by omega)
   have Oy:Dk (m:Int) e b=true:=Al.2 (by omega)
   rw [compare.Dn.Au,hlt,Bool.false_and,Arv,Arv,ha,Arr,Oy,Arr]
   unfold Dw Dv C9
   rw [Art,Ae1 _ hm h0 (by omega)]
 | succ k ih =>
   intro F m e b he hF hm h0 hb
   obtain ⟨F,rfl⟩:∃ G,F=G+1:=⟨F-1,by omega⟩
   have hlt:A3 e (-1130:Int)=true:=by rw [Av]; exact Ars (by omega)
   rw [compare.Dn.Au,hlt,As5,Arr,Av]
   by_cases h1:(1:Int)<(m:Int)
   ·have em:Ct .u64 (m:Int) (1:Int)=((m / 2^1:Nat):Int):=F4 .u64 m 1 (by decide)
    rw [Ars h1,Arr,em,Ao (by omega) (by omega)]
    exact ih F (m / 2^1) (e+1) _ (by omega) (by omega) (by omega) (.inl (by omega)) (by omega)
   ·rw [Arw h1,Arv,ha,Arr,pre1,Arr]
    unfold Dw Dv C9
    rw [show (0:Int).toNat=0 from rfl,Ahh]
theorem compare.Dn.known:compare.Dn.Kn:=compare.Dn.Ad (.cons soft.Kind.known (.cons soft.Cq.known (.cons soft.Ea.known (.cons soft.Sign.known .nil)))) fun a n hp=>by
 obtain ⟨ha,hn⟩:=Af.1 (show C0 a n=true from hp)
 have hn:=Al.1 hn
 refine ⟨3000,compare.Dn.out [.i a,.i n],[],?_,Wk.E5 (.cons .int (.cons .int .nil))⟩
 show _=some (DV.tup [.int .u64 ((Ew a.toNat n).1:Nat),.int .u8 ((Ew a.toNat n).2:Nat)])
 have em:max (-2300:Int) (min (2300:Int) n)=n:=by omega
 have pE:=Dt a.toNat
 have pM:=Er a.toNat
 have ee:Ab (A7 a+n)=Ax a.toNat+n:=by unfold A7; exact Ao (by omega) (by omega)
 rw [compare.Dn.ev,ha,Arr,Arr,em,ee]
 unfold Ba
 by_cases h4:Ag a.toNat=4
 ·have e:(((Ag a.toNat:Nat):Int)==(4:Int))=true:=by rw [h4]; rfl
  rw [e,Arr]
  unfold Ew
  rw [Ase h4]; rfl
 have e4:(((Ag a.toNat:Nat):Int)==(4:Int))=false:=Oj h4
 rw [e4,Arv]
 by_cases h3:Ag a.toNat=3
 ·have e:(((Ag a.toNat:Nat):Int)==(3:Int))=true:=by rw [h3]; rfl
  obtain ⟨k,rfl,hk⟩:=Bt ha
  rw [e,Arr,Arr]
  unfold Ew
  rw [Asd h4,Ase (.inl h3),Art]; rfl
 have e3:(((Ag a.toNat:Nat):Int)==(3:Int))=false:=Oj h3
 rw [e3,Arv]
 by_cases h0:Ag a.toNat=0
 ·have e:(((Ag a.toNat:Nat):Int)==(0:Int))=true:=by rw [h0]; rfl
  obtain ⟨k,rfl,hk⟩:=Bt ha
  rw [e,Arr]
  unfold Ew
  rw [Asd h4,Ase (.inr h0),Art]; rfl
 have e0:(((Ag a.toNat:Nat):Int)==(0:Int))=false:=Oj h0
 have hk:¬ (Ag a.toNat=3∨Ag a.toNat=0):=fun h=>h.elim h3 h0
 have hm:Ar a.toNat≠0:=fun h=>h0 ((Ha h3 h4).1 h)
 rw [e0,Arv]
 show compare.Dn.L0 3000 3000 a (Ar a.toNat:Nat) (Ax a.toNat+n) false=_
 by_cases ht:Ax a.toNat+n≤-1130
 ·rw [Abk h4 hk ht]
  exact Abl 3000 ha (-1130-(Ax a.toNat+n)).toNat 3000 _ _ false (by omega) (by omega) (by omega) (.inl hm) (by omega)
 ·have hlt:A3 (Ax a.toNat+n) (-1130:Int)=false:=by rw [Av]; exact Arw (by omega)
  have Oy:Dk ((Ar a.toNat:Nat):Int) (Ax a.toNat+n) false=true:=Al.2 ⟨by omega,by omega,by omega,by omega,fun h=>by cases h⟩
  rw [Aef h4 hk,show (3000:Nat)=2999+1 from rfl,compare.Dn.Au,hlt,Bool.false_and,Arv,Arv,ha,Arr,Oy,Arr]
  unfold Dw Dv C9
  rw [Art,Sq]
theorem Ac.Bf.known:Ac.Bf.Kn:=Ac.Bf.Ad (.cons compare.Dn.known .nil) fun a n hp=>by
 have hp:C0 a n=true:=hp
 refine ⟨0,Ac.Bf.out [.i a,.i n],[],?_,.int⟩
 rw [Ac.Bf.ev,hp]; rfl
theorem Ac.Div.known:Ac.Div.Kn:=Ac.Div.Ad (.cons times.Div.known .nil) fun a b hp=>by
 have hp:(Aj a&&Aj b)=true:=hp
 refine ⟨0,Ac.Div.out [.i a,.i b],[],?_,.int⟩
 rw [Ac.Div.ev,hp]; rfl
theorem Jz {l:List Int} {i:Nat} (h:i<l.length):l.drop i=l.getD i 0::l.drop (i+1):=by
 rw [List.drop_eq_getElem_cons h,Ar1,Ar8 h]; rfl
theorem Im {l:List Int} (h:Cj l=true):l.length<4611686018427387904∧∀ j,j<l.length→Aj (l.getD j 0)=true:=by
 obtain ⟨h1,h2⟩:=Al.1 h
 exact ⟨h1,fun j hj=>by rw [Ar1,Ar8 hj]; exact h2 _ (List.getElem_mem hj)⟩
theorem Po {l:List Int} (h:A1 l=true) (hl:l.length≤1000):Cj l=true:=Al.2 ⟨by omega,Al.1 h⟩
theorem Aaj (N:Nat) {x:List Int} (hx:Cj x=true):∀ (k i F:Nat),i+k=x.length→k<F→Ac.Finite.L0 N F x (i:Int)=some (.bool ((x.drop i).all Da)):=by
 obtain ⟨hl,hu⟩:=Im hx
 intro k
 induction k with
 | zero =>
   intro i F hi hF
   obtain ⟨F,rfl⟩:∃ G,F=G+1:=⟨F-1,by omega⟩
   rw [Ac.Finite.Au,Av,Arw (by omega),Arv,Ar5 (by omega)]; rfl
 | succ k ih =>
   intro i F hi hF
   obtain ⟨F,rfl⟩:∃ G,F=G+1:=⟨F-1,by omega⟩
   rw [Ac.Finite.Au,Av,Ars (show (i:Int)<(x.length:Int) by omega),Arr,Ars (show (0:Int)≤(i:Int) by omega),Arx,Arr,Art,hu i (by omega),Arr,Jz (by omega),List.all_cons]
   cases Da (x.getD i 0) with
   | false=>rfl
   | true =>
     rw [Asr,Arv,Ao (by omega) (by omega),As5]
     exact ih (i+1) F (by omega) (by omega)
theorem Ac.Finite.known:Ac.Finite.Kn:=Ac.Finite.Ad (.cons soft.Finite.known .nil) fun x hp=>by
 have hp:Cj x=true:=hp
 refine ⟨x.length+1,Ac.Finite.out [.l x],[],?_,.bool⟩
 show _=some (DV.bool (x.all Da))
 rw [Ac.Finite.ev]
 exact Aaj _ hp x.length 0 (x.length+1) (by omega) (by omega)
theorem Afw {x:List Int} {i:Nat} (h:i<x.length) (m:Nat):Yn (x.drop i) m=if Ag (x.getD i 0).toNat=4 then Vq else Yn (x.drop (i+1)) (max m (G4 (x.getD i 0).toNat)):=by
 rw [Jz h]; rfl
theorem Ym (N:Nat) {x:List Int} (hx:Cj x=true):∀ (k i F m:Nat),i+k=x.length→k<F→Ac.Ce.L0 N F x (m:Int) (i:Int)=some (.int .u64 ((Yn (x.drop i) m:Nat):Int)):=by
 obtain ⟨hl,hu⟩:=Im hx
 intro k
 induction k with
 | zero =>
   intro i F m hi hF
   obtain ⟨F,rfl⟩:∃ G,F=G+1:=⟨F-1,by omega⟩
   rw [Ac.Ce.Au,Av,Arw (by omega),Arv,Ar5 (by omega)]; rfl
 | succ k ih =>
   intro i F m hi hF
   obtain ⟨F,rfl⟩:∃ G,F=G+1:=⟨F-1,by omega⟩
   rw [Ac.Ce.Au,Av,Ars (show (i:Int)<(x.length:Int) by omega),Arr,Ars (show (0:Int)≤(i:Int) by omega),Arx,Arr,Art,hu i (by omega),Arr,Afw (by omega)]
   unfold Ba
   by_cases h4:Ag (x.getD i 0).toNat=4
   ·have e:(((Ag (x.getD i 0).toNat:Nat):Int)==(4:Int))=true:=by rw [h4]; rfl
    rw [e,Arr,Ase h4]; rfl
   ·have e:(((Ag (x.getD i 0).toNat:Nat):Int)==(4:Int))=false:=Oj h4
    have em:max (m:Int) (Ahs (x.getD i 0))=((max m (G4 (x.getD i 0).toNat):Nat):Int):=by unfold Ahs; omega
    rw [e,Arv,Arr,Asd h4,em,Ao (by omega) (by omega)]
    exact ih (i+1) F _ (by omega) (by omega)
theorem Ac.Ce.known:Ac.Ce.Kn:=Ac.Ce.Ad (.cons compare.H3.known (.cons soft.Kind.known .nil)) fun x hp=>by
 have hp:Cj x=true:=hp
 refine ⟨x.length+1,Ac.Ce.out [.l x],[],?_,.int⟩
 rw [Ac.Ce.ev]
 exact Ym _ hp x.length 0 (x.length+1) 0 (by omega) (by omega)
theorem Yl (N:Nat) {x:List Int} (hx:Cj x=true):∀ (k i F:Nat),i+k=x.length→k<F→Cd.Check.L0 N F x (i:Int)=some (.int .i64 (if (x.drop i).all Da=true then 0 else 4)):=by
 obtain ⟨hl,hu⟩:=Im hx
 intro k
 induction k with
 | zero =>
   intro i F hi hF
   obtain ⟨F,rfl⟩:∃ G,F=G+1:=⟨F-1,by omega⟩
   rw [Cd.Check.Au,Av,Arw (by omega),Arv,Ar5 (by omega)]; rfl
 | succ k ih =>
   intro i F hi hF
   obtain ⟨F,rfl⟩:∃ G,F=G+1:=⟨F-1,by omega⟩
   rw [Cd.Check.Au,Av,Ars (show (i:Int)<(x.length:Int) by omega),Arr,Ars (show (0:Int)≤(i:Int) by omega),Arx,Arr,Art,hu i (by omega),Arr,Jz (by omega),List.all_cons]
   cases Da (x.getD i 0) with
   | false=>rfl
   | true =>
     rw [Asr,Arv,Ao (by omega) (by omega),As5]
     exact ih (i+1) F (by omega) (by omega)
theorem Ro {r c:Int} {l:List Int} (h:Bo r c l=true):l.length≤36:=by
 obtain ⟨R,C,rfl,rfl,r6,c6,hl⟩:=Gm h
 have:=Aso r6 c6
 omega
theorem Cd.Check.known:Cd.Check.Kn:=Cd.Check.Ad (.cons Aa.Check.known (.cons soft.Finite.known .nil)) fun r c l hp=>by
 have hp:A1 l=true:=hp
 refine ⟨l.length+1,Cd.Check.out [.i r,.i c,.l l],[],?_,.int⟩
 show _=some (DV.int .i64 (Et r c l))
 rw [Cd.Check.ev]
 unfold Kf Et D2
 by_cases h:Bo r c l=true
 ·have:=Ro h
  rw [Ase h,Ase h]
  have e:((0:Int) !=(0:Int))=false:=by decide
  rw [e,Arv]
  exact Yl _ (Po hp (by omega)) l.length 0 (l.length+1) (by omega) (by omega)
 ·rw [Asd h,Asd h]; rfl
open Go Go.Den Go.Rnd Go.Proofs Ieee
end Go.Proofs.S1
namespace Go.Rnd
open Go.Den
theorem Acj {P root rest two:Nat} (h1:P=root*root+rest) (h2:rest≤2*root) (h3:two<4) :
 (4*root+1≤4*rest+two→4*P+two=(2*root+1)*(2*root+1)+(4*rest+two-(4*root+1))∧4*rest+two-(4*root+1)≤2*(2*root+1)) ∧
 (4*rest+two<4*root+1→4*P+two=(2*root)*(2*root)+(4*rest+two)∧4*rest+two≤2*(2*root)):=by
 have e1:(2*root+1)*(2*root+1)=4*(root*root)+(4*root+1):=by
  rw [Asw,Nat.mul_add,Nat.mul_add]
  have:2*root*(2*root)=4*(root*root):=by rw [Nat.mul_mul_mul_comm]
  omega
 have e2:(2*root)*(2*root)=4*(root*root):=by rw [Nat.mul_mul_mul_comm]
 constructor
 ·intro h; rw [e1]; omega
 ·intro h; rw [e2]; omega
theorem Aj4 {P root rest:Nat} (h1:P=root*root+rest) (h2:rest≤2*root):root=P6 P:=by
 refine U1 (by omega) ?_
 have:(root+1)*(root+1)=root*root+2*root+1:=by rw [Asw,Nat.mul_add]; omega
 omega
end Go.Rnd
namespace Go.Rnd
open Go.Den
theorem Ji:Aj (0:Int)=true:=B6 (n:=0) (by decide)
theorem Ag9:Aj Am8=true:=B6 (n:=4607182418800017408) (by decide)
theorem Aeg {b:Nat} {n:Int} (h:b<2^64):(Ew b n).1<2^64:=by
 unfold Ew
 by_cases h4:Ag b=4
 ·rw [Ase h4]; exact (by decide:Vq<2^64)
 rw [Asd h4]
 by_cases h3:Ag b=3∨Ag b=0
 ·rw [Ase h3]; exact h
 rw [Asd h3]
 exact Qb _ _ _
theorem Iu {b n:Int} (h:Aj b=true):Aj (Bs b n)=true:=by
 obtain ⟨x,rfl,hx⟩:=Bt h
 exact B6 (Aeg (by rw [Art]; exact hx))
theorem To (b:Nat):G4 b<2^63:=Nat.mod_lt _ (by decide)
theorem Vk:∀ (l:List Int) (m:Nat),m<2^64→Yn l m<2^64
 | [],m,h=>h
 | x::l,m,h=>by
   unfold Yn
   split
   ·exact (by decide:Vq<2^64)
   ·have h2:=To x.toNat
    exact Vk l _ (by omega)
theorem Vl (l:List Int):Aj (Bd l)=true:=B6 (Vk l 0 (by decide))
theorem Aje {a b:Int} (ha:Aj a=true) (hb:Aj b=true):Aj (Jh a b)=true:=by
 obtain ⟨x,rfl,hx⟩:=Bt ha
 obtain ⟨y,rfl,hy⟩:=Bt hb
 exact B6 (Tn (by rw [Art]; exact hx) (by rw [Art]; exact hy)).1
theorem Zz {a:Int} (ha:Aj a=true):Aj (Dc a)=true:=by
 obtain ⟨x,rfl,hx⟩:=Bt ha
 exact B6 (Rz (by rw [Art]; exact hx))
theorem Agq {b:Nat} (h:b<2^64):(Mm b).1<2^64:=by
 by_cases h4:Ag b=4
 ·rw [Ze h4]; exact (by decide:Vq<2^64)
 by_cases h0:Ag b=0∨b=Dy
 ·rw [Rj h4 h0]; exact h
 cases hn:Bu b with
 | true=>rw [Zd h4 h0 hn]; exact (by decide:Vq<2^64)
 | false =>
   unfold Mm
   rw [Asd h4,Asd h0,hn,Asd (by decide)]
   exact Nat.lt_trans (Tb _ _) (by decide)
theorem Ac4 {a:Int} (ha:Aj a=true):Aj (Gw a)=true:=by
 obtain ⟨x,rfl,hx⟩:=Bt ha
 exact B6 (Agq (by rw [Art]; exact hx))
theorem Agn (k:Int):∀ (l:List Int) {s:Int},Aj s=true→Aj (Abh k s l)=true
 | [],_,h=>h
 | _::l,_,h=>Agn k l (Aje h (Ry _ _))
theorem Xz (x:List Int):Aj (Db x)=true:=by
 unfold Db
 split
 ·exact Vl x
 ·exact Iu (Ac4 (Agn _ _ Ji))
theorem Ao4 (x:List Int):Aj (muI x)=true:=by
 unfold muI
 split
 ·exact Xz _
 ·exact Zz (Xz _)
theorem Alm (x:List Int):Aj (G3 x)=true:=Iu (Ao4 x)
theorem Afn (b:Nat):-1100≤Ain b∧Ain b≤1100:=by
 unfold Ain
 split
 ·have h1:=Dt b
  have h2:=Er b
  rename_i h
  have h3:(Ar b).log2<53:=by
   by_cases h0:Ar b=0
   ·rw [h0]; decide
   ·exact (As8 h0).2 h2
  omega
 ·omega
theorem Ail (x:Int):-1100≤Bn x∧Bn x≤1100:=Afn x.toNat
theorem Lt {l:List Int} (h:A1 l=true) (j:Nat):Aj (l.getD j 0)=true:=Aky (Al.1 h) j
theorem Ov {l:List Int} (h:∀ x∈l,Aj x=true):A1 l=true:=Al.2 h
theorem Ajd:A1 []=true:=Ov fun _ h=>by cases h
theorem Aa1 {α:Type} {l:List α} {f:α→Int} (h:∀ j,Aj (f j)=true):A1 (l.map f)=true:=Ov fun x hx=>by
 obtain ⟨j,_,rfl⟩:=List.mem_map.1 hx
 exact h j
theorem Af2 {x:Int} {l:List Int} (h1:Aj x=true) (h2:A1 l=true):A1 (x::l)=true:=Ov fun y hy=>by
 rcases List.mem_cons.1 hy with rfl | hy
 ·exact h1
 ·exact Al.1 h2 y hy
theorem Tm {c i k:Int} {l:List Int} (h:A1 l=true):Aj (Mr c l i k)=true:=Lt h _
theorem Zi (c b i:Int) (n:Nat) (l:List Int):(C6 c l b i n).length=n:=by unfold C6; rw [Asy,Asv]
theorem Rm {c b i:Int} {n:Nat} {l:List Int} (h:A1 l=true):A1 (C6 c l b i n)=true:=Aa1 fun _=>Tm h
theorem Agz (n:Nat) {f:Nat→Int} (h:∀ j,Aj (f j)=true):A1 (H7 n f)=true:=Af2 Ag9 (Aa1 fun _=>h _)
theorem Qj {n:Nat} (h:n≠0) (f:Nat→Int):(H7 n f).length=n:=by
 unfold H7
 rw [List.length_cons,Asy,Asv]
 omega
theorem Th {x:List Int} (h:A1 x=true):A1 (Cb x).1=true∧Aj (Cb x).2.1=true∧Aj (Cb x).2.2.1=true:=by
 have hz:A1 []=true∧Aj (0:Int)=true∧Aj (0:Int)=true:=⟨Ajd,Ji,Ji⟩
 unfold Cb
 split
 ·exact hz
 split
 ·unfold Akk
  split
  ·dsimp only
   exact ⟨Agz _ fun _=>Ji,Ji,Lt h 0⟩
  ·split
   ·dsimp only
    exact ⟨Agz _ fun _=>Aiv _ _,Aiv _ _,Alm x⟩
   ·exact hz
 ·exact hz
theorem Uo {x:List Int} (h:(Cb x).2.2.2=0):(Cb x).1.length=x.length:=by
 unfold Cb at h ⊢
 by_cases h1:x.length=0∨64<x.length
 ·rw [Ase h1] at h; exact absurd h (by decide)
 rw [Asd h1] at h ⊢
 by_cases h2:D2 x=true
 ·rw [Ase h2] at h ⊢
  unfold Akk at h ⊢
  by_cases h3:Ix (x.drop 1)=true
  ·rw [Ase h3]; dsimp only; exact Qj (n:=x.length) (by omega) _
  ·rw [Asd h3] at h ⊢
   by_cases h4:Da (G3 x)=true
   ·rw [Ase h4]; dsimp only [Zw]; exact Qj (n:=x.length) (by omega) _
   ·rw [Asd h4] at h; exact absurd h (by decide)
 ·rw [Asd h2] at h; exact absurd h (by decide)
theorem Adu (x y:List Int):Aj (Oz x y)=true:=B6 (Yi x y 0 (by decide))
theorem Af0 {c i k t a b:Int} {l v:List Int} (h:A1 l=true):Aj (Ny c l i k v t a b)=true:=by
 unfold Ny
 split
 ·exact Tw (Tm h) (Ry _ _)
 ·exact Tm h
theorem Xc {r c:Nat} {l:List Int} (h:A1 l=true) (i k:Int) (v:List Int) (t:Int):A1 (Fg r c l i k v t)=true:=Yb fun _ _=>Af0 h
theorem K7 (r c:Nat) (l:List Int) (i k:Int) (v:List Int) (t:Int):(Fg r c l i k v t).length=r*c:=Cs _ _ _
theorem Afs {r c:Nat} {l:List Int} (h:A1 l=true) (j:Nat) {x:Int} (hx:Aj x=true):A1 (Sc r c l j x)=true:=Yb fun a b=>by
 split
 ·split
  ·exact hx
  ·exact Ji
 ·exact Tm h
theorem Nc (r c:Nat) (l:List Int) (j:Nat):(Vv r c l j).length=r*c:=by unfold Vv Sc; exact Cs _ _ _
theorem X2 {r c:Nat} {l:List Int} (h:A1 l=true) (j:Nat):A1 (Vv r c l j)=true:=Afs (Xc h _ _ _ _) _ (Th (Rm h)).2.2
def Zy (r:Nat):Nat→List (List Int × Int)→Prop
 | _,[]=>True
 | j,m::ms=>(A1 m.1=true∧Aj m.2=true∧m.1.length+j=r)∧Zy r (j+1) ms
theorem Vd (r c:Nat):∀ (n j:Nat) (l:List Int) (x:List Int × List (List Int × Int)),A1 l=true→l.length=r*c→j+n≤r→Mq r c n j l=some x→A1 x.1=true∧x.1.length=r*c∧x.2.length=n∧Zy r j x.2
 | 0,j,l,x,ha,hl,_,h=>by
   cases h
   exact ⟨ha,hl,rfl,trivial⟩
 | n+1,j,l,x,ha,hl,hj,h=>by
   unfold Mq at h
   by_cases h1:(Cb (Fp r c l j)).2.2.2=0
   ·rw [Ase h1,Option.map_eq_some_iff] at h
    obtain ⟨y,hy,rfl⟩:=h
    obtain ⟨a1,a2,a3,a4⟩:=Vd r c n (j+1) _ y (X2 ha j) (Nc r c l j) (by omega) hy
    have hm:=Th (x:=Fp r c l j) (Rm ha)
    have hlen:=Uo h1
    refine ⟨a1,a2,by rw [List.length_cons,a3],⟨hm.1,hm.2.1,?_⟩,a4⟩
    show (Cb (Fp r c l j)).1.length+j=r
    rw [hlen]
    unfold Fp
    rw [Zi]
    omega
   ·rw [Asd h1] at h; cases h
theorem Yf (n:Nat):A1 (Np n)=true:=Yb fun i k=>by
 unfold R7
 split
 ·exact Ag9
 ·exact Ji
theorem Tl (n:Nat):∀ (ms:List (List Int × Int)) (j:Nat) (q:List Int),A1 q=true→q.length=n*n→A1 (Jg n j ms q)=true∧(Jg n j ms q).length=n*n
 | [],_,_,h1,h2=>⟨h1,h2⟩
 | m::ms,j,q,h1,h2=>by
   unfold Jg
   exact ⟨Xc (Tl n ms (j+1) q h1 h2).1 _ _ _ _,K7 _ _ _ _ _ _ _⟩
theorem Ak3 {r c:Nat} {l:List Int} (h:(H4 r c l).isSome=true):A1 (Ra r c l)=true∧(Ra r c l).length=r*r:=by
 unfold Ra
 cases hd:H4 r c l with
 | none=>rw [hd] at h; cases h
 | some x=>exact Tl r x.2 0 _ (Yf r) (by unfold Np; exact Cs _ _ _)
theorem Ak2 {r c:Nat} {l:List Int} (ha:A1 l=true) (hl:l.length=r*c) (h:(H4 r c l).isSome=true):A1 (Mu r c l)=true∧(Mu r c l).length=r*c:=by
 unfold Mu
 cases hd:H4 r c l with
 | none=>rw [hd] at h; cases h
 | some x =>
   have hn:H5 r c≤r:=by unfold H5; omega
   have:=Vd r c (H5 r c) 0 l x ha hl (by omega) hd
   exact ⟨this.1,this.2.1⟩
end Go.Rnd
namespace Go.Proofs.S1
open Go Go.Den Go.Rnd Go.Proofs
set_option maxRecDepth 100000
namespace EqRoot
def root.Ex.hint:Nat→Option Bc
 | 0=>some { keep:=[0,4,5,6,14],objs:=[],boxes:=[] }
 | _=>none
def root.Ex.Bh:List (Nat × Entry):=[]
def root.Ex.E:Env:=Bi (Bg root.Ex.Bh) (fun _=>false) root.Ex.hint (fun _=>none)
section
variable (N M:Nat) (m p4 p5 p6 p14:Int)
def root.Ex.L0:Option DV:=B3 root.Ex.E N f122 (Aq f122) [1,1,0,1,0] [] M ⟨G8 68 [(0,.int .u64 m),(4,.int .u64 p4),(5,.int .u64 p5),(6,.int .u64 p6),(14,.int .i64 p14)],[]⟩
theorem root.Ex.Au:root.Ex.L0 N (M+1) m p4 p5 p6 p14=bif (A3 p14 64) then bif (A3 p14 32) then bif (decide (0≤(Ab ((62:Int)-(Ab ((2:Int)*p14)))))) then bif (decide ((Fa (F9 .u64 (Bq .u64 p6 2) (Dq .u64 (Ct .u64 m (Ab ((62:Int)-(Ab ((2:Int)*p14))))) 3)) (F9 .u64 (Bq .u64 p4 2) 1) 0)≤1)) then bif ((Fa (F9 .u64 (Bq .u64 p5 2) (Ct .u64 p6 62)) (Ct .u64 p4 62) (Fa (F9 .u64 (Bq .u64 p6 2) (Dq .u64 (Ct .u64 m (Ab ((62:Int)-(Ab ((2:Int)*p14))))) 3)) (F9 .u64 (Bq .u64 p4 2) 1) 0))==(0:Int)) then root.Ex.L0 N M m (F9 .u64 (Bq .u64 p4 1) 1) (Ko (F9 .u64 (Bq .u64 p5 2) (Ct .u64 p6 62)) (Ct .u64 p4 62) (Fa (F9 .u64 (Bq .u64 p6 2) (Dq .u64 (Ct .u64 m (Ab ((62:Int)-(Ab ((2:Int)*p14))))) 3)) (F9 .u64 (Bq .u64 p4 2) 1) 0)) (Ko (F9 .u64 (Bq .u64 p6 2) (Dq .u64 (Ct .u64 m (Ab ((62:Int)-(Ab ((2:Int)*p14))))) 3)) (F9 .u64 (Bq .u64 p4 2) 1) 0) (Ab (p14+1)) else root.Ex.L0 N M m (Bq .u64 p4 1) (F9 .u64 (Bq .u64 p5 2) (Ct .u64 p6 62)) (F9 .u64 (Bq .u64 p6 2) (Dq .u64 (Ct .u64 m (Ab ((62:Int)-(Ab ((2:Int)*p14))))) 3)) (Ab (p14+1)) else none else none else bif (decide ((Fa (F9 .u64 (Bq .u64 p6 2) 0) (F9 .u64 (Bq .u64 p4 2) 1) 0)≤1)) then bif ((Fa (F9 .u64 (Bq .u64 p5 2) (Ct .u64 p6 62)) (Ct .u64 p4 62) (Fa (F9 .u64 (Bq .u64 p6 2) 0) (F9 .u64 (Bq .u64 p4 2) 1) 0))==(0:Int)) then root.Ex.L0 N M m (F9 .u64 (Bq .u64 p4 1) 1) (Ko (F9 .u64 (Bq .u64 p5 2) (Ct .u64 p6 62)) (Ct .u64 p4 62) (Fa (F9 .u64 (Bq .u64 p6 2) 0) (F9 .u64 (Bq .u64 p4 2) 1) 0)) (Ko (F9 .u64 (Bq .u64 p6 2) 0) (F9 .u64 (Bq .u64 p4 2) 1) 0) (Ab (p14+1)) else root.Ex.L0 N M m (Bq .u64 p4 1) (F9 .u64 (Bq .u64 p5 2) (Ct .u64 p6 62)) (F9 .u64 (Bq .u64 p6 2) 0) (Ab (p14+1)) else none else some (.tup [.int .u64 p4,.bool (bif (p5==(0:Int)) then (p6==(0:Int)) else false)]) :=
 Eq.trans (by kernel_rfl)
 (Eu rfl (Aw (H0 (p5==(0:Int))) (Aw (Fm (p5==(0:Int))) (Aw (J3 (p5==(0:Int))) rfl))))
theorem root.Ex.ev:Bw root.Ex.E N f122 (Aq f122) [.int .u64 m] =
 root.Ex.L0 N N m 0 0 0 0:=by kernel_rfl
end
abbrev _root_.Go.Proofs.S1.root.Ex.Kn:=A6 prog 122 root.Ex.spec
theorem root.Ex.Ad (hk:Ay prog root.Ex.Bh) (h:Hyp root.Ex.E f122 root.Ex.ts root.Ex.pre root.Ex.out):root.Ex.Kn :=
 Am (A2 hk _ _ _) func122 (by kernel_rfl) (by kernel_rfl) h
def root.Sqrt.hint:Nat→Option Bc
 | 5=>some { keep:=[5,7,9],objs:=[],boxes:=[] }
 | _=>none
def root.Sqrt.Bh:List (Nat × Entry):=[(121,B5.Bm.spec),(122,root.Ex.spec),(31,soft.Kind.spec),(33,soft.Cq.spec),(32,soft.Ea.spec),(34,soft.Sign.spec)]
def root.Sqrt.E:Env:=Bi (Bg root.Sqrt.Bh) (fun _=>false) root.Sqrt.hint (fun _=>none)
section
variable (N:Nat) (a:Int) (M:Nat) (p5 p7:Int) (p9:Bool)
def root.Sqrt.L0:Option DV:=B3 root.Sqrt.E N f101 (Aq f101) [1,1,1,1,1,1,1,1,1,0,0] [] M ⟨G8 73 [(5,.int .i64 p5),(7,.int .u64 p7),(9,.bool p9)],[]⟩
theorem root.Sqrt.Au:root.Sqrt.L0 N (M+1) p5 p7 p9=bif (H2 4611686018427387904 p7) then root.Sqrt.L0 N M (Ab (p5+2)) (Ct .u64 p7 1) (bif p9 then true else ((Dq .u64 p7 1)==(1:Int))) else bif (Dk p7 (Ab ((Ab (Int.tdiv p5 2))-32)) p9) then some (.tup [.int .u64 (Dw false p7 (Ab ((Ab (Int.tdiv p5 2))-32)) p9),.int .u8 (Dv false p7 (Ab ((Ab (Int.tdiv p5 2))-32)) p9)]) else none :=
 Eq.trans (by kernel_rfl)
 (Eu (Aw (Kl p9) (Aw (I9 p9) (Aw (I9 p9) (Aw (Mt p9) rfl)))) rfl)
theorem root.Sqrt.ev:Bw root.Sqrt.E N f101 (Aq f101) [.int .u64 a]=bif (Aj a) then bif ((Ba a)==(4:Int)) then some (.tup [.int .u64 9221120237041090560,.int .u8 0]) else bif (Aj a) then bif ((Ba a)==(0:Int)) then some (.tup [.int .u64 a,.int .u8 0]) else bif (a==(9218868437227405312:Int)) then some (.tup [.int .u64 a,.int .u8 0]) else bif (Aj a) then bif (C9 a) then some (.tup [.int .u64 9221120237041090560,.int .u8 16]) else bif (Aj a) then bif (Aj (Bk a)) then bif ((Int.tmod (Ab ((A7 a)-(Ab ((64-Dx (Bk a))-2)))) 2) !=(0:Int)) then bif (decide (0≤(Ab ((Ab ((64-Dx (Bk a))-2))-1)))) then bif (Br (0≤(Bq .u64 (Bk a) (Ab ((Ab ((64-Dx (Bk a))-2))-1)))∧(Bq .u64 (Bk a) (Ab ((Ab ((64-Dx (Bk a))-2))-1)))<9223372036854775808)) then root.Sqrt.L0 N N (Ab ((A7 a)-(Ab ((Ab ((64-Dx (Bk a))-2))-1)))) (Qz (Bq .u64 (Bk a) (Ab ((Ab ((64-Dx (Bk a))-2))-1)))) (!(Q0 (Bq .u64 (Bk a) (Ab ((Ab ((64-Dx (Bk a))-2))-1))))) else none else none else bif (decide (0≤(Ab ((64-Dx (Bk a))-2)))) then bif (Br (0≤(Bq .u64 (Bk a) (Ab ((64-Dx (Bk a))-2)))∧(Bq .u64 (Bk a) (Ab ((64-Dx (Bk a))-2)))<9223372036854775808)) then root.Sqrt.L0 N N (Ab ((A7 a)-(Ab ((64-Dx (Bk a))-2)))) (Qz (Bq .u64 (Bk a) (Ab ((64-Dx (Bk a))-2)))) (!(Q0 (Bq .u64 (Bk a) (Ab ((64-Dx (Bk a))-2))))) else none else none else none else none else none else none else none:=by kernel_rfl
end
abbrev _root_.Go.Proofs.S1.root.Sqrt.Kn:=A6 prog 101 root.Sqrt.spec
theorem root.Sqrt.Ad (hk:Ay prog root.Sqrt.Bh) (h:Hyp root.Sqrt.E f101 root.Sqrt.ts root.Sqrt.pre root.Sqrt.out):root.Sqrt.Kn :=
 Am (A2 hk _ _ _) func101 (by kernel_rfl) (by kernel_rfl) h
def Ac.Sqrt.Bh:List (Nat × Entry):=[(101,root.Sqrt.spec)]
def Ac.Sqrt.E:Env:=Bi (Bg Ac.Sqrt.Bh) (fun _=>false) (fun _=>none) (fun _=>none)
theorem Ac.Sqrt.ev (N:Nat) (a:Int):Bw Ac.Sqrt.E N f74 (Aq f74) [.int .u64 a]=bif (Aj a) then some (.int .u64 (Gw a)) else none:=by kernel_rfl
abbrev _root_.Go.Proofs.S1.Ac.Sqrt.Kn:=A6 prog 74 Ac.Sqrt.spec
theorem Ac.Sqrt.Ad (hk:Ay prog Ac.Sqrt.Bh) (h:Hyp Ac.Sqrt.E f74 Ac.Sqrt.ts Ac.Sqrt.pre Ac.Sqrt.out):Ac.Sqrt.Kn :=
 Am (A2 hk _ _ _) func74 (by kernel_rfl) (by kernel_rfl) h
def compare.P4.Bh:List (Nat × Entry):=[(91,B5.Hx.spec),(71,soft.Finite.spec),(31,soft.Kind.spec),(32,soft.Ea.spec)]
def compare.P4.E:Env:=Bi (Bg compare.P4.Bh) (fun _=>false) (fun _=>none) (fun _=>none)
theorem compare.P4.ev (N:Nat) (a:Int):Bw compare.P4.E N f59 (Aq f59) [.int .u64 a]=bif (Aj a) then bif ((!(Da a))||(Aj a)) then bif ((!(Da a))||((Ba a)==(0:Int))) then some (.int .i64 0) else bif (Aj a) then bif (Aj (Bk a)) then some (.int .i64 (Ab ((Ab ((Dx (Bk a))-1))+(A7 a)))) else none else none else none else none :=
 Eq.trans (by kernel_rfl)
 (Eu (Aw (tt9 (Da a)) (Df (tt8 (Da a) (Aj a)) (Aw (tt7 (Da a)) (Aw (tt6 (Da a)) (Df (Amr (Da a) ((Ba a)==(0:Int))) rfl rfl))) rfl)) rfl)
abbrev _root_.Go.Proofs.S1.compare.P4.Kn:=A6 prog 59 compare.P4.spec
theorem compare.P4.Ad (hk:Ay prog compare.P4.Bh) (h:Hyp compare.P4.E f59 compare.P4.ts compare.P4.pre compare.P4.out):compare.P4.Kn :=
 Am (A2 hk _ _ _) func59 (by kernel_rfl) (by kernel_rfl) h
def Ac.Norm.hint:Nat→Option Bc
 | 0=>some { keep:=[5,6,25,26,27],objs:=[],boxes:=[] }
 | _=>none
def Ac.Norm.Bh:List (Nat × Entry):=[(59,compare.P4.spec),(71,soft.Finite.spec),(72,Ac.Add.spec),(60,Ac.Ce.spec),(73,Ac.Mul.spec),(7,Ac.Bf.spec),(74,Ac.Sqrt.spec)]
def Ac.Norm.E:Env:=Bi (Bg Ac.Norm.Bh) (fun _=>false) Ac.Norm.hint (fun _=>none)
section
variable (N M:Nat) (x:List Int) (p6 p27:Int)
def Ac.Norm.L0:Option DV:=B3 Ac.Norm.E N f29 (Aq f29) [1,1,1,1,1,1,0,1,0] [] M ⟨G8 45 [(5,.int .i64 (Bn (Bd x))),(6,.int .u64 p6),(25,.ints .arg .u64 x),(26,.int .i64 (length x:Int)),(27,.int .i64 p27)],[]⟩
theorem Ac.Norm.Au:Ac.Norm.L0 N (M+1) x p6 p27=bif (A3 p27 (length x:Int)) then bif ((decide (0≤p27))&&(decide (p27<(length x:Int)))) then bif (C0 (getD x (toNat p27) 0) (Ab (0-(Bn (Bd x))))) then bif (Aj (Bs (getD x (toNat p27) 0) (Ab (0-(Bn (Bd x)))))&&Aj (Bs (getD x (toNat p27) 0) (Ab (0-(Bn (Bd x)))))) then bif (Aj p6&&Aj (Hh (Bs (getD x (toNat p27) 0) (Ab (0-(Bn (Bd x))))) (Bs (getD x (toNat p27) 0) (Ab (0-(Bn (Bd x))))))) then Ac.Norm.L0 N M x (Jh p6 (Hh (Bs (getD x (toNat p27) 0) (Ab (0-(Bn (Bd x))))) (Bs (getD x (toNat p27) 0) (Ab (0-(Bn (Bd x))))))) (Ab (p27+1)) else none else none else none else none else bif (Aj p6) then bif (C0 (Gw p6) (Bn (Bd x))) then some (.tup [.int .u64 (Bs (Gw p6) (Bn (Bd x))),.int .i64 0]) else none else none:=by kernel_rfl
theorem Ac.Norm.ev:Bw Ac.Norm.E N f29 (Aq f29) [.ints .arg .u64 x]=bif (A3 64 (length x:Int)) then some (.tup [.int .u64 0,.int .i64 3]) else bif (Cj x) then bif (((Bd x)==(0:Int))||(Aj (Bd x))) then bif (((Bd x)==(0:Int))||(!(Da (Bd x)))) then some (.tup [.int .u64 (Bd x),.int .i64 0]) else bif (Aj (Bd x)) then Ac.Norm.L0 N N x 0 (0:Int) else none else none else none :=
 Eq.trans (by kernel_rfl)
 (Eu rfl (Eu (Aw (Kl ((Bd x)==(0:Int))) (Df (Aml ((Bd x)==(0:Int)) (Aj (Bd x))) (Aw (I9 ((Bd x)==(0:Int))) (Aw (Mt ((Bd x)==(0:Int))) (Df (Ap5 ((Bd x)==(0:Int)) (Da (Bd x))) rfl rfl))) rfl)) rfl))
end
abbrev _root_.Go.Proofs.S1.Ac.Norm.Kn:=A6 prog 29 Ac.Norm.spec
theorem Ac.Norm.Ad (hk:Ay prog Ac.Norm.Bh) (h:Hyp Ac.Norm.E f29 Ac.Norm.ts Ac.Norm.pre Ac.Norm.out):Ac.Norm.Kn :=
 Am (A2 hk _ _ _) func29 (by kernel_rfl) (by kernel_rfl) h
end EqRoot
open EqRoot
theorem Nw (n s:Nat) (h:s≤64):Ct .u64 (n:Int) (s:Int)=((n / 2^s:Nat):Int):=F4 .u64 n s h
theorem sh2 {n t:Nat} (ht:t<4):F9 .u64 (Bq .u64 (n:Int) (2:Int)) (t:Int)=((n%2^62*4+t:Nat):Int):=by
 rw [show (2:Int)=((2:Nat):Int) from rfl,D8 n 2 (by decide),show n*2^2%2^64=(n%2^62)*2^2 by omega]
 exact Kg ht (by omega)
theorem sh1 {n:Nat} (h:n<2^63):Bq .u64 (n:Int) (1:Int)=((2*n:Nat):Int):=by
 rw [show (1:Int)=((1:Nat):Int) from rfl,D8 n 1 (by decide)]
 congr 1; omega
theorem Aq3 {n:Nat} (h:n<2^63):F9 .u64 (Bq .u64 (n:Int) (1:Int)) (1:Int)=((2*n+1:Nat):Int):=by
 rw [show (1:Int)=((1:Nat):Int) from rfl,D8 n 1 (by decide),show n*2^1%2^64=n*2^1 by omega,Asf 2 n]
 exact Kg (k:=1) (by decide) (by omega)
theorem Agi {m i:Nat} (hi:i<32):Dq .u64 (Ct .u64 (m:Int) (Ab ((62:Int)-(Ab ((2:Int)*(i:Int)))))) (3:Int)=((m / 2^(62-2*i)%2^64%4:Nat):Int)∨2^64≤m:=by
 by_cases hm:m<2^64
 ·left
  rw [Ao (x:=(2:Int)*(i:Int)) (by omega) (by omega),Ao (x:=(62:Int)-2*(i:Int)) (by omega) (by omega),show (62:Int)-2*(i:Int)=((62-2*i:Nat):Int) by omega,Nw _ _ (by omega)]
  have hd:m / 2^(62-2*i)<2^64:=Asu (Nat.div_le_self _ _) hm
  rw [show (3:Int)=((2^2-1:Nat):Int) from rfl,Gt 2 hd (by decide)]
  congr 1
  omega
 ·right; omega
def Oy (m i:Nat):Nat:=m*2^64 / 2^(128-2*i)
theorem Ag6 {m i:Nat} (hi:i<32):Oy m (i+1)=4*Oy m i+m / 2^(62-2*i)%4:=by
 unfold Oy
 have e1:128-2*i=64+(64-2*i):=by omega
 have e2:128-2*(i+1)=64+(62-2*i):=by omega
 rw [e1,e2,Asg,Asg,Asf (2^64),Asf (2^64),Nat.mul_div_mul_right _ _ (by decide),Nat.mul_div_mul_right _ _ (by decide),show 64-2*i=(62-2*i)+2 by omega,Asg,← Asl]
 omega
theorem Aeq {m i:Nat} (hi:32≤i) (h:i<64):Oy m (i+1)=4*Oy m i:=by
 unfold Oy
 have e1:(2:Nat)^64=2^(2*i-64)*2^(128-2*i):=by rw [← Asg]; congr 1; omega
 have e2:(2:Nat)^64=2^(2*i-64)*4*2^(128-2*(i+1)):=by
  rw [show (4:Nat)=2^2 from rfl,← Asg,← Asg]; congr 1; omega
 have a1:m*2^64 / 2^(128-2*i)=m*2^(2*i-64):=by rw [e1,← Asi,Nat.mul_div_cancel _ (By _)]
 have a2:m*2^64 / 2^(128-2*(i+1))=m*(2^(2*i-64)*4):=by rw [e2,← Asi,Nat.mul_div_cancel _ (By _)]
 rw [a1,a2,← Asi,Asf 4]
theorem Ajx {A B tl th:Nat} (hA:A<2^64) (htl:tl<2^64) (hB:B<2^64) (hth:th<4) :
 (Fa (A:Int) (tl:Int) (0:Int)=0∨Fa (A:Int) (tl:Int) (0:Int)=1) ∧
 (th*2^64+tl≤B*2^64+A→(Fa (B:Int) (th:Int) (Fa (A:Int) (tl:Int) (0:Int))==(0:Int))=true ∧
  ∃ h l:Nat,Ko (B:Int) (th:Int) (Fa (A:Int) (tl:Int) (0:Int))=(h:Int)∧Ko (A:Int) (tl:Int) (0:Int)=(l:Int)∧l<2^64∧h*2^64+l=B*2^64+A-(th*2^64+tl)) ∧
 (B*2^64+A<th*2^64+tl→(Fa (B:Int) (th:Int) (Fa (A:Int) (tl:Int) (0:Int))==(0:Int))=false):=by
 have e1:Fa (A:Int) (tl:Int) (0:Int)=((if A<tl then 1 else 0:Nat):Int):=by
  unfold Fa
  rw [Art,Art]
  rfl
 by_cases h:A<tl
 ·rw [Ase h] at e1
  rw [e1]
  have e2:Fa (B:Int) (th:Int) ((1:Nat):Int)=((if B<th+1 then 1 else 0:Nat):Int):=by
   unfold Fa
   rw [Art,Art]
   rfl
  refine ⟨.inr rfl,fun hle=>?_,fun hlt=>?_⟩
  ·rw [Asd (by omega)] at e2
   rw [e2]
   refine ⟨rfl,B-th-1,A+2^64-tl,?_,?_,by omega,by omega⟩
   ·unfold Ko
    rw [Art,Art,Art]
    congr 1; omega
   ·unfold Ko
    rw [Art,Art]
    show ((_:Nat):Int)=_
    congr 1
    show (A+18446744073709551616-tl-0)%18446744073709551616=_
    omega
  ·rw [Ase (by omega)] at e2
   rw [e2]; rfl
 ·rw [Asd h] at e1
  rw [e1]
  have e2:Fa (B:Int) (th:Int) ((0:Nat):Int)=((if B<th then 1 else 0:Nat):Int):=by
   unfold Fa
   rw [Art,Art]
   rfl
  refine ⟨.inl rfl,fun hle=>?_,fun hlt=>?_⟩
  ·rw [Asd (by omega)] at e2
   rw [e2]
   refine ⟨rfl,B-th,A-tl,?_,?_,by omega,by omega⟩
   ·unfold Ko
    rw [Art,Art,Art]
    congr 1; omega
   ·unfold Ko
    rw [Art,Art]
    show ((_:Nat):Int)=_
    congr 1
    show (A+18446744073709551616-tl-0)%18446744073709551616=_
    omega
  ·rw [Ase (by omega)] at e2
   rw [e2]; rfl
theorem glue (n t:Nat):n / 2^62*2^64+(n%2^62*4+t)=4*n+t:=by omega
theorem Afd (N:Nat) {m:Nat} (hm:m<2^63):∀ (k i F rt rest:Nat),i+k=64→k<F→Oy m i=rt*rt+rest→rest≤2*rt→rt<2^i→∀ hi lo:Nat,hi*2^64+lo=rest→lo<2^64 →
 root.Ex.L0 N F (m:Int) (rt:Int) (hi:Int) (lo:Int) (i:Int)=some (.tup [.int .u64 (Qz m),.bool (Q0 m)]):=by
 intro k
 induction k with
 | zero =>
   intro i F rt rest hi hF hP hr hb h l e hl
   obtain ⟨F,rfl⟩:∃ G,F=G+1:=⟨F-1,by omega⟩
   obtain rfl:i=64:=by omega
   have hP':m*2^64=rt*rt+rest:=by
    rw [← hP]; unfold Oy
    rw [show 128-2*64=0 from rfl,Asq,Nat.div_one]
   have hroot:=Aj4 hP' hr
   rw [root.Ex.Au,Av,Arw (by omega),Arv]
   have e1:Qz (m:Int)=(rt:Int):=by unfold Qz; rw [Art,← hroot]
   have e2:Q0 (m:Int)=(bif ((h:Int)==(0:Int)) then ((l:Int)==(0:Int)) else false):=by
    unfold Q0
    rw [Art,← hroot,hP']
    by_cases h0:h=0
    ·subst h0
     rw [show (((0:Nat):Int)==(0:Int))=true from rfl,Arr,Ar7,Ary,beq_iff_eq]
     omega
    ·rw [show ((h:Int)==(0:Int))=false by rw [Asn]; omega,Arv,Arw]
     omega
   rw [e1,e2]
 | succ k ih =>
   intro i F rt rest hi hF hP hr hb h l e hl
   obtain ⟨F,rfl⟩:∃ G,F=G+1:=⟨F-1,by omega⟩
   have hp:2^i≤2^63:=Ar6 (by decide) (by omega)
   have hi63:2^(i+1)=2*2^i:=by rw [Nat.pow_succ,Asf]
   have f1:2*rt+1<2^(i+1):=by rw [hi63]; omega
   have f2:2*rt<2^(i+1):=by omega
   have hh:h=0:=by omega
   subst hh
   have hrest:rest=l:=by omega
   subst hrest
   obtain ⟨two,t4,hP',hcode⟩:∃ two:Nat,two<4∧Oy m (i+1)=4*Oy m i+two ∧
    root.Ex.L0 N (F+1) (m:Int) (rt:Int) ((0:Nat):Int) (rest:Int) (i:Int) =
    (bif (decide ((Fa (F9 .u64 (Bq .u64 (rest:Int) (2:Int)) (two:Int)) (F9 .u64 (Bq .u64 (rt:Int) (2:Int)) (1:Int)) (0:Int))≤1)) then
     bif ((Fa (F9 .u64 (Bq .u64 ((0:Nat):Int) (2:Int)) (Ct .u64 (rest:Int) (62:Int))) (Ct .u64 (rt:Int) (62:Int)) (Fa (F9 .u64 (Bq .u64 (rest:Int) (2:Int)) (two:Int)) (F9 .u64 (Bq .u64 (rt:Int) (2:Int)) (1:Int)) (0:Int)))==(0:Int)) then
      root.Ex.L0 N F (m:Int) (F9 .u64 (Bq .u64 (rt:Int) (1:Int)) (1:Int)) (Ko (F9 .u64 (Bq .u64 ((0:Nat):Int) (2:Int)) (Ct .u64 (rest:Int) (62:Int))) (Ct .u64 (rt:Int) (62:Int)) (Fa (F9 .u64 (Bq .u64 (rest:Int) (2:Int)) (two:Int)) (F9 .u64 (Bq .u64 (rt:Int) (2:Int)) (1:Int)) (0:Int))) (Ko (F9 .u64 (Bq .u64 (rest:Int) (2:Int)) (two:Int)) (F9 .u64 (Bq .u64 (rt:Int) (2:Int)) (1:Int)) (0:Int)) (Ab ((i:Int)+(1:Int)))
     else root.Ex.L0 N F (m:Int) (Bq .u64 (rt:Int) (1:Int)) (F9 .u64 (Bq .u64 ((0:Nat):Int) (2:Int)) (Ct .u64 (rest:Int) (62:Int))) (F9 .u64 (Bq .u64 (rest:Int) (2:Int)) (two:Int)) (Ab ((i:Int)+(1:Int)))
    else none):=by
    by_cases h32:i<32
    ·refine ⟨m / 2^(62-2*i)%4,Nat.mod_lt _ (by decide),Ag6 h32,?_⟩
     have ht:=(Agi (m:=m) h32).resolve_right (by omega)
     have hq:m / 2^(62-2*i)%2^64%4=m / 2^(62-2*i)%4:=by omega
     rw [hq] at ht
     rw [root.Ex.Au,Av,Ars (show (i:Int)<64 by omega),Arr,Av,Ars (show (i:Int)<32 by omega),Arr,ht,Ao (x:=(2:Int)*(i:Int)) (by omega) (by omega),Ao (x:=(62:Int)-2*(i:Int)) (by omega) (by omega),Ars (show (0:Int)≤62-2*(i:Int) by omega),Arr]
    ·refine ⟨0,by decide,by rw [Aeq (by omega) (by omega),As0],?_⟩
     rw [root.Ex.Au,Av,Ars (show (i:Int)<64 by omega),Arr,Av,Arw (show ¬ (i:Int)<32 by omega),Arv]
     rfl
   obtain ⟨s1,s2⟩:=Acj hP hr t4
   have eA:=sh2 (n:=rest) t4
   have eT:=sh2 (n:=rt) (t:=1) (by decide)
   have eB:F9 .u64 (Bq .u64 ((0:Nat):Int) (2:Int)) (Ct .u64 (rest:Int) (62:Int))=((rest / 2^62:Nat):Int):=by
    rw [show (62:Int)=((62:Nat):Int) from rfl,Nw _ _ (by decide),sh2 (n:=0) (t:=rest / 2^62) (by omega)]
    congr 1; omega
   have eH:Ct .u64 (rt:Int) (62:Int)=((rt / 2^62:Nat):Int):=by rw [show (62:Int)=((62:Nat):Int) from rfl,Nw _ _ (by decide)]
   have eT':F9 .u64 (Bq .u64 (rt:Int) (2:Int)) (1:Int)=((rt%2^62*4+1:Nat):Int):=eT
   obtain ⟨b1,b2,b3⟩:=Ajx (A:=rest%2^62*4+two) (B:=rest / 2^62) (tl:=rt%2^62*4+1) (th:=rt / 2^62) (by omega) (by omega) (by omega) (by omega)
   rw [hcode,eA,eT',eB,eH,Ars (by rcases b1 with b | b<;>rw [b]<;>decide),Arr,Ao (by omega) (by omega)]
   by_cases hc:4*rt+1≤4*rest+two
   ·obtain ⟨c1,hh,ll,c2,c3,c4,c5⟩:=b2 (by rw [glue,glue]; exact hc)
    obtain ⟨d1,d2⟩:=s1 hc
    rw [c1,Arr,c2,c3,Aq3 (by omega)]
    refine ih (i+1) F (2*rt+1) (4*rest+two-(4*rt+1)) (by omega) (by omega) (hP'.trans d1) d2 f1 hh ll ?_ c4
    rw [c5,glue,glue]
   ·rw [b3 (by rw [glue,glue]; omega),Arv,sh1 (by omega)]
    obtain ⟨d1,d2⟩:=s2 (by omega)
    refine ih (i+1) F (2*rt) (4*rest+two) (by omega) (by omega) (hP'.trans d1) d2 f2 _ _ (glue _ _) ?_
    clear hcode
    omega
theorem root.Ex.known:root.Ex.Kn:=root.Ex.Ad .nil fun m hp=>by
 have hp:=Al.1 hp
 obtain ⟨n,rfl⟩:∃ n:Nat,m=n:=⟨m.toNat,by omega⟩
 refine ⟨65,root.Ex.out [.i n],[],?_,Wk.E5 (.cons .int (.cons .bool .nil))⟩
 rw [root.Ex.ev]
 have h0:Oy n 0=0*0+0:=by
  unfold Oy
  rw [Nat.div_eq_of_lt]
  show n*18446744073709551616<340282366920938463463374607431768211456
  omega
 exact Afd 65 (by omega) 64 0 65 0 0 rfl (by omega) h0 (Asm 0) Nat.one_pos 0 0 rfl (Nat.pow_pos (by decide))
end Go.Proofs.S1
end
