/- A verified evaluator of the program's form and its use for this seat: S1EqBits6, S1EqTimes, S1PTimes, S1EqRefD, S1PRefD, S1PTimesA, S1EqVec, S1PVec, S1EqMat, S1PMat, S1EqOf, S1POf, S1PMatA. -/
import Derived.Test.YthajngaadbanfaaGreatTE
import Derived.Test.YthajngaadbanfaaGreatTF
import Derived.Test.YthajngaadbanfaaGreatTH
import Derived.Test.YthajngaadbanfaaGreatTG
set_option linter.unusedVariables false
set_option linter.unusedSimpArgs false
noncomputable section
open Int (toNat)
open List (length getD)
open Go.Proofs.Tryz
namespace Go.Proofs.S1
open Go Go.Den Go.Rnd Go.Proofs
set_option maxRecDepth 100000
namespace EqBits6
def Dk.B9.Bc:List (Nat × Entry):=[(167,Dk.Lu.spec)]
def Dk.B9.E:Env:=Bi (Be Dk.B9.Bc) (fun _=>false) (fun _=>none) (fun _=>none)
theorem Dk.B9.ev (N:Nat) (x:Int):B0 Dk.B9.E N f210 (Ak f210) [.int .u64 x]=bif (Af x) then some (.int .i64 (Ab ((64:Int)-(F2 x)))) else none:=by kernel_rfl
abbrev _root_.Go.Proofs.S1.Dk.B9.Kn:=A8 prog 210 Dk.B9.spec
theorem Dk.B9.Ad (hk:A2 prog Dk.B9.Bc) (h:Hyp Dk.B9.E f210 Dk.B9.ts Dk.B9.pre Dk.B9.out):Dk.B9.Kn :=
 Am (A5 hk _ _ _) func210 (by kernel_rfl) (by kernel_rfl) h
def Dk.Ir.Bc:List (Nat × Entry):=[]
def Dk.Ir.E:Env:=Bi (Be Dk.Ir.Bc) (fun _=>false) (fun _=>none) (fun _=>none)
theorem Dk.Ir.ev (N:Nat) (x y:Int):B0 Dk.Ir.E N f209 (Ak f209) [.int .u64 x,.int .u64 y]=some (.tup [.int .u64 (Bq ((Bq ((Bq ((Ef .u64 x 32)*(Ef .u64 y 32)))+(Ef .u64 (Bq ((Bq ((Ef .u64 x 32)*(Fx .u64 y 4294967295)))+(Ef .u64 (Bq ((Fx .u64 x 4294967295)*(Fx .u64 y 4294967295))) 32))) 32)))+(Ef .u64 (Bq ((Fx .u64 (Bq ((Bq ((Ef .u64 x 32)*(Fx .u64 y 4294967295)))+(Ef .u64 (Bq ((Fx .u64 x 4294967295)*(Fx .u64 y 4294967295))) 32))) 4294967295)+(Bq ((Fx .u64 x 4294967295)*(Ef .u64 y 32))))) 32))),.int .u64 (Bq (x*y))]):=by kernel_rfl
abbrev _root_.Go.Proofs.S1.Dk.Ir.Kn:=A8 prog 209 Dk.Ir.spec
theorem Dk.Ir.Ad (hk:A2 prog Dk.Ir.Bc) (h:Hyp Dk.Ir.E f209 Dk.Ir.ts Dk.Ir.pre Dk.Ir.out):Dk.Ir.Kn :=
 Am (A5 hk _ _ _) func209 (by kernel_rfl) (by kernel_rfl) h
abbrev _root_.Go.Proofs.S1.Dk.Lu.Kn:Prop:=A8 prog 167 Dk.Lu.spec
theorem _root_.Go.Proofs.S1.Dk.Lu.call:∀ (args:Array Value) (w:World),(callFunc 167 args).run prog w=.ok (.enter 167 args) w:=Mf func167 (by kernel_rfl) (show f167.body=some (Ak f167) by kernel_rfl)
theorem _root_.Go.Proofs.S1.Dk.Lu.run (x:Int) (w:World) (h0:0≤x) (h1:x≤18446744073709551615):Calls prog 167 #[.int .u64 x] w fun e w'=>e=.returned (.int .i64 (Lib.bitLen x.toNat))∧w'=w:=Tryz.Ald x w h0 h1
end EqBits6
namespace EqTimes
def times.signed.Bc:List (Nat × Entry):=[(81,soft.Du.spec)]
def times.signed.E:Env:=Bi (Be times.signed.Bc) (fun _=>false) (fun _=>none) (fun _=>none)
theorem times.signed.ev (N:Nat) (b:Int) (n:Bool):B0 times.signed.E N f183 (Ak f183) [.int .u64 b,.bool n]=bif n then bif (Af b) then some (.int .u64 (Cz b)) else none else some (.int .u64 b):=by kernel_rfl
abbrev _root_.Go.Proofs.S1.times.signed.Kn:=A8 prog 183 times.signed.spec
theorem times.signed.Ad (hk:A2 prog times.signed.Bc) (h:Hyp times.signed.E f183 times.signed.ts times.signed.pre times.signed.out):times.signed.Kn :=
 Am (A5 hk _ _ _) func183 (by kernel_rfl) (by kernel_rfl) h
def times.nan.Bc:List (Nat × Entry):=[(165,soft.Kind.spec)]
def times.nan.E:Env:=Bi (Be times.nan.Bc) (fun _=>false) (fun _=>none) (fun _=>none)
theorem times.nan.ev (N:Nat) (a b:Int):B0 times.nan.E N f182 (Ak f182) [.int .u64 a,.int .u64 b]=bif (Af a) then bif ((Bz a)==(4:Int)) then some (.bool true) else bif (Af b) then bif ((Bz b)==(4:Int)) then some (.bool true) else some (.bool false) else none else none:=by kernel_rfl
abbrev _root_.Go.Proofs.S1.times.nan.Kn:=A8 prog 182 times.nan.spec
theorem times.nan.Ad (hk:A2 prog times.nan.Bc) (h:Hyp times.nan.E f182 times.nan.ts times.nan.pre times.nan.out):times.nan.Kn :=
 Am (A5 hk _ _ _) func182 (by kernel_rfl) (by kernel_rfl) h
def times.norm.Bc:List (Nat × Entry):=[(210,Dk.B9.spec),(166,soft.G0.spec)]
def times.norm.E:Env:=Bi (Be times.norm.Bc) (fun _=>false) (fun _=>none) (fun _=>none)
theorem times.norm.ev (N:Nat) (b:Int):B0 times.norm.E N f184 (Ak f184) [.int .u64 b]=bif (Af b) then bif (Af (B6 b)) then bif (decide (0≤(Ab ((64-F2 (B6 b))-11)))) then some (.tup [.int .u64 (Ch .u64 (B6 b) (Ab ((64-F2 (B6 b))-11))),.int .i64 (Ab ((Bp b)-(Ab ((64-F2 (B6 b))-11))))]) else none else none else none:=by kernel_rfl
abbrev _root_.Go.Proofs.S1.times.norm.Kn:=A8 prog 184 times.norm.spec
theorem times.norm.Ad (hk:A2 prog times.norm.Bc) (h:Hyp times.norm.E f184 times.norm.ts times.norm.pre times.norm.out):times.norm.Kn :=
 Am (A5 hk _ _ _) func184 (by kernel_rfl) (by kernel_rfl) h
def times.wide.hint:Nat→Option Ba
 | 0=>some { keep:=[0,1,2,3],objs:=[],boxes:=[] }
 | _=>none
def times.wide.Bc:List (Nat × Entry):=[(180,soft.D9.spec)]
def times.wide.E:Env:=Bi (Be times.wide.Bc) (fun _=>false) times.wide.hint (fun _=>none)
section
variable (N M:Nat) (n:Bool) (m e:Int) (r:Bool) (p1 p2:Int) (p3:Bool)
def times.wide.L0:Option DV:=B8 times.wide.E N f185 (Ak f185) [1,0,0] [] M ⟨Ff 39 [(0,.bool n),(1,.int .u64 p1),(2,.int .i64 p2),(3,.bool p3)],[]⟩
theorem times.wide.Ar:times.wide.L0 N (M+1) n p1 p2 p3=bif ((Bb p2 (-1130:Int))&&(Bb 1 p1)) then times.wide.L0 N M n (Ef .u64 p1 1) (Ab (p2+1)) (bif p3 then true else ((Fx .u64 p1 1)==(1:Int))) else bif (Bb p2 (-1130:Int)) then bif (Fe 0 (-1074:Int) true) then some (.tup [.int .u64 (F0 n 0 (-1074:Int) true),.int .u8 (Fz n 0 (-1074:Int) true)]) else none else bif (Fe p1 p2 p3) then some (.tup [.int .u64 (F0 n p1 p2 p3),.int .u8 (Fz n p1 p2 p3)]) else none :=
 Eq.trans (by kernel_rfl)
 (Ax (R6 (Bb p2 (-1130:Int))) (Ax (No (Bb p2 (-1130:Int))) (Ax (W5 (Bb p2 (-1130:Int))) (Cw (tt1 _ _) (Ax (W4 p3) (Ax (T8 p3) (Ax (T8 p3) (Ax (tt6 p3) rfl)))) rfl))))
theorem times.wide.ev:B0 times.wide.E N f185 (Ak f185) [.bool n,.int .u64 m,.int .i64 e,.bool r] =
 times.wide.L0 N N n m e r:=by kernel_rfl
end
abbrev _root_.Go.Proofs.S1.times.wide.Kn:=A8 prog 185 times.wide.spec
theorem times.wide.Ad (hk:A2 prog times.wide.Bc) (h:Hyp times.wide.E f185 times.wide.ts times.wide.pre times.wide.out):times.wide.Kn :=
 Am (A5 hk _ _ _) func185 (by kernel_rfl) (by kernel_rfl) h
def times.Mul.Bc:List (Nat × Entry):=[(209,Dk.Ir.spec),(165,soft.Kind.spec),(181,soft.Sign.spec),(182,times.nan.spec),(184,times.norm.spec),(183,times.signed.spec),(185,times.wide.spec)]
def times.Mul.E:Env:=Bi (Be times.Mul.Bc) (fun _=>false) (fun _=>none) (fun _=>none)
theorem times.Mul.ev (N:Nat) (a b:Int):B0 times.Mul.E N f175 (Ak f175) [.int .u64 a,.int .u64 b]=bif (Af a) then bif (Af b) then bif (Af a) then bif (Af b) then bif (Af a&&Af b) then bif (Asa a b) then some (.tup [.int .u64 9221120237041090560,.int .u8 0]) else bif ((((Bz a)==(3:Int))&&((Bz b)==(0:Int)))||(((Bz a)==(0:Int))&&((Bz b)==(3:Int)))) then some (.tup [.int .u64 9221120237041090560,.int .u8 16]) else bif (((Bz a)==(3:Int))||((Bz b)==(3:Int))) then bif (Af 9218868437227405312) then some (.tup [.int .u64 (T9 (!((Eb a)==(Eb b))) 9218868437227405312),.int .u8 0]) else none else bif (((Bz a)==(0:Int))||((Bz b)==(0:Int))) then bif (Af 0) then some (.tup [.int .u64 (T9 (!((Eb a)==(Eb b))) 0),.int .u8 0]) else none else bif (Af a&&Nv a) then bif (Af b&&Nv b) then bif (Af (D0 a)&&Af (D0 b)) then bif (Qy (Jk .u64 (Ch .u64 (Uc (D0 a) (D0 b)) 20) (Ef .u64 (Pm (D0 a) (D0 b)) 44)) (Ab ((Ab ((I2 a)+(I2 b)))+44))) then some (.tup [.int .u64 (F0 (!((Eb a)==(Eb b))) (Jk .u64 (Ch .u64 (Uc (D0 a) (D0 b)) 20) (Ef .u64 (Pm (D0 a) (D0 b)) 44)) (Ab ((Ab ((I2 a)+(I2 b)))+44)) ((Ch .u64 (Pm (D0 a) (D0 b)) 20) !=(0:Int))),.int .u8 (Fz (!((Eb a)==(Eb b))) (Jk .u64 (Ch .u64 (Uc (D0 a) (D0 b)) 20) (Ef .u64 (Pm (D0 a) (D0 b)) 44)) (Ab ((Ab ((I2 a)+(I2 b)))+44)) ((Ch .u64 (Pm (D0 a) (D0 b)) 20) !=(0:Int)))]) else none else none else none else none else none else none else none else none else none :=
 Eq.trans (by kernel_rfl)
 (E1 (E1 (E1 (E1 (E1 (E1 rfl (Ax (R6 ((Bz a)==(3:Int))) (Ax (No ((Bz a)==(3:Int))) (Ax (W5 ((Bz a)==(3:Int))) (Ax (A0m ((Bz a)==(3:Int)) ((Bz b)==(0:Int))) (Ax (Aux ((Bz a)==(3:Int)) ((Bz b)==(0:Int))) (Ax (Aux ((Bz a)==(3:Int)) ((Bz b)==(0:Int))) (Ax (A0n ((Bz a)==(3:Int)) ((Bz b)==(0:Int)) ((Bz a)==(0:Int))) (Ax (A0o ((Bz a)==(3:Int)) ((Bz b)==(0:Int)) ((Bz a)==(0:Int))) (Ax (A0p ((Bz a)==(3:Int)) ((Bz b)==(0:Int)) ((Bz a)==(0:Int))) (Ax (A0q ((Bz a)==(3:Int)) ((Bz b)==(0:Int))) (Cw (A0r _ _ _ _) rfl (Ax (W4 ((Bz a)==(3:Int))) (Ax (T8 ((Bz a)==(3:Int))) (Ax (tt6 ((Bz a)==(3:Int))) (Cw (tt5 _ _) rfl (Ax (W4 ((Bz a)==(0:Int))) (Ax (T8 ((Bz a)==(0:Int))) (Ax (tt6 ((Bz a)==(0:Int))) (Cw (tt5 _ _) rfl rfl)))))))))))))))))))) rfl) rfl) rfl) rfl) rfl)
abbrev _root_.Go.Proofs.S1.times.Mul.Kn:=A8 prog 175 times.Mul.spec
theorem times.Mul.Ad (hk:A2 prog times.Mul.Bc) (h:Hyp times.Mul.E f175 times.Mul.ts times.Mul.pre times.Mul.out):times.Mul.Kn :=
 Am (A5 hk _ _ _) func175 (by kernel_rfl) (by kernel_rfl) h
def times.Div.hint:Nat→Option Ba
 | 1=>some { keep:=[6,10,11,12,13,14,78],objs:=[],boxes:=[] }
 | _=>none
def times.Div.Bc:List (Nat × Entry):=[(165,soft.Kind.spec),(181,soft.Sign.spec),(182,times.nan.spec),(184,times.norm.spec),(183,times.signed.spec),(185,times.wide.spec)]
def times.Div.E:Env:=Bi (Be times.Div.Bc) (fun _=>false) times.Div.hint (fun _=>none)
section
variable (N M:Nat) (a b p13 p14 p78:Int)
def times.Div.L0:Option DV:=B8 times.Div.E N f144 (Ak f144) [1,1,1,1,1,1,1,0,1,0] [] M ⟨Ff 104 [(6,.bool (!((Eb a)==(Eb b)))),(10,.int .i64 (I2 a)),(11,.int .u64 (D0 b)),(12,.int .i64 (I2 b)),(13,.int .u64 p13),(14,.int .u64 p14),(78,.int .i64 p78)],[]⟩
theorem times.Div.Ar:times.Div.L0 N (M+1) a b p13 p14 p78=bif (Bb p78 61) then bif (Ex (D0 b) (Ch .u64 p14 1)) then times.Div.L0 N M a b (Jk .u64 (Ch .u64 p13 1) 1) (Bq ((Ch .u64 p14 1)-(D0 b))) (Ab (p78+1)) else times.Div.L0 N M a b (Ch .u64 p13 1) (Ch .u64 p14 1) (Ab (p78+1)) else bif (Qy p13 (Ab ((Ab ((I2 a)-(I2 b)))-61))) then some (.tup [.int .u64 (F0 (!((Eb a)==(Eb b))) p13 (Ab ((Ab ((I2 a)-(I2 b)))-61)) (p14 !=(0:Int))),.int .u8 (Fz (!((Eb a)==(Eb b))) p13 (Ab ((Ab ((I2 a)-(I2 b)))-61)) (p14 !=(0:Int)))]) else none:=by kernel_rfl
theorem times.Div.ev:B0 times.Div.E N f144 (Ak f144) [.int .u64 a,.int .u64 b]=bif (Af a) then bif (Af b) then bif (Af a) then bif (Af b) then bif (Af a&&Af b) then bif (Asa a b) then some (.tup [.int .u64 9221120237041090560,.int .u8 0]) else bif ((((Bz a)==(3:Int))&&((Bz b)==(3:Int)))||(((Bz a)==(0:Int))&&((Bz b)==(0:Int)))) then some (.tup [.int .u64 9221120237041090560,.int .u8 16]) else bif ((Bz a)==(3:Int)) then bif (Af 9218868437227405312) then some (.tup [.int .u64 (T9 (!((Eb a)==(Eb b))) 9218868437227405312),.int .u8 0]) else none else bif (((Bz b)==(3:Int))||((Bz a)==(0:Int))) then bif (Af 0) then some (.tup [.int .u64 (T9 (!((Eb a)==(Eb b))) 0),.int .u8 0]) else none else bif ((Bz b)==(0:Int)) then bif (Af 9218868437227405312) then some (.tup [.int .u64 (T9 (!((Eb a)==(Eb b))) 9218868437227405312),.int .u8 8]) else none else bif (Af a&&Nv a) then bif (Af b&&Nv b) then bif ((D0 b) !=0) then bif ((D0 b) !=0) then times.Div.L0 N N a b (Bq (Int.tdiv (D0 a) (D0 b))) (Int.tmod (D0 a) (D0 b)) (0:Int) else none else none else none else none else none else none else none else none else none :=
 Eq.trans (by kernel_rfl)
 (E1 (E1 (E1 (E1 (E1 (E1 rfl (Ax (R6 ((Bz a)==(3:Int))) (Ax (No ((Bz a)==(3:Int))) (Ax (W5 ((Bz a)==(3:Int))) (Ax (A0m ((Bz a)==(3:Int)) ((Bz b)==(3:Int))) (Ax (Aux ((Bz a)==(3:Int)) ((Bz b)==(3:Int))) (Ax (Aux ((Bz a)==(3:Int)) ((Bz b)==(3:Int))) (Ax (A0n ((Bz a)==(3:Int)) ((Bz b)==(3:Int)) ((Bz a)==(0:Int))) (Ax (A0o ((Bz a)==(3:Int)) ((Bz b)==(3:Int)) ((Bz a)==(0:Int))) (Ax (A0p ((Bz a)==(3:Int)) ((Bz b)==(3:Int)) ((Bz a)==(0:Int))) (Ax (A0q ((Bz a)==(3:Int)) ((Bz b)==(3:Int))) (Cw (A0r _ _ _ _) rfl (E1 rfl (Ax (W4 ((Bz b)==(3:Int))) (Ax (T8 ((Bz b)==(3:Int))) (Ax (tt6 ((Bz b)==(3:Int))) (Cw (tt5 _ _) rfl (E1 rfl (E1 (E1 (Cw (Cy _) (Cw (Cy _) rfl rfl) rfl) rfl) rfl))))))))))))))))))) rfl) rfl) rfl) rfl) rfl)
end
abbrev _root_.Go.Proofs.S1.times.Div.Kn:=A8 prog 144 times.Div.spec
theorem times.Div.Ad (hk:A2 prog times.Div.Bc) (h:Hyp times.Div.E f144 times.Div.ts times.Div.pre times.Div.out):times.Div.Kn :=
 Am (A5 hk _ _ _) func144 (by kernel_rfl) (by kernel_rfl) h
end EqTimes
open EqBits6 EqTimes
theorem Ai3 {n:Nat} (h0:n≠0) (h:n<2^64):Go.Lib.bitLen n=n.log2+1:=by
 have h1:=Nat.log2_self_le h0
 have h2:=Nat.lt_log2_self (n:=n)
 have hp:=Cp n.log2
 have e:n / 2^n.log2=1:=by
  rw [Nat.pow_succ] at h2
  exact Nat.div_eq_of_lt_le (by omega) (by omega)
 have e1:Go.Lib.bitLen 1=1:=by decide
 rw [Go.Lib.bitLen_shift n.log2 n h1 h,e,e1]
theorem Dk.Lu.known:Dk.Lu.Kn:=by
 refine ⟨?_,Dk.Lu.call⟩
 intro args ha
 simp only [Dk.Lu.spec,entry] at ha ⊢
 cases hd:Md [.i .u64] args with
 | none=>rw [hd] at ha; cases ha
 | some ats =>
   rw [hd] at ha
   simp only at ha ⊢
   obtain ⟨ds,h1,h2⟩:=Ml hd
   obtain ⟨x,_,_,rfl,rfl,he⟩:=h1.Adu
   obtain ⟨rfl,rfl⟩:=he.Kp
   obtain ⟨n,rfl,hn⟩:=Bw (x:=x) ha
   refine P5.args ?_ h2
   intro w vals I hI hv
   obtain ⟨u,us,e1,e2,e3⟩:=hv
   simp only [Au] at e2
   have e3:us=[]:=e3
   subst e2 e3
   have e4:vals=#[.int .u64 (n:Int)]:=Array.ext' e1
   subst e4
   refine (Dk.Lu.run n w (by omega) (by omega)).mono ?_
   rintro e w' ⟨rfl,rfl⟩
   refine ⟨_,fun _=>none,rfl,Go.RowKit.Below.refl _ _,⟨fun i b h=>(by cases h),fun i j b h=>(by cases h)⟩,?_⟩
   show Au _ _ (DV.int .i64 (F2 n)) _
   simp only [Au]
   congr 1
   unfold F2
   rw [A4i]
   by_cases h0:n=0
   ·subst h0; rfl
   ·rw [Ai3 h0 hn,A42 (by omega)]; rfl
theorem Asq {n:Nat} (hn:n<2^64):0≤F2 n∧F2 n≤64:=by
 unfold F2
 rw [A4i]
 by_cases h0:n=0
 ·subst h0; decide
 ·have:=(A5w h0).2 hn
  rw [A42 (by omega)]; omega
theorem Dk.B9.known:Dk.B9.Kn:=Dk.B9.Ad (.cons Dk.Lu.known .nil) fun x hp=>by
 obtain ⟨n,rfl,hn⟩:=Bw (x:=x) hp
 have:=Asq hn
 refine ⟨0,Dk.B9.out [.i n],[],?_,.int⟩
 rw [Dk.B9.ev,Cm hn,A4g,An (by omega) (by omega)]
 rfl
theorem K4 {a b:Nat} (ha:a<4294967296) (hb:b<4294967296):a*b≤18446744065119617025 :=
 A5n (A5c (show a≤4294967295 by omega) (show b≤4294967295 by omega)) (by decide)
theorem Asd (x y:Nat) (hx:x<2^64) (hy:y<2^64) :
 x*y / 18446744073709551616=(x / 2^32)*(y / 2^32)+((x / 2^32)*(y%2^32)+(x%2^32)*(y%2^32) / 2^32) / 2^32 +
  (((x / 2^32)*(y%2^32)+(x%2^32)*(y%2^32) / 2^32)%2^32+(x%2^32)*(y / 2^32)) / 2^32:=by
 have ex:x=x / 2^32*4294967296+x%2^32:=by omega
 have ey:y=y / 2^32*4294967296+y%2^32:=by omega
 have ha:x / 2^32<4294967296:=by omega
 have hc:y / 2^32<4294967296:=by omega
 have hb:x%2^32<4294967296:=by omega
 have hd:y%2^32<4294967296:=by omega
 generalize x / 2^32=a at *
 generalize x%2^32=b at *
 generalize y / 2^32=c at *
 generalize y%2^32=d at *
 have e:x*y=a*c*18446744073709551616+(a*d+b*c)*4294967296+b*d:=by
  rw [ex,ey,A5k,Nat.mul_add,Nat.mul_add]
  have e1:a*4294967296*(c*4294967296)=a*c*18446744073709551616:=by
   rw [Nat.mul_mul_mul_comm]
  have e2:a*4294967296*d=a*d*4294967296:=Nat.mul_right_comm _ _ _
  have e3:b*(c*4294967296)=b*c*4294967296:=(A47 _ _ _).symm
  rw [e1,e2,e3]
  omega
 have b1:=K4 ha hc
 have b2:=K4 ha hd
 have b3:=K4 hb hc
 have b4:=K4 hb hd
 rw [e]
 clear e ex ey
 generalize a*c=p at *
 generalize a*d=q at *
 generalize b*c=r at *
 generalize b*d=s at *
 omega
theorem Dk.Ir.known:Dk.Ir.Kn:=Dk.Ir.Ad .nil fun x y hp=>by
 obtain ⟨h1,h2⟩:=Ac.1 hp
 obtain ⟨x,rfl,hx⟩:=Bw h1
 obtain ⟨y,rfl,hy⟩:=Bw h2
 refine ⟨0,Dk.Ir.out [.i x,.i y],[],?_,Wk.Hm (.cons .int (.cons .int .nil))⟩
 show _=some (DV.tup [.int .u64 (Uc x y),.int .u64 (Pm x y)])
 have s32:∀ n:Nat,Ef .u64 (n:Int) (32:Int)=((n / 2^32:Nat):Int):=fun n=>Jc .u64 n 32 (by decide)
 have m32:∀ n:Nat,n<2^64→Fx .u64 (n:Int) (4294967295:Int)=((n%2^32:Nat):Int):=fun n hn=>J9 32 hn (by decide)
 have ha:x / 2^32<4294967296:=by omega
 have hc:y / 2^32<4294967296:=by omega
 have hb:x%2^32<4294967296:=by omega
 have hd:y%2^32<4294967296:=by omega
 have b1:=K4 ha hc
 have b2:=K4 ha hd
 have b3:=K4 hb hc
 have b4:=K4 hb hd
 have hhi:=Asd x y hx hy
 have wn:∀ n:Nat,n<2^64→Bq (n:Int)=n:=fun n hn=>Eh (by omega) (by omega)
 have hlt:x*y / 18446744073709551616<2^64:=by
  rw [Nat.div_lt_iff_lt_mul (by decide)]
  have:=A5c (show x≤18446744073709551615 by omega) (show y≤18446744073709551615 by omega)
  omega
 rw [Dk.Ir.ev]
 simp only [s32,m32 x hx,m32 y hy]
 generalize hA:x / 2^32=a at *
 generalize hB:x%2^32=b at *
 generalize hC:y / 2^32=c at *
 generalize hD:y%2^32=d at *
 simp only [← A41]
 rw [wn (a*c) (by omega),wn (a*d) (by omega),wn (b*c) (by omega),wn (b*d) (by omega),s32]
 simp only [← Int.natCast_add]
 rw [wn (a*d+b*d / 2^32) (by omega),s32,m32 _ (by omega)]
 simp only [← Int.natCast_add]
 rw [wn (a*c+(a*d+b*d / 2^32) / 2^32) (by omega),wn _ (by omega),s32]
 simp only [← Int.natCast_add]
 rw [← hhi,wn _ hlt]
 unfold Uc Pm
 rw [A4i,A4i,P7]
 congr 3
theorem times.signed.known:times.signed.Kn:=times.signed.Ad (.cons soft.Du.known .nil) fun b n hp=>by
 have hp:Af b=true:=hp
 refine ⟨0,times.signed.out [.i b,.b n],[],?_,.int⟩
 rw [times.signed.ev,hp]
 cases n<;>rfl
theorem times.nan.known:times.nan.Kn:=times.nan.Ad (.cons soft.Kind.known .nil) fun a b hp=>by
 obtain ⟨ha,hb⟩:=Ac.1 hp
 refine ⟨0,times.nan.out [.i a,.i b],[],?_,.bool⟩
 rw [times.nan.ev,ha,hb,A4g,A4g]
 show _=some (DV.bool (decide (Bz a=4)||decide (Bz b=4)))
 by_cases h1:Bz a=4
 ·rw [h1]; rfl
 ·have e1:(Bz a==(4:Int))=false:=by simp; exact h1
  rw [e1,A4l h1,A4k]
  by_cases h2:Bz b=4
  ·rw [h2]; rfl
  ·have e2:(Bz b==(4:Int))=false:=by simp; exact h2
   rw [e2,A4l h2]; rfl
theorem Qj {n:Nat} (h:Ay n≠0):(Ay n).log2≤52∧2^52≤Ay n*2^Cq n∧Ay n*2^Cq n<2^53∧Cq n≤52:=by
 have h1:=Ge n
 have h2:(Ay n).log2<53:=(A5w h).2 (by omega)
 have hz:=M5 (Ay n) (Cq n) h
 have hne:Ay n*2^Cq n≠0:=Jt h
 have hl:(Ay n*2^Cq n).log2=52:=by rw [hz]; unfold Cq; omega
 refine ⟨by omega,?_,?_,by unfold Cq; omega⟩
 ·rw [← Nat.le_log2 hne]; omega
 ·rw [← A5w hne]; omega
theorem times.norm.known:times.norm.Kn:=times.norm.Ad (.cons Dk.B9.known (.cons soft.G0.known .nil)) fun b hp=>by
 obtain ⟨h1,h2⟩:=Ac.1 hp
 obtain ⟨n,rfl,hn⟩:=Bw h1
 have h2:Ay n≠0:=Aq.1 h2
 obtain ⟨l1,l2,l3,l4⟩:=Qj h2
 have hM:=Ge n
 have hE:=Dy n
 refine ⟨0,times.norm.out [.i n],[],?_,Wk.Hm (.cons .int (.cons .int .nil))⟩
 show _=some (DV.tup [.int .u64 (D0 n),.int .i64 (I2 n)])
 have e1:B6 (n:Int)=(Ay n:Int):=rfl
 have e2:Bp (n:Int)=A3 n:=rfl
 have e3:F2 (Ay n:Int)=((Ay n).log2:Int)+1:=by
  unfold F2
  rw [A42 (by omega),A4i]
 have e4:Ab ((64-(((Ay n).log2:Int)+1))-(11:Int))=((Cq n:Nat):Int):=by
  rw [An (by omega) (by omega)]; unfold Cq; omega
 rw [times.norm.ev,Cm hn,e1,e2,Cm (n:=Ay n) (by omega),e3,e4,Gx _ _ (by omega),A4t (by omega),An (by omega) (by omega),A4h (by omega)]
 rfl
theorem Ani {V t:Nat} {E:Int} (h0:V≠0) (h:V<2^t) (hE:E+t≤-1075):Ck V E=0∧flagsOf V E=3:=by
 have hl:V.log2<t:=(A5w h0).2 h
 have hL:Da V E=-1074:=by unfold Da; omega
 obtain ⟨k,hk⟩:∃ k:Nat,(-1074-E).toNat=t+1+k:=⟨(-1074-E).toNat-t-1,by omega⟩
 have hp:2^(t+1)≤2^(t+1+k):=A4v (by decide) (by omega)
 have ht:2^(t+1)=2*2^t:=by rw [Nat.pow_succ]; omega
 have e2:(-(-1074-E)).toNat=0:=by omega
 have hr:Lj V (-1074-E)=0:=by
  unfold Lj Oj
  rw [e2,hk,A5e,A5p,Nat.div_eq_of_lt (by omega),A4t (by omega),A42 (by omega)]
 have hru:Ck V E=0:=by
  unfold Ck kept
  rw [A42 h0,hL,hr]
  simp
 refine ⟨hru,?_⟩
 unfold flagsOf exact Od
 rw [A42 h0,hru,hL,e2,hk,A5e,A5p,A4t (by omega),A4l h0]
 decide
theorem Aop (n:Bool) {m:Nat} {e:Int} (r:Bool) (hm:1<m) (he:e < -1130):Hu n (m / 2) (e+1) (r||decide (m%2=1))=Hu n m e r:=by
 have e1:(4*m+r.toNat) / 2^3=m / 2:=by cases r<;>simp<;>omega
 have e2:(r||decide (m%2=1))=decide ((4*m+r.toNat)%2^3≠0):=by
  rw [A4w]
  cases r
  ·simp; omega
  ·simp; omega
 have:=V8 n (V:=4*m+r.toNat) (k:=3) (E:=e-2) (e:=e+1) (s:=r||decide (m%2=1)) (by omega) e2 (by omega) (.inr (by omega))
 rw [e1] at this
 exact this
theorem V7 (n:Bool) {e:Int} (r:Bool) (he:e < -1130):Hu n 1 e r=Hu n 0 (-1074) true:=by
 have h1:r.toNat≤1:=by cases r<;>decide
 obtain ⟨a1,a2⟩:=Ani (V:=4*1+r.toNat) (t:=3) (E:=e-2) (by omega) (by omega) (by omega)
 obtain ⟨b1,b2⟩:=Ani (V:=4*0+true.toNat) (t:=1) (E:=-1074-2) (by decide) (by decide) (by decide)
 unfold Hu
 rw [a1,a2,b1,b2]
theorem Am9 (N:Nat) (n:Bool):∀ (k m:Nat) (e:Int) (r:Bool),1≤m→m<2^62→m≤2^k→-7000≤e→e≤6000→(2^60≤m∨e≤-1130) →
 times.wide.L0 N (k+1) n (m:Int) e r=some (.tup [.int .u64 (((Hu n m e r).1:Nat):Int),.int .u8 (((Hu n m e r).2:Nat):Int)]):=by
 intro k
 induction k with
 | zero =>
   intro m e r h1 h2 h3 h4 h5 h6
   have hm:m=1:=by simp at h3; omega
   subst hm
   rw [times.wide.Ar,Av,Av]
   have c1:decide ((1:Int)<((1:Nat):Int))=false:=by decide
   rw [c1,Bool.and_false,A4k]
   by_cases he:e < -1130
   ·have hp:Fe (0:Int) (-1074:Int) true=true:=Aq.2 (by omega)
    rw [A4h he,A4g,hp,A4g,V7 n r he]
    rfl
   ·have he:e=-1130:=by omega
    subst he
    have hp:Fe ((1:Nat):Int) (-1130:Int) r=true:=Aq.2 (by omega)
    rw [A4l (by omega),A4k,hp,A4g]
    rfl
 | succ k ih =>
   intro m e r h1 h2 h3 h4 h5 h6
   rw [times.wide.Ar,Av,Av]
   by_cases he:e < -1130
   ·by_cases hm:1<m
    ·have c1:decide ((1:Int)<(m:Int))=true:=A4h (by omega)
     have e1:Ef .u64 (m:Int) (1:Int)=((m / 2:Nat):Int):=Jc .u64 m 1 (by decide)
     have e2:Fx .u64 (m:Int) (1:Int)=((m%2:Nat):Int):=J9 (a:=m) 1 (by omega) (by decide)
     have e3:(bif r then true else (Fx .u64 (m:Int) (1:Int))==(1:Int))=(r||decide (m%2=1)):=by
      rw [e2]
      cases r
      ·rw [A4w]; simp; omega
      ·rfl
     rw [A4h he,c1,A4m,A4g,e1,e3,An (by omega) (by omega)]
     have hk:m / 2≤2^k:=by rw [Nat.pow_succ] at h3; omega
     rw [ih (m / 2) (e+1) _ (by omega) (by omega) hk (by omega) (by omega) (.inr (by omega)),Aop n r hm he]
    ·have hm:m=1:=by omega
     subst hm
     have c1:decide ((1:Int)<((1:Nat):Int))=false:=by decide
     have hp:Fe (0:Int) (-1074:Int) true=true:=Aq.2 (by omega)
     rw [c1,Bool.and_false,A4k,A4h he,A4g,hp,A4g,V7 n r he]
     rfl
   ·have hp:Fe (m:Int) e r=true:=Aq.2 ⟨by omega,by omega,by omega,.inl (by omega),fun _=>by omega⟩
    rw [A4l he,Bool.false_and,A4k,A4k,hp,A4g]
    rfl
theorem times.wide.known:times.wide.Kn:=times.wide.Ad (.cons soft.D9.known .nil) fun n m e r hp=>by
 obtain ⟨h1,h2,h3,h4⟩:=Aq.1 (show Qy m e=true from hp)
 obtain ⟨m,rfl⟩:∃ k:Nat,m=k:=⟨m.toNat,by omega⟩
 refine ⟨63,times.wide.out [.b n,.i m,.i e,.b r],[],?_,Wk.Hm (.cons .int (.cons .int .nil))⟩
 rw [times.wide.ev,Am9 63 n 62 m e r (by omega) (by omega) (by omega) (by omega) (by omega) (.inl (by omega))]
 rfl
namespace EqRefD
def A6.Neg.Bc:List (Nat × Entry):=[]
def A6.Neg.E:Env:=Bi (Be A6.Neg.Bc) (fun _=>false) (fun _=>none) (fun _=>none)
theorem A6.Neg.ev (N:Nat) (x:Int):B0 A6.Neg.E N f102 (Ak f102) [.int .u64 x]=some (.bool ((Bq (Int.tdiv x 9223372036854775808))==(1:Int))):=by kernel_rfl
abbrev _root_.Go.Proofs.S1.A6.Neg.Kn:=A8 prog 102 A6.Neg.spec
theorem A6.Neg.Ad (hk:A2 prog A6.Neg.Bc) (h:Hyp A6.Neg.E f102 A6.Neg.ts A6.Neg.pre A6.Neg.out):A6.Neg.Kn :=
 Am (A5 hk _ _ _) func102 (by kernel_rfl) (by kernel_rfl) h
def A6.Power.Bc:List (Nat × Entry):=[]
def A6.Power.E:Env:=Bi (Be A6.Power.Bc) (fun _=>false) (fun _=>none) (fun _=>none)
theorem A6.Power.ev (N:Nat) (x:Int):B0 A6.Power.E N f101 (Ak f101) [.int .u64 x]=some (.int .i64 (Ab (Bq (Int.tdiv (Int.tmod x 9223372036854775808) 4503599627370496)))):=by kernel_rfl
abbrev _root_.Go.Proofs.S1.A6.Power.Kn:=A8 prog 101 A6.Power.spec
theorem A6.Power.Ad (hk:A2 prog A6.Power.Bc) (h:Hyp A6.Power.E f101 A6.Power.ts A6.Power.pre A6.Power.out):A6.Power.Kn :=
 Am (A5 hk _ _ _) func101 (by kernel_rfl) (by kernel_rfl) h
def A6.Lw.Bc:List (Nat × Entry):=[]
def A6.Lw.E:Env:=Bi (Be A6.Lw.Bc) (fun _=>false) (fun _=>none) (fun _=>none)
theorem A6.Lw.ev (N:Nat) (x:Int):B0 A6.Lw.E N f100 (Ak f100) [.int .u64 x]=some (.int .u64 (Int.tmod x 4503599627370496)):=by kernel_rfl
abbrev _root_.Go.Proofs.S1.A6.Lw.Kn:=A8 prog 100 A6.Lw.spec
theorem A6.Lw.Ad (hk:A2 prog A6.Lw.Bc) (h:Hyp A6.Lw.E f100 A6.Lw.ts A6.Lw.pre A6.Lw.out):A6.Lw.Kn :=
 Am (A5 hk _ _ _) func100 (by kernel_rfl) (by kernel_rfl) h
def A6.Kind.Bc:List (Nat × Entry):=[(100,A6.Lw.spec),(101,A6.Power.spec)]
def A6.Kind.E:Env:=Bi (Be A6.Kind.Bc) (fun _=>false) (fun _=>none) (fun _=>none)
theorem A6.Kind.ev (N:Nat) (x:Int):B0 A6.Kind.E N f58 (Ak f58) [.int .u64 x]=bif (Oo x) then bif ((Nt x)==(2047:Int)) then bif (Oo x) then bif ((Dw x)==(0:Int)) then some (.int .i64 3) else some (.int .i64 4) else none else bif (Oo x) then bif (Bb 0 (Nt x)) then some (.int .i64 2) else bif (Oo x) then bif (Bb 0 (Dw x)) then some (.int .i64 1) else some (.int .i64 0) else none else none else none:=by kernel_rfl
abbrev _root_.Go.Proofs.S1.A6.Kind.Kn:=A8 prog 58 A6.Kind.spec
theorem A6.Kind.Ad (hk:A2 prog A6.Kind.Bc) (h:Hyp A6.Kind.E f58 A6.Kind.ts A6.Kind.pre A6.Kind.out):A6.Kind.Kn :=
 Am (A5 hk _ _ _) func58 (by kernel_rfl) (by kernel_rfl) h
def A6.Finite.Bc:List (Nat × Entry):=[(101,A6.Power.spec)]
def A6.Finite.E:Env:=Bi (Be A6.Finite.Bc) (fun _=>false) (fun _=>none) (fun _=>none)
theorem A6.Finite.ev (N:Nat) (x:Int):B0 A6.Finite.E N f114 (Ak f114) [.int .u64 x]=bif (Oo x) then some (.bool (Bb (Nt x) 2047)) else none:=by kernel_rfl
abbrev _root_.Go.Proofs.S1.A6.Finite.Kn:=A8 prog 114 A6.Finite.spec
theorem A6.Finite.Ad (hk:A2 prog A6.Finite.Bc) (h:Hyp A6.Finite.E f114 A6.Finite.ts A6.Finite.pre A6.Finite.out):A6.Finite.Kn :=
 Am (A5 hk _ _ _) func114 (by kernel_rfl) (by kernel_rfl) h
def A6.Du.Bc:List (Nat × Entry):=[(102,A6.Neg.spec)]
def A6.Du.E:Env:=Bi (Be A6.Du.Bc) (fun _=>false) (fun _=>none) (fun _=>none)
theorem A6.Du.ev (N:Nat) (x:Int):B0 A6.Du.E N f86 (Ak f86) [.int .u64 x]=bif (Af x) then bif (Eb x) then some (.int .u64 (Bq (x-9223372036854775808))) else some (.int .u64 (Bq (x+9223372036854775808))) else none:=by kernel_rfl
abbrev _root_.Go.Proofs.S1.A6.Du.Kn:=A8 prog 86 A6.Du.spec
theorem A6.Du.Ad (hk:A2 prog A6.Du.Bc) (h:Hyp A6.Du.E f86 A6.Du.ts A6.Du.pre A6.Du.out):A6.Du.Kn :=
 Am (A5 hk _ _ _) func86 (by kernel_rfl) (by kernel_rfl) h
def Fc.Canon.Bc:List (Nat × Entry):=[(58,A6.Kind.spec)]
def Fc.Canon.E:Env:=Bi (Be Fc.Canon.Bc) (fun _=>false) (fun _=>none) (fun _=>none)
theorem Fc.Canon.ev (N:Nat) (x:Int):B0 Fc.Canon.E N f186 (Ak f186) [.int .u64 x]=bif (Oo x) then bif ((Bz x)==(4:Int)) then some (.int .u64 9221120237041090560) else some (.int .u64 x) else none:=by kernel_rfl
abbrev _root_.Go.Proofs.S1.Fc.Canon.Kn:=A8 prog 186 Fc.Canon.spec
theorem Fc.Canon.Ad (hk:A2 prog Fc.Canon.Bc) (h:Hyp Fc.Canon.E f186 Fc.Canon.ts Fc.Canon.pre Fc.Canon.out):Fc.Canon.Kn :=
 Am (A5 hk _ _ _) func186 (by kernel_rfl) (by kernel_rfl) h
abbrev _root_.Go.Proofs.S1.Fc.Canon.nb.Kn:Prop:=A8 prog 186 Fc.Canon.nb.spec
end EqRefD
open EqRefD
theorem Le (n m:Nat):Int.tdiv (n:Int) (m:Int)=((n / m:Nat):Int):=rfl
theorem Ld (n m:Nat):Int.tmod (n:Int) (m:Int)=((n%m:Nat):Int):=rfl
theorem Aw9:(9223372036854775808:Int)=((2^63:Nat):Int):=rfl
theorem Axa:(4503599627370496:Int)=((2^52:Nat):Int):=rfl
theorem A6.Neg.known:A6.Neg.Kn:=A6.Neg.Ad .nil fun x hp=>by
 obtain ⟨n,rfl,hn⟩:=Bw (x:=x) hp
 refine ⟨0,A6.Neg.out [.i n],[],?_,.bool⟩
 rw [A6.Neg.ev,Aw9,Le,Eh (by omega) (by omega)]
 show _=some (DV.bool (Eb n))
 unfold Eb By
 rw [A4i]
 congr 2
 rw [A4w]
 simp only [beq_iff_eq,A4n]
 omega
theorem A6.Power.known:A6.Power.Kn:=A6.Power.Ad .nil fun x hp=>by
 obtain ⟨n,rfl⟩:=V9 (x:=x) hp
 refine ⟨0,A6.Power.out [.i n],[],?_,.int⟩
 rw [A6.Power.ev,Aw9,Axa,Ld,Le,Eh (by omega) (by omega),An (by omega) (by omega)]
 show _=some (DV.int .i64 (Nt n))
 unfold Nt Ea
 rw [A4i]
 congr 2
 have:n%2^63 / 2^52=n / 2^52%2048:=by omega
 rw [this]
theorem A6.Lw.known:A6.Lw.Kn:=A6.Lw.Ad .nil fun x hp=>by
 obtain ⟨n,rfl⟩:=V9 (x:=x) hp
 refine ⟨0,A6.Lw.out [.i n],[],?_,.int⟩
 rw [A6.Lw.ev,Axa,Ld]
 rfl
theorem A6.Kind.known:A6.Kind.Kn:=A6.Kind.Ad (.cons A6.Lw.known (.cons A6.Power.known .nil)) fun x hp=>by
 obtain ⟨n,rfl⟩:=V9 (x:=x) hp
 refine ⟨0,A6.Kind.out [.i n],[],?_,.int⟩
 rw [A6.Kind.ev,Kh]
 show _=some (DV.int .i64 (Bz n))
 unfold Bz Aj Nt Dw
 simp only [A4i,A4g,Av]
 have:=J4 n
 by_cases h1:Ea n=2047
 ·by_cases h2:Dr n=0
  ·simp [h1,h2]
  ·have:((Dr n:Int)==0)=false:=by simp; exact h2
   simp [h1,this,h2]
 ·have h1':((Ea n:Int)==2047)=false:=by simp; omega
  rw [h1']
  by_cases h3:0<Ea n
  ·simp [h1,h3]
  ·by_cases h4:0<Dr n
   ·simp [h1,h3,h4]
   ·simp [h1,h3,h4]
theorem A6.Finite.known:A6.Finite.Kn:=A6.Finite.Ad (.cons A6.Power.known .nil) fun x hp=>by
 obtain ⟨n,rfl,hn⟩:=Bw (x:=x) hp
 refine ⟨0,A6.Finite.out [.i n],[],?_,.bool⟩
 rw [A6.Finite.ev,Kh,A4g,Av]
 show _=some (DV.bool (Dz n))
 unfold Dz Jy Nt
 rw [A4i]
 have:decide ((Ea n:Int)<2047)=decide (Ea n<2047):=decide_eq_decide.2 (by omega)
 rw [this]
theorem A6.Du.known:A6.Du.Kn:=A6.Du.Ad (.cons A6.Neg.known .nil) fun x hp=>by
 obtain ⟨n,rfl,hn⟩:=Bw (x:=x) hp
 refine ⟨0,A6.Du.out [.i n],[],?_,.int⟩
 rw [A6.Du.ev,Cm hn,A4g]
 show _=some (DV.int .u64 (Cz n))
 unfold Cz I5 Eb By
 rw [A4i,P7,P7]
 by_cases h:2^63≤n
 ·have e:((n:Int)-9223372036854775808)%18446744073709551616=((n-2^63:Nat):Int):=by omega
  rw [A43 h,A4h h,A4g,e]
 ·have e:((n:Int)+9223372036854775808)%18446744073709551616=((n+2^63:Nat):Int):=by omega
  rw [A42 h,A4l h,A4k,e]
theorem Fc.Canon.known:Fc.Canon.Kn:=Fc.Canon.Ad (.cons A6.Kind.known .nil) fun x hp=>by
 obtain ⟨n,rfl⟩:=V9 (x:=x) hp
 refine ⟨0,Fc.Canon.out [.i n],[],?_,.int⟩
 rw [Fc.Canon.ev,Kh,A4g]
 show _=some (DV.int .u64 (Abw n))
 unfold Abw Es Bz
 rw [A4i]
 by_cases h:Aj n=4
 ·have:((Aj n:Int)==4)=true:=by simp; omega
  rw [this,A43 h]; rfl
 ·have:((Aj n:Int)==4)=false:=by simp; omega
  rw [this,A42 h]; rfl
theorem Aph {n m:Nat} (h:R5 n m):Es n=Es m:=by
 rcases h with rfl | ⟨h1,h2⟩
 ·rfl
 ·unfold G4 at h1 h2
  rw [Aas n] at h1
  rw [Aas m] at h2
  unfold Es
  rw [A43 (A46 h1),A43 (A46 h2)]
theorem Avh {c:Ctx} {w:World} {d:DV} {vs:List Value} (h:Bj c w [d] vs):∃ v,vs=[v]∧Au c w d v:=by
 simp only [Bj] at h
 obtain ⟨u,us,rfl,hv,rfl⟩:=h
 exact ⟨u,rfl,hv⟩
theorem Fc.Canon.Ar8:Fc.Canon.nb.Kn:=by
 refine ⟨fun args ha=>?_,Fc.Canon.known.call⟩
 unfold Fc.Canon.nb.spec entry at ha ⊢
 simp only at ha ⊢
 cases hd:Md [.nb] args with
 | none=>rw [hd] at ha; cases ha
 | some bs =>
   rw [hd] at ha
   obtain ⟨ds,h1,h2⟩:=Ml hd
   obtain ⟨x,_,_,rfl,rfl,he⟩:=h1.Ayk
   obtain ⟨rfl,rfl⟩:=he.Kp
   refine P5.args (args:=[.nb x]) ?_ h2
   intro w vals I hI hl
   obtain ⟨v,hv,hr⟩:=Avh hl
   simp only [Au] at hr
   obtain ⟨m,rfl,hm⟩:=hr
   have e:Fc.Canon.nb.out [.f x]=Fc.Canon.spec.out [.int .u64 (m:Int)]:=by
    show DV.int .u64 (Hf x)=DV.int .u64 (Abw (m:Int))
    unfold Hf Abw
    rw [A4i,Aph hm]
   show Calls _ _ _ _ fun e' w'=>∃ v own,e'=.returned v∧Go.RowKit.Below w.heap.size w w'∧Am6 own w w'∧Au (Er I own w w') w' (Fc.Canon.nb.out [.f x]) v
   rw [e]
   exact Fc.Canon.known.meets [.int .u64 (m:Int)] (Kh m) w vals I hI (by rw [hv]; exact ⟨_,_,rfl,rfl,rfl⟩)
open EqTimes
theorem Qd {b:Nat} (h0:Aj b≠0) (h3:Aj b≠3) (h4:Aj b≠4):Ay b≠0:=by
 have:=J4 b
 unfold Aj at h0 h3 h4
 unfold Ay
 by_cases h1:Ea b=2047
 ·rw [A43 h1] at h3 h4
  by_cases h2:Dr b=0
  ·rw [A43 h2] at h3; exact absurd rfl h3
  ·rw [A42 h2] at h4; exact absurd rfl h4
 ·rw [A42 h1] at h0
  by_cases h2:0<Ea b
  ·rw [A42 (by omega)]; omega
  ·rw [A42 h2] at h0
   by_cases h5:0<Dr b
   ·rw [A43 (by omega)]; omega
   ·rw [A42 h5] at h0; exact absurd rfl h0
theorem Xn {b:Nat} (h0:Aj b=0):Ay b=0:=by
 unfold Aj at h0
 unfold Ay
 by_cases h1:Ea b=2047
 ·rw [A43 h1] at h0; split at h0<;>omega
 ·rw [A42 h1] at h0
  by_cases h2:0<Ea b
  ·rw [A43 h2] at h0; omega
  ·rw [A42 h2] at h0
   by_cases h5:0<Dr b
   ·rw [A43 h5] at h0; omega
   ·rw [A43 (by omega)]; omega
theorem Akn {x y:Nat} (hx1:2^52≤x) (hx2:x<2^53) (hy1:2^52≤y) (hy2:y<2^53):2^104≤x*y∧x*y<2^106:=by
 have h1:=A5c hx1 hy1
 have h2:x*y<2^53*2^53:=Nat.mul_lt_mul'' hx2 hy2
 exact ⟨A5n (by decide) h1,A5r h2 (by decide)⟩
theorem Ave {V:Nat} (h:V<2^106):Jk .u64 (Ch .u64 ((V / 18446744073709551616:Nat):Int) (20:Int)) (Ef .u64 ((V%18446744073709551616:Nat):Int) (44:Int))=((V / 2^44:Nat):Int):=by
 have e1:Ch .u64 ((V / 18446744073709551616:Nat):Int) (20:Int)=((V / 18446744073709551616*2^20%2^64:Nat):Int):=Gx _ 20 (by decide)
 have e2:Ef .u64 ((V%18446744073709551616:Nat):Int) (44:Int)=((V%18446744073709551616 / 2^44:Nat):Int):=Jc .u64 _ 44 (by decide)
 rw [e1,e2,A4t (by omega),O0 (k:=20) (by omega) (by omega)]
 congr 1
 omega
theorem Avd {V:Nat}:((Ch .u64 ((V%18446744073709551616:Nat):Int) (20:Int)) !=(0:Int))=decide (V%2^44≠0):=by
 have e1:Ch .u64 ((V%18446744073709551616:Nat):Int) (20:Int)=((V%18446744073709551616*2^20%2^64:Nat):Int):=Gx _ 20 (by decide)
 rw [e1,A4w]
 simp only [bne_iff_ne,ne_eq,A4n]
 omega
theorem Afi (s t:Bool):(!(s==t))=(s !=t):=rfl
theorem w53 {x:Nat} (h:x<2^53):Af (x:Int)=true:=Cm (by omega)
theorem Avl (n:Bool) {a b:Nat} (ha:Ay a≠0) (hb:Ay b≠0) :
 (bif (Af (D0 a)&&Af (D0 b)) then
  bif (Qy (Jk .u64 (Ch .u64 (Uc (D0 a) (D0 b)) (20:Int)) (Ef .u64 (Pm (D0 a) (D0 b)) (44:Int))) (Ab ((Ab ((I2 a)+(I2 b)))+(44:Int)))) then
   some (DV.tup [.int .u64 (F0 n (Jk .u64 (Ch .u64 (Uc (D0 a) (D0 b)) (20:Int)) (Ef .u64 (Pm (D0 a) (D0 b)) (44:Int))) (Ab ((Ab ((I2 a)+(I2 b)))+(44:Int))) ((Ch .u64 (Pm (D0 a) (D0 b)) (20:Int)) !=(0:Int))),.int .u8 (Fz n (Jk .u64 (Ch .u64 (Uc (D0 a) (D0 b)) (20:Int)) (Ef .u64 (Pm (D0 a) (D0 b)) (44:Int))) (Ab ((Ab ((I2 a)+(I2 b)))+(44:Int))) ((Ch .u64 (Pm (D0 a) (D0 b)) (20:Int)) !=(0:Int)))])
  else none
 else none)=some (.tup [.int .u64 ((Bo n (Ck (Ay a*Ay b) (A3 a+A3 b)):Nat):Int),.int .u8 ((flagsOf (Ay a*Ay b) (A3 a+A3 b):Nat):Int)]):=by
 obtain ⟨a1,a2,a3,a4⟩:=Qj ha
 obtain ⟨b1,b2,b3,b4⟩:=Qj hb
 have ea:=Dy a
 have eb:=Dy b
 have ma:D0 (a:Int)=((Ay a*2^Cq a:Nat):Int):=rfl
 have mb:D0 (b:Int)=((Ay b*2^Cq b:Nat):Int):=rfl
 have na:I2 (a:Int)=A3 a-Cq a:=rfl
 have nb:I2 (b:Int)=A3 b-Cq b:=rfl
 have hi:Uc (D0 a) (D0 b)=((Ay a*2^Cq a*(Ay b*2^Cq b) / 18446744073709551616:Nat):Int):=rfl
 have lo:Pm (D0 a) (D0 b)=((Ay a*2^Cq a*(Ay b*2^Cq b)%18446744073709551616:Nat):Int):=rfl
 rw [hi,lo,ma,mb,na,nb,w53 a3,w53 b3,A4m,A4g]
 obtain ⟨v1,v2⟩:=Akn a2 a3 b2 b3
 have ev:Ay a*2^Cq a*(Ay b*2^Cq b)=Ay a*Ay b*2^(Cq a+Cq b):=by
  rw [Nat.mul_mul_mul_comm,← A45]
 obtain ⟨s1,s2⟩:=D1 (Ay a*Ay b) (Cq a+Cq b) (A3 a+A3 b)
 rw [← ev] at s1 s2
 generalize Ay a*2^Cq a*(Ay b*2^Cq b)=V at *
 rw [Ave v2,Avd,An (x:=_+_) (by rw [An (by omega) (by omega)]; omega) (by rw [An (by omega) (by omega)]; omega),An (by omega) (by omega)]
 have hw:Qy ((V / 2^44:Nat):Int) (A3 a-Cq a+(A3 b-Cq b)+44)=true:=Aq.2 ⟨by omega,by omega,by omega,by omega⟩
 rw [hw,A4g]
 unfold F0 Fz
 rw [A4i,V8 n (V:=V) (k:=44) (E:=A3 a+A3 b-((Cq a+Cq b:Nat):Int)) (e:=A3 a-Cq a+(A3 b-Cq b)+44) (s:=decide (V%2^44≠0)) (by omega) rfl (by omega) (.inl (by omega)),s1,s2]
theorem kq (b k:Nat):(((Aj b:Nat):Int)==((k:Nat):Int))=decide (Aj b=k):=by
 rw [A4w]; simp only [beq_iff_eq,A4n]; omega
theorem Ac4 (n:Bool) {r:Nat} (h:r<2^63):T9 n (r:Int)=((Bo n r:Nat):Int):=by
 unfold T9 Bo Cz
 cases n
 ·rfl
 ·simp only [if_true]
  rw [A4i,Aax h]
theorem Aic (n:Bool):T9 n (9218868437227405312:Int)=((Bo n Ek:Nat):Int):=Ac4 n (r:=Ek) (by decide)
theorem Acq (n:Bool):T9 n (0:Int)=((Bo n 0:Nat):Int):=Ac4 n (r:=0) (by decide)
theorem To (b:Nat):Bz (b:Int)=((Aj b:Nat):Int):=rfl
theorem Amd (a b:Nat):Asa (a:Int) (b:Int)=(decide (Aj a=4)||decide (Aj b=4)):=by
 unfold Asa Bz
 simp only [A4i]
 rw [A4w]
 simp only [Bool.or_eq_true,A4n]
 omega
theorem k3 (b:Nat):(((Aj b:Nat):Int)==(3:Int))=decide (Aj b=3):=kq b 3
theorem k0 (b:Nat):(((Aj b:Nat):Int)==(0:Int))=decide (Aj b=0):=kq b 0
theorem times.Mul.known:times.Mul.Kn:=times.Mul.Ad (.cons Dk.Ir.known (.cons soft.Kind.known (.cons soft.Sign.known (.cons times.nan.known (.cons times.norm.known (.cons times.signed.known (.cons times.wide.known .nil))))))) fun a b hp=>by
 obtain ⟨ha,hb⟩:=Ac.1 hp
 obtain ⟨a,rfl,hn⟩:=Bw ha
 obtain ⟨b,rfl,hm⟩:=Bw hb
 refine ⟨0,times.Mul.out [.i a,.i b],[],?_,Wk.Hm (.cons .int (.cons .int .nil))⟩
 have i1:Af (9218868437227405312:Int)=true:=Cm (n:=9218868437227405312) (by decide)
 have i2:Af (0:Int)=true:=Cm (n:=0) (by decide)
 rw [times.Mul.ev,ha,hb,Amd,To,To,k3,k3,k0,k0,i1,i2,Aic,Acq,Afi]
 show _=some (DV.tup [.int .u64 (((Ly a b).1:Nat):Int),.int .u8 (((Ly a b).2:Nat):Int)])
 have ea:Eb (a:Int)=By a:=rfl
 have eb:Eb (b:Int)=By b:=rfl
 rw [ea,eb]
 unfold Ly
 simp only [A4m,A4g]
 by_cases h4:Aj a=4∨Aj b=4
 ·have c4:(decide (Aj a=4)||decide (Aj b=4))=true:=by simp; exact h4
  rw [A43 h4,c4,A4g]; rfl
 ·have c4:(decide (Aj a=4)||decide (Aj b=4))=false:=by simp; omega
  rw [A42 h4,c4,A4k]
  by_cases h3:Aj a=3∨Aj b=3
  ·rw [A43 h3]
   by_cases h0:Aj a=0∨Aj b=0
   ·have c0:(decide (Aj a=3)&&decide (Aj b=0)||decide (Aj a=0)&&decide (Aj b=3))=true:=by simp; omega
    rw [A43 h0,c0,A4g]; rfl
   ·have c0:(decide (Aj a=3)&&decide (Aj b=0)||decide (Aj a=0)&&decide (Aj b=3))=false:=by simp; omega
    have c3:(decide (Aj a=3)||decide (Aj b=3))=true:=by simp; omega
    rw [A42 h0,c0,A4k,c3,A4g]; rfl
  ·have c0:(decide (Aj a=3)&&decide (Aj b=0)||decide (Aj a=0)&&decide (Aj b=3))=false:=by simp; omega
   have c3:(decide (Aj a=3)||decide (Aj b=3))=false:=by simp; omega
   rw [A42 h3,c0,A4k,c3,A4k]
   by_cases h0:Aj a=0∨Aj b=0
   ·have c5:(decide (Aj a=0)||decide (Aj b=0))=true:=by simp; exact h0
    have hz:Ay a*Ay b=0:=by
     rcases h0 with h | h
     ·rw [Xn h,Nat.zero_mul]
     ·rw [Xn h,Nat.mul_zero]
    rw [c5,A4g,hz,Te,Rj]; rfl
   ·have c5:(decide (Aj a=0)||decide (Aj b=0))=false:=by simp; omega
    have pa:=Qd (b:=a) (by omega) (by omega) (by omega)
    have pb:=Qd (b:=b) (by omega) (by omega) (by omega)
    have na:Nv (a:Int)=true:=Aq.2 pa
    have nb:Nv (b:Int)=true:=Aq.2 pb
    rw [c5,A4k,na,nb,A4m,A4g,A4g]
    exact Avl _ pa pb
theorem Atp (N:Nat) {a b:Nat} {X Y:Nat} (hY:0<Y) (hY2:Y<2^53) (hX:X<2*Y) (em:D0 (b:Int)=(Y:Int)):∀ (k i:Nat),k+i=61 →
 times.Div.L0 N (k+1) a b ((X*2^i / Y:Nat):Int) ((X*2^i%Y:Nat):Int) (i:Int) =
  times.Div.L0 N 1 a b ((X*2^61 / Y:Nat):Int) ((X*2^61%Y:Nat):Int) (61:Int):=by
 intro k
 induction k with
 | zero =>
   intro i hi
   have:i=61:=by omega
   subst this
   rfl
 | succ k ih =>
   intro i hi
   have hq:X*2^i / Y<2^62:=by
    rw [Nat.div_lt_iff_lt_mul hY]
    have h1:X*2^i<2*Y*2^i:=(Nat.mul_lt_mul_right (Cp i)).2 hX
    have h2:2*2^i≤2^62:=by
     rw [A44,← Nat.pow_succ]; exact A4v (by decide) (by omega)
    have h3:2*2^i*Y≤2^62*Y:=A4s _ h2
    rw [Nat.mul_right_comm] at h1
    omega
   have hr:X*2^i%Y<Y:=Nat.mod_lt _ hY
   have hd:=Nat.div_add_mod (X*2^i) Y
   have e2:X*2^(i+1)=X*2^i*2:=by rw [Nat.pow_succ,A47]
   rw [times.Div.Ar,Av,Fk,em,A4h (by omega),A4g]
   have s1:Ch .u64 ((X*2^i%Y:Nat):Int) (1:Int)=((X*2^i%Y*2:Nat):Int):=by
    have:=Gx (X*2^i%Y) 1 (by decide)
    rw [A4t (a:=X*2^i%Y*2^1) (by omega)] at this
    exact this
   have s2:Ch .u64 ((X*2^i / Y:Nat):Int) (1:Int)=((X*2^i / Y*2^1:Nat):Int):=by
    have:=Gx (X*2^i / Y) 1 (by decide)
    rw [A4t (a:=X*2^i / Y*2^1) (by omega)] at this
    exact this
   have s3:Jk .u64 ((X*2^i / Y*2^1:Nat):Int) (1:Int)=((X*2^i / Y*2^1+1:Nat):Int):=O0 (k:=1) (b:=1) (by decide) (by omega)
   have ei:Ab ((i:Int)+1)=((i+1:Nat):Int):=by rw [An (by omega) (by omega)]; rfl
   rw [s1,s2,s3,ei]
   generalize hq':X*2^i / Y=q at *
   generalize hr':X*2^i%Y=r at *
   have step:∀ c,X*2^i*2=Y*(2*q+c)+(2*r-c*Y)→c*Y≤2*r→2*r<c*Y+Y→X*2^(i+1) / Y=2*q+c∧X*2^(i+1)%Y=2*r-c*Y:=fun c h1 h2 h3=>by
    rw [e2,h1]
    constructor
    ·rw [Nat.mul_add_div hY,Nat.div_eq_of_lt (by omega)]; omega
    ·rw [Nat.mul_add_mod,A4t (by omega)]
   by_cases hc:Y≤r*2
   ·obtain ⟨t1,t2⟩:=step 1 (by rw [Nat.mul_add,A5p,Nat.mul_left_comm]; omega) (by omega) (by omega)
    have:=ih (i+1) (by omega)
    rw [t1,t2] at this
    rw [A4h (by omega),A4g,Eh (by omega) (by omega)]
    have e3:((r*2:Nat):Int)-(Y:Int)=((2*r-1*Y:Nat):Int):=by omega
    have e4:q*2^1+1=2*q+1:=by omega
    rw [e3,e4]
    exact this
   ·obtain ⟨t1,t2⟩:=step 0 (by rw [A5o,Nat.mul_left_comm]; omega) (by omega) (by omega)
    have:=ih (i+1) (by omega)
    rw [t1,t2] at this
    rw [A4l (by omega),A4k]
    have e3:r*2=2*r-0*Y:=by omega
    have e4:q*2^1=2*q+0:=by omega
    rw [e3,e4]
    exact this
theorem Awd {a b:Nat} (ha:Ay a≠0) (hb:Ay b≠0) :
 times.Div.L0 62 62 a b (Bq (Int.tdiv (D0 a) (D0 b))) (Int.tmod (D0 a) (D0 b)) (0:Int) =
  some (.tup [.int .u64 ((Bo (By a !=By b) (Ck (G3 (Ay a) (Ay b) 120) (A3 a-A3 b-121)):Nat):Int),.int .u8 ((flagsOf (G3 (Ay a) (Ay b) 120) (A3 a-A3 b-121):Nat):Int)]):=by
 obtain ⟨a1,a2,a3,a4⟩:=Qj ha
 obtain ⟨b1,b2,b3,b4⟩:=Qj hb
 have ea:=Dy a
 have eb:=Dy b
 have ma:D0 (a:Int)=((Ay a*2^Cq a:Nat):Int):=rfl
 have mb:D0 (b:Int)=((Ay b*2^Cq b:Nat):Int):=rfl
 have na:I2 (a:Int)=A3 a-Cq a:=rfl
 have nb:I2 (b:Int)=A3 b-Cq b:=rfl
 have sL:=Ajv (Ay a) (Ay b*2^Cq b) (Cq a) 61
 have hpos:0<Ay b*2^Cq b:=by omega
 have hq1:2^53≤Ay a*2^Cq a*2^61 / (Ay b*2^Cq b):=by
  rw [Nat.le_div_iff_mul_le hpos]; omega
 have hqq:2^60≤Ay a*2^Cq a*2^61 / (Ay b*2^Cq b):=by
  rw [Nat.le_div_iff_mul_le hpos]; omega
 have hq2:Ay a*2^Cq a*2^61 / (Ay b*2^Cq b)<2^62:=by
  rw [Nat.div_lt_iff_lt_mul hpos]; omega
 have hstick:G3 (Ay a*2^Cq a) (Ay b*2^Cq b) 61=G3 (Ay a) (Ay b) (61+Cq a-Cq b):=by
  rw [sL]
  have:61+Cq a=61+Cq a-Cq b+Cq b:=by omega
  conv=>lhs; rw [this]
  rw [Agv]
 have hge1:2^53≤Ay a*2^(61+Cq a-Cq b) / Ay b:=by
  have e1:Ay a*2^Cq a*2^61=Ay a*2^(61+Cq a-Cq b)*2^Cq b:=by
   rw [A47,← A45,A47,← A45]
   congr 2
   omega
  rw [e1,Nat.mul_div_mul_right _ _ (Cp _)] at hq1
  exact hq1
 have hge2:2^53≤Ay a*2^120 / Ay b:=Arn (t:=53) (by omega) (by omega) (by have:=Ge b; omega) (by omega)
 obtain ⟨s1,s2⟩:=Zy (X:=Ay a) (Y:=Ay b) (K:=61+Cq a-Cq b) (L:=120) (E:=A3 a-Cq a-(A3 b-Cq b)-61-1) (F:=A3 a-A3 b-121) (by omega) hge1 hge2 (by omega)
 have d1:Bq (Int.tdiv (D0 a) (D0 b))=((Ay a*2^Cq a*2^0 / (Ay b*2^Cq b):Nat):Int):=by
  rw [ma,mb,Le,A5e,A5p]
  have h1:=Nat.div_le_self (Ay a*2^Cq a) (Ay b*2^Cq b)
  have h2:Ay a*2^Cq a / (Ay b*2^Cq b)<2^64:=A5i h1 (Nat.lt_trans a3 (by decide))
  generalize Ay a*2^Cq a / (Ay b*2^Cq b)=q at h2 ⊢
  exact Eh (Int.natCast_nonneg q) (by omega)
 have d2:Int.tmod (D0 a) (D0 b)=((Ay a*2^Cq a*2^0%(Ay b*2^Cq b):Nat):Int):=by
  rw [ma,mb,Ld,A5e,A5p]
 rw [d1,d2]
 have lp:=Atp 62 (a:=a) (b:=b) hpos b3 (X:=Ay a*2^Cq a) (by omega) mb 61 0 (by omega)
 refine lp.trans ?_
 rw [times.Div.Ar,Av,na,nb,A4l (by omega),A4k]
 have we:Ab (Ab (A3 a-Cq a-(A3 b-Cq b))-61)=A3 a-Cq a-(A3 b-Cq b)-61:=by
  rw [An (x:=A3 a-Cq a-(A3 b-Cq b)) (by omega) (by omega),An (by omega) (by omega)]
 have hne:(((Ay a*2^Cq a*2^61%(Ay b*2^Cq b):Nat):Int) !=(0:Int))=decide (Ay a*2^Cq a*2^61%(Ay b*2^Cq b)≠0):=by
  rw [A4w]; simp only [bne_iff_ne,ne_eq,A4n]; omega
 rw [we,hne]
 have hw:Qy ((Ay a*2^Cq a*2^61 / (Ay b*2^Cq b):Nat):Int) (A3 a-Cq a-(A3 b-Cq b)-61)=true:=Aq.2 ⟨by omega,by omega,by omega,by omega⟩
 have hn:Eb (a:Int)=By a:=rfl
 have hn':Eb (b:Int)=By b:=rfl
 rw [hw,A4g,Afi,hn,hn']
 unfold F0 Fz
 rw [A4i,Aor _ rfl rfl hq1,hstick,s1,s2]
theorem times.Div.known:times.Div.Kn:=times.Div.Ad (.cons soft.Kind.known (.cons soft.Sign.known (.cons times.nan.known (.cons times.norm.known (.cons times.signed.known (.cons times.wide.known .nil)))))) fun a b hp=>by
 obtain ⟨ha,hb⟩:=Ac.1 hp
 obtain ⟨a,rfl,hn⟩:=Bw ha
 obtain ⟨b,rfl,hm⟩:=Bw hb
 refine ⟨62,times.Div.out [.i a,.i b],[],?_,Wk.Hm (.cons .int (.cons .int .nil))⟩
 have i1:Af (9218868437227405312:Int)=true:=Cm (n:=9218868437227405312) (by decide)
 have i2:Af (0:Int)=true:=Cm (n:=0) (by decide)
 rw [times.Div.ev,ha,hb,Amd,To,To,k3,k3,k0,k0,i1,i2,Aic,Acq,Afi]
 show _=some (DV.tup [.int .u64 (((Afy a b).1:Nat):Int),.int .u8 (((Afy a b).2:Nat):Int)])
 have ea:Eb (a:Int)=By a:=rfl
 have eb:Eb (b:Int)=By b:=rfl
 rw [ea,eb]
 unfold Afy
 rw [A4m,A4g,A4g,A4g,A4g,A4g]
 by_cases h4:Aj a=4∨Aj b=4
 ·have c4:(decide (Aj a=4)||decide (Aj b=4))=true:=by simp; exact h4
  rw [A43 h4,c4,A4g]; rfl
 ·have c4:(decide (Aj a=4)||decide (Aj b=4))=false:=by simp; omega
  rw [A42 h4,c4,A4k]
  by_cases h1:Aj a=Aj b∧(Aj a=3∨Aj a=0)
  ·have c1:(decide (Aj a=3)&&decide (Aj b=3)||decide (Aj a=0)&&decide (Aj b=0))=true:=by simp; omega
   rw [A43 h1,c1,A4g]; rfl
  ·have c1:(decide (Aj a=3)&&decide (Aj b=3)||decide (Aj a=0)&&decide (Aj b=0))=false:=by simp; omega
   rw [A42 h1,c1,A4k]
   by_cases h2:Aj a=3
   ·rw [A43 h2,A4h h2,A4g]; rfl
   ·rw [A42 h2,A4l h2,A4k]
    by_cases h3:Aj b=3∨Aj a=0
    ·have c3:(decide (Aj b=3)||decide (Aj a=0))=true:=by simp; exact h3
     rw [A43 h3,c3,A4g]; rfl
    ·have c3:(decide (Aj b=3)||decide (Aj a=0))=false:=by simp; omega
     rw [A42 h3,c3,A4k]
     by_cases h5:Aj b=0
     ·rw [A43 h5,A4h h5,A4g]; rfl
     ·rw [A42 h5,A4l h5,A4k]
      have pa:=Qd (b:=a) (by omega) (by omega) (by omega)
      have pb:=Qd (b:=b) (by omega) (by omega) (by omega)
      have na:Nv (a:Int)=true:=Aq.2 pa
      have nb:Nv (b:Int)=true:=Aq.2 pb
      have hnb:(D0 (b:Int) !=0)=true:=by
       obtain ⟨_,l2,_,_⟩:=Qj pb
       have mb:D0 (b:Int)=((Ay b*2^Cq b:Nat):Int):=rfl
       rw [mb]
       simp only [bne_iff_ne,ne_eq]
       omega
      rw [na,nb,hnb,A4m,A4g,A4g,A4g,A4g,Awd pa pb]
namespace EqVec
def Ag.Add.Bc:List (Nat × Entry):=[(174,sum.Add.spec)]
def Ag.Add.E:Env:=Bi (Be Ag.Add.Bc) (fun _=>false) (fun _=>none) (fun _=>none)
theorem Ag.Add.ev (N:Nat) (a b:Int):B0 Ag.Add.E N f137 (Ak f137) [.int .u64 a,.int .u64 b]=bif (Af a&&Af b) then some (.int .u64 (Dt a b)) else none:=by kernel_rfl
abbrev _root_.Go.Proofs.S1.Ag.Add.Kn:=A8 prog 137 Ag.Add.spec
theorem Ag.Add.Ad (hk:A2 prog Ag.Add.Bc) (h:Hyp Ag.Add.E f137 Ag.Add.ts Ag.Add.pre Ag.Add.out):Ag.Add.Kn :=
 Am (A5 hk _ _ _) func137 (by kernel_rfl) (by kernel_rfl) h
def Ag.Sub.Bc:List (Nat × Entry):=[(231,sum.Sub.spec)]
def Ag.Sub.E:Env:=Bi (Be Ag.Sub.Bc) (fun _=>false) (fun _=>none) (fun _=>none)
theorem Ag.Sub.ev (N:Nat) (a b:Int):B0 Ag.Sub.E N f201 (Ak f201) [.int .u64 a,.int .u64 b]=bif (Af a&&Af b) then some (.int .u64 (E4 a b)) else none:=by kernel_rfl
abbrev _root_.Go.Proofs.S1.Ag.Sub.Kn:=A8 prog 201 Ag.Sub.spec
theorem Ag.Sub.Ad (hk:A2 prog Ag.Sub.Bc) (h:Hyp Ag.Sub.E f201 Ag.Sub.ts Ag.Sub.pre Ag.Sub.out):Ag.Sub.Kn :=
 Am (A5 hk _ _ _) func201 (by kernel_rfl) (by kernel_rfl) h
def Ag.Mul.Bc:List (Nat × Entry):=[(175,times.Mul.spec)]
def Ag.Mul.E:Env:=Bi (Be Ag.Mul.Bc) (fun _=>false) (fun _=>none) (fun _=>none)
theorem Ag.Mul.ev (N:Nat) (a b:Int):B0 Ag.Mul.E N f138 (Ak f138) [.int .u64 a,.int .u64 b]=bif (Af a&&Af b) then some (.int .u64 (Cc a b)) else none:=by kernel_rfl
abbrev _root_.Go.Proofs.S1.Ag.Mul.Kn:=A8 prog 138 Ag.Mul.spec
theorem Ag.Mul.Ad (hk:A2 prog Ag.Mul.Bc) (h:Hyp Ag.Mul.E f138 Ag.Mul.ts Ag.Mul.pre Ag.Mul.out):Ag.Mul.Kn :=
 Am (A5 hk _ _ _) func138 (by kernel_rfl) (by kernel_rfl) h
def Ag.fit.Bc:List (Nat × Entry):=[]
def Ag.fit.E:Env:=Bi (Be Ag.fit.Bc) (fun _=>false) (fun _=>none) (fun _=>none)
theorem Ag.fit.ev (N:Nat) (x y:List Int):B0 Ag.fit.E N f173 (Ak f173) [.ints .arg .u64 x,.ints .arg .u64 y]=some (.bool (bif ((length x:Int)==(length y:Int)) then (Ex (length x:Int) 64) else false)) :=
 Eq.trans (by kernel_rfl)
 (Ax (R6 ((length x:Int)==(length y:Int))) (Ax (No ((length x:Int)==(length y:Int))) (Ax (No ((length x:Int)==(length y:Int))) (Ax (W5 ((length x:Int)==(length y:Int))) rfl))))
abbrev _root_.Go.Proofs.S1.Ag.fit.Kn:=A8 prog 173 Ag.fit.spec
theorem Ag.fit.Ad (hk:A2 prog Ag.fit.Bc) (h:Hyp Ag.fit.E f173 Ag.fit.ts Ag.fit.pre Ag.fit.out):Ag.fit.Kn :=
 Am (A5 hk _ _ _) func173 (by kernel_rfl) (by kernel_rfl) h
def Ag.H9.hint:Nat→Option Ba
 | 0=>some { keep:=[0,1,6,13,14],objs:=[],boxes:=[] }
 | _=>none
def Ag.H9.Bc:List (Nat × Entry):=[(137,Ag.Add.spec),(138,Ag.Mul.spec),(173,Ag.fit.spec)]
def Ag.H9.E:Env:=Bi (Be Ag.H9.Bc) (fun _=>false) Ag.H9.hint (fun _=>none)
section
variable (N M:Nat) (x y:List Int) (p6 p14:Int)
def Ag.H9.L0:Option DV:=B8 Ag.H9.E N f134 (Ak f134) [1,1,1,0,1,0] [] M ⟨Ff 30 [(0,.ints .arg .u64 x),(1,.ints .arg .u64 y),(6,.int .u64 p6),(13,.int .i64 (length x:Int)),(14,.int .i64 p14)],[]⟩
theorem Ag.H9.Ar:Ag.H9.L0 N (M+1) x y p6 p14=bif (Bb p14 (length x:Int)) then bif ((decide (0≤p14))&&(decide (p14<(length x:Int)))) then bif ((decide (0≤p14))&&(decide (p14<(length y:Int)))) then bif (Af (getD x (toNat p14) 0)&&Af (getD y (toNat p14) 0)) then bif (Af p6&&Af (Cc (getD x (toNat p14) 0) (getD y (toNat p14) 0))) then Ag.H9.L0 N M x y (Dt p6 (Cc (getD x (toNat p14) 0) (getD y (toNat p14) 0))) (Ab (p14+1)) else none else none else none else none else some (.tup [.int .u64 p6,.int .i64 0]) :=
 Eq.trans (by kernel_rfl)
 (E1 (Cw (J1 _ _) (Cw (J1 _ _) (Cw (Cy _) (Cw (Cy _) rfl rfl) rfl) rfl) rfl) rfl)
theorem Ag.H9.ev:B0 Ag.H9.E N f134 (Ak f134) [.ints .arg .u64 x,.ints .arg .u64 y]=bif (!(Mb x y)) then some (.tup [.int .u64 0,.int .i64 3]) else Ag.H9.L0 N N x y 0 0:=by kernel_rfl
end
abbrev _root_.Go.Proofs.S1.Ag.H9.Kn:=A8 prog 134 Ag.H9.spec
theorem Ag.H9.Ad (hk:A2 prog Ag.H9.Bc) (h:Hyp Ag.H9.E f134 Ag.H9.ts Ag.H9.pre Ag.H9.out):Ag.H9.Kn :=
 Am (A5 hk _ _ _) func134 (by kernel_rfl) (by kernel_rfl) h
def Ah.F.Bc:List (Nat × Entry):=[]
def Ah.F.E:Env:=Bi (Be Ah.F.Bc) (fun _=>false) (fun _=>none) (fun _=>none)
theorem Ah.F.ev (N:Nat) (x:Int):B0 Ah.F.E N f147 (Ak f147) [.int .u64 x]=bif (decide (0≤x)) then some (.fl (toNat x)) else none:=by kernel_rfl
abbrev _root_.Go.Proofs.S1.Ah.F.Kn:=A8 prog 147 Ah.F.spec
theorem Ah.F.Ad (hk:A2 prog Ah.F.Bc) (h:Hyp Ah.F.E f147 Ah.F.ts Ah.F.pre Ah.F.out):Ah.F.Kn :=
 Am (A5 hk _ _ _) func147 (by kernel_rfl) (by kernel_rfl) h
def Ah.B.Bc:List (Nat × Entry):=[(186,Fc.Canon.nb.spec)]
def Ah.B.E:Env:=Bi (Be Ah.B.Bc) (fun _=>false) (fun _=>none) (fun _=>none)
theorem Ah.B.ev (N x:Nat):B0 Ah.B.E N f145 (Ak f145) [.fl x]=some (.int .u64 (Hf x)):=by kernel_rfl
abbrev _root_.Go.Proofs.S1.Ah.B.Kn:=A8 prog 145 Ah.B.spec
theorem Ah.B.Ad (hk:A2 prog Ah.B.Bc) (h:Hyp Ah.B.E f145 Ah.B.ts Ah.B.pre Ah.B.out):Ah.B.Kn :=
 Am (A5 hk _ _ _) func145 (by kernel_rfl) (by kernel_rfl) h
def Ah.Add.Bc:List (Nat × Entry):=[(145,Ah.B.spec),(147,Ah.F.spec)]
def Ah.Add.E:Env:=Bi (Be Ah.Add.Bc) (fun _=>false) (fun _=>none) (fun _=>none)
theorem Ah.Add.ev (N:Nat) (a b:Int):B0 Ah.Add.E N f152 (Ak f152) [.int .u64 a,.int .u64 b]=bif (Af a) then bif (Af b) then some (.int .u64 (Hf ((Ieee.double.add (toNat a) (toNat b)).getD nanBits))) else none else none:=by kernel_rfl
abbrev _root_.Go.Proofs.S1.Ah.Add.Kn:=A8 prog 152 Ah.Add.spec
theorem Ah.Add.Ad (hk:A2 prog Ah.Add.Bc) (h:Hyp Ah.Add.E f152 Ah.Add.ts Ah.Add.pre Ah.Add.out):Ah.Add.Kn :=
 Am (A5 hk _ _ _) func152 (by kernel_rfl) (by kernel_rfl) h
def Ah.Sub.Bc:List (Nat × Entry):=[(145,Ah.B.spec),(147,Ah.F.spec)]
def Ah.Sub.E:Env:=Bi (Be Ah.Sub.Bc) (fun _=>false) (fun _=>none) (fun _=>none)
theorem Ah.Sub.ev (N:Nat) (a b:Int):B0 Ah.Sub.E N f198 (Ak f198) [.int .u64 a,.int .u64 b]=bif (Af a) then bif (Af b) then some (.int .u64 (Hf ((Ieee.double.sub (toNat a) (toNat b)).getD nanBits))) else none else none:=by kernel_rfl
abbrev _root_.Go.Proofs.S1.Ah.Sub.Kn:=A8 prog 198 Ah.Sub.spec
theorem Ah.Sub.Ad (hk:A2 prog Ah.Sub.Bc) (h:Hyp Ah.Sub.E f198 Ah.Sub.ts Ah.Sub.pre Ah.Sub.out):Ah.Sub.Kn :=
 Am (A5 hk _ _ _) func198 (by kernel_rfl) (by kernel_rfl) h
def Ah.Mul.Bc:List (Nat × Entry):=[(145,Ah.B.spec),(147,Ah.F.spec)]
def Ah.Mul.E:Env:=Bi (Be Ah.Mul.Bc) (fun _=>false) (fun _=>none) (fun _=>none)
theorem Ah.Mul.ev (N:Nat) (a b:Int):B0 Ah.Mul.E N f153 (Ak f153) [.int .u64 a,.int .u64 b]=bif (Af a) then bif (Af b) then some (.int .u64 (Hf ((Ieee.double.mul (toNat a) (toNat b)).getD nanBits))) else none else none:=by kernel_rfl
abbrev _root_.Go.Proofs.S1.Ah.Mul.Kn:=A8 prog 153 Ah.Mul.spec
theorem Ah.Mul.Ad (hk:A2 prog Ah.Mul.Bc) (h:Hyp Ah.Mul.E f153 Ah.Mul.ts Ah.Mul.pre Ah.Mul.out):Ah.Mul.Kn :=
 Am (A5 hk _ _ _) func153 (by kernel_rfl) (by kernel_rfl) h
def Ah.H9.hint:Nat→Option Ba
 | 0=>some { keep:=[0,1,5,6],objs:=[],boxes:=[] }
 | _=>none
def Ah.H9.Bc:List (Nat × Entry):=[(152,Ah.Add.spec),(153,Ah.Mul.spec)]
def Ah.H9.E:Env:=Bi (Be Ah.H9.Bc) (fun _=>false) Ah.H9.hint (fun _=>none)
section
variable (N M:Nat) (x y:List Int) (p5 p6:Int)
def Ah.H9.L0:Option DV:=B8 Ah.H9.E N f141 (Ak f141) [1,1,0,1,0] [] M ⟨Ff 25 [(0,.ints .arg .u64 x),(1,.ints .arg .u64 y),(5,.int .u64 p5),(6,.int .i64 p6)],[]⟩
theorem Ah.H9.Ar:Ah.H9.L0 N (M+1) x y p5 p6=bif (Bb p6 (length x:Int)) then bif ((decide (0≤p6))&&(decide (p6<(length x:Int)))) then bif ((decide (0≤p6))&&(decide (p6<(length y:Int)))) then bif (Af (getD x (toNat p6) 0)&&Af (getD y (toNat p6) 0)) then bif (Af p5&&Af (Cc (getD x (toNat p6) 0) (getD y (toNat p6) 0))) then Ah.H9.L0 N M x y (Dt p5 (Cc (getD x (toNat p6) 0) (getD y (toNat p6) 0))) (Ab (p6+1)) else none else none else none else none else some (.int .u64 p5) :=
 Eq.trans (by kernel_rfl)
 (E1 (Cw (J1 _ _) (Cw (J1 _ _) (Cw (Cy _) (Cw (Cy _) rfl rfl) rfl) rfl) rfl) rfl)
theorem Ah.H9.ev:B0 Ah.H9.E N f141 (Ak f141) [.ints .arg .u64 x,.ints .arg .u64 y] =
 Ah.H9.L0 N N x y 0 0:=by kernel_rfl
end
abbrev _root_.Go.Proofs.S1.Ah.H9.Kn:=A8 prog 141 Ah.H9.spec
theorem Ah.H9.Ad (hk:A2 prog Ah.H9.Bc) (h:Hyp Ah.H9.E f141 Ah.H9.ts Ah.H9.pre Ah.H9.out):Ah.H9.Kn :=
 Am (A5 hk _ _ _) func141 (by kernel_rfl) (by kernel_rfl) h
def Ah.E8.hint:Nat→Option Ba
 | 0=>some { keep:=[0,1,5],objs:=[],boxes:=[] }
 | _=>none
def Ah.E8.Bc:List (Nat × Entry):=[]
def Ah.E8.E:Env:=Bi (Be Ah.E8.Bc) (fun _=>false) Ah.E8.hint (fun _=>none)
section
variable (N M:Nat) (x y:List Int) (p5:Int)
def Ah.E8.L0:Option DV:=B8 Ah.E8.E N f30 (Ak f30) [1,1,0,1,0] [] M ⟨Ff 26 [(0,.ints .arg .u64 x),(1,.ints .arg .u64 y),(5,.int .i64 p5)],[]⟩
theorem Ah.E8.Ar:Ah.E8.L0 N (M+1) x y p5=bif (Bb p5 (length x:Int)) then bif ((decide (0≤p5))&&(decide (p5<(length x:Int)))) then bif ((decide (0≤p5))&&(decide (p5<(length y:Int)))) then bif ((getD x (toNat p5) 0) !=(getD y (toNat p5) 0)) then some (.bool false) else Ah.E8.L0 N M x y (Ab (p5+1)) else none else none else some (.bool true) :=
 Eq.trans (by kernel_rfl)
 (E1 (Cw (J1 _ _) (Cw (J1 _ _) rfl rfl) rfl) rfl)
theorem Ah.E8.ev:B0 Ah.E8.E N f30 (Ak f30) [.ints .arg .u64 x,.ints .arg .u64 y]=bif ((length x:Int) !=(length y:Int)) then some (.bool false) else Ah.E8.L0 N N x y 0:=by kernel_rfl
end
abbrev _root_.Go.Proofs.S1.Ah.E8.Kn:=A8 prog 30 Ah.E8.spec
theorem Ah.E8.Ad (hk:A2 prog Ah.E8.Bc) (h:Hyp Ah.E8.E f30 Ah.E8.ts Ah.E8.pre Ah.E8.out):Ah.E8.Kn :=
 Am (A5 hk _ _ _) func30 (by kernel_rfl) (by kernel_rfl) h
end EqVec
open Go Go.Den Go.Rnd Go.Proofs Ieee
open EqVec
theorem V5 {b:Nat} (h3:Aj b≠3) (h4:Aj b≠4):Ay b=0↔Aj b=0 :=
 ⟨fun h=>by
  by_cases h0:Aj b=0
  ·exact h0
  ·exact absurd h (Qd h0 h3 h4),Xn⟩
theorem Me (s:Bool):Es (Bo s Ek)=Bo s Ek:=H8 s (A5a _)
theorem Wa {a b:Nat} (ha:a<2^64) (hb:b<2^64) {d:Nat} (hd:Aj d=4):Es ((Ieee.double.mul a b).getD d)=(Ly a b).1:=by
 have cd:Es d=Oc:=A43 hd
 have ex:∀ s t:Bool,(s ^^ t)=(s !=t):=fun s t=>by cases s<;>cases t<;>rfl
 unfold Format.mul
 rw [J3 ha,J3 hb]
 unfold Ly
 by_cases a4:Aj a=4
 ·rw [A43 (.inl a4),Ik a4]; exact cd
 ·by_cases b4:Aj b=4
  ·rw [A43 (.inr b4),Ik b4]
   by_cases a3:Aj a=3
   ·rw [Fh a3]; exact cd
   ·rw [Fg a3 a4]; exact cd
  ·rw [A42 (fun h=>h.elim a4 b4)]
   by_cases a3:Aj a=3
   ·rw [A43 (.inl a3),Fh a3]
    by_cases b3:Aj b=3
    ·rw [Fh b3,A42 (by omega)]
     show Es (Bo (By a ^^ By b) Ek)=_
     rw [Me,ex]
    ·rw [Fg b3 b4]
     have z:=V5 b3 b4
     by_cases b0:Aj b=0
     ·have e:(Datum.infinity (By a)).product (.number (By b) (Ay b) (A3 b))=none:=A43 (z.2 b0)
      rw [e,A43 (.inr b0)]; exact cd
     ·have e:(Datum.infinity (By a)).product (.number (By b) (Ay b) (A3 b))=some (.infinity (By a ^^ By b)):=A42 (fun k=>b0 (z.1 k))
      rw [e,A42 (by omega)]
      show Es (Bo (By a ^^ By b) Ek)=_
      rw [Me,ex]
   ·rw [Fg a3 a4]
    have z:=V5 a3 a4
    by_cases b3:Aj b=3
    ·rw [A43 (.inr b3),Fh b3]
     have sw:∀ s t:Bool,(t ^^ s)=(s !=t):=fun s t=>by cases s<;>cases t<;>rfl
     by_cases a0:Aj a=0
     ·have e:(Datum.number (By a) (Ay a) (A3 a)).product (.infinity (By b))=none:=A43 (z.2 a0)
      rw [e,A43 (.inl a0)]; exact cd
     ·have e:(Datum.number (By a) (Ay a) (A3 a)).product (.infinity (By b))=some (.infinity (By b ^^ By a)):=A42 (fun k=>a0 (z.1 k))
      rw [e,A42 (by omega)]
      show Es (Bo (By b ^^ By a) Ek)=_
      rw [Me,sw]
    ·rw [Fg b3 b4,A42 (by omega)]
     show Es (Ieee.double.write (.number (By a ^^ By b) (Ay a*Ay b) (A3 a+A3 b)))=_
     rw [N2,H8 _ (Km _ _),ex]
theorem H2:Aj nanBits=4:=by decide +kernel
theorem Ag.Add.known:Ag.Add.Kn:=Ag.Add.Ad (.cons sum.Add.known .nil) fun a b hp=>by
 have hp:(Af a&&Af b)=true:=hp
 refine ⟨0,Ag.Add.out [.i a,.i b],[],?_,.int⟩
 rw [Ag.Add.ev,hp]; rfl
theorem Ag.Sub.known:Ag.Sub.Kn:=Ag.Sub.Ad (.cons sum.Sub.known .nil) fun a b hp=>by
 have hp:(Af a&&Af b)=true:=hp
 refine ⟨0,Ag.Sub.out [.i a,.i b],[],?_,.int⟩
 rw [Ag.Sub.ev,hp]; rfl
theorem Ag.Mul.known:Ag.Mul.Kn:=Ag.Mul.Ad (.cons times.Mul.known .nil) fun a b hp=>by
 have hp:(Af a&&Af b)=true:=hp
 refine ⟨0,Ag.Mul.out [.i a,.i b],[],?_,.int⟩
 rw [Ag.Mul.ev,hp]; rfl
theorem As8 (x y:List Int):(bif ((length x:Int)==(length y:Int)) then (Ex (length x:Int) (64:Int)) else false)=Mb x y:=by
 unfold Mb
 rw [Fk,A4w]
 by_cases h:x.length=y.length
 ·have:((x.length:Int)==(y.length:Int))=true:=by rw [beq_iff_eq]; omega
  rw [this,A4g,A4h h,A5t,A4n,A4n]; omega
 ·have:((x.length:Int)==(y.length:Int))=false:=by rw [A5b]; omega
  rw [this,A4k,A4l h,Bool.false_and]
theorem Ag.fit.known:Ag.fit.Kn:=Ag.fit.Ad .nil fun x y _=>by
 refine ⟨0,Ag.fit.out [.l x,.l y],[],?_,.bool⟩
 rw [Ag.fit.ev,As8]; rfl
theorem Tv {x y:List Int}:Mb x y=true↔x.length=y.length∧x.length≤64:=by unfold Mb; simp
theorem Wt {l:List Int} {i:Nat} (h:i<l.length):l.drop i=l.getD i 0::l.drop (i+1):=by
 rw [List.drop_eq_getElem_cons h,A4q,A4x h]; rfl
theorem Aiw {x y:List Int} {i:Nat} (s:Nat) (hx:i<x.length) (hy:i<y.length) :
 Afx s (x.drop i) (y.drop i)=Afx (H4 s (Ly (x.getD i 0).toNat (y.getD i 0).toNat).1).1 (x.drop (i+1)) (y.drop (i+1)):=by
 rw [Wt hx,Wt hy]; rfl
theorem Atn (N:Nat) {x y:List Int} (hf:Mb x y=true) (hx:Al x=true) (hy:Al y=true):∀ (k i F s:Nat),i+k=x.length→k<F→s<2^64 →
 Ag.H9.L0 N F x y (s:Int) (i:Int)=some (.tup [.int .u64 ((Afx s (x.drop i) (y.drop i):Nat):Int),.int .i64 (0:Int)]):=by
 obtain ⟨h1,h2⟩:=Tv.1 hf
 intro k
 induction k with
 | zero =>
   intro i F s hi hF hs
   obtain ⟨F,rfl⟩:∃ G,F=G+1:=⟨F-1,by omega⟩
   rw [Ag.H9.Ar,Av,A4l (by omega),A4k,A4u (by omega)]
   rfl
 | succ k ih =>
   intro i F s hi hF hs
   obtain ⟨F,rfl⟩:∃ G,F=G+1:=⟨F-1,by omega⟩
   have c1:decide ((i:Int)<(x.length:Int))=true:=A4h (by omega)
   have c2:decide ((i:Int)<(y.length:Int))=true:=A4h (by omega)
   have c3:decide ((0:Int)≤(i:Int))=true:=A4h (by omega)
   have g1:=Wy hx (show i<x.length by omega)
   have g2:=Wy hy (show i<y.length by omega)
   have em:Cc (x.getD i 0) (y.getD i 0)=(((Ly (x.getD i 0).toNat (y.getD i 0).toNat).1:Nat):Int):=rfl
   have ea:∀ t:Nat,Dt (s:Int) (t:Int)=(((H4 s t).1:Nat):Int):=fun t=>rfl
   rw [Ag.H9.Ar,Av,c1,c2,c3,A4i,g1,g2,em,ea,Cm hs,Cm Tj,A4m,A4g,A4g,A4g,A4g,A4g,An (by omega) (by omega),Aiw s (by omega) (by omega)]
   exact ih (i+1) F _ (by omega) (by omega) (Tz hs Tj).1
theorem Ag.H9.known:Ag.H9.Kn:=Ag.H9.Ad (.cons Ag.Add.known (.cons Ag.Mul.known (.cons Ag.fit.known .nil))) fun x y hp=>by
 obtain ⟨h1,hy⟩:=Ac.1 hp
 obtain ⟨hf,hx⟩:=Ac.1 h1
 refine ⟨x.length+1,Ag.H9.out [.l x,.l y],[],?_,Wk.Hm (.cons .int (.cons .int .nil))⟩
 rw [Ag.H9.ev,hf,A5f,A4k]
 exact Atn _ hf hx hy x.length 0 _ 0 (by omega) (by omega) (by decide)
theorem Ah.F.known:Ah.F.Kn:=Ah.F.Ad .nil fun x hp=>by
 obtain ⟨n,rfl,hn⟩:=Bw (x:=x) hp
 refine ⟨0,Ah.F.out [.i n],[],?_,.fl⟩
 rw [Ah.F.ev,A4h (Int.natCast_nonneg n)]; rfl
theorem Ah.B.known:Ah.B.Kn:=Ah.B.Ad (.cons Fc.Canon.Ar8 .nil) fun x _=>by
 refine ⟨0,Ah.B.out [.f x],[],?_,.int⟩
 rw [Ah.B.ev]; rfl
theorem Ah.Add.known:Ah.Add.Kn:=Ah.Add.Ad (.cons Ah.B.known (.cons Ah.F.known .nil)) fun a b hp=>by
 obtain ⟨ha,hb⟩:=Ac.1 hp
 obtain ⟨a,rfl,hn⟩:=Bw ha
 obtain ⟨b,rfl,hm⟩:=Bw hb
 refine ⟨0,Ah.Add.out [.i a,.i b],[],?_,.int⟩
 rw [Ah.Add.ev,ha,hb,A4i,A4i]
 unfold Hf
 rw [Aua hn hm H2]; rfl
theorem Ah.Sub.known:Ah.Sub.Kn:=Ah.Sub.Ad (.cons Ah.B.known (.cons Ah.F.known .nil)) fun a b hp=>by
 obtain ⟨ha,hb⟩:=Ac.1 hp
 obtain ⟨a,rfl,hn⟩:=Bw ha
 obtain ⟨b,rfl,hm⟩:=Bw hb
 refine ⟨0,Ah.Sub.out [.i a,.i b],[],?_,.int⟩
 rw [Ah.Sub.ev,ha,hb,A4i,A4i]
 unfold Hf
 rw [Aqx hn hm H2]; rfl
theorem Ah.Mul.known:Ah.Mul.Kn:=Ah.Mul.Ad (.cons Ah.B.known (.cons Ah.F.known .nil)) fun a b hp=>by
 obtain ⟨ha,hb⟩:=Ac.1 hp
 obtain ⟨a,rfl,hn⟩:=Bw ha
 obtain ⟨b,rfl,hm⟩:=Bw hb
 refine ⟨0,Ah.Mul.out [.i a,.i b],[],?_,.int⟩
 rw [Ah.Mul.ev,ha,hb,A4i,A4i]
 unfold Hf
 rw [Wa hn hm H2]; rfl
theorem Ae2 (N:Nat) {x y:List Int} (hf:Mb x y=true) (hx:Al x=true) (hy:Al y=true):∀ (k i F s:Nat),i+k=x.length→k<F→s<2^64 →
 Ah.H9.L0 N F x y (s:Int) (i:Int)=some (.int .u64 ((Afx s (x.drop i) (y.drop i):Nat):Int)):=by
 obtain ⟨h1,h2⟩:=Tv.1 hf
 intro k
 induction k with
 | zero =>
   intro i F s hi hF hs
   obtain ⟨F,rfl⟩:∃ G,F=G+1:=⟨F-1,by omega⟩
   rw [Ah.H9.Ar,Av,A4l (by omega),A4k,A4u (by omega)]
   rfl
 | succ k ih =>
   intro i F s hi hF hs
   obtain ⟨F,rfl⟩:∃ G,F=G+1:=⟨F-1,by omega⟩
   have c1:decide ((i:Int)<(x.length:Int))=true:=A4h (by omega)
   have c2:decide ((i:Int)<(y.length:Int))=true:=A4h (by omega)
   have c3:decide ((0:Int)≤(i:Int))=true:=A4h (by omega)
   have g1:=Wy hx (show i<x.length by omega)
   have g2:=Wy hy (show i<y.length by omega)
   have em:Cc (x.getD i 0) (y.getD i 0)=(((Ly (x.getD i 0).toNat (y.getD i 0).toNat).1:Nat):Int):=rfl
   have ea:∀ t:Nat,Dt (s:Int) (t:Int)=(((H4 s t).1:Nat):Int):=fun t=>rfl
   rw [Ah.H9.Ar,Av,c1,c2,c3,A4i,g1,g2,em,ea,Cm hs,Cm Tj,A4m,A4g,A4g,A4g,A4g,A4g,An (by omega) (by omega),Aiw s (by omega) (by omega)]
   exact ih (i+1) F _ (by omega) (by omega) (Tz hs Tj).1
theorem Ah.H9.known:Ah.H9.Kn:=Ah.H9.Ad (.cons Ah.Add.known (.cons Ah.Mul.known .nil)) fun x y hp=>by
 obtain ⟨h1,hy⟩:=Ac.1 hp
 obtain ⟨hf,hx⟩:=Ac.1 h1
 refine ⟨x.length+1,Ah.H9.out [.l x,.l y],[],?_,.int⟩
 rw [Ah.H9.ev]
 exact Ae2 _ hf hx hy x.length 0 _ 0 (by omega) (by omega) (by decide)
theorem Ant (N:Nat) (x y:List Int) (hl:x.length=y.length) (hb:x.length<2^62):∀ (k i F:Nat),i+k=x.length→k<F →
 Ah.E8.L0 N F x y (i:Int)=some (.bool (Ka (x.drop i) (y.drop i))):=by
 intro k
 induction k with
 | zero =>
   intro i F hi hF
   obtain ⟨F,rfl⟩:∃ G,F=G+1:=⟨F-1,by omega⟩
   rw [Ah.E8.Ar,Av,A4l (by omega),A4k,A4u (by omega),A4u (by omega)]
   rfl
 | succ k ih =>
   intro i F hi hF
   obtain ⟨F,rfl⟩:∃ G,F=G+1:=⟨F-1,by omega⟩
   have c1:decide ((i:Int)<(x.length:Int))=true:=A4h (by omega)
   have c2:decide ((i:Int)<(y.length:Int))=true:=A4h (by omega)
   have c3:decide ((0:Int)≤(i:Int))=true:=A4h (by omega)
   rw [Ah.E8.Ar,Av,c1,c2,c3,A4i,Wt (show i<x.length by omega),Wt (show i<y.length by omega)]
   unfold Ka
   by_cases h:x.getD i 0=y.getD i 0
   ·have:(x.getD i 0 !=y.getD i 0)=false:=by rw [h]; simp
    have ih:=ih (i+1) F (by omega) (by omega)
    unfold Ka at ih
    rw [this,A4m,A4g,A4g,A4g,A4k,An (by omega) (by omega)]
    refine ih.trans ?_
    rw [h]
    simp
   ·have:(x.getD i 0 !=y.getD i 0)=true:=by simpa using h
    rw [this,A4m,A4g,A4g,A4g,A4g]
    simp only [List.cons.injEq,h,false_and,decide_false]
theorem Ah.E8.known:Ah.E8.Kn:=Ah.E8.Ad .nil fun x y hp=>by
 have hp:=Aq.1 (show Hz x=true from hp)
 refine ⟨x.length+1,Ah.E8.out [.l x,.l y],[],?_,.bool⟩
 rw [Ah.E8.ev]
 by_cases h:x.length=y.length
 ·have:((x.length:Int) !=(y.length:Int))=false:=by rw [h]; simp
  rw [this,A4k]
  exact Ant _ x y h (by omega) x.length 0 _ (by omega) (by omega)
 ·have:((x.length:Int) !=(y.length:Int))=true:=by simp only [bne_iff_ne,ne_eq]; omega
  rw [this,A4g]
  have e:Ka x y=false:=A4l fun k=>h (by rw [k])
  show _=some (DV.bool (Ka x y))
  rw [e]
namespace EqMat
def Aa.size.Bc:List (Nat × Entry):=[]
def Aa.size.E:Env:=Bi (Be Aa.size.Bc) (fun _=>false) (fun _=>none) (fun _=>none)
theorem Aa.size.ev (N:Nat) (n:Int):B0 Aa.size.E N f164 (Ak f164) [.int .i64 n]=some (.bool (bif (Ex 0 n) then (Ex n 6) else false)) :=
 Eq.trans (by kernel_rfl)
 (Ax (R6 (Ex 0 n)) (Ax (No (Ex 0 n)) (Ax (W5 (Ex 0 n)) rfl)))
abbrev _root_.Go.Proofs.S1.Aa.size.Kn:=A8 prog 164 Aa.size.spec
theorem Aa.size.Ad (hk:A2 prog Aa.size.Bc) (h:Hyp Aa.size.E f164 Aa.size.ts Aa.size.pre Aa.size.out):Aa.size.Kn :=
 Am (A5 hk _ _ _) func164 (by kernel_rfl) (by kernel_rfl) h
def Aa.Check.Bc:List (Nat × Entry):=[(164,Aa.size.spec)]
def Aa.Check.E:Env:=Bi (Be Aa.Check.Bc) (fun _=>false) (fun _=>none) (fun _=>none)
theorem Aa.Check.ev (N:Nat) (r c:Int) (l:List Int):B0 Aa.Check.E N f121 (Ak f121) [.agg [.int .i64 r,.int .i64 c,.ints .arg .u64 l]]=bif (((!(Cg r))||(!(Cg c)))||((length l:Int) !=(Ab (r*c)))) then some (.int .i64 1) else some (.int .i64 0) :=
 Eq.trans (by kernel_rfl)
 (Ax (W7 (Cg r)) (Ax (R3 (Cg r)) (Ax (R3 (Cg r)) (Ax (R3 (Cg r)) (Ax (Zu (Cg r)) (Ax (Agq (Cg r) (Cg c)) (Ax (Anf (Cg r) (Cg c)) (Ax (Anf (Cg r) (Cg c)) (Ax (Agq (Cg r) (Cg c)) (Ax (Anf (Cg r) (Cg c)) (Ax (Agq (Cg r) (Cg c)) (Ax (Anf (Cg r) (Cg c)) (Ax (A0k (Cg r) (Cg c)) (Ax (A0k (Cg r) (Cg c)) (Ax (Axy (Cg r) (Cg c)) (Cw (A0l _ _ _) rfl rfl))))))))))))))))
abbrev _root_.Go.Proofs.S1.Aa.Check.Kn:=A8 prog 121 Aa.Check.spec
theorem Aa.Check.Ad (hk:A2 prog Aa.Check.Bc) (h:Hyp Aa.Check.E f121 Aa.Check.ts Aa.Check.pre Aa.Check.out):Aa.Check.Kn :=
 Am (A5 hk _ _ _) func121 (by kernel_rfl) (by kernel_rfl) h
def Aa.get.Bc:List (Nat × Entry):=[]
def Aa.get.E:Env:=Bi (Be Aa.get.Bc) (fun _=>false) (fun _=>none) (fun _=>none)
theorem Aa.get.ev (N:Nat) (r c:Int) (l:List Int) (i k:Int):B0 Aa.get.E N f119 (Ak f119) [.agg [.int .i64 r,.int .i64 c,.ints .arg .u64 l],.int .i64 i,.int .i64 k]=bif ((decide (0≤(Ab ((Ab (i*c))+k))))&&(decide ((Ab ((Ab (i*c))+k))<(length l:Int)))) then some (.int .u64 (getD l (toNat (Ab ((Ab (i*c))+k))) 0)) else none:=by kernel_rfl
abbrev _root_.Go.Proofs.S1.Aa.get.Kn:=A8 prog 119 Aa.get.spec
theorem Aa.get.Ad (hk:A2 prog Aa.get.Bc) (h:Hyp Aa.get.E f119 Aa.get.ts Aa.get.pre Aa.get.out):Aa.get.Kn :=
 Am (A5 hk _ _ _) func119 (by kernel_rfl) (by kernel_rfl) h
def Aa.two.Bc:List (Nat × Entry):=[(121,Aa.Check.spec)]
def Aa.two.E:Env:=Bi (Be Aa.two.Bc) (fun _=>false) (fun _=>none) (fun _=>none)
theorem Aa.two.ev (N:Nat) (r c:Int) (l:List Int) (p q:Int) (m:List Int):B0 Aa.two.E N f116 (Ak f116) [.agg [.int .i64 r,.int .i64 c,.ints .arg .u64 l],.agg [.int .i64 p,.int .i64 q,.ints .arg .u64 m]]=bif (((Lq r c l) !=(0:Int))||((Lq p q m) !=(0:Int))) then some (.int .i64 1) else some (.int .i64 0) :=
 Eq.trans (by kernel_rfl)
 (Ax (W4 ((Lq r c l) !=(0:Int))) (Ax (T8 ((Lq r c l) !=(0:Int))) (Ax (T8 ((Lq r c l) !=(0:Int))) (Ax (tt6 ((Lq r c l) !=(0:Int))) (Cw (tt5 _ _) rfl rfl)))))
abbrev _root_.Go.Proofs.S1.Aa.two.Kn:=A8 prog 116 Aa.two.spec
theorem Aa.two.Ad (hk:A2 prog Aa.two.Bc) (h:Hyp Aa.two.E f116 Aa.two.ts Aa.two.pre Aa.two.out):Aa.two.Kn :=
 Am (A5 hk _ _ _) func116 (by kernel_rfl) (by kernel_rfl) h
def Aa.Row.Bc:List (Nat × Entry):=[]
def Aa.Row.E:Env:=Bi (Be Aa.Row.Bc) (fun _=>false) (fun _=>none) (fun _=>none)
theorem Aa.Row.ev (N:Nat) (r c:Int) (l:List Int) (i f:Int):B0 Aa.Row.E N f135 (Ak f135) [.agg [.int .i64 r,.int .i64 c,.ints .arg .u64 l],.int .i64 i,.int .i64 f]=bif (((decide ((0:Int)≤(Ab ((Ab (i*c))+f))))&&(decide ((Ab ((Ab (i*c))+f))≤(Ab ((Ab (i+1))*c)))))&&((decide ((0:Int)≤(Ab ((Ab (i+1))*c))))&&(decide ((Ab ((Ab (i+1))*c))≤(length l:Int))))) then bif (decide (0+(length (List.drop (toNat (Ab ((Ab (i*c))+f))) (List.take (toNat (Ab ((Ab (i+1))*c))) l)))≤Ha)) then some (.ints (.own 22 43) .u64 ([]++(List.drop (toNat (Ab ((Ab (i*c))+f))) (List.take (toNat (Ab ((Ab (i+1))*c))) l)))) else none else none :=
 Eq.trans (by kernel_rfl)
 (Cw (A0j _ _ _ _) rfl rfl)
abbrev _root_.Go.Proofs.S1.Aa.Row.Kn:=A8 prog 135 Aa.Row.spec
theorem Aa.Row.Ad (hk:A2 prog Aa.Row.Bc) (h:Hyp Aa.Row.E f135 Aa.Row.ts Aa.Row.pre Aa.Row.out):Aa.Row.Kn :=
 Am (A5 hk _ _ _) func135 (by kernel_rfl) (by kernel_rfl) h
def Aa.D6.hint:Nat→Option Ba
 | 0=>some { keep:=[1,3,7,8],objs:=[(0,7,100007,.ints 43 .u64 [])],boxes:=[3] }
 | _=>none
def Aa.D6.Bc:List (Nat × Entry):=[(119,Aa.get.spec)]
def Aa.D6.E:Env:=Bi (Be Aa.D6.Bc) (fun _=>false) Aa.D6.hint (fun _=>none)
section
variable (N M:Nat) (r c:Int) (l:List Int) (k f p8:Int) (p7:List Int)
def Aa.D6.L0:Option DV:=B8 Aa.D6.E N f68 (Ak f68) [1,1,0,1,0] [] M ⟨Ff 24 [(1,.int .i64 k),(3,.ptr 3 0 0),(7,.oref 100007),(8,.int .i64 p8)],[(3,false,.box [.int .i64 r,.int .i64 c,.ints .arg .u64 l]),(100007,false,.ints 43 .u64 p7)]⟩
theorem Aa.D6.Ar:Aa.D6.L0 N (M+1) r c l k p8 p7=bif (Bb p8 r) then bif (En r c l p8 k) then bif (decide ((length p7)+1≤Ha)) then Aa.D6.L0 N M r c l k (Ab (p8+1)) (p7++[(Fp c l p8 k)]) else none else none else some (.ints (.own 100007 43) .u64 p7):=by kernel_rfl
theorem Aa.D6.ev:B0 Aa.D6.E N f68 (Ak f68) [.agg [.int .i64 r,.int .i64 c,.ints .arg .u64 l],.int .i64 k,.int .i64 f] =
 Aa.D6.L0 N N r c l k f []:=by kernel_rfl
end
abbrev _root_.Go.Proofs.S1.Aa.D6.Kn:=A8 prog 68 Aa.D6.spec
theorem Aa.D6.Ad (hk:A2 prog Aa.D6.Bc) (h:Hyp Aa.D6.E f68 Aa.D6.ts Aa.D6.pre Aa.D6.out):Aa.D6.Kn :=
 Am (A5 hk _ _ _) func68 (by kernel_rfl) (by kernel_rfl) h
def Aa.Iv.Bc:List (Nat × Entry):=[]
def Aa.Iv.E:Env:=Bi (Be Aa.Iv.Bc) (fun _=>false) (fun _=>none) (fun _=>none)
theorem Aa.Iv.ev (N:Nat) (i k:Int):B0 Aa.Iv.E N f168 (Ak f168) [.int .i64 i,.int .i64 k]=bif (i==k) then some (.int .u64 4607182418800017408) else some (.int .u64 0):=by kernel_rfl
abbrev _root_.Go.Proofs.S1.Aa.Iv.Kn:=A8 prog 168 Aa.Iv.spec
theorem Aa.Iv.Ad (hk:A2 prog Aa.Iv.Bc) (h:Hyp Aa.Iv.E f168 Aa.Iv.ts Aa.Iv.pre Aa.Iv.out):Aa.Iv.Kn :=
 Am (A5 hk _ _ _) func168 (by kernel_rfl) (by kernel_rfl) h
def Aa.Gl.Bc:List (Nat × Entry):=[(119,Aa.get.spec)]
def Aa.Gl.E:Env:=Bi (Be Aa.Gl.Bc) (fun _=>false) (fun _=>none) (fun _=>none)
theorem Aa.Gl.ev (N:Nat) (i k:Int) (r c:Int) (l:List Int):B0 Aa.Gl.E N f232 (Ak f232) [.int .i64 i,.int .i64 k,.cellp [.int .i64 r,.int .i64 c,.ints .arg .u64 l]]=bif (En r c l k i) then some (.int .u64 (Fp c l k i)) else none:=by kernel_rfl
abbrev _root_.Go.Proofs.S1.Aa.Gl.Kn:=A8 prog 232 Aa.Gl.spec
theorem Aa.Gl.Ad (hk:A2 prog Aa.Gl.Bc) (h:Hyp Aa.Gl.E f232 Aa.Gl.ts Aa.Gl.pre Aa.Gl.out):Aa.Gl.Kn :=
 Am (A5 hk _ _ _) func232 (by kernel_rfl) (by kernel_rfl) h
def Aa.Gm.Bc:List (Nat × Entry):=[(119,Aa.get.spec)]
def Aa.Gm.E:Env:=Bi (Be Aa.Gm.Bc) (fun _=>false) (fun _=>none) (fun _=>none)
theorem Aa.Gm.ev (N:Nat) (i k:Int) (r c:Int) (l:List Int) (x y:Int):B0 Aa.Gm.E N f122 (Ak f122) [.int .i64 i,.int .i64 k,.cellp [.int .i64 r,.int .i64 c,.ints .arg .u64 l],.cellp [.int .i64 x],.cellp [.int .i64 y]]=bif (En r c l (Ab (x+i)) (Ab (y+k))) then some (.int .u64 (Fp c l (Ab (x+i)) (Ab (y+k)))) else none:=by kernel_rfl
abbrev _root_.Go.Proofs.S1.Aa.Gm.Kn:=A8 prog 122 Aa.Gm.spec
theorem Aa.Gm.Ad (hk:A2 prog Aa.Gm.Bc) (h:Hyp Aa.Gm.E f122 Aa.Gm.ts Aa.Gm.pre Aa.Gm.out):Aa.Gm.Kn :=
 Am (A5 hk _ _ _) func122 (by kernel_rfl) (by kernel_rfl) h
def Aa.E3.Bc:List (Nat × Entry):=[(119,Aa.get.spec)]
def Aa.E3.E:Env:=Bi (Be Aa.E3.Bc) (fun _=>false) (fun _=>none) (fun _=>none)
theorem Aa.E3.ev (N:Nat) (i k:Int) (r c:Int) (l:List Int) (p q:Int) (m:List Int):B0 Aa.E3.E N f118 (Ak f118) [.int .i64 i,.int .i64 k,.cellp [.int .i64 r,.int .i64 c,.ints .arg .u64 l],.cellp [.int .i64 p,.int .i64 q,.ints .arg .u64 m]]=bif (Bb i r) then bif (En r c l i k) then some (.int .u64 (Fp c l i k)) else none else bif (En p q m (Ab (i-r)) k) then some (.int .u64 (Fp q m (Ab (i-r)) k)) else none:=by kernel_rfl
abbrev _root_.Go.Proofs.S1.Aa.E3.Kn:=A8 prog 118 Aa.E3.spec
theorem Aa.E3.Ad (hk:A2 prog Aa.E3.Bc) (h:Hyp Aa.E3.E f118 Aa.E3.ts Aa.E3.pre Aa.E3.out):Aa.E3.Kn :=
 Am (A5 hk _ _ _) func118 (by kernel_rfl) (by kernel_rfl) h
def Aa.Iq.Bc:List (Nat × Entry):=[(68,Aa.D6.spec),(135,Aa.Row.spec),(134,Ag.H9.spec)]
def Aa.Iq.E:Env:=Bi (Be Aa.Iq.Bc) (fun _=>false) (fun _=>none) (fun _=>none)
theorem Aa.Iq.ev (N:Nat) (i k:Int) (r c:Int) (l:List Int) (p q:Int) (m:List Int):B0 Aa.Iq.E N f133 (Ak f133) [.int .i64 i,.int .i64 k,.cellp [.int .i64 r,.int .i64 c,.ints .arg .u64 l],.cellp [.int .i64 p,.int .i64 q,.ints .arg .u64 m]]=bif (Uq r c l i&&decide ((0:Int)=0)) then bif (Fv p q m k&&B5 (0≤(0:Int)∧(0:Int)≤p)) then bif ((Mb (Lx c l i) (Ci q m k 0 (toNat (p-0)))&&Al (Lx c l i))&&Al (Ci q m k 0 (toNat (p-0)))) then some (.int .u64 (Hj (Lx c l i) (Ci q m k 0 (toNat (p-0))))) else none else none else none :=
 Eq.trans (by kernel_rfl)
 (Cw (Cy _) (Cw (Cy _) (Cw (Cy _) rfl rfl) rfl) rfl)
abbrev _root_.Go.Proofs.S1.Aa.Iq.Kn:=A8 prog 133 Aa.Iq.spec
theorem Aa.Iq.Ad (hk:A2 prog Aa.Iq.Bc) (h:Hyp Aa.Iq.E f133 Aa.Iq.ts Aa.Iq.pre Aa.Iq.out):Aa.Iq.Kn :=
 Am (A5 hk _ _ _) func133 (by kernel_rfl) (by kernel_rfl) h
end EqMat
open EqMat
theorem J2 {a b:Int} (h1:0≤a) (h2:a<20) (h3:0≤b) (h4:b<20):0≤a*b∧a*b<400:=by
 have:=Int.mul_nonneg h1 h3
 have h5:a*b≤19*19:=Int.mul_le_mul (by omega) (by omega) h3 (by omega)
 omega
theorem Aa.size.known:Aa.size.Kn:=Aa.size.Ad .nil fun n _=>by
 refine ⟨0,Aa.size.out [.i n],[],?_,.bool⟩
 have e:(bif (Ex (0:Int) n) then (Ex n (6:Int)) else false)=Cg n:=by
  unfold Cg
  rw [Fk,Fk]
  cases decide (0≤n)<;>rfl
 rw [Aa.size.ev,e]; rfl
theorem Ai0 (r c:Int) (l:List Int):(((!(Cg r))||(!(Cg c)))||((length l:Int) !=(Ab (r*c))))=!(A0 r c l):=by
 unfold A0
 cases h1:Cg r with
 | false=>rfl
 | true =>
   cases h2:Cg c with
   | false=>rfl
   | true =>
     obtain ⟨r1,r2⟩:=Jp.1 h1
     obtain ⟨c1,c2⟩:=Jp.1 h2
     have:=J2 (a:=r) (b:=c) r1 (by omega) c1 (by omega)
     rw [An (by omega) (by omega),A4w]
     simp
theorem Aa.Check.known:Aa.Check.Kn:=Aa.Check.Ad (.cons Aa.size.known .nil) fun r c l _=>by
 refine ⟨0,Aa.Check.out [.i r,.i c,.l l],[],?_,.int⟩
 rw [Aa.Check.ev,Ai0]
 show _=some (DV.int .i64 (Lq r c l))
 unfold Lq
 cases A0 r c l<;>rfl
theorem Af4 {c i k:Int} {l:List Int} {R:Int} (h:En R c l i k=true):Ab (Ab (i*c)+k)=i*c+k∧0≤i*c+k∧i*c+k<l.length:=by
 obtain ⟨h1,h2,h3,h4,h5,h6,h7,_⟩:=Aq.1 h
 have:=J2 h1 (by omega) h5 (by omega)
 rw [An (x:=i*c) (by omega) (by omega),An (by omega) (by omega)]
 omega
theorem Aa.get.known:Aa.get.Kn:=Aa.get.Ad .nil fun r c l i k hp=>by
 obtain ⟨e,h1,h2⟩:=Af4 (R:=r) (show En r c l i k=true from hp)
 refine ⟨0,Aa.get.out [.i r,.i c,.l l,.i i,.i k],[],?_,.int⟩
 rw [Aa.get.ev,e,A4h h1,A4h h2]
 rfl
theorem U7 (r c:Int) (l:List Int):((Lq r c l) !=(0:Int))=!(A0 r c l):=by
 unfold Lq
 cases A0 r c l<;>rfl
theorem Aa.two.known:Aa.two.Kn:=Aa.two.Ad (.cons Aa.Check.known .nil) fun r c l p q m _=>by
 refine ⟨0,Aa.two.out [.i r,.i c,.l l,.i p,.i q,.l m],[],?_,.int⟩
 rw [Aa.two.ev,U7,U7]
 show _=some (DV.int .i64 (Zs r c l p q m))
 unfold Zs
 cases A0 r c l<;>cases A0 p q m<;>rfl
theorem Aa.Row.known:Aa.Row.Kn:=Aa.Row.Ad .nil fun r c l i f hp=>by
 obtain ⟨h0,hf⟩:=Ac.1 hp
 obtain rfl:=A46 hf
 obtain ⟨hr,hi⟩:=Ac.1 h0
 have hi:=Aq.1 hi
 obtain ⟨R,C,rfl,rfl,r6,c6,hl⟩:=Co hr
 obtain ⟨I,rfl⟩:∃ k:Nat,i=k:=⟨i.toNat,by omega⟩
 have hm:=J2 (a:=(I:Int)) (b:=(C:Int)) (by omega) (by omega) (by omega) (by omega)
 have hm2:=J2 (a:=(I:Int)+1) (b:=(C:Int)) (by omega) (by omega) (by omega) (by omega)
 have hle:(I+1)*C≤R*C:=A4s C (by omega)
 have hle2:I*C≤(I+1)*C:=A4s C (by omega)
 have e1:(I:Int)*(C:Int)=((I*C:Nat):Int):=(A41 _ _).symm
 have e2:((I:Int)+1)*(C:Int)=(((I+1)*C:Nat):Int):=by rw [A41]; rfl
 refine ⟨0,.ints (.own 22 tB) .u64 (Lx (C:Int) l (I:Int)),[22],?_,.drop _ _ _ _ (List.mem_singleton.2 rfl)⟩
 rw [Aa.Row.ev,An (x:=(I:Int)+1) (by omega) (by omega),An (x:=(I:Int)*(C:Int)) (by omega) (by omega),Int.add_zero,An (x:=(I:Int)*(C:Int)) (by omega) (by omega),An (x:=((I:Int)+1)*(C:Int)) (by omega) (by omega)]
 unfold Lx
 have d1:decide ((0:Int)≤(I:Int)*(C:Int))=true:=A4h (by omega)
 have d2:decide ((I:Int)*(C:Int)≤((I:Int)+1)*(C:Int))=true:=A4h (by rw [e1,e2]; omega)
 have d3:decide ((0:Int)≤((I:Int)+1)*(C:Int))=true:=A4h (by omega)
 have d4:decide (((I:Int)+1)*(C:Int)≤(l.length:Int))=true:=A4h (by rw [e2]; omega)
 have d5:decide (0+(List.drop ((I:Int)*(C:Int)).toNat (List.take (((I:Int)+1)*(C:Int)).toNat l)).length≤Ha)=true:=by
  refine A4h ?_
  rw [List.length_drop,List.length_take]
  unfold Ha
  omega
 rw [d1,d2,d3,d4,d5]
 rfl
theorem Hn (c b i:Int) (n:Nat) (l:List Int):(Ci c l b i n).length=n:=by unfold Ci; rw [A5m,A5j]
theorem Amt (r c:Int) (l:List Int) (k:Int):Ci c l k 0 (toNat (r-0))=Qw r c l k:=by
 unfold Ci Qw
 rw [Int.sub_zero]
 refine List.map_congr_left fun j _=>?_
 rw [Int.zero_add]
theorem Zo {r:Int} (h:0≤r):B5 (0≤(0:Int)∧0≤r)=true:=Aq.2 ⟨Int.le_refl _,h⟩
theorem Atv (N:Nat) {R C K f:Nat} {l:List Int} (r6:R≤6) (c6:C≤6) (hl:l.length=R*C) (hk:K<C):∀ (k i F:Nat),f+i+k=R→k<F →
 Aa.D6.L0 N F (R:Int) (C:Int) l (K:Int) ((f+i:Nat):Int) (Ci (C:Int) l (K:Int) (f:Int) i)=some (.ints (.own 100007 tB) .u64 (Ci (C:Int) l (K:Int) (f:Int) (R-f))):=by
 intro k
 induction k with
 | zero =>
   intro i F hi hF
   obtain ⟨F,rfl⟩:∃ G,F=G+1:=⟨F-1,by omega⟩
   rw [Aa.D6.Ar,Av,A4l (by omega),A4k,show R-f=i by omega]
 | succ k ih =>
   intro i F hi hF
   obtain ⟨F,rfl⟩:∃ G,F=G+1:=⟨F-1,by omega⟩
   have d:decide ((Ci (C:Int) l (K:Int) (f:Int) i).length+1≤Ha)=true:=A4h (by rw [Hn]; unfold Ha; omega)
   rw [Aa.D6.Ar,Av,A4h (by omega),A4g,Gy r6 c6 hl (show f+i<R by omega) hk,A4g,d,A4g,An (by omega) (by omega)]
   have:=ih (i+1) F (by omega) (by omega)
   unfold Ci at this ⊢
   rw [List.range_succ,List.map_append] at this
   exact this
theorem Aa.D6.known:Aa.D6.Kn:=Aa.D6.Ad (.cons Aa.get.known .nil) fun r c l k f hp=>by
 obtain ⟨h0,hf⟩:=Ac.1 (show (Fv r c l k&&B5 (0≤f∧f≤r))=true from hp)
 have hf:=Aq.1 hf
 obtain ⟨hr,hi⟩:=Ac.1 h0
 have hi:=Aq.1 hi
 obtain ⟨R,C,rfl,rfl,r6,c6,hl⟩:=Co hr
 obtain ⟨K,rfl⟩:∃ j:Nat,k=j:=⟨k.toNat,by omega⟩
 obtain ⟨f,rfl⟩:∃ j:Nat,f=j:=⟨f.toNat,by omega⟩
 refine ⟨8,.ints (.own 100007 tB) .u64 (Ci (C:Int) l (K:Int) (f:Int) (R-f)),[100007],?_,?_⟩
 ·rw [Aa.D6.ev]
  exact Atv 8 r6 c6 hl (by omega) (R-f) 0 8 (by omega) (by omega)
 ·show Wk _ _ (DV.ints .fresh .u64 (Ci (C:Int) l (K:Int) (f:Int) (toNat ((R:Int)-(f:Int)))))
  rw [show toNat ((R:Int)-(f:Int))=R-f by omega]
  exact .drop _ _ _ _ (List.mem_singleton.2 rfl)
theorem Nc {r c i k:Int} {l:List Int} (h:A0 r c l=true) (h1:0≤i) (h2:i<r) (h3:0≤k) (h4:k<c) (R:Int):En R c l i k=true:=by
 obtain ⟨R',C,rfl,rfl,r6,c6,hl⟩:=Co h
 obtain ⟨I,rfl⟩:∃ j:Nat,i=j:=⟨i.toNat,by omega⟩
 obtain ⟨K,rfl⟩:∃ j:Nat,k=j:=⟨k.toNat,by omega⟩
 exact Gy r6 c6 hl (by omega) (by omega)
theorem Aa.Iv.known:Aa.Iv.Kn:=Aa.Iv.Ad .nil fun i k _=>by
 refine ⟨0,Aa.Iv.out [.i i,.i k],[],?_,.int⟩
 rw [Aa.Iv.ev]
 show _=some (DV.int .u64 (N0 i k))
 unfold N0
 by_cases h:i=k
 ·have:(i==k)=true:=by rw [h]; simp
  rw [this,A43 h]; rfl
 ·have:(i==k)=false:=by simpa using h
  rw [this,A42 h]; rfl
theorem Aa.Gl.known:Aa.Gl.Kn:=Aa.Gl.Ad (.cons Aa.get.known .nil) fun i k r c l hp=>by
 have hp:En r c l k i=true:=hp
 refine ⟨0,Aa.Gl.out [.i i,.i k,.i r,.i c,.l l],[],?_,.int⟩
 rw [Aa.Gl.ev,hp]; rfl
theorem Aa.Gm.known:Aa.Gm.Kn:=Aa.Gm.Ad (.cons Aa.get.known .nil) fun i k r c l x y hp=>by
 obtain ⟨h1,h2⟩:=Ac.1 hp
 have h2:=Aq.1 h2
 refine ⟨0,Aa.Gm.out [.i i,.i k,.i r,.i c,.l l,.i x,.i y],[],?_,.int⟩
 rw [Aa.Gm.ev,An (x:=x+i) (by omega) (by omega),An (x:=y+k) (by omega) (by omega),h1]; rfl
theorem Aa.E3.known:Aa.E3.Kn:=Aa.E3.Ad (.cons Aa.get.known .nil) fun i k r c l p q m hp=>by
 obtain ⟨h1,h2,h3,h4,h5⟩:=Aq.1 (show P8 r c l p q m i k=true from hp)
 refine ⟨0,Aa.E3.out [.i i,.i k,.i r,.i c,.l l,.i p,.i q,.l m],[],?_,.int⟩
 show _=some (DV.int .u64 (L5 r c l q m i k))
 rw [Aa.E3.ev,Av,An (x:=i-r) (by omega) (by omega)]
 unfold L5
 by_cases h:i<r
 ·rw [A43 h] at h5
  rw [A4h h,A4g,h5,A4g,A43 h]
 ·rw [A42 h] at h5
  rw [A4l h,A4k,h5,A4g,A42 h]
theorem Q4 {R C:Nat} {l:List Int} (hl:l.length=R*C) {I:Nat} (hi:I<R):(Lx (C:Int) l (I:Int)).length=C:=by
 have hle:(I+1)*C≤R*C:=A4s C (by omega)
 have e1:((I:Int)*(C:Int)).toNat=I*C:=by rw [← A41,A4i]
 have e2:(((I:Int)+1)*(C:Int)).toNat=(I+1)*C:=by
  have:((I:Int)+1)*(C:Int)=(((I+1)*C:Nat):Int):=by rw [A41]; rfl
  rw [this,A4i]
 unfold Lx
 rw [List.length_drop,List.length_take,e1,e2]
 rw [A5k,Nat.one_mul] at hle ⊢
 omega
theorem Abu (R:Nat) (C:Int) (l:List Int) (K:Int):(Qw (R:Int) C l K).length=R:=by
 unfold Qw
 rw [A5m,A5j,A4i]
theorem Al2 {c i:Int} {l:List Int} (h:Al l=true):Al (Lx c l i)=true:=by
 have h:=Aq.1 h
 exact Aq.2 fun x hx=>h x (List.mem_of_mem_take (List.mem_of_mem_drop hx))
theorem At7 {c i k:Int} {l:List Int} (h:Al l=true):Af (Fp c l i k)=true:=by
 unfold Fp
 by_cases hj:(i*c+k).toNat<l.length
 ·exact Wy h hj
 ·rw [A4q,A5y (by omega)]
  exact Cm (n:=0) (by decide)
theorem Amu {r c k:Int} {l:List Int} (h:Al l=true):Al (Qw r c l k)=true:=by
 refine Aq.2 fun x hx=>?_
 obtain ⟨j,_,rfl⟩:=List.mem_map.1 hx
 exact At7 h
theorem Aa.Iq.known:Aa.Iq.Kn:=Aa.Iq.Ad (.cons Aa.D6.known (.cons Aa.Row.known (.cons Ag.H9.known .nil))) fun i k r c l p q m hp=>by
 obtain ⟨h1,h2⟩:=Ac.1 (show Xr r c l p q m i k=true from hp)
 obtain ⟨h3,h4⟩:=Ac.1 h1
 obtain ⟨h5,h6⟩:=Ac.1 h2
 obtain ⟨hl,hm⟩:=Ac.1 h5
 obtain rfl:=Aq.1 h6
 obtain ⟨hr,hi⟩:=Ac.1 h3
 have hi:=Aq.1 hi
 obtain ⟨R,C,rfl,rfl,r6,c6,ll⟩:=Co hr
 obtain ⟨I,rfl⟩:∃ j:Nat,i=j:=⟨i.toNat,by omega⟩
 refine ⟨0,Aa.Iq.out [.i I,.i k,.i R,.i C,.l l,.i C,.i q,.l m],[],?_,.int⟩
 have hf:Mb (Lx (C:Int) l (I:Int)) (Qw (C:Int) q m k)=true:=Tv.2 ⟨by rw [Q4 ll (by omega),Abu],by rw [Q4 ll (by omega)]; omega⟩
 rw [Aa.Iq.ev,Amt,h3,h4,hf,Al2 hl,Amu hm,Zo (by omega)]
 rfl
namespace EqOf
def Aa.of.Dm.hint:Nat→Option Ba
 | 0=>some { keep:=[1,2,6,7,13,14],objs:=[(8,2,108002,.ints 43 .u64 [])],boxes:=[6,7] }
 | 2=>some { keep:=[1,2,6,7,8,13,14,17,18],objs:=[(8,2,108002,.ints 43 .u64 [])],boxes:=[6,7] }
 | _=>none
def Aa.of.E9.hint:Nat→Option Ba
 | 0=>some { keep:=[1,2,6,7,13,14],objs:=[(8,2,108002,.ints 43 .u64 [])],boxes:=[6,7] }
 | 2=>some { keep:=[1,2,6,7,8,13,14,17,18],objs:=[(8,2,108002,.ints 43 .u64 [])],boxes:=[6,7] }
 | _=>none
def Aa.of.E9.Bc:List (Nat × Entry):=[(168,Aa.Iv.spec)]
def Aa.of.E9.E:Env:=Bi (Be Aa.of.E9.Bc) (fun _=>false) Aa.of.E9.hint (fun _=>none)
section
variable (N M0 M:Nat) (a b p8 p14_1 p18:Int) (p2:List Int) (p14:Int) (p2_1:List Int)
def Aa.of.E9.L0:Option DV:=B8 Aa.of.E9.E N f117 (Ak f117) [1,1,0,1,0] [] M ⟨Ff 33 [(1,.int .i64 b),(2,.fn 168 [] []),(6,.ptr 6 0 0),(7,.ptr 7 0 0),(13,.int .i64 a),(14,.int .i64 p14)],[(6,false,.box [.int .i64 0,.int .i64 0,.nil]),(7,false,.box [.int .i64 a,.int .i64 b,.oref 108002]),(108002,false,.ints 43 .u64 p2_1)]⟩
def Aa.of.E9.L1:Option DV:=B8 Aa.of.E9.E N f117 (Ak f117) [1,1,0,1,0,0,1,1,0,0,1,1,0] [M0] M ⟨Ff 33 [(1,.int .i64 b),(2,.fn 168 [] []),(6,.ptr 6 0 0),(7,.ptr 7 0 0),(8,.int .i64 p8),(13,.int .i64 a),(14,.int .i64 p14_1),(17,.int .i64 b),(18,.int .i64 p18)],[(6,false,.box [.int .i64 0,.int .i64 0,.nil]),(7,false,.box [.int .i64 a,.int .i64 b,.oref 108002]),(108002,false,.ints 43 .u64 p2)]⟩
theorem Aa.of.E9.Ar:Aa.of.E9.L0 N (M+1) a b p14 p2_1=bif (Bb p14 a) then Aa.of.E9.L1 N M N a b p14 p14 0 p2_1 else some (.agg [.int .i64 a,.int .i64 b,.ints (.own 108002 43) .u64 p2_1]):=by kernel_rfl
theorem Aa.of.E9.Cd:Aa.of.E9.L1 N M0 (M+1) a b p8 p14_1 p18 p2=bif (Bb p18 b) then bif (decide ((length p2)+1≤Ha)) then Aa.of.E9.L1 N M0 M a b p8 p14_1 (Ab (p18+1)) (p2++[(N0 p8 p18)]) else none else Aa.of.E9.L0 N M0 a b (Ab (p14_1+1)) p2 :=
 Eq.trans (by kernel_rfl)
 (E1 (Cw (Cy _) rfl rfl) rfl)
theorem Aa.of.E9.ev:B0 Aa.of.E9.E N f117 (Ak f117) [.int .i64 a,.int .i64 b,.fn 168 [] []] =
 Aa.of.E9.L0 N N a b 0 []:=by kernel_rfl
end
abbrev _root_.Go.Proofs.S1.Aa.of.E9.Kn:=A8 prog 117 Aa.of.E9.spec
theorem Aa.of.E9.Ad (hk:A2 prog Aa.of.E9.Bc) (h:Hyp Aa.of.E9.E f117 Aa.of.E9.ts Aa.of.E9.pre Aa.of.E9.out):Aa.of.E9.Kn :=
 Am (A5 hk _ _ _) func117 (by kernel_rfl) (by kernel_rfl) h
def Aa.of.Db.hint:Nat→Option Ba
 | 0=>some { keep:=[1,2,6,7,13,14],objs:=[(8,2,108002,.ints 43 .u64 [])],boxes:=[6,7] }
 | 2=>some { keep:=[1,2,6,7,8,13,14,17,18],objs:=[(8,2,108002,.ints 43 .u64 [])],boxes:=[6,7] }
 | _=>none
def Aa.of.Db.Bc:List (Nat × Entry):=[(232,Aa.Gl.spec)]
def Aa.of.Db.E:Env:=Bi (Be Aa.of.Db.Bc) (fun _=>false) Aa.of.Db.hint (fun _=>none)
section
variable (N M0 M:Nat) (a b r c:Int) (l:List Int) (p8 p14_1 p18:Int) (p2:List Int) (p14:Int) (p2_1:List Int)
def Aa.of.Db.L0:Option DV:=B8 Aa.of.Db.E N f117 (Ak f117) [1,1,0,1,0] [] M ⟨Ff 33 [(1,.int .i64 b),(2,.fn 232 [] [.cellp [.int .i64 r,.int .i64 c,.ints .arg .u64 l]]),(6,.ptr 6 0 0),(7,.ptr 7 0 0),(13,.int .i64 a),(14,.int .i64 p14)],[(6,false,.box [.int .i64 0,.int .i64 0,.nil]),(7,false,.box [.int .i64 a,.int .i64 b,.oref 108002]),(108002,false,.ints 43 .u64 p2_1)]⟩
def Aa.of.Db.L1:Option DV:=B8 Aa.of.Db.E N f117 (Ak f117) [1,1,0,1,0,0,1,1,0,0,1,1,0] [M0] M ⟨Ff 33 [(1,.int .i64 b),(2,.fn 232 [] [.cellp [.int .i64 r,.int .i64 c,.ints .arg .u64 l]]),(6,.ptr 6 0 0),(7,.ptr 7 0 0),(8,.int .i64 p8),(13,.int .i64 a),(14,.int .i64 p14_1),(17,.int .i64 b),(18,.int .i64 p18)],[(6,false,.box [.int .i64 0,.int .i64 0,.nil]),(7,false,.box [.int .i64 a,.int .i64 b,.oref 108002]),(108002,false,.ints 43 .u64 p2)]⟩
theorem Aa.of.Db.Ar:Aa.of.Db.L0 N (M+1) a b r c l p14 p2_1=bif (Bb p14 a) then Aa.of.Db.L1 N M N a b r c l p14 p14 0 p2_1 else some (.agg [.int .i64 a,.int .i64 b,.ints (.own 108002 43) .u64 p2_1]):=by kernel_rfl
theorem Aa.of.Db.Cd:Aa.of.Db.L1 N M0 (M+1) a b r c l p8 p14_1 p18 p2=bif (Bb p18 b) then bif (En r c l p18 p8) then bif (decide ((length p2)+1≤Ha)) then Aa.of.Db.L1 N M0 M a b r c l p8 p14_1 (Ab (p18+1)) (p2++[(Fp c l p18 p8)]) else none else none else Aa.of.Db.L0 N M0 a b r c l (Ab (p14_1+1)) p2 :=
 Eq.trans (by kernel_rfl)
 (E1 (Cw (Cy _) (Cw (Cy _) rfl rfl) rfl) rfl)
theorem Aa.of.Db.ev:B0 Aa.of.Db.E N f117 (Ak f117) [.int .i64 a,.int .i64 b,.fn 232 [] [.cellp [.int .i64 r,.int .i64 c,.ints .arg .u64 l]]] =
 Aa.of.Db.L0 N N a b r c l 0 []:=by kernel_rfl
end
abbrev _root_.Go.Proofs.S1.Aa.of.Db.Kn:=A8 prog 117 Aa.of.Db.spec
theorem Aa.of.Db.Ad (hk:A2 prog Aa.of.Db.Bc) (h:Hyp Aa.of.Db.E f117 Aa.of.Db.ts Aa.of.Db.pre Aa.of.Db.out):Aa.of.Db.Kn :=
 Am (A5 hk _ _ _) func117 (by kernel_rfl) (by kernel_rfl) h
def Aa.of.Part.hint:Nat→Option Ba
 | 0=>some { keep:=[1,2,6,7,13,14],objs:=[(8,2,108002,.ints 43 .u64 [])],boxes:=[6,7] }
 | 2=>some { keep:=[1,2,6,7,8,13,14,17,18],objs:=[(8,2,108002,.ints 43 .u64 [])],boxes:=[6,7] }
 | _=>none
def Aa.of.Part.Bc:List (Nat × Entry):=[(122,Aa.Gm.spec)]
def Aa.of.Part.E:Env:=Bi (Be Aa.of.Part.Bc) (fun _=>false) Aa.of.Part.hint (fun _=>none)
section
variable (N M0 M:Nat) (a b r c:Int) (l:List Int) (x y p8 p14_1 p18:Int) (p2:List Int) (p14:Int) (p2_1:List Int)
def Aa.of.Part.L0:Option DV:=B8 Aa.of.Part.E N f117 (Ak f117) [1,1,0,1,0] [] M ⟨Ff 33 [(1,.int .i64 b),(2,.fn 122 [] [.cellp [.int .i64 r,.int .i64 c,.ints .arg .u64 l],.cellp [.int .i64 x],.cellp [.int .i64 y]]),(6,.ptr 6 0 0),(7,.ptr 7 0 0),(13,.int .i64 a),(14,.int .i64 p14)],[(6,false,.box [.int .i64 0,.int .i64 0,.nil]),(7,false,.box [.int .i64 a,.int .i64 b,.oref 108002]),(108002,false,.ints 43 .u64 p2_1)]⟩
def Aa.of.Part.L1:Option DV:=B8 Aa.of.Part.E N f117 (Ak f117) [1,1,0,1,0,0,1,1,0,0,1,1,0] [M0] M ⟨Ff 33 [(1,.int .i64 b),(2,.fn 122 [] [.cellp [.int .i64 r,.int .i64 c,.ints .arg .u64 l],.cellp [.int .i64 x],.cellp [.int .i64 y]]),(6,.ptr 6 0 0),(7,.ptr 7 0 0),(8,.int .i64 p8),(13,.int .i64 a),(14,.int .i64 p14_1),(17,.int .i64 b),(18,.int .i64 p18)],[(6,false,.box [.int .i64 0,.int .i64 0,.nil]),(7,false,.box [.int .i64 a,.int .i64 b,.oref 108002]),(108002,false,.ints 43 .u64 p2)]⟩
theorem Aa.of.Part.Ar:Aa.of.Part.L0 N (M+1) a b r c l x y p14 p2_1=bif (Bb p14 a) then Aa.of.Part.L1 N M N a b r c l x y p14 p14 0 p2_1 else some (.agg [.int .i64 a,.int .i64 b,.ints (.own 108002 43) .u64 p2_1]):=by kernel_rfl
theorem Aa.of.Part.Cd:Aa.of.Part.L1 N M0 (M+1) a b r c l x y p8 p14_1 p18 p2=bif (Bb p18 b) then bif (En r c l (x+p8) (y+p18)&&Z2 x y p8 p18) then bif (decide ((length p2)+1≤Ha)) then Aa.of.Part.L1 N M0 M a b r c l x y p8 p14_1 (Ab (p18+1)) (p2++[(Fp c l (x+p8) (y+p18))]) else none else none else Aa.of.Part.L0 N M0 a b r c l x y (Ab (p14_1+1)) p2 :=
 Eq.trans (by kernel_rfl)
 (E1 (Cw (Cy _) (Cw (Cy _) rfl rfl) rfl) rfl)
theorem Aa.of.Part.ev:B0 Aa.of.Part.E N f117 (Ak f117) [.int .i64 a,.int .i64 b,.fn 122 [] [.cellp [.int .i64 r,.int .i64 c,.ints .arg .u64 l],.cellp [.int .i64 x],.cellp [.int .i64 y]]] =
 Aa.of.Part.L0 N N a b r c l x y 0 []:=by kernel_rfl
end
abbrev _root_.Go.Proofs.S1.Aa.of.Part.Kn:=A8 prog 117 Aa.of.Part.spec
theorem Aa.of.Part.Ad (hk:A2 prog Aa.of.Part.Bc) (h:Hyp Aa.of.Part.E f117 Aa.of.Part.ts Aa.of.Part.pre Aa.of.Part.out):Aa.of.Part.Kn :=
 Am (A5 hk _ _ _) func117 (by kernel_rfl) (by kernel_rfl) h
def Aa.of.Stack.hint:Nat→Option Ba
 | 0=>some { keep:=[1,2,6,7,13,14],objs:=[(8,2,108002,.ints 43 .u64 [])],boxes:=[6,7] }
 | 2=>some { keep:=[1,2,6,7,8,13,14,17,18],objs:=[(8,2,108002,.ints 43 .u64 [])],boxes:=[6,7] }
 | _=>none
def Aa.of.Stack.Bc:List (Nat × Entry):=[(118,Aa.E3.spec)]
def Aa.of.Stack.E:Env:=Bi (Be Aa.of.Stack.Bc) (fun _=>false) Aa.of.Stack.hint (fun _=>none)
section
variable (N M0 M:Nat) (a b r c:Int) (l:List Int) (p q:Int) (m:List Int) (p8 p14_1 p18:Int) (p2:List Int) (p14:Int) (p2_1:List Int)
def Aa.of.Stack.L0:Option DV:=B8 Aa.of.Stack.E N f117 (Ak f117) [1,1,0,1,0] [] M ⟨Ff 33 [(1,.int .i64 b),(2,.fn 118 [] [.cellp [.int .i64 r,.int .i64 c,.ints .arg .u64 l],.cellp [.int .i64 p,.int .i64 q,.ints .arg .u64 m]]),(6,.ptr 6 0 0),(7,.ptr 7 0 0),(13,.int .i64 a),(14,.int .i64 p14)],[(6,false,.box [.int .i64 0,.int .i64 0,.nil]),(7,false,.box [.int .i64 a,.int .i64 b,.oref 108002]),(108002,false,.ints 43 .u64 p2_1)]⟩
def Aa.of.Stack.L1:Option DV:=B8 Aa.of.Stack.E N f117 (Ak f117) [1,1,0,1,0,0,1,1,0,0,1,1,0] [M0] M ⟨Ff 33 [(1,.int .i64 b),(2,.fn 118 [] [.cellp [.int .i64 r,.int .i64 c,.ints .arg .u64 l],.cellp [.int .i64 p,.int .i64 q,.ints .arg .u64 m]]),(6,.ptr 6 0 0),(7,.ptr 7 0 0),(8,.int .i64 p8),(13,.int .i64 a),(14,.int .i64 p14_1),(17,.int .i64 b),(18,.int .i64 p18)],[(6,false,.box [.int .i64 0,.int .i64 0,.nil]),(7,false,.box [.int .i64 a,.int .i64 b,.oref 108002]),(108002,false,.ints 43 .u64 p2)]⟩
theorem Aa.of.Stack.Ar:Aa.of.Stack.L0 N (M+1) a b r c l p q m p14 p2_1=bif (Bb p14 a) then Aa.of.Stack.L1 N M N a b r c l p q m p14 p14 0 p2_1 else some (.agg [.int .i64 a,.int .i64 b,.ints (.own 108002 43) .u64 p2_1]):=by kernel_rfl
theorem Aa.of.Stack.Cd:Aa.of.Stack.L1 N M0 (M+1) a b r c l p q m p8 p14_1 p18 p2=bif (Bb p18 b) then bif (P8 r c l p q m p8 p18) then bif (decide ((length p2)+1≤Ha)) then Aa.of.Stack.L1 N M0 M a b r c l p q m p8 p14_1 (Ab (p18+1)) (p2++[(L5 r c l q m p8 p18)]) else none else none else Aa.of.Stack.L0 N M0 a b r c l p q m (Ab (p14_1+1)) p2 :=
 Eq.trans (by kernel_rfl)
 (E1 (Cw (Cy _) (Cw (Cy _) rfl rfl) rfl) rfl)
theorem Aa.of.Stack.ev:B0 Aa.of.Stack.E N f117 (Ak f117) [.int .i64 a,.int .i64 b,.fn 118 [] [.cellp [.int .i64 r,.int .i64 c,.ints .arg .u64 l],.cellp [.int .i64 p,.int .i64 q,.ints .arg .u64 m]]] =
 Aa.of.Stack.L0 N N a b r c l p q m 0 []:=by kernel_rfl
end
abbrev _root_.Go.Proofs.S1.Aa.of.Stack.Kn:=A8 prog 117 Aa.of.Stack.spec
theorem Aa.of.Stack.Ad (hk:A2 prog Aa.of.Stack.Bc) (h:Hyp Aa.of.Stack.E f117 Aa.of.Stack.ts Aa.of.Stack.pre Aa.of.Stack.out):Aa.of.Stack.Kn :=
 Am (A5 hk _ _ _) func117 (by kernel_rfl) (by kernel_rfl) h
def Aa.of.Mul.hint:Nat→Option Ba
 | 0=>some { keep:=[1,2,6,7,13,14],objs:=[(8,2,108002,.ints 43 .u64 [])],boxes:=[6,7] }
 | 2=>some { keep:=[1,2,6,7,8,13,14,17,18],objs:=[(8,2,108002,.ints 43 .u64 [])],boxes:=[6,7] }
 | _=>none
def Aa.of.Mul.Bc:List (Nat × Entry):=[(133,Aa.Iq.spec)]
def Aa.of.Mul.E:Env:=Bi (Be Aa.of.Mul.Bc) (fun _=>false) Aa.of.Mul.hint (fun _=>none)
section
variable (N M0 M:Nat) (a b r c:Int) (l:List Int) (p q:Int) (m:List Int) (p8 p14_1 p18:Int) (p2:List Int) (p14:Int) (p2_1:List Int)
def Aa.of.Mul.L0:Option DV:=B8 Aa.of.Mul.E N f117 (Ak f117) [1,1,0,1,0] [] M ⟨Ff 33 [(1,.int .i64 b),(2,.fn 133 [] [.cellp [.int .i64 r,.int .i64 c,.ints .arg .u64 l],.cellp [.int .i64 p,.int .i64 q,.ints .arg .u64 m]]),(6,.ptr 6 0 0),(7,.ptr 7 0 0),(13,.int .i64 a),(14,.int .i64 p14)],[(6,false,.box [.int .i64 0,.int .i64 0,.nil]),(7,false,.box [.int .i64 a,.int .i64 b,.oref 108002]),(108002,false,.ints 43 .u64 p2_1)]⟩
def Aa.of.Mul.L1:Option DV:=B8 Aa.of.Mul.E N f117 (Ak f117) [1,1,0,1,0,0,1,1,0,0,1,1,0] [M0] M ⟨Ff 33 [(1,.int .i64 b),(2,.fn 133 [] [.cellp [.int .i64 r,.int .i64 c,.ints .arg .u64 l],.cellp [.int .i64 p,.int .i64 q,.ints .arg .u64 m]]),(6,.ptr 6 0 0),(7,.ptr 7 0 0),(8,.int .i64 p8),(13,.int .i64 a),(14,.int .i64 p14_1),(17,.int .i64 b),(18,.int .i64 p18)],[(6,false,.box [.int .i64 0,.int .i64 0,.nil]),(7,false,.box [.int .i64 a,.int .i64 b,.oref 108002]),(108002,false,.ints 43 .u64 p2)]⟩
theorem Aa.of.Mul.Ar:Aa.of.Mul.L0 N (M+1) a b r c l p q m p14 p2_1=bif (Bb p14 a) then Aa.of.Mul.L1 N M N a b r c l p q m p14 p14 0 p2_1 else some (.agg [.int .i64 a,.int .i64 b,.ints (.own 108002 43) .u64 p2_1]):=by kernel_rfl
theorem Aa.of.Mul.Cd:Aa.of.Mul.L1 N M0 (M+1) a b r c l p q m p8 p14_1 p18 p2=bif (Bb p18 b) then bif (Xr r c l p q m p8 p18) then bif (decide ((length p2)+1≤Ha)) then Aa.of.Mul.L1 N M0 M a b r c l p q m p8 p14_1 (Ab (p18+1)) (p2++[(Hj (Lx c l p8) (Qw p q m p18))]) else none else none else Aa.of.Mul.L0 N M0 a b r c l p q m (Ab (p14_1+1)) p2 :=
 Eq.trans (by kernel_rfl)
 (E1 (Cw (Cy _) (Cw (Cy _) rfl rfl) rfl) rfl)
theorem Aa.of.Mul.ev:B0 Aa.of.Mul.E N f117 (Ak f117) [.int .i64 a,.int .i64 b,.fn 133 [] [.cellp [.int .i64 r,.int .i64 c,.ints .arg .u64 l],.cellp [.int .i64 p,.int .i64 q,.ints .arg .u64 m]]] =
 Aa.of.Mul.L0 N N a b r c l p q m 0 []:=by kernel_rfl
end
abbrev _root_.Go.Proofs.S1.Aa.of.Mul.Kn:=A8 prog 117 Aa.of.Mul.spec
theorem Aa.of.Mul.Ad (hk:A2 prog Aa.of.Mul.Bc) (h:Hyp Aa.of.Mul.E f117 Aa.of.Mul.ts Aa.of.Mul.pre Aa.of.Mul.out):Aa.of.Mul.Kn :=
 Am (A5 hk _ _ _) func117 (by kernel_rfl) (by kernel_rfl) h
def Aa.E9.Bc:List (Nat × Entry):=[(117,Aa.of.E9.spec),(164,Aa.size.spec)]
def Aa.E9.E:Env:=Bi (Be Aa.E9.Bc) (fun _=>false) (fun _=>none) (fun _=>none)
theorem Aa.E9.ev (N:Nat) (n:Int):B0 Aa.E9.E N f126 (Ak f126) [.int .i64 n]=bif (!(Cg n)) then some (.tup [.agg [.int .i64 0,.int .i64 0,.nil],.int .i64 3]) else bif ((Cg n&&Cg n)) then some (.tup [.agg [.int .i64 n,.int .i64 n,.ints .fresh .u64 (Cx (toNat n) (toNat n) (fun j1 j2=>N0 j1 j2))],.int .i64 0]) else none:=by kernel_rfl
abbrev _root_.Go.Proofs.S1.Aa.E9.Kn:=A8 prog 126 Aa.E9.spec
theorem Aa.E9.Ad (hk:A2 prog Aa.E9.Bc) (h:Hyp Aa.E9.E f126 Aa.E9.ts Aa.E9.pre Aa.E9.out):Aa.E9.Kn :=
 Am (A5 hk _ _ _) func126 (by kernel_rfl) (by kernel_rfl) h
def Aa.Db.Bc:List (Nat × Entry):=[(121,Aa.Check.spec),(117,Aa.of.Db.spec)]
def Aa.Db.E:Env:=Bi (Be Aa.Db.Bc) (fun _=>false) (fun _=>none) (fun _=>none)
theorem Aa.Db.ev (N:Nat) (r c:Int) (l:List Int):B0 Aa.Db.E N f203 (Ak f203) [.agg [.int .i64 r,.int .i64 c,.ints .arg .u64 l]]=bif ((Lq r c l) !=(0:Int)) then some (.tup [.agg [.int .i64 0,.int .i64 0,.nil],.int .i64 (Lq r c l)]) else bif ((Cg c&&Cg r)&&A0 r c l&&decide (c=c∧r=r)) then some (.tup [.agg [.int .i64 c,.int .i64 r,.ints .fresh .u64 (Cx (toNat c) (toNat r) (fun j1 j2=>Fp c l j2 j1))],.int .i64 0]) else none:=by kernel_rfl
abbrev _root_.Go.Proofs.S1.Aa.Db.Kn:=A8 prog 203 Aa.Db.spec
theorem Aa.Db.Ad (hk:A2 prog Aa.Db.Bc) (h:Hyp Aa.Db.E f203 Aa.Db.ts Aa.Db.pre Aa.Db.out):Aa.Db.Kn :=
 Am (A5 hk _ _ _) func203 (by kernel_rfl) (by kernel_rfl) h
def Aa.Part.Bc:List (Nat × Entry):=[(121,Aa.Check.spec),(117,Aa.of.Part.spec)]
def Aa.Part.E:Env:=Bi (Be Aa.Part.Bc) (fun _=>false) (fun _=>none) (fun _=>none)
theorem Aa.Part.ev (N:Nat) (r c:Int) (l:List Int) (x y:Int) (a b:Int):B0 Aa.Part.E N f63 (Ak f63) [.agg [.int .i64 r,.int .i64 c,.ints .arg .u64 l],.int .i64 x,.int .i64 y,.int .i64 a,.int .i64 b]=bif ((Lq r c l) !=(0:Int)) then some (.tup [.agg [.int .i64 0,.int .i64 0,.nil],.int .i64 (Lq r c l)]) else bif ((((((((Bb x 0)||(Bb y 0))||(Bb a 0))||(Bb b 0))||(Bb r x))||(Bb c y))||(Bb (Ab (r-x)) a))||(Bb (Ab (c-y)) b)) then some (.tup [.agg [.int .i64 0,.int .i64 0,.nil],.int .i64 3]) else bif ((Cg a&&Cg b)&&A0 r c l&&Ia r c x y a b) then some (.tup [.agg [.int .i64 a,.int .i64 b,.ints .fresh .u64 (Cx (toNat a) (toNat b) (fun j1 j2=>Fp c l (x+j1) (y+j2)))],.int .i64 0]) else none :=
 Eq.trans (by kernel_rfl)
 (E1 rfl (Ax (W4 (Bb x 0)) (Ax (T8 (Bb x 0)) (Ax (tt6 (Bb x 0)) (Ax (Zt (Bb x 0) (Bb y 0)) (Ax (Ab7 (Bb x 0) (Bb y 0)) (Ax (Aql (Bb x 0) (Bb y 0)) (Ax (Agp (Bb x 0) (Bb y 0) (Bb a 0)) (Ax (Aeq (Bb x 0) (Bb y 0) (Bb a 0)) (Ax (Aqm (Bb x 0) (Bb y 0) (Bb a 0)) (Ax (Ane (Bb x 0) (Bb y 0) (Bb a 0) (Bb b 0)) (Ax (Ane (Bb x 0) (Bb y 0) (Bb a 0) (Bb b 0)) (Ax (A0f (Bb x 0) (Bb y 0) (Bb a 0) (Bb b 0)) (Ax (Axu (Bb x 0) (Bb y 0) (Bb a 0) (Bb b 0)) (Ax (Axv (Bb x 0) (Bb y 0) (Bb a 0) (Bb b 0)) (Ax (A0g (Bb x 0) (Bb y 0) (Bb a 0) (Bb b 0) (Bb r x)) (Ax (A0g (Bb x 0) (Bb y 0) (Bb a 0) (Bb b 0) (Bb r x)) (Ax (A21 (Bb x 0) (Bb y 0) (Bb a 0) (Bb b 0) (Bb r x)) (Ax (A22 (Bb x 0) (Bb y 0) (Bb a 0) (Bb b 0) (Bb r x)) (Ax (A23 (Bb x 0) (Bb y 0) (Bb a 0) (Bb b 0) (Bb r x)) (Ax (Axw (Bb x 0) (Bb y 0) (Bb a 0) (Bb b 0) (Bb r x) (Bb c y)) (Ax (Axw (Bb x 0) (Bb y 0) (Bb a 0) (Bb b 0) (Bb r x) (Bb c y)) (Ax (A24 (Bb x 0) (Bb y 0) (Bb a 0) (Bb b 0) (Bb r x) (Bb c y)) (Ax (Axw (Bb x 0) (Bb y 0) (Bb a 0) (Bb b 0) (Bb r x) (Bb c y)) (Ax (A0h (Bb x 0) (Bb y 0) (Bb a 0) (Bb b 0) (Bb r x) (Bb c y)) (Ax (A0h (Bb x 0) (Bb y 0) (Bb a 0) (Bb b 0) (Bb r x) (Bb c y)) (Ax (A25 (Bb x 0) (Bb y 0) (Bb a 0) (Bb b 0) (Bb r x) (Bb c y)) (Ax (Axx (Bb x 0) (Bb y 0) (Bb a 0) (Bb b 0) (Bb r x) (Bb c y) (Bb (Ab (r-x)) a)) (Ax (Axx (Bb x 0) (Bb y 0) (Bb a 0) (Bb b 0) (Bb r x) (Bb c y) (Bb (Ab (r-x)) a)) (Ax (A26 (Bb x 0) (Bb y 0) (Bb a 0) (Bb b 0) (Bb r x) (Bb c y) (Bb (Ab (r-x)) a)) (Ax (Axx (Bb x 0) (Bb y 0) (Bb a 0) (Bb b 0) (Bb r x) (Bb c y) (Bb (Ab (r-x)) a)) (Ax (A0i (Bb x 0) (Bb y 0) (Bb a 0) (Bb b 0) (Bb r x) (Bb c y) (Bb (Ab (r-x)) a)) (Ax (A0i (Bb x 0) (Bb y 0) (Bb a 0) (Bb b 0) (Bb r x) (Bb c y) (Bb (Ab (r-x)) a)) (Ax (A27 (Bb x 0) (Bb y 0) (Bb a 0) (Bb b 0) (Bb r x) (Bb c y) (Bb (Ab (r-x)) a)) (Cw (A28 _ _ _ _ _ _ _ _) rfl rfl)))))))))))))))))))))))))))))))))))
abbrev _root_.Go.Proofs.S1.Aa.Part.Kn:=A8 prog 63 Aa.Part.spec
theorem Aa.Part.Ad (hk:A2 prog Aa.Part.Bc) (h:Hyp Aa.Part.E f63 Aa.Part.ts Aa.Part.pre Aa.Part.out):Aa.Part.Kn :=
 Am (A5 hk _ _ _) func63 (by kernel_rfl) (by kernel_rfl) h
def Aa.Stack.Bc:List (Nat × Entry):=[(117,Aa.of.Stack.spec),(116,Aa.two.spec)]
def Aa.Stack.E:Env:=Bi (Be Aa.Stack.Bc) (fun _=>false) (fun _=>none) (fun _=>none)
theorem Aa.Stack.ev (N:Nat) (r c:Int) (l:List Int) (p q:Int) (m:List Int):B0 Aa.Stack.E N f61 (Ak f61) [.agg [.int .i64 r,.int .i64 c,.ints .arg .u64 l],.agg [.int .i64 p,.int .i64 q,.ints .arg .u64 m]]=bif ((Zs r c l p q m) !=(0:Int)) then some (.tup [.agg [.int .i64 0,.int .i64 0,.nil],.int .i64 (Zs r c l p q m)]) else bif ((c !=q)||(Bb 6 (Ab (r+p)))) then some (.tup [.agg [.int .i64 0,.int .i64 0,.nil],.int .i64 3]) else bif ((Cg (Ab (r+p))&&Cg c)&&(A0 r c l&&A0 p q m)&&decide ((Ab (r+p))=r+p∧c=c∧q=c)) then some (.tup [.agg [.int .i64 (Ab (r+p)),.int .i64 c,.ints .fresh .u64 (Cx (toNat (Ab (r+p))) (toNat c) (fun j1 j2=>L5 r c l q m j1 j2))],.int .i64 0]) else none :=
 Eq.trans (by kernel_rfl)
 (E1 rfl (Ax (W4 (c !=q)) (Ax (T8 (c !=q)) (Ax (W4 (c !=q)) (Ax (T8 (c !=q)) (Ax (tt8 (c !=q)) (Ax (T8 (c !=q)) (Ax (tt6 (c !=q)) (Cw (tt5 _ _) rfl rfl)))))))))
abbrev _root_.Go.Proofs.S1.Aa.Stack.Kn:=A8 prog 61 Aa.Stack.spec
theorem Aa.Stack.Ad (hk:A2 prog Aa.Stack.Bc) (h:Hyp Aa.Stack.E f61 Aa.Stack.ts Aa.Stack.pre Aa.Stack.out):Aa.Stack.Kn :=
 Am (A5 hk _ _ _) func61 (by kernel_rfl) (by kernel_rfl) h
def Aa.Mul.Bc:List (Nat × Entry):=[(117,Aa.of.Mul.spec),(116,Aa.two.spec)]
def Aa.Mul.E:Env:=Bi (Be Aa.Mul.Bc) (fun _=>false) (fun _=>none) (fun _=>none)
theorem Aa.Mul.ev (N:Nat) (r c:Int) (l:List Int) (p q:Int) (m:List Int):B0 Aa.Mul.E N f65 (Ak f65) [.agg [.int .i64 r,.int .i64 c,.ints .arg .u64 l],.agg [.int .i64 p,.int .i64 q,.ints .arg .u64 m]]=bif ((Zs r c l p q m) !=(0:Int)) then some (.tup [.agg [.int .i64 0,.int .i64 0,.nil],.int .i64 (Zs r c l p q m)]) else bif (c !=p) then some (.tup [.agg [.int .i64 0,.int .i64 0,.nil],.int .i64 3]) else bif ((Cg r&&Cg q)&&((A0 r c l&&A0 p q m)&&(Al l&&Al m))&&decide (r=r∧q=q∧c=p)) then some (.tup [.agg [.int .i64 r,.int .i64 q,.ints .fresh .u64 (Cx (toNat r) (toNat q) (fun j1 j2=>Hj (Lx c l j1) (Qw p q m j2)))],.int .i64 0]) else none:=by kernel_rfl
abbrev _root_.Go.Proofs.S1.Aa.Mul.Kn:=A8 prog 65 Aa.Mul.spec
theorem Aa.Mul.Ad (hk:A2 prog Aa.Mul.Bc) (h:Hyp Aa.Mul.E f65 Aa.Mul.ts Aa.Mul.pre Aa.Mul.out):Aa.Mul.Kn :=
 Am (A5 hk _ _ _) func65 (by kernel_rfl) (by kernel_rfl) h
end EqOf
open EqOf
theorem of.E9.inner (N:Nat)  {A B:Nat} (hA:A≤6) (hB:B≤6) {F:Nat→Nat→Int} (hF:∀ i j:Nat,F i j=N0 (i:Int) (j:Int)) {i:Nat} (hi:i<A):∀ (k j M0 M:Nat),j+k=B→k<M →
 Aa.of.E9.L1 N M0 M (A:Int) (B:Int) (i:Int) (i:Int) (j:Int) (Cx i B F++(List.range j).map (F i))=Aa.of.E9.L0 N M0 (A:Int) (B:Int) ((i+1:Nat):Int) (Cx (i+1) B F):=by
 intro k
 induction k with
 | zero =>
   intro j M0 M hj hM
   obtain ⟨M,rfl⟩:∃ G,M=G+1:=⟨M-1,by omega⟩
   obtain rfl:j=B:=by omega
   rw [Aa.of.E9.Cd,Av,A4l (by omega),A4k,An (by omega) (by omega),← Qq]
   rfl
 | succ k ih =>
   intro j M0 M hj hM
   obtain ⟨M,rfl⟩:∃ G,M=G+1:=⟨M-1,by omega⟩
   have d:decide ((Cx i B F++(List.range j).map (F i)).length+1≤Ha)=true:=by
    refine A4h ?_
    have:=A5c (show i≤6 by omega) hB
    rw [A48,Cl,A5m,A5j]; unfold Ha; omega
   rw [Aa.of.E9.Cd,Av,A4h (by omega),A4g,d,A4g,An (by omega) (by omega),← hF i j]
   have:=ih (j+1) M0 M (by omega) (by omega)
   rw [Li,← List.append_assoc] at this
   exact this
theorem of.E9.outer (N:Nat)  {A B:Nat} (hA:A≤6) (hB:B≤6) (hN:6<N) {F:Nat→Nat→Int} (hF:∀ i j:Nat,F i j=N0 (i:Int) (j:Int)):∀ (k i M:Nat),i+k=A→k<M →
 Aa.of.E9.L0 N M (A:Int) (B:Int) (i:Int) (Cx i B F)=some (.agg [.int .i64 (A:Int),.int .i64 (B:Int),.ints (.own 108002 tB) .u64 (Cx A B F)]):=by
 intro k
 induction k with
 | zero =>
   intro i M hi hM
   obtain ⟨M,rfl⟩:∃ G,M=G+1:=⟨M-1,by omega⟩
   obtain rfl:i=A:=by omega
   rw [Aa.of.E9.Ar,Av,A4l (by omega),A4k]
 | succ k ih =>
   intro i M hi hM
   obtain ⟨M,rfl⟩:∃ G,M=G+1:=⟨M-1,by omega⟩
   have n:=of.E9.inner N hA hB hF (show i<A by omega) B 0 M N (by omega) (by omega)
   rw [List.range_zero,List.map_nil,List.append_nil] at n
   rw [Aa.of.E9.Ar,Av,A4h (by omega),A4g]
   exact n.trans (ih (i+1) M (by omega) (by omega))
theorem Aa.of.E9.known:Aa.of.E9.Kn:=Aa.of.E9.Ad (.cons Aa.Iv.known .nil) fun a b hp=>by
 have h1:(Cg a&&Cg b)=true:=hp
 obtain ⟨ha,hb⟩:=Ac.1 h1
 obtain ⟨A,rfl,hA⟩:=Gv ha
 obtain ⟨B,rfl,hB⟩:=Gv hb
 refine ⟨8,.agg [.int .i64 (A:Int),.int .i64 (B:Int),.ints (.own 108002 tB) .u64 (Cx A B fun (i j:Nat)=>N0 (i:Int) (j:Int))],[108002],?_,Wk.F7 (.cons .int (.cons .int (.cons (.drop _ _ _ _ (List.mem_singleton.2 rfl)) .nil)))⟩
 rw [Aa.of.E9.ev]
 have n:=of.E9.outer 8 hA hB (by omega) (F:=fun (i j:Nat)=>N0 (i:Int) (j:Int)) (fun _ _=>rfl) A 0 8 (by omega) (by omega)
 rw [Qp] at n
 exact n
theorem of.Db.inner (N:Nat) (r c:Int) (l:List Int) {A B:Nat} (hA:A≤6) (hB:B≤6) {F:Nat→Nat→Int} (hF:∀ i j:Nat,F i j=Fp c l (j:Int) (i:Int)) {i:Nat} (hi:i<A) (hp:∀ j:Nat,j<B→En r c l (j:Int) (i:Int)=true):∀ (k j M0 M:Nat),j+k=B→k<M →
 Aa.of.Db.L1 N M0 M (A:Int) (B:Int) r c l (i:Int) (i:Int) (j:Int) (Cx i B F++(List.range j).map (F i))=Aa.of.Db.L0 N M0 (A:Int) (B:Int) r c l ((i+1:Nat):Int) (Cx (i+1) B F):=by
 intro k
 induction k with
 | zero =>
   intro j M0 M hj hM
   obtain ⟨M,rfl⟩:∃ G,M=G+1:=⟨M-1,by omega⟩
   obtain rfl:j=B:=by omega
   rw [Aa.of.Db.Cd,Av,A4l (by omega),A4k,An (by omega) (by omega),← Qq]
   rfl
 | succ k ih =>
   intro j M0 M hj hM
   obtain ⟨M,rfl⟩:∃ G,M=G+1:=⟨M-1,by omega⟩
   have d:decide ((Cx i B F++(List.range j).map (F i)).length+1≤Ha)=true:=by
    refine A4h ?_
    have:=A5c (show i≤6 by omega) hB
    rw [A48,Cl,A5m,A5j]; unfold Ha; omega
   rw [Aa.of.Db.Cd,Av,A4h (by omega),A4g,hp j (by omega),A4g,d,A4g,An (by omega) (by omega),← hF i j]
   have:=ih (j+1) M0 M (by omega) (by omega)
   rw [Li,← List.append_assoc] at this
   exact this
theorem of.Db.outer (N:Nat) (r c:Int) (l:List Int) {A B:Nat} (hA:A≤6) (hB:B≤6) (hN:6<N) {F:Nat→Nat→Int} (hF:∀ i j:Nat,F i j=Fp c l (j:Int) (i:Int)) (hp:∀ i j:Nat,i<A→j<B→En r c l (j:Int) (i:Int)=true):∀ (k i M:Nat),i+k=A→k<M →
 Aa.of.Db.L0 N M (A:Int) (B:Int) r c l (i:Int) (Cx i B F)=some (.agg [.int .i64 (A:Int),.int .i64 (B:Int),.ints (.own 108002 tB) .u64 (Cx A B F)]):=by
 intro k
 induction k with
 | zero =>
   intro i M hi hM
   obtain ⟨M,rfl⟩:∃ G,M=G+1:=⟨M-1,by omega⟩
   obtain rfl:i=A:=by omega
   rw [Aa.of.Db.Ar,Av,A4l (by omega),A4k]
 | succ k ih =>
   intro i M hi hM
   obtain ⟨M,rfl⟩:∃ G,M=G+1:=⟨M-1,by omega⟩
   have n:=of.Db.inner N r c l hA hB hF (show i<A by omega) (fun j hj=>hp i j (by omega) hj) B 0 M N (by omega) (by omega)
   rw [List.range_zero,List.map_nil,List.append_nil] at n
   rw [Aa.of.Db.Ar,Av,A4h (by omega),A4g]
   exact n.trans (ih (i+1) M (by omega) (by omega))
theorem Aa.of.Db.known:Aa.of.Db.Kn:=Aa.of.Db.Ad (.cons Aa.Gl.known .nil) fun a b r c l hp=>by
 obtain ⟨h12,hy⟩:=Ac.1 (show (((Cg a&&Cg b)&&A0 r c l)&&decide (a=c∧b=r))=true from hp)
 obtain ⟨h1,hx⟩:=Ac.1 h12
 have h2:=Ac.2 ⟨hx,hy⟩
 obtain ⟨ha,hb⟩:=Ac.1 h1
 obtain ⟨A,rfl,hA⟩:=Gv ha
 obtain ⟨B,rfl,hB⟩:=Gv hb
 obtain ⟨hr,he⟩:=Ac.1 h2
 obtain ⟨e1,e2⟩:=A46 he
 have hp:∀ i j:Nat,i<A→j<B→En r c l (j:Int) (i:Int)=true:=fun i j hi hj=>Nc hr (by omega) (by omega) (by omega) (by omega) r
 refine ⟨8,.agg [.int .i64 (A:Int),.int .i64 (B:Int),.ints (.own 108002 tB) .u64 (Cx A B fun (i j:Nat)=>Fp c l (j:Int) (i:Int))],[108002],?_,Wk.F7 (.cons .int (.cons .int (.cons (.drop _ _ _ _ (List.mem_singleton.2 rfl)) .nil)))⟩
 rw [Aa.of.Db.ev]
 have n:=of.Db.outer 8 r c l hA hB (by omega) (F:=fun (i j:Nat)=>Fp c l (j:Int) (i:Int)) (fun _ _=>rfl) hp A 0 8 (by omega) (by omega)
 rw [Qp] at n
 exact n
theorem of.Part.inner (N:Nat) (r c:Int) (l:List Int) (x y:Int) {A B:Nat} (hA:A≤6) (hB:B≤6) {F:Nat→Nat→Int} (hF:∀ i j:Nat,F i j=Fp c l (x+(i:Int)) (y+(j:Int))) {i:Nat} (hi:i<A) (hp:∀ j:Nat,j<B→(En r c l (x+(i:Int)) (y+(j:Int))&&Z2 x y (i:Int) (j:Int))=true):∀ (k j M0 M:Nat),j+k=B→k<M →
 Aa.of.Part.L1 N M0 M (A:Int) (B:Int) r c l x y (i:Int) (i:Int) (j:Int) (Cx i B F++(List.range j).map (F i))=Aa.of.Part.L0 N M0 (A:Int) (B:Int) r c l x y ((i+1:Nat):Int) (Cx (i+1) B F):=by
 intro k
 induction k with
 | zero =>
   intro j M0 M hj hM
   obtain ⟨M,rfl⟩:∃ G,M=G+1:=⟨M-1,by omega⟩
   obtain rfl:j=B:=by omega
   rw [Aa.of.Part.Cd,Av,A4l (by omega),A4k,An (by omega) (by omega),← Qq]
   rfl
 | succ k ih =>
   intro j M0 M hj hM
   obtain ⟨M,rfl⟩:∃ G,M=G+1:=⟨M-1,by omega⟩
   have d:decide ((Cx i B F++(List.range j).map (F i)).length+1≤Ha)=true:=by
    refine A4h ?_
    have:=A5c (show i≤6 by omega) hB
    rw [A48,Cl,A5m,A5j]; unfold Ha; omega
   rw [Aa.of.Part.Cd,Av,A4h (by omega),A4g,hp j (by omega),A4g,d,A4g,An (by omega) (by omega),← hF i j]
   have:=ih (j+1) M0 M (by omega) (by omega)
   rw [Li,← List.append_assoc] at this
   exact this
theorem of.Part.outer (N:Nat) (r c:Int) (l:List Int) (x y:Int) {A B:Nat} (hA:A≤6) (hB:B≤6) (hN:6<N) {F:Nat→Nat→Int} (hF:∀ i j:Nat,F i j=Fp c l (x+(i:Int)) (y+(j:Int))) (hp:∀ i j:Nat,i<A→j<B→(En r c l (x+(i:Int)) (y+(j:Int))&&Z2 x y (i:Int) (j:Int))=true):∀ (k i M:Nat),i+k=A→k<M →
 Aa.of.Part.L0 N M (A:Int) (B:Int) r c l x y (i:Int) (Cx i B F)=some (.agg [.int .i64 (A:Int),.int .i64 (B:Int),.ints (.own 108002 tB) .u64 (Cx A B F)]):=by
 intro k
 induction k with
 | zero =>
   intro i M hi hM
   obtain ⟨M,rfl⟩:∃ G,M=G+1:=⟨M-1,by omega⟩
   obtain rfl:i=A:=by omega
   rw [Aa.of.Part.Ar,Av,A4l (by omega),A4k]
 | succ k ih =>
   intro i M hi hM
   obtain ⟨M,rfl⟩:∃ G,M=G+1:=⟨M-1,by omega⟩
   have n:=of.Part.inner N r c l x y hA hB hF (show i<A by omega) (fun j hj=>hp i j (by omega) hj) B 0 M N (by omega) (by omega)
   rw [List.range_zero,List.map_nil,List.append_nil] at n
   rw [Aa.of.Part.Ar,Av,A4h (by omega),A4g]
   exact n.trans (ih (i+1) M (by omega) (by omega))
theorem Aa.of.Part.known:Aa.of.Part.Kn:=Aa.of.Part.Ad (.cons Aa.Gm.known .nil) fun a b r c l x y hp=>by
 obtain ⟨h12,hy⟩:=Ac.1 (show (((Cg a&&Cg b)&&A0 r c l)&&Ia r c x y a b)=true from hp)
 obtain ⟨h1,hx⟩:=Ac.1 h12
 have h2:=Ac.2 ⟨hx,hy⟩
 obtain ⟨ha,hb⟩:=Ac.1 h1
 obtain ⟨A,rfl,hA⟩:=Gv ha
 obtain ⟨B,rfl,hB⟩:=Gv hb
 obtain ⟨hr,he⟩:=Ac.1 h2
 have he:=A46 he
 have hs:=Hx.1 hr
 have hp:∀ i j:Nat,i<A→j<B→(En r c l (x+(i:Int)) (y+(j:Int))&&Z2 x y (i:Int) (j:Int))=true:=fun i j hi hj =>
  Ac.2 ⟨Nc hr (by omega) (by omega) (by omega) (by omega) r,Aq.2 (by omega)⟩
 refine ⟨8,.agg [.int .i64 (A:Int),.int .i64 (B:Int),.ints (.own 108002 tB) .u64 (Cx A B fun (i j:Nat)=>Fp c l (x+(i:Int)) (y+(j:Int)))],[108002],?_,Wk.F7 (.cons .int (.cons .int (.cons (.drop _ _ _ _ (List.mem_singleton.2 rfl)) .nil)))⟩
 rw [Aa.of.Part.ev]
 have n:=of.Part.outer 8 r c l x y hA hB (by omega) (F:=fun (i j:Nat)=>Fp c l (x+(i:Int)) (y+(j:Int))) (fun _ _=>rfl) hp A 0 8 (by omega) (by omega)
 rw [Qp] at n
 exact n
theorem of.Stack.inner (N:Nat) (r c:Int) (l:List Int) (p q:Int) (m:List Int) {A B:Nat} (hA:A≤6) (hB:B≤6) {F:Nat→Nat→Int} (hF:∀ i j:Nat,F i j=L5 r c l q m (i:Int) (j:Int)) {i:Nat} (hi:i<A) (hp:∀ j:Nat,j<B→P8 r c l p q m (i:Int) (j:Int)=true):∀ (k j M0 M:Nat),j+k=B→k<M →
 Aa.of.Stack.L1 N M0 M (A:Int) (B:Int) r c l p q m (i:Int) (i:Int) (j:Int) (Cx i B F++(List.range j).map (F i))=Aa.of.Stack.L0 N M0 (A:Int) (B:Int) r c l p q m ((i+1:Nat):Int) (Cx (i+1) B F):=by
 intro k
 induction k with
 | zero =>
   intro j M0 M hj hM
   obtain ⟨M,rfl⟩:∃ G,M=G+1:=⟨M-1,by omega⟩
   obtain rfl:j=B:=by omega
   rw [Aa.of.Stack.Cd,Av,A4l (by omega),A4k,An (by omega) (by omega),← Qq]
   rfl
 | succ k ih =>
   intro j M0 M hj hM
   obtain ⟨M,rfl⟩:∃ G,M=G+1:=⟨M-1,by omega⟩
   have d:decide ((Cx i B F++(List.range j).map (F i)).length+1≤Ha)=true:=by
    refine A4h ?_
    have:=A5c (show i≤6 by omega) hB
    rw [A48,Cl,A5m,A5j]; unfold Ha; omega
   rw [Aa.of.Stack.Cd,Av,A4h (by omega),A4g,hp j (by omega),A4g,d,A4g,An (by omega) (by omega),← hF i j]
   have:=ih (j+1) M0 M (by omega) (by omega)
   rw [Li,← List.append_assoc] at this
   exact this
theorem of.Stack.outer (N:Nat) (r c:Int) (l:List Int) (p q:Int) (m:List Int) {A B:Nat} (hA:A≤6) (hB:B≤6) (hN:6<N) {F:Nat→Nat→Int} (hF:∀ i j:Nat,F i j=L5 r c l q m (i:Int) (j:Int)) (hp:∀ i j:Nat,i<A→j<B→P8 r c l p q m (i:Int) (j:Int)=true):∀ (k i M:Nat),i+k=A→k<M →
 Aa.of.Stack.L0 N M (A:Int) (B:Int) r c l p q m (i:Int) (Cx i B F)=some (.agg [.int .i64 (A:Int),.int .i64 (B:Int),.ints (.own 108002 tB) .u64 (Cx A B F)]):=by
 intro k
 induction k with
 | zero =>
   intro i M hi hM
   obtain ⟨M,rfl⟩:∃ G,M=G+1:=⟨M-1,by omega⟩
   obtain rfl:i=A:=by omega
   rw [Aa.of.Stack.Ar,Av,A4l (by omega),A4k]
 | succ k ih =>
   intro i M hi hM
   obtain ⟨M,rfl⟩:∃ G,M=G+1:=⟨M-1,by omega⟩
   have n:=of.Stack.inner N r c l p q m hA hB hF (show i<A by omega) (fun j hj=>hp i j (by omega) hj) B 0 M N (by omega) (by omega)
   rw [List.range_zero,List.map_nil,List.append_nil] at n
   rw [Aa.of.Stack.Ar,Av,A4h (by omega),A4g]
   exact n.trans (ih (i+1) M (by omega) (by omega))
theorem Aa.of.Stack.known:Aa.of.Stack.Kn:=Aa.of.Stack.Ad (.cons Aa.E3.known .nil) fun a b r c l p q m hp=>by
 obtain ⟨h12,hy⟩:=Ac.1 (show (((Cg a&&Cg b)&&(A0 r c l&&A0 p q m))&&decide (a=r+p∧b=c∧q=c))=true from hp)
 obtain ⟨h1,hx⟩:=Ac.1 h12
 have h2:=Ac.2 ⟨hx,hy⟩
 obtain ⟨ha,hb⟩:=Ac.1 h1
 obtain ⟨A,rfl,hA⟩:=Gv ha
 obtain ⟨B,rfl,hB⟩:=Gv hb
 obtain ⟨h3,he⟩:=Ac.1 h2
 obtain ⟨hr,hm⟩:=Ac.1 h3
 obtain ⟨e1,e2,e3⟩:=A46 he
 have hs:=Hx.1 hr
 have hp:∀ i j:Nat,i<A→j<B→P8 r c l p q m (i:Int) (j:Int)=true:=fun i j hi hj=>by
  refine Aq.2 ⟨by omega,by omega,by omega,by omega,?_⟩
  by_cases h:(i:Int)<r
  ·rw [A43 h]; exact Nc hr (by omega) (by omega) (by omega) (by omega) r
  ·rw [A42 h]; exact Nc hm (by omega) (by omega) (by omega) (by omega) p
 refine ⟨8,.agg [.int .i64 (A:Int),.int .i64 (B:Int),.ints (.own 108002 tB) .u64 (Cx A B fun (i j:Nat)=>L5 r c l q m (i:Int) (j:Int))],[108002],?_,Wk.F7 (.cons .int (.cons .int (.cons (.drop _ _ _ _ (List.mem_singleton.2 rfl)) .nil)))⟩
 rw [Aa.of.Stack.ev]
 have n:=of.Stack.outer 8 r c l p q m hA hB (by omega) (F:=fun (i j:Nat)=>L5 r c l q m (i:Int) (j:Int)) (fun _ _=>rfl) hp A 0 8 (by omega) (by omega)
 rw [Qp] at n
 exact n
theorem of.Mul.inner (N:Nat) (r c:Int) (l:List Int) (p q:Int) (m:List Int) {A B:Nat} (hA:A≤6) (hB:B≤6) {F:Nat→Nat→Int} (hF:∀ i j:Nat,F i j=Hj (Lx c l (i:Int)) (Qw p q m (j:Int))) {i:Nat} (hi:i<A) (hp:∀ j:Nat,j<B→Xr r c l p q m (i:Int) (j:Int)=true):∀ (k j M0 M:Nat),j+k=B→k<M →
 Aa.of.Mul.L1 N M0 M (A:Int) (B:Int) r c l p q m (i:Int) (i:Int) (j:Int) (Cx i B F++(List.range j).map (F i))=Aa.of.Mul.L0 N M0 (A:Int) (B:Int) r c l p q m ((i+1:Nat):Int) (Cx (i+1) B F):=by
 intro k
 induction k with
 | zero =>
   intro j M0 M hj hM
   obtain ⟨M,rfl⟩:∃ G,M=G+1:=⟨M-1,by omega⟩
   obtain rfl:j=B:=by omega
   rw [Aa.of.Mul.Cd,Av,A4l (by omega),A4k,An (by omega) (by omega),← Qq]
   rfl
 | succ k ih =>
   intro j M0 M hj hM
   obtain ⟨M,rfl⟩:∃ G,M=G+1:=⟨M-1,by omega⟩
   have d:decide ((Cx i B F++(List.range j).map (F i)).length+1≤Ha)=true:=by
    refine A4h ?_
    have:=A5c (show i≤6 by omega) hB
    rw [A48,Cl,A5m,A5j]; unfold Ha; omega
   rw [Aa.of.Mul.Cd,Av,A4h (by omega),A4g,hp j (by omega),A4g,d,A4g,An (by omega) (by omega),← hF i j]
   have:=ih (j+1) M0 M (by omega) (by omega)
   rw [Li,← List.append_assoc] at this
   exact this
theorem of.Mul.outer (N:Nat) (r c:Int) (l:List Int) (p q:Int) (m:List Int) {A B:Nat} (hA:A≤6) (hB:B≤6) (hN:6<N) {F:Nat→Nat→Int} (hF:∀ i j:Nat,F i j=Hj (Lx c l (i:Int)) (Qw p q m (j:Int))) (hp:∀ i j:Nat,i<A→j<B→Xr r c l p q m (i:Int) (j:Int)=true):∀ (k i M:Nat),i+k=A→k<M →
 Aa.of.Mul.L0 N M (A:Int) (B:Int) r c l p q m (i:Int) (Cx i B F)=some (.agg [.int .i64 (A:Int),.int .i64 (B:Int),.ints (.own 108002 tB) .u64 (Cx A B F)]):=by
 intro k
 induction k with
 | zero =>
   intro i M hi hM
   obtain ⟨M,rfl⟩:∃ G,M=G+1:=⟨M-1,by omega⟩
   obtain rfl:i=A:=by omega
   rw [Aa.of.Mul.Ar,Av,A4l (by omega),A4k]
 | succ k ih =>
   intro i M hi hM
   obtain ⟨M,rfl⟩:∃ G,M=G+1:=⟨M-1,by omega⟩
   have n:=of.Mul.inner N r c l p q m hA hB hF (show i<A by omega) (fun j hj=>hp i j (by omega) hj) B 0 M N (by omega) (by omega)
   rw [List.range_zero,List.map_nil,List.append_nil] at n
   rw [Aa.of.Mul.Ar,Av,A4h (by omega),A4g]
   exact n.trans (ih (i+1) M (by omega) (by omega))
theorem Aa.of.Mul.known:Aa.of.Mul.Kn:=Aa.of.Mul.Ad (.cons Aa.Iq.known .nil) fun a b r c l p q m hp=>by
 obtain ⟨h12,hy⟩:=Ac.1 (show (((Cg a&&Cg b)&&((A0 r c l&&A0 p q m)&&(Al l&&Al m)))&&decide (a=r∧b=q∧c=p))=true from hp)
 obtain ⟨h1,hx⟩:=Ac.1 h12
 have h2:=Ac.2 ⟨hx,hy⟩
 obtain ⟨ha,hb⟩:=Ac.1 h1
 obtain ⟨A,rfl,hA⟩:=Gv ha
 obtain ⟨B,rfl,hB⟩:=Gv hb
 obtain ⟨h3,he⟩:=Ac.1 h2
 obtain ⟨h4,h5⟩:=Ac.1 h3
 obtain ⟨hr,hm⟩:=Ac.1 h4
 obtain ⟨e1,e2,e3⟩:=A46 he
 have hp:∀ i j:Nat,i<A→j<B→Xr r c l p q m (i:Int) (j:Int)=true:=fun i j hi hj =>
  Ac.2 ⟨Ac.2 ⟨Ac.2 ⟨hr,Aq.2 (by omega)⟩,Ac.2 ⟨hm,Aq.2 (by omega)⟩⟩,Ac.2 ⟨h5,Aq.2 e3⟩⟩
 refine ⟨8,.agg [.int .i64 (A:Int),.int .i64 (B:Int),.ints (.own 108002 tB) .u64 (Cx A B fun (i j:Nat)=>Hj (Lx c l (i:Int)) (Qw p q m (j:Int)))],[108002],?_,Wk.F7 (.cons .int (.cons .int (.cons (.drop _ _ _ _ (List.mem_singleton.2 rfl)) .nil)))⟩
 rw [Aa.of.Mul.ev]
 have n:=of.Mul.outer 8 r c l p q m hA hB (by omega) (F:=fun (i j:Nat)=>Hj (Lx c l (i:Int)) (Qw p q m (j:Int))) (fun _ _=>rfl) hp A 0 8 (by omega) (by omega)
 rw [Qp] at n
 exact n
open EqOf
def Ahn (x:MX):DV:=.tup [.agg [.int .i64 x.1,.int .i64 x.2.1,.ints .fresh .u64 x.2.2.1],.int .i64 x.2.2.2]
def A3m (e:Int):DV:=.tup [.agg [.int .i64 0,.int .i64 0,.nil],.int .i64 e]
theorem Zr {drops:List Nat} {x:MX}:Wk drops (Ahn x) (Ahn x) :=
 Wk.Hm (.cons (Wk.F7 (.cons .int (.cons .int (.cons .Jh .nil)))) (.cons .int .nil))
theorem Ye {drops:List Nat} {e:Int}:Wk drops (A3m e) (Ahn (L8 e)) :=
 Wk.Hm (.cons (Wk.F7 (.cons .int (.cons .int (.cons (.nil _ _) .nil)))) (.cons .int .nil))
theorem Aa.E9.known:Aa.E9.Kn:=Aa.E9.Ad (.cons Aa.of.E9.known (.cons Aa.size.known .nil)) fun n _=>by
 show ∃ N dv drops,_=some dv∧Wk drops dv (Ahn (Pb n))
 unfold Pb
 by_cases h:Cg n=true
 ·rw [A43 h]
  exact ⟨0,_,[],by rw [Aa.E9.ev,h]; rfl,Zr⟩
 ·have e:Cg n=false:=by simpa using h
  rw [A42 h]
  exact ⟨0,_,[],by rw [Aa.E9.ev,e]; rfl,Ye⟩
theorem Pj {r c:Int} {l:List Int} (h:A0 r c l=true):Cg r=true∧Cg c=true:=by
 obtain ⟨h1,h2,_⟩:=Hx.1 h
 exact ⟨Jp.2 h1,Jp.2 h2⟩
theorem Aa.Db.known:Aa.Db.Kn:=Aa.Db.Ad (.cons Aa.Check.known (.cons Aa.of.Db.known .nil)) fun r c l _=>by
 show ∃ N dv drops,_=some dv∧Wk drops dv (Ahn (Fb r c l))
 unfold Fb
 by_cases h:A0 r c l=true
 ·obtain ⟨h1,h2⟩:=Pj h
  rw [A43 h]
  exact ⟨0,_,[],by rw [Aa.Db.ev,U7,h,h1,h2,A4h ⟨rfl,rfl⟩]; rfl,Zr⟩
 ·have e:A0 r c l=false:=by simpa using h
  have ec:Lq r c l=1:=by unfold Lq; rw [e]; rfl
  rw [A42 h]
  exact ⟨0,_,[],by rw [Aa.Db.ev,U7,e,ec]; rfl,Ye⟩
theorem Adc {r c x y a b:Int} (hr:0≤r∧r≤6) (hc:0≤c∧c≤6) :
 ((((((((Bb x (0:Int))||(Bb y (0:Int)))||(Bb a (0:Int)))||(Bb b (0:Int)))||(Bb r x))||(Bb c y))||(Bb (Ab (r-x)) a))||(Bb (Ab (c-y)) b))=!(Ia r c x y a b):=by
 unfold Ia
 simp only [Av]
 by_cases h:0≤x∧0≤y∧x≤r∧y≤c
 ·rw [An (x:=r-x) (by omega) (by omega),An (x:=c-y) (by omega) (by omega),A4w]
  simp only [Bool.or_eq_true,A4n,Bool.not_eq_true',A4z]
  omega
 ·have e:decide (0≤x∧0≤y∧0≤a∧0≤b∧x≤r∧y≤c∧a≤r-x∧b≤c-y)=false:=A4l (by omega)
  rw [e,A4w]
  simp only [Bool.or_eq_true,A4n,A5z,iff_true]
  omega
theorem Aai {r c x y a b:Int} {l:List Int} (h:A0 r c l=true) (hp:Ia r c x y a b=true):Cg a=true∧Cg b=true:=by
 obtain ⟨h1,h2,_⟩:=Hx.1 h
 have:=A46 hp
 exact ⟨Jp.2 (by omega),Jp.2 (by omega)⟩
theorem Aa.Part.known:Aa.Part.Kn:=Aa.Part.Ad (.cons Aa.Check.known (.cons Aa.of.Part.known .nil)) fun r c l x y a b _=>by
 show ∃ N dv drops,_=some dv∧Wk drops dv (Ahn (Cv r c l x y a b))
 unfold Cv
 by_cases h:A0 r c l=true
 ·obtain ⟨h1,h2,_⟩:=Hx.1 h
  by_cases hp:Ia r c x y a b=true
  ·obtain ⟨s1,s2⟩:=Aai h hp
   rw [A43 h,A43 hp]
   exact ⟨0,_,[],by rw [Aa.Part.ev,U7,Adc h1 h2,h,hp,s1,s2]; rfl,Zr⟩
  ·have e:Ia r c x y a b=false:=by simpa using hp
   rw [A43 h,A42 hp]
   exact ⟨0,_,[],by rw [Aa.Part.ev,U7,Adc h1 h2,h,e]; rfl,Ye⟩
 ·have e:A0 r c l=false:=by simpa using h
  have ec:Lq r c l=1:=by unfold Lq; rw [e]; rfl
  rw [A42 h]
  exact ⟨0,_,[],by rw [Aa.Part.ev,U7,e,ec]; rfl,Ye⟩
theorem Um (r c:Int) (l:List Int) (p q:Int) (m:List Int):((Zs r c l p q m) !=(0:Int))=!(A0 r c l&&A0 p q m):=by
 unfold Zs
 cases A0 r c l&&A0 p q m<;>rfl
theorem Aqe {r c:Int} {l:List Int} {p q:Int} {m:List Int} (h:(A0 r c l&&A0 p q m)=false):Zs r c l p q m=1:=by
 unfold Zs; rw [h]; rfl
theorem Aa.Mul.known:Aa.Mul.Kn:=Aa.Mul.Ad (.cons Aa.of.Mul.known (.cons Aa.two.known .nil)) fun r c l p q m hp=>by
 show ∃ N dv drops,_=some dv∧Wk drops dv (Ahn (O7 r c l p q m))
 unfold O7
 have hp:(Al l&&Al m)=true:=hp
 by_cases h:(A0 r c l&&A0 p q m)=true
 ·obtain ⟨h1,h2⟩:=Ac.1 h
  by_cases hc:c=p
  ·have e:(c !=p)=false:=by rw [hc]; simp
   rw [A43 h,A43 hc]
   exact ⟨0,_,[],by rw [Aa.Mul.ev,Um,h,e,(Pj h1).1,(Pj h2).2,hp,A4h ⟨rfl,rfl,hc⟩]; rfl,Zr⟩
  ·have e:(c !=p)=true:=by simpa using hc
   rw [A43 h,A42 hc]
   exact ⟨0,_,[],by rw [Aa.Mul.ev,Um,h,e]; rfl,Ye⟩
 ·have e:(A0 r c l&&A0 p q m)=false:=by simpa using h
  rw [A42 h]
  exact ⟨0,_,[],by rw [Aa.Mul.ev,Um,e,Aqe e]; rfl,Ye⟩
theorem Aa.Stack.known:Aa.Stack.Kn:=Aa.Stack.Ad (.cons Aa.of.Stack.known (.cons Aa.two.known .nil)) fun r c l p q m _=>by
 show ∃ N dv drops,_=some dv∧Wk drops dv (Ahn (L4 r c l p q m))
 unfold L4
 by_cases h:(A0 r c l&&A0 p q m)=true
 ·obtain ⟨h1,h2⟩:=Ac.1 h
  obtain ⟨r1,c1,_⟩:=Hx.1 h1
  obtain ⟨p1,q1,_⟩:=Hx.1 h2
  have ew:Ab (r+p)=r+p:=An (by omega) (by omega)
  by_cases hc:c=q∧r+p≤6
  ·have e:((c !=q)||(Bb (6:Int) (r+p)))=false:=by rw [Av,hc.1]; simp; omega
   rw [A43 h,A43 hc]
   exact ⟨0,_,[],by rw [Aa.Stack.ev,ew,Um,h,e,(Pj h1).2,Jp.2 (show 0≤r+p∧r+p≤6 by omega),A4h ⟨rfl,rfl,hc.1.symm⟩]; rfl,Zr⟩
  ·have e:((c !=q)||(Bb (6:Int) (r+p)))=true:=by rw [Av]; simp; omega
   rw [A43 h,A42 hc]
   exact ⟨0,_,[],by rw [Aa.Stack.ev,ew,Um,h,e]; rfl,Ye⟩
 ·have e:(A0 r c l&&A0 p q m)=false:=by simpa using h
  rw [A42 h]
  exact ⟨0,_,[],by rw [Aa.Stack.ev,Um,e,Aqe e]; rfl,Ye⟩
end Go.Proofs.S1
end
