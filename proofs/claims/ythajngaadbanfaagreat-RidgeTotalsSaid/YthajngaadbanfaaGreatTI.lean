/- A verified evaluator of the program's form and its use for this seat: S1EqBits6, S1EqTimes, S1PTimes, S1EqRefD, S1PRefD, S1PTimesA, S1EqVec, S1PVec, S1EqMat, S1PMat, S1EqOf, S1POf. -/
import Derived.Test.YthajngaadbanfaaGreatTE
import Derived.Test.YthajngaadbanfaaGreatTF
import Derived.Test.YthajngaadbanfaaGreatTH
import Derived.Test.YthajngaadbanfaaGreatTG
set_option linter.unusedVariables false
set_option linter.unusedSimpArgs false
noncomputable section
open Int (toNat)
open List (length getD)
open Go.Proofs.Tryz
namespace Go.Proofs.S1
open Go Go.Den Go.Rnd Go.Proofs
set_option maxRecDepth 100000
namespace EqBits6
def De.B9.Ba:List (Nat × Entry):=[(167,De.Lw.spec)]
def De.B9.E:Env:=Bg (Bb De.B9.Ba) (fun _=>false) (fun _=>none) (fun _=>none)
theorem De.B9.ev (N:Nat) (x:Int):B0 De.B9.E N f210 (Ak f210) [.int .u64 x]=bif (Af x) then some (.int .i64 (Ab ((64:Int)-(F2 x)))) else none:=by kernel_rfl
abbrev _root_.Go.Proofs.S1.De.B9.Kn:=A8 prog 210 De.B9.spec
theorem De.B9.Ad (hk:A1 prog De.B9.Ba) (h:Hyp De.B9.E f210 De.B9.ts De.B9.pre De.B9.out):De.B9.Kn :=
 Al (A4 hk _ _ _) func210 (by kernel_rfl) (by kernel_rfl) h
def De.Ir.Ba:List (Nat × Entry):=[]
def De.Ir.E:Env:=Bg (Bb De.Ir.Ba) (fun _=>false) (fun _=>none) (fun _=>none)
theorem De.Ir.ev (N:Nat) (x y:Int):B0 De.Ir.E N f209 (Ak f209) [.int .u64 x,.int .u64 y]=some (.tup [.int .u64 (Bs ((Bs ((Bs ((Ed .u64 x 32)*(Ed .u64 y 32)))+(Ed .u64 (Bs ((Bs ((Ed .u64 x 32)*(Fy .u64 y 4294967295)))+(Ed .u64 (Bs ((Fy .u64 x 4294967295)*(Fy .u64 y 4294967295))) 32))) 32)))+(Ed .u64 (Bs ((Fy .u64 (Bs ((Bs ((Ed .u64 x 32)*(Fy .u64 y 4294967295)))+(Ed .u64 (Bs ((Fy .u64 x 4294967295)*(Fy .u64 y 4294967295))) 32))) 4294967295)+(Bs ((Fy .u64 x 4294967295)*(Ed .u64 y 32))))) 32))),.int .u64 (Bs (x*y))]):=by kernel_rfl
abbrev _root_.Go.Proofs.S1.De.Ir.Kn:=A8 prog 209 De.Ir.spec
theorem De.Ir.Ad (hk:A1 prog De.Ir.Ba) (h:Hyp De.Ir.E f209 De.Ir.ts De.Ir.pre De.Ir.out):De.Ir.Kn :=
 Al (A4 hk _ _ _) func209 (by kernel_rfl) (by kernel_rfl) h
abbrev _root_.Go.Proofs.S1.De.Lw.Kn:Prop:=A8 prog 167 De.Lw.spec
theorem _root_.Go.Proofs.S1.De.Lw.call:∀ (args:Array Value) (w:World),(callFunc 167 args).run prog w=.ok (.enter 167 args) w:=Mi func167 (by kernel_rfl) (show f167.body=some (Ak f167) by kernel_rfl)
theorem _root_.Go.Proofs.S1.De.Lw.run (x:Int) (w:World) (h0:0≤x) (h1:x≤18446744073709551615):Calls prog 167 #[.int .u64 x] w fun e w'=>e=.returned (.int .i64 (Lib.bitLen x.toNat))∧w'=w:=Tryz.Alb x w h0 h1
end EqBits6
namespace EqTimes
def times.signed.Ba:List (Nat × Entry):=[(81,soft.Dn.spec)]
def times.signed.E:Env:=Bg (Bb times.signed.Ba) (fun _=>false) (fun _=>none) (fun _=>none)
theorem times.signed.ev (N:Nat) (b:Int) (n:Bool):B0 times.signed.E N f183 (Ak f183) [.int .u64 b,.bool n]=bif n then bif (Af b) then some (.int .u64 (Da b)) else none else some (.int .u64 b):=by kernel_rfl
abbrev _root_.Go.Proofs.S1.times.signed.Kn:=A8 prog 183 times.signed.spec
theorem times.signed.Ad (hk:A1 prog times.signed.Ba) (h:Hyp times.signed.E f183 times.signed.ts times.signed.pre times.signed.out):times.signed.Kn :=
 Al (A4 hk _ _ _) func183 (by kernel_rfl) (by kernel_rfl) h
def times.nan.Ba:List (Nat × Entry):=[(165,soft.Kind.spec)]
def times.nan.E:Env:=Bg (Bb times.nan.Ba) (fun _=>false) (fun _=>none) (fun _=>none)
theorem times.nan.ev (N:Nat) (a b:Int):B0 times.nan.E N f182 (Ak f182) [.int .u64 a,.int .u64 b]=bif (Af a) then bif ((Bz a)==(4:Int)) then some (.bool true) else bif (Af b) then bif ((Bz b)==(4:Int)) then some (.bool true) else some (.bool false) else none else none:=by kernel_rfl
abbrev _root_.Go.Proofs.S1.times.nan.Kn:=A8 prog 182 times.nan.spec
theorem times.nan.Ad (hk:A1 prog times.nan.Ba) (h:Hyp times.nan.E f182 times.nan.ts times.nan.pre times.nan.out):times.nan.Kn :=
 Al (A4 hk _ _ _) func182 (by kernel_rfl) (by kernel_rfl) h
def times.norm.Ba:List (Nat × Entry):=[(210,De.B9.spec),(166,soft.Gy.spec)]
def times.norm.E:Env:=Bg (Bb times.norm.Ba) (fun _=>false) (fun _=>none) (fun _=>none)
theorem times.norm.ev (N:Nat) (b:Int):B0 times.norm.E N f184 (Ak f184) [.int .u64 b]=bif (Af b) then bif (Af (B7 b)) then bif (decide (0≤(Ab ((64-F2 (B7 b))-11)))) then some (.tup [.int .u64 (Cg .u64 (B7 b) (Ab ((64-F2 (B7 b))-11))),.int .i64 (Ab ((Bo b)-(Ab ((64-F2 (B7 b))-11))))]) else none else none else none:=by kernel_rfl
abbrev _root_.Go.Proofs.S1.times.norm.Kn:=A8 prog 184 times.norm.spec
theorem times.norm.Ad (hk:A1 prog times.norm.Ba) (h:Hyp times.norm.E f184 times.norm.ts times.norm.pre times.norm.out):times.norm.Kn :=
 Al (A4 hk _ _ _) func184 (by kernel_rfl) (by kernel_rfl) h
def times.wide.hint:Nat→Option Bc
 | 0=>some { keep:=[0,1,2,3],objs:=[],boxes:=[] }
 | _=>none
def times.wide.Ba:List (Nat × Entry):=[(180,soft.D5.spec)]
def times.wide.E:Env:=Bg (Bb times.wide.Ba) (fun _=>false) times.wide.hint (fun _=>none)
section
variable (N M:Nat) (n:Bool) (m e:Int) (r:Bool) (p1 p2:Int) (p3:Bool)
def times.wide.L0:Option DV:=Cb times.wide.E N f185 (Ak f185) [1,0,0] [] M ⟨Fo 39 [(0,.bool n),(1,.int .u64 p1),(2,.int .i64 p2),(3,.bool p3)],[]⟩
theorem times.wide.Au:times.wide.L0 N (M+1) n p1 p2 p3=bif ((Bi p2 (-1130:Int))&&(Bi 1 p1)) then times.wide.L0 N M n (Ed .u64 p1 1) (Ab (p2+1)) (bif p3 then true else ((Fy .u64 p1 1)==(1:Int))) else bif (Bi p2 (-1130:Int)) then bif (Fe 0 (-1074:Int) true) then some (.tup [.int .u64 (F1 n 0 (-1074:Int) true),.int .u8 (F0 n 0 (-1074:Int) true)]) else none else bif (Fe p1 p2 p3) then some (.tup [.int .u64 (F1 n p1 p2 p3),.int .u8 (F0 n p1 p2 p3)]) else none :=
 Eq.trans (by kernel_rfl)
 (Ay (R5 (Bi p2 (-1130:Int))) (Ay (Oo (Bi p2 (-1130:Int))) (Ay (W8 (Bi p2 (-1130:Int))) (Cw (tt1 _ _) (Ay (T3 p3) (Ay (Rv p3) (Ay (Rv p3) (Ay (Y5 p3) rfl)))) rfl))))
theorem times.wide.ev:B0 times.wide.E N f185 (Ak f185) [.bool n,.int .u64 m,.int .i64 e,.bool r] =
 times.wide.L0 N N n m e r:=by kernel_rfl
end
abbrev _root_.Go.Proofs.S1.times.wide.Kn:=A8 prog 185 times.wide.spec
theorem times.wide.Ad (hk:A1 prog times.wide.Ba) (h:Hyp times.wide.E f185 times.wide.ts times.wide.pre times.wide.out):times.wide.Kn :=
 Al (A4 hk _ _ _) func185 (by kernel_rfl) (by kernel_rfl) h
def times.Mul.Ba:List (Nat × Entry):=[(209,De.Ir.spec),(165,soft.Kind.spec),(181,soft.Sign.spec),(182,times.nan.spec),(184,times.norm.spec),(183,times.signed.spec),(185,times.wide.spec)]
def times.Mul.E:Env:=Bg (Bb times.Mul.Ba) (fun _=>false) (fun _=>none) (fun _=>none)
theorem times.Mul.ev (N:Nat) (a b:Int):B0 times.Mul.E N f175 (Ak f175) [.int .u64 a,.int .u64 b]=bif (Af a) then bif (Af b) then bif (Af a) then bif (Af b) then bif (Af a&&Af b) then bif (Ash a b) then some (.tup [.int .u64 9221120237041090560,.int .u8 0]) else bif ((((Bz a)==(3:Int))&&((Bz b)==(0:Int)))||(((Bz a)==(0:Int))&&((Bz b)==(3:Int)))) then some (.tup [.int .u64 9221120237041090560,.int .u8 16]) else bif (((Bz a)==(3:Int))||((Bz b)==(3:Int))) then bif (Af 9218868437227405312) then some (.tup [.int .u64 (T8 (!((Eb a)==(Eb b))) 9218868437227405312),.int .u8 0]) else none else bif (((Bz a)==(0:Int))||((Bz b)==(0:Int))) then bif (Af 0) then some (.tup [.int .u64 (T8 (!((Eb a)==(Eb b))) 0),.int .u8 0]) else none else bif (Af a&&N2 a) then bif (Af b&&N2 b) then bif (Af (Du a)&&Af (Du b)) then bif (Q0 (Jl .u64 (Cg .u64 (Ub (Du a) (Du b)) 20) (Ed .u64 (Pn (Du a) (Du b)) 44)) (Ab ((Ab ((I2 a)+(I2 b)))+44))) then some (.tup [.int .u64 (F1 (!((Eb a)==(Eb b))) (Jl .u64 (Cg .u64 (Ub (Du a) (Du b)) 20) (Ed .u64 (Pn (Du a) (Du b)) 44)) (Ab ((Ab ((I2 a)+(I2 b)))+44)) ((Cg .u64 (Pn (Du a) (Du b)) 20) !=(0:Int))),.int .u8 (F0 (!((Eb a)==(Eb b))) (Jl .u64 (Cg .u64 (Ub (Du a) (Du b)) 20) (Ed .u64 (Pn (Du a) (Du b)) 44)) (Ab ((Ab ((I2 a)+(I2 b)))+44)) ((Cg .u64 (Pn (Du a) (Du b)) 20) !=(0:Int)))]) else none else none else none else none else none else none else none else none else none :=
 Eq.trans (by kernel_rfl)
 (E1 (E1 (E1 (E1 (E1 (E1 rfl (Ay (R5 ((Bz a)==(3:Int))) (Ay (Oo ((Bz a)==(3:Int))) (Ay (W8 ((Bz a)==(3:Int))) (Ay (A1d ((Bz a)==(3:Int)) ((Bz b)==(0:Int))) (Ay (Au9 ((Bz a)==(3:Int)) ((Bz b)==(0:Int))) (Ay (Au9 ((Bz a)==(3:Int)) ((Bz b)==(0:Int))) (Ay (A1e ((Bz a)==(3:Int)) ((Bz b)==(0:Int)) ((Bz a)==(0:Int))) (Ay (A1f ((Bz a)==(3:Int)) ((Bz b)==(0:Int)) ((Bz a)==(0:Int))) (Ay (A1g ((Bz a)==(3:Int)) ((Bz b)==(0:Int)) ((Bz a)==(0:Int))) (Ay (A1h ((Bz a)==(3:Int)) ((Bz b)==(0:Int))) (Cw (A1i _ _ _ _) rfl (Ay (T3 ((Bz a)==(3:Int))) (Ay (Rv ((Bz a)==(3:Int))) (Ay (Y5 ((Bz a)==(3:Int))) (Cw (tt5 _ _) rfl (Ay (T3 ((Bz a)==(0:Int))) (Ay (Rv ((Bz a)==(0:Int))) (Ay (Y5 ((Bz a)==(0:Int))) (Cw (tt5 _ _) rfl rfl)))))))))))))))))))) rfl) rfl) rfl) rfl) rfl)
abbrev _root_.Go.Proofs.S1.times.Mul.Kn:=A8 prog 175 times.Mul.spec
theorem times.Mul.Ad (hk:A1 prog times.Mul.Ba) (h:Hyp times.Mul.E f175 times.Mul.ts times.Mul.pre times.Mul.out):times.Mul.Kn :=
 Al (A4 hk _ _ _) func175 (by kernel_rfl) (by kernel_rfl) h
def times.Div.hint:Nat→Option Bc
 | 1=>some { keep:=[6,10,11,12,13,14,78],objs:=[],boxes:=[] }
 | _=>none
def times.Div.Ba:List (Nat × Entry):=[(165,soft.Kind.spec),(181,soft.Sign.spec),(182,times.nan.spec),(184,times.norm.spec),(183,times.signed.spec),(185,times.wide.spec)]
def times.Div.E:Env:=Bg (Bb times.Div.Ba) (fun _=>false) times.Div.hint (fun _=>none)
section
variable (N M:Nat) (a b p13 p14 p78:Int)
def times.Div.L0:Option DV:=Cb times.Div.E N f144 (Ak f144) [1,1,1,1,1,1,1,0,1,0] [] M ⟨Fo 104 [(6,.bool (!((Eb a)==(Eb b)))),(10,.int .i64 (I2 a)),(11,.int .u64 (Du b)),(12,.int .i64 (I2 b)),(13,.int .u64 p13),(14,.int .u64 p14),(78,.int .i64 p78)],[]⟩
theorem times.Div.Au:times.Div.L0 N (M+1) a b p13 p14 p78=bif (Bi p78 61) then bif (Ex (Du b) (Cg .u64 p14 1)) then times.Div.L0 N M a b (Jl .u64 (Cg .u64 p13 1) 1) (Bs ((Cg .u64 p14 1)-(Du b))) (Ab (p78+1)) else times.Div.L0 N M a b (Cg .u64 p13 1) (Cg .u64 p14 1) (Ab (p78+1)) else bif (Q0 p13 (Ab ((Ab ((I2 a)-(I2 b)))-61))) then some (.tup [.int .u64 (F1 (!((Eb a)==(Eb b))) p13 (Ab ((Ab ((I2 a)-(I2 b)))-61)) (p14 !=(0:Int))),.int .u8 (F0 (!((Eb a)==(Eb b))) p13 (Ab ((Ab ((I2 a)-(I2 b)))-61)) (p14 !=(0:Int)))]) else none:=by kernel_rfl
theorem times.Div.ev:B0 times.Div.E N f144 (Ak f144) [.int .u64 a,.int .u64 b]=bif (Af a) then bif (Af b) then bif (Af a) then bif (Af b) then bif (Af a&&Af b) then bif (Ash a b) then some (.tup [.int .u64 9221120237041090560,.int .u8 0]) else bif ((((Bz a)==(3:Int))&&((Bz b)==(3:Int)))||(((Bz a)==(0:Int))&&((Bz b)==(0:Int)))) then some (.tup [.int .u64 9221120237041090560,.int .u8 16]) else bif ((Bz a)==(3:Int)) then bif (Af 9218868437227405312) then some (.tup [.int .u64 (T8 (!((Eb a)==(Eb b))) 9218868437227405312),.int .u8 0]) else none else bif (((Bz b)==(3:Int))||((Bz a)==(0:Int))) then bif (Af 0) then some (.tup [.int .u64 (T8 (!((Eb a)==(Eb b))) 0),.int .u8 0]) else none else bif ((Bz b)==(0:Int)) then bif (Af 9218868437227405312) then some (.tup [.int .u64 (T8 (!((Eb a)==(Eb b))) 9218868437227405312),.int .u8 8]) else none else bif (Af a&&N2 a) then bif (Af b&&N2 b) then bif ((Du b) !=0) then bif ((Du b) !=0) then times.Div.L0 N N a b (Bs (Int.tdiv (Du a) (Du b))) (Int.tmod (Du a) (Du b)) (0:Int) else none else none else none else none else none else none else none else none else none :=
 Eq.trans (by kernel_rfl)
 (E1 (E1 (E1 (E1 (E1 (E1 rfl (Ay (R5 ((Bz a)==(3:Int))) (Ay (Oo ((Bz a)==(3:Int))) (Ay (W8 ((Bz a)==(3:Int))) (Ay (A1d ((Bz a)==(3:Int)) ((Bz b)==(3:Int))) (Ay (Au9 ((Bz a)==(3:Int)) ((Bz b)==(3:Int))) (Ay (Au9 ((Bz a)==(3:Int)) ((Bz b)==(3:Int))) (Ay (A1e ((Bz a)==(3:Int)) ((Bz b)==(3:Int)) ((Bz a)==(0:Int))) (Ay (A1f ((Bz a)==(3:Int)) ((Bz b)==(3:Int)) ((Bz a)==(0:Int))) (Ay (A1g ((Bz a)==(3:Int)) ((Bz b)==(3:Int)) ((Bz a)==(0:Int))) (Ay (A1h ((Bz a)==(3:Int)) ((Bz b)==(3:Int))) (Cw (A1i _ _ _ _) rfl (E1 rfl (Ay (T3 ((Bz b)==(3:Int))) (Ay (Rv ((Bz b)==(3:Int))) (Ay (Y5 ((Bz b)==(3:Int))) (Cw (tt5 _ _) rfl (E1 rfl (E1 (E1 (Cw (Ct _) (Cw (Ct _) rfl rfl) rfl) rfl) rfl))))))))))))))))))) rfl) rfl) rfl) rfl) rfl)
end
abbrev _root_.Go.Proofs.S1.times.Div.Kn:=A8 prog 144 times.Div.spec
theorem times.Div.Ad (hk:A1 prog times.Div.Ba) (h:Hyp times.Div.E f144 times.Div.ts times.Div.pre times.Div.out):times.Div.Kn :=
 Al (A4 hk _ _ _) func144 (by kernel_rfl) (by kernel_rfl) h
end EqTimes
open EqBits6 EqTimes
theorem Ai0 {n:Nat} (h0:n≠0) (h:n<2^64):Go.Lib.bitLen n=n.log2+1:=by
 have h1:=Nat.log2_self_le h0
 have h2:=Nat.lt_log2_self (n:=n)
 have hp:=Co n.log2
 have e:n / 2^n.log2=1:=by
  rw [Nat.pow_succ] at h2
  exact Nat.div_eq_of_lt_le (by omega) (by omega)
 have e1:Go.Lib.bitLen 1=1:=by decide
 rw [Go.Lib.bitLen_shift n.log2 n h1 h,e,e1]
theorem De.Lw.known:De.Lw.Kn:=by
 refine ⟨?_,De.Lw.call⟩
 intro args ha
 simp only [De.Lw.spec,entry] at ha ⊢
 cases hd:Mg [.i .u64] args with
 | none=>rw [hd] at ha; cases ha
 | some ats =>
   rw [hd] at ha
   simp only at ha ⊢
   obtain ⟨ds,h1,h2⟩:=Mq hd
   obtain ⟨x,_,_,rfl,rfl,he⟩:=h1.Ads
   obtain ⟨rfl,rfl⟩:=he.Kt
   obtain ⟨n,rfl,hn⟩:=By (x:=x) ha
   refine Qa.args ?_ h2
   intro w vals I hI hv
   obtain ⟨u,us,e1,e2,e3⟩:=hv
   simp only [As] at e2
   have e3:us=[]:=e3
   subst e2 e3
   have e4:vals=#[.int .u64 (n:Int)]:=Array.ext' e1
   subst e4
   refine (De.Lw.run n w (by omega) (by omega)).mono ?_
   rintro e w' ⟨rfl,rfl⟩
   refine ⟨_,fun _=>none,rfl,Go.RowKit.Below.refl _ _,⟨fun i b h=>(by cases h),fun i j b h=>(by cases h)⟩,?_⟩
   show As _ _ (DV.int .i64 (F2 n)) _
   simp only [As]
   congr 1
   unfold F2
   rw [A4s]
   by_cases h0:n=0
   ·subst h0; rfl
   ·rw [Ai0 h0 hn,A5c (by omega)]; rfl
theorem Asy {n:Nat} (hn:n<2^64):0≤F2 n∧F2 n≤64:=by
 unfold F2
 rw [A4s]
 by_cases h0:n=0
 ·subst h0; decide
 ·have:=(A56 h0).2 hn
  rw [A5c (by omega)]; omega
theorem De.B9.known:De.B9.Kn:=De.B9.Ad (.cons De.Lw.known .nil) fun x hp=>by
 obtain ⟨n,rfl,hn⟩:=By (x:=x) hp
 have:=Asy hn
 refine ⟨0,De.B9.out [.i n],[],?_,.int⟩
 rw [De.B9.ev,Cm hn,A4q,An (by omega) (by omega)]
 rfl
theorem K9 {a b:Nat} (ha:a<4294967296) (hb:b<4294967296):a*b≤18446744065119617025 :=
 A5x (A5m (show a≤4294967295 by omega) (show b≤4294967295 by omega)) (by decide)
theorem Asl (x y:Nat) (hx:x<2^64) (hy:y<2^64) :
 x*y / 18446744073709551616=(x / 2^32)*(y / 2^32)+((x / 2^32)*(y%2^32)+(x%2^32)*(y%2^32) / 2^32) / 2^32 +
  (((x / 2^32)*(y%2^32)+(x%2^32)*(y%2^32) / 2^32)%2^32+(x%2^32)*(y / 2^32)) / 2^32:=by
 have ex:x=x / 2^32*4294967296+x%2^32:=by omega
 have ey:y=y / 2^32*4294967296+y%2^32:=by omega
 have ha:x / 2^32<4294967296:=by omega
 have hc:y / 2^32<4294967296:=by omega
 have hb:x%2^32<4294967296:=by omega
 have hd:y%2^32<4294967296:=by omega
 generalize x / 2^32=a at *
 generalize x%2^32=b at *
 generalize y / 2^32=c at *
 generalize y%2^32=d at *
 have e:x*y=a*c*18446744073709551616+(a*d+b*c)*4294967296+b*d:=by
  rw [ex,ey,A5u,Nat.mul_add,Nat.mul_add]
  have e1:a*4294967296*(c*4294967296)=a*c*18446744073709551616:=by
   rw [Nat.mul_mul_mul_comm]
  have e2:a*4294967296*d=a*d*4294967296:=Nat.mul_right_comm _ _ _
  have e3:b*(c*4294967296)=b*c*4294967296:=(A5h _ _ _).symm
  rw [e1,e2,e3]
  omega
 have b1:=K9 ha hc
 have b2:=K9 ha hd
 have b3:=K9 hb hc
 have b4:=K9 hb hd
 rw [e]
 clear e ex ey
 generalize a*c=p at *
 generalize a*d=q at *
 generalize b*c=r at *
 generalize b*d=s at *
 omega
theorem De.Ir.known:De.Ir.Kn:=De.Ir.Ad .nil fun x y hp=>by
 obtain ⟨h1,h2⟩:=Ac.1 hp
 obtain ⟨x,rfl,hx⟩:=By h1
 obtain ⟨y,rfl,hy⟩:=By h2
 refine ⟨0,De.Ir.out [.i x,.i y],[],?_,Wk.Hs (.cons .int (.cons .int .nil))⟩
 show _=some (DV.tup [.int .u64 (Ub x y),.int .u64 (Pn x y)])
 have s32:∀ n:Nat,Ed .u64 (n:Int) (32:Int)=((n / 2^32:Nat):Int):=fun n=>Je .u64 n 32 (by decide)
 have m32:∀ n:Nat,n<2^64→Fy .u64 (n:Int) (4294967295:Int)=((n%2^32:Nat):Int):=fun n hn=>J9 32 hn (by decide)
 have ha:x / 2^32<4294967296:=by omega
 have hc:y / 2^32<4294967296:=by omega
 have hb:x%2^32<4294967296:=by omega
 have hd:y%2^32<4294967296:=by omega
 have b1:=K9 ha hc
 have b2:=K9 ha hd
 have b3:=K9 hb hc
 have b4:=K9 hb hd
 have hhi:=Asl x y hx hy
 have wn:∀ n:Nat,n<2^64→Bs (n:Int)=n:=fun n hn=>Ef (by omega) (by omega)
 have hlt:x*y / 18446744073709551616<2^64:=by
  rw [Nat.div_lt_iff_lt_mul (by decide)]
  have:=A5m (show x≤18446744073709551615 by omega) (show y≤18446744073709551615 by omega)
  omega
 rw [De.Ir.ev]
 simp only [s32,m32 x hx,m32 y hy]
 generalize hA:x / 2^32=a at *
 generalize hB:x%2^32=b at *
 generalize hC:y / 2^32=c at *
 generalize hD:y%2^32=d at *
 simp only [← A5b]
 rw [wn (a*c) (by omega),wn (a*d) (by omega),wn (b*c) (by omega),wn (b*d) (by omega),s32]
 simp only [← Int.natCast_add]
 rw [wn (a*d+b*d / 2^32) (by omega),s32,m32 _ (by omega)]
 simp only [← Int.natCast_add]
 rw [wn (a*c+(a*d+b*d / 2^32) / 2^32) (by omega),wn _ (by omega),s32]
 simp only [← Int.natCast_add]
 rw [← hhi,wn _ hlt]
 unfold Ub Pn
 rw [A4s,A4s,Qb]
 congr 3
theorem times.signed.known:times.signed.Kn:=times.signed.Ad (.cons soft.Dn.known .nil) fun b n hp=>by
 have hp:Af b=true:=hp
 refine ⟨0,times.signed.out [.i b,.b n],[],?_,.int⟩
 rw [times.signed.ev,hp]
 cases n<;>rfl
theorem times.nan.known:times.nan.Kn:=times.nan.Ad (.cons soft.Kind.known .nil) fun a b hp=>by
 obtain ⟨ha,hb⟩:=Ac.1 hp
 refine ⟨0,times.nan.out [.i a,.i b],[],?_,.bool⟩
 rw [times.nan.ev,ha,hb,A4q,A4q]
 show _=some (DV.bool (decide (Bz a=4)||decide (Bz b=4)))
 by_cases h1:Bz a=4
 ·rw [h1]; rfl
 ·have e1:(Bz a==(4:Int))=false:=by simp; exact h1
  rw [e1,A4v h1,A4u]
  by_cases h2:Bz b=4
  ·rw [h2]; rfl
  ·have e2:(Bz b==(4:Int))=false:=by simp; exact h2
   rw [e2,A4v h2]; rfl
theorem Qn {n:Nat} (h:Ax n≠0):(Ax n).log2≤52∧2^52≤Ax n*2^Cp n∧Ax n*2^Cp n<2^53∧Cp n≤52:=by
 have h1:=Gc n
 have h2:(Ax n).log2<53:=(A56 h).2 (by omega)
 have hz:=Nd (Ax n) (Cp n) h
 have hne:Ax n*2^Cp n≠0:=Jw h
 have hl:(Ax n*2^Cp n).log2=52:=by rw [hz]; unfold Cp; omega
 refine ⟨by omega,?_,?_,by unfold Cp; omega⟩
 ·rw [← Nat.le_log2 hne]; omega
 ·rw [← A56 hne]; omega
theorem times.norm.known:times.norm.Kn:=times.norm.Ad (.cons De.B9.known (.cons soft.Gy.known .nil)) fun b hp=>by
 obtain ⟨h1,h2⟩:=Ac.1 hp
 obtain ⟨n,rfl,hn⟩:=By h1
 have h2:Ax n≠0:=Aq.1 h2
 obtain ⟨l1,l2,l3,l4⟩:=Qn h2
 have hM:=Gc n
 have hE:=Dt n
 refine ⟨0,times.norm.out [.i n],[],?_,Wk.Hs (.cons .int (.cons .int .nil))⟩
 show _=some (DV.tup [.int .u64 (Du n),.int .i64 (I2 n)])
 have e1:B7 (n:Int)=(Ax n:Int):=rfl
 have e2:Bo (n:Int)=A2 n:=rfl
 have e3:F2 (Ax n:Int)=((Ax n).log2:Int)+1:=by
  unfold F2
  rw [A5c (by omega),A4s]
 have e4:Ab ((64-(((Ax n).log2:Int)+1))-(11:Int))=((Cp n:Nat):Int):=by
  rw [An (by omega) (by omega)]; unfold Cp; omega
 rw [times.norm.ev,Cm hn,e1,e2,Cm (n:=Ax n) (by omega),e3,e4,Gw _ _ (by omega),A43 (by omega),An (by omega) (by omega),A4r (by omega)]
 rfl
theorem Anm {V t:Nat} {E:Int} (h0:V≠0) (h:V<2^t) (hE:E+t≤-1075):Cl V E=0∧flagsOf V E=3:=by
 have hl:V.log2<t:=(A56 h0).2 h
 have hL:Cy V E=-1074:=by unfold Cy; omega
 obtain ⟨k,hk⟩:∃ k:Nat,(-1074-E).toNat=t+1+k:=⟨(-1074-E).toNat-t-1,by omega⟩
 have hp:2^(t+1)≤2^(t+1+k):=A45 (by decide) (by omega)
 have ht:2^(t+1)=2*2^t:=by rw [Nat.pow_succ]; omega
 have e2:(-(-1074-E)).toNat=0:=by omega
 have hr:Ln V (-1074-E)=0:=by
  unfold Ln Ov
  rw [e2,hk,A5o,A5z,Nat.div_eq_of_lt (by omega),A43 (by omega),A5c (by omega)]
 have hru:Cl V E=0:=by
  unfold Cl kept
  rw [A5c h0,hL,hr]
  simp
 refine ⟨hru,?_⟩
 unfold flagsOf exact Om
 rw [A5c h0,hru,hL,e2,hk,A5o,A5z,A43 (by omega),A4v h0]
 decide
theorem Aov (n:Bool) {m:Nat} {e:Int} (r:Bool) (hm:1<m) (he:e < -1130):Ht n (m / 2) (e+1) (r||decide (m%2=1))=Ht n m e r:=by
 have e1:(4*m+r.toNat) / 2^3=m / 2:=by cases r<;>simp<;>omega
 have e2:(r||decide (m%2=1))=decide ((4*m+r.toNat)%2^3≠0):=by
  rw [A46]
  cases r
  ·simp; omega
  ·simp; omega
 have:=We n (V:=4*m+r.toNat) (k:=3) (E:=e-2) (e:=e+1) (s:=r||decide (m%2=1)) (by omega) e2 (by omega) (.inr (by omega))
 rw [e1] at this
 exact this
theorem Wd (n:Bool) {e:Int} (r:Bool) (he:e < -1130):Ht n 1 e r=Ht n 0 (-1074) true:=by
 have h1:r.toNat≤1:=by cases r<;>decide
 obtain ⟨a1,a2⟩:=Anm (V:=4*1+r.toNat) (t:=3) (E:=e-2) (by omega) (by omega) (by omega)
 obtain ⟨b1,b2⟩:=Anm (V:=4*0+true.toNat) (t:=1) (E:=-1074-2) (by decide) (by decide) (by decide)
 unfold Ht
 rw [a1,a2,b1,b2]
theorem Am6 (N:Nat) (n:Bool):∀ (k m:Nat) (e:Int) (r:Bool),1≤m→m<2^62→m≤2^k→-7000≤e→e≤6000→(2^60≤m∨e≤-1130) →
 times.wide.L0 N (k+1) n (m:Int) e r=some (.tup [.int .u64 (((Ht n m e r).1:Nat):Int),.int .u8 (((Ht n m e r).2:Nat):Int)]):=by
 intro k
 induction k with
 | zero =>
   intro m e r h1 h2 h3 h4 h5 h6
   have hm:m=1:=by simp at h3; omega
   subst hm
   rw [times.wide.Au,Av,Av]
   have c1:decide ((1:Int)<((1:Nat):Int))=false:=by decide
   rw [c1,Bool.and_false,A4u]
   by_cases he:e < -1130
   ·have hp:Fe (0:Int) (-1074:Int) true=true:=Aq.2 (by omega)
    rw [A4r he,A4q,hp,A4q,Wd n r he]
    rfl
   ·have he:e=-1130:=by omega
    subst he
    have hp:Fe ((1:Nat):Int) (-1130:Int) r=true:=Aq.2 (by omega)
    rw [A4v (by omega),A4u,hp,A4q]
    rfl
 | succ k ih =>
   intro m e r h1 h2 h3 h4 h5 h6
   rw [times.wide.Au,Av,Av]
   by_cases he:e < -1130
   ·by_cases hm:1<m
    ·have c1:decide ((1:Int)<(m:Int))=true:=A4r (by omega)
     have e1:Ed .u64 (m:Int) (1:Int)=((m / 2:Nat):Int):=Je .u64 m 1 (by decide)
     have e2:Fy .u64 (m:Int) (1:Int)=((m%2:Nat):Int):=J9 (a:=m) 1 (by omega) (by decide)
     have e3:(bif r then true else (Fy .u64 (m:Int) (1:Int))==(1:Int))=(r||decide (m%2=1)):=by
      rw [e2]
      cases r
      ·rw [A46]; simp; omega
      ·rfl
     rw [A4r he,c1,A4w,A4q,e1,e3,An (by omega) (by omega)]
     have hk:m / 2≤2^k:=by rw [Nat.pow_succ] at h3; omega
     rw [ih (m / 2) (e+1) _ (by omega) (by omega) hk (by omega) (by omega) (.inr (by omega)),Aov n r hm he]
    ·have hm:m=1:=by omega
     subst hm
     have c1:decide ((1:Int)<((1:Nat):Int))=false:=by decide
     have hp:Fe (0:Int) (-1074:Int) true=true:=Aq.2 (by omega)
     rw [c1,Bool.and_false,A4u,A4r he,A4q,hp,A4q,Wd n r he]
     rfl
   ·have hp:Fe (m:Int) e r=true:=Aq.2 ⟨by omega,by omega,by omega,.inl (by omega),fun _=>by omega⟩
    rw [A4v he,Bool.false_and,A4u,A4u,hp,A4q]
    rfl
theorem times.wide.known:times.wide.Kn:=times.wide.Ad (.cons soft.D5.known .nil) fun n m e r hp=>by
 obtain ⟨h1,h2,h3,h4⟩:=Aq.1 (show Q0 m e=true from hp)
 obtain ⟨m,rfl⟩:∃ k:Nat,m=k:=⟨m.toNat,by omega⟩
 refine ⟨63,times.wide.out [.b n,.i m,.i e,.b r],[],?_,Wk.Hs (.cons .int (.cons .int .nil))⟩
 rw [times.wide.ev,Am6 63 n 62 m e r (by omega) (by omega) (by omega) (by omega) (by omega) (.inl (by omega))]
 rfl
namespace EqRefD
def A6.Neg.Ba:List (Nat × Entry):=[]
def A6.Neg.E:Env:=Bg (Bb A6.Neg.Ba) (fun _=>false) (fun _=>none) (fun _=>none)
theorem A6.Neg.ev (N:Nat) (x:Int):B0 A6.Neg.E N f102 (Ak f102) [.int .u64 x]=some (.bool ((Bs (Int.tdiv x 9223372036854775808))==(1:Int))):=by kernel_rfl
abbrev _root_.Go.Proofs.S1.A6.Neg.Kn:=A8 prog 102 A6.Neg.spec
theorem A6.Neg.Ad (hk:A1 prog A6.Neg.Ba) (h:Hyp A6.Neg.E f102 A6.Neg.ts A6.Neg.pre A6.Neg.out):A6.Neg.Kn :=
 Al (A4 hk _ _ _) func102 (by kernel_rfl) (by kernel_rfl) h
def A6.Power.Ba:List (Nat × Entry):=[]
def A6.Power.E:Env:=Bg (Bb A6.Power.Ba) (fun _=>false) (fun _=>none) (fun _=>none)
theorem A6.Power.ev (N:Nat) (x:Int):B0 A6.Power.E N f101 (Ak f101) [.int .u64 x]=some (.int .i64 (Ab (Bs (Int.tdiv (Int.tmod x 9223372036854775808) 4503599627370496)))):=by kernel_rfl
abbrev _root_.Go.Proofs.S1.A6.Power.Kn:=A8 prog 101 A6.Power.spec
theorem A6.Power.Ad (hk:A1 prog A6.Power.Ba) (h:Hyp A6.Power.E f101 A6.Power.ts A6.Power.pre A6.Power.out):A6.Power.Kn :=
 Al (A4 hk _ _ _) func101 (by kernel_rfl) (by kernel_rfl) h
def A6.Lx.Ba:List (Nat × Entry):=[]
def A6.Lx.E:Env:=Bg (Bb A6.Lx.Ba) (fun _=>false) (fun _=>none) (fun _=>none)
theorem A6.Lx.ev (N:Nat) (x:Int):B0 A6.Lx.E N f100 (Ak f100) [.int .u64 x]=some (.int .u64 (Int.tmod x 4503599627370496)):=by kernel_rfl
abbrev _root_.Go.Proofs.S1.A6.Lx.Kn:=A8 prog 100 A6.Lx.spec
theorem A6.Lx.Ad (hk:A1 prog A6.Lx.Ba) (h:Hyp A6.Lx.E f100 A6.Lx.ts A6.Lx.pre A6.Lx.out):A6.Lx.Kn :=
 Al (A4 hk _ _ _) func100 (by kernel_rfl) (by kernel_rfl) h
def A6.Kind.Ba:List (Nat × Entry):=[(100,A6.Lx.spec),(101,A6.Power.spec)]
def A6.Kind.E:Env:=Bg (Bb A6.Kind.Ba) (fun _=>false) (fun _=>none) (fun _=>none)
theorem A6.Kind.ev (N:Nat) (x:Int):B0 A6.Kind.E N f58 (Ak f58) [.int .u64 x]=bif (Re x) then bif ((N0 x)==(2047:Int)) then bif (Re x) then bif ((Dq x)==(0:Int)) then some (.int .i64 3) else some (.int .i64 4) else none else bif (Re x) then bif (Bi 0 (N0 x)) then some (.int .i64 2) else bif (Re x) then bif (Bi 0 (Dq x)) then some (.int .i64 1) else some (.int .i64 0) else none else none else none:=by kernel_rfl
abbrev _root_.Go.Proofs.S1.A6.Kind.Kn:=A8 prog 58 A6.Kind.spec
theorem A6.Kind.Ad (hk:A1 prog A6.Kind.Ba) (h:Hyp A6.Kind.E f58 A6.Kind.ts A6.Kind.pre A6.Kind.out):A6.Kind.Kn :=
 Al (A4 hk _ _ _) func58 (by kernel_rfl) (by kernel_rfl) h
def A6.Finite.Ba:List (Nat × Entry):=[(101,A6.Power.spec)]
def A6.Finite.E:Env:=Bg (Bb A6.Finite.Ba) (fun _=>false) (fun _=>none) (fun _=>none)
theorem A6.Finite.ev (N:Nat) (x:Int):B0 A6.Finite.E N f114 (Ak f114) [.int .u64 x]=bif (Re x) then some (.bool (Bi (N0 x) 2047)) else none:=by kernel_rfl
abbrev _root_.Go.Proofs.S1.A6.Finite.Kn:=A8 prog 114 A6.Finite.spec
theorem A6.Finite.Ad (hk:A1 prog A6.Finite.Ba) (h:Hyp A6.Finite.E f114 A6.Finite.ts A6.Finite.pre A6.Finite.out):A6.Finite.Kn :=
 Al (A4 hk _ _ _) func114 (by kernel_rfl) (by kernel_rfl) h
def A6.Dn.Ba:List (Nat × Entry):=[(102,A6.Neg.spec)]
def A6.Dn.E:Env:=Bg (Bb A6.Dn.Ba) (fun _=>false) (fun _=>none) (fun _=>none)
theorem A6.Dn.ev (N:Nat) (x:Int):B0 A6.Dn.E N f86 (Ak f86) [.int .u64 x]=bif (Af x) then bif (Eb x) then some (.int .u64 (Bs (x-9223372036854775808))) else some (.int .u64 (Bs (x+9223372036854775808))) else none:=by kernel_rfl
abbrev _root_.Go.Proofs.S1.A6.Dn.Kn:=A8 prog 86 A6.Dn.spec
theorem A6.Dn.Ad (hk:A1 prog A6.Dn.Ba) (h:Hyp A6.Dn.E f86 A6.Dn.ts A6.Dn.pre A6.Dn.out):A6.Dn.Kn :=
 Al (A4 hk _ _ _) func86 (by kernel_rfl) (by kernel_rfl) h
def Fc.Canon.Ba:List (Nat × Entry):=[(58,A6.Kind.spec)]
def Fc.Canon.E:Env:=Bg (Bb Fc.Canon.Ba) (fun _=>false) (fun _=>none) (fun _=>none)
theorem Fc.Canon.ev (N:Nat) (x:Int):B0 Fc.Canon.E N f186 (Ak f186) [.int .u64 x]=bif (Re x) then bif ((Bz x)==(4:Int)) then some (.int .u64 9221120237041090560) else some (.int .u64 x) else none:=by kernel_rfl
abbrev _root_.Go.Proofs.S1.Fc.Canon.Kn:=A8 prog 186 Fc.Canon.spec
theorem Fc.Canon.Ad (hk:A1 prog Fc.Canon.Ba) (h:Hyp Fc.Canon.E f186 Fc.Canon.ts Fc.Canon.pre Fc.Canon.out):Fc.Canon.Kn :=
 Al (A4 hk _ _ _) func186 (by kernel_rfl) (by kernel_rfl) h
abbrev _root_.Go.Proofs.S1.Fc.Canon.nb.Kn:Prop:=A8 prog 186 Fc.Canon.nb.spec
end EqRefD
open EqRefD
theorem Lk (n m:Nat):Int.tdiv (n:Int) (m:Int)=((n / m:Nat):Int):=rfl
theorem Lj (n m:Nat):Int.tmod (n:Int) (m:Int)=((n%m:Nat):Int):=rfl
theorem Ax2:(9223372036854775808:Int)=((2^63:Nat):Int):=rfl
theorem Ax3:(4503599627370496:Int)=((2^52:Nat):Int):=rfl
theorem A6.Neg.known:A6.Neg.Kn:=A6.Neg.Ad .nil fun x hp=>by
 obtain ⟨n,rfl,hn⟩:=By (x:=x) hp
 refine ⟨0,A6.Neg.out [.i n],[],?_,.bool⟩
 rw [A6.Neg.ev,Ax2,Lk,Ef (by omega) (by omega)]
 show _=some (DV.bool (Eb n))
 unfold Eb Bx
 rw [A4s]
 congr 2
 rw [A46]
 simp only [beq_iff_eq,A4x]
 omega
theorem A6.Power.known:A6.Power.Kn:=A6.Power.Ad .nil fun x hp=>by
 obtain ⟨n,rfl⟩:=Wf (x:=x) hp
 refine ⟨0,A6.Power.out [.i n],[],?_,.int⟩
 rw [A6.Power.ev,Ax2,Ax3,Lj,Lk,Ef (by omega) (by omega),An (by omega) (by omega)]
 show _=some (DV.int .i64 (N0 n))
 unfold N0 D7
 rw [A4s]
 congr 2
 have:n%2^63 / 2^52=n / 2^52%2048:=by omega
 rw [this]
theorem A6.Lx.known:A6.Lx.Kn:=A6.Lx.Ad .nil fun x hp=>by
 obtain ⟨n,rfl⟩:=Wf (x:=x) hp
 refine ⟨0,A6.Lx.out [.i n],[],?_,.int⟩
 rw [A6.Lx.ev,Ax3,Lj]
 rfl
theorem A6.Kind.known:A6.Kind.Kn:=A6.Kind.Ad (.cons A6.Lx.known (.cons A6.Power.known .nil)) fun x hp=>by
 obtain ⟨n,rfl⟩:=Wf (x:=x) hp
 refine ⟨0,A6.Kind.out [.i n],[],?_,.int⟩
 rw [A6.Kind.ev,Na]
 show _=some (DV.int .i64 (Bz n))
 unfold Bz Ai N0 Dq
 simp only [A4s,A4q,Av]
 have:=J4 n
 by_cases h1:D7 n=2047
 ·by_cases h2:Dj n=0
  ·simp [h1,h2]
  ·have:((Dj n:Int)==0)=false:=by simp; exact h2
   simp [h1,this,h2]
 ·have h1':((D7 n:Int)==2047)=false:=by simp; omega
  rw [h1']
  by_cases h3:0<D7 n
  ·simp [h1,h3]
  ·by_cases h4:0<Dj n
   ·simp [h1,h3,h4]
   ·simp [h1,h3,h4]
theorem A6.Finite.known:A6.Finite.Kn:=A6.Finite.Ad (.cons A6.Power.known .nil) fun x hp=>by
 obtain ⟨n,rfl,hn⟩:=By (x:=x) hp
 refine ⟨0,A6.Finite.out [.i n],[],?_,.bool⟩
 rw [A6.Finite.ev,Na,A4q,Av]
 show _=some (DV.bool (Dw n))
 unfold Dw J1 N0
 rw [A4s]
 have:decide ((D7 n:Int)<2047)=decide (D7 n<2047):=decide_eq_decide.2 (by omega)
 rw [this]
theorem A6.Dn.known:A6.Dn.Kn:=A6.Dn.Ad (.cons A6.Neg.known .nil) fun x hp=>by
 obtain ⟨n,rfl,hn⟩:=By (x:=x) hp
 refine ⟨0,A6.Dn.out [.i n],[],?_,.int⟩
 rw [A6.Dn.ev,Cm hn,A4q]
 show _=some (DV.int .u64 (Da n))
 unfold Da I5 Eb Bx
 rw [A4s,Qb,Qb]
 by_cases h:2^63≤n
 ·have e:((n:Int)-9223372036854775808)%18446744073709551616=((n-2^63:Nat):Int):=by omega
  rw [A5d h,A4r h,A4q,e]
 ·have e:((n:Int)+9223372036854775808)%18446744073709551616=((n+2^63:Nat):Int):=by omega
  rw [A5c h,A4v h,A4u,e]
theorem Fc.Canon.known:Fc.Canon.Kn:=Fc.Canon.Ad (.cons A6.Kind.known .nil) fun x hp=>by
 obtain ⟨n,rfl⟩:=Wf (x:=x) hp
 refine ⟨0,Fc.Canon.out [.i n],[],?_,.int⟩
 rw [Fc.Canon.ev,Na,A4q]
 show _=some (DV.int .u64 (Abx n))
 unfold Abx Ep Bz
 rw [A4s]
 by_cases h:Ai n=4
 ·have:((Ai n:Int)==4)=true:=by simp; omega
  rw [this,A5d h]; rfl
 ·have:((Ai n:Int)==4)=false:=by simp; omega
  rw [this,A5c h]; rfl
theorem Apo {n m:Nat} (h:R4 n m):Ep n=Ep m:=by
 rcases h with rfl | ⟨h1,h2⟩
 ·rfl
 ·unfold G3 at h1 h2
  rw [Aat n] at h1
  rw [Aat m] at h2
  unfold Ep
  rw [A5d (A5g h1),A5d (A5g h2)]
theorem Av2 {c:Ctx} {w:World} {d:DV} {vs:List Value} (h:Bj c w [d] vs):∃ v,vs=[v]∧As c w d v:=by
 simp only [Bj] at h
 obtain ⟨u,us,rfl,hv,rfl⟩:=h
 exact ⟨u,rfl,hv⟩
theorem Fc.Canon.Asf:Fc.Canon.nb.Kn:=by
 refine ⟨fun args ha=>?_,Fc.Canon.known.call⟩
 unfold Fc.Canon.nb.spec entry at ha ⊢
 simp only at ha ⊢
 cases hd:Mg [.nb] args with
 | none=>rw [hd] at ha; cases ha
 | some bs =>
   rw [hd] at ha
   obtain ⟨ds,h1,h2⟩:=Mq hd
   obtain ⟨x,_,_,rfl,rfl,he⟩:=h1.Azh
   obtain ⟨rfl,rfl⟩:=he.Kt
   refine Qa.args (args:=[.nb x]) ?_ h2
   intro w vals I hI hl
   obtain ⟨v,hv,hr⟩:=Av2 hl
   simp only [As] at hr
   obtain ⟨m,rfl,hm⟩:=hr
   have e:Fc.Canon.nb.out [.f x]=Fc.Canon.spec.out [.int .u64 (m:Int)]:=by
    show DV.int .u64 (Hi x)=DV.int .u64 (Abx (m:Int))
    unfold Hi Abx
    rw [A4s,Apo hm]
   show Calls _ _ _ _ fun e' w'=>∃ v own,e'=.returned v∧Go.RowKit.Below w.heap.size w w'∧Am2 own w w'∧As (Eo I own w w') w' (Fc.Canon.nb.out [.f x]) v
   rw [e]
   exact Fc.Canon.known.meets [.int .u64 (m:Int)] (Na m) w vals I hI (by rw [hv]; exact ⟨_,_,rfl,rfl,rfl⟩)
open EqTimes
theorem Qi {b:Nat} (h0:Ai b≠0) (h3:Ai b≠3) (h4:Ai b≠4):Ax b≠0:=by
 have:=J4 b
 unfold Ai at h0 h3 h4
 unfold Ax
 by_cases h1:D7 b=2047
 ·rw [A5d h1] at h3 h4
  by_cases h2:Dj b=0
  ·rw [A5d h2] at h3; exact absurd rfl h3
  ·rw [A5c h2] at h4; exact absurd rfl h4
 ·rw [A5c h1] at h0
  by_cases h2:0<D7 b
  ·rw [A5c (by omega)]; omega
  ·rw [A5c h2] at h0
   by_cases h5:0<Dj b
   ·rw [A5d (by omega)]; omega
   ·rw [A5c h5] at h0; exact absurd rfl h0
theorem Xs {b:Nat} (h0:Ai b=0):Ax b=0:=by
 unfold Ai at h0
 unfold Ax
 by_cases h1:D7 b=2047
 ·rw [A5d h1] at h0; split at h0<;>omega
 ·rw [A5c h1] at h0
  by_cases h2:0<D7 b
  ·rw [A5d h2] at h0; omega
  ·rw [A5c h2] at h0
   by_cases h5:0<Dj b
   ·rw [A5d h5] at h0; omega
   ·rw [A5d (by omega)]; omega
theorem Akk {x y:Nat} (hx1:2^52≤x) (hx2:x<2^53) (hy1:2^52≤y) (hy2:y<2^53):2^104≤x*y∧x*y<2^106:=by
 have h1:=A5m hx1 hy1
 have h2:x*y<2^53*2^53:=Nat.mul_lt_mul'' hx2 hy2
 exact ⟨A5x (by decide) h1,A51 h2 (by decide)⟩
theorem Avy {V:Nat} (h:V<2^106):Jl .u64 (Cg .u64 ((V / 18446744073709551616:Nat):Int) (20:Int)) (Ed .u64 ((V%18446744073709551616:Nat):Int) (44:Int))=((V / 2^44:Nat):Int):=by
 have e1:Cg .u64 ((V / 18446744073709551616:Nat):Int) (20:Int)=((V / 18446744073709551616*2^20%2^64:Nat):Int):=Gw _ 20 (by decide)
 have e2:Ed .u64 ((V%18446744073709551616:Nat):Int) (44:Int)=((V%18446744073709551616 / 2^44:Nat):Int):=Je .u64 _ 44 (by decide)
 rw [e1,e2,A43 (by omega),O8 (k:=20) (by omega) (by omega)]
 congr 1
 omega
theorem Avx {V:Nat}:((Cg .u64 ((V%18446744073709551616:Nat):Int) (20:Int)) !=(0:Int))=decide (V%2^44≠0):=by
 have e1:Cg .u64 ((V%18446744073709551616:Nat):Int) (20:Int)=((V%18446744073709551616*2^20%2^64:Nat):Int):=Gw _ 20 (by decide)
 rw [e1,A46]
 simp only [bne_iff_ne,ne_eq,A4x]
 omega
theorem Afg (s t:Bool):(!(s==t))=(s !=t):=rfl
theorem w53 {x:Nat} (h:x<2^53):Af (x:Int)=true:=Cm (by omega)
theorem Av6 (n:Bool) {a b:Nat} (ha:Ax a≠0) (hb:Ax b≠0) :
 (bif (Af (Du a)&&Af (Du b)) then
  bif (Q0 (Jl .u64 (Cg .u64 (Ub (Du a) (Du b)) (20:Int)) (Ed .u64 (Pn (Du a) (Du b)) (44:Int))) (Ab ((Ab ((I2 a)+(I2 b)))+(44:Int)))) then
   some (DV.tup [.int .u64 (F1 n (Jl .u64 (Cg .u64 (Ub (Du a) (Du b)) (20:Int)) (Ed .u64 (Pn (Du a) (Du b)) (44:Int))) (Ab ((Ab ((I2 a)+(I2 b)))+(44:Int))) ((Cg .u64 (Pn (Du a) (Du b)) (20:Int)) !=(0:Int))),.int .u8 (F0 n (Jl .u64 (Cg .u64 (Ub (Du a) (Du b)) (20:Int)) (Ed .u64 (Pn (Du a) (Du b)) (44:Int))) (Ab ((Ab ((I2 a)+(I2 b)))+(44:Int))) ((Cg .u64 (Pn (Du a) (Du b)) (20:Int)) !=(0:Int)))])
  else none
 else none)=some (.tup [.int .u64 ((Bl n (Cl (Ax a*Ax b) (A2 a+A2 b)):Nat):Int),.int .u8 ((flagsOf (Ax a*Ax b) (A2 a+A2 b):Nat):Int)]):=by
 obtain ⟨a1,a2,a3,a4⟩:=Qn ha
 obtain ⟨b1,b2,b3,b4⟩:=Qn hb
 have ea:=Dt a
 have eb:=Dt b
 have ma:Du (a:Int)=((Ax a*2^Cp a:Nat):Int):=rfl
 have mb:Du (b:Int)=((Ax b*2^Cp b:Nat):Int):=rfl
 have na:I2 (a:Int)=A2 a-Cp a:=rfl
 have nb:I2 (b:Int)=A2 b-Cp b:=rfl
 have hi:Ub (Du a) (Du b)=((Ax a*2^Cp a*(Ax b*2^Cp b) / 18446744073709551616:Nat):Int):=rfl
 have lo:Pn (Du a) (Du b)=((Ax a*2^Cp a*(Ax b*2^Cp b)%18446744073709551616:Nat):Int):=rfl
 rw [hi,lo,ma,mb,na,nb,w53 a3,w53 b3,A4w,A4q]
 obtain ⟨v1,v2⟩:=Akk a2 a3 b2 b3
 have ev:Ax a*2^Cp a*(Ax b*2^Cp b)=Ax a*Ax b*2^(Cp a+Cp b):=by
  rw [Nat.mul_mul_mul_comm,← A5f]
 obtain ⟨s1,s2⟩:=Dv (Ax a*Ax b) (Cp a+Cp b) (A2 a+A2 b)
 rw [← ev] at s1 s2
 generalize Ax a*2^Cp a*(Ax b*2^Cp b)=V at *
 rw [Avy v2,Avx,An (x:=_+_) (by rw [An (by omega) (by omega)]; omega) (by rw [An (by omega) (by omega)]; omega),An (by omega) (by omega)]
 have hw:Q0 ((V / 2^44:Nat):Int) (A2 a-Cp a+(A2 b-Cp b)+44)=true:=Aq.2 ⟨by omega,by omega,by omega,by omega⟩
 rw [hw,A4q]
 unfold F1 F0
 rw [A4s,We n (V:=V) (k:=44) (E:=A2 a+A2 b-((Cp a+Cp b:Nat):Int)) (e:=A2 a-Cp a+(A2 b-Cp b)+44) (s:=decide (V%2^44≠0)) (by omega) rfl (by omega) (.inl (by omega)),s1,s2]
theorem kq (b k:Nat):(((Ai b:Nat):Int)==((k:Nat):Int))=decide (Ai b=k):=by
 rw [A46]; simp only [beq_iff_eq,A4x]; omega
theorem Ac4 (n:Bool) {r:Nat} (h:r<2^63):T8 n (r:Int)=((Bl n r:Nat):Int):=by
 unfold T8 Bl Da
 cases n
 ·rfl
 ·simp only [if_true]
  rw [A4s,Aax h]
theorem Aib (n:Bool):T8 n (9218868437227405312:Int)=((Bl n Eh:Nat):Int):=Ac4 n (r:=Eh) (by decide)
theorem Aco (n:Bool):T8 n (0:Int)=((Bl n 0:Nat):Int):=Ac4 n (r:=0) (by decide)
theorem To (b:Nat):Bz (b:Int)=((Ai b:Nat):Int):=rfl
theorem Amb (a b:Nat):Ash (a:Int) (b:Int)=(decide (Ai a=4)||decide (Ai b=4)):=by
 unfold Ash Bz
 simp only [A4s]
 rw [A46]
 simp only [Bool.or_eq_true,A4x]
 omega
theorem k3 (b:Nat):(((Ai b:Nat):Int)==(3:Int))=decide (Ai b=3):=kq b 3
theorem k0 (b:Nat):(((Ai b:Nat):Int)==(0:Int))=decide (Ai b=0):=kq b 0
theorem times.Mul.known:times.Mul.Kn:=times.Mul.Ad (.cons De.Ir.known (.cons soft.Kind.known (.cons soft.Sign.known (.cons times.nan.known (.cons times.norm.known (.cons times.signed.known (.cons times.wide.known .nil))))))) fun a b hp=>by
 obtain ⟨ha,hb⟩:=Ac.1 hp
 obtain ⟨a,rfl,hn⟩:=By ha
 obtain ⟨b,rfl,hm⟩:=By hb
 refine ⟨0,times.Mul.out [.i a,.i b],[],?_,Wk.Hs (.cons .int (.cons .int .nil))⟩
 have i1:Af (9218868437227405312:Int)=true:=Cm (n:=9218868437227405312) (by decide)
 have i2:Af (0:Int)=true:=Cm (n:=0) (by decide)
 rw [times.Mul.ev,ha,hb,Amb,To,To,k3,k3,k0,k0,i1,i2,Aib,Aco,Afg]
 show _=some (DV.tup [.int .u64 (((Ly a b).1:Nat):Int),.int .u8 (((Ly a b).2:Nat):Int)])
 have ea:Eb (a:Int)=Bx a:=rfl
 have eb:Eb (b:Int)=Bx b:=rfl
 rw [ea,eb]
 unfold Ly
 simp only [A4w,A4q]
 by_cases h4:Ai a=4∨Ai b=4
 ·have c4:(decide (Ai a=4)||decide (Ai b=4))=true:=by simp; exact h4
  rw [A5d h4,c4,A4q]; rfl
 ·have c4:(decide (Ai a=4)||decide (Ai b=4))=false:=by simp; omega
  rw [A5c h4,c4,A4u]
  by_cases h3:Ai a=3∨Ai b=3
  ·rw [A5d h3]
   by_cases h0:Ai a=0∨Ai b=0
   ·have c0:(decide (Ai a=3)&&decide (Ai b=0)||decide (Ai a=0)&&decide (Ai b=3))=true:=by simp; omega
    rw [A5d h0,c0,A4q]; rfl
   ·have c0:(decide (Ai a=3)&&decide (Ai b=0)||decide (Ai a=0)&&decide (Ai b=3))=false:=by simp; omega
    have c3:(decide (Ai a=3)||decide (Ai b=3))=true:=by simp; omega
    rw [A5c h0,c0,A4u,c3,A4q]; rfl
  ·have c0:(decide (Ai a=3)&&decide (Ai b=0)||decide (Ai a=0)&&decide (Ai b=3))=false:=by simp; omega
   have c3:(decide (Ai a=3)||decide (Ai b=3))=false:=by simp; omega
   rw [A5c h3,c0,A4u,c3,A4u]
   by_cases h0:Ai a=0∨Ai b=0
   ·have c5:(decide (Ai a=0)||decide (Ai b=0))=true:=by simp; exact h0
    have hz:Ax a*Ax b=0:=by
     rcases h0 with h | h
     ·rw [Xs h,Nat.zero_mul]
     ·rw [Xs h,Nat.mul_zero]
    rw [c5,A4q,hz,Te,Rj]; rfl
   ·have c5:(decide (Ai a=0)||decide (Ai b=0))=false:=by simp; omega
    have pa:=Qi (b:=a) (by omega) (by omega) (by omega)
    have pb:=Qi (b:=b) (by omega) (by omega) (by omega)
    have na:N2 (a:Int)=true:=Aq.2 pa
    have nb:N2 (b:Int)=true:=Aq.2 pb
    rw [c5,A4u,na,nb,A4w,A4q,A4q]
    exact Av6 _ pa pb
theorem Ats (N:Nat) {a b:Nat} {X Y:Nat} (hY:0<Y) (hY2:Y<2^53) (hX:X<2*Y) (em:Du (b:Int)=(Y:Int)):∀ (k i:Nat),k+i=61 →
 times.Div.L0 N (k+1) a b ((X*2^i / Y:Nat):Int) ((X*2^i%Y:Nat):Int) (i:Int) =
  times.Div.L0 N 1 a b ((X*2^61 / Y:Nat):Int) ((X*2^61%Y:Nat):Int) (61:Int):=by
 intro k
 induction k with
 | zero =>
   intro i hi
   have:i=61:=by omega
   subst this
   rfl
 | succ k ih =>
   intro i hi
   have hq:X*2^i / Y<2^62:=by
    rw [Nat.div_lt_iff_lt_mul hY]
    have h1:X*2^i<2*Y*2^i:=(Nat.mul_lt_mul_right (Co i)).2 hX
    have h2:2*2^i≤2^62:=by
     rw [A5e,← Nat.pow_succ]; exact A45 (by decide) (by omega)
    have h3:2*2^i*Y≤2^62*Y:=A42 _ h2
    rw [Nat.mul_right_comm] at h1
    omega
   have hr:X*2^i%Y<Y:=Nat.mod_lt _ hY
   have hd:=Nat.div_add_mod (X*2^i) Y
   have e2:X*2^(i+1)=X*2^i*2:=by rw [Nat.pow_succ,A5h]
   rw [times.Div.Au,Av,Fb,em,A4r (by omega),A4q]
   have s1:Cg .u64 ((X*2^i%Y:Nat):Int) (1:Int)=((X*2^i%Y*2:Nat):Int):=by
    have:=Gw (X*2^i%Y) 1 (by decide)
    rw [A43 (a:=X*2^i%Y*2^1) (by omega)] at this
    exact this
   have s2:Cg .u64 ((X*2^i / Y:Nat):Int) (1:Int)=((X*2^i / Y*2^1:Nat):Int):=by
    have:=Gw (X*2^i / Y) 1 (by decide)
    rw [A43 (a:=X*2^i / Y*2^1) (by omega)] at this
    exact this
   have s3:Jl .u64 ((X*2^i / Y*2^1:Nat):Int) (1:Int)=((X*2^i / Y*2^1+1:Nat):Int):=O8 (k:=1) (b:=1) (by decide) (by omega)
   have ei:Ab ((i:Int)+1)=((i+1:Nat):Int):=by rw [An (by omega) (by omega)]; rfl
   rw [s1,s2,s3,ei]
   generalize hq':X*2^i / Y=q at *
   generalize hr':X*2^i%Y=r at *
   have step:∀ c,X*2^i*2=Y*(2*q+c)+(2*r-c*Y)→c*Y≤2*r→2*r<c*Y+Y→X*2^(i+1) / Y=2*q+c∧X*2^(i+1)%Y=2*r-c*Y:=fun c h1 h2 h3=>by
    rw [e2,h1]
    constructor
    ·rw [Nat.mul_add_div hY,Nat.div_eq_of_lt (by omega)]; omega
    ·rw [Nat.mul_add_mod,A43 (by omega)]
   by_cases hc:Y≤r*2
   ·obtain ⟨t1,t2⟩:=step 1 (by rw [Nat.mul_add,A5z,Nat.mul_left_comm]; omega) (by omega) (by omega)
    have:=ih (i+1) (by omega)
    rw [t1,t2] at this
    rw [A4r (by omega),A4q,Ef (by omega) (by omega)]
    have e3:((r*2:Nat):Int)-(Y:Int)=((2*r-1*Y:Nat):Int):=by omega
    have e4:q*2^1+1=2*q+1:=by omega
    rw [e3,e4]
    exact this
   ·obtain ⟨t1,t2⟩:=step 0 (by rw [A5y,Nat.mul_left_comm]; omega) (by omega) (by omega)
    have:=ih (i+1) (by omega)
    rw [t1,t2] at this
    rw [A4v (by omega),A4u]
    have e3:r*2=2*r-0*Y:=by omega
    have e4:q*2^1=2*q+0:=by omega
    rw [e3,e4]
    exact this
theorem Awy {a b:Nat} (ha:Ax a≠0) (hb:Ax b≠0) :
 times.Div.L0 62 62 a b (Bs (Int.tdiv (Du a) (Du b))) (Int.tmod (Du a) (Du b)) (0:Int) =
  some (.tup [.int .u64 ((Bl (Bx a !=Bx b) (Cl (G1 (Ax a) (Ax b) 120) (A2 a-A2 b-121)):Nat):Int),.int .u8 ((flagsOf (G1 (Ax a) (Ax b) 120) (A2 a-A2 b-121):Nat):Int)]):=by
 obtain ⟨a1,a2,a3,a4⟩:=Qn ha
 obtain ⟨b1,b2,b3,b4⟩:=Qn hb
 have ea:=Dt a
 have eb:=Dt b
 have ma:Du (a:Int)=((Ax a*2^Cp a:Nat):Int):=rfl
 have mb:Du (b:Int)=((Ax b*2^Cp b:Nat):Int):=rfl
 have na:I2 (a:Int)=A2 a-Cp a:=rfl
 have nb:I2 (b:Int)=A2 b-Cp b:=rfl
 have sL:=Ajp (Ax a) (Ax b*2^Cp b) (Cp a) 61
 have hpos:0<Ax b*2^Cp b:=by omega
 have hq1:2^53≤Ax a*2^Cp a*2^61 / (Ax b*2^Cp b):=by
  rw [Nat.le_div_iff_mul_le hpos]; omega
 have hqq:2^60≤Ax a*2^Cp a*2^61 / (Ax b*2^Cp b):=by
  rw [Nat.le_div_iff_mul_le hpos]; omega
 have hq2:Ax a*2^Cp a*2^61 / (Ax b*2^Cp b)<2^62:=by
  rw [Nat.div_lt_iff_lt_mul hpos]; omega
 have hstick:G1 (Ax a*2^Cp a) (Ax b*2^Cp b) 61=G1 (Ax a) (Ax b) (61+Cp a-Cp b):=by
  rw [sL]
  have:61+Cp a=61+Cp a-Cp b+Cp b:=by omega
  conv=>lhs; rw [this]
  rw [Agu]
 have hge1:2^53≤Ax a*2^(61+Cp a-Cp b) / Ax b:=by
  have e1:Ax a*2^Cp a*2^61=Ax a*2^(61+Cp a-Cp b)*2^Cp b:=by
   rw [A5h,← A5f,A5h,← A5f]
   congr 2
   omega
  rw [e1,Nat.mul_div_mul_right _ _ (Co _)] at hq1
  exact hq1
 have hge2:2^53≤Ax a*2^120 / Ax b:=Ars (t:=53) (by omega) (by omega) (by have:=Gc b; omega) (by omega)
 obtain ⟨s1,s2⟩:=Z2 (X:=Ax a) (Y:=Ax b) (K:=61+Cp a-Cp b) (L:=120) (E:=A2 a-Cp a-(A2 b-Cp b)-61-1) (F:=A2 a-A2 b-121) (by omega) hge1 hge2 (by omega)
 have d1:Bs (Int.tdiv (Du a) (Du b))=((Ax a*2^Cp a*2^0 / (Ax b*2^Cp b):Nat):Int):=by
  rw [ma,mb,Lk,A5o,A5z]
  have h1:=Nat.div_le_self (Ax a*2^Cp a) (Ax b*2^Cp b)
  have h2:Ax a*2^Cp a / (Ax b*2^Cp b)<2^64:=A5s h1 (Nat.lt_trans a3 (by decide))
  generalize Ax a*2^Cp a / (Ax b*2^Cp b)=q at h2 ⊢
  exact Ef (Int.natCast_nonneg q) (by omega)
 have d2:Int.tmod (Du a) (Du b)=((Ax a*2^Cp a*2^0%(Ax b*2^Cp b):Nat):Int):=by
  rw [ma,mb,Lj,A5o,A5z]
 rw [d1,d2]
 have lp:=Ats 62 (a:=a) (b:=b) hpos b3 (X:=Ax a*2^Cp a) (by omega) mb 61 0 (by omega)
 refine lp.trans ?_
 rw [times.Div.Au,Av,na,nb,A4v (by omega),A4u]
 have we:Ab (Ab (A2 a-Cp a-(A2 b-Cp b))-61)=A2 a-Cp a-(A2 b-Cp b)-61:=by
  rw [An (x:=A2 a-Cp a-(A2 b-Cp b)) (by omega) (by omega),An (by omega) (by omega)]
 have hne:(((Ax a*2^Cp a*2^61%(Ax b*2^Cp b):Nat):Int) !=(0:Int))=decide (Ax a*2^Cp a*2^61%(Ax b*2^Cp b)≠0):=by
  rw [A46]; simp only [bne_iff_ne,ne_eq,A4x]; omega
 rw [we,hne]
 have hw:Q0 ((Ax a*2^Cp a*2^61 / (Ax b*2^Cp b):Nat):Int) (A2 a-Cp a-(A2 b-Cp b)-61)=true:=Aq.2 ⟨by omega,by omega,by omega,by omega⟩
 have hn:Eb (a:Int)=Bx a:=rfl
 have hn':Eb (b:Int)=Bx b:=rfl
 rw [hw,A4q,Afg,hn,hn']
 unfold F1 F0
 rw [A4s,Aox _ rfl rfl hq1,hstick,s1,s2]
theorem times.Div.known:times.Div.Kn:=times.Div.Ad (.cons soft.Kind.known (.cons soft.Sign.known (.cons times.nan.known (.cons times.norm.known (.cons times.signed.known (.cons times.wide.known .nil)))))) fun a b hp=>by
 obtain ⟨ha,hb⟩:=Ac.1 hp
 obtain ⟨a,rfl,hn⟩:=By ha
 obtain ⟨b,rfl,hm⟩:=By hb
 refine ⟨62,times.Div.out [.i a,.i b],[],?_,Wk.Hs (.cons .int (.cons .int .nil))⟩
 have i1:Af (9218868437227405312:Int)=true:=Cm (n:=9218868437227405312) (by decide)
 have i2:Af (0:Int)=true:=Cm (n:=0) (by decide)
 rw [times.Div.ev,ha,hb,Amb,To,To,k3,k3,k0,k0,i1,i2,Aib,Aco,Afg]
 show _=some (DV.tup [.int .u64 (((Afy a b).1:Nat):Int),.int .u8 (((Afy a b).2:Nat):Int)])
 have ea:Eb (a:Int)=Bx a:=rfl
 have eb:Eb (b:Int)=Bx b:=rfl
 rw [ea,eb]
 unfold Afy
 rw [A4w,A4q,A4q,A4q,A4q,A4q]
 by_cases h4:Ai a=4∨Ai b=4
 ·have c4:(decide (Ai a=4)||decide (Ai b=4))=true:=by simp; exact h4
  rw [A5d h4,c4,A4q]; rfl
 ·have c4:(decide (Ai a=4)||decide (Ai b=4))=false:=by simp; omega
  rw [A5c h4,c4,A4u]
  by_cases h1:Ai a=Ai b∧(Ai a=3∨Ai a=0)
  ·have c1:(decide (Ai a=3)&&decide (Ai b=3)||decide (Ai a=0)&&decide (Ai b=0))=true:=by simp; omega
   rw [A5d h1,c1,A4q]; rfl
  ·have c1:(decide (Ai a=3)&&decide (Ai b=3)||decide (Ai a=0)&&decide (Ai b=0))=false:=by simp; omega
   rw [A5c h1,c1,A4u]
   by_cases h2:Ai a=3
   ·rw [A5d h2,A4r h2,A4q]; rfl
   ·rw [A5c h2,A4v h2,A4u]
    by_cases h3:Ai b=3∨Ai a=0
    ·have c3:(decide (Ai b=3)||decide (Ai a=0))=true:=by simp; exact h3
     rw [A5d h3,c3,A4q]; rfl
    ·have c3:(decide (Ai b=3)||decide (Ai a=0))=false:=by simp; omega
     rw [A5c h3,c3,A4u]
     by_cases h5:Ai b=0
     ·rw [A5d h5,A4r h5,A4q]; rfl
     ·rw [A5c h5,A4v h5,A4u]
      have pa:=Qi (b:=a) (by omega) (by omega) (by omega)
      have pb:=Qi (b:=b) (by omega) (by omega) (by omega)
      have na:N2 (a:Int)=true:=Aq.2 pa
      have nb:N2 (b:Int)=true:=Aq.2 pb
      have hnb:(Du (b:Int) !=0)=true:=by
       obtain ⟨_,l2,_,_⟩:=Qn pb
       have mb:Du (b:Int)=((Ax b*2^Cp b:Nat):Int):=rfl
       rw [mb]
       simp only [bne_iff_ne,ne_eq]
       omega
      rw [na,nb,hnb,A4w,A4q,A4q,A4q,A4q,Awy pa pb]
namespace EqVec
def Ae.Add.Ba:List (Nat × Entry):=[(174,sum.Add.spec)]
def Ae.Add.E:Env:=Bg (Bb Ae.Add.Ba) (fun _=>false) (fun _=>none) (fun _=>none)
theorem Ae.Add.ev (N:Nat) (a b:Int):B0 Ae.Add.E N f137 (Ak f137) [.int .u64 a,.int .u64 b]=bif (Af a&&Af b) then some (.int .u64 (Dm a b)) else none:=by kernel_rfl
abbrev _root_.Go.Proofs.S1.Ae.Add.Kn:=A8 prog 137 Ae.Add.spec
theorem Ae.Add.Ad (hk:A1 prog Ae.Add.Ba) (h:Hyp Ae.Add.E f137 Ae.Add.ts Ae.Add.pre Ae.Add.out):Ae.Add.Kn :=
 Al (A4 hk _ _ _) func137 (by kernel_rfl) (by kernel_rfl) h
def Ae.Sub.Ba:List (Nat × Entry):=[(231,sum.Sub.spec)]
def Ae.Sub.E:Env:=Bg (Bb Ae.Sub.Ba) (fun _=>false) (fun _=>none) (fun _=>none)
theorem Ae.Sub.ev (N:Nat) (a b:Int):B0 Ae.Sub.E N f201 (Ak f201) [.int .u64 a,.int .u64 b]=bif (Af a&&Af b) then some (.int .u64 (Gb a b)) else none:=by kernel_rfl
abbrev _root_.Go.Proofs.S1.Ae.Sub.Kn:=A8 prog 201 Ae.Sub.spec
theorem Ae.Sub.Ad (hk:A1 prog Ae.Sub.Ba) (h:Hyp Ae.Sub.E f201 Ae.Sub.ts Ae.Sub.pre Ae.Sub.out):Ae.Sub.Kn :=
 Al (A4 hk _ _ _) func201 (by kernel_rfl) (by kernel_rfl) h
def Ae.Mul.Ba:List (Nat × Entry):=[(175,times.Mul.spec)]
def Ae.Mul.E:Env:=Bg (Bb Ae.Mul.Ba) (fun _=>false) (fun _=>none) (fun _=>none)
theorem Ae.Mul.ev (N:Nat) (a b:Int):B0 Ae.Mul.E N f138 (Ak f138) [.int .u64 a,.int .u64 b]=bif (Af a&&Af b) then some (.int .u64 (Ca a b)) else none:=by kernel_rfl
abbrev _root_.Go.Proofs.S1.Ae.Mul.Kn:=A8 prog 138 Ae.Mul.spec
theorem Ae.Mul.Ad (hk:A1 prog Ae.Mul.Ba) (h:Hyp Ae.Mul.E f138 Ae.Mul.ts Ae.Mul.pre Ae.Mul.out):Ae.Mul.Kn :=
 Al (A4 hk _ _ _) func138 (by kernel_rfl) (by kernel_rfl) h
def Ae.fit.Ba:List (Nat × Entry):=[]
def Ae.fit.E:Env:=Bg (Bb Ae.fit.Ba) (fun _=>false) (fun _=>none) (fun _=>none)
theorem Ae.fit.ev (N:Nat) (x y:List Int):B0 Ae.fit.E N f173 (Ak f173) [.ints .arg .u64 x,.ints .arg .u64 y]=some (.bool (bif ((length x:Int)==(length y:Int)) then (Ex (length x:Int) 64) else false)) :=
 Eq.trans (by kernel_rfl)
 (Ay (R5 ((length x:Int)==(length y:Int))) (Ay (Oo ((length x:Int)==(length y:Int))) (Ay (Oo ((length x:Int)==(length y:Int))) (Ay (W8 ((length x:Int)==(length y:Int))) rfl))))
abbrev _root_.Go.Proofs.S1.Ae.fit.Kn:=A8 prog 173 Ae.fit.spec
theorem Ae.fit.Ad (hk:A1 prog Ae.fit.Ba) (h:Hyp Ae.fit.E f173 Ae.fit.ts Ae.fit.pre Ae.fit.out):Ae.fit.Kn :=
 Al (A4 hk _ _ _) func173 (by kernel_rfl) (by kernel_rfl) h
def Ae.Iv.hint:Nat→Option Bc
 | 0=>some { keep:=[0,1,6,13,14],objs:=[],boxes:=[] }
 | _=>none
def Ae.Iv.Ba:List (Nat × Entry):=[(137,Ae.Add.spec),(138,Ae.Mul.spec),(173,Ae.fit.spec)]
def Ae.Iv.E:Env:=Bg (Bb Ae.Iv.Ba) (fun _=>false) Ae.Iv.hint (fun _=>none)
section
variable (N M:Nat) (x y:List Int) (p6 p14:Int)
def Ae.Iv.L0:Option DV:=Cb Ae.Iv.E N f134 (Ak f134) [1,1,1,0,1,0] [] M ⟨Fo 30 [(0,.ints .arg .u64 x),(1,.ints .arg .u64 y),(6,.int .u64 p6),(13,.int .i64 (length x:Int)),(14,.int .i64 p14)],[]⟩
theorem Ae.Iv.Au:Ae.Iv.L0 N (M+1) x y p6 p14=bif (Bi p14 (length x:Int)) then bif ((decide (0≤p14))&&(decide (p14<(length x:Int)))) then bif ((decide (0≤p14))&&(decide (p14<(length y:Int)))) then bif (Af (getD x (toNat p14) 0)&&Af (getD y (toNat p14) 0)) then bif (Af p6&&Af (Ca (getD x (toNat p14) 0) (getD y (toNat p14) 0))) then Ae.Iv.L0 N M x y (Dm p6 (Ca (getD x (toNat p14) 0) (getD y (toNat p14) 0))) (Ab (p14+1)) else none else none else none else none else some (.tup [.int .u64 p6,.int .i64 0]) :=
 Eq.trans (by kernel_rfl)
 (E1 (Cw (Kb _ _) (Cw (Kb _ _) (Cw (Ct _) (Cw (Ct _) rfl rfl) rfl) rfl) rfl) rfl)
theorem Ae.Iv.ev:B0 Ae.Iv.E N f134 (Ak f134) [.ints .arg .u64 x,.ints .arg .u64 y]=bif (!(O5 x y)) then some (.tup [.int .u64 0,.int .i64 3]) else Ae.Iv.L0 N N x y 0 0:=by kernel_rfl
end
abbrev _root_.Go.Proofs.S1.Ae.Iv.Kn:=A8 prog 134 Ae.Iv.spec
theorem Ae.Iv.Ad (hk:A1 prog Ae.Iv.Ba) (h:Hyp Ae.Iv.E f134 Ae.Iv.ts Ae.Iv.pre Ae.Iv.out):Ae.Iv.Kn :=
 Al (A4 hk _ _ _) func134 (by kernel_rfl) (by kernel_rfl) h
def Ah.F.Ba:List (Nat × Entry):=[]
def Ah.F.E:Env:=Bg (Bb Ah.F.Ba) (fun _=>false) (fun _=>none) (fun _=>none)
theorem Ah.F.ev (N:Nat) (x:Int):B0 Ah.F.E N f147 (Ak f147) [.int .u64 x]=bif (decide (0≤x)) then some (.fl (toNat x)) else none:=by kernel_rfl
abbrev _root_.Go.Proofs.S1.Ah.F.Kn:=A8 prog 147 Ah.F.spec
theorem Ah.F.Ad (hk:A1 prog Ah.F.Ba) (h:Hyp Ah.F.E f147 Ah.F.ts Ah.F.pre Ah.F.out):Ah.F.Kn :=
 Al (A4 hk _ _ _) func147 (by kernel_rfl) (by kernel_rfl) h
def Ah.B.Ba:List (Nat × Entry):=[(186,Fc.Canon.nb.spec)]
def Ah.B.E:Env:=Bg (Bb Ah.B.Ba) (fun _=>false) (fun _=>none) (fun _=>none)
theorem Ah.B.ev (N x:Nat):B0 Ah.B.E N f145 (Ak f145) [.fl x]=some (.int .u64 (Hi x)):=by kernel_rfl
abbrev _root_.Go.Proofs.S1.Ah.B.Kn:=A8 prog 145 Ah.B.spec
theorem Ah.B.Ad (hk:A1 prog Ah.B.Ba) (h:Hyp Ah.B.E f145 Ah.B.ts Ah.B.pre Ah.B.out):Ah.B.Kn :=
 Al (A4 hk _ _ _) func145 (by kernel_rfl) (by kernel_rfl) h
def Ah.Add.Ba:List (Nat × Entry):=[(145,Ah.B.spec),(147,Ah.F.spec)]
def Ah.Add.E:Env:=Bg (Bb Ah.Add.Ba) (fun _=>false) (fun _=>none) (fun _=>none)
theorem Ah.Add.ev (N:Nat) (a b:Int):B0 Ah.Add.E N f152 (Ak f152) [.int .u64 a,.int .u64 b]=bif (Af a) then bif (Af b) then some (.int .u64 (Hi ((Ieee.double.add (toNat a) (toNat b)).getD nanBits))) else none else none:=by kernel_rfl
abbrev _root_.Go.Proofs.S1.Ah.Add.Kn:=A8 prog 152 Ah.Add.spec
theorem Ah.Add.Ad (hk:A1 prog Ah.Add.Ba) (h:Hyp Ah.Add.E f152 Ah.Add.ts Ah.Add.pre Ah.Add.out):Ah.Add.Kn :=
 Al (A4 hk _ _ _) func152 (by kernel_rfl) (by kernel_rfl) h
def Ah.Sub.Ba:List (Nat × Entry):=[(145,Ah.B.spec),(147,Ah.F.spec)]
def Ah.Sub.E:Env:=Bg (Bb Ah.Sub.Ba) (fun _=>false) (fun _=>none) (fun _=>none)
theorem Ah.Sub.ev (N:Nat) (a b:Int):B0 Ah.Sub.E N f198 (Ak f198) [.int .u64 a,.int .u64 b]=bif (Af a) then bif (Af b) then some (.int .u64 (Hi ((Ieee.double.sub (toNat a) (toNat b)).getD nanBits))) else none else none:=by kernel_rfl
abbrev _root_.Go.Proofs.S1.Ah.Sub.Kn:=A8 prog 198 Ah.Sub.spec
theorem Ah.Sub.Ad (hk:A1 prog Ah.Sub.Ba) (h:Hyp Ah.Sub.E f198 Ah.Sub.ts Ah.Sub.pre Ah.Sub.out):Ah.Sub.Kn :=
 Al (A4 hk _ _ _) func198 (by kernel_rfl) (by kernel_rfl) h
def Ah.Mul.Ba:List (Nat × Entry):=[(145,Ah.B.spec),(147,Ah.F.spec)]
def Ah.Mul.E:Env:=Bg (Bb Ah.Mul.Ba) (fun _=>false) (fun _=>none) (fun _=>none)
theorem Ah.Mul.ev (N:Nat) (a b:Int):B0 Ah.Mul.E N f153 (Ak f153) [.int .u64 a,.int .u64 b]=bif (Af a) then bif (Af b) then some (.int .u64 (Hi ((Ieee.double.mul (toNat a) (toNat b)).getD nanBits))) else none else none:=by kernel_rfl
abbrev _root_.Go.Proofs.S1.Ah.Mul.Kn:=A8 prog 153 Ah.Mul.spec
theorem Ah.Mul.Ad (hk:A1 prog Ah.Mul.Ba) (h:Hyp Ah.Mul.E f153 Ah.Mul.ts Ah.Mul.pre Ah.Mul.out):Ah.Mul.Kn :=
 Al (A4 hk _ _ _) func153 (by kernel_rfl) (by kernel_rfl) h
def Ah.Iv.hint:Nat→Option Bc
 | 0=>some { keep:=[0,1,5,6],objs:=[],boxes:=[] }
 | _=>none
def Ah.Iv.Ba:List (Nat × Entry):=[(152,Ah.Add.spec),(153,Ah.Mul.spec)]
def Ah.Iv.E:Env:=Bg (Bb Ah.Iv.Ba) (fun _=>false) Ah.Iv.hint (fun _=>none)
section
variable (N M:Nat) (x y:List Int) (p5 p6:Int)
def Ah.Iv.L0:Option DV:=Cb Ah.Iv.E N f141 (Ak f141) [1,1,0,1,0] [] M ⟨Fo 25 [(0,.ints .arg .u64 x),(1,.ints .arg .u64 y),(5,.int .u64 p5),(6,.int .i64 p6)],[]⟩
theorem Ah.Iv.Au:Ah.Iv.L0 N (M+1) x y p5 p6=bif (Bi p6 (length x:Int)) then bif ((decide (0≤p6))&&(decide (p6<(length x:Int)))) then bif ((decide (0≤p6))&&(decide (p6<(length y:Int)))) then bif (Af (getD x (toNat p6) 0)&&Af (getD y (toNat p6) 0)) then bif (Af p5&&Af (Ca (getD x (toNat p6) 0) (getD y (toNat p6) 0))) then Ah.Iv.L0 N M x y (Dm p5 (Ca (getD x (toNat p6) 0) (getD y (toNat p6) 0))) (Ab (p6+1)) else none else none else none else none else some (.int .u64 p5) :=
 Eq.trans (by kernel_rfl)
 (E1 (Cw (Kb _ _) (Cw (Kb _ _) (Cw (Ct _) (Cw (Ct _) rfl rfl) rfl) rfl) rfl) rfl)
theorem Ah.Iv.ev:B0 Ah.Iv.E N f141 (Ak f141) [.ints .arg .u64 x,.ints .arg .u64 y] =
 Ah.Iv.L0 N N x y 0 0:=by kernel_rfl
end
abbrev _root_.Go.Proofs.S1.Ah.Iv.Kn:=A8 prog 141 Ah.Iv.spec
theorem Ah.Iv.Ad (hk:A1 prog Ah.Iv.Ba) (h:Hyp Ah.Iv.E f141 Ah.Iv.ts Ah.Iv.pre Ah.Iv.out):Ah.Iv.Kn :=
 Al (A4 hk _ _ _) func141 (by kernel_rfl) (by kernel_rfl) h
def Ah.Fg.hint:Nat→Option Bc
 | 0=>some { keep:=[0,1,5],objs:=[],boxes:=[] }
 | _=>none
def Ah.Fg.Ba:List (Nat × Entry):=[]
def Ah.Fg.E:Env:=Bg (Bb Ah.Fg.Ba) (fun _=>false) Ah.Fg.hint (fun _=>none)
section
variable (N M:Nat) (x y:List Int) (p5:Int)
def Ah.Fg.L0:Option DV:=Cb Ah.Fg.E N f30 (Ak f30) [1,1,0,1,0] [] M ⟨Fo 26 [(0,.ints .arg .u64 x),(1,.ints .arg .u64 y),(5,.int .i64 p5)],[]⟩
theorem Ah.Fg.Au:Ah.Fg.L0 N (M+1) x y p5=bif (Bi p5 (length x:Int)) then bif ((decide (0≤p5))&&(decide (p5<(length x:Int)))) then bif ((decide (0≤p5))&&(decide (p5<(length y:Int)))) then bif ((getD x (toNat p5) 0) !=(getD y (toNat p5) 0)) then some (.bool false) else Ah.Fg.L0 N M x y (Ab (p5+1)) else none else none else some (.bool true) :=
 Eq.trans (by kernel_rfl)
 (E1 (Cw (Kb _ _) (Cw (Kb _ _) rfl rfl) rfl) rfl)
theorem Ah.Fg.ev:B0 Ah.Fg.E N f30 (Ak f30) [.ints .arg .u64 x,.ints .arg .u64 y]=bif ((length x:Int) !=(length y:Int)) then some (.bool false) else Ah.Fg.L0 N N x y 0:=by kernel_rfl
end
abbrev _root_.Go.Proofs.S1.Ah.Fg.Kn:=A8 prog 30 Ah.Fg.spec
theorem Ah.Fg.Ad (hk:A1 prog Ah.Fg.Ba) (h:Hyp Ah.Fg.E f30 Ah.Fg.ts Ah.Fg.pre Ah.Fg.out):Ah.Fg.Kn :=
 Al (A4 hk _ _ _) func30 (by kernel_rfl) (by kernel_rfl) h
end EqVec
open Go Go.Den Go.Rnd Go.Proofs Ieee
open EqVec
theorem Wb {b:Nat} (h3:Ai b≠3) (h4:Ai b≠4):Ax b=0↔Ai b=0 :=
 ⟨fun h=>by
  by_cases h0:Ai b=0
  ·exact h0
  ·exact absurd h (Qi h0 h3 h4),Xs⟩
theorem Mh (s:Bool):Ep (Bl s Eh)=Bl s Eh:=H4 s (A5k _)
theorem Wg {a b:Nat} (ha:a<2^64) (hb:b<2^64) {d:Nat} (hd:Ai d=4):Ep ((Ieee.double.mul a b).getD d)=(Ly a b).1:=by
 have cd:Ep d=Ok:=A5d hd
 have ex:∀ s t:Bool,(s ^^ t)=(s !=t):=fun s t=>by cases s<;>cases t<;>rfl
 unfold Format.mul
 rw [J3 ha,J3 hb]
 unfold Ly
 by_cases a4:Ai a=4
 ·rw [A5d (.inl a4),Ie a4]; exact cd
 ·by_cases b4:Ai b=4
  ·rw [A5d (.inr b4),Ie b4]
   by_cases a3:Ai a=3
   ·rw [Fi a3]; exact cd
   ·rw [Fh a3 a4]; exact cd
  ·rw [A5c (fun h=>h.elim a4 b4)]
   by_cases a3:Ai a=3
   ·rw [A5d (.inl a3),Fi a3]
    by_cases b3:Ai b=3
    ·rw [Fi b3,A5c (by omega)]
     show Ep (Bl (Bx a ^^ Bx b) Eh)=_
     rw [Mh,ex]
    ·rw [Fh b3 b4]
     have z:=Wb b3 b4
     by_cases b0:Ai b=0
     ·have e:(Datum.infinity (Bx a)).product (.number (Bx b) (Ax b) (A2 b))=none:=A5d (z.2 b0)
      rw [e,A5d (.inr b0)]; exact cd
     ·have e:(Datum.infinity (Bx a)).product (.number (Bx b) (Ax b) (A2 b))=some (.infinity (Bx a ^^ Bx b)):=A5c (fun k=>b0 (z.1 k))
      rw [e,A5c (by omega)]
      show Ep (Bl (Bx a ^^ Bx b) Eh)=_
      rw [Mh,ex]
   ·rw [Fh a3 a4]
    have z:=Wb a3 a4
    by_cases b3:Ai b=3
    ·rw [A5d (.inr b3),Fi b3]
     have sw:∀ s t:Bool,(t ^^ s)=(s !=t):=fun s t=>by cases s<;>cases t<;>rfl
     by_cases a0:Ai a=0
     ·have e:(Datum.number (Bx a) (Ax a) (A2 a)).product (.infinity (Bx b))=none:=A5d (z.2 a0)
      rw [e,A5d (.inl a0)]; exact cd
     ·have e:(Datum.number (Bx a) (Ax a) (A2 a)).product (.infinity (Bx b))=some (.infinity (Bx b ^^ Bx a)):=A5c (fun k=>a0 (z.1 k))
      rw [e,A5c (by omega)]
      show Ep (Bl (Bx b ^^ Bx a) Eh)=_
      rw [Mh,sw]
    ·rw [Fh b3 b4,A5c (by omega)]
     show Ep (Ieee.double.write (.number (Bx a ^^ Bx b) (Ax a*Ax b) (A2 a+A2 b)))=_
     rw [N8,H4 _ (Kp _ _),ex]
theorem Hx:Ai nanBits=4:=by decide +kernel
theorem Ae.Add.known:Ae.Add.Kn:=Ae.Add.Ad (.cons sum.Add.known .nil) fun a b hp=>by
 have hp:(Af a&&Af b)=true:=hp
 refine ⟨0,Ae.Add.out [.i a,.i b],[],?_,.int⟩
 rw [Ae.Add.ev,hp]; rfl
theorem Ae.Sub.known:Ae.Sub.Kn:=Ae.Sub.Ad (.cons sum.Sub.known .nil) fun a b hp=>by
 have hp:(Af a&&Af b)=true:=hp
 refine ⟨0,Ae.Sub.out [.i a,.i b],[],?_,.int⟩
 rw [Ae.Sub.ev,hp]; rfl
theorem Ae.Mul.known:Ae.Mul.Kn:=Ae.Mul.Ad (.cons times.Mul.known .nil) fun a b hp=>by
 have hp:(Af a&&Af b)=true:=hp
 refine ⟨0,Ae.Mul.out [.i a,.i b],[],?_,.int⟩
 rw [Ae.Mul.ev,hp]; rfl
theorem Atd (x y:List Int):(bif ((length x:Int)==(length y:Int)) then (Ex (length x:Int) (64:Int)) else false)=O5 x y:=by
 unfold O5
 rw [Fb,A46]
 by_cases h:x.length=y.length
 ·have:((x.length:Int)==(y.length:Int))=true:=by rw [beq_iff_eq]; omega
  rw [this,A4q,A4r h,A53,A4x,A4x]; omega
 ·have:((x.length:Int)==(y.length:Int))=false:=by rw [A5l]; omega
  rw [this,A4u,A4v h,Bool.false_and]
theorem Ae.fit.known:Ae.fit.Kn:=Ae.fit.Ad .nil fun x y _=>by
 refine ⟨0,Ae.fit.out [.l x,.l y],[],?_,.bool⟩
 rw [Ae.fit.ev,Atd]; rfl
theorem Zo {x y:List Int}:O5 x y=true↔x.length=y.length∧x.length≤64:=by unfold O5; simp
theorem Wx {l:List Int} {i:Nat} (h:i<l.length):l.drop i=l.getD i 0::l.drop (i+1):=by
 rw [List.drop_eq_getElem_cons h,A40,A47 h]; rfl
theorem Ait {x y:List Int} {i:Nat} (s:Nat) (hx:i<x.length) (hy:i<y.length) :
 Afx s (x.drop i) (y.drop i)=Afx (Hz s (Ly (x.getD i 0).toNat (y.getD i 0).toNat).1).1 (x.drop (i+1)) (y.drop (i+1)):=by
 rw [Wx hx,Wx hy]; rfl
theorem Atr (N:Nat) {x y:List Int} (hf:O5 x y=true) (hx:Aj x=true) (hy:Aj y=true):∀ (k i F s:Nat),i+k=x.length→k<F→s<2^64 →
 Ae.Iv.L0 N F x y (s:Int) (i:Int)=some (.tup [.int .u64 ((Afx s (x.drop i) (y.drop i):Nat):Int),.int .i64 (0:Int)]):=by
 obtain ⟨h1,h2⟩:=Zo.1 hf
 intro k
 induction k with
 | zero =>
   intro i F s hi hF hs
   obtain ⟨F,rfl⟩:∃ G,F=G+1:=⟨F-1,by omega⟩
   rw [Ae.Iv.Au,Av,A4v (by omega),A4u,A44 (by omega)]
   rfl
 | succ k ih =>
   intro i F s hi hF hs
   obtain ⟨F,rfl⟩:∃ G,F=G+1:=⟨F-1,by omega⟩
   have c1:decide ((i:Int)<(x.length:Int))=true:=A4r (by omega)
   have c2:decide ((i:Int)<(y.length:Int))=true:=A4r (by omega)
   have c3:decide ((0:Int)≤(i:Int))=true:=A4r (by omega)
   have g1:=Tw hx (show i<x.length by omega)
   have g2:=Tw hy (show i<y.length by omega)
   have em:Ca (x.getD i 0) (y.getD i 0)=(((Ly (x.getD i 0).toNat (y.getD i 0).toNat).1:Nat):Int):=rfl
   have ea:∀ t:Nat,Dm (s:Int) (t:Int)=(((Hz s t).1:Nat):Int):=fun t=>rfl
   rw [Ae.Iv.Au,Av,c1,c2,c3,A4s,g1,g2,em,ea,Cm hs,Cm Tk,A4w,A4q,A4q,A4q,A4q,A4q,An (by omega) (by omega),Ait s (by omega) (by omega)]
   exact ih (i+1) F _ (by omega) (by omega) (Ty hs Tk).1
theorem Ae.Iv.known:Ae.Iv.Kn:=Ae.Iv.Ad (.cons Ae.Add.known (.cons Ae.Mul.known (.cons Ae.fit.known .nil))) fun x y hp=>by
 obtain ⟨h1,hy⟩:=Ac.1 hp
 obtain ⟨hf,hx⟩:=Ac.1 h1
 refine ⟨x.length+1,Ae.Iv.out [.l x,.l y],[],?_,Wk.Hs (.cons .int (.cons .int .nil))⟩
 rw [Ae.Iv.ev,hf,A5p,A4u]
 exact Atr _ hf hx hy x.length 0 _ 0 (by omega) (by omega) (by decide)
theorem Ah.F.known:Ah.F.Kn:=Ah.F.Ad .nil fun x hp=>by
 obtain ⟨n,rfl,hn⟩:=By (x:=x) hp
 refine ⟨0,Ah.F.out [.i n],[],?_,.fl⟩
 rw [Ah.F.ev,A4r (Int.natCast_nonneg n)]; rfl
theorem Ah.B.known:Ah.B.Kn:=Ah.B.Ad (.cons Fc.Canon.Asf .nil) fun x _=>by
 refine ⟨0,Ah.B.out [.f x],[],?_,.int⟩
 rw [Ah.B.ev]; rfl
theorem Ah.Add.known:Ah.Add.Kn:=Ah.Add.Ad (.cons Ah.B.known (.cons Ah.F.known .nil)) fun a b hp=>by
 obtain ⟨ha,hb⟩:=Ac.1 hp
 obtain ⟨a,rfl,hn⟩:=By ha
 obtain ⟨b,rfl,hm⟩:=By hb
 refine ⟨0,Ah.Add.out [.i a,.i b],[],?_,.int⟩
 rw [Ah.Add.ev,ha,hb,A4s,A4s]
 unfold Hi
 rw [Aud hn hm Hx]; rfl
theorem Ah.Sub.known:Ah.Sub.Kn:=Ah.Sub.Ad (.cons Ah.B.known (.cons Ah.F.known .nil)) fun a b hp=>by
 obtain ⟨ha,hb⟩:=Ac.1 hp
 obtain ⟨a,rfl,hn⟩:=By ha
 obtain ⟨b,rfl,hm⟩:=By hb
 refine ⟨0,Ah.Sub.out [.i a,.i b],[],?_,.int⟩
 rw [Ah.Sub.ev,ha,hb,A4s,A4s]
 unfold Hi
 rw [Aq2 hn hm Hx]; rfl
theorem Ah.Mul.known:Ah.Mul.Kn:=Ah.Mul.Ad (.cons Ah.B.known (.cons Ah.F.known .nil)) fun a b hp=>by
 obtain ⟨ha,hb⟩:=Ac.1 hp
 obtain ⟨a,rfl,hn⟩:=By ha
 obtain ⟨b,rfl,hm⟩:=By hb
 refine ⟨0,Ah.Mul.out [.i a,.i b],[],?_,.int⟩
 rw [Ah.Mul.ev,ha,hb,A4s,A4s]
 unfold Hi
 rw [Wg hn hm Hx]; rfl
theorem Ae4 (N:Nat) {x y:List Int} (hf:O5 x y=true) (hx:Aj x=true) (hy:Aj y=true):∀ (k i F s:Nat),i+k=x.length→k<F→s<2^64 →
 Ah.Iv.L0 N F x y (s:Int) (i:Int)=some (.int .u64 ((Afx s (x.drop i) (y.drop i):Nat):Int)):=by
 obtain ⟨h1,h2⟩:=Zo.1 hf
 intro k
 induction k with
 | zero =>
   intro i F s hi hF hs
   obtain ⟨F,rfl⟩:∃ G,F=G+1:=⟨F-1,by omega⟩
   rw [Ah.Iv.Au,Av,A4v (by omega),A4u,A44 (by omega)]
   rfl
 | succ k ih =>
   intro i F s hi hF hs
   obtain ⟨F,rfl⟩:∃ G,F=G+1:=⟨F-1,by omega⟩
   have c1:decide ((i:Int)<(x.length:Int))=true:=A4r (by omega)
   have c2:decide ((i:Int)<(y.length:Int))=true:=A4r (by omega)
   have c3:decide ((0:Int)≤(i:Int))=true:=A4r (by omega)
   have g1:=Tw hx (show i<x.length by omega)
   have g2:=Tw hy (show i<y.length by omega)
   have em:Ca (x.getD i 0) (y.getD i 0)=(((Ly (x.getD i 0).toNat (y.getD i 0).toNat).1:Nat):Int):=rfl
   have ea:∀ t:Nat,Dm (s:Int) (t:Int)=(((Hz s t).1:Nat):Int):=fun t=>rfl
   rw [Ah.Iv.Au,Av,c1,c2,c3,A4s,g1,g2,em,ea,Cm hs,Cm Tk,A4w,A4q,A4q,A4q,A4q,A4q,An (by omega) (by omega),Ait s (by omega) (by omega)]
   exact ih (i+1) F _ (by omega) (by omega) (Ty hs Tk).1
theorem Ah.Iv.known:Ah.Iv.Kn:=Ah.Iv.Ad (.cons Ah.Add.known (.cons Ah.Mul.known .nil)) fun x y hp=>by
 obtain ⟨h1,hy⟩:=Ac.1 hp
 obtain ⟨hf,hx⟩:=Ac.1 h1
 refine ⟨x.length+1,Ah.Iv.out [.l x,.l y],[],?_,.int⟩
 rw [Ah.Iv.ev]
 exact Ae4 _ hf hx hy x.length 0 _ 0 (by omega) (by omega) (by decide)
theorem An0 (N:Nat) (x y:List Int) (hl:x.length=y.length) (hb:x.length<2^62):∀ (k i F:Nat),i+k=x.length→k<F →
 Ah.Fg.L0 N F x y (i:Int)=some (.bool (Vw (x.drop i) (y.drop i))):=by
 intro k
 induction k with
 | zero =>
   intro i F hi hF
   obtain ⟨F,rfl⟩:∃ G,F=G+1:=⟨F-1,by omega⟩
   rw [Ah.Fg.Au,Av,A4v (by omega),A4u,A44 (by omega),A44 (by omega)]
   rfl
 | succ k ih =>
   intro i F hi hF
   obtain ⟨F,rfl⟩:∃ G,F=G+1:=⟨F-1,by omega⟩
   have c1:decide ((i:Int)<(x.length:Int))=true:=A4r (by omega)
   have c2:decide ((i:Int)<(y.length:Int))=true:=A4r (by omega)
   have c3:decide ((0:Int)≤(i:Int))=true:=A4r (by omega)
   rw [Ah.Fg.Au,Av,c1,c2,c3,A4s,Wx (show i<x.length by omega),Wx (show i<y.length by omega)]
   unfold Vw
   by_cases h:x.getD i 0=y.getD i 0
   ·have:(x.getD i 0 !=y.getD i 0)=false:=by rw [h]; simp
    have ih:=ih (i+1) F (by omega) (by omega)
    unfold Vw at ih
    rw [this,A4w,A4q,A4q,A4q,A4u,An (by omega) (by omega)]
    refine ih.trans ?_
    rw [h]
    simp
   ·have:(x.getD i 0 !=y.getD i 0)=true:=by simpa using h
    rw [this,A4w,A4q,A4q,A4q,A4q]
    simp only [List.cons.injEq,h,false_and,decide_false]
theorem Ah.Fg.known:Ah.Fg.Kn:=Ah.Fg.Ad .nil fun x y hp=>by
 have hp:=Aq.1 (show Aao x=true from hp)
 refine ⟨x.length+1,Ah.Fg.out [.l x,.l y],[],?_,.bool⟩
 rw [Ah.Fg.ev]
 by_cases h:x.length=y.length
 ·have:((x.length:Int) !=(y.length:Int))=false:=by rw [h]; simp
  rw [this,A4u]
  exact An0 _ x y h (by omega) x.length 0 _ (by omega) (by omega)
 ·have:((x.length:Int) !=(y.length:Int))=true:=by simp only [bne_iff_ne,ne_eq]; omega
  rw [this,A4q]
  have e:Vw x y=false:=A4v fun k=>h (by rw [k])
  show _=some (DV.bool (Vw x y))
  rw [e]
namespace EqMat
def Aa.size.Ba:List (Nat × Entry):=[]
def Aa.size.E:Env:=Bg (Bb Aa.size.Ba) (fun _=>false) (fun _=>none) (fun _=>none)
theorem Aa.size.ev (N:Nat) (n:Int):B0 Aa.size.E N f164 (Ak f164) [.int .i64 n]=some (.bool (bif (Ex 0 n) then (Ex n 6) else false)) :=
 Eq.trans (by kernel_rfl)
 (Ay (R5 (Ex 0 n)) (Ay (Oo (Ex 0 n)) (Ay (W8 (Ex 0 n)) rfl)))
abbrev _root_.Go.Proofs.S1.Aa.size.Kn:=A8 prog 164 Aa.size.spec
theorem Aa.size.Ad (hk:A1 prog Aa.size.Ba) (h:Hyp Aa.size.E f164 Aa.size.ts Aa.size.pre Aa.size.out):Aa.size.Kn :=
 Al (A4 hk _ _ _) func164 (by kernel_rfl) (by kernel_rfl) h
def Aa.Check.Ba:List (Nat × Entry):=[(164,Aa.size.spec)]
def Aa.Check.E:Env:=Bg (Bb Aa.Check.Ba) (fun _=>false) (fun _=>none) (fun _=>none)
theorem Aa.Check.ev (N:Nat) (r c:Int) (l:List Int):B0 Aa.Check.E N f121 (Ak f121) [.agg [.int .i64 r,.int .i64 c,.ints .arg .u64 l]]=bif (((!(Bp r))||(!(Bp c)))||((length l:Int) !=(Ab (r*c)))) then some (.int .i64 1) else some (.int .i64 0) :=
 Eq.trans (by kernel_rfl)
 (Ay (Un (Bp r)) (Ay (Pz (Bp r)) (Ay (Pz (Bp r)) (Ay (Pz (Bp r)) (Ay (Xc (Bp r)) (Ay (Ago (Bp r) (Bp c)) (Ay (Anf (Bp r) (Bp c)) (Ay (Anf (Bp r) (Bp c)) (Ay (Ago (Bp r) (Bp c)) (Ay (Anf (Bp r) (Bp c)) (Ay (Ago (Bp r) (Bp c)) (Ay (Anf (Bp r) (Bp c)) (Ay (A1c (Bp r) (Bp c)) (Ay (A1c (Bp r) (Bp c)) (Ay (Ayo (Bp r) (Bp c)) (Cw (A3r _ _ _) rfl rfl))))))))))))))))
abbrev _root_.Go.Proofs.S1.Aa.Check.Kn:=A8 prog 121 Aa.Check.spec
theorem Aa.Check.Ad (hk:A1 prog Aa.Check.Ba) (h:Hyp Aa.Check.E f121 Aa.Check.ts Aa.Check.pre Aa.Check.out):Aa.Check.Kn :=
 Al (A4 hk _ _ _) func121 (by kernel_rfl) (by kernel_rfl) h
def Aa.get.Ba:List (Nat × Entry):=[]
def Aa.get.E:Env:=Bg (Bb Aa.get.Ba) (fun _=>false) (fun _=>none) (fun _=>none)
theorem Aa.get.ev (N:Nat) (r c:Int) (l:List Int) (i k:Int):B0 Aa.get.E N f119 (Ak f119) [.agg [.int .i64 r,.int .i64 c,.ints .arg .u64 l],.int .i64 i,.int .i64 k]=bif ((decide (0≤(Ab ((Ab (i*c))+k))))&&(decide ((Ab ((Ab (i*c))+k))<(length l:Int)))) then some (.int .u64 (getD l (toNat (Ab ((Ab (i*c))+k))) 0)) else none:=by kernel_rfl
abbrev _root_.Go.Proofs.S1.Aa.get.Kn:=A8 prog 119 Aa.get.spec
theorem Aa.get.Ad (hk:A1 prog Aa.get.Ba) (h:Hyp Aa.get.E f119 Aa.get.ts Aa.get.pre Aa.get.out):Aa.get.Kn :=
 Al (A4 hk _ _ _) func119 (by kernel_rfl) (by kernel_rfl) h
def Aa.two.Ba:List (Nat × Entry):=[(121,Aa.Check.spec)]
def Aa.two.E:Env:=Bg (Bb Aa.two.Ba) (fun _=>false) (fun _=>none) (fun _=>none)
theorem Aa.two.ev (N:Nat) (r c:Int) (l:List Int) (p q:Int) (m:List Int):B0 Aa.two.E N f116 (Ak f116) [.agg [.int .i64 r,.int .i64 c,.ints .arg .u64 l],.agg [.int .i64 p,.int .i64 q,.ints .arg .u64 m]]=bif (((Lt r c l) !=(0:Int))||((Lt p q m) !=(0:Int))) then some (.int .i64 1) else some (.int .i64 0) :=
 Eq.trans (by kernel_rfl)
 (Ay (T3 ((Lt r c l) !=(0:Int))) (Ay (Rv ((Lt r c l) !=(0:Int))) (Ay (Rv ((Lt r c l) !=(0:Int))) (Ay (Y5 ((Lt r c l) !=(0:Int))) (Cw (tt5 _ _) rfl rfl)))))
abbrev _root_.Go.Proofs.S1.Aa.two.Kn:=A8 prog 116 Aa.two.spec
theorem Aa.two.Ad (hk:A1 prog Aa.two.Ba) (h:Hyp Aa.two.E f116 Aa.two.ts Aa.two.pre Aa.two.out):Aa.two.Kn :=
 Al (A4 hk _ _ _) func116 (by kernel_rfl) (by kernel_rfl) h
def Aa.Row.Ba:List (Nat × Entry):=[]
def Aa.Row.E:Env:=Bg (Bb Aa.Row.Ba) (fun _=>false) (fun _=>none) (fun _=>none)
theorem Aa.Row.ev (N:Nat) (r c:Int) (l:List Int) (i f:Int):B0 Aa.Row.E N f135 (Ak f135) [.agg [.int .i64 r,.int .i64 c,.ints .arg .u64 l],.int .i64 i,.int .i64 f]=bif (((decide ((0:Int)≤(Ab ((Ab (i*c))+f))))&&(decide ((Ab ((Ab (i*c))+f))≤(Ab ((Ab (i+1))*c)))))&&((decide ((0:Int)≤(Ab ((Ab (i+1))*c))))&&(decide ((Ab ((Ab (i+1))*c))≤(length l:Int))))) then bif (decide (0+(length (List.drop (toNat (Ab ((Ab (i*c))+f))) (List.take (toNat (Ab ((Ab (i+1))*c))) l)))≤G8)) then some (.ints (.own 22 43) .u64 ([]++(List.drop (toNat (Ab ((Ab (i*c))+f))) (List.take (toNat (Ab ((Ab (i+1))*c))) l)))) else none else none :=
 Eq.trans (by kernel_rfl)
 (Cw (A3q _ _ _ _) rfl rfl)
abbrev _root_.Go.Proofs.S1.Aa.Row.Kn:=A8 prog 135 Aa.Row.spec
theorem Aa.Row.Ad (hk:A1 prog Aa.Row.Ba) (h:Hyp Aa.Row.E f135 Aa.Row.ts Aa.Row.pre Aa.Row.out):Aa.Row.Kn :=
 Al (A4 hk _ _ _) func135 (by kernel_rfl) (by kernel_rfl) h
def Aa.D3.hint:Nat→Option Bc
 | 0=>some { keep:=[1,3,7,8],objs:=[(0,7,100007,.ints 43 .u64 [])],boxes:=[3] }
 | _=>none
def Aa.D3.Ba:List (Nat × Entry):=[(119,Aa.get.spec)]
def Aa.D3.E:Env:=Bg (Bb Aa.D3.Ba) (fun _=>false) Aa.D3.hint (fun _=>none)
section
variable (N M:Nat) (r c:Int) (l:List Int) (k f p8:Int) (p7:List Int)
def Aa.D3.L0:Option DV:=Cb Aa.D3.E N f68 (Ak f68) [1,1,0,1,0] [] M ⟨Fo 24 [(1,.int .i64 k),(3,.ptr 3 0 0),(7,.oref 100007),(8,.int .i64 p8)],[(3,false,.box [.int .i64 r,.int .i64 c,.ints .arg .u64 l]),(100007,false,.ints 43 .u64 p7)]⟩
theorem Aa.D3.Au:Aa.D3.L0 N (M+1) r c l k p8 p7=bif (Bi p8 r) then bif (Em r c l p8 k) then bif (decide ((length p7)+1≤G8)) then Aa.D3.L0 N M r c l k (Ab (p8+1)) (p7++[(D8 c l p8 k)]) else none else none else some (.ints (.own 100007 43) .u64 p7):=by kernel_rfl
theorem Aa.D3.ev:B0 Aa.D3.E N f68 (Ak f68) [.agg [.int .i64 r,.int .i64 c,.ints .arg .u64 l],.int .i64 k,.int .i64 f] =
 Aa.D3.L0 N N r c l k f []:=by kernel_rfl
end
abbrev _root_.Go.Proofs.S1.Aa.D3.Kn:=A8 prog 68 Aa.D3.spec
theorem Aa.D3.Ad (hk:A1 prog Aa.D3.Ba) (h:Hyp Aa.D3.E f68 Aa.D3.ts Aa.D3.pre Aa.D3.out):Aa.D3.Kn :=
 Al (A4 hk _ _ _) func68 (by kernel_rfl) (by kernel_rfl) h
def Aa.Ez.Ba:List (Nat × Entry):=[]
def Aa.Ez.E:Env:=Bg (Bb Aa.Ez.Ba) (fun _=>false) (fun _=>none) (fun _=>none)
theorem Aa.Ez.ev (N:Nat) (i k:Int):B0 Aa.Ez.E N f193 (Ak f193) [.int .i64 i,.int .i64 k]=some (.int .u64 0):=by kernel_rfl
abbrev _root_.Go.Proofs.S1.Aa.Ez.Kn:=A8 prog 193 Aa.Ez.spec
theorem Aa.Ez.Ad (hk:A1 prog Aa.Ez.Ba) (h:Hyp Aa.Ez.E f193 Aa.Ez.ts Aa.Ez.pre Aa.Ez.out):Aa.Ez.Kn :=
 Al (A4 hk _ _ _) func193 (by kernel_rfl) (by kernel_rfl) h
def Aa.Iu.Ba:List (Nat × Entry):=[]
def Aa.Iu.E:Env:=Bg (Bb Aa.Iu.Ba) (fun _=>false) (fun _=>none) (fun _=>none)
theorem Aa.Iu.ev (N:Nat) (i k:Int):B0 Aa.Iu.E N f168 (Ak f168) [.int .i64 i,.int .i64 k]=bif (i==k) then some (.int .u64 4607182418800017408) else some (.int .u64 0):=by kernel_rfl
abbrev _root_.Go.Proofs.S1.Aa.Iu.Kn:=A8 prog 168 Aa.Iu.spec
theorem Aa.Iu.Ad (hk:A1 prog Aa.Iu.Ba) (h:Hyp Aa.Iu.E f168 Aa.Iu.ts Aa.Iu.pre Aa.Iu.out):Aa.Iu.Kn :=
 Al (A4 hk _ _ _) func168 (by kernel_rfl) (by kernel_rfl) h
def Aa.Gl.Ba:List (Nat × Entry):=[(119,Aa.get.spec)]
def Aa.Gl.E:Env:=Bg (Bb Aa.Gl.Ba) (fun _=>false) (fun _=>none) (fun _=>none)
theorem Aa.Gl.ev (N:Nat) (i k:Int) (r c:Int) (l:List Int):B0 Aa.Gl.E N f232 (Ak f232) [.int .i64 i,.int .i64 k,.cellp [.int .i64 r,.int .i64 c,.ints .arg .u64 l]]=bif (Em r c l k i) then some (.int .u64 (D8 c l k i)) else none:=by kernel_rfl
abbrev _root_.Go.Proofs.S1.Aa.Gl.Kn:=A8 prog 232 Aa.Gl.spec
theorem Aa.Gl.Ad (hk:A1 prog Aa.Gl.Ba) (h:Hyp Aa.Gl.E f232 Aa.Gl.ts Aa.Gl.pre Aa.Gl.out):Aa.Gl.Kn :=
 Al (A4 hk _ _ _) func232 (by kernel_rfl) (by kernel_rfl) h
def Aa.Gm.Ba:List (Nat × Entry):=[(119,Aa.get.spec)]
def Aa.Gm.E:Env:=Bg (Bb Aa.Gm.Ba) (fun _=>false) (fun _=>none) (fun _=>none)
theorem Aa.Gm.ev (N:Nat) (i k:Int) (r c:Int) (l:List Int) (x y:Int):B0 Aa.Gm.E N f122 (Ak f122) [.int .i64 i,.int .i64 k,.cellp [.int .i64 r,.int .i64 c,.ints .arg .u64 l],.cellp [.int .i64 x],.cellp [.int .i64 y]]=bif (Em r c l (Ab (x+i)) (Ab (y+k))) then some (.int .u64 (D8 c l (Ab (x+i)) (Ab (y+k)))) else none:=by kernel_rfl
abbrev _root_.Go.Proofs.S1.Aa.Gm.Kn:=A8 prog 122 Aa.Gm.spec
theorem Aa.Gm.Ad (hk:A1 prog Aa.Gm.Ba) (h:Hyp Aa.Gm.E f122 Aa.Gm.ts Aa.Gm.pre Aa.Gm.out):Aa.Gm.Kn :=
 Al (A4 hk _ _ _) func122 (by kernel_rfl) (by kernel_rfl) h
def Aa.E7.Ba:List (Nat × Entry):=[(119,Aa.get.spec)]
def Aa.E7.E:Env:=Bg (Bb Aa.E7.Ba) (fun _=>false) (fun _=>none) (fun _=>none)
theorem Aa.E7.ev (N:Nat) (i k:Int) (r c:Int) (l:List Int) (p q:Int) (m:List Int):B0 Aa.E7.E N f118 (Ak f118) [.int .i64 i,.int .i64 k,.cellp [.int .i64 r,.int .i64 c,.ints .arg .u64 l],.cellp [.int .i64 p,.int .i64 q,.ints .arg .u64 m]]=bif (Bi i r) then bif (Em r c l i k) then some (.int .u64 (D8 c l i k)) else none else bif (Em p q m (Ab (i-r)) k) then some (.int .u64 (D8 q m (Ab (i-r)) k)) else none:=by kernel_rfl
abbrev _root_.Go.Proofs.S1.Aa.E7.Kn:=A8 prog 118 Aa.E7.spec
theorem Aa.E7.Ad (hk:A1 prog Aa.E7.Ba) (h:Hyp Aa.E7.E f118 Aa.E7.ts Aa.E7.pre Aa.E7.out):Aa.E7.Kn :=
 Al (A4 hk _ _ _) func118 (by kernel_rfl) (by kernel_rfl) h
def Aa.Iq.Ba:List (Nat × Entry):=[(68,Aa.D3.spec),(135,Aa.Row.spec),(134,Ae.Iv.spec)]
def Aa.Iq.E:Env:=Bg (Bb Aa.Iq.Ba) (fun _=>false) (fun _=>none) (fun _=>none)
theorem Aa.Iq.ev (N:Nat) (i k:Int) (r c:Int) (l:List Int) (p q:Int) (m:List Int):B0 Aa.Iq.E N f133 (Ak f133) [.int .i64 i,.int .i64 k,.cellp [.int .i64 r,.int .i64 c,.ints .arg .u64 l],.cellp [.int .i64 p,.int .i64 q,.ints .arg .u64 m]]=bif (Ae2 r c l i&&decide ((0:Int)=0)) then bif (Hh p q m k&&B3 (0≤(0:Int)∧(0:Int)≤p)) then bif ((O5 (Q7 c l i) (Cn q m k 0 (toNat (p-0)))&&Aj (Q7 c l i))&&Aj (Cn q m k 0 (toNat (p-0)))) then some (.int .u64 (Ik (Q7 c l i) (Cn q m k 0 (toNat (p-0))))) else none else none else none :=
 Eq.trans (by kernel_rfl)
 (Cw (Ct _) (Cw (Ct _) (Cw (Ct _) rfl rfl) rfl) rfl)
abbrev _root_.Go.Proofs.S1.Aa.Iq.Kn:=A8 prog 133 Aa.Iq.spec
theorem Aa.Iq.Ad (hk:A1 prog Aa.Iq.Ba) (h:Hyp Aa.Iq.E f133 Aa.Iq.ts Aa.Iq.pre Aa.Iq.out):Aa.Iq.Kn :=
 Al (A4 hk _ _ _) func133 (by kernel_rfl) (by kernel_rfl) h
end EqMat
open EqMat
theorem L7 {a b:Int} (h1:0≤a) (h2:a<20) (h3:0≤b) (h4:b<20):0≤a*b∧a*b<400:=by
 have:=Int.mul_nonneg h1 h3
 have h5:a*b≤19*19:=Int.mul_le_mul (by omega) (by omega) h3 (by omega)
 omega
theorem Aa.size.known:Aa.size.Kn:=Aa.size.Ad .nil fun n _=>by
 refine ⟨0,Aa.size.out [.i n],[],?_,.bool⟩
 have e:(bif (Ex (0:Int) n) then (Ex n (6:Int)) else false)=Bp n:=by
  unfold Bp
  rw [Fb,Fb]
  cases decide (0≤n)<;>rfl
 rw [Aa.size.ev,e]; rfl
theorem Aix (r c:Int) (l:List Int):(((!(Bp r))||(!(Bp c)))||((length l:Int) !=(Ab (r*c))))=!(A3 r c l):=by
 unfold A3
 cases h1:Bp r with
 | false=>rfl
 | true =>
   cases h2:Bp c with
   | false=>rfl
   | true =>
     obtain ⟨r1,r2⟩:=Jd.1 h1
     obtain ⟨c1,c2⟩:=Jd.1 h2
     have:=L7 (a:=r) (b:=c) r1 (by omega) c1 (by omega)
     rw [An (by omega) (by omega),A46]
     simp
theorem Aa.Check.known:Aa.Check.Kn:=Aa.Check.Ad (.cons Aa.size.known .nil) fun r c l _=>by
 refine ⟨0,Aa.Check.out [.i r,.i c,.l l],[],?_,.int⟩
 rw [Aa.Check.ev,Aix]
 show _=some (DV.int .i64 (Lt r c l))
 unfold Lt
 cases A3 r c l<;>rfl
theorem Mr {c i k:Int} {l:List Int} {R:Int} (h:Em R c l i k=true):Ab (Ab (i*c)+k)=i*c+k∧0≤i*c+k∧i*c+k<l.length:=by
 obtain ⟨h1,h2,h3,h4,h5,h6,h7,_⟩:=Aq.1 h
 have:=L7 h1 (by omega) h5 (by omega)
 rw [An (x:=i*c) (by omega) (by omega),An (by omega) (by omega)]
 omega
theorem Aa.get.known:Aa.get.Kn:=Aa.get.Ad .nil fun r c l i k hp=>by
 obtain ⟨e,h1,h2⟩:=Mr (R:=r) (show Em r c l i k=true from hp)
 refine ⟨0,Aa.get.out [.i r,.i c,.l l,.i i,.i k],[],?_,.int⟩
 rw [Aa.get.ev,e,A4r h1,A4r h2]
 rfl
theorem Va (r c:Int) (l:List Int):((Lt r c l) !=(0:Int))=!(A3 r c l):=by
 unfold Lt
 cases A3 r c l<;>rfl
theorem Aa.two.known:Aa.two.Kn:=Aa.two.Ad (.cons Aa.Check.known .nil) fun r c l p q m _=>by
 refine ⟨0,Aa.two.out [.i r,.i c,.l l,.i p,.i q,.l m],[],?_,.int⟩
 rw [Aa.two.ev,Va,Va]
 show _=some (DV.int .i64 (Xb r c l p q m))
 unfold Xb
 cases A3 r c l<;>cases A3 p q m<;>rfl
theorem Aa.Row.known:Aa.Row.Kn:=Aa.Row.Ad .nil fun r c l i f hp=>by
 obtain ⟨h0,hf⟩:=Ac.1 hp
 obtain rfl:=A5g hf
 obtain ⟨hr,hi⟩:=Ac.1 h0
 have hi:=Aq.1 hi
 obtain ⟨R,C,rfl,rfl,r6,c6,hl⟩:=Cu hr
 obtain ⟨I,rfl⟩:∃ k:Nat,i=k:=⟨i.toNat,by omega⟩
 have hm:=L7 (a:=(I:Int)) (b:=(C:Int)) (by omega) (by omega) (by omega) (by omega)
 have hm2:=L7 (a:=(I:Int)+1) (b:=(C:Int)) (by omega) (by omega) (by omega) (by omega)
 have hle:(I+1)*C≤R*C:=A42 C (by omega)
 have hle2:I*C≤(I+1)*C:=A42 C (by omega)
 have e1:(I:Int)*(C:Int)=((I*C:Nat):Int):=(A5b _ _).symm
 have e2:((I:Int)+1)*(C:Int)=(((I+1)*C:Nat):Int):=by rw [A5b]; rfl
 refine ⟨0,.ints (.own 22 tB) .u64 (Q7 (C:Int) l (I:Int)),[22],?_,.drop _ _ _ _ (List.mem_singleton.2 rfl)⟩
 rw [Aa.Row.ev,An (x:=(I:Int)+1) (by omega) (by omega),An (x:=(I:Int)*(C:Int)) (by omega) (by omega),Int.add_zero,An (x:=(I:Int)*(C:Int)) (by omega) (by omega),An (x:=((I:Int)+1)*(C:Int)) (by omega) (by omega)]
 unfold Q7
 have d1:decide ((0:Int)≤(I:Int)*(C:Int))=true:=A4r (by omega)
 have d2:decide ((I:Int)*(C:Int)≤((I:Int)+1)*(C:Int))=true:=A4r (by rw [e1,e2]; omega)
 have d3:decide ((0:Int)≤((I:Int)+1)*(C:Int))=true:=A4r (by omega)
 have d4:decide (((I:Int)+1)*(C:Int)≤(l.length:Int))=true:=A4r (by rw [e2]; omega)
 have d5:decide (0+(List.drop ((I:Int)*(C:Int)).toNat (List.take (((I:Int)+1)*(C:Int)).toNat l)).length≤G8)=true:=by
  refine A4r ?_
  rw [List.length_drop,List.length_take]
  unfold G8
  omega
 rw [d1,d2,d3,d4,d5]
 rfl
theorem Ky (c b i:Int) (n:Nat) (l:List Int):(Cn c l b i n).length=n:=by unfold Cn; rw [A5w,A5t]
theorem Aw3 (r c:Int) (l:List Int) (k:Int):Cn c l k 0 (toNat (r-0))=U9 r c l k:=by
 unfold Cn U9
 rw [Int.sub_zero]
 refine List.map_congr_left fun j _=>?_
 rw [Int.zero_add]
theorem Ajd {r:Int} (h:0≤r):B3 (0≤(0:Int)∧0≤r)=true:=Aq.2 ⟨Int.le_refl _,h⟩
theorem Aty (N:Nat) {R C K f:Nat} {l:List Int} (r6:R≤6) (c6:C≤6) (hl:l.length=R*C) (hk:K<C):∀ (k i F:Nat),f+i+k=R→k<F →
 Aa.D3.L0 N F (R:Int) (C:Int) l (K:Int) ((f+i:Nat):Int) (Cn (C:Int) l (K:Int) (f:Int) i)=some (.ints (.own 100007 tB) .u64 (Cn (C:Int) l (K:Int) (f:Int) (R-f))):=by
 intro k
 induction k with
 | zero =>
   intro i F hi hF
   obtain ⟨F,rfl⟩:∃ G,F=G+1:=⟨F-1,by omega⟩
   rw [Aa.D3.Au,Av,A4v (by omega),A4u,show R-f=i by omega]
 | succ k ih =>
   intro i F hi hF
   obtain ⟨F,rfl⟩:∃ G,F=G+1:=⟨F-1,by omega⟩
   have d:decide ((Cn (C:Int) l (K:Int) (f:Int) i).length+1≤G8)=true:=A4r (by rw [Ky]; unfold G8; omega)
   rw [Aa.D3.Au,Av,A4r (by omega),A4q,Fa r6 c6 hl (show f+i<R by omega) hk,A4q,d,A4q,An (by omega) (by omega)]
   have:=ih (i+1) F (by omega) (by omega)
   unfold Cn at this ⊢
   rw [List.range_succ,List.map_append] at this
   exact this
theorem Aa.D3.known:Aa.D3.Kn:=Aa.D3.Ad (.cons Aa.get.known .nil) fun r c l k f hp=>by
 obtain ⟨h0,hf⟩:=Ac.1 (show (Hh r c l k&&B3 (0≤f∧f≤r))=true from hp)
 have hf:=Aq.1 hf
 obtain ⟨hr,hi⟩:=Ac.1 h0
 have hi:=Aq.1 hi
 obtain ⟨R,C,rfl,rfl,r6,c6,hl⟩:=Cu hr
 obtain ⟨K,rfl⟩:∃ j:Nat,k=j:=⟨k.toNat,by omega⟩
 obtain ⟨f,rfl⟩:∃ j:Nat,f=j:=⟨f.toNat,by omega⟩
 refine ⟨8,.ints (.own 100007 tB) .u64 (Cn (C:Int) l (K:Int) (f:Int) (R-f)),[100007],?_,?_⟩
 ·rw [Aa.D3.ev]
  exact Aty 8 r6 c6 hl (by omega) (R-f) 0 8 (by omega) (by omega)
 ·show Wk _ _ (DV.ints .fresh .u64 (Cn (C:Int) l (K:Int) (f:Int) (toNat ((R:Int)-(f:Int)))))
  rw [show toNat ((R:Int)-(f:Int))=R-f by omega]
  exact .drop _ _ _ _ (List.mem_singleton.2 rfl)
theorem Lc {r c i k:Int} {l:List Int} (h:A3 r c l=true) (h1:0≤i) (h2:i<r) (h3:0≤k) (h4:k<c) (R:Int):Em R c l i k=true:=by
 obtain ⟨R',C,rfl,rfl,r6,c6,hl⟩:=Cu h
 obtain ⟨I,rfl⟩:∃ j:Nat,i=j:=⟨i.toNat,by omega⟩
 obtain ⟨K,rfl⟩:∃ j:Nat,k=j:=⟨k.toNat,by omega⟩
 exact Fa r6 c6 hl (by omega) (by omega)
theorem Aa.Ez.known:Aa.Ez.Kn:=Aa.Ez.Ad .nil fun i k _=>by
 refine ⟨0,Aa.Ez.out [.i i,.i k],[],?_,.int⟩
 rw [Aa.Ez.ev]; rfl
theorem Aa.Iu.known:Aa.Iu.Kn:=Aa.Iu.Ad .nil fun i k _=>by
 refine ⟨0,Aa.Iu.out [.i i,.i k],[],?_,.int⟩
 rw [Aa.Iu.ev]
 show _=some (DV.int .u64 (N7 i k))
 unfold N7
 by_cases h:i=k
 ·have:(i==k)=true:=by rw [h]; simp
  rw [this,A5d h]; rfl
 ·have:(i==k)=false:=by simpa using h
  rw [this,A5c h]; rfl
theorem Aa.Gl.known:Aa.Gl.Kn:=Aa.Gl.Ad (.cons Aa.get.known .nil) fun i k r c l hp=>by
 have hp:Em r c l k i=true:=hp
 refine ⟨0,Aa.Gl.out [.i i,.i k,.i r,.i c,.l l],[],?_,.int⟩
 rw [Aa.Gl.ev,hp]; rfl
theorem Aa.Gm.known:Aa.Gm.Kn:=Aa.Gm.Ad (.cons Aa.get.known .nil) fun i k r c l x y hp=>by
 obtain ⟨h1,h2⟩:=Ac.1 hp
 have h2:=Aq.1 h2
 refine ⟨0,Aa.Gm.out [.i i,.i k,.i r,.i c,.l l,.i x,.i y],[],?_,.int⟩
 rw [Aa.Gm.ev,An (x:=x+i) (by omega) (by omega),An (x:=y+k) (by omega) (by omega),h1]; rfl
theorem Aa.E7.known:Aa.E7.Kn:=Aa.E7.Ad (.cons Aa.get.known .nil) fun i k r c l p q m hp=>by
 obtain ⟨h1,h2,h3,h4,h5⟩:=Aq.1 (show Qd r c l p q m i k=true from hp)
 refine ⟨0,Aa.E7.out [.i i,.i k,.i r,.i c,.l l,.i p,.i q,.l m],[],?_,.int⟩
 show _=some (DV.int .u64 (Jr r c l q m i k))
 rw [Aa.E7.ev,Av,An (x:=i-r) (by omega) (by omega)]
 unfold Jr
 by_cases h:i<r
 ·rw [A5d h] at h5
  rw [A4r h,A4q,h5,A4q,A5d h]
 ·rw [A5c h] at h5
  rw [A4v h,A4u,h5,A4q,A5c h]
theorem Aae {R C:Nat} {l:List Int} (hl:l.length=R*C) {I:Nat} (hi:I<R):(Q7 (C:Int) l (I:Int)).length=C:=by
 have hle:(I+1)*C≤R*C:=A42 C (by omega)
 have e1:((I:Int)*(C:Int)).toNat=I*C:=by rw [← A5b,A4s]
 have e2:(((I:Int)+1)*(C:Int)).toNat=(I+1)*C:=by
  have:((I:Int)+1)*(C:Int)=(((I+1)*C:Nat):Int):=by rw [A5b]; rfl
  rw [this,A4s]
 unfold Q7
 rw [List.length_drop,List.length_take,e1,e2]
 rw [A5u,Nat.one_mul] at hle ⊢
 omega
theorem Ak4 (R:Nat) (C:Int) (l:List Int) (K:Int):(U9 (R:Int) C l K).length=R:=by
 unfold U9
 rw [A5w,A5t,A4s]
theorem Avp {c i:Int} {l:List Int} (h:Aj l=true):Aj (Q7 c l i)=true:=by
 have h:=Aq.1 h
 exact Aq.2 fun x hx=>h x (List.mem_of_mem_take (List.mem_of_mem_drop hx))
theorem Sy {c i k:Int} {l:List Int} (h:Aj l=true):Af (D8 c l i k)=true:=by
 unfold D8
 by_cases hj:(i*c+k).toNat<l.length
 ·exact Tw h hj
 ·rw [A40,A58 (by omega)]
  exact Cm (n:=0) (by decide)
theorem Aw4 {r c k:Int} {l:List Int} (h:Aj l=true):Aj (U9 r c l k)=true:=by
 refine Aq.2 fun x hx=>?_
 obtain ⟨j,_,rfl⟩:=List.mem_map.1 hx
 exact Sy h
theorem Aa.Iq.known:Aa.Iq.Kn:=Aa.Iq.Ad (.cons Aa.D3.known (.cons Aa.Row.known (.cons Ae.Iv.known .nil))) fun i k r c l p q m hp=>by
 obtain ⟨h1,h2⟩:=Ac.1 (show Xw r c l p q m i k=true from hp)
 obtain ⟨h3,h4⟩:=Ac.1 h1
 obtain ⟨h5,h6⟩:=Ac.1 h2
 obtain ⟨hl,hm⟩:=Ac.1 h5
 obtain rfl:=Aq.1 h6
 obtain ⟨hr,hi⟩:=Ac.1 h3
 have hi:=Aq.1 hi
 obtain ⟨R,C,rfl,rfl,r6,c6,ll⟩:=Cu hr
 obtain ⟨I,rfl⟩:∃ j:Nat,i=j:=⟨i.toNat,by omega⟩
 refine ⟨0,Aa.Iq.out [.i I,.i k,.i R,.i C,.l l,.i C,.i q,.l m],[],?_,.int⟩
 have hf:O5 (Q7 (C:Int) l (I:Int)) (U9 (C:Int) q m k)=true:=Zo.2 ⟨by rw [Aae ll (by omega),Ak4],by rw [Aae ll (by omega)]; omega⟩
 rw [Aa.Iq.ev,Aw3,h3,h4,hf,Avp hl,Aw4 hm,Ajd (by omega)]
 rfl
namespace EqOf
def Aa.of.A9.hint:Nat→Option Bc
 | 0=>some { keep:=[1,2,6,7,13,14],objs:=[(8,2,108002,.ints 43 .u64 [])],boxes:=[6,7] }
 | 2=>some { keep:=[1,2,6,7,8,13,14,17,18],objs:=[(8,2,108002,.ints 43 .u64 [])],boxes:=[6,7] }
 | _=>none
def Aa.of.A9.Ba:List (Nat × Entry):=[(193,Aa.Ez.spec)]
def Aa.of.A9.E:Env:=Bg (Bb Aa.of.A9.Ba) (fun _=>false) Aa.of.A9.hint (fun _=>none)
section
variable (N M0 M:Nat) (a b p8 p14_1 p18:Int) (p2:List Int) (p14:Int) (p2_1:List Int)
def Aa.of.A9.L0:Option DV:=Cb Aa.of.A9.E N f117 (Ak f117) [1,1,0,1,0] [] M ⟨Fo 33 [(1,.int .i64 b),(2,.fn 193 [] []),(6,.ptr 6 0 0),(7,.ptr 7 0 0),(13,.int .i64 a),(14,.int .i64 p14)],[(6,false,.box [.int .i64 0,.int .i64 0,.nil]),(7,false,.box [.int .i64 a,.int .i64 b,.oref 108002]),(108002,false,.ints 43 .u64 p2_1)]⟩
def Aa.of.A9.L1:Option DV:=Cb Aa.of.A9.E N f117 (Ak f117) [1,1,0,1,0,0,1,1,0,0,1,1,0] [M0] M ⟨Fo 33 [(1,.int .i64 b),(2,.fn 193 [] []),(6,.ptr 6 0 0),(7,.ptr 7 0 0),(8,.int .i64 p8),(13,.int .i64 a),(14,.int .i64 p14_1),(17,.int .i64 b),(18,.int .i64 p18)],[(6,false,.box [.int .i64 0,.int .i64 0,.nil]),(7,false,.box [.int .i64 a,.int .i64 b,.oref 108002]),(108002,false,.ints 43 .u64 p2)]⟩
theorem Aa.of.A9.Au:Aa.of.A9.L0 N (M+1) a b p14 p2_1=bif (Bi p14 a) then Aa.of.A9.L1 N M N a b p14 p14 0 p2_1 else some (.agg [.int .i64 a,.int .i64 b,.ints (.own 108002 43) .u64 p2_1]):=by kernel_rfl
theorem Aa.of.A9.Ch:Aa.of.A9.L1 N M0 (M+1) a b p8 p14_1 p18 p2=bif (Bi p18 b) then bif (decide ((length p2)+1≤G8)) then Aa.of.A9.L1 N M0 M a b p8 p14_1 (Ab (p18+1)) (p2++[(0:Int)]) else none else Aa.of.A9.L0 N M0 a b (Ab (p14_1+1)) p2 :=
 Eq.trans (by kernel_rfl)
 (E1 (Cw (Ct _) rfl rfl) rfl)
theorem Aa.of.A9.ev:B0 Aa.of.A9.E N f117 (Ak f117) [.int .i64 a,.int .i64 b,.fn 193 [] []] =
 Aa.of.A9.L0 N N a b 0 []:=by kernel_rfl
end
abbrev _root_.Go.Proofs.S1.Aa.of.A9.Kn:=A8 prog 117 Aa.of.A9.spec
theorem Aa.of.A9.Ad (hk:A1 prog Aa.of.A9.Ba) (h:Hyp Aa.of.A9.E f117 Aa.of.A9.ts Aa.of.A9.pre Aa.of.A9.out):Aa.of.A9.Kn :=
 Al (A4 hk _ _ _) func117 (by kernel_rfl) (by kernel_rfl) h
def Aa.of.Ff.hint:Nat→Option Bc
 | 0=>some { keep:=[1,2,6,7,13,14],objs:=[(8,2,108002,.ints 43 .u64 [])],boxes:=[6,7] }
 | 2=>some { keep:=[1,2,6,7,8,13,14,17,18],objs:=[(8,2,108002,.ints 43 .u64 [])],boxes:=[6,7] }
 | _=>none
def Aa.of.Ff.Ba:List (Nat × Entry):=[(168,Aa.Iu.spec)]
def Aa.of.Ff.E:Env:=Bg (Bb Aa.of.Ff.Ba) (fun _=>false) Aa.of.Ff.hint (fun _=>none)
section
variable (N M0 M:Nat) (a b p8 p14_1 p18:Int) (p2:List Int) (p14:Int) (p2_1:List Int)
def Aa.of.Ff.L0:Option DV:=Cb Aa.of.Ff.E N f117 (Ak f117) [1,1,0,1,0] [] M ⟨Fo 33 [(1,.int .i64 b),(2,.fn 168 [] []),(6,.ptr 6 0 0),(7,.ptr 7 0 0),(13,.int .i64 a),(14,.int .i64 p14)],[(6,false,.box [.int .i64 0,.int .i64 0,.nil]),(7,false,.box [.int .i64 a,.int .i64 b,.oref 108002]),(108002,false,.ints 43 .u64 p2_1)]⟩
def Aa.of.Ff.L1:Option DV:=Cb Aa.of.Ff.E N f117 (Ak f117) [1,1,0,1,0,0,1,1,0,0,1,1,0] [M0] M ⟨Fo 33 [(1,.int .i64 b),(2,.fn 168 [] []),(6,.ptr 6 0 0),(7,.ptr 7 0 0),(8,.int .i64 p8),(13,.int .i64 a),(14,.int .i64 p14_1),(17,.int .i64 b),(18,.int .i64 p18)],[(6,false,.box [.int .i64 0,.int .i64 0,.nil]),(7,false,.box [.int .i64 a,.int .i64 b,.oref 108002]),(108002,false,.ints 43 .u64 p2)]⟩
theorem Aa.of.Ff.Au:Aa.of.Ff.L0 N (M+1) a b p14 p2_1=bif (Bi p14 a) then Aa.of.Ff.L1 N M N a b p14 p14 0 p2_1 else some (.agg [.int .i64 a,.int .i64 b,.ints (.own 108002 43) .u64 p2_1]):=by kernel_rfl
theorem Aa.of.Ff.Ch:Aa.of.Ff.L1 N M0 (M+1) a b p8 p14_1 p18 p2=bif (Bi p18 b) then bif (decide ((length p2)+1≤G8)) then Aa.of.Ff.L1 N M0 M a b p8 p14_1 (Ab (p18+1)) (p2++[(N7 p8 p18)]) else none else Aa.of.Ff.L0 N M0 a b (Ab (p14_1+1)) p2 :=
 Eq.trans (by kernel_rfl)
 (E1 (Cw (Ct _) rfl rfl) rfl)
theorem Aa.of.Ff.ev:B0 Aa.of.Ff.E N f117 (Ak f117) [.int .i64 a,.int .i64 b,.fn 168 [] []] =
 Aa.of.Ff.L0 N N a b 0 []:=by kernel_rfl
end
abbrev _root_.Go.Proofs.S1.Aa.of.Ff.Kn:=A8 prog 117 Aa.of.Ff.spec
theorem Aa.of.Ff.Ad (hk:A1 prog Aa.of.Ff.Ba) (h:Hyp Aa.of.Ff.E f117 Aa.of.Ff.ts Aa.of.Ff.pre Aa.of.Ff.out):Aa.of.Ff.Kn :=
 Al (A4 hk _ _ _) func117 (by kernel_rfl) (by kernel_rfl) h
def Aa.of.Cv.hint:Nat→Option Bc
 | 0=>some { keep:=[1,2,6,7,13,14],objs:=[(8,2,108002,.ints 43 .u64 [])],boxes:=[6,7] }
 | 2=>some { keep:=[1,2,6,7,8,13,14,17,18],objs:=[(8,2,108002,.ints 43 .u64 [])],boxes:=[6,7] }
 | _=>none
def Aa.of.Cv.Ba:List (Nat × Entry):=[(232,Aa.Gl.spec)]
def Aa.of.Cv.E:Env:=Bg (Bb Aa.of.Cv.Ba) (fun _=>false) Aa.of.Cv.hint (fun _=>none)
section
variable (N M0 M:Nat) (a b r c:Int) (l:List Int) (p8 p14_1 p18:Int) (p2:List Int) (p14:Int) (p2_1:List Int)
def Aa.of.Cv.L0:Option DV:=Cb Aa.of.Cv.E N f117 (Ak f117) [1,1,0,1,0] [] M ⟨Fo 33 [(1,.int .i64 b),(2,.fn 232 [] [.cellp [.int .i64 r,.int .i64 c,.ints .arg .u64 l]]),(6,.ptr 6 0 0),(7,.ptr 7 0 0),(13,.int .i64 a),(14,.int .i64 p14)],[(6,false,.box [.int .i64 0,.int .i64 0,.nil]),(7,false,.box [.int .i64 a,.int .i64 b,.oref 108002]),(108002,false,.ints 43 .u64 p2_1)]⟩
def Aa.of.Cv.L1:Option DV:=Cb Aa.of.Cv.E N f117 (Ak f117) [1,1,0,1,0,0,1,1,0,0,1,1,0] [M0] M ⟨Fo 33 [(1,.int .i64 b),(2,.fn 232 [] [.cellp [.int .i64 r,.int .i64 c,.ints .arg .u64 l]]),(6,.ptr 6 0 0),(7,.ptr 7 0 0),(8,.int .i64 p8),(13,.int .i64 a),(14,.int .i64 p14_1),(17,.int .i64 b),(18,.int .i64 p18)],[(6,false,.box [.int .i64 0,.int .i64 0,.nil]),(7,false,.box [.int .i64 a,.int .i64 b,.oref 108002]),(108002,false,.ints 43 .u64 p2)]⟩
theorem Aa.of.Cv.Au:Aa.of.Cv.L0 N (M+1) a b r c l p14 p2_1=bif (Bi p14 a) then Aa.of.Cv.L1 N M N a b r c l p14 p14 0 p2_1 else some (.agg [.int .i64 a,.int .i64 b,.ints (.own 108002 43) .u64 p2_1]):=by kernel_rfl
theorem Aa.of.Cv.Ch:Aa.of.Cv.L1 N M0 (M+1) a b r c l p8 p14_1 p18 p2=bif (Bi p18 b) then bif (Em r c l p18 p8) then bif (decide ((length p2)+1≤G8)) then Aa.of.Cv.L1 N M0 M a b r c l p8 p14_1 (Ab (p18+1)) (p2++[(D8 c l p18 p8)]) else none else none else Aa.of.Cv.L0 N M0 a b r c l (Ab (p14_1+1)) p2 :=
 Eq.trans (by kernel_rfl)
 (E1 (Cw (Ct _) (Cw (Ct _) rfl rfl) rfl) rfl)
theorem Aa.of.Cv.ev:B0 Aa.of.Cv.E N f117 (Ak f117) [.int .i64 a,.int .i64 b,.fn 232 [] [.cellp [.int .i64 r,.int .i64 c,.ints .arg .u64 l]]] =
 Aa.of.Cv.L0 N N a b r c l 0 []:=by kernel_rfl
end
abbrev _root_.Go.Proofs.S1.Aa.of.Cv.Kn:=A8 prog 117 Aa.of.Cv.spec
theorem Aa.of.Cv.Ad (hk:A1 prog Aa.of.Cv.Ba) (h:Hyp Aa.of.Cv.E f117 Aa.of.Cv.ts Aa.of.Cv.pre Aa.of.Cv.out):Aa.of.Cv.Kn :=
 Al (A4 hk _ _ _) func117 (by kernel_rfl) (by kernel_rfl) h
def Aa.of.Part.hint:Nat→Option Bc
 | 0=>some { keep:=[1,2,6,7,13,14],objs:=[(8,2,108002,.ints 43 .u64 [])],boxes:=[6,7] }
 | 2=>some { keep:=[1,2,6,7,8,13,14,17,18],objs:=[(8,2,108002,.ints 43 .u64 [])],boxes:=[6,7] }
 | _=>none
def Aa.of.Part.Ba:List (Nat × Entry):=[(122,Aa.Gm.spec)]
def Aa.of.Part.E:Env:=Bg (Bb Aa.of.Part.Ba) (fun _=>false) Aa.of.Part.hint (fun _=>none)
section
variable (N M0 M:Nat) (a b r c:Int) (l:List Int) (x y p8 p14_1 p18:Int) (p2:List Int) (p14:Int) (p2_1:List Int)
def Aa.of.Part.L0:Option DV:=Cb Aa.of.Part.E N f117 (Ak f117) [1,1,0,1,0] [] M ⟨Fo 33 [(1,.int .i64 b),(2,.fn 122 [] [.cellp [.int .i64 r,.int .i64 c,.ints .arg .u64 l],.cellp [.int .i64 x],.cellp [.int .i64 y]]),(6,.ptr 6 0 0),(7,.ptr 7 0 0),(13,.int .i64 a),(14,.int .i64 p14)],[(6,false,.box [.int .i64 0,.int .i64 0,.nil]),(7,false,.box [.int .i64 a,.int .i64 b,.oref 108002]),(108002,false,.ints 43 .u64 p2_1)]⟩
def Aa.of.Part.L1:Option DV:=Cb Aa.of.Part.E N f117 (Ak f117) [1,1,0,1,0,0,1,1,0,0,1,1,0] [M0] M ⟨Fo 33 [(1,.int .i64 b),(2,.fn 122 [] [.cellp [.int .i64 r,.int .i64 c,.ints .arg .u64 l],.cellp [.int .i64 x],.cellp [.int .i64 y]]),(6,.ptr 6 0 0),(7,.ptr 7 0 0),(8,.int .i64 p8),(13,.int .i64 a),(14,.int .i64 p14_1),(17,.int .i64 b),(18,.int .i64 p18)],[(6,false,.box [.int .i64 0,.int .i64 0,.nil]),(7,false,.box [.int .i64 a,.int .i64 b,.oref 108002]),(108002,false,.ints 43 .u64 p2)]⟩
theorem Aa.of.Part.Au:Aa.of.Part.L0 N (M+1) a b r c l x y p14 p2_1=bif (Bi p14 a) then Aa.of.Part.L1 N M N a b r c l x y p14 p14 0 p2_1 else some (.agg [.int .i64 a,.int .i64 b,.ints (.own 108002 43) .u64 p2_1]):=by kernel_rfl
theorem Aa.of.Part.Ch:Aa.of.Part.L1 N M0 (M+1) a b r c l x y p8 p14_1 p18 p2=bif (Bi p18 b) then bif (Em r c l (x+p8) (y+p18)&&Z6 x y p8 p18) then bif (decide ((length p2)+1≤G8)) then Aa.of.Part.L1 N M0 M a b r c l x y p8 p14_1 (Ab (p18+1)) (p2++[(D8 c l (x+p8) (y+p18))]) else none else none else Aa.of.Part.L0 N M0 a b r c l x y (Ab (p14_1+1)) p2 :=
 Eq.trans (by kernel_rfl)
 (E1 (Cw (Ct _) (Cw (Ct _) rfl rfl) rfl) rfl)
theorem Aa.of.Part.ev:B0 Aa.of.Part.E N f117 (Ak f117) [.int .i64 a,.int .i64 b,.fn 122 [] [.cellp [.int .i64 r,.int .i64 c,.ints .arg .u64 l],.cellp [.int .i64 x],.cellp [.int .i64 y]]] =
 Aa.of.Part.L0 N N a b r c l x y 0 []:=by kernel_rfl
end
abbrev _root_.Go.Proofs.S1.Aa.of.Part.Kn:=A8 prog 117 Aa.of.Part.spec
theorem Aa.of.Part.Ad (hk:A1 prog Aa.of.Part.Ba) (h:Hyp Aa.of.Part.E f117 Aa.of.Part.ts Aa.of.Part.pre Aa.of.Part.out):Aa.of.Part.Kn :=
 Al (A4 hk _ _ _) func117 (by kernel_rfl) (by kernel_rfl) h
def Aa.of.Stack.hint:Nat→Option Bc
 | 0=>some { keep:=[1,2,6,7,13,14],objs:=[(8,2,108002,.ints 43 .u64 [])],boxes:=[6,7] }
 | 2=>some { keep:=[1,2,6,7,8,13,14,17,18],objs:=[(8,2,108002,.ints 43 .u64 [])],boxes:=[6,7] }
 | _=>none
def Aa.of.Stack.Ba:List (Nat × Entry):=[(118,Aa.E7.spec)]
def Aa.of.Stack.E:Env:=Bg (Bb Aa.of.Stack.Ba) (fun _=>false) Aa.of.Stack.hint (fun _=>none)
section
variable (N M0 M:Nat) (a b r c:Int) (l:List Int) (p q:Int) (m:List Int) (p8 p14_1 p18:Int) (p2:List Int) (p14:Int) (p2_1:List Int)
def Aa.of.Stack.L0:Option DV:=Cb Aa.of.Stack.E N f117 (Ak f117) [1,1,0,1,0] [] M ⟨Fo 33 [(1,.int .i64 b),(2,.fn 118 [] [.cellp [.int .i64 r,.int .i64 c,.ints .arg .u64 l],.cellp [.int .i64 p,.int .i64 q,.ints .arg .u64 m]]),(6,.ptr 6 0 0),(7,.ptr 7 0 0),(13,.int .i64 a),(14,.int .i64 p14)],[(6,false,.box [.int .i64 0,.int .i64 0,.nil]),(7,false,.box [.int .i64 a,.int .i64 b,.oref 108002]),(108002,false,.ints 43 .u64 p2_1)]⟩
def Aa.of.Stack.L1:Option DV:=Cb Aa.of.Stack.E N f117 (Ak f117) [1,1,0,1,0,0,1,1,0,0,1,1,0] [M0] M ⟨Fo 33 [(1,.int .i64 b),(2,.fn 118 [] [.cellp [.int .i64 r,.int .i64 c,.ints .arg .u64 l],.cellp [.int .i64 p,.int .i64 q,.ints .arg .u64 m]]),(6,.ptr 6 0 0),(7,.ptr 7 0 0),(8,.int .i64 p8),(13,.int .i64 a),(14,.int .i64 p14_1),(17,.int .i64 b),(18,.int .i64 p18)],[(6,false,.box [.int .i64 0,.int .i64 0,.nil]),(7,false,.box [.int .i64 a,.int .i64 b,.oref 108002]),(108002,false,.ints 43 .u64 p2)]⟩
theorem Aa.of.Stack.Au:Aa.of.Stack.L0 N (M+1) a b r c l p q m p14 p2_1=bif (Bi p14 a) then Aa.of.Stack.L1 N M N a b r c l p q m p14 p14 0 p2_1 else some (.agg [.int .i64 a,.int .i64 b,.ints (.own 108002 43) .u64 p2_1]):=by kernel_rfl
theorem Aa.of.Stack.Ch:Aa.of.Stack.L1 N M0 (M+1) a b r c l p q m p8 p14_1 p18 p2=bif (Bi p18 b) then bif (Qd r c l p q m p8 p18) then bif (decide ((length p2)+1≤G8)) then Aa.of.Stack.L1 N M0 M a b r c l p q m p8 p14_1 (Ab (p18+1)) (p2++[(Jr r c l q m p8 p18)]) else none else none else Aa.of.Stack.L0 N M0 a b r c l p q m (Ab (p14_1+1)) p2 :=
 Eq.trans (by kernel_rfl)
 (E1 (Cw (Ct _) (Cw (Ct _) rfl rfl) rfl) rfl)
theorem Aa.of.Stack.ev:B0 Aa.of.Stack.E N f117 (Ak f117) [.int .i64 a,.int .i64 b,.fn 118 [] [.cellp [.int .i64 r,.int .i64 c,.ints .arg .u64 l],.cellp [.int .i64 p,.int .i64 q,.ints .arg .u64 m]]] =
 Aa.of.Stack.L0 N N a b r c l p q m 0 []:=by kernel_rfl
end
abbrev _root_.Go.Proofs.S1.Aa.of.Stack.Kn:=A8 prog 117 Aa.of.Stack.spec
theorem Aa.of.Stack.Ad (hk:A1 prog Aa.of.Stack.Ba) (h:Hyp Aa.of.Stack.E f117 Aa.of.Stack.ts Aa.of.Stack.pre Aa.of.Stack.out):Aa.of.Stack.Kn :=
 Al (A4 hk _ _ _) func117 (by kernel_rfl) (by kernel_rfl) h
def Aa.of.Mul.hint:Nat→Option Bc
 | 0=>some { keep:=[1,2,6,7,13,14],objs:=[(8,2,108002,.ints 43 .u64 [])],boxes:=[6,7] }
 | 2=>some { keep:=[1,2,6,7,8,13,14,17,18],objs:=[(8,2,108002,.ints 43 .u64 [])],boxes:=[6,7] }
 | _=>none
def Aa.of.Mul.Ba:List (Nat × Entry):=[(133,Aa.Iq.spec)]
def Aa.of.Mul.E:Env:=Bg (Bb Aa.of.Mul.Ba) (fun _=>false) Aa.of.Mul.hint (fun _=>none)
section
variable (N M0 M:Nat) (a b r c:Int) (l:List Int) (p q:Int) (m:List Int) (p8 p14_1 p18:Int) (p2:List Int) (p14:Int) (p2_1:List Int)
def Aa.of.Mul.L0:Option DV:=Cb Aa.of.Mul.E N f117 (Ak f117) [1,1,0,1,0] [] M ⟨Fo 33 [(1,.int .i64 b),(2,.fn 133 [] [.cellp [.int .i64 r,.int .i64 c,.ints .arg .u64 l],.cellp [.int .i64 p,.int .i64 q,.ints .arg .u64 m]]),(6,.ptr 6 0 0),(7,.ptr 7 0 0),(13,.int .i64 a),(14,.int .i64 p14)],[(6,false,.box [.int .i64 0,.int .i64 0,.nil]),(7,false,.box [.int .i64 a,.int .i64 b,.oref 108002]),(108002,false,.ints 43 .u64 p2_1)]⟩
def Aa.of.Mul.L1:Option DV:=Cb Aa.of.Mul.E N f117 (Ak f117) [1,1,0,1,0,0,1,1,0,0,1,1,0] [M0] M ⟨Fo 33 [(1,.int .i64 b),(2,.fn 133 [] [.cellp [.int .i64 r,.int .i64 c,.ints .arg .u64 l],.cellp [.int .i64 p,.int .i64 q,.ints .arg .u64 m]]),(6,.ptr 6 0 0),(7,.ptr 7 0 0),(8,.int .i64 p8),(13,.int .i64 a),(14,.int .i64 p14_1),(17,.int .i64 b),(18,.int .i64 p18)],[(6,false,.box [.int .i64 0,.int .i64 0,.nil]),(7,false,.box [.int .i64 a,.int .i64 b,.oref 108002]),(108002,false,.ints 43 .u64 p2)]⟩
theorem Aa.of.Mul.Au:Aa.of.Mul.L0 N (M+1) a b r c l p q m p14 p2_1=bif (Bi p14 a) then Aa.of.Mul.L1 N M N a b r c l p q m p14 p14 0 p2_1 else some (.agg [.int .i64 a,.int .i64 b,.ints (.own 108002 43) .u64 p2_1]):=by kernel_rfl
theorem Aa.of.Mul.Ch:Aa.of.Mul.L1 N M0 (M+1) a b r c l p q m p8 p14_1 p18 p2=bif (Bi p18 b) then bif (Xw r c l p q m p8 p18) then bif (decide ((length p2)+1≤G8)) then Aa.of.Mul.L1 N M0 M a b r c l p q m p8 p14_1 (Ab (p18+1)) (p2++[(Ik (Q7 c l p8) (U9 p q m p18))]) else none else none else Aa.of.Mul.L0 N M0 a b r c l p q m (Ab (p14_1+1)) p2 :=
 Eq.trans (by kernel_rfl)
 (E1 (Cw (Ct _) (Cw (Ct _) rfl rfl) rfl) rfl)
theorem Aa.of.Mul.ev:B0 Aa.of.Mul.E N f117 (Ak f117) [.int .i64 a,.int .i64 b,.fn 133 [] [.cellp [.int .i64 r,.int .i64 c,.ints .arg .u64 l],.cellp [.int .i64 p,.int .i64 q,.ints .arg .u64 m]]] =
 Aa.of.Mul.L0 N N a b r c l p q m 0 []:=by kernel_rfl
end
abbrev _root_.Go.Proofs.S1.Aa.of.Mul.Kn:=A8 prog 117 Aa.of.Mul.spec
theorem Aa.of.Mul.Ad (hk:A1 prog Aa.of.Mul.Ba) (h:Hyp Aa.of.Mul.E f117 Aa.of.Mul.ts Aa.of.Mul.pre Aa.of.Mul.out):Aa.of.Mul.Kn :=
 Al (A4 hk _ _ _) func117 (by kernel_rfl) (by kernel_rfl) h
def Aa.A9.Ba:List (Nat × Entry):=[(117,Aa.of.A9.spec),(164,Aa.size.spec)]
def Aa.A9.E:Env:=Bg (Bb Aa.A9.Ba) (fun _=>false) (fun _=>none) (fun _=>none)
theorem Aa.A9.ev (N:Nat) (a b:Int):B0 Aa.A9.E N f149 (Ak f149) [.int .i64 a,.int .i64 b]=bif ((!(Bp a))||(!(Bp b))) then some (.tup [.agg [.int .i64 0,.int .i64 0,.nil],.int .i64 3]) else bif ((Bp a&&Bp b)) then some (.tup [.agg [.int .i64 a,.int .i64 b,.ints .fresh .u64 (B8 (toNat a) (toNat b) (fun _ _=>0))],.int .i64 0]) else none :=
 Eq.trans (by kernel_rfl)
 (Ay (Un (Bp a)) (Ay (Pz (Bp a)) (Ay (Pz (Bp a)) (Ay (Xc (Bp a)) (Cw (Anh _ _) rfl rfl)))))
abbrev _root_.Go.Proofs.S1.Aa.A9.Kn:=A8 prog 149 Aa.A9.spec
theorem Aa.A9.Ad (hk:A1 prog Aa.A9.Ba) (h:Hyp Aa.A9.E f149 Aa.A9.ts Aa.A9.pre Aa.A9.out):Aa.A9.Kn :=
 Al (A4 hk _ _ _) func149 (by kernel_rfl) (by kernel_rfl) h
def Aa.Ff.Ba:List (Nat × Entry):=[(117,Aa.of.Ff.spec),(164,Aa.size.spec)]
def Aa.Ff.E:Env:=Bg (Bb Aa.Ff.Ba) (fun _=>false) (fun _=>none) (fun _=>none)
theorem Aa.Ff.ev (N:Nat) (n:Int):B0 Aa.Ff.E N f126 (Ak f126) [.int .i64 n]=bif (!(Bp n)) then some (.tup [.agg [.int .i64 0,.int .i64 0,.nil],.int .i64 3]) else bif ((Bp n&&Bp n)) then some (.tup [.agg [.int .i64 n,.int .i64 n,.ints .fresh .u64 (B8 (toNat n) (toNat n) (fun j1 j2=>N7 j1 j2))],.int .i64 0]) else none:=by kernel_rfl
abbrev _root_.Go.Proofs.S1.Aa.Ff.Kn:=A8 prog 126 Aa.Ff.spec
theorem Aa.Ff.Ad (hk:A1 prog Aa.Ff.Ba) (h:Hyp Aa.Ff.E f126 Aa.Ff.ts Aa.Ff.pre Aa.Ff.out):Aa.Ff.Kn :=
 Al (A4 hk _ _ _) func126 (by kernel_rfl) (by kernel_rfl) h
def Aa.Cv.Ba:List (Nat × Entry):=[(121,Aa.Check.spec),(117,Aa.of.Cv.spec)]
def Aa.Cv.E:Env:=Bg (Bb Aa.Cv.Ba) (fun _=>false) (fun _=>none) (fun _=>none)
theorem Aa.Cv.ev (N:Nat) (r c:Int) (l:List Int):B0 Aa.Cv.E N f203 (Ak f203) [.agg [.int .i64 r,.int .i64 c,.ints .arg .u64 l]]=bif ((Lt r c l) !=(0:Int)) then some (.tup [.agg [.int .i64 0,.int .i64 0,.nil],.int .i64 (Lt r c l)]) else bif ((Bp c&&Bp r)&&A3 r c l&&decide (c=c∧r=r)) then some (.tup [.agg [.int .i64 c,.int .i64 r,.ints .fresh .u64 (B8 (toNat c) (toNat r) (fun j1 j2=>D8 c l j2 j1))],.int .i64 0]) else none:=by kernel_rfl
abbrev _root_.Go.Proofs.S1.Aa.Cv.Kn:=A8 prog 203 Aa.Cv.spec
theorem Aa.Cv.Ad (hk:A1 prog Aa.Cv.Ba) (h:Hyp Aa.Cv.E f203 Aa.Cv.ts Aa.Cv.pre Aa.Cv.out):Aa.Cv.Kn :=
 Al (A4 hk _ _ _) func203 (by kernel_rfl) (by kernel_rfl) h
def Aa.Part.Ba:List (Nat × Entry):=[(121,Aa.Check.spec),(117,Aa.of.Part.spec)]
def Aa.Part.E:Env:=Bg (Bb Aa.Part.Ba) (fun _=>false) (fun _=>none) (fun _=>none)
theorem Aa.Part.ev (N:Nat) (r c:Int) (l:List Int) (x y:Int) (a b:Int):B0 Aa.Part.E N f63 (Ak f63) [.agg [.int .i64 r,.int .i64 c,.ints .arg .u64 l],.int .i64 x,.int .i64 y,.int .i64 a,.int .i64 b]=bif ((Lt r c l) !=(0:Int)) then some (.tup [.agg [.int .i64 0,.int .i64 0,.nil],.int .i64 (Lt r c l)]) else bif ((((((((Bi x 0)||(Bi y 0))||(Bi a 0))||(Bi b 0))||(Bi r x))||(Bi c y))||(Bi (Ab (r-x)) a))||(Bi (Ab (c-y)) b)) then some (.tup [.agg [.int .i64 0,.int .i64 0,.nil],.int .i64 3]) else bif ((Bp a&&Bp b)&&A3 r c l&&Rx r c x y a b) then some (.tup [.agg [.int .i64 a,.int .i64 b,.ints .fresh .u64 (B8 (toNat a) (toNat b) (fun j1 j2=>D8 c l (x+j1) (y+j2)))],.int .i64 0]) else none :=
 Eq.trans (by kernel_rfl)
 (E1 rfl (Ay (T3 (Bi x 0)) (Ay (Rv (Bi x 0)) (Ay (Y5 (Bi x 0)) (Ay (Aeo (Bi x 0) (Bi y 0)) (Ay (Agm (Bi x 0) (Bi y 0)) (Ay (Anb (Bi x 0) (Bi y 0)) (Ay (Agn (Bi x 0) (Bi y 0) (Bi a 0)) (Ay (Aep (Bi x 0) (Bi y 0) (Bi a 0)) (Ay (Anc (Bi x 0) (Bi y 0) (Bi a 0)) (Ay (Ane (Bi x 0) (Bi y 0) (Bi a 0) (Bi b 0)) (Ay (Ane (Bi x 0) (Bi y 0) (Bi a 0) (Bi b 0)) (Ay (A08 (Bi x 0) (Bi y 0) (Bi a 0) (Bi b 0)) (Ay (Ayk (Bi x 0) (Bi y 0) (Bi a 0) (Bi b 0)) (Ay (Ayl (Bi x 0) (Bi y 0) (Bi a 0) (Bi b 0)) (Ay (A09 (Bi x 0) (Bi y 0) (Bi a 0) (Bi b 0) (Bi r x)) (Ay (A09 (Bi x 0) (Bi y 0) (Bi a 0) (Bi b 0) (Bi r x)) (Ay (A3i (Bi x 0) (Bi y 0) (Bi a 0) (Bi b 0) (Bi r x)) (Ay (A3j (Bi x 0) (Bi y 0) (Bi a 0) (Bi b 0) (Bi r x)) (Ay (A3k (Bi x 0) (Bi y 0) (Bi a 0) (Bi b 0) (Bi r x)) (Ay (Aym (Bi x 0) (Bi y 0) (Bi a 0) (Bi b 0) (Bi r x) (Bi c y)) (Ay (Aym (Bi x 0) (Bi y 0) (Bi a 0) (Bi b 0) (Bi r x) (Bi c y)) (Ay (A3l (Bi x 0) (Bi y 0) (Bi a 0) (Bi b 0) (Bi r x) (Bi c y)) (Ay (Aym (Bi x 0) (Bi y 0) (Bi a 0) (Bi b 0) (Bi r x) (Bi c y)) (Ay (A1a (Bi x 0) (Bi y 0) (Bi a 0) (Bi b 0) (Bi r x) (Bi c y)) (Ay (A1a (Bi x 0) (Bi y 0) (Bi a 0) (Bi b 0) (Bi r x) (Bi c y)) (Ay (A3m (Bi x 0) (Bi y 0) (Bi a 0) (Bi b 0) (Bi r x) (Bi c y)) (Ay (Ayn (Bi x 0) (Bi y 0) (Bi a 0) (Bi b 0) (Bi r x) (Bi c y) (Bi (Ab (r-x)) a)) (Ay (Ayn (Bi x 0) (Bi y 0) (Bi a 0) (Bi b 0) (Bi r x) (Bi c y) (Bi (Ab (r-x)) a)) (Ay (A3n (Bi x 0) (Bi y 0) (Bi a 0) (Bi b 0) (Bi r x) (Bi c y) (Bi (Ab (r-x)) a)) (Ay (Ayn (Bi x 0) (Bi y 0) (Bi a 0) (Bi b 0) (Bi r x) (Bi c y) (Bi (Ab (r-x)) a)) (Ay (A1b (Bi x 0) (Bi y 0) (Bi a 0) (Bi b 0) (Bi r x) (Bi c y) (Bi (Ab (r-x)) a)) (Ay (A1b (Bi x 0) (Bi y 0) (Bi a 0) (Bi b 0) (Bi r x) (Bi c y) (Bi (Ab (r-x)) a)) (Ay (A3o (Bi x 0) (Bi y 0) (Bi a 0) (Bi b 0) (Bi r x) (Bi c y) (Bi (Ab (r-x)) a)) (Cw (A3p _ _ _ _ _ _ _ _) rfl rfl)))))))))))))))))))))))))))))))))))
abbrev _root_.Go.Proofs.S1.Aa.Part.Kn:=A8 prog 63 Aa.Part.spec
theorem Aa.Part.Ad (hk:A1 prog Aa.Part.Ba) (h:Hyp Aa.Part.E f63 Aa.Part.ts Aa.Part.pre Aa.Part.out):Aa.Part.Kn :=
 Al (A4 hk _ _ _) func63 (by kernel_rfl) (by kernel_rfl) h
def Aa.Stack.Ba:List (Nat × Entry):=[(117,Aa.of.Stack.spec),(116,Aa.two.spec)]
def Aa.Stack.E:Env:=Bg (Bb Aa.Stack.Ba) (fun _=>false) (fun _=>none) (fun _=>none)
theorem Aa.Stack.ev (N:Nat) (r c:Int) (l:List Int) (p q:Int) (m:List Int):B0 Aa.Stack.E N f61 (Ak f61) [.agg [.int .i64 r,.int .i64 c,.ints .arg .u64 l],.agg [.int .i64 p,.int .i64 q,.ints .arg .u64 m]]=bif ((Xb r c l p q m) !=(0:Int)) then some (.tup [.agg [.int .i64 0,.int .i64 0,.nil],.int .i64 (Xb r c l p q m)]) else bif ((c !=q)||(Bi 6 (Ab (r+p)))) then some (.tup [.agg [.int .i64 0,.int .i64 0,.nil],.int .i64 3]) else bif ((Bp (Ab (r+p))&&Bp c)&&(A3 r c l&&A3 p q m)&&decide ((Ab (r+p))=r+p∧c=c∧q=c)) then some (.tup [.agg [.int .i64 (Ab (r+p)),.int .i64 c,.ints .fresh .u64 (B8 (toNat (Ab (r+p))) (toNat c) (fun j1 j2=>Jr r c l q m j1 j2))],.int .i64 0]) else none :=
 Eq.trans (by kernel_rfl)
 (E1 rfl (Ay (T3 (c !=q)) (Ay (Rv (c !=q)) (Ay (T3 (c !=q)) (Ay (Rv (c !=q)) (Ay (tt8 (c !=q)) (Ay (Rv (c !=q)) (Ay (Y5 (c !=q)) (Cw (tt5 _ _) rfl rfl)))))))))
abbrev _root_.Go.Proofs.S1.Aa.Stack.Kn:=A8 prog 61 Aa.Stack.spec
theorem Aa.Stack.Ad (hk:A1 prog Aa.Stack.Ba) (h:Hyp Aa.Stack.E f61 Aa.Stack.ts Aa.Stack.pre Aa.Stack.out):Aa.Stack.Kn :=
 Al (A4 hk _ _ _) func61 (by kernel_rfl) (by kernel_rfl) h
def Aa.Mul.Ba:List (Nat × Entry):=[(117,Aa.of.Mul.spec),(116,Aa.two.spec)]
def Aa.Mul.E:Env:=Bg (Bb Aa.Mul.Ba) (fun _=>false) (fun _=>none) (fun _=>none)
theorem Aa.Mul.ev (N:Nat) (r c:Int) (l:List Int) (p q:Int) (m:List Int):B0 Aa.Mul.E N f65 (Ak f65) [.agg [.int .i64 r,.int .i64 c,.ints .arg .u64 l],.agg [.int .i64 p,.int .i64 q,.ints .arg .u64 m]]=bif ((Xb r c l p q m) !=(0:Int)) then some (.tup [.agg [.int .i64 0,.int .i64 0,.nil],.int .i64 (Xb r c l p q m)]) else bif (c !=p) then some (.tup [.agg [.int .i64 0,.int .i64 0,.nil],.int .i64 3]) else bif ((Bp r&&Bp q)&&((A3 r c l&&A3 p q m)&&(Aj l&&Aj m))&&decide (r=r∧q=q∧c=p)) then some (.tup [.agg [.int .i64 r,.int .i64 q,.ints .fresh .u64 (B8 (toNat r) (toNat q) (fun j1 j2=>Ik (Q7 c l j1) (U9 p q m j2)))],.int .i64 0]) else none:=by kernel_rfl
abbrev _root_.Go.Proofs.S1.Aa.Mul.Kn:=A8 prog 65 Aa.Mul.spec
theorem Aa.Mul.Ad (hk:A1 prog Aa.Mul.Ba) (h:Hyp Aa.Mul.E f65 Aa.Mul.ts Aa.Mul.pre Aa.Mul.out):Aa.Mul.Kn :=
 Al (A4 hk _ _ _) func65 (by kernel_rfl) (by kernel_rfl) h
end EqOf
open EqOf
theorem of.A9.inner (N:Nat)  {A B:Nat} (hA:A≤6) (hB:B≤6) {F:Nat→Nat→Int} (hF:∀ i j:Nat,F i j=(0:Int)) {i:Nat} (hi:i<A):∀ (k j M0 M:Nat),j+k=B→k<M →
 Aa.of.A9.L1 N M0 M (A:Int) (B:Int) (i:Int) (i:Int) (j:Int) (B8 i B F++(List.range j).map (F i))=Aa.of.A9.L0 N M0 (A:Int) (B:Int) ((i+1:Nat):Int) (B8 (i+1) B F):=by
 intro k
 induction k with
 | zero =>
   intro j M0 M hj hM
   obtain ⟨M,rfl⟩:∃ G,M=G+1:=⟨M-1,by omega⟩
   obtain rfl:j=B:=by omega
   rw [Aa.of.A9.Ch,Av,A4v (by omega),A4u,An (by omega) (by omega),← Md]
   rfl
 | succ k ih =>
   intro j M0 M hj hM
   obtain ⟨M,rfl⟩:∃ G,M=G+1:=⟨M-1,by omega⟩
   have d:decide ((B8 i B F++(List.range j).map (F i)).length+1≤G8)=true:=by
    refine A4r ?_
    have:=A5m (show i≤6 by omega) hB
    rw [A5i,Cd,A5w,A5t]; unfold G8; omega
   rw [Aa.of.A9.Ch,Av,A4r (by omega),A4q,d,A4q,An (by omega) (by omega),← hF i j]
   have:=ih (j+1) M0 M (by omega) (by omega)
   rw [Jt,← List.append_assoc] at this
   exact this
theorem of.A9.outer (N:Nat)  {A B:Nat} (hA:A≤6) (hB:B≤6) (hN:6<N) {F:Nat→Nat→Int} (hF:∀ i j:Nat,F i j=(0:Int)):∀ (k i M:Nat),i+k=A→k<M →
 Aa.of.A9.L0 N M (A:Int) (B:Int) (i:Int) (B8 i B F)=some (.agg [.int .i64 (A:Int),.int .i64 (B:Int),.ints (.own 108002 tB) .u64 (B8 A B F)]):=by
 intro k
 induction k with
 | zero =>
   intro i M hi hM
   obtain ⟨M,rfl⟩:∃ G,M=G+1:=⟨M-1,by omega⟩
   obtain rfl:i=A:=by omega
   rw [Aa.of.A9.Au,Av,A4v (by omega),A4u]
 | succ k ih =>
   intro i M hi hM
   obtain ⟨M,rfl⟩:∃ G,M=G+1:=⟨M-1,by omega⟩
   have n:=of.A9.inner N hA hB hF (show i<A by omega) B 0 M N (by omega) (by omega)
   rw [List.range_zero,List.map_nil,List.append_nil] at n
   rw [Aa.of.A9.Au,Av,A4r (by omega),A4q]
   exact n.trans (ih (i+1) M (by omega) (by omega))
theorem Aa.of.A9.known:Aa.of.A9.Kn:=Aa.of.A9.Ad (.cons Aa.Ez.known .nil) fun a b hp=>by
 have h1:(Bp a&&Bp b)=true:=hp
 obtain ⟨ha,hb⟩:=Ac.1 h1
 obtain ⟨A,rfl,hA⟩:=Fj ha
 obtain ⟨B,rfl,hB⟩:=Fj hb
 refine ⟨8,.agg [.int .i64 (A:Int),.int .i64 (B:Int),.ints (.own 108002 tB) .u64 (B8 A B fun (i j:Nat)=>(0:Int))],[108002],?_,Wk.Hc (.cons .int (.cons .int (.cons (.drop _ _ _ _ (List.mem_singleton.2 rfl)) .nil)))⟩
 rw [Aa.of.A9.ev]
 have n:=of.A9.outer 8 hA hB (by omega) (F:=fun (i j:Nat)=>(0:Int)) (fun _ _=>rfl) A 0 8 (by omega) (by omega)
 rw [La] at n
 exact n
theorem of.Ff.inner (N:Nat)  {A B:Nat} (hA:A≤6) (hB:B≤6) {F:Nat→Nat→Int} (hF:∀ i j:Nat,F i j=N7 (i:Int) (j:Int)) {i:Nat} (hi:i<A):∀ (k j M0 M:Nat),j+k=B→k<M →
 Aa.of.Ff.L1 N M0 M (A:Int) (B:Int) (i:Int) (i:Int) (j:Int) (B8 i B F++(List.range j).map (F i))=Aa.of.Ff.L0 N M0 (A:Int) (B:Int) ((i+1:Nat):Int) (B8 (i+1) B F):=by
 intro k
 induction k with
 | zero =>
   intro j M0 M hj hM
   obtain ⟨M,rfl⟩:∃ G,M=G+1:=⟨M-1,by omega⟩
   obtain rfl:j=B:=by omega
   rw [Aa.of.Ff.Ch,Av,A4v (by omega),A4u,An (by omega) (by omega),← Md]
   rfl
 | succ k ih =>
   intro j M0 M hj hM
   obtain ⟨M,rfl⟩:∃ G,M=G+1:=⟨M-1,by omega⟩
   have d:decide ((B8 i B F++(List.range j).map (F i)).length+1≤G8)=true:=by
    refine A4r ?_
    have:=A5m (show i≤6 by omega) hB
    rw [A5i,Cd,A5w,A5t]; unfold G8; omega
   rw [Aa.of.Ff.Ch,Av,A4r (by omega),A4q,d,A4q,An (by omega) (by omega),← hF i j]
   have:=ih (j+1) M0 M (by omega) (by omega)
   rw [Jt,← List.append_assoc] at this
   exact this
theorem of.Ff.outer (N:Nat)  {A B:Nat} (hA:A≤6) (hB:B≤6) (hN:6<N) {F:Nat→Nat→Int} (hF:∀ i j:Nat,F i j=N7 (i:Int) (j:Int)):∀ (k i M:Nat),i+k=A→k<M →
 Aa.of.Ff.L0 N M (A:Int) (B:Int) (i:Int) (B8 i B F)=some (.agg [.int .i64 (A:Int),.int .i64 (B:Int),.ints (.own 108002 tB) .u64 (B8 A B F)]):=by
 intro k
 induction k with
 | zero =>
   intro i M hi hM
   obtain ⟨M,rfl⟩:∃ G,M=G+1:=⟨M-1,by omega⟩
   obtain rfl:i=A:=by omega
   rw [Aa.of.Ff.Au,Av,A4v (by omega),A4u]
 | succ k ih =>
   intro i M hi hM
   obtain ⟨M,rfl⟩:∃ G,M=G+1:=⟨M-1,by omega⟩
   have n:=of.Ff.inner N hA hB hF (show i<A by omega) B 0 M N (by omega) (by omega)
   rw [List.range_zero,List.map_nil,List.append_nil] at n
   rw [Aa.of.Ff.Au,Av,A4r (by omega),A4q]
   exact n.trans (ih (i+1) M (by omega) (by omega))
theorem Aa.of.Ff.known:Aa.of.Ff.Kn:=Aa.of.Ff.Ad (.cons Aa.Iu.known .nil) fun a b hp=>by
 have h1:(Bp a&&Bp b)=true:=hp
 obtain ⟨ha,hb⟩:=Ac.1 h1
 obtain ⟨A,rfl,hA⟩:=Fj ha
 obtain ⟨B,rfl,hB⟩:=Fj hb
 refine ⟨8,.agg [.int .i64 (A:Int),.int .i64 (B:Int),.ints (.own 108002 tB) .u64 (B8 A B fun (i j:Nat)=>N7 (i:Int) (j:Int))],[108002],?_,Wk.Hc (.cons .int (.cons .int (.cons (.drop _ _ _ _ (List.mem_singleton.2 rfl)) .nil)))⟩
 rw [Aa.of.Ff.ev]
 have n:=of.Ff.outer 8 hA hB (by omega) (F:=fun (i j:Nat)=>N7 (i:Int) (j:Int)) (fun _ _=>rfl) A 0 8 (by omega) (by omega)
 rw [La] at n
 exact n
theorem of.Cv.inner (N:Nat) (r c:Int) (l:List Int) {A B:Nat} (hA:A≤6) (hB:B≤6) {F:Nat→Nat→Int} (hF:∀ i j:Nat,F i j=D8 c l (j:Int) (i:Int)) {i:Nat} (hi:i<A) (hp:∀ j:Nat,j<B→Em r c l (j:Int) (i:Int)=true):∀ (k j M0 M:Nat),j+k=B→k<M →
 Aa.of.Cv.L1 N M0 M (A:Int) (B:Int) r c l (i:Int) (i:Int) (j:Int) (B8 i B F++(List.range j).map (F i))=Aa.of.Cv.L0 N M0 (A:Int) (B:Int) r c l ((i+1:Nat):Int) (B8 (i+1) B F):=by
 intro k
 induction k with
 | zero =>
   intro j M0 M hj hM
   obtain ⟨M,rfl⟩:∃ G,M=G+1:=⟨M-1,by omega⟩
   obtain rfl:j=B:=by omega
   rw [Aa.of.Cv.Ch,Av,A4v (by omega),A4u,An (by omega) (by omega),← Md]
   rfl
 | succ k ih =>
   intro j M0 M hj hM
   obtain ⟨M,rfl⟩:∃ G,M=G+1:=⟨M-1,by omega⟩
   have d:decide ((B8 i B F++(List.range j).map (F i)).length+1≤G8)=true:=by
    refine A4r ?_
    have:=A5m (show i≤6 by omega) hB
    rw [A5i,Cd,A5w,A5t]; unfold G8; omega
   rw [Aa.of.Cv.Ch,Av,A4r (by omega),A4q,hp j (by omega),A4q,d,A4q,An (by omega) (by omega),← hF i j]
   have:=ih (j+1) M0 M (by omega) (by omega)
   rw [Jt,← List.append_assoc] at this
   exact this
theorem of.Cv.outer (N:Nat) (r c:Int) (l:List Int) {A B:Nat} (hA:A≤6) (hB:B≤6) (hN:6<N) {F:Nat→Nat→Int} (hF:∀ i j:Nat,F i j=D8 c l (j:Int) (i:Int)) (hp:∀ i j:Nat,i<A→j<B→Em r c l (j:Int) (i:Int)=true):∀ (k i M:Nat),i+k=A→k<M →
 Aa.of.Cv.L0 N M (A:Int) (B:Int) r c l (i:Int) (B8 i B F)=some (.agg [.int .i64 (A:Int),.int .i64 (B:Int),.ints (.own 108002 tB) .u64 (B8 A B F)]):=by
 intro k
 induction k with
 | zero =>
   intro i M hi hM
   obtain ⟨M,rfl⟩:∃ G,M=G+1:=⟨M-1,by omega⟩
   obtain rfl:i=A:=by omega
   rw [Aa.of.Cv.Au,Av,A4v (by omega),A4u]
 | succ k ih =>
   intro i M hi hM
   obtain ⟨M,rfl⟩:∃ G,M=G+1:=⟨M-1,by omega⟩
   have n:=of.Cv.inner N r c l hA hB hF (show i<A by omega) (fun j hj=>hp i j (by omega) hj) B 0 M N (by omega) (by omega)
   rw [List.range_zero,List.map_nil,List.append_nil] at n
   rw [Aa.of.Cv.Au,Av,A4r (by omega),A4q]
   exact n.trans (ih (i+1) M (by omega) (by omega))
theorem Aa.of.Cv.known:Aa.of.Cv.Kn:=Aa.of.Cv.Ad (.cons Aa.Gl.known .nil) fun a b r c l hp=>by
 obtain ⟨h12,hy⟩:=Ac.1 (show (((Bp a&&Bp b)&&A3 r c l)&&decide (a=c∧b=r))=true from hp)
 obtain ⟨h1,hx⟩:=Ac.1 h12
 have h2:=Ac.2 ⟨hx,hy⟩
 obtain ⟨ha,hb⟩:=Ac.1 h1
 obtain ⟨A,rfl,hA⟩:=Fj ha
 obtain ⟨B,rfl,hB⟩:=Fj hb
 obtain ⟨hr,he⟩:=Ac.1 h2
 obtain ⟨e1,e2⟩:=A5g he
 have hp:∀ i j:Nat,i<A→j<B→Em r c l (j:Int) (i:Int)=true:=fun i j hi hj=>Lc hr (by omega) (by omega) (by omega) (by omega) r
 refine ⟨8,.agg [.int .i64 (A:Int),.int .i64 (B:Int),.ints (.own 108002 tB) .u64 (B8 A B fun (i j:Nat)=>D8 c l (j:Int) (i:Int))],[108002],?_,Wk.Hc (.cons .int (.cons .int (.cons (.drop _ _ _ _ (List.mem_singleton.2 rfl)) .nil)))⟩
 rw [Aa.of.Cv.ev]
 have n:=of.Cv.outer 8 r c l hA hB (by omega) (F:=fun (i j:Nat)=>D8 c l (j:Int) (i:Int)) (fun _ _=>rfl) hp A 0 8 (by omega) (by omega)
 rw [La] at n
 exact n
theorem of.Part.inner (N:Nat) (r c:Int) (l:List Int) (x y:Int) {A B:Nat} (hA:A≤6) (hB:B≤6) {F:Nat→Nat→Int} (hF:∀ i j:Nat,F i j=D8 c l (x+(i:Int)) (y+(j:Int))) {i:Nat} (hi:i<A) (hp:∀ j:Nat,j<B→(Em r c l (x+(i:Int)) (y+(j:Int))&&Z6 x y (i:Int) (j:Int))=true):∀ (k j M0 M:Nat),j+k=B→k<M →
 Aa.of.Part.L1 N M0 M (A:Int) (B:Int) r c l x y (i:Int) (i:Int) (j:Int) (B8 i B F++(List.range j).map (F i))=Aa.of.Part.L0 N M0 (A:Int) (B:Int) r c l x y ((i+1:Nat):Int) (B8 (i+1) B F):=by
 intro k
 induction k with
 | zero =>
   intro j M0 M hj hM
   obtain ⟨M,rfl⟩:∃ G,M=G+1:=⟨M-1,by omega⟩
   obtain rfl:j=B:=by omega
   rw [Aa.of.Part.Ch,Av,A4v (by omega),A4u,An (by omega) (by omega),← Md]
   rfl
 | succ k ih =>
   intro j M0 M hj hM
   obtain ⟨M,rfl⟩:∃ G,M=G+1:=⟨M-1,by omega⟩
   have d:decide ((B8 i B F++(List.range j).map (F i)).length+1≤G8)=true:=by
    refine A4r ?_
    have:=A5m (show i≤6 by omega) hB
    rw [A5i,Cd,A5w,A5t]; unfold G8; omega
   rw [Aa.of.Part.Ch,Av,A4r (by omega),A4q,hp j (by omega),A4q,d,A4q,An (by omega) (by omega),← hF i j]
   have:=ih (j+1) M0 M (by omega) (by omega)
   rw [Jt,← List.append_assoc] at this
   exact this
theorem of.Part.outer (N:Nat) (r c:Int) (l:List Int) (x y:Int) {A B:Nat} (hA:A≤6) (hB:B≤6) (hN:6<N) {F:Nat→Nat→Int} (hF:∀ i j:Nat,F i j=D8 c l (x+(i:Int)) (y+(j:Int))) (hp:∀ i j:Nat,i<A→j<B→(Em r c l (x+(i:Int)) (y+(j:Int))&&Z6 x y (i:Int) (j:Int))=true):∀ (k i M:Nat),i+k=A→k<M →
 Aa.of.Part.L0 N M (A:Int) (B:Int) r c l x y (i:Int) (B8 i B F)=some (.agg [.int .i64 (A:Int),.int .i64 (B:Int),.ints (.own 108002 tB) .u64 (B8 A B F)]):=by
 intro k
 induction k with
 | zero =>
   intro i M hi hM
   obtain ⟨M,rfl⟩:∃ G,M=G+1:=⟨M-1,by omega⟩
   obtain rfl:i=A:=by omega
   rw [Aa.of.Part.Au,Av,A4v (by omega),A4u]
 | succ k ih =>
   intro i M hi hM
   obtain ⟨M,rfl⟩:∃ G,M=G+1:=⟨M-1,by omega⟩
   have n:=of.Part.inner N r c l x y hA hB hF (show i<A by omega) (fun j hj=>hp i j (by omega) hj) B 0 M N (by omega) (by omega)
   rw [List.range_zero,List.map_nil,List.append_nil] at n
   rw [Aa.of.Part.Au,Av,A4r (by omega),A4q]
   exact n.trans (ih (i+1) M (by omega) (by omega))
theorem Aa.of.Part.known:Aa.of.Part.Kn:=Aa.of.Part.Ad (.cons Aa.Gm.known .nil) fun a b r c l x y hp=>by
 obtain ⟨h12,hy⟩:=Ac.1 (show (((Bp a&&Bp b)&&A3 r c l)&&Rx r c x y a b)=true from hp)
 obtain ⟨h1,hx⟩:=Ac.1 h12
 have h2:=Ac.2 ⟨hx,hy⟩
 obtain ⟨ha,hb⟩:=Ac.1 h1
 obtain ⟨A,rfl,hA⟩:=Fj ha
 obtain ⟨B,rfl,hB⟩:=Fj hb
 obtain ⟨hr,he⟩:=Ac.1 h2
 have he:=A5g he
 have hs:=G2.1 hr
 have hp:∀ i j:Nat,i<A→j<B→(Em r c l (x+(i:Int)) (y+(j:Int))&&Z6 x y (i:Int) (j:Int))=true:=fun i j hi hj =>
  Ac.2 ⟨Lc hr (by omega) (by omega) (by omega) (by omega) r,Aq.2 (by omega)⟩
 refine ⟨8,.agg [.int .i64 (A:Int),.int .i64 (B:Int),.ints (.own 108002 tB) .u64 (B8 A B fun (i j:Nat)=>D8 c l (x+(i:Int)) (y+(j:Int)))],[108002],?_,Wk.Hc (.cons .int (.cons .int (.cons (.drop _ _ _ _ (List.mem_singleton.2 rfl)) .nil)))⟩
 rw [Aa.of.Part.ev]
 have n:=of.Part.outer 8 r c l x y hA hB (by omega) (F:=fun (i j:Nat)=>D8 c l (x+(i:Int)) (y+(j:Int))) (fun _ _=>rfl) hp A 0 8 (by omega) (by omega)
 rw [La] at n
 exact n
theorem of.Stack.inner (N:Nat) (r c:Int) (l:List Int) (p q:Int) (m:List Int) {A B:Nat} (hA:A≤6) (hB:B≤6) {F:Nat→Nat→Int} (hF:∀ i j:Nat,F i j=Jr r c l q m (i:Int) (j:Int)) {i:Nat} (hi:i<A) (hp:∀ j:Nat,j<B→Qd r c l p q m (i:Int) (j:Int)=true):∀ (k j M0 M:Nat),j+k=B→k<M →
 Aa.of.Stack.L1 N M0 M (A:Int) (B:Int) r c l p q m (i:Int) (i:Int) (j:Int) (B8 i B F++(List.range j).map (F i))=Aa.of.Stack.L0 N M0 (A:Int) (B:Int) r c l p q m ((i+1:Nat):Int) (B8 (i+1) B F):=by
 intro k
 induction k with
 | zero =>
   intro j M0 M hj hM
   obtain ⟨M,rfl⟩:∃ G,M=G+1:=⟨M-1,by omega⟩
   obtain rfl:j=B:=by omega
   rw [Aa.of.Stack.Ch,Av,A4v (by omega),A4u,An (by omega) (by omega),← Md]
   rfl
 | succ k ih =>
   intro j M0 M hj hM
   obtain ⟨M,rfl⟩:∃ G,M=G+1:=⟨M-1,by omega⟩
   have d:decide ((B8 i B F++(List.range j).map (F i)).length+1≤G8)=true:=by
    refine A4r ?_
    have:=A5m (show i≤6 by omega) hB
    rw [A5i,Cd,A5w,A5t]; unfold G8; omega
   rw [Aa.of.Stack.Ch,Av,A4r (by omega),A4q,hp j (by omega),A4q,d,A4q,An (by omega) (by omega),← hF i j]
   have:=ih (j+1) M0 M (by omega) (by omega)
   rw [Jt,← List.append_assoc] at this
   exact this
theorem of.Stack.outer (N:Nat) (r c:Int) (l:List Int) (p q:Int) (m:List Int) {A B:Nat} (hA:A≤6) (hB:B≤6) (hN:6<N) {F:Nat→Nat→Int} (hF:∀ i j:Nat,F i j=Jr r c l q m (i:Int) (j:Int)) (hp:∀ i j:Nat,i<A→j<B→Qd r c l p q m (i:Int) (j:Int)=true):∀ (k i M:Nat),i+k=A→k<M →
 Aa.of.Stack.L0 N M (A:Int) (B:Int) r c l p q m (i:Int) (B8 i B F)=some (.agg [.int .i64 (A:Int),.int .i64 (B:Int),.ints (.own 108002 tB) .u64 (B8 A B F)]):=by
 intro k
 induction k with
 | zero =>
   intro i M hi hM
   obtain ⟨M,rfl⟩:∃ G,M=G+1:=⟨M-1,by omega⟩
   obtain rfl:i=A:=by omega
   rw [Aa.of.Stack.Au,Av,A4v (by omega),A4u]
 | succ k ih =>
   intro i M hi hM
   obtain ⟨M,rfl⟩:∃ G,M=G+1:=⟨M-1,by omega⟩
   have n:=of.Stack.inner N r c l p q m hA hB hF (show i<A by omega) (fun j hj=>hp i j (by omega) hj) B 0 M N (by omega) (by omega)
   rw [List.range_zero,List.map_nil,List.append_nil] at n
   rw [Aa.of.Stack.Au,Av,A4r (by omega),A4q]
   exact n.trans (ih (i+1) M (by omega) (by omega))
theorem Aa.of.Stack.known:Aa.of.Stack.Kn:=Aa.of.Stack.Ad (.cons Aa.E7.known .nil) fun a b r c l p q m hp=>by
 obtain ⟨h12,hy⟩:=Ac.1 (show (((Bp a&&Bp b)&&(A3 r c l&&A3 p q m))&&decide (a=r+p∧b=c∧q=c))=true from hp)
 obtain ⟨h1,hx⟩:=Ac.1 h12
 have h2:=Ac.2 ⟨hx,hy⟩
 obtain ⟨ha,hb⟩:=Ac.1 h1
 obtain ⟨A,rfl,hA⟩:=Fj ha
 obtain ⟨B,rfl,hB⟩:=Fj hb
 obtain ⟨h3,he⟩:=Ac.1 h2
 obtain ⟨hr,hm⟩:=Ac.1 h3
 obtain ⟨e1,e2,e3⟩:=A5g he
 have hs:=G2.1 hr
 have hp:∀ i j:Nat,i<A→j<B→Qd r c l p q m (i:Int) (j:Int)=true:=fun i j hi hj=>by
  refine Aq.2 ⟨by omega,by omega,by omega,by omega,?_⟩
  by_cases h:(i:Int)<r
  ·rw [A5d h]; exact Lc hr (by omega) (by omega) (by omega) (by omega) r
  ·rw [A5c h]; exact Lc hm (by omega) (by omega) (by omega) (by omega) p
 refine ⟨8,.agg [.int .i64 (A:Int),.int .i64 (B:Int),.ints (.own 108002 tB) .u64 (B8 A B fun (i j:Nat)=>Jr r c l q m (i:Int) (j:Int))],[108002],?_,Wk.Hc (.cons .int (.cons .int (.cons (.drop _ _ _ _ (List.mem_singleton.2 rfl)) .nil)))⟩
 rw [Aa.of.Stack.ev]
 have n:=of.Stack.outer 8 r c l p q m hA hB (by omega) (F:=fun (i j:Nat)=>Jr r c l q m (i:Int) (j:Int)) (fun _ _=>rfl) hp A 0 8 (by omega) (by omega)
 rw [La] at n
 exact n
theorem of.Mul.inner (N:Nat) (r c:Int) (l:List Int) (p q:Int) (m:List Int) {A B:Nat} (hA:A≤6) (hB:B≤6) {F:Nat→Nat→Int} (hF:∀ i j:Nat,F i j=Ik (Q7 c l (i:Int)) (U9 p q m (j:Int))) {i:Nat} (hi:i<A) (hp:∀ j:Nat,j<B→Xw r c l p q m (i:Int) (j:Int)=true):∀ (k j M0 M:Nat),j+k=B→k<M →
 Aa.of.Mul.L1 N M0 M (A:Int) (B:Int) r c l p q m (i:Int) (i:Int) (j:Int) (B8 i B F++(List.range j).map (F i))=Aa.of.Mul.L0 N M0 (A:Int) (B:Int) r c l p q m ((i+1:Nat):Int) (B8 (i+1) B F):=by
 intro k
 induction k with
 | zero =>
   intro j M0 M hj hM
   obtain ⟨M,rfl⟩:∃ G,M=G+1:=⟨M-1,by omega⟩
   obtain rfl:j=B:=by omega
   rw [Aa.of.Mul.Ch,Av,A4v (by omega),A4u,An (by omega) (by omega),← Md]
   rfl
 | succ k ih =>
   intro j M0 M hj hM
   obtain ⟨M,rfl⟩:∃ G,M=G+1:=⟨M-1,by omega⟩
   have d:decide ((B8 i B F++(List.range j).map (F i)).length+1≤G8)=true:=by
    refine A4r ?_
    have:=A5m (show i≤6 by omega) hB
    rw [A5i,Cd,A5w,A5t]; unfold G8; omega
   rw [Aa.of.Mul.Ch,Av,A4r (by omega),A4q,hp j (by omega),A4q,d,A4q,An (by omega) (by omega),← hF i j]
   have:=ih (j+1) M0 M (by omega) (by omega)
   rw [Jt,← List.append_assoc] at this
   exact this
theorem of.Mul.outer (N:Nat) (r c:Int) (l:List Int) (p q:Int) (m:List Int) {A B:Nat} (hA:A≤6) (hB:B≤6) (hN:6<N) {F:Nat→Nat→Int} (hF:∀ i j:Nat,F i j=Ik (Q7 c l (i:Int)) (U9 p q m (j:Int))) (hp:∀ i j:Nat,i<A→j<B→Xw r c l p q m (i:Int) (j:Int)=true):∀ (k i M:Nat),i+k=A→k<M →
 Aa.of.Mul.L0 N M (A:Int) (B:Int) r c l p q m (i:Int) (B8 i B F)=some (.agg [.int .i64 (A:Int),.int .i64 (B:Int),.ints (.own 108002 tB) .u64 (B8 A B F)]):=by
 intro k
 induction k with
 | zero =>
   intro i M hi hM
   obtain ⟨M,rfl⟩:∃ G,M=G+1:=⟨M-1,by omega⟩
   obtain rfl:i=A:=by omega
   rw [Aa.of.Mul.Au,Av,A4v (by omega),A4u]
 | succ k ih =>
   intro i M hi hM
   obtain ⟨M,rfl⟩:∃ G,M=G+1:=⟨M-1,by omega⟩
   have n:=of.Mul.inner N r c l p q m hA hB hF (show i<A by omega) (fun j hj=>hp i j (by omega) hj) B 0 M N (by omega) (by omega)
   rw [List.range_zero,List.map_nil,List.append_nil] at n
   rw [Aa.of.Mul.Au,Av,A4r (by omega),A4q]
   exact n.trans (ih (i+1) M (by omega) (by omega))
theorem Aa.of.Mul.known:Aa.of.Mul.Kn:=Aa.of.Mul.Ad (.cons Aa.Iq.known .nil) fun a b r c l p q m hp=>by
 obtain ⟨h12,hy⟩:=Ac.1 (show (((Bp a&&Bp b)&&((A3 r c l&&A3 p q m)&&(Aj l&&Aj m)))&&decide (a=r∧b=q∧c=p))=true from hp)
 obtain ⟨h1,hx⟩:=Ac.1 h12
 have h2:=Ac.2 ⟨hx,hy⟩
 obtain ⟨ha,hb⟩:=Ac.1 h1
 obtain ⟨A,rfl,hA⟩:=Fj ha
 obtain ⟨B,rfl,hB⟩:=Fj hb
 obtain ⟨h3,he⟩:=Ac.1 h2
 obtain ⟨h4,h5⟩:=Ac.1 h3
 obtain ⟨hr,hm⟩:=Ac.1 h4
 obtain ⟨e1,e2,e3⟩:=A5g he
 have hp:∀ i j:Nat,i<A→j<B→Xw r c l p q m (i:Int) (j:Int)=true:=fun i j hi hj =>
  Ac.2 ⟨Ac.2 ⟨Ac.2 ⟨hr,Aq.2 (by omega)⟩,Ac.2 ⟨hm,Aq.2 (by omega)⟩⟩,Ac.2 ⟨h5,Aq.2 e3⟩⟩
 refine ⟨8,.agg [.int .i64 (A:Int),.int .i64 (B:Int),.ints (.own 108002 tB) .u64 (B8 A B fun (i j:Nat)=>Ik (Q7 c l (i:Int)) (U9 p q m (j:Int)))],[108002],?_,Wk.Hc (.cons .int (.cons .int (.cons (.drop _ _ _ _ (List.mem_singleton.2 rfl)) .nil)))⟩
 rw [Aa.of.Mul.ev]
 have n:=of.Mul.outer 8 r c l p q m hA hB (by omega) (F:=fun (i j:Nat)=>Ik (Q7 c l (i:Int)) (U9 p q m (j:Int))) (fun _ _=>rfl) hp A 0 8 (by omega) (by omega)
 rw [La] at n
 exact n
end Go.Proofs.S1
end
