/- A verified evaluator of the program's form and its use for this seat: S1EqBits6, S1EqTimes, S1PTimes, S1PTimesA, S1EqVec, S1PVec, S1EqMat, S1PMat, S1EqCmp, S1PCmp, S1PDiv, S1EqRoot, S1PRoot, S1PRootA. -/
import Derived.Test.YtjbokjpbiobjpaaGreatTF
import Derived.Test.YtjbokjpbiobjpaaGreatTH
import Derived.Test.YtjbokjpbiobjpaaGreatTG
import Derived.Test.YtjbokjpbiobjpaaGreatTD
import Derived.Test.YtjbokjpbiobjpaaGreatTE
set_option linter.unusedVariables false
set_option linter.unusedSimpArgs false
noncomputable section
open Int (toNat)
open List (length getD)
open Go.Proofs.Tryz
namespace Go.Proofs.S1
open Go Go.Den Go.Rnd Go.Proofs
set_option maxRecDepth 100000
namespace EqBits6
def Cu.B0.A9:List (Nat × Entry):=[(261,Cu.Kq.spec)]
def Cu.B0.E:Env:=Ba (A8 Cu.B0.A9) (fun _=>false) (fun _=>none) (fun _=>none)
theorem Cu.B0.ev (N:Nat) (x:Int):Bw Cu.B0.E N f250 (An f250) [.int .u64 x]=bif (Af x) then some (.int .i64 (Ab ((64:Int)-(Fa x)))) else none:=by kernel_rfl
abbrev _root_.Go.Proofs.S1.Cu.B0.Kn:=A4 prog 250 Cu.B0.spec
theorem Cu.B0.Ac (hk:Az prog Cu.B0.A9) (h:Hyp Cu.B0.E f250 Cu.B0.ts Cu.B0.pre Cu.B0.out):Cu.B0.Kn :=
 Al (A0 hk _ _ _) func250 (by kernel_rfl) (by kernel_rfl) h
def Cu.Hn.A9:List (Nat × Entry):=[]
def Cu.Hn.E:Env:=Ba (A8 Cu.Hn.A9) (fun _=>false) (fun _=>none) (fun _=>none)
theorem Cu.Hn.ev (N:Nat) (x y:Int):Bw Cu.Hn.E N f237 (An f237) [.int .u64 x,.int .u64 y]=some (.tup [.int .u64 (Bl ((Bl ((Bl ((Dm .u64 x 32)*(Dm .u64 y 32)))+(Dm .u64 (Bl ((Bl ((Dm .u64 x 32)*(E1 .u64 y 4294967295)))+(Dm .u64 (Bl ((E1 .u64 x 4294967295)*(E1 .u64 y 4294967295))) 32))) 32)))+(Dm .u64 (Bl ((E1 .u64 (Bl ((Bl ((Dm .u64 x 32)*(E1 .u64 y 4294967295)))+(Dm .u64 (Bl ((E1 .u64 x 4294967295)*(E1 .u64 y 4294967295))) 32))) 4294967295)+(Bl ((E1 .u64 x 4294967295)*(Dm .u64 y 32))))) 32))),.int .u64 (Bl (x*y))]):=by kernel_rfl
abbrev _root_.Go.Proofs.S1.Cu.Hn.Kn:=A4 prog 237 Cu.Hn.spec
theorem Cu.Hn.Ac (hk:Az prog Cu.Hn.A9) (h:Hyp Cu.Hn.E f237 Cu.Hn.ts Cu.Hn.pre Cu.Hn.out):Cu.Hn.Kn :=
 Al (A0 hk _ _ _) func237 (by kernel_rfl) (by kernel_rfl) h
abbrev _root_.Go.Proofs.S1.Cu.Kq.Kn:Prop:=A4 prog 261 Cu.Kq.spec
theorem _root_.Go.Proofs.S1.Cu.Kq.call:∀ (args:Array Value) (w:World),(callFunc 261 args).run prog w=.ok (.enter 261 args) w:=T5 func261 (by kernel_rfl) (show f261.body=some (An f261) by kernel_rfl)
theorem _root_.Go.Proofs.S1.Cu.Kq.run (x:Int) (w:World) (h0:0≤x) (h1:x≤18446744073709551615):Calls prog 261 #[.int .u64 x] w fun e w'=>e=.returned (.int .i64 (Lib.bitLen x.toNat))∧w'=w:=Tryz.Ajz x w h0 h1
end EqBits6
namespace EqTimes
def times.signed.A9:List (Nat × Entry):=[(233,soft.De.spec)]
def times.signed.E:Env:=Ba (A8 times.signed.A9) (fun _=>false) (fun _=>none) (fun _=>none)
theorem times.signed.ev (N:Nat) (b:Int) (n:Bool):Bw times.signed.E N f235 (An f235) [.int .u64 b,.bool n]=bif n then bif (Af b) then some (.int .u64 (Cr b)) else none else some (.int .u64 b):=by kernel_rfl
abbrev _root_.Go.Proofs.S1.times.signed.Kn:=A4 prog 235 times.signed.spec
theorem times.signed.Ac (hk:Az prog times.signed.A9) (h:Hyp times.signed.E f235 times.signed.ts times.signed.pre times.signed.out):times.signed.Kn :=
 Al (A0 hk _ _ _) func235 (by kernel_rfl) (by kernel_rfl) h
def times.nan.A9:List (Nat × Entry):=[(155,soft.Kind.spec)]
def times.nan.E:Env:=Ba (A8 times.nan.A9) (fun _=>false) (fun _=>none) (fun _=>none)
theorem times.nan.ev (N:Nat) (a b:Int):Bw times.nan.E N f234 (An f234) [.int .u64 a,.int .u64 b]=bif (Af a) then bif ((A5 a)==(4:Int)) then some (.bool true) else bif (Af b) then bif ((A5 b)==(4:Int)) then some (.bool true) else some (.bool false) else none else none:=by kernel_rfl
abbrev _root_.Go.Proofs.S1.times.nan.Kn:=A4 prog 234 times.nan.spec
theorem times.nan.Ac (hk:Az prog times.nan.A9) (h:Hyp times.nan.E f234 times.nan.ts times.nan.pre times.nan.out):times.nan.Kn :=
 Al (A0 hk _ _ _) func234 (by kernel_rfl) (by kernel_rfl) h
def times.norm.A9:List (Nat × Entry):=[(250,Cu.B0.spec),(211,soft.Fy.spec)]
def times.norm.E:Env:=Ba (A8 times.norm.A9) (fun _=>false) (fun _=>none) (fun _=>none)
theorem times.norm.ev (N:Nat) (b:Int):Bw times.norm.E N f236 (An f236) [.int .u64 b]=bif (Af b) then bif (Af (Bx b)) then bif (decide (0≤(Ab ((64-Fa (Bx b))-11)))) then some (.tup [.int .u64 (B4 .u64 (Bx b) (Ab ((64-Fa (Bx b))-11))),.int .i64 (Ab ((Bi b)-(Ab ((64-Fa (Bx b))-11))))]) else none else none else none:=by kernel_rfl
abbrev _root_.Go.Proofs.S1.times.norm.Kn:=A4 prog 236 times.norm.spec
theorem times.norm.Ac (hk:Az prog times.norm.A9) (h:Hyp times.norm.E f236 times.norm.ts times.norm.pre times.norm.out):times.norm.Kn :=
 Al (A0 hk _ _ _) func236 (by kernel_rfl) (by kernel_rfl) h
def times.wide.hint:Nat→Option Be
 | 0=>some { keep:=[0,1,2,3],objs:=[],boxes:=[] }
 | _=>none
def times.wide.A9:List (Nat × Entry):=[(212,soft.Dj.spec)]
def times.wide.E:Env:=Ba (A8 times.wide.A9) (fun _=>false) times.wide.hint (fun _=>none)
section
variable (N M:Nat) (n:Bool) (m e:Int) (r:Bool) (p1 p2:Int) (p3:Bool)
def times.wide.L0:Option DV:=B2 times.wide.E N f238 (An f238) [1,0,0] [] M ⟨Gz 39 [(0,.bool n),(1,.int .u64 p1),(2,.int .i64 p2),(3,.bool p3)],[]⟩
theorem times.wide.Av:times.wide.L0 N (M+1) n p1 p2 p3=bif ((A6 p2 (-1130:Int))&&(A6 1 p1)) then times.wide.L0 N M n (Dm .u64 p1 1) (Ab (p2+1)) (bif p3 then true else ((E1 .u64 p1 1)==(1:Int))) else bif (A6 p2 (-1130:Int)) then bif (El 0 (-1074:Int) true) then some (.tup [.int .u64 (E9 n 0 (-1074:Int) true),.int .u8 (E8 n 0 (-1074:Int) true)]) else none else bif (El p1 p2 p3) then some (.tup [.int .u64 (E9 n p1 p2 p3),.int .u8 (E8 n p1 p2 p3)]) else none :=
 Eq.trans (by kernel_rfl)
 (Ax (Qq (A6 p2 (-1130:Int))) (Ax (Ma (A6 p2 (-1130:Int))) (Ax (Uf (A6 p2 (-1130:Int))) (C9 (tt1 (A6 p2 (-1130:Int)) (A6 1 p1)) (Ax (S8 p3) (Ax (Qx p3) (Ax (Qx p3) (Ax (X2 p3) rfl)))) rfl))))
theorem times.wide.ev:Bw times.wide.E N f238 (An f238) [.bool n,.int .u64 m,.int .i64 e,.bool r] =
 times.wide.L0 N N n m e r:=by kernel_rfl
end
abbrev _root_.Go.Proofs.S1.times.wide.Kn:=A4 prog 238 times.wide.spec
theorem times.wide.Ac (hk:Az prog times.wide.A9) (h:Hyp times.wide.E f238 times.wide.ts times.wide.pre times.wide.out):times.wide.Kn :=
 Al (A0 hk _ _ _) func238 (by kernel_rfl) (by kernel_rfl) h
def times.Mul.A9:List (Nat × Entry):=[(237,Cu.Hn.spec),(155,soft.Kind.spec),(213,soft.Sign.spec),(234,times.nan.spec),(236,times.norm.spec),(235,times.signed.spec),(238,times.wide.spec)]
def times.Mul.E:Env:=Ba (A8 times.Mul.A9) (fun _=>false) (fun _=>none) (fun _=>none)
theorem times.Mul.ev (N:Nat) (a b:Int):Bw times.Mul.E N f208 (An f208) [.int .u64 a,.int .u64 b]=bif (Af a) then bif (Af b) then bif (Af a) then bif (Af b) then bif (Af a&&Af b) then bif (Aqe a b) then some (.tup [.int .u64 9221120237041090560,.int .u8 0]) else bif ((((A5 a)==(3:Int))&&((A5 b)==(0:Int)))||(((A5 a)==(0:Int))&&((A5 b)==(3:Int)))) then some (.tup [.int .u64 9221120237041090560,.int .u8 16]) else bif (((A5 a)==(3:Int))||((A5 b)==(3:Int))) then bif (Af 9218868437227405312) then some (.tup [.int .u64 (S9 (!((D0 a)==(D0 b))) 9218868437227405312),.int .u8 0]) else none else bif (((A5 a)==(0:Int))||((A5 b)==(0:Int))) then bif (Af 0) then some (.tup [.int .u64 (S9 (!((D0 a)==(D0 b))) 0),.int .u8 0]) else none else bif (Af a&&Ms a) then bif (Af b&&Ms b) then bif (Af (C4 a)&&Af (C4 b)) then bif (Pp (Is .u64 (B4 .u64 (Tc (C4 a) (C4 b)) 20) (Dm .u64 (Ob (C4 a) (C4 b)) 44)) (Ab ((Ab ((Hw a)+(Hw b)))+44))) then some (.tup [.int .u64 (E9 (!((D0 a)==(D0 b))) (Is .u64 (B4 .u64 (Tc (C4 a) (C4 b)) 20) (Dm .u64 (Ob (C4 a) (C4 b)) 44)) (Ab ((Ab ((Hw a)+(Hw b)))+44)) ((B4 .u64 (Ob (C4 a) (C4 b)) 20) !=(0:Int))),.int .u8 (E8 (!((D0 a)==(D0 b))) (Is .u64 (B4 .u64 (Tc (C4 a) (C4 b)) 20) (Dm .u64 (Ob (C4 a) (C4 b)) 44)) (Ab ((Ab ((Hw a)+(Hw b)))+44)) ((B4 .u64 (Ob (C4 a) (C4 b)) 20) !=(0:Int)))]) else none else none else none else none else none else none else none else none else none :=
 Eq.trans (by kernel_rfl)
 (Et (Et (Et (Et (Et (Et rfl (Ax (Qq ((A5 a)==(3:Int))) (Ax (Ma ((A5 a)==(3:Int))) (Ax (Uf ((A5 a)==(3:Int))) (Ax (Ayg ((A5 a)==(3:Int)) ((A5 b)==(0:Int))) (Ax (Asz ((A5 a)==(3:Int)) ((A5 b)==(0:Int))) (Ax (Asz ((A5 a)==(3:Int)) ((A5 b)==(0:Int))) (Ax (Ayh ((A5 a)==(3:Int)) ((A5 b)==(0:Int)) ((A5 a)==(0:Int))) (Ax (Ayi ((A5 a)==(3:Int)) ((A5 b)==(0:Int)) ((A5 a)==(0:Int))) (Ax (Ayj ((A5 a)==(3:Int)) ((A5 b)==(0:Int)) ((A5 a)==(0:Int))) (Ax (Ayk ((A5 a)==(3:Int)) ((A5 b)==(0:Int))) (C9 (Ayl ((A5 a)==(3:Int)) ((A5 b)==(0:Int)) ((A5 a)==(0:Int)) ((A5 b)==(3:Int))) rfl (Ax (S8 ((A5 a)==(3:Int))) (Ax (Qx ((A5 a)==(3:Int))) (Ax (X2 ((A5 a)==(3:Int))) (C9 (tt5 ((A5 a)==(3:Int)) ((A5 b)==(3:Int))) rfl (Ax (S8 ((A5 a)==(0:Int))) (Ax (Qx ((A5 a)==(0:Int))) (Ax (X2 ((A5 a)==(0:Int))) (C9 (tt5 ((A5 a)==(0:Int)) ((A5 b)==(0:Int))) rfl rfl)))))))))))))))))))) rfl) rfl) rfl) rfl) rfl)
abbrev _root_.Go.Proofs.S1.times.Mul.Kn:=A4 prog 208 times.Mul.spec
theorem times.Mul.Ac (hk:Az prog times.Mul.A9) (h:Hyp times.Mul.E f208 times.Mul.ts times.Mul.pre times.Mul.out):times.Mul.Kn :=
 Al (A0 hk _ _ _) func208 (by kernel_rfl) (by kernel_rfl) h
def times.Div.hint:Nat→Option Be
 | 1=>some { keep:=[6,10,11,12,13,14,78],objs:=[],boxes:=[] }
 | _=>none
def times.Div.A9:List (Nat × Entry):=[(155,soft.Kind.spec),(213,soft.Sign.spec),(234,times.nan.spec),(236,times.norm.spec),(235,times.signed.spec),(238,times.wide.spec)]
def times.Div.E:Env:=Ba (A8 times.Div.A9) (fun _=>false) times.Div.hint (fun _=>none)
section
variable (N M:Nat) (a b p13 p14 p78:Int)
def times.Div.L0:Option DV:=B2 times.Div.E N f209 (An f209) [1,1,1,1,1,1,1,0,1,0] [] M ⟨Gz 104 [(6,.bool (!((D0 a)==(D0 b)))),(10,.int .i64 (Hw a)),(11,.int .u64 (C4 b)),(12,.int .i64 (Hw b)),(13,.int .u64 p13),(14,.int .u64 p14),(78,.int .i64 p78)],[]⟩
theorem times.Div.Av:times.Div.L0 N (M+1) a b p13 p14 p78=bif (A6 p78 61) then bif (Em (C4 b) (B4 .u64 p14 1)) then times.Div.L0 N M a b (Is .u64 (B4 .u64 p13 1) 1) (Bl ((B4 .u64 p14 1)-(C4 b))) (Ab (p78+1)) else times.Div.L0 N M a b (B4 .u64 p13 1) (B4 .u64 p14 1) (Ab (p78+1)) else bif (Pp p13 (Ab ((Ab ((Hw a)-(Hw b)))-61))) then some (.tup [.int .u64 (E9 (!((D0 a)==(D0 b))) p13 (Ab ((Ab ((Hw a)-(Hw b)))-61)) (p14 !=(0:Int))),.int .u8 (E8 (!((D0 a)==(D0 b))) p13 (Ab ((Ab ((Hw a)-(Hw b)))-61)) (p14 !=(0:Int)))]) else none:=by kernel_rfl
theorem times.Div.ev:Bw times.Div.E N f209 (An f209) [.int .u64 a,.int .u64 b]=bif (Af a) then bif (Af b) then bif (Af a) then bif (Af b) then bif (Af a&&Af b) then bif (Aqe a b) then some (.tup [.int .u64 9221120237041090560,.int .u8 0]) else bif ((((A5 a)==(3:Int))&&((A5 b)==(3:Int)))||(((A5 a)==(0:Int))&&((A5 b)==(0:Int)))) then some (.tup [.int .u64 9221120237041090560,.int .u8 16]) else bif ((A5 a)==(3:Int)) then bif (Af 9218868437227405312) then some (.tup [.int .u64 (S9 (!((D0 a)==(D0 b))) 9218868437227405312),.int .u8 0]) else none else bif (((A5 b)==(3:Int))||((A5 a)==(0:Int))) then bif (Af 0) then some (.tup [.int .u64 (S9 (!((D0 a)==(D0 b))) 0),.int .u8 0]) else none else bif ((A5 b)==(0:Int)) then bif (Af 9218868437227405312) then some (.tup [.int .u64 (S9 (!((D0 a)==(D0 b))) 9218868437227405312),.int .u8 8]) else none else bif (Af a&&Ms a) then bif (Af b&&Ms b) then bif ((C4 b) !=0) then bif ((C4 b) !=0) then times.Div.L0 N N a b (Bl (Int.tdiv (C4 a) (C4 b))) (Int.tmod (C4 a) (C4 b)) (0:Int) else none else none else none else none else none else none else none else none else none :=
 Eq.trans (by kernel_rfl)
 (Et (Et (Et (Et (Et (Et rfl (Ax (Qq ((A5 a)==(3:Int))) (Ax (Ma ((A5 a)==(3:Int))) (Ax (Uf ((A5 a)==(3:Int))) (Ax (Ayg ((A5 a)==(3:Int)) ((A5 b)==(3:Int))) (Ax (Asz ((A5 a)==(3:Int)) ((A5 b)==(3:Int))) (Ax (Asz ((A5 a)==(3:Int)) ((A5 b)==(3:Int))) (Ax (Ayh ((A5 a)==(3:Int)) ((A5 b)==(3:Int)) ((A5 a)==(0:Int))) (Ax (Ayi ((A5 a)==(3:Int)) ((A5 b)==(3:Int)) ((A5 a)==(0:Int))) (Ax (Ayj ((A5 a)==(3:Int)) ((A5 b)==(3:Int)) ((A5 a)==(0:Int))) (Ax (Ayk ((A5 a)==(3:Int)) ((A5 b)==(3:Int))) (C9 (Ayl ((A5 a)==(3:Int)) ((A5 b)==(3:Int)) ((A5 a)==(0:Int)) ((A5 b)==(0:Int))) rfl (Et rfl (Ax (S8 ((A5 b)==(3:Int))) (Ax (Qx ((A5 b)==(3:Int))) (Ax (X2 ((A5 b)==(3:Int))) (C9 (tt5 ((A5 b)==(3:Int)) ((A5 a)==(0:Int))) rfl (Et rfl (Et (Et (C9 (Cy ((C4 b) !=0)) (C9 (Cy ((C4 b) !=0)) rfl rfl) rfl) rfl) rfl))))))))))))))))))) rfl) rfl) rfl) rfl) rfl)
end
abbrev _root_.Go.Proofs.S1.times.Div.Kn:=A4 prog 209 times.Div.spec
theorem times.Div.Ac (hk:Az prog times.Div.A9) (h:Hyp times.Div.E f209 times.Div.ts times.Div.pre times.Div.out):times.Div.Kn :=
 Al (A0 hk _ _ _) func209 (by kernel_rfl) (by kernel_rfl) h
end EqTimes
open EqBits6 EqTimes
theorem Ahp {n:Nat} (h0:n≠0) (h:n<2^64):Go.Lib.bitLen n=n.log2+1:=by
 have h1:=Nat.log2_self_le h0
 have h2:=Nat.lt_log2_self (n:=n)
 have hp:=Cg n.log2
 have e:n / 2^n.log2=1:=by
  rw [Nat.pow_succ] at h2
  exact Nat.div_eq_of_lt_le (by omega) (by omega)
 have e1:Go.Lib.bitLen 1=1:=by decide
 rw [Go.Lib.bitLen_shift n.log2 n h1 h,e,e1]
theorem Cu.Kq.known:Cu.Kq.Kn:=by
 refine ⟨?_,Cu.Kq.call⟩
 intro args ha
 simp only [Cu.Kq.spec,entry] at ha ⊢
 cases hd:M3 [.i .u64] args with
 | none=>rw [hd] at ha; cases ha
 | some ats =>
   rw [hd] at ha
   simp only at ha ⊢
   obtain ⟨ds,h1,h2⟩:=Mz hd
   obtain ⟨x,_,_,rfl,rfl,he⟩:=h1.Aq8
   obtain ⟨rfl,rfl⟩:=he.Aea
   obtain ⟨n,rfl,hn⟩:=Bm (x:=x) ha
   refine O0.args ?_ h2
   intro w vals I hI hv
   obtain ⟨u,us,e1,e2,e3⟩:=hv
   simp only [Ap] at e2
   have e3:us=[]:=e3
   subst e2 e3
   have e4:vals=#[.int .u64 (n:Int)]:=Array.ext' e1
   subst e4
   refine (Cu.Kq.run n w (by omega) (by omega)).mono ?_
   rintro e w' ⟨rfl,rfl⟩
   refine ⟨_,fun _=>none,rfl,Go.RowKit.Below.refl _ _,⟨fun i b h=>(by cases h),fun i j b h=>(by cases h)⟩,?_⟩
   show Ap _ _ (DV.int .i64 (Fa n)) _
   simp only [Ap]
   congr 1
   unfold Fa
   rw [A1j]
   by_cases h0:n=0
   ·subst h0; rfl
   ·rw [Ahp h0 hn,A13 (by omega)]; rfl
theorem Aq0 {n:Nat} (hn:n<2^64):0≤Fa n∧Fa n≤64:=by
 unfold Fa
 rw [A1j]
 by_cases h0:n=0
 ·subst h0; decide
 ·have:=(A2x h0).2 hn
  rw [A13 (by omega)]; omega
theorem Cu.B0.known:Cu.B0.Kn:=Cu.B0.Ac (.cons Cu.Kq.known .nil) fun x hp=>by
 obtain ⟨n,rfl,hn⟩:=Bm (x:=x) hp
 have:=Aq0 hn
 refine ⟨0,Cu.B0.out [.i n],[],?_,.int⟩
 rw [Cu.B0.ev,B5 hn,A1h,Am (by omega) (by omega)]
 rfl
theorem J2 {a b:Nat} (ha:a<4294967296) (hb:b<4294967296):a*b≤18446744065119617025 :=
 A2o (A2d (show a≤4294967295 by omega) (show b≤4294967295 by omega)) (by decide)
theorem Aqi (x y:Nat) (hx:x<2^64) (hy:y<2^64) :
 x*y / 18446744073709551616=(x / 2^32)*(y / 2^32)+((x / 2^32)*(y%2^32)+(x%2^32)*(y%2^32) / 2^32) / 2^32 +
  (((x / 2^32)*(y%2^32)+(x%2^32)*(y%2^32) / 2^32)%2^32+(x%2^32)*(y / 2^32)) / 2^32:=by
 have ex:x=x / 2^32*4294967296+x%2^32:=by omega
 have ey:y=y / 2^32*4294967296+y%2^32:=by omega
 have ha:x / 2^32<4294967296:=by omega
 have hc:y / 2^32<4294967296:=by omega
 have hb:x%2^32<4294967296:=by omega
 have hd:y%2^32<4294967296:=by omega
 generalize x / 2^32=a at *
 generalize x%2^32=b at *
 generalize y / 2^32=c at *
 generalize y%2^32=d at *
 have e:x*y=a*c*18446744073709551616+(a*d+b*c)*4294967296+b*d:=by
  rw [ex,ey,A2l,Nat.mul_add,Nat.mul_add]
  have e1:a*4294967296*(c*4294967296)=a*c*18446744073709551616:=by
   rw [Nat.mul_mul_mul_comm]
  have e2:a*4294967296*d=a*d*4294967296:=Nat.mul_right_comm _ _ _
  have e3:b*(c*4294967296)=b*c*4294967296:=(A18 _ _ _).symm
  rw [e1,e2,e3]
  omega
 have b1:=J2 ha hc
 have b2:=J2 ha hd
 have b3:=J2 hb hc
 have b4:=J2 hb hd
 rw [e]
 clear e ex ey
 generalize a*c=p at *
 generalize a*d=q at *
 generalize b*c=r at *
 generalize b*d=s at *
 omega
theorem Cu.Hn.known:Cu.Hn.Kn:=Cu.Hn.Ac .nil fun x y hp=>by
 obtain ⟨h1,h2⟩:=Ae.1 hp
 obtain ⟨x,rfl,hx⟩:=Bm h1
 obtain ⟨y,rfl,hy⟩:=Bm h2
 refine ⟨0,Cu.Hn.out [.i x,.i y],[],?_,Wk.Ha (.cons .int (.cons .int .nil))⟩
 show _=some (DV.tup [.int .u64 (Tc x y),.int .u64 (Ob x y)])
 have s32:∀ n:Nat,Dm .u64 (n:Int) (32:Int)=((n / 2^32:Nat):Int):=fun n=>Ii .u64 n 32 (by decide)
 have m32:∀ n:Nat,n<2^64→E1 .u64 (n:Int) (4294967295:Int)=((n%2^32:Nat):Int):=fun n hn=>Jf 32 hn (by decide)
 have ha:x / 2^32<4294967296:=by omega
 have hc:y / 2^32<4294967296:=by omega
 have hb:x%2^32<4294967296:=by omega
 have hd:y%2^32<4294967296:=by omega
 have b1:=J2 ha hc
 have b2:=J2 ha hd
 have b3:=J2 hb hc
 have b4:=J2 hb hd
 have hhi:=Aqi x y hx hy
 have wn:∀ n:Nat,n<2^64→Bl (n:Int)=n:=fun n hn=>Dp (by omega) (by omega)
 have hlt:x*y / 18446744073709551616<2^64:=by
  rw [Nat.div_lt_iff_lt_mul (by decide)]
  have:=A2d (show x≤18446744073709551615 by omega) (show y≤18446744073709551615 by omega)
  omega
 rw [Cu.Hn.ev]
 simp only [s32,m32 x hx,m32 y hy]
 generalize hA:x / 2^32=a at *
 generalize hB:x%2^32=b at *
 generalize hC:y / 2^32=c at *
 generalize hD:y%2^32=d at *
 simp only [← A12]
 rw [wn (a*c) (by omega),wn (a*d) (by omega),wn (b*c) (by omega),wn (b*d) (by omega),s32]
 simp only [← Int.natCast_add]
 rw [wn (a*d+b*d / 2^32) (by omega),s32,m32 _ (by omega)]
 simp only [← Int.natCast_add]
 rw [wn (a*c+(a*d+b*d / 2^32) / 2^32) (by omega),wn _ (by omega),s32]
 simp only [← Int.natCast_add]
 rw [← hhi,wn _ hlt]
 unfold Tc Ob
 rw [A1j,A1j,O2]
 congr 3
theorem times.signed.known:times.signed.Kn:=times.signed.Ac (.cons soft.De.known .nil) fun b n hp=>by
 have hp:Af b=true:=hp
 refine ⟨0,times.signed.out [.i b,.b n],[],?_,.int⟩
 rw [times.signed.ev,hp]
 cases n<;>rfl
theorem times.nan.known:times.nan.Kn:=times.nan.Ac (.cons soft.Kind.known .nil) fun a b hp=>by
 obtain ⟨ha,hb⟩:=Ae.1 hp
 refine ⟨0,times.nan.out [.i a,.i b],[],?_,.bool⟩
 rw [times.nan.ev,ha,hb,A1h,A1h]
 show _=some (DV.bool (decide (A5 a=4)||decide (A5 b=4)))
 by_cases h1:A5 a=4
 ·rw [h1]; rfl
 ·have e1:(A5 a==(4:Int))=false:=by simp; exact h1
  rw [e1,A1m h1,A1l]
  by_cases h2:A5 b=4
  ·rw [h2]; rfl
  ·have e2:(A5 b==(4:Int))=false:=by simp; exact h2
   rw [e2,A1m h2]; rfl
theorem Pd {n:Nat} (h:As n≠0):(As n).log2≤52∧2^52≤As n*2^Cd n∧As n*2^Cd n<2^53∧Cd n≤52:=by
 have h1:=Ff n
 have h2:(As n).log2<53:=(A2x h).2 (by omega)
 have hz:=Lw (As n) (Cd n) h
 have hne:As n*2^Cd n≠0:=Hy h
 have hl:(As n*2^Cd n).log2=52:=by rw [hz]; unfold Cd; omega
 refine ⟨by omega,?_,?_,by unfold Cd; omega⟩
 ·rw [← Nat.le_log2 hne]; omega
 ·rw [← A2x hne]; omega
theorem times.norm.known:times.norm.Kn:=times.norm.Ac (.cons Cu.B0.known (.cons soft.Fy.known .nil)) fun b hp=>by
 obtain ⟨h1,h2⟩:=Ae.1 hp
 obtain ⟨n,rfl,hn⟩:=Bm h1
 have h2:As n≠0:=Ar.1 h2
 obtain ⟨l1,l2,l3,l4⟩:=Pd h2
 have hM:=Ff n
 have hE:=D6 n
 refine ⟨0,times.norm.out [.i n],[],?_,Wk.Ha (.cons .int (.cons .int .nil))⟩
 show _=some (DV.tup [.int .u64 (C4 n),.int .i64 (Hw n)])
 have e1:Bx (n:Int)=(As n:Int):=rfl
 have e2:Bi (n:Int)=Ay n:=rfl
 have e3:Fa (As n:Int)=((As n).log2:Int)+1:=by
  unfold Fa
  rw [A13 (by omega),A1j]
 have e4:Ab ((64-(((As n).log2:Int)+1))-(11:Int))=((Cd n:Nat):Int):=by
  rw [Am (by omega) (by omega)]; unfold Cd; omega
 rw [times.norm.ev,B5 hn,e1,e2,B5 (n:=As n) (by omega),e3,e4,Fu _ _ (by omega),A1u (by omega),Am (by omega) (by omega),A1i (by omega)]
 rfl
theorem Al6 {V t:Nat} {E:Int} (h0:V≠0) (h:V<2^t) (hE:E+t≤-1075):Ca V E=0∧flagsOf V E=3:=by
 have hl:V.log2<t:=(A2x h0).2 h
 have hL:Cj V E=-1074:=by unfold Cj; omega
 obtain ⟨k,hk⟩:∃ k:Nat,(-1074-E).toNat=t+1+k:=⟨(-1074-E).toNat-t-1,by omega⟩
 have hp:2^(t+1)≤2^(t+1+k):=A1w (by decide) (by omega)
 have ht:2^(t+1)=2*2^t:=by rw [Nat.pow_succ]; omega
 have e2:(-(-1074-E)).toNat=0:=by omega
 have hr:Ke V (-1074-E)=0:=by
  unfold Ke Nm
  rw [e2,hk,A2f,A2q,Nat.div_eq_of_lt (by omega),A1u (by omega),A13 (by omega)]
 have hru:Ca V E=0:=by
  unfold Ca kept
  rw [A13 h0,hL,hr]
  simp
 refine ⟨hru,?_⟩
 unfold flagsOf exact Nd
 rw [A13 h0,hru,hL,e2,hk,A2f,A2q,A1u (by omega),A1m h0]
 decide
theorem Am4 (n:Bool) {m:Nat} {e:Int} (r:Bool) (hm:1<m) (he:e < -1130):Gr n (m / 2) (e+1) (r||decide (m%2=1))=Gr n m e r:=by
 have e1:(4*m+r.toNat) / 2^3=m / 2:=by cases r<;>simp<;>omega
 have e2:(r||decide (m%2=1))=decide ((4*m+r.toNat)%2^3≠0):=by
  rw [A1x]
  cases r
  ·simp; omega
  ·simp; omega
 have:=U7 n (V:=4*m+r.toNat) (k:=3) (E:=e-2) (e:=e+1) (s:=r||decide (m%2=1)) (by omega) e2 (by omega) (.inr (by omega))
 rw [e1] at this
 exact this
theorem U6 (n:Bool) {e:Int} (r:Bool) (he:e < -1130):Gr n 1 e r=Gr n 0 (-1074) true:=by
 have h1:r.toNat≤1:=by cases r<;>decide
 obtain ⟨a1,a2⟩:=Al6 (V:=4*1+r.toNat) (t:=3) (E:=e-2) (by omega) (by omega) (by omega)
 obtain ⟨b1,b2⟩:=Al6 (V:=4*0+true.toNat) (t:=1) (E:=-1074-2) (by decide) (by decide) (by decide)
 unfold Gr
 rw [a1,a2,b1,b2]
theorem Al2 (N:Nat) (n:Bool):∀ (k m:Nat) (e:Int) (r:Bool),1≤m→m<2^62→m≤2^k→-7000≤e→e≤6000→(2^60≤m∨e≤-1130) →
 times.wide.L0 N (k+1) n (m:Int) e r=some (.tup [.int .u64 (((Gr n m e r).1:Nat):Int),.int .u8 (((Gr n m e r).2:Nat):Int)]):=by
 intro k
 induction k with
 | zero =>
   intro m e r h1 h2 h3 h4 h5 h6
   have hm:m=1:=by simp at h3; omega
   subst hm
   rw [times.wide.Av,Au,Au]
   have c1:decide ((1:Int)<((1:Nat):Int))=false:=by decide
   rw [c1,Bool.and_false,A1l]
   by_cases he:e < -1130
   ·have hp:El (0:Int) (-1074:Int) true=true:=Ar.2 (by omega)
    rw [A1i he,A1h,hp,A1h,U6 n r he]
    rfl
   ·have he:e=-1130:=by omega
    subst he
    have hp:El ((1:Nat):Int) (-1130:Int) r=true:=Ar.2 (by omega)
    rw [A1m (by omega),A1l,hp,A1h]
    rfl
 | succ k ih =>
   intro m e r h1 h2 h3 h4 h5 h6
   rw [times.wide.Av,Au,Au]
   by_cases he:e < -1130
   ·by_cases hm:1<m
    ·have c1:decide ((1:Int)<(m:Int))=true:=A1i (by omega)
     have e1:Dm .u64 (m:Int) (1:Int)=((m / 2:Nat):Int):=Ii .u64 m 1 (by decide)
     have e2:E1 .u64 (m:Int) (1:Int)=((m%2:Nat):Int):=Jf (a:=m) 1 (by omega) (by decide)
     have e3:(bif r then true else (E1 .u64 (m:Int) (1:Int))==(1:Int))=(r||decide (m%2=1)):=by
      rw [e2]
      cases r
      ·rw [A1x]; simp; omega
      ·rfl
     rw [A1i he,c1,A1n,A1h,e1,e3,Am (by omega) (by omega)]
     have hk:m / 2≤2^k:=by rw [Nat.pow_succ] at h3; omega
     rw [ih (m / 2) (e+1) _ (by omega) (by omega) hk (by omega) (by omega) (.inr (by omega)),Am4 n r hm he]
    ·have hm:m=1:=by omega
     subst hm
     have c1:decide ((1:Int)<((1:Nat):Int))=false:=by decide
     have hp:El (0:Int) (-1074:Int) true=true:=Ar.2 (by omega)
     rw [c1,Bool.and_false,A1l,A1i he,A1h,hp,A1h,U6 n r he]
     rfl
   ·have hp:El (m:Int) e r=true:=Ar.2 ⟨by omega,by omega,by omega,.inl (by omega),fun _=>by omega⟩
    rw [A1m he,Bool.false_and,A1l,A1l,hp,A1h]
    rfl
theorem times.wide.known:times.wide.Kn:=times.wide.Ac (.cons soft.Dj.known .nil) fun n m e r hp=>by
 obtain ⟨h1,h2,h3,h4⟩:=Ar.1 (show Pp m e=true from hp)
 obtain ⟨m,rfl⟩:∃ k:Nat,m=k:=⟨m.toNat,by omega⟩
 refine ⟨63,times.wide.out [.b n,.i m,.i e,.b r],[],?_,Wk.Ha (.cons .int (.cons .int .nil))⟩
 rw [times.wide.ev,Al2 63 n 62 m e r (by omega) (by omega) (by omega) (by omega) (by omega) (.inl (by omega))]
 rfl
open EqTimes
theorem O8 {b:Nat} (h0:Ah b≠0) (h3:Ah b≠3) (h4:Ah b≠4):As b≠0:=by
 have:=I9 b
 unfold Ah at h0 h3 h4
 unfold As
 by_cases h1:Db b=2047
 ·rw [A14 h1] at h3 h4
  by_cases h2:Cm b=0
  ·rw [A14 h2] at h3; exact absurd rfl h3
  ·rw [A13 h2] at h4; exact absurd rfl h4
 ·rw [A13 h1] at h0
  by_cases h2:0<Db b
  ·rw [A13 (by omega)]; omega
  ·rw [A13 h2] at h0
   by_cases h5:0<Cm b
   ·rw [A14 (by omega)]; omega
   ·rw [A13 h5] at h0; exact absurd rfl h0
theorem Wd {b:Nat} (h0:Ah b=0):As b=0:=by
 unfold Ah at h0
 unfold As
 by_cases h1:Db b=2047
 ·rw [A14 h1] at h0; split at h0<;>omega
 ·rw [A13 h1] at h0
  by_cases h2:0<Db b
  ·rw [A14 h2] at h0; omega
  ·rw [A13 h2] at h0
   by_cases h5:0<Cm b
   ·rw [A14 h5] at h0; omega
   ·rw [A14 (by omega)]; omega
theorem Ai3 {x y:Nat} (hx1:2^52≤x) (hx2:x<2^53) (hy1:2^52≤y) (hy2:y<2^53):2^104≤x*y∧x*y<2^106:=by
 have h1:=A2d hx1 hy1
 have h2:x*y<2^53*2^53:=Nat.mul_lt_mul'' hx2 hy2
 exact ⟨A2o (by decide) h1,A2s h2 (by decide)⟩
theorem Atj {V:Nat} (h:V<2^106):Is .u64 (B4 .u64 ((V / 18446744073709551616:Nat):Int) (20:Int)) (Dm .u64 ((V%18446744073709551616:Nat):Int) (44:Int))=((V / 2^44:Nat):Int):=by
 have e1:B4 .u64 ((V / 18446744073709551616:Nat):Int) (20:Int)=((V / 18446744073709551616*2^20%2^64:Nat):Int):=Fu _ 20 (by decide)
 have e2:Dm .u64 ((V%18446744073709551616:Nat):Int) (44:Int)=((V%18446744073709551616 / 2^44:Nat):Int):=Ii .u64 _ 44 (by decide)
 rw [e1,e2,A1u (by omega),Nx (k:=20) (by omega) (by omega)]
 congr 1
 omega
theorem Ati {V:Nat}:((B4 .u64 ((V%18446744073709551616:Nat):Int) (20:Int)) !=(0:Int))=decide (V%2^44≠0):=by
 have e1:B4 .u64 ((V%18446744073709551616:Nat):Int) (20:Int)=((V%18446744073709551616*2^20%2^64:Nat):Int):=Fu _ 20 (by decide)
 rw [e1,A1x]
 simp only [bne_iff_ne,ne_eq,A1o]
 omega
theorem Ad9 (s t:Bool):(!(s==t))=(s !=t):=rfl
theorem w53 {x:Nat} (h:x<2^53):Af (x:Int)=true:=B5 (by omega)
theorem Atq (n:Bool) {a b:Nat} (ha:As a≠0) (hb:As b≠0) :
 (bif (Af (C4 a)&&Af (C4 b)) then
  bif (Pp (Is .u64 (B4 .u64 (Tc (C4 a) (C4 b)) (20:Int)) (Dm .u64 (Ob (C4 a) (C4 b)) (44:Int))) (Ab ((Ab ((Hw a)+(Hw b)))+(44:Int)))) then
   some (DV.tup [.int .u64 (E9 n (Is .u64 (B4 .u64 (Tc (C4 a) (C4 b)) (20:Int)) (Dm .u64 (Ob (C4 a) (C4 b)) (44:Int))) (Ab ((Ab ((Hw a)+(Hw b)))+(44:Int))) ((B4 .u64 (Ob (C4 a) (C4 b)) (20:Int)) !=(0:Int))),.int .u8 (E8 n (Is .u64 (B4 .u64 (Tc (C4 a) (C4 b)) (20:Int)) (Dm .u64 (Ob (C4 a) (C4 b)) (44:Int))) (Ab ((Ab ((Hw a)+(Hw b)))+(44:Int))) ((B4 .u64 (Ob (C4 a) (C4 b)) (20:Int)) !=(0:Int)))])
  else none
 else none)=some (.tup [.int .u64 ((Bc n (Ca (As a*As b) (Ay a+Ay b)):Nat):Int),.int .u8 ((flagsOf (As a*As b) (Ay a+Ay b):Nat):Int)]):=by
 obtain ⟨a1,a2,a3,a4⟩:=Pd ha
 obtain ⟨b1,b2,b3,b4⟩:=Pd hb
 have ea:=D6 a
 have eb:=D6 b
 have ma:C4 (a:Int)=((As a*2^Cd a:Nat):Int):=rfl
 have mb:C4 (b:Int)=((As b*2^Cd b:Nat):Int):=rfl
 have na:Hw (a:Int)=Ay a-Cd a:=rfl
 have nb:Hw (b:Int)=Ay b-Cd b:=rfl
 have hi:Tc (C4 a) (C4 b)=((As a*2^Cd a*(As b*2^Cd b) / 18446744073709551616:Nat):Int):=rfl
 have lo:Ob (C4 a) (C4 b)=((As a*2^Cd a*(As b*2^Cd b)%18446744073709551616:Nat):Int):=rfl
 rw [hi,lo,ma,mb,na,nb,w53 a3,w53 b3,A1n,A1h]
 obtain ⟨v1,v2⟩:=Ai3 a2 a3 b2 b3
 have ev:As a*2^Cd a*(As b*2^Cd b)=As a*As b*2^(Cd a+Cd b):=by
  rw [Nat.mul_mul_mul_comm,← A16]
 obtain ⟨s1,s2⟩:=Du (As a*As b) (Cd a+Cd b) (Ay a+Ay b)
 rw [← ev] at s1 s2
 generalize As a*2^Cd a*(As b*2^Cd b)=V at *
 rw [Atj v2,Ati,Am (x:=_+_) (by rw [Am (by omega) (by omega)]; omega) (by rw [Am (by omega) (by omega)]; omega),Am (by omega) (by omega)]
 have hw:Pp ((V / 2^44:Nat):Int) (Ay a-Cd a+(Ay b-Cd b)+44)=true:=Ar.2 ⟨by omega,by omega,by omega,by omega⟩
 rw [hw,A1h]
 unfold E9 E8
 rw [A1j,U7 n (V:=V) (k:=44) (E:=Ay a+Ay b-((Cd a+Cd b:Nat):Int)) (e:=Ay a-Cd a+(Ay b-Cd b)+44) (s:=decide (V%2^44≠0)) (by omega) rfl (by omega) (.inl (by omega)),s1,s2]
theorem kq (b k:Nat):(((Ah b:Nat):Int)==((k:Nat):Int))=decide (Ah b=k):=by
 rw [A1x]; simp only [beq_iff_eq,A1o]; omega
theorem Abq (n:Bool) {r:Nat} (h:r<2^63):S9 n (r:Int)=((Bc n r:Nat):Int):=by
 unfold S9 Bc Cr
 cases n
 ·rfl
 ·simp only [if_true]
  rw [A1j,Zv h]
theorem Ag0 (n:Bool):S9 n (9218868437227405312:Int)=((Bc n Dz:Nat):Int):=Abq n (r:=Dz) (by decide)
theorem Abh (n:Bool):S9 n (0:Int)=((Bc n 0:Nat):Int):=Abq n (r:=0) (by decide)
theorem Se (b:Nat):A5 (b:Int)=((Ah b:Nat):Int):=rfl
theorem Ak0 (a b:Nat):Aqe (a:Int) (b:Int)=(decide (Ah a=4)||decide (Ah b=4)):=by
 unfold Aqe A5
 simp only [A1j]
 rw [A1x]
 simp only [Bool.or_eq_true,A1o]
 omega
theorem k3 (b:Nat):(((Ah b:Nat):Int)==(3:Int))=decide (Ah b=3):=kq b 3
theorem k0 (b:Nat):(((Ah b:Nat):Int)==(0:Int))=decide (Ah b=0):=kq b 0
theorem times.Mul.known:times.Mul.Kn:=times.Mul.Ac (.cons Cu.Hn.known (.cons soft.Kind.known (.cons soft.Sign.known (.cons times.nan.known (.cons times.norm.known (.cons times.signed.known (.cons times.wide.known .nil))))))) fun a b hp=>by
 obtain ⟨ha,hb⟩:=Ae.1 hp
 obtain ⟨a,rfl,hn⟩:=Bm ha
 obtain ⟨b,rfl,hm⟩:=Bm hb
 refine ⟨0,times.Mul.out [.i a,.i b],[],?_,Wk.Ha (.cons .int (.cons .int .nil))⟩
 have i1:Af (9218868437227405312:Int)=true:=B5 (n:=9218868437227405312) (by decide)
 have i2:Af (0:Int)=true:=B5 (n:=0) (by decide)
 rw [times.Mul.ev,ha,hb,Ak0,Se,Se,k3,k3,k0,k0,i1,i2,Ag0,Abh,Ad9]
 show _=some (DV.tup [.int .u64 (((Jk a b).1:Nat):Int),.int .u8 (((Jk a b).2:Nat):Int)])
 have ea:D0 (a:Int)=Bk a:=rfl
 have eb:D0 (b:Int)=Bk b:=rfl
 rw [ea,eb]
 unfold Jk
 simp only [A1n,A1h]
 by_cases h4:Ah a=4∨Ah b=4
 ·have c4:(decide (Ah a=4)||decide (Ah b=4))=true:=by simp; exact h4
  rw [A14 h4,c4,A1h]; rfl
 ·have c4:(decide (Ah a=4)||decide (Ah b=4))=false:=by simp; omega
  rw [A13 h4,c4,A1l]
  by_cases h3:Ah a=3∨Ah b=3
  ·rw [A14 h3]
   by_cases h0:Ah a=0∨Ah b=0
   ·have c0:(decide (Ah a=3)&&decide (Ah b=0)||decide (Ah a=0)&&decide (Ah b=3))=true:=by simp; omega
    rw [A14 h0,c0,A1h]; rfl
   ·have c0:(decide (Ah a=3)&&decide (Ah b=0)||decide (Ah a=0)&&decide (Ah b=3))=false:=by simp; omega
    have c3:(decide (Ah a=3)||decide (Ah b=3))=true:=by simp; omega
    rw [A13 h0,c0,A1l,c3,A1h]; rfl
  ·have c0:(decide (Ah a=3)&&decide (Ah b=0)||decide (Ah a=0)&&decide (Ah b=3))=false:=by simp; omega
   have c3:(decide (Ah a=3)||decide (Ah b=3))=false:=by simp; omega
   rw [A13 h3,c0,A1l,c3,A1l]
   by_cases h0:Ah a=0∨Ah b=0
   ·have c5:(decide (Ah a=0)||decide (Ah b=0))=true:=by simp; exact h0
    have hz:As a*As b=0:=by
     rcases h0 with h | h
     ·rw [Wd h,Nat.zero_mul]
     ·rw [Wd h,Nat.mul_zero]
    rw [c5,A1h,hz,Ky,Qe]; rfl
   ·have c5:(decide (Ah a=0)||decide (Ah b=0))=false:=by simp; omega
    have pa:=O8 (b:=a) (by omega) (by omega) (by omega)
    have pb:=O8 (b:=b) (by omega) (by omega) (by omega)
    have na:Ms (a:Int)=true:=Ar.2 pa
    have nb:Ms (b:Int)=true:=Ar.2 pb
    rw [c5,A1l,na,nb,A1n,A1h,A1h]
    exact Atq _ pa pb
theorem Arq (N:Nat) {a b:Nat} {X Y:Nat} (hY:0<Y) (hY2:Y<2^53) (hX:X<2*Y) (em:C4 (b:Int)=(Y:Int)):∀ (k i:Nat),k+i=61 →
 times.Div.L0 N (k+1) a b ((X*2^i / Y:Nat):Int) ((X*2^i%Y:Nat):Int) (i:Int) =
  times.Div.L0 N 1 a b ((X*2^61 / Y:Nat):Int) ((X*2^61%Y:Nat):Int) (61:Int):=by
 intro k
 induction k with
 | zero =>
   intro i hi
   have:i=61:=by omega
   subst this
   rfl
 | succ k ih =>
   intro i hi
   have hq:X*2^i / Y<2^62:=by
    rw [Nat.div_lt_iff_lt_mul hY]
    have h1:X*2^i<2*Y*2^i:=(Nat.mul_lt_mul_right (Cg i)).2 hX
    have h2:2*2^i≤2^62:=by
     rw [A15,← Nat.pow_succ]; exact A1w (by decide) (by omega)
    have h3:2*2^i*Y≤2^62*Y:=A1t _ h2
    rw [Nat.mul_right_comm] at h1
    omega
   have hr:X*2^i%Y<Y:=Nat.mod_lt _ hY
   have hd:=Nat.div_add_mod (X*2^i) Y
   have e2:X*2^(i+1)=X*2^i*2:=by rw [Nat.pow_succ,A18]
   rw [times.Div.Av,Au,Es,em,A1i (by omega),A1h]
   have s1:B4 .u64 ((X*2^i%Y:Nat):Int) (1:Int)=((X*2^i%Y*2:Nat):Int):=by
    have:=Fu (X*2^i%Y) 1 (by decide)
    rw [A1u (a:=X*2^i%Y*2^1) (by omega)] at this
    exact this
   have s2:B4 .u64 ((X*2^i / Y:Nat):Int) (1:Int)=((X*2^i / Y*2^1:Nat):Int):=by
    have:=Fu (X*2^i / Y) 1 (by decide)
    rw [A1u (a:=X*2^i / Y*2^1) (by omega)] at this
    exact this
   have s3:Is .u64 ((X*2^i / Y*2^1:Nat):Int) (1:Int)=((X*2^i / Y*2^1+1:Nat):Int):=Nx (k:=1) (b:=1) (by decide) (by omega)
   have ei:Ab ((i:Int)+1)=((i+1:Nat):Int):=by rw [Am (by omega) (by omega)]; rfl
   rw [s1,s2,s3,ei]
   generalize hq':X*2^i / Y=q at *
   generalize hr':X*2^i%Y=r at *
   have step:∀ c,X*2^i*2=Y*(2*q+c)+(2*r-c*Y)→c*Y≤2*r→2*r<c*Y+Y→X*2^(i+1) / Y=2*q+c∧X*2^(i+1)%Y=2*r-c*Y:=fun c h1 h2 h3=>by
    rw [e2,h1]
    constructor
    ·rw [Nat.mul_add_div hY,Nat.div_eq_of_lt (by omega)]; omega
    ·rw [Nat.mul_add_mod,A1u (by omega)]
   by_cases hc:Y≤r*2
   ·obtain ⟨t1,t2⟩:=step 1 (by rw [Nat.mul_add,A2q,Nat.mul_left_comm]; omega) (by omega) (by omega)
    have:=ih (i+1) (by omega)
    rw [t1,t2] at this
    rw [A1i (by omega),A1h,Dp (by omega) (by omega)]
    have e3:((r*2:Nat):Int)-(Y:Int)=((2*r-1*Y:Nat):Int):=by omega
    have e4:q*2^1+1=2*q+1:=by omega
    rw [e3,e4]
    exact this
   ·obtain ⟨t1,t2⟩:=step 0 (by rw [A2p,Nat.mul_left_comm]; omega) (by omega) (by omega)
    have:=ih (i+1) (by omega)
    rw [t1,t2] at this
    rw [A1m (by omega),A1l]
    have e3:r*2=2*r-0*Y:=by omega
    have e4:q*2^1=2*q+0:=by omega
    rw [e3,e4]
    exact this
theorem Aul {a b:Nat} (ha:As a≠0) (hb:As b≠0) :
 times.Div.L0 62 62 a b (Bl (Int.tdiv (C4 a) (C4 b))) (Int.tmod (C4 a) (C4 b)) (0:Int) =
  some (.tup [.int .u64 ((Bc (Bk a !=Bk b) (Ca (F0 (As a) (As b) 120) (Ay a-Ay b-121)):Nat):Int),.int .u8 ((flagsOf (F0 (As a) (As b) 120) (Ay a-Ay b-121):Nat):Int)]):=by
 obtain ⟨a1,a2,a3,a4⟩:=Pd ha
 obtain ⟨b1,b2,b3,b4⟩:=Pd hb
 have ea:=D6 a
 have eb:=D6 b
 have ma:C4 (a:Int)=((As a*2^Cd a:Nat):Int):=rfl
 have mb:C4 (b:Int)=((As b*2^Cd b:Nat):Int):=rfl
 have na:Hw (a:Int)=Ay a-Cd a:=rfl
 have nb:Hw (b:Int)=Ay b-Cd b:=rfl
 have sL:=Aie (As a) (As b*2^Cd b) (Cd a) 61
 have hpos:0<As b*2^Cd b:=by omega
 have hq1:2^53≤As a*2^Cd a*2^61 / (As b*2^Cd b):=by
  rw [Nat.le_div_iff_mul_le hpos]; omega
 have hqq:2^60≤As a*2^Cd a*2^61 / (As b*2^Cd b):=by
  rw [Nat.le_div_iff_mul_le hpos]; omega
 have hq2:As a*2^Cd a*2^61 / (As b*2^Cd b)<2^62:=by
  rw [Nat.div_lt_iff_lt_mul hpos]; omega
 have hstick:F0 (As a*2^Cd a) (As b*2^Cd b) 61=F0 (As a) (As b) (61+Cd a-Cd b):=by
  rw [sL]
  have:61+Cd a=61+Cd a-Cd b+Cd b:=by omega
  conv=>lhs; rw [this]
  rw [Afl]
 have hge1:2^53≤As a*2^(61+Cd a-Cd b) / As b:=by
  have e1:As a*2^Cd a*2^61=As a*2^(61+Cd a-Cd b)*2^Cd b:=by
   rw [A18,← A16,A18,← A16]
   congr 2
   omega
  rw [e1,Nat.mul_div_mul_right _ _ (Cg _)] at hq1
  exact hq1
 have hge2:2^53≤As a*2^120 / As b:=Apq (t:=53) (by omega) (by omega) (by have:=Ff b; omega) (by omega)
 obtain ⟨s1,s2⟩:=Yu (X:=As a) (Y:=As b) (K:=61+Cd a-Cd b) (L:=120) (E:=Ay a-Cd a-(Ay b-Cd b)-61-1) (F:=Ay a-Ay b-121) (by omega) hge1 hge2 (by omega)
 have d1:Bl (Int.tdiv (C4 a) (C4 b))=((As a*2^Cd a*2^0 / (As b*2^Cd b):Nat):Int):=by
  rw [ma,mb,Kb,A2f,A2q]
  have h1:=Nat.div_le_self (As a*2^Cd a) (As b*2^Cd b)
  have h2:As a*2^Cd a / (As b*2^Cd b)<2^64:=A2j h1 (Nat.lt_trans a3 (by decide))
  generalize As a*2^Cd a / (As b*2^Cd b)=q at h2 ⊢
  exact Dp (Int.natCast_nonneg q) (by omega)
 have d2:Int.tmod (C4 a) (C4 b)=((As a*2^Cd a*2^0%(As b*2^Cd b):Nat):Int):=by
  rw [ma,mb,Ka,A2f,A2q]
 rw [d1,d2]
 have lp:=Arq 62 (a:=a) (b:=b) hpos b3 (X:=As a*2^Cd a) (by omega) mb 61 0 (by omega)
 refine lp.trans ?_
 rw [times.Div.Av,Au,na,nb,A1m (by omega),A1l]
 have we:Ab (Ab (Ay a-Cd a-(Ay b-Cd b))-61)=Ay a-Cd a-(Ay b-Cd b)-61:=by
  rw [Am (x:=Ay a-Cd a-(Ay b-Cd b)) (by omega) (by omega),Am (by omega) (by omega)]
 have hne:(((As a*2^Cd a*2^61%(As b*2^Cd b):Nat):Int) !=(0:Int))=decide (As a*2^Cd a*2^61%(As b*2^Cd b)≠0):=by
  rw [A1x]; simp only [bne_iff_ne,ne_eq,A1o]; omega
 rw [we,hne]
 have hw:Pp ((As a*2^Cd a*2^61 / (As b*2^Cd b):Nat):Int) (Ay a-Cd a-(Ay b-Cd b)-61)=true:=Ar.2 ⟨by omega,by omega,by omega,by omega⟩
 have hn:D0 (a:Int)=Bk a:=rfl
 have hn':D0 (b:Int)=Bk b:=rfl
 rw [hw,A1h,Ad9,hn,hn']
 unfold E9 E8
 rw [A1j,Am6 _ rfl rfl hq1,hstick,s1,s2]
theorem times.Div.known:times.Div.Kn:=times.Div.Ac (.cons soft.Kind.known (.cons soft.Sign.known (.cons times.nan.known (.cons times.norm.known (.cons times.signed.known (.cons times.wide.known .nil)))))) fun a b hp=>by
 obtain ⟨ha,hb⟩:=Ae.1 hp
 obtain ⟨a,rfl,hn⟩:=Bm ha
 obtain ⟨b,rfl,hm⟩:=Bm hb
 refine ⟨62,times.Div.out [.i a,.i b],[],?_,Wk.Ha (.cons .int (.cons .int .nil))⟩
 have i1:Af (9218868437227405312:Int)=true:=B5 (n:=9218868437227405312) (by decide)
 have i2:Af (0:Int)=true:=B5 (n:=0) (by decide)
 rw [times.Div.ev,ha,hb,Ak0,Se,Se,k3,k3,k0,k0,i1,i2,Ag0,Abh,Ad9]
 show _=some (DV.tup [.int .u64 (((T0 a b).1:Nat):Int),.int .u8 (((T0 a b).2:Nat):Int)])
 have ea:D0 (a:Int)=Bk a:=rfl
 have eb:D0 (b:Int)=Bk b:=rfl
 rw [ea,eb]
 unfold T0
 rw [A1n,A1h,A1h,A1h,A1h,A1h]
 by_cases h4:Ah a=4∨Ah b=4
 ·have c4:(decide (Ah a=4)||decide (Ah b=4))=true:=by simp; exact h4
  rw [A14 h4,c4,A1h]; rfl
 ·have c4:(decide (Ah a=4)||decide (Ah b=4))=false:=by simp; omega
  rw [A13 h4,c4,A1l]
  by_cases h1:Ah a=Ah b∧(Ah a=3∨Ah a=0)
  ·have c1:(decide (Ah a=3)&&decide (Ah b=3)||decide (Ah a=0)&&decide (Ah b=0))=true:=by simp; omega
   rw [A14 h1,c1,A1h]; rfl
  ·have c1:(decide (Ah a=3)&&decide (Ah b=3)||decide (Ah a=0)&&decide (Ah b=0))=false:=by simp; omega
   rw [A13 h1,c1,A1l]
   by_cases h2:Ah a=3
   ·rw [A14 h2,A1i h2,A1h]; rfl
   ·rw [A13 h2,A1m h2,A1l]
    by_cases h3:Ah b=3∨Ah a=0
    ·have c3:(decide (Ah b=3)||decide (Ah a=0))=true:=by simp; exact h3
     rw [A14 h3,c3,A1h]; rfl
    ·have c3:(decide (Ah b=3)||decide (Ah a=0))=false:=by simp; omega
     rw [A13 h3,c3,A1l]
     by_cases h5:Ah b=0
     ·rw [A14 h5,A1i h5,A1h]; rfl
     ·rw [A13 h5,A1m h5,A1l]
      have pa:=O8 (b:=a) (by omega) (by omega) (by omega)
      have pb:=O8 (b:=b) (by omega) (by omega) (by omega)
      have na:Ms (a:Int)=true:=Ar.2 pa
      have nb:Ms (b:Int)=true:=Ar.2 pb
      have hnb:(C4 (b:Int) !=0)=true:=by
       obtain ⟨_,l2,_,_⟩:=Pd pb
       have mb:C4 (b:Int)=((As b*2^Cd b:Nat):Int):=rfl
       rw [mb]
       simp only [bne_iff_ne,ne_eq]
       omega
      rw [na,nb,hnb,A1n,A1h,A1h,A1h,A1h,Aul pa pb]
namespace EqVec
def Ad.Add.A9:List (Nat × Entry):=[(232,sum.Add.spec)]
def Ad.Add.E:Env:=Ba (A8 Ad.Add.A9) (fun _=>false) (fun _=>none) (fun _=>none)
theorem Ad.Add.ev (N:Nat) (a b:Int):Bw Ad.Add.E N f226 (An f226) [.int .u64 a,.int .u64 b]=bif (Af a&&Af b) then some (.int .u64 (Fg a b)) else none:=by kernel_rfl
abbrev _root_.Go.Proofs.S1.Ad.Add.Kn:=A4 prog 226 Ad.Add.spec
theorem Ad.Add.Ac (hk:Az prog Ad.Add.A9) (h:Hyp Ad.Add.E f226 Ad.Add.ts Ad.Add.pre Ad.Add.out):Ad.Add.Kn :=
 Al (A0 hk _ _ _) func226 (by kernel_rfl) (by kernel_rfl) h
def Ad.Sub.A9:List (Nat × Entry):=[(207,sum.Sub.spec)]
def Ad.Sub.E:Env:=Ba (A8 Ad.Sub.A9) (fun _=>false) (fun _=>none) (fun _=>none)
theorem Ad.Sub.ev (N:Nat) (a b:Int):Bw Ad.Sub.E N f156 (An f156) [.int .u64 a,.int .u64 b]=bif (Af a&&Af b) then some (.int .u64 (Ec a b)) else none:=by kernel_rfl
abbrev _root_.Go.Proofs.S1.Ad.Sub.Kn:=A4 prog 156 Ad.Sub.spec
theorem Ad.Sub.Ac (hk:Az prog Ad.Sub.A9) (h:Hyp Ad.Sub.E f156 Ad.Sub.ts Ad.Sub.pre Ad.Sub.out):Ad.Sub.Kn :=
 Al (A0 hk _ _ _) func156 (by kernel_rfl) (by kernel_rfl) h
def Ad.Mul.A9:List (Nat × Entry):=[(208,times.Mul.spec)]
def Ad.Mul.E:Env:=Ba (A8 Ad.Mul.A9) (fun _=>false) (fun _=>none) (fun _=>none)
theorem Ad.Mul.ev (N:Nat) (a b:Int):Bw Ad.Mul.E N f157 (An f157) [.int .u64 a,.int .u64 b]=bif (Af a&&Af b) then some (.int .u64 (C5 a b)) else none:=by kernel_rfl
abbrev _root_.Go.Proofs.S1.Ad.Mul.Kn:=A4 prog 157 Ad.Mul.spec
theorem Ad.Mul.Ac (hk:Az prog Ad.Mul.A9) (h:Hyp Ad.Mul.E f157 Ad.Mul.ts Ad.Mul.pre Ad.Mul.out):Ad.Mul.Kn :=
 Al (A0 hk _ _ _) func157 (by kernel_rfl) (by kernel_rfl) h
def Ad.fit.A9:List (Nat × Entry):=[]
def Ad.fit.E:Env:=Ba (A8 Ad.fit.A9) (fun _=>false) (fun _=>none) (fun _=>none)
theorem Ad.fit.ev (N:Nat) (x y:List Int):Bw Ad.fit.E N f225 (An f225) [.ints .arg .u64 x,.ints .arg .u64 y]=some (.bool (bif ((length x:Int)==(length y:Int)) then (Em (length x:Int) 64) else false)) :=
 Eq.trans (by kernel_rfl)
 (Ax (Qq ((length x:Int)==(length y:Int))) (Ax (Ma ((length x:Int)==(length y:Int))) (Ax (Ma ((length x:Int)==(length y:Int))) (Ax (Uf ((length x:Int)==(length y:Int))) rfl))))
abbrev _root_.Go.Proofs.S1.Ad.fit.Kn:=A4 prog 225 Ad.fit.spec
theorem Ad.fit.Ac (hk:Az prog Ad.fit.A9) (h:Hyp Ad.fit.E f225 Ad.fit.ts Ad.fit.pre Ad.fit.out):Ad.fit.Kn :=
 Al (A0 hk _ _ _) func225 (by kernel_rfl) (by kernel_rfl) h
def Ad.Ht.hint:Nat→Option Be
 | 0=>some { keep:=[0,1,6,13,14],objs:=[],boxes:=[] }
 | _=>none
def Ad.Ht.A9:List (Nat × Entry):=[(226,Ad.Add.spec),(157,Ad.Mul.spec),(225,Ad.fit.spec)]
def Ad.Ht.E:Env:=Ba (A8 Ad.Ht.A9) (fun _=>false) Ad.Ht.hint (fun _=>none)
section
variable (N M:Nat) (x y:List Int) (p6 p14:Int)
def Ad.Ht.L0:Option DV:=B2 Ad.Ht.E N f189 (An f189) [1,1,1,0,1,0] [] M ⟨Gz 30 [(0,.ints .arg .u64 x),(1,.ints .arg .u64 y),(6,.int .u64 p6),(13,.int .i64 (length x:Int)),(14,.int .i64 p14)],[]⟩
theorem Ad.Ht.Av:Ad.Ht.L0 N (M+1) x y p6 p14=bif (A6 p14 (length x:Int)) then bif ((decide (0≤p14))&&(decide (p14<(length x:Int)))) then bif ((decide (0≤p14))&&(decide (p14<(length y:Int)))) then bif (Af (getD x (toNat p14) 0)&&Af (getD y (toNat p14) 0)) then bif (Af p6&&Af (C5 (getD x (toNat p14) 0) (getD y (toNat p14) 0))) then Ad.Ht.L0 N M x y (Fg p6 (C5 (getD x (toNat p14) 0) (getD y (toNat p14) 0))) (Ab (p14+1)) else none else none else none else none else some (.tup [.int .u64 p6,.int .i64 0]) :=
 Eq.trans (by kernel_rfl)
 (Et (C9 (Nh (decide (0≤p14)) (decide (p14<(length x:Int)))) (C9 (Nh (decide (0≤p14)) (decide (p14<(length y:Int)))) (C9 (Cy (Af (getD x (toNat p14) 0)&&Af (getD y (toNat p14) 0))) (C9 (Cy (Af p6&&Af (C5 (getD x (toNat p14) 0) (getD y (toNat p14) 0)))) rfl rfl) rfl) rfl) rfl) rfl)
theorem Ad.Ht.ev:Bw Ad.Ht.E N f189 (An f189) [.ints .arg .u64 x,.ints .arg .u64 y]=bif (!(Pk x y)) then some (.tup [.int .u64 0,.int .i64 3]) else Ad.Ht.L0 N N x y 0 0:=by kernel_rfl
end
abbrev _root_.Go.Proofs.S1.Ad.Ht.Kn:=A4 prog 189 Ad.Ht.spec
theorem Ad.Ht.Ac (hk:Az prog Ad.Ht.A9) (h:Hyp Ad.Ht.E f189 Ad.Ht.ts Ad.Ht.pre Ad.Ht.out):Ad.Ht.Kn :=
 Al (A0 hk _ _ _) func189 (by kernel_rfl) (by kernel_rfl) h
def Aj.F.A9:List (Nat × Entry):=[]
def Aj.F.E:Env:=Ba (A8 Aj.F.A9) (fun _=>false) (fun _=>none) (fun _=>none)
theorem Aj.F.ev (N:Nat) (x:Int):Bw Aj.F.E N f159 (An f159) [.int .u64 x]=bif (decide (0≤x)) then some (.fl (toNat x)) else none:=by kernel_rfl
abbrev _root_.Go.Proofs.S1.Aj.F.Kn:=A4 prog 159 Aj.F.spec
theorem Aj.F.Ac (hk:Az prog Aj.F.A9) (h:Hyp Aj.F.E f159 Aj.F.ts Aj.F.pre Aj.F.out):Aj.F.Kn :=
 Al (A0 hk _ _ _) func159 (by kernel_rfl) (by kernel_rfl) h
def Aj.B.A9:List (Nat × Entry):=[(168,Ek.Canon.nb.spec)]
def Aj.B.E:Env:=Ba (A8 Aj.B.A9) (fun _=>false) (fun _=>none) (fun _=>none)
theorem Aj.B.ev (N x:Nat):Bw Aj.B.E N f102 (An f102) [.fl x]=some (.int .u64 (Gc x)):=by kernel_rfl
abbrev _root_.Go.Proofs.S1.Aj.B.Kn:=A4 prog 102 Aj.B.spec
theorem Aj.B.Ac (hk:Az prog Aj.B.A9) (h:Hyp Aj.B.E f102 Aj.B.ts Aj.B.pre Aj.B.out):Aj.B.Kn :=
 Al (A0 hk _ _ _) func102 (by kernel_rfl) (by kernel_rfl) h
def Aj.Add.A9:List (Nat × Entry):=[(102,Aj.B.spec),(159,Aj.F.spec)]
def Aj.Add.E:Env:=Ba (A8 Aj.Add.A9) (fun _=>false) (fun _=>none) (fun _=>none)
theorem Aj.Add.ev (N:Nat) (a b:Int):Bw Aj.Add.E N f181 (An f181) [.int .u64 a,.int .u64 b]=bif (Af a) then bif (Af b) then some (.int .u64 (Gc ((Ieee.double.add (toNat a) (toNat b)).getD nanBits))) else none else none:=by kernel_rfl
abbrev _root_.Go.Proofs.S1.Aj.Add.Kn:=A4 prog 181 Aj.Add.spec
theorem Aj.Add.Ac (hk:Az prog Aj.Add.A9) (h:Hyp Aj.Add.E f181 Aj.Add.ts Aj.Add.pre Aj.Add.out):Aj.Add.Kn :=
 Al (A0 hk _ _ _) func181 (by kernel_rfl) (by kernel_rfl) h
def Aj.Sub.A9:List (Nat × Entry):=[(102,Aj.B.spec),(159,Aj.F.spec)]
def Aj.Sub.E:Env:=Ba (A8 Aj.Sub.A9) (fun _=>false) (fun _=>none) (fun _=>none)
theorem Aj.Sub.ev (N:Nat) (a b:Int):Bw Aj.Sub.E N f81 (An f81) [.int .u64 a,.int .u64 b]=bif (Af a) then bif (Af b) then some (.int .u64 (Gc ((Ieee.double.sub (toNat a) (toNat b)).getD nanBits))) else none else none:=by kernel_rfl
abbrev _root_.Go.Proofs.S1.Aj.Sub.Kn:=A4 prog 81 Aj.Sub.spec
theorem Aj.Sub.Ac (hk:Az prog Aj.Sub.A9) (h:Hyp Aj.Sub.E f81 Aj.Sub.ts Aj.Sub.pre Aj.Sub.out):Aj.Sub.Kn :=
 Al (A0 hk _ _ _) func81 (by kernel_rfl) (by kernel_rfl) h
def Aj.Mul.A9:List (Nat × Entry):=[(102,Aj.B.spec),(159,Aj.F.spec)]
def Aj.Mul.E:Env:=Ba (A8 Aj.Mul.A9) (fun _=>false) (fun _=>none) (fun _=>none)
theorem Aj.Mul.ev (N:Nat) (a b:Int):Bw Aj.Mul.E N f82 (An f82) [.int .u64 a,.int .u64 b]=bif (Af a) then bif (Af b) then some (.int .u64 (Gc ((Ieee.double.mul (toNat a) (toNat b)).getD nanBits))) else none else none:=by kernel_rfl
abbrev _root_.Go.Proofs.S1.Aj.Mul.Kn:=A4 prog 82 Aj.Mul.spec
theorem Aj.Mul.Ac (hk:Az prog Aj.Mul.A9) (h:Hyp Aj.Mul.E f82 Aj.Mul.ts Aj.Mul.pre Aj.Mul.out):Aj.Mul.Kn :=
 Al (A0 hk _ _ _) func82 (by kernel_rfl) (by kernel_rfl) h
def Aj.Ht.hint:Nat→Option Be
 | 0=>some { keep:=[0,1,5,6],objs:=[],boxes:=[] }
 | _=>none
def Aj.Ht.A9:List (Nat × Entry):=[(181,Aj.Add.spec),(82,Aj.Mul.spec)]
def Aj.Ht.E:Env:=Ba (A8 Aj.Ht.A9) (fun _=>false) Aj.Ht.hint (fun _=>none)
section
variable (N M:Nat) (x y:List Int) (p5 p6:Int)
def Aj.Ht.L0:Option DV:=B2 Aj.Ht.E N f118 (An f118) [1,1,0,1,0] [] M ⟨Gz 25 [(0,.ints .arg .u64 x),(1,.ints .arg .u64 y),(5,.int .u64 p5),(6,.int .i64 p6)],[]⟩
theorem Aj.Ht.Av:Aj.Ht.L0 N (M+1) x y p5 p6=bif (A6 p6 (length x:Int)) then bif ((decide (0≤p6))&&(decide (p6<(length x:Int)))) then bif ((decide (0≤p6))&&(decide (p6<(length y:Int)))) then bif (Af (getD x (toNat p6) 0)&&Af (getD y (toNat p6) 0)) then bif (Af p5&&Af (C5 (getD x (toNat p6) 0) (getD y (toNat p6) 0))) then Aj.Ht.L0 N M x y (Fg p5 (C5 (getD x (toNat p6) 0) (getD y (toNat p6) 0))) (Ab (p6+1)) else none else none else none else none else some (.int .u64 p5) :=
 Eq.trans (by kernel_rfl)
 (Et (C9 (Nh (decide (0≤p6)) (decide (p6<(length x:Int)))) (C9 (Nh (decide (0≤p6)) (decide (p6<(length y:Int)))) (C9 (Cy (Af (getD x (toNat p6) 0)&&Af (getD y (toNat p6) 0))) (C9 (Cy (Af p5&&Af (C5 (getD x (toNat p6) 0) (getD y (toNat p6) 0)))) rfl rfl) rfl) rfl) rfl) rfl)
theorem Aj.Ht.ev:Bw Aj.Ht.E N f118 (An f118) [.ints .arg .u64 x,.ints .arg .u64 y] =
 Aj.Ht.L0 N N x y 0 0:=by kernel_rfl
end
abbrev _root_.Go.Proofs.S1.Aj.Ht.Kn:=A4 prog 118 Aj.Ht.spec
theorem Aj.Ht.Ac (hk:Az prog Aj.Ht.A9) (h:Hyp Aj.Ht.E f118 Aj.Ht.ts Aj.Ht.pre Aj.Ht.out):Aj.Ht.Kn :=
 Al (A0 hk _ _ _) func118 (by kernel_rfl) (by kernel_rfl) h
end EqVec
open Go Go.Den Go.Rnd Go.Proofs Ieee
open EqVec
theorem U4 {b:Nat} (h3:Ah b≠3) (h4:Ah b≠4):As b=0↔Ah b=0 :=
 ⟨fun h=>by
  by_cases h0:Ah b=0
  ·exact h0
  ·exact absurd h (O8 h0 h3 h4),Wd⟩
theorem Lc (s:Bool):D3 (Bc s Dz)=Bc s Dz:=G3 s (A2b _)
theorem U9 {a b:Nat} (ha:a<2^64) (hb:b<2^64) {d:Nat} (hd:Ah d=4):D3 ((Ieee.double.mul a b).getD d)=(Jk a b).1:=by
 have cd:D3 d=Le:=A14 hd
 have ex:∀ s t:Bool,(s ^^ t)=(s !=t):=fun s t=>by cases s<;>cases t<;>rfl
 unfold Format.mul
 rw [I8 ha,I8 hb]
 unfold Jk
 by_cases a4:Ah a=4
 ·rw [A14 (.inl a4),Hf a4]; exact cd
 ·by_cases b4:Ah b=4
  ·rw [A14 (.inr b4),Hf b4]
   by_cases a3:Ah a=3
   ·rw [Eo a3]; exact cd
   ·rw [En a3 a4]; exact cd
  ·rw [A13 (fun h=>h.elim a4 b4)]
   by_cases a3:Ah a=3
   ·rw [A14 (.inl a3),Eo a3]
    by_cases b3:Ah b=3
    ·rw [Eo b3,A13 (by omega)]
     show D3 (Bc (Bk a ^^ Bk b) Dz)=_
     rw [Lc,ex]
    ·rw [En b3 b4]
     have z:=U4 b3 b4
     by_cases b0:Ah b=0
     ·have e:(Datum.infinity (Bk a)).product (.number (Bk b) (As b) (Ay b))=none:=A14 (z.2 b0)
      rw [e,A14 (.inr b0)]; exact cd
     ·have e:(Datum.infinity (Bk a)).product (.number (Bk b) (As b) (Ay b))=some (.infinity (Bk a ^^ Bk b)):=A13 (fun k=>b0 (z.1 k))
      rw [e,A13 (by omega)]
      show D3 (Bc (Bk a ^^ Bk b) Dz)=_
      rw [Lc,ex]
   ·rw [En a3 a4]
    have z:=U4 a3 a4
    by_cases b3:Ah b=3
    ·rw [A14 (.inr b3),Eo b3]
     have sw:∀ s t:Bool,(t ^^ s)=(s !=t):=fun s t=>by cases s<;>cases t<;>rfl
     by_cases a0:Ah a=0
     ·have e:(Datum.number (Bk a) (As a) (Ay a)).product (.infinity (Bk b))=none:=A14 (z.2 a0)
      rw [e,A14 (.inl a0)]; exact cd
     ·have e:(Datum.number (Bk a) (As a) (Ay a)).product (.infinity (Bk b))=some (.infinity (Bk b ^^ Bk a)):=A13 (fun k=>a0 (z.1 k))
      rw [e,A13 (by omega)]
      show D3 (Bc (Bk b ^^ Bk a) Dz)=_
      rw [Lc,sw]
    ·rw [En b3 b4,A13 (by omega)]
     show D3 (Ieee.double.write (.number (Bk a ^^ Bk b) (As a*As b) (Ay a+Ay b)))=_
     rw [M4,G3 _ (Jq _ _),ex]
theorem Gu:Ah nanBits=4:=by decide +kernel
theorem Ad.Add.known:Ad.Add.Kn:=Ad.Add.Ac (.cons sum.Add.known .nil) fun a b hp=>by
 have hp:(Af a&&Af b)=true:=hp
 refine ⟨0,Ad.Add.out [.i a,.i b],[],?_,.int⟩
 rw [Ad.Add.ev,hp]; rfl
theorem Ad.Sub.known:Ad.Sub.Kn:=Ad.Sub.Ac (.cons sum.Sub.known .nil) fun a b hp=>by
 have hp:(Af a&&Af b)=true:=hp
 refine ⟨0,Ad.Sub.out [.i a,.i b],[],?_,.int⟩
 rw [Ad.Sub.ev,hp]; rfl
theorem Ad.Mul.known:Ad.Mul.Kn:=Ad.Mul.Ac (.cons times.Mul.known .nil) fun a b hp=>by
 have hp:(Af a&&Af b)=true:=hp
 refine ⟨0,Ad.Mul.out [.i a,.i b],[],?_,.int⟩
 rw [Ad.Mul.ev,hp]; rfl
theorem Are (x y:List Int):(bif ((length x:Int)==(length y:Int)) then (Em (length x:Int) (64:Int)) else false)=Pk x y:=by
 unfold Pk
 rw [Es,A1x]
 by_cases h:x.length=y.length
 ·have:((x.length:Int)==(y.length:Int))=true:=by rw [beq_iff_eq]; omega
  rw [this,A1h,A1i h,A2u,A1o,A1o]; omega
 ·have:((x.length:Int)==(y.length:Int))=false:=by rw [A2c]; omega
  rw [this,A1l,A1m h,Bool.false_and]
theorem Ad.fit.known:Ad.fit.Kn:=Ad.fit.Ac .nil fun x y _=>by
 refine ⟨0,Ad.fit.out [.l x,.l y],[],?_,.bool⟩
 rw [Ad.fit.ev,Are]; rfl
theorem Sj {x y:List Int}:Pk x y=true↔x.length=y.length∧x.length≤64:=by unfold Pk; simp
theorem Ahd {l:List Int} {i:Nat} (h:i<l.length):l.drop i=l.getD i 0::l.drop (i+1):=by
 rw [List.drop_eq_getElem_cons h,A1r,A1y h]; rfl
theorem Ahh {x y:List Int} {i:Nat} (s:Nat) (hx:i<x.length) (hy:i<y.length) :
 Aar s (x.drop i) (y.drop i)=Aar (Gd s (Jk (x.getD i 0).toNat (y.getD i 0).toNat).1).1 (x.drop (i+1)) (y.drop (i+1)):=by
 rw [Ahd hx,Ahd hy]; rfl
theorem Arp (N:Nat) {x y:List Int} (hf:Pk x y=true) (hx:Ai x=true) (hy:Ai y=true):∀ (k i F s:Nat),i+k=x.length→k<F→s<2^64 →
 Ad.Ht.L0 N F x y (s:Int) (i:Int)=some (.tup [.int .u64 ((Aar s (x.drop i) (y.drop i):Nat):Int),.int .i64 (0:Int)]):=by
 obtain ⟨h1,h2⟩:=Sj.1 hf
 intro k
 induction k with
 | zero =>
   intro i F s hi hF hs
   obtain ⟨F,rfl⟩:∃ G,F=G+1:=⟨F-1,by omega⟩
   rw [Ad.Ht.Av,Au,A1m (by omega),A1l,A1v (by omega)]
   rfl
 | succ k ih =>
   intro i F s hi hF hs
   obtain ⟨F,rfl⟩:∃ G,F=G+1:=⟨F-1,by omega⟩
   have c1:decide ((i:Int)<(x.length:Int))=true:=A1i (by omega)
   have c2:decide ((i:Int)<(y.length:Int))=true:=A1i (by omega)
   have c3:decide ((0:Int)≤(i:Int))=true:=A1i (by omega)
   have g1:=Qm hx (show i<x.length by omega)
   have g2:=Qm hy (show i<y.length by omega)
   have em:C5 (x.getD i 0) (y.getD i 0)=(((Jk (x.getD i 0).toNat (y.getD i 0).toNat).1:Nat):Int):=rfl
   have ea:∀ t:Nat,Fg (s:Int) (t:Int)=(((Gd s t).1:Nat):Int):=fun t=>rfl
   rw [Ad.Ht.Av,Au,c1,c2,c3,A1j,g1,g2,em,ea,B5 hs,B5 Oa,A1n,A1h,A1h,A1h,A1h,A1h,Am (by omega) (by omega),Ahh s (by omega) (by omega)]
   exact ih (i+1) F _ (by omega) (by omega) (Qp hs Oa).1
theorem Ad.Ht.known:Ad.Ht.Kn:=Ad.Ht.Ac (.cons Ad.Add.known (.cons Ad.Mul.known (.cons Ad.fit.known .nil))) fun x y hp=>by
 obtain ⟨h1,hy⟩:=Ae.1 hp
 obtain ⟨hf,hx⟩:=Ae.1 h1
 refine ⟨x.length+1,Ad.Ht.out [.l x,.l y],[],?_,Wk.Ha (.cons .int (.cons .int .nil))⟩
 rw [Ad.Ht.ev,hf,A2g,A1l]
 exact Arp _ hf hx hy x.length 0 _ 0 (by omega) (by omega) (by decide)
theorem Aj.F.known:Aj.F.Kn:=Aj.F.Ac .nil fun x hp=>by
 obtain ⟨n,rfl,hn⟩:=Bm (x:=x) hp
 refine ⟨0,Aj.F.out [.i n],[],?_,.fl⟩
 rw [Aj.F.ev,A1i (Int.natCast_nonneg n)]; rfl
theorem Aj.B.known:Aj.B.Kn:=Aj.B.Ac (.cons Ek.Canon.Aqc .nil) fun x _=>by
 refine ⟨0,Aj.B.out [.f x],[],?_,.int⟩
 rw [Aj.B.ev]; rfl
theorem Aj.Add.known:Aj.Add.Kn:=Aj.Add.Ac (.cons Aj.B.known (.cons Aj.F.known .nil)) fun a b hp=>by
 obtain ⟨ha,hb⟩:=Ae.1 hp
 obtain ⟨a,rfl,hn⟩:=Bm ha
 obtain ⟨b,rfl,hm⟩:=Bm hb
 refine ⟨0,Aj.Add.out [.i a,.i b],[],?_,.int⟩
 rw [Aj.Add.ev,ha,hb,A1j,A1j]
 unfold Gc
 rw [Asa hn hm Gu]; rfl
theorem Aj.Sub.known:Aj.Sub.Kn:=Aj.Sub.Ac (.cons Aj.B.known (.cons Aj.F.known .nil)) fun a b hp=>by
 obtain ⟨ha,hb⟩:=Ae.1 hp
 obtain ⟨a,rfl,hn⟩:=Bm ha
 obtain ⟨b,rfl,hm⟩:=Bm hb
 refine ⟨0,Aj.Sub.out [.i a,.i b],[],?_,.int⟩
 rw [Aj.Sub.ev,ha,hb,A1j,A1j]
 unfold Gc
 rw [Ao3 hn hm Gu]; rfl
theorem Aj.Mul.known:Aj.Mul.Kn:=Aj.Mul.Ac (.cons Aj.B.known (.cons Aj.F.known .nil)) fun a b hp=>by
 obtain ⟨ha,hb⟩:=Ae.1 hp
 obtain ⟨a,rfl,hn⟩:=Bm ha
 obtain ⟨b,rfl,hm⟩:=Bm hb
 refine ⟨0,Aj.Mul.out [.i a,.i b],[],?_,.int⟩
 rw [Aj.Mul.ev,ha,hb,A1j,A1j]
 unfold Gc
 rw [U9 hn hm Gu]; rfl
theorem Adw (N:Nat) {x y:List Int} (hf:Pk x y=true) (hx:Ai x=true) (hy:Ai y=true):∀ (k i F s:Nat),i+k=x.length→k<F→s<2^64 →
 Aj.Ht.L0 N F x y (s:Int) (i:Int)=some (.int .u64 ((Aar s (x.drop i) (y.drop i):Nat):Int)):=by
 obtain ⟨h1,h2⟩:=Sj.1 hf
 intro k
 induction k with
 | zero =>
   intro i F s hi hF hs
   obtain ⟨F,rfl⟩:∃ G,F=G+1:=⟨F-1,by omega⟩
   rw [Aj.Ht.Av,Au,A1m (by omega),A1l,A1v (by omega)]
   rfl
 | succ k ih =>
   intro i F s hi hF hs
   obtain ⟨F,rfl⟩:∃ G,F=G+1:=⟨F-1,by omega⟩
   have c1:decide ((i:Int)<(x.length:Int))=true:=A1i (by omega)
   have c2:decide ((i:Int)<(y.length:Int))=true:=A1i (by omega)
   have c3:decide ((0:Int)≤(i:Int))=true:=A1i (by omega)
   have g1:=Qm hx (show i<x.length by omega)
   have g2:=Qm hy (show i<y.length by omega)
   have em:C5 (x.getD i 0) (y.getD i 0)=(((Jk (x.getD i 0).toNat (y.getD i 0).toNat).1:Nat):Int):=rfl
   have ea:∀ t:Nat,Fg (s:Int) (t:Int)=(((Gd s t).1:Nat):Int):=fun t=>rfl
   rw [Aj.Ht.Av,Au,c1,c2,c3,A1j,g1,g2,em,ea,B5 hs,B5 Oa,A1n,A1h,A1h,A1h,A1h,A1h,Am (by omega) (by omega),Ahh s (by omega) (by omega)]
   exact ih (i+1) F _ (by omega) (by omega) (Qp hs Oa).1
theorem Aj.Ht.known:Aj.Ht.Kn:=Aj.Ht.Ac (.cons Aj.Add.known (.cons Aj.Mul.known .nil)) fun x y hp=>by
 obtain ⟨h1,hy⟩:=Ae.1 hp
 obtain ⟨hf,hx⟩:=Ae.1 h1
 refine ⟨x.length+1,Aj.Ht.out [.l x,.l y],[],?_,.int⟩
 rw [Aj.Ht.ev]
 exact Adw _ hf hx hy x.length 0 _ 0 (by omega) (by omega) (by decide)
namespace EqMat
def Aa.size.A9:List (Nat × Entry):=[]
def Aa.size.E:Env:=Ba (A8 Aa.size.A9) (fun _=>false) (fun _=>none) (fun _=>none)
theorem Aa.size.ev (N:Nat) (n:Int):Bw Aa.size.E N f204 (An f204) [.int .i64 n]=some (.bool (bif (Em 0 n) then (Em n 6) else false)) :=
 Eq.trans (by kernel_rfl)
 (Ax (Qq (Em 0 n)) (Ax (Ma (Em 0 n)) (Ax (Uf (Em 0 n)) rfl)))
abbrev _root_.Go.Proofs.S1.Aa.size.Kn:=A4 prog 204 Aa.size.spec
theorem Aa.size.Ac (hk:Az prog Aa.size.A9) (h:Hyp Aa.size.E f204 Aa.size.ts Aa.size.pre Aa.size.out):Aa.size.Kn :=
 Al (A0 hk _ _ _) func204 (by kernel_rfl) (by kernel_rfl) h
def Aa.Check.A9:List (Nat × Entry):=[(204,Aa.size.spec)]
def Aa.Check.E:Env:=Ba (A8 Aa.Check.A9) (fun _=>false) (fun _=>none) (fun _=>none)
theorem Aa.Check.ev (N:Nat) (r c:Int) (l:List Int):Bw Aa.Check.E N f160 (An f160) [.agg [.int .i64 r,.int .i64 c,.ints .arg .u64 l]]=bif (((!(Bh r))||(!(Bh c)))||((length l:Int) !=(Ab (r*c)))) then some (.int .i64 1) else some (.int .i64 0) :=
 Eq.trans (by kernel_rfl)
 (Ax (Ade (Bh r)) (Ax (S3 (Bh r)) (Ax (S3 (Bh r)) (Ax (S3 (Bh r)) (Ax (Adf (Bh r)) (Ax (Av0 (Bh r) (Bh c)) (Ax (Asy (Bh r) (Bh c)) (Ax (Asy (Bh r) (Bh c)) (Ax (Av0 (Bh r) (Bh c)) (Ax (Asy (Bh r) (Bh c)) (Ax (Av0 (Bh r) (Bh c)) (Ax (Asy (Bh r) (Bh c)) (Ax (Ayf (Bh r) (Bh c)) (Ax (Ayf (Bh r) (Bh c)) (Ax (A0k (Bh r) (Bh c)) (C9 (A0l (Bh r) (Bh c) ((length l:Int) !=(Ab (r*c)))) rfl rfl))))))))))))))))
abbrev _root_.Go.Proofs.S1.Aa.Check.Kn:=A4 prog 160 Aa.Check.spec
theorem Aa.Check.Ac (hk:Az prog Aa.Check.A9) (h:Hyp Aa.Check.E f160 Aa.Check.ts Aa.Check.pre Aa.Check.out):Aa.Check.Kn :=
 Al (A0 hk _ _ _) func160 (by kernel_rfl) (by kernel_rfl) h
def Aa.get.A9:List (Nat × Entry):=[]
def Aa.get.E:Env:=Ba (A8 Aa.get.A9) (fun _=>false) (fun _=>none) (fun _=>none)
theorem Aa.get.ev (N:Nat) (r c:Int) (l:List Int) (i k:Int):Bw Aa.get.E N f193 (An f193) [.agg [.int .i64 r,.int .i64 c,.ints .arg .u64 l],.int .i64 i,.int .i64 k]=bif ((decide (0≤(Ab ((Ab (i*c))+k))))&&(decide ((Ab ((Ab (i*c))+k))<(length l:Int)))) then some (.int .u64 (getD l (toNat (Ab ((Ab (i*c))+k))) 0)) else none:=by kernel_rfl
abbrev _root_.Go.Proofs.S1.Aa.get.Kn:=A4 prog 193 Aa.get.spec
theorem Aa.get.Ac (hk:Az prog Aa.get.A9) (h:Hyp Aa.get.E f193 Aa.get.ts Aa.get.pre Aa.get.out):Aa.get.Kn :=
 Al (A0 hk _ _ _) func193 (by kernel_rfl) (by kernel_rfl) h
def Aa.two.A9:List (Nat × Entry):=[(160,Aa.Check.spec)]
def Aa.two.E:Env:=Ba (A8 Aa.two.A9) (fun _=>false) (fun _=>none) (fun _=>none)
theorem Aa.two.ev (N:Nat) (r c:Int) (l:List Int) (p q:Int) (m:List Int):Bw Aa.two.E N f186 (An f186) [.agg [.int .i64 r,.int .i64 c,.ints .arg .u64 l],.agg [.int .i64 p,.int .i64 q,.ints .arg .u64 m]]=bif (((Lb r c l) !=(0:Int))||((Lb p q m) !=(0:Int))) then some (.int .i64 1) else some (.int .i64 0) :=
 Eq.trans (by kernel_rfl)
 (Ax (S8 ((Lb r c l) !=(0:Int))) (Ax (Qx ((Lb r c l) !=(0:Int))) (Ax (Qx ((Lb r c l) !=(0:Int))) (Ax (X2 ((Lb r c l) !=(0:Int))) (C9 (tt5 ((Lb r c l) !=(0:Int)) ((Lb p q m) !=(0:Int))) rfl rfl)))))
abbrev _root_.Go.Proofs.S1.Aa.two.Kn:=A4 prog 186 Aa.two.spec
theorem Aa.two.Ac (hk:Az prog Aa.two.A9) (h:Hyp Aa.two.E f186 Aa.two.ts Aa.two.pre Aa.two.out):Aa.two.Kn :=
 Al (A0 hk _ _ _) func186 (by kernel_rfl) (by kernel_rfl) h
def Aa.Row.A9:List (Nat × Entry):=[]
def Aa.Row.E:Env:=Ba (A8 Aa.Row.A9) (fun _=>false) (fun _=>none) (fun _=>none)
theorem Aa.Row.ev (N:Nat) (r c:Int) (l:List Int) (i f:Int):Bw Aa.Row.E N f190 (An f190) [.agg [.int .i64 r,.int .i64 c,.ints .arg .u64 l],.int .i64 i,.int .i64 f]=bif (((decide ((0:Int)≤(Ab ((Ab (i*c))+f))))&&(decide ((Ab ((Ab (i*c))+f))≤(Ab ((Ab (i+1))*c)))))&&((decide ((0:Int)≤(Ab ((Ab (i+1))*c))))&&(decide ((Ab ((Ab (i+1))*c))≤(length l:Int))))) then bif (decide (0+(length (List.drop (toNat (Ab ((Ab (i*c))+f))) (List.take (toNat (Ab ((Ab (i+1))*c))) l)))≤G0)) then some (.ints (.own 22 37) .u64 ([]++(List.drop (toNat (Ab ((Ab (i*c))+f))) (List.take (toNat (Ab ((Ab (i+1))*c))) l)))) else none else none :=
 Eq.trans (by kernel_rfl)
 (C9 (Aye (decide ((0:Int)≤(Ab ((Ab (i*c))+f)))) (decide ((Ab ((Ab (i*c))+f))≤(Ab ((Ab (i+1))*c)))) (decide ((0:Int)≤(Ab ((Ab (i+1))*c)))) (decide ((Ab ((Ab (i+1))*c))≤(length l:Int)))) rfl rfl)
abbrev _root_.Go.Proofs.S1.Aa.Row.Kn:=A4 prog 190 Aa.Row.spec
theorem Aa.Row.Ac (hk:Az prog Aa.Row.A9) (h:Hyp Aa.Row.E f190 Aa.Row.ts Aa.Row.pre Aa.Row.out):Aa.Row.Kn :=
 Al (A0 hk _ _ _) func190 (by kernel_rfl) (by kernel_rfl) h
def Aa.Dx.hint:Nat→Option Be
 | 0=>some { keep:=[1,3,7,8],objs:=[(0,7,100007,.ints 37 .u64 [])],boxes:=[3] }
 | _=>none
def Aa.Dx.A9:List (Nat × Entry):=[(193,Aa.get.spec)]
def Aa.Dx.E:Env:=Ba (A8 Aa.Dx.A9) (fun _=>false) Aa.Dx.hint (fun _=>none)
section
variable (N M:Nat) (r c:Int) (l:List Int) (k f p8:Int) (p7:List Int)
def Aa.Dx.L0:Option DV:=B2 Aa.Dx.E N f191 (An f191) [1,1,0,1,0] [] M ⟨Gz 24 [(1,.int .i64 k),(3,.ptr 3 0 0),(7,.oref 100007),(8,.int .i64 p8)],[(3,false,.box [.int .i64 r,.int .i64 c,.ints .arg .u64 l]),(100007,false,.ints 37 .u64 p7)]⟩
theorem Aa.Dx.Av:Aa.Dx.L0 N (M+1) r c l k p8 p7=bif (A6 p8 r) then bif (C0 r c l p8 k) then bif (decide ((length p7)+1≤G0)) then Aa.Dx.L0 N M r c l k (Ab (p8+1)) (p7++[(Eb c l p8 k)]) else none else none else some (.ints (.own 100007 37) .u64 p7):=by kernel_rfl
theorem Aa.Dx.ev:Bw Aa.Dx.E N f191 (An f191) [.agg [.int .i64 r,.int .i64 c,.ints .arg .u64 l],.int .i64 k,.int .i64 f] =
 Aa.Dx.L0 N N r c l k f []:=by kernel_rfl
end
abbrev _root_.Go.Proofs.S1.Aa.Dx.Kn:=A4 prog 191 Aa.Dx.spec
theorem Aa.Dx.Ac (hk:Az prog Aa.Dx.A9) (h:Hyp Aa.Dx.E f191 Aa.Dx.ts Aa.Dx.pre Aa.Dx.out):Aa.Dx.Kn :=
 Al (A0 hk _ _ _) func191 (by kernel_rfl) (by kernel_rfl) h
def Aa.D9.A9:List (Nat × Entry):=[]
def Aa.D9.E:Env:=Ba (A8 Aa.D9.A9) (fun _=>false) (fun _=>none) (fun _=>none)
theorem Aa.D9.ev (N:Nat) (i k:Int):Bw Aa.D9.E N f205 (An f205) [.int .i64 i,.int .i64 k]=some (.int .u64 0):=by kernel_rfl
abbrev _root_.Go.Proofs.S1.Aa.D9.Kn:=A4 prog 205 Aa.D9.spec
theorem Aa.D9.Ac (hk:Az prog Aa.D9.A9) (h:Hyp Aa.D9.E f205 Aa.D9.ts Aa.D9.pre Aa.D9.out):Aa.D9.Kn :=
 Al (A0 hk _ _ _) func205 (by kernel_rfl) (by kernel_rfl) h
def Aa.Hq.A9:List (Nat × Entry):=[]
def Aa.Hq.E:Env:=Ba (A8 Aa.Hq.A9) (fun _=>false) (fun _=>none) (fun _=>none)
theorem Aa.Hq.ev (N:Nat) (i k:Int):Bw Aa.Hq.E N f246 (An f246) [.int .i64 i,.int .i64 k]=bif (i==k) then some (.int .u64 4607182418800017408) else some (.int .u64 0):=by kernel_rfl
abbrev _root_.Go.Proofs.S1.Aa.Hq.Kn:=A4 prog 246 Aa.Hq.spec
theorem Aa.Hq.Ac (hk:Az prog Aa.Hq.A9) (h:Hyp Aa.Hq.E f246 Aa.Hq.ts Aa.Hq.pre Aa.Hq.out):Aa.Hq.Kn :=
 Al (A0 hk _ _ _) func246 (by kernel_rfl) (by kernel_rfl) h
def Aa.Fj.A9:List (Nat × Entry):=[(193,Aa.get.spec)]
def Aa.Fj.E:Env:=Ba (A8 Aa.Fj.A9) (fun _=>false) (fun _=>none) (fun _=>none)
theorem Aa.Fj.ev (N:Nat) (i k:Int) (r c:Int) (l:List Int):Bw Aa.Fj.E N f220 (An f220) [.int .i64 i,.int .i64 k,.cellp [.int .i64 r,.int .i64 c,.ints .arg .u64 l]]=bif (C0 r c l k i) then some (.int .u64 (Eb c l k i)) else none:=by kernel_rfl
abbrev _root_.Go.Proofs.S1.Aa.Fj.Kn:=A4 prog 220 Aa.Fj.spec
theorem Aa.Fj.Ac (hk:Az prog Aa.Fj.A9) (h:Hyp Aa.Fj.E f220 Aa.Fj.ts Aa.Fj.pre Aa.Fj.out):Aa.Fj.Kn :=
 Al (A0 hk _ _ _) func220 (by kernel_rfl) (by kernel_rfl) h
def Aa.Fk.A9:List (Nat × Entry):=[(193,Aa.get.spec)]
def Aa.Fk.E:Env:=Ba (A8 Aa.Fk.A9) (fun _=>false) (fun _=>none) (fun _=>none)
theorem Aa.Fk.ev (N:Nat) (i k:Int) (r c:Int) (l:List Int) (x y:Int):Bw Aa.Fk.E N f192 (An f192) [.int .i64 i,.int .i64 k,.cellp [.int .i64 r,.int .i64 c,.ints .arg .u64 l],.cellp [.int .i64 x],.cellp [.int .i64 y]]=bif (C0 r c l (Ab (x+i)) (Ab (y+k))) then some (.int .u64 (Eb c l (Ab (x+i)) (Ab (y+k)))) else none:=by kernel_rfl
abbrev _root_.Go.Proofs.S1.Aa.Fk.Kn:=A4 prog 192 Aa.Fk.spec
theorem Aa.Fk.Ac (hk:Az prog Aa.Fk.A9) (h:Hyp Aa.Fk.E f192 Aa.Fk.ts Aa.Fk.pre Aa.Fk.out):Aa.Fk.Kn :=
 Al (A0 hk _ _ _) func192 (by kernel_rfl) (by kernel_rfl) h
def Aa.Eh.A9:List (Nat × Entry):=[(193,Aa.get.spec)]
def Aa.Eh.E:Env:=Ba (A8 Aa.Eh.A9) (fun _=>false) (fun _=>none) (fun _=>none)
theorem Aa.Eh.ev (N:Nat) (i k:Int) (r c:Int) (l:List Int) (p q:Int) (m:List Int):Bw Aa.Eh.E N f195 (An f195) [.int .i64 i,.int .i64 k,.cellp [.int .i64 r,.int .i64 c,.ints .arg .u64 l],.cellp [.int .i64 p,.int .i64 q,.ints .arg .u64 m]]=bif (A6 i r) then bif (C0 r c l i k) then some (.int .u64 (Eb c l i k)) else none else bif (C0 p q m (Ab (i-r)) k) then some (.int .u64 (Eb q m (Ab (i-r)) k)) else none:=by kernel_rfl
abbrev _root_.Go.Proofs.S1.Aa.Eh.Kn:=A4 prog 195 Aa.Eh.spec
theorem Aa.Eh.Ac (hk:Az prog Aa.Eh.A9) (h:Hyp Aa.Eh.E f195 Aa.Eh.ts Aa.Eh.pre Aa.Eh.out):Aa.Eh.Kn :=
 Al (A0 hk _ _ _) func195 (by kernel_rfl) (by kernel_rfl) h
def Aa.Hm.A9:List (Nat × Entry):=[(191,Aa.Dx.spec),(190,Aa.Row.spec),(189,Ad.Ht.spec)]
def Aa.Hm.E:Env:=Ba (A8 Aa.Hm.A9) (fun _=>false) (fun _=>none) (fun _=>none)
theorem Aa.Hm.ev (N:Nat) (i k:Int) (r c:Int) (l:List Int) (p q:Int) (m:List Int):Bw Aa.Hm.E N f188 (An f188) [.int .i64 i,.int .i64 k,.cellp [.int .i64 r,.int .i64 c,.ints .arg .u64 l],.cellp [.int .i64 p,.int .i64 q,.ints .arg .u64 m]]=bif (Pw r c l i&&decide ((0:Int)=0)) then bif (Hj p q m k&&Cz (0≤(0:Int)∧(0:Int)≤p)) then bif ((Pk (G6 c l i) (Ct q m k 0 (toNat (p-0)))&&Ai (G6 c l i))&&Ai (Ct q m k 0 (toNat (p-0)))) then some (.int .u64 (Je (G6 c l i) (Ct q m k 0 (toNat (p-0))))) else none else none else none :=
 Eq.trans (by kernel_rfl)
 (C9 (Cy (Pw r c l i&&decide ((0:Int)=0))) (C9 (Cy (Hj p q m k&&Cz (0≤(0:Int)∧(0:Int)≤p))) (C9 (Cy ((Pk (G6 c l i) (Ct q m k 0 (toNat (p-0)))&&Ai (G6 c l i))&&Ai (Ct q m k 0 (toNat (p-0))))) rfl rfl) rfl) rfl)
abbrev _root_.Go.Proofs.S1.Aa.Hm.Kn:=A4 prog 188 Aa.Hm.spec
theorem Aa.Hm.Ac (hk:Az prog Aa.Hm.A9) (h:Hyp Aa.Hm.E f188 Aa.Hm.ts Aa.Hm.pre Aa.Hm.out):Aa.Hm.Kn :=
 Al (A0 hk _ _ _) func188 (by kernel_rfl) (by kernel_rfl) h
end EqMat
open EqMat
theorem Jy {a b:Int} (h1:0≤a) (h2:a<20) (h3:0≤b) (h4:b<20):0≤a*b∧a*b<400:=by
 have:=Int.mul_nonneg h1 h3
 have h5:a*b≤19*19:=Int.mul_le_mul (by omega) (by omega) h3 (by omega)
 omega
theorem Aa.size.known:Aa.size.Kn:=Aa.size.Ac .nil fun n _=>by
 refine ⟨0,Aa.size.out [.i n],[],?_,.bool⟩
 have e:(bif (Em (0:Int) n) then (Em n (6:Int)) else false)=Bh n:=by
  unfold Bh
  rw [Es,Es]
  cases decide (0≤n)<;>rfl
 rw [Aa.size.ev,e]; rfl
theorem Ahm (r c:Int) (l:List Int):(((!(Bh r))||(!(Bh c)))||((length l:Int) !=(Ab (r*c))))=!(A2 r c l):=by
 unfold A2
 cases h1:Bh r with
 | false=>rfl
 | true =>
   cases h2:Bh c with
   | false=>rfl
   | true =>
     obtain ⟨r1,r2⟩:=Iw.1 h1
     obtain ⟨c1,c2⟩:=Iw.1 h2
     have:=Jy (a:=r) (b:=c) r1 (by omega) c1 (by omega)
     rw [Am (by omega) (by omega),A1x]
     simp
theorem Aa.Check.known:Aa.Check.Kn:=Aa.Check.Ac (.cons Aa.size.known .nil) fun r c l _=>by
 refine ⟨0,Aa.Check.out [.i r,.i c,.l l],[],?_,.int⟩
 rw [Aa.Check.ev,Ahm]
 show _=some (DV.int .i64 (Lb r c l))
 unfold Lb
 cases A2 r c l<;>rfl
theorem Lj {c i k:Int} {l:List Int} {R:Int} (h:C0 R c l i k=true):Ab (Ab (i*c)+k)=i*c+k∧0≤i*c+k∧i*c+k<l.length:=by
 obtain ⟨h1,h2,h3,h4,h5,h6,h7,_⟩:=Ar.1 h
 have:=Jy h1 (by omega) h5 (by omega)
 rw [Am (x:=i*c) (by omega) (by omega),Am (by omega) (by omega)]
 omega
theorem Aa.get.known:Aa.get.Kn:=Aa.get.Ac .nil fun r c l i k hp=>by
 obtain ⟨e,h1,h2⟩:=Lj (R:=r) (show C0 r c l i k=true from hp)
 refine ⟨0,Aa.get.out [.i r,.i c,.l l,.i i,.i k],[],?_,.int⟩
 rw [Aa.get.ev,e,A1i h1,A1i h2]
 rfl
theorem T2 (r c:Int) (l:List Int):((Lb r c l) !=(0:Int))=!(A2 r c l):=by
 unfold Lb
 cases A2 r c l<;>rfl
theorem Aa.two.known:Aa.two.Kn:=Aa.two.Ac (.cons Aa.Check.known .nil) fun r c l p q m _=>by
 refine ⟨0,Aa.two.out [.i r,.i c,.l l,.i p,.i q,.l m],[],?_,.int⟩
 rw [Aa.two.ev,T2,T2]
 show _=some (DV.int .i64 (Yo r c l p q m))
 unfold Yo
 cases A2 r c l<;>cases A2 p q m<;>rfl
theorem Aa.Row.known:Aa.Row.Kn:=Aa.Row.Ac .nil fun r c l i f hp=>by
 obtain ⟨h0,hf⟩:=Ae.1 hp
 obtain rfl:=A17 hf
 obtain ⟨hr,hi⟩:=Ae.1 h0
 have hi:=Ar.1 hi
 obtain ⟨R,C,rfl,rfl,r6,c6,hl⟩:=Ci hr
 obtain ⟨I,rfl⟩:∃ k:Nat,i=k:=⟨i.toNat,by omega⟩
 have hm:=Jy (a:=(I:Int)) (b:=(C:Int)) (by omega) (by omega) (by omega) (by omega)
 have hm2:=Jy (a:=(I:Int)+1) (b:=(C:Int)) (by omega) (by omega) (by omega) (by omega)
 have hle:(I+1)*C≤R*C:=A1t C (by omega)
 have hle2:I*C≤(I+1)*C:=A1t C (by omega)
 have e1:(I:Int)*(C:Int)=((I*C:Nat):Int):=(A12 _ _).symm
 have e2:((I:Int)+1)*(C:Int)=(((I+1)*C:Nat):Int):=by rw [A12]; rfl
 refine ⟨0,.ints (.own 22 tB) .u64 (G6 (C:Int) l (I:Int)),[22],?_,.drop _ _ _ _ (List.mem_singleton.2 rfl)⟩
 rw [Aa.Row.ev,Am (x:=(I:Int)+1) (by omega) (by omega),Am (x:=(I:Int)*(C:Int)) (by omega) (by omega),Int.add_zero,Am (x:=(I:Int)*(C:Int)) (by omega) (by omega),Am (x:=((I:Int)+1)*(C:Int)) (by omega) (by omega)]
 unfold G6
 have d1:decide ((0:Int)≤(I:Int)*(C:Int))=true:=A1i (by omega)
 have d2:decide ((I:Int)*(C:Int)≤((I:Int)+1)*(C:Int))=true:=A1i (by rw [e1,e2]; omega)
 have d3:decide ((0:Int)≤((I:Int)+1)*(C:Int))=true:=A1i (by omega)
 have d4:decide (((I:Int)+1)*(C:Int)≤(l.length:Int))=true:=A1i (by rw [e2]; omega)
 have d5:decide (0+(List.drop ((I:Int)*(C:Int)).toNat (List.take (((I:Int)+1)*(C:Int)).toNat l)).length≤G0)=true:=by
  refine A1i ?_
  rw [List.length_drop,List.length_take]
  unfold G0
  omega
 rw [d1,d2,d3,d4,d5]
 rfl
theorem Gk (c b i:Int) (n:Nat) (l:List Int):(Ct c l b i n).length=n:=by unfold Ct; rw [A2n,A2k]
theorem Alm (r c:Int) (l:List Int) (k:Int):Ct c l k 0 (toNat (r-0))=Kv r c l k:=by
 unfold Ct Kv
 rw [Int.sub_zero]
 refine List.map_congr_left fun j _=>?_
 rw [Int.zero_add]
theorem Yk {r:Int} (h:0≤r):Cz (0≤(0:Int)∧0≤r)=true:=Ar.2 ⟨Int.le_refl _,h⟩
theorem Arv (N:Nat) {R C K f:Nat} {l:List Int} (r6:R≤6) (c6:C≤6) (hl:l.length=R*C) (hk:K<C):∀ (k i F:Nat),f+i+k=R→k<F →
 Aa.Dx.L0 N F (R:Int) (C:Int) l (K:Int) ((f+i:Nat):Int) (Ct (C:Int) l (K:Int) (f:Int) i)=some (.ints (.own 100007 tB) .u64 (Ct (C:Int) l (K:Int) (f:Int) (R-f))):=by
 intro k
 induction k with
 | zero =>
   intro i F hi hF
   obtain ⟨F,rfl⟩:∃ G,F=G+1:=⟨F-1,by omega⟩
   rw [Aa.Dx.Av,Au,A1m (by omega),A1l,show R-f=i by omega]
 | succ k ih =>
   intro i F hi hF
   obtain ⟨F,rfl⟩:∃ G,F=G+1:=⟨F-1,by omega⟩
   have d:decide ((Ct (C:Int) l (K:Int) (f:Int) i).length+1≤G0)=true:=A1i (by rw [Gk]; unfold G0; omega)
   rw [Aa.Dx.Av,Au,A1i (by omega),A1h,D1 r6 c6 hl (show f+i<R by omega) hk,A1h,d,A1h,Am (by omega) (by omega)]
   have:=ih (i+1) F (by omega) (by omega)
   unfold Ct at this ⊢
   rw [List.range_succ,List.map_append] at this
   exact this
theorem Aa.Dx.known:Aa.Dx.Kn:=Aa.Dx.Ac (.cons Aa.get.known .nil) fun r c l k f hp=>by
 obtain ⟨h0,hf⟩:=Ae.1 (show (Hj r c l k&&Cz (0≤f∧f≤r))=true from hp)
 have hf:=Ar.1 hf
 obtain ⟨hr,hi⟩:=Ae.1 h0
 have hi:=Ar.1 hi
 obtain ⟨R,C,rfl,rfl,r6,c6,hl⟩:=Ci hr
 obtain ⟨K,rfl⟩:∃ j:Nat,k=j:=⟨k.toNat,by omega⟩
 obtain ⟨f,rfl⟩:∃ j:Nat,f=j:=⟨f.toNat,by omega⟩
 refine ⟨8,.ints (.own 100007 tB) .u64 (Ct (C:Int) l (K:Int) (f:Int) (R-f)),[100007],?_,?_⟩
 ·rw [Aa.Dx.ev]
  exact Arv 8 r6 c6 hl (by omega) (R-f) 0 8 (by omega) (by omega)
 ·show Wk _ _ (DV.ints .fresh .u64 (Ct (C:Int) l (K:Int) (f:Int) (toNat ((R:Int)-(f:Int)))))
  rw [show toNat ((R:Int)-(f:Int))=R-f by omega]
  exact .drop _ _ _ _ (List.mem_singleton.2 rfl)
theorem L5 {r c i k:Int} {l:List Int} (h:A2 r c l=true) (h1:0≤i) (h2:i<r) (h3:0≤k) (h4:k<c) (R:Int):C0 R c l i k=true:=by
 obtain ⟨R',C,rfl,rfl,r6,c6,hl⟩:=Ci h
 obtain ⟨I,rfl⟩:∃ j:Nat,i=j:=⟨i.toNat,by omega⟩
 obtain ⟨K,rfl⟩:∃ j:Nat,k=j:=⟨k.toNat,by omega⟩
 exact D1 r6 c6 hl (by omega) (by omega)
theorem Aa.D9.known:Aa.D9.Kn:=Aa.D9.Ac .nil fun i k _=>by
 refine ⟨0,Aa.D9.out [.i i,.i k],[],?_,.int⟩
 rw [Aa.D9.ev]; rfl
theorem Aa.Hq.known:Aa.Hq.Kn:=Aa.Hq.Ac .nil fun i k _=>by
 refine ⟨0,Aa.Hq.out [.i i,.i k],[],?_,.int⟩
 rw [Aa.Hq.ev]
 show _=some (DV.int .u64 (N3 i k))
 unfold N3
 by_cases h:i=k
 ·have:(i==k)=true:=by rw [h]; simp
  rw [this,A14 h]; rfl
 ·have:(i==k)=false:=by simpa using h
  rw [this,A13 h]; rfl
theorem Aa.Fj.known:Aa.Fj.Kn:=Aa.Fj.Ac (.cons Aa.get.known .nil) fun i k r c l hp=>by
 have hp:C0 r c l k i=true:=hp
 refine ⟨0,Aa.Fj.out [.i i,.i k,.i r,.i c,.l l],[],?_,.int⟩
 rw [Aa.Fj.ev,hp]; rfl
theorem Aa.Fk.known:Aa.Fk.Kn:=Aa.Fk.Ac (.cons Aa.get.known .nil) fun i k r c l x y hp=>by
 obtain ⟨h1,h2⟩:=Ae.1 hp
 have h2:=Ar.1 h2
 refine ⟨0,Aa.Fk.out [.i i,.i k,.i r,.i c,.l l,.i x,.i y],[],?_,.int⟩
 rw [Aa.Fk.ev,Am (x:=x+i) (by omega) (by omega),Am (x:=y+k) (by omega) (by omega),h1]; rfl
theorem Aa.Eh.known:Aa.Eh.Kn:=Aa.Eh.Ac (.cons Aa.get.known .nil) fun i k r c l p q m hp=>by
 obtain ⟨h1,h2,h3,h4,h5⟩:=Ar.1 (show Nj r c l p q m i k=true from hp)
 refine ⟨0,Aa.Eh.out [.i i,.i k,.i r,.i c,.l l,.i p,.i q,.l m],[],?_,.int⟩
 show _=some (DV.int .u64 (Ji r c l q m i k))
 rw [Aa.Eh.ev,Au,Am (x:=i-r) (by omega) (by omega)]
 unfold Ji
 by_cases h:i<r
 ·rw [A14 h] at h5
  rw [A1i h,A1h,h5,A1h,A14 h]
 ·rw [A13 h] at h5
  rw [A1m h,A1l,h5,A1h,A13 h]
theorem Pu {R C:Nat} {l:List Int} (hl:l.length=R*C) {I:Nat} (hi:I<R):(G6 (C:Int) l (I:Int)).length=C:=by
 have hle:(I+1)*C≤R*C:=A1t C (by omega)
 have e1:((I:Int)*(C:Int)).toNat=I*C:=by rw [← A12,A1j]
 have e2:(((I:Int)+1)*(C:Int)).toNat=(I+1)*C:=by
  have:((I:Int)+1)*(C:Int)=(((I+1)*C:Nat):Int):=by rw [A12]; rfl
  rw [this,A1j]
 unfold G6
 rw [List.length_drop,List.length_take,e1,e2]
 rw [A2l,Nat.one_mul] at hle ⊢
 omega
theorem Aat (R:Nat) (C:Int) (l:List Int) (K:Int):(Kv (R:Int) C l K).length=R:=by
 unfold Kv
 rw [A2n,A2k,A1j]
theorem Akl {c i:Int} {l:List Int} (h:Ai l=true):Ai (G6 c l i)=true:=by
 have h:=Ar.1 h
 exact Ar.2 fun x hx=>h x (List.mem_of_mem_take (List.mem_of_mem_drop hx))
theorem Ip {c i k:Int} {l:List Int} (h:Ai l=true):Af (Eb c l i k)=true:=by
 unfold Eb
 by_cases hj:(i*c+k).toNat<l.length
 ·exact Qm h hj
 ·rw [A1r,A2z (by omega)]
  exact B5 (n:=0) (by decide)
theorem Aln {r c k:Int} {l:List Int} (h:Ai l=true):Ai (Kv r c l k)=true:=by
 refine Ar.2 fun x hx=>?_
 obtain ⟨j,_,rfl⟩:=List.mem_map.1 hx
 exact Ip h
theorem Aa.Hm.known:Aa.Hm.Kn:=Aa.Hm.Ac (.cons Aa.Dx.known (.cons Aa.Row.known (.cons Ad.Ht.known .nil))) fun i k r c l p q m hp=>by
 obtain ⟨h1,h2⟩:=Ae.1 (show Tr r c l p q m i k=true from hp)
 obtain ⟨h3,h4⟩:=Ae.1 h1
 obtain ⟨h5,h6⟩:=Ae.1 h2
 obtain ⟨hl,hm⟩:=Ae.1 h5
 obtain rfl:=Ar.1 h6
 obtain ⟨hr,hi⟩:=Ae.1 h3
 have hi:=Ar.1 hi
 obtain ⟨R,C,rfl,rfl,r6,c6,ll⟩:=Ci hr
 obtain ⟨I,rfl⟩:∃ j:Nat,i=j:=⟨i.toNat,by omega⟩
 refine ⟨0,Aa.Hm.out [.i I,.i k,.i R,.i C,.l l,.i C,.i q,.l m],[],?_,.int⟩
 have hf:Pk (G6 (C:Int) l (I:Int)) (Kv (C:Int) q m k)=true:=Sj.2 ⟨by rw [Pu ll (by omega),Aat],by rw [Pu ll (by omega)]; omega⟩
 rw [Aa.Hm.ev,Alm,h3,h4,hf,Akl hl,Aln hm,Yk (by omega)]
 rfl
namespace EqCmp
def compare.K2.A9:List (Nat × Entry):=[(213,soft.Sign.spec)]
def compare.K2.E:Env:=Ba (A8 compare.K2.A9) (fun _=>false) (fun _=>none) (fun _=>none)
theorem compare.K2.ev (N:Nat) (b:Int):Bw compare.K2.E N f214 (An f214) [.int .u64 b]=bif (Af b) then bif (D0 b) then some (.int .i64 (Ab (0-(Ab (Gx .u64 b 9223372036854775808))))) else some (.int .i64 (Ab b)) else none:=by kernel_rfl
abbrev _root_.Go.Proofs.S1.compare.K2.Kn:=A4 prog 214 compare.K2.spec
theorem compare.K2.Ac (hk:Az prog compare.K2.A9) (h:Hyp compare.K2.E f214 compare.K2.ts compare.K2.pre compare.K2.out):compare.K2.Kn :=
 Al (A0 hk _ _ _) func214 (by kernel_rfl) (by kernel_rfl) h
def compare.Order.A9:List (Nat × Entry):=[(214,compare.K2.spec),(155,soft.Kind.spec)]
def compare.Order.E:Env:=Ba (A8 compare.Order.A9) (fun _=>false) (fun _=>none) (fun _=>none)
theorem compare.Order.ev (N:Nat) (a b:Int):Bw compare.Order.E N f162 (An f162) [.int .u64 a,.int .u64 b]=bif (Af a) then bif ((A5 a)==(4:Int)) then some (.tup [.int .i64 0,.bool false]) else bif (Af b) then bif ((A5 b)==(4:Int)) then some (.tup [.int .i64 0,.bool false]) else bif (Af a) then bif (Af b) then bif (A6 (Abz a) (Abz b)) then some (.tup [.int .i64 (-1:Int),.bool true]) else bif (Af a) then bif (Af b) then bif (A6 (Abz b) (Abz a)) then some (.tup [.int .i64 1,.bool true]) else some (.tup [.int .i64 0,.bool true]) else none else none else none else none else none else none:=by kernel_rfl
abbrev _root_.Go.Proofs.S1.compare.Order.Kn:=A4 prog 162 compare.Order.spec
theorem compare.Order.Ac (hk:Az prog compare.Order.A9) (h:Hyp compare.Order.E f162 compare.Order.ts compare.Order.pre compare.Order.out):compare.Order.Kn :=
 Al (A0 hk _ _ _) func162 (by kernel_rfl) (by kernel_rfl) h
def compare.Lf.A9:List (Nat × Entry):=[(162,compare.Order.spec)]
def compare.Lf.E:Env:=Ba (A8 compare.Lf.A9) (fun _=>false) (fun _=>none) (fun _=>none)
theorem compare.Lf.ev (N:Nat) (a b:Int):Bw compare.Lf.E N f90 (An f90) [.int .u64 a,.int .u64 b]=bif (Af a&&Af b) then some (.bool (A6 (Tp a b) 0)) else none:=by kernel_rfl
abbrev _root_.Go.Proofs.S1.compare.Lf.Kn:=A4 prog 90 compare.Lf.spec
theorem compare.Lf.Ac (hk:Az prog compare.Lf.A9) (h:Hyp compare.Lf.E f90 compare.Lf.ts compare.Lf.pre compare.Lf.out):compare.Lf.Kn :=
 Al (A0 hk _ _ _) func90 (by kernel_rfl) (by kernel_rfl) h
def compare.G1.A9:List (Nat × Entry):=[]
def compare.G1.E:Env:=Ba (A8 compare.G1.A9) (fun _=>false) (fun _=>none) (fun _=>none)
theorem compare.G1.ev (N:Nat) (a:Int):Bw compare.G1.E N f87 (An f87) [.int .u64 a]=some (.int .u64 (Gx .u64 a 9223372036854775808)):=by kernel_rfl
abbrev _root_.Go.Proofs.S1.compare.G1.Kn:=A4 prog 87 compare.G1.spec
theorem compare.G1.Ac (hk:Az prog compare.G1.A9) (h:Hyp compare.G1.E f87 compare.G1.ts compare.G1.pre compare.G1.out):compare.G1.Kn :=
 Al (A0 hk _ _ _) func87 (by kernel_rfl) (by kernel_rfl) h
def compare.Ey.hint:Nat→Option Be
 | 1=>some { keep:=[0,6,7,8],objs:=[],boxes:=[] }
 | _=>none
def compare.Ey.A9:List (Nat × Entry):=[(155,soft.Kind.spec),(212,soft.Dj.spec),(211,soft.Fy.spec),(213,soft.Sign.spec)]
def compare.Ey.E:Env:=Ba (A8 compare.Ey.A9) (fun _=>false) compare.Ey.hint (fun _=>none)
section
variable (N M:Nat) (a n p6 p7:Int) (p8:Bool)
def compare.Ey.L0:Option DV:=B2 compare.Ey.E N f161 (An f161) [1,1,1,1,1,1,0,0] [] M ⟨Gz 59 [(0,.int .u64 a),(6,.int .u64 p6),(7,.int .i64 p7),(8,.bool p8)],[]⟩
theorem compare.Ey.Av:compare.Ey.L0 N (M+1) a p6 p7 p8=bif ((A6 p7 (-1130:Int))&&(A6 1 p6)) then compare.Ey.L0 N M a (Dm .u64 p6 1) (Ab (p7+1)) (bif p8 then true else ((E1 .u64 p6 1)==(1:Int))) else bif (A6 p7 (-1130:Int)) then bif (Af a) then bif (El 0 (-1074:Int) true) then some (.tup [.int .u64 (E9 (D0 a) 0 (-1074:Int) true),.int .u8 (E8 (D0 a) 0 (-1074:Int) true)]) else none else none else bif (Af a) then bif (El p6 p7 p8) then some (.tup [.int .u64 (E9 (D0 a) p6 p7 p8),.int .u8 (E8 (D0 a) p6 p7 p8)]) else none else none :=
 Eq.trans (by kernel_rfl)
 (Ax (Qq (A6 p7 (-1130:Int))) (Ax (Ma (A6 p7 (-1130:Int))) (Ax (Uf (A6 p7 (-1130:Int))) (C9 (tt1 (A6 p7 (-1130:Int)) (A6 1 p6)) (Ax (S8 p8) (Ax (Qx p8) (Ax (Qx p8) (Ax (X2 p8) rfl)))) rfl))))
theorem compare.Ey.ev:Bw compare.Ey.E N f161 (An f161) [.int .u64 a,.int .i64 n]=bif (Af a) then bif ((A5 a)==(4:Int)) then some (.tup [.int .u64 9221120237041090560,.int .u8 0]) else bif ((A5 a)==(3:Int)) then bif ((A5 a)==(3:Int)) then some (.tup [.int .u64 a,.int .u8 0]) else bif (Af a) then compare.Ey.L0 N N a (Bx a) (Ab ((Bi a)+(max (-2300:Int) (min 2300 n)))) false else none else bif ((A5 a)==(0:Int)) then some (.tup [.int .u64 a,.int .u8 0]) else bif (Af a) then compare.Ey.L0 N N a (Bx a) (Ab ((Bi a)+(max (-2300:Int) (min 2300 n)))) false else none else none:=by kernel_rfl
end
abbrev _root_.Go.Proofs.S1.compare.Ey.Kn:=A4 prog 161 compare.Ey.spec
theorem compare.Ey.Ac (hk:Az prog compare.Ey.A9) (h:Hyp compare.Ey.E f161 compare.Ey.ts compare.Ey.pre compare.Ey.out):compare.Ey.Kn :=
 Al (A0 hk _ _ _) func161 (by kernel_rfl) (by kernel_rfl) h
def Ad.Br.A9:List (Nat × Entry):=[(161,compare.Ey.spec)]
def Ad.Br.E:Env:=Ba (A8 Ad.Br.A9) (fun _=>false) (fun _=>none) (fun _=>none)
theorem Ad.Br.ev (N:Nat) (a n:Int):Bw Ad.Br.E N f88 (An f88) [.int .u64 a,.int .i64 n]=bif (Di a n) then some (.int .u64 (Bp a n)) else none:=by kernel_rfl
abbrev _root_.Go.Proofs.S1.Ad.Br.Kn:=A4 prog 88 Ad.Br.spec
theorem Ad.Br.Ac (hk:Az prog Ad.Br.A9) (h:Hyp Ad.Br.E f88 Ad.Br.ts Ad.Br.pre Ad.Br.out):Ad.Br.Kn :=
 Al (A0 hk _ _ _) func88 (by kernel_rfl) (by kernel_rfl) h
def Ad.Div.A9:List (Nat × Entry):=[(209,times.Div.spec)]
def Ad.Div.E:Env:=Ba (A8 Ad.Div.A9) (fun _=>false) (fun _=>none) (fun _=>none)
theorem Ad.Div.ev (N:Nat) (a b:Int):Bw Ad.Div.E N f158 (An f158) [.int .u64 a,.int .u64 b]=bif (Af a&&Af b) then some (.int .u64 (E4 a b)) else none:=by kernel_rfl
abbrev _root_.Go.Proofs.S1.Ad.Div.Kn:=A4 prog 158 Ad.Div.spec
theorem Ad.Div.Ac (hk:Az prog Ad.Div.A9) (h:Hyp Ad.Div.E f158 Ad.Div.ts Ad.Div.pre Ad.Div.out):Ad.Div.Kn :=
 Al (A0 hk _ _ _) func158 (by kernel_rfl) (by kernel_rfl) h
def Ad.Bq.hint:Nat→Option Be
 | 0=>some { keep:=[3,6,7,8],objs:=[],boxes:=[] }
 | _=>none
def Ad.Bq.A9:List (Nat × Entry):=[(87,compare.G1.spec),(155,soft.Kind.spec)]
def Ad.Bq.E:Env:=Ba (A8 Ad.Bq.A9) (fun _=>false) Ad.Bq.hint (fun _=>none)
section
variable (N M:Nat) (x:List Int) (p3 p8:Int)
def Ad.Bq.L0:Option DV:=B2 Ad.Bq.E N f89 (An f89) [1,1,0,1,0] [] M ⟨Gz 21 [(3,.int .u64 p3),(6,.ints .arg .u64 x),(7,.int .i64 (length x:Int)),(8,.int .i64 p8)],[]⟩
theorem Ad.Bq.Av:Ad.Bq.L0 N (M+1) x p3 p8=bif (A6 p8 (length x:Int)) then bif ((decide (0≤p8))&&(decide (p8<(length x:Int)))) then bif (Af (getD x (toNat p8) 0)) then bif ((A5 (getD x (toNat p8) 0))==(4:Int)) then some (.int .u64 9221120237041090560) else bif (Af (getD x (toNat p8) 0)) then Ad.Bq.L0 N M x (max p3 (It (getD x (toNat p8) 0))) (Ab (p8+1)) else none else none else none else some (.int .u64 p3):=by kernel_rfl
theorem Ad.Bq.ev:Bw Ad.Bq.E N f89 (An f89) [.ints .arg .u64 x] =
 Ad.Bq.L0 N N x 0 0:=by kernel_rfl
end
abbrev _root_.Go.Proofs.S1.Ad.Bq.Kn:=A4 prog 89 Ad.Bq.spec
theorem Ad.Bq.Ac (hk:Az prog Ad.Bq.A9) (h:Hyp Ad.Bq.E f89 Ad.Bq.ts Ad.Bq.pre Ad.Bq.out):Ad.Bq.Kn :=
 Al (A0 hk _ _ _) func89 (by kernel_rfl) (by kernel_rfl) h
def Ad.Finite.hint:Nat→Option Be
 | 0=>some { keep:=[5,6,7],objs:=[],boxes:=[] }
 | _=>none
def Ad.Finite.A9:List (Nat × Entry):=[(148,soft.Finite.spec)]
def Ad.Finite.E:Env:=Ba (A8 Ad.Finite.A9) (fun _=>false) Ad.Finite.hint (fun _=>none)
section
variable (N M:Nat) (x:List Int) (p7:Int)
def Ad.Finite.L0:Option DV:=B2 Ad.Finite.E N f150 (An f150) [1,0,1,0] [] M ⟨Gz 15 [(5,.ints .arg .u64 x),(6,.int .i64 (length x:Int)),(7,.int .i64 p7)],[]⟩
theorem Ad.Finite.Av:Ad.Finite.L0 N (M+1) x p7=bif (A6 p7 (length x:Int)) then bif ((decide (0≤p7))&&(decide (p7<(length x:Int)))) then bif (Af (getD x (toNat p7) 0)) then bif (!(Ck (getD x (toNat p7) 0))) then some (.bool false) else Ad.Finite.L0 N M x (Ab (p7+1)) else none else none else some (.bool true):=by kernel_rfl
theorem Ad.Finite.ev:Bw Ad.Finite.E N f150 (An f150) [.ints .arg .u64 x] =
 Ad.Finite.L0 N N x 0:=by kernel_rfl
end
abbrev _root_.Go.Proofs.S1.Ad.Finite.Kn:=A4 prog 150 Ad.Finite.spec
theorem Ad.Finite.Ac (hk:Az prog Ad.Finite.A9) (h:Hyp Ad.Finite.E f150 Ad.Finite.ts Ad.Finite.pre Ad.Finite.out):Ad.Finite.Kn :=
 Al (A0 hk _ _ _) func150 (by kernel_rfl) (by kernel_rfl) h
def Cs.Check.hint:Nat→Option Be
 | 0=>some { keep:=[9,10,11],objs:=[],boxes:=[] }
 | _=>none
def Cs.Check.A9:List (Nat × Entry):=[(160,Aa.Check.spec),(148,soft.Finite.spec)]
def Cs.Check.E:Env:=Ba (A8 Cs.Check.A9) (fun _=>false) Cs.Check.hint (fun _=>none)
section
variable (N:Nat) (r c:Int) (M:Nat) (l:List Int) (p11:Int)
def Cs.Check.L0:Option DV:=B2 Cs.Check.E N f86 (An f86) [1,1,0,1,0] [] M ⟨Gz 19 [(9,.ints .arg .u64 l),(10,.int .i64 (length l:Int)),(11,.int .i64 p11)],[]⟩
theorem Cs.Check.Av:Cs.Check.L0 N (M+1) l p11=bif (A6 p11 (length l:Int)) then bif ((decide (0≤p11))&&(decide (p11<(length l:Int)))) then bif (Af (getD l (toNat p11) 0)) then bif (!(Ck (getD l (toNat p11) 0))) then some (.int .i64 4) else Cs.Check.L0 N M l (Ab (p11+1)) else none else none else some (.int .i64 0):=by kernel_rfl
theorem Cs.Check.ev:Bw Cs.Check.E N f86 (An f86) [.agg [.int .i64 r,.int .i64 c,.ints .arg .u64 l]]=bif ((Lb r c l) !=(0:Int)) then some (.int .i64 1) else Cs.Check.L0 N N l 0:=by kernel_rfl
end
abbrev _root_.Go.Proofs.S1.Cs.Check.Kn:=A4 prog 86 Cs.Check.spec
theorem Cs.Check.Ac (hk:Az prog Cs.Check.A9) (h:Hyp Cs.Check.E f86 Cs.Check.ts Cs.Check.pre Cs.Check.out):Cs.Check.Kn :=
 Al (A0 hk _ _ _) func86 (by kernel_rfl) (by kernel_rfl) h
end EqCmp
open EqCmp
theorem R9 {k j:Nat} (h:k≠j):(((k:Nat):Int)==((j:Nat):Int))=false:=by rw [A2c]; omega
theorem Ac5 (n:Nat):n%2^63<2^63:=Nat.mod_lt _ (by decide)
theorem Aaz {n:Nat} (h:n<2^64):Gx .u64 (n:Int) (9223372036854775808:Int)=((n%2^63:Nat):Int):=by
 have:=Ql (Bk n) (Ac5 n)
 rw [M7 h] at this
 exact this
theorem compare.G1.known:compare.G1.Kn:=compare.G1.Ac .nil fun a hp=>by
 obtain ⟨n,rfl,hn⟩:=Bm (show Af a=true from hp)
 refine ⟨0,compare.G1.out [.i (n:Int)],[],?_,.int⟩
 show _=some (DV.int .u64 (((n:Int).toNat%2^63:Nat):Int))
 rw [compare.G1.ev,Aaz hn,A1j]
theorem compare.K2.known:compare.K2.Kn:=compare.K2.Ac (.cons soft.Sign.known .nil) fun b hp=>by
 have hp:Af b=true:=hp
 obtain ⟨n,rfl,hn⟩:=Bm hp
 refine ⟨0,compare.K2.out [.i (n:Int)],[],?_,.int⟩
 show _=some (DV.int .i64 (Gw (n:Int).toNat))
 have h63:=Ac5 n
 rw [compare.K2.ev,hp,A1h,Aaz hn,A1j]
 unfold Gw H9 D0
 rw [A1j]
 cases hs:Bk n with
 | true =>
   rw [A1h,A14 rfl,Am (x:=((n%2^63:Nat):Int)) (by omega) (by omega),Am (by omega) (by omega)]
   congr 2; omega
 | false =>
   have:n<2^63:=by
    unfold Bk at hs
    have:=of_decide_eq_false hs
    omega
   rw [A1l,A13 (by decide),A1u this,Am (by omega) (by omega)]
theorem compare.Order.known:compare.Order.Kn:=compare.Order.Ac (.cons compare.K2.known (.cons soft.Kind.known .nil)) fun a b hp=>by
 obtain ⟨ha,hb⟩:=Ae.1 (show (Af a&&Af b)=true from hp)
 refine ⟨0,compare.Order.out [.i a,.i b],[],?_,Wk.Ha (.cons .int (.cons .bool .nil))⟩
 show _=some (DV.tup [.int .i64 (Agd a.toNat b.toNat),.bool (Aba a.toNat b.toNat)])
 rw [compare.Order.ev,ha,hb,A1h,A1h,A1h,A1h,A1h,A1h,Au,Au]
 unfold Agd Aba Abz A5
 by_cases h1:Ah a.toNat=4
 ·have e:(((Ah a.toNat:Nat):Int)==(4:Int))=true:=by rw [h1]; rfl
  rw [e,A1h,A14 (.inl h1),A1i (.inl h1)]; rfl
 ·have e:(((Ah a.toNat:Nat):Int)==(4:Int))=false:=R9 h1
  rw [e,A1l]
  by_cases h2:Ah b.toNat=4
  ·have e:(((Ah b.toNat:Nat):Int)==(4:Int))=true:=by rw [h2]; rfl
   rw [e,A1h,A14 (.inr h2),A1i (.inr h2)]; rfl
  ·have e:(((Ah b.toNat:Nat):Int)==(4:Int))=false:=R9 h2
   have hn:¬ (Ah a.toNat=4∨Ah b.toNat=4):=fun h=>h.elim h1 h2
   rw [e,A1l,A13 hn,A1m hn]
   by_cases h3:Gw a.toNat<Gw b.toNat
   ·rw [A1i h3,A14 h3]; rfl
   ·rw [A1m h3,A13 h3]
    by_cases h4:Gw b.toNat<Gw a.toNat
    ·rw [A1i h4,A14 h4]; rfl
    ·rw [A1m h4,A13 h4]; rfl
theorem compare.Lf.known:compare.Lf.Kn:=compare.Lf.Ac (.cons compare.Order.known .nil) fun a b hp=>by
 have hp:(Af a&&Af b)=true:=hp
 refine ⟨0,compare.Lf.out [.i a,.i b],[],?_,.bool⟩
 rw [compare.Lf.ev,hp,Au]; rfl
theorem Aik (N:Nat) {a:Int} (ha:Af a=true):∀ (k F m:Nat) (e:Int) (b:Bool),e=-1130-(k:Int)→k<F→m<2^53→(m≠0∨b=true)→-9000<e →
 compare.Ey.L0 N F a (m:Int) e b=some (.tup [.int .u64 (((Bc (Bk a.toNat) 0,3):Nat × Nat).1:Nat),.int .u8 (((Bc (Bk a.toNat) 0,3):Nat × Nat).2:Nat)]):=by
 have pre1:El (0:Int) (-1074:Int) true=true:=Ar.2 (by omega)
 intro k
 induction k with
 | zero =>
   intro F m e b he hF hm h0 _
   obtain ⟨F,rfl⟩:∃ G,F=G+1:=⟨F-1,by omega⟩
   have hlt:A6 e (-1130:Int)=false:=by rw [Au]; exact A1m (by omega)
   have S4:El (m:Int) e b=true:=Ar.2 (by omega)
   rw [compare.Ey.Av,hlt,Bool.false_and,A1l,A1l,ha,A1h,S4,A1h]
   unfold E9 E8 D0
   rw [A1j,Am1 _ hm h0 (by omega)]
 | succ k ih =>
   intro F m e b he hF hm h0 hb
   obtain ⟨F,rfl⟩:∃ G,F=G+1:=⟨F-1,by omega⟩
   have hlt:A6 e (-1130:Int)=true:=by rw [Au]; exact A1i (by omega)
   rw [compare.Ey.Av,hlt,A2u,A1h,Au]
   by_cases h1:(1:Int)<(m:Int)
   ·have em:Dm .u64 (m:Int) (1:Int)=((m / 2^1:Nat):Int):=Ii .u64 m 1 (by decide)
    rw [A1i h1,A1h,em,Am (by omega) (by omega)]
    exact ih F (m / 2^1) (e+1) _ (by omega) (by omega) (by omega) (.inl (by omega)) (by omega)
   ·rw [A1m h1,A1l,ha,A1h,pre1,A1h]
    unfold E9 E8 D0
    rw [show (0:Int).toNat=0 from rfl,Aqb]
theorem compare.Ey.known:compare.Ey.Kn:=compare.Ey.Ac (.cons soft.Kind.known (.cons soft.Dj.known (.cons soft.Fy.known (.cons soft.Sign.known .nil)))) fun a n hp=>by
 obtain ⟨ha,hn⟩:=Ae.1 (show Di a n=true from hp)
 have hn:=Ar.1 hn
 refine ⟨3000,compare.Ey.out [.i a,.i n],[],?_,Wk.Ha (.cons .int (.cons .int .nil))⟩
 show _=some (DV.tup [.int .u64 ((E5 a.toNat n).1:Nat),.int .u8 ((E5 a.toNat n).2:Nat)])
 have em:max (-2300:Int) (min (2300:Int) n)=n:=by omega
 have pE:=D6 a.toNat
 have pM:=Ff a.toNat
 have ee:Ab (Bi a+n)=Ay a.toNat+n:=by unfold Bi; exact Am (by omega) (by omega)
 rw [compare.Ey.ev,ha,A1h,A1h,em,ee]
 unfold A5
 by_cases h4:Ah a.toNat=4
 ·have e:(((Ah a.toNat:Nat):Int)==(4:Int))=true:=by rw [h4]; rfl
  rw [e,A1h]
  unfold E5
  rw [A14 h4]; rfl
 have e4:(((Ah a.toNat:Nat):Int)==(4:Int))=false:=R9 h4
 rw [e4,A1l]
 by_cases h3:Ah a.toNat=3
 ·have e:(((Ah a.toNat:Nat):Int)==(3:Int))=true:=by rw [h3]; rfl
  obtain ⟨k,rfl,hk⟩:=Bm ha
  rw [e,A1h,A1h]
  unfold E5
  rw [A13 h4,A14 (.inl h3),A1j]; rfl
 have e3:(((Ah a.toNat:Nat):Int)==(3:Int))=false:=R9 h3
 rw [e3,A1l]
 by_cases h0:Ah a.toNat=0
 ·have e:(((Ah a.toNat:Nat):Int)==(0:Int))=true:=by rw [h0]; rfl
  obtain ⟨k,rfl,hk⟩:=Bm ha
  rw [e,A1h]
  unfold E5
  rw [A13 h4,A14 (.inr h0),A1j]; rfl
 have e0:(((Ah a.toNat:Nat):Int)==(0:Int))=false:=R9 h0
 have hk:¬ (Ah a.toNat=3∨Ah a.toNat=0):=fun h=>h.elim h3 h0
 have hm:As a.toNat≠0:=fun h=>h0 ((G2 h3 h4).1 h)
 rw [e0,A1l]
 show compare.Ey.L0 3000 3000 a (As a.toNat:Nat) (Ay a.toNat+n) false=_
 by_cases ht:Ay a.toNat+n≤-1130
 ·rw [Aij h4 hk ht]
  exact Aik 3000 ha (-1130-(Ay a.toNat+n)).toNat 3000 _ _ false (by omega) (by omega) (by omega) (.inl hm) (by omega)
 ·have hlt:A6 (Ay a.toNat+n) (-1130:Int)=false:=by rw [Au]; exact A1m (by omega)
  have S4:El ((As a.toNat:Nat):Int) (Ay a.toNat+n) false=true:=Ar.2 ⟨by omega,by omega,by omega,by omega,fun h=>by cases h⟩
  rw [V4 h4 hk,show (3000:Nat)=2999+1 from rfl,compare.Ey.Av,hlt,Bool.false_and,A1l,A1l,ha,A1h,S4,A1h]
  unfold E9 E8 D0
  rw [A1j,Xg]
theorem Ad.Br.known:Ad.Br.Kn:=Ad.Br.Ac (.cons compare.Ey.known .nil) fun a n hp=>by
 have hp:Di a n=true:=hp
 refine ⟨0,Ad.Br.out [.i a,.i n],[],?_,.int⟩
 rw [Ad.Br.ev,hp]; rfl
theorem Ad.Div.known:Ad.Div.Kn:=Ad.Div.Ac (.cons times.Div.known .nil) fun a b hp=>by
 have hp:(Af a&&Af b)=true:=hp
 refine ⟨0,Ad.Div.out [.i a,.i b],[],?_,.int⟩
 rw [Ad.Div.ev,hp]; rfl
theorem Hi {l:List Int} {i:Nat} (h:i<l.length):l.drop i=l.getD i 0::l.drop (i+1):=by
 rw [List.drop_eq_getElem_cons h,A1r,A1y h]; rfl
theorem Iq {l:List Int} (h:Cp l=true):l.length<4611686018427387904∧∀ j,j<l.length→Af (l.getD j 0)=true:=by
 obtain ⟨h1,h2⟩:=Ar.1 h
 exact ⟨h1,fun j hj=>by rw [A1r,A1y hj]; exact h2 _ (List.getElem_mem hj)⟩
theorem Jj {l:List Int} (h:Ai l=true) (hl:l.length≤1000):Cp l=true:=Ar.2 ⟨by omega,Ar.1 h⟩
theorem Ag7 (N:Nat) {x:List Int} (hx:Cp x=true):∀ (k i F:Nat),i+k=x.length→k<F→Ad.Finite.L0 N F x (i:Int)=some (.bool ((x.drop i).all Ck)):=by
 obtain ⟨hl,hu⟩:=Iq hx
 intro k
 induction k with
 | zero =>
   intro i F hi hF
   obtain ⟨F,rfl⟩:∃ G,F=G+1:=⟨F-1,by omega⟩
   rw [Ad.Finite.Av,Au,A1m (by omega),A1l,A1v (by omega)]; rfl
 | succ k ih =>
   intro i F hi hF
   obtain ⟨F,rfl⟩:∃ G,F=G+1:=⟨F-1,by omega⟩
   rw [Ad.Finite.Av,Au,A1i (show (i:Int)<(x.length:Int) by omega),A1h,A1i (show (0:Int)≤(i:Int) by omega),A1n,A1h,A1j,hu i (by omega),A1h,Hi (by omega),List.all_cons]
   cases Ck (x.getD i 0) with
   | false=>rfl
   | true =>
     rw [A2g,A1l,Am (by omega) (by omega),A2u]
     exact ih (i+1) F (by omega) (by omega)
theorem Ad.Finite.known:Ad.Finite.Kn:=Ad.Finite.Ac (.cons soft.Finite.known .nil) fun x hp=>by
 have hp:Cp x=true:=hp
 refine ⟨x.length+1,Ad.Finite.out [.l x],[],?_,.bool⟩
 show _=some (DV.bool (x.all Ck))
 rw [Ad.Finite.ev]
 exact Ag7 _ hp x.length 0 (x.length+1) (by omega) (by omega)
theorem Aoa {x:List Int} {i:Nat} (h:i<x.length) (m:Nat):Ld (x.drop i) m=if Ah (x.getD i 0).toNat=4 then Le else Ld (x.drop (i+1)) (max m (E3 (x.getD i 0).toNat)):=by
 rw [Hi h]; rfl
theorem Aet (N:Nat) {x:List Int} (hx:Cp x=true):∀ (k i F m:Nat),i+k=x.length→k<F→Ad.Bq.L0 N F x (m:Int) (i:Int)=some (.int .u64 ((Ld (x.drop i) m:Nat):Int)):=by
 obtain ⟨hl,hu⟩:=Iq hx
 intro k
 induction k with
 | zero =>
   intro i F m hi hF
   obtain ⟨F,rfl⟩:∃ G,F=G+1:=⟨F-1,by omega⟩
   rw [Ad.Bq.Av,Au,A1m (by omega),A1l,A1v (by omega)]; rfl
 | succ k ih =>
   intro i F m hi hF
   obtain ⟨F,rfl⟩:∃ G,F=G+1:=⟨F-1,by omega⟩
   rw [Ad.Bq.Av,Au,A1i (show (i:Int)<(x.length:Int) by omega),A1h,A1i (show (0:Int)≤(i:Int) by omega),A1n,A1h,A1j,hu i (by omega),A1h,Aoa (by omega)]
   unfold A5
   by_cases h4:Ah (x.getD i 0).toNat=4
   ·have e:(((Ah (x.getD i 0).toNat:Nat):Int)==(4:Int))=true:=by rw [h4]; rfl
    rw [e,A1h,A14 h4]; rfl
   ·have e:(((Ah (x.getD i 0).toNat:Nat):Int)==(4:Int))=false:=R9 h4
    have em:max (m:Int) (It (x.getD i 0))=((max m (E3 (x.getD i 0).toNat):Nat):Int):=by unfold It; omega
    rw [e,A1l,A1h,A13 h4,em,Am (by omega) (by omega)]
    exact ih (i+1) F _ (by omega) (by omega)
theorem Ad.Bq.known:Ad.Bq.Kn:=Ad.Bq.Ac (.cons compare.G1.known (.cons soft.Kind.known .nil)) fun x hp=>by
 have hp:Cp x=true:=hp
 refine ⟨x.length+1,Ad.Bq.out [.l x],[],?_,.int⟩
 rw [Ad.Bq.ev]
 exact Aet _ hp x.length 0 (x.length+1) 0 (by omega) (by omega)
theorem Aes (N:Nat) {x:List Int} (hx:Cp x=true):∀ (k i F:Nat),i+k=x.length→k<F→Cs.Check.L0 N F x (i:Int)=some (.int .i64 (if (x.drop i).all Ck=true then 0 else 4)):=by
 obtain ⟨hl,hu⟩:=Iq hx
 intro k
 induction k with
 | zero =>
   intro i F hi hF
   obtain ⟨F,rfl⟩:∃ G,F=G+1:=⟨F-1,by omega⟩
   rw [Cs.Check.Av,Au,A1m (by omega),A1l,A1v (by omega)]; rfl
 | succ k ih =>
   intro i F hi hF
   obtain ⟨F,rfl⟩:∃ G,F=G+1:=⟨F-1,by omega⟩
   rw [Cs.Check.Av,Au,A1i (show (i:Int)<(x.length:Int) by omega),A1h,A1i (show (0:Int)≤(i:Int) by omega),A1n,A1h,A1j,hu i (by omega),A1h,Hi (by omega),List.all_cons]
   cases Ck (x.getD i 0) with
   | false=>rfl
   | true =>
     rw [A2g,A1l,Am (by omega) (by omega),A2u]
     exact ih (i+1) F (by omega) (by omega)
theorem Na {r c:Int} {l:List Int} (h:A2 r c l=true):l.length≤36:=by
 obtain ⟨R,C,rfl,rfl,r6,c6,hl⟩:=Ci h
 have:=A2d r6 c6
 omega
theorem Cs.Check.known:Cs.Check.Kn:=Cs.Check.Ac (.cons Aa.Check.known (.cons soft.Finite.known .nil)) fun r c l hp=>by
 have hp:Ai l=true:=hp
 refine ⟨l.length+1,Cs.Check.out [.i r,.i c,.l l],[],?_,.int⟩
 show _=some (DV.int .i64 (B9 r c l))
 rw [Cs.Check.ev]
 unfold Lb B9 C2
 by_cases h:A2 r c l=true
 ·have:=Na h
  rw [A14 h,A14 h]
  have e:((0:Int) !=(0:Int))=false:=by decide
  rw [e,A1l]
  exact Aes _ (Jj hp (by omega)) l.length 0 (l.length+1) (by omega) (by omega)
 ·rw [A13 h,A13 h]; rfl
open Go Go.Den Go.Rnd Go.Proofs Ieee
theorem Apo {m n:Nat} (hm:m≠0) (hn:n≠0) (lm:m<2^53) (ln:n<2^53) (i j:Int) :
 Ca (F0 m n (54+n.log2-m.log2)) (i-j-((54+n.log2-m.log2:Nat):Int)-1)=Ca (F0 m n 120) (i-j-121):=by
 have l1:=(A2x hm).2 lm
 have a1:=Nat.log2_self_le hm
 have a2:=Nat.lt_log2_self (n:=n)
 have g1:2^53≤m*2^(54+n.log2-m.log2) / n:=by
  rw [Nat.le_div_iff_mul_le (by omega)]
  have h1:2^m.log2*2^(54+n.log2-m.log2)≤m*2^(54+n.log2-m.log2):=A1t _ a1
  have h2:2^m.log2*2^(54+n.log2-m.log2)=2^53*2^(n.log2+1):=by
   rw [← A16,← A16]
   congr 1
   omega
  have h3:2^53*n≤2^53*2^(n.log2+1):=Nat.mul_le_mul_left _ (by omega)
  omega
 have g2:2^53≤m*2^120 / n:=Apq (t:=53) (by omega) (by omega) ln (by omega)
 exact (Yu (by omega) g1 g2 (by omega)).1
theorem Atf (s t:Bool) (m:Nat) (i:Int) (n:Nat) (j:Int) (hn:n≠0):(Datum.number s m i).quotient 54 (.number t n j) =
 some (.number (s ^^ t) (F0 m n (54+n.log2-m.log2)) (i-j-((54+n.log2-m.log2:Nat):Int)-1)):=by
 have e:(Datum.number s m i).quotient 54 (.number t n j)=some (.number (s ^^ t) (2*(m <<< (54+n.log2-m.log2) / n)+(m <<< (54+n.log2-m.log2)%n !=0).toNat) (i-j-((54+n.log2-m.log2:Nat):Int)-1)):=A13 hn
 rw [e,Nat.shiftLeft_eq]
 unfold F0
 congr 3
 by_cases h:m*2^(54+n.log2-m.log2)%n=0
 ·rw [A14 h,h]; rfl
 ·have:(m*2^(54+n.log2-m.log2)%n !=0)=true:=by simpa using h
  rw [A13 h,this]; rfl
theorem Arr {a b:Nat} (ha:a<2^64) (hb:b<2^64) {d:Nat} (hd:Ah d=4):D3 ((Ieee.double.div a b).getD d)=(T0 a b).1:=by
 have cd:D3 d=Le:=A14 hd
 have ex:∀ s t:Bool,(s ^^ t)=(s !=t):=fun s t=>by cases s<;>cases t<;>rfl
 have e54:Ieee.double.fractionBits+2=54:=rfl
 unfold Format.div
 rw [I8 ha,I8 hb,e54]
 unfold T0
 by_cases a4:Ah a=4
 ·rw [A14 (.inl a4),Hf a4]; exact cd
 ·by_cases b4:Ah b=4
  ·rw [A14 (.inr b4),Hf b4]
   by_cases a3:Ah a=3
   ·rw [Eo a3]; exact cd
   ·rw [En a3 a4]; exact cd
  ·rw [A13 (fun h=>h.elim a4 b4)]
   by_cases a3:Ah a=3
   ·rw [Eo a3]
    by_cases b3:Ah b=3
    ·rw [Eo b3,A14 ⟨by omega,.inl a3⟩]; exact cd
    ·rw [En b3 b4,A13 (by omega),A14 a3]
     show D3 (Bc (Bk a ^^ Bk b) Dz)=_
     rw [Go.Proofs.S1.Lc,ex]
   ·rw [En a3 a4]
    by_cases b3:Ah b=3
    ·rw [Eo b3,A13 (by omega),A13 a3,A14 (.inl b3)]
     show D3 (Ieee.double.write (.number (Bk a ^^ Bk b) 0 0))=_
     rw [M4,Ky,ex]
     exact G3 _ (Nat.zero_le _)
    ·rw [En b3 b4]
     have za:=U4 a3 a4
     have zb:=U4 b3 b4
     by_cases b0:Ah b=0
     ·by_cases a0:Ah a=0
      ·have e:(Datum.number (Bk a) (As a) (Ay a)).quotient 54 (.number (Bk b) (As b) (Ay b))=none:=by
        show (if As b=0 then (if As a=0 then none else _) else _)=_
        rw [A14 (zb.2 b0),A14 (za.2 a0)]
       rw [e,A14 ⟨by omega,.inr a0⟩]; exact cd
      ·have e:(Datum.number (Bk a) (As a) (Ay a)).quotient 54 (.number (Bk b) (As b) (Ay b))=some (.infinity (Bk a ^^ Bk b)):=by
        show (if As b=0 then (if As a=0 then none else _) else _)=_
        rw [A14 (zb.2 b0),A13 (fun k=>a0 (za.1 k))]
       rw [e,A13 (by omega),A13 a3,A13 (by omega),A14 b0]
       show D3 (Bc (Bk a ^^ Bk b) Dz)=_
       rw [Go.Proofs.S1.Lc,ex]
     ·have hn:As b≠0:=fun k=>b0 (zb.1 k)
      rw [Atf _ _ _ _ _ _ hn,A13 (by omega),A13 a3]
      show D3 (Ieee.double.write (.number _ _ _))=_
      rw [M4,G3 _ (Jq _ _),ex]
      by_cases a0:Ah a=0
      ·rw [A14 (.inr a0),za.2 a0]
       have:F0 0 (As b) (54+(As b).log2-Nat.log2 0)=0:=by
        unfold F0
        rw [Nat.zero_mul,Nat.zero_div,Nat.zero_mod,A14 rfl]
       rw [this,Ky]
      ·have hm:As a≠0:=fun k=>a0 (za.1 k)
       have la:=Ff a
       have lb:=Ff b
       rw [A13 (by omega),A13 b0,Apo hm hn (by omega) (by omega)]
namespace EqRoot
def root.Gt.hint:Nat→Option Be
 | 0=>some { keep:=[0,4,5,6,14],objs:=[],boxes:=[] }
 | _=>none
def root.Gt.A9:List (Nat × Entry):=[]
def root.Gt.E:Env:=Ba (A8 root.Gt.A9) (fun _=>false) root.Gt.hint (fun _=>none)
section
variable (N M:Nat) (m p4 p5 p6 p14:Int)
def root.Gt.L0:Option DV:=B2 root.Gt.E N f265 (An f265) [1,1,0,1,0] [] M ⟨Gz 68 [(0,.int .u64 m),(4,.int .u64 p4),(5,.int .u64 p5),(6,.int .u64 p6),(14,.int .i64 p14)],[]⟩
theorem root.Gt.Av:root.Gt.L0 N (M+1) m p4 p5 p6 p14=bif (A6 p14 64) then bif (A6 p14 32) then bif (decide (0≤(Ab ((62:Int)-(Ab ((2:Int)*p14)))))) then bif (decide ((Hb (Is .u64 (B4 .u64 p6 2) (E1 .u64 (Dm .u64 m (Ab ((62:Int)-(Ab ((2:Int)*p14))))) 3)) (Is .u64 (B4 .u64 p4 2) 1) 0)≤1)) then bif ((Hb (Is .u64 (B4 .u64 p5 2) (Dm .u64 p6 62)) (Dm .u64 p4 62) (Hb (Is .u64 (B4 .u64 p6 2) (E1 .u64 (Dm .u64 m (Ab ((62:Int)-(Ab ((2:Int)*p14))))) 3)) (Is .u64 (B4 .u64 p4 2) 1) 0))==(0:Int)) then root.Gt.L0 N M m (Is .u64 (B4 .u64 p4 1) 1) (N6 (Is .u64 (B4 .u64 p5 2) (Dm .u64 p6 62)) (Dm .u64 p4 62) (Hb (Is .u64 (B4 .u64 p6 2) (E1 .u64 (Dm .u64 m (Ab ((62:Int)-(Ab ((2:Int)*p14))))) 3)) (Is .u64 (B4 .u64 p4 2) 1) 0)) (N6 (Is .u64 (B4 .u64 p6 2) (E1 .u64 (Dm .u64 m (Ab ((62:Int)-(Ab ((2:Int)*p14))))) 3)) (Is .u64 (B4 .u64 p4 2) 1) 0) (Ab (p14+1)) else root.Gt.L0 N M m (B4 .u64 p4 1) (Is .u64 (B4 .u64 p5 2) (Dm .u64 p6 62)) (Is .u64 (B4 .u64 p6 2) (E1 .u64 (Dm .u64 m (Ab ((62:Int)-(Ab ((2:Int)*p14))))) 3)) (Ab (p14+1)) else none else none else bif (decide ((Hb (Is .u64 (B4 .u64 p6 2) 0) (Is .u64 (B4 .u64 p4 2) 1) 0)≤1)) then bif ((Hb (Is .u64 (B4 .u64 p5 2) (Dm .u64 p6 62)) (Dm .u64 p4 62) (Hb (Is .u64 (B4 .u64 p6 2) 0) (Is .u64 (B4 .u64 p4 2) 1) 0))==(0:Int)) then root.Gt.L0 N M m (Is .u64 (B4 .u64 p4 1) 1) (N6 (Is .u64 (B4 .u64 p5 2) (Dm .u64 p6 62)) (Dm .u64 p4 62) (Hb (Is .u64 (B4 .u64 p6 2) 0) (Is .u64 (B4 .u64 p4 2) 1) 0)) (N6 (Is .u64 (B4 .u64 p6 2) 0) (Is .u64 (B4 .u64 p4 2) 1) 0) (Ab (p14+1)) else root.Gt.L0 N M m (B4 .u64 p4 1) (Is .u64 (B4 .u64 p5 2) (Dm .u64 p6 62)) (Is .u64 (B4 .u64 p6 2) 0) (Ab (p14+1)) else none else some (.tup [.int .u64 p4,.bool (bif (p5==(0:Int)) then (p6==(0:Int)) else false)]) :=
 Eq.trans (by kernel_rfl)
 (Et rfl (Ax (Qq (p5==(0:Int))) (Ax (Ma (p5==(0:Int))) (Ax (Uf (p5==(0:Int))) rfl))))
theorem root.Gt.ev:Bw root.Gt.E N f265 (An f265) [.int .u64 m] =
 root.Gt.L0 N N m 0 0 0 0:=by kernel_rfl
end
abbrev _root_.Go.Proofs.S1.root.Gt.Kn:=A4 prog 265 root.Gt.spec
theorem root.Gt.Ac (hk:Az prog root.Gt.A9) (h:Hyp root.Gt.E f265 root.Gt.ts root.Gt.pre root.Gt.out):root.Gt.Kn :=
 Al (A0 hk _ _ _) func265 (by kernel_rfl) (by kernel_rfl) h
def root.Sqrt.hint:Nat→Option Be
 | 5=>some { keep:=[5,7,9],objs:=[],boxes:=[] }
 | _=>none
def root.Sqrt.A9:List (Nat × Entry):=[(250,Cu.B0.spec),(265,root.Gt.spec),(155,soft.Kind.spec),(212,soft.Dj.spec),(211,soft.Fy.spec),(213,soft.Sign.spec)]
def root.Sqrt.E:Env:=Ba (A8 root.Sqrt.A9) (fun _=>false) root.Sqrt.hint (fun _=>none)
section
variable (N:Nat) (a:Int) (M:Nat) (p5 p7:Int) (p9:Bool)
def root.Sqrt.L0:Option DV:=B2 root.Sqrt.E N f264 (An f264) [1,1,1,1,1,1,1,1,1,0,0] [] M ⟨Gz 73 [(5,.int .i64 p5),(7,.int .u64 p7),(9,.bool p9)],[]⟩
theorem root.Sqrt.Av:root.Sqrt.L0 N (M+1) p5 p7 p9=bif (Em 4611686018427387904 p7) then root.Sqrt.L0 N M (Ab (p5+2)) (Dm .u64 p7 1) (bif p9 then true else ((E1 .u64 p7 1)==(1:Int))) else bif (El p7 (Ab ((Ab (Int.tdiv p5 2))-32)) p9) then some (.tup [.int .u64 (E9 false p7 (Ab ((Ab (Int.tdiv p5 2))-32)) p9),.int .u8 (E8 false p7 (Ab ((Ab (Int.tdiv p5 2))-32)) p9)]) else none :=
 Eq.trans (by kernel_rfl)
 (Et (Ax (S8 p9) (Ax (Qx p9) (Ax (Qx p9) (Ax (X2 p9) rfl)))) rfl)
theorem root.Sqrt.ev:Bw root.Sqrt.E N f264 (An f264) [.int .u64 a]=bif (Af a) then bif ((A5 a)==(4:Int)) then some (.tup [.int .u64 9221120237041090560,.int .u8 0]) else bif (Af a) then bif ((A5 a)==(0:Int)) then some (.tup [.int .u64 a,.int .u8 0]) else bif (a==(9218868437227405312:Int)) then some (.tup [.int .u64 a,.int .u8 0]) else bif (Af a) then bif (D0 a) then some (.tup [.int .u64 9221120237041090560,.int .u8 16]) else bif (Af a) then bif (Af (Bx a)) then bif ((Int.tmod (Ab ((Bi a)-(Ab ((64-Fa (Bx a))-2)))) 2) !=(0:Int)) then bif (decide (0≤(Ab ((Ab ((64-Fa (Bx a))-2))-1)))) then bif (Cz (0≤(B4 .u64 (Bx a) (Ab ((Ab ((64-Fa (Bx a))-2))-1)))∧(B4 .u64 (Bx a) (Ab ((Ab ((64-Fa (Bx a))-2))-1)))<9223372036854775808)) then root.Sqrt.L0 N N (Ab ((Bi a)-(Ab ((Ab ((64-Fa (Bx a))-2))-1)))) (Vd (B4 .u64 (Bx a) (Ab ((Ab ((64-Fa (Bx a))-2))-1)))) (!(Ve (B4 .u64 (Bx a) (Ab ((Ab ((64-Fa (Bx a))-2))-1))))) else none else none else bif (decide (0≤(Ab ((64-Fa (Bx a))-2)))) then bif (Cz (0≤(B4 .u64 (Bx a) (Ab ((64-Fa (Bx a))-2)))∧(B4 .u64 (Bx a) (Ab ((64-Fa (Bx a))-2)))<9223372036854775808)) then root.Sqrt.L0 N N (Ab ((Bi a)-(Ab ((64-Fa (Bx a))-2)))) (Vd (B4 .u64 (Bx a) (Ab ((64-Fa (Bx a))-2)))) (!(Ve (B4 .u64 (Bx a) (Ab ((64-Fa (Bx a))-2))))) else none else none else none else none else none else none else none:=by kernel_rfl
end
abbrev _root_.Go.Proofs.S1.root.Sqrt.Kn:=A4 prog 264 root.Sqrt.spec
theorem root.Sqrt.Ac (hk:Az prog root.Sqrt.A9) (h:Hyp root.Sqrt.E f264 root.Sqrt.ts root.Sqrt.pre root.Sqrt.out):root.Sqrt.Kn :=
 Al (A0 hk _ _ _) func264 (by kernel_rfl) (by kernel_rfl) h
def Ad.Sqrt.A9:List (Nat × Entry):=[(264,root.Sqrt.spec)]
def Ad.Sqrt.E:Env:=Ba (A8 Ad.Sqrt.A9) (fun _=>false) (fun _=>none) (fun _=>none)
theorem Ad.Sqrt.ev (N:Nat) (a:Int):Bw Ad.Sqrt.E N f262 (An f262) [.int .u64 a]=bif (Af a) then some (.int .u64 (F3 a)) else none:=by kernel_rfl
abbrev _root_.Go.Proofs.S1.Ad.Sqrt.Kn:=A4 prog 262 Ad.Sqrt.spec
theorem Ad.Sqrt.Ac (hk:Az prog Ad.Sqrt.A9) (h:Hyp Ad.Sqrt.E f262 Ad.Sqrt.ts Ad.Sqrt.pre Ad.Sqrt.out):Ad.Sqrt.Kn :=
 Al (A0 hk _ _ _) func262 (by kernel_rfl) (by kernel_rfl) h
def compare.Ku.A9:List (Nat × Entry):=[(261,Cu.Kq.spec),(148,soft.Finite.spec),(155,soft.Kind.spec),(211,soft.Fy.spec)]
def compare.Ku.E:Env:=Ba (A8 compare.Ku.A9) (fun _=>false) (fun _=>none) (fun _=>none)
theorem compare.Ku.ev (N:Nat) (a:Int):Bw compare.Ku.E N f255 (An f255) [.int .u64 a]=bif (Af a) then bif ((!(Ck a))||(Af a)) then bif ((!(Ck a))||((A5 a)==(0:Int))) then some (.int .i64 0) else bif (Af a) then bif (Af (Bx a)) then some (.int .i64 (Ab ((Ab ((Fa (Bx a))-1))+(Bi a)))) else none else none else none else none :=
 Eq.trans (by kernel_rfl)
 (Et (Ax (Ade (Ck a)) (C9 (Ao0 (Ck a) (Af a)) (Ax (S3 (Ck a)) (Ax (Adf (Ck a)) (C9 (Av1 (Ck a) ((A5 a)==(0:Int))) rfl rfl))) rfl)) rfl)
abbrev _root_.Go.Proofs.S1.compare.Ku.Kn:=A4 prog 255 compare.Ku.spec
theorem compare.Ku.Ac (hk:Az prog compare.Ku.A9) (h:Hyp compare.Ku.E f255 compare.Ku.ts compare.Ku.pre compare.Ku.out):compare.Ku.Kn :=
 Al (A0 hk _ _ _) func255 (by kernel_rfl) (by kernel_rfl) h
def Ad.Norm.hint:Nat→Option Be
 | 0=>some { keep:=[5,6,25,26,27],objs:=[],boxes:=[] }
 | _=>none
def Ad.Norm.A9:List (Nat × Entry):=[(255,compare.Ku.spec),(148,soft.Finite.spec),(226,Ad.Add.spec),(89,Ad.Bq.spec),(157,Ad.Mul.spec),(88,Ad.Br.spec),(262,Ad.Sqrt.spec)]
def Ad.Norm.E:Env:=Ba (A8 Ad.Norm.A9) (fun _=>false) Ad.Norm.hint (fun _=>none)
section
variable (N M:Nat) (x:List Int) (p6 p27:Int)
def Ad.Norm.L0:Option DV:=B2 Ad.Norm.E N f257 (An f257) [1,1,1,1,1,1,0,1,0] [] M ⟨Gz 45 [(5,.int .i64 (Bs (Bg x))),(6,.int .u64 p6),(25,.ints .arg .u64 x),(26,.int .i64 (length x:Int)),(27,.int .i64 p27)],[]⟩
theorem Ad.Norm.Av:Ad.Norm.L0 N (M+1) x p6 p27=bif (A6 p27 (length x:Int)) then bif ((decide (0≤p27))&&(decide (p27<(length x:Int)))) then bif (Di (getD x (toNat p27) 0) (Ab (0-(Bs (Bg x))))) then bif (Af (Bp (getD x (toNat p27) 0) (Ab (0-(Bs (Bg x)))))&&Af (Bp (getD x (toNat p27) 0) (Ab (0-(Bs (Bg x)))))) then bif (Af p6&&Af (C5 (Bp (getD x (toNat p27) 0) (Ab (0-(Bs (Bg x))))) (Bp (getD x (toNat p27) 0) (Ab (0-(Bs (Bg x))))))) then Ad.Norm.L0 N M x (Fg p6 (C5 (Bp (getD x (toNat p27) 0) (Ab (0-(Bs (Bg x))))) (Bp (getD x (toNat p27) 0) (Ab (0-(Bs (Bg x))))))) (Ab (p27+1)) else none else none else none else none else bif (Af p6) then bif (Di (F3 p6) (Bs (Bg x))) then some (.tup [.int .u64 (Bp (F3 p6) (Bs (Bg x))),.int .i64 0]) else none else none:=by kernel_rfl
theorem Ad.Norm.ev:Bw Ad.Norm.E N f257 (An f257) [.ints .arg .u64 x]=bif (A6 64 (length x:Int)) then some (.tup [.int .u64 0,.int .i64 3]) else bif (Cp x) then bif (((Bg x)==(0:Int))||(Af (Bg x))) then bif (((Bg x)==(0:Int))||(!(Ck (Bg x)))) then some (.tup [.int .u64 (Bg x),.int .i64 0]) else bif (Af (Bg x)) then Ad.Norm.L0 N N x 0 (0:Int) else none else none else none :=
 Eq.trans (by kernel_rfl)
 (Et rfl (Et (Ax (S8 ((Bg x)==(0:Int))) (C9 (Ast ((Bg x)==(0:Int)) (Af (Bg x))) (Ax (Qx ((Bg x)==(0:Int))) (Ax (X2 ((Bg x)==(0:Int))) (C9 (Ax4 ((Bg x)==(0:Int)) (Ck (Bg x))) rfl rfl))) rfl)) rfl))
end
abbrev _root_.Go.Proofs.S1.Ad.Norm.Kn:=A4 prog 257 Ad.Norm.spec
theorem Ad.Norm.Ac (hk:Az prog Ad.Norm.A9) (h:Hyp Ad.Norm.E f257 Ad.Norm.ts Ad.Norm.pre Ad.Norm.out):Ad.Norm.Kn :=
 Al (A0 hk _ _ _) func257 (by kernel_rfl) (by kernel_rfl) h
end EqRoot
open EqRoot
theorem Ro (n s:Nat) (h:s≤64):Dm .u64 (n:Int) (s:Int)=((n / 2^s:Nat):Int):=Ii .u64 n s h
theorem sh2 {n t:Nat} (ht:t<4):Is .u64 (B4 .u64 (n:Int) (2:Int)) (t:Int)=((n%2^62*4+t:Nat):Int):=by
 rw [show (2:Int)=((2:Nat):Int) from rfl,Fu n 2 (by decide),show n*2^2%2^64=(n%2^62)*2^2 by omega]
 exact Nx ht (by omega)
theorem sh1 {n:Nat} (h:n<2^63):B4 .u64 (n:Int) (1:Int)=((2*n:Nat):Int):=by
 rw [show (1:Int)=((1:Nat):Int) from rfl,Fu n 1 (by decide)]
 congr 1; omega
theorem A0v {n:Nat} (h:n<2^63):Is .u64 (B4 .u64 (n:Int) (1:Int)) (1:Int)=((2*n+1:Nat):Int):=by
 rw [show (1:Int)=((1:Nat):Int) from rfl,Fu n 1 (by decide),show n*2^1%2^64=n*2^1 by omega,A15 2 n]
 exact Nx (k:=1) (by decide) (by omega)
theorem Aoy {m i:Nat} (hi:i<32):E1 .u64 (Dm .u64 (m:Int) (Ab ((62:Int)-(Ab ((2:Int)*(i:Int)))))) (3:Int)=((m / 2^(62-2*i)%2^64%4:Nat):Int)∨2^64≤m:=by
 by_cases hm:m<2^64
 ·left
  rw [Am (x:=(2:Int)*(i:Int)) (by omega) (by omega),Am (x:=(62:Int)-2*(i:Int)) (by omega) (by omega),show (62:Int)-2*(i:Int)=((62-2*i:Nat):Int) by omega,Ro _ _ (by omega)]
  have hd:m / 2^(62-2*i)<2^64:=A2j (Nat.div_le_self _ _) hm
  rw [show (3:Int)=((2^2-1:Nat):Int) from rfl,Jf 2 hd (by decide)]
  congr 1
  omega
 ·right; omega
def S4 (m i:Nat):Nat:=m*2^64 / 2^(128-2*i)
theorem Apv {m i:Nat} (hi:i<32):S4 m (i+1)=4*S4 m i+m / 2^(62-2*i)%4:=by
 unfold S4
 have e1:128-2*i=64+(64-2*i):=by omega
 have e2:128-2*(i+1)=64+(62-2*i):=by omega
 rw [e1,e2,A16,A16,A15 (2^64),A15 (2^64),Nat.mul_div_mul_right _ _ (by decide),Nat.mul_div_mul_right _ _ (by decide),show 64-2*i=(62-2*i)+2 by omega,A16,← A2a]
 omega
theorem Amp {m i:Nat} (hi:32≤i) (h:i<64):S4 m (i+1)=4*S4 m i:=by
 unfold S4
 have e1:(2:Nat)^64=2^(2*i-64)*2^(128-2*i):=by rw [← A16]; congr 1; omega
 have e2:(2:Nat)^64=2^(2*i-64)*4*2^(128-2*(i+1)):=by
  rw [show (4:Nat)=2^2 from rfl,← A16,← A16]; congr 1; omega
 have a1:m*2^64 / 2^(128-2*i)=m*2^(2*i-64):=by rw [e1,← A18,Nat.mul_div_cancel _ (Cg _)]
 have a2:m*2^64 / 2^(128-2*(i+1))=m*(2^(2*i-64)*4):=by rw [e2,← A18,Nat.mul_div_cancel _ (Cg _)]
 rw [a1,a2,← A18,A15 4]
theorem As5 {A B tl th:Nat} (hA:A<2^64) (htl:tl<2^64) (hB:B<2^64) (hth:th<4) :
 (Hb (A:Int) (tl:Int) (0:Int)=0∨Hb (A:Int) (tl:Int) (0:Int)=1) ∧
 (th*2^64+tl≤B*2^64+A→(Hb (B:Int) (th:Int) (Hb (A:Int) (tl:Int) (0:Int))==(0:Int))=true ∧
  ∃ h l:Nat,N6 (B:Int) (th:Int) (Hb (A:Int) (tl:Int) (0:Int))=(h:Int)∧N6 (A:Int) (tl:Int) (0:Int)=(l:Int)∧l<2^64∧h*2^64+l=B*2^64+A-(th*2^64+tl)) ∧
 (B*2^64+A<th*2^64+tl→(Hb (B:Int) (th:Int) (Hb (A:Int) (tl:Int) (0:Int))==(0:Int))=false):=by
 have e1:Hb (A:Int) (tl:Int) (0:Int)=((if A<tl then 1 else 0:Nat):Int):=by
  unfold Hb
  rw [A1j,A1j]
  rfl
 by_cases h:A<tl
 ·rw [A14 h] at e1
  rw [e1]
  have e2:Hb (B:Int) (th:Int) ((1:Nat):Int)=((if B<th+1 then 1 else 0:Nat):Int):=by
   unfold Hb
   rw [A1j,A1j]
   rfl
  refine ⟨.inr rfl,fun hle=>?_,fun hlt=>?_⟩
  ·rw [A13 (by omega)] at e2
   rw [e2]
   refine ⟨rfl,B-th-1,A+2^64-tl,?_,?_,by omega,by omega⟩
   ·unfold N6
    rw [A1j,A1j,A1j]
    congr 1; omega
   ·unfold N6
    rw [A1j,A1j]
    show ((_:Nat):Int)=_
    congr 1
    show (A+18446744073709551616-tl-0)%18446744073709551616=_
    omega
  ·rw [A14 (by omega)] at e2
   rw [e2]; rfl
 ·rw [A13 h] at e1
  rw [e1]
  have e2:Hb (B:Int) (th:Int) ((0:Nat):Int)=((if B<th then 1 else 0:Nat):Int):=by
   unfold Hb
   rw [A1j,A1j]
   rfl
  refine ⟨.inl rfl,fun hle=>?_,fun hlt=>?_⟩
  ·rw [A13 (by omega)] at e2
   rw [e2]
   refine ⟨rfl,B-th,A-tl,?_,?_,by omega,by omega⟩
   ·unfold N6
    rw [A1j,A1j,A1j]
    congr 1; omega
   ·unfold N6
    rw [A1j,A1j]
    show ((_:Nat):Int)=_
    congr 1
    show (A+18446744073709551616-tl-0)%18446744073709551616=_
    omega
  ·rw [A14 (by omega)] at e2
   rw [e2]; rfl
theorem glue (n t:Nat):n / 2^62*2^64+(n%2^62*4+t)=4*n+t:=by omega
theorem Anf (N:Nat) {m:Nat} (hm:m<2^63):∀ (k i F rt rest:Nat),i+k=64→k<F→S4 m i=rt*rt+rest→rest≤2*rt→rt<2^i→∀ hi lo:Nat,hi*2^64+lo=rest→lo<2^64 →
 root.Gt.L0 N F (m:Int) (rt:Int) (hi:Int) (lo:Int) (i:Int)=some (.tup [.int .u64 (Vd m),.bool (Ve m)]):=by
 intro k
 induction k with
 | zero =>
   intro i F rt rest hi hF hP hr hb h l e hl
   obtain ⟨F,rfl⟩:∃ G,F=G+1:=⟨F-1,by omega⟩
   obtain rfl:i=64:=by omega
   have hP':m*2^64=rt*rt+rest:=by
    rw [← hP]; unfold S4
    rw [show 128-2*64=0 from rfl,A2f,Nat.div_one]
   have hroot:=Atc hP' hr
   rw [root.Gt.Av,Au,A1m (by omega),A1l]
   have e1:Vd (m:Int)=(rt:Int):=by unfold Vd; rw [A1j,← hroot]
   have e2:Ve (m:Int)=(bif ((h:Int)==(0:Int)) then ((l:Int)==(0:Int)) else false):=by
    unfold Ve
    rw [A1j,← hroot,hP']
    by_cases h0:h=0
    ·subst h0
     rw [show (((0:Nat):Int)==(0:Int))=true from rfl,A1h,A1x,A1o,beq_iff_eq]
     omega
    ·rw [show ((h:Int)==(0:Int))=false by rw [A2c]; omega,A1l,A1m]
     omega
   rw [e1,e2]
 | succ k ih =>
   intro i F rt rest hi hF hP hr hb h l e hl
   obtain ⟨F,rfl⟩:∃ G,F=G+1:=⟨F-1,by omega⟩
   have hp:2^i≤2^63:=A1w (by decide) (by omega)
   have hi63:2^(i+1)=2*2^i:=by rw [Nat.pow_succ,A15]
   have f1:2*rt+1<2^(i+1):=by rw [hi63]; omega
   have f2:2*rt<2^(i+1):=by omega
   have hh:h=0:=by omega
   subst hh
   have hrest:rest=l:=by omega
   subst hrest
   obtain ⟨two,t4,hP',hcode⟩:∃ two:Nat,two<4∧S4 m (i+1)=4*S4 m i+two ∧
    root.Gt.L0 N (F+1) (m:Int) (rt:Int) ((0:Nat):Int) (rest:Int) (i:Int) =
    (bif (decide ((Hb (Is .u64 (B4 .u64 (rest:Int) (2:Int)) (two:Int)) (Is .u64 (B4 .u64 (rt:Int) (2:Int)) (1:Int)) (0:Int))≤1)) then
     bif ((Hb (Is .u64 (B4 .u64 ((0:Nat):Int) (2:Int)) (Dm .u64 (rest:Int) (62:Int))) (Dm .u64 (rt:Int) (62:Int)) (Hb (Is .u64 (B4 .u64 (rest:Int) (2:Int)) (two:Int)) (Is .u64 (B4 .u64 (rt:Int) (2:Int)) (1:Int)) (0:Int)))==(0:Int)) then
      root.Gt.L0 N F (m:Int) (Is .u64 (B4 .u64 (rt:Int) (1:Int)) (1:Int)) (N6 (Is .u64 (B4 .u64 ((0:Nat):Int) (2:Int)) (Dm .u64 (rest:Int) (62:Int))) (Dm .u64 (rt:Int) (62:Int)) (Hb (Is .u64 (B4 .u64 (rest:Int) (2:Int)) (two:Int)) (Is .u64 (B4 .u64 (rt:Int) (2:Int)) (1:Int)) (0:Int))) (N6 (Is .u64 (B4 .u64 (rest:Int) (2:Int)) (two:Int)) (Is .u64 (B4 .u64 (rt:Int) (2:Int)) (1:Int)) (0:Int)) (Ab ((i:Int)+(1:Int)))
     else root.Gt.L0 N F (m:Int) (B4 .u64 (rt:Int) (1:Int)) (Is .u64 (B4 .u64 ((0:Nat):Int) (2:Int)) (Dm .u64 (rest:Int) (62:Int))) (Is .u64 (B4 .u64 (rest:Int) (2:Int)) (two:Int)) (Ab ((i:Int)+(1:Int)))
    else none):=by
    by_cases h32:i<32
    ·refine ⟨m / 2^(62-2*i)%4,Nat.mod_lt _ (by decide),Apv h32,?_⟩
     have ht:=(Aoy (m:=m) h32).resolve_right (by omega)
     have hq:m / 2^(62-2*i)%2^64%4=m / 2^(62-2*i)%4:=by omega
     rw [hq] at ht
     rw [root.Gt.Av,Au,A1i (show (i:Int)<64 by omega),A1h,Au,A1i (show (i:Int)<32 by omega),A1h,ht,Am (x:=(2:Int)*(i:Int)) (by omega) (by omega),Am (x:=(62:Int)-2*(i:Int)) (by omega) (by omega),A1i (show (0:Int)≤62-2*(i:Int) by omega),A1h]
    ·refine ⟨0,by decide,by rw [Amp (by omega) (by omega),A2p],?_⟩
     rw [root.Gt.Av,Au,A1i (show (i:Int)<64 by omega),A1h,Au,A1m (show ¬ (i:Int)<32 by omega),A1l]
     rfl
   obtain ⟨s1,s2⟩:=Ajr hP hr t4
   have eA:=sh2 (n:=rest) t4
   have eT:=sh2 (n:=rt) (t:=1) (by decide)
   have eB:Is .u64 (B4 .u64 ((0:Nat):Int) (2:Int)) (Dm .u64 (rest:Int) (62:Int))=((rest / 2^62:Nat):Int):=by
    rw [show (62:Int)=((62:Nat):Int) from rfl,Ro _ _ (by decide),sh2 (n:=0) (t:=rest / 2^62) (by omega)]
    congr 1; omega
   have eH:Dm .u64 (rt:Int) (62:Int)=((rt / 2^62:Nat):Int):=by rw [show (62:Int)=((62:Nat):Int) from rfl,Ro _ _ (by decide)]
   have eT':Is .u64 (B4 .u64 (rt:Int) (2:Int)) (1:Int)=((rt%2^62*4+1:Nat):Int):=eT
   obtain ⟨b1,b2,b3⟩:=As5 (A:=rest%2^62*4+two) (B:=rest / 2^62) (tl:=rt%2^62*4+1) (th:=rt / 2^62) (by omega) (by omega) (by omega) (by omega)
   rw [hcode,eA,eT',eB,eH,A1i (by rcases b1 with b | b<;>rw [b]<;>decide),A1h,Am (by omega) (by omega)]
   by_cases hc:4*rt+1≤4*rest+two
   ·obtain ⟨c1,hh,ll,c2,c3,c4,c5⟩:=b2 (by rw [glue,glue]; exact hc)
    obtain ⟨d1,d2⟩:=s1 hc
    rw [c1,A1h,c2,c3,A0v (by omega)]
    refine ih (i+1) F (2*rt+1) (4*rest+two-(4*rt+1)) (by omega) (by omega) (hP'.trans d1) d2 f1 hh ll ?_ c4
    rw [c5,glue,glue]
   ·rw [b3 (by rw [glue,glue]; omega),A1l,sh1 (by omega)]
    obtain ⟨d1,d2⟩:=s2 (by omega)
    refine ih (i+1) F (2*rt) (4*rest+two) (by omega) (by omega) (hP'.trans d1) d2 f2 _ _ (glue _ _) ?_
    clear hcode
    omega
theorem root.Gt.known:root.Gt.Kn:=root.Gt.Ac .nil fun m hp=>by
 have hp:=Ar.1 hp
 obtain ⟨n,rfl⟩:∃ n:Nat,m=n:=⟨m.toNat,by omega⟩
 refine ⟨65,root.Gt.out [.i n],[],?_,Wk.Ha (.cons .int (.cons .bool .nil))⟩
 rw [root.Gt.ev]
 have h0:S4 n 0=0*0+0:=by
  unfold S4
  rw [Nat.div_eq_of_lt]
  show n*18446744073709551616<340282366920938463463374607431768211456
  omega
 exact Anf 65 (by omega) 64 0 65 0 0 rfl (by omega) h0 (A2b 0) Nat.one_pos 0 0 rfl (Nat.pow_pos (by decide))
open EqRoot
theorem Z4 {b:Nat} (h:As b≠0):Fa (As b:Int)=((As b).log2:Int)+1:=by
 unfold Fa
 rw [A13 (by omega),A1j]
theorem Al9 {w:Nat} {E:Int} {s:Bool} (hw:2^62≤w) (n:Nat) (h:S5 n=w) (hs:s=decide (w*w≠n)) :
 Gr false (w / 2) (E+2) (bif s then true else decide (w%2=1))=(Ca (F8 n) E,flagsOf (F8 n) E):=by
 have e1:F8 n / 2^2=w / 2:=by unfold F8; rw [h]; split<;>omega
 have e2:(bif s then true else decide (w%2=1))=decide (F8 n%2^2≠0):=by
  rw [hs]
  unfold F8
  rw [h]
  by_cases h0:w*w=n
  ·rw [A1m (by omega),A1l,A14 h0,decide_eq_decide]; omega
  ·rw [A1i h0,A1h,A13 h0]; symm; exact A1i (by omega)
 rw [← e1]
 have:=U7 false (V:=F8 n) (k:=2) (E:=E) (e:=E+2) rfl e2 (by rw [e1]; omega) (by left; rw [e1]; omega)
 rw [Lp] at this
 exact this
theorem root.Sqrt.num {b:Nat} (hb:b<2^64) (h4:Ah b≠4) (h:¬ (Ah b=0∨b=Dz)) (hn:Bk b=false) {z:Nat} (hz:2^60≤As b*2^z) (hz2:As b*2^z<2^62) (he:(Ay b-(z:Int))%2=0) (z60:z≤62) :
 root.Sqrt.L0 2 2 (Ay b-(z:Int)) (Vd ((As b*2^z:Nat):Int)) (!(Ve ((As b*2^z:Nat):Int)))=some (.tup [.int .u64 (F3 (b:Int)),.int .u8 (Q1 (b:Int))]):=by
 have hE:=D6 b
 have hM:=Ff b
 have h3:Ah b≠3:=fun h3=>by
  refine h (.inr ?_)
  have hpn:Bk b=false:=hn
  unfold Bk at hpn
  have hlt:b<2^63:=by simpa using hpn
  unfold Ah at h3
  have hp:=I9 b
  unfold Db at h3
  unfold Cm at h3
  unfold Dz
  split at h3
  ·split at h3
   ·omega
   ·omega
  ·split at h3
   ·omega
   ·split at h3<;>omega
 have hm:As b≠0:=fun h0=>h (.inl ((G2 h3 h4).1 h0))
 have eN:As b*2^z*2^64=As b*2^(z+64):=by rw [A18,← A16]
 have i1:2^62≤S5 (As b*2^z*2^64):=Yg (t:=62) (by omega)
 have i2:=(Re (As b*2^z*2^64)).1
 have i3:S5 (As b*2^z*2^64)<2^63:=by
  refine Afs (A2j i2 ?_)
  show _<9223372036854775808*9223372036854775808
  omega
 have r1:Vd ((As b*2^z:Nat):Int)=(S5 (As b*2^z*2^64):Int):=by unfold Vd; rw [A1j]
 have r2:(!(Ve ((As b*2^z:Nat):Int)))=decide (S5 (As b*2^z*2^64)*S5 (As b*2^z*2^64)≠As b*2^z*2^64):=by
  unfold Ve; rw [A1j,← decide_not]
 obtain ⟨k1,k2⟩:=Y6 hm
 have same:=Abx (m:=As b) (k:=z+64) (l:=Iy b) (E:=(Ay b-(z:Int)) / 2-33) (F:=(Ay b-(Iy b:Int)) / 2-1) (by rw [← eN]; omega) k1 (by omega)
 rw [← eN] at same
 have near:=Al9 (E:=(Ay b-(z:Int)) / 2-33) i1 _ rfl r2
 rw [same.1,same.2] at near
 have sq:N7 b=_:=Yx h4 h hn
 rw [r1,r2]
 rw [r2] at near
 generalize S5 (As b*2^z*2^64)=w at *
 have w1:Em (4611686018427387904:Int) (w:Int)=true:=by rw [Es]; exact A1i (by omega)
 have w2:Dm .u64 (w:Int) (1:Int)=((w / 2:Nat):Int):=by rw [show (1:Int)=((1:Nat):Int) from rfl,Ro _ _ (by decide)]
 have w3:((E1 .u64 (w:Int) (1:Int))==(1:Int))=decide (w%2=1):=by
  rw [show E1 .u64 (w:Int) (1:Int)=((w%2^1:Nat):Int) from Jf 1 (by omega) (by decide),A1x,beq_iff_eq,A1o]
  omega
 have w4:Em (4611686018427387904:Int) ((w / 2:Nat):Int)=false:=by rw [Es]; exact A1m (by omega)
 have w5:Ab (Ab (Int.tdiv (Ay b-(z:Int)+2) 2)-32)=(Ay b-(z:Int)) / 2-33+2:=by
  have:Int.tdiv (Ay b-(z:Int)+2) 2=(Ay b-(z:Int)) / 2+1:=by
   rw [Int.tdiv_eq_ediv]
   split<;>omega
  rw [this,Am (x:=(Ay b-(z:Int)) / 2+1) (by omega) (by omega),Am (by omega) (by omega)]
  omega
 have w6:Ab (Ay b-(z:Int)+2)=Ay b-(z:Int)+2:=Am (by omega) (by omega)
 generalize hs:decide (w*w≠As b*2^z*2^64)=s at *
 have pre:El ((w / 2:Nat):Int) ((Ay b-(z:Int)) / 2-33+2) (bif s then true else decide (w%2=1))=true:=Ar.2 ⟨by omega,by omega,by omega,by omega,fun _=>.inl (by omega)⟩
 rw [show (2:Nat)=1+1 from rfl,root.Sqrt.Av,w1,A1h,w2,w3,w6,show (1:Nat)=0+1 from rfl,root.Sqrt.Av,w4,A1l,w5,pre,A1h]
 unfold E9 E8 F3 Q1
 rw [A1j,A1j,near,sq]
theorem root.Sqrt.known:root.Sqrt.Kn:=root.Sqrt.Ac (.cons Cu.B0.known (.cons root.Gt.known (.cons soft.Kind.known (.cons soft.Dj.known (.cons soft.Fy.known (.cons soft.Sign.known .nil)))))) fun a hp=>by
 obtain ⟨b,rfl,hb⟩:=Bm (x:=a) hp
 refine ⟨2,root.Sqrt.out [.i b],[],?_,Wk.Ha (.cons .int (.cons .int .nil))⟩
 show _=some (DV.tup [.int .u64 (F3 (b:Int)),.int .u8 (Q1 (b:Int))])
 have hk:A5 (b:Int)=(Ah b:Int):=rfl
 rw [root.Sqrt.ev,B5 hb,A1h,A1h,A1h,A1h,hk]
 by_cases h4:Ah b=4
 ·rw [h4,show (((4:Nat):Int)==(4:Int))=true from rfl,A1h]
  unfold F3 Q1
  rw [A1j,Uk h4]; rfl
 have k4:(((Ah b:Nat):Int)==(4:Int))=false:=by rw [A2c]; omega
 rw [k4,A1l]
 by_cases h0:Ah b=0
 ·rw [h0,show (((0:Nat):Int)==(0:Int))=true from rfl,A1h]
  unfold F3 Q1
  rw [A1j,M6 h4 (.inl h0)]; rfl
 have k0:(((Ah b:Nat):Int)==(0:Int))=false:=by rw [A2c]; omega
 rw [k0,A1l]
 by_cases hi:b=Dz
 ·rw [show (((b:Nat):Int)==(9218868437227405312:Int))=true by rw [hi]; rfl,A1h]
  unfold F3 Q1
  rw [A1j,M6 h4 (.inr hi)]; rfl
 have ki:(((b:Nat):Int)==(9218868437227405312:Int))=false:=by
  rw [A2c]; intro hh; refine hi (show b=9218868437227405312 from ?_); omega
 rw [ki,A1l]
 have hh:¬ (Ah b=0∨b=Dz):=by rintro (h | h); exact h0 h; exact hi h
 have hneg:D0 (b:Int)=Bk b:=rfl
 rw [hneg]
 cases hn:Bk b with
 | true =>
   rw [A1h]
   unfold F3 Q1
   rw [A1j,Uj h4 hh hn]; rfl
 | false =>
   rw [A1l]
   have hm:As b≠0:=fun hz=>by
    have h3:Ah b≠3:=fun h3=>by
     rcases H4 b with ⟨p,_,_⟩ | ⟨_,_,q⟩ | ⟨_,q,_⟩
     ·unfold As at hz
      rw [A13 (by omega)] at hz
      omega
     ·omega
     ·exact q h3
    exact hh (.inl ((G2 h3 h4).1 hz))
   have hM:=Ff b
   have hE:=D6 b
   have hl:(As b).log2≤52:=by have:=(A2x hm).2 (show As b<2^53 by omega); omega
   have e1:Bx (b:Int)=(As b:Int):=rfl
   have e2:Bi (b:Int)=Ay b:=rfl
   have l1:∀ z:Nat,(As b).log2+z=60∨(As b).log2+z=61→2^60≤As b*2^z∧As b*2^z<2^62:=by
    intro z hz
    have hlz:=Lw (As b) z hm
    have hne:As b*2^z≠0:=Hy hm
    constructor
    ·rw [← Nat.le_log2 hne]; omega
    ·rw [← A2x hne]; omega
   have ez:Ab ((64-(((As b).log2:Int)+1))-(2:Int))=((61-(As b).log2:Nat):Int):=by rw [Am (by omega) (by omega)]; omega
   have ez':Ab (((61-(As b).log2:Nat):Int)-(1:Int))=((60-(As b).log2:Nat):Int):=by rw [Am (by omega) (by omega)]; omega
   rw [e1,e2,B5 (n:=As b) (by omega),A1h,Z4 hm,ez,ez',Am (x:=Ay b-((61-(As b).log2:Nat):Int)) (by omega) (by omega),Am (x:=Ay b-((60-(As b).log2:Nat):Int)) (by omega) (by omega)]
   by_cases hp2:(Ay b-((61-(As b).log2:Nat):Int))%2=0
   ·have t0:(Int.tmod (Ay b-((61-(As b).log2:Nat):Int)) (2:Int) !=(0:Int))=false:=by
     rw [bne_eq_false_iff_eq]; exact Int.tmod_eq_zero_of_dvd (Int.dvd_of_emod_eq_zero hp2)
    obtain ⟨m1,m2⟩:=l1 (61-(As b).log2) (by omega)
    rw [t0,A1l,A1i (by omega),A1h,Fu _ _ (by omega),A1u (by omega),Ar.2 (by omega),A1h]
    exact root.Sqrt.num hb h4 hh hn m1 m2 hp2 (by omega)
   ·have t0:(Int.tmod (Ay b-((61-(As b).log2:Nat):Int)) (2:Int) !=(0:Int))=true:=by
     rw [bne_iff_ne]; intro hz; exact hp2 (Int.emod_eq_zero_of_dvd (Int.dvd_of_tmod_eq_zero hz))
    obtain ⟨m1,m2⟩:=l1 (60-(As b).log2) (by omega)
    rw [t0,A1h,A1i (by omega),A1h,Fu _ _ (by omega),A1u (by omega),Ar.2 (by omega),A1h]
    exact root.Sqrt.num hb h4 hh hn m1 m2 (by omega) (by omega)
theorem Ad.Sqrt.known:Ad.Sqrt.Kn:=Ad.Sqrt.Ac (.cons root.Sqrt.known .nil) fun a hp=>by
 have hp:Af a=true:=hp
 refine ⟨0,Ad.Sqrt.out [.i a],[],?_,.int⟩
 rw [Ad.Sqrt.ev,hp]; rfl
theorem compare.Ku.known:compare.Ku.Kn:=compare.Ku.Ac (.cons Cu.Kq.known (.cons soft.Finite.known (.cons soft.Kind.known (.cons soft.Fy.known .nil)))) fun a hp=>by
 obtain ⟨b,rfl,hb⟩:=Bm (x:=a) hp
 refine ⟨0,compare.Ku.out [.i b],[],?_,.int⟩
 show _=some (DV.int .i64 (Bs (b:Int)))
 have hk:A5 (b:Int)=(Ah b:Int):=rfl
 have hf:Ck (b:Int)=Ig b:=rfl
 have hE:=D6 b
 have hM:=Ff b
 rw [compare.Ku.ev,B5 hb,A1h,A2t,A1h,hk,hf]
 unfold Bs
 rw [A1j]
 unfold Me
 cases hfin:Ig b with
 | false=>rfl
 | true =>
   by_cases h0:Ah b=0
   ·rw [h0]; rfl
   ·have k0:(((Ah b:Nat):Int)==(0:Int))=false:=by rw [A2c]; omega
    have hm:As b≠0:=fun hz=>by
     obtain ⟨f4,f3⟩:=I3 hfin
     exact h0 ((G2 f3 f4).1 hz)
    have hl:(As b).log2≤52:=by have:=(A2x hm).2 (show As b<2^53 by omega); omega
    have e1:Bx (b:Int)=(As b:Int):=rfl
    have e2:Bi (b:Int)=Ay b:=rfl
    rw [k0,A14 ⟨rfl,h0⟩,A2g,Bool.false_or,A1l,A1h,e1,e2,B5 (n:=As b) (by omega),A1h,Z4 hm,Am (x:=((As b).log2:Int)+1-1) (by omega) (by omega),Am (by omega) (by omega)]
    congr 2; omega
theorem Afq {x:List Int} {i:Nat} (h:i<x.length) (k s:Int):Ui k s (x.drop i)=Ui k (Fg s (C5 (Bp (x.getD i 0) k) (Bp (x.getD i 0) k))) (x.drop (i+1)):=by
 rw [Hi h,Ui]
theorem Amy (N:Nat) {x:List Int} (hx:Cp x=true) (hl:x.length≤1000):∀ (k i F:Nat) (s:Int),i+k=x.length→k<F→Af s=true →
 Ad.Norm.L0 N F x s (i:Int)=some (.tup [.int .u64 (Bp (F3 (Ui (-Bs (Bg x)) s (x.drop i))) (Bs (Bg x))),.int .i64 0]):=by
 obtain ⟨_,hu⟩:=Iq hx
 have he:=Aam (Bg x)
 intro k
 induction k with
 | zero =>
   intro i F s hi hF hs
   obtain ⟨F,rfl⟩:∃ G,F=G+1:=⟨F-1,by omega⟩
   rw [Ad.Norm.Av,Au,A1m (by omega),A1l,hs,A1h,show Di (F3 s) (Bs (Bg x))=true from Ae.2 ⟨Adm hs,Ar.2 (by omega)⟩,A1h,A1v (by omega)]
   rfl
 | succ k ih =>
   intro i F s hi hF hs
   obtain ⟨F,rfl⟩:∃ G,F=G+1:=⟨F-1,by omega⟩
   rw [Ad.Norm.Av,Au,A1i (show (i:Int)<(x.length:Int) by omega),A1h,A1i (show (0:Int)≤(i:Int) by omega),A1n,A1h,A1j,Am (x:=0-Bs (Bg x)) (by omega) (by omega),show (0:Int)-Bs (Bg x)=-Bs (Bg x) by omega,
    show Di (getD x i 0) (-Bs (Bg x))=true from Ae.2 ⟨hu i (by omega),Ar.2 (by omega)⟩,A1h,Hd (hu i (by omega)),A1n,A1h,hs,Io,A1n,A1h,Afq (by omega),Am (by omega) (by omega)]
   exact ih (i+1) F _ (by omega) (by omega) (Aj4 hs (Io _ _))
theorem Ad.Norm.known:Ad.Norm.Kn:=Ad.Norm.Ac (.cons compare.Ku.known (.cons soft.Finite.known (.cons Ad.Add.known (.cons Ad.Bq.known (.cons Ad.Mul.known (.cons Ad.Br.known (.cons Ad.Sqrt.known .nil))))))) fun x hp=>by
 obtain ⟨hx,hl⟩:=Ae.1 (show (Cp x&&Cz (length x≤64))=true from hp)
 have hl:=Ar.1 hl
 refine ⟨65,Ad.Norm.out [.l x],[],?_,Wk.Ha (.cons .int (.cons .int .nil))⟩
 show _=some (DV.tup [.int .u64 (Da x),.int .i64 0])
 rw [Ad.Norm.ev,Au,A1m (by omega),A1l,hx,A1h,Oy,A2t,A1h]
 unfold Da
 by_cases h:Bg x=0∨Ck (Bg x)=false
 ·have:((Bg x==(0:Int))||(!(Ck (Bg x))))=true:=by
   rcases h with h | h
   ·rw [h]; rfl
   ·rw [h,A20,A2t]
  rw [this,A1h,A14 h]
 ·have:((Bg x==(0:Int))||(!(Ck (Bg x))))=false:=by
   rw [Bool.or_eq_false_iff,A2c,Bool.not_eq_false']
   refine ⟨fun h0=>h (.inl h0),?_⟩
   cases hf:Ck (Bg x) with
   | true=>rfl
   | false=>exact absurd (.inr hf) h
  rw [this,A1l,A1h,A13 h]
  exact Amy 65 hx (by omega) x.length 0 65 0 (by omega) (by omega) G7
end Go.Proofs.S1
end
