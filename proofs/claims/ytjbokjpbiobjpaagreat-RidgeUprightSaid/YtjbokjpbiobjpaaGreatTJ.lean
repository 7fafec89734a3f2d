/- A verified evaluator of the program's form and its use for this seat: S1EqBits6, S1EqTimes, S1PTimes, S1PTimesA, S1EqVec, S1PVec, S1EqMat, S1PMat, S1EqCmp, S1PCmp, S1PDiv, S1EqRoot, S1PRoot, S1PRootA, LdxL, S1EqLdx, S1PLdx, S1PLdxA, S1EqRef08, S1EqRef13, S1PRef08. -/
import Derived.Test.YtjbokjpbiobjpaaGreatTE
import Derived.Test.YtjbokjpbiobjpaaGreatTF
import Derived.Test.YtjbokjpbiobjpaaGreatTI
import Derived.Test.YtjbokjpbiobjpaaGreatTH
import Derived.Test.YtjbokjpbiobjpaaGreatTG
set_option linter.unusedVariables false
set_option linter.unusedSimpArgs false
noncomputable section
open Int (toNat)
open List (length getD)
open Go.Proofs.Tryz
namespace Go.Proofs.S1
open Go Go.Den Go.Cv Go.Proofs
set_option maxRecDepth 100000
namespace EqBits6
def C1.Bw.Bf:List (Nat × Entry):=[(261,C1.Mg.spec)]
def C1.Bw.E:Env:=Bk (Be C1.Bw.Bf) (fun _=>false) (fun _=>none) (fun _=>none)
theorem C1.Bw.ev (N:Nat) (x:Int):B6 C1.Bw.E N f250 (As f250) [.int .u64 x]=bif (Al x) then some (.int .i64 (Ad ((64:Int)-(Fk x)))) else none:=by kernel_rfl
abbrev _root_.Go.Proofs.S1.C1.Bw.Kn:=A9 prog 250 C1.Bw.spec
theorem C1.Bw.Ae (hk:A3 prog C1.Bw.Bf) (h:Hyp C1.Bw.E f250 C1.Bw.ts C1.Bw.pre C1.Bw.out):C1.Bw.Kn :=
 Am (A5 hk _ _ _) func250 (by kernel_rfl) (by kernel_rfl) h
def C1.H3.Bf:List (Nat × Entry):=[]
def C1.H3.E:Env:=Bk (Be C1.H3.Bf) (fun _=>false) (fun _=>none) (fun _=>none)
theorem C1.H3.ev (N:Nat) (x y:Int):B6 C1.H3.E N f237 (As f237) [.int .u64 x,.int .u64 y]=some (.tup [.int .u64 (Bj ((Bj ((Bj ((Eb .u64 x 32)*(Eb .u64 y 32)))+(Eb .u64 (Bj ((Bj ((Eb .u64 x 32)*(Hd .u64 y 4294967295)))+(Eb .u64 (Bj ((Hd .u64 x 4294967295)*(Hd .u64 y 4294967295))) 32))) 32)))+(Eb .u64 (Bj ((Hd .u64 (Bj ((Bj ((Eb .u64 x 32)*(Hd .u64 y 4294967295)))+(Eb .u64 (Bj ((Hd .u64 x 4294967295)*(Hd .u64 y 4294967295))) 32))) 4294967295)+(Bj ((Hd .u64 x 4294967295)*(Eb .u64 y 32))))) 32))),.int .u64 (Bj (x*y))]):=by kernel_rfl
abbrev _root_.Go.Proofs.S1.C1.H3.Kn:=A9 prog 237 C1.H3.spec
theorem C1.H3.Ae (hk:A3 prog C1.H3.Bf) (h:Hyp C1.H3.E f237 C1.H3.ts C1.H3.pre C1.H3.out):C1.H3.Kn :=
 Am (A5 hk _ _ _) func237 (by kernel_rfl) (by kernel_rfl) h
abbrev _root_.Go.Proofs.S1.C1.Mg.Kn:Prop:=A9 prog 261 C1.Mg.spec
theorem _root_.Go.Proofs.S1.C1.Mg.call:∀ (args:Array Value) (w:World),(callFunc 261 args).run prog w=.ok (.enter 261 args) w:=R7 func261 (by kernel_rfl) (show f261.body=some (As f261) by kernel_rfl)
theorem _root_.Go.Proofs.S1.C1.Mg.run (x:Int) (w:World) (h0:0≤x) (h1:x≤18446744073709551615):Calls prog 261 #[.int .u64 x] w fun e w'=>e=.returned (.int .i64 (Lib.bitLen x.toNat))∧w'=w:=Tryz.Am3 x w h0 h1
end EqBits6
open Go Go.Den Go.Cv Go.Proofs
set_option maxRecDepth 100000
namespace EqTimes
def times.signed.Bf:List (Nat × Entry):=[(233,soft.Gw.spec)]
def times.signed.E:Env:=Bk (Be times.signed.Bf) (fun _=>false) (fun _=>none) (fun _=>none)
theorem times.signed.ev (N:Nat) (b:Int) (n:Bool):B6 times.signed.E N f235 (As f235) [.int .u64 b,.bool n]=bif n then bif (Al b) then some (.int .u64 (Eh b)) else none else some (.int .u64 b):=by kernel_rfl
abbrev _root_.Go.Proofs.S1.times.signed.Kn:=A9 prog 235 times.signed.spec
theorem times.signed.Ae (hk:A3 prog times.signed.Bf) (h:Hyp times.signed.E f235 times.signed.ts times.signed.pre times.signed.out):times.signed.Kn :=
 Am (A5 hk _ _ _) func235 (by kernel_rfl) (by kernel_rfl) h
def times.nan.Bf:List (Nat × Entry):=[(155,soft.Kind.spec)]
def times.nan.E:Env:=Bk (Be times.nan.Bf) (fun _=>false) (fun _=>none) (fun _=>none)
theorem times.nan.ev (N:Nat) (a b:Int):B6 times.nan.E N f234 (As f234) [.int .u64 a,.int .u64 b]=bif (Al a) then bif ((A7 a)==(4:Int)) then some (.bool true) else bif (Al b) then bif ((A7 b)==(4:Int)) then some (.bool true) else some (.bool false) else none else none:=by kernel_rfl
abbrev _root_.Go.Proofs.S1.times.nan.Kn:=A9 prog 234 times.nan.spec
theorem times.nan.Ae (hk:A3 prog times.nan.Bf) (h:Hyp times.nan.E f234 times.nan.ts times.nan.pre times.nan.out):times.nan.Kn :=
 Am (A5 hk _ _ _) func234 (by kernel_rfl) (by kernel_rfl) h
def times.norm.Bf:List (Nat × Entry):=[(250,C1.Bw.spec),(211,soft.Gh.spec)]
def times.norm.E:Env:=Bk (Be times.norm.Bf) (fun _=>false) (fun _=>none) (fun _=>none)
theorem times.norm.ev (N:Nat) (b:Int):B6 times.norm.E N f236 (As f236) [.int .u64 b]=bif (Al b) then bif (Al (Bu b)) then bif (decide (0≤(Ad ((64-Fk (Bu b))-11)))) then some (.tup [.int .u64 (B7 .u64 (Bu b) (Ad ((64-Fk (Bu b))-11))),.int .i64 (Ad ((Bi b)-(Ad ((64-Fk (Bu b))-11))))]) else none else none else none:=by kernel_rfl
abbrev _root_.Go.Proofs.S1.times.norm.Kn:=A9 prog 236 times.norm.spec
theorem times.norm.Ae (hk:A3 prog times.norm.Bf) (h:Hyp times.norm.E f236 times.norm.ts times.norm.pre times.norm.out):times.norm.Kn :=
 Am (A5 hk _ _ _) func236 (by kernel_rfl) (by kernel_rfl) h
def times.wide.hint:Nat→Option Bh
 | 0=>some { keep:=[0,1,2,3],objs:=[],boxes:=[] }
 | _=>none
def times.wide.Bf:List (Nat × Entry):=[(212,soft.Dn.spec)]
def times.wide.E:Env:=Bk (Be times.wide.Bf) (fun _=>false) times.wide.hint (fun _=>none)
section
variable (N M:Nat) (n:Bool) (m e:Int) (r:Bool) (p1 p2:Int) (p3:Bool)
def times.wide.L0:Option DV:=Cd times.wide.E N f238 (As f238) [1,0,0] [] M ⟨Il 39 [(0,.bool n),(1,.int .u64 p1),(2,.int .i64 p2),(3,.bool p3)],[]⟩
theorem times.wide.A1:times.wide.L0 N (M+1) n p1 p2 p3=bif ((Bc p2 (-1130:Int))&&(Bc 1 p1)) then times.wide.L0 N M n (Eb .u64 p1 1) (Ad (p2+1)) (bif p3 then true else ((Hd .u64 p1 1)==(1:Int))) else bif (Bc p2 (-1130:Int)) then bif (E0 0 (-1074:Int) true) then some (.tup [.int .u64 (Fj n 0 (-1074:Int) true),.int .u8 (Fi n 0 (-1074:Int) true)]) else none else bif (E0 p1 p2 p3) then some (.tup [.int .u64 (Fj n p1 p2 p3),.int .u8 (Fi n p1 p2 p3)]) else none :=
 Eq.trans (by kernel_rfl)
 (Ay (Sy (Bc p2 (-1130:Int))) (Ay (O4 (Bc p2 (-1130:Int))) (Ay (Zb (Bc p2 (-1130:Int))) (C5 (tt1 _ _) (Ay (Za p3) (Ay (Vh p3) (Ay (Vh p3) (Ay (tt6 p3) rfl)))) rfl))))
theorem times.wide.ev:B6 times.wide.E N f238 (As f238) [.bool n,.int .u64 m,.int .i64 e,.bool r] =
 times.wide.L0 N N n m e r:=by kernel_rfl
end
abbrev _root_.Go.Proofs.S1.times.wide.Kn:=A9 prog 238 times.wide.spec
theorem times.wide.Ae (hk:A3 prog times.wide.Bf) (h:Hyp times.wide.E f238 times.wide.ts times.wide.pre times.wide.out):times.wide.Kn :=
 Am (A5 hk _ _ _) func238 (by kernel_rfl) (by kernel_rfl) h
def times.Mul.Bf:List (Nat × Entry):=[(237,C1.H3.spec),(155,soft.Kind.spec),(213,soft.Sign.spec),(234,times.nan.spec),(236,times.norm.spec),(235,times.signed.spec),(238,times.wide.spec)]
def times.Mul.E:Env:=Bk (Be times.Mul.Bf) (fun _=>false) (fun _=>none) (fun _=>none)
theorem times.Mul.ev (N:Nat) (a b:Int):B6 times.Mul.E N f208 (As f208) [.int .u64 a,.int .u64 b]=bif (Al a) then bif (Al b) then bif (Al a) then bif (Al b) then bif (Al a&&Al b) then bif (Auk a b) then some (.tup [.int .u64 9221120237041090560,.int .u8 0]) else bif ((((A7 a)==(3:Int))&&((A7 b)==(0:Int)))||(((A7 a)==(0:Int))&&((A7 b)==(3:Int)))) then some (.tup [.int .u64 9221120237041090560,.int .u8 16]) else bif (((A7 a)==(3:Int))||((A7 b)==(3:Int))) then bif (Al 9218868437227405312) then some (.tup [.int .u64 (U3 (!((Em a)==(Em b))) 9218868437227405312),.int .u8 0]) else none else bif (((A7 a)==(0:Int))||((A7 b)==(0:Int))) then bif (Al 0) then some (.tup [.int .u64 (U3 (!((Em a)==(Em b))) 0),.int .u8 0]) else none else bif (Al a&&Oi a) then bif (Al b&&Oi b) then bif (Al (Dc a)&&Al (Dc b)) then bif (Re (J8 .u64 (B7 .u64 (U6 (Dc a) (Dc b)) 20) (Eb .u64 (P3 (Dc a) (Dc b)) 44)) (Ad ((Ad ((Ia a)+(Ia b)))+44))) then some (.tup [.int .u64 (Fj (!((Em a)==(Em b))) (J8 .u64 (B7 .u64 (U6 (Dc a) (Dc b)) 20) (Eb .u64 (P3 (Dc a) (Dc b)) 44)) (Ad ((Ad ((Ia a)+(Ia b)))+44)) ((B7 .u64 (P3 (Dc a) (Dc b)) 20) !=(0:Int))),.int .u8 (Fi (!((Em a)==(Em b))) (J8 .u64 (B7 .u64 (U6 (Dc a) (Dc b)) 20) (Eb .u64 (P3 (Dc a) (Dc b)) 44)) (Ad ((Ad ((Ia a)+(Ia b)))+44)) ((B7 .u64 (P3 (Dc a) (Dc b)) 20) !=(0:Int)))]) else none else none else none else none else none else none else none else none else none :=
 Eq.trans (by kernel_rfl)
 (Fg (Fg (Fg (Fg (Fg (Fg rfl (Ay (Sy ((A7 a)==(3:Int))) (Ay (O4 ((A7 a)==(3:Int))) (Ay (Zb ((A7 a)==(3:Int))) (Ay (A4a ((A7 a)==(3:Int)) ((A7 b)==(0:Int))) (Ay (Axp ((A7 a)==(3:Int)) ((A7 b)==(0:Int))) (Ay (Axp ((A7 a)==(3:Int)) ((A7 b)==(0:Int))) (Ay (A4b ((A7 a)==(3:Int)) ((A7 b)==(0:Int)) ((A7 a)==(0:Int))) (Ay (A4c ((A7 a)==(3:Int)) ((A7 b)==(0:Int)) ((A7 a)==(0:Int))) (Ay (A4d ((A7 a)==(3:Int)) ((A7 b)==(0:Int)) ((A7 a)==(0:Int))) (Ay (A4e ((A7 a)==(3:Int)) ((A7 b)==(0:Int))) (C5 (A4f _ _ _ _) rfl (Ay (Za ((A7 a)==(3:Int))) (Ay (Vh ((A7 a)==(3:Int))) (Ay (tt6 ((A7 a)==(3:Int))) (C5 (tt5 _ _) rfl (Ay (Za ((A7 a)==(0:Int))) (Ay (Vh ((A7 a)==(0:Int))) (Ay (tt6 ((A7 a)==(0:Int))) (C5 (tt5 _ _) rfl rfl)))))))))))))))))))) rfl) rfl) rfl) rfl) rfl)
abbrev _root_.Go.Proofs.S1.times.Mul.Kn:=A9 prog 208 times.Mul.spec
theorem times.Mul.Ae (hk:A3 prog times.Mul.Bf) (h:Hyp times.Mul.E f208 times.Mul.ts times.Mul.pre times.Mul.out):times.Mul.Kn :=
 Am (A5 hk _ _ _) func208 (by kernel_rfl) (by kernel_rfl) h
def times.Div.hint:Nat→Option Bh
 | 1=>some { keep:=[6,10,11,12,13,14,78],objs:=[],boxes:=[] }
 | _=>none
def times.Div.Bf:List (Nat × Entry):=[(155,soft.Kind.spec),(213,soft.Sign.spec),(234,times.nan.spec),(236,times.norm.spec),(235,times.signed.spec),(238,times.wide.spec)]
def times.Div.E:Env:=Bk (Be times.Div.Bf) (fun _=>false) times.Div.hint (fun _=>none)
section
variable (N M:Nat) (a b p13 p14 p78:Int)
def times.Div.L0:Option DV:=Cd times.Div.E N f209 (As f209) [1,1,1,1,1,1,1,0,1,0] [] M ⟨Il 104 [(6,.bool (!((Em a)==(Em b)))),(10,.int .i64 (Ia a)),(11,.int .u64 (Dc b)),(12,.int .i64 (Ia b)),(13,.int .u64 p13),(14,.int .u64 p14),(78,.int .i64 p78)],[]⟩
theorem times.Div.A1:times.Div.L0 N (M+1) a b p13 p14 p78=bif (Bc p78 61) then bif (E8 (Dc b) (B7 .u64 p14 1)) then times.Div.L0 N M a b (J8 .u64 (B7 .u64 p13 1) 1) (Bj ((B7 .u64 p14 1)-(Dc b))) (Ad (p78+1)) else times.Div.L0 N M a b (B7 .u64 p13 1) (B7 .u64 p14 1) (Ad (p78+1)) else bif (Re p13 (Ad ((Ad ((Ia a)-(Ia b)))-61))) then some (.tup [.int .u64 (Fj (!((Em a)==(Em b))) p13 (Ad ((Ad ((Ia a)-(Ia b)))-61)) (p14 !=(0:Int))),.int .u8 (Fi (!((Em a)==(Em b))) p13 (Ad ((Ad ((Ia a)-(Ia b)))-61)) (p14 !=(0:Int)))]) else none:=by kernel_rfl
theorem times.Div.ev:B6 times.Div.E N f209 (As f209) [.int .u64 a,.int .u64 b]=bif (Al a) then bif (Al b) then bif (Al a) then bif (Al b) then bif (Al a&&Al b) then bif (Auk a b) then some (.tup [.int .u64 9221120237041090560,.int .u8 0]) else bif ((((A7 a)==(3:Int))&&((A7 b)==(3:Int)))||(((A7 a)==(0:Int))&&((A7 b)==(0:Int)))) then some (.tup [.int .u64 9221120237041090560,.int .u8 16]) else bif ((A7 a)==(3:Int)) then bif (Al 9218868437227405312) then some (.tup [.int .u64 (U3 (!((Em a)==(Em b))) 9218868437227405312),.int .u8 0]) else none else bif (((A7 b)==(3:Int))||((A7 a)==(0:Int))) then bif (Al 0) then some (.tup [.int .u64 (U3 (!((Em a)==(Em b))) 0),.int .u8 0]) else none else bif ((A7 b)==(0:Int)) then bif (Al 9218868437227405312) then some (.tup [.int .u64 (U3 (!((Em a)==(Em b))) 9218868437227405312),.int .u8 8]) else none else bif (Al a&&Oi a) then bif (Al b&&Oi b) then bif ((Dc b) !=0) then bif ((Dc b) !=0) then times.Div.L0 N N a b (Bj (Int.tdiv (Dc a) (Dc b))) (Int.tmod (Dc a) (Dc b)) (0:Int) else none else none else none else none else none else none else none else none else none :=
 Eq.trans (by kernel_rfl)
 (Fg (Fg (Fg (Fg (Fg (Fg rfl (Ay (Sy ((A7 a)==(3:Int))) (Ay (O4 ((A7 a)==(3:Int))) (Ay (Zb ((A7 a)==(3:Int))) (Ay (A4a ((A7 a)==(3:Int)) ((A7 b)==(3:Int))) (Ay (Axp ((A7 a)==(3:Int)) ((A7 b)==(3:Int))) (Ay (Axp ((A7 a)==(3:Int)) ((A7 b)==(3:Int))) (Ay (A4b ((A7 a)==(3:Int)) ((A7 b)==(3:Int)) ((A7 a)==(0:Int))) (Ay (A4c ((A7 a)==(3:Int)) ((A7 b)==(3:Int)) ((A7 a)==(0:Int))) (Ay (A4d ((A7 a)==(3:Int)) ((A7 b)==(3:Int)) ((A7 a)==(0:Int))) (Ay (A4e ((A7 a)==(3:Int)) ((A7 b)==(3:Int))) (C5 (A4f _ _ _ _) rfl (Fg rfl (Ay (Za ((A7 b)==(3:Int))) (Ay (Vh ((A7 b)==(3:Int))) (Ay (tt6 ((A7 b)==(3:Int))) (C5 (tt5 _ _) rfl (Fg rfl (Fg (Fg (C5 (Cn _) (C5 (Cn _) rfl rfl) rfl) rfl) rfl))))))))))))))))))) rfl) rfl) rfl) rfl) rfl)
end
abbrev _root_.Go.Proofs.S1.times.Div.Kn:=A9 prog 209 times.Div.spec
theorem times.Div.Ae (hk:A3 prog times.Div.Bf) (h:Hyp times.Div.E f209 times.Div.ts times.Div.pre times.Div.out):times.Div.Kn :=
 Am (A5 hk _ _ _) func209 (by kernel_rfl) (by kernel_rfl) h
end EqTimes
open Go Go.Den Go.Cv Go.Proofs
open EqBits6 EqTimes
theorem Akd {n:Nat} (h0:n≠0) (h:n<2^64):Go.Lib.bitLen n=n.log2+1:=by
 have h1:=Nat.log2_self_le h0
 have h2:=Nat.lt_log2_self (n:=n)
 have hp:=B5 n.log2
 have e:n / 2^n.log2=1:=by
  rw [Nat.pow_succ] at h2
  exact Nat.div_eq_of_lt_le (by omega) (by omega)
 have e1:Go.Lib.bitLen 1=1:=by decide
 rw [Go.Lib.bitLen_shift n.log2 n h1 h,e,e1]
theorem C1.Mg.known:C1.Mg.Kn:=by
 refine ⟨?_,C1.Mg.call⟩
 intro args ha
 simp only [C1.Mg.spec,entry] at ha ⊢
 cases hd:Oo [.i .u64] args with
 | none=>rw [hd] at ha; cases ha
 | some ats =>
   rw [hd] at ha
   simp only at ha ⊢
   obtain ⟨ds,h1,h2⟩:=On hd
   obtain ⟨x,_,_,rfl,rfl,he⟩:=h1.Avf
   obtain ⟨rfl,rfl⟩:=he.Aas
   obtain ⟨n,rfl,hn⟩:=Ca (x:=x) ha
   refine Qs.args ?_ h2
   intro w vals I hI hv
   obtain ⟨u,us,e1,e2,e3⟩:=hv
   simp only [Ap] at e2
   have e3:us=[]:=e3
   subst e2 e3
   have e4:vals=#[.int .u64 (n:Int)]:=Array.ext' e1
   subst e4
   refine (C1.Mg.run n w (by omega) (by omega)).mono ?_
   rintro e w' ⟨rfl,rfl⟩
   refine ⟨_,fun _=>none,rfl,Go.RowKit.Below.refl _ _,⟨fun i b h=>(by cases h),fun i j b h=>(by cases h)⟩,?_⟩
   show Ap _ _ (DV.int .i64 (Fk n)) _
   simp only [Ap]
   congr 1
   unfold Fk
   rw [A79]
   by_cases h0:n=0
   ·subst h0; rfl
   ·rw [Akd h0 hn,A8t (by omega)]; rfl
theorem Au6 {n:Nat} (hn:n<2^64):0≤Fk n∧Fk n≤64:=by
 unfold Fk
 rw [A79]
 by_cases h0:n=0
 ·subst h0; decide
 ·have:=(A9n h0).2 hn
  rw [A8t (by omega)]; omega
theorem C1.Bw.known:C1.Bw.Kn:=C1.Bw.Ae (.cons C1.Mg.known .nil) fun x hp=>by
 obtain ⟨n,rfl,hn⟩:=Ca (x:=x) hp
 have:=Au6 hn
 refine ⟨0,C1.Bw.out [.i n],[],?_,.int⟩
 rw [C1.Bw.ev,Co hn,A77,Ar (by omega) (by omega)]
 rfl
theorem K9 {a b:Nat} (ha:a<4294967296) (hb:b<4294967296):a*b≤18446744065119617025 :=
 A9e (A83 (show a≤4294967295 by omega) (show b≤4294967295 by omega)) (by decide)
theorem Aup (x y:Nat) (hx:x<2^64) (hy:y<2^64) :
 x*y / 18446744073709551616=(x / 2^32)*(y / 2^32)+((x / 2^32)*(y%2^32)+(x%2^32)*(y%2^32) / 2^32) / 2^32 +
  (((x / 2^32)*(y%2^32)+(x%2^32)*(y%2^32) / 2^32)%2^32+(x%2^32)*(y / 2^32)) / 2^32:=by
 have ex:x=x / 2^32*4294967296+x%2^32:=by omega
 have ey:y=y / 2^32*4294967296+y%2^32:=by omega
 have ha:x / 2^32<4294967296:=by omega
 have hc:y / 2^32<4294967296:=by omega
 have hb:x%2^32<4294967296:=by omega
 have hd:y%2^32<4294967296:=by omega
 generalize x / 2^32=a at *
 generalize x%2^32=b at *
 generalize y / 2^32=c at *
 generalize y%2^32=d at *
 have e:x*y=a*c*18446744073709551616+(a*d+b*c)*4294967296+b*d:=by
  rw [ex,ey,A9b,Nat.mul_add,Nat.mul_add]
  have e1:a*4294967296*(c*4294967296)=a*c*18446744073709551616:=by
   rw [Nat.mul_mul_mul_comm]
  have e2:a*4294967296*d=a*d*4294967296:=Nat.mul_right_comm _ _ _
  have e3:b*(c*4294967296)=b*c*4294967296:=(A8y _ _ _).symm
  rw [e1,e2,e3]
  omega
 have b1:=K9 ha hc
 have b2:=K9 ha hd
 have b3:=K9 hb hc
 have b4:=K9 hb hd
 rw [e]
 clear e ex ey
 generalize a*c=p at *
 generalize a*d=q at *
 generalize b*c=r at *
 generalize b*d=s at *
 omega
theorem C1.H3.known:C1.H3.Kn:=C1.H3.Ae .nil fun x y hp=>by
 obtain ⟨h1,h2⟩:=Af.1 hp
 obtain ⟨x,rfl,hx⟩:=Ca h1
 obtain ⟨y,rfl,hy⟩:=Ca h2
 refine ⟨0,C1.H3.out [.i x,.i y],[],?_,Wk.Jp (.cons .int (.cons .int .nil))⟩
 show _=some (DV.tup [.int .u64 (U6 x y),.int .u64 (P3 x y)])
 have s32:∀ n:Nat,Eb .u64 (n:Int) (32:Int)=((n / 2^32:Nat):Int):=fun n=>Ir .u64 n 32 (by decide)
 have m32:∀ n:Nat,n<2^64→Hd .u64 (n:Int) (4294967295:Int)=((n%2^32:Nat):Int):=fun n hn=>Jz 32 hn (by decide)
 have ha:x / 2^32<4294967296:=by omega
 have hc:y / 2^32<4294967296:=by omega
 have hb:x%2^32<4294967296:=by omega
 have hd:y%2^32<4294967296:=by omega
 have b1:=K9 ha hc
 have b2:=K9 ha hd
 have b3:=K9 hb hc
 have b4:=K9 hb hd
 have hhi:=Aup x y hx hy
 have wn:∀ n:Nat,n<2^64→Bj (n:Int)=n:=fun n hn=>Dd (by omega) (by omega)
 have hlt:x*y / 18446744073709551616<2^64:=by
  rw [Nat.div_lt_iff_lt_mul (by decide)]
  have:=A83 (show x≤18446744073709551615 by omega) (show y≤18446744073709551615 by omega)
  omega
 rw [C1.H3.ev]
 simp only [s32,m32 x hx,m32 y hy]
 generalize hA:x / 2^32=a at *
 generalize hB:x%2^32=b at *
 generalize hC:y / 2^32=c at *
 generalize hD:y%2^32=d at *
 simp only [← A8s]
 rw [wn (a*c) (by omega),wn (a*d) (by omega),wn (b*c) (by omega),wn (b*d) (by omega),s32]
 simp only [← Int.natCast_add]
 rw [wn (a*d+b*d / 2^32) (by omega),s32,m32 _ (by omega)]
 simp only [← Int.natCast_add]
 rw [wn (a*c+(a*d+b*d / 2^32) / 2^32) (by omega),wn _ (by omega),s32]
 simp only [← Int.natCast_add]
 rw [← hhi,wn _ hlt]
 unfold U6 P3
 rw [A79,A79,Wb]
 congr 3
theorem times.signed.known:times.signed.Kn:=times.signed.Ae (.cons soft.Gw.known .nil) fun b n hp=>by
 have hp:Al b=true:=hp
 refine ⟨0,times.signed.out [.i b,.b n],[],?_,.int⟩
 rw [times.signed.ev,hp]
 cases n<;>rfl
theorem times.nan.known:times.nan.Kn:=times.nan.Ae (.cons soft.Kind.known .nil) fun a b hp=>by
 obtain ⟨ha,hb⟩:=Af.1 hp
 refine ⟨0,times.nan.out [.i a,.i b],[],?_,.bool⟩
 rw [times.nan.ev,ha,hb,A77,A77]
 show _=some (DV.bool (decide (A7 a=4)||decide (A7 b=4)))
 by_cases h1:A7 a=4
 ·rw [h1]; rfl
 ·have e1:(A7 a==(4:Int))=false:=by simp; exact h1
  rw [e1,A8c h1,A8b]
  by_cases h2:A7 b=4
  ·rw [h2]; rfl
  ·have e2:(A7 b==(4:Int))=false:=by simp; exact h2
   rw [e2,A8c h2]; rfl
theorem Q2 {n:Nat} (h:An n≠0):(An n).log2≤52∧2^52≤An n*2^Ck n∧An n*2^Ck n<2^53∧Ck n≤52:=by
 have h1:=Fx n
 have h2:(An n).log2<53:=(A9n h).2 (by omega)
 have hz:=Pe (An n) (Ck n) h
 have hne:An n*2^Ck n≠0:=Kt h
 have hl:(An n*2^Ck n).log2=52:=by rw [hz]; unfold Ck; omega
 refine ⟨by omega,?_,?_,by unfold Ck; omega⟩
 ·rw [← Nat.le_log2 hne]; omega
 ·rw [← A9n hne]; omega
theorem times.norm.known:times.norm.Kn:=times.norm.Ae (.cons C1.Bw.known (.cons soft.Gh.known .nil)) fun b hp=>by
 obtain ⟨h1,h2⟩:=Af.1 hp
 obtain ⟨n,rfl,hn⟩:=Ca h1
 have h2:An n≠0:=Ao.1 h2
 obtain ⟨l1,l2,l3,l4⟩:=Q2 h2
 have hM:=Fx n
 have hE:=Cu n
 refine ⟨0,times.norm.out [.i n],[],?_,Wk.Jp (.cons .int (.cons .int .nil))⟩
 show _=some (DV.tup [.int .u64 (Dc n),.int .i64 (Ia n)])
 have e1:Bu (n:Int)=(An n:Int):=rfl
 have e2:Bi (n:Int)=Av n:=rfl
 have e3:Fk (An n:Int)=((An n).log2:Int)+1:=by
  unfold Fk
  rw [A8t (by omega),A79]
 have e4:Ad ((64-(((An n).log2:Int)+1))-(11:Int))=((Ck n:Nat):Int):=by
  rw [Ar (by omega) (by omega)]; unfold Ck; omega
 rw [times.norm.ev,Co hn,e1,e2,Co (n:=An n) (by omega),e3,e4,Gv _ _ (by omega),A8k (by omega),Ar (by omega) (by omega),A78 (by omega)]
 rfl
theorem As3 {V t:Nat} {E:Int} (h0:V≠0) (h:V<2^t) (hE:E+t≤-1075):B1 V E=0∧flagsOf V E=3:=by
 have hl:V.log2<t:=(A9n h0).2 h
 have hL:Bz V E=-1074:=by unfold Bz; omega
 obtain ⟨k,hk⟩:∃ k:Nat,(-1074-E).toNat=t+1+k:=⟨(-1074-E).toNat-t-1,by omega⟩
 have hp:2^(t+1)≤2^(t+1+k):=A8m (by decide) (by omega)
 have ht:2^(t+1)=2*2^t:=by rw [Nat.pow_succ]; omega
 have e2:(-(-1074-E)).toNat=0:=by omega
 have hr:J1 V (-1074-E)=0:=by
  unfold J1 Jt
  rw [e2,hk,A85,A9g,Nat.div_eq_of_lt (by omega),A8k (by omega),A8t (by omega)]
 have hru:B1 V E=0:=by
  unfold B1 kept
  rw [A8t h0,hL,hr]
  simp
 refine ⟨hru,?_⟩
 unfold flagsOf exact O2
 rw [A8t h0,hru,hL,e2,hk,A85,A9g,A8k (by omega),A8c h0]
 decide
theorem Aql (n:Bool) {m:Nat} {e:Int} (r:Bool) (hm:1<m) (he:e < -1130):He n (m / 2) (e+1) (r||decide (m%2=1))=He n m e r:=by
 have e1:(4*m+r.toNat) / 2^3=m / 2:=by cases r<;>simp<;>omega
 have e2:(r||decide (m%2=1))=decide ((4*m+r.toNat)%2^3≠0):=by
  rw [A8n]
  cases r
  ·simp; omega
  ·simp; omega
 have:=W1 n (V:=4*m+r.toNat) (k:=3) (E:=e-2) (e:=e+1) (s:=r||decide (m%2=1)) (by omega) e2 (by omega) (.inr (by omega))
 rw [e1] at this
 exact this
theorem W0 (n:Bool) {e:Int} (r:Bool) (he:e < -1130):He n 1 e r=He n 0 (-1074) true:=by
 have h1:r.toNat≤1:=by cases r<;>decide
 obtain ⟨a1,a2⟩:=As3 (V:=4*1+r.toNat) (t:=3) (E:=e-2) (by omega) (by omega) (by omega)
 obtain ⟨b1,b2⟩:=As3 (V:=4*0+true.toNat) (t:=1) (E:=-1074-2) (by decide) (by decide) (by decide)
 unfold He
 rw [a1,a2,b1,b2]
theorem Ao9 (N:Nat) (n:Bool):∀ (k m:Nat) (e:Int) (r:Bool),1≤m→m<2^62→m≤2^k→-7000≤e→e≤6000→(2^60≤m∨e≤-1130) →
 times.wide.L0 N (k+1) n (m:Int) e r=some (.tup [.int .u64 (((He n m e r).1:Nat):Int),.int .u8 (((He n m e r).2:Nat):Int)]):=by
 intro k
 induction k with
 | zero =>
   intro m e r h1 h2 h3 h4 h5 h6
   have hm:m=1:=by simp at h3; omega
   subst hm
   rw [times.wide.A1,Aw,Aw]
   have c1:decide ((1:Int)<((1:Nat):Int))=false:=by decide
   rw [c1,Bool.and_false,A8b]
   by_cases he:e < -1130
   ·have hp:E0 (0:Int) (-1074:Int) true=true:=Ao.2 (by omega)
    rw [A78 he,A77,hp,A77,W0 n r he]
    rfl
   ·have he:e=-1130:=by omega
    subst he
    have hp:E0 ((1:Nat):Int) (-1130:Int) r=true:=Ao.2 (by omega)
    rw [A8c (by omega),A8b,hp,A77]
    rfl
 | succ k ih =>
   intro m e r h1 h2 h3 h4 h5 h6
   rw [times.wide.A1,Aw,Aw]
   by_cases he:e < -1130
   ·by_cases hm:1<m
    ·have c1:decide ((1:Int)<(m:Int))=true:=A78 (by omega)
     have e1:Eb .u64 (m:Int) (1:Int)=((m / 2:Nat):Int):=Ir .u64 m 1 (by decide)
     have e2:Hd .u64 (m:Int) (1:Int)=((m%2:Nat):Int):=Jz (a:=m) 1 (by omega) (by decide)
     have e3:(bif r then true else (Hd .u64 (m:Int) (1:Int))==(1:Int))=(r||decide (m%2=1)):=by
      rw [e2]
      cases r
      ·rw [A8n]; simp; omega
      ·rfl
     rw [A78 he,c1,A8d,A77,e1,e3,Ar (by omega) (by omega)]
     have hk:m / 2≤2^k:=by rw [Nat.pow_succ] at h3; omega
     rw [ih (m / 2) (e+1) _ (by omega) (by omega) hk (by omega) (by omega) (.inr (by omega)),Aql n r hm he]
    ·have hm:m=1:=by omega
     subst hm
     have c1:decide ((1:Int)<((1:Nat):Int))=false:=by decide
     have hp:E0 (0:Int) (-1074:Int) true=true:=Ao.2 (by omega)
     rw [c1,Bool.and_false,A8b,A78 he,A77,hp,A77,W0 n r he]
     rfl
   ·have hp:E0 (m:Int) e r=true:=Ao.2 ⟨by omega,by omega,by omega,.inl (by omega),fun _=>by omega⟩
    rw [A8c he,Bool.false_and,A8b,A8b,hp,A77]
    rfl
theorem times.wide.known:times.wide.Kn:=times.wide.Ae (.cons soft.Dn.known .nil) fun n m e r hp=>by
 obtain ⟨h1,h2,h3,h4⟩:=Ao.1 (show Re m e=true from hp)
 obtain ⟨m,rfl⟩:∃ k:Nat,m=k:=⟨m.toNat,by omega⟩
 refine ⟨63,times.wide.out [.b n,.i m,.i e,.b r],[],?_,Wk.Jp (.cons .int (.cons .int .nil))⟩
 rw [times.wide.ev,Ao9 63 n 62 m e r (by omega) (by omega) (by omega) (by omega) (by omega) (.inl (by omega))]
 rfl
open Go Go.Den Go.Cv Go.Proofs
open EqTimes
theorem Qx {b:Nat} (h0:Aj b≠0) (h3:Aj b≠3) (h4:Aj b≠4):An b≠0:=by
 have:=Lv b
 unfold Aj at h0 h3 h4
 unfold An
 by_cases h1:D5 b=2047
 ·rw [A8u h1] at h3 h4
  by_cases h2:C9 b=0
  ·rw [A8u h2] at h3; exact absurd rfl h3
  ·rw [A8t h2] at h4; exact absurd rfl h4
 ·rw [A8t h1] at h0
  by_cases h2:0<D5 b
  ·rw [A8t (by omega)]; omega
  ·rw [A8t h2] at h0
   by_cases h5:0<C9 b
   ·rw [A8u (by omega)]; omega
   ·rw [A8t h5] at h0; exact absurd rfl h0
theorem Yj {b:Nat} (h0:Aj b=0):An b=0:=by
 unfold Aj at h0
 unfold An
 by_cases h1:D5 b=2047
 ·rw [A8u h1] at h0; split at h0<;>omega
 ·rw [A8t h1] at h0
  by_cases h2:0<D5 b
  ·rw [A8u h2] at h0; omega
  ·rw [A8t h2] at h0
   by_cases h5:0<C9 b
   ·rw [A8u h5] at h0; omega
   ·rw [A8u (by omega)]; omega
theorem Al1 {x y:Nat} (hx1:2^52≤x) (hx2:x<2^53) (hy1:2^52≤y) (hy2:y<2^53):2^104≤x*y∧x*y<2^106:=by
 have h1:=A83 hx1 hy1
 have h2:x*y<2^53*2^53:=Nat.mul_lt_mul'' hx2 hy2
 exact ⟨A9e (by decide) h1,A9i h2 (by decide)⟩
theorem Ayj {V:Nat} (h:V<2^106):J8 .u64 (B7 .u64 ((V / 18446744073709551616:Nat):Int) (20:Int)) (Eb .u64 ((V%18446744073709551616:Nat):Int) (44:Int))=((V / 2^44:Nat):Int):=by
 have e1:B7 .u64 ((V / 18446744073709551616:Nat):Int) (20:Int)=((V / 18446744073709551616*2^20%2^64:Nat):Int):=Gv _ 20 (by decide)
 have e2:Eb .u64 ((V%18446744073709551616:Nat):Int) (44:Int)=((V%18446744073709551616 / 2^44:Nat):Int):=Ir .u64 _ 44 (by decide)
 rw [e1,e2,A8k (by omega),Pn (k:=20) (by omega) (by omega)]
 congr 1
 omega
theorem Ayi {V:Nat}:((B7 .u64 ((V%18446744073709551616:Nat):Int) (20:Int)) !=(0:Int))=decide (V%2^44≠0):=by
 have e1:B7 .u64 ((V%18446744073709551616:Nat):Int) (20:Int)=((V%18446744073709551616*2^20%2^64:Nat):Int):=Gv _ 20 (by decide)
 rw [e1,A8n]
 simp only [bne_iff_ne,ne_eq,A8e]
 omega
theorem Agw (s t:Bool):(!(s==t))=(s !=t):=rfl
theorem w53 {x:Nat} (h:x<2^53):Al (x:Int)=true:=Co (by omega)
theorem Ayr (n:Bool) {a b:Nat} (ha:An a≠0) (hb:An b≠0) :
 (bif (Al (Dc a)&&Al (Dc b)) then
  bif (Re (J8 .u64 (B7 .u64 (U6 (Dc a) (Dc b)) (20:Int)) (Eb .u64 (P3 (Dc a) (Dc b)) (44:Int))) (Ad ((Ad ((Ia a)+(Ia b)))+(44:Int)))) then
   some (DV.tup [.int .u64 (Fj n (J8 .u64 (B7 .u64 (U6 (Dc a) (Dc b)) (20:Int)) (Eb .u64 (P3 (Dc a) (Dc b)) (44:Int))) (Ad ((Ad ((Ia a)+(Ia b)))+(44:Int))) ((B7 .u64 (P3 (Dc a) (Dc b)) (20:Int)) !=(0:Int))),.int .u8 (Fi n (J8 .u64 (B7 .u64 (U6 (Dc a) (Dc b)) (20:Int)) (Eb .u64 (P3 (Dc a) (Dc b)) (44:Int))) (Ad ((Ad ((Ia a)+(Ia b)))+(44:Int))) ((B7 .u64 (P3 (Dc a) (Dc b)) (20:Int)) !=(0:Int)))])
  else none
 else none)=some (.tup [.int .u64 ((Bx n (B1 (An a*An b) (Av a+Av b)):Nat):Int),.int .u8 ((flagsOf (An a*An b) (Av a+Av b):Nat):Int)]):=by
 obtain ⟨a1,a2,a3,a4⟩:=Q2 ha
 obtain ⟨b1,b2,b3,b4⟩:=Q2 hb
 have ea:=Cu a
 have eb:=Cu b
 have ma:Dc (a:Int)=((An a*2^Ck a:Nat):Int):=rfl
 have mb:Dc (b:Int)=((An b*2^Ck b:Nat):Int):=rfl
 have na:Ia (a:Int)=Av a-Ck a:=rfl
 have nb:Ia (b:Int)=Av b-Ck b:=rfl
 have hi:U6 (Dc a) (Dc b)=((An a*2^Ck a*(An b*2^Ck b) / 18446744073709551616:Nat):Int):=rfl
 have lo:P3 (Dc a) (Dc b)=((An a*2^Ck a*(An b*2^Ck b)%18446744073709551616:Nat):Int):=rfl
 rw [hi,lo,ma,mb,na,nb,w53 a3,w53 b3,A8d,A77]
 obtain ⟨v1,v2⟩:=Al1 a2 a3 b2 b3
 have ev:An a*2^Ck a*(An b*2^Ck b)=An a*An b*2^(Ck a+Ck b):=by
  rw [Nat.mul_mul_mul_comm,← A8w]
 obtain ⟨s1,s2⟩:=Di (An a*An b) (Ck a+Ck b) (Av a+Av b)
 rw [← ev] at s1 s2
 generalize An a*2^Ck a*(An b*2^Ck b)=V at *
 rw [Ayj v2,Ayi,Ar (x:=_+_) (by rw [Ar (by omega) (by omega)]; omega) (by rw [Ar (by omega) (by omega)]; omega),Ar (by omega) (by omega)]
 have hw:Re ((V / 2^44:Nat):Int) (Av a-Ck a+(Av b-Ck b)+44)=true:=Ao.2 ⟨by omega,by omega,by omega,by omega⟩
 rw [hw,A77]
 unfold Fj Fi
 rw [A79,W1 n (V:=V) (k:=44) (E:=Av a+Av b-((Ck a+Ck b:Nat):Int)) (e:=Av a-Ck a+(Av b-Ck b)+44) (s:=decide (V%2^44≠0)) (by omega) rfl (by omega) (.inl (by omega)),s1,s2]
theorem kq (b k:Nat):(((Aj b:Nat):Int)==((k:Nat):Int))=decide (Aj b=k):=by
 rw [A8n]; simp only [beq_iff_eq,A8e]; omega
theorem Ael (n:Bool) {r:Nat} (h:r<2^63):U3 n (r:Int)=((Bx n r:Nat):Int):=by
 unfold U3 Bx Eh
 cases n
 ·rfl
 ·simp only [if_true]
  rw [A79,Vt h]
theorem Aju (n:Bool):U3 n (9218868437227405312:Int)=((Bx n Ei:Nat):Int):=Ael n (r:=Ei) (by decide)
theorem Ad3 (n:Bool):U3 n (0:Int)=((Bx n 0:Nat):Int):=Ael n (r:=0) (by decide)
theorem Ul (b:Nat):A7 (b:Int)=((Aj b:Nat):Int):=rfl
theorem An8 (a b:Nat):Auk (a:Int) (b:Int)=(decide (Aj a=4)||decide (Aj b=4)):=by
 unfold Auk A7
 simp only [A79]
 rw [A8n]
 simp only [Bool.or_eq_true,A8e]
 omega
theorem k3 (b:Nat):(((Aj b:Nat):Int)==(3:Int))=decide (Aj b=3):=kq b 3
theorem k0 (b:Nat):(((Aj b:Nat):Int)==(0:Int))=decide (Aj b=0):=kq b 0
theorem times.Mul.known:times.Mul.Kn:=times.Mul.Ae (.cons C1.H3.known (.cons soft.Kind.known (.cons soft.Sign.known (.cons times.nan.known (.cons times.norm.known (.cons times.signed.known (.cons times.wide.known .nil))))))) fun a b hp=>by
 obtain ⟨ha,hb⟩:=Af.1 hp
 obtain ⟨a,rfl,hn⟩:=Ca ha
 obtain ⟨b,rfl,hm⟩:=Ca hb
 refine ⟨0,times.Mul.out [.i a,.i b],[],?_,Wk.Jp (.cons .int (.cons .int .nil))⟩
 have i1:Al (9218868437227405312:Int)=true:=Co (n:=9218868437227405312) (by decide)
 have i2:Al (0:Int)=true:=Co (n:=0) (by decide)
 rw [times.Mul.ev,ha,hb,An8,Ul,Ul,k3,k3,k0,k0,i1,i2,Aju,Ad3,Agw]
 show _=some (DV.tup [.int .u64 (((Hc a b).1:Nat):Int),.int .u8 (((Hc a b).2:Nat):Int)])
 have ea:Em (a:Int)=Bp a:=rfl
 have eb:Em (b:Int)=Bp b:=rfl
 rw [ea,eb]
 unfold Hc
 simp only [A8d,A77]
 by_cases h4:Aj a=4∨Aj b=4
 ·have c4:(decide (Aj a=4)||decide (Aj b=4))=true:=by simp; exact h4
  rw [A8u h4,c4,A77]; rfl
 ·have c4:(decide (Aj a=4)||decide (Aj b=4))=false:=by simp; omega
  rw [A8t h4,c4,A8b]
  by_cases h3:Aj a=3∨Aj b=3
  ·rw [A8u h3]
   by_cases h0:Aj a=0∨Aj b=0
   ·have c0:(decide (Aj a=3)&&decide (Aj b=0)||decide (Aj a=0)&&decide (Aj b=3))=true:=by simp; omega
    rw [A8u h0,c0,A77]; rfl
   ·have c0:(decide (Aj a=3)&&decide (Aj b=0)||decide (Aj a=0)&&decide (Aj b=3))=false:=by simp; omega
    have c3:(decide (Aj a=3)||decide (Aj b=3))=true:=by simp; omega
    rw [A8t h0,c0,A8b,c3,A77]; rfl
  ·have c0:(decide (Aj a=3)&&decide (Aj b=0)||decide (Aj a=0)&&decide (Aj b=3))=false:=by simp; omega
   have c3:(decide (Aj a=3)||decide (Aj b=3))=false:=by simp; omega
   rw [A8t h3,c0,A8b,c3,A8b]
   by_cases h0:Aj a=0∨Aj b=0
   ·have c5:(decide (Aj a=0)||decide (Aj b=0))=true:=by simp; exact h0
    have hz:An a*An b=0:=by
     rcases h0 with h | h
     ·rw [Yj h,Nat.zero_mul]
     ·rw [Yj h,Nat.mul_zero]
    rw [c5,A77,hz,Aeo,Xj]; rfl
   ·have c5:(decide (Aj a=0)||decide (Aj b=0))=false:=by simp; omega
    have pa:=Qx (b:=a) (by omega) (by omega) (by omega)
    have pb:=Qx (b:=b) (by omega) (by omega) (by omega)
    have na:Oi (a:Int)=true:=Ao.2 pa
    have nb:Oi (b:Int)=true:=Ao.2 pb
    rw [c5,A8b,na,nb,A8d,A77,A77]
    exact Ayr _ pa pb
theorem Av7 (N:Nat) {a b:Nat} {X Y:Nat} (hY:0<Y) (hY2:Y<2^53) (hX:X<2*Y) (em:Dc (b:Int)=(Y:Int)):∀ (k i:Nat),k+i=61 →
 times.Div.L0 N (k+1) a b ((X*2^i / Y:Nat):Int) ((X*2^i%Y:Nat):Int) (i:Int) =
  times.Div.L0 N 1 a b ((X*2^61 / Y:Nat):Int) ((X*2^61%Y:Nat):Int) (61:Int):=by
 intro k
 induction k with
 | zero =>
   intro i hi
   have:i=61:=by omega
   subst this
   rfl
 | succ k ih =>
   intro i hi
   have hq:X*2^i / Y<2^62:=by
    rw [Nat.div_lt_iff_lt_mul hY]
    have h1:X*2^i<2*Y*2^i:=(Nat.mul_lt_mul_right (B5 i)).2 hX
    have h2:2*2^i≤2^62:=by
     rw [A8v,← Nat.pow_succ]; exact A8m (by decide) (by omega)
    have h3:2*2^i*Y≤2^62*Y:=A8j _ h2
    rw [Nat.mul_right_comm] at h1
    omega
   have hr:X*2^i%Y<Y:=Nat.mod_lt _ hY
   have hd:=Nat.div_add_mod (X*2^i) Y
   have e2:X*2^(i+1)=X*2^i*2:=by rw [Nat.pow_succ,A8y]
   rw [times.Div.A1,Aw,Fe,em,A78 (by omega),A77]
   have s1:B7 .u64 ((X*2^i%Y:Nat):Int) (1:Int)=((X*2^i%Y*2:Nat):Int):=by
    have:=Gv (X*2^i%Y) 1 (by decide)
    rw [A8k (a:=X*2^i%Y*2^1) (by omega)] at this
    exact this
   have s2:B7 .u64 ((X*2^i / Y:Nat):Int) (1:Int)=((X*2^i / Y*2^1:Nat):Int):=by
    have:=Gv (X*2^i / Y) 1 (by decide)
    rw [A8k (a:=X*2^i / Y*2^1) (by omega)] at this
    exact this
   have s3:J8 .u64 ((X*2^i / Y*2^1:Nat):Int) (1:Int)=((X*2^i / Y*2^1+1:Nat):Int):=Pn (k:=1) (b:=1) (by decide) (by omega)
   have ei:Ad ((i:Int)+1)=((i+1:Nat):Int):=by rw [Ar (by omega) (by omega)]; rfl
   rw [s1,s2,s3,ei]
   generalize hq':X*2^i / Y=q at *
   generalize hr':X*2^i%Y=r at *
   have step:∀ c,X*2^i*2=Y*(2*q+c)+(2*r-c*Y)→c*Y≤2*r→2*r<c*Y+Y→X*2^(i+1) / Y=2*q+c∧X*2^(i+1)%Y=2*r-c*Y:=fun c h1 h2 h3=>by
    rw [e2,h1]
    constructor
    ·rw [Nat.mul_add_div hY,Nat.div_eq_of_lt (by omega)]; omega
    ·rw [Nat.mul_add_mod,A8k (by omega)]
   by_cases hc:Y≤r*2
   ·obtain ⟨t1,t2⟩:=step 1 (by rw [Nat.mul_add,A9g,Nat.mul_left_comm]; omega) (by omega) (by omega)
    have:=ih (i+1) (by omega)
    rw [t1,t2] at this
    rw [A78 (by omega),A77,Dd (by omega) (by omega)]
    have e3:((r*2:Nat):Int)-(Y:Int)=((2*r-1*Y:Nat):Int):=by omega
    have e4:q*2^1+1=2*q+1:=by omega
    rw [e3,e4]
    exact this
   ·obtain ⟨t1,t2⟩:=step 0 (by rw [A9f,Nat.mul_left_comm]; omega) (by omega) (by omega)
    have:=ih (i+1) (by omega)
    rw [t1,t2] at this
    rw [A8c (by omega),A8b]
    have e3:r*2=2*r-0*Y:=by omega
    have e4:q*2^1=2*q+0:=by omega
    rw [e3,e4]
    exact this
theorem Azi {a b:Nat} (ha:An a≠0) (hb:An b≠0) :
 times.Div.L0 62 62 a b (Bj (Int.tdiv (Dc a) (Dc b))) (Int.tmod (Dc a) (Dc b)) (0:Int) =
  some (.tup [.int .u64 ((Bx (Bp a !=Bp b) (B1 (Fu (An a) (An b) 120) (Av a-Av b-121)):Nat):Int),.int .u8 ((flagsOf (Fu (An a) (An b) 120) (Av a-Av b-121):Nat):Int)]):=by
 obtain ⟨a1,a2,a3,a4⟩:=Q2 ha
 obtain ⟨b1,b2,b3,b4⟩:=Q2 hb
 have ea:=Cu a
 have eb:=Cu b
 have ma:Dc (a:Int)=((An a*2^Ck a:Nat):Int):=rfl
 have mb:Dc (b:Int)=((An b*2^Ck b:Nat):Int):=rfl
 have na:Ia (a:Int)=Av a-Ck a:=rfl
 have nb:Ia (b:Int)=Av b-Ck b:=rfl
 have sL:=Ak2 (An a) (An b*2^Ck b) (Ck a) 61
 have hpos:0<An b*2^Ck b:=by omega
 have hq1:2^53≤An a*2^Ck a*2^61 / (An b*2^Ck b):=by
  rw [Nat.le_div_iff_mul_le hpos]; omega
 have hqq:2^60≤An a*2^Ck a*2^61 / (An b*2^Ck b):=by
  rw [Nat.le_div_iff_mul_le hpos]; omega
 have hq2:An a*2^Ck a*2^61 / (An b*2^Ck b)<2^62:=by
  rw [Nat.div_lt_iff_lt_mul hpos]; omega
 have hstick:Fu (An a*2^Ck a) (An b*2^Ck b) 61=Fu (An a) (An b) (61+Ck a-Ck b):=by
  rw [sL]
  have:61+Ck a=61+Ck a-Ck b+Ck b:=by omega
  conv=>lhs; rw [this]
  rw [Aid]
 have hge1:2^53≤An a*2^(61+Ck a-Ck b) / An b:=by
  have e1:An a*2^Ck a*2^61=An a*2^(61+Ck a-Ck b)*2^Ck b:=by
   rw [A8y,← A8w,A8y,← A8w]
   congr 2
   omega
  rw [e1,Nat.mul_div_mul_right _ _ (B5 _)] at hq1
  exact hq1
 have hge2:2^53≤An a*2^120 / An b:=A1o (t:=53) (by omega) (by omega) (by have:=Fx b; omega) (by omega)
 obtain ⟨s1,s2⟩:=Ak1 (X:=An a) (Y:=An b) (K:=61+Ck a-Ck b) (L:=120) (E:=Av a-Ck a-(Av b-Ck b)-61-1) (F:=Av a-Av b-121) (by omega) hge1 hge2 (by omega)
 have d1:Bj (Int.tdiv (Dc a) (Dc b))=((An a*2^Ck a*2^0 / (An b*2^Ck b):Nat):Int):=by
  rw [ma,mb,Kd,A85,A9g]
  have h1:=Nat.div_le_self (An a*2^Ck a) (An b*2^Ck b)
  have h2:An a*2^Ck a / (An b*2^Ck b)<2^64:=A89 h1 (Nat.lt_trans a3 (by decide))
  generalize An a*2^Ck a / (An b*2^Ck b)=q at h2 ⊢
  exact Dd (Int.natCast_nonneg q) (by omega)
 have d2:Int.tmod (Dc a) (Dc b)=((An a*2^Ck a*2^0%(An b*2^Ck b):Nat):Int):=by
  rw [ma,mb,Kc,A85,A9g]
 rw [d1,d2]
 have lp:=Av7 62 (a:=a) (b:=b) hpos b3 (X:=An a*2^Ck a) (by omega) mb 61 0 (by omega)
 refine lp.trans ?_
 rw [times.Div.A1,Aw,na,nb,A8c (by omega),A8b]
 have we:Ad (Ad (Av a-Ck a-(Av b-Ck b))-61)=Av a-Ck a-(Av b-Ck b)-61:=by
  rw [Ar (x:=Av a-Ck a-(Av b-Ck b)) (by omega) (by omega),Ar (by omega) (by omega)]
 have hne:(((An a*2^Ck a*2^61%(An b*2^Ck b):Nat):Int) !=(0:Int))=decide (An a*2^Ck a*2^61%(An b*2^Ck b)≠0):=by
  rw [A8n]; simp only [bne_iff_ne,ne_eq,A8e]; omega
 rw [we,hne]
 have hw:Re ((An a*2^Ck a*2^61 / (An b*2^Ck b):Nat):Int) (Av a-Ck a-(Av b-Ck b)-61)=true:=Ao.2 ⟨by omega,by omega,by omega,by omega⟩
 have hn:Em (a:Int)=Bp a:=rfl
 have hn':Em (b:Int)=Bp b:=rfl
 rw [hw,A77,Agw,hn,hn']
 unfold Fj Fi
 rw [A79,Aqn _ rfl rfl hq1,hstick,s1,s2]
theorem times.Div.known:times.Div.Kn:=times.Div.Ae (.cons soft.Kind.known (.cons soft.Sign.known (.cons times.nan.known (.cons times.norm.known (.cons times.signed.known (.cons times.wide.known .nil)))))) fun a b hp=>by
 obtain ⟨ha,hb⟩:=Af.1 hp
 obtain ⟨a,rfl,hn⟩:=Ca ha
 obtain ⟨b,rfl,hm⟩:=Ca hb
 refine ⟨62,times.Div.out [.i a,.i b],[],?_,Wk.Jp (.cons .int (.cons .int .nil))⟩
 have i1:Al (9218868437227405312:Int)=true:=Co (n:=9218868437227405312) (by decide)
 have i2:Al (0:Int)=true:=Co (n:=0) (by decide)
 rw [times.Div.ev,ha,hb,An8,Ul,Ul,k3,k3,k0,k0,i1,i2,Aju,Ad3,Agw]
 show _=some (DV.tup [.int .u64 (((Sm a b).1:Nat):Int),.int .u8 (((Sm a b).2:Nat):Int)])
 have ea:Em (a:Int)=Bp a:=rfl
 have eb:Em (b:Int)=Bp b:=rfl
 rw [ea,eb]
 unfold Sm
 rw [A8d,A77,A77,A77,A77,A77]
 by_cases h4:Aj a=4∨Aj b=4
 ·have c4:(decide (Aj a=4)||decide (Aj b=4))=true:=by simp; exact h4
  rw [A8u h4,c4,A77]; rfl
 ·have c4:(decide (Aj a=4)||decide (Aj b=4))=false:=by simp; omega
  rw [A8t h4,c4,A8b]
  by_cases h1:Aj a=Aj b∧(Aj a=3∨Aj a=0)
  ·have c1:(decide (Aj a=3)&&decide (Aj b=3)||decide (Aj a=0)&&decide (Aj b=0))=true:=by simp; omega
   rw [A8u h1,c1,A77]; rfl
  ·have c1:(decide (Aj a=3)&&decide (Aj b=3)||decide (Aj a=0)&&decide (Aj b=0))=false:=by simp; omega
   rw [A8t h1,c1,A8b]
   by_cases h2:Aj a=3
   ·rw [A8u h2,A78 h2,A77]; rfl
   ·rw [A8t h2,A8c h2,A8b]
    by_cases h3:Aj b=3∨Aj a=0
    ·have c3:(decide (Aj b=3)||decide (Aj a=0))=true:=by simp; exact h3
     rw [A8u h3,c3,A77]; rfl
    ·have c3:(decide (Aj b=3)||decide (Aj a=0))=false:=by simp; omega
     rw [A8t h3,c3,A8b]
     by_cases h5:Aj b=0
     ·rw [A8u h5,A78 h5,A77]; rfl
     ·rw [A8t h5,A8c h5,A8b]
      have pa:=Qx (b:=a) (by omega) (by omega) (by omega)
      have pb:=Qx (b:=b) (by omega) (by omega) (by omega)
      have na:Oi (a:Int)=true:=Ao.2 pa
      have nb:Oi (b:Int)=true:=Ao.2 pb
      have hnb:(Dc (b:Int) !=0)=true:=by
       obtain ⟨_,l2,_,_⟩:=Q2 pb
       have mb:Dc (b:Int)=((An b*2^Ck b:Nat):Int):=rfl
       rw [mb]
       simp only [bne_iff_ne,ne_eq]
       omega
      rw [na,nb,hnb,A8d,A77,A77,A77,A77,Azi pa pb]
open Go Go.Den Go.Cv Go.Proofs
set_option maxRecDepth 100000
namespace EqVec
def Ac.Add.Bf:List (Nat × Entry):=[(232,sum.Add.spec)]
def Ac.Add.E:Env:=Bk (Be Ac.Add.Bf) (fun _=>false) (fun _=>none) (fun _=>none)
theorem Ac.Add.ev (N:Nat) (a b:Int):B6 Ac.Add.E N f226 (As f226) [.int .u64 a,.int .u64 b]=bif (Al a&&Al b) then some (.int .u64 (Md a b)) else none:=by kernel_rfl
abbrev _root_.Go.Proofs.S1.Ac.Add.Kn:=A9 prog 226 Ac.Add.spec
theorem Ac.Add.Ae (hk:A3 prog Ac.Add.Bf) (h:Hyp Ac.Add.E f226 Ac.Add.ts Ac.Add.pre Ac.Add.out):Ac.Add.Kn :=
 Am (A5 hk _ _ _) func226 (by kernel_rfl) (by kernel_rfl) h
def Ac.Sub.Bf:List (Nat × Entry):=[(207,sum.Sub.spec)]
def Ac.Sub.E:Env:=Bk (Be Ac.Sub.Bf) (fun _=>false) (fun _=>none) (fun _=>none)
theorem Ac.Sub.ev (N:Nat) (a b:Int):B6 Ac.Sub.E N f156 (As f156) [.int .u64 a,.int .u64 b]=bif (Al a&&Al b) then some (.int .u64 (Eu a b)) else none:=by kernel_rfl
abbrev _root_.Go.Proofs.S1.Ac.Sub.Kn:=A9 prog 156 Ac.Sub.spec
theorem Ac.Sub.Ae (hk:A3 prog Ac.Sub.Bf) (h:Hyp Ac.Sub.E f156 Ac.Sub.ts Ac.Sub.pre Ac.Sub.out):Ac.Sub.Kn :=
 Am (A5 hk _ _ _) func156 (by kernel_rfl) (by kernel_rfl) h
def Ac.Mul.Bf:List (Nat × Entry):=[(208,times.Mul.spec)]
def Ac.Mul.E:Env:=Bk (Be Ac.Mul.Bf) (fun _=>false) (fun _=>none) (fun _=>none)
theorem Ac.Mul.ev (N:Nat) (a b:Int):B6 Ac.Mul.E N f157 (As f157) [.int .u64 a,.int .u64 b]=bif (Al a&&Al b) then some (.int .u64 (D6 a b)) else none:=by kernel_rfl
abbrev _root_.Go.Proofs.S1.Ac.Mul.Kn:=A9 prog 157 Ac.Mul.spec
theorem Ac.Mul.Ae (hk:A3 prog Ac.Mul.Bf) (h:Hyp Ac.Mul.E f157 Ac.Mul.ts Ac.Mul.pre Ac.Mul.out):Ac.Mul.Kn :=
 Am (A5 hk _ _ _) func157 (by kernel_rfl) (by kernel_rfl) h
def Ac.fit.Bf:List (Nat × Entry):=[]
def Ac.fit.E:Env:=Bk (Be Ac.fit.Bf) (fun _=>false) (fun _=>none) (fun _=>none)
theorem Ac.fit.ev (N:Nat) (x y:List Int):B6 Ac.fit.E N f225 (As f225) [.ints .arg .u64 x,.ints .arg .u64 y]=some (.bool (bif ((length x:Int)==(length y:Int)) then (E8 (length x:Int) 64) else false)) :=
 Eq.trans (by kernel_rfl)
 (Ay (Sy ((length x:Int)==(length y:Int))) (Ay (O4 ((length x:Int)==(length y:Int))) (Ay (O4 ((length x:Int)==(length y:Int))) (Ay (Zb ((length x:Int)==(length y:Int))) rfl))))
abbrev _root_.Go.Proofs.S1.Ac.fit.Kn:=A9 prog 225 Ac.fit.spec
theorem Ac.fit.Ae (hk:A3 prog Ac.fit.Bf) (h:Hyp Ac.fit.E f225 Ac.fit.ts Ac.fit.pre Ac.fit.out):Ac.fit.Kn :=
 Am (A5 hk _ _ _) func225 (by kernel_rfl) (by kernel_rfl) h
def Ac.Hn.hint:Nat→Option Bh
 | 0=>some { keep:=[0,1,6,13,14],objs:=[],boxes:=[] }
 | _=>none
def Ac.Hn.Bf:List (Nat × Entry):=[(226,Ac.Add.spec),(157,Ac.Mul.spec),(225,Ac.fit.spec)]
def Ac.Hn.E:Env:=Bk (Be Ac.Hn.Bf) (fun _=>false) Ac.Hn.hint (fun _=>none)
section
variable (N M:Nat) (x y:List Int) (p6 p14:Int)
def Ac.Hn.L0:Option DV:=Cd Ac.Hn.E N f189 (As f189) [1,1,1,0,1,0] [] M ⟨Il 30 [(0,.ints .arg .u64 x),(1,.ints .arg .u64 y),(6,.int .u64 p6),(13,.int .i64 (length x:Int)),(14,.int .i64 p14)],[]⟩
theorem Ac.Hn.A1:Ac.Hn.L0 N (M+1) x y p6 p14=bif (Bc p14 (length x:Int)) then bif ((decide (0≤p14))&&(decide (p14<(length x:Int)))) then bif ((decide (0≤p14))&&(decide (p14<(length y:Int)))) then bif (Al (getD x (toNat p14) 0)&&Al (getD y (toNat p14) 0)) then bif (Al p6&&Al (D6 (getD x (toNat p14) 0) (getD y (toNat p14) 0))) then Ac.Hn.L0 N M x y (Md p6 (D6 (getD x (toNat p14) 0) (getD y (toNat p14) 0))) (Ad (p14+1)) else none else none else none else none else some (.tup [.int .u64 p6,.int .i64 0]) :=
 Eq.trans (by kernel_rfl)
 (Fg (C5 (Rg _ _) (C5 (Rg _ _) (C5 (Cn _) (C5 (Cn _) rfl rfl) rfl) rfl) rfl) rfl)
theorem Ac.Hn.ev:B6 Ac.Hn.E N f189 (As f189) [.ints .arg .u64 x,.ints .arg .u64 y]=bif (!(Z4 x y)) then some (.tup [.int .u64 0,.int .i64 3]) else Ac.Hn.L0 N N x y 0 0:=by kernel_rfl
end
abbrev _root_.Go.Proofs.S1.Ac.Hn.Kn:=A9 prog 189 Ac.Hn.spec
theorem Ac.Hn.Ae (hk:A3 prog Ac.Hn.Bf) (h:Hyp Ac.Hn.E f189 Ac.Hn.ts Ac.Hn.pre Ac.Hn.out):Ac.Hn.Kn :=
 Am (A5 hk _ _ _) func189 (by kernel_rfl) (by kernel_rfl) h
def Ax.F.Bf:List (Nat × Entry):=[]
def Ax.F.E:Env:=Bk (Be Ax.F.Bf) (fun _=>false) (fun _=>none) (fun _=>none)
theorem Ax.F.ev (N:Nat) (x:Int):B6 Ax.F.E N f159 (As f159) [.int .u64 x]=bif (decide (0≤x)) then some (.fl (toNat x)) else none:=by kernel_rfl
abbrev _root_.Go.Proofs.S1.Ax.F.Kn:=A9 prog 159 Ax.F.spec
theorem Ax.F.Ae (hk:A3 prog Ax.F.Bf) (h:Hyp Ax.F.E f159 Ax.F.ts Ax.F.pre Ax.F.out):Ax.F.Kn :=
 Am (A5 hk _ _ _) func159 (by kernel_rfl) (by kernel_rfl) h
def Ax.B.Bf:List (Nat × Entry):=[(168,Ez.Canon.nb.spec)]
def Ax.B.E:Env:=Bk (Be Ax.B.Bf) (fun _=>false) (fun _=>none) (fun _=>none)
theorem Ax.B.ev (N x:Nat):B6 Ax.B.E N f102 (As f102) [.fl x]=some (.int .u64 (R6 x)):=by kernel_rfl
abbrev _root_.Go.Proofs.S1.Ax.B.Kn:=A9 prog 102 Ax.B.spec
theorem Ax.B.Ae (hk:A3 prog Ax.B.Bf) (h:Hyp Ax.B.E f102 Ax.B.ts Ax.B.pre Ax.B.out):Ax.B.Kn :=
 Am (A5 hk _ _ _) func102 (by kernel_rfl) (by kernel_rfl) h
def Ax.Mul.Bf:List (Nat × Entry):=[(102,Ax.B.spec),(159,Ax.F.spec)]
def Ax.Mul.E:Env:=Bk (Be Ax.Mul.Bf) (fun _=>false) (fun _=>none) (fun _=>none)
theorem Ax.Mul.ev (N:Nat) (a b:Int):B6 Ax.Mul.E N f82 (As f82) [.int .u64 a,.int .u64 b]=bif (Al a) then bif (Al b) then some (.int .u64 (R6 ((Ieee.double.mul (toNat a) (toNat b)).getD nanBits))) else none else none:=by kernel_rfl
abbrev _root_.Go.Proofs.S1.Ax.Mul.Kn:=A9 prog 82 Ax.Mul.spec
theorem Ax.Mul.Ae (hk:A3 prog Ax.Mul.Bf) (h:Hyp Ax.Mul.E f82 Ax.Mul.ts Ax.Mul.pre Ax.Mul.out):Ax.Mul.Kn :=
 Am (A5 hk _ _ _) func82 (by kernel_rfl) (by kernel_rfl) h
end EqVec
open Go Go.Den Go.Cv Go.Proofs Ieee
open EqVec
theorem Ai4 {b:Nat} (h3:Aj b≠3) (h4:Aj b≠4):An b=0↔Aj b=0 :=
 ⟨fun h=>by
  by_cases h0:Aj b=0
  ·exact h0
  ·exact absurd h (Qx h0 h3 h4),Yj⟩
theorem Ur (s:Bool):J7 (Bx s Ei)=Bx s Ei:=Ade s (A81 _)
theorem Aun {a b:Nat} (ha:a<2^64) (hb:b<2^64) {d:Nat} (hd:Aj d=4):J7 ((Ieee.double.mul a b).getD d)=(Hc a b).1:=by
 have cd:J7 d=Sq:=A8u hd
 have ex:∀ s t:Bool,(s ^^ t)=(s !=t):=fun s t=>by cases s<;>cases t<;>rfl
 unfold Format.mul
 rw [Aam ha,Aam hb]
 unfold Hc
 by_cases a4:Aj a=4
 ·rw [A8u (.inl a4),Aes a4]; exact cd
 ·by_cases b4:Aj b=4
  ·rw [A8u (.inr b4),Aes b4]
   by_cases a3:Aj a=3
   ·rw [Mr a3]; exact cd
   ·rw [Mq a3 a4]; exact cd
  ·rw [A8t (fun h=>h.elim a4 b4)]
   by_cases a3:Aj a=3
   ·rw [A8u (.inl a3),Mr a3]
    by_cases b3:Aj b=3
    ·rw [Mr b3,A8t (by omega)]
     show J7 (Bx (Bp a ^^ Bp b) Ei)=_
     rw [Ur,ex]
    ·rw [Mq b3 b4]
     have z:=Ai4 b3 b4
     by_cases b0:Aj b=0
     ·have e:(Datum.infinity (Bp a)).product (.number (Bp b) (An b) (Av b))=none:=A8u (z.2 b0)
      rw [e,A8u (.inr b0)]; exact cd
     ·have e:(Datum.infinity (Bp a)).product (.number (Bp b) (An b) (Av b))=some (.infinity (Bp a ^^ Bp b)):=A8t (fun k=>b0 (z.1 k))
      rw [e,A8t (by omega)]
      show J7 (Bx (Bp a ^^ Bp b) Ei)=_
      rw [Ur,ex]
   ·rw [Mq a3 a4]
    have z:=Ai4 a3 a4
    by_cases b3:Aj b=3
    ·rw [A8u (.inr b3),Mr b3]
     have sw:∀ s t:Bool,(t ^^ s)=(s !=t):=fun s t=>by cases s<;>cases t<;>rfl
     by_cases a0:Aj a=0
     ·have e:(Datum.number (Bp a) (An a) (Av a)).product (.infinity (Bp b))=none:=A8u (z.2 a0)
      rw [e,A8u (.inl a0)]; exact cd
     ·have e:(Datum.number (Bp a) (An a) (Av a)).product (.infinity (Bp b))=some (.infinity (Bp b ^^ Bp a)):=A8t (fun k=>a0 (z.1 k))
      rw [e,A8t (by omega)]
      show J7 (Bx (Bp b ^^ Bp a) Ei)=_
      rw [Ur,sw]
    ·rw [Mq b3 b4,A8t (by omega)]
     show J7 (Ieee.double.write (.number (Bp a ^^ Bp b) (An a*An b) (Av a+Av b)))=_
     rw [Ao8,Ade _ (Rj _ _),ex]
theorem Agx:Aj nanBits=4:=by decide +kernel
theorem Ac.Add.known:Ac.Add.Kn:=Ac.Add.Ae (.cons sum.Add.known .nil) fun a b hp=>by
 have hp:(Al a&&Al b)=true:=hp
 refine ⟨0,Ac.Add.out [.i a,.i b],[],?_,.int⟩
 rw [Ac.Add.ev,hp]; rfl
theorem Ac.Sub.known:Ac.Sub.Kn:=Ac.Sub.Ae (.cons sum.Sub.known .nil) fun a b hp=>by
 have hp:(Al a&&Al b)=true:=hp
 refine ⟨0,Ac.Sub.out [.i a,.i b],[],?_,.int⟩
 rw [Ac.Sub.ev,hp]; rfl
theorem Ac.Mul.known:Ac.Mul.Kn:=Ac.Mul.Ae (.cons times.Mul.known .nil) fun a b hp=>by
 have hp:(Al a&&Al b)=true:=hp
 refine ⟨0,Ac.Mul.out [.i a,.i b],[],?_,.int⟩
 rw [Ac.Mul.ev,hp]; rfl
theorem Avp (x y:List Int):(bif ((length x:Int)==(length y:Int)) then (E8 (length x:Int) (64:Int)) else false)=Z4 x y:=by
 unfold Z4
 rw [Fe,A8n]
 by_cases h:x.length=y.length
 ·have:((x.length:Int)==(y.length:Int))=true:=by rw [beq_iff_eq]; omega
  rw [this,A77,A78 h,A9k,A8e,A8e]; omega
 ·have:((x.length:Int)==(y.length:Int))=false:=by rw [A82]; omega
  rw [this,A8b,A8c h,Bool.false_and]
theorem Ac.fit.known:Ac.fit.Kn:=Ac.fit.Ae .nil fun x y _=>by
 refine ⟨0,Ac.fit.out [.l x,.l y],[],?_,.bool⟩
 rw [Ac.fit.ev,Avp]; rfl
theorem Ahb {x y:List Int}:Z4 x y=true↔x.length=y.length∧x.length≤64:=by unfold Z4; simp
theorem Aj8 {l:List Int} {i:Nat} (h:i<l.length):l.drop i=l.getD i 0::l.drop (i+1):=by
 rw [List.drop_eq_getElem_cons h,A8h,A8o h]; rfl
theorem Xo {x y:List Int} {i:Nat} (s:Nat) (hx:i<x.length) (hy:i<y.length) :
 U0 s (x.drop i) (y.drop i)=U0 (Gf s (Hc (x.getD i 0).toNat (y.getD i 0).toNat).1).1 (x.drop (i+1)) (y.drop (i+1)):=by
 rw [Aj8 hx,Aj8 hy]; rfl
theorem Av5 (N:Nat) {x y:List Int} (hf:Z4 x y=true) (hx:Ak x=true) (hy:Ak y=true):∀ (k i F s:Nat),i+k=x.length→k<F→s<2^64 →
 Ac.Hn.L0 N F x y (s:Int) (i:Int)=some (.tup [.int .u64 ((U0 s (x.drop i) (y.drop i):Nat):Int),.int .i64 (0:Int)]):=by
 obtain ⟨h1,h2⟩:=Ahb.1 hf
 intro k
 induction k with
 | zero =>
   intro i F s hi hF hs
   obtain ⟨F,rfl⟩:∃ G,F=G+1:=⟨F-1,by omega⟩
   rw [Ac.Hn.A1,Aw,A8c (by omega),A8b,A8l (by omega)]
   rfl
 | succ k ih =>
   intro i F s hi hF hs
   obtain ⟨F,rfl⟩:∃ G,F=G+1:=⟨F-1,by omega⟩
   have c1:decide ((i:Int)<(x.length:Int))=true:=A78 (by omega)
   have c2:decide ((i:Int)<(y.length:Int))=true:=A78 (by omega)
   have c3:decide ((0:Int)≤(i:Int))=true:=A78 (by omega)
   have g1:=I8 hx (show i<x.length by omega)
   have g2:=I8 hy (show i<y.length by omega)
   have em:D6 (x.getD i 0) (y.getD i 0)=(((Hc (x.getD i 0).toNat (y.getD i 0).toNat).1:Nat):Int):=rfl
   have ea:∀ t:Nat,Md (s:Int) (t:Int)=(((Gf s t).1:Nat):Int):=fun t=>rfl
   rw [Ac.Hn.A1,Aw,c1,c2,c3,A79,g1,g2,em,ea,Co hs,Co Aat,A8d,A77,A77,A77,A77,A77,Ar (by omega) (by omega),Xo s (by omega) (by omega)]
   exact ih (i+1) F _ (by omega) (by omega) (X1 hs Aat).1
theorem Ac.Hn.known:Ac.Hn.Kn:=Ac.Hn.Ae (.cons Ac.Add.known (.cons Ac.Mul.known (.cons Ac.fit.known .nil))) fun x y hp=>by
 obtain ⟨h1,hy⟩:=Af.1 hp
 obtain ⟨hf,hx⟩:=Af.1 h1
 refine ⟨x.length+1,Ac.Hn.out [.l x,.l y],[],?_,Wk.Jp (.cons .int (.cons .int .nil))⟩
 rw [Ac.Hn.ev,hf,A86,A8b]
 exact Av5 _ hf hx hy x.length 0 _ 0 (by omega) (by omega) (by decide)
theorem Ax.F.known:Ax.F.Kn:=Ax.F.Ae .nil fun x hp=>by
 obtain ⟨n,rfl,hn⟩:=Ca (x:=x) hp
 refine ⟨0,Ax.F.out [.i n],[],?_,.fl⟩
 rw [Ax.F.ev,A78 (Int.natCast_nonneg n)]; rfl
theorem Ax.B.known:Ax.B.Kn:=Ax.B.Ae (.cons Ez.Canon.Aui .nil) fun x _=>by
 refine ⟨0,Ax.B.out [.f x],[],?_,.int⟩
 rw [Ax.B.ev]; rfl
theorem Ax.Mul.known:Ax.Mul.Kn:=Ax.Mul.Ae (.cons Ax.B.known (.cons Ax.F.known .nil)) fun a b hp=>by
 obtain ⟨ha,hb⟩:=Af.1 hp
 obtain ⟨a,rfl,hn⟩:=Ca ha
 obtain ⟨b,rfl,hm⟩:=Ca hb
 refine ⟨0,Ax.Mul.out [.i a,.i b],[],?_,.int⟩
 rw [Ax.Mul.ev,ha,hb,A79,A79]
 unfold R6
 rw [Aun hn hm Agx]; rfl
open Go Go.Den Go.Cv Go.Proofs
set_option maxRecDepth 100000
namespace EqMat
def Aa.size.Bf:List (Nat × Entry):=[]
def Aa.size.E:Env:=Bk (Be Aa.size.Bf) (fun _=>false) (fun _=>none) (fun _=>none)
theorem Aa.size.ev (N:Nat) (n:Int):B6 Aa.size.E N f204 (As f204) [.int .i64 n]=some (.bool (bif (E8 0 n) then (E8 n 6) else false)) :=
 Eq.trans (by kernel_rfl)
 (Ay (Sy (E8 0 n)) (Ay (O4 (E8 0 n)) (Ay (Zb (E8 0 n)) rfl)))
abbrev _root_.Go.Proofs.S1.Aa.size.Kn:=A9 prog 204 Aa.size.spec
theorem Aa.size.Ae (hk:A3 prog Aa.size.Bf) (h:Hyp Aa.size.E f204 Aa.size.ts Aa.size.pre Aa.size.out):Aa.size.Kn :=
 Am (A5 hk _ _ _) func204 (by kernel_rfl) (by kernel_rfl) h
def Aa.Check.Bf:List (Nat × Entry):=[(204,Aa.size.spec)]
def Aa.Check.E:Env:=Bk (Be Aa.Check.Bf) (fun _=>false) (fun _=>none) (fun _=>none)
theorem Aa.Check.ev (N:Nat) (r c:Int) (l:List Int):B6 Aa.Check.E N f160 (As f160) [.agg [.int .i64 r,.int .i64 c,.ints .arg .u64 l]]=bif (((!(Br r))||(!(Br c)))||((length l:Int) !=(Ad (r*c)))) then some (.int .i64 1) else some (.int .i64 0) :=
 Eq.trans (by kernel_rfl)
 (Ay (Af4 (Br r)) (Ay (Ux (Br r)) (Ay (Ux (Br r)) (Ay (Ux (Br r)) (Ay (Af5 (Br r)) (Ay (Axo (Br r) (Br c)) (Ay (Ape (Br r) (Br c)) (Ay (Ape (Br r) (Br c)) (Ay (Axo (Br r) (Br c)) (Ay (Ape (Br r) (Br c)) (Ay (Axo (Br r) (Br c)) (Ay (Ape (Br r) (Br c)) (Ay (A38 (Br r) (Br c)) (Ay (A38 (Br r) (Br c)) (Ay (A39 (Br r) (Br c)) (C5 (A61 _ _ _) rfl rfl))))))))))))))))
abbrev _root_.Go.Proofs.S1.Aa.Check.Kn:=A9 prog 160 Aa.Check.spec
theorem Aa.Check.Ae (hk:A3 prog Aa.Check.Bf) (h:Hyp Aa.Check.E f160 Aa.Check.ts Aa.Check.pre Aa.Check.out):Aa.Check.Kn :=
 Am (A5 hk _ _ _) func160 (by kernel_rfl) (by kernel_rfl) h
def Aa.get.Bf:List (Nat × Entry):=[]
def Aa.get.E:Env:=Bk (Be Aa.get.Bf) (fun _=>false) (fun _=>none) (fun _=>none)
theorem Aa.get.ev (N:Nat) (r c:Int) (l:List Int) (i k:Int):B6 Aa.get.E N f193 (As f193) [.agg [.int .i64 r,.int .i64 c,.ints .arg .u64 l],.int .i64 i,.int .i64 k]=bif ((decide (0≤(Ad ((Ad (i*c))+k))))&&(decide ((Ad ((Ad (i*c))+k))<(length l:Int)))) then some (.int .u64 (getD l (toNat (Ad ((Ad (i*c))+k))) 0)) else none:=by kernel_rfl
abbrev _root_.Go.Proofs.S1.Aa.get.Kn:=A9 prog 193 Aa.get.spec
theorem Aa.get.Ae (hk:A3 prog Aa.get.Bf) (h:Hyp Aa.get.E f193 Aa.get.ts Aa.get.pre Aa.get.out):Aa.get.Kn :=
 Am (A5 hk _ _ _) func193 (by kernel_rfl) (by kernel_rfl) h
def Aa.two.Bf:List (Nat × Entry):=[(160,Aa.Check.spec)]
def Aa.two.E:Env:=Bk (Be Aa.two.Bf) (fun _=>false) (fun _=>none) (fun _=>none)
theorem Aa.two.ev (N:Nat) (r c:Int) (l:List Int) (p q:Int) (m:List Int):B6 Aa.two.E N f186 (As f186) [.agg [.int .i64 r,.int .i64 c,.ints .arg .u64 l],.agg [.int .i64 p,.int .i64 q,.ints .arg .u64 m]]=bif (((N6 r c l) !=(0:Int))||((N6 p q m) !=(0:Int))) then some (.int .i64 1) else some (.int .i64 0) :=
 Eq.trans (by kernel_rfl)
 (Ay (Za ((N6 r c l) !=(0:Int))) (Ay (Vh ((N6 r c l) !=(0:Int))) (Ay (Vh ((N6 r c l) !=(0:Int))) (Ay (tt6 ((N6 r c l) !=(0:Int))) (C5 (tt5 _ _) rfl rfl)))))
abbrev _root_.Go.Proofs.S1.Aa.two.Kn:=A9 prog 186 Aa.two.spec
theorem Aa.two.Ae (hk:A3 prog Aa.two.Bf) (h:Hyp Aa.two.E f186 Aa.two.ts Aa.two.pre Aa.two.out):Aa.two.Kn :=
 Am (A5 hk _ _ _) func186 (by kernel_rfl) (by kernel_rfl) h
def Aa.Row.Bf:List (Nat × Entry):=[]
def Aa.Row.E:Env:=Bk (Be Aa.Row.Bf) (fun _=>false) (fun _=>none) (fun _=>none)
theorem Aa.Row.ev (N:Nat) (r c:Int) (l:List Int) (i f:Int):B6 Aa.Row.E N f190 (As f190) [.agg [.int .i64 r,.int .i64 c,.ints .arg .u64 l],.int .i64 i,.int .i64 f]=bif (((decide ((0:Int)≤(Ad ((Ad (i*c))+f))))&&(decide ((Ad ((Ad (i*c))+f))≤(Ad ((Ad (i+1))*c)))))&&((decide ((0:Int)≤(Ad ((Ad (i+1))*c))))&&(decide ((Ad ((Ad (i+1))*c))≤(length l:Int))))) then bif (decide (0+(length (List.drop (toNat (Ad ((Ad (i*c))+f))) (List.take (toNat (Ad ((Ad (i+1))*c))) l)))≤Im)) then some (.ints (.own 22 37) .u64 ([]++(List.drop (toNat (Ad ((Ad (i*c))+f))) (List.take (toNat (Ad ((Ad (i+1))*c))) l)))) else none else none :=
 Eq.trans (by kernel_rfl)
 (C5 (A37 _ _ _ _) rfl rfl)
abbrev _root_.Go.Proofs.S1.Aa.Row.Kn:=A9 prog 190 Aa.Row.spec
theorem Aa.Row.Ae (hk:A3 prog Aa.Row.Bf) (h:Hyp Aa.Row.E f190 Aa.Row.ts Aa.Row.pre Aa.Row.out):Aa.Row.Kn :=
 Am (A5 hk _ _ _) func190 (by kernel_rfl) (by kernel_rfl) h
def Aa.D2.hint:Nat→Option Bh
 | 0=>some { keep:=[1,3,7,8],objs:=[(0,7,100007,.ints 37 .u64 [])],boxes:=[3] }
 | _=>none
def Aa.D2.Bf:List (Nat × Entry):=[(193,Aa.get.spec)]
def Aa.D2.E:Env:=Bk (Be Aa.D2.Bf) (fun _=>false) Aa.D2.hint (fun _=>none)
section
variable (N M:Nat) (r c:Int) (l:List Int) (k f p8:Int) (p7:List Int)
def Aa.D2.L0:Option DV:=Cd Aa.D2.E N f191 (As f191) [1,1,0,1,0] [] M ⟨Il 24 [(1,.int .i64 k),(3,.ptr 3 0 0),(7,.oref 100007),(8,.int .i64 p8)],[(3,false,.box [.int .i64 r,.int .i64 c,.ints .arg .u64 l]),(100007,false,.ints 37 .u64 p7)]⟩
theorem Aa.D2.A1:Aa.D2.L0 N (M+1) r c l k p8 p7=bif (Bc p8 r) then bif (Ha r c l p8 k) then bif (decide ((length p7)+1≤Im)) then Aa.D2.L0 N M r c l k (Ad (p8+1)) (p7++[(Cp c l p8 k)]) else none else none else some (.ints (.own 100007 37) .u64 p7):=by kernel_rfl
theorem Aa.D2.ev:B6 Aa.D2.E N f191 (As f191) [.agg [.int .i64 r,.int .i64 c,.ints .arg .u64 l],.int .i64 k,.int .i64 f] =
 Aa.D2.L0 N N r c l k f []:=by kernel_rfl
end
abbrev _root_.Go.Proofs.S1.Aa.D2.Kn:=A9 prog 191 Aa.D2.spec
theorem Aa.D2.Ae (hk:A3 prog Aa.D2.Bf) (h:Hyp Aa.D2.E f191 Aa.D2.ts Aa.D2.pre Aa.D2.out):Aa.D2.Kn :=
 Am (A5 hk _ _ _) func191 (by kernel_rfl) (by kernel_rfl) h
def Aa.Ej.Bf:List (Nat × Entry):=[]
def Aa.Ej.E:Env:=Bk (Be Aa.Ej.Bf) (fun _=>false) (fun _=>none) (fun _=>none)
theorem Aa.Ej.ev (N:Nat) (i k:Int):B6 Aa.Ej.E N f205 (As f205) [.int .i64 i,.int .i64 k]=some (.int .u64 0):=by kernel_rfl
abbrev _root_.Go.Proofs.S1.Aa.Ej.Kn:=A9 prog 205 Aa.Ej.spec
theorem Aa.Ej.Ae (hk:A3 prog Aa.Ej.Bf) (h:Hyp Aa.Ej.E f205 Aa.Ej.ts Aa.Ej.pre Aa.Ej.out):Aa.Ej.Kn :=
 Am (A5 hk _ _ _) func205 (by kernel_rfl) (by kernel_rfl) h
def Aa.H4.Bf:List (Nat × Entry):=[]
def Aa.H4.E:Env:=Bk (Be Aa.H4.Bf) (fun _=>false) (fun _=>none) (fun _=>none)
theorem Aa.H4.ev (N:Nat) (i k:Int):B6 Aa.H4.E N f246 (As f246) [.int .i64 i,.int .i64 k]=bif (i==k) then some (.int .u64 4607182418800017408) else some (.int .u64 0):=by kernel_rfl
abbrev _root_.Go.Proofs.S1.Aa.H4.Kn:=A9 prog 246 Aa.H4.spec
theorem Aa.H4.Ae (hk:A3 prog Aa.H4.Bf) (h:Hyp Aa.H4.E f246 Aa.H4.ts Aa.H4.pre Aa.H4.out):Aa.H4.Kn :=
 Am (A5 hk _ _ _) func246 (by kernel_rfl) (by kernel_rfl) h
def Aa.F4.Bf:List (Nat × Entry):=[(193,Aa.get.spec)]
def Aa.F4.E:Env:=Bk (Be Aa.F4.Bf) (fun _=>false) (fun _=>none) (fun _=>none)
theorem Aa.F4.ev (N:Nat) (i k:Int) (r c:Int) (l:List Int):B6 Aa.F4.E N f220 (As f220) [.int .i64 i,.int .i64 k,.cellp [.int .i64 r,.int .i64 c,.ints .arg .u64 l]]=bif (Ha r c l k i) then some (.int .u64 (Cp c l k i)) else none:=by kernel_rfl
abbrev _root_.Go.Proofs.S1.Aa.F4.Kn:=A9 prog 220 Aa.F4.spec
theorem Aa.F4.Ae (hk:A3 prog Aa.F4.Bf) (h:Hyp Aa.F4.E f220 Aa.F4.ts Aa.F4.pre Aa.F4.out):Aa.F4.Kn :=
 Am (A5 hk _ _ _) func220 (by kernel_rfl) (by kernel_rfl) h
def Aa.F5.Bf:List (Nat × Entry):=[(193,Aa.get.spec)]
def Aa.F5.E:Env:=Bk (Be Aa.F5.Bf) (fun _=>false) (fun _=>none) (fun _=>none)
theorem Aa.F5.ev (N:Nat) (i k:Int) (r c:Int) (l:List Int) (x y:Int):B6 Aa.F5.E N f192 (As f192) [.int .i64 i,.int .i64 k,.cellp [.int .i64 r,.int .i64 c,.ints .arg .u64 l],.cellp [.int .i64 x],.cellp [.int .i64 y]]=bif (Ha r c l (Ad (x+i)) (Ad (y+k))) then some (.int .u64 (Cp c l (Ad (x+i)) (Ad (y+k)))) else none:=by kernel_rfl
abbrev _root_.Go.Proofs.S1.Aa.F5.Kn:=A9 prog 192 Aa.F5.spec
theorem Aa.F5.Ae (hk:A3 prog Aa.F5.Bf) (h:Hyp Aa.F5.E f192 Aa.F5.ts Aa.F5.pre Aa.F5.out):Aa.F5.Kn :=
 Am (A5 hk _ _ _) func192 (by kernel_rfl) (by kernel_rfl) h
def Aa.Et.Bf:List (Nat × Entry):=[(193,Aa.get.spec)]
def Aa.Et.E:Env:=Bk (Be Aa.Et.Bf) (fun _=>false) (fun _=>none) (fun _=>none)
theorem Aa.Et.ev (N:Nat) (i k:Int) (r c:Int) (l:List Int) (p q:Int) (m:List Int):B6 Aa.Et.E N f195 (As f195) [.int .i64 i,.int .i64 k,.cellp [.int .i64 r,.int .i64 c,.ints .arg .u64 l],.cellp [.int .i64 p,.int .i64 q,.ints .arg .u64 m]]=bif (Bc i r) then bif (Ha r c l i k) then some (.int .u64 (Cp c l i k)) else none else bif (Ha p q m (Ad (i-r)) k) then some (.int .u64 (Cp q m (Ad (i-r)) k)) else none:=by kernel_rfl
abbrev _root_.Go.Proofs.S1.Aa.Et.Kn:=A9 prog 195 Aa.Et.spec
theorem Aa.Et.Ae (hk:A3 prog Aa.Et.Bf) (h:Hyp Aa.Et.E f195 Aa.Et.ts Aa.Et.pre Aa.Et.out):Aa.Et.Kn :=
 Am (A5 hk _ _ _) func195 (by kernel_rfl) (by kernel_rfl) h
def Aa.H2.Bf:List (Nat × Entry):=[(191,Aa.D2.spec),(190,Aa.Row.spec),(189,Ac.Hn.spec)]
def Aa.H2.E:Env:=Bk (Be Aa.H2.Bf) (fun _=>false) (fun _=>none) (fun _=>none)
theorem Aa.H2.ev (N:Nat) (i k:Int) (r c:Int) (l:List Int) (p q:Int) (m:List Int):B6 Aa.H2.E N f188 (As f188) [.int .i64 i,.int .i64 k,.cellp [.int .i64 r,.int .i64 c,.ints .arg .u64 l],.cellp [.int .i64 p,.int .i64 q,.ints .arg .u64 m]]=bif (Rk r c l i&&decide ((0:Int)=0)) then bif (G9 p q m k&&Cr (0≤(0:Int)∧(0:Int)≤p)) then bif ((Z4 (G7 c l i) (B4 q m k 0 (toNat (p-0)))&&Ak (G7 c l i))&&Ak (B4 q m k 0 (toNat (p-0)))) then some (.int .u64 (M5 (G7 c l i) (B4 q m k 0 (toNat (p-0))))) else none else none else none :=
 Eq.trans (by kernel_rfl)
 (C5 (Cn _) (C5 (Cn _) (C5 (Cn _) rfl rfl) rfl) rfl)
abbrev _root_.Go.Proofs.S1.Aa.H2.Kn:=A9 prog 188 Aa.H2.spec
theorem Aa.H2.Ae (hk:A3 prog Aa.H2.Bf) (h:Hyp Aa.H2.E f188 Aa.H2.ts Aa.H2.pre Aa.H2.out):Aa.H2.Kn :=
 Am (A5 hk _ _ _) func188 (by kernel_rfl) (by kernel_rfl) h
end EqMat
open Go Go.Den Go.Cv Go.Proofs
open EqMat
theorem K0 {a b:Int} (h1:0≤a) (h2:a<20) (h3:0≤b) (h4:b<20):0≤a*b∧a*b<400:=by
 have:=Int.mul_nonneg h1 h3
 have h5:a*b≤19*19:=Int.mul_le_mul (by omega) (by omega) h3 (by omega)
 omega
theorem Aa.size.known:Aa.size.Kn:=Aa.size.Ae .nil fun n _=>by
 refine ⟨0,Aa.size.out [.i n],[],?_,.bool⟩
 have e:(bif (E8 (0:Int) n) then (E8 n (6:Int)) else false)=Br n:=by
  unfold Br
  rw [Fe,Fe]
  cases decide (0≤n)<;>rfl
 rw [Aa.size.ev,e]; rfl
theorem Akc (r c:Int) (l:List Int):(((!(Br r))||(!(Br c)))||((length l:Int) !=(Ad (r*c))))=!(Az r c l):=by
 unfold Az
 cases h1:Br r with
 | false=>rfl
 | true =>
   cases h2:Br c with
   | false=>rfl
   | true =>
     obtain ⟨r1,r2⟩:=Jc.1 h1
     obtain ⟨c1,c2⟩:=Jc.1 h2
     have:=K0 (a:=r) (b:=c) r1 (by omega) c1 (by omega)
     rw [Ar (by omega) (by omega),A8n]
     simp
theorem Aa.Check.known:Aa.Check.Kn:=Aa.Check.Ae (.cons Aa.size.known .nil) fun r c l _=>by
 refine ⟨0,Aa.Check.out [.i r,.i c,.l l],[],?_,.int⟩
 rw [Aa.Check.ev,Akc]
 show _=some (DV.int .i64 (N6 r c l))
 unfold N6
 cases Az r c l<;>rfl
theorem Oq {c i k:Int} {l:List Int} {R:Int} (h:Ha R c l i k=true):Ad (Ad (i*c)+k)=i*c+k∧0≤i*c+k∧i*c+k<l.length:=by
 obtain ⟨h1,h2,h3,h4,h5,h6,h7,_⟩:=Ao.1 h
 have:=K0 h1 (by omega) h5 (by omega)
 rw [Ar (x:=i*c) (by omega) (by omega),Ar (by omega) (by omega)]
 omega
theorem Aa.get.known:Aa.get.Kn:=Aa.get.Ae .nil fun r c l i k hp=>by
 obtain ⟨e,h1,h2⟩:=Oq (R:=r) (show Ha r c l i k=true from hp)
 refine ⟨0,Aa.get.out [.i r,.i c,.l l,.i i,.i k],[],?_,.int⟩
 rw [Aa.get.ev,e,A78 h1,A78 h2]
 rfl
theorem V4 (r c:Int) (l:List Int):((N6 r c l) !=(0:Int))=!(Az r c l):=by
 unfold N6
 cases Az r c l<;>rfl
theorem Aa.two.known:Aa.two.Kn:=Aa.two.Ae (.cons Aa.Check.known .nil) fun r c l p q m _=>by
 refine ⟨0,Aa.two.out [.i r,.i c,.l l,.i p,.i q,.l m],[],?_,.int⟩
 rw [Aa.two.ev,V4,V4]
 show _=some (DV.int .i64 (Aba r c l p q m))
 unfold Aba
 cases Az r c l<;>cases Az p q m<;>rfl
theorem Aa.Row.known:Aa.Row.Kn:=Aa.Row.Ae .nil fun r c l i f hp=>by
 obtain ⟨h0,hf⟩:=Af.1 hp
 obtain rfl:=A8x hf
 obtain ⟨hr,hi⟩:=Af.1 h0
 have hi:=Ao.1 hi
 obtain ⟨R,C,rfl,rfl,r6,c6,hl⟩:=Dl hr
 obtain ⟨I,rfl⟩:∃ k:Nat,i=k:=⟨i.toNat,by omega⟩
 have hm:=K0 (a:=(I:Int)) (b:=(C:Int)) (by omega) (by omega) (by omega) (by omega)
 have hm2:=K0 (a:=(I:Int)+1) (b:=(C:Int)) (by omega) (by omega) (by omega) (by omega)
 have hle:(I+1)*C≤R*C:=A8j C (by omega)
 have hle2:I*C≤(I+1)*C:=A8j C (by omega)
 have e1:(I:Int)*(C:Int)=((I*C:Nat):Int):=(A8s _ _).symm
 have e2:((I:Int)+1)*(C:Int)=(((I+1)*C:Nat):Int):=by rw [A8s]; rfl
 refine ⟨0,.ints (.own 22 tB) .u64 (G7 (C:Int) l (I:Int)),[22],?_,.drop _ _ _ _ (List.mem_singleton.2 rfl)⟩
 rw [Aa.Row.ev,Ar (x:=(I:Int)+1) (by omega) (by omega),Ar (x:=(I:Int)*(C:Int)) (by omega) (by omega),Int.add_zero,Ar (x:=(I:Int)*(C:Int)) (by omega) (by omega),Ar (x:=((I:Int)+1)*(C:Int)) (by omega) (by omega)]
 unfold G7
 have d1:decide ((0:Int)≤(I:Int)*(C:Int))=true:=A78 (by omega)
 have d2:decide ((I:Int)*(C:Int)≤((I:Int)+1)*(C:Int))=true:=A78 (by rw [e1,e2]; omega)
 have d3:decide ((0:Int)≤((I:Int)+1)*(C:Int))=true:=A78 (by omega)
 have d4:decide (((I:Int)+1)*(C:Int)≤(l.length:Int))=true:=A78 (by rw [e2]; omega)
 have d5:decide (0+(List.drop ((I:Int)*(C:Int)).toNat (List.take (((I:Int)+1)*(C:Int)).toNat l)).length≤Im)=true:=by
  refine A78 ?_
  rw [List.length_drop,List.length_take]
  unfold Im
  omega
 rw [d1,d2,d3,d4,d5]
 rfl
theorem Ks (c b i:Int) (n:Nat) (l:List Int):(B4 c l b i n).length=n:=by unfold B4; rw [A9d,A9a]
theorem Azn (r c:Int) (l:List Int) (k:Int):B4 c l k 0 (toNat (r-0))=Sn r c l k:=by
 unfold B4 Sn
 rw [Int.sub_zero]
 refine List.map_congr_left fun j _=>?_
 rw [Int.zero_add]
theorem Akp {r:Int} (h:0≤r):Cr (0≤(0:Int)∧0≤r)=true:=Ao.2 ⟨Int.le_refl _,h⟩
theorem Awe (N:Nat) {R C K f:Nat} {l:List Int} (r6:R≤6) (c6:C≤6) (hl:l.length=R*C) (hk:K<C):∀ (k i F:Nat),f+i+k=R→k<F →
 Aa.D2.L0 N F (R:Int) (C:Int) l (K:Int) ((f+i:Nat):Int) (B4 (C:Int) l (K:Int) (f:Int) i)=some (.ints (.own 100007 tB) .u64 (B4 (C:Int) l (K:Int) (f:Int) (R-f))):=by
 intro k
 induction k with
 | zero =>
   intro i F hi hF
   obtain ⟨F,rfl⟩:∃ G,F=G+1:=⟨F-1,by omega⟩
   rw [Aa.D2.A1,Aw,A8c (by omega),A8b,show R-f=i by omega]
 | succ k ih =>
   intro i F hi hF
   obtain ⟨F,rfl⟩:∃ G,F=G+1:=⟨F-1,by omega⟩
   have d:decide ((B4 (C:Int) l (K:Int) (f:Int) i).length+1≤Im)=true:=A78 (by rw [Ks]; unfold Im; omega)
   rw [Aa.D2.A1,Aw,A78 (by omega),A77,Jn r6 c6 hl (show f+i<R by omega) hk,A77,d,A77,Ar (by omega) (by omega)]
   have:=ih (i+1) F (by omega) (by omega)
   unfold B4 at this ⊢
   rw [List.range_succ,List.map_append] at this
   exact this
theorem Aa.D2.known:Aa.D2.Kn:=Aa.D2.Ae (.cons Aa.get.known .nil) fun r c l k f hp=>by
 obtain ⟨h0,hf⟩:=Af.1 (show (G9 r c l k&&Cr (0≤f∧f≤r))=true from hp)
 have hf:=Ao.1 hf
 obtain ⟨hr,hi⟩:=Af.1 h0
 have hi:=Ao.1 hi
 obtain ⟨R,C,rfl,rfl,r6,c6,hl⟩:=Dl hr
 obtain ⟨K,rfl⟩:∃ j:Nat,k=j:=⟨k.toNat,by omega⟩
 obtain ⟨f,rfl⟩:∃ j:Nat,f=j:=⟨f.toNat,by omega⟩
 refine ⟨8,.ints (.own 100007 tB) .u64 (B4 (C:Int) l (K:Int) (f:Int) (R-f)),[100007],?_,?_⟩
 ·rw [Aa.D2.ev]
  exact Awe 8 r6 c6 hl (by omega) (R-f) 0 8 (by omega) (by omega)
 ·show Wk _ _ (DV.ints .fresh .u64 (B4 (C:Int) l (K:Int) (f:Int) (toNat ((R:Int)-(f:Int)))))
  rw [show toNat ((R:Int)-(f:Int))=R-f by omega]
  exact .drop _ _ _ _ (List.mem_singleton.2 rfl)
theorem Qc {r c i k:Int} {l:List Int} (h:Az r c l=true) (h1:0≤i) (h2:i<r) (h3:0≤k) (h4:k<c) (R:Int):Ha R c l i k=true:=by
 obtain ⟨R',C,rfl,rfl,r6,c6,hl⟩:=Dl h
 obtain ⟨I,rfl⟩:∃ j:Nat,i=j:=⟨i.toNat,by omega⟩
 obtain ⟨K,rfl⟩:∃ j:Nat,k=j:=⟨k.toNat,by omega⟩
 exact Jn r6 c6 hl (by omega) (by omega)
theorem Aa.Ej.known:Aa.Ej.Kn:=Aa.Ej.Ae .nil fun i k _=>by
 refine ⟨0,Aa.Ej.out [.i i,.i k],[],?_,.int⟩
 rw [Aa.Ej.ev]; rfl
theorem Aa.H4.known:Aa.H4.Kn:=Aa.H4.Ae .nil fun i k _=>by
 refine ⟨0,Aa.H4.out [.i i,.i k],[],?_,.int⟩
 rw [Aa.H4.ev]
 show _=some (DV.int .u64 (V0 i k))
 unfold V0
 by_cases h:i=k
 ·have:(i==k)=true:=by rw [h]; simp
  rw [this,A8u h]; rfl
 ·have:(i==k)=false:=by simpa using h
  rw [this,A8t h]; rfl
theorem Aa.F4.known:Aa.F4.Kn:=Aa.F4.Ae (.cons Aa.get.known .nil) fun i k r c l hp=>by
 have hp:Ha r c l k i=true:=hp
 refine ⟨0,Aa.F4.out [.i i,.i k,.i r,.i c,.l l],[],?_,.int⟩
 rw [Aa.F4.ev,hp]; rfl
theorem Aa.F5.known:Aa.F5.Kn:=Aa.F5.Ae (.cons Aa.get.known .nil) fun i k r c l x y hp=>by
 obtain ⟨h1,h2⟩:=Af.1 hp
 have h2:=Ao.1 h2
 refine ⟨0,Aa.F5.out [.i i,.i k,.i r,.i c,.l l,.i x,.i y],[],?_,.int⟩
 rw [Aa.F5.ev,Ar (x:=x+i) (by omega) (by omega),Ar (x:=y+k) (by omega) (by omega),h1]; rfl
theorem Aa.Et.known:Aa.Et.Kn:=Aa.Et.Ae (.cons Aa.get.known .nil) fun i k r c l p q m hp=>by
 obtain ⟨h1,h2,h3,h4,h5⟩:=Ao.1 (show Qu r c l p q m i k=true from hp)
 refine ⟨0,Aa.Et.out [.i i,.i k,.i r,.i c,.l l,.i p,.i q,.l m],[],?_,.int⟩
 show _=some (DV.int .u64 (J5 r c l q m i k))
 rw [Aa.Et.ev,Aw,Ar (x:=i-r) (by omega) (by omega)]
 unfold J5
 by_cases h:i<r
 ·rw [A8u h] at h5
  rw [A78 h,A77,h5,A77,A8u h]
 ·rw [A8t h] at h5
  rw [A8c h,A8b,h5,A77,A8t h]
theorem Vk {R C:Nat} {l:List Int} (hl:l.length=R*C) {I:Nat} (hi:I<R):(G7 (C:Int) l (I:Int)).length=C:=by
 have hle:(I+1)*C≤R*C:=A8j C (by omega)
 have e1:((I:Int)*(C:Int)).toNat=I*C:=by rw [← A8s,A79]
 have e2:(((I:Int)+1)*(C:Int)).toNat=(I+1)*C:=by
  have:((I:Int)+1)*(C:Int)=(((I+1)*C:Nat):Int):=by rw [A8s]; rfl
  rw [this,A79]
 unfold G7
 rw [List.length_drop,List.length_take,e1,e2]
 rw [A9b,Nat.one_mul] at hle ⊢
 omega
theorem Amu (R:Nat) (C:Int) (l:List Int) (K:Int):(Sn (R:Int) C l K).length=R:=by
 unfold Sn
 rw [A9d,A9a,A79]
theorem Ayc {c i:Int} {l:List Int} (h:Ak l=true):Ak (G7 c l i)=true:=by
 have h:=Ao.1 h
 exact Ao.2 fun x hx=>h x (List.mem_of_mem_take (List.mem_of_mem_drop hx))
theorem Sa {c i k:Int} {l:List Int} (h:Ak l=true):Al (Cp c l i k)=true:=by
 unfold Cp
 by_cases hj:(i*c+k).toNat<l.length
 ·exact I8 h hj
 ·rw [A8h,A9p (by omega)]
  exact Co (n:=0) (by decide)
theorem Azo {r c k:Int} {l:List Int} (h:Ak l=true):Ak (Sn r c l k)=true:=by
 refine Ao.2 fun x hx=>?_
 obtain ⟨j,_,rfl⟩:=List.mem_map.1 hx
 exact Sa h
theorem Aa.H2.known:Aa.H2.Kn:=Aa.H2.Ae (.cons Aa.D2.known (.cons Aa.Row.known (.cons Ac.Hn.known .nil))) fun i k r c l p q m hp=>by
 obtain ⟨h1,h2⟩:=Af.1 (show Ym r c l p q m i k=true from hp)
 obtain ⟨h3,h4⟩:=Af.1 h1
 obtain ⟨h5,h6⟩:=Af.1 h2
 obtain ⟨hl,hm⟩:=Af.1 h5
 obtain rfl:=Ao.1 h6
 obtain ⟨hr,hi⟩:=Af.1 h3
 have hi:=Ao.1 hi
 obtain ⟨R,C,rfl,rfl,r6,c6,ll⟩:=Dl hr
 obtain ⟨I,rfl⟩:∃ j:Nat,i=j:=⟨i.toNat,by omega⟩
 refine ⟨0,Aa.H2.out [.i I,.i k,.i R,.i C,.l l,.i C,.i q,.l m],[],?_,.int⟩
 have hf:Z4 (G7 (C:Int) l (I:Int)) (Sn (C:Int) q m k)=true:=Ahb.2 ⟨by rw [Vk ll (by omega),Amu],by rw [Vk ll (by omega)]; omega⟩
 rw [Aa.H2.ev,Azn,h3,h4,hf,Ayc hl,Azo hm,Akp (by omega)]
 rfl
open Go Go.Den Go.Cv Go.Proofs
set_option maxRecDepth 100000
namespace EqCmp
def compare.Ms.Bf:List (Nat × Entry):=[(213,soft.Sign.spec)]
def compare.Ms.E:Env:=Bk (Be compare.Ms.Bf) (fun _=>false) (fun _=>none) (fun _=>none)
theorem compare.Ms.ev (N:Nat) (b:Int):B6 compare.Ms.E N f214 (As f214) [.int .u64 b]=bif (Al b) then bif (Em b) then some (.int .i64 (Ad (0-(Ad (Us .u64 b 9223372036854775808))))) else some (.int .i64 (Ad b)) else none:=by kernel_rfl
abbrev _root_.Go.Proofs.S1.compare.Ms.Kn:=A9 prog 214 compare.Ms.spec
theorem compare.Ms.Ae (hk:A3 prog compare.Ms.Bf) (h:Hyp compare.Ms.E f214 compare.Ms.ts compare.Ms.pre compare.Ms.out):compare.Ms.Kn :=
 Am (A5 hk _ _ _) func214 (by kernel_rfl) (by kernel_rfl) h
def compare.Order.Bf:List (Nat × Entry):=[(214,compare.Ms.spec),(155,soft.Kind.spec)]
def compare.Order.E:Env:=Bk (Be compare.Order.Bf) (fun _=>false) (fun _=>none) (fun _=>none)
theorem compare.Order.ev (N:Nat) (a b:Int):B6 compare.Order.E N f162 (As f162) [.int .u64 a,.int .u64 b]=bif (Al a) then bif ((A7 a)==(4:Int)) then some (.tup [.int .i64 0,.bool false]) else bif (Al b) then bif ((A7 b)==(4:Int)) then some (.tup [.int .i64 0,.bool false]) else bif (Al a) then bif (Al b) then bif (Bc (Aet a) (Aet b)) then some (.tup [.int .i64 (-1:Int),.bool true]) else bif (Al a) then bif (Al b) then bif (Bc (Aet b) (Aet a)) then some (.tup [.int .i64 1,.bool true]) else some (.tup [.int .i64 0,.bool true]) else none else none else none else none else none else none:=by kernel_rfl
abbrev _root_.Go.Proofs.S1.compare.Order.Kn:=A9 prog 162 compare.Order.spec
theorem compare.Order.Ae (hk:A3 prog compare.Order.Bf) (h:Hyp compare.Order.E f162 compare.Order.ts compare.Order.pre compare.Order.out):compare.Order.Kn :=
 Am (A5 hk _ _ _) func162 (by kernel_rfl) (by kernel_rfl) h
def compare.M8.Bf:List (Nat × Entry):=[(162,compare.Order.spec)]
def compare.M8.E:Env:=Bk (Be compare.M8.Bf) (fun _=>false) (fun _=>none) (fun _=>none)
theorem compare.M8.ev (N:Nat) (a b:Int):B6 compare.M8.E N f90 (As f90) [.int .u64 a,.int .u64 b]=bif (Al a&&Al b) then some (.bool (Bc (Yk a b) 0)) else none:=by kernel_rfl
abbrev _root_.Go.Proofs.S1.compare.M8.Kn:=A9 prog 90 compare.M8.spec
theorem compare.M8.Ae (hk:A3 prog compare.M8.Bf) (h:Hyp compare.M8.E f90 compare.M8.ts compare.M8.pre compare.M8.out):compare.M8.Kn :=
 Am (A5 hk _ _ _) func90 (by kernel_rfl) (by kernel_rfl) h
def compare.X6.Bf:List (Nat × Entry):=[]
def compare.X6.E:Env:=Bk (Be compare.X6.Bf) (fun _=>false) (fun _=>none) (fun _=>none)
theorem compare.X6.ev (N:Nat) (a:Int):B6 compare.X6.E N f87 (As f87) [.int .u64 a]=some (.int .u64 (Us .u64 a 9223372036854775808)):=by kernel_rfl
abbrev _root_.Go.Proofs.S1.compare.X6.Kn:=A9 prog 87 compare.X6.spec
theorem compare.X6.Ae (hk:A3 prog compare.X6.Bf) (h:Hyp compare.X6.E f87 compare.X6.ts compare.X6.pre compare.X6.out):compare.X6.Kn :=
 Am (A5 hk _ _ _) func87 (by kernel_rfl) (by kernel_rfl) h
def compare.Cq.hint:Nat→Option Bh
 | 1=>some { keep:=[0,6,7,8],objs:=[],boxes:=[] }
 | _=>none
def compare.Cq.Bf:List (Nat × Entry):=[(155,soft.Kind.spec),(212,soft.Dn.spec),(211,soft.Gh.spec),(213,soft.Sign.spec)]
def compare.Cq.E:Env:=Bk (Be compare.Cq.Bf) (fun _=>false) compare.Cq.hint (fun _=>none)
section
variable (N M:Nat) (a n p6 p7:Int) (p8:Bool)
def compare.Cq.L0:Option DV:=Cd compare.Cq.E N f161 (As f161) [1,1,1,1,1,1,0,0] [] M ⟨Il 59 [(0,.int .u64 a),(6,.int .u64 p6),(7,.int .i64 p7),(8,.bool p8)],[]⟩
theorem compare.Cq.A1:compare.Cq.L0 N (M+1) a p6 p7 p8=bif ((Bc p7 (-1130:Int))&&(Bc 1 p6)) then compare.Cq.L0 N M a (Eb .u64 p6 1) (Ad (p7+1)) (bif p8 then true else ((Hd .u64 p6 1)==(1:Int))) else bif (Bc p7 (-1130:Int)) then bif (Al a) then bif (E0 0 (-1074:Int) true) then some (.tup [.int .u64 (Fj (Em a) 0 (-1074:Int) true),.int .u8 (Fi (Em a) 0 (-1074:Int) true)]) else none else none else bif (Al a) then bif (E0 p6 p7 p8) then some (.tup [.int .u64 (Fj (Em a) p6 p7 p8),.int .u8 (Fi (Em a) p6 p7 p8)]) else none else none :=
 Eq.trans (by kernel_rfl)
 (Ay (Sy (Bc p7 (-1130:Int))) (Ay (O4 (Bc p7 (-1130:Int))) (Ay (Zb (Bc p7 (-1130:Int))) (C5 (tt1 _ _) (Ay (Za p8) (Ay (Vh p8) (Ay (Vh p8) (Ay (tt6 p8) rfl)))) rfl))))
theorem compare.Cq.ev:B6 compare.Cq.E N f161 (As f161) [.int .u64 a,.int .i64 n]=bif (Al a) then bif ((A7 a)==(4:Int)) then some (.tup [.int .u64 9221120237041090560,.int .u8 0]) else bif ((A7 a)==(3:Int)) then bif ((A7 a)==(3:Int)) then some (.tup [.int .u64 a,.int .u8 0]) else bif (Al a) then compare.Cq.L0 N N a (Bu a) (Ad ((Bi a)+(max (-2300:Int) (min 2300 n)))) false else none else bif ((A7 a)==(0:Int)) then some (.tup [.int .u64 a,.int .u8 0]) else bif (Al a) then compare.Cq.L0 N N a (Bu a) (Ad ((Bi a)+(max (-2300:Int) (min 2300 n)))) false else none else none:=by kernel_rfl
end
abbrev _root_.Go.Proofs.S1.compare.Cq.Kn:=A9 prog 161 compare.Cq.spec
theorem compare.Cq.Ae (hk:A3 prog compare.Cq.Bf) (h:Hyp compare.Cq.E f161 compare.Cq.ts compare.Cq.pre compare.Cq.out):compare.Cq.Kn :=
 Am (A5 hk _ _ _) func161 (by kernel_rfl) (by kernel_rfl) h
def Ac.B9.Bf:List (Nat × Entry):=[(161,compare.Cq.spec)]
def Ac.B9.E:Env:=Bk (Be Ac.B9.Bf) (fun _=>false) (fun _=>none) (fun _=>none)
theorem Ac.B9.ev (N:Nat) (a n:Int):B6 Ac.B9.E N f88 (As f88) [.int .u64 a,.int .i64 n]=bif (Gt a n) then some (.int .u64 (Ch a n)) else none:=by kernel_rfl
abbrev _root_.Go.Proofs.S1.Ac.B9.Kn:=A9 prog 88 Ac.B9.spec
theorem Ac.B9.Ae (hk:A3 prog Ac.B9.Bf) (h:Hyp Ac.B9.E f88 Ac.B9.ts Ac.B9.pre Ac.B9.out):Ac.B9.Kn :=
 Am (A5 hk _ _ _) func88 (by kernel_rfl) (by kernel_rfl) h
def Ac.Div.Bf:List (Nat × Entry):=[(209,times.Div.spec)]
def Ac.Div.E:Env:=Bk (Be Ac.Div.Bf) (fun _=>false) (fun _=>none) (fun _=>none)
theorem Ac.Div.ev (N:Nat) (a b:Int):B6 Ac.Div.E N f158 (As f158) [.int .u64 a,.int .u64 b]=bif (Al a&&Al b) then some (.int .u64 (Hr a b)) else none:=by kernel_rfl
abbrev _root_.Go.Proofs.S1.Ac.Div.Kn:=A9 prog 158 Ac.Div.spec
theorem Ac.Div.Ae (hk:A3 prog Ac.Div.Bf) (h:Hyp Ac.Div.E f158 Ac.Div.ts Ac.Div.pre Ac.Div.out):Ac.Div.Kn :=
 Am (A5 hk _ _ _) func158 (by kernel_rfl) (by kernel_rfl) h
def Ac.C6.hint:Nat→Option Bh
 | 0=>some { keep:=[3,6,7,8],objs:=[],boxes:=[] }
 | _=>none
def Ac.C6.Bf:List (Nat × Entry):=[(87,compare.X6.spec),(155,soft.Kind.spec)]
def Ac.C6.E:Env:=Bk (Be Ac.C6.Bf) (fun _=>false) Ac.C6.hint (fun _=>none)
section
variable (N M:Nat) (x:List Int) (p3 p8:Int)
def Ac.C6.L0:Option DV:=Cd Ac.C6.E N f89 (As f89) [1,1,0,1,0] [] M ⟨Il 21 [(3,.int .u64 p3),(6,.ints .arg .u64 x),(7,.int .i64 (length x:Int)),(8,.int .i64 p8)],[]⟩
theorem Ac.C6.A1:Ac.C6.L0 N (M+1) x p3 p8=bif (Bc p8 (length x:Int)) then bif ((decide (0≤p8))&&(decide (p8<(length x:Int)))) then bif (Al (getD x (toNat p8) 0)) then bif ((A7 (getD x (toNat p8) 0))==(4:Int)) then some (.int .u64 9221120237041090560) else bif (Al (getD x (toNat p8) 0)) then Ac.C6.L0 N M x (max p3 (Tg (getD x (toNat p8) 0))) (Ad (p8+1)) else none else none else none else some (.int .u64 p3):=by kernel_rfl
theorem Ac.C6.ev:B6 Ac.C6.E N f89 (As f89) [.ints .arg .u64 x] =
 Ac.C6.L0 N N x 0 0:=by kernel_rfl
end
abbrev _root_.Go.Proofs.S1.Ac.C6.Kn:=A9 prog 89 Ac.C6.spec
theorem Ac.C6.Ae (hk:A3 prog Ac.C6.Bf) (h:Hyp Ac.C6.E f89 Ac.C6.ts Ac.C6.pre Ac.C6.out):Ac.C6.Kn :=
 Am (A5 hk _ _ _) func89 (by kernel_rfl) (by kernel_rfl) h
def Ac.Finite.hint:Nat→Option Bh
 | 0=>some { keep:=[5,6,7],objs:=[],boxes:=[] }
 | _=>none
def Ac.Finite.Bf:List (Nat × Entry):=[(148,soft.Finite.spec)]
def Ac.Finite.E:Env:=Bk (Be Ac.Finite.Bf) (fun _=>false) Ac.Finite.hint (fun _=>none)
section
variable (N M:Nat) (x:List Int) (p7:Int)
def Ac.Finite.L0:Option DV:=Cd Ac.Finite.E N f150 (As f150) [1,0,1,0] [] M ⟨Il 15 [(5,.ints .arg .u64 x),(6,.int .i64 (length x:Int)),(7,.int .i64 p7)],[]⟩
theorem Ac.Finite.A1:Ac.Finite.L0 N (M+1) x p7=bif (Bc p7 (length x:Int)) then bif ((decide (0≤p7))&&(decide (p7<(length x:Int)))) then bif (Al (getD x (toNat p7) 0)) then bif (!(Dk (getD x (toNat p7) 0))) then some (.bool false) else Ac.Finite.L0 N M x (Ad (p7+1)) else none else none else some (.bool true):=by kernel_rfl
theorem Ac.Finite.ev:B6 Ac.Finite.E N f150 (As f150) [.ints .arg .u64 x] =
 Ac.Finite.L0 N N x 0:=by kernel_rfl
end
abbrev _root_.Go.Proofs.S1.Ac.Finite.Kn:=A9 prog 150 Ac.Finite.spec
theorem Ac.Finite.Ae (hk:A3 prog Ac.Finite.Bf) (h:Hyp Ac.Finite.E f150 Ac.Finite.ts Ac.Finite.pre Ac.Finite.out):Ac.Finite.Kn :=
 Am (A5 hk _ _ _) func150 (by kernel_rfl) (by kernel_rfl) h
def Cz.Check.hint:Nat→Option Bh
 | 0=>some { keep:=[9,10,11],objs:=[],boxes:=[] }
 | _=>none
def Cz.Check.Bf:List (Nat × Entry):=[(160,Aa.Check.spec),(148,soft.Finite.spec)]
def Cz.Check.E:Env:=Bk (Be Cz.Check.Bf) (fun _=>false) Cz.Check.hint (fun _=>none)
section
variable (N:Nat) (r c:Int) (M:Nat) (l:List Int) (p11:Int)
def Cz.Check.L0:Option DV:=Cd Cz.Check.E N f86 (As f86) [1,1,0,1,0] [] M ⟨Il 19 [(9,.ints .arg .u64 l),(10,.int .i64 (length l:Int)),(11,.int .i64 p11)],[]⟩
theorem Cz.Check.A1:Cz.Check.L0 N (M+1) l p11=bif (Bc p11 (length l:Int)) then bif ((decide (0≤p11))&&(decide (p11<(length l:Int)))) then bif (Al (getD l (toNat p11) 0)) then bif (!(Dk (getD l (toNat p11) 0))) then some (.int .i64 4) else Cz.Check.L0 N M l (Ad (p11+1)) else none else none else some (.int .i64 0):=by kernel_rfl
theorem Cz.Check.ev:B6 Cz.Check.E N f86 (As f86) [.agg [.int .i64 r,.int .i64 c,.ints .arg .u64 l]]=bif ((N6 r c l) !=(0:Int)) then some (.int .i64 1) else Cz.Check.L0 N N l 0:=by kernel_rfl
end
abbrev _root_.Go.Proofs.S1.Cz.Check.Kn:=A9 prog 86 Cz.Check.spec
theorem Cz.Check.Ae (hk:A3 prog Cz.Check.Bf) (h:Hyp Cz.Check.E f86 Cz.Check.ts Cz.Check.pre Cz.Check.out):Cz.Check.Kn :=
 Am (A5 hk _ _ _) func86 (by kernel_rfl) (by kernel_rfl) h
end EqCmp
open Go Go.Den Go.Cv Go.Proofs
open EqCmp
theorem Uf {k j:Nat} (h:k≠j):(((k:Nat):Int)==((j:Nat):Int))=false:=by rw [A82]; omega
theorem Afs (n:Nat):n%2^63<2^63:=Nat.mod_lt _ (by decide)
theorem Akg {n:Nat} (h:n<2^64):Us .u64 (n:Int) (9223372036854775808:Int)=((n%2^63:Nat):Int):=by
 have:=Se (Bp n) (Afs n)
 rw [Apt h] at this
 exact this
theorem compare.X6.known:compare.X6.Kn:=compare.X6.Ae .nil fun a hp=>by
 obtain ⟨n,rfl,hn⟩:=Ca (show Al a=true from hp)
 refine ⟨0,compare.X6.out [.i (n:Int)],[],?_,.int⟩
 show _=some (DV.int .u64 (((n:Int).toNat%2^63:Nat):Int))
 rw [compare.X6.ev,Akg hn,A79]
theorem compare.Ms.known:compare.Ms.Kn:=compare.Ms.Ae (.cons soft.Sign.known .nil) fun b hp=>by
 have hp:Al b=true:=hp
 obtain ⟨n,rfl,hn⟩:=Ca hp
 refine ⟨0,compare.Ms.out [.i (n:Int)],[],?_,.int⟩
 show _=some (DV.int .i64 (Jj (n:Int).toNat))
 have h63:=Afs n
 rw [compare.Ms.ev,hp,A77,Akg hn,A79]
 unfold Jj Ik Em
 rw [A79]
 cases hs:Bp n with
 | true =>
   rw [A77,A8u rfl,Ar (x:=((n%2^63:Nat):Int)) (by omega) (by omega),Ar (by omega) (by omega)]
   congr 2; omega
 | false =>
   have:n<2^63:=by
    unfold Bp at hs
    have:=of_decide_eq_false hs
    omega
   rw [A8b,A8t (by decide),A8k this,Ar (by omega) (by omega)]
theorem compare.Order.known:compare.Order.Kn:=compare.Order.Ae (.cons compare.Ms.known (.cons soft.Kind.known .nil)) fun a b hp=>by
 obtain ⟨ha,hb⟩:=Af.1 (show (Al a&&Al b)=true from hp)
 refine ⟨0,compare.Order.out [.i a,.i b],[],?_,Wk.Jp (.cons .int (.cons .bool .nil))⟩
 show _=some (DV.tup [.int .i64 (At1 a.toNat b.toNat),.bool (A1s a.toNat b.toNat)])
 rw [compare.Order.ev,ha,hb,A77,A77,A77,A77,A77,A77,Aw,Aw]
 unfold At1 A1s Aet A7
 by_cases h1:Aj a.toNat=4
 ·have e:(((Aj a.toNat:Nat):Int)==(4:Int))=true:=by rw [h1]; rfl
  rw [e,A77,A8u (.inl h1),A78 (.inl h1)]; rfl
 ·have e:(((Aj a.toNat:Nat):Int)==(4:Int))=false:=Uf h1
  rw [e,A8b]
  by_cases h2:Aj b.toNat=4
  ·have e:(((Aj b.toNat:Nat):Int)==(4:Int))=true:=by rw [h2]; rfl
   rw [e,A77,A8u (.inr h2),A78 (.inr h2)]; rfl
  ·have e:(((Aj b.toNat:Nat):Int)==(4:Int))=false:=Uf h2
   have hn:¬ (Aj a.toNat=4∨Aj b.toNat=4):=fun h=>h.elim h1 h2
   rw [e,A8b,A8t hn,A8c hn]
   by_cases h3:Jj a.toNat<Jj b.toNat
   ·rw [A78 h3,A8u h3]; rfl
   ·rw [A8c h3,A8t h3]
    by_cases h4:Jj b.toNat<Jj a.toNat
    ·rw [A78 h4,A8u h4]; rfl
    ·rw [A8c h4,A8t h4]; rfl
theorem compare.M8.known:compare.M8.Kn:=compare.M8.Ae (.cons compare.Order.known .nil) fun a b hp=>by
 have hp:(Al a&&Al b)=true:=hp
 refine ⟨0,compare.M8.out [.i a,.i b],[],?_,.bool⟩
 rw [compare.M8.ev,hp,Aw]; rfl
theorem Ale (N:Nat) {a:Int} (ha:Al a=true):∀ (k F m:Nat) (e:Int) (b:Bool),e=-1130-(k:Int)→k<F→m<2^53→(m≠0∨b=true)→-9000<e →
 compare.Cq.L0 N F a (m:Int) e b=some (.tup [.int .u64 (((Bx (Bp a.toNat) 0,3):Nat × Nat).1:Nat),.int .u8 (((Bx (Bp a.toNat) 0,3):Nat × Nat).2:Nat)]):=by
 have pre1:E0 (0:Int) (-1074:Int) true=true:=Ao.2 (by omega)
 intro k
 induction k with
 | zero =>
   intro F m e b he hF hm h0 _
   obtain ⟨F,rfl⟩:∃ G,F=G+1:=⟨F-1,by omega⟩
   have hlt:Bc e (-1130:Int)=false:=by rw [Aw]; exact A8c (by omega)
   have Uz:E0 (m:Int) e b=true:=Ao.2 (by omega)
   rw [compare.Cq.A1,hlt,Bool.false_and,A8b,A8b,ha,A77,Uz,A77]
   unfold Fj Fi Em
   rw [A79,Aqi _ hm h0 (by omega)]
 | succ k ih =>
   intro F m e b he hF hm h0 hb
   obtain ⟨F,rfl⟩:∃ G,F=G+1:=⟨F-1,by omega⟩
   have hlt:Bc e (-1130:Int)=true:=by rw [Aw]; exact A78 (by omega)
   rw [compare.Cq.A1,hlt,A9k,A77,Aw]
   by_cases h1:(1:Int)<(m:Int)
   ·have em:Eb .u64 (m:Int) (1:Int)=((m / 2^1:Nat):Int):=Ir .u64 m 1 (by decide)
    rw [A78 h1,A77,em,Ar (by omega) (by omega)]
    exact ih F (m / 2^1) (e+1) _ (by omega) (by omega) (by omega) (.inl (by omega)) (by omega)
   ·rw [A8c h1,A8b,ha,A77,pre1,A77]
    unfold Fj Fi Em
    rw [show (0:Int).toNat=0 from rfl,Aug]
theorem compare.Cq.known:compare.Cq.Kn:=compare.Cq.Ae (.cons soft.Kind.known (.cons soft.Dn.known (.cons soft.Gh.known (.cons soft.Sign.known .nil)))) fun a n hp=>by
 obtain ⟨ha,hn⟩:=Af.1 (show Gt a n=true from hp)
 have hn:=Ao.1 hn
 refine ⟨3000,compare.Cq.out [.i a,.i n],[],?_,Wk.Jp (.cons .int (.cons .int .nil))⟩
 show _=some (DV.tup [.int .u64 ((Cj a.toNat n).1:Nat),.int .u8 ((Cj a.toNat n).2:Nat)])
 have em:max (-2300:Int) (min (2300:Int) n)=n:=by omega
 have pE:=Cu a.toNat
 have pM:=Fx a.toNat
 have ee:Ad (Bi a+n)=Av a.toNat+n:=by unfold Bi; exact Ar (by omega) (by omega)
 rw [compare.Cq.ev,ha,A77,A77,em,ee]
 unfold A7
 by_cases h4:Aj a.toNat=4
 ·have e:(((Aj a.toNat:Nat):Int)==(4:Int))=true:=by rw [h4]; rfl
  rw [e,A77]
  unfold Cj
  rw [A8u h4]; rfl
 have e4:(((Aj a.toNat:Nat):Int)==(4:Int))=false:=Uf h4
 rw [e4,A8b]
 by_cases h3:Aj a.toNat=3
 ·have e:(((Aj a.toNat:Nat):Int)==(3:Int))=true:=by rw [h3]; rfl
  obtain ⟨k,rfl,hk⟩:=Ca ha
  rw [e,A77,A77]
  unfold Cj
  rw [A8t h4,A8u (.inl h3),A79]; rfl
 have e3:(((Aj a.toNat:Nat):Int)==(3:Int))=false:=Uf h3
 rw [e3,A8b]
 by_cases h0:Aj a.toNat=0
 ·have e:(((Aj a.toNat:Nat):Int)==(0:Int))=true:=by rw [h0]; rfl
  obtain ⟨k,rfl,hk⟩:=Ca ha
  rw [e,A77]
  unfold Cj
  rw [A8t h4,A8u (.inr h0),A79]; rfl
 have e0:(((Aj a.toNat:Nat):Int)==(0:Int))=false:=Uf h0
 have hk:¬ (Aj a.toNat=3∨Aj a.toNat=0):=fun h=>h.elim h3 h0
 have hm:An a.toNat≠0:=fun h=>h0 ((Da h3 h4).1 h)
 rw [e0,A8b]
 show compare.Cq.L0 3000 3000 a (An a.toNat:Nat) (Av a.toNat+n) false=_
 by_cases ht:Av a.toNat+n≤-1130
 ·rw [Ald h4 hk ht]
  exact Ale 3000 ha (-1130-(Av a.toNat+n)).toNat 3000 _ _ false (by omega) (by omega) (by omega) (.inl hm) (by omega)
 ·have hlt:Bc (Av a.toNat+n) (-1130:Int)=false:=by rw [Aw]; exact A8c (by omega)
  have Uz:E0 ((An a.toNat:Nat):Int) (Av a.toNat+n) false=true:=Ao.2 ⟨by omega,by omega,by omega,by omega,fun h=>by cases h⟩
  rw [Jq h4 hk,show (3000:Nat)=2999+1 from rfl,compare.Cq.A1,hlt,Bool.false_and,A8b,A8b,ha,A77,Uz,A77]
  unfold Fj Fi Em
  rw [A79,Zm]
theorem Ac.B9.known:Ac.B9.Kn:=Ac.B9.Ae (.cons compare.Cq.known .nil) fun a n hp=>by
 have hp:Gt a n=true:=hp
 refine ⟨0,Ac.B9.out [.i a,.i n],[],?_,.int⟩
 rw [Ac.B9.ev,hp]; rfl
theorem Ac.Div.known:Ac.Div.Kn:=Ac.Div.Ae (.cons times.Div.known .nil) fun a b hp=>by
 have hp:(Al a&&Al b)=true:=hp
 refine ⟨0,Ac.Div.out [.i a,.i b],[],?_,.int⟩
 rw [Ac.Div.ev,hp]; rfl
theorem Le {l:List Int} {i:Nat} (h:i<l.length):l.drop i=l.getD i 0::l.drop (i+1):=by
 rw [List.drop_eq_getElem_cons h,A8h,A8o h]; rfl
theorem Oh {l:List Int} (h:Dp l=true):l.length<4611686018427387904∧∀ j,j<l.length→Al (l.getD j 0)=true:=by
 obtain ⟨h1,h2⟩:=Ao.1 h
 exact ⟨h1,fun j hj=>by rw [A8h,A8o hj]; exact h2 _ (List.getElem_mem hj)⟩
theorem Mt {l:List Int} (h:Ak l=true) (hl:l.length≤1000):Dp l=true:=Ao.2 ⟨by omega,Ao.1 h⟩
theorem Aj2 (N:Nat) {x:List Int} (hx:Dp x=true):∀ (k i F:Nat),i+k=x.length→k<F→Ac.Finite.L0 N F x (i:Int)=some (.bool ((x.drop i).all Dk)):=by
 obtain ⟨hl,hu⟩:=Oh hx
 intro k
 induction k with
 | zero =>
   intro i F hi hF
   obtain ⟨F,rfl⟩:∃ G,F=G+1:=⟨F-1,by omega⟩
   rw [Ac.Finite.A1,Aw,A8c (by omega),A8b,A8l (by omega)]; rfl
 | succ k ih =>
   intro i F hi hF
   obtain ⟨F,rfl⟩:∃ G,F=G+1:=⟨F-1,by omega⟩
   rw [Ac.Finite.A1,Aw,A78 (show (i:Int)<(x.length:Int) by omega),A77,A78 (show (0:Int)≤(i:Int) by omega),A8d,A77,A79,hu i (by omega),A77,Le (by omega),List.all_cons]
   cases Dk (x.getD i 0) with
   | false=>rfl
   | true =>
     rw [A86,A8b,Ar (by omega) (by omega),A9k]
     exact ih (i+1) F (by omega) (by omega)
theorem Ac.Finite.known:Ac.Finite.Kn:=Ac.Finite.Ae (.cons soft.Finite.known .nil) fun x hp=>by
 have hp:Dp x=true:=hp
 refine ⟨x.length+1,Ac.Finite.out [.l x],[],?_,.bool⟩
 show _=some (DV.bool (x.all Dk))
 rw [Ac.Finite.ev]
 exact Aj2 _ hp x.length 0 (x.length+1) (by omega) (by omega)
theorem Ars {x:List Int} {i:Nat} (h:i<x.length) (m:Nat):N7 (x.drop i) m=if Aj (x.getD i 0).toNat=4 then Sq else N7 (x.drop (i+1)) (max m (Dy (x.getD i 0).toNat)):=by
 rw [Le h]; rfl
theorem Ahr (N:Nat) {x:List Int} (hx:Dp x=true):∀ (k i F m:Nat),i+k=x.length→k<F→Ac.C6.L0 N F x (m:Int) (i:Int)=some (.int .u64 ((N7 (x.drop i) m:Nat):Int)):=by
 obtain ⟨hl,hu⟩:=Oh hx
 intro k
 induction k with
 | zero =>
   intro i F m hi hF
   obtain ⟨F,rfl⟩:∃ G,F=G+1:=⟨F-1,by omega⟩
   rw [Ac.C6.A1,Aw,A8c (by omega),A8b,A8l (by omega)]; rfl
 | succ k ih =>
   intro i F m hi hF
   obtain ⟨F,rfl⟩:∃ G,F=G+1:=⟨F-1,by omega⟩
   rw [Ac.C6.A1,Aw,A78 (show (i:Int)<(x.length:Int) by omega),A77,A78 (show (0:Int)≤(i:Int) by omega),A8d,A77,A79,hu i (by omega),A77,Ars (by omega)]
   unfold A7
   by_cases h4:Aj (x.getD i 0).toNat=4
   ·have e:(((Aj (x.getD i 0).toNat:Nat):Int)==(4:Int))=true:=by rw [h4]; rfl
    rw [e,A77,A8u h4]; rfl
   ·have e:(((Aj (x.getD i 0).toNat:Nat):Int)==(4:Int))=false:=Uf h4
    have em:max (m:Int) (Tg (x.getD i 0))=((max m (Dy (x.getD i 0).toNat):Nat):Int):=by unfold Tg; omega
    rw [e,A8b,A77,A8t h4,em,Ar (by omega) (by omega)]
    exact ih (i+1) F _ (by omega) (by omega)
theorem Ac.C6.known:Ac.C6.Kn:=Ac.C6.Ae (.cons compare.X6.known (.cons soft.Kind.known .nil)) fun x hp=>by
 have hp:Dp x=true:=hp
 refine ⟨x.length+1,Ac.C6.out [.l x],[],?_,.int⟩
 rw [Ac.C6.ev]
 exact Ahr _ hp x.length 0 (x.length+1) 0 (by omega) (by omega)
theorem Ahp (N:Nat) {x:List Int} (hx:Dp x=true):∀ (k i F:Nat),i+k=x.length→k<F→Cz.Check.L0 N F x (i:Int)=some (.int .i64 (if (x.drop i).all Dk=true then 0 else 4)):=by
 obtain ⟨hl,hu⟩:=Oh hx
 intro k
 induction k with
 | zero =>
   intro i F hi hF
   obtain ⟨F,rfl⟩:∃ G,F=G+1:=⟨F-1,by omega⟩
   rw [Cz.Check.A1,Aw,A8c (by omega),A8b,A8l (by omega)]; rfl
 | succ k ih =>
   intro i F hi hF
   obtain ⟨F,rfl⟩:∃ G,F=G+1:=⟨F-1,by omega⟩
   rw [Cz.Check.A1,Aw,A78 (show (i:Int)<(x.length:Int) by omega),A77,A78 (show (0:Int)≤(i:Int) by omega),A8d,A77,A79,hu i (by omega),A77,Le (by omega),List.all_cons]
   cases Dk (x.getD i 0) with
   | false=>rfl
   | true =>
     rw [A86,A8b,Ar (by omega) (by omega),A9k]
     exact ih (i+1) F (by omega) (by omega)
theorem It {r c:Int} {l:List Int} (h:Az r c l=true):l.length≤36:=by
 obtain ⟨R,C,rfl,rfl,r6,c6,hl⟩:=Dl h
 have:=A83 r6 c6
 omega
theorem Cz.Check.known:Cz.Check.Kn:=Cz.Check.Ae (.cons Aa.Check.known (.cons soft.Finite.known .nil)) fun r c l hp=>by
 have hp:Ak l=true:=hp
 refine ⟨l.length+1,Cz.Check.out [.i r,.i c,.l l],[],?_,.int⟩
 show _=some (DV.int .i64 (Cs r c l))
 rw [Cz.Check.ev]
 unfold N6 Cs Ff
 by_cases h:Az r c l=true
 ·have:=It h
  rw [A8u h,A8u h]
  have e:((0:Int) !=(0:Int))=false:=by decide
  rw [e,A8b]
  exact Ahp _ (Mt hp (by omega)) l.length 0 (l.length+1) (by omega) (by omega)
 ·rw [A8t h,A8t h]; rfl
open Go Go.Den Go.Cv Go.Proofs Ieee
open Go Go.Den Go.Cv Go.Proofs
set_option maxRecDepth 100000
namespace EqRoot
def root.Hg.hint:Nat→Option Bh
 | 0=>some { keep:=[0,4,5,6,14],objs:=[],boxes:=[] }
 | _=>none
def root.Hg.Bf:List (Nat × Entry):=[]
def root.Hg.E:Env:=Bk (Be root.Hg.Bf) (fun _=>false) root.Hg.hint (fun _=>none)
section
variable (N M:Nat) (m p4 p5 p6 p14:Int)
def root.Hg.L0:Option DV:=Cd root.Hg.E N f265 (As f265) [1,1,0,1,0] [] M ⟨Il 68 [(0,.int .u64 m),(4,.int .u64 p4),(5,.int .u64 p5),(6,.int .u64 p6),(14,.int .i64 p14)],[]⟩
theorem root.Hg.A1:root.Hg.L0 N (M+1) m p4 p5 p6 p14=bif (Bc p14 64) then bif (Bc p14 32) then bif (decide (0≤(Ad ((62:Int)-(Ad ((2:Int)*p14)))))) then bif (decide ((Hu (J8 .u64 (B7 .u64 p6 2) (Hd .u64 (Eb .u64 m (Ad ((62:Int)-(Ad ((2:Int)*p14))))) 3)) (J8 .u64 (B7 .u64 p4 2) 1) 0)≤1)) then bif ((Hu (J8 .u64 (B7 .u64 p5 2) (Eb .u64 p6 62)) (Eb .u64 p4 62) (Hu (J8 .u64 (B7 .u64 p6 2) (Hd .u64 (Eb .u64 m (Ad ((62:Int)-(Ad ((2:Int)*p14))))) 3)) (J8 .u64 (B7 .u64 p4 2) 1) 0))==(0:Int)) then root.Hg.L0 N M m (J8 .u64 (B7 .u64 p4 1) 1) (Pw (J8 .u64 (B7 .u64 p5 2) (Eb .u64 p6 62)) (Eb .u64 p4 62) (Hu (J8 .u64 (B7 .u64 p6 2) (Hd .u64 (Eb .u64 m (Ad ((62:Int)-(Ad ((2:Int)*p14))))) 3)) (J8 .u64 (B7 .u64 p4 2) 1) 0)) (Pw (J8 .u64 (B7 .u64 p6 2) (Hd .u64 (Eb .u64 m (Ad ((62:Int)-(Ad ((2:Int)*p14))))) 3)) (J8 .u64 (B7 .u64 p4 2) 1) 0) (Ad (p14+1)) else root.Hg.L0 N M m (B7 .u64 p4 1) (J8 .u64 (B7 .u64 p5 2) (Eb .u64 p6 62)) (J8 .u64 (B7 .u64 p6 2) (Hd .u64 (Eb .u64 m (Ad ((62:Int)-(Ad ((2:Int)*p14))))) 3)) (Ad (p14+1)) else none else none else bif (decide ((Hu (J8 .u64 (B7 .u64 p6 2) 0) (J8 .u64 (B7 .u64 p4 2) 1) 0)≤1)) then bif ((Hu (J8 .u64 (B7 .u64 p5 2) (Eb .u64 p6 62)) (Eb .u64 p4 62) (Hu (J8 .u64 (B7 .u64 p6 2) 0) (J8 .u64 (B7 .u64 p4 2) 1) 0))==(0:Int)) then root.Hg.L0 N M m (J8 .u64 (B7 .u64 p4 1) 1) (Pw (J8 .u64 (B7 .u64 p5 2) (Eb .u64 p6 62)) (Eb .u64 p4 62) (Hu (J8 .u64 (B7 .u64 p6 2) 0) (J8 .u64 (B7 .u64 p4 2) 1) 0)) (Pw (J8 .u64 (B7 .u64 p6 2) 0) (J8 .u64 (B7 .u64 p4 2) 1) 0) (Ad (p14+1)) else root.Hg.L0 N M m (B7 .u64 p4 1) (J8 .u64 (B7 .u64 p5 2) (Eb .u64 p6 62)) (J8 .u64 (B7 .u64 p6 2) 0) (Ad (p14+1)) else none else some (.tup [.int .u64 p4,.bool (bif (p5==(0:Int)) then (p6==(0:Int)) else false)]) :=
 Eq.trans (by kernel_rfl)
 (Fg rfl (Ay (Sy (p5==(0:Int))) (Ay (O4 (p5==(0:Int))) (Ay (Zb (p5==(0:Int))) rfl))))
theorem root.Hg.ev:B6 root.Hg.E N f265 (As f265) [.int .u64 m] =
 root.Hg.L0 N N m 0 0 0 0:=by kernel_rfl
end
abbrev _root_.Go.Proofs.S1.root.Hg.Kn:=A9 prog 265 root.Hg.spec
theorem root.Hg.Ae (hk:A3 prog root.Hg.Bf) (h:Hyp root.Hg.E f265 root.Hg.ts root.Hg.pre root.Hg.out):root.Hg.Kn :=
 Am (A5 hk _ _ _) func265 (by kernel_rfl) (by kernel_rfl) h
def root.Sqrt.hint:Nat→Option Bh
 | 5=>some { keep:=[5,7,9],objs:=[],boxes:=[] }
 | _=>none
def root.Sqrt.Bf:List (Nat × Entry):=[(250,C1.Bw.spec),(265,root.Hg.spec),(155,soft.Kind.spec),(212,soft.Dn.spec),(211,soft.Gh.spec),(213,soft.Sign.spec)]
def root.Sqrt.E:Env:=Bk (Be root.Sqrt.Bf) (fun _=>false) root.Sqrt.hint (fun _=>none)
section
variable (N:Nat) (a:Int) (M:Nat) (p5 p7:Int) (p9:Bool)
def root.Sqrt.L0:Option DV:=Cd root.Sqrt.E N f264 (As f264) [1,1,1,1,1,1,1,1,1,0,0] [] M ⟨Il 73 [(5,.int .i64 p5),(7,.int .u64 p7),(9,.bool p9)],[]⟩
theorem root.Sqrt.A1:root.Sqrt.L0 N (M+1) p5 p7 p9=bif (E8 4611686018427387904 p7) then root.Sqrt.L0 N M (Ad (p5+2)) (Eb .u64 p7 1) (bif p9 then true else ((Hd .u64 p7 1)==(1:Int))) else bif (E0 p7 (Ad ((Ad (Int.tdiv p5 2))-32)) p9) then some (.tup [.int .u64 (Fj false p7 (Ad ((Ad (Int.tdiv p5 2))-32)) p9),.int .u8 (Fi false p7 (Ad ((Ad (Int.tdiv p5 2))-32)) p9)]) else none :=
 Eq.trans (by kernel_rfl)
 (Fg (Ay (Za p9) (Ay (Vh p9) (Ay (Vh p9) (Ay (tt6 p9) rfl)))) rfl)
theorem root.Sqrt.ev:B6 root.Sqrt.E N f264 (As f264) [.int .u64 a]=bif (Al a) then bif ((A7 a)==(4:Int)) then some (.tup [.int .u64 9221120237041090560,.int .u8 0]) else bif (Al a) then bif ((A7 a)==(0:Int)) then some (.tup [.int .u64 a,.int .u8 0]) else bif (a==(9218868437227405312:Int)) then some (.tup [.int .u64 a,.int .u8 0]) else bif (Al a) then bif (Em a) then some (.tup [.int .u64 9221120237041090560,.int .u8 16]) else bif (Al a) then bif (Al (Bu a)) then bif ((Int.tmod (Ad ((Bi a)-(Ad ((64-Fk (Bu a))-2)))) 2) !=(0:Int)) then bif (decide (0≤(Ad ((Ad ((64-Fk (Bu a))-2))-1)))) then bif (Cr (0≤(B7 .u64 (Bu a) (Ad ((Ad ((64-Fk (Bu a))-2))-1)))∧(B7 .u64 (Bu a) (Ad ((Ad ((64-Fk (Bu a))-2))-1)))<9223372036854775808)) then root.Sqrt.L0 N N (Ad ((Bi a)-(Ad ((Ad ((64-Fk (Bu a))-2))-1)))) (W7 (B7 .u64 (Bu a) (Ad ((Ad ((64-Fk (Bu a))-2))-1)))) (!(W8 (B7 .u64 (Bu a) (Ad ((Ad ((64-Fk (Bu a))-2))-1))))) else none else none else bif (decide (0≤(Ad ((64-Fk (Bu a))-2)))) then bif (Cr (0≤(B7 .u64 (Bu a) (Ad ((64-Fk (Bu a))-2)))∧(B7 .u64 (Bu a) (Ad ((64-Fk (Bu a))-2)))<9223372036854775808)) then root.Sqrt.L0 N N (Ad ((Bi a)-(Ad ((64-Fk (Bu a))-2)))) (W7 (B7 .u64 (Bu a) (Ad ((64-Fk (Bu a))-2)))) (!(W8 (B7 .u64 (Bu a) (Ad ((64-Fk (Bu a))-2))))) else none else none else none else none else none else none else none:=by kernel_rfl
end
abbrev _root_.Go.Proofs.S1.root.Sqrt.Kn:=A9 prog 264 root.Sqrt.spec
theorem root.Sqrt.Ae (hk:A3 prog root.Sqrt.Bf) (h:Hyp root.Sqrt.E f264 root.Sqrt.ts root.Sqrt.pre root.Sqrt.out):root.Sqrt.Kn :=
 Am (A5 hk _ _ _) func264 (by kernel_rfl) (by kernel_rfl) h
def Ac.Sqrt.Bf:List (Nat × Entry):=[(264,root.Sqrt.spec)]
def Ac.Sqrt.E:Env:=Bk (Be Ac.Sqrt.Bf) (fun _=>false) (fun _=>none) (fun _=>none)
theorem Ac.Sqrt.ev (N:Nat) (a:Int):B6 Ac.Sqrt.E N f262 (As f262) [.int .u64 a]=bif (Al a) then some (.int .u64 (Ie a)) else none:=by kernel_rfl
abbrev _root_.Go.Proofs.S1.Ac.Sqrt.Kn:=A9 prog 262 Ac.Sqrt.spec
theorem Ac.Sqrt.Ae (hk:A3 prog Ac.Sqrt.Bf) (h:Hyp Ac.Sqrt.E f262 Ac.Sqrt.ts Ac.Sqrt.pre Ac.Sqrt.out):Ac.Sqrt.Kn :=
 Am (A5 hk _ _ _) func262 (by kernel_rfl) (by kernel_rfl) h
def compare.Mo.Bf:List (Nat × Entry):=[(261,C1.Mg.spec),(148,soft.Finite.spec),(155,soft.Kind.spec),(211,soft.Gh.spec)]
def compare.Mo.E:Env:=Bk (Be compare.Mo.Bf) (fun _=>false) (fun _=>none) (fun _=>none)
theorem compare.Mo.ev (N:Nat) (a:Int):B6 compare.Mo.E N f255 (As f255) [.int .u64 a]=bif (Al a) then bif ((!(Dk a))||(Al a)) then bif ((!(Dk a))||((A7 a)==(0:Int))) then some (.int .i64 0) else bif (Al a) then bif (Al (Bu a)) then some (.int .i64 (Ad ((Ad ((Fk (Bu a))-1))+(Bi a)))) else none else none else none else none :=
 Eq.trans (by kernel_rfl)
 (Fg (Ay (Af4 (Dk a)) (C5 (Asz _ _) (Ay (Ux (Dk a)) (Ay (Af5 (Dk a)) (C5 (A07 _ _) rfl rfl))) rfl)) rfl)
abbrev _root_.Go.Proofs.S1.compare.Mo.Kn:=A9 prog 255 compare.Mo.spec
theorem compare.Mo.Ae (hk:A3 prog compare.Mo.Bf) (h:Hyp compare.Mo.E f255 compare.Mo.ts compare.Mo.pre compare.Mo.out):compare.Mo.Kn :=
 Am (A5 hk _ _ _) func255 (by kernel_rfl) (by kernel_rfl) h
def Ac.Norm.hint:Nat→Option Bh
 | 0=>some { keep:=[5,6,25,26,27],objs:=[],boxes:=[] }
 | _=>none
def Ac.Norm.Bf:List (Nat × Entry):=[(255,compare.Mo.spec),(148,soft.Finite.spec),(226,Ac.Add.spec),(89,Ac.C6.spec),(157,Ac.Mul.spec),(88,Ac.B9.spec),(262,Ac.Sqrt.spec)]
def Ac.Norm.E:Env:=Bk (Be Ac.Norm.Bf) (fun _=>false) Ac.Norm.hint (fun _=>none)
section
variable (N M:Nat) (x:List Int) (p6 p27:Int)
def Ac.Norm.L0:Option DV:=Cd Ac.Norm.E N f257 (As f257) [1,1,1,1,1,1,0,1,0] [] M ⟨Il 45 [(5,.int .i64 (Bq (Bg x))),(6,.int .u64 p6),(25,.ints .arg .u64 x),(26,.int .i64 (length x:Int)),(27,.int .i64 p27)],[]⟩
theorem Ac.Norm.A1:Ac.Norm.L0 N (M+1) x p6 p27=bif (Bc p27 (length x:Int)) then bif ((decide (0≤p27))&&(decide (p27<(length x:Int)))) then bif (Gt (getD x (toNat p27) 0) (Ad (0-(Bq (Bg x))))) then bif (Al (Ch (getD x (toNat p27) 0) (Ad (0-(Bq (Bg x)))))&&Al (Ch (getD x (toNat p27) 0) (Ad (0-(Bq (Bg x)))))) then bif (Al p6&&Al (D6 (Ch (getD x (toNat p27) 0) (Ad (0-(Bq (Bg x))))) (Ch (getD x (toNat p27) 0) (Ad (0-(Bq (Bg x))))))) then Ac.Norm.L0 N M x (Md p6 (D6 (Ch (getD x (toNat p27) 0) (Ad (0-(Bq (Bg x))))) (Ch (getD x (toNat p27) 0) (Ad (0-(Bq (Bg x))))))) (Ad (p27+1)) else none else none else none else none else bif (Al p6) then bif (Gt (Ie p6) (Bq (Bg x))) then some (.tup [.int .u64 (Ch (Ie p6) (Bq (Bg x))),.int .i64 0]) else none else none:=by kernel_rfl
theorem Ac.Norm.ev:B6 Ac.Norm.E N f257 (As f257) [.ints .arg .u64 x]=bif (Bc 64 (length x:Int)) then some (.tup [.int .u64 0,.int .i64 3]) else bif (Dp x) then bif (((Bg x)==(0:Int))||(Al (Bg x))) then bif (((Bg x)==(0:Int))||(!(Dk (Bg x)))) then some (.tup [.int .u64 (Bg x),.int .i64 0]) else bif (Al (Bg x)) then Ac.Norm.L0 N N x 0 (0:Int) else none else none else none :=
 Eq.trans (by kernel_rfl)
 (Fg rfl (Fg (Ay (Za ((Bg x)==(0:Int))) (C5 (A6o _ _) (Ay (Vh ((Bg x)==(0:Int))) (Ay (tt6 ((Bg x)==(0:Int))) (C5 (A6n _ _) rfl rfl))) rfl)) rfl))
end
abbrev _root_.Go.Proofs.S1.Ac.Norm.Kn:=A9 prog 257 Ac.Norm.spec
theorem Ac.Norm.Ae (hk:A3 prog Ac.Norm.Bf) (h:Hyp Ac.Norm.E f257 Ac.Norm.ts Ac.Norm.pre Ac.Norm.out):Ac.Norm.Kn :=
 Am (A5 hk _ _ _) func257 (by kernel_rfl) (by kernel_rfl) h
end EqRoot
open Go Go.Den Go.Cv Go.Proofs
open EqRoot
theorem Xx (n s:Nat) (h:s≤64):Eb .u64 (n:Int) (s:Int)=((n / 2^s:Nat):Int):=Ir .u64 n s h
theorem sh2 {n t:Nat} (ht:t<4):J8 .u64 (B7 .u64 (n:Int) (2:Int)) (t:Int)=((n%2^62*4+t:Nat):Int):=by
 rw [show (2:Int)=((2:Nat):Int) from rfl,Gv n 2 (by decide),show n*2^2%2^64=(n%2^62)*2^2 by omega]
 exact Pn ht (by omega)
theorem sh1 {n:Nat} (h:n<2^63):B7 .u64 (n:Int) (1:Int)=((2*n:Nat):Int):=by
 rw [show (1:Int)=((1:Nat):Int) from rfl,Gv n 1 (by decide)]
 congr 1; omega
theorem A7a {n:Nat} (h:n<2^63):J8 .u64 (B7 .u64 (n:Int) (1:Int)) (1:Int)=((2*n+1:Nat):Int):=by
 rw [show (1:Int)=((1:Nat):Int) from rfl,Gv n 1 (by decide),show n*2^1%2^64=n*2^1 by omega,A8v 2 n]
 exact Pn (k:=1) (by decide) (by omega)
theorem Asv {m i:Nat} (hi:i<32):Hd .u64 (Eb .u64 (m:Int) (Ad ((62:Int)-(Ad ((2:Int)*(i:Int)))))) (3:Int)=((m / 2^(62-2*i)%2^64%4:Nat):Int)∨2^64≤m:=by
 by_cases hm:m<2^64
 ·left
  rw [Ar (x:=(2:Int)*(i:Int)) (by omega) (by omega),Ar (x:=(62:Int)-2*(i:Int)) (by omega) (by omega),show (62:Int)-2*(i:Int)=((62-2*i:Nat):Int) by omega,Xx _ _ (by omega)]
  have hd:m / 2^(62-2*i)<2^64:=A89 (Nat.div_le_self _ _) hm
  rw [show (3:Int)=((2^2-1:Nat):Int) from rfl,Jz 2 hd (by decide)]
  congr 1
  omega
 ·right; omega
def Uz (m i:Nat):Nat:=m*2^64 / 2^(128-2*i)
theorem Atz {m i:Nat} (hi:i<32):Uz m (i+1)=4*Uz m i+m / 2^(62-2*i)%4:=by
 unfold Uz
 have e1:128-2*i=64+(64-2*i):=by omega
 have e2:128-2*(i+1)=64+(62-2*i):=by omega
 rw [e1,e2,A8w,A8w,A8v (2^64),A8v (2^64),Nat.mul_div_mul_right _ _ (by decide),Nat.mul_div_mul_right _ _ (by decide),show 64-2*i=(62-2*i)+2 by omega,A8w,← A80]
 omega
theorem Aqa {m i:Nat} (hi:32≤i) (h:i<64):Uz m (i+1)=4*Uz m i:=by
 unfold Uz
 have e1:(2:Nat)^64=2^(2*i-64)*2^(128-2*i):=by rw [← A8w]; congr 1; omega
 have e2:(2:Nat)^64=2^(2*i-64)*4*2^(128-2*(i+1)):=by
  rw [show (4:Nat)=2^2 from rfl,← A8w,← A8w]; congr 1; omega
 have a1:m*2^64 / 2^(128-2*i)=m*2^(2*i-64):=by rw [e1,← A8y,Nat.mul_div_cancel _ (B5 _)]
 have a2:m*2^64 / 2^(128-2*(i+1))=m*(2^(2*i-64)*4):=by rw [e2,← A8y,Nat.mul_div_cancel _ (B5 _)]
 rw [a1,a2,← A8y,A8v 4]
theorem Axy {A B tl th:Nat} (hA:A<2^64) (htl:tl<2^64) (hB:B<2^64) (hth:th<4) :
 (Hu (A:Int) (tl:Int) (0:Int)=0∨Hu (A:Int) (tl:Int) (0:Int)=1) ∧
 (th*2^64+tl≤B*2^64+A→(Hu (B:Int) (th:Int) (Hu (A:Int) (tl:Int) (0:Int))==(0:Int))=true ∧
  ∃ h l:Nat,Pw (B:Int) (th:Int) (Hu (A:Int) (tl:Int) (0:Int))=(h:Int)∧Pw (A:Int) (tl:Int) (0:Int)=(l:Int)∧l<2^64∧h*2^64+l=B*2^64+A-(th*2^64+tl)) ∧
 (B*2^64+A<th*2^64+tl→(Hu (B:Int) (th:Int) (Hu (A:Int) (tl:Int) (0:Int))==(0:Int))=false):=by
 have e1:Hu (A:Int) (tl:Int) (0:Int)=((if A<tl then 1 else 0:Nat):Int):=by
  unfold Hu
  rw [A79,A79]
  rfl
 by_cases h:A<tl
 ·rw [A8u h] at e1
  rw [e1]
  have e2:Hu (B:Int) (th:Int) ((1:Nat):Int)=((if B<th+1 then 1 else 0:Nat):Int):=by
   unfold Hu
   rw [A79,A79]
   rfl
  refine ⟨.inr rfl,fun hle=>?_,fun hlt=>?_⟩
  ·rw [A8t (by omega)] at e2
   rw [e2]
   refine ⟨rfl,B-th-1,A+2^64-tl,?_,?_,by omega,by omega⟩
   ·unfold Pw
    rw [A79,A79,A79]
    congr 1; omega
   ·unfold Pw
    rw [A79,A79]
    show ((_:Nat):Int)=_
    congr 1
    show (A+18446744073709551616-tl-0)%18446744073709551616=_
    omega
  ·rw [A8u (by omega)] at e2
   rw [e2]; rfl
 ·rw [A8t h] at e1
  rw [e1]
  have e2:Hu (B:Int) (th:Int) ((0:Nat):Int)=((if B<th then 1 else 0:Nat):Int):=by
   unfold Hu
   rw [A79,A79]
   rfl
  refine ⟨.inl rfl,fun hle=>?_,fun hlt=>?_⟩
  ·rw [A8t (by omega)] at e2
   rw [e2]
   refine ⟨rfl,B-th,A-tl,?_,?_,by omega,by omega⟩
   ·unfold Pw
    rw [A79,A79,A79]
    congr 1; omega
   ·unfold Pw
    rw [A79,A79]
    show ((_:Nat):Int)=_
    congr 1
    show (A+18446744073709551616-tl-0)%18446744073709551616=_
    omega
  ·rw [A8u (by omega)] at e2
   rw [e2]; rfl
theorem glue (n t:Nat):n / 2^62*2^64+(n%2^62*4+t)=4*n+t:=by omega
theorem Aqv (N:Nat) {m:Nat} (hm:m<2^63):∀ (k i F rt rest:Nat),i+k=64→k<F→Uz m i=rt*rt+rest→rest≤2*rt→rt<2^i→∀ hi lo:Nat,hi*2^64+lo=rest→lo<2^64 →
 root.Hg.L0 N F (m:Int) (rt:Int) (hi:Int) (lo:Int) (i:Int)=some (.tup [.int .u64 (W7 m),.bool (W8 m)]):=by
 intro k
 induction k with
 | zero =>
   intro i F rt rest hi hF hP hr hb h l e hl
   obtain ⟨F,rfl⟩:∃ G,F=G+1:=⟨F-1,by omega⟩
   obtain rfl:i=64:=by omega
   have hP':m*2^64=rt*rt+rest:=by
    rw [← hP]; unfold Uz
    rw [show 128-2*64=0 from rfl,A85,Nat.div_one]
   have hroot:=Ayd hP' hr
   rw [root.Hg.A1,Aw,A8c (by omega),A8b]
   have e1:W7 (m:Int)=(rt:Int):=by unfold W7; rw [A79,← hroot]
   have e2:W8 (m:Int)=(bif ((h:Int)==(0:Int)) then ((l:Int)==(0:Int)) else false):=by
    unfold W8
    rw [A79,← hroot,hP']
    by_cases h0:h=0
    ·subst h0
     rw [show (((0:Nat):Int)==(0:Int))=true from rfl,A77,A8n,A8e,beq_iff_eq]
     omega
    ·rw [show ((h:Int)==(0:Int))=false by rw [A82]; omega,A8b,A8c]
     omega
   rw [e1,e2]
 | succ k ih =>
   intro i F rt rest hi hF hP hr hb h l e hl
   obtain ⟨F,rfl⟩:∃ G,F=G+1:=⟨F-1,by omega⟩
   have hp:2^i≤2^63:=A8m (by decide) (by omega)
   have hi63:2^(i+1)=2*2^i:=by rw [Nat.pow_succ,A8v]
   have f1:2*rt+1<2^(i+1):=by rw [hi63]; omega
   have f2:2*rt<2^(i+1):=by omega
   have hh:h=0:=by omega
   subst hh
   have hrest:rest=l:=by omega
   subst hrest
   obtain ⟨two,t4,hP',hcode⟩:∃ two:Nat,two<4∧Uz m (i+1)=4*Uz m i+two ∧
    root.Hg.L0 N (F+1) (m:Int) (rt:Int) ((0:Nat):Int) (rest:Int) (i:Int) =
    (bif (decide ((Hu (J8 .u64 (B7 .u64 (rest:Int) (2:Int)) (two:Int)) (J8 .u64 (B7 .u64 (rt:Int) (2:Int)) (1:Int)) (0:Int))≤1)) then
     bif ((Hu (J8 .u64 (B7 .u64 ((0:Nat):Int) (2:Int)) (Eb .u64 (rest:Int) (62:Int))) (Eb .u64 (rt:Int) (62:Int)) (Hu (J8 .u64 (B7 .u64 (rest:Int) (2:Int)) (two:Int)) (J8 .u64 (B7 .u64 (rt:Int) (2:Int)) (1:Int)) (0:Int)))==(0:Int)) then
      root.Hg.L0 N F (m:Int) (J8 .u64 (B7 .u64 (rt:Int) (1:Int)) (1:Int)) (Pw (J8 .u64 (B7 .u64 ((0:Nat):Int) (2:Int)) (Eb .u64 (rest:Int) (62:Int))) (Eb .u64 (rt:Int) (62:Int)) (Hu (J8 .u64 (B7 .u64 (rest:Int) (2:Int)) (two:Int)) (J8 .u64 (B7 .u64 (rt:Int) (2:Int)) (1:Int)) (0:Int))) (Pw (J8 .u64 (B7 .u64 (rest:Int) (2:Int)) (two:Int)) (J8 .u64 (B7 .u64 (rt:Int) (2:Int)) (1:Int)) (0:Int)) (Ad ((i:Int)+(1:Int)))
     else root.Hg.L0 N F (m:Int) (B7 .u64 (rt:Int) (1:Int)) (J8 .u64 (B7 .u64 ((0:Nat):Int) (2:Int)) (Eb .u64 (rest:Int) (62:Int))) (J8 .u64 (B7 .u64 (rest:Int) (2:Int)) (two:Int)) (Ad ((i:Int)+(1:Int)))
    else none):=by
    by_cases h32:i<32
    ·refine ⟨m / 2^(62-2*i)%4,Nat.mod_lt _ (by decide),Atz h32,?_⟩
     have ht:=(Asv (m:=m) h32).resolve_right (by omega)
     have hq:m / 2^(62-2*i)%2^64%4=m / 2^(62-2*i)%4:=by omega
     rw [hq] at ht
     rw [root.Hg.A1,Aw,A78 (show (i:Int)<64 by omega),A77,Aw,A78 (show (i:Int)<32 by omega),A77,ht,Ar (x:=(2:Int)*(i:Int)) (by omega) (by omega),Ar (x:=(62:Int)-2*(i:Int)) (by omega) (by omega),A78 (show (0:Int)≤62-2*(i:Int) by omega),A77]
    ·refine ⟨0,by decide,by rw [Aqa (by omega) (by omega),A9f],?_⟩
     rw [root.Hg.A1,Aw,A78 (show (i:Int)<64 by omega),A77,Aw,A8c (show ¬ (i:Int)<32 by omega),A8b]
     rfl
   obtain ⟨s1,s2⟩:=Ams hP hr t4
   have eA:=sh2 (n:=rest) t4
   have eT:=sh2 (n:=rt) (t:=1) (by decide)
   have eB:J8 .u64 (B7 .u64 ((0:Nat):Int) (2:Int)) (Eb .u64 (rest:Int) (62:Int))=((rest / 2^62:Nat):Int):=by
    rw [show (62:Int)=((62:Nat):Int) from rfl,Xx _ _ (by decide),sh2 (n:=0) (t:=rest / 2^62) (by omega)]
    congr 1; omega
   have eH:Eb .u64 (rt:Int) (62:Int)=((rt / 2^62:Nat):Int):=by rw [show (62:Int)=((62:Nat):Int) from rfl,Xx _ _ (by decide)]
   have eT':J8 .u64 (B7 .u64 (rt:Int) (2:Int)) (1:Int)=((rt%2^62*4+1:Nat):Int):=eT
   obtain ⟨b1,b2,b3⟩:=Axy (A:=rest%2^62*4+two) (B:=rest / 2^62) (tl:=rt%2^62*4+1) (th:=rt / 2^62) (by omega) (by omega) (by omega) (by omega)
   rw [hcode,eA,eT',eB,eH,A78 (by rcases b1 with b | b<;>rw [b]<;>decide),A77,Ar (by omega) (by omega)]
   by_cases hc:4*rt+1≤4*rest+two
   ·obtain ⟨c1,hh,ll,c2,c3,c4,c5⟩:=b2 (by rw [glue,glue]; exact hc)
    obtain ⟨d1,d2⟩:=s1 hc
    rw [c1,A77,c2,c3,A7a (by omega)]
    refine ih (i+1) F (2*rt+1) (4*rest+two-(4*rt+1)) (by omega) (by omega) (hP'.trans d1) d2 f1 hh ll ?_ c4
    rw [c5,glue,glue]
   ·rw [b3 (by rw [glue,glue]; omega),A8b,sh1 (by omega)]
    obtain ⟨d1,d2⟩:=s2 (by omega)
    refine ih (i+1) F (2*rt) (4*rest+two) (by omega) (by omega) (hP'.trans d1) d2 f2 _ _ (glue _ _) ?_
    clear hcode
    omega
theorem root.Hg.known:root.Hg.Kn:=root.Hg.Ae .nil fun m hp=>by
 have hp:=Ao.1 hp
 obtain ⟨n,rfl⟩:∃ n:Nat,m=n:=⟨m.toNat,by omega⟩
 refine ⟨65,root.Hg.out [.i n],[],?_,Wk.Jp (.cons .int (.cons .bool .nil))⟩
 rw [root.Hg.ev]
 have h0:Uz n 0=0*0+0:=by
  unfold Uz
  rw [Nat.div_eq_of_lt]
  show n*18446744073709551616<340282366920938463463374607431768211456
  omega
 exact Aqv 65 (by omega) 64 0 65 0 0 rfl (by omega) h0 (A81 0) Nat.one_pos 0 0 rfl (Nat.pow_pos (by decide))
open Go Go.Den Go.Cv Go.Proofs
open EqRoot
theorem Acq {b:Nat} (h:An b≠0):Fk (An b:Int)=((An b).log2:Int)+1:=by
 unfold Fk
 rw [A8t (by omega),A79]
theorem Apr {w:Nat} {E:Int} {s:Bool} (hw:2^62≤w) (n:Nat) (h:Mj n=w) (hs:s=decide (w*w≠n)) :
 He false (w / 2) (E+2) (bif s then true else decide (w%2=1))=(B1 (Ey n) E,flagsOf (Ey n) E):=by
 have e1:Ey n / 2^2=w / 2:=by unfold Ey; rw [h]; split<;>omega
 have e2:(bif s then true else decide (w%2=1))=decide (Ey n%2^2≠0):=by
  rw [hs]
  unfold Ey
  rw [h]
  by_cases h0:w*w=n
  ·rw [A8c (by omega),A8b,A8u h0,decide_eq_decide]; omega
  ·rw [A78 h0,A77,A8t h0]; symm; exact A78 (by omega)
 rw [← e1]
 have:=W1 false (V:=Ey n) (k:=2) (E:=E) (e:=E+2) rfl e2 (by rw [e1]; omega) (by left; rw [e1]; omega)
 rw [Ip] at this
 exact this
theorem root.Sqrt.num {b:Nat} (hb:b<2^64) (h4:Aj b≠4) (h:¬ (Aj b=0∨b=Ei)) (hn:Bp b=false) {z:Nat} (hz:2^60≤An b*2^z) (hz2:An b*2^z<2^62) (he:(Av b-(z:Int))%2=0) (z60:z≤62) :
 root.Sqrt.L0 2 2 (Av b-(z:Int)) (W7 ((An b*2^z:Nat):Int)) (!(W8 ((An b*2^z:Nat):Int)))=some (.tup [.int .u64 (Ie (b:Int)),.int .u8 (Sz (b:Int))]):=by
 have hE:=Cu b
 have hM:=Fx b
 have h3:Aj b≠3:=fun h3=>by
  refine h (.inr ?_)
  have hpn:Bp b=false:=hn
  unfold Bp at hpn
  have hlt:b<2^63:=by simpa using hpn
  unfold Aj at h3
  have hp:=Lv b
  unfold D5 at h3
  unfold C9 at h3
  unfold Ei
  split at h3
  ·split at h3
   ·omega
   ·omega
  ·split at h3
   ·omega
   ·split at h3<;>omega
 have hm:An b≠0:=fun h0=>h (.inl ((Da h3 h4).1 h0))
 have eN:An b*2^z*2^64=An b*2^(z+64):=by rw [A8y,← A8w]
 have i1:2^62≤Mj (An b*2^z*2^64):=Xe (t:=62) (by omega)
 have i2:=(Nm (An b*2^z*2^64)).1
 have i3:Mj (An b*2^z*2^64)<2^63:=by
  refine Aii (A89 i2 ?_)
  show _<9223372036854775808*9223372036854775808
  omega
 have r1:W7 ((An b*2^z:Nat):Int)=(Mj (An b*2^z*2^64):Int):=by unfold W7; rw [A79]
 have r2:(!(W8 ((An b*2^z:Nat):Int)))=decide (Mj (An b*2^z*2^64)*Mj (An b*2^z*2^64)≠An b*2^z*2^64):=by
  unfold W8; rw [A79,← decide_not]
 obtain ⟨k1,k2⟩:=Wr hm
 have same:=Ap4 (m:=An b) (k:=z+64) (l:=Fv b) (E:=(Av b-(z:Int)) / 2-33) (F:=(Av b-(Fv b:Int)) / 2-1) (by rw [← eN]; omega) k1 (by omega)
 rw [← eN] at same
 have near:=Apr (E:=(Av b-(z:Int)) / 2-33) i1 _ rfl r2
 rw [same.1,same.2] at near
 have sq:Hw b=_:=Wi h4 h hn
 rw [r1,r2]
 rw [r2] at near
 generalize Mj (An b*2^z*2^64)=w at *
 have w1:E8 (4611686018427387904:Int) (w:Int)=true:=by rw [Fe]; exact A78 (by omega)
 have w2:Eb .u64 (w:Int) (1:Int)=((w / 2:Nat):Int):=by rw [show (1:Int)=((1:Nat):Int) from rfl,Xx _ _ (by decide)]
 have w3:((Hd .u64 (w:Int) (1:Int))==(1:Int))=decide (w%2=1):=by
  rw [show Hd .u64 (w:Int) (1:Int)=((w%2^1:Nat):Int) from Jz 1 (by omega) (by decide),A8n,beq_iff_eq,A8e]
  omega
 have w4:E8 (4611686018427387904:Int) ((w / 2:Nat):Int)=false:=by rw [Fe]; exact A8c (by omega)
 have w5:Ad (Ad (Int.tdiv (Av b-(z:Int)+2) 2)-32)=(Av b-(z:Int)) / 2-33+2:=by
  have:Int.tdiv (Av b-(z:Int)+2) 2=(Av b-(z:Int)) / 2+1:=by
   rw [Int.tdiv_eq_ediv]
   split<;>omega
  rw [this,Ar (x:=(Av b-(z:Int)) / 2+1) (by omega) (by omega),Ar (by omega) (by omega)]
  omega
 have w6:Ad (Av b-(z:Int)+2)=Av b-(z:Int)+2:=Ar (by omega) (by omega)
 generalize hs:decide (w*w≠An b*2^z*2^64)=s at *
 have pre:E0 ((w / 2:Nat):Int) ((Av b-(z:Int)) / 2-33+2) (bif s then true else decide (w%2=1))=true:=Ao.2 ⟨by omega,by omega,by omega,by omega,fun _=>.inl (by omega)⟩
 rw [show (2:Nat)=1+1 from rfl,root.Sqrt.A1,w1,A77,w2,w3,w6,show (1:Nat)=0+1 from rfl,root.Sqrt.A1,w4,A8b,w5,pre,A77]
 unfold Fj Fi Ie Sz
 rw [A79,A79,near,sq]
theorem root.Sqrt.known:root.Sqrt.Kn:=root.Sqrt.Ae (.cons C1.Bw.known (.cons root.Hg.known (.cons soft.Kind.known (.cons soft.Dn.known (.cons soft.Gh.known (.cons soft.Sign.known .nil)))))) fun a hp=>by
 obtain ⟨b,rfl,hb⟩:=Ca (x:=a) hp
 refine ⟨2,root.Sqrt.out [.i b],[],?_,Wk.Jp (.cons .int (.cons .int .nil))⟩
 show _=some (DV.tup [.int .u64 (Ie (b:Int)),.int .u8 (Sz (b:Int))])
 have hk:A7 (b:Int)=(Aj b:Int):=rfl
 rw [root.Sqrt.ev,Co hb,A77,A77,A77,A77,hk]
 by_cases h4:Aj b=4
 ·rw [h4,show (((4:Nat):Int)==(4:Int))=true from rfl,A77]
  unfold Ie Sz
  rw [A79,Abi h4]; rfl
 have k4:(((Aj b:Nat):Int)==(4:Int))=false:=by rw [A82]; omega
 rw [k4,A8b]
 by_cases h0:Aj b=0
 ·rw [h0,show (((0:Nat):Int)==(0:Int))=true from rfl,A77]
  unfold Ie Sz
  rw [A79,Ov h4 (.inl h0)]; rfl
 have k0:(((Aj b:Nat):Int)==(0:Int))=false:=by rw [A82]; omega
 rw [k0,A8b]
 by_cases hi:b=Ei
 ·rw [show (((b:Nat):Int)==(9218868437227405312:Int))=true by rw [hi]; rfl,A77]
  unfold Ie Sz
  rw [A79,Ov h4 (.inr hi)]; rfl
 have ki:(((b:Nat):Int)==(9218868437227405312:Int))=false:=by
  rw [A82]; intro hh; refine hi (show b=9218868437227405312 from ?_); omega
 rw [ki,A8b]
 have hh:¬ (Aj b=0∨b=Ei):=by rintro (h | h); exact h0 h; exact hi h
 have hneg:Em (b:Int)=Bp b:=rfl
 rw [hneg]
 cases hn:Bp b with
 | true =>
   rw [A77]
   unfold Ie Sz
   rw [A79,Aih h4 hh hn]; rfl
 | false =>
   rw [A8b]
   have hm:An b≠0:=fun hz=>by
    have h3:Aj b≠3:=fun h3=>by
     rcases Ji b with ⟨p,_,_⟩ | ⟨_,_,q⟩ | ⟨_,q,_⟩
     ·unfold An at hz
      rw [A8t (by omega)] at hz
      omega
     ·omega
     ·exact q h3
    exact hh (.inl ((Da h3 h4).1 hz))
   have hM:=Fx b
   have hE:=Cu b
   have hl:(An b).log2≤52:=by have:=(A9n hm).2 (show An b<2^53 by omega); omega
   have e1:Bu (b:Int)=(An b:Int):=rfl
   have e2:Bi (b:Int)=Av b:=rfl
   have l1:∀ z:Nat,(An b).log2+z=60∨(An b).log2+z=61→2^60≤An b*2^z∧An b*2^z<2^62:=by
    intro z hz
    have hlz:=Pe (An b) z hm
    have hne:An b*2^z≠0:=Kt hm
    constructor
    ·rw [← Nat.le_log2 hne]; omega
    ·rw [← A9n hne]; omega
   have ez:Ad ((64-(((An b).log2:Int)+1))-(2:Int))=((61-(An b).log2:Nat):Int):=by rw [Ar (by omega) (by omega)]; omega
   have ez':Ad (((61-(An b).log2:Nat):Int)-(1:Int))=((60-(An b).log2:Nat):Int):=by rw [Ar (by omega) (by omega)]; omega
   rw [e1,e2,Co (n:=An b) (by omega),A77,Acq hm,ez,ez',Ar (x:=Av b-((61-(An b).log2:Nat):Int)) (by omega) (by omega),Ar (x:=Av b-((60-(An b).log2:Nat):Int)) (by omega) (by omega)]
   by_cases hp2:(Av b-((61-(An b).log2:Nat):Int))%2=0
   ·have t0:(Int.tmod (Av b-((61-(An b).log2:Nat):Int)) (2:Int) !=(0:Int))=false:=by
     rw [bne_eq_false_iff_eq]; exact Int.tmod_eq_zero_of_dvd (Int.dvd_of_emod_eq_zero hp2)
    obtain ⟨m1,m2⟩:=l1 (61-(An b).log2) (by omega)
    rw [t0,A8b,A78 (by omega),A77,Gv _ _ (by omega),A8k (by omega),Ao.2 (by omega),A77]
    exact root.Sqrt.num hb h4 hh hn m1 m2 hp2 (by omega)
   ·have t0:(Int.tmod (Av b-((61-(An b).log2:Nat):Int)) (2:Int) !=(0:Int))=true:=by
     rw [bne_iff_ne]; intro hz; exact hp2 (Int.emod_eq_zero_of_dvd (Int.dvd_of_tmod_eq_zero hz))
    obtain ⟨m1,m2⟩:=l1 (60-(An b).log2) (by omega)
    rw [t0,A77,A78 (by omega),A77,Gv _ _ (by omega),A8k (by omega),Ao.2 (by omega),A77]
    exact root.Sqrt.num hb h4 hh hn m1 m2 (by omega) (by omega)
theorem Ac.Sqrt.known:Ac.Sqrt.Kn:=Ac.Sqrt.Ae (.cons root.Sqrt.known .nil) fun a hp=>by
 have hp:Al a=true:=hp
 refine ⟨0,Ac.Sqrt.out [.i a],[],?_,.int⟩
 rw [Ac.Sqrt.ev,hp]; rfl
theorem compare.Mo.known:compare.Mo.Kn:=compare.Mo.Ae (.cons C1.Mg.known (.cons soft.Finite.known (.cons soft.Kind.known (.cons soft.Gh.known .nil)))) fun a hp=>by
 obtain ⟨b,rfl,hb⟩:=Ca (x:=a) hp
 refine ⟨0,compare.Mo.out [.i b],[],?_,.int⟩
 show _=some (DV.int .i64 (Bq (b:Int)))
 have hk:A7 (b:Int)=(Aj b:Int):=rfl
 have hf:Dk (b:Int)=Ii b:=rfl
 have hE:=Cu b
 have hM:=Fx b
 rw [compare.Mo.ev,Co hb,A77,A9j,A77,hk,hf]
 unfold Bq
 rw [A79]
 unfold E6
 cases hfin:Ii b with
 | false=>rfl
 | true =>
   by_cases h0:Aj b=0
   ·rw [h0]; rfl
   ·have k0:(((Aj b:Nat):Int)==(0:Int))=false:=by rw [A82]; omega
    have hm:An b≠0:=fun hz=>by
     obtain ⟨f4,f3⟩:=Jk hfin
     exact h0 ((Da f3 f4).1 hz)
    have hl:(An b).log2≤52:=by have:=(A9n hm).2 (show An b<2^53 by omega); omega
    have e1:Bu (b:Int)=(An b:Int):=rfl
    have e2:Bi (b:Int)=Av b:=rfl
    rw [k0,A8u ⟨rfl,h0⟩,A86,Bool.false_or,A8b,A77,e1,e2,Co (n:=An b) (by omega),A77,Acq hm,Ar (x:=((An b).log2:Int)+1-1) (by omega) (by omega),Ar (by omega) (by omega)]
    congr 2; omega
theorem Ata {x:List Int} {i:Nat} (h:i<x.length) (k s:Int):Qj k s (x.drop i)=Qj k (Md s (D6 (Ch (x.getD i 0) k) (Ch (x.getD i 0) k))) (x.drop (i+1)):=by
 rw [Le h,Qj]
theorem Aqf (N:Nat) {x:List Int} (hx:Dp x=true) (hl:x.length≤1000):∀ (k i F:Nat) (s:Int),i+k=x.length→k<F→Al s=true →
 Ac.Norm.L0 N F x s (i:Int)=some (.tup [.int .u64 (Ch (Ie (Qj (-Bq (Bg x)) s (x.drop i))) (Bq (Bg x))),.int .i64 0]):=by
 obtain ⟨_,hu⟩:=Oh hx
 have he:=Avy (Bg x)
 intro k
 induction k with
 | zero =>
   intro i F s hi hF hs
   obtain ⟨F,rfl⟩:∃ G,F=G+1:=⟨F-1,by omega⟩
   rw [Ac.Norm.A1,Aw,A8c (by omega),A8b,hs,A77,show Gt (Ie s) (Bq (Bg x))=true from Af.2 ⟨Ank hs,Ao.2 (by omega)⟩,A77,A8l (by omega)]
   rfl
 | succ k ih =>
   intro i F s hi hF hs
   obtain ⟨F,rfl⟩:∃ G,F=G+1:=⟨F-1,by omega⟩
   rw [Ac.Norm.A1,Aw,A78 (show (i:Int)<(x.length:Int) by omega),A77,A78 (show (0:Int)≤(i:Int) by omega),A8d,A77,A79,Ar (x:=0-Bq (Bg x)) (by omega) (by omega),show (0:Int)-Bq (Bg x)=-Bq (Bg x) by omega,
    show Gt (getD x i 0) (-Bq (Bg x))=true from Af.2 ⟨hu i (by omega),Ao.2 (by omega)⟩,A77,Kf (hu i (by omega)),A8d,A77,hs,Ku,A8d,A77,Ata (by omega),Ar (by omega) (by omega)]
   exact ih (i+1) F _ (by omega) (by omega) (Aww hs (Ku _ _))
theorem Ac.Norm.known:Ac.Norm.Kn:=Ac.Norm.Ae (.cons compare.Mo.known (.cons soft.Finite.known (.cons Ac.Add.known (.cons Ac.C6.known (.cons Ac.Mul.known (.cons Ac.B9.known (.cons Ac.Sqrt.known .nil))))))) fun x hp=>by
 obtain ⟨hx,hl⟩:=Af.1 (show (Dp x&&Cr (length x≤64))=true from hp)
 have hl:=Ao.1 hl
 refine ⟨65,Ac.Norm.out [.l x],[],?_,Wk.Jp (.cons .int (.cons .int .nil))⟩
 show _=some (DV.tup [.int .u64 (Dr x),.int .i64 0])
 rw [Ac.Norm.ev,Aw,A8c (by omega),A8b,hx,A77,V7,A9j,A77]
 unfold Dr
 by_cases h:Bg x=0∨Dk (Bg x)=false
 ·have:((Bg x==(0:Int))||(!(Dk (Bg x))))=true:=by
   rcases h with h | h
   ·rw [h]; rfl
   ·rw [h,A9q,A9j]
  rw [this,A77,A8u h]
 ·have:((Bg x==(0:Int))||(!(Dk (Bg x))))=false:=by
   rw [Bool.or_eq_false_iff,A82,Bool.not_eq_false']
   refine ⟨fun h0=>h (.inl h0),?_⟩
   cases hf:Dk (Bg x) with
   | true=>rfl
   | false=>exact absurd (.inr hf) h
  rw [this,A8b,A77,A8t h]
  exact Aqf 65 hx (by omega) x.length 0 65 0 (by omega) (by omega) Kl
end Go.Proofs.S1
namespace Go.Cv
open Go.Den
end Go.Cv
namespace Go.Proofs.S1
open Go Go.Den Go.Cv Go.Proofs
set_option maxRecDepth 100000
namespace EqLdx
end EqLdx
open Go Go.Den Go.Cv Go.Proofs
open EqLdx
theorem A0d (x:Nat):Dy x<2^64:=Nat.lt_trans (Aa6 x) (by decide)
theorem Avb (x:Nat):Aj (Dy x)=Aj x:=by
 have e1:D5 (Dy x)=D5 x:=by unfold D5 Dy; omega
 have e2:C9 (Dy x)=C9 x:=by unfold C9 Dy; omega
 unfold Aj
 rw [e1,e2]
theorem Awf (x y:Int):(compare x y=.lt↔x<y)∧(compare x y=.gt↔y<x)∧(compare x y=.eq↔x=y):=by
 rcases Int.lt_trichotomy x y with h | h | h
 ·rw [Amv h]; refine ⟨by simp [h],?_,?_⟩<;>simp<;>omega
 ·subst h
  have:compare x x=.eq:=by simp [compare,compareOfLessAndEq]
  rw [this]; simp
 ·rw [Amw h]; refine ⟨?_,by simp [h],?_⟩<;>simp<;>omega
theorem Aa3 {x:Nat} (hx:x<2^64) (h4:Aj x≠4):(Ieee.double.order (Dy x) 9218868437227405311==some .gt)=decide (Aj x=3):=by
 have k1:Aj 9218868437227405311≠4:=by decide +kernel
 have k2:Jj 9218868437227405311=9218868437227405311:=by decide +kernel
 have ka:Jj (Dy x)=((Dy x:Nat):Int):=by
  have:=Acv false (r:=Dy x) (Aa6 x)
  exact this
 rw [Aqb (A0d x) (by decide) (by rw [Avb]; exact h4) k1,k2,ka]
 have hl:=A17 h4
 rw [A8n,beq_iff_eq,A8a,(Awf _ _).2.1,A8e]
 constructor
 ·intro h
  refine Decidable.byContradiction fun h3=>?_
  have:=Xd h3 h4
  rw [Fl] at this
  unfold Dy at h
  omega
 ·intro h3
  have:=Ru h3
  rw [Fl] at this
  unfold Dy
  omega
open Go Go.Den Go.Cv Go.Proofs
open EqLdx
open Go Go.Den Go.Cv Go.Proofs
set_option maxRecDepth 100000
namespace EqRef08
end EqRef08
open Go Go.Den Go.Cv Go.Proofs
set_option maxRecDepth 100000
namespace EqRef13
def H8.Mo.Bf:List (Nat × Entry):=[(180,Ai.X4.spec),(131,A4.Finite.spec),(62,A4.Kind.spec),(63,A4.Value.spec)]
def H8.Mo.E:Env:=Bk (Be H8.Mo.Bf) (fun _=>false) (fun _=>none) (fun _=>none)
theorem H8.Mo.ev (N:Nat) (a:Int):B6 H8.Mo.E N f132 (As f132) [.int .u64 a]=bif (Al a) then bif ((!(Dk a))||(Rt a)) then bif ((!(Dk a))||((A7 a)==(0:Int))) then some (.int .i64 0) else bif (Al a) then bif (Ll (A2 (mD (H5 a))) (Ah (mD (H5 a)))&&Sl (eD (H5 a) (Bi a))) then some (.int .i64 (Ad ((Jb (wv (A2 (mD (H5 a))) (Ah (mD (H5 a)))) (eD (H5 a) (Bi a)))-1))) else none else none else none else none :=
 Eq.trans (by kernel_rfl)
 (Fg (Ay (Af4 (Dk a)) (C5 (Asz _ _) (Ay (Ux (Dk a)) (Ay (Af5 (Dk a)) (C5 (A07 _ _) rfl rfl))) rfl)) rfl)
abbrev _root_.Go.Proofs.S1.H8.Mo.Kn:=A9 prog 132 H8.Mo.spec
theorem H8.Mo.Ae (hk:A3 prog H8.Mo.Bf) (h:Hyp H8.Mo.E f132 H8.Mo.ts H8.Mo.pre H8.Mo.out):H8.Mo.Kn :=
 Am (A5 hk _ _ _) func132 (by kernel_rfl) (by kernel_rfl) h
end EqRef13
open Go Go.Den Go.Cv Go.Proofs
open EqRef08 EqRef13
theorem Ayn (b:Nat):Zk (A2 (mD (H5 (b:Int)))) (Ah (mD (H5 (b:Int))))=true∧Ll (A2 (mD (H5 (b:Int)))) (Ah (mD (H5 (b:Int))))=true∧Sl (eD (H5 (b:Int)) (Av b))=true:=by
 obtain ⟨v1,v2,v3⟩:=A0r b
 have hl:Du (mD (H5 (b:Int))).natAbs<3:=A89 (Oz (Yp _)) v1
 exact ⟨Als (by omega),Ix (by omega),Ao.2 ⟨v2,v3⟩⟩
theorem H8.Mo.known:H8.Mo.Kn:=H8.Mo.Ae (.cons Ai.X4.known (.cons A4.Finite.known (.cons A4.Kind.known (.cons A4.Value.known .nil)))) fun a hp=>by
 obtain ⟨b,rfl,hb⟩:=Ca (x:=a) hp
 refine ⟨0,.int .i64 (Bq (b:Int)),[],?_,.int⟩
 have kk:A7 (b:Int)=(Aj b:Int):=rfl
 have hf:Dk (b:Int)=Ii b:=rfl
 have pe:Bi (b:Int)=Av b:=rfl
 obtain ⟨_,o2,o3⟩:=Ayn b
 have hE:=Cu b
 have hM:=Fx b
 rw [H8.Mo.ev,Co hb,A77,Pd,A9j,A77,kk,hf,pe,o2,o3,Ft,A8d,A77,A77]
 unfold Bq
 rw [A79]
 unfold E6
 cases hfin:Ii b with
 | false=>rfl
 | true =>
   by_cases h0:Aj b=0
   ·rw [h0]; rfl
   ·have k0:(((Aj b:Nat):Int)==(0:Int))=false:=by rw [A82]; omega
    obtain ⟨f4,f3⟩:=Jk hfin
    have hm:An b≠0:=fun hz=>h0 ((Da f3 f4).1 hz)
    have hv:H5 (b:Int)≠0:=by
     intro h
     have:=Afx b
     rw [h] at this
     exact hm this.symm
    have hl:(An b).log2≤52:=by have:=(A9n hm).2 (show An b<2^53 by omega); omega
    have ht:Jb (mD (H5 (b:Int))) (eD (H5 (b:Int)) (Av b))=((An b).log2:Int)+1+Av b:=by
     unfold Jb Acp
     rw [A8t (fun h=>hv (P4.1 h)),A8t (fun h=>hv (P4.1 h))]
     unfold eD
     rw [A8t hv]
     have hs:=Aav (H5 (b:Int))
     have ha:An b=(mD (H5 (b:Int))).natAbs*2^T1 (H5 (b:Int)).natAbs:=by
      have e:=congrArg Int.natAbs hs
      rw [Int.natAbs_mul,Int.natAbs_natCast] at e
      rw [← Afx b]
      exact e
     have hmd:(mD (H5 (b:Int))).natAbs≠0:=fun h=>hv (P4.1 (Int.natAbs_eq_zero.1 h))
     have hlog:=Pe (mD (H5 (b:Int))).natAbs (T1 (H5 (b:Int)).natAbs) hmd
     rw [← ha] at hlog
     rw [hlog]
     omega
    rw [k0,A8u ⟨rfl,h0⟩,ht,Ar (by omega) (by omega)]
    show some (DV.int .i64 _)=_
    congr 2; omega
end Go.Proofs.S1
end
