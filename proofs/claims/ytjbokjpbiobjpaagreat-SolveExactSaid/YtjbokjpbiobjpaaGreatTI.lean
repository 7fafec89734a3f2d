/- A verified evaluator of the program's form and its use for this seat: S1EqBits6, S1EqTimes, S1PTimes, S1PTimesA, S1EqVec, S1PVec, S1EqMat, S1PMat, S1EqCmp, S1PCmp, S1PDiv, RootM, HouL, S1EqRoot, S1PRoot, S1PRootA, LdxL, S1EqLdx, S1PLdx, S1PLdxA, S1EqRef08, S1EqRef13, S1PRef08. -/
import Derived.Test.YtjbokjpbiobjpaaGreatTE
import Derived.Test.YtjbokjpbiobjpaaGreatTF
import Derived.Test.YtjbokjpbiobjpaaGreatTH
import Derived.Test.YtjbokjpbiobjpaaGreatTG
set_option linter.unusedVariables false
set_option linter.unusedSimpArgs false
noncomputable section
open Int (toNat)
open List (length getD)
open Go.Proofs.Tryz
namespace Go.Proofs.S1
open Go Go.Den Go.C4 Go.Proofs
set_option maxRecDepth 100000
namespace EqBits6
def Cd.Bm.Bf:List (Nat × Entry):=[(261,Cd.Io.spec)]
def Cd.Bm.E:Env:=Bg (Be Cd.Bm.Bf) (fun _=>false) (fun _=>none) (fun _=>none)
theorem Cd.Bm.ev (N:Nat) (x:Int):By Cd.Bm.E N f250 (An f250) [.int .u64 x]=bif (Ah x) then some (.int .i64 (Ab ((64:Int)-(D6 x)))) else none:=by kernel_rfl
abbrev _root_.Go.Proofs.S1.Cd.Bm.Kn:=A7 prog 250 Cd.Bm.spec
theorem Cd.Bm.Ae (hk:A1 prog Cd.Bm.Bf) (h:Hyp Cd.Bm.E f250 Cd.Bm.ts Cd.Bm.pre Cd.Bm.out):Cd.Bm.Kn :=
 Am (A3 hk _ _ _) func250 (by kernel_rfl) (by kernel_rfl) h
def Cd.F7.Bf:List (Nat × Entry):=[]
def Cd.F7.E:Env:=Bg (Be Cd.F7.Bf) (fun _=>false) (fun _=>none) (fun _=>none)
theorem Cd.F7.ev (N:Nat) (x y:Int):By Cd.F7.E N f237 (An f237) [.int .u64 x,.int .u64 y]=some (.tup [.int .u64 (A8 ((A8 ((A8 ((C9 .u64 x 32)*(C9 .u64 y 32)))+(C9 .u64 (A8 ((A8 ((C9 .u64 x 32)*(Fe .u64 y 4294967295)))+(C9 .u64 (A8 ((Fe .u64 x 4294967295)*(Fe .u64 y 4294967295))) 32))) 32)))+(C9 .u64 (A8 ((Fe .u64 (A8 ((A8 ((C9 .u64 x 32)*(Fe .u64 y 4294967295)))+(C9 .u64 (A8 ((Fe .u64 x 4294967295)*(Fe .u64 y 4294967295))) 32))) 4294967295)+(A8 ((Fe .u64 x 4294967295)*(C9 .u64 y 32))))) 32))),.int .u64 (A8 (x*y))]):=by kernel_rfl
abbrev _root_.Go.Proofs.S1.Cd.F7.Kn:=A7 prog 237 Cd.F7.spec
theorem Cd.F7.Ae (hk:A1 prog Cd.F7.Bf) (h:Hyp Cd.F7.E f237 Cd.F7.ts Cd.F7.pre Cd.F7.out):Cd.F7.Kn :=
 Am (A3 hk _ _ _) func237 (by kernel_rfl) (by kernel_rfl) h
abbrev _root_.Go.Proofs.S1.Cd.Io.Kn:Prop:=A7 prog 261 Cd.Io.spec
theorem _root_.Go.Proofs.S1.Cd.Io.call:∀ (args:Array Value) (w:World),(callFunc 261 args).run prog w=.ok (.enter 261 args) w:=Nb func261 (by kernel_rfl) (show f261.body=some (An f261) by kernel_rfl)
theorem _root_.Go.Proofs.S1.Cd.Io.run (x:Int) (w:World) (h0:0≤x) (h1:x≤18446744073709551615):Calls prog 261 #[.int .u64 x] w fun e w'=>e=.returned (.int .i64 (Lib.bitLen x.toNat))∧w'=w:=Tryz.Ad4 x w h0 h1
end EqBits6
open Go Go.Den Go.C4 Go.Proofs
set_option maxRecDepth 100000
namespace EqTimes
def times.signed.Bf:List (Nat × Entry):=[(233,soft.Ew.spec)]
def times.signed.E:Env:=Bg (Be times.signed.Bf) (fun _=>false) (fun _=>none) (fun _=>none)
theorem times.signed.ev (N:Nat) (b:Int) (n:Bool):By times.signed.E N f235 (An f235) [.int .u64 b,.bool n]=bif n then bif (Ah b) then some (.int .u64 (C6 b)) else none else some (.int .u64 b):=by kernel_rfl
abbrev _root_.Go.Proofs.S1.times.signed.Kn:=A7 prog 235 times.signed.spec
theorem times.signed.Ae (hk:A1 prog times.signed.Bf) (h:Hyp times.signed.E f235 times.signed.ts times.signed.pre times.signed.out):times.signed.Kn :=
 Am (A3 hk _ _ _) func235 (by kernel_rfl) (by kernel_rfl) h
def times.nan.Bf:List (Nat × Entry):=[(155,soft.Kind.spec)]
def times.nan.E:Env:=Bg (Be times.nan.Bf) (fun _=>false) (fun _=>none) (fun _=>none)
theorem times.nan.ev (N:Nat) (a b:Int):By times.nan.E N f234 (An f234) [.int .u64 a,.int .u64 b]=bif (Ah a) then bif ((Bd a)==(4:Int)) then some (.bool true) else bif (Ah b) then bif ((Bd b)==(4:Int)) then some (.bool true) else some (.bool false) else none else none:=by kernel_rfl
abbrev _root_.Go.Proofs.S1.times.nan.Kn:=A7 prog 234 times.nan.spec
theorem times.nan.Ae (hk:A1 prog times.nan.Bf) (h:Hyp times.nan.E f234 times.nan.ts times.nan.pre times.nan.out):times.nan.Kn :=
 Am (A3 hk _ _ _) func234 (by kernel_rfl) (by kernel_rfl) h
def times.norm.Bf:List (Nat × Entry):=[(250,Cd.Bm.spec),(211,soft.Ep.spec)]
def times.norm.E:Env:=Bg (Be times.norm.Bf) (fun _=>false) (fun _=>none) (fun _=>none)
theorem times.norm.ev (N:Nat) (b:Int):By times.norm.E N f236 (An f236) [.int .u64 b]=bif (Ah b) then bif (Ah (Bk b)) then bif (decide (0≤(Ab ((64-D6 (Bk b))-11)))) then some (.tup [.int .u64 (Br .u64 (Bk b) (Ab ((64-D6 (Bk b))-11))),.int .i64 (Ab ((Az b)-(Ab ((64-D6 (Bk b))-11))))]) else none else none else none:=by kernel_rfl
abbrev _root_.Go.Proofs.S1.times.norm.Kn:=A7 prog 236 times.norm.spec
theorem times.norm.Ae (hk:A1 prog times.norm.Bf) (h:Hyp times.norm.E f236 times.norm.ts times.norm.pre times.norm.out):times.norm.Kn :=
 Am (A3 hk _ _ _) func236 (by kernel_rfl) (by kernel_rfl) h
def times.wide.hint:Nat→Option A9
 | 0=>some { keep:=[0,1,2,3],objs:=[],boxes:=[] }
 | _=>none
def times.wide.Bf:List (Nat × Entry):=[(212,soft.Cx.spec)]
def times.wide.E:Env:=Bg (Be times.wide.Bf) (fun _=>false) times.wide.hint (fun _=>none)
section
variable (N M:Nat) (n:Bool) (m e:Int) (r:Bool) (p1 p2:Int) (p3:Bool)
def times.wide.L0:Option DV:=Bx times.wide.E N f238 (An f238) [1,0,0] [] M ⟨Gm 39 [(0,.bool n),(1,.int .u64 p1),(2,.int .i64 p2),(3,.bool p3)],[]⟩
theorem times.wide.Ax:times.wide.L0 N (M+1) n p1 p2 p3=bif ((A6 p2 (-1130:Int))&&(A6 1 p1)) then times.wide.L0 N M n (C9 .u64 p1 1) (Ab (p2+1)) (bif p3 then true else ((Fe .u64 p1 1)==(1:Int))) else bif (A6 p2 (-1130:Int)) then bif (Du 0 (-1074:Int) true) then some (.tup [.int .u64 (D5 n 0 (-1074:Int) true),.int .u8 (D4 n 0 (-1074:Int) true)]) else none else bif (Du p1 p2 p3) then some (.tup [.int .u64 (D5 n p1 p2 p3),.int .u8 (D4 n p1 p2 p3)]) else none :=
 Eq.trans (by kernel_rfl)
 (Ay (Nv (A6 p2 (-1130:Int))) (Ay (Kf (A6 p2 (-1130:Int))) (Ay (S9 (A6 p2 (-1130:Int))) (Cy (tt1 (A6 p2 (-1130:Int)) (A6 1 p1)) (Ay (Wl p3) (Ay (Un p3) (Ay (Un p3) (Ay (tt6 p3) rfl)))) rfl))))
theorem times.wide.ev:By times.wide.E N f238 (An f238) [.bool n,.int .u64 m,.int .i64 e,.bool r] =
 times.wide.L0 N N n m e r:=by kernel_rfl
end
abbrev _root_.Go.Proofs.S1.times.wide.Kn:=A7 prog 238 times.wide.spec
theorem times.wide.Ae (hk:A1 prog times.wide.Bf) (h:Hyp times.wide.E f238 times.wide.ts times.wide.pre times.wide.out):times.wide.Kn :=
 Am (A3 hk _ _ _) func238 (by kernel_rfl) (by kernel_rfl) h
def times.Mul.Bf:List (Nat × Entry):=[(237,Cd.F7.spec),(155,soft.Kind.spec),(213,soft.Sign.spec),(234,times.nan.spec),(236,times.norm.spec),(235,times.signed.spec),(238,times.wide.spec)]
def times.Mul.E:Env:=Bg (Be times.Mul.Bf) (fun _=>false) (fun _=>none) (fun _=>none)
theorem times.Mul.ev (N:Nat) (a b:Int):By times.Mul.E N f208 (An f208) [.int .u64 a,.int .u64 b]=bif (Ah a) then bif (Ah b) then bif (Ah a) then bif (Ah b) then bif (Ah a&&Ah b) then bif (Ajs a b) then some (.tup [.int .u64 9221120237041090560,.int .u8 0]) else bif ((((Bd a)==(3:Int))&&((Bd b)==(0:Int)))||(((Bd a)==(0:Int))&&((Bd b)==(3:Int)))) then some (.tup [.int .u64 9221120237041090560,.int .u8 16]) else bif (((Bd a)==(3:Int))||((Bd b)==(3:Int))) then bif (Ah 9218868437227405312) then some (.tup [.int .u64 (Po (!((Dk a)==(Dk b))) 9218868437227405312),.int .u8 0]) else none else bif (((Bd a)==(0:Int))||((Bd b)==(0:Int))) then bif (Ah 0) then some (.tup [.int .u64 (Po (!((Dk a)==(Dk b))) 0),.int .u8 0]) else none else bif (Ah a&&J7 a) then bif (Ah b&&J7 b) then bif (Ah (Co a)&&Ah (Co b)) then bif (Mm (Ha .u64 (Br .u64 (Pr (Co a) (Co b)) 20) (C9 .u64 (Lc (Co a) (Co b)) 44)) (Ab ((Ab ((Gf a)+(Gf b)))+44))) then some (.tup [.int .u64 (D5 (!((Dk a)==(Dk b))) (Ha .u64 (Br .u64 (Pr (Co a) (Co b)) 20) (C9 .u64 (Lc (Co a) (Co b)) 44)) (Ab ((Ab ((Gf a)+(Gf b)))+44)) ((Br .u64 (Lc (Co a) (Co b)) 20) !=(0:Int))),.int .u8 (D4 (!((Dk a)==(Dk b))) (Ha .u64 (Br .u64 (Pr (Co a) (Co b)) 20) (C9 .u64 (Lc (Co a) (Co b)) 44)) (Ab ((Ab ((Gf a)+(Gf b)))+44)) ((Br .u64 (Lc (Co a) (Co b)) 20) !=(0:Int)))]) else none else none else none else none else none else none else none else none else none :=
 Eq.trans (by kernel_rfl)
 (Fq (Fq (Fq (Fq (Fq (Fq rfl (Ay (Nv ((Bd a)==(3:Int))) (Ay (Kf ((Bd a)==(3:Int))) (Ay (S9 ((Bd a)==(3:Int))) (Ay (Asc ((Bd a)==(3:Int)) ((Bd b)==(0:Int))) (Ay (Amq ((Bd a)==(3:Int)) ((Bd b)==(0:Int))) (Ay (Amq ((Bd a)==(3:Int)) ((Bd b)==(0:Int))) (Ay (Asd ((Bd a)==(3:Int)) ((Bd b)==(0:Int)) ((Bd a)==(0:Int))) (Ay (Ase ((Bd a)==(3:Int)) ((Bd b)==(0:Int)) ((Bd a)==(0:Int))) (Ay (Asf ((Bd a)==(3:Int)) ((Bd b)==(0:Int)) ((Bd a)==(0:Int))) (Ay (Asg ((Bd a)==(3:Int)) ((Bd b)==(0:Int))) (Cy (Ash ((Bd a)==(3:Int)) ((Bd b)==(0:Int)) ((Bd a)==(0:Int)) ((Bd b)==(3:Int))) rfl (Ay (Wl ((Bd a)==(3:Int))) (Ay (Un ((Bd a)==(3:Int))) (Ay (tt6 ((Bd a)==(3:Int))) (Cy (tt5 ((Bd a)==(3:Int)) ((Bd b)==(3:Int))) rfl (Ay (Wl ((Bd a)==(0:Int))) (Ay (Un ((Bd a)==(0:Int))) (Ay (tt6 ((Bd a)==(0:Int))) (Cy (tt5 ((Bd a)==(0:Int)) ((Bd b)==(0:Int))) rfl rfl)))))))))))))))))))) rfl) rfl) rfl) rfl) rfl)
abbrev _root_.Go.Proofs.S1.times.Mul.Kn:=A7 prog 208 times.Mul.spec
theorem times.Mul.Ae (hk:A1 prog times.Mul.Bf) (h:Hyp times.Mul.E f208 times.Mul.ts times.Mul.pre times.Mul.out):times.Mul.Kn :=
 Am (A3 hk _ _ _) func208 (by kernel_rfl) (by kernel_rfl) h
def times.Div.hint:Nat→Option A9
 | 1=>some { keep:=[6,10,11,12,13,14,78],objs:=[],boxes:=[] }
 | _=>none
def times.Div.Bf:List (Nat × Entry):=[(155,soft.Kind.spec),(213,soft.Sign.spec),(234,times.nan.spec),(236,times.norm.spec),(235,times.signed.spec),(238,times.wide.spec)]
def times.Div.E:Env:=Bg (Be times.Div.Bf) (fun _=>false) times.Div.hint (fun _=>none)
section
variable (N M:Nat) (a b p13 p14 p78:Int)
def times.Div.L0:Option DV:=Bx times.Div.E N f209 (An f209) [1,1,1,1,1,1,1,0,1,0] [] M ⟨Gm 104 [(6,.bool (!((Dk a)==(Dk b)))),(10,.int .i64 (Gf a)),(11,.int .u64 (Co b)),(12,.int .i64 (Gf b)),(13,.int .u64 p13),(14,.int .u64 p14),(78,.int .i64 p78)],[]⟩
theorem times.Div.Ax:times.Div.L0 N (M+1) a b p13 p14 p78=bif (A6 p78 61) then bif (Dy (Co b) (Br .u64 p14 1)) then times.Div.L0 N M a b (Ha .u64 (Br .u64 p13 1) 1) (A8 ((Br .u64 p14 1)-(Co b))) (Ab (p78+1)) else times.Div.L0 N M a b (Br .u64 p13 1) (Br .u64 p14 1) (Ab (p78+1)) else bif (Mm p13 (Ab ((Ab ((Gf a)-(Gf b)))-61))) then some (.tup [.int .u64 (D5 (!((Dk a)==(Dk b))) p13 (Ab ((Ab ((Gf a)-(Gf b)))-61)) (p14 !=(0:Int))),.int .u8 (D4 (!((Dk a)==(Dk b))) p13 (Ab ((Ab ((Gf a)-(Gf b)))-61)) (p14 !=(0:Int)))]) else none:=by kernel_rfl
theorem times.Div.ev:By times.Div.E N f209 (An f209) [.int .u64 a,.int .u64 b]=bif (Ah a) then bif (Ah b) then bif (Ah a) then bif (Ah b) then bif (Ah a&&Ah b) then bif (Ajs a b) then some (.tup [.int .u64 9221120237041090560,.int .u8 0]) else bif ((((Bd a)==(3:Int))&&((Bd b)==(3:Int)))||(((Bd a)==(0:Int))&&((Bd b)==(0:Int)))) then some (.tup [.int .u64 9221120237041090560,.int .u8 16]) else bif ((Bd a)==(3:Int)) then bif (Ah 9218868437227405312) then some (.tup [.int .u64 (Po (!((Dk a)==(Dk b))) 9218868437227405312),.int .u8 0]) else none else bif (((Bd b)==(3:Int))||((Bd a)==(0:Int))) then bif (Ah 0) then some (.tup [.int .u64 (Po (!((Dk a)==(Dk b))) 0),.int .u8 0]) else none else bif ((Bd b)==(0:Int)) then bif (Ah 9218868437227405312) then some (.tup [.int .u64 (Po (!((Dk a)==(Dk b))) 9218868437227405312),.int .u8 8]) else none else bif (Ah a&&J7 a) then bif (Ah b&&J7 b) then bif ((Co b) !=0) then bif ((Co b) !=0) then times.Div.L0 N N a b (A8 (Int.tdiv (Co a) (Co b))) (Int.tmod (Co a) (Co b)) (0:Int) else none else none else none else none else none else none else none else none else none :=
 Eq.trans (by kernel_rfl)
 (Fq (Fq (Fq (Fq (Fq (Fq rfl (Ay (Nv ((Bd a)==(3:Int))) (Ay (Kf ((Bd a)==(3:Int))) (Ay (S9 ((Bd a)==(3:Int))) (Ay (Asc ((Bd a)==(3:Int)) ((Bd b)==(3:Int))) (Ay (Amq ((Bd a)==(3:Int)) ((Bd b)==(3:Int))) (Ay (Amq ((Bd a)==(3:Int)) ((Bd b)==(3:Int))) (Ay (Asd ((Bd a)==(3:Int)) ((Bd b)==(3:Int)) ((Bd a)==(0:Int))) (Ay (Ase ((Bd a)==(3:Int)) ((Bd b)==(3:Int)) ((Bd a)==(0:Int))) (Ay (Asf ((Bd a)==(3:Int)) ((Bd b)==(3:Int)) ((Bd a)==(0:Int))) (Ay (Asg ((Bd a)==(3:Int)) ((Bd b)==(3:Int))) (Cy (Ash ((Bd a)==(3:Int)) ((Bd b)==(3:Int)) ((Bd a)==(0:Int)) ((Bd b)==(0:Int))) rfl (Fq rfl (Ay (Wl ((Bd b)==(3:Int))) (Ay (Un ((Bd b)==(3:Int))) (Ay (tt6 ((Bd b)==(3:Int))) (Cy (tt5 ((Bd b)==(3:Int)) ((Bd a)==(0:Int))) rfl (Fq rfl (Fq (Fq (Cy (Cr ((Co b) !=0)) (Cy (Cr ((Co b) !=0)) rfl rfl) rfl) rfl) rfl))))))))))))))))))) rfl) rfl) rfl) rfl) rfl)
end
abbrev _root_.Go.Proofs.S1.times.Div.Kn:=A7 prog 209 times.Div.spec
theorem times.Div.Ae (hk:A1 prog times.Div.Bf) (h:Hyp times.Div.E f209 times.Div.ts times.Div.pre times.Div.out):times.Div.Kn :=
 Am (A3 hk _ _ _) func209 (by kernel_rfl) (by kernel_rfl) h
end EqTimes
open Go Go.Den Go.C4 Go.Proofs
open EqBits6 EqTimes
theorem Ab3 {n:Nat} (h0:n≠0) (h:n<2^64):Go.Lib.bitLen n=n.log2+1:=by
 have h1:=Nat.log2_self_le h0
 have h2:=Nat.lt_log2_self (n:=n)
 have hp:=B4 n.log2
 have e:n / 2^n.log2=1:=by
  rw [Nat.pow_succ] at h2
  exact Nat.div_eq_of_lt_le (by omega) (by omega)
 have e1:Go.Lib.bitLen 1=1:=by decide
 rw [Go.Lib.bitLen_shift n.log2 n h1 h,e,e1]
theorem Cd.Io.known:Cd.Io.Kn:=by
 refine ⟨?_,Cd.Io.call⟩
 intro args ha
 simp only [Cd.Io.spec,entry] at ha ⊢
 cases hd:Ke [.i .u64] args with
 | none=>rw [hd] at ha; cases ha
 | some ats =>
   rw [hd] at ha
   simp only at ha ⊢
   obtain ⟨ds,h1,h2⟩:=Kd hd
   obtain ⟨x,_,_,rfl,rfl,he⟩:=h1.Akp
   obtain ⟨rfl,rfl⟩:=he.T8
   obtain ⟨n,rfl,hn⟩:=B0 (x:=x) ha
   refine Lu.args ?_ h2
   intro w vals I hI hv
   obtain ⟨u,us,e1,e2,e3⟩:=hv
   simp only [Aj] at e2
   have e3:us=[]:=e3
   subst e2 e3
   have e4:vals=#[.int .u64 (n:Int)]:=Array.ext' e1
   subst e4
   refine (Cd.Io.run n w (by omega) (by omega)).mono ?_
   rintro e w' ⟨rfl,rfl⟩
   refine ⟨_,fun _=>none,rfl,Go.RowKit.Below.refl _ _,⟨fun i b h=>(by cases h),fun i j b h=>(by cases h)⟩,?_⟩
   show Aj _ _ (DV.int .i64 (D6 n)) _
   simp only [Aj]
   congr 1
   unfold D6
   rw [Au9]
   by_cases h0:n=0
   ·subst h0; rfl
   ·rw [Ab3 h0 hn,Avt (by omega)]; rfl
theorem Akj {n:Nat} (hn:n<2^64):0≤D6 n∧D6 n≤64:=by
 unfold D6
 rw [Au9]
 by_cases h0:n=0
 ·subst h0; decide
 ·have:=(Awn h0).2 hn
  rw [Avt (by omega)]; omega
theorem Cd.Bm.known:Cd.Bm.Kn:=Cd.Bm.Ae (.cons Cd.Io.known .nil) fun x hp=>by
 obtain ⟨n,rfl,hn⟩:=B0 (x:=x) hp
 have:=Akj hn
 refine ⟨0,Cd.Bm.out [.i n],[],?_,.int⟩
 rw [Cd.Bm.ev,B2 hn,Au7,Al (by omega) (by omega)]
 rfl
theorem Ht {a b:Nat} (ha:a<4294967296) (hb:b<4294967296):a*b≤18446744065119617025 :=
 Awe (Av3 (show a≤4294967295 by omega) (show b≤4294967295 by omega)) (by decide)
theorem Ajv (x y:Nat) (hx:x<2^64) (hy:y<2^64) :
 x*y / 18446744073709551616=(x / 2^32)*(y / 2^32)+((x / 2^32)*(y%2^32)+(x%2^32)*(y%2^32) / 2^32) / 2^32 +
  (((x / 2^32)*(y%2^32)+(x%2^32)*(y%2^32) / 2^32)%2^32+(x%2^32)*(y / 2^32)) / 2^32:=by
 have ex:x=x / 2^32*4294967296+x%2^32:=by omega
 have ey:y=y / 2^32*4294967296+y%2^32:=by omega
 have ha:x / 2^32<4294967296:=by omega
 have hc:y / 2^32<4294967296:=by omega
 have hb:x%2^32<4294967296:=by omega
 have hd:y%2^32<4294967296:=by omega
 generalize x / 2^32=a at *
 generalize x%2^32=b at *
 generalize y / 2^32=c at *
 generalize y%2^32=d at *
 have e:x*y=a*c*18446744073709551616+(a*d+b*c)*4294967296+b*d:=by
  rw [ex,ey,Awb,Nat.mul_add,Nat.mul_add]
  have e1:a*4294967296*(c*4294967296)=a*c*18446744073709551616:=by
   rw [Nat.mul_mul_mul_comm]
  have e2:a*4294967296*d=a*d*4294967296:=Nat.mul_right_comm _ _ _
  have e3:b*(c*4294967296)=b*c*4294967296:=(Avy _ _ _).symm
  rw [e1,e2,e3]
  omega
 have b1:=Ht ha hc
 have b2:=Ht ha hd
 have b3:=Ht hb hc
 have b4:=Ht hb hd
 rw [e]
 clear e ex ey
 generalize a*c=p at *
 generalize a*d=q at *
 generalize b*c=r at *
 generalize b*d=s at *
 omega
theorem Cd.F7.known:Cd.F7.Kn:=Cd.F7.Ae .nil fun x y hp=>by
 obtain ⟨h1,h2⟩:=Ag.1 hp
 obtain ⟨x,rfl,hx⟩:=B0 h1
 obtain ⟨y,rfl,hy⟩:=B0 h2
 refine ⟨0,Cd.F7.out [.i x,.i y],[],?_,Wk.G1 (.cons .int (.cons .int .nil))⟩
 show _=some (DV.tup [.int .u64 (Pr x y),.int .u64 (Lc x y)])
 have s32:∀ n:Nat,C9 .u64 (n:Int) (32:Int)=((n / 2^32:Nat):Int):=fun n=>Gn .u64 n 32 (by decide)
 have m32:∀ n:Nat,n<2^64→Fe .u64 (n:Int) (4294967295:Int)=((n%2^32:Nat):Int):=fun n hn=>G6 32 hn (by decide)
 have ha:x / 2^32<4294967296:=by omega
 have hc:y / 2^32<4294967296:=by omega
 have hb:x%2^32<4294967296:=by omega
 have hd:y%2^32<4294967296:=by omega
 have b1:=Ht ha hc
 have b2:=Ht ha hd
 have b3:=Ht hb hc
 have b4:=Ht hb hd
 have hhi:=Ajv x y hx hy
 have wn:∀ n:Nat,n<2^64→A8 (n:Int)=n:=fun n hn=>Cq (by omega) (by omega)
 have hlt:x*y / 18446744073709551616<2^64:=by
  rw [Nat.div_lt_iff_lt_mul (by decide)]
  have:=Av3 (show x≤18446744073709551615 by omega) (show y≤18446744073709551615 by omega)
  omega
 rw [Cd.F7.ev]
 simp only [s32,m32 x hx,m32 y hy]
 generalize hA:x / 2^32=a at *
 generalize hB:x%2^32=b at *
 generalize hC:y / 2^32=c at *
 generalize hD:y%2^32=d at *
 simp only [← Avs]
 rw [wn (a*c) (by omega),wn (a*d) (by omega),wn (b*c) (by omega),wn (b*d) (by omega),s32]
 simp only [← Int.natCast_add]
 rw [wn (a*d+b*d / 2^32) (by omega),s32,m32 _ (by omega)]
 simp only [← Int.natCast_add]
 rw [wn (a*c+(a*d+b*d / 2^32) / 2^32) (by omega),wn _ (by omega),s32]
 simp only [← Int.natCast_add]
 rw [← hhi,wn _ hlt]
 unfold Pr Lc
 rw [Au9,Au9,Qr]
 congr 3
theorem times.signed.known:times.signed.Kn:=times.signed.Ae (.cons soft.Ew.known .nil) fun b n hp=>by
 have hp:Ah b=true:=hp
 refine ⟨0,times.signed.out [.i b,.b n],[],?_,.int⟩
 rw [times.signed.ev,hp]
 cases n<;>rfl
theorem times.nan.known:times.nan.Kn:=times.nan.Ae (.cons soft.Kind.known .nil) fun a b hp=>by
 obtain ⟨ha,hb⟩:=Ag.1 hp
 refine ⟨0,times.nan.out [.i a,.i b],[],?_,.bool⟩
 rw [times.nan.ev,ha,hb,Au7,Au7]
 show _=some (DV.bool (decide (Bd a=4)||decide (Bd b=4)))
 by_cases h1:Bd a=4
 ·rw [h1]; rfl
 ·have e1:(Bd a==(4:Int))=false:=by simp; exact h1
  rw [e1,Avc h1,Avb]
  by_cases h2:Bd b=4
  ·rw [h2]; rfl
  ·have e2:(Bd b==(4:Int))=false:=by simp; exact h2
   rw [e2,Avc h2]; rfl
theorem L7 {n:Nat} (h:Aw n≠0):(Aw n).log2≤52∧2^52≤Aw n*2^Bz n∧Aw n*2^Bz n<2^53∧Bz n≤52:=by
 have h1:=Fm n
 have h2:(Aw n).log2<53:=(Awn h).2 (by omega)
 have hz:=Rj (Aw n) (Bz n) h
 have hne:Aw n*2^Bz n≠0:=Ku h
 have hl:(Aw n*2^Bz n).log2=52:=by rw [hz]; unfold Bz; omega
 refine ⟨by omega,?_,?_,by unfold Bz; omega⟩
 ·rw [← Nat.le_log2 hne]; omega
 ·rw [← Awn hne]; omega
theorem times.norm.known:times.norm.Kn:=times.norm.Ae (.cons Cd.Bm.known (.cons soft.Ep.known .nil)) fun b hp=>by
 obtain ⟨h1,h2⟩:=Ag.1 hp
 obtain ⟨n,rfl,hn⟩:=B0 h1
 have h2:Aw n≠0:=Ao.1 h2
 obtain ⟨l1,l2,l3,l4⟩:=L7 h2
 have hM:=Fm n
 have hE:=Em n
 refine ⟨0,times.norm.out [.i n],[],?_,Wk.G1 (.cons .int (.cons .int .nil))⟩
 show _=some (DV.tup [.int .u64 (Co n),.int .i64 (Gf n)])
 have e1:Bk (n:Int)=(Aw n:Int):=rfl
 have e2:Az (n:Int)=A2 n:=rfl
 have e3:D6 (Aw n:Int)=((Aw n).log2:Int)+1:=by
  unfold D6
  rw [Avt (by omega),Au9]
 have e4:Ab ((64-(((Aw n).log2:Int)+1))-(11:Int))=((Bz n:Nat):Int):=by
  rw [Al (by omega) (by omega)]; unfold Bz; omega
 rw [times.norm.ev,B2 hn,e1,e2,B2 (n:=Aw n) (by omega),e3,e4,Ev _ _ (by omega),Avk (by omega),Al (by omega) (by omega),Au8 (by omega)]
 rfl
theorem Aiq {V t:Nat} {E:Int} (h0:V≠0) (h:V<2^t) (hE:E+t≤-1075):B3 V E=0∧flagsOf V E=3:=by
 have hl:V.log2<t:=(Awn h0).2 h
 have hL:Ca V E=-1074:=by unfold Ca; omega
 obtain ⟨k,hk⟩:∃ k:Nat,(-1074-E).toNat=t+1+k:=⟨(-1074-E).toNat-t-1,by omega⟩
 have hp:2^(t+1)≤2^(t+1+k):=Avm (by decide) (by omega)
 have ht:2^(t+1)=2*2^t:=by rw [Nat.pow_succ]; omega
 have e2:(-(-1074-E)).toNat=0:=by omega
 have hr:H9 V (-1074-E)=0:=by
  unfold H9 Kp
  rw [e2,hk,Av5,Awg,Nat.div_eq_of_lt (by omega),Avk (by omega),Avt (by omega)]
 have hru:B3 V E=0:=by
  unfold B3 kept
  rw [Avt h0,hL,hr]
  simp
 refine ⟨hru,?_⟩
 unfold flagsOf exact Kl
 rw [Avt h0,hru,hL,e2,hk,Av5,Awg,Avk (by omega),Avc h0]
 decide
theorem Agt (n:Bool) {m:Nat} {e:Int} (r:Bool) (hm:1<m) (he:e < -1130):Fi n (m / 2) (e+1) (r||decide (m%2=1))=Fi n m e r:=by
 have e1:(4*m+r.toNat) / 2^3=m / 2:=by cases r<;>simp<;>omega
 have e2:(r||decide (m%2=1))=decide ((4*m+r.toNat)%2^3≠0):=by
  rw [Avn]
  cases r
  ·simp; omega
  ·simp; omega
 have:=Re n (V:=4*m+r.toNat) (k:=3) (E:=e-2) (e:=e+1) (s:=r||decide (m%2=1)) (by omega) e2 (by omega) (.inr (by omega))
 rw [e1] at this
 exact this
theorem Rd (n:Bool) {e:Int} (r:Bool) (he:e < -1130):Fi n 1 e r=Fi n 0 (-1074) true:=by
 have h1:r.toNat≤1:=by cases r<;>decide
 obtain ⟨a1,a2⟩:=Aiq (V:=4*1+r.toNat) (t:=3) (E:=e-2) (by omega) (by omega) (by omega)
 obtain ⟨b1,b2⟩:=Aiq (V:=4*0+true.toNat) (t:=1) (E:=-1074-2) (by decide) (by decide) (by decide)
 unfold Fi
 rw [a1,a2,b1,b2]
theorem Afs (N:Nat) (n:Bool):∀ (k m:Nat) (e:Int) (r:Bool),1≤m→m<2^62→m≤2^k→-7000≤e→e≤6000→(2^60≤m∨e≤-1130) →
 times.wide.L0 N (k+1) n (m:Int) e r=some (.tup [.int .u64 (((Fi n m e r).1:Nat):Int),.int .u8 (((Fi n m e r).2:Nat):Int)]):=by
 intro k
 induction k with
 | zero =>
   intro m e r h1 h2 h3 h4 h5 h6
   have hm:m=1:=by simp at h3; omega
   subst hm
   rw [times.wide.Ax,Av,Av]
   have c1:decide ((1:Int)<((1:Nat):Int))=false:=by decide
   rw [c1,Bool.and_false,Avb]
   by_cases he:e < -1130
   ·have hp:Du (0:Int) (-1074:Int) true=true:=Ao.2 (by omega)
    rw [Au8 he,Au7,hp,Au7,Rd n r he]
    rfl
   ·have he:e=-1130:=by omega
    subst he
    have hp:Du ((1:Nat):Int) (-1130:Int) r=true:=Ao.2 (by omega)
    rw [Avc (by omega),Avb,hp,Au7]
    rfl
 | succ k ih =>
   intro m e r h1 h2 h3 h4 h5 h6
   rw [times.wide.Ax,Av,Av]
   by_cases he:e < -1130
   ·by_cases hm:1<m
    ·have c1:decide ((1:Int)<(m:Int))=true:=Au8 (by omega)
     have e1:C9 .u64 (m:Int) (1:Int)=((m / 2:Nat):Int):=Gn .u64 m 1 (by decide)
     have e2:Fe .u64 (m:Int) (1:Int)=((m%2:Nat):Int):=G6 (a:=m) 1 (by omega) (by decide)
     have e3:(bif r then true else (Fe .u64 (m:Int) (1:Int))==(1:Int))=(r||decide (m%2=1)):=by
      rw [e2]
      cases r
      ·rw [Avn]; simp; omega
      ·rfl
     rw [Au8 he,c1,Avd,Au7,e1,e3,Al (by omega) (by omega)]
     have hk:m / 2≤2^k:=by rw [Nat.pow_succ] at h3; omega
     rw [ih (m / 2) (e+1) _ (by omega) (by omega) hk (by omega) (by omega) (.inr (by omega)),Agt n r hm he]
    ·have hm:m=1:=by omega
     subst hm
     have c1:decide ((1:Int)<((1:Nat):Int))=false:=by decide
     have hp:Du (0:Int) (-1074:Int) true=true:=Ao.2 (by omega)
     rw [c1,Bool.and_false,Avb,Au8 he,Au7,hp,Au7,Rd n r he]
     rfl
   ·have hp:Du (m:Int) e r=true:=Ao.2 ⟨by omega,by omega,by omega,.inl (by omega),fun _=>by omega⟩
    rw [Avc he,Bool.false_and,Avb,Avb,hp,Au7]
    rfl
theorem times.wide.known:times.wide.Kn:=times.wide.Ae (.cons soft.Cx.known .nil) fun n m e r hp=>by
 obtain ⟨h1,h2,h3,h4⟩:=Ao.1 (show Mm m e=true from hp)
 obtain ⟨m,rfl⟩:∃ k:Nat,m=k:=⟨m.toNat,by omega⟩
 refine ⟨63,times.wide.out [.b n,.i m,.i e,.b r],[],?_,Wk.G1 (.cons .int (.cons .int .nil))⟩
 rw [times.wide.ev,Afs 63 n 62 m e r (by omega) (by omega) (by omega) (by omega) (by omega) (.inl (by omega))]
 rfl
open Go Go.Den Go.C4 Go.Proofs
open EqTimes
theorem O5 {b:Nat} (h0:As b≠0) (h3:As b≠3) (h4:As b≠4):Aw b≠0:=by
 have:=Ia b
 unfold As at h0 h3 h4
 unfold Aw
 by_cases h1:Eb b=2047
 ·rw [Avu h1] at h3 h4
  by_cases h2:Dr b=0
  ·rw [Avu h2] at h3; exact absurd rfl h3
  ·rw [Avt h2] at h4; exact absurd rfl h4
 ·rw [Avt h1] at h0
  by_cases h2:0<Eb b
  ·rw [Avt (by omega)]; omega
  ·rw [Avt h2] at h0
   by_cases h5:0<Dr b
   ·rw [Avu (by omega)]; omega
   ·rw [Avt h5] at h0; exact absurd rfl h0
theorem Xh {b:Nat} (h0:As b=0):Aw b=0:=by
 unfold As at h0
 unfold Aw
 by_cases h1:Eb b=2047
 ·rw [Avu h1] at h0; split at h0<;>omega
 ·rw [Avt h1] at h0
  by_cases h2:0<Eb b
  ·rw [Avu h2] at h0; omega
  ·rw [Avt h2] at h0
   by_cases h5:0<Dr b
   ·rw [Avu h5] at h0; omega
   ·rw [Avu (by omega)]; omega
theorem Ac9 {x y:Nat} (hx1:2^52≤x) (hx2:x<2^53) (hy1:2^52≤y) (hy2:y<2^53):2^104≤x*y∧x*y<2^106:=by
 have h1:=Av3 hx1 hy1
 have h2:x*y<2^53*2^53:=Nat.mul_lt_mul'' hx2 hy2
 exact ⟨Awe (by decide) h1,Awi h2 (by decide)⟩
theorem Am9 {V:Nat} (h:V<2^106):Ha .u64 (Br .u64 ((V / 18446744073709551616:Nat):Int) (20:Int)) (C9 .u64 ((V%18446744073709551616:Nat):Int) (44:Int))=((V / 2^44:Nat):Int):=by
 have e1:Br .u64 ((V / 18446744073709551616:Nat):Int) (20:Int)=((V / 18446744073709551616*2^20%2^64:Nat):Int):=Ev _ 20 (by decide)
 have e2:C9 .u64 ((V%18446744073709551616:Nat):Int) (44:Int)=((V%18446744073709551616 / 2^44:Nat):Int):=Gn .u64 _ 44 (by decide)
 rw [e1,e2,Avk (by omega),K2 (k:=20) (by omega) (by omega)]
 congr 1
 omega
theorem Am8 {V:Nat}:((Br .u64 ((V%18446744073709551616:Nat):Int) (20:Int)) !=(0:Int))=decide (V%2^44≠0):=by
 have e1:Br .u64 ((V%18446744073709551616:Nat):Int) (20:Int)=((V%18446744073709551616*2^20%2^64:Nat):Int):=Ev _ 20 (by decide)
 rw [e1,Avn]
 simp only [bne_iff_ne,ne_eq,Ave]
 omega
theorem Y2 (s t:Bool):(!(s==t))=(s !=t):=rfl
theorem w53 {x:Nat} (h:x<2^53):Ah (x:Int)=true:=B2 (by omega)
theorem Anf (n:Bool) {a b:Nat} (ha:Aw a≠0) (hb:Aw b≠0) :
 (bif (Ah (Co a)&&Ah (Co b)) then
  bif (Mm (Ha .u64 (Br .u64 (Pr (Co a) (Co b)) (20:Int)) (C9 .u64 (Lc (Co a) (Co b)) (44:Int))) (Ab ((Ab ((Gf a)+(Gf b)))+(44:Int)))) then
   some (DV.tup [.int .u64 (D5 n (Ha .u64 (Br .u64 (Pr (Co a) (Co b)) (20:Int)) (C9 .u64 (Lc (Co a) (Co b)) (44:Int))) (Ab ((Ab ((Gf a)+(Gf b)))+(44:Int))) ((Br .u64 (Lc (Co a) (Co b)) (20:Int)) !=(0:Int))),.int .u8 (D4 n (Ha .u64 (Br .u64 (Pr (Co a) (Co b)) (20:Int)) (C9 .u64 (Lc (Co a) (Co b)) (44:Int))) (Ab ((Ab ((Gf a)+(Gf b)))+(44:Int))) ((Br .u64 (Lc (Co a) (Co b)) (20:Int)) !=(0:Int)))])
  else none
 else none)=some (.tup [.int .u64 ((B5 n (B3 (Aw a*Aw b) (A2 a+A2 b)):Nat):Int),.int .u8 ((flagsOf (Aw a*Aw b) (A2 a+A2 b):Nat):Int)]):=by
 obtain ⟨a1,a2,a3,a4⟩:=L7 ha
 obtain ⟨b1,b2,b3,b4⟩:=L7 hb
 have ea:=Em a
 have eb:=Em b
 have ma:Co (a:Int)=((Aw a*2^Bz a:Nat):Int):=rfl
 have mb:Co (b:Int)=((Aw b*2^Bz b:Nat):Int):=rfl
 have na:Gf (a:Int)=A2 a-Bz a:=rfl
 have nb:Gf (b:Int)=A2 b-Bz b:=rfl
 have hi:Pr (Co a) (Co b)=((Aw a*2^Bz a*(Aw b*2^Bz b) / 18446744073709551616:Nat):Int):=rfl
 have lo:Lc (Co a) (Co b)=((Aw a*2^Bz a*(Aw b*2^Bz b)%18446744073709551616:Nat):Int):=rfl
 rw [hi,lo,ma,mb,na,nb,w53 a3,w53 b3,Avd,Au7]
 obtain ⟨v1,v2⟩:=Ac9 a2 a3 b2 b3
 have ev:Aw a*2^Bz a*(Aw b*2^Bz b)=Aw a*Aw b*2^(Bz a+Bz b):=by
  rw [Nat.mul_mul_mul_comm,← Avw]
 obtain ⟨s1,s2⟩:=C1 (Aw a*Aw b) (Bz a+Bz b) (A2 a+A2 b)
 rw [← ev] at s1 s2
 generalize Aw a*2^Bz a*(Aw b*2^Bz b)=V at *
 rw [Am9 v2,Am8,Al (x:=_+_) (by rw [Al (by omega) (by omega)]; omega) (by rw [Al (by omega) (by omega)]; omega),Al (by omega) (by omega)]
 have hw:Mm ((V / 2^44:Nat):Int) (A2 a-Bz a+(A2 b-Bz b)+44)=true:=Ao.2 ⟨by omega,by omega,by omega,by omega⟩
 rw [hw,Au7]
 unfold D5 D4
 rw [Au9,Re n (V:=V) (k:=44) (E:=A2 a+A2 b-((Bz a+Bz b:Nat):Int)) (e:=A2 a-Bz a+(A2 b-Bz b)+44) (s:=decide (V%2^44≠0)) (by omega) rfl (by omega) (.inl (by omega)),s1,s2]
theorem kq (b k:Nat):(((As b:Nat):Int)==((k:Nat):Int))=decide (As b=k):=by
 rw [Avn]; simp only [beq_iff_eq,Ave]; omega
theorem W6 (n:Bool) {r:Nat} (h:r<2^63):Po n (r:Int)=((B5 n r:Nat):Int):=by
 unfold Po B5 C6
 cases n
 ·rfl
 ·simp only [if_true]
  rw [Au9,Ve h]
theorem Abf (n:Bool):Po n (9218868437227405312:Int)=((B5 n F2:Nat):Int):=W6 n (r:=F2) (by decide)
theorem Wx (n:Bool):Po n (0:Int)=((B5 n 0:Nat):Int):=W6 n (r:=0) (by decide)
theorem Pb (b:Nat):Bd (b:Int)=((As b:Nat):Int):=rfl
theorem Ae3 (a b:Nat):Ajs (a:Int) (b:Int)=(decide (As a=4)||decide (As b=4)):=by
 unfold Ajs Bd
 simp only [Au9]
 rw [Avn]
 simp only [Bool.or_eq_true,Ave]
 omega
theorem k3 (b:Nat):(((As b:Nat):Int)==(3:Int))=decide (As b=3):=kq b 3
theorem k0 (b:Nat):(((As b:Nat):Int)==(0:Int))=decide (As b=0):=kq b 0
theorem times.Mul.known:times.Mul.Kn:=times.Mul.Ae (.cons Cd.F7.known (.cons soft.Kind.known (.cons soft.Sign.known (.cons times.nan.known (.cons times.norm.known (.cons times.signed.known (.cons times.wide.known .nil))))))) fun a b hp=>by
 obtain ⟨ha,hb⟩:=Ag.1 hp
 obtain ⟨a,rfl,hn⟩:=B0 ha
 obtain ⟨b,rfl,hm⟩:=B0 hb
 refine ⟨0,times.Mul.out [.i a,.i b],[],?_,Wk.G1 (.cons .int (.cons .int .nil))⟩
 have i1:Ah (9218868437227405312:Int)=true:=B2 (n:=9218868437227405312) (by decide)
 have i2:Ah (0:Int)=true:=B2 (n:=0) (by decide)
 rw [times.Mul.ev,ha,hb,Ae3,Pb,Pb,k3,k3,k0,k0,i1,i2,Abf,Wx,Y2]
 show _=some (DV.tup [.int .u64 (((Vc a b).1:Nat):Int),.int .u8 (((Vc a b).2:Nat):Int)])
 have ea:Dk (a:Int)=Db a:=rfl
 have eb:Dk (b:Int)=Db b:=rfl
 rw [ea,eb]
 unfold Vc
 simp only [Avd,Au7]
 by_cases h4:As a=4∨As b=4
 ·have c4:(decide (As a=4)||decide (As b=4))=true:=by simp; exact h4
  rw [Avu h4,c4,Au7]; rfl
 ·have c4:(decide (As a=4)||decide (As b=4))=false:=by simp; omega
  rw [Avt h4,c4,Avb]
  by_cases h3:As a=3∨As b=3
  ·rw [Avu h3]
   by_cases h0:As a=0∨As b=0
   ·have c0:(decide (As a=3)&&decide (As b=0)||decide (As a=0)&&decide (As b=3))=true:=by simp; omega
    rw [Avu h0,c0,Au7]; rfl
   ·have c0:(decide (As a=3)&&decide (As b=0)||decide (As a=0)&&decide (As b=3))=false:=by simp; omega
    have c3:(decide (As a=3)||decide (As b=3))=true:=by simp; omega
    rw [Avt h0,c0,Avb,c3,Au7]; rfl
  ·have c0:(decide (As a=3)&&decide (As b=0)||decide (As a=0)&&decide (As b=3))=false:=by simp; omega
   have c3:(decide (As a=3)||decide (As b=3))=false:=by simp; omega
   rw [Avt h3,c0,Avb,c3,Avb]
   by_cases h0:As a=0∨As b=0
   ·have c5:(decide (As a=0)||decide (As b=0))=true:=by simp; exact h0
    have hz:Aw a*Aw b=0:=by
     rcases h0 with h | h
     ·rw [Xh h,Nat.zero_mul]
     ·rw [Xh h,Nat.mul_zero]
    rw [c5,Au7,hz,W9,M5]; rfl
   ·have c5:(decide (As a=0)||decide (As b=0))=false:=by simp; omega
    have pa:=O5 (b:=a) (by omega) (by omega) (by omega)
    have pb:=O5 (b:=b) (by omega) (by omega) (by omega)
    have na:J7 (a:Int)=true:=Ao.2 pa
    have nb:J7 (b:Int)=true:=Ao.2 pb
    rw [c5,Avb,na,nb,Avd,Au7,Au7]
    exact Anf _ pa pb
theorem Ale (N:Nat) {a b:Nat} {X Y:Nat} (hY:0<Y) (hY2:Y<2^53) (hX:X<2*Y) (em:Co (b:Int)=(Y:Int)):∀ (k i:Nat),k+i=61 →
 times.Div.L0 N (k+1) a b ((X*2^i / Y:Nat):Int) ((X*2^i%Y:Nat):Int) (i:Int) =
  times.Div.L0 N 1 a b ((X*2^61 / Y:Nat):Int) ((X*2^61%Y:Nat):Int) (61:Int):=by
 intro k
 induction k with
 | zero =>
   intro i hi
   have:i=61:=by omega
   subst this
   rfl
 | succ k ih =>
   intro i hi
   have hq:X*2^i / Y<2^62:=by
    rw [Nat.div_lt_iff_lt_mul hY]
    have h1:X*2^i<2*Y*2^i:=(Nat.mul_lt_mul_right (B4 i)).2 hX
    have h2:2*2^i≤2^62:=by
     rw [Avv,← Nat.pow_succ]; exact Avm (by decide) (by omega)
    have h3:2*2^i*Y≤2^62*Y:=Avj _ h2
    rw [Nat.mul_right_comm] at h1
    omega
   have hr:X*2^i%Y<Y:=Nat.mod_lt _ hY
   have hd:=Nat.div_add_mod (X*2^i) Y
   have e2:X*2^(i+1)=X*2^i*2:=by rw [Nat.pow_succ,Avy]
   rw [times.Div.Ax,Av,D9,em,Au8 (by omega),Au7]
   have s1:Br .u64 ((X*2^i%Y:Nat):Int) (1:Int)=((X*2^i%Y*2:Nat):Int):=by
    have:=Ev (X*2^i%Y) 1 (by decide)
    rw [Avk (a:=X*2^i%Y*2^1) (by omega)] at this
    exact this
   have s2:Br .u64 ((X*2^i / Y:Nat):Int) (1:Int)=((X*2^i / Y*2^1:Nat):Int):=by
    have:=Ev (X*2^i / Y) 1 (by decide)
    rw [Avk (a:=X*2^i / Y*2^1) (by omega)] at this
    exact this
   have s3:Ha .u64 ((X*2^i / Y*2^1:Nat):Int) (1:Int)=((X*2^i / Y*2^1+1:Nat):Int):=K2 (k:=1) (b:=1) (by decide) (by omega)
   have ei:Ab ((i:Int)+1)=((i+1:Nat):Int):=by rw [Al (by omega) (by omega)]; rfl
   rw [s1,s2,s3,ei]
   generalize hq':X*2^i / Y=q at *
   generalize hr':X*2^i%Y=r at *
   have step:∀ c,X*2^i*2=Y*(2*q+c)+(2*r-c*Y)→c*Y≤2*r→2*r<c*Y+Y→X*2^(i+1) / Y=2*q+c∧X*2^(i+1)%Y=2*r-c*Y:=fun c h1 h2 h3=>by
    rw [e2,h1]
    constructor
    ·rw [Nat.mul_add_div hY,Nat.div_eq_of_lt (by omega)]; omega
    ·rw [Nat.mul_add_mod,Avk (by omega)]
   by_cases hc:Y≤r*2
   ·obtain ⟨t1,t2⟩:=step 1 (by rw [Nat.mul_add,Awg,Nat.mul_left_comm]; omega) (by omega) (by omega)
    have:=ih (i+1) (by omega)
    rw [t1,t2] at this
    rw [Au8 (by omega),Au7,Cq (by omega) (by omega)]
    have e3:((r*2:Nat):Int)-(Y:Int)=((2*r-1*Y:Nat):Int):=by omega
    have e4:q*2^1+1=2*q+1:=by omega
    rw [e3,e4]
    exact this
   ·obtain ⟨t1,t2⟩:=step 0 (by rw [Awf,Nat.mul_left_comm]; omega) (by omega) (by omega)
    have:=ih (i+1) (by omega)
    rw [t1,t2] at this
    rw [Avc (by omega),Avb]
    have e3:r*2=2*r-0*Y:=by omega
    have e4:q*2^1=2*q+0:=by omega
    rw [e3,e4]
    exact this
theorem An9 {a b:Nat} (ha:Aw a≠0) (hb:Aw b≠0) :
 times.Div.L0 62 62 a b (A8 (Int.tdiv (Co a) (Co b))) (Int.tmod (Co a) (Co b)) (0:Int) =
  some (.tup [.int .u64 ((B5 (Db a !=Db b) (B3 (Fh (Aw a) (Aw b) 120) (A2 a-A2 b-121)):Nat):Int),.int .u8 ((flagsOf (Fh (Aw a) (Aw b) 120) (A2 a-A2 b-121):Nat):Int)]):=by
 obtain ⟨a1,a2,a3,a4⟩:=L7 ha
 obtain ⟨b1,b2,b3,b4⟩:=L7 hb
 have ea:=Em a
 have eb:=Em b
 have ma:Co (a:Int)=((Aw a*2^Bz a:Nat):Int):=rfl
 have mb:Co (b:Int)=((Aw b*2^Bz b:Nat):Int):=rfl
 have na:Gf (a:Int)=A2 a-Bz a:=rfl
 have nb:Gf (b:Int)=A2 b-Bz b:=rfl
 have sL:=Acn (Aw a) (Aw b*2^Bz b) (Bz a) 61
 have hpos:0<Aw b*2^Bz b:=by omega
 have hq1:2^53≤Aw a*2^Bz a*2^61 / (Aw b*2^Bz b):=by
  rw [Nat.le_div_iff_mul_le hpos]; omega
 have hqq:2^60≤Aw a*2^Bz a*2^61 / (Aw b*2^Bz b):=by
  rw [Nat.le_div_iff_mul_le hpos]; omega
 have hq2:Aw a*2^Bz a*2^61 / (Aw b*2^Bz b)<2^62:=by
  rw [Nat.div_lt_iff_lt_mul hpos]; omega
 have hstick:Fh (Aw a*2^Bz a) (Aw b*2^Bz b) 61=Fh (Aw a) (Aw b) (61+Bz a-Bz b):=by
  rw [sL]
  have:61+Bz a=61+Bz a-Bz b+Bz b:=by omega
  conv=>lhs; rw [this]
  rw [Aac]
 have hge1:2^53≤Aw a*2^(61+Bz a-Bz b) / Aw b:=by
  have e1:Aw a*2^Bz a*2^61=Aw a*2^(61+Bz a-Bz b)*2^Bz b:=by
   rw [Avy,← Avw,Avy,← Avw]
   congr 2
   omega
  rw [e1,Nat.mul_div_mul_right _ _ (B4 _)] at hq1
  exact hq1
 have hge2:2^53≤Aw a*2^120 / Aw b:=Ap7 (t:=53) (by omega) (by omega) (by have:=Fm b; omega) (by omega)
 obtain ⟨s1,s2⟩:=Acm (X:=Aw a) (Y:=Aw b) (K:=61+Bz a-Bz b) (L:=120) (E:=A2 a-Bz a-(A2 b-Bz b)-61-1) (F:=A2 a-A2 b-121) (by omega) hge1 hge2 (by omega)
 have d1:A8 (Int.tdiv (Co a) (Co b))=((Aw a*2^Bz a*2^0 / (Aw b*2^Bz b):Nat):Int):=by
  rw [ma,mb,H7,Av5,Awg]
  have h1:=Nat.div_le_self (Aw a*2^Bz a) (Aw b*2^Bz b)
  have h2:Aw a*2^Bz a / (Aw b*2^Bz b)<2^64:=Av9 h1 (Nat.lt_trans a3 (by decide))
  generalize Aw a*2^Bz a / (Aw b*2^Bz b)=q at h2 ⊢
  exact Cq (Int.natCast_nonneg q) (by omega)
 have d2:Int.tmod (Co a) (Co b)=((Aw a*2^Bz a*2^0%(Aw b*2^Bz b):Nat):Int):=by
  rw [ma,mb,Hb,Av5,Awg]
 rw [d1,d2]
 have lp:=Ale 62 (a:=a) (b:=b) hpos b3 (X:=Aw a*2^Bz a) (by omega) mb 61 0 (by omega)
 refine lp.trans ?_
 rw [times.Div.Ax,Av,na,nb,Avc (by omega),Avb]
 have we:Ab (Ab (A2 a-Bz a-(A2 b-Bz b))-61)=A2 a-Bz a-(A2 b-Bz b)-61:=by
  rw [Al (x:=A2 a-Bz a-(A2 b-Bz b)) (by omega) (by omega),Al (by omega) (by omega)]
 have hne:(((Aw a*2^Bz a*2^61%(Aw b*2^Bz b):Nat):Int) !=(0:Int))=decide (Aw a*2^Bz a*2^61%(Aw b*2^Bz b)≠0):=by
  rw [Avn]; simp only [bne_iff_ne,ne_eq,Ave]; omega
 rw [we,hne]
 have hw:Mm ((Aw a*2^Bz a*2^61 / (Aw b*2^Bz b):Nat):Int) (A2 a-Bz a-(A2 b-Bz b)-61)=true:=Ao.2 ⟨by omega,by omega,by omega,by omega⟩
 have hn:Dk (a:Int)=Db a:=rfl
 have hn':Dk (b:Int)=Db b:=rfl
 rw [hw,Au7,Y2,hn,hn']
 unfold D5 D4
 rw [Au9,Agv _ rfl rfl hq1,hstick,s1,s2]
theorem times.Div.known:times.Div.Kn:=times.Div.Ae (.cons soft.Kind.known (.cons soft.Sign.known (.cons times.nan.known (.cons times.norm.known (.cons times.signed.known (.cons times.wide.known .nil)))))) fun a b hp=>by
 obtain ⟨ha,hb⟩:=Ag.1 hp
 obtain ⟨a,rfl,hn⟩:=B0 ha
 obtain ⟨b,rfl,hm⟩:=B0 hb
 refine ⟨62,times.Div.out [.i a,.i b],[],?_,Wk.G1 (.cons .int (.cons .int .nil))⟩
 have i1:Ah (9218868437227405312:Int)=true:=B2 (n:=9218868437227405312) (by decide)
 have i2:Ah (0:Int)=true:=B2 (n:=0) (by decide)
 rw [times.Div.ev,ha,hb,Ae3,Pb,Pb,k3,k3,k0,k0,i1,i2,Abf,Wx,Y2]
 show _=some (DV.tup [.int .u64 (((Wv a b).1:Nat):Int),.int .u8 (((Wv a b).2:Nat):Int)])
 have ea:Dk (a:Int)=Db a:=rfl
 have eb:Dk (b:Int)=Db b:=rfl
 rw [ea,eb]
 unfold Wv
 rw [Avd,Au7,Au7,Au7,Au7,Au7]
 by_cases h4:As a=4∨As b=4
 ·have c4:(decide (As a=4)||decide (As b=4))=true:=by simp; exact h4
  rw [Avu h4,c4,Au7]; rfl
 ·have c4:(decide (As a=4)||decide (As b=4))=false:=by simp; omega
  rw [Avt h4,c4,Avb]
  by_cases h1:As a=As b∧(As a=3∨As a=0)
  ·have c1:(decide (As a=3)&&decide (As b=3)||decide (As a=0)&&decide (As b=0))=true:=by simp; omega
   rw [Avu h1,c1,Au7]; rfl
  ·have c1:(decide (As a=3)&&decide (As b=3)||decide (As a=0)&&decide (As b=0))=false:=by simp; omega
   rw [Avt h1,c1,Avb]
   by_cases h2:As a=3
   ·rw [Avu h2,Au8 h2,Au7]; rfl
   ·rw [Avt h2,Avc h2,Avb]
    by_cases h3:As b=3∨As a=0
    ·have c3:(decide (As b=3)||decide (As a=0))=true:=by simp; exact h3
     rw [Avu h3,c3,Au7]; rfl
    ·have c3:(decide (As b=3)||decide (As a=0))=false:=by simp; omega
     rw [Avt h3,c3,Avb]
     by_cases h5:As b=0
     ·rw [Avu h5,Au8 h5,Au7]; rfl
     ·rw [Avt h5,Avc h5,Avb]
      have pa:=O5 (b:=a) (by omega) (by omega) (by omega)
      have pb:=O5 (b:=b) (by omega) (by omega) (by omega)
      have na:J7 (a:Int)=true:=Ao.2 pa
      have nb:J7 (b:Int)=true:=Ao.2 pb
      have hnb:(Co (b:Int) !=0)=true:=by
       obtain ⟨_,l2,_,_⟩:=L7 pb
       have mb:Co (b:Int)=((Aw b*2^Bz b:Nat):Int):=rfl
       rw [mb]
       simp only [bne_iff_ne,ne_eq]
       omega
      rw [na,nb,hnb,Avd,Au7,Au7,Au7,Au7,An9 pa pb]
open Go Go.Den Go.C4 Go.Proofs
set_option maxRecDepth 100000
namespace EqVec
def Af.Add.Bf:List (Nat × Entry):=[(232,sum.Add.spec)]
def Af.Add.E:Env:=Bg (Be Af.Add.Bf) (fun _=>false) (fun _=>none) (fun _=>none)
theorem Af.Add.ev (N:Nat) (a b:Int):By Af.Add.E N f226 (An f226) [.int .u64 a,.int .u64 b]=bif (Ah a&&Ah b) then some (.int .u64 (Hx a b)) else none:=by kernel_rfl
abbrev _root_.Go.Proofs.S1.Af.Add.Kn:=A7 prog 226 Af.Add.spec
theorem Af.Add.Ae (hk:A1 prog Af.Add.Bf) (h:Hyp Af.Add.E f226 Af.Add.ts Af.Add.pre Af.Add.out):Af.Add.Kn :=
 Am (A3 hk _ _ _) func226 (by kernel_rfl) (by kernel_rfl) h
def Af.Sub.Bf:List (Nat × Entry):=[(207,sum.Sub.spec)]
def Af.Sub.E:Env:=Bg (Be Af.Sub.Bf) (fun _=>false) (fun _=>none) (fun _=>none)
theorem Af.Sub.ev (N:Nat) (a b:Int):By Af.Sub.E N f156 (An f156) [.int .u64 a,.int .u64 b]=bif (Ah a&&Ah b) then some (.int .u64 (El a b)) else none:=by kernel_rfl
abbrev _root_.Go.Proofs.S1.Af.Sub.Kn:=A7 prog 156 Af.Sub.spec
theorem Af.Sub.Ae (hk:A1 prog Af.Sub.Bf) (h:Hyp Af.Sub.E f156 Af.Sub.ts Af.Sub.pre Af.Sub.out):Af.Sub.Kn :=
 Am (A3 hk _ _ _) func156 (by kernel_rfl) (by kernel_rfl) h
def Af.Mul.Bf:List (Nat × Entry):=[(208,times.Mul.spec)]
def Af.Mul.E:Env:=Bg (Be Af.Mul.Bf) (fun _=>false) (fun _=>none) (fun _=>none)
theorem Af.Mul.ev (N:Nat) (a b:Int):By Af.Mul.E N f157 (An f157) [.int .u64 a,.int .u64 b]=bif (Ah a&&Ah b) then some (.int .u64 (Ej a b)) else none:=by kernel_rfl
abbrev _root_.Go.Proofs.S1.Af.Mul.Kn:=A7 prog 157 Af.Mul.spec
theorem Af.Mul.Ae (hk:A1 prog Af.Mul.Bf) (h:Hyp Af.Mul.E f157 Af.Mul.ts Af.Mul.pre Af.Mul.out):Af.Mul.Kn :=
 Am (A3 hk _ _ _) func157 (by kernel_rfl) (by kernel_rfl) h
def Af.fit.Bf:List (Nat × Entry):=[]
def Af.fit.E:Env:=Bg (Be Af.fit.Bf) (fun _=>false) (fun _=>none) (fun _=>none)
theorem Af.fit.ev (N:Nat) (x y:List Int):By Af.fit.E N f225 (An f225) [.ints .arg .u64 x,.ints .arg .u64 y]=some (.bool (bif ((length x:Int)==(length y:Int)) then (Dy (length x:Int) 64) else false)) :=
 Eq.trans (by kernel_rfl)
 (Ay (Nv ((length x:Int)==(length y:Int))) (Ay (Kf ((length x:Int)==(length y:Int))) (Ay (Kf ((length x:Int)==(length y:Int))) (Ay (S9 ((length x:Int)==(length y:Int))) rfl))))
abbrev _root_.Go.Proofs.S1.Af.fit.Kn:=A7 prog 225 Af.fit.spec
theorem Af.fit.Ae (hk:A1 prog Af.fit.Bf) (h:Hyp Af.fit.E f225 Af.fit.ts Af.fit.pre Af.fit.out):Af.fit.Kn :=
 Am (A3 hk _ _ _) func225 (by kernel_rfl) (by kernel_rfl) h
def Af.Fs.hint:Nat→Option A9
 | 0=>some { keep:=[0,1,6,13,14],objs:=[],boxes:=[] }
 | _=>none
def Af.Fs.Bf:List (Nat × Entry):=[(226,Af.Add.spec),(157,Af.Mul.spec),(225,Af.fit.spec)]
def Af.Fs.E:Env:=Bg (Be Af.Fs.Bf) (fun _=>false) Af.Fs.hint (fun _=>none)
section
variable (N M:Nat) (x y:List Int) (p6 p14:Int)
def Af.Fs.L0:Option DV:=Bx Af.Fs.E N f189 (An f189) [1,1,1,0,1,0] [] M ⟨Gm 30 [(0,.ints .arg .u64 x),(1,.ints .arg .u64 y),(6,.int .u64 p6),(13,.int .i64 (length x:Int)),(14,.int .i64 p14)],[]⟩
theorem Af.Fs.Ax:Af.Fs.L0 N (M+1) x y p6 p14=bif (A6 p14 (length x:Int)) then bif ((decide (0≤p14))&&(decide (p14<(length x:Int)))) then bif ((decide (0≤p14))&&(decide (p14<(length y:Int)))) then bif (Ah (getD x (toNat p14) 0)&&Ah (getD y (toNat p14) 0)) then bif (Ah p6&&Ah (Ej (getD x (toNat p14) 0) (getD y (toNat p14) 0))) then Af.Fs.L0 N M x y (Hx p6 (Ej (getD x (toNat p14) 0) (getD y (toNat p14) 0))) (Ab (p14+1)) else none else none else none else none else some (.tup [.int .u64 p6,.int .i64 0]) :=
 Eq.trans (by kernel_rfl)
 (Fq (Cy (J1 (decide (0≤p14)) (decide (p14<(length x:Int)))) (Cy (J1 (decide (0≤p14)) (decide (p14<(length y:Int)))) (Cy (Cr (Ah (getD x (toNat p14) 0)&&Ah (getD y (toNat p14) 0))) (Cy (Cr (Ah p6&&Ah (Ej (getD x (toNat p14) 0) (getD y (toNat p14) 0)))) rfl rfl) rfl) rfl) rfl) rfl)
theorem Af.Fs.ev:By Af.Fs.E N f189 (An f189) [.ints .arg .u64 x,.ints .arg .u64 y]=bif (!(Ss x y)) then some (.tup [.int .u64 0,.int .i64 3]) else Af.Fs.L0 N N x y 0 0:=by kernel_rfl
end
abbrev _root_.Go.Proofs.S1.Af.Fs.Kn:=A7 prog 189 Af.Fs.spec
theorem Af.Fs.Ae (hk:A1 prog Af.Fs.Bf) (h:Hyp Af.Fs.E f189 Af.Fs.ts Af.Fs.pre Af.Fs.out):Af.Fs.Kn :=
 Am (A3 hk _ _ _) func189 (by kernel_rfl) (by kernel_rfl) h
def Cp.B.Bf:List (Nat × Entry):=[(168,Dt.Canon.nb.spec)]
def Cp.B.E:Env:=Bg (Be Cp.B.Bf) (fun _=>false) (fun _=>none) (fun _=>none)
theorem Cp.B.ev (N x:Nat):By Cp.B.E N f102 (An f102) [.fl x]=some (.int .u64 (Na x)):=by kernel_rfl
abbrev _root_.Go.Proofs.S1.Cp.B.Kn:=A7 prog 102 Cp.B.spec
theorem Cp.B.Ae (hk:A1 prog Cp.B.Bf) (h:Hyp Cp.B.E f102 Cp.B.ts Cp.B.pre Cp.B.out):Cp.B.Kn :=
 Am (A3 hk _ _ _) func102 (by kernel_rfl) (by kernel_rfl) h
end EqVec
open Go Go.Den Go.C4 Go.Proofs Ieee
open EqVec
theorem Af.Add.known:Af.Add.Kn:=Af.Add.Ae (.cons sum.Add.known .nil) fun a b hp=>by
 have hp:(Ah a&&Ah b)=true:=hp
 refine ⟨0,Af.Add.out [.i a,.i b],[],?_,.int⟩
 rw [Af.Add.ev,hp]; rfl
theorem Af.Sub.known:Af.Sub.Kn:=Af.Sub.Ae (.cons sum.Sub.known .nil) fun a b hp=>by
 have hp:(Ah a&&Ah b)=true:=hp
 refine ⟨0,Af.Sub.out [.i a,.i b],[],?_,.int⟩
 rw [Af.Sub.ev,hp]; rfl
theorem Af.Mul.known:Af.Mul.Kn:=Af.Mul.Ae (.cons times.Mul.known .nil) fun a b hp=>by
 have hp:(Ah a&&Ah b)=true:=hp
 refine ⟨0,Af.Mul.out [.i a,.i b],[],?_,.int⟩
 rw [Af.Mul.ev,hp]; rfl
theorem Aku (x y:List Int):(bif ((length x:Int)==(length y:Int)) then (Dy (length x:Int) (64:Int)) else false)=Ss x y:=by
 unfold Ss
 rw [D9,Avn]
 by_cases h:x.length=y.length
 ·have:((x.length:Int)==(y.length:Int))=true:=by rw [beq_iff_eq]; omega
  rw [this,Au7,Au8 h,Awk,Ave,Ave]; omega
 ·have:((x.length:Int)==(y.length:Int))=false:=by rw [Av2]; omega
  rw [this,Avb,Avc h,Bool.false_and]
theorem Af.fit.known:Af.fit.Kn:=Af.fit.Ae .nil fun x y _=>by
 refine ⟨0,Af.fit.out [.l x,.l y],[],?_,.bool⟩
 rw [Af.fit.ev,Aku]; rfl
theorem Zf {x y:List Int}:Ss x y=true↔x.length=y.length∧x.length≤64:=by unfold Ss; simp
theorem Abw {l:List Int} {i:Nat} (h:i<l.length):l.drop i=l.getD i 0::l.drop (i+1):=by
 rw [List.drop_eq_getElem_cons h,Avh,Avo h]; rfl
theorem Alb {x y:List Int} {i:Nat} (s:Nat) (hx:i<x.length) (hy:i<y.length) :
 Aby s (x.drop i) (y.drop i)=Aby (Ni s (Vc (x.getD i 0).toNat (y.getD i 0).toNat).1).1 (x.drop (i+1)) (y.drop (i+1)):=by
 rw [Abw hx,Abw hy]; rfl
theorem Alc (N:Nat) {x y:List Int} (hf:Ss x y=true) (hx:Ap x=true) (hy:Ap y=true):∀ (k i F s:Nat),i+k=x.length→k<F→s<2^64 →
 Af.Fs.L0 N F x y (s:Int) (i:Int)=some (.tup [.int .u64 ((Aby s (x.drop i) (y.drop i):Nat):Int),.int .i64 (0:Int)]):=by
 obtain ⟨h1,h2⟩:=Zf.1 hf
 intro k
 induction k with
 | zero =>
   intro i F s hi hF hs
   obtain ⟨F,rfl⟩:∃ G,F=G+1:=⟨F-1,by omega⟩
   rw [Af.Fs.Ax,Av,Avc (by omega),Avb,Avl (by omega)]
   rfl
 | succ k ih =>
   intro i F s hi hF hs
   obtain ⟨F,rfl⟩:∃ G,F=G+1:=⟨F-1,by omega⟩
   have c1:decide ((i:Int)<(x.length:Int))=true:=Au8 (by omega)
   have c2:decide ((i:Int)<(y.length:Int))=true:=Au8 (by omega)
   have c3:decide ((0:Int)≤(i:Int))=true:=Au8 (by omega)
   have g1:=Zz hx (show i<x.length by omega)
   have g2:=Zz hy (show i<y.length by omega)
   have em:Ej (x.getD i 0) (y.getD i 0)=(((Vc (x.getD i 0).toNat (y.getD i 0).toNat).1:Nat):Int):=rfl
   have ea:∀ t:Nat,Hx (s:Int) (t:Int)=(((Ni s t).1:Nat):Int):=fun t=>rfl
   rw [Af.Fs.Ax,Av,c1,c2,c3,Au9,g1,g2,em,ea,B2 hs,B2 T9,Avd,Au7,Au7,Au7,Au7,Au7,Al (by omega) (by omega),Alb s (by omega) (by omega)]
   exact ih (i+1) F _ (by omega) (by omega) (Ui hs T9).1
theorem Af.Fs.known:Af.Fs.Kn:=Af.Fs.Ae (.cons Af.Add.known (.cons Af.Mul.known (.cons Af.fit.known .nil))) fun x y hp=>by
 obtain ⟨h1,hy⟩:=Ag.1 hp
 obtain ⟨hf,hx⟩:=Ag.1 h1
 refine ⟨x.length+1,Af.Fs.out [.l x,.l y],[],?_,Wk.G1 (.cons .int (.cons .int .nil))⟩
 rw [Af.Fs.ev,hf,Av6,Avb]
 exact Alc _ hf hx hy x.length 0 _ 0 (by omega) (by omega) (by decide)
theorem Cp.B.known:Cp.B.Kn:=Cp.B.Ae (.cons Dt.Canon.Ajq .nil) fun x _=>by
 refine ⟨0,Cp.B.out [.f x],[],?_,.int⟩
 rw [Cp.B.ev]; rfl
open Go Go.Den Go.C4 Go.Proofs
set_option maxRecDepth 100000
namespace EqMat
def Aa.size.Bf:List (Nat × Entry):=[]
def Aa.size.E:Env:=Bg (Be Aa.size.Bf) (fun _=>false) (fun _=>none) (fun _=>none)
theorem Aa.size.ev (N:Nat) (n:Int):By Aa.size.E N f204 (An f204) [.int .i64 n]=some (.bool (bif (Dy 0 n) then (Dy n 6) else false)) :=
 Eq.trans (by kernel_rfl)
 (Ay (Nv (Dy 0 n)) (Ay (Kf (Dy 0 n)) (Ay (S9 (Dy 0 n)) rfl)))
abbrev _root_.Go.Proofs.S1.Aa.size.Kn:=A7 prog 204 Aa.size.spec
theorem Aa.size.Ae (hk:A1 prog Aa.size.Bf) (h:Hyp Aa.size.E f204 Aa.size.ts Aa.size.pre Aa.size.out):Aa.size.Kn :=
 Am (A3 hk _ _ _) func204 (by kernel_rfl) (by kernel_rfl) h
def Aa.Check.Bf:List (Nat × Entry):=[(204,Aa.size.spec)]
def Aa.Check.E:Env:=Bg (Be Aa.Check.Bf) (fun _=>false) (fun _=>none) (fun _=>none)
theorem Aa.Check.ev (N:Nat) (r c:Int) (l:List Int):By Aa.Check.E N f160 (An f160) [.agg [.int .i64 r,.int .i64 c,.ints .arg .u64 l]]=bif (((!(Bn r))||(!(Bn c)))||((length l:Int) !=(Ab (r*c)))) then some (.int .i64 1) else some (.int .i64 0) :=
 Eq.trans (by kernel_rfl)
 (Ay (Afy (Bn r)) (Ay (Uo (Bn r)) (Ay (Uo (Bn r)) (Ay (Uo (Bn r)) (Ay (Afz (Bn r)) (Ay (Apw (Bn r) (Bn c)) (Ay (Amp (Bn r) (Bn c)) (Ay (Amp (Bn r) (Bn c)) (Ay (Apw (Bn r) (Bn c)) (Ay (Amp (Bn r) (Bn c)) (Ay (Apw (Bn r) (Bn c)) (Ay (Amp (Bn r) (Bn c)) (Ay (Asb (Bn r) (Bn c)) (Ay (Asb (Bn r) (Bn c)) (Ay (At9 (Bn r) (Bn c)) (Cy (Aua (Bn r) (Bn c) ((length l:Int) !=(Ab (r*c)))) rfl rfl))))))))))))))))
abbrev _root_.Go.Proofs.S1.Aa.Check.Kn:=A7 prog 160 Aa.Check.spec
theorem Aa.Check.Ae (hk:A1 prog Aa.Check.Bf) (h:Hyp Aa.Check.E f160 Aa.Check.ts Aa.Check.pre Aa.Check.out):Aa.Check.Kn :=
 Am (A3 hk _ _ _) func160 (by kernel_rfl) (by kernel_rfl) h
def Aa.get.Bf:List (Nat × Entry):=[]
def Aa.get.E:Env:=Bg (Be Aa.get.Bf) (fun _=>false) (fun _=>none) (fun _=>none)
theorem Aa.get.ev (N:Nat) (r c:Int) (l:List Int) (i k:Int):By Aa.get.E N f193 (An f193) [.agg [.int .i64 r,.int .i64 c,.ints .arg .u64 l],.int .i64 i,.int .i64 k]=bif ((decide (0≤(Ab ((Ab (i*c))+k))))&&(decide ((Ab ((Ab (i*c))+k))<(length l:Int)))) then some (.int .u64 (getD l (toNat (Ab ((Ab (i*c))+k))) 0)) else none:=by kernel_rfl
abbrev _root_.Go.Proofs.S1.Aa.get.Kn:=A7 prog 193 Aa.get.spec
theorem Aa.get.Ae (hk:A1 prog Aa.get.Bf) (h:Hyp Aa.get.E f193 Aa.get.ts Aa.get.pre Aa.get.out):Aa.get.Kn :=
 Am (A3 hk _ _ _) func193 (by kernel_rfl) (by kernel_rfl) h
def Aa.two.Bf:List (Nat × Entry):=[(160,Aa.Check.spec)]
def Aa.two.E:Env:=Bg (Be Aa.two.Bf) (fun _=>false) (fun _=>none) (fun _=>none)
theorem Aa.two.ev (N:Nat) (r c:Int) (l:List Int) (p q:Int) (m:List Int):By Aa.two.E N f186 (An f186) [.agg [.int .i64 r,.int .i64 c,.ints .arg .u64 l],.agg [.int .i64 p,.int .i64 q,.ints .arg .u64 m]]=bif (((I2 r c l) !=(0:Int))||((I2 p q m) !=(0:Int))) then some (.int .i64 1) else some (.int .i64 0) :=
 Eq.trans (by kernel_rfl)
 (Ay (Wl ((I2 r c l) !=(0:Int))) (Ay (Un ((I2 r c l) !=(0:Int))) (Ay (Un ((I2 r c l) !=(0:Int))) (Ay (tt6 ((I2 r c l) !=(0:Int))) (Cy (tt5 ((I2 r c l) !=(0:Int)) ((I2 p q m) !=(0:Int))) rfl rfl)))))
abbrev _root_.Go.Proofs.S1.Aa.two.Kn:=A7 prog 186 Aa.two.spec
theorem Aa.two.Ae (hk:A1 prog Aa.two.Bf) (h:Hyp Aa.two.E f186 Aa.two.ts Aa.two.pre Aa.two.out):Aa.two.Kn :=
 Am (A3 hk _ _ _) func186 (by kernel_rfl) (by kernel_rfl) h
def Aa.Row.Bf:List (Nat × Entry):=[]
def Aa.Row.E:Env:=Bg (Be Aa.Row.Bf) (fun _=>false) (fun _=>none) (fun _=>none)
theorem Aa.Row.ev (N:Nat) (r c:Int) (l:List Int) (i f:Int):By Aa.Row.E N f190 (An f190) [.agg [.int .i64 r,.int .i64 c,.ints .arg .u64 l],.int .i64 i,.int .i64 f]=bif (((decide ((0:Int)≤(Ab ((Ab (i*c))+f))))&&(decide ((Ab ((Ab (i*c))+f))≤(Ab ((Ab (i+1))*c)))))&&((decide ((0:Int)≤(Ab ((Ab (i+1))*c))))&&(decide ((Ab ((Ab (i+1))*c))≤(length l:Int))))) then bif (decide (0+(length (List.drop (toNat (Ab ((Ab (i*c))+f))) (List.take (toNat (Ab ((Ab (i+1))*c))) l)))≤Ga)) then some (.ints (.own 22 37) .u64 ([]++(List.drop (toNat (Ab ((Ab (i*c))+f))) (List.take (toNat (Ab ((Ab (i+1))*c))) l)))) else none else none :=
 Eq.trans (by kernel_rfl)
 (Cy (Asa (decide ((0:Int)≤(Ab ((Ab (i*c))+f)))) (decide ((Ab ((Ab (i*c))+f))≤(Ab ((Ab (i+1))*c)))) (decide ((0:Int)≤(Ab ((Ab (i+1))*c)))) (decide ((Ab ((Ab (i+1))*c))≤(length l:Int)))) rfl rfl)
abbrev _root_.Go.Proofs.S1.Aa.Row.Kn:=A7 prog 190 Aa.Row.spec
theorem Aa.Row.Ae (hk:A1 prog Aa.Row.Bf) (h:Hyp Aa.Row.E f190 Aa.Row.ts Aa.Row.pre Aa.Row.out):Aa.Row.Kn :=
 Am (A3 hk _ _ _) func190 (by kernel_rfl) (by kernel_rfl) h
def Aa.C2.hint:Nat→Option A9
 | 0=>some { keep:=[1,3,7,8],objs:=[(0,7,100007,.ints 37 .u64 [])],boxes:=[3] }
 | _=>none
def Aa.C2.Bf:List (Nat × Entry):=[(193,Aa.get.spec)]
def Aa.C2.E:Env:=Bg (Be Aa.C2.Bf) (fun _=>false) Aa.C2.hint (fun _=>none)
section
variable (N M:Nat) (r c:Int) (l:List Int) (k f p8:Int) (p7:List Int)
def Aa.C2.L0:Option DV:=Bx Aa.C2.E N f191 (An f191) [1,1,0,1,0] [] M ⟨Gm 24 [(1,.int .i64 k),(3,.ptr 3 0 0),(7,.oref 100007),(8,.int .i64 p8)],[(3,false,.box [.int .i64 r,.int .i64 c,.ints .arg .u64 l]),(100007,false,.ints 37 .u64 p7)]⟩
theorem Aa.C2.Ax:Aa.C2.L0 N (M+1) r c l k p8 p7=bif (A6 p8 r) then bif (Ds r c l p8 k) then bif (decide ((length p7)+1≤Ga)) then Aa.C2.L0 N M r c l k (Ab (p8+1)) (p7++[(Cv c l p8 k)]) else none else none else some (.ints (.own 100007 37) .u64 p7):=by kernel_rfl
theorem Aa.C2.ev:By Aa.C2.E N f191 (An f191) [.agg [.int .i64 r,.int .i64 c,.ints .arg .u64 l],.int .i64 k,.int .i64 f] =
 Aa.C2.L0 N N r c l k f []:=by kernel_rfl
end
abbrev _root_.Go.Proofs.S1.Aa.C2.Kn:=A7 prog 191 Aa.C2.spec
theorem Aa.C2.Ae (hk:A1 prog Aa.C2.Bf) (h:Hyp Aa.C2.E f191 Aa.C2.ts Aa.C2.pre Aa.C2.out):Aa.C2.Kn :=
 Am (A3 hk _ _ _) func191 (by kernel_rfl) (by kernel_rfl) h
def Aa.Df.Bf:List (Nat × Entry):=[]
def Aa.Df.E:Env:=Bg (Be Aa.Df.Bf) (fun _=>false) (fun _=>none) (fun _=>none)
theorem Aa.Df.ev (N:Nat) (i k:Int):By Aa.Df.E N f205 (An f205) [.int .i64 i,.int .i64 k]=some (.int .u64 0):=by kernel_rfl
abbrev _root_.Go.Proofs.S1.Aa.Df.Kn:=A7 prog 205 Aa.Df.spec
theorem Aa.Df.Ae (hk:A1 prog Aa.Df.Bf) (h:Hyp Aa.Df.E f205 Aa.Df.ts Aa.Df.pre Aa.Df.out):Aa.Df.Kn :=
 Am (A3 hk _ _ _) func205 (by kernel_rfl) (by kernel_rfl) h
def Aa.F9.Bf:List (Nat × Entry):=[]
def Aa.F9.E:Env:=Bg (Be Aa.F9.Bf) (fun _=>false) (fun _=>none) (fun _=>none)
theorem Aa.F9.ev (N:Nat) (i k:Int):By Aa.F9.E N f246 (An f246) [.int .i64 i,.int .i64 k]=bif (i==k) then some (.int .u64 4607182418800017408) else some (.int .u64 0):=by kernel_rfl
abbrev _root_.Go.Proofs.S1.Aa.F9.Kn:=A7 prog 246 Aa.F9.spec
theorem Aa.F9.Ae (hk:A1 prog Aa.F9.Bf) (h:Hyp Aa.F9.E f246 Aa.F9.ts Aa.F9.pre Aa.F9.out):Aa.F9.Kn :=
 Am (A3 hk _ _ _) func246 (by kernel_rfl) (by kernel_rfl) h
def Aa.Ed.Bf:List (Nat × Entry):=[(193,Aa.get.spec)]
def Aa.Ed.E:Env:=Bg (Be Aa.Ed.Bf) (fun _=>false) (fun _=>none) (fun _=>none)
theorem Aa.Ed.ev (N:Nat) (i k:Int) (r c:Int) (l:List Int):By Aa.Ed.E N f220 (An f220) [.int .i64 i,.int .i64 k,.cellp [.int .i64 r,.int .i64 c,.ints .arg .u64 l]]=bif (Ds r c l k i) then some (.int .u64 (Cv c l k i)) else none:=by kernel_rfl
abbrev _root_.Go.Proofs.S1.Aa.Ed.Kn:=A7 prog 220 Aa.Ed.spec
theorem Aa.Ed.Ae (hk:A1 prog Aa.Ed.Bf) (h:Hyp Aa.Ed.E f220 Aa.Ed.ts Aa.Ed.pre Aa.Ed.out):Aa.Ed.Kn :=
 Am (A3 hk _ _ _) func220 (by kernel_rfl) (by kernel_rfl) h
def Aa.Ee.Bf:List (Nat × Entry):=[(193,Aa.get.spec)]
def Aa.Ee.E:Env:=Bg (Be Aa.Ee.Bf) (fun _=>false) (fun _=>none) (fun _=>none)
theorem Aa.Ee.ev (N:Nat) (i k:Int) (r c:Int) (l:List Int) (x y:Int):By Aa.Ee.E N f192 (An f192) [.int .i64 i,.int .i64 k,.cellp [.int .i64 r,.int .i64 c,.ints .arg .u64 l],.cellp [.int .i64 x],.cellp [.int .i64 y]]=bif (Ds r c l (Ab (x+i)) (Ab (y+k))) then some (.int .u64 (Cv c l (Ab (x+i)) (Ab (y+k)))) else none:=by kernel_rfl
abbrev _root_.Go.Proofs.S1.Aa.Ee.Kn:=A7 prog 192 Aa.Ee.spec
theorem Aa.Ee.Ae (hk:A1 prog Aa.Ee.Bf) (h:Hyp Aa.Ee.E f192 Aa.Ee.ts Aa.Ee.pre Aa.Ee.out):Aa.Ee.Kn :=
 Am (A3 hk _ _ _) func192 (by kernel_rfl) (by kernel_rfl) h
def Aa.F6.Bf:List (Nat × Entry):=[(191,Aa.C2.spec),(190,Aa.Row.spec),(189,Af.Fs.spec)]
def Aa.F6.E:Env:=Bg (Be Aa.F6.Bf) (fun _=>false) (fun _=>none) (fun _=>none)
theorem Aa.F6.ev (N:Nat) (i k:Int) (r c:Int) (l:List Int) (p q:Int) (m:List Int):By Aa.F6.E N f188 (An f188) [.int .i64 i,.int .i64 k,.cellp [.int .i64 r,.int .i64 c,.ints .arg .u64 l],.cellp [.int .i64 p,.int .i64 q,.ints .arg .u64 m]]=bif (Jq r c l i&&decide ((0:Int)=0)) then bif (Gk p q m k&&Cf (0≤(0:Int)∧(0:Int)≤p)) then bif ((Ss (Dh c l i) (Cb q m k 0 (toNat (p-0)))&&Ap (Dh c l i))&&Ap (Cb q m k 0 (toNat (p-0)))) then some (.int .u64 (Pl (Dh c l i) (Cb q m k 0 (toNat (p-0))))) else none else none else none :=
 Eq.trans (by kernel_rfl)
 (Cy (Cr (Jq r c l i&&decide ((0:Int)=0))) (Cy (Cr (Gk p q m k&&Cf (0≤(0:Int)∧(0:Int)≤p))) (Cy (Cr ((Ss (Dh c l i) (Cb q m k 0 (toNat (p-0)))&&Ap (Dh c l i))&&Ap (Cb q m k 0 (toNat (p-0))))) rfl rfl) rfl) rfl)
abbrev _root_.Go.Proofs.S1.Aa.F6.Kn:=A7 prog 188 Aa.F6.spec
theorem Aa.F6.Ae (hk:A1 prog Aa.F6.Bf) (h:Hyp Aa.F6.E f188 Aa.F6.ts Aa.F6.pre Aa.F6.out):Aa.F6.Kn :=
 Am (A3 hk _ _ _) func188 (by kernel_rfl) (by kernel_rfl) h
end EqMat
open Go Go.Den Go.C4 Go.Proofs
open EqMat
theorem G2 {a b:Int} (h1:0≤a) (h2:a<20) (h3:0≤b) (h4:b<20):0≤a*b∧a*b<400:=by
 have:=Int.mul_nonneg h1 h3
 have h5:a*b≤19*19:=Int.mul_le_mul (by omega) (by omega) h3 (by omega)
 omega
theorem Aa.size.known:Aa.size.Kn:=Aa.size.Ae .nil fun n _=>by
 refine ⟨0,Aa.size.out [.i n],[],?_,.bool⟩
 have e:(bif (Dy (0:Int) n) then (Dy n (6:Int)) else false)=Bn n:=by
  unfold Bn
  rw [D9,D9]
  cases decide (0≤n)<;>rfl
 rw [Aa.size.ev,e]; rfl
theorem Ab2 (r c:Int) (l:List Int):(((!(Bn r))||(!(Bn c)))||((length l:Int) !=(Ab (r*c))))=!(Bj r c l):=by
 unfold Bj
 cases h1:Bn r with
 | false=>rfl
 | true =>
   cases h2:Bn c with
   | false=>rfl
   | true =>
     obtain ⟨r1,r2⟩:=Hc.1 h1
     obtain ⟨c1,c2⟩:=Hc.1 h2
     have:=G2 (a:=r) (b:=c) r1 (by omega) c1 (by omega)
     rw [Al (by omega) (by omega),Avn]
     simp
theorem Aa.Check.known:Aa.Check.Kn:=Aa.Check.Ae (.cons Aa.size.known .nil) fun r c l _=>by
 refine ⟨0,Aa.Check.out [.i r,.i c,.l l],[],?_,.int⟩
 rw [Aa.Check.ev,Ab2]
 show _=some (DV.int .i64 (I2 r c l))
 unfold I2
 cases Bj r c l<;>rfl
theorem Fx {c i k:Int} {l:List Int} {R:Int} (h:Ds R c l i k=true):Ab (Ab (i*c)+k)=i*c+k∧0≤i*c+k∧i*c+k<l.length:=by
 obtain ⟨h1,h2,h3,h4,h5,h6,h7,_⟩:=Ao.1 h
 have:=G2 h1 (by omega) h5 (by omega)
 rw [Al (x:=i*c) (by omega) (by omega),Al (by omega) (by omega)]
 omega
theorem Aa.get.known:Aa.get.Kn:=Aa.get.Ae .nil fun r c l i k hp=>by
 obtain ⟨e,h1,h2⟩:=Fx (R:=r) (show Ds r c l i k=true from hp)
 refine ⟨0,Aa.get.out [.i r,.i c,.l l,.i i,.i k],[],?_,.int⟩
 rw [Aa.get.ev,e,Au8 h1,Au8 h2]
 rfl
theorem Qk (r c:Int) (l:List Int):((I2 r c l) !=(0:Int))=!(Bj r c l):=by
 unfold I2
 cases Bj r c l<;>rfl
theorem Aa.two.known:Aa.two.Kn:=Aa.two.Ae (.cons Aa.Check.known .nil) fun r c l p q m _=>by
 refine ⟨0,Aa.two.out [.i r,.i c,.l l,.i p,.i q,.l m],[],?_,.int⟩
 rw [Aa.two.ev,Qk,Qk]
 show _=some (DV.int .i64 (Yl r c l p q m))
 unfold Yl
 cases Bj r c l<;>cases Bj p q m<;>rfl
theorem Aa.Row.known:Aa.Row.Kn:=Aa.Row.Ae .nil fun r c l i f hp=>by
 obtain ⟨h0,hf⟩:=Ag.1 hp
 obtain rfl:=Avx hf
 obtain ⟨hr,hi⟩:=Ag.1 h0
 have hi:=Ao.1 hi
 obtain ⟨R,C,rfl,rfl,r6,c6,hl⟩:=Dc hr
 obtain ⟨I,rfl⟩:∃ k:Nat,i=k:=⟨i.toNat,by omega⟩
 have hm:=G2 (a:=(I:Int)) (b:=(C:Int)) (by omega) (by omega) (by omega) (by omega)
 have hm2:=G2 (a:=(I:Int)+1) (b:=(C:Int)) (by omega) (by omega) (by omega) (by omega)
 have hle:(I+1)*C≤R*C:=Avj C (by omega)
 have hle2:I*C≤(I+1)*C:=Avj C (by omega)
 have e1:(I:Int)*(C:Int)=((I*C:Nat):Int):=(Avs _ _).symm
 have e2:((I:Int)+1)*(C:Int)=(((I+1)*C:Nat):Int):=by rw [Avs]; rfl
 refine ⟨0,.ints (.own 22 tB) .u64 (Dh (C:Int) l (I:Int)),[22],?_,.drop _ _ _ _ (List.mem_singleton.2 rfl)⟩
 rw [Aa.Row.ev,Al (x:=(I:Int)+1) (by omega) (by omega),Al (x:=(I:Int)*(C:Int)) (by omega) (by omega),Int.add_zero,Al (x:=(I:Int)*(C:Int)) (by omega) (by omega),Al (x:=((I:Int)+1)*(C:Int)) (by omega) (by omega)]
 unfold Dh
 have d1:decide ((0:Int)≤(I:Int)*(C:Int))=true:=Au8 (by omega)
 have d2:decide ((I:Int)*(C:Int)≤((I:Int)+1)*(C:Int))=true:=Au8 (by rw [e1,e2]; omega)
 have d3:decide ((0:Int)≤((I:Int)+1)*(C:Int))=true:=Au8 (by omega)
 have d4:decide (((I:Int)+1)*(C:Int)≤(l.length:Int))=true:=Au8 (by rw [e2]; omega)
 have d5:decide (0+(List.drop ((I:Int)*(C:Int)).toNat (List.take (((I:Int)+1)*(C:Int)).toNat l)).length≤Ga)=true:=by
  refine Au8 ?_
  rw [List.length_drop,List.length_take]
  unfold Ga
  omega
 rw [d1,d2,d3,d4,d5]
 rfl
theorem Hj (c b i:Int) (n:Nat) (l:List Int):(Cb c l b i n).length=n:=by unfold Cb; rw [Awd,Awa]
theorem Aoc (r c:Int) (l:List Int) (k:Int):Cb c l k 0 (toNat (r-0))=Qj r c l k:=by
 unfold Cb Qj
 rw [Int.sub_zero]
 refine List.map_congr_left fun j _=>?_
 rw [Int.zero_add]
theorem Acd {r:Int} (h:0≤r):Cf (0≤(0:Int)∧0≤r)=true:=Ao.2 ⟨Int.le_refl _,h⟩
theorem Ali (N:Nat) {R C K f:Nat} {l:List Int} (r6:R≤6) (c6:C≤6) (hl:l.length=R*C) (hk:K<C):∀ (k i F:Nat),f+i+k=R→k<F →
 Aa.C2.L0 N F (R:Int) (C:Int) l (K:Int) ((f+i:Nat):Int) (Cb (C:Int) l (K:Int) (f:Int) i)=some (.ints (.own 100007 tB) .u64 (Cb (C:Int) l (K:Int) (f:Int) (R-f))):=by
 intro k
 induction k with
 | zero =>
   intro i F hi hF
   obtain ⟨F,rfl⟩:∃ G,F=G+1:=⟨F-1,by omega⟩
   rw [Aa.C2.Ax,Av,Avc (by omega),Avb,show R-f=i by omega]
 | succ k ih =>
   intro i F hi hF
   obtain ⟨F,rfl⟩:∃ G,F=G+1:=⟨F-1,by omega⟩
   have d:decide ((Cb (C:Int) l (K:Int) (f:Int) i).length+1≤Ga)=true:=Au8 (by rw [Hj]; unfold Ga; omega)
   rw [Aa.C2.Ax,Av,Au8 (by omega),Au7,D7 r6 c6 hl (show f+i<R by omega) hk,Au7,d,Au7,Al (by omega) (by omega)]
   have:=ih (i+1) F (by omega) (by omega)
   unfold Cb at this ⊢
   rw [List.range_succ,List.map_append] at this
   exact this
theorem Aa.C2.known:Aa.C2.Kn:=Aa.C2.Ae (.cons Aa.get.known .nil) fun r c l k f hp=>by
 obtain ⟨h0,hf⟩:=Ag.1 (show (Gk r c l k&&Cf (0≤f∧f≤r))=true from hp)
 have hf:=Ao.1 hf
 obtain ⟨hr,hi⟩:=Ag.1 h0
 have hi:=Ao.1 hi
 obtain ⟨R,C,rfl,rfl,r6,c6,hl⟩:=Dc hr
 obtain ⟨K,rfl⟩:∃ j:Nat,k=j:=⟨k.toNat,by omega⟩
 obtain ⟨f,rfl⟩:∃ j:Nat,f=j:=⟨f.toNat,by omega⟩
 refine ⟨8,.ints (.own 100007 tB) .u64 (Cb (C:Int) l (K:Int) (f:Int) (R-f)),[100007],?_,?_⟩
 ·rw [Aa.C2.ev]
  exact Ali 8 r6 c6 hl (by omega) (R-f) 0 8 (by omega) (by omega)
 ·show Wk _ _ (DV.ints .fresh .u64 (Cb (C:Int) l (K:Int) (f:Int) (toNat ((R:Int)-(f:Int)))))
  rw [show toNat ((R:Int)-(f:Int))=R-f by omega]
  exact .drop _ _ _ _ (List.mem_singleton.2 rfl)
theorem Ts {r c i k:Int} {l:List Int} (h:Bj r c l=true) (h1:0≤i) (h2:i<r) (h3:0≤k) (h4:k<c) (R:Int):Ds R c l i k=true:=by
 obtain ⟨R',C,rfl,rfl,r6,c6,hl⟩:=Dc h
 obtain ⟨I,rfl⟩:∃ j:Nat,i=j:=⟨i.toNat,by omega⟩
 obtain ⟨K,rfl⟩:∃ j:Nat,k=j:=⟨k.toNat,by omega⟩
 exact D7 r6 c6 hl (by omega) (by omega)
theorem Aa.Df.known:Aa.Df.Kn:=Aa.Df.Ae .nil fun i k _=>by
 refine ⟨0,Aa.Df.out [.i i,.i k],[],?_,.int⟩
 rw [Aa.Df.ev]; rfl
theorem Aa.F9.known:Aa.F9.Kn:=Aa.F9.Ae .nil fun i k _=>by
 refine ⟨0,Aa.F9.out [.i i,.i k],[],?_,.int⟩
 rw [Aa.F9.ev]
 show _=some (DV.int .u64 (Ln i k))
 unfold Ln
 by_cases h:i=k
 ·have:(i==k)=true:=by rw [h]; simp
  rw [this,Avu h]; rfl
 ·have:(i==k)=false:=by simpa using h
  rw [this,Avt h]; rfl
theorem Aa.Ed.known:Aa.Ed.Kn:=Aa.Ed.Ae (.cons Aa.get.known .nil) fun i k r c l hp=>by
 have hp:Ds r c l k i=true:=hp
 refine ⟨0,Aa.Ed.out [.i i,.i k,.i r,.i c,.l l],[],?_,.int⟩
 rw [Aa.Ed.ev,hp]; rfl
theorem Aa.Ee.known:Aa.Ee.Kn:=Aa.Ee.Ae (.cons Aa.get.known .nil) fun i k r c l x y hp=>by
 obtain ⟨h1,h2⟩:=Ag.1 hp
 have h2:=Ao.1 h2
 refine ⟨0,Aa.Ee.out [.i i,.i k,.i r,.i c,.l l,.i x,.i y],[],?_,.int⟩
 rw [Aa.Ee.ev,Al (x:=x+i) (by omega) (by omega),Al (x:=y+k) (by omega) (by omega),h1]; rfl
theorem P3 {R C:Nat} {l:List Int} (hl:l.length=R*C) {I:Nat} (hi:I<R):(Dh (C:Int) l (I:Int)).length=C:=by
 have hle:(I+1)*C≤R*C:=Avj C (by omega)
 have e1:((I:Int)*(C:Int)).toNat=I*C:=by rw [← Avs,Au9]
 have e2:(((I:Int)+1)*(C:Int)).toNat=(I+1)*C:=by
  have:((I:Int)+1)*(C:Int)=(((I+1)*C:Nat):Int):=by rw [Avs]; rfl
  rw [this,Au9]
 unfold Dh
 rw [List.length_drop,List.length_take,e1,e2]
 rw [Awb,Nat.one_mul] at hle ⊢
 omega
theorem Ady (R:Nat) (C:Int) (l:List Int) (K:Int):(Qj (R:Int) C l K).length=R:=by
 unfold Qj
 rw [Awd,Awa,Au9]
theorem Am0 {c i:Int} {l:List Int} (h:Ap l=true):Ap (Dh c l i)=true:=by
 have h:=Ao.1 h
 exact Ao.2 fun x hx=>h x (List.mem_of_mem_take (List.mem_of_mem_drop hx))
theorem K3 {c i k:Int} {l:List Int} (h:Ap l=true):Ah (Cv c l i k)=true:=by
 unfold Cv
 by_cases hj:(i*c+k).toNat<l.length
 ·exact Zz h hj
 ·rw [Avh,Awp (by omega)]
  exact B2 (n:=0) (by decide)
theorem Aod {r c k:Int} {l:List Int} (h:Ap l=true):Ap (Qj r c l k)=true:=by
 refine Ao.2 fun x hx=>?_
 obtain ⟨j,_,rfl⟩:=List.mem_map.1 hx
 exact K3 h
theorem Aa.F6.known:Aa.F6.Kn:=Aa.F6.Ae (.cons Aa.C2.known (.cons Aa.Row.known (.cons Af.Fs.known .nil))) fun i k r c l p q m hp=>by
 obtain ⟨h1,h2⟩:=Ag.1 (show P9 r c l p q m i k=true from hp)
 obtain ⟨h3,h4⟩:=Ag.1 h1
 obtain ⟨h5,h6⟩:=Ag.1 h2
 obtain ⟨hl,hm⟩:=Ag.1 h5
 obtain rfl:=Ao.1 h6
 obtain ⟨hr,hi⟩:=Ag.1 h3
 have hi:=Ao.1 hi
 obtain ⟨R,C,rfl,rfl,r6,c6,ll⟩:=Dc hr
 obtain ⟨I,rfl⟩:∃ j:Nat,i=j:=⟨i.toNat,by omega⟩
 refine ⟨0,Aa.F6.out [.i I,.i k,.i R,.i C,.l l,.i C,.i q,.l m],[],?_,.int⟩
 have hf:Ss (Dh (C:Int) l (I:Int)) (Qj (C:Int) q m k)=true:=Zf.2 ⟨by rw [P3 ll (by omega),Ady],by rw [P3 ll (by omega)]; omega⟩
 rw [Aa.F6.ev,Aoc,h3,h4,hf,Am0 hl,Aod hm,Acd (by omega)]
 rfl
open Go Go.Den Go.C4 Go.Proofs
set_option maxRecDepth 100000
namespace EqCmp
def compare.Iw.Bf:List (Nat × Entry):=[(213,soft.Sign.spec)]
def compare.Iw.E:Env:=Bg (Be compare.Iw.Bf) (fun _=>false) (fun _=>none) (fun _=>none)
theorem compare.Iw.ev (N:Nat) (b:Int):By compare.Iw.E N f214 (An f214) [.int .u64 b]=bif (Ah b) then bif (Dk b) then some (.int .i64 (Ab (0-(Ab (Nd .u64 b 9223372036854775808))))) else some (.int .i64 (Ab b)) else none:=by kernel_rfl
abbrev _root_.Go.Proofs.S1.compare.Iw.Kn:=A7 prog 214 compare.Iw.spec
theorem compare.Iw.Ae (hk:A1 prog compare.Iw.Bf) (h:Hyp compare.Iw.E f214 compare.Iw.ts compare.Iw.pre compare.Iw.out):compare.Iw.Kn :=
 Am (A3 hk _ _ _) func214 (by kernel_rfl) (by kernel_rfl) h
def compare.Order.Bf:List (Nat × Entry):=[(214,compare.Iw.spec),(155,soft.Kind.spec)]
def compare.Order.E:Env:=Bg (Be compare.Order.Bf) (fun _=>false) (fun _=>none) (fun _=>none)
theorem compare.Order.ev (N:Nat) (a b:Int):By compare.Order.E N f162 (An f162) [.int .u64 a,.int .u64 b]=bif (Ah a) then bif ((Bd a)==(4:Int)) then some (.tup [.int .i64 0,.bool false]) else bif (Ah b) then bif ((Bd b)==(4:Int)) then some (.tup [.int .i64 0,.bool false]) else bif (Ah a) then bif (Ah b) then bif (A6 (Xd a) (Xd b)) then some (.tup [.int .i64 (-1:Int),.bool true]) else bif (Ah a) then bif (Ah b) then bif (A6 (Xd b) (Xd a)) then some (.tup [.int .i64 1,.bool true]) else some (.tup [.int .i64 0,.bool true]) else none else none else none else none else none else none:=by kernel_rfl
abbrev _root_.Go.Proofs.S1.compare.Order.Kn:=A7 prog 162 compare.Order.spec
theorem compare.Order.Ae (hk:A1 prog compare.Order.Bf) (h:Hyp compare.Order.E f162 compare.Order.ts compare.Order.pre compare.Order.out):compare.Order.Kn :=
 Am (A3 hk _ _ _) func162 (by kernel_rfl) (by kernel_rfl) h
def compare.I4.Bf:List (Nat × Entry):=[(162,compare.Order.spec)]
def compare.I4.E:Env:=Bg (Be compare.I4.Bf) (fun _=>false) (fun _=>none) (fun _=>none)
theorem compare.I4.ev (N:Nat) (a b:Int):By compare.I4.E N f90 (An f90) [.int .u64 a,.int .u64 b]=bif (Ah a&&Ah b) then some (.bool (A6 (Ac4 a b) 0)) else none:=by kernel_rfl
abbrev _root_.Go.Proofs.S1.compare.I4.Kn:=A7 prog 90 compare.I4.spec
theorem compare.I4.Ae (hk:A1 prog compare.I4.Bf) (h:Hyp compare.I4.E f90 compare.I4.ts compare.I4.pre compare.I4.out):compare.I4.Kn :=
 Am (A3 hk _ _ _) func90 (by kernel_rfl) (by kernel_rfl) h
def compare.Ry.Bf:List (Nat × Entry):=[]
def compare.Ry.E:Env:=Bg (Be compare.Ry.Bf) (fun _=>false) (fun _=>none) (fun _=>none)
theorem compare.Ry.ev (N:Nat) (a:Int):By compare.Ry.E N f87 (An f87) [.int .u64 a]=some (.int .u64 (Nd .u64 a 9223372036854775808)):=by kernel_rfl
abbrev _root_.Go.Proofs.S1.compare.Ry.Kn:=A7 prog 87 compare.Ry.spec
theorem compare.Ry.Ae (hk:A1 prog compare.Ry.Bf) (h:Hyp compare.Ry.E f87 compare.Ry.ts compare.Ry.pre compare.Ry.out):compare.Ry.Kn :=
 Am (A3 hk _ _ _) func87 (by kernel_rfl) (by kernel_rfl) h
def compare.D0.hint:Nat→Option A9
 | 1=>some { keep:=[0,6,7,8],objs:=[],boxes:=[] }
 | _=>none
def compare.D0.Bf:List (Nat × Entry):=[(155,soft.Kind.spec),(212,soft.Cx.spec),(211,soft.Ep.spec),(213,soft.Sign.spec)]
def compare.D0.E:Env:=Bg (Be compare.D0.Bf) (fun _=>false) compare.D0.hint (fun _=>none)
section
variable (N M:Nat) (a n p6 p7:Int) (p8:Bool)
def compare.D0.L0:Option DV:=Bx compare.D0.E N f161 (An f161) [1,1,1,1,1,1,0,0] [] M ⟨Gm 59 [(0,.int .u64 a),(6,.int .u64 p6),(7,.int .i64 p7),(8,.bool p8)],[]⟩
theorem compare.D0.Ax:compare.D0.L0 N (M+1) a p6 p7 p8=bif ((A6 p7 (-1130:Int))&&(A6 1 p6)) then compare.D0.L0 N M a (C9 .u64 p6 1) (Ab (p7+1)) (bif p8 then true else ((Fe .u64 p6 1)==(1:Int))) else bif (A6 p7 (-1130:Int)) then bif (Ah a) then bif (Du 0 (-1074:Int) true) then some (.tup [.int .u64 (D5 (Dk a) 0 (-1074:Int) true),.int .u8 (D4 (Dk a) 0 (-1074:Int) true)]) else none else none else bif (Ah a) then bif (Du p6 p7 p8) then some (.tup [.int .u64 (D5 (Dk a) p6 p7 p8),.int .u8 (D4 (Dk a) p6 p7 p8)]) else none else none :=
 Eq.trans (by kernel_rfl)
 (Ay (Nv (A6 p7 (-1130:Int))) (Ay (Kf (A6 p7 (-1130:Int))) (Ay (S9 (A6 p7 (-1130:Int))) (Cy (tt1 (A6 p7 (-1130:Int)) (A6 1 p6)) (Ay (Wl p8) (Ay (Un p8) (Ay (Un p8) (Ay (tt6 p8) rfl)))) rfl))))
theorem compare.D0.ev:By compare.D0.E N f161 (An f161) [.int .u64 a,.int .i64 n]=bif (Ah a) then bif ((Bd a)==(4:Int)) then some (.tup [.int .u64 9221120237041090560,.int .u8 0]) else bif ((Bd a)==(3:Int)) then bif ((Bd a)==(3:Int)) then some (.tup [.int .u64 a,.int .u8 0]) else bif (Ah a) then compare.D0.L0 N N a (Bk a) (Ab ((Az a)+(max (-2300:Int) (min 2300 n)))) false else none else bif ((Bd a)==(0:Int)) then some (.tup [.int .u64 a,.int .u8 0]) else bif (Ah a) then compare.D0.L0 N N a (Bk a) (Ab ((Az a)+(max (-2300:Int) (min 2300 n)))) false else none else none:=by kernel_rfl
end
abbrev _root_.Go.Proofs.S1.compare.D0.Kn:=A7 prog 161 compare.D0.spec
theorem compare.D0.Ae (hk:A1 prog compare.D0.Bf) (h:Hyp compare.D0.E f161 compare.D0.ts compare.D0.pre compare.D0.out):compare.D0.Kn :=
 Am (A3 hk _ _ _) func161 (by kernel_rfl) (by kernel_rfl) h
def Af.Bs.Bf:List (Nat × Entry):=[(161,compare.D0.spec)]
def Af.Bs.E:Env:=Bg (Be Af.Bs.Bf) (fun _=>false) (fun _=>none) (fun _=>none)
theorem Af.Bs.ev (N:Nat) (a n:Int):By Af.Bs.E N f88 (An f88) [.int .u64 a,.int .i64 n]=bif (Eu a n) then some (.int .u64 (Ck a n)) else none:=by kernel_rfl
abbrev _root_.Go.Proofs.S1.Af.Bs.Kn:=A7 prog 88 Af.Bs.spec
theorem Af.Bs.Ae (hk:A1 prog Af.Bs.Bf) (h:Hyp Af.Bs.E f88 Af.Bs.ts Af.Bs.pre Af.Bs.out):Af.Bs.Kn :=
 Am (A3 hk _ _ _) func88 (by kernel_rfl) (by kernel_rfl) h
def Af.Div.Bf:List (Nat × Entry):=[(209,times.Div.spec)]
def Af.Div.E:Env:=Bg (Be Af.Div.Bf) (fun _=>false) (fun _=>none) (fun _=>none)
theorem Af.Div.ev (N:Nat) (a b:Int):By Af.Div.E N f158 (An f158) [.int .u64 a,.int .u64 b]=bif (Ah a&&Ah b) then some (.int .u64 (Ek a b)) else none:=by kernel_rfl
abbrev _root_.Go.Proofs.S1.Af.Div.Kn:=A7 prog 158 Af.Div.spec
theorem Af.Div.Ae (hk:A1 prog Af.Div.Bf) (h:Hyp Af.Div.E f158 Af.Div.ts Af.Div.pre Af.Div.out):Af.Div.Kn :=
 Am (A3 hk _ _ _) func158 (by kernel_rfl) (by kernel_rfl) h
def Af.Ci.hint:Nat→Option A9
 | 0=>some { keep:=[3,6,7,8],objs:=[],boxes:=[] }
 | _=>none
def Af.Ci.Bf:List (Nat × Entry):=[(87,compare.Ry.spec),(155,soft.Kind.spec)]
def Af.Ci.E:Env:=Bg (Be Af.Ci.Bf) (fun _=>false) Af.Ci.hint (fun _=>none)
section
variable (N M:Nat) (x:List Int) (p3 p8:Int)
def Af.Ci.L0:Option DV:=Bx Af.Ci.E N f89 (An f89) [1,1,0,1,0] [] M ⟨Gm 21 [(3,.int .u64 p3),(6,.ints .arg .u64 x),(7,.int .i64 (length x:Int)),(8,.int .i64 p8)],[]⟩
theorem Af.Ci.Ax:Af.Ci.L0 N (M+1) x p3 p8=bif (A6 p8 (length x:Int)) then bif ((decide (0≤p8))&&(decide (p8<(length x:Int)))) then bif (Ah (getD x (toNat p8) 0)) then bif ((Bd (getD x (toNat p8) 0))==(4:Int)) then some (.int .u64 9221120237041090560) else bif (Ah (getD x (toNat p8) 0)) then Af.Ci.L0 N M x (max p3 (Aa7 (getD x (toNat p8) 0))) (Ab (p8+1)) else none else none else none else some (.int .u64 p3):=by kernel_rfl
theorem Af.Ci.ev:By Af.Ci.E N f89 (An f89) [.ints .arg .u64 x] =
 Af.Ci.L0 N N x 0 0:=by kernel_rfl
end
abbrev _root_.Go.Proofs.S1.Af.Ci.Kn:=A7 prog 89 Af.Ci.spec
theorem Af.Ci.Ae (hk:A1 prog Af.Ci.Bf) (h:Hyp Af.Ci.E f89 Af.Ci.ts Af.Ci.pre Af.Ci.out):Af.Ci.Kn :=
 Am (A3 hk _ _ _) func89 (by kernel_rfl) (by kernel_rfl) h
def Af.Finite.hint:Nat→Option A9
 | 0=>some { keep:=[5,6,7],objs:=[],boxes:=[] }
 | _=>none
def Af.Finite.Bf:List (Nat × Entry):=[(148,soft.Finite.spec)]
def Af.Finite.E:Env:=Bg (Be Af.Finite.Bf) (fun _=>false) Af.Finite.hint (fun _=>none)
section
variable (N M:Nat) (x:List Int) (p7:Int)
def Af.Finite.L0:Option DV:=Bx Af.Finite.E N f150 (An f150) [1,0,1,0] [] M ⟨Gm 15 [(5,.ints .arg .u64 x),(6,.int .i64 (length x:Int)),(7,.int .i64 p7)],[]⟩
theorem Af.Finite.Ax:Af.Finite.L0 N (M+1) x p7=bif (A6 p7 (length x:Int)) then bif ((decide (0≤p7))&&(decide (p7<(length x:Int)))) then bif (Ah (getD x (toNat p7) 0)) then bif (!(Dd (getD x (toNat p7) 0))) then some (.bool false) else Af.Finite.L0 N M x (Ab (p7+1)) else none else none else some (.bool true):=by kernel_rfl
theorem Af.Finite.ev:By Af.Finite.E N f150 (An f150) [.ints .arg .u64 x] =
 Af.Finite.L0 N N x 0:=by kernel_rfl
end
abbrev _root_.Go.Proofs.S1.Af.Finite.Kn:=A7 prog 150 Af.Finite.spec
theorem Af.Finite.Ae (hk:A1 prog Af.Finite.Bf) (h:Hyp Af.Finite.E f150 Af.Finite.ts Af.Finite.pre Af.Finite.out):Af.Finite.Kn :=
 Am (A3 hk _ _ _) func150 (by kernel_rfl) (by kernel_rfl) h
def Cg.Check.hint:Nat→Option A9
 | 0=>some { keep:=[9,10,11],objs:=[],boxes:=[] }
 | _=>none
def Cg.Check.Bf:List (Nat × Entry):=[(160,Aa.Check.spec),(148,soft.Finite.spec)]
def Cg.Check.E:Env:=Bg (Be Cg.Check.Bf) (fun _=>false) Cg.Check.hint (fun _=>none)
section
variable (N:Nat) (r c:Int) (M:Nat) (l:List Int) (p11:Int)
def Cg.Check.L0:Option DV:=Bx Cg.Check.E N f86 (An f86) [1,1,0,1,0] [] M ⟨Gm 19 [(9,.ints .arg .u64 l),(10,.int .i64 (length l:Int)),(11,.int .i64 p11)],[]⟩
theorem Cg.Check.Ax:Cg.Check.L0 N (M+1) l p11=bif (A6 p11 (length l:Int)) then bif ((decide (0≤p11))&&(decide (p11<(length l:Int)))) then bif (Ah (getD l (toNat p11) 0)) then bif (!(Dd (getD l (toNat p11) 0))) then some (.int .i64 4) else Cg.Check.L0 N M l (Ab (p11+1)) else none else none else some (.int .i64 0):=by kernel_rfl
theorem Cg.Check.ev:By Cg.Check.E N f86 (An f86) [.agg [.int .i64 r,.int .i64 c,.ints .arg .u64 l]]=bif ((I2 r c l) !=(0:Int)) then some (.int .i64 1) else Cg.Check.L0 N N l 0:=by kernel_rfl
end
abbrev _root_.Go.Proofs.S1.Cg.Check.Kn:=A7 prog 86 Cg.Check.spec
theorem Cg.Check.Ae (hk:A1 prog Cg.Check.Bf) (h:Hyp Cg.Check.E f86 Cg.Check.ts Cg.Check.pre Cg.Check.out):Cg.Check.Kn :=
 Am (A3 hk _ _ _) func86 (by kernel_rfl) (by kernel_rfl) h
end EqCmp
open Go Go.Den Go.C4 Go.Proofs
open EqCmp
theorem O7 {k j:Nat} (h:k≠j):(((k:Nat):Int)==((j:Nat):Int))=false:=by rw [Av2]; omega
theorem Yf (n:Nat):n%2^63<2^63:=Nat.mod_lt _ (by decide)
theorem Ab4 {n:Nat} (h:n<2^64):Nd .u64 (n:Int) (9223372036854775808:Int)=((n%2^63:Nat):Int):=by
 have:=Nh (Db n) (Yf n)
 rw [W7 h] at this
 exact this
theorem compare.Ry.known:compare.Ry.Kn:=compare.Ry.Ae .nil fun a hp=>by
 obtain ⟨n,rfl,hn⟩:=B0 (show Ah a=true from hp)
 refine ⟨0,compare.Ry.out [.i (n:Int)],[],?_,.int⟩
 show _=some (DV.int .u64 (((n:Int).toNat%2^63:Nat):Int))
 rw [compare.Ry.ev,Ab4 hn,Au9]
theorem compare.Iw.known:compare.Iw.Kn:=compare.Iw.Ae (.cons soft.Sign.known .nil) fun b hp=>by
 have hp:Ah b=true:=hp
 obtain ⟨n,rfl,hn⟩:=B0 hp
 refine ⟨0,compare.Iw.out [.i (n:Int)],[],?_,.int⟩
 show _=some (DV.int .i64 (Vs (n:Int).toNat))
 have h63:=Yf n
 rw [compare.Iw.ev,hp,Au7,Ab4 hn,Au9]
 unfold Vs Gv Dk
 rw [Au9]
 cases hs:Db n with
 | true =>
   rw [Au7,Avu rfl,Al (x:=((n%2^63:Nat):Int)) (by omega) (by omega),Al (by omega) (by omega)]
   congr 2; omega
 | false =>
   have:n<2^63:=by
    unfold Db at hs
    have:=of_decide_eq_false hs
    omega
   rw [Avb,Avt (by decide),Avk this,Al (by omega) (by omega)]
theorem compare.Order.known:compare.Order.Kn:=compare.Order.Ae (.cons compare.Iw.known (.cons soft.Kind.known .nil)) fun a b hp=>by
 obtain ⟨ha,hb⟩:=Ag.1 (show (Ah a&&Ah b)=true from hp)
 refine ⟨0,compare.Order.out [.i a,.i b],[],?_,Wk.G1 (.cons .int (.cons .bool .nil))⟩
 show _=some (DV.tup [.int .i64 (Aqa a.toNat b.toNat),.bool (Aqb a.toNat b.toNat)])
 rw [compare.Order.ev,ha,hb,Au7,Au7,Au7,Au7,Au7,Au7,Av,Av]
 unfold Aqa Aqb Xd Bd
 by_cases h1:As a.toNat=4
 ·have e:(((As a.toNat:Nat):Int)==(4:Int))=true:=by rw [h1]; rfl
  rw [e,Au7,Avu (.inl h1),Au8 (.inl h1)]; rfl
 ·have e:(((As a.toNat:Nat):Int)==(4:Int))=false:=O7 h1
  rw [e,Avb]
  by_cases h2:As b.toNat=4
  ·have e:(((As b.toNat:Nat):Int)==(4:Int))=true:=by rw [h2]; rfl
   rw [e,Au7,Avu (.inr h2),Au8 (.inr h2)]; rfl
  ·have e:(((As b.toNat:Nat):Int)==(4:Int))=false:=O7 h2
   have hn:¬ (As a.toNat=4∨As b.toNat=4):=fun h=>h.elim h1 h2
   rw [e,Avb,Avt hn,Avc hn]
   by_cases h3:Vs a.toNat<Vs b.toNat
   ·rw [Au8 h3,Avu h3]; rfl
   ·rw [Avc h3,Avt h3]
    by_cases h4:Vs b.toNat<Vs a.toNat
    ·rw [Au8 h4,Avu h4]; rfl
    ·rw [Avc h4,Avt h4]; rfl
theorem compare.I4.known:compare.I4.Kn:=compare.I4.Ae (.cons compare.Order.known .nil) fun a b hp=>by
 have hp:(Ah a&&Ah b)=true:=hp
 refine ⟨0,compare.I4.out [.i a,.i b],[],?_,.bool⟩
 rw [compare.I4.ev,hp,Av]; rfl
theorem Acs (N:Nat) {a:Int} (ha:Ah a=true):∀ (k F m:Nat) (e:Int) (b:Bool),e=-1130-(k:Int)→k<F→m<2^53→(m≠0∨b=true)→-9000<e →
 compare.D0.L0 N F a (m:Int) e b=some (.tup [.int .u64 (((B5 (Db a.toNat) 0,3):Nat × Nat).1:Nat),.int .u8 (((B5 (Db a.toNat) 0,3):Nat × Nat).2:Nat)]):=by
 have pre1:Du (0:Int) (-1074:Int) true=true:=Ao.2 (by omega)
 intro k
 induction k with
 | zero =>
   intro F m e b he hF hm h0 _
   obtain ⟨F,rfl⟩:∃ G,F=G+1:=⟨F-1,by omega⟩
   have hlt:A6 e (-1130:Int)=false:=by rw [Av]; exact Avc (by omega)
   have Ph:Du (m:Int) e b=true:=Ao.2 (by omega)
   rw [compare.D0.Ax,hlt,Bool.false_and,Avb,Avb,ha,Au7,Ph,Au7]
   unfold D5 D4 Dk
   rw [Au9,Agq _ hm h0 (by omega)]
 | succ k ih =>
   intro F m e b he hF hm h0 hb
   obtain ⟨F,rfl⟩:∃ G,F=G+1:=⟨F-1,by omega⟩
   have hlt:A6 e (-1130:Int)=true:=by rw [Av]; exact Au8 (by omega)
   rw [compare.D0.Ax,hlt,Awk,Au7,Av]
   by_cases h1:(1:Int)<(m:Int)
   ·have em:C9 .u64 (m:Int) (1:Int)=((m / 2^1:Nat):Int):=Gn .u64 m 1 (by decide)
    rw [Au8 h1,Au7,em,Al (by omega) (by omega)]
    exact ih F (m / 2^1) (e+1) _ (by omega) (by omega) (by omega) (.inl (by omega)) (by omega)
   ·rw [Avc h1,Avb,ha,Au7,pre1,Au7]
    unfold D5 D4 Dk
    rw [show (0:Int).toNat=0 from rfl,Ajp]
theorem compare.D0.known:compare.D0.Kn:=compare.D0.Ae (.cons soft.Kind.known (.cons soft.Cx.known (.cons soft.Ep.known (.cons soft.Sign.known .nil)))) fun a n hp=>by
 obtain ⟨ha,hn⟩:=Ag.1 (show Eu a n=true from hp)
 have hn:=Ao.1 hn
 refine ⟨3000,compare.D0.out [.i a,.i n],[],?_,Wk.G1 (.cons .int (.cons .int .nil))⟩
 show _=some (DV.tup [.int .u64 ((Hk a.toNat n).1:Nat),.int .u8 ((Hk a.toNat n).2:Nat)])
 have em:max (-2300:Int) (min (2300:Int) n)=n:=by omega
 have pE:=Em a.toNat
 have pM:=Fm a.toNat
 have ee:Ab (Az a+n)=A2 a.toNat+n:=by unfold Az; exact Al (by omega) (by omega)
 rw [compare.D0.ev,ha,Au7,Au7,em,ee]
 unfold Bd
 by_cases h4:As a.toNat=4
 ·have e:(((As a.toNat:Nat):Int)==(4:Int))=true:=by rw [h4]; rfl
  rw [e,Au7]
  unfold Hk
  rw [Avu h4]; rfl
 have e4:(((As a.toNat:Nat):Int)==(4:Int))=false:=O7 h4
 rw [e4,Avb]
 by_cases h3:As a.toNat=3
 ·have e:(((As a.toNat:Nat):Int)==(3:Int))=true:=by rw [h3]; rfl
  obtain ⟨k,rfl,hk⟩:=B0 ha
  rw [e,Au7,Au7]
  unfold Hk
  rw [Avt h4,Avu (.inl h3),Au9]; rfl
 have e3:(((As a.toNat:Nat):Int)==(3:Int))=false:=O7 h3
 rw [e3,Avb]
 by_cases h0:As a.toNat=0
 ·have e:(((As a.toNat:Nat):Int)==(0:Int))=true:=by rw [h0]; rfl
  obtain ⟨k,rfl,hk⟩:=B0 ha
  rw [e,Au7]
  unfold Hk
  rw [Avt h4,Avu (.inr h0),Au9]; rfl
 have e0:(((As a.toNat:Nat):Int)==(0:Int))=false:=O7 h0
 have hk:¬ (As a.toNat=3∨As a.toNat=0):=fun h=>h.elim h3 h0
 have hm:Aw a.toNat≠0:=fun h=>h0 ((Ks h3 h4).1 h)
 rw [e0,Avb]
 show compare.D0.L0 3000 3000 a (Aw a.toNat:Nat) (A2 a.toNat+n) false=_
 by_cases ht:A2 a.toNat+n≤-1130
 ·rw [Acr h4 hk ht]
  exact Acs 3000 ha (-1130-(A2 a.toNat+n)).toNat 3000 _ _ false (by omega) (by omega) (by omega) (.inl hm) (by omega)
 ·have hlt:A6 (A2 a.toNat+n) (-1130:Int)=false:=by rw [Av]; exact Avc (by omega)
  have Ph:Du ((Aw a.toNat:Nat):Int) (A2 a.toNat+n) false=true:=Ao.2 ⟨by omega,by omega,by omega,by omega,fun h=>by cases h⟩
  rw [Aga h4 hk,show (3000:Nat)=2999+1 from rfl,compare.D0.Ax,hlt,Bool.false_and,Avb,Avb,ha,Au7,Ph,Au7]
  unfold D5 D4 Dk
  rw [Au9,Th]
theorem Af.Bs.known:Af.Bs.Kn:=Af.Bs.Ae (.cons compare.D0.known .nil) fun a n hp=>by
 have hp:Eu a n=true:=hp
 refine ⟨0,Af.Bs.out [.i a,.i n],[],?_,.int⟩
 rw [Af.Bs.ev,hp]; rfl
theorem Af.Div.known:Af.Div.Kn:=Af.Div.Ae (.cons times.Div.known .nil) fun a b hp=>by
 have hp:(Ah a&&Ah b)=true:=hp
 refine ⟨0,Af.Div.out [.i a,.i b],[],?_,.int⟩
 rw [Af.Div.ev,hp]; rfl
theorem Hv {l:List Int} {i:Nat} (h:i<l.length):l.drop i=l.getD i 0::l.drop (i+1):=by
 rw [List.drop_eq_getElem_cons h,Avh,Avo h]; rfl
theorem J6 {l:List Int} (h:Dq l=true):l.length<4611686018427387904∧∀ j,j<l.length→Ah (l.getD j 0)=true:=by
 obtain ⟨h1,h2⟩:=Ao.1 h
 exact ⟨h1,fun j hj=>by rw [Avh,Avo hj]; exact h2 _ (List.getElem_mem hj)⟩
theorem Kt {l:List Int} (h:Ap l=true) (hl:l.length≤1000):Dq l=true:=Ao.2 ⟨by omega,Ao.1 h⟩
theorem Abn (N:Nat) {x:List Int} (hx:Dq x=true):∀ (k i F:Nat),i+k=x.length→k<F→Af.Finite.L0 N F x (i:Int)=some (.bool ((x.drop i).all Dd)):=by
 obtain ⟨hl,hu⟩:=J6 hx
 intro k
 induction k with
 | zero =>
   intro i F hi hF
   obtain ⟨F,rfl⟩:∃ G,F=G+1:=⟨F-1,by omega⟩
   rw [Af.Finite.Ax,Av,Avc (by omega),Avb,Avl (by omega)]; rfl
 | succ k ih =>
   intro i F hi hF
   obtain ⟨F,rfl⟩:∃ G,F=G+1:=⟨F-1,by omega⟩
   rw [Af.Finite.Ax,Av,Au8 (show (i:Int)<(x.length:Int) by omega),Au7,Au8 (show (0:Int)≤(i:Int) by omega),Avd,Au7,Au9,hu i (by omega),Au7,Hv (by omega),List.all_cons]
   cases Dd (x.getD i 0) with
   | false=>rfl
   | true =>
     rw [Av6,Avb,Al (by omega) (by omega),Awk]
     exact ih (i+1) F (by omega) (by omega)
theorem Af.Finite.known:Af.Finite.Kn:=Af.Finite.Ae (.cons soft.Finite.known .nil) fun x hp=>by
 have hp:Dq x=true:=hp
 refine ⟨x.length+1,Af.Finite.out [.l x],[],?_,.bool⟩
 show _=some (DV.bool (x.all Dd))
 rw [Af.Finite.ev]
 exact Abn _ hp x.length 0 (x.length+1) (by omega) (by omega)
theorem Ahs {x:List Int} {i:Nat} (h:i<x.length) (m:Nat):Zt (x.drop i) m=if As (x.getD i 0).toNat=4 then Wi else Zt (x.drop (i+1)) (max m (Ah0 (x.getD i 0).toNat)):=by
 rw [Hv h]; rfl
theorem Zs (N:Nat) {x:List Int} (hx:Dq x=true):∀ (k i F m:Nat),i+k=x.length→k<F→Af.Ci.L0 N F x (m:Int) (i:Int)=some (.int .u64 ((Zt (x.drop i) m:Nat):Int)):=by
 obtain ⟨hl,hu⟩:=J6 hx
 intro k
 induction k with
 | zero =>
   intro i F m hi hF
   obtain ⟨F,rfl⟩:∃ G,F=G+1:=⟨F-1,by omega⟩
   rw [Af.Ci.Ax,Av,Avc (by omega),Avb,Avl (by omega)]; rfl
 | succ k ih =>
   intro i F m hi hF
   obtain ⟨F,rfl⟩:∃ G,F=G+1:=⟨F-1,by omega⟩
   rw [Af.Ci.Ax,Av,Au8 (show (i:Int)<(x.length:Int) by omega),Au7,Au8 (show (0:Int)≤(i:Int) by omega),Avd,Au7,Au9,hu i (by omega),Au7,Ahs (by omega)]
   unfold Bd
   by_cases h4:As (x.getD i 0).toNat=4
   ·have e:(((As (x.getD i 0).toNat:Nat):Int)==(4:Int))=true:=by rw [h4]; rfl
    rw [e,Au7,Avu h4]; rfl
   ·have e:(((As (x.getD i 0).toNat:Nat):Int)==(4:Int))=false:=O7 h4
    have em:max (m:Int) (Aa7 (x.getD i 0))=((max m (Ah0 (x.getD i 0).toNat):Nat):Int):=by unfold Aa7; omega
    rw [e,Avb,Au7,Avt h4,em,Al (by omega) (by omega)]
    exact ih (i+1) F _ (by omega) (by omega)
theorem Af.Ci.known:Af.Ci.Kn:=Af.Ci.Ae (.cons compare.Ry.known (.cons soft.Kind.known .nil)) fun x hp=>by
 have hp:Dq x=true:=hp
 refine ⟨x.length+1,Af.Ci.out [.l x],[],?_,.int⟩
 rw [Af.Ci.ev]
 exact Zs _ hp x.length 0 (x.length+1) 0 (by omega) (by omega)
theorem Zr (N:Nat) {x:List Int} (hx:Dq x=true):∀ (k i F:Nat),i+k=x.length→k<F→Cg.Check.L0 N F x (i:Int)=some (.int .i64 (if (x.drop i).all Dd=true then 0 else 4)):=by
 obtain ⟨hl,hu⟩:=J6 hx
 intro k
 induction k with
 | zero =>
   intro i F hi hF
   obtain ⟨F,rfl⟩:∃ G,F=G+1:=⟨F-1,by omega⟩
   rw [Cg.Check.Ax,Av,Avc (by omega),Avb,Avl (by omega)]; rfl
 | succ k ih =>
   intro i F hi hF
   obtain ⟨F,rfl⟩:∃ G,F=G+1:=⟨F-1,by omega⟩
   rw [Cg.Check.Ax,Av,Au8 (show (i:Int)<(x.length:Int) by omega),Au7,Au8 (show (0:Int)≤(i:Int) by omega),Avd,Au7,Au9,hu i (by omega),Au7,Hv (by omega),List.all_cons]
   cases Dd (x.getD i 0) with
   | false=>rfl
   | true =>
     rw [Av6,Avb,Al (by omega) (by omega),Awk]
     exact ih (i+1) F (by omega) (by omega)
theorem O4 {r c:Int} {l:List Int} (h:Bj r c l=true):l.length≤36:=by
 obtain ⟨R,C,rfl,rfl,r6,c6,hl⟩:=Dc h
 have:=Av3 r6 c6
 omega
theorem Cg.Check.known:Cg.Check.Kn:=Cg.Check.Ae (.cons Aa.Check.known (.cons soft.Finite.known .nil)) fun r c l hp=>by
 have hp:Ap l=true:=hp
 refine ⟨l.length+1,Cg.Check.out [.i r,.i c,.l l],[],?_,.int⟩
 show _=some (DV.int .i64 (Bt r c l))
 rw [Cg.Check.ev]
 unfold I2 Bt Fg
 by_cases h:Bj r c l=true
 ·have:=O4 h
  rw [Avu h,Avu h]
  have e:((0:Int) !=(0:Int))=false:=by decide
  rw [e,Avb]
  exact Zr _ (Kt hp (by omega)) l.length 0 (l.length+1) (by omega) (by omega)
 ·rw [Avt h,Avt h]; rfl
open Go Go.Den Go.C4 Go.Proofs Ieee
end Go.Proofs.S1
namespace Go.C4
open Go.Den
theorem Adw {P root rest two:Nat} (h1:P=root*root+rest) (h2:rest≤2*root) (h3:two<4) :
 (4*root+1≤4*rest+two→4*P+two=(2*root+1)*(2*root+1)+(4*rest+two-(4*root+1))∧4*rest+two-(4*root+1)≤2*(2*root+1)) ∧
 (4*rest+two<4*root+1→4*P+two=(2*root)*(2*root)+(4*rest+two)∧4*rest+two≤2*(2*root)):=by
 have e1:(2*root+1)*(2*root+1)=4*(root*root)+(4*root+1):=by
  rw [Awb,Nat.mul_add,Nat.mul_add]
  have:2*root*(2*root)=4*(root*root):=by rw [Nat.mul_mul_mul_comm]
  omega
 have e2:(2*root)*(2*root)=4*(root*root):=by rw [Nat.mul_mul_mul_comm]
 constructor
 ·intro h; rw [e1]; omega
 ·intro h; rw [e2]; omega
theorem Am1 {P root rest:Nat} (h1:P=root*root+rest) (h2:rest≤2*root):root=Qq P:=by
 refine Vu (by omega) ?_
 have:(root+1)*(root+1)=root*root+2*root+1:=by rw [Awb,Nat.mul_add]; omega
 omega
end Go.C4
namespace Go.C4
open Go.Den
theorem I5:Ah (0:Int)=true:=B2 (n:=0) (by decide)
theorem Ajh:Ah Wo=true:=B2 (n:=4607182418800017408) (by decide)
theorem Agb {b:Nat} {n:Int} (h:b<2^64):(Hk b n).1<2^64:=by
 unfold Hk
 by_cases h4:As b=4
 ·rw [Avu h4]; exact (by decide:Wi<2^64)
 rw [Avt h4]
 by_cases h3:As b=3∨As b=0
 ·rw [Avu h3]; exact h
 rw [Avt h3]
 exact Nz _ _ _
theorem Ja {b n:Int} (h:Ah b=true):Ah (Ck b n)=true:=by
 obtain ⟨x,rfl,hx⟩:=B0 h
 exact B2 (Agb (by rw [Au9]; exact hx))
theorem Afp (b:Nat):Ah0 b<2^63:=Nat.mod_lt _ (by decide)
theorem Wd:∀ (l:List Int) (m:Nat),m<2^64→Zt l m<2^64
 | [],m,h=>h
 | x::l,m,h=>by
   unfold Zt
   split
   ·exact (by decide:Wi<2^64)
   ·have h2:=Afp x.toNat
    exact Wd l _ (by omega)
theorem Qn (l:List Int):Ah (Bq l)=true:=B2 (Wd l 0 (by decide))
theorem Aj0 (x:Int):Ah (Aa7 x)=true:=B2 (Nat.lt_trans (Afp x.toNat) (by decide))
theorem Aly {a b:Int} (ha:Ah a=true) (hb:Ah b=true):Ah (Hx a b)=true:=by
 obtain ⟨x,rfl,hx⟩:=B0 ha
 obtain ⟨y,rfl,hy⟩:=B0 hb
 exact B2 (Ui (by rw [Au9]; exact hx) (by rw [Au9]; exact hy)).1
theorem Vf {a:Int} (ha:Ah a=true):Ah (C6 a)=true:=by
 obtain ⟨x,rfl,hx⟩:=B0 ha
 exact B2 (So (by rw [Au9]; exact hx))
theorem Aiv {b:Nat} (h:b<2^64):(Nj b).1<2^64:=by
 by_cases h4:As b=4
 ·rw [Aai h4]; exact (by decide:Wi<2^64)
 by_cases h0:As b=0∨b=F2
 ·rw [R5 h4 h0]; exact h
 cases hn:Db b with
 | true=>rw [Aah h4 h0 hn]; exact (by decide:Wi<2^64)
 | false =>
   unfold Nj
   rw [Avt h4,Avt h0,hn,Avt (by decide)]
   exact Nat.lt_trans (Q0 _ _) (by decide)
theorem Ael {a:Int} (ha:Ah a=true):Ah (G9 a)=true:=by
 obtain ⟨x,rfl,hx⟩:=B0 ha
 exact B2 (Aiv (by rw [Au9]; exact hx))
theorem Ais (k:Int):∀ (l:List Int) {s:Int},Ah s=true→Ah (Aco k s l)=true
 | [],_,h=>h
 | _::l,_,h=>Ais k l (Aly h (Ll _ _))
theorem Y3 (x:List Int):Ah (Ei x)=true:=by
 unfold Ei
 split
 ·exact Qn x
 ·exact Ja (Ael (Ais _ _ I5))
theorem As0 (x:List Int):Ah (muI x)=true:=by
 unfold muI
 split
 ·exact Y3 _
 ·exact Vf (Y3 _)
theorem Aol (x:List Int):Ah (He x)=true:=Ja (As0 x)
theorem Ahi (b:Nat):-1100≤Ak4 b∧Ak4 b≤1100:=by
 unfold Ak4
 split
 ·have h1:=Em b
  have h2:=Fm b
  rename_i h
  have h3:(Aw b).log2<53:=by
   by_cases h0:Aw b=0
   ·rw [h0]; decide
   ·exact (Awn h0).2 h2
  omega
 ·omega
theorem Ak3 (x:Int):-1100≤B8 x∧B8 x≤1100:=Ahi x.toNat
theorem Mi {l:List Int} (h:Ap l=true) (j:Nat):Ah (l.getD j 0)=true:=Ze (Ao.1 h) j
theorem Pd {l:List Int} (h:∀ x∈l,Ah x=true):Ap l=true:=Ao.2 h
theorem Alv:Ap []=true:=Pd fun _ h=>by cases h
theorem Ab5 {α:Type} {l:List α} {f:α→Int} (h:∀ j,Ah (f j)=true):Ap (l.map f)=true:=Pd fun x hx=>by
 obtain ⟨j,_,rfl⟩:=List.mem_map.1 hx
 exact h j
theorem Ahx {x:Int} {l:List Int} (h1:Ah x=true) (h2:Ap l=true):Ap (x::l)=true:=Pd fun y hy=>by
 rcases List.mem_cons.1 hy with rfl | hy
 ·exact h1
 ·exact Ao.1 h2 y hy
theorem Uh {c i k:Int} {l:List Int} (h:Ap l=true):Ah (Cv c l i k)=true:=Mi h _
theorem Te (c b i:Int) (n:Nat) (l:List Int):(Cb c l b i n).length=n:=by unfold Cb; rw [Awd,Awa]
theorem R9 {c b i:Int} {n:Nat} {l:List Int} (h:Ap l=true):Ap (Cb c l b i n)=true:=Ab5 fun _=>Uh h
theorem Ai2 (n:Nat) {f:Nat→Int} (h:∀ j,Ah (f j)=true):Ap (It n f)=true:=Ahx Ajh (Ab5 fun _=>h _)
theorem Q2 {n:Nat} (h:n≠0) (f:Nat→Int):(It n f).length=n:=by
 unfold It
 rw [List.length_cons,Awd,Awa]
 omega
theorem Ua {x:List Int} (h:Ap x=true):Ap (Ch x).1=true∧Ah (Ch x).2.1=true∧Ah (Ch x).2.2.1=true:=by
 have hz:Ap []=true∧Ah (0:Int)=true∧Ah (0:Int)=true:=⟨Alv,I5,I5⟩
 unfold Ch
 split
 ·exact hz
 split
 ·unfold Anh
  split
  ·dsimp only
   exact ⟨Ai2 _ fun _=>I5,I5,Mi h 0⟩
  ·split
   ·dsimp only
    exact ⟨Ai2 _ fun _=>Zn _ _,Zn _ _,Aol x⟩
   ·exact hz
 ·exact hz
theorem Vg {x:List Int} (h:(Ch x).2.2.2=0):(Ch x).1.length=x.length:=by
 unfold Ch at h ⊢
 by_cases h1:x.length=0∨64<x.length
 ·rw [Avu h1] at h; exact absurd h (by decide)
 rw [Avt h1] at h ⊢
 by_cases h2:Fg x=true
 ·rw [Avu h2] at h ⊢
  unfold Anh at h ⊢
  by_cases h3:Jf (x.drop 1)=true
  ·rw [Avu h3]; dsimp only; exact Q2 (n:=x.length) (by omega) _
  ·rw [Avt h3] at h ⊢
   by_cases h4:Dd (He x)=true
   ·rw [Avu h4]; dsimp only [Aa0]; exact Q2 (n:=x.length) (by omega) _
   ·rw [Avt h4] at h; exact absurd h (by decide)
 ·rw [Avt h2] at h; exact absurd h (by decide)
theorem Zm (x y:List Int):Ah (Pl x y)=true:=B2 (Zl x y 0 (by decide))
theorem Ahv {c i k t a b:Int} {l v:List Int} (h:Ap l=true):Ah (Oq c l i k v t a b)=true:=by
 unfold Oq
 split
 ·exact P2 (Uh h) (Ll _ _)
 ·exact Uh h
theorem Ya {r c:Nat} {l:List Int} (h:Ap l=true) (i k:Int) (v:List Int) (t:Int):Ap (F4 r c l i k v t)=true:=Le fun _ _=>Ahv h
theorem Lr (r c:Nat) (l:List Int) (i k:Int) (v:List Int) (t:Int):(F4 r c l i k v t).length=r*c:=B6 _ _ _
theorem Aho {r c:Nat} {l:List Int} (h:Ap l=true) (j:Nat) {x:Int} (hx:Ah x=true):Ap (Sz r c l j x)=true:=Le fun a b=>by
 split
 ·split
  ·exact hx
  ·exact I5
 ·exact Uh h
theorem N7 (r c:Nat) (l:List Int) (j:Nat):(Wp r c l j).length=r*c:=by unfold Wp Sz; exact B6 _ _ _
theorem Y5 {r c:Nat} {l:List Int} (h:Ap l=true) (j:Nat):Ap (Wp r c l j)=true:=Aho (Ya h _ _ _ _) _ (Ua (R9 h)).2.2
def Aa2 (r:Nat):Nat→List (List Int × Int)→Prop
 | _,[]=>True
 | j,m::ms=>(Ap m.1=true∧Ah m.2=true∧m.1.length+j=r)∧Aa2 r (j+1) ms
theorem V5 (r c:Nat):∀ (n j:Nat) (l:List Int) (x:List Int × List (List Int × Int)),Ap l=true→l.length=r*c→j+n≤r→Np r c n j l=some x→Ap x.1=true∧x.1.length=r*c∧x.2.length=n∧Aa2 r j x.2
 | 0,j,l,x,ha,hl,_,h=>by
   cases h
   exact ⟨ha,hl,rfl,trivial⟩
 | n+1,j,l,x,ha,hl,hj,h=>by
   unfold Np at h
   by_cases h1:(Ch (Gc r c l j)).2.2.2=0
   ·rw [Avu h1,Option.map_eq_some_iff] at h
    obtain ⟨y,hy,rfl⟩:=h
    obtain ⟨a1,a2,a3,a4⟩:=V5 r c n (j+1) _ y (Y5 ha j) (N7 r c l j) (by omega) hy
    have hm:=Ua (x:=Gc r c l j) (R9 ha)
    have hlen:=Vg h1
    refine ⟨a1,a2,by rw [List.length_cons,a3],⟨hm.1,hm.2.1,?_⟩,a4⟩
    show (Ch (Gc r c l j)).1.length+j=r
    rw [hlen]
    unfold Gc
    rw [Te]
    omega
   ·rw [Avt h1] at h; cases h
theorem Zi (n:Nat):Ap (Jv n)=true:=Le fun i k=>by
 unfold Ln
 split
 ·exact Ajh
 ·exact I5
theorem Ug (n:Nat):∀ (ms:List (List Int × Int)) (j:Nat) (q:List Int),Ap q=true→q.length=n*n→Ap (J0 n j ms q)=true∧(J0 n j ms q).length=n*n
 | [],_,_,h1,h2=>⟨h1,h2⟩
 | m::ms,j,q,h1,h2=>by
   unfold J0
   exact ⟨Ya (Ug n ms (j+1) q h1 h2).1 _ _ _ _,Lr _ _ _ _ _ _ _⟩
theorem An5 {r c:Nat} {l:List Int} (h:(Ir r c l).isSome=true):Ap (Qe r c l)=true∧(Qe r c l).length=r*r:=by
 unfold Qe
 cases hd:Ir r c l with
 | none=>rw [hd] at h; cases h
 | some x=>exact Ug r x.2 0 _ (Zi r) (by unfold Jv; exact B6 _ _ _)
theorem An4 {r c:Nat} {l:List Int} (ha:Ap l=true) (hl:l.length=r*c) (h:(Ir r c l).isSome=true):Ap (M7 r c l)=true∧(M7 r c l).length=r*c:=by
 unfold M7
 cases hd:Ir r c l with
 | none=>rw [hd] at h; cases h
 | some x =>
   have hn:Is r c≤r:=by unfold Is; omega
   have:=V5 r c (Is r c) 0 l x ha hl (by omega) hd
   exact ⟨this.1,this.2.1⟩
end Go.C4
namespace Go.Proofs.S1
open Go Go.Den Go.C4 Go.Proofs
set_option maxRecDepth 100000
namespace EqRoot
def root.Fj.hint:Nat→Option A9
 | 0=>some { keep:=[0,4,5,6,14],objs:=[],boxes:=[] }
 | _=>none
def root.Fj.Bf:List (Nat × Entry):=[]
def root.Fj.E:Env:=Bg (Be root.Fj.Bf) (fun _=>false) root.Fj.hint (fun _=>none)
section
variable (N M:Nat) (m p4 p5 p6 p14:Int)
def root.Fj.L0:Option DV:=Bx root.Fj.E N f265 (An f265) [1,1,0,1,0] [] M ⟨Gm 68 [(0,.int .u64 m),(4,.int .u64 p4),(5,.int .u64 p5),(6,.int .u64 p6),(14,.int .i64 p14)],[]⟩
theorem root.Fj.Ax:root.Fj.L0 N (M+1) m p4 p5 p6 p14=bif (A6 p14 64) then bif (A6 p14 32) then bif (decide (0≤(Ab ((62:Int)-(Ab ((2:Int)*p14)))))) then bif (decide ((Fy (Ha .u64 (Br .u64 p6 2) (Fe .u64 (C9 .u64 m (Ab ((62:Int)-(Ab ((2:Int)*p14))))) 3)) (Ha .u64 (Br .u64 p4 2) 1) 0)≤1)) then bif ((Fy (Ha .u64 (Br .u64 p5 2) (C9 .u64 p6 62)) (C9 .u64 p4 62) (Fy (Ha .u64 (Br .u64 p6 2) (Fe .u64 (C9 .u64 m (Ab ((62:Int)-(Ab ((2:Int)*p14))))) 3)) (Ha .u64 (Br .u64 p4 2) 1) 0))==(0:Int)) then root.Fj.L0 N M m (Ha .u64 (Br .u64 p4 1) 1) (K8 (Ha .u64 (Br .u64 p5 2) (C9 .u64 p6 62)) (C9 .u64 p4 62) (Fy (Ha .u64 (Br .u64 p6 2) (Fe .u64 (C9 .u64 m (Ab ((62:Int)-(Ab ((2:Int)*p14))))) 3)) (Ha .u64 (Br .u64 p4 2) 1) 0)) (K8 (Ha .u64 (Br .u64 p6 2) (Fe .u64 (C9 .u64 m (Ab ((62:Int)-(Ab ((2:Int)*p14))))) 3)) (Ha .u64 (Br .u64 p4 2) 1) 0) (Ab (p14+1)) else root.Fj.L0 N M m (Br .u64 p4 1) (Ha .u64 (Br .u64 p5 2) (C9 .u64 p6 62)) (Ha .u64 (Br .u64 p6 2) (Fe .u64 (C9 .u64 m (Ab ((62:Int)-(Ab ((2:Int)*p14))))) 3)) (Ab (p14+1)) else none else none else bif (decide ((Fy (Ha .u64 (Br .u64 p6 2) 0) (Ha .u64 (Br .u64 p4 2) 1) 0)≤1)) then bif ((Fy (Ha .u64 (Br .u64 p5 2) (C9 .u64 p6 62)) (C9 .u64 p4 62) (Fy (Ha .u64 (Br .u64 p6 2) 0) (Ha .u64 (Br .u64 p4 2) 1) 0))==(0:Int)) then root.Fj.L0 N M m (Ha .u64 (Br .u64 p4 1) 1) (K8 (Ha .u64 (Br .u64 p5 2) (C9 .u64 p6 62)) (C9 .u64 p4 62) (Fy (Ha .u64 (Br .u64 p6 2) 0) (Ha .u64 (Br .u64 p4 2) 1) 0)) (K8 (Ha .u64 (Br .u64 p6 2) 0) (Ha .u64 (Br .u64 p4 2) 1) 0) (Ab (p14+1)) else root.Fj.L0 N M m (Br .u64 p4 1) (Ha .u64 (Br .u64 p5 2) (C9 .u64 p6 62)) (Ha .u64 (Br .u64 p6 2) 0) (Ab (p14+1)) else none else some (.tup [.int .u64 p4,.bool (bif (p5==(0:Int)) then (p6==(0:Int)) else false)]) :=
 Eq.trans (by kernel_rfl)
 (Fq rfl (Ay (Nv (p5==(0:Int))) (Ay (Kf (p5==(0:Int))) (Ay (S9 (p5==(0:Int))) rfl))))
theorem root.Fj.ev:By root.Fj.E N f265 (An f265) [.int .u64 m] =
 root.Fj.L0 N N m 0 0 0 0:=by kernel_rfl
end
abbrev _root_.Go.Proofs.S1.root.Fj.Kn:=A7 prog 265 root.Fj.spec
theorem root.Fj.Ae (hk:A1 prog root.Fj.Bf) (h:Hyp root.Fj.E f265 root.Fj.ts root.Fj.pre root.Fj.out):root.Fj.Kn :=
 Am (A3 hk _ _ _) func265 (by kernel_rfl) (by kernel_rfl) h
def root.Sqrt.hint:Nat→Option A9
 | 5=>some { keep:=[5,7,9],objs:=[],boxes:=[] }
 | _=>none
def root.Sqrt.Bf:List (Nat × Entry):=[(250,Cd.Bm.spec),(265,root.Fj.spec),(155,soft.Kind.spec),(212,soft.Cx.spec),(211,soft.Ep.spec),(213,soft.Sign.spec)]
def root.Sqrt.E:Env:=Bg (Be root.Sqrt.Bf) (fun _=>false) root.Sqrt.hint (fun _=>none)
section
variable (N:Nat) (a:Int) (M:Nat) (p5 p7:Int) (p9:Bool)
def root.Sqrt.L0:Option DV:=Bx root.Sqrt.E N f264 (An f264) [1,1,1,1,1,1,1,1,1,0,0] [] M ⟨Gm 73 [(5,.int .i64 p5),(7,.int .u64 p7),(9,.bool p9)],[]⟩
theorem root.Sqrt.Ax:root.Sqrt.L0 N (M+1) p5 p7 p9=bif (Dy 4611686018427387904 p7) then root.Sqrt.L0 N M (Ab (p5+2)) (C9 .u64 p7 1) (bif p9 then true else ((Fe .u64 p7 1)==(1:Int))) else bif (Du p7 (Ab ((Ab (Int.tdiv p5 2))-32)) p9) then some (.tup [.int .u64 (D5 false p7 (Ab ((Ab (Int.tdiv p5 2))-32)) p9),.int .u8 (D4 false p7 (Ab ((Ab (Int.tdiv p5 2))-32)) p9)]) else none :=
 Eq.trans (by kernel_rfl)
 (Fq (Ay (Wl p9) (Ay (Un p9) (Ay (Un p9) (Ay (tt6 p9) rfl)))) rfl)
theorem root.Sqrt.ev:By root.Sqrt.E N f264 (An f264) [.int .u64 a]=bif (Ah a) then bif ((Bd a)==(4:Int)) then some (.tup [.int .u64 9221120237041090560,.int .u8 0]) else bif (Ah a) then bif ((Bd a)==(0:Int)) then some (.tup [.int .u64 a,.int .u8 0]) else bif (a==(9218868437227405312:Int)) then some (.tup [.int .u64 a,.int .u8 0]) else bif (Ah a) then bif (Dk a) then some (.tup [.int .u64 9221120237041090560,.int .u8 16]) else bif (Ah a) then bif (Ah (Bk a)) then bif ((Int.tmod (Ab ((Az a)-(Ab ((64-D6 (Bk a))-2)))) 2) !=(0:Int)) then bif (decide (0≤(Ab ((Ab ((64-D6 (Bk a))-2))-1)))) then bif (Cf (0≤(Br .u64 (Bk a) (Ab ((Ab ((64-D6 (Bk a))-2))-1)))∧(Br .u64 (Bk a) (Ab ((Ab ((64-D6 (Bk a))-2))-1)))<9223372036854775808)) then root.Sqrt.L0 N N (Ab ((Az a)-(Ab ((Ab ((64-D6 (Bk a))-2))-1)))) (Rh (Br .u64 (Bk a) (Ab ((Ab ((64-D6 (Bk a))-2))-1)))) (!(Ri (Br .u64 (Bk a) (Ab ((Ab ((64-D6 (Bk a))-2))-1))))) else none else none else bif (decide (0≤(Ab ((64-D6 (Bk a))-2)))) then bif (Cf (0≤(Br .u64 (Bk a) (Ab ((64-D6 (Bk a))-2)))∧(Br .u64 (Bk a) (Ab ((64-D6 (Bk a))-2)))<9223372036854775808)) then root.Sqrt.L0 N N (Ab ((Az a)-(Ab ((64-D6 (Bk a))-2)))) (Rh (Br .u64 (Bk a) (Ab ((64-D6 (Bk a))-2)))) (!(Ri (Br .u64 (Bk a) (Ab ((64-D6 (Bk a))-2))))) else none else none else none else none else none else none else none:=by kernel_rfl
end
abbrev _root_.Go.Proofs.S1.root.Sqrt.Kn:=A7 prog 264 root.Sqrt.spec
theorem root.Sqrt.Ae (hk:A1 prog root.Sqrt.Bf) (h:Hyp root.Sqrt.E f264 root.Sqrt.ts root.Sqrt.pre root.Sqrt.out):root.Sqrt.Kn :=
 Am (A3 hk _ _ _) func264 (by kernel_rfl) (by kernel_rfl) h
def Af.Sqrt.Bf:List (Nat × Entry):=[(264,root.Sqrt.spec)]
def Af.Sqrt.E:Env:=Bg (Be Af.Sqrt.Bf) (fun _=>false) (fun _=>none) (fun _=>none)
theorem Af.Sqrt.ev (N:Nat) (a:Int):By Af.Sqrt.E N f262 (An f262) [.int .u64 a]=bif (Ah a) then some (.int .u64 (G9 a)) else none:=by kernel_rfl
abbrev _root_.Go.Proofs.S1.Af.Sqrt.Kn:=A7 prog 262 Af.Sqrt.spec
theorem Af.Sqrt.Ae (hk:A1 prog Af.Sqrt.Bf) (h:Hyp Af.Sqrt.E f262 Af.Sqrt.ts Af.Sqrt.pre Af.Sqrt.out):Af.Sqrt.Kn :=
 Am (A3 hk _ _ _) func262 (by kernel_rfl) (by kernel_rfl) h
def compare.Rx.Bf:List (Nat × Entry):=[(261,Cd.Io.spec),(148,soft.Finite.spec),(155,soft.Kind.spec),(211,soft.Ep.spec)]
def compare.Rx.E:Env:=Bg (Be compare.Rx.Bf) (fun _=>false) (fun _=>none) (fun _=>none)
theorem compare.Rx.ev (N:Nat) (a:Int):By compare.Rx.E N f255 (An f255) [.int .u64 a]=bif (Ah a) then bif ((!(Dd a))||(Ah a)) then bif ((!(Dd a))||((Bd a)==(0:Int))) then some (.int .i64 0) else bif (Ah a) then bif (Ah (Bk a)) then some (.int .i64 (Ab ((Ab ((D6 (Bk a))-1))+(Az a)))) else none else none else none else none :=
 Eq.trans (by kernel_rfl)
 (Fq (Ay (Afy (Dd a)) (Cy (Apx (Dd a) (Ah a)) (Ay (Uo (Dd a)) (Ay (Afz (Dd a)) (Cy (Asi (Dd a) ((Bd a)==(0:Int))) rfl rfl))) rfl)) rfl)
abbrev _root_.Go.Proofs.S1.compare.Rx.Kn:=A7 prog 255 compare.Rx.spec
theorem compare.Rx.Ae (hk:A1 prog compare.Rx.Bf) (h:Hyp compare.Rx.E f255 compare.Rx.ts compare.Rx.pre compare.Rx.out):compare.Rx.Kn :=
 Am (A3 hk _ _ _) func255 (by kernel_rfl) (by kernel_rfl) h
def Af.Norm.hint:Nat→Option A9
 | 0=>some { keep:=[5,6,25,26,27],objs:=[],boxes:=[] }
 | _=>none
def Af.Norm.Bf:List (Nat × Entry):=[(255,compare.Rx.spec),(148,soft.Finite.spec),(226,Af.Add.spec),(89,Af.Ci.spec),(157,Af.Mul.spec),(88,Af.Bs.spec),(262,Af.Sqrt.spec)]
def Af.Norm.E:Env:=Bg (Be Af.Norm.Bf) (fun _=>false) Af.Norm.hint (fun _=>none)
section
variable (N M:Nat) (x:List Int) (p6 p27:Int)
def Af.Norm.L0:Option DV:=Bx Af.Norm.E N f257 (An f257) [1,1,1,1,1,1,0,1,0] [] M ⟨Gm 45 [(5,.int .i64 (B8 (Bq x))),(6,.int .u64 p6),(25,.ints .arg .u64 x),(26,.int .i64 (length x:Int)),(27,.int .i64 p27)],[]⟩
theorem Af.Norm.Ax:Af.Norm.L0 N (M+1) x p6 p27=bif (A6 p27 (length x:Int)) then bif ((decide (0≤p27))&&(decide (p27<(length x:Int)))) then bif (Eu (getD x (toNat p27) 0) (Ab (0-(B8 (Bq x))))) then bif (Ah (Ck (getD x (toNat p27) 0) (Ab (0-(B8 (Bq x)))))&&Ah (Ck (getD x (toNat p27) 0) (Ab (0-(B8 (Bq x)))))) then bif (Ah p6&&Ah (Ej (Ck (getD x (toNat p27) 0) (Ab (0-(B8 (Bq x))))) (Ck (getD x (toNat p27) 0) (Ab (0-(B8 (Bq x))))))) then Af.Norm.L0 N M x (Hx p6 (Ej (Ck (getD x (toNat p27) 0) (Ab (0-(B8 (Bq x))))) (Ck (getD x (toNat p27) 0) (Ab (0-(B8 (Bq x))))))) (Ab (p27+1)) else none else none else none else none else bif (Ah p6) then bif (Eu (G9 p6) (B8 (Bq x))) then some (.tup [.int .u64 (Ck (G9 p6) (B8 (Bq x))),.int .i64 0]) else none else none:=by kernel_rfl
theorem Af.Norm.ev:By Af.Norm.E N f257 (An f257) [.ints .arg .u64 x]=bif (A6 64 (length x:Int)) then some (.tup [.int .u64 0,.int .i64 3]) else bif (Dq x) then bif (((Bq x)==(0:Int))||(Ah (Bq x))) then bif (((Bq x)==(0:Int))||(!(Dd (Bq x)))) then some (.tup [.int .u64 (Bq x),.int .i64 0]) else bif (Ah (Bq x)) then Af.Norm.L0 N N x 0 (0:Int) else none else none else none :=
 Eq.trans (by kernel_rfl)
 (Fq rfl (Fq (Ay (Wl ((Bq x)==(0:Int))) (Cy (At3 ((Bq x)==(0:Int)) (Ah (Bq x))) (Ay (Un ((Bq x)==(0:Int))) (Ay (tt6 ((Bq x)==(0:Int))) (Cy (At2 ((Bq x)==(0:Int)) (Dd (Bq x))) rfl rfl))) rfl)) rfl))
end
abbrev _root_.Go.Proofs.S1.Af.Norm.Kn:=A7 prog 257 Af.Norm.spec
theorem Af.Norm.Ae (hk:A1 prog Af.Norm.Bf) (h:Hyp Af.Norm.E f257 Af.Norm.ts Af.Norm.pre Af.Norm.out):Af.Norm.Kn :=
 Am (A3 hk _ _ _) func257 (by kernel_rfl) (by kernel_rfl) h
end EqRoot
open Go Go.Den Go.C4 Go.Proofs
open EqRoot
theorem Ru (n s:Nat) (h:s≤64):C9 .u64 (n:Int) (s:Int)=((n / 2^s:Nat):Int):=Gn .u64 n s h
theorem sh2 {n t:Nat} (ht:t<4):Ha .u64 (Br .u64 (n:Int) (2:Int)) (t:Int)=((n%2^62*4+t:Nat):Int):=by
 rw [show (2:Int)=((2:Nat):Int) from rfl,Ev n 2 (by decide),show n*2^2%2^64=(n%2^62)*2^2 by omega]
 exact K2 ht (by omega)
theorem sh1 {n:Nat} (h:n<2^63):Br .u64 (n:Int) (1:Int)=((2*n:Nat):Int):=by
 rw [show (1:Int)=((1:Nat):Int) from rfl,Ev n 1 (by decide)]
 congr 1; omega
theorem Aum {n:Nat} (h:n<2^63):Ha .u64 (Br .u64 (n:Int) (1:Int)) (1:Int)=((2*n+1:Nat):Int):=by
 rw [show (1:Int)=((1:Nat):Int) from rfl,Ev n 1 (by decide),show n*2^1%2^64=n*2^1 by omega,Avv 2 n]
 exact K2 (k:=1) (by decide) (by omega)
theorem Aim {m i:Nat} (hi:i<32):Fe .u64 (C9 .u64 (m:Int) (Ab ((62:Int)-(Ab ((2:Int)*(i:Int)))))) (3:Int)=((m / 2^(62-2*i)%2^64%4:Nat):Int)∨2^64≤m:=by
 by_cases hm:m<2^64
 ·left
  rw [Al (x:=(2:Int)*(i:Int)) (by omega) (by omega),Al (x:=(62:Int)-2*(i:Int)) (by omega) (by omega),show (62:Int)-2*(i:Int)=((62-2*i:Nat):Int) by omega,Ru _ _ (by omega)]
  have hd:m / 2^(62-2*i)<2^64:=Av9 (Nat.div_le_self _ _) hm
  rw [show (3:Int)=((2^2-1:Nat):Int) from rfl,G6 2 hd (by decide)]
  congr 1
  omega
 ·right; omega
def Ph (m i:Nat):Nat:=m*2^64 / 2^(128-2*i)
theorem Ajc {m i:Nat} (hi:i<32):Ph m (i+1)=4*Ph m i+m / 2^(62-2*i)%4:=by
 unfold Ph
 have e1:128-2*i=64+(64-2*i):=by omega
 have e2:128-2*(i+1)=64+(62-2*i):=by omega
 rw [e1,e2,Avw,Avw,Avv (2^64),Avv (2^64),Nat.mul_div_mul_right _ _ (by decide),Nat.mul_div_mul_right _ _ (by decide),show 64-2*i=(62-2*i)+2 by omega,Avw,← Av0]
 omega
theorem Agl {m i:Nat} (hi:32≤i) (h:i<64):Ph m (i+1)=4*Ph m i:=by
 unfold Ph
 have e1:(2:Nat)^64=2^(2*i-64)*2^(128-2*i):=by rw [← Avw]; congr 1; omega
 have e2:(2:Nat)^64=2^(2*i-64)*4*2^(128-2*(i+1)):=by
  rw [show (4:Nat)=2^2 from rfl,← Avw,← Avw]; congr 1; omega
 have a1:m*2^64 / 2^(128-2*i)=m*2^(2*i-64):=by rw [e1,← Avy,Nat.mul_div_cancel _ (B4 _)]
 have a2:m*2^64 / 2^(128-2*(i+1))=m*(2^(2*i-64)*4):=by rw [e2,← Avy,Nat.mul_div_cancel _ (B4 _)]
 rw [a1,a2,← Avy,Avv 4]
theorem Ams {A B tl th:Nat} (hA:A<2^64) (htl:tl<2^64) (hB:B<2^64) (hth:th<4) :
 (Fy (A:Int) (tl:Int) (0:Int)=0∨Fy (A:Int) (tl:Int) (0:Int)=1) ∧
 (th*2^64+tl≤B*2^64+A→(Fy (B:Int) (th:Int) (Fy (A:Int) (tl:Int) (0:Int))==(0:Int))=true ∧
  ∃ h l:Nat,K8 (B:Int) (th:Int) (Fy (A:Int) (tl:Int) (0:Int))=(h:Int)∧K8 (A:Int) (tl:Int) (0:Int)=(l:Int)∧l<2^64∧h*2^64+l=B*2^64+A-(th*2^64+tl)) ∧
 (B*2^64+A<th*2^64+tl→(Fy (B:Int) (th:Int) (Fy (A:Int) (tl:Int) (0:Int))==(0:Int))=false):=by
 have e1:Fy (A:Int) (tl:Int) (0:Int)=((if A<tl then 1 else 0:Nat):Int):=by
  unfold Fy
  rw [Au9,Au9]
  rfl
 by_cases h:A<tl
 ·rw [Avu h] at e1
  rw [e1]
  have e2:Fy (B:Int) (th:Int) ((1:Nat):Int)=((if B<th+1 then 1 else 0:Nat):Int):=by
   unfold Fy
   rw [Au9,Au9]
   rfl
  refine ⟨.inr rfl,fun hle=>?_,fun hlt=>?_⟩
  ·rw [Avt (by omega)] at e2
   rw [e2]
   refine ⟨rfl,B-th-1,A+2^64-tl,?_,?_,by omega,by omega⟩
   ·unfold K8
    rw [Au9,Au9,Au9]
    congr 1; omega
   ·unfold K8
    rw [Au9,Au9]
    show ((_:Nat):Int)=_
    congr 1
    show (A+18446744073709551616-tl-0)%18446744073709551616=_
    omega
  ·rw [Avu (by omega)] at e2
   rw [e2]; rfl
 ·rw [Avt h] at e1
  rw [e1]
  have e2:Fy (B:Int) (th:Int) ((0:Nat):Int)=((if B<th then 1 else 0:Nat):Int):=by
   unfold Fy
   rw [Au9,Au9]
   rfl
  refine ⟨.inl rfl,fun hle=>?_,fun hlt=>?_⟩
  ·rw [Avt (by omega)] at e2
   rw [e2]
   refine ⟨rfl,B-th,A-tl,?_,?_,by omega,by omega⟩
   ·unfold K8
    rw [Au9,Au9,Au9]
    congr 1; omega
   ·unfold K8
    rw [Au9,Au9]
    show ((_:Nat):Int)=_
    congr 1
    show (A+18446744073709551616-tl-0)%18446744073709551616=_
    omega
  ·rw [Avu (by omega)] at e2
   rw [e2]; rfl
theorem glue (n t:Nat):n / 2^62*2^64+(n%2^62*4+t)=4*n+t:=by omega
theorem Ag2 (N:Nat) {m:Nat} (hm:m<2^63):∀ (k i F rt rest:Nat),i+k=64→k<F→Ph m i=rt*rt+rest→rest≤2*rt→rt<2^i→∀ hi lo:Nat,hi*2^64+lo=rest→lo<2^64 →
 root.Fj.L0 N F (m:Int) (rt:Int) (hi:Int) (lo:Int) (i:Int)=some (.tup [.int .u64 (Rh m),.bool (Ri m)]):=by
 intro k
 induction k with
 | zero =>
   intro i F rt rest hi hF hP hr hb h l e hl
   obtain ⟨F,rfl⟩:∃ G,F=G+1:=⟨F-1,by omega⟩
   obtain rfl:i=64:=by omega
   have hP':m*2^64=rt*rt+rest:=by
    rw [← hP]; unfold Ph
    rw [show 128-2*64=0 from rfl,Av5,Nat.div_one]
   have hroot:=Am1 hP' hr
   rw [root.Fj.Ax,Av,Avc (by omega),Avb]
   have e1:Rh (m:Int)=(rt:Int):=by unfold Rh; rw [Au9,← hroot]
   have e2:Ri (m:Int)=(bif ((h:Int)==(0:Int)) then ((l:Int)==(0:Int)) else false):=by
    unfold Ri
    rw [Au9,← hroot,hP']
    by_cases h0:h=0
    ·subst h0
     rw [show (((0:Nat):Int)==(0:Int))=true from rfl,Au7,Avn,Ave,beq_iff_eq]
     omega
    ·rw [show ((h:Int)==(0:Int))=false by rw [Av2]; omega,Avb,Avc]
     omega
   rw [e1,e2]
 | succ k ih =>
   intro i F rt rest hi hF hP hr hb h l e hl
   obtain ⟨F,rfl⟩:∃ G,F=G+1:=⟨F-1,by omega⟩
   have hp:2^i≤2^63:=Avm (by decide) (by omega)
   have hi63:2^(i+1)=2*2^i:=by rw [Nat.pow_succ,Avv]
   have f1:2*rt+1<2^(i+1):=by rw [hi63]; omega
   have f2:2*rt<2^(i+1):=by omega
   have hh:h=0:=by omega
   subst hh
   have hrest:rest=l:=by omega
   subst hrest
   obtain ⟨two,t4,hP',hcode⟩:∃ two:Nat,two<4∧Ph m (i+1)=4*Ph m i+two ∧
    root.Fj.L0 N (F+1) (m:Int) (rt:Int) ((0:Nat):Int) (rest:Int) (i:Int) =
    (bif (decide ((Fy (Ha .u64 (Br .u64 (rest:Int) (2:Int)) (two:Int)) (Ha .u64 (Br .u64 (rt:Int) (2:Int)) (1:Int)) (0:Int))≤1)) then
     bif ((Fy (Ha .u64 (Br .u64 ((0:Nat):Int) (2:Int)) (C9 .u64 (rest:Int) (62:Int))) (C9 .u64 (rt:Int) (62:Int)) (Fy (Ha .u64 (Br .u64 (rest:Int) (2:Int)) (two:Int)) (Ha .u64 (Br .u64 (rt:Int) (2:Int)) (1:Int)) (0:Int)))==(0:Int)) then
      root.Fj.L0 N F (m:Int) (Ha .u64 (Br .u64 (rt:Int) (1:Int)) (1:Int)) (K8 (Ha .u64 (Br .u64 ((0:Nat):Int) (2:Int)) (C9 .u64 (rest:Int) (62:Int))) (C9 .u64 (rt:Int) (62:Int)) (Fy (Ha .u64 (Br .u64 (rest:Int) (2:Int)) (two:Int)) (Ha .u64 (Br .u64 (rt:Int) (2:Int)) (1:Int)) (0:Int))) (K8 (Ha .u64 (Br .u64 (rest:Int) (2:Int)) (two:Int)) (Ha .u64 (Br .u64 (rt:Int) (2:Int)) (1:Int)) (0:Int)) (Ab ((i:Int)+(1:Int)))
     else root.Fj.L0 N F (m:Int) (Br .u64 (rt:Int) (1:Int)) (Ha .u64 (Br .u64 ((0:Nat):Int) (2:Int)) (C9 .u64 (rest:Int) (62:Int))) (Ha .u64 (Br .u64 (rest:Int) (2:Int)) (two:Int)) (Ab ((i:Int)+(1:Int)))
    else none):=by
    by_cases h32:i<32
    ·refine ⟨m / 2^(62-2*i)%4,Nat.mod_lt _ (by decide),Ajc h32,?_⟩
     have ht:=(Aim (m:=m) h32).resolve_right (by omega)
     have hq:m / 2^(62-2*i)%2^64%4=m / 2^(62-2*i)%4:=by omega
     rw [hq] at ht
     rw [root.Fj.Ax,Av,Au8 (show (i:Int)<64 by omega),Au7,Av,Au8 (show (i:Int)<32 by omega),Au7,ht,Al (x:=(2:Int)*(i:Int)) (by omega) (by omega),Al (x:=(62:Int)-2*(i:Int)) (by omega) (by omega),Au8 (show (0:Int)≤62-2*(i:Int) by omega),Au7]
    ·refine ⟨0,by decide,by rw [Agl (by omega) (by omega),Awf],?_⟩
     rw [root.Fj.Ax,Av,Au8 (show (i:Int)<64 by omega),Au7,Av,Avc (show ¬ (i:Int)<32 by omega),Avb]
     rfl
   obtain ⟨s1,s2⟩:=Adw hP hr t4
   have eA:=sh2 (n:=rest) t4
   have eT:=sh2 (n:=rt) (t:=1) (by decide)
   have eB:Ha .u64 (Br .u64 ((0:Nat):Int) (2:Int)) (C9 .u64 (rest:Int) (62:Int))=((rest / 2^62:Nat):Int):=by
    rw [show (62:Int)=((62:Nat):Int) from rfl,Ru _ _ (by decide),sh2 (n:=0) (t:=rest / 2^62) (by omega)]
    congr 1; omega
   have eH:C9 .u64 (rt:Int) (62:Int)=((rt / 2^62:Nat):Int):=by rw [show (62:Int)=((62:Nat):Int) from rfl,Ru _ _ (by decide)]
   have eT':Ha .u64 (Br .u64 (rt:Int) (2:Int)) (1:Int)=((rt%2^62*4+1:Nat):Int):=eT
   obtain ⟨b1,b2,b3⟩:=Ams (A:=rest%2^62*4+two) (B:=rest / 2^62) (tl:=rt%2^62*4+1) (th:=rt / 2^62) (by omega) (by omega) (by omega) (by omega)
   rw [hcode,eA,eT',eB,eH,Au8 (by rcases b1 with b | b<;>rw [b]<;>decide),Au7,Al (by omega) (by omega)]
   by_cases hc:4*rt+1≤4*rest+two
   ·obtain ⟨c1,hh,ll,c2,c3,c4,c5⟩:=b2 (by rw [glue,glue]; exact hc)
    obtain ⟨d1,d2⟩:=s1 hc
    rw [c1,Au7,c2,c3,Aum (by omega)]
    refine ih (i+1) F (2*rt+1) (4*rest+two-(4*rt+1)) (by omega) (by omega) (hP'.trans d1) d2 f1 hh ll ?_ c4
    rw [c5,glue,glue]
   ·rw [b3 (by rw [glue,glue]; omega),Avb,sh1 (by omega)]
    obtain ⟨d1,d2⟩:=s2 (by omega)
    refine ih (i+1) F (2*rt) (4*rest+two) (by omega) (by omega) (hP'.trans d1) d2 f2 _ _ (glue _ _) ?_
    clear hcode
    omega
theorem root.Fj.known:root.Fj.Kn:=root.Fj.Ae .nil fun m hp=>by
 have hp:=Ao.1 hp
 obtain ⟨n,rfl⟩:∃ n:Nat,m=n:=⟨m.toNat,by omega⟩
 refine ⟨65,root.Fj.out [.i n],[],?_,Wk.G1 (.cons .int (.cons .bool .nil))⟩
 rw [root.Fj.ev]
 have h0:Ph n 0=0*0+0:=by
  unfold Ph
  rw [Nat.div_eq_of_lt]
  show n*18446744073709551616<340282366920938463463374607431768211456
  omega
 exact Ag2 65 (by omega) 64 0 65 0 0 rfl (by omega) h0 (Av1 0) Nat.one_pos 0 0 rfl (Nat.pow_pos (by decide))
open Go Go.Den Go.C4 Go.Proofs
open EqRoot
theorem Vp {b:Nat} (h:Aw b≠0):D6 (Aw b:Int)=((Aw b).log2:Int)+1:=by
 unfold D6
 rw [Avt (by omega),Au9]
theorem Af4 {w:Nat} {E:Int} {s:Bool} (hw:2^62≤w) (n:Nat) (h:Qq n=w) (hs:s=decide (w*w≠n)) :
 Fi false (w / 2) (E+2) (bif s then true else decide (w%2=1))=(B3 (F0 n) E,flagsOf (F0 n) E):=by
 have e1:F0 n / 2^2=w / 2:=by unfold F0; rw [h]; split<;>omega
 have e2:(bif s then true else decide (w%2=1))=decide (F0 n%2^2≠0):=by
  rw [hs]
  unfold F0
  rw [h]
  by_cases h0:w*w=n
  ·rw [Avc (by omega),Avb,Avu h0,decide_eq_decide]; omega
  ·rw [Au8 h0,Au7,Avt h0]; symm; exact Au8 (by omega)
 rw [← e1]
 have:=Re false (V:=F0 n) (k:=2) (E:=E) (e:=E+2) rfl e2 (by rw [e1]; omega) (by left; rw [e1]; omega)
 rw [Aiw] at this
 exact this
theorem root.Sqrt.num {b:Nat} (hb:b<2^64) (h4:As b≠4) (h:¬ (As b=0∨b=F2)) (hn:Db b=false) {z:Nat} (hz:2^60≤Aw b*2^z) (hz2:Aw b*2^z<2^62) (he:(A2 b-(z:Int))%2=0) (z60:z≤62) :
 root.Sqrt.L0 2 2 (A2 b-(z:Int)) (Rh ((Aw b*2^z:Nat):Int)) (!(Ri ((Aw b*2^z:Nat):Int)))=some (.tup [.int .u64 (G9 (b:Int)),.int .u8 (Nx (b:Int))]):=by
 have hE:=Em b
 have hM:=Fm b
 have h3:As b≠3:=fun h3=>by
  refine h (.inr ?_)
  have hpn:Db b=false:=hn
  unfold Db at hpn
  have hlt:b<2^63:=by simpa using hpn
  unfold As at h3
  have hp:=Ia b
  unfold Eb at h3
  unfold Dr at h3
  unfold F2
  split at h3
  ·split at h3
   ·omega
   ·omega
  ·split at h3
   ·omega
   ·split at h3<;>omega
 have hm:Aw b≠0:=fun h0=>h (.inl ((Ks h3 h4).1 h0))
 have eN:Aw b*2^z*2^64=Aw b*2^(z+64):=by rw [Avy,← Avw]
 have i1:2^62≤Qq (Aw b*2^z*2^64):=Zb (t:=62) (by omega)
 have i2:=(Oe (Aw b*2^z*2^64)).1
 have i3:Qq (Aw b*2^z*2^64)<2^63:=by
  refine Aaj (Av9 i2 ?_)
  show _<9223372036854775808*9223372036854775808
  omega
 have r1:Rh ((Aw b*2^z:Nat):Int)=(Qq (Aw b*2^z*2^64):Int):=by unfold Rh; rw [Au9]
 have r2:(!(Ri ((Aw b*2^z:Nat):Int)))=decide (Qq (Aw b*2^z*2^64)*Qq (Aw b*2^z*2^64)≠Aw b*2^z*2^64):=by
  unfold Ri; rw [Au9,← decide_not]
 obtain ⟨k1,k2⟩:=Ai4 hm
 have same:=Agf (m:=Aw b) (k:=z+64) (l:=Jx b) (E:=(A2 b-(z:Int)) / 2-33) (F:=(A2 b-(Jx b:Int)) / 2-1) (by rw [← eN]; omega) k1 (by omega)
 rw [← eN] at same
 have near:=Af4 (E:=(A2 b-(z:Int)) / 2-33) i1 _ rfl r2
 rw [same.1,same.2] at near
 have sq:Nj b=_:=Aiu h4 h hn
 rw [r1,r2]
 rw [r2] at near
 generalize Qq (Aw b*2^z*2^64)=w at *
 have w1:Dy (4611686018427387904:Int) (w:Int)=true:=by rw [D9]; exact Au8 (by omega)
 have w2:C9 .u64 (w:Int) (1:Int)=((w / 2:Nat):Int):=by rw [show (1:Int)=((1:Nat):Int) from rfl,Ru _ _ (by decide)]
 have w3:((Fe .u64 (w:Int) (1:Int))==(1:Int))=decide (w%2=1):=by
  rw [show Fe .u64 (w:Int) (1:Int)=((w%2^1:Nat):Int) from G6 1 (by omega) (by decide),Avn,beq_iff_eq,Ave]
  omega
 have w4:Dy (4611686018427387904:Int) ((w / 2:Nat):Int)=false:=by rw [D9]; exact Avc (by omega)
 have w5:Ab (Ab (Int.tdiv (A2 b-(z:Int)+2) 2)-32)=(A2 b-(z:Int)) / 2-33+2:=by
  have:Int.tdiv (A2 b-(z:Int)+2) 2=(A2 b-(z:Int)) / 2+1:=by
   rw [Int.tdiv_eq_ediv]
   split<;>omega
  rw [this,Al (x:=(A2 b-(z:Int)) / 2+1) (by omega) (by omega),Al (by omega) (by omega)]
  omega
 have w6:Ab (A2 b-(z:Int)+2)=A2 b-(z:Int)+2:=Al (by omega) (by omega)
 generalize hs:decide (w*w≠Aw b*2^z*2^64)=s at *
 have pre:Du ((w / 2:Nat):Int) ((A2 b-(z:Int)) / 2-33+2) (bif s then true else decide (w%2=1))=true:=Ao.2 ⟨by omega,by omega,by omega,by omega,fun _=>.inl (by omega)⟩
 rw [show (2:Nat)=1+1 from rfl,root.Sqrt.Ax,w1,Au7,w2,w3,w6,show (1:Nat)=0+1 from rfl,root.Sqrt.Ax,w4,Avb,w5,pre,Au7]
 unfold D5 D4 G9 Nx
 rw [Au9,Au9,near,sq]
theorem root.Sqrt.known:root.Sqrt.Kn:=root.Sqrt.Ae (.cons Cd.Bm.known (.cons root.Fj.known (.cons soft.Kind.known (.cons soft.Cx.known (.cons soft.Ep.known (.cons soft.Sign.known .nil)))))) fun a hp=>by
 obtain ⟨b,rfl,hb⟩:=B0 (x:=a) hp
 refine ⟨2,root.Sqrt.out [.i b],[],?_,Wk.G1 (.cons .int (.cons .int .nil))⟩
 show _=some (DV.tup [.int .u64 (G9 (b:Int)),.int .u8 (Nx (b:Int))])
 have hk:Bd (b:Int)=(As b:Int):=rfl
 rw [root.Sqrt.ev,B2 hb,Au7,Au7,Au7,Au7,hk]
 by_cases h4:As b=4
 ·rw [h4,show (((4:Nat):Int)==(4:Int))=true from rfl,Au7]
  unfold G9 Nx
  rw [Au9,Aai h4]; rfl
 have k4:(((As b:Nat):Int)==(4:Int))=false:=by rw [Av2]; omega
 rw [k4,Avb]
 by_cases h0:As b=0
 ·rw [h0,show (((0:Nat):Int)==(0:Int))=true from rfl,Au7]
  unfold G9 Nx
  rw [Au9,R5 h4 (.inl h0)]; rfl
 have k0:(((As b:Nat):Int)==(0:Int))=false:=by rw [Av2]; omega
 rw [k0,Avb]
 by_cases hi:b=F2
 ·rw [show (((b:Nat):Int)==(9218868437227405312:Int))=true by rw [hi]; rfl,Au7]
  unfold G9 Nx
  rw [Au9,R5 h4 (.inr hi)]; rfl
 have ki:(((b:Nat):Int)==(9218868437227405312:Int))=false:=by
  rw [Av2]; intro hh; refine hi (show b=9218868437227405312 from ?_); omega
 rw [ki,Avb]
 have hh:¬ (As b=0∨b=F2):=by rintro (h | h); exact h0 h; exact hi h
 have hneg:Dk (b:Int)=Db b:=rfl
 rw [hneg]
 cases hn:Db b with
 | true =>
   rw [Au7]
   unfold G9 Nx
   rw [Au9,Aah h4 hh hn]; rfl
 | false =>
   rw [Avb]
   have hm:Aw b≠0:=fun hz=>by
    have h3:As b≠3:=fun h3=>by
     rcases Ky b with ⟨p,_,_⟩ | ⟨_,_,q⟩ | ⟨_,q,_⟩
     ·unfold Aw at hz
      rw [Avt (by omega)] at hz
      omega
     ·omega
     ·exact q h3
    exact hh (.inl ((Ks h3 h4).1 hz))
   have hM:=Fm b
   have hE:=Em b
   have hl:(Aw b).log2≤52:=by have:=(Awn hm).2 (show Aw b<2^53 by omega); omega
   have e1:Bk (b:Int)=(Aw b:Int):=rfl
   have e2:Az (b:Int)=A2 b:=rfl
   have l1:∀ z:Nat,(Aw b).log2+z=60∨(Aw b).log2+z=61→2^60≤Aw b*2^z∧Aw b*2^z<2^62:=by
    intro z hz
    have hlz:=Rj (Aw b) z hm
    have hne:Aw b*2^z≠0:=Ku hm
    constructor
    ·rw [← Nat.le_log2 hne]; omega
    ·rw [← Awn hne]; omega
   have ez:Ab ((64-(((Aw b).log2:Int)+1))-(2:Int))=((61-(Aw b).log2:Nat):Int):=by rw [Al (by omega) (by omega)]; omega
   have ez':Ab (((61-(Aw b).log2:Nat):Int)-(1:Int))=((60-(Aw b).log2:Nat):Int):=by rw [Al (by omega) (by omega)]; omega
   rw [e1,e2,B2 (n:=Aw b) (by omega),Au7,Vp hm,ez,ez',Al (x:=A2 b-((61-(Aw b).log2:Nat):Int)) (by omega) (by omega),Al (x:=A2 b-((60-(Aw b).log2:Nat):Int)) (by omega) (by omega)]
   by_cases hp2:(A2 b-((61-(Aw b).log2:Nat):Int))%2=0
   ·have t0:(Int.tmod (A2 b-((61-(Aw b).log2:Nat):Int)) (2:Int) !=(0:Int))=false:=by
     rw [bne_eq_false_iff_eq]; exact Int.tmod_eq_zero_of_dvd (Int.dvd_of_emod_eq_zero hp2)
    obtain ⟨m1,m2⟩:=l1 (61-(Aw b).log2) (by omega)
    rw [t0,Avb,Au8 (by omega),Au7,Ev _ _ (by omega),Avk (by omega),Ao.2 (by omega),Au7]
    exact root.Sqrt.num hb h4 hh hn m1 m2 hp2 (by omega)
   ·have t0:(Int.tmod (A2 b-((61-(Aw b).log2:Nat):Int)) (2:Int) !=(0:Int))=true:=by
     rw [bne_iff_ne]; intro hz; exact hp2 (Int.emod_eq_zero_of_dvd (Int.dvd_of_tmod_eq_zero hz))
    obtain ⟨m1,m2⟩:=l1 (60-(Aw b).log2) (by omega)
    rw [t0,Au7,Au8 (by omega),Au7,Ev _ _ (by omega),Avk (by omega),Ao.2 (by omega),Au7]
    exact root.Sqrt.num hb h4 hh hn m1 m2 (by omega) (by omega)
theorem Af.Sqrt.known:Af.Sqrt.Kn:=Af.Sqrt.Ae (.cons root.Sqrt.known .nil) fun a hp=>by
 have hp:Ah a=true:=hp
 refine ⟨0,Af.Sqrt.out [.i a],[],?_,.int⟩
 rw [Af.Sqrt.ev,hp]; rfl
theorem compare.Rx.known:compare.Rx.Kn:=compare.Rx.Ae (.cons Cd.Io.known (.cons soft.Finite.known (.cons soft.Kind.known (.cons soft.Ep.known .nil)))) fun a hp=>by
 obtain ⟨b,rfl,hb⟩:=B0 (x:=a) hp
 refine ⟨0,compare.Rx.out [.i b],[],?_,.int⟩
 show _=some (DV.int .i64 (B8 (b:Int)))
 have hk:Bd (b:Int)=(As b:Int):=rfl
 have hf:Dd (b:Int)=I1 b:=rfl
 have hE:=Em b
 have hM:=Fm b
 rw [compare.Rx.ev,B2 hb,Au7,Awj,Au7,hk,hf]
 unfold B8
 rw [Au9]
 unfold Ak4
 cases hfin:I1 b with
 | false=>rfl
 | true =>
   by_cases h0:As b=0
   ·rw [h0]; rfl
   ·have k0:(((As b:Nat):Int)==(0:Int))=false:=by rw [Av2]; omega
    have hm:Aw b≠0:=fun hz=>by
     obtain ⟨f4,f3⟩:=Me hfin
     exact h0 ((Ks f3 f4).1 hz)
    have hl:(Aw b).log2≤52:=by have:=(Awn hm).2 (show Aw b<2^53 by omega); omega
    have e1:Bk (b:Int)=(Aw b:Int):=rfl
    have e2:Az (b:Int)=A2 b:=rfl
    rw [k0,Avu ⟨rfl,h0⟩,Av6,Bool.false_or,Avb,Au7,e1,e2,B2 (n:=Aw b) (by omega),Au7,Vp hm,Al (x:=((Aw b).log2:Int)+1-1) (by omega) (by omega),Al (by omega) (by omega)]
    congr 2; omega
theorem Ait {x:List Int} {i:Nat} (h:i<x.length) (k s:Int):Aco k s (x.drop i)=Aco k (Hx s (Ej (Ck (x.getD i 0) k) (Ck (x.getD i 0) k))) (x.drop (i+1)):=by
 rw [Hv h,Aco]
theorem Agn (N:Nat) {x:List Int} (hx:Dq x=true) (hl:x.length≤1000):∀ (k i F:Nat) (s:Int),i+k=x.length→k<F→Ah s=true →
 Af.Norm.L0 N F x s (i:Int)=some (.tup [.int .u64 (Ck (G9 (Aco (-B8 (Bq x)) s (x.drop i))) (B8 (Bq x))),.int .i64 0]):=by
 obtain ⟨_,hu⟩:=J6 hx
 have he:=Ak3 (Bq x)
 intro k
 induction k with
 | zero =>
   intro i F s hi hF hs
   obtain ⟨F,rfl⟩:∃ G,F=G+1:=⟨F-1,by omega⟩
   rw [Af.Norm.Ax,Av,Avc (by omega),Avb,hs,Au7,show Eu (G9 s) (B8 (Bq x))=true from Ag.2 ⟨Ael hs,Ao.2 (by omega)⟩,Au7,Avl (by omega)]
   rfl
 | succ k ih =>
   intro i F s hi hF hs
   obtain ⟨F,rfl⟩:∃ G,F=G+1:=⟨F-1,by omega⟩
   rw [Af.Norm.Ax,Av,Au8 (show (i:Int)<(x.length:Int) by omega),Au7,Au8 (show (0:Int)≤(i:Int) by omega),Avd,Au7,Au9,Al (x:=0-B8 (Bq x)) (by omega) (by omega),show (0:Int)-B8 (Bq x)=-B8 (Bq x) by omega,
    show Eu (getD x i 0) (-B8 (Bq x))=true from Ag.2 ⟨hu i (by omega),Ao.2 (by omega)⟩,Au7,Ja (hu i (by omega)),Avd,Au7,hs,Ll,Avd,Au7,Ait (by omega),Al (by omega) (by omega)]
   exact ih (i+1) F _ (by omega) (by omega) (Aly hs (Ll _ _))
theorem Af.Norm.known:Af.Norm.Kn:=Af.Norm.Ae (.cons compare.Rx.known (.cons soft.Finite.known (.cons Af.Add.known (.cons Af.Ci.known (.cons Af.Mul.known (.cons Af.Bs.known (.cons Af.Sqrt.known .nil))))))) fun x hp=>by
 obtain ⟨hx,hl⟩:=Ag.1 (show (Dq x&&Cf (length x≤64))=true from hp)
 have hl:=Ao.1 hl
 refine ⟨65,Af.Norm.out [.l x],[],?_,Wk.G1 (.cons .int (.cons .int .nil))⟩
 show _=some (DV.tup [.int .u64 (Ei x),.int .i64 0])
 rw [Af.Norm.ev,Av,Avc (by omega),Avb,hx,Au7,Qn,Awj,Au7]
 unfold Ei
 by_cases h:Bq x=0∨Dd (Bq x)=false
 ·have:((Bq x==(0:Int))||(!(Dd (Bq x))))=true:=by
   rcases h with h | h
   ·rw [h]; rfl
   ·rw [h,Awq,Awj]
  rw [this,Au7,Avu h]
 ·have:((Bq x==(0:Int))||(!(Dd (Bq x))))=false:=by
   rw [Bool.or_eq_false_iff,Av2,Bool.not_eq_false']
   refine ⟨fun h0=>h (.inl h0),?_⟩
   cases hf:Dd (Bq x) with
   | true=>rfl
   | false=>exact absurd (.inr hf) h
  rw [this,Avb,Au7,Avt h]
  exact Agn 65 hx (by omega) x.length 0 65 0 (by omega) (by omega) I5
end Go.Proofs.S1
namespace Go.C4
open Go.Den
end Go.C4
namespace Go.Proofs.S1
open Go Go.Den Go.C4 Go.Proofs
set_option maxRecDepth 100000
namespace EqLdx
end EqLdx
open Go Go.Den Go.C4 Go.Proofs
open EqLdx
open Go Go.Den Go.C4 Go.Proofs
open EqLdx
open Go Go.Den Go.C4 Go.Proofs
set_option maxRecDepth 100000
namespace EqRef08
end EqRef08
open Go Go.Den Go.C4 Go.Proofs
set_option maxRecDepth 100000
namespace EqRef13
end EqRef13
open Go Go.Den Go.C4 Go.Proofs
open EqRef08 EqRef13
end Go.Proofs.S1
end
