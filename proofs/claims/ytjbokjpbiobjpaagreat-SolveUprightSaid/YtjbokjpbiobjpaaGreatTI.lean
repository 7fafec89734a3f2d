/- A verified evaluator of the program's form and its use for this seat: S1EqBits6, S1EqTimes, S1PTimes, S1EqRefD, S1PRefD, S1PTimesA, S1EqVec, S1PVec, S1EqMat, S1PMat, S1EqCmp, S1PCmp, S1EqOf, S1POf, S1PMatA, S1EqRef10. -/
import Derived.Test.YtjbokjpbiobjpaaGreatTE
import Derived.Test.YtjbokjpbiobjpaaGreatTF
import Derived.Test.YtjbokjpbiobjpaaGreatTH
import Derived.Test.YtjbokjpbiobjpaaGreatTG
set_option linter.unusedVariables false
set_option linter.unusedSimpArgs false
noncomputable section
open Int (toNat)
open List (length getD)
open Go.Proofs.Tryz
namespace Go.Proofs.S1
open Go Go.Den Go.Cv Go.Proofs
set_option maxRecDepth 100000
namespace EqBits6
def Cu.Bv.Bi:List (Nat × Entry):=[(261,Cu.Lh.spec)]
def Cu.Bv.E:Env:=Bn (Bh Cu.Bv.Bi) (fun _=>false) (fun _=>none) (fun _=>none)
theorem Cu.Bv.ev (N:Nat) (x:Int):Ci Cu.Bv.E N f250 (Au f250) [.int .u64 x]=bif (Ao x) then some (.int .i64 (Ac ((64:Int)-(E7 x)))) else none:=by kernel_rfl
abbrev _root_.Go.Proofs.S1.Cu.Bv.Kn:=A8 prog 250 Cu.Bv.spec
theorem Cu.Bv.Ae (hk:A4 prog Cu.Bv.Bi) (h:Hyp Cu.Bv.E f250 Cu.Bv.ts Cu.Bv.pre Cu.Bv.out):Cu.Bv.Kn :=
 Ar (A5 hk _ _ _) func250 (by kernel_rfl) (by kernel_rfl) h
def Cu.Hm.Bi:List (Nat × Entry):=[]
def Cu.Hm.E:Env:=Bn (Bh Cu.Hm.Bi) (fun _=>false) (fun _=>none) (fun _=>none)
theorem Cu.Hm.ev (N:Nat) (x y:Int):Ci Cu.Hm.E N f237 (Au f237) [.int .u64 x,.int .u64 y]=some (.tup [.int .u64 (Bc ((Bc ((Bc ((D1 .u64 x 32)*(D1 .u64 y 32)))+(D1 .u64 (Bc ((Bc ((D1 .u64 x 32)*(Gy .u64 y 4294967295)))+(D1 .u64 (Bc ((Gy .u64 x 4294967295)*(Gy .u64 y 4294967295))) 32))) 32)))+(D1 .u64 (Bc ((Gy .u64 (Bc ((Bc ((D1 .u64 x 32)*(Gy .u64 y 4294967295)))+(D1 .u64 (Bc ((Gy .u64 x 4294967295)*(Gy .u64 y 4294967295))) 32))) 4294967295)+(Bc ((Gy .u64 x 4294967295)*(D1 .u64 y 32))))) 32))),.int .u64 (Bc (x*y))]):=by kernel_rfl
abbrev _root_.Go.Proofs.S1.Cu.Hm.Kn:=A8 prog 237 Cu.Hm.spec
theorem Cu.Hm.Ae (hk:A4 prog Cu.Hm.Bi) (h:Hyp Cu.Hm.E f237 Cu.Hm.ts Cu.Hm.pre Cu.Hm.out):Cu.Hm.Kn :=
 Ar (A5 hk _ _ _) func237 (by kernel_rfl) (by kernel_rfl) h
abbrev _root_.Go.Proofs.S1.Cu.Lh.Kn:Prop:=A8 prog 261 Cu.Lh.spec
theorem _root_.Go.Proofs.S1.Cu.Lh.call:∀ (args:Array Value) (w:World),(callFunc 261 args).run prog w=.ok (.enter 261 args) w:=Q4 func261 (by kernel_rfl) (show f261.body=some (Au f261) by kernel_rfl)
theorem _root_.Go.Proofs.S1.Cu.Lh.run (x:Int) (w:World) (h0:0≤x) (h1:x≤18446744073709551615):Calls prog 261 #[.int .u64 x] w fun e w'=>e=.returned (.int .i64 (Lib.bitLen x.toNat))∧w'=w:=Tryz.Ala x w h0 h1
end EqBits6
open Go Go.Den Go.Cv Go.Proofs
set_option maxRecDepth 100000
namespace EqTimes
def times.signed.Bi:List (Nat × Entry):=[(233,soft.Gh.spec)]
def times.signed.E:Env:=Bn (Bh times.signed.Bi) (fun _=>false) (fun _=>none) (fun _=>none)
theorem times.signed.ev (N:Nat) (b:Int) (n:Bool):Ci times.signed.E N f235 (Au f235) [.int .u64 b,.bool n]=bif n then bif (Ao b) then some (.int .u64 (D6 b)) else none else some (.int .u64 b):=by kernel_rfl
abbrev _root_.Go.Proofs.S1.times.signed.Kn:=A8 prog 235 times.signed.spec
theorem times.signed.Ae (hk:A4 prog times.signed.Bi) (h:Hyp times.signed.E f235 times.signed.ts times.signed.pre times.signed.out):times.signed.Kn :=
 Ar (A5 hk _ _ _) func235 (by kernel_rfl) (by kernel_rfl) h
def times.nan.Bi:List (Nat × Entry):=[(155,soft.Kind.spec)]
def times.nan.E:Env:=Bn (Bh times.nan.Bi) (fun _=>false) (fun _=>none) (fun _=>none)
theorem times.nan.ev (N:Nat) (a b:Int):Ci times.nan.E N f234 (Au f234) [.int .u64 a,.int .u64 b]=bif (Ao a) then bif ((A3 a)==(4:Int)) then some (.bool true) else bif (Ao b) then bif ((A3 b)==(4:Int)) then some (.bool true) else some (.bool false) else none else none:=by kernel_rfl
abbrev _root_.Go.Proofs.S1.times.nan.Kn:=A8 prog 234 times.nan.spec
theorem times.nan.Ae (hk:A4 prog times.nan.Bi) (h:Hyp times.nan.E f234 times.nan.ts times.nan.pre times.nan.out):times.nan.Kn :=
 Ar (A5 hk _ _ _) func234 (by kernel_rfl) (by kernel_rfl) h
def times.norm.Bi:List (Nat × Entry):=[(250,Cu.Bv.spec),(211,soft.F1.spec)]
def times.norm.E:Env:=Bn (Bh times.norm.Bi) (fun _=>false) (fun _=>none) (fun _=>none)
theorem times.norm.ev (N:Nat) (b:Int):Ci times.norm.E N f236 (Au f236) [.int .u64 b]=bif (Ao b) then bif (Ao (Bt b)) then bif (decide (0≤(Ac ((64-E7 (Bt b))-11)))) then some (.tup [.int .u64 (B5 .u64 (Bt b) (Ac ((64-E7 (Bt b))-11))),.int .i64 (Ac ((Bb b)-(Ac ((64-E7 (Bt b))-11))))]) else none else none else none:=by kernel_rfl
abbrev _root_.Go.Proofs.S1.times.norm.Kn:=A8 prog 236 times.norm.spec
theorem times.norm.Ae (hk:A4 prog times.norm.Bi) (h:Hyp times.norm.E f236 times.norm.ts times.norm.pre times.norm.out):times.norm.Kn :=
 Ar (A5 hk _ _ _) func236 (by kernel_rfl) (by kernel_rfl) h
def times.wide.hint:Nat→Option Bf
 | 0=>some { keep:=[0,1,2,3],objs:=[],boxes:=[] }
 | _=>none
def times.wide.Bi:List (Nat × Entry):=[(212,soft.Df.spec)]
def times.wide.E:Env:=Bn (Bh times.wide.Bi) (fun _=>false) times.wide.hint (fun _=>none)
section
variable (N M:Nat) (n:Bool) (m e:Int) (r:Bool) (p1 p2:Int) (p3:Bool)
def times.wide.L0:Option DV:=Ce times.wide.E N f238 (Au f238) [1,0,0] [] M ⟨Ik 39 [(0,.bool n),(1,.int .u64 p1),(2,.int .i64 p2),(3,.bool p3)],[]⟩
theorem times.wide.Ax:times.wide.L0 N (M+1) n p1 p2 p3=bif ((Ba p2 (-1130:Int))&&(Ba 1 p1)) then times.wide.L0 N M n (D1 .u64 p1 1) (Ac (p2+1)) (bif p3 then true else ((Gy .u64 p1 1)==(1:Int))) else bif (Ba p2 (-1130:Int)) then bif (El 0 (-1074:Int) true) then some (.tup [.int .u64 (E6 n 0 (-1074:Int) true),.int .u8 (E5 n 0 (-1074:Int) true)]) else none else bif (El p1 p2 p3) then some (.tup [.int .u64 (E6 n p1 p2 p3),.int .u8 (E5 n p1 p2 p3)]) else none :=
 Eq.trans (by kernel_rfl)
 (Ay (Rt (Ba p2 (-1130:Int))) (Ay (N6 (Ba p2 (-1130:Int))) (Ay (X5 (Ba p2 (-1130:Int))) (C4 (tt1 _ _) (Ay (Z0 p3) (Ay (Yt p3) (Ay (Yt p3) (Ay (tt6 p3) rfl)))) rfl))))
theorem times.wide.ev:Ci times.wide.E N f238 (Au f238) [.bool n,.int .u64 m,.int .i64 e,.bool r] =
 times.wide.L0 N N n m e r:=by kernel_rfl
end
abbrev _root_.Go.Proofs.S1.times.wide.Kn:=A8 prog 238 times.wide.spec
theorem times.wide.Ae (hk:A4 prog times.wide.Bi) (h:Hyp times.wide.E f238 times.wide.ts times.wide.pre times.wide.out):times.wide.Kn :=
 Ar (A5 hk _ _ _) func238 (by kernel_rfl) (by kernel_rfl) h
def times.Mul.Bi:List (Nat × Entry):=[(237,Cu.Hm.spec),(155,soft.Kind.spec),(213,soft.Sign.spec),(234,times.nan.spec),(236,times.norm.spec),(235,times.signed.spec),(238,times.wide.spec)]
def times.Mul.E:Env:=Bn (Bh times.Mul.Bi) (fun _=>false) (fun _=>none) (fun _=>none)
theorem times.Mul.ev (N:Nat) (a b:Int):Ci times.Mul.E N f208 (Au f208) [.int .u64 a,.int .u64 b]=bif (Ao a) then bif (Ao b) then bif (Ao a) then bif (Ao b) then bif (Ao a&&Ao b) then bif (Asg a b) then some (.tup [.int .u64 9221120237041090560,.int .u8 0]) else bif ((((A3 a)==(3:Int))&&((A3 b)==(0:Int)))||(((A3 a)==(0:Int))&&((A3 b)==(3:Int)))) then some (.tup [.int .u64 9221120237041090560,.int .u8 16]) else bif (((A3 a)==(3:Int))||((A3 b)==(3:Int))) then bif (Ao 9218868437227405312) then some (.tup [.int .u64 (T2 (!((Ea a)==(Ea b))) 9218868437227405312),.int .u8 0]) else none else bif (((A3 a)==(0:Int))||((A3 b)==(0:Int))) then bif (Ao 0) then some (.tup [.int .u64 (T2 (!((Ea a)==(Ea b))) 0),.int .u8 0]) else none else bif (Ao a&&Nl a) then bif (Ao b&&Nl b) then bif (Ao (C3 a)&&Ao (C3 b)) then bif (Qj (Jf .u64 (B5 .u64 (T5 (C3 a) (C3 b)) 20) (D1 .u64 (O3 (C3 a) (C3 b)) 44)) (Ac ((Ac ((Hu a)+(Hu b)))+44))) then some (.tup [.int .u64 (E6 (!((Ea a)==(Ea b))) (Jf .u64 (B5 .u64 (T5 (C3 a) (C3 b)) 20) (D1 .u64 (O3 (C3 a) (C3 b)) 44)) (Ac ((Ac ((Hu a)+(Hu b)))+44)) ((B5 .u64 (O3 (C3 a) (C3 b)) 20) !=(0:Int))),.int .u8 (E5 (!((Ea a)==(Ea b))) (Jf .u64 (B5 .u64 (T5 (C3 a) (C3 b)) 20) (D1 .u64 (O3 (C3 a) (C3 b)) 44)) (Ac ((Ac ((Hu a)+(Hu b)))+44)) ((B5 .u64 (O3 (C3 a) (C3 b)) 20) !=(0:Int)))]) else none else none else none else none else none else none else none else none else none :=
 Eq.trans (by kernel_rfl)
 (Fe (Fe (Fe (Fe (Fe (Fe rfl (Ay (Rt ((A3 a)==(3:Int))) (Ay (N6 ((A3 a)==(3:Int))) (Ay (X5 ((A3 a)==(3:Int))) (Ay (A1u ((A3 a)==(3:Int)) ((A3 b)==(0:Int))) (Ay (Avg ((A3 a)==(3:Int)) ((A3 b)==(0:Int))) (Ay (Avg ((A3 a)==(3:Int)) ((A3 b)==(0:Int))) (Ay (A1v ((A3 a)==(3:Int)) ((A3 b)==(0:Int)) ((A3 a)==(0:Int))) (Ay (A1w ((A3 a)==(3:Int)) ((A3 b)==(0:Int)) ((A3 a)==(0:Int))) (Ay (A1x ((A3 a)==(3:Int)) ((A3 b)==(0:Int)) ((A3 a)==(0:Int))) (Ay (A1y ((A3 a)==(3:Int)) ((A3 b)==(0:Int))) (C4 (A1z _ _ _ _) rfl (Ay (Z0 ((A3 a)==(3:Int))) (Ay (Yt ((A3 a)==(3:Int))) (Ay (tt6 ((A3 a)==(3:Int))) (C4 (tt5 _ _) rfl (Ay (Z0 ((A3 a)==(0:Int))) (Ay (Yt ((A3 a)==(0:Int))) (Ay (tt6 ((A3 a)==(0:Int))) (C4 (tt5 _ _) rfl rfl)))))))))))))))))))) rfl) rfl) rfl) rfl) rfl)
abbrev _root_.Go.Proofs.S1.times.Mul.Kn:=A8 prog 208 times.Mul.spec
theorem times.Mul.Ae (hk:A4 prog times.Mul.Bi) (h:Hyp times.Mul.E f208 times.Mul.ts times.Mul.pre times.Mul.out):times.Mul.Kn :=
 Ar (A5 hk _ _ _) func208 (by kernel_rfl) (by kernel_rfl) h
def times.Div.hint:Nat→Option Bf
 | 1=>some { keep:=[6,10,11,12,13,14,78],objs:=[],boxes:=[] }
 | _=>none
def times.Div.Bi:List (Nat × Entry):=[(155,soft.Kind.spec),(213,soft.Sign.spec),(234,times.nan.spec),(236,times.norm.spec),(235,times.signed.spec),(238,times.wide.spec)]
def times.Div.E:Env:=Bn (Bh times.Div.Bi) (fun _=>false) times.Div.hint (fun _=>none)
section
variable (N M:Nat) (a b p13 p14 p78:Int)
def times.Div.L0:Option DV:=Ce times.Div.E N f209 (Au f209) [1,1,1,1,1,1,1,0,1,0] [] M ⟨Ik 104 [(6,.bool (!((Ea a)==(Ea b)))),(10,.int .i64 (Hu a)),(11,.int .u64 (C3 b)),(12,.int .i64 (Hu b)),(13,.int .u64 p13),(14,.int .u64 p14),(78,.int .i64 p78)],[]⟩
theorem times.Div.Ax:times.Div.L0 N (M+1) a b p13 p14 p78=bif (Ba p78 61) then bif (Ev (C3 b) (B5 .u64 p14 1)) then times.Div.L0 N M a b (Jf .u64 (B5 .u64 p13 1) 1) (Bc ((B5 .u64 p14 1)-(C3 b))) (Ac (p78+1)) else times.Div.L0 N M a b (B5 .u64 p13 1) (B5 .u64 p14 1) (Ac (p78+1)) else bif (Qj p13 (Ac ((Ac ((Hu a)-(Hu b)))-61))) then some (.tup [.int .u64 (E6 (!((Ea a)==(Ea b))) p13 (Ac ((Ac ((Hu a)-(Hu b)))-61)) (p14 !=(0:Int))),.int .u8 (E5 (!((Ea a)==(Ea b))) p13 (Ac ((Ac ((Hu a)-(Hu b)))-61)) (p14 !=(0:Int)))]) else none:=by kernel_rfl
theorem times.Div.ev:Ci times.Div.E N f209 (Au f209) [.int .u64 a,.int .u64 b]=bif (Ao a) then bif (Ao b) then bif (Ao a) then bif (Ao b) then bif (Ao a&&Ao b) then bif (Asg a b) then some (.tup [.int .u64 9221120237041090560,.int .u8 0]) else bif ((((A3 a)==(3:Int))&&((A3 b)==(3:Int)))||(((A3 a)==(0:Int))&&((A3 b)==(0:Int)))) then some (.tup [.int .u64 9221120237041090560,.int .u8 16]) else bif ((A3 a)==(3:Int)) then bif (Ao 9218868437227405312) then some (.tup [.int .u64 (T2 (!((Ea a)==(Ea b))) 9218868437227405312),.int .u8 0]) else none else bif (((A3 b)==(3:Int))||((A3 a)==(0:Int))) then bif (Ao 0) then some (.tup [.int .u64 (T2 (!((Ea a)==(Ea b))) 0),.int .u8 0]) else none else bif ((A3 b)==(0:Int)) then bif (Ao 9218868437227405312) then some (.tup [.int .u64 (T2 (!((Ea a)==(Ea b))) 9218868437227405312),.int .u8 8]) else none else bif (Ao a&&Nl a) then bif (Ao b&&Nl b) then bif ((C3 b) !=0) then bif ((C3 b) !=0) then times.Div.L0 N N a b (Bc (Int.tdiv (C3 a) (C3 b))) (Int.tmod (C3 a) (C3 b)) (0:Int) else none else none else none else none else none else none else none else none else none :=
 Eq.trans (by kernel_rfl)
 (Fe (Fe (Fe (Fe (Fe (Fe rfl (Ay (Rt ((A3 a)==(3:Int))) (Ay (N6 ((A3 a)==(3:Int))) (Ay (X5 ((A3 a)==(3:Int))) (Ay (A1u ((A3 a)==(3:Int)) ((A3 b)==(3:Int))) (Ay (Avg ((A3 a)==(3:Int)) ((A3 b)==(3:Int))) (Ay (Avg ((A3 a)==(3:Int)) ((A3 b)==(3:Int))) (Ay (A1v ((A3 a)==(3:Int)) ((A3 b)==(3:Int)) ((A3 a)==(0:Int))) (Ay (A1w ((A3 a)==(3:Int)) ((A3 b)==(3:Int)) ((A3 a)==(0:Int))) (Ay (A1x ((A3 a)==(3:Int)) ((A3 b)==(3:Int)) ((A3 a)==(0:Int))) (Ay (A1y ((A3 a)==(3:Int)) ((A3 b)==(3:Int))) (C4 (A1z _ _ _ _) rfl (Fe rfl (Ay (Z0 ((A3 b)==(3:Int))) (Ay (Yt ((A3 b)==(3:Int))) (Ay (tt6 ((A3 b)==(3:Int))) (C4 (tt5 _ _) rfl (Fe rfl (Fe (Fe (C4 (Cr _) (C4 (Cr _) rfl rfl) rfl) rfl) rfl))))))))))))))))))) rfl) rfl) rfl) rfl) rfl)
end
abbrev _root_.Go.Proofs.S1.times.Div.Kn:=A8 prog 209 times.Div.spec
theorem times.Div.Ae (hk:A4 prog times.Div.Bi) (h:Hyp times.Div.E f209 times.Div.ts times.Div.pre times.Div.out):times.Div.Kn :=
 Ar (A5 hk _ _ _) func209 (by kernel_rfl) (by kernel_rfl) h
end EqTimes
open Go Go.Den Go.Cv Go.Proofs
open EqBits6 EqTimes
theorem Ait {n:Nat} (h0:n≠0) (h:n<2^64):Go.Lib.bitLen n=n.log2+1:=by
 have h1:=Nat.log2_self_le h0
 have h2:=Nat.lt_log2_self (n:=n)
 have hp:=B4 n.log2
 have e:n / 2^n.log2=1:=by
  rw [Nat.pow_succ] at h2
  exact Nat.div_eq_of_lt_le (by omega) (by omega)
 have e1:Go.Lib.bitLen 1=1:=by decide
 rw [Go.Lib.bitLen_shift n.log2 n h1 h,e,e1]
theorem Cu.Lh.known:Cu.Lh.Kn:=by
 refine ⟨?_,Cu.Lh.call⟩
 intro args ha
 simp only [Cu.Lh.spec,entry] at ha ⊢
 cases hd:Om [.i .u64] args with
 | none=>rw [hd] at ha; cases ha
 | some ats =>
   rw [hd] at ha
   simp only at ha ⊢
   obtain ⟨ds,h1,h2⟩:=Pc hd
   obtain ⟨x,_,_,rfl,rfl,he⟩:=h1.Ata
   obtain ⟨rfl,rfl⟩:=he.Afi
   obtain ⟨n,rfl,hn⟩:=Cb (x:=x) ha
   refine Rc.args ?_ h2
   intro w vals I hI hv
   obtain ⟨u,us,e1,e2,e3⟩:=hv
   simp only [Am] at e2
   have e3:us=[]:=e3
   subst e2 e3
   have e4:vals=#[.int .u64 (n:Int)]:=Array.ext' e1
   subst e4
   refine (Cu.Lh.run n w (by omega) (by omega)).mono ?_
   rintro e w' ⟨rfl,rfl⟩
   refine ⟨_,fun _=>none,rfl,Go.RowKit.Below.refl _ _,⟨fun i b h=>(by cases h),fun i j b h=>(by cases h)⟩,?_⟩
   show Am _ _ (DV.int .i64 (E7 n)) _
   simp only [Am]
   congr 1
   unfold E7
   rw [A5n]
   by_cases h0:n=0
   ·subst h0; rfl
   ·rw [Ait h0 hn,A57 (by omega)]; rfl
theorem As2 {n:Nat} (hn:n<2^64):0≤E7 n∧E7 n≤64:=by
 unfold E7
 rw [A5n]
 by_cases h0:n=0
 ·subst h0; decide
 ·have:=(A61 h0).2 hn
  rw [A57 (by omega)]; omega
theorem Cu.Bv.known:Cu.Bv.Kn:=Cu.Bv.Ae (.cons Cu.Lh.known .nil) fun x hp=>by
 obtain ⟨n,rfl,hn⟩:=Cb (x:=x) hp
 have:=As2 hn
 refine ⟨0,Cu.Bv.out [.i n],[],?_,.int⟩
 rw [Cu.Bv.ev,Ck hn,A5l,Ap (by omega) (by omega)]
 rfl
theorem Ke {a b:Nat} (ha:a<4294967296) (hb:b<4294967296):a*b≤18446744065119617025 :=
 A6s (A6h (show a≤4294967295 by omega) (show b≤4294967295 by omega)) (by decide)
theorem Asl (x y:Nat) (hx:x<2^64) (hy:y<2^64) :
 x*y / 18446744073709551616=(x / 2^32)*(y / 2^32)+((x / 2^32)*(y%2^32)+(x%2^32)*(y%2^32) / 2^32) / 2^32 +
  (((x / 2^32)*(y%2^32)+(x%2^32)*(y%2^32) / 2^32)%2^32+(x%2^32)*(y / 2^32)) / 2^32:=by
 have ex:x=x / 2^32*4294967296+x%2^32:=by omega
 have ey:y=y / 2^32*4294967296+y%2^32:=by omega
 have ha:x / 2^32<4294967296:=by omega
 have hc:y / 2^32<4294967296:=by omega
 have hb:x%2^32<4294967296:=by omega
 have hd:y%2^32<4294967296:=by omega
 generalize x / 2^32=a at *
 generalize x%2^32=b at *
 generalize y / 2^32=c at *
 generalize y%2^32=d at *
 have e:x*y=a*c*18446744073709551616+(a*d+b*c)*4294967296+b*d:=by
  rw [ex,ey,A6p,Nat.mul_add,Nat.mul_add]
  have e1:a*4294967296*(c*4294967296)=a*c*18446744073709551616:=by
   rw [Nat.mul_mul_mul_comm]
  have e2:a*4294967296*d=a*d*4294967296:=Nat.mul_right_comm _ _ _
  have e3:b*(c*4294967296)=b*c*4294967296:=(A6c _ _ _).symm
  rw [e1,e2,e3]
  omega
 have b1:=Ke ha hc
 have b2:=Ke ha hd
 have b3:=Ke hb hc
 have b4:=Ke hb hd
 rw [e]
 clear e ex ey
 generalize a*c=p at *
 generalize a*d=q at *
 generalize b*c=r at *
 generalize b*d=s at *
 omega
theorem Cu.Hm.known:Cu.Hm.Kn:=Cu.Hm.Ae .nil fun x y hp=>by
 obtain ⟨h1,h2⟩:=Ag.1 hp
 obtain ⟨x,rfl,hx⟩:=Cb h1
 obtain ⟨y,rfl,hy⟩:=Cb h2
 refine ⟨0,Cu.Hm.out [.i x,.i y],[],?_,Wk.Jc (.cons .int (.cons .int .nil))⟩
 show _=some (DV.tup [.int .u64 (T5 x y),.int .u64 (O3 x y)])
 have s32:∀ n:Nat,D1 .u64 (n:Int) (32:Int)=((n / 2^32:Nat):Int):=fun n=>H8 .u64 n 32 (by decide)
 have m32:∀ n:Nat,n<2^64→Gy .u64 (n:Int) (4294967295:Int)=((n%2^32:Nat):Int):=fun n hn=>I7 32 hn (by decide)
 have ha:x / 2^32<4294967296:=by omega
 have hc:y / 2^32<4294967296:=by omega
 have hb:x%2^32<4294967296:=by omega
 have hd:y%2^32<4294967296:=by omega
 have b1:=Ke ha hc
 have b2:=Ke ha hd
 have b3:=Ke hb hc
 have b4:=Ke hb hd
 have hhi:=Asl x y hx hy
 have wn:∀ n:Nat,n<2^64→Bc (n:Int)=n:=fun n hn=>C5 (by omega) (by omega)
 have hlt:x*y / 18446744073709551616<2^64:=by
  rw [Nat.div_lt_iff_lt_mul (by decide)]
  have:=A6h (show x≤18446744073709551615 by omega) (show y≤18446744073709551615 by omega)
  omega
 rw [Cu.Hm.ev]
 simp only [s32,m32 x hx,m32 y hy]
 generalize hA:x / 2^32=a at *
 generalize hB:x%2^32=b at *
 generalize hC:y / 2^32=c at *
 generalize hD:y%2^32=d at *
 simp only [← A56]
 rw [wn (a*c) (by omega),wn (a*d) (by omega),wn (b*c) (by omega),wn (b*d) (by omega),s32]
 simp only [← Int.natCast_add]
 rw [wn (a*d+b*d / 2^32) (by omega),s32,m32 _ (by omega)]
 simp only [← Int.natCast_add]
 rw [wn (a*c+(a*d+b*d / 2^32) / 2^32) (by omega),wn _ (by omega),s32]
 simp only [← Int.natCast_add]
 rw [← hhi,wn _ hlt]
 unfold T5 O3
 rw [A5n,A5n,U7]
 congr 3
theorem times.signed.known:times.signed.Kn:=times.signed.Ae (.cons soft.Gh.known .nil) fun b n hp=>by
 have hp:Ao b=true:=hp
 refine ⟨0,times.signed.out [.i b,.b n],[],?_,.int⟩
 rw [times.signed.ev,hp]
 cases n<;>rfl
theorem times.nan.known:times.nan.Kn:=times.nan.Ae (.cons soft.Kind.known .nil) fun a b hp=>by
 obtain ⟨ha,hb⟩:=Ag.1 hp
 refine ⟨0,times.nan.out [.i a,.i b],[],?_,.bool⟩
 rw [times.nan.ev,ha,hb,A5l,A5l]
 show _=some (DV.bool (decide (A3 a=4)||decide (A3 b=4)))
 by_cases h1:A3 a=4
 ·rw [h1]; rfl
 ·have e1:(A3 a==(4:Int))=false:=by simp; exact h1
  rw [e1,A5q h1,A5p]
  by_cases h2:A3 b=4
  ·rw [h2]; rfl
  ·have e2:(A3 b==(4:Int))=false:=by simp; exact h2
   rw [e2,A5q h2]; rfl
theorem P3 {n:Nat} (h:An n≠0):(An n).log2≤52∧2^52≤An n*2^Ch n∧An n*2^Ch n<2^53∧Ch n≤52:=by
 have h1:=Fi n
 have h2:(An n).log2<53:=(A61 h).2 (by omega)
 have hz:=Od (An n) (Ch n) h
 have hne:An n*2^Ch n≠0:=J2 h
 have hl:(An n*2^Ch n).log2=52:=by rw [hz]; unfold Ch; omega
 refine ⟨by omega,?_,?_,by unfold Ch; omega⟩
 ·rw [← Nat.le_log2 hne]; omega
 ·rw [← A61 hne]; omega
theorem times.norm.known:times.norm.Kn:=times.norm.Ae (.cons Cu.Bv.known (.cons soft.F1.known .nil)) fun b hp=>by
 obtain ⟨h1,h2⟩:=Ag.1 hp
 obtain ⟨n,rfl,hn⟩:=Cb h1
 have h2:An n≠0:=As.1 h2
 obtain ⟨l1,l2,l3,l4⟩:=P3 h2
 have hM:=Fi n
 have hE:=Cq n
 refine ⟨0,times.norm.out [.i n],[],?_,Wk.Jc (.cons .int (.cons .int .nil))⟩
 show _=some (DV.tup [.int .u64 (C3 n),.int .i64 (Hu n)])
 have e1:Bt (n:Int)=(An n:Int):=rfl
 have e2:Bb (n:Int)=Av n:=rfl
 have e3:E7 (An n:Int)=((An n).log2:Int)+1:=by
  unfold E7
  rw [A57 (by omega),A5n]
 have e4:Ac ((64-(((An n).log2:Int)+1))-(11:Int))=((Ch n:Nat):Int):=by
  rw [Ap (by omega) (by omega)]; unfold Ch; omega
 rw [times.norm.ev,Ck hn,e1,e2,Ck (n:=An n) (by omega),e3,e4,Gg _ _ (by omega),A5y (by omega),Ap (by omega) (by omega),A5m (by omega)]
 rfl
theorem Aq1 {V t:Nat} {E:Int} (h0:V≠0) (h:V<2^t) (hE:E+t≤-1075):B1 V E=0∧flagsOf V E=3:=by
 have hl:V.log2<t:=(A61 h0).2 h
 have hL:Bz V E=-1074:=by unfold Bz; omega
 obtain ⟨k,hk⟩:∃ k:Nat,(-1074-E).toNat=t+1+k:=⟨(-1074-E).toNat-t-1,by omega⟩
 have hp:2^(t+1)≤2^(t+1+k):=A50 (by decide) (by omega)
 have ht:2^(t+1)=2*2^t:=by rw [Nat.pow_succ]; omega
 have e2:(-(-1074-E)).toNat=0:=by omega
 have hr:Jp V (-1074-E)=0:=by
  unfold Jp Jq
  rw [e2,hk,A6j,A6u,Nat.div_eq_of_lt (by omega),A5y (by omega),A57 (by omega)]
 have hru:B1 V E=0:=by
  unfold B1 kept
  rw [A57 h0,hL,hr]
  simp
 refine ⟨hru,?_⟩
 unfold flagsOf exact N3
 rw [A57 h0,hru,hL,e2,hk,A6j,A6u,A5y (by omega),A5q h0]
 decide
theorem Aon (n:Bool) {m:Nat} {e:Int} (r:Bool) (hm:1<m) (he:e < -1130):Gz n (m / 2) (e+1) (r||decide (m%2=1))=Gz n m e r:=by
 have e1:(4*m+r.toNat) / 2^3=m / 2:=by cases r<;>simp<;>omega
 have e2:(r||decide (m%2=1))=decide ((4*m+r.toNat)%2^3≠0):=by
  rw [A51]
  cases r
  ·simp; omega
  ·simp; omega
 have:=Vw n (V:=4*m+r.toNat) (k:=3) (E:=e-2) (e:=e+1) (s:=r||decide (m%2=1)) (by omega) e2 (by omega) (.inr (by omega))
 rw [e1] at this
 exact this
theorem Vv (n:Bool) {e:Int} (r:Bool) (he:e < -1130):Gz n 1 e r=Gz n 0 (-1074) true:=by
 have h1:r.toNat≤1:=by cases r<;>decide
 obtain ⟨a1,a2⟩:=Aq1 (V:=4*1+r.toNat) (t:=3) (E:=e-2) (by omega) (by omega) (by omega)
 obtain ⟨b1,b2⟩:=Aq1 (V:=4*0+true.toNat) (t:=1) (E:=-1074-2) (by decide) (by decide) (by decide)
 unfold Gz
 rw [a1,a2,b1,b2]
theorem Ane (N:Nat) (n:Bool):∀ (k m:Nat) (e:Int) (r:Bool),1≤m→m<2^62→m≤2^k→-7000≤e→e≤6000→(2^60≤m∨e≤-1130) →
 times.wide.L0 N (k+1) n (m:Int) e r=some (.tup [.int .u64 (((Gz n m e r).1:Nat):Int),.int .u8 (((Gz n m e r).2:Nat):Int)]):=by
 intro k
 induction k with
 | zero =>
   intro m e r h1 h2 h3 h4 h5 h6
   have hm:m=1:=by simp at h3; omega
   subst hm
   rw [times.wide.Ax,Aw,Aw]
   have c1:decide ((1:Int)<((1:Nat):Int))=false:=by decide
   rw [c1,Bool.and_false,A5p]
   by_cases he:e < -1130
   ·have hp:El (0:Int) (-1074:Int) true=true:=As.2 (by omega)
    rw [A5m he,A5l,hp,A5l,Vv n r he]
    rfl
   ·have he:e=-1130:=by omega
    subst he
    have hp:El ((1:Nat):Int) (-1130:Int) r=true:=As.2 (by omega)
    rw [A5q (by omega),A5p,hp,A5l]
    rfl
 | succ k ih =>
   intro m e r h1 h2 h3 h4 h5 h6
   rw [times.wide.Ax,Aw,Aw]
   by_cases he:e < -1130
   ·by_cases hm:1<m
    ·have c1:decide ((1:Int)<(m:Int))=true:=A5m (by omega)
     have e1:D1 .u64 (m:Int) (1:Int)=((m / 2:Nat):Int):=H8 .u64 m 1 (by decide)
     have e2:Gy .u64 (m:Int) (1:Int)=((m%2:Nat):Int):=I7 (a:=m) 1 (by omega) (by decide)
     have e3:(bif r then true else (Gy .u64 (m:Int) (1:Int))==(1:Int))=(r||decide (m%2=1)):=by
      rw [e2]
      cases r
      ·rw [A51]; simp; omega
      ·rfl
     rw [A5m he,c1,A5r,A5l,e1,e3,Ap (by omega) (by omega)]
     have hk:m / 2≤2^k:=by rw [Nat.pow_succ] at h3; omega
     rw [ih (m / 2) (e+1) _ (by omega) (by omega) hk (by omega) (by omega) (.inr (by omega)),Aon n r hm he]
    ·have hm:m=1:=by omega
     subst hm
     have c1:decide ((1:Int)<((1:Nat):Int))=false:=by decide
     have hp:El (0:Int) (-1074:Int) true=true:=As.2 (by omega)
     rw [c1,Bool.and_false,A5p,A5m he,A5l,hp,A5l,Vv n r he]
     rfl
   ·have hp:El (m:Int) e r=true:=As.2 ⟨by omega,by omega,by omega,.inl (by omega),fun _=>by omega⟩
    rw [A5q he,Bool.false_and,A5p,A5p,hp,A5l]
    rfl
theorem times.wide.known:times.wide.Kn:=times.wide.Ae (.cons soft.Df.known .nil) fun n m e r hp=>by
 obtain ⟨h1,h2,h3,h4⟩:=As.1 (show Qj m e=true from hp)
 obtain ⟨m,rfl⟩:∃ k:Nat,m=k:=⟨m.toNat,by omega⟩
 refine ⟨63,times.wide.out [.b n,.i m,.i e,.b r],[],?_,Wk.Jc (.cons .int (.cons .int .nil))⟩
 rw [times.wide.ev,Ane 63 n 62 m e r (by omega) (by omega) (by omega) (by omega) (by omega) (.inl (by omega))]
 rfl
open Go Go.Den Go.Cv Go.Proofs
set_option maxRecDepth 100000
namespace EqRefD
def A1.Neg.Bi:List (Nat × Entry):=[]
def A1.Neg.E:Env:=Bn (Bh A1.Neg.Bi) (fun _=>false) (fun _=>none) (fun _=>none)
theorem A1.Neg.ev (N:Nat) (x:Int):Ci A1.Neg.E N f142 (Au f142) [.int .u64 x]=some (.bool ((Bc (Int.tdiv x 9223372036854775808))==(1:Int))):=by kernel_rfl
abbrev _root_.Go.Proofs.S1.A1.Neg.Kn:=A8 prog 142 A1.Neg.spec
theorem A1.Neg.Ae (hk:A4 prog A1.Neg.Bi) (h:Hyp A1.Neg.E f142 A1.Neg.ts A1.Neg.pre A1.Neg.out):A1.Neg.Kn :=
 Ar (A5 hk _ _ _) func142 (by kernel_rfl) (by kernel_rfl) h
def A1.Power.Bi:List (Nat × Entry):=[]
def A1.Power.E:Env:=Bn (Bh A1.Power.Bi) (fun _=>false) (fun _=>none) (fun _=>none)
theorem A1.Power.ev (N:Nat) (x:Int):Ci A1.Power.E N f140 (Au f140) [.int .u64 x]=some (.int .i64 (Ac (Bc (Int.tdiv (Int.tmod x 9223372036854775808) 4503599627370496)))):=by kernel_rfl
abbrev _root_.Go.Proofs.S1.A1.Power.Kn:=A8 prog 140 A1.Power.spec
theorem A1.Power.Ae (hk:A4 prog A1.Power.Bi) (h:Hyp A1.Power.E f140 A1.Power.ts A1.Power.pre A1.Power.out):A1.Power.Kn :=
 Ar (A5 hk _ _ _) func140 (by kernel_rfl) (by kernel_rfl) h
def A1.Li.Bi:List (Nat × Entry):=[]
def A1.Li.E:Env:=Bn (Bh A1.Li.Bi) (fun _=>false) (fun _=>none) (fun _=>none)
theorem A1.Li.ev (N:Nat) (x:Int):Ci A1.Li.E N f141 (Au f141) [.int .u64 x]=some (.int .u64 (Int.tmod x 4503599627370496)):=by kernel_rfl
abbrev _root_.Go.Proofs.S1.A1.Li.Kn:=A8 prog 141 A1.Li.spec
theorem A1.Li.Ae (hk:A4 prog A1.Li.Bi) (h:Hyp A1.Li.E f141 A1.Li.ts A1.Li.pre A1.Li.out):A1.Li.Kn :=
 Ar (A5 hk _ _ _) func141 (by kernel_rfl) (by kernel_rfl) h
def A1.Kind.Bi:List (Nat × Entry):=[(141,A1.Li.spec),(140,A1.Power.spec)]
def A1.Kind.E:Env:=Bn (Bh A1.Kind.Bi) (fun _=>false) (fun _=>none) (fun _=>none)
theorem A1.Kind.ev (N:Nat) (x:Int):Ci A1.Kind.E N f62 (Au f62) [.int .u64 x]=bif (R9 x) then bif ((Nj x)==(2047:Int)) then bif (R9 x) then bif ((C1 x)==(0:Int)) then some (.int .i64 3) else some (.int .i64 4) else none else bif (R9 x) then bif (Ba 0 (Nj x)) then some (.int .i64 2) else bif (R9 x) then bif (Ba 0 (C1 x)) then some (.int .i64 1) else some (.int .i64 0) else none else none else none:=by kernel_rfl
abbrev _root_.Go.Proofs.S1.A1.Kind.Kn:=A8 prog 62 A1.Kind.spec
theorem A1.Kind.Ae (hk:A4 prog A1.Kind.Bi) (h:Hyp A1.Kind.E f62 A1.Kind.ts A1.Kind.pre A1.Kind.out):A1.Kind.Kn :=
 Ar (A5 hk _ _ _) func62 (by kernel_rfl) (by kernel_rfl) h
def A1.Finite.Bi:List (Nat × Entry):=[(140,A1.Power.spec)]
def A1.Finite.E:Env:=Bn (Bh A1.Finite.Bi) (fun _=>false) (fun _=>none) (fun _=>none)
theorem A1.Finite.ev (N:Nat) (x:Int):Ci A1.Finite.E N f131 (Au f131) [.int .u64 x]=bif (R9 x) then some (.bool (Ba (Nj x) 2047)) else none:=by kernel_rfl
abbrev _root_.Go.Proofs.S1.A1.Finite.Kn:=A8 prog 131 A1.Finite.spec
theorem A1.Finite.Ae (hk:A4 prog A1.Finite.Bi) (h:Hyp A1.Finite.E f131 A1.Finite.ts A1.Finite.pre A1.Finite.out):A1.Finite.Kn :=
 Ar (A5 hk _ _ _) func131 (by kernel_rfl) (by kernel_rfl) h
end EqRefD
open Go Go.Den Go.Cv Go.Proofs
open EqRefD
theorem Jk (n m:Nat):Int.tdiv (n:Int) (m:Int)=((n / m:Nat):Int):=rfl
theorem Jj (n m:Nat):Int.tmod (n:Int) (m:Int)=((n%m:Nat):Int):=rfl
theorem Ayb:(9223372036854775808:Int)=((2^63:Nat):Int):=rfl
theorem Ayc:(4503599627370496:Int)=((2^52:Nat):Int):=rfl
theorem A1.Neg.known:A1.Neg.Kn:=A1.Neg.Ae .nil fun x hp=>by
 obtain ⟨n,rfl,hn⟩:=Cb (x:=x) hp
 refine ⟨0,A1.Neg.out [.i n],[],?_,.bool⟩
 rw [A1.Neg.ev,Ayb,Jk,C5 (by omega) (by omega)]
 show _=some (DV.bool (Ea n))
 unfold Ea Br
 rw [A5n]
 congr 2
 rw [A51]
 simp only [beq_iff_eq,A5s]
 omega
theorem A1.Power.known:A1.Power.Kn:=A1.Power.Ae .nil fun x hp=>by
 obtain ⟨n,rfl⟩:=Aay (x:=x) hp
 refine ⟨0,A1.Power.out [.i n],[],?_,.int⟩
 rw [A1.Power.ev,Ayb,Ayc,Jj,Jk,C5 (by omega) (by omega),Ap (by omega) (by omega)]
 show _=some (DV.int .i64 (Nj n))
 unfold Nj Dx
 rw [A5n]
 congr 2
 have:n%2^63 / 2^52=n / 2^52%2048:=by omega
 rw [this]
theorem A1.Li.known:A1.Li.Kn:=A1.Li.Ae .nil fun x hp=>by
 obtain ⟨n,rfl⟩:=Aay (x:=x) hp
 refine ⟨0,A1.Li.out [.i n],[],?_,.int⟩
 rw [A1.Li.ev,Ayc,Jj]
 rfl
theorem A1.Kind.known:A1.Kind.Kn:=A1.Kind.Ae (.cons A1.Li.known (.cons A1.Power.known .nil)) fun x hp=>by
 obtain ⟨n,rfl⟩:=Aay (x:=x) hp
 refine ⟨0,A1.Kind.out [.i n],[],?_,.int⟩
 rw [A1.Kind.ev,R8]
 show _=some (DV.int .i64 (A3 n))
 unfold A3 Aj Nj C1
 simp only [A5n,A5l,Aw]
 have:=Kz n
 by_cases h1:Dx n=2047
 ·by_cases h2:C2 n=0
  ·simp [h1,h2]
  ·have:((C2 n:Int)==0)=false:=by simp; exact h2
   simp [h1,this,h2]
 ·have h1':((Dx n:Int)==2047)=false:=by simp; omega
  rw [h1']
  by_cases h3:0<Dx n
  ·simp [h1,h3]
  ·by_cases h4:0<C2 n
   ·simp [h1,h3,h4]
   ·simp [h1,h3,h4]
theorem A1.Finite.known:A1.Finite.Kn:=A1.Finite.Ae (.cons A1.Power.known .nil) fun x hp=>by
 obtain ⟨n,rfl,hn⟩:=Cb (x:=x) hp
 refine ⟨0,A1.Finite.out [.i n],[],?_,.bool⟩
 rw [A1.Finite.ev,R8,A5l,Aw]
 show _=some (DV.bool (Dm n))
 unfold Dm H0 Nj
 rw [A5n]
 have:decide ((Dx n:Int)<2047)=decide (Dx n<2047):=decide_eq_decide.2 (by omega)
 rw [this]
open Go Go.Den Go.Cv Go.Proofs
open EqTimes
theorem Te {b:Nat} (h0:Aj b≠0) (h3:Aj b≠3) (h4:Aj b≠4):An b≠0:=by
 have:=Kz b
 unfold Aj at h0 h3 h4
 unfold An
 by_cases h1:Dx b=2047
 ·rw [A58 h1] at h3 h4
  by_cases h2:C2 b=0
  ·rw [A58 h2] at h3; exact absurd rfl h3
  ·rw [A57 h2] at h4; exact absurd rfl h4
 ·rw [A57 h1] at h0
  by_cases h2:0<Dx b
  ·rw [A57 (by omega)]; omega
  ·rw [A57 h2] at h0
   by_cases h5:0<C2 b
   ·rw [A58 (by omega)]; omega
   ·rw [A57 h5] at h0; exact absurd rfl h0
theorem Adi {b:Nat} (h0:Aj b=0):An b=0:=by
 unfold Aj at h0
 unfold An
 by_cases h1:Dx b=2047
 ·rw [A58 h1] at h0; split at h0<;>omega
 ·rw [A57 h1] at h0
  by_cases h2:0<Dx b
  ·rw [A58 h2] at h0; omega
  ·rw [A57 h2] at h0
   by_cases h5:0<C2 b
   ·rw [A58 h5] at h0; omega
   ·rw [A58 (by omega)]; omega
theorem Aj9 {x y:Nat} (hx1:2^52≤x) (hx2:x<2^53) (hy1:2^52≤y) (hy2:y<2^53):2^104≤x*y∧x*y<2^106:=by
 have h1:=A6h hx1 hy1
 have h2:x*y<2^53*2^53:=Nat.mul_lt_mul'' hx2 hy2
 exact ⟨A6s (by decide) h1,A6w h2 (by decide)⟩
theorem Awa {V:Nat} (h:V<2^106):Jf .u64 (B5 .u64 ((V / 18446744073709551616:Nat):Int) (20:Int)) (D1 .u64 ((V%18446744073709551616:Nat):Int) (44:Int))=((V / 2^44:Nat):Int):=by
 have e1:B5 .u64 ((V / 18446744073709551616:Nat):Int) (20:Int)=((V / 18446744073709551616*2^20%2^64:Nat):Int):=Gg _ 20 (by decide)
 have e2:D1 .u64 ((V%18446744073709551616:Nat):Int) (44:Int)=((V%18446744073709551616 / 2^44:Nat):Int):=H8 .u64 _ 44 (by decide)
 rw [e1,e2,A5y (by omega),On (k:=20) (by omega) (by omega)]
 congr 1
 omega
theorem Av9 {V:Nat}:((B5 .u64 ((V%18446744073709551616:Nat):Int) (20:Int)) !=(0:Int))=decide (V%2^44≠0):=by
 have e1:B5 .u64 ((V%18446744073709551616:Nat):Int) (20:Int)=((V%18446744073709551616*2^20%2^64:Nat):Int):=Gg _ 20 (by decide)
 rw [e1,A51]
 simp only [bne_iff_ne,ne_eq,A5s]
 omega
theorem Afh (s t:Bool):(!(s==t))=(s !=t):=rfl
theorem w53 {x:Nat} (h:x<2^53):Ao (x:Int)=true:=Ck (by omega)
theorem Awf (n:Bool) {a b:Nat} (ha:An a≠0) (hb:An b≠0) :
 (bif (Ao (C3 a)&&Ao (C3 b)) then
  bif (Qj (Jf .u64 (B5 .u64 (T5 (C3 a) (C3 b)) (20:Int)) (D1 .u64 (O3 (C3 a) (C3 b)) (44:Int))) (Ac ((Ac ((Hu a)+(Hu b)))+(44:Int)))) then
   some (DV.tup [.int .u64 (E6 n (Jf .u64 (B5 .u64 (T5 (C3 a) (C3 b)) (20:Int)) (D1 .u64 (O3 (C3 a) (C3 b)) (44:Int))) (Ac ((Ac ((Hu a)+(Hu b)))+(44:Int))) ((B5 .u64 (O3 (C3 a) (C3 b)) (20:Int)) !=(0:Int))),.int .u8 (E5 n (Jf .u64 (B5 .u64 (T5 (C3 a) (C3 b)) (20:Int)) (D1 .u64 (O3 (C3 a) (C3 b)) (44:Int))) (Ac ((Ac ((Hu a)+(Hu b)))+(44:Int))) ((B5 .u64 (O3 (C3 a) (C3 b)) (20:Int)) !=(0:Int)))])
  else none
 else none)=some (.tup [.int .u64 ((B3 n (B1 (An a*An b) (Av a+Av b)):Nat):Int),.int .u8 ((flagsOf (An a*An b) (Av a+Av b):Nat):Int)]):=by
 obtain ⟨a1,a2,a3,a4⟩:=P3 ha
 obtain ⟨b1,b2,b3,b4⟩:=P3 hb
 have ea:=Cq a
 have eb:=Cq b
 have ma:C3 (a:Int)=((An a*2^Ch a:Nat):Int):=rfl
 have mb:C3 (b:Int)=((An b*2^Ch b:Nat):Int):=rfl
 have na:Hu (a:Int)=Av a-Ch a:=rfl
 have nb:Hu (b:Int)=Av b-Ch b:=rfl
 have hi:T5 (C3 a) (C3 b)=((An a*2^Ch a*(An b*2^Ch b) / 18446744073709551616:Nat):Int):=rfl
 have lo:O3 (C3 a) (C3 b)=((An a*2^Ch a*(An b*2^Ch b)%18446744073709551616:Nat):Int):=rfl
 rw [hi,lo,ma,mb,na,nb,w53 a3,w53 b3,A5r,A5l]
 obtain ⟨v1,v2⟩:=Aj9 a2 a3 b2 b3
 have ev:An a*2^Ch a*(An b*2^Ch b)=An a*An b*2^(Ch a+Ch b):=by
  rw [Nat.mul_mul_mul_comm,← A6a]
 obtain ⟨s1,s2⟩:=Db (An a*An b) (Ch a+Ch b) (Av a+Av b)
 rw [← ev] at s1 s2
 generalize An a*2^Ch a*(An b*2^Ch b)=V at *
 rw [Awa v2,Av9,Ap (x:=_+_) (by rw [Ap (by omega) (by omega)]; omega) (by rw [Ap (by omega) (by omega)]; omega),Ap (by omega) (by omega)]
 have hw:Qj ((V / 2^44:Nat):Int) (Av a-Ch a+(Av b-Ch b)+44)=true:=As.2 ⟨by omega,by omega,by omega,by omega⟩
 rw [hw,A5l]
 unfold E6 E5
 rw [A5n,Vw n (V:=V) (k:=44) (E:=Av a+Av b-((Ch a+Ch b:Nat):Int)) (e:=Av a-Ch a+(Av b-Ch b)+44) (s:=decide (V%2^44≠0)) (by omega) rfl (by omega) (.inl (by omega)),s1,s2]
theorem kq (b k:Nat):(((Aj b:Nat):Int)==((k:Nat):Int))=decide (Aj b=k):=by
 rw [A51]; simp only [beq_iff_eq,A5s]; omega
theorem Ac4 (n:Bool) {r:Nat} (h:r<2^63):T2 n (r:Int)=((B3 n r:Nat):Int):=by
 unfold T2 B3 D6
 cases n
 ·rfl
 ·simp only [if_true]
  rw [A5n,Ur h]
theorem Ah9 (n:Bool):T2 n (9218868437227405312:Int)=((B3 n Eo:Nat):Int):=Ac4 n (r:=Eo) (by decide)
theorem Acn (n:Bool):T2 n (0:Int)=((B3 n 0:Nat):Int):=Ac4 n (r:=0) (by decide)
theorem To (b:Nat):A3 (b:Int)=((Aj b:Nat):Int):=rfl
theorem Amf (a b:Nat):Asg (a:Int) (b:Int)=(decide (Aj a=4)||decide (Aj b=4)):=by
 unfold Asg A3
 simp only [A5n]
 rw [A51]
 simp only [Bool.or_eq_true,A5s]
 omega
theorem k3 (b:Nat):(((Aj b:Nat):Int)==(3:Int))=decide (Aj b=3):=kq b 3
theorem k0 (b:Nat):(((Aj b:Nat):Int)==(0:Int))=decide (Aj b=0):=kq b 0
theorem times.Mul.known:times.Mul.Kn:=times.Mul.Ae (.cons Cu.Hm.known (.cons soft.Kind.known (.cons soft.Sign.known (.cons times.nan.known (.cons times.norm.known (.cons times.signed.known (.cons times.wide.known .nil))))))) fun a b hp=>by
 obtain ⟨ha,hb⟩:=Ag.1 hp
 obtain ⟨a,rfl,hn⟩:=Cb ha
 obtain ⟨b,rfl,hm⟩:=Cb hb
 refine ⟨0,times.Mul.out [.i a,.i b],[],?_,Wk.Jc (.cons .int (.cons .int .nil))⟩
 have i1:Ao (9218868437227405312:Int)=true:=Ck (n:=9218868437227405312) (by decide)
 have i2:Ao (0:Int)=true:=Ck (n:=0) (by decide)
 rw [times.Mul.ev,ha,hb,Amf,To,To,k3,k3,k0,k0,i1,i2,Ah9,Acn,Afh]
 show _=some (DV.tup [.int .u64 (((H7 a b).1:Nat):Int),.int .u8 (((H7 a b).2:Nat):Int)])
 have ea:Ea (a:Int)=Br a:=rfl
 have eb:Ea (b:Int)=Br b:=rfl
 rw [ea,eb]
 unfold H7
 simp only [A5r,A5l]
 by_cases h4:Aj a=4∨Aj b=4
 ·have c4:(decide (Aj a=4)||decide (Aj b=4))=true:=by simp; exact h4
  rw [A58 h4,c4,A5l]; rfl
 ·have c4:(decide (Aj a=4)||decide (Aj b=4))=false:=by simp; omega
  rw [A57 h4,c4,A5p]
  by_cases h3:Aj a=3∨Aj b=3
  ·rw [A58 h3]
   by_cases h0:Aj a=0∨Aj b=0
   ·have c0:(decide (Aj a=3)&&decide (Aj b=0)||decide (Aj a=0)&&decide (Aj b=3))=true:=by simp; omega
    rw [A58 h0,c0,A5l]; rfl
   ·have c0:(decide (Aj a=3)&&decide (Aj b=0)||decide (Aj a=0)&&decide (Aj b=3))=false:=by simp; omega
    have c3:(decide (Aj a=3)||decide (Aj b=3))=true:=by simp; omega
    rw [A57 h0,c0,A5p,c3,A5l]; rfl
  ·have c0:(decide (Aj a=3)&&decide (Aj b=0)||decide (Aj a=0)&&decide (Aj b=3))=false:=by simp; omega
   have c3:(decide (Aj a=3)||decide (Aj b=3))=false:=by simp; omega
   rw [A57 h3,c0,A5p,c3,A5p]
   by_cases h0:Aj a=0∨Aj b=0
   ·have c5:(decide (Aj a=0)||decide (Aj b=0))=true:=by simp; exact h0
    have hz:An a*An b=0:=by
     rcases h0 with h | h
     ·rw [Adi h,Nat.zero_mul]
     ·rw [Adi h,Nat.mul_zero]
    rw [c5,A5l,hz,Ac7,Wd]; rfl
   ·have c5:(decide (Aj a=0)||decide (Aj b=0))=false:=by simp; omega
    have pa:=Te (b:=a) (by omega) (by omega) (by omega)
    have pb:=Te (b:=b) (by omega) (by omega) (by omega)
    have na:Nl (a:Int)=true:=As.2 pa
    have nb:Nl (b:Int)=true:=As.2 pb
    rw [c5,A5p,na,nb,A5r,A5l,A5l]
    exact Awf _ pa pb
theorem At2 (N:Nat) {a b:Nat} {X Y:Nat} (hY:0<Y) (hY2:Y<2^53) (hX:X<2*Y) (em:C3 (b:Int)=(Y:Int)):∀ (k i:Nat),k+i=61 →
 times.Div.L0 N (k+1) a b ((X*2^i / Y:Nat):Int) ((X*2^i%Y:Nat):Int) (i:Int) =
  times.Div.L0 N 1 a b ((X*2^61 / Y:Nat):Int) ((X*2^61%Y:Nat):Int) (61:Int):=by
 intro k
 induction k with
 | zero =>
   intro i hi
   have:i=61:=by omega
   subst this
   rfl
 | succ k ih =>
   intro i hi
   have hq:X*2^i / Y<2^62:=by
    rw [Nat.div_lt_iff_lt_mul hY]
    have h1:X*2^i<2*Y*2^i:=(Nat.mul_lt_mul_right (B4 i)).2 hX
    have h2:2*2^i≤2^62:=by
     rw [A59,← Nat.pow_succ]; exact A50 (by decide) (by omega)
    have h3:2*2^i*Y≤2^62*Y:=A5x _ h2
    rw [Nat.mul_right_comm] at h1
    omega
   have hr:X*2^i%Y<Y:=Nat.mod_lt _ hY
   have hd:=Nat.div_add_mod (X*2^i) Y
   have e2:X*2^(i+1)=X*2^i*2:=by rw [Nat.pow_succ,A6c]
   rw [times.Div.Ax,Aw,E3,em,A5m (by omega),A5l]
   have s1:B5 .u64 ((X*2^i%Y:Nat):Int) (1:Int)=((X*2^i%Y*2:Nat):Int):=by
    have:=Gg (X*2^i%Y) 1 (by decide)
    rw [A5y (a:=X*2^i%Y*2^1) (by omega)] at this
    exact this
   have s2:B5 .u64 ((X*2^i / Y:Nat):Int) (1:Int)=((X*2^i / Y*2^1:Nat):Int):=by
    have:=Gg (X*2^i / Y) 1 (by decide)
    rw [A5y (a:=X*2^i / Y*2^1) (by omega)] at this
    exact this
   have s3:Jf .u64 ((X*2^i / Y*2^1:Nat):Int) (1:Int)=((X*2^i / Y*2^1+1:Nat):Int):=On (k:=1) (b:=1) (by decide) (by omega)
   have ei:Ac ((i:Int)+1)=((i+1:Nat):Int):=by rw [Ap (by omega) (by omega)]; rfl
   rw [s1,s2,s3,ei]
   generalize hq':X*2^i / Y=q at *
   generalize hr':X*2^i%Y=r at *
   have step:∀ c,X*2^i*2=Y*(2*q+c)+(2*r-c*Y)→c*Y≤2*r→2*r<c*Y+Y→X*2^(i+1) / Y=2*q+c∧X*2^(i+1)%Y=2*r-c*Y:=fun c h1 h2 h3=>by
    rw [e2,h1]
    constructor
    ·rw [Nat.mul_add_div hY,Nat.div_eq_of_lt (by omega)]; omega
    ·rw [Nat.mul_add_mod,A5y (by omega)]
   by_cases hc:Y≤r*2
   ·obtain ⟨t1,t2⟩:=step 1 (by rw [Nat.mul_add,A6u,Nat.mul_left_comm]; omega) (by omega) (by omega)
    have:=ih (i+1) (by omega)
    rw [t1,t2] at this
    rw [A5m (by omega),A5l,C5 (by omega) (by omega)]
    have e3:((r*2:Nat):Int)-(Y:Int)=((2*r-1*Y:Nat):Int):=by omega
    have e4:q*2^1+1=2*q+1:=by omega
    rw [e3,e4]
    exact this
   ·obtain ⟨t1,t2⟩:=step 0 (by rw [A6t,Nat.mul_left_comm]; omega) (by omega) (by omega)
    have:=ih (i+1) (by omega)
    rw [t1,t2] at this
    rw [A5q (by omega),A5p]
    have e3:r*2=2*r-0*Y:=by omega
    have e4:q*2^1=2*q+0:=by omega
    rw [e3,e4]
    exact this
theorem Aw6 {a b:Nat} (ha:An a≠0) (hb:An b≠0) :
 times.Div.L0 62 62 a b (Bc (Int.tdiv (C3 a) (C3 b))) (Int.tmod (C3 a) (C3 b)) (0:Int) =
  some (.tup [.int .u64 ((B3 (Br a !=Br b) (B1 (Fg (An a) (An b) 120) (Av a-Av b-121)):Nat):Int),.int .u8 ((flagsOf (Fg (An a) (An b) 120) (Av a-Av b-121):Nat):Int)]):=by
 obtain ⟨a1,a2,a3,a4⟩:=P3 ha
 obtain ⟨b1,b2,b3,b4⟩:=P3 hb
 have ea:=Cq a
 have eb:=Cq b
 have ma:C3 (a:Int)=((An a*2^Ch a:Nat):Int):=rfl
 have mb:C3 (b:Int)=((An b*2^Ch b:Nat):Int):=rfl
 have na:Hu (a:Int)=Av a-Ch a:=rfl
 have nb:Hu (b:Int)=Av b-Ch b:=rfl
 have sL:=Ajf (An a) (An b*2^Ch b) (Ch a) 61
 have hpos:0<An b*2^Ch b:=by omega
 have hq1:2^53≤An a*2^Ch a*2^61 / (An b*2^Ch b):=by
  rw [Nat.le_div_iff_mul_le hpos]; omega
 have hqq:2^60≤An a*2^Ch a*2^61 / (An b*2^Ch b):=by
  rw [Nat.le_div_iff_mul_le hpos]; omega
 have hq2:An a*2^Ch a*2^61 / (An b*2^Ch b)<2^62:=by
  rw [Nat.div_lt_iff_lt_mul hpos]; omega
 have hstick:Fg (An a*2^Ch a) (An b*2^Ch b) 61=Fg (An a) (An b) (61+Ch a-Ch b):=by
  rw [sL]
  have:61+Ch a=61+Ch a-Ch b+Ch b:=by omega
  conv=>lhs; rw [this]
  rw [Ag0]
 have hge1:2^53≤An a*2^(61+Ch a-Ch b) / An b:=by
  have e1:An a*2^Ch a*2^61=An a*2^(61+Ch a-Ch b)*2^Ch b:=by
   rw [A6c,← A6a,A6c,← A6a]
   congr 2
   omega
  rw [e1,Nat.mul_div_mul_right _ _ (B4 _)] at hq1
  exact hq1
 have hge2:2^53≤An a*2^120 / An b:=Azc (t:=53) (by omega) (by omega) (by have:=Fi b; omega) (by omega)
 obtain ⟨s1,s2⟩:=Aje (X:=An a) (Y:=An b) (K:=61+Ch a-Ch b) (L:=120) (E:=Av a-Ch a-(Av b-Ch b)-61-1) (F:=Av a-Av b-121) (by omega) hge1 hge2 (by omega)
 have d1:Bc (Int.tdiv (C3 a) (C3 b))=((An a*2^Ch a*2^0 / (An b*2^Ch b):Nat):Int):=by
  rw [ma,mb,Jk,A6j,A6u]
  have h1:=Nat.div_le_self (An a*2^Ch a) (An b*2^Ch b)
  have h2:An a*2^Ch a / (An b*2^Ch b)<2^64:=A6n h1 (Nat.lt_trans a3 (by decide))
  generalize An a*2^Ch a / (An b*2^Ch b)=q at h2 ⊢
  exact C5 (Int.natCast_nonneg q) (by omega)
 have d2:Int.tmod (C3 a) (C3 b)=((An a*2^Ch a*2^0%(An b*2^Ch b):Nat):Int):=by
  rw [ma,mb,Jj,A6j,A6u]
 rw [d1,d2]
 have lp:=At2 62 (a:=a) (b:=b) hpos b3 (X:=An a*2^Ch a) (by omega) mb 61 0 (by omega)
 refine lp.trans ?_
 rw [times.Div.Ax,Aw,na,nb,A5q (by omega),A5p]
 have we:Ac (Ac (Av a-Ch a-(Av b-Ch b))-61)=Av a-Ch a-(Av b-Ch b)-61:=by
  rw [Ap (x:=Av a-Ch a-(Av b-Ch b)) (by omega) (by omega),Ap (by omega) (by omega)]
 have hne:(((An a*2^Ch a*2^61%(An b*2^Ch b):Nat):Int) !=(0:Int))=decide (An a*2^Ch a*2^61%(An b*2^Ch b)≠0):=by
  rw [A51]; simp only [bne_iff_ne,ne_eq,A5s]; omega
 rw [we,hne]
 have hw:Qj ((An a*2^Ch a*2^61 / (An b*2^Ch b):Nat):Int) (Av a-Ch a-(Av b-Ch b)-61)=true:=As.2 ⟨by omega,by omega,by omega,by omega⟩
 have hn:Ea (a:Int)=Br a:=rfl
 have hn':Ea (b:Int)=Br b:=rfl
 rw [hw,A5l,Afh,hn,hn']
 unfold E6 E5
 rw [A5n,Aop _ rfl rfl hq1,hstick,s1,s2]
theorem times.Div.known:times.Div.Kn:=times.Div.Ae (.cons soft.Kind.known (.cons soft.Sign.known (.cons times.nan.known (.cons times.norm.known (.cons times.signed.known (.cons times.wide.known .nil)))))) fun a b hp=>by
 obtain ⟨ha,hb⟩:=Ag.1 hp
 obtain ⟨a,rfl,hn⟩:=Cb ha
 obtain ⟨b,rfl,hm⟩:=Cb hb
 refine ⟨62,times.Div.out [.i a,.i b],[],?_,Wk.Jc (.cons .int (.cons .int .nil))⟩
 have i1:Ao (9218868437227405312:Int)=true:=Ck (n:=9218868437227405312) (by decide)
 have i2:Ao (0:Int)=true:=Ck (n:=0) (by decide)
 rw [times.Div.ev,ha,hb,Amf,To,To,k3,k3,k0,k0,i1,i2,Ah9,Acn,Afh]
 show _=some (DV.tup [.int .u64 (((Rl a b).1:Nat):Int),.int .u8 (((Rl a b).2:Nat):Int)])
 have ea:Ea (a:Int)=Br a:=rfl
 have eb:Ea (b:Int)=Br b:=rfl
 rw [ea,eb]
 unfold Rl
 rw [A5r,A5l,A5l,A5l,A5l,A5l]
 by_cases h4:Aj a=4∨Aj b=4
 ·have c4:(decide (Aj a=4)||decide (Aj b=4))=true:=by simp; exact h4
  rw [A58 h4,c4,A5l]; rfl
 ·have c4:(decide (Aj a=4)||decide (Aj b=4))=false:=by simp; omega
  rw [A57 h4,c4,A5p]
  by_cases h1:Aj a=Aj b∧(Aj a=3∨Aj a=0)
  ·have c1:(decide (Aj a=3)&&decide (Aj b=3)||decide (Aj a=0)&&decide (Aj b=0))=true:=by simp; omega
   rw [A58 h1,c1,A5l]; rfl
  ·have c1:(decide (Aj a=3)&&decide (Aj b=3)||decide (Aj a=0)&&decide (Aj b=0))=false:=by simp; omega
   rw [A57 h1,c1,A5p]
   by_cases h2:Aj a=3
   ·rw [A58 h2,A5m h2,A5l]; rfl
   ·rw [A57 h2,A5q h2,A5p]
    by_cases h3:Aj b=3∨Aj a=0
    ·have c3:(decide (Aj b=3)||decide (Aj a=0))=true:=by simp; exact h3
     rw [A58 h3,c3,A5l]; rfl
    ·have c3:(decide (Aj b=3)||decide (Aj a=0))=false:=by simp; omega
     rw [A57 h3,c3,A5p]
     by_cases h5:Aj b=0
     ·rw [A58 h5,A5m h5,A5l]; rfl
     ·rw [A57 h5,A5q h5,A5p]
      have pa:=Te (b:=a) (by omega) (by omega) (by omega)
      have pb:=Te (b:=b) (by omega) (by omega) (by omega)
      have na:Nl (a:Int)=true:=As.2 pa
      have nb:Nl (b:Int)=true:=As.2 pb
      have hnb:(C3 (b:Int) !=0)=true:=by
       obtain ⟨_,l2,_,_⟩:=P3 pb
       have mb:C3 (b:Int)=((An b*2^Ch b:Nat):Int):=rfl
       rw [mb]
       simp only [bne_iff_ne,ne_eq]
       omega
      rw [na,nb,hnb,A5r,A5l,A5l,A5l,A5l,Aw6 pa pb]
open Go Go.Den Go.Cv Go.Proofs
set_option maxRecDepth 100000
namespace EqVec
def Af.Add.Bi:List (Nat × Entry):=[(232,sum.Add.spec)]
def Af.Add.E:Env:=Bn (Bh Af.Add.Bi) (fun _=>false) (fun _=>none) (fun _=>none)
theorem Af.Add.ev (N:Nat) (a b:Int):Ci Af.Add.E N f226 (Au f226) [.int .u64 a,.int .u64 b]=bif (Ao a&&Ao b) then some (.int .u64 (Le a b)) else none:=by kernel_rfl
abbrev _root_.Go.Proofs.S1.Af.Add.Kn:=A8 prog 226 Af.Add.spec
theorem Af.Add.Ae (hk:A4 prog Af.Add.Bi) (h:Hyp Af.Add.E f226 Af.Add.ts Af.Add.pre Af.Add.out):Af.Add.Kn :=
 Ar (A5 hk _ _ _) func226 (by kernel_rfl) (by kernel_rfl) h
def Af.Sub.Bi:List (Nat × Entry):=[(207,sum.Sub.spec)]
def Af.Sub.E:Env:=Bn (Bh Af.Sub.Bi) (fun _=>false) (fun _=>none) (fun _=>none)
theorem Af.Sub.ev (N:Nat) (a b:Int):Ci Af.Sub.E N f156 (Au f156) [.int .u64 a,.int .u64 b]=bif (Ao a&&Ao b) then some (.int .u64 (Eh a b)) else none:=by kernel_rfl
abbrev _root_.Go.Proofs.S1.Af.Sub.Kn:=A8 prog 156 Af.Sub.spec
theorem Af.Sub.Ae (hk:A4 prog Af.Sub.Bi) (h:Hyp Af.Sub.E f156 Af.Sub.ts Af.Sub.pre Af.Sub.out):Af.Sub.Kn :=
 Ar (A5 hk _ _ _) func156 (by kernel_rfl) (by kernel_rfl) h
def Af.Mul.Bi:List (Nat × Entry):=[(208,times.Mul.spec)]
def Af.Mul.E:Env:=Bn (Bh Af.Mul.Bi) (fun _=>false) (fun _=>none) (fun _=>none)
theorem Af.Mul.ev (N:Nat) (a b:Int):Ci Af.Mul.E N f157 (Au f157) [.int .u64 a,.int .u64 b]=bif (Ao a&&Ao b) then some (.int .u64 (Em a b)) else none:=by kernel_rfl
abbrev _root_.Go.Proofs.S1.Af.Mul.Kn:=A8 prog 157 Af.Mul.spec
theorem Af.Mul.Ae (hk:A4 prog Af.Mul.Bi) (h:Hyp Af.Mul.E f157 Af.Mul.ts Af.Mul.pre Af.Mul.out):Af.Mul.Kn :=
 Ar (A5 hk _ _ _) func157 (by kernel_rfl) (by kernel_rfl) h
def Af.fit.Bi:List (Nat × Entry):=[]
def Af.fit.E:Env:=Bn (Bh Af.fit.Bi) (fun _=>false) (fun _=>none) (fun _=>none)
theorem Af.fit.ev (N:Nat) (x y:List Int):Ci Af.fit.E N f225 (Au f225) [.ints .arg .u64 x,.ints .arg .u64 y]=some (.bool (bif ((length x:Int)==(length y:Int)) then (Ev (length x:Int) 64) else false)) :=
 Eq.trans (by kernel_rfl)
 (Ay (Rt ((length x:Int)==(length y:Int))) (Ay (N6 ((length x:Int)==(length y:Int))) (Ay (N6 ((length x:Int)==(length y:Int))) (Ay (X5 ((length x:Int)==(length y:Int))) rfl))))
abbrev _root_.Go.Proofs.S1.Af.fit.Kn:=A8 prog 225 Af.fit.spec
theorem Af.fit.Ae (hk:A4 prog Af.fit.Bi) (h:Hyp Af.fit.E f225 Af.fit.ts Af.fit.pre Af.fit.out):Af.fit.Kn :=
 Ar (A5 hk _ _ _) func225 (by kernel_rfl) (by kernel_rfl) h
def Af.G9.hint:Nat→Option Bf
 | 0=>some { keep:=[0,1,6,13,14],objs:=[],boxes:=[] }
 | _=>none
def Af.G9.Bi:List (Nat × Entry):=[(226,Af.Add.spec),(157,Af.Mul.spec),(225,Af.fit.spec)]
def Af.G9.E:Env:=Bn (Bh Af.G9.Bi) (fun _=>false) Af.G9.hint (fun _=>none)
section
variable (N M:Nat) (x y:List Int) (p6 p14:Int)
def Af.G9.L0:Option DV:=Ce Af.G9.E N f189 (Au f189) [1,1,1,0,1,0] [] M ⟨Ik 30 [(0,.ints .arg .u64 x),(1,.ints .arg .u64 y),(6,.int .u64 p6),(13,.int .i64 (length x:Int)),(14,.int .i64 p14)],[]⟩
theorem Af.G9.Ax:Af.G9.L0 N (M+1) x y p6 p14=bif (Ba p14 (length x:Int)) then bif ((decide (0≤p14))&&(decide (p14<(length x:Int)))) then bif ((decide (0≤p14))&&(decide (p14<(length y:Int)))) then bif (Ao (getD x (toNat p14) 0)&&Ao (getD y (toNat p14) 0)) then bif (Ao p6&&Ao (Em (getD x (toNat p14) 0) (getD y (toNat p14) 0))) then Af.G9.L0 N M x y (Le p6 (Em (getD x (toNat p14) 0) (getD y (toNat p14) 0))) (Ac (p14+1)) else none else none else none else none else some (.tup [.int .u64 p6,.int .i64 0]) :=
 Eq.trans (by kernel_rfl)
 (Fe (C4 (Rj _ _) (C4 (Rj _ _) (C4 (Cr _) (C4 (Cr _) rfl rfl) rfl) rfl) rfl) rfl)
theorem Af.G9.ev:Ci Af.G9.E N f189 (Au f189) [.ints .arg .u64 x,.ints .arg .u64 y]=bif (!(Yv x y)) then some (.tup [.int .u64 0,.int .i64 3]) else Af.G9.L0 N N x y 0 0:=by kernel_rfl
end
abbrev _root_.Go.Proofs.S1.Af.G9.Kn:=A8 prog 189 Af.G9.spec
theorem Af.G9.Ae (hk:A4 prog Af.G9.Bi) (h:Hyp Af.G9.E f189 Af.G9.ts Af.G9.pre Af.G9.out):Af.G9.Kn :=
 Ar (A5 hk _ _ _) func189 (by kernel_rfl) (by kernel_rfl) h
end EqVec
open Go Go.Den Go.Cv Go.Proofs Ieee
open EqVec
theorem Af.Add.known:Af.Add.Kn:=Af.Add.Ae (.cons sum.Add.known .nil) fun a b hp=>by
 have hp:(Ao a&&Ao b)=true:=hp
 refine ⟨0,Af.Add.out [.i a,.i b],[],?_,.int⟩
 rw [Af.Add.ev,hp]; rfl
theorem Af.Sub.known:Af.Sub.Kn:=Af.Sub.Ae (.cons sum.Sub.known .nil) fun a b hp=>by
 have hp:(Ao a&&Ao b)=true:=hp
 refine ⟨0,Af.Sub.out [.i a,.i b],[],?_,.int⟩
 rw [Af.Sub.ev,hp]; rfl
theorem Af.Mul.known:Af.Mul.Kn:=Af.Mul.Ae (.cons times.Mul.known .nil) fun a b hp=>by
 have hp:(Ao a&&Ao b)=true:=hp
 refine ⟨0,Af.Mul.out [.i a,.i b],[],?_,.int⟩
 rw [Af.Mul.ev,hp]; rfl
theorem Atk (x y:List Int):(bif ((length x:Int)==(length y:Int)) then (Ev (length x:Int) (64:Int)) else false)=Yv x y:=by
 unfold Yv
 rw [E3,A51]
 by_cases h:x.length=y.length
 ·have:((x.length:Int)==(y.length:Int))=true:=by rw [beq_iff_eq]; omega
  rw [this,A5l,A5m h,A6y,A5s,A5s]; omega
 ·have:((x.length:Int)==(y.length:Int))=false:=by rw [A6g]; omega
  rw [this,A5p,A5q h,Bool.false_and]
theorem Af.fit.known:Af.fit.Kn:=Af.fit.Ae .nil fun x y _=>by
 refine ⟨0,Af.fit.out [.l x,.l y],[],?_,.bool⟩
 rw [Af.fit.ev,Atk]; rfl
theorem Afw {x y:List Int}:Yv x y=true↔x.length=y.length∧x.length≤64:=by unfold Yv; simp
theorem Aio {l:List Int} {i:Nat} (h:i<l.length):l.drop i=l.getD i 0::l.drop (i+1):=by
 rw [List.drop_eq_getElem_cons h,A5v,A52 h]; rfl
theorem Wj {x y:List Int} {i:Nat} (s:Nat) (hx:i<x.length) (hy:i<y.length) :
 Tz s (x.drop i) (y.drop i)=Tz (Fz s (H7 (x.getD i 0).toNat (y.getD i 0).toNat).1).1 (x.drop (i+1)) (y.drop (i+1)):=by
 rw [Aio hx,Aio hy]; rfl
theorem At0 (N:Nat) {x y:List Int} (hf:Yv x y=true) (hx:Ak x=true) (hy:Ak y=true):∀ (k i F s:Nat),i+k=x.length→k<F→s<2^64 →
 Af.G9.L0 N F x y (s:Int) (i:Int)=some (.tup [.int .u64 ((Tz s (x.drop i) (y.drop i):Nat):Int),.int .i64 (0:Int)]):=by
 obtain ⟨h1,h2⟩:=Afw.1 hf
 intro k
 induction k with
 | zero =>
   intro i F s hi hF hs
   obtain ⟨F,rfl⟩:∃ G,F=G+1:=⟨F-1,by omega⟩
   rw [Af.G9.Ax,Aw,A5q (by omega),A5p,A5z (by omega)]
   rfl
 | succ k ih =>
   intro i F s hi hF hs
   obtain ⟨F,rfl⟩:∃ G,F=G+1:=⟨F-1,by omega⟩
   have c1:decide ((i:Int)<(x.length:Int))=true:=A5m (by omega)
   have c2:decide ((i:Int)<(y.length:Int))=true:=A5m (by omega)
   have c3:decide ((0:Int)≤(i:Int))=true:=A5m (by omega)
   have g1:=Jy hx (show i<x.length by omega)
   have g2:=Jy hy (show i<y.length by omega)
   have em:Em (x.getD i 0) (y.getD i 0)=(((H7 (x.getD i 0).toNat (y.getD i 0).toNat).1:Nat):Int):=rfl
   have ea:∀ t:Nat,Le (s:Int) (t:Int)=(((Fz s t).1:Nat):Int):=fun t=>rfl
   rw [Af.G9.Ax,Aw,c1,c2,c3,A5n,g1,g2,em,ea,Ck hs,Ck Zg,A5r,A5l,A5l,A5l,A5l,A5l,Ap (by omega) (by omega),Wj s (by omega) (by omega)]
   exact ih (i+1) F _ (by omega) (by omega) (Wu hs Zg).1
theorem Af.G9.known:Af.G9.Kn:=Af.G9.Ae (.cons Af.Add.known (.cons Af.Mul.known (.cons Af.fit.known .nil))) fun x y hp=>by
 obtain ⟨h1,hy⟩:=Ag.1 hp
 obtain ⟨hf,hx⟩:=Ag.1 h1
 refine ⟨x.length+1,Af.G9.out [.l x,.l y],[],?_,Wk.Jc (.cons .int (.cons .int .nil))⟩
 rw [Af.G9.ev,hf,A6k,A5p]
 exact At0 _ hf hx hy x.length 0 _ 0 (by omega) (by omega) (by decide)
open Go Go.Den Go.Cv Go.Proofs
set_option maxRecDepth 100000
namespace EqMat
def Aa.size.Bi:List (Nat × Entry):=[]
def Aa.size.E:Env:=Bn (Bh Aa.size.Bi) (fun _=>false) (fun _=>none) (fun _=>none)
theorem Aa.size.ev (N:Nat) (n:Int):Ci Aa.size.E N f204 (Au f204) [.int .i64 n]=some (.bool (bif (Ev 0 n) then (Ev n 6) else false)) :=
 Eq.trans (by kernel_rfl)
 (Ay (Rt (Ev 0 n)) (Ay (N6 (Ev 0 n)) (Ay (X5 (Ev 0 n)) rfl)))
abbrev _root_.Go.Proofs.S1.Aa.size.Kn:=A8 prog 204 Aa.size.spec
theorem Aa.size.Ae (hk:A4 prog Aa.size.Bi) (h:Hyp Aa.size.E f204 Aa.size.ts Aa.size.pre Aa.size.out):Aa.size.Kn :=
 Ar (A5 hk _ _ _) func204 (by kernel_rfl) (by kernel_rfl) h
def Aa.Check.Bi:List (Nat × Entry):=[(204,Aa.size.spec)]
def Aa.Check.E:Env:=Bn (Bh Aa.Check.Bi) (fun _=>false) (fun _=>none) (fun _=>none)
theorem Aa.Check.ev (N:Nat) (r c:Int) (l:List Int):Ci Aa.Check.E N f160 (Au f160) [.agg [.int .i64 r,.int .i64 c,.ints .arg .u64 l]]=bif (((!(Cd r))||(!(Cd c)))||((length l:Int) !=(Ac (r*c)))) then some (.int .i64 1) else some (.int .i64 0) :=
 Eq.trans (by kernel_rfl)
 (Ay (Agx (Cd r)) (Ay (Wz (Cd r)) (Ay (Wz (Cd r)) (Ay (Wz (Cd r)) (Ay (Agy (Cd r)) (Ay (Ayy (Cd r) (Cd c)) (Ay (Avf (Cd r) (Cd c)) (Ay (Avf (Cd r) (Cd c)) (Ay (Ayy (Cd r) (Cd c)) (Ay (Avf (Cd r) (Cd c)) (Ay (Ayy (Cd r) (Cd c)) (Ay (Avf (Cd r) (Cd c)) (Ay (A1t (Cd r) (Cd c)) (Ay (A1t (Cd r) (Cd c)) (Ay (A4d (Cd r) (Cd c)) (C4 (A4e _ _ _) rfl rfl))))))))))))))))
abbrev _root_.Go.Proofs.S1.Aa.Check.Kn:=A8 prog 160 Aa.Check.spec
theorem Aa.Check.Ae (hk:A4 prog Aa.Check.Bi) (h:Hyp Aa.Check.E f160 Aa.Check.ts Aa.Check.pre Aa.Check.out):Aa.Check.Kn :=
 Ar (A5 hk _ _ _) func160 (by kernel_rfl) (by kernel_rfl) h
def Aa.get.Bi:List (Nat × Entry):=[]
def Aa.get.E:Env:=Bn (Bh Aa.get.Bi) (fun _=>false) (fun _=>none) (fun _=>none)
theorem Aa.get.ev (N:Nat) (r c:Int) (l:List Int) (i k:Int):Ci Aa.get.E N f193 (Au f193) [.agg [.int .i64 r,.int .i64 c,.ints .arg .u64 l],.int .i64 i,.int .i64 k]=bif ((decide (0≤(Ac ((Ac (i*c))+k))))&&(decide ((Ac ((Ac (i*c))+k))<(length l:Int)))) then some (.int .u64 (getD l (toNat (Ac ((Ac (i*c))+k))) 0)) else none:=by kernel_rfl
abbrev _root_.Go.Proofs.S1.Aa.get.Kn:=A8 prog 193 Aa.get.spec
theorem Aa.get.Ae (hk:A4 prog Aa.get.Bi) (h:Hyp Aa.get.E f193 Aa.get.ts Aa.get.pre Aa.get.out):Aa.get.Kn :=
 Ar (A5 hk _ _ _) func193 (by kernel_rfl) (by kernel_rfl) h
def Aa.two.Bi:List (Nat × Entry):=[(160,Aa.Check.spec)]
def Aa.two.E:Env:=Bn (Bh Aa.two.Bi) (fun _=>false) (fun _=>none) (fun _=>none)
theorem Aa.two.ev (N:Nat) (r c:Int) (l:List Int) (p q:Int) (m:List Int):Ci Aa.two.E N f186 (Au f186) [.agg [.int .i64 r,.int .i64 c,.ints .arg .u64 l],.agg [.int .i64 p,.int .i64 q,.ints .arg .u64 m]]=bif (((M7 r c l) !=(0:Int))||((M7 p q m) !=(0:Int))) then some (.int .i64 1) else some (.int .i64 0) :=
 Eq.trans (by kernel_rfl)
 (Ay (Z0 ((M7 r c l) !=(0:Int))) (Ay (Yt ((M7 r c l) !=(0:Int))) (Ay (Yt ((M7 r c l) !=(0:Int))) (Ay (tt6 ((M7 r c l) !=(0:Int))) (C4 (tt5 _ _) rfl rfl)))))
abbrev _root_.Go.Proofs.S1.Aa.two.Kn:=A8 prog 186 Aa.two.spec
theorem Aa.two.Ae (hk:A4 prog Aa.two.Bi) (h:Hyp Aa.two.E f186 Aa.two.ts Aa.two.pre Aa.two.out):Aa.two.Kn :=
 Ar (A5 hk _ _ _) func186 (by kernel_rfl) (by kernel_rfl) h
def Aa.Row.Bi:List (Nat × Entry):=[]
def Aa.Row.E:Env:=Bn (Bh Aa.Row.Bi) (fun _=>false) (fun _=>none) (fun _=>none)
theorem Aa.Row.ev (N:Nat) (r c:Int) (l:List Int) (i f:Int):Ci Aa.Row.E N f190 (Au f190) [.agg [.int .i64 r,.int .i64 c,.ints .arg .u64 l],.int .i64 i,.int .i64 f]=bif (((decide ((0:Int)≤(Ac ((Ac (i*c))+f))))&&(decide ((Ac ((Ac (i*c))+f))≤(Ac ((Ac (i+1))*c)))))&&((decide ((0:Int)≤(Ac ((Ac (i+1))*c))))&&(decide ((Ac ((Ac (i+1))*c))≤(length l:Int))))) then bif (decide (0+(length (List.drop (toNat (Ac ((Ac (i*c))+f))) (List.take (toNat (Ac ((Ac (i+1))*c))) l)))≤Kg)) then some (.ints (.own 22 37) .u64 ([]++(List.drop (toNat (Ac ((Ac (i*c))+f))) (List.take (toNat (Ac ((Ac (i+1))*c))) l)))) else none else none :=
 Eq.trans (by kernel_rfl)
 (C4 (A1s _ _ _ _) rfl rfl)
abbrev _root_.Go.Proofs.S1.Aa.Row.Kn:=A8 prog 190 Aa.Row.spec
theorem Aa.Row.Ae (hk:A4 prog Aa.Row.Bi) (h:Hyp Aa.Row.E f190 Aa.Row.ts Aa.Row.pre Aa.Row.out):Aa.Row.Kn :=
 Ar (A5 hk _ _ _) func190 (by kernel_rfl) (by kernel_rfl) h
def Aa.Dt.hint:Nat→Option Bf
 | 0=>some { keep:=[1,3,7,8],objs:=[(0,7,100007,.ints 37 .u64 [])],boxes:=[3] }
 | _=>none
def Aa.Dt.Bi:List (Nat × Entry):=[(193,Aa.get.spec)]
def Aa.Dt.E:Env:=Bn (Bh Aa.Dt.Bi) (fun _=>false) Aa.Dt.hint (fun _=>none)
section
variable (N M:Nat) (r c:Int) (l:List Int) (k f p8:Int) (p7:List Int)
def Aa.Dt.L0:Option DV:=Ce Aa.Dt.E N f191 (Au f191) [1,1,0,1,0] [] M ⟨Ik 24 [(1,.int .i64 k),(3,.ptr 3 0 0),(7,.oref 100007),(8,.int .i64 p8)],[(3,false,.box [.int .i64 r,.int .i64 c,.ints .arg .u64 l]),(100007,false,.ints 37 .u64 p7)]⟩
theorem Aa.Dt.Ax:Aa.Dt.L0 N (M+1) r c l k p8 p7=bif (Ba p8 r) then bif (Hi r c l p8 k) then bif (decide ((length p7)+1≤Kg)) then Aa.Dt.L0 N M r c l k (Ac (p8+1)) (p7++[(Co c l p8 k)]) else none else none else some (.ints (.own 100007 37) .u64 p7):=by kernel_rfl
theorem Aa.Dt.ev:Ci Aa.Dt.E N f191 (Au f191) [.agg [.int .i64 r,.int .i64 c,.ints .arg .u64 l],.int .i64 k,.int .i64 f] =
 Aa.Dt.L0 N N r c l k f []:=by kernel_rfl
end
abbrev _root_.Go.Proofs.S1.Aa.Dt.Kn:=A8 prog 191 Aa.Dt.spec
theorem Aa.Dt.Ae (hk:A4 prog Aa.Dt.Bi) (h:Hyp Aa.Dt.E f191 Aa.Dt.ts Aa.Dt.pre Aa.Dt.out):Aa.Dt.Kn :=
 Ar (A5 hk _ _ _) func191 (by kernel_rfl) (by kernel_rfl) h
def Aa.Eb.Bi:List (Nat × Entry):=[]
def Aa.Eb.E:Env:=Bn (Bh Aa.Eb.Bi) (fun _=>false) (fun _=>none) (fun _=>none)
theorem Aa.Eb.ev (N:Nat) (i k:Int):Ci Aa.Eb.E N f205 (Au f205) [.int .i64 i,.int .i64 k]=some (.int .u64 0):=by kernel_rfl
abbrev _root_.Go.Proofs.S1.Aa.Eb.Kn:=A8 prog 205 Aa.Eb.spec
theorem Aa.Eb.Ae (hk:A4 prog Aa.Eb.Bi) (h:Hyp Aa.Eb.E f205 Aa.Eb.ts Aa.Eb.pre Aa.Eb.out):Aa.Eb.Kn :=
 Ar (A5 hk _ _ _) func205 (by kernel_rfl) (by kernel_rfl) h
def Aa.Hn.Bi:List (Nat × Entry):=[]
def Aa.Hn.E:Env:=Bn (Bh Aa.Hn.Bi) (fun _=>false) (fun _=>none) (fun _=>none)
theorem Aa.Hn.ev (N:Nat) (i k:Int):Ci Aa.Hn.E N f246 (Au f246) [.int .i64 i,.int .i64 k]=bif (i==k) then some (.int .u64 4607182418800017408) else some (.int .u64 0):=by kernel_rfl
abbrev _root_.Go.Proofs.S1.Aa.Hn.Kn:=A8 prog 246 Aa.Hn.spec
theorem Aa.Hn.Ae (hk:A4 prog Aa.Hn.Bi) (h:Hyp Aa.Hn.E f246 Aa.Hn.ts Aa.Hn.pre Aa.Hn.out):Aa.Hn.Kn :=
 Ar (A5 hk _ _ _) func246 (by kernel_rfl) (by kernel_rfl) h
def Aa.Fq.Bi:List (Nat × Entry):=[(193,Aa.get.spec)]
def Aa.Fq.E:Env:=Bn (Bh Aa.Fq.Bi) (fun _=>false) (fun _=>none) (fun _=>none)
theorem Aa.Fq.ev (N:Nat) (i k:Int) (r c:Int) (l:List Int):Ci Aa.Fq.E N f220 (Au f220) [.int .i64 i,.int .i64 k,.cellp [.int .i64 r,.int .i64 c,.ints .arg .u64 l]]=bif (Hi r c l k i) then some (.int .u64 (Co c l k i)) else none:=by kernel_rfl
abbrev _root_.Go.Proofs.S1.Aa.Fq.Kn:=A8 prog 220 Aa.Fq.spec
theorem Aa.Fq.Ae (hk:A4 prog Aa.Fq.Bi) (h:Hyp Aa.Fq.E f220 Aa.Fq.ts Aa.Fq.pre Aa.Fq.out):Aa.Fq.Kn :=
 Ar (A5 hk _ _ _) func220 (by kernel_rfl) (by kernel_rfl) h
def Aa.Fs.Bi:List (Nat × Entry):=[(193,Aa.get.spec)]
def Aa.Fs.E:Env:=Bn (Bh Aa.Fs.Bi) (fun _=>false) (fun _=>none) (fun _=>none)
theorem Aa.Fs.ev (N:Nat) (i k:Int) (r c:Int) (l:List Int) (x y:Int):Ci Aa.Fs.E N f192 (Au f192) [.int .i64 i,.int .i64 k,.cellp [.int .i64 r,.int .i64 c,.ints .arg .u64 l],.cellp [.int .i64 x],.cellp [.int .i64 y]]=bif (Hi r c l (Ac (x+i)) (Ac (y+k))) then some (.int .u64 (Co c l (Ac (x+i)) (Ac (y+k)))) else none:=by kernel_rfl
abbrev _root_.Go.Proofs.S1.Aa.Fs.Kn:=A8 prog 192 Aa.Fs.spec
theorem Aa.Fs.Ae (hk:A4 prog Aa.Fs.Bi) (h:Hyp Aa.Fs.E f192 Aa.Fs.ts Aa.Fs.pre Aa.Fs.out):Aa.Fs.Kn :=
 Ar (A5 hk _ _ _) func192 (by kernel_rfl) (by kernel_rfl) h
def Aa.Hl.Bi:List (Nat × Entry):=[(191,Aa.Dt.spec),(190,Aa.Row.spec),(189,Af.G9.spec)]
def Aa.Hl.E:Env:=Bn (Bh Aa.Hl.Bi) (fun _=>false) (fun _=>none) (fun _=>none)
theorem Aa.Hl.ev (N:Nat) (i k:Int) (r c:Int) (l:List Int) (p q:Int) (m:List Int):Ci Aa.Hl.E N f188 (Au f188) [.int .i64 i,.int .i64 k,.cellp [.int .i64 r,.int .i64 c,.ints .arg .u64 l],.cellp [.int .i64 p,.int .i64 q,.ints .arg .u64 m]]=bif (Qo r c l i&&decide ((0:Int)=0)) then bif (Gw p q m k&&Cz (0≤(0:Int)∧(0:Int)≤p)) then bif ((Yv (Gt c l i) (By q m k 0 (toNat (p-0)))&&Ak (Gt c l i))&&Ak (By q m k 0 (toNat (p-0)))) then some (.int .u64 (Lx (Gt c l i) (By q m k 0 (toNat (p-0))))) else none else none else none :=
 Eq.trans (by kernel_rfl)
 (C4 (Cr _) (C4 (Cr _) (C4 (Cr _) rfl rfl) rfl) rfl)
abbrev _root_.Go.Proofs.S1.Aa.Hl.Kn:=A8 prog 188 Aa.Hl.spec
theorem Aa.Hl.Ae (hk:A4 prog Aa.Hl.Bi) (h:Hyp Aa.Hl.E f188 Aa.Hl.ts Aa.Hl.pre Aa.Hl.out):Aa.Hl.Kn :=
 Ar (A5 hk _ _ _) func188 (by kernel_rfl) (by kernel_rfl) h
end EqMat
open Go Go.Den Go.Cv Go.Proofs
open EqMat
theorem Lp {a b:Int} (h1:0≤a) (h2:a<20) (h3:0≤b) (h4:b<20):0≤a*b∧a*b<400:=by
 have:=Int.mul_nonneg h1 h3
 have h5:a*b≤19*19:=Int.mul_le_mul (by omega) (by omega) h3 (by omega)
 omega
theorem Aa.size.known:Aa.size.Kn:=Aa.size.Ae .nil fun n _=>by
 refine ⟨0,Aa.size.out [.i n],[],?_,.bool⟩
 have e:(bif (Ev (0:Int) n) then (Ev n (6:Int)) else false)=Cd n:=by
  unfold Cd
  rw [E3,E3]
  cases decide (0≤n)<;>rfl
 rw [Aa.size.ev,e]; rfl
theorem Ais (r c:Int) (l:List Int):(((!(Cd r))||(!(Cd c)))||((length l:Int) !=(Ac (r*c))))=!(Be r c l):=by
 unfold Be
 cases h1:Cd r with
 | false=>rfl
 | true =>
   cases h2:Cd c with
   | false=>rfl
   | true =>
     obtain ⟨r1,r2⟩:=Jn.1 h1
     obtain ⟨c1,c2⟩:=Jn.1 h2
     have:=Lp (a:=r) (b:=c) r1 (by omega) c1 (by omega)
     rw [Ap (by omega) (by omega),A51]
     simp
theorem Aa.Check.known:Aa.Check.Kn:=Aa.Check.Ae (.cons Aa.size.known .nil) fun r c l _=>by
 refine ⟨0,Aa.Check.out [.i r,.i c,.l l],[],?_,.int⟩
 rw [Aa.Check.ev,Ais]
 show _=some (DV.int .i64 (M7 r c l))
 unfold M7
 cases Be r c l<;>rfl
theorem Ns {c i k:Int} {l:List Int} {R:Int} (h:Hi R c l i k=true):Ac (Ac (i*c)+k)=i*c+k∧0≤i*c+k∧i*c+k<l.length:=by
 obtain ⟨h1,h2,h3,h4,h5,h6,h7,_⟩:=As.1 h
 have:=Lp h1 (by omega) h5 (by omega)
 rw [Ap (x:=i*c) (by omega) (by omega),Ap (by omega) (by omega)]
 omega
theorem Aa.get.known:Aa.get.Kn:=Aa.get.Ae .nil fun r c l i k hp=>by
 obtain ⟨e,h1,h2⟩:=Ns (R:=r) (show Hi r c l i k=true from hp)
 refine ⟨0,Aa.get.out [.i r,.i c,.l l,.i i,.i k],[],?_,.int⟩
 rw [Aa.get.ev,e,A5m h1,A5m h2]
 rfl
theorem U1 (r c:Int) (l:List Int):((M7 r c l) !=(0:Int))=!(Be r c l):=by
 unfold M7
 cases Be r c l<;>rfl
theorem Aa.two.known:Aa.two.Kn:=Aa.two.Ae (.cons Aa.Check.known .nil) fun r c l p q m _=>by
 refine ⟨0,Aa.two.out [.i r,.i c,.l l,.i p,.i q,.l m],[],?_,.int⟩
 rw [Aa.two.ev,U1,U1]
 show _=some (DV.int .i64 (Aeq r c l p q m))
 unfold Aeq
 cases Be r c l<;>cases Be p q m<;>rfl
theorem Aa.Row.known:Aa.Row.Kn:=Aa.Row.Ae .nil fun r c l i f hp=>by
 obtain ⟨h0,hf⟩:=Ag.1 hp
 obtain rfl:=A6b hf
 obtain ⟨hr,hi⟩:=Ag.1 h0
 have hi:=As.1 hi
 obtain ⟨R,C,rfl,rfl,r6,c6,hl⟩:=Ef hr
 obtain ⟨I,rfl⟩:∃ k:Nat,i=k:=⟨i.toNat,by omega⟩
 have hm:=Lp (a:=(I:Int)) (b:=(C:Int)) (by omega) (by omega) (by omega) (by omega)
 have hm2:=Lp (a:=(I:Int)+1) (b:=(C:Int)) (by omega) (by omega) (by omega) (by omega)
 have hle:(I+1)*C≤R*C:=A5x C (by omega)
 have hle2:I*C≤(I+1)*C:=A5x C (by omega)
 have e1:(I:Int)*(C:Int)=((I*C:Nat):Int):=(A56 _ _).symm
 have e2:((I:Int)+1)*(C:Int)=(((I+1)*C:Nat):Int):=by rw [A56]; rfl
 refine ⟨0,.ints (.own 22 tB) .u64 (Gt (C:Int) l (I:Int)),[22],?_,.drop _ _ _ _ (List.mem_singleton.2 rfl)⟩
 rw [Aa.Row.ev,Ap (x:=(I:Int)+1) (by omega) (by omega),Ap (x:=(I:Int)*(C:Int)) (by omega) (by omega),Int.add_zero,Ap (x:=(I:Int)*(C:Int)) (by omega) (by omega),Ap (x:=((I:Int)+1)*(C:Int)) (by omega) (by omega)]
 unfold Gt
 have d1:decide ((0:Int)≤(I:Int)*(C:Int))=true:=A5m (by omega)
 have d2:decide ((I:Int)*(C:Int)≤((I:Int)+1)*(C:Int))=true:=A5m (by rw [e1,e2]; omega)
 have d3:decide ((0:Int)≤((I:Int)+1)*(C:Int))=true:=A5m (by omega)
 have d4:decide (((I:Int)+1)*(C:Int)≤(l.length:Int))=true:=A5m (by rw [e2]; omega)
 have d5:decide (0+(List.drop ((I:Int)*(C:Int)).toNat (List.take (((I:Int)+1)*(C:Int)).toNat l)).length≤Kg)=true:=by
  refine A5m ?_
  rw [List.length_drop,List.length_take]
  unfold Kg
  omega
 rw [d1,d2,d3,d4,d5]
 rfl
theorem J1 (c b i:Int) (n:Nat) (l:List Int):(By c l b i n).length=n:=by unfold By; rw [A6r,A6o]
theorem Axb (r c:Int) (l:List Int) (k:Int):By c l k 0 (toNat (r-0))=Rm r c l k:=by
 unfold By Rm
 rw [Int.sub_zero]
 refine List.map_congr_left fun j _=>?_
 rw [Int.zero_add]
theorem Ai5 {r:Int} (h:0≤r):Cz (0≤(0:Int)∧0≤r)=true:=As.2 ⟨Int.le_refl _,h⟩
theorem At8 (N:Nat) {R C K f:Nat} {l:List Int} (r6:R≤6) (c6:C≤6) (hl:l.length=R*C) (hk:K<C):∀ (k i F:Nat),f+i+k=R→k<F →
 Aa.Dt.L0 N F (R:Int) (C:Int) l (K:Int) ((f+i:Nat):Int) (By (C:Int) l (K:Int) (f:Int) i)=some (.ints (.own 100007 tB) .u64 (By (C:Int) l (K:Int) (f:Int) (R-f))):=by
 intro k
 induction k with
 | zero =>
   intro i F hi hF
   obtain ⟨F,rfl⟩:∃ G,F=G+1:=⟨F-1,by omega⟩
   rw [Aa.Dt.Ax,Aw,A5q (by omega),A5p,show R-f=i by omega]
 | succ k ih =>
   intro i F hi hF
   obtain ⟨F,rfl⟩:∃ G,F=G+1:=⟨F-1,by omega⟩
   have d:decide ((By (C:Int) l (K:Int) (f:Int) i).length+1≤Kg)=true:=A5m (by rw [J1]; unfold Kg; omega)
   rw [Aa.Dt.Ax,Aw,A5m (by omega),A5l,Ix r6 c6 hl (show f+i<R by omega) hk,A5l,d,A5l,Ap (by omega) (by omega)]
   have:=ih (i+1) F (by omega) (by omega)
   unfold By at this ⊢
   rw [List.range_succ,List.map_append] at this
   exact this
theorem Aa.Dt.known:Aa.Dt.Kn:=Aa.Dt.Ae (.cons Aa.get.known .nil) fun r c l k f hp=>by
 obtain ⟨h0,hf⟩:=Ag.1 (show (Gw r c l k&&Cz (0≤f∧f≤r))=true from hp)
 have hf:=As.1 hf
 obtain ⟨hr,hi⟩:=Ag.1 h0
 have hi:=As.1 hi
 obtain ⟨R,C,rfl,rfl,r6,c6,hl⟩:=Ef hr
 obtain ⟨K,rfl⟩:∃ j:Nat,k=j:=⟨k.toNat,by omega⟩
 obtain ⟨f,rfl⟩:∃ j:Nat,f=j:=⟨f.toNat,by omega⟩
 refine ⟨8,.ints (.own 100007 tB) .u64 (By (C:Int) l (K:Int) (f:Int) (R-f)),[100007],?_,?_⟩
 ·rw [Aa.Dt.ev]
  exact At8 8 r6 c6 hl (by omega) (R-f) 0 8 (by omega) (by omega)
 ·show Wk _ _ (DV.ints .fresh .u64 (By (C:Int) l (K:Int) (f:Int) (toNat ((R:Int)-(f:Int)))))
  rw [show toNat ((R:Int)-(f:Int))=R-f by omega]
  exact .drop _ _ _ _ (List.mem_singleton.2 rfl)
theorem Yo {r c i k:Int} {l:List Int} (h:Be r c l=true) (h1:0≤i) (h2:i<r) (h3:0≤k) (h4:k<c) (R:Int):Hi R c l i k=true:=by
 obtain ⟨R',C,rfl,rfl,r6,c6,hl⟩:=Ef h
 obtain ⟨I,rfl⟩:∃ j:Nat,i=j:=⟨i.toNat,by omega⟩
 obtain ⟨K,rfl⟩:∃ j:Nat,k=j:=⟨k.toNat,by omega⟩
 exact Ix r6 c6 hl (by omega) (by omega)
theorem Aa.Eb.known:Aa.Eb.Kn:=Aa.Eb.Ae .nil fun i k _=>by
 refine ⟨0,Aa.Eb.out [.i i,.i k],[],?_,.int⟩
 rw [Aa.Eb.ev]; rfl
theorem Aa.Hn.known:Aa.Hn.Kn:=Aa.Hn.Ae .nil fun i k _=>by
 refine ⟨0,Aa.Hn.out [.i i,.i k],[],?_,.int⟩
 rw [Aa.Hn.ev]
 show _=some (DV.int .u64 (Uy i k))
 unfold Uy
 by_cases h:i=k
 ·have:(i==k)=true:=by rw [h]; simp
  rw [this,A58 h]; rfl
 ·have:(i==k)=false:=by simpa using h
  rw [this,A57 h]; rfl
theorem Aa.Fq.known:Aa.Fq.Kn:=Aa.Fq.Ae (.cons Aa.get.known .nil) fun i k r c l hp=>by
 have hp:Hi r c l k i=true:=hp
 refine ⟨0,Aa.Fq.out [.i i,.i k,.i r,.i c,.l l],[],?_,.int⟩
 rw [Aa.Fq.ev,hp]; rfl
theorem Aa.Fs.known:Aa.Fs.Kn:=Aa.Fs.Ae (.cons Aa.get.known .nil) fun i k r c l x y hp=>by
 obtain ⟨h1,h2⟩:=Ag.1 hp
 have h2:=As.1 h2
 refine ⟨0,Aa.Fs.out [.i i,.i k,.i r,.i c,.l l,.i x,.i y],[],?_,.int⟩
 rw [Aa.Fs.ev,Ap (x:=x+i) (by omega) (by omega),Ap (x:=y+k) (by omega) (by omega),h1]; rfl
theorem Uh {R C:Nat} {l:List Int} (hl:l.length=R*C) {I:Nat} (hi:I<R):(Gt (C:Int) l (I:Int)).length=C:=by
 have hle:(I+1)*C≤R*C:=A5x C (by omega)
 have e1:((I:Int)*(C:Int)).toNat=I*C:=by rw [← A56,A5n]
 have e2:(((I:Int)+1)*(C:Int)).toNat=(I+1)*C:=by
  have:((I:Int)+1)*(C:Int)=(((I+1)*C:Nat):Int):=by rw [A56]; rfl
  rw [this,A5n]
 unfold Gt
 rw [List.length_drop,List.length_take,e1,e2]
 rw [A6p,Nat.one_mul] at hle ⊢
 omega
theorem Ak2 (R:Nat) (C:Int) (l:List Int) (K:Int):(Rm (R:Int) C l K).length=R:=by
 unfold Rm
 rw [A6r,A6o,A5n]
theorem Av4 {c i:Int} {l:List Int} (h:Ak l=true):Ak (Gt c l i)=true:=by
 have h:=As.1 h
 exact As.2 fun x hx=>h x (List.mem_of_mem_take (List.mem_of_mem_drop hx))
theorem Q7 {c i k:Int} {l:List Int} (h:Ak l=true):Ao (Co c l i k)=true:=by
 unfold Co
 by_cases hj:(i*c+k).toNat<l.length
 ·exact Jy h hj
 ·rw [A5v,A63 (by omega)]
  exact Ck (n:=0) (by decide)
theorem Axc {r c k:Int} {l:List Int} (h:Ak l=true):Ak (Rm r c l k)=true:=by
 refine As.2 fun x hx=>?_
 obtain ⟨j,_,rfl⟩:=List.mem_map.1 hx
 exact Q7 h
theorem Aa.Hl.known:Aa.Hl.Kn:=Aa.Hl.Ae (.cons Aa.Dt.known (.cons Aa.Row.known (.cons Af.G9.known .nil))) fun i k r c l p q m hp=>by
 obtain ⟨h1,h2⟩:=Ag.1 (show Xh r c l p q m i k=true from hp)
 obtain ⟨h3,h4⟩:=Ag.1 h1
 obtain ⟨h5,h6⟩:=Ag.1 h2
 obtain ⟨hl,hm⟩:=Ag.1 h5
 obtain rfl:=As.1 h6
 obtain ⟨hr,hi⟩:=Ag.1 h3
 have hi:=As.1 hi
 obtain ⟨R,C,rfl,rfl,r6,c6,ll⟩:=Ef hr
 obtain ⟨I,rfl⟩:∃ j:Nat,i=j:=⟨i.toNat,by omega⟩
 refine ⟨0,Aa.Hl.out [.i I,.i k,.i R,.i C,.l l,.i C,.i q,.l m],[],?_,.int⟩
 have hf:Yv (Gt (C:Int) l (I:Int)) (Rm (C:Int) q m k)=true:=Afw.2 ⟨by rw [Uh ll (by omega),Ak2],by rw [Uh ll (by omega)]; omega⟩
 rw [Aa.Hl.ev,Axb,h3,h4,hf,Av4 hl,Axc hm,Ai5 (by omega)]
 rfl
open Go Go.Den Go.Cv Go.Proofs
set_option maxRecDepth 100000
namespace EqCmp
def compare.Lr.Bi:List (Nat × Entry):=[(213,soft.Sign.spec)]
def compare.Lr.E:Env:=Bn (Bh compare.Lr.Bi) (fun _=>false) (fun _=>none) (fun _=>none)
theorem compare.Lr.ev (N:Nat) (b:Int):Ci compare.Lr.E N f214 (Au f214) [.int .u64 b]=bif (Ao b) then bif (Ea b) then some (.int .i64 (Ac (0-(Ac (Tt .u64 b 9223372036854775808))))) else some (.int .i64 (Ac b)) else none:=by kernel_rfl
abbrev _root_.Go.Proofs.S1.compare.Lr.Kn:=A8 prog 214 compare.Lr.spec
theorem compare.Lr.Ae (hk:A4 prog compare.Lr.Bi) (h:Hyp compare.Lr.E f214 compare.Lr.ts compare.Lr.pre compare.Lr.out):compare.Lr.Kn :=
 Ar (A5 hk _ _ _) func214 (by kernel_rfl) (by kernel_rfl) h
def compare.Order.Bi:List (Nat × Entry):=[(214,compare.Lr.spec),(155,soft.Kind.spec)]
def compare.Order.E:Env:=Bn (Bh compare.Order.Bi) (fun _=>false) (fun _=>none) (fun _=>none)
theorem compare.Order.ev (N:Nat) (a b:Int):Ci compare.Order.E N f162 (Au f162) [.int .u64 a,.int .u64 b]=bif (Ao a) then bif ((A3 a)==(4:Int)) then some (.tup [.int .i64 0,.bool false]) else bif (Ao b) then bif ((A3 b)==(4:Int)) then some (.tup [.int .i64 0,.bool false]) else bif (Ao a) then bif (Ao b) then bif (Ba (Adc a) (Adc b)) then some (.tup [.int .i64 (-1:Int),.bool true]) else bif (Ao a) then bif (Ao b) then bif (Ba (Adc b) (Adc a)) then some (.tup [.int .i64 1,.bool true]) else some (.tup [.int .i64 0,.bool true]) else none else none else none else none else none else none:=by kernel_rfl
abbrev _root_.Go.Proofs.S1.compare.Order.Kn:=A8 prog 162 compare.Order.spec
theorem compare.Order.Ae (hk:A4 prog compare.Order.Bi) (h:Hyp compare.Order.E f162 compare.Order.ts compare.Order.pre compare.Order.out):compare.Order.Kn :=
 Ar (A5 hk _ _ _) func162 (by kernel_rfl) (by kernel_rfl) h
def compare.L7.Bi:List (Nat × Entry):=[(162,compare.Order.spec)]
def compare.L7.E:Env:=Bn (Bh compare.L7.Bi) (fun _=>false) (fun _=>none) (fun _=>none)
theorem compare.L7.ev (N:Nat) (a b:Int):Ci compare.L7.E N f90 (Au f90) [.int .u64 a,.int .u64 b]=bif (Ao a&&Ao b) then some (.bool (Ba (Xf a b) 0)) else none:=by kernel_rfl
abbrev _root_.Go.Proofs.S1.compare.L7.Kn:=A8 prog 90 compare.L7.spec
theorem compare.L7.Ae (hk:A4 prog compare.L7.Bi) (h:Hyp compare.L7.E f90 compare.L7.ts compare.L7.pre compare.L7.out):compare.L7.Kn :=
 Ar (A5 hk _ _ _) func90 (by kernel_rfl) (by kernel_rfl) h
def compare.Wy.Bi:List (Nat × Entry):=[]
def compare.Wy.E:Env:=Bn (Bh compare.Wy.Bi) (fun _=>false) (fun _=>none) (fun _=>none)
theorem compare.Wy.ev (N:Nat) (a:Int):Ci compare.Wy.E N f87 (Au f87) [.int .u64 a]=some (.int .u64 (Tt .u64 a 9223372036854775808)):=by kernel_rfl
abbrev _root_.Go.Proofs.S1.compare.Wy.Kn:=A8 prog 87 compare.Wy.spec
theorem compare.Wy.Ae (hk:A4 prog compare.Wy.Bi) (h:Hyp compare.Wy.E f87 compare.Wy.ts compare.Wy.pre compare.Wy.out):compare.Wy.Kn :=
 Ar (A5 hk _ _ _) func87 (by kernel_rfl) (by kernel_rfl) h
def compare.Cn.hint:Nat→Option Bf
 | 1=>some { keep:=[0,6,7,8],objs:=[],boxes:=[] }
 | _=>none
def compare.Cn.Bi:List (Nat × Entry):=[(155,soft.Kind.spec),(212,soft.Df.spec),(211,soft.F1.spec),(213,soft.Sign.spec)]
def compare.Cn.E:Env:=Bn (Bh compare.Cn.Bi) (fun _=>false) compare.Cn.hint (fun _=>none)
section
variable (N M:Nat) (a n p6 p7:Int) (p8:Bool)
def compare.Cn.L0:Option DV:=Ce compare.Cn.E N f161 (Au f161) [1,1,1,1,1,1,0,0] [] M ⟨Ik 59 [(0,.int .u64 a),(6,.int .u64 p6),(7,.int .i64 p7),(8,.bool p8)],[]⟩
theorem compare.Cn.Ax:compare.Cn.L0 N (M+1) a p6 p7 p8=bif ((Ba p7 (-1130:Int))&&(Ba 1 p6)) then compare.Cn.L0 N M a (D1 .u64 p6 1) (Ac (p7+1)) (bif p8 then true else ((Gy .u64 p6 1)==(1:Int))) else bif (Ba p7 (-1130:Int)) then bif (Ao a) then bif (El 0 (-1074:Int) true) then some (.tup [.int .u64 (E6 (Ea a) 0 (-1074:Int) true),.int .u8 (E5 (Ea a) 0 (-1074:Int) true)]) else none else none else bif (Ao a) then bif (El p6 p7 p8) then some (.tup [.int .u64 (E6 (Ea a) p6 p7 p8),.int .u8 (E5 (Ea a) p6 p7 p8)]) else none else none :=
 Eq.trans (by kernel_rfl)
 (Ay (Rt (Ba p7 (-1130:Int))) (Ay (N6 (Ba p7 (-1130:Int))) (Ay (X5 (Ba p7 (-1130:Int))) (C4 (tt1 _ _) (Ay (Z0 p8) (Ay (Yt p8) (Ay (Yt p8) (Ay (tt6 p8) rfl)))) rfl))))
theorem compare.Cn.ev:Ci compare.Cn.E N f161 (Au f161) [.int .u64 a,.int .i64 n]=bif (Ao a) then bif ((A3 a)==(4:Int)) then some (.tup [.int .u64 9221120237041090560,.int .u8 0]) else bif ((A3 a)==(3:Int)) then bif ((A3 a)==(3:Int)) then some (.tup [.int .u64 a,.int .u8 0]) else bif (Ao a) then compare.Cn.L0 N N a (Bt a) (Ac ((Bb a)+(max (-2300:Int) (min 2300 n)))) false else none else bif ((A3 a)==(0:Int)) then some (.tup [.int .u64 a,.int .u8 0]) else bif (Ao a) then compare.Cn.L0 N N a (Bt a) (Ac ((Bb a)+(max (-2300:Int) (min 2300 n)))) false else none else none:=by kernel_rfl
end
abbrev _root_.Go.Proofs.S1.compare.Cn.Kn:=A8 prog 161 compare.Cn.spec
theorem compare.Cn.Ae (hk:A4 prog compare.Cn.Bi) (h:Hyp compare.Cn.E f161 compare.Cn.ts compare.Cn.pre compare.Cn.out):compare.Cn.Kn :=
 Ar (A5 hk _ _ _) func161 (by kernel_rfl) (by kernel_rfl) h
def Af.B6.Bi:List (Nat × Entry):=[(161,compare.Cn.spec)]
def Af.B6.E:Env:=Bn (Bh Af.B6.Bi) (fun _=>false) (fun _=>none) (fun _=>none)
theorem Af.B6.ev (N:Nat) (a n:Int):Ci Af.B6.E N f88 (Au f88) [.int .u64 a,.int .i64 n]=bif (Gf a n) then some (.int .u64 (Cc a n)) else none:=by kernel_rfl
abbrev _root_.Go.Proofs.S1.Af.B6.Kn:=A8 prog 88 Af.B6.spec
theorem Af.B6.Ae (hk:A4 prog Af.B6.Bi) (h:Hyp Af.B6.E f88 Af.B6.ts Af.B6.pre Af.B6.out):Af.B6.Kn :=
 Ar (A5 hk _ _ _) func88 (by kernel_rfl) (by kernel_rfl) h
def Af.Div.Bi:List (Nat × Entry):=[(209,times.Div.spec)]
def Af.Div.E:Env:=Bn (Bh Af.Div.Bi) (fun _=>false) (fun _=>none) (fun _=>none)
theorem Af.Div.ev (N:Nat) (a b:Int):Ci Af.Div.E N f158 (Au f158) [.int .u64 a,.int .u64 b]=bif (Ao a&&Ao b) then some (.int .u64 (Hc a b)) else none:=by kernel_rfl
abbrev _root_.Go.Proofs.S1.Af.Div.Kn:=A8 prog 158 Af.Div.spec
theorem Af.Div.Ae (hk:A4 prog Af.Div.Bi) (h:Hyp Af.Div.E f158 Af.Div.ts Af.Div.pre Af.Div.out):Af.Div.Kn :=
 Ar (A5 hk _ _ _) func158 (by kernel_rfl) (by kernel_rfl) h
def Af.C0.hint:Nat→Option Bf
 | 0=>some { keep:=[3,6,7,8],objs:=[],boxes:=[] }
 | _=>none
def Af.C0.Bi:List (Nat × Entry):=[(87,compare.Wy.spec),(155,soft.Kind.spec)]
def Af.C0.E:Env:=Bn (Bh Af.C0.Bi) (fun _=>false) Af.C0.hint (fun _=>none)
section
variable (N M:Nat) (x:List Int) (p3 p8:Int)
def Af.C0.L0:Option DV:=Ce Af.C0.E N f89 (Au f89) [1,1,0,1,0] [] M ⟨Ik 21 [(3,.int .u64 p3),(6,.ints .arg .u64 x),(7,.int .i64 (length x:Int)),(8,.int .i64 p8)],[]⟩
theorem Af.C0.Ax:Af.C0.L0 N (M+1) x p3 p8=bif (Ba p8 (length x:Int)) then bif ((decide (0≤p8))&&(decide (p8<(length x:Int)))) then bif (Ao (getD x (toNat p8) 0)) then bif ((A3 (getD x (toNat p8) 0))==(4:Int)) then some (.int .u64 9221120237041090560) else bif (Ao (getD x (toNat p8) 0)) then Af.C0.L0 N M x (max p3 (Sc (getD x (toNat p8) 0))) (Ac (p8+1)) else none else none else none else some (.int .u64 p3):=by kernel_rfl
theorem Af.C0.ev:Ci Af.C0.E N f89 (Au f89) [.ints .arg .u64 x] =
 Af.C0.L0 N N x 0 0:=by kernel_rfl
end
abbrev _root_.Go.Proofs.S1.Af.C0.Kn:=A8 prog 89 Af.C0.spec
theorem Af.C0.Ae (hk:A4 prog Af.C0.Bi) (h:Hyp Af.C0.E f89 Af.C0.ts Af.C0.pre Af.C0.out):Af.C0.Kn :=
 Ar (A5 hk _ _ _) func89 (by kernel_rfl) (by kernel_rfl) h
def Af.Finite.hint:Nat→Option Bf
 | 0=>some { keep:=[5,6,7],objs:=[],boxes:=[] }
 | _=>none
def Af.Finite.Bi:List (Nat × Entry):=[(148,soft.Finite.spec)]
def Af.Finite.E:Env:=Bn (Bh Af.Finite.Bi) (fun _=>false) Af.Finite.hint (fun _=>none)
section
variable (N M:Nat) (x:List Int) (p7:Int)
def Af.Finite.L0:Option DV:=Ce Af.Finite.E N f150 (Au f150) [1,0,1,0] [] M ⟨Ik 15 [(5,.ints .arg .u64 x),(6,.int .i64 (length x:Int)),(7,.int .i64 p7)],[]⟩
theorem Af.Finite.Ax:Af.Finite.L0 N (M+1) x p7=bif (Ba p7 (length x:Int)) then bif ((decide (0≤p7))&&(decide (p7<(length x:Int)))) then bif (Ao (getD x (toNat p7) 0)) then bif (!(Dm (getD x (toNat p7) 0))) then some (.bool false) else Af.Finite.L0 N M x (Ac (p7+1)) else none else none else some (.bool true):=by kernel_rfl
theorem Af.Finite.ev:Ci Af.Finite.E N f150 (Au f150) [.ints .arg .u64 x] =
 Af.Finite.L0 N N x 0:=by kernel_rfl
end
abbrev _root_.Go.Proofs.S1.Af.Finite.Kn:=A8 prog 150 Af.Finite.spec
theorem Af.Finite.Ae (hk:A4 prog Af.Finite.Bi) (h:Hyp Af.Finite.E f150 Af.Finite.ts Af.Finite.pre Af.Finite.out):Af.Finite.Kn :=
 Ar (A5 hk _ _ _) func150 (by kernel_rfl) (by kernel_rfl) h
def Cx.Check.hint:Nat→Option Bf
 | 0=>some { keep:=[9,10,11],objs:=[],boxes:=[] }
 | _=>none
def Cx.Check.Bi:List (Nat × Entry):=[(160,Aa.Check.spec),(148,soft.Finite.spec)]
def Cx.Check.E:Env:=Bn (Bh Cx.Check.Bi) (fun _=>false) Cx.Check.hint (fun _=>none)
section
variable (N:Nat) (r c:Int) (M:Nat) (l:List Int) (p11:Int)
def Cx.Check.L0:Option DV:=Ce Cx.Check.E N f86 (Au f86) [1,1,0,1,0] [] M ⟨Ik 19 [(9,.ints .arg .u64 l),(10,.int .i64 (length l:Int)),(11,.int .i64 p11)],[]⟩
theorem Cx.Check.Ax:Cx.Check.L0 N (M+1) l p11=bif (Ba p11 (length l:Int)) then bif ((decide (0≤p11))&&(decide (p11<(length l:Int)))) then bif (Ao (getD l (toNat p11) 0)) then bif (!(Dm (getD l (toNat p11) 0))) then some (.int .i64 4) else Cx.Check.L0 N M l (Ac (p11+1)) else none else none else some (.int .i64 0):=by kernel_rfl
theorem Cx.Check.ev:Ci Cx.Check.E N f86 (Au f86) [.agg [.int .i64 r,.int .i64 c,.ints .arg .u64 l]]=bif ((M7 r c l) !=(0:Int)) then some (.int .i64 1) else Cx.Check.L0 N N l 0:=by kernel_rfl
end
abbrev _root_.Go.Proofs.S1.Cx.Check.Kn:=A8 prog 86 Cx.Check.spec
theorem Cx.Check.Ae (hk:A4 prog Cx.Check.Bi) (h:Hyp Cx.Check.E f86 Cx.Check.ts Cx.Check.pre Cx.Check.out):Cx.Check.Kn :=
 Ar (A5 hk _ _ _) func86 (by kernel_rfl) (by kernel_rfl) h
end EqCmp
open Go Go.Den Go.Cv Go.Proofs
open EqCmp
theorem Th {k j:Nat} (h:k≠j):(((k:Nat):Int)==((j:Nat):Int))=false:=by rw [A6g]; omega
theorem Aeg (n:Nat):n%2^63<2^63:=Nat.mod_lt _ (by decide)
theorem Aiw {n:Nat} (h:n<2^64):Tt .u64 (n:Int) (9223372036854775808:Int)=((n%2^63:Nat):Int):=by
 have:=Rb (Br n) (Aeg n)
 rw [Anw h] at this
 exact this
theorem compare.Wy.known:compare.Wy.Kn:=compare.Wy.Ae .nil fun a hp=>by
 obtain ⟨n,rfl,hn⟩:=Cb (show Ao a=true from hp)
 refine ⟨0,compare.Wy.out [.i (n:Int)],[],?_,.int⟩
 show _=some (DV.int .u64 (((n:Int).toNat%2^63:Nat):Int))
 rw [compare.Wy.ev,Aiw hn,A5n]
theorem compare.Lr.known:compare.Lr.Kn:=compare.Lr.Ae (.cons soft.Sign.known .nil) fun b hp=>by
 have hp:Ao b=true:=hp
 obtain ⟨n,rfl,hn⟩:=Cb hp
 refine ⟨0,compare.Lr.out [.i (n:Int)],[],?_,.int⟩
 show _=some (DV.int .i64 (It (n:Int).toNat))
 have h63:=Aeg n
 rw [compare.Lr.ev,hp,A5l,Aiw hn,A5n]
 unfold It H3 Ea
 rw [A5n]
 cases hs:Br n with
 | true =>
   rw [A5l,A58 rfl,Ap (x:=((n%2^63:Nat):Int)) (by omega) (by omega),Ap (by omega) (by omega)]
   congr 2; omega
 | false =>
   have:n<2^63:=by
    unfold Br at hs
    have:=of_decide_eq_false hs
    omega
   rw [A5p,A57 (by decide),A5y this,Ap (by omega) (by omega)]
theorem compare.Order.known:compare.Order.Kn:=compare.Order.Ae (.cons compare.Lr.known (.cons soft.Kind.known .nil)) fun a b hp=>by
 obtain ⟨ha,hb⟩:=Ag.1 (show (Ao a&&Ao b)=true from hp)
 refine ⟨0,compare.Order.out [.i a,.i b],[],?_,Wk.Jc (.cons .int (.cons .bool .nil))⟩
 show _=some (DV.tup [.int .i64 (Arz a.toNat b.toNat),.bool (Azf a.toNat b.toNat)])
 rw [compare.Order.ev,ha,hb,A5l,A5l,A5l,A5l,A5l,A5l,Aw,Aw]
 unfold Arz Azf Adc A3
 by_cases h1:Aj a.toNat=4
 ·have e:(((Aj a.toNat:Nat):Int)==(4:Int))=true:=by rw [h1]; rfl
  rw [e,A5l,A58 (.inl h1),A5m (.inl h1)]; rfl
 ·have e:(((Aj a.toNat:Nat):Int)==(4:Int))=false:=Th h1
  rw [e,A5p]
  by_cases h2:Aj b.toNat=4
  ·have e:(((Aj b.toNat:Nat):Int)==(4:Int))=true:=by rw [h2]; rfl
   rw [e,A5l,A58 (.inr h2),A5m (.inr h2)]; rfl
  ·have e:(((Aj b.toNat:Nat):Int)==(4:Int))=false:=Th h2
   have hn:¬ (Aj a.toNat=4∨Aj b.toNat=4):=fun h=>h.elim h1 h2
   rw [e,A5p,A57 hn,A5q hn]
   by_cases h3:It a.toNat<It b.toNat
   ·rw [A5m h3,A58 h3]; rfl
   ·rw [A5q h3,A57 h3]
    by_cases h4:It b.toNat<It a.toNat
    ·rw [A5m h4,A58 h4]; rfl
    ·rw [A5q h4,A57 h4]; rfl
theorem compare.L7.known:compare.L7.Kn:=compare.L7.Ae (.cons compare.Order.known .nil) fun a b hp=>by
 have hp:(Ao a&&Ao b)=true:=hp
 refine ⟨0,compare.L7.out [.i a,.i b],[],?_,.bool⟩
 rw [compare.L7.ev,hp,Aw]; rfl
theorem Ajq (N:Nat) {a:Int} (ha:Ao a=true):∀ (k F m:Nat) (e:Int) (b:Bool),e=-1130-(k:Int)→k<F→m<2^53→(m≠0∨b=true)→-9000<e →
 compare.Cn.L0 N F a (m:Int) e b=some (.tup [.int .u64 (((B3 (Br a.toNat) 0,3):Nat × Nat).1:Nat),.int .u8 (((B3 (Br a.toNat) 0,3):Nat × Nat).2:Nat)]):=by
 have pre1:El (0:Int) (-1074:Int) true=true:=As.2 (by omega)
 intro k
 induction k with
 | zero =>
   intro F m e b he hF hm h0 _
   obtain ⟨F,rfl⟩:∃ G,F=G+1:=⟨F-1,by omega⟩
   have hlt:Ba e (-1130:Int)=false:=by rw [Aw]; exact A5q (by omega)
   have Ty:El (m:Int) e b=true:=As.2 (by omega)
   rw [compare.Cn.Ax,hlt,Bool.false_and,A5p,A5p,ha,A5l,Ty,A5l]
   unfold E6 E5 Ea
   rw [A5n,Aok _ hm h0 (by omega)]
 | succ k ih =>
   intro F m e b he hF hm h0 hb
   obtain ⟨F,rfl⟩:∃ G,F=G+1:=⟨F-1,by omega⟩
   have hlt:Ba e (-1130:Int)=true:=by rw [Aw]; exact A5m (by omega)
   rw [compare.Cn.Ax,hlt,A6y,A5l,Aw]
   by_cases h1:(1:Int)<(m:Int)
   ·have em:D1 .u64 (m:Int) (1:Int)=((m / 2^1:Nat):Int):=H8 .u64 m 1 (by decide)
    rw [A5m h1,A5l,em,Ap (by omega) (by omega)]
    exact ih F (m / 2^1) (e+1) _ (by omega) (by omega) (by omega) (.inl (by omega)) (by omega)
   ·rw [A5q h1,A5p,ha,A5l,pre1,A5l]
    unfold E6 E5 Ea
    rw [show (0:Int).toNat=0 from rfl,Asd]
theorem compare.Cn.known:compare.Cn.Kn:=compare.Cn.Ae (.cons soft.Kind.known (.cons soft.Df.known (.cons soft.F1.known (.cons soft.Sign.known .nil)))) fun a n hp=>by
 obtain ⟨ha,hn⟩:=Ag.1 (show Gf a n=true from hp)
 have hn:=As.1 hn
 refine ⟨3000,compare.Cn.out [.i a,.i n],[],?_,Wk.Jc (.cons .int (.cons .int .nil))⟩
 show _=some (DV.tup [.int .u64 ((Cg a.toNat n).1:Nat),.int .u8 ((Cg a.toNat n).2:Nat)])
 have em:max (-2300:Int) (min (2300:Int) n)=n:=by omega
 have pE:=Cq a.toNat
 have pM:=Fi a.toNat
 have ee:Ac (Bb a+n)=Av a.toNat+n:=by unfold Bb; exact Ap (by omega) (by omega)
 rw [compare.Cn.ev,ha,A5l,A5l,em,ee]
 unfold A3
 by_cases h4:Aj a.toNat=4
 ·have e:(((Aj a.toNat:Nat):Int)==(4:Int))=true:=by rw [h4]; rfl
  rw [e,A5l]
  unfold Cg
  rw [A58 h4]; rfl
 have e4:(((Aj a.toNat:Nat):Int)==(4:Int))=false:=Th h4
 rw [e4,A5p]
 by_cases h3:Aj a.toNat=3
 ·have e:(((Aj a.toNat:Nat):Int)==(3:Int))=true:=by rw [h3]; rfl
  obtain ⟨k,rfl,hk⟩:=Cb ha
  rw [e,A5l,A5l]
  unfold Cg
  rw [A57 h4,A58 (.inl h3),A5n]; rfl
 have e3:(((Aj a.toNat:Nat):Int)==(3:Int))=false:=Th h3
 rw [e3,A5p]
 by_cases h0:Aj a.toNat=0
 ·have e:(((Aj a.toNat:Nat):Int)==(0:Int))=true:=by rw [h0]; rfl
  obtain ⟨k,rfl,hk⟩:=Cb ha
  rw [e,A5l]
  unfold Cg
  rw [A57 h4,A58 (.inr h0),A5n]; rfl
 have e0:(((Aj a.toNat:Nat):Int)==(0:Int))=false:=Th h0
 have hk:¬ (Aj a.toNat=3∨Aj a.toNat=0):=fun h=>h.elim h3 h0
 have hm:An a.toNat≠0:=fun h=>h0 ((Dc h3 h4).1 h)
 rw [e0,A5p]
 show compare.Cn.L0 3000 3000 a (An a.toNat:Nat) (Av a.toNat+n) false=_
 by_cases ht:Av a.toNat+n≤-1130
 ·rw [Ajp h4 hk ht]
  exact Ajq 3000 ha (-1130-(Av a.toNat+n)).toNat 3000 _ _ false (by omega) (by omega) (by omega) (.inl hm) (by omega)
 ·have hlt:Ba (Av a.toNat+n) (-1130:Int)=false:=by rw [Aw]; exact A5q (by omega)
  have Ty:El ((An a.toNat:Nat):Int) (Av a.toNat+n) false=true:=As.2 ⟨by omega,by omega,by omega,by omega,fun h=>by cases h⟩
  rw [Iz h4 hk,show (3000:Nat)=2999+1 from rfl,compare.Cn.Ax,hlt,Bool.false_and,A5p,A5p,ha,A5l,Ty,A5l]
  unfold E6 E5 Ea
  rw [A5n,Ye]
theorem Af.B6.known:Af.B6.Kn:=Af.B6.Ae (.cons compare.Cn.known .nil) fun a n hp=>by
 have hp:Gf a n=true:=hp
 refine ⟨0,Af.B6.out [.i a,.i n],[],?_,.int⟩
 rw [Af.B6.ev,hp]; rfl
theorem Af.Div.known:Af.Div.Kn:=Af.Div.Ae (.cons times.Div.known .nil) fun a b hp=>by
 have hp:(Ao a&&Ao b)=true:=hp
 refine ⟨0,Af.Div.out [.i a,.i b],[],?_,.int⟩
 rw [Af.Div.ev,hp]; rfl
theorem Kj {l:List Int} {i:Nat} (h:i<l.length):l.drop i=l.getD i 0::l.drop (i+1):=by
 rw [List.drop_eq_getElem_cons h,A5v,A52 h]; rfl
theorem Nk {l:List Int} (h:D7 l=true):l.length<4611686018427387904∧∀ j,j<l.length→Ao (l.getD j 0)=true:=by
 obtain ⟨h1,h2⟩:=As.1 h
 exact ⟨h1,fun j hj=>by rw [A5v,A52 hj]; exact h2 _ (List.getElem_mem hj)⟩
theorem Mz {l:List Int} (h:Ak l=true) (hl:l.length≤1000):D7 l=true:=As.2 ⟨by omega,As.1 h⟩
theorem Aii (N:Nat) {x:List Int} (hx:D7 x=true):∀ (k i F:Nat),i+k=x.length→k<F→Af.Finite.L0 N F x (i:Int)=some (.bool ((x.drop i).all Dm)):=by
 obtain ⟨hl,hu⟩:=Nk hx
 intro k
 induction k with
 | zero =>
   intro i F hi hF
   obtain ⟨F,rfl⟩:∃ G,F=G+1:=⟨F-1,by omega⟩
   rw [Af.Finite.Ax,Aw,A5q (by omega),A5p,A5z (by omega)]; rfl
 | succ k ih =>
   intro i F hi hF
   obtain ⟨F,rfl⟩:∃ G,F=G+1:=⟨F-1,by omega⟩
   rw [Af.Finite.Ax,Aw,A5m (show (i:Int)<(x.length:Int) by omega),A5l,A5m (show (0:Int)≤(i:Int) by omega),A5r,A5l,A5n,hu i (by omega),A5l,Kj (by omega),List.all_cons]
   cases Dm (x.getD i 0) with
   | false=>rfl
   | true =>
     rw [A6k,A5p,Ap (by omega) (by omega),A6y]
     exact ih (i+1) F (by omega) (by omega)
theorem Af.Finite.known:Af.Finite.Kn:=Af.Finite.Ae (.cons soft.Finite.known .nil) fun x hp=>by
 have hp:D7 x=true:=hp
 refine ⟨x.length+1,Af.Finite.out [.l x],[],?_,.bool⟩
 show _=some (DV.bool (x.all Dm))
 rw [Af.Finite.ev]
 exact Aii _ hp x.length 0 (x.length+1) (by omega) (by omega)
theorem Apu {x:List Int} {i:Nat} (h:i<x.length) (m:Nat):M8 (x.drop i) m=if Aj (x.getD i 0).toNat=4 then Sw else M8 (x.drop (i+1)) (max m (Dn (x.getD i 0).toNat)):=by
 rw [Kj h]; rfl
theorem Agc (N:Nat) {x:List Int} (hx:D7 x=true):∀ (k i F m:Nat),i+k=x.length→k<F→Af.C0.L0 N F x (m:Int) (i:Int)=some (.int .u64 ((M8 (x.drop i) m:Nat):Int)):=by
 obtain ⟨hl,hu⟩:=Nk hx
 intro k
 induction k with
 | zero =>
   intro i F m hi hF
   obtain ⟨F,rfl⟩:∃ G,F=G+1:=⟨F-1,by omega⟩
   rw [Af.C0.Ax,Aw,A5q (by omega),A5p,A5z (by omega)]; rfl
 | succ k ih =>
   intro i F m hi hF
   obtain ⟨F,rfl⟩:∃ G,F=G+1:=⟨F-1,by omega⟩
   rw [Af.C0.Ax,Aw,A5m (show (i:Int)<(x.length:Int) by omega),A5l,A5m (show (0:Int)≤(i:Int) by omega),A5r,A5l,A5n,hu i (by omega),A5l,Apu (by omega)]
   unfold A3
   by_cases h4:Aj (x.getD i 0).toNat=4
   ·have e:(((Aj (x.getD i 0).toNat:Nat):Int)==(4:Int))=true:=by rw [h4]; rfl
    rw [e,A5l,A58 h4]; rfl
   ·have e:(((Aj (x.getD i 0).toNat:Nat):Int)==(4:Int))=false:=Th h4
    have em:max (m:Int) (Sc (x.getD i 0))=((max m (Dn (x.getD i 0).toNat):Nat):Int):=by unfold Sc; omega
    rw [e,A5p,A5l,A57 h4,em,Ap (by omega) (by omega)]
    exact ih (i+1) F _ (by omega) (by omega)
theorem Af.C0.known:Af.C0.Kn:=Af.C0.Ae (.cons compare.Wy.known (.cons soft.Kind.known .nil)) fun x hp=>by
 have hp:D7 x=true:=hp
 refine ⟨x.length+1,Af.C0.out [.l x],[],?_,.int⟩
 rw [Af.C0.ev]
 exact Agc _ hp x.length 0 (x.length+1) 0 (by omega) (by omega)
theorem Aga (N:Nat) {x:List Int} (hx:D7 x=true):∀ (k i F:Nat),i+k=x.length→k<F→Cx.Check.L0 N F x (i:Int)=some (.int .i64 (if (x.drop i).all Dm=true then 0 else 4)):=by
 obtain ⟨hl,hu⟩:=Nk hx
 intro k
 induction k with
 | zero =>
   intro i F hi hF
   obtain ⟨F,rfl⟩:∃ G,F=G+1:=⟨F-1,by omega⟩
   rw [Cx.Check.Ax,Aw,A5q (by omega),A5p,A5z (by omega)]; rfl
 | succ k ih =>
   intro i F hi hF
   obtain ⟨F,rfl⟩:∃ G,F=G+1:=⟨F-1,by omega⟩
   rw [Cx.Check.Ax,Aw,A5m (show (i:Int)<(x.length:Int) by omega),A5l,A5m (show (0:Int)≤(i:Int) by omega),A5r,A5l,A5n,hu i (by omega),A5l,Kj (by omega),List.all_cons]
   cases Dm (x.getD i 0) with
   | false=>rfl
   | true =>
     rw [A6k,A5p,Ap (by omega) (by omega),A6y]
     exact ih (i+1) F (by omega) (by omega)
theorem I2 {r c:Int} {l:List Int} (h:Be r c l=true):l.length≤36:=by
 obtain ⟨R,C,rfl,rfl,r6,c6,hl⟩:=Ef h
 have:=A6h r6 c6
 omega
theorem Cx.Check.known:Cx.Check.Kn:=Cx.Check.Ae (.cons Aa.Check.known (.cons soft.Finite.known .nil)) fun r c l hp=>by
 have hp:Ak l=true:=hp
 refine ⟨l.length+1,Cx.Check.out [.i r,.i c,.l l],[],?_,.int⟩
 show _=some (DV.int .i64 (Da r c l))
 rw [Cx.Check.ev]
 unfold M7 Da Fm
 by_cases h:Be r c l=true
 ·have:=I2 h
  rw [A58 h,A58 h]
  have e:((0:Int) !=(0:Int))=false:=by decide
  rw [e,A5p]
  exact Aga _ (Mz hp (by omega)) l.length 0 (l.length+1) (by omega) (by omega)
 ·rw [A57 h,A57 h]; rfl
open Go Go.Den Go.Cv Go.Proofs
set_option maxRecDepth 100000
namespace EqOf
def Aa.of.Cm.hint:Nat→Option Bf
 | 0=>some { keep:=[1,2,6,7,13,14],objs:=[(8,2,108002,.ints 37 .u64 [])],boxes:=[6,7] }
 | 2=>some { keep:=[1,2,6,7,8,13,14,17,18],objs:=[(8,2,108002,.ints 37 .u64 [])],boxes:=[6,7] }
 | _=>none
def Aa.of.Cm.Bi:List (Nat × Entry):=[(205,Aa.Eb.spec)]
def Aa.of.Cm.E:Env:=Bn (Bh Aa.of.Cm.Bi) (fun _=>false) Aa.of.Cm.hint (fun _=>none)
section
variable (N M0 M:Nat) (a b p8 p14_1 p18:Int) (p2:List Int) (p14:Int) (p2_1:List Int)
def Aa.of.Cm.L0:Option DV:=Ce Aa.of.Cm.E N f187 (Au f187) [1,1,0,1,0] [] M ⟨Ik 33 [(1,.int .i64 b),(2,.fn 205 [] []),(6,.ptr 6 0 0),(7,.ptr 7 0 0),(13,.int .i64 a),(14,.int .i64 p14)],[(6,false,.box [.int .i64 0,.int .i64 0,.nil]),(7,false,.box [.int .i64 a,.int .i64 b,.oref 108002]),(108002,false,.ints 37 .u64 p2_1)]⟩
def Aa.of.Cm.L1:Option DV:=Ce Aa.of.Cm.E N f187 (Au f187) [1,1,0,1,0,0,1,1,0,0,1,1,0] [M0] M ⟨Ik 33 [(1,.int .i64 b),(2,.fn 205 [] []),(6,.ptr 6 0 0),(7,.ptr 7 0 0),(8,.int .i64 p8),(13,.int .i64 a),(14,.int .i64 p14_1),(17,.int .i64 b),(18,.int .i64 p18)],[(6,false,.box [.int .i64 0,.int .i64 0,.nil]),(7,false,.box [.int .i64 a,.int .i64 b,.oref 108002]),(108002,false,.ints 37 .u64 p2)]⟩
theorem Aa.of.Cm.Ax:Aa.of.Cm.L0 N (M+1) a b p14 p2_1=bif (Ba p14 a) then Aa.of.Cm.L1 N M N a b p14 p14 0 p2_1 else some (.agg [.int .i64 a,.int .i64 b,.ints (.own 108002 37) .u64 p2_1]):=by kernel_rfl
theorem Aa.of.Cm.Cy:Aa.of.Cm.L1 N M0 (M+1) a b p8 p14_1 p18 p2=bif (Ba p18 b) then bif (decide ((length p2)+1≤Kg)) then Aa.of.Cm.L1 N M0 M a b p8 p14_1 (Ac (p18+1)) (p2++[(0:Int)]) else none else Aa.of.Cm.L0 N M0 a b (Ac (p14_1+1)) p2 :=
 Eq.trans (by kernel_rfl)
 (Fe (C4 (Cr _) rfl rfl) rfl)
theorem Aa.of.Cm.ev:Ci Aa.of.Cm.E N f187 (Au f187) [.int .i64 a,.int .i64 b,.fn 205 [] []] =
 Aa.of.Cm.L0 N N a b 0 []:=by kernel_rfl
end
def Aa.of.Hw.hint:Nat→Option Bf
 | 0=>some { keep:=[1,2,6,7,13,14],objs:=[(8,2,108002,.ints 37 .u64 [])],boxes:=[6,7] }
 | 2=>some { keep:=[1,2,6,7,8,13,14,17,18],objs:=[(8,2,108002,.ints 37 .u64 [])],boxes:=[6,7] }
 | _=>none
def Aa.of.Hw.Bi:List (Nat × Entry):=[(246,Aa.Hn.spec)]
def Aa.of.Hw.E:Env:=Bn (Bh Aa.of.Hw.Bi) (fun _=>false) Aa.of.Hw.hint (fun _=>none)
section
variable (N M0 M:Nat) (a b p8 p14_1 p18:Int) (p2:List Int) (p14:Int) (p2_1:List Int)
def Aa.of.Hw.L0:Option DV:=Ce Aa.of.Hw.E N f187 (Au f187) [1,1,0,1,0] [] M ⟨Ik 33 [(1,.int .i64 b),(2,.fn 246 [] []),(6,.ptr 6 0 0),(7,.ptr 7 0 0),(13,.int .i64 a),(14,.int .i64 p14)],[(6,false,.box [.int .i64 0,.int .i64 0,.nil]),(7,false,.box [.int .i64 a,.int .i64 b,.oref 108002]),(108002,false,.ints 37 .u64 p2_1)]⟩
def Aa.of.Hw.L1:Option DV:=Ce Aa.of.Hw.E N f187 (Au f187) [1,1,0,1,0,0,1,1,0,0,1,1,0] [M0] M ⟨Ik 33 [(1,.int .i64 b),(2,.fn 246 [] []),(6,.ptr 6 0 0),(7,.ptr 7 0 0),(8,.int .i64 p8),(13,.int .i64 a),(14,.int .i64 p14_1),(17,.int .i64 b),(18,.int .i64 p18)],[(6,false,.box [.int .i64 0,.int .i64 0,.nil]),(7,false,.box [.int .i64 a,.int .i64 b,.oref 108002]),(108002,false,.ints 37 .u64 p2)]⟩
theorem Aa.of.Hw.Ax:Aa.of.Hw.L0 N (M+1) a b p14 p2_1=bif (Ba p14 a) then Aa.of.Hw.L1 N M N a b p14 p14 0 p2_1 else some (.agg [.int .i64 a,.int .i64 b,.ints (.own 108002 37) .u64 p2_1]):=by kernel_rfl
theorem Aa.of.Hw.Cy:Aa.of.Hw.L1 N M0 (M+1) a b p8 p14_1 p18 p2=bif (Ba p18 b) then bif (decide ((length p2)+1≤Kg)) then Aa.of.Hw.L1 N M0 M a b p8 p14_1 (Ac (p18+1)) (p2++[(Uy p8 p18)]) else none else Aa.of.Hw.L0 N M0 a b (Ac (p14_1+1)) p2 :=
 Eq.trans (by kernel_rfl)
 (Fe (C4 (Cr _) rfl rfl) rfl)
theorem Aa.of.Hw.ev:Ci Aa.of.Hw.E N f187 (Au f187) [.int .i64 a,.int .i64 b,.fn 246 [] []] =
 Aa.of.Hw.L0 N N a b 0 []:=by kernel_rfl
end
abbrev _root_.Go.Proofs.S1.Aa.of.Hw.Kn:=A8 prog 187 Aa.of.Hw.spec
theorem Aa.of.Hw.Ae (hk:A4 prog Aa.of.Hw.Bi) (h:Hyp Aa.of.Hw.E f187 Aa.of.Hw.ts Aa.of.Hw.pre Aa.of.Hw.out):Aa.of.Hw.Kn :=
 Ar (A5 hk _ _ _) func187 (by kernel_rfl) (by kernel_rfl) h
def Aa.of.Dz.hint:Nat→Option Bf
 | 0=>some { keep:=[1,2,6,7,13,14],objs:=[(8,2,108002,.ints 37 .u64 [])],boxes:=[6,7] }
 | 2=>some { keep:=[1,2,6,7,8,13,14,17,18],objs:=[(8,2,108002,.ints 37 .u64 [])],boxes:=[6,7] }
 | _=>none
def Aa.of.Dz.Bi:List (Nat × Entry):=[(220,Aa.Fq.spec)]
def Aa.of.Dz.E:Env:=Bn (Bh Aa.of.Dz.Bi) (fun _=>false) Aa.of.Dz.hint (fun _=>none)
section
variable (N M0 M:Nat) (a b r c:Int) (l:List Int) (p8 p14_1 p18:Int) (p2:List Int) (p14:Int) (p2_1:List Int)
def Aa.of.Dz.L0:Option DV:=Ce Aa.of.Dz.E N f187 (Au f187) [1,1,0,1,0] [] M ⟨Ik 33 [(1,.int .i64 b),(2,.fn 220 [] [.cellp [.int .i64 r,.int .i64 c,.ints .arg .u64 l]]),(6,.ptr 6 0 0),(7,.ptr 7 0 0),(13,.int .i64 a),(14,.int .i64 p14)],[(6,false,.box [.int .i64 0,.int .i64 0,.nil]),(7,false,.box [.int .i64 a,.int .i64 b,.oref 108002]),(108002,false,.ints 37 .u64 p2_1)]⟩
def Aa.of.Dz.L1:Option DV:=Ce Aa.of.Dz.E N f187 (Au f187) [1,1,0,1,0,0,1,1,0,0,1,1,0] [M0] M ⟨Ik 33 [(1,.int .i64 b),(2,.fn 220 [] [.cellp [.int .i64 r,.int .i64 c,.ints .arg .u64 l]]),(6,.ptr 6 0 0),(7,.ptr 7 0 0),(8,.int .i64 p8),(13,.int .i64 a),(14,.int .i64 p14_1),(17,.int .i64 b),(18,.int .i64 p18)],[(6,false,.box [.int .i64 0,.int .i64 0,.nil]),(7,false,.box [.int .i64 a,.int .i64 b,.oref 108002]),(108002,false,.ints 37 .u64 p2)]⟩
theorem Aa.of.Dz.Ax:Aa.of.Dz.L0 N (M+1) a b r c l p14 p2_1=bif (Ba p14 a) then Aa.of.Dz.L1 N M N a b r c l p14 p14 0 p2_1 else some (.agg [.int .i64 a,.int .i64 b,.ints (.own 108002 37) .u64 p2_1]):=by kernel_rfl
theorem Aa.of.Dz.Cy:Aa.of.Dz.L1 N M0 (M+1) a b r c l p8 p14_1 p18 p2=bif (Ba p18 b) then bif (Hi r c l p18 p8) then bif (decide ((length p2)+1≤Kg)) then Aa.of.Dz.L1 N M0 M a b r c l p8 p14_1 (Ac (p18+1)) (p2++[(Co c l p18 p8)]) else none else none else Aa.of.Dz.L0 N M0 a b r c l (Ac (p14_1+1)) p2 :=
 Eq.trans (by kernel_rfl)
 (Fe (C4 (Cr _) (C4 (Cr _) rfl rfl) rfl) rfl)
theorem Aa.of.Dz.ev:Ci Aa.of.Dz.E N f187 (Au f187) [.int .i64 a,.int .i64 b,.fn 220 [] [.cellp [.int .i64 r,.int .i64 c,.ints .arg .u64 l]]] =
 Aa.of.Dz.L0 N N a b r c l 0 []:=by kernel_rfl
end
abbrev _root_.Go.Proofs.S1.Aa.of.Dz.Kn:=A8 prog 187 Aa.of.Dz.spec
theorem Aa.of.Dz.Ae (hk:A4 prog Aa.of.Dz.Bi) (h:Hyp Aa.of.Dz.E f187 Aa.of.Dz.ts Aa.of.Dz.pre Aa.of.Dz.out):Aa.of.Dz.Kn :=
 Ar (A5 hk _ _ _) func187 (by kernel_rfl) (by kernel_rfl) h
def Aa.of.Part.hint:Nat→Option Bf
 | 0=>some { keep:=[1,2,6,7,13,14],objs:=[(8,2,108002,.ints 37 .u64 [])],boxes:=[6,7] }
 | 2=>some { keep:=[1,2,6,7,8,13,14,17,18],objs:=[(8,2,108002,.ints 37 .u64 [])],boxes:=[6,7] }
 | _=>none
def Aa.of.Part.Bi:List (Nat × Entry):=[(192,Aa.Fs.spec)]
def Aa.of.Part.E:Env:=Bn (Bh Aa.of.Part.Bi) (fun _=>false) Aa.of.Part.hint (fun _=>none)
section
variable (N M0 M:Nat) (a b r c:Int) (l:List Int) (x y p8 p14_1 p18:Int) (p2:List Int) (p14:Int) (p2_1:List Int)
def Aa.of.Part.L0:Option DV:=Ce Aa.of.Part.E N f187 (Au f187) [1,1,0,1,0] [] M ⟨Ik 33 [(1,.int .i64 b),(2,.fn 192 [] [.cellp [.int .i64 r,.int .i64 c,.ints .arg .u64 l],.cellp [.int .i64 x],.cellp [.int .i64 y]]),(6,.ptr 6 0 0),(7,.ptr 7 0 0),(13,.int .i64 a),(14,.int .i64 p14)],[(6,false,.box [.int .i64 0,.int .i64 0,.nil]),(7,false,.box [.int .i64 a,.int .i64 b,.oref 108002]),(108002,false,.ints 37 .u64 p2_1)]⟩
def Aa.of.Part.L1:Option DV:=Ce Aa.of.Part.E N f187 (Au f187) [1,1,0,1,0,0,1,1,0,0,1,1,0] [M0] M ⟨Ik 33 [(1,.int .i64 b),(2,.fn 192 [] [.cellp [.int .i64 r,.int .i64 c,.ints .arg .u64 l],.cellp [.int .i64 x],.cellp [.int .i64 y]]),(6,.ptr 6 0 0),(7,.ptr 7 0 0),(8,.int .i64 p8),(13,.int .i64 a),(14,.int .i64 p14_1),(17,.int .i64 b),(18,.int .i64 p18)],[(6,false,.box [.int .i64 0,.int .i64 0,.nil]),(7,false,.box [.int .i64 a,.int .i64 b,.oref 108002]),(108002,false,.ints 37 .u64 p2)]⟩
theorem Aa.of.Part.Ax:Aa.of.Part.L0 N (M+1) a b r c l x y p14 p2_1=bif (Ba p14 a) then Aa.of.Part.L1 N M N a b r c l x y p14 p14 0 p2_1 else some (.agg [.int .i64 a,.int .i64 b,.ints (.own 108002 37) .u64 p2_1]):=by kernel_rfl
theorem Aa.of.Part.Cy:Aa.of.Part.L1 N M0 (M+1) a b r c l x y p8 p14_1 p18 p2=bif (Ba p18 b) then bif (Hi r c l (x+p8) (y+p18)&&Aaa x y p8 p18) then bif (decide ((length p2)+1≤Kg)) then Aa.of.Part.L1 N M0 M a b r c l x y p8 p14_1 (Ac (p18+1)) (p2++[(Co c l (x+p8) (y+p18))]) else none else none else Aa.of.Part.L0 N M0 a b r c l x y (Ac (p14_1+1)) p2 :=
 Eq.trans (by kernel_rfl)
 (Fe (C4 (Cr _) (C4 (Cr _) rfl rfl) rfl) rfl)
theorem Aa.of.Part.ev:Ci Aa.of.Part.E N f187 (Au f187) [.int .i64 a,.int .i64 b,.fn 192 [] [.cellp [.int .i64 r,.int .i64 c,.ints .arg .u64 l],.cellp [.int .i64 x],.cellp [.int .i64 y]]] =
 Aa.of.Part.L0 N N a b r c l x y 0 []:=by kernel_rfl
end
abbrev _root_.Go.Proofs.S1.Aa.of.Part.Kn:=A8 prog 187 Aa.of.Part.spec
theorem Aa.of.Part.Ae (hk:A4 prog Aa.of.Part.Bi) (h:Hyp Aa.of.Part.E f187 Aa.of.Part.ts Aa.of.Part.pre Aa.of.Part.out):Aa.of.Part.Kn :=
 Ar (A5 hk _ _ _) func187 (by kernel_rfl) (by kernel_rfl) h
def Aa.of.Mul.hint:Nat→Option Bf
 | 0=>some { keep:=[1,2,6,7,13,14],objs:=[(8,2,108002,.ints 37 .u64 [])],boxes:=[6,7] }
 | 2=>some { keep:=[1,2,6,7,8,13,14,17,18],objs:=[(8,2,108002,.ints 37 .u64 [])],boxes:=[6,7] }
 | _=>none
def Aa.of.Mul.Bi:List (Nat × Entry):=[(188,Aa.Hl.spec)]
def Aa.of.Mul.E:Env:=Bn (Bh Aa.of.Mul.Bi) (fun _=>false) Aa.of.Mul.hint (fun _=>none)
section
variable (N M0 M:Nat) (a b r c:Int) (l:List Int) (p q:Int) (m:List Int) (p8 p14_1 p18:Int) (p2:List Int) (p14:Int) (p2_1:List Int)
def Aa.of.Mul.L0:Option DV:=Ce Aa.of.Mul.E N f187 (Au f187) [1,1,0,1,0] [] M ⟨Ik 33 [(1,.int .i64 b),(2,.fn 188 [] [.cellp [.int .i64 r,.int .i64 c,.ints .arg .u64 l],.cellp [.int .i64 p,.int .i64 q,.ints .arg .u64 m]]),(6,.ptr 6 0 0),(7,.ptr 7 0 0),(13,.int .i64 a),(14,.int .i64 p14)],[(6,false,.box [.int .i64 0,.int .i64 0,.nil]),(7,false,.box [.int .i64 a,.int .i64 b,.oref 108002]),(108002,false,.ints 37 .u64 p2_1)]⟩
def Aa.of.Mul.L1:Option DV:=Ce Aa.of.Mul.E N f187 (Au f187) [1,1,0,1,0,0,1,1,0,0,1,1,0] [M0] M ⟨Ik 33 [(1,.int .i64 b),(2,.fn 188 [] [.cellp [.int .i64 r,.int .i64 c,.ints .arg .u64 l],.cellp [.int .i64 p,.int .i64 q,.ints .arg .u64 m]]),(6,.ptr 6 0 0),(7,.ptr 7 0 0),(8,.int .i64 p8),(13,.int .i64 a),(14,.int .i64 p14_1),(17,.int .i64 b),(18,.int .i64 p18)],[(6,false,.box [.int .i64 0,.int .i64 0,.nil]),(7,false,.box [.int .i64 a,.int .i64 b,.oref 108002]),(108002,false,.ints 37 .u64 p2)]⟩
theorem Aa.of.Mul.Ax:Aa.of.Mul.L0 N (M+1) a b r c l p q m p14 p2_1=bif (Ba p14 a) then Aa.of.Mul.L1 N M N a b r c l p q m p14 p14 0 p2_1 else some (.agg [.int .i64 a,.int .i64 b,.ints (.own 108002 37) .u64 p2_1]):=by kernel_rfl
theorem Aa.of.Mul.Cy:Aa.of.Mul.L1 N M0 (M+1) a b r c l p q m p8 p14_1 p18 p2=bif (Ba p18 b) then bif (Xh r c l p q m p8 p18) then bif (decide ((length p2)+1≤Kg)) then Aa.of.Mul.L1 N M0 M a b r c l p q m p8 p14_1 (Ac (p18+1)) (p2++[(Lx (Gt c l p8) (Rm p q m p18))]) else none else none else Aa.of.Mul.L0 N M0 a b r c l p q m (Ac (p14_1+1)) p2 :=
 Eq.trans (by kernel_rfl)
 (Fe (C4 (Cr _) (C4 (Cr _) rfl rfl) rfl) rfl)
theorem Aa.of.Mul.ev:Ci Aa.of.Mul.E N f187 (Au f187) [.int .i64 a,.int .i64 b,.fn 188 [] [.cellp [.int .i64 r,.int .i64 c,.ints .arg .u64 l],.cellp [.int .i64 p,.int .i64 q,.ints .arg .u64 m]]] =
 Aa.of.Mul.L0 N N a b r c l p q m 0 []:=by kernel_rfl
end
abbrev _root_.Go.Proofs.S1.Aa.of.Mul.Kn:=A8 prog 187 Aa.of.Mul.spec
theorem Aa.of.Mul.Ae (hk:A4 prog Aa.of.Mul.Bi) (h:Hyp Aa.of.Mul.E f187 Aa.of.Mul.ts Aa.of.Mul.pre Aa.of.Mul.out):Aa.of.Mul.Kn :=
 Ar (A5 hk _ _ _) func187 (by kernel_rfl) (by kernel_rfl) h
def Aa.Hw.Bi:List (Nat × Entry):=[(187,Aa.of.Hw.spec),(204,Aa.size.spec)]
def Aa.Hw.E:Env:=Bn (Bh Aa.Hw.Bi) (fun _=>false) (fun _=>none) (fun _=>none)
theorem Aa.Hw.ev (N:Nat) (n:Int):Ci Aa.Hw.E N f218 (Au f218) [.int .i64 n]=bif (!(Cd n)) then some (.tup [.agg [.int .i64 0,.int .i64 0,.nil],.int .i64 3]) else bif ((Cd n&&Cd n)) then some (.tup [.agg [.int .i64 n,.int .i64 n,.ints .fresh .u64 (Di (toNat n) (toNat n) (fun j1 j2=>Uy j1 j2))],.int .i64 0]) else none:=by kernel_rfl
abbrev _root_.Go.Proofs.S1.Aa.Hw.Kn:=A8 prog 218 Aa.Hw.spec
theorem Aa.Hw.Ae (hk:A4 prog Aa.Hw.Bi) (h:Hyp Aa.Hw.E f218 Aa.Hw.ts Aa.Hw.pre Aa.Hw.out):Aa.Hw.Kn :=
 Ar (A5 hk _ _ _) func218 (by kernel_rfl) (by kernel_rfl) h
def Aa.Dz.Bi:List (Nat × Entry):=[(160,Aa.Check.spec),(187,Aa.of.Dz.spec)]
def Aa.Dz.E:Env:=Bn (Bh Aa.Dz.Bi) (fun _=>false) (fun _=>none) (fun _=>none)
theorem Aa.Dz.ev (N:Nat) (r c:Int) (l:List Int):Ci Aa.Dz.E N f167 (Au f167) [.agg [.int .i64 r,.int .i64 c,.ints .arg .u64 l]]=bif ((M7 r c l) !=(0:Int)) then some (.tup [.agg [.int .i64 0,.int .i64 0,.nil],.int .i64 (M7 r c l)]) else bif ((Cd c&&Cd r)&&Be r c l&&decide (c=c∧r=r)) then some (.tup [.agg [.int .i64 c,.int .i64 r,.ints .fresh .u64 (Di (toNat c) (toNat r) (fun j1 j2=>Co c l j2 j1))],.int .i64 0]) else none:=by kernel_rfl
abbrev _root_.Go.Proofs.S1.Aa.Dz.Kn:=A8 prog 167 Aa.Dz.spec
theorem Aa.Dz.Ae (hk:A4 prog Aa.Dz.Bi) (h:Hyp Aa.Dz.E f167 Aa.Dz.ts Aa.Dz.pre Aa.Dz.out):Aa.Dz.Kn :=
 Ar (A5 hk _ _ _) func167 (by kernel_rfl) (by kernel_rfl) h
def Aa.Part.Bi:List (Nat × Entry):=[(160,Aa.Check.spec),(187,Aa.of.Part.spec)]
def Aa.Part.E:Env:=Bn (Bh Aa.Part.Bi) (fun _=>false) (fun _=>none) (fun _=>none)
theorem Aa.Part.ev (N:Nat) (r c:Int) (l:List Int) (x y:Int) (a b:Int):Ci Aa.Part.E N f124 (Au f124) [.agg [.int .i64 r,.int .i64 c,.ints .arg .u64 l],.int .i64 x,.int .i64 y,.int .i64 a,.int .i64 b]=bif ((M7 r c l) !=(0:Int)) then some (.tup [.agg [.int .i64 0,.int .i64 0,.nil],.int .i64 (M7 r c l)]) else bif ((((((((Ba x 0)||(Ba y 0))||(Ba a 0))||(Ba b 0))||(Ba r x))||(Ba c y))||(Ba (Ac (r-x)) a))||(Ba (Ac (c-y)) b)) then some (.tup [.agg [.int .i64 0,.int .i64 0,.nil],.int .i64 3]) else bif ((Cd a&&Cd b)&&Be r c l&&Pz r c x y a b) then some (.tup [.agg [.int .i64 a,.int .i64 b,.ints .fresh .u64 (Di (toNat a) (toNat b) (fun j1 j2=>Co c l (x+j1) (y+j2)))],.int .i64 0]) else none :=
 Eq.trans (by kernel_rfl)
 (Fe rfl (Ay (Z0 (Ba x 0)) (Ay (Yt (Ba x 0)) (Ay (tt6 (Ba x 0)) (Ay (Anj (Ba x 0) (Ba y 0)) (Ay (Aqx (Ba x 0) (Ba y 0)) (Ay (Ayv (Ba x 0) (Ba y 0)) (Ay (A1j (Ba x 0) (Ba y 0) (Ba a 0)) (Ay (A1k (Ba x 0) (Ba y 0) (Ba a 0)) (Ay (A1l (Ba x 0) (Ba y 0) (Ba a 0)) (Ay (Avd (Ba x 0) (Ba y 0) (Ba a 0) (Ba b 0)) (Ay (Avd (Ba x 0) (Ba y 0) (Ba a 0) (Ba b 0)) (Ay (A1m (Ba x 0) (Ba y 0) (Ba a 0) (Ba b 0)) (Ay (A1n (Ba x 0) (Ba y 0) (Ba a 0) (Ba b 0)) (Ay (A1o (Ba x 0) (Ba y 0) (Ba a 0) (Ba b 0)) (Ay (A1p (Ba x 0) (Ba y 0) (Ba a 0) (Ba b 0) (Ba r x)) (Ay (A1p (Ba x 0) (Ba y 0) (Ba a 0) (Ba b 0) (Ba r x)) (Ay (A35 (Ba x 0) (Ba y 0) (Ba a 0) (Ba b 0) (Ba r x)) (Ay (A36 (Ba x 0) (Ba y 0) (Ba a 0) (Ba b 0) (Ba r x)) (Ay (A37 (Ba x 0) (Ba y 0) (Ba a 0) (Ba b 0) (Ba r x)) (Ay (Ayw (Ba x 0) (Ba y 0) (Ba a 0) (Ba b 0) (Ba r x) (Ba c y)) (Ay (Ayw (Ba x 0) (Ba y 0) (Ba a 0) (Ba b 0) (Ba r x) (Ba c y)) (Ay (A38 (Ba x 0) (Ba y 0) (Ba a 0) (Ba b 0) (Ba r x) (Ba c y)) (Ay (Ayw (Ba x 0) (Ba y 0) (Ba a 0) (Ba b 0) (Ba r x) (Ba c y)) (Ay (A1q (Ba x 0) (Ba y 0) (Ba a 0) (Ba b 0) (Ba r x) (Ba c y)) (Ay (A1q (Ba x 0) (Ba y 0) (Ba a 0) (Ba b 0) (Ba r x) (Ba c y)) (Ay (A39 (Ba x 0) (Ba y 0) (Ba a 0) (Ba b 0) (Ba r x) (Ba c y)) (Ay (Ayx (Ba x 0) (Ba y 0) (Ba a 0) (Ba b 0) (Ba r x) (Ba c y) (Ba (Ac (r-x)) a)) (Ay (Ayx (Ba x 0) (Ba y 0) (Ba a 0) (Ba b 0) (Ba r x) (Ba c y) (Ba (Ac (r-x)) a)) (Ay (A4a (Ba x 0) (Ba y 0) (Ba a 0) (Ba b 0) (Ba r x) (Ba c y) (Ba (Ac (r-x)) a)) (Ay (Ayx (Ba x 0) (Ba y 0) (Ba a 0) (Ba b 0) (Ba r x) (Ba c y) (Ba (Ac (r-x)) a)) (Ay (A1r (Ba x 0) (Ba y 0) (Ba a 0) (Ba b 0) (Ba r x) (Ba c y) (Ba (Ac (r-x)) a)) (Ay (A1r (Ba x 0) (Ba y 0) (Ba a 0) (Ba b 0) (Ba r x) (Ba c y) (Ba (Ac (r-x)) a)) (Ay (A4b (Ba x 0) (Ba y 0) (Ba a 0) (Ba b 0) (Ba r x) (Ba c y) (Ba (Ac (r-x)) a)) (C4 (A4c _ _ _ _ _ _ _ _) rfl rfl)))))))))))))))))))))))))))))))))))
abbrev _root_.Go.Proofs.S1.Aa.Part.Kn:=A8 prog 124 Aa.Part.spec
theorem Aa.Part.Ae (hk:A4 prog Aa.Part.Bi) (h:Hyp Aa.Part.E f124 Aa.Part.ts Aa.Part.pre Aa.Part.out):Aa.Part.Kn :=
 Ar (A5 hk _ _ _) func124 (by kernel_rfl) (by kernel_rfl) h
def Aa.Mul.Bi:List (Nat × Entry):=[(187,Aa.of.Mul.spec),(186,Aa.two.spec)]
def Aa.Mul.E:Env:=Bn (Bh Aa.Mul.Bi) (fun _=>false) (fun _=>none) (fun _=>none)
theorem Aa.Mul.ev (N:Nat) (r c:Int) (l:List Int) (p q:Int) (m:List Int):Ci Aa.Mul.E N f123 (Au f123) [.agg [.int .i64 r,.int .i64 c,.ints .arg .u64 l],.agg [.int .i64 p,.int .i64 q,.ints .arg .u64 m]]=bif ((Aeq r c l p q m) !=(0:Int)) then some (.tup [.agg [.int .i64 0,.int .i64 0,.nil],.int .i64 (Aeq r c l p q m)]) else bif (c !=p) then some (.tup [.agg [.int .i64 0,.int .i64 0,.nil],.int .i64 3]) else bif ((Cd r&&Cd q)&&((Be r c l&&Be p q m)&&(Ak l&&Ak m))&&decide (r=r∧q=q∧c=p)) then some (.tup [.agg [.int .i64 r,.int .i64 q,.ints .fresh .u64 (Di (toNat r) (toNat q) (fun j1 j2=>Lx (Gt c l j1) (Rm p q m j2)))],.int .i64 0]) else none:=by kernel_rfl
abbrev _root_.Go.Proofs.S1.Aa.Mul.Kn:=A8 prog 123 Aa.Mul.spec
theorem Aa.Mul.Ae (hk:A4 prog Aa.Mul.Bi) (h:Hyp Aa.Mul.E f123 Aa.Mul.ts Aa.Mul.pre Aa.Mul.out):Aa.Mul.Kn :=
 Ar (A5 hk _ _ _) func123 (by kernel_rfl) (by kernel_rfl) h
end EqOf
open Go Go.Den Go.Cv Go.Proofs
open EqOf
theorem of.Cm.inner (N:Nat)  {A B:Nat} (hA:A≤6) (hB:B≤6) {F:Nat→Nat→Int} (hF:∀ i j:Nat,F i j=(0:Int)) {i:Nat} (hi:i<A):∀ (k j M0 M:Nat),j+k=B→k<M →
 Aa.of.Cm.L1 N M0 M (A:Int) (B:Int) (i:Int) (i:Int) (j:Int) (Di i B F++(List.range j).map (F i))=Aa.of.Cm.L0 N M0 (A:Int) (B:Int) ((i+1:Nat):Int) (Di (i+1) B F):=by
 intro k
 induction k with
 | zero =>
   intro j M0 M hj hM
   obtain ⟨M,rfl⟩:∃ G,M=G+1:=⟨M-1,by omega⟩
   obtain rfl:j=B:=by omega
   rw [Aa.of.Cm.Cy,Aw,A5q (by omega),A5p,Ap (by omega) (by omega),← Qb]
   rfl
 | succ k ih =>
   intro j M0 M hj hM
   obtain ⟨M,rfl⟩:∃ G,M=G+1:=⟨M-1,by omega⟩
   have d:decide ((Di i B F++(List.range j).map (F i)).length+1≤Kg)=true:=by
    refine A5m ?_
    have:=A6h (show i≤6 by omega) hB
    rw [A6d,Cf,A6r,A6o]; unfold Kg; omega
   rw [Aa.of.Cm.Cy,Aw,A5m (by omega),A5l,d,A5l,Ap (by omega) (by omega),← hF i j]
   have:=ih (j+1) M0 M (by omega) (by omega)
   rw [Mf,← List.append_assoc] at this
   exact this
theorem of.Cm.outer (N:Nat)  {A B:Nat} (hA:A≤6) (hB:B≤6) (hN:6<N) {F:Nat→Nat→Int} (hF:∀ i j:Nat,F i j=(0:Int)):∀ (k i M:Nat),i+k=A→k<M →
 Aa.of.Cm.L0 N M (A:Int) (B:Int) (i:Int) (Di i B F)=some (.agg [.int .i64 (A:Int),.int .i64 (B:Int),.ints (.own 108002 tB) .u64 (Di A B F)]):=by
 intro k
 induction k with
 | zero =>
   intro i M hi hM
   obtain ⟨M,rfl⟩:∃ G,M=G+1:=⟨M-1,by omega⟩
   obtain rfl:i=A:=by omega
   rw [Aa.of.Cm.Ax,Aw,A5q (by omega),A5p]
 | succ k ih =>
   intro i M hi hM
   obtain ⟨M,rfl⟩:∃ G,M=G+1:=⟨M-1,by omega⟩
   have n:=of.Cm.inner N hA hB hF (show i<A by omega) B 0 M N (by omega) (by omega)
   rw [List.range_zero,List.map_nil,List.append_nil] at n
   rw [Aa.of.Cm.Ax,Aw,A5m (by omega),A5l]
   exact n.trans (ih (i+1) M (by omega) (by omega))
theorem of.Hw.inner (N:Nat)  {A B:Nat} (hA:A≤6) (hB:B≤6) {F:Nat→Nat→Int} (hF:∀ i j:Nat,F i j=Uy (i:Int) (j:Int)) {i:Nat} (hi:i<A):∀ (k j M0 M:Nat),j+k=B→k<M →
 Aa.of.Hw.L1 N M0 M (A:Int) (B:Int) (i:Int) (i:Int) (j:Int) (Di i B F++(List.range j).map (F i))=Aa.of.Hw.L0 N M0 (A:Int) (B:Int) ((i+1:Nat):Int) (Di (i+1) B F):=by
 intro k
 induction k with
 | zero =>
   intro j M0 M hj hM
   obtain ⟨M,rfl⟩:∃ G,M=G+1:=⟨M-1,by omega⟩
   obtain rfl:j=B:=by omega
   rw [Aa.of.Hw.Cy,Aw,A5q (by omega),A5p,Ap (by omega) (by omega),← Qb]
   rfl
 | succ k ih =>
   intro j M0 M hj hM
   obtain ⟨M,rfl⟩:∃ G,M=G+1:=⟨M-1,by omega⟩
   have d:decide ((Di i B F++(List.range j).map (F i)).length+1≤Kg)=true:=by
    refine A5m ?_
    have:=A6h (show i≤6 by omega) hB
    rw [A6d,Cf,A6r,A6o]; unfold Kg; omega
   rw [Aa.of.Hw.Cy,Aw,A5m (by omega),A5l,d,A5l,Ap (by omega) (by omega),← hF i j]
   have:=ih (j+1) M0 M (by omega) (by omega)
   rw [Mf,← List.append_assoc] at this
   exact this
theorem of.Hw.outer (N:Nat)  {A B:Nat} (hA:A≤6) (hB:B≤6) (hN:6<N) {F:Nat→Nat→Int} (hF:∀ i j:Nat,F i j=Uy (i:Int) (j:Int)):∀ (k i M:Nat),i+k=A→k<M →
 Aa.of.Hw.L0 N M (A:Int) (B:Int) (i:Int) (Di i B F)=some (.agg [.int .i64 (A:Int),.int .i64 (B:Int),.ints (.own 108002 tB) .u64 (Di A B F)]):=by
 intro k
 induction k with
 | zero =>
   intro i M hi hM
   obtain ⟨M,rfl⟩:∃ G,M=G+1:=⟨M-1,by omega⟩
   obtain rfl:i=A:=by omega
   rw [Aa.of.Hw.Ax,Aw,A5q (by omega),A5p]
 | succ k ih =>
   intro i M hi hM
   obtain ⟨M,rfl⟩:∃ G,M=G+1:=⟨M-1,by omega⟩
   have n:=of.Hw.inner N hA hB hF (show i<A by omega) B 0 M N (by omega) (by omega)
   rw [List.range_zero,List.map_nil,List.append_nil] at n
   rw [Aa.of.Hw.Ax,Aw,A5m (by omega),A5l]
   exact n.trans (ih (i+1) M (by omega) (by omega))
theorem Aa.of.Hw.known:Aa.of.Hw.Kn:=Aa.of.Hw.Ae (.cons Aa.Hn.known .nil) fun a b hp=>by
 have h1:(Cd a&&Cd b)=true:=hp
 obtain ⟨ha,hb⟩:=Ag.1 h1
 obtain ⟨A,rfl,hA⟩:=Jm ha
 obtain ⟨B,rfl,hB⟩:=Jm hb
 refine ⟨8,.agg [.int .i64 (A:Int),.int .i64 (B:Int),.ints (.own 108002 tB) .u64 (Di A B fun (i j:Nat)=>Uy (i:Int) (j:Int))],[108002],?_,Wk.M9 (.cons .int (.cons .int (.cons (.drop _ _ _ _ (List.mem_singleton.2 rfl)) .nil)))⟩
 rw [Aa.of.Hw.ev]
 have n:=of.Hw.outer 8 hA hB (by omega) (F:=fun (i j:Nat)=>Uy (i:Int) (j:Int)) (fun _ _=>rfl) A 0 8 (by omega) (by omega)
 rw [Qa] at n
 exact n
theorem of.Dz.inner (N:Nat) (r c:Int) (l:List Int) {A B:Nat} (hA:A≤6) (hB:B≤6) {F:Nat→Nat→Int} (hF:∀ i j:Nat,F i j=Co c l (j:Int) (i:Int)) {i:Nat} (hi:i<A) (hp:∀ j:Nat,j<B→Hi r c l (j:Int) (i:Int)=true):∀ (k j M0 M:Nat),j+k=B→k<M →
 Aa.of.Dz.L1 N M0 M (A:Int) (B:Int) r c l (i:Int) (i:Int) (j:Int) (Di i B F++(List.range j).map (F i))=Aa.of.Dz.L0 N M0 (A:Int) (B:Int) r c l ((i+1:Nat):Int) (Di (i+1) B F):=by
 intro k
 induction k with
 | zero =>
   intro j M0 M hj hM
   obtain ⟨M,rfl⟩:∃ G,M=G+1:=⟨M-1,by omega⟩
   obtain rfl:j=B:=by omega
   rw [Aa.of.Dz.Cy,Aw,A5q (by omega),A5p,Ap (by omega) (by omega),← Qb]
   rfl
 | succ k ih =>
   intro j M0 M hj hM
   obtain ⟨M,rfl⟩:∃ G,M=G+1:=⟨M-1,by omega⟩
   have d:decide ((Di i B F++(List.range j).map (F i)).length+1≤Kg)=true:=by
    refine A5m ?_
    have:=A6h (show i≤6 by omega) hB
    rw [A6d,Cf,A6r,A6o]; unfold Kg; omega
   rw [Aa.of.Dz.Cy,Aw,A5m (by omega),A5l,hp j (by omega),A5l,d,A5l,Ap (by omega) (by omega),← hF i j]
   have:=ih (j+1) M0 M (by omega) (by omega)
   rw [Mf,← List.append_assoc] at this
   exact this
theorem of.Dz.outer (N:Nat) (r c:Int) (l:List Int) {A B:Nat} (hA:A≤6) (hB:B≤6) (hN:6<N) {F:Nat→Nat→Int} (hF:∀ i j:Nat,F i j=Co c l (j:Int) (i:Int)) (hp:∀ i j:Nat,i<A→j<B→Hi r c l (j:Int) (i:Int)=true):∀ (k i M:Nat),i+k=A→k<M →
 Aa.of.Dz.L0 N M (A:Int) (B:Int) r c l (i:Int) (Di i B F)=some (.agg [.int .i64 (A:Int),.int .i64 (B:Int),.ints (.own 108002 tB) .u64 (Di A B F)]):=by
 intro k
 induction k with
 | zero =>
   intro i M hi hM
   obtain ⟨M,rfl⟩:∃ G,M=G+1:=⟨M-1,by omega⟩
   obtain rfl:i=A:=by omega
   rw [Aa.of.Dz.Ax,Aw,A5q (by omega),A5p]
 | succ k ih =>
   intro i M hi hM
   obtain ⟨M,rfl⟩:∃ G,M=G+1:=⟨M-1,by omega⟩
   have n:=of.Dz.inner N r c l hA hB hF (show i<A by omega) (fun j hj=>hp i j (by omega) hj) B 0 M N (by omega) (by omega)
   rw [List.range_zero,List.map_nil,List.append_nil] at n
   rw [Aa.of.Dz.Ax,Aw,A5m (by omega),A5l]
   exact n.trans (ih (i+1) M (by omega) (by omega))
theorem Aa.of.Dz.known:Aa.of.Dz.Kn:=Aa.of.Dz.Ae (.cons Aa.Fq.known .nil) fun a b r c l hp=>by
 obtain ⟨h12,hy⟩:=Ag.1 (show (((Cd a&&Cd b)&&Be r c l)&&decide (a=c∧b=r))=true from hp)
 obtain ⟨h1,hx⟩:=Ag.1 h12
 have h2:=Ag.2 ⟨hx,hy⟩
 obtain ⟨ha,hb⟩:=Ag.1 h1
 obtain ⟨A,rfl,hA⟩:=Jm ha
 obtain ⟨B,rfl,hB⟩:=Jm hb
 obtain ⟨hr,he⟩:=Ag.1 h2
 obtain ⟨e1,e2⟩:=A6b he
 have hp:∀ i j:Nat,i<A→j<B→Hi r c l (j:Int) (i:Int)=true:=fun i j hi hj=>Yo hr (by omega) (by omega) (by omega) (by omega) r
 refine ⟨8,.agg [.int .i64 (A:Int),.int .i64 (B:Int),.ints (.own 108002 tB) .u64 (Di A B fun (i j:Nat)=>Co c l (j:Int) (i:Int))],[108002],?_,Wk.M9 (.cons .int (.cons .int (.cons (.drop _ _ _ _ (List.mem_singleton.2 rfl)) .nil)))⟩
 rw [Aa.of.Dz.ev]
 have n:=of.Dz.outer 8 r c l hA hB (by omega) (F:=fun (i j:Nat)=>Co c l (j:Int) (i:Int)) (fun _ _=>rfl) hp A 0 8 (by omega) (by omega)
 rw [Qa] at n
 exact n
theorem of.Part.inner (N:Nat) (r c:Int) (l:List Int) (x y:Int) {A B:Nat} (hA:A≤6) (hB:B≤6) {F:Nat→Nat→Int} (hF:∀ i j:Nat,F i j=Co c l (x+(i:Int)) (y+(j:Int))) {i:Nat} (hi:i<A) (hp:∀ j:Nat,j<B→(Hi r c l (x+(i:Int)) (y+(j:Int))&&Aaa x y (i:Int) (j:Int))=true):∀ (k j M0 M:Nat),j+k=B→k<M →
 Aa.of.Part.L1 N M0 M (A:Int) (B:Int) r c l x y (i:Int) (i:Int) (j:Int) (Di i B F++(List.range j).map (F i))=Aa.of.Part.L0 N M0 (A:Int) (B:Int) r c l x y ((i+1:Nat):Int) (Di (i+1) B F):=by
 intro k
 induction k with
 | zero =>
   intro j M0 M hj hM
   obtain ⟨M,rfl⟩:∃ G,M=G+1:=⟨M-1,by omega⟩
   obtain rfl:j=B:=by omega
   rw [Aa.of.Part.Cy,Aw,A5q (by omega),A5p,Ap (by omega) (by omega),← Qb]
   rfl
 | succ k ih =>
   intro j M0 M hj hM
   obtain ⟨M,rfl⟩:∃ G,M=G+1:=⟨M-1,by omega⟩
   have d:decide ((Di i B F++(List.range j).map (F i)).length+1≤Kg)=true:=by
    refine A5m ?_
    have:=A6h (show i≤6 by omega) hB
    rw [A6d,Cf,A6r,A6o]; unfold Kg; omega
   rw [Aa.of.Part.Cy,Aw,A5m (by omega),A5l,hp j (by omega),A5l,d,A5l,Ap (by omega) (by omega),← hF i j]
   have:=ih (j+1) M0 M (by omega) (by omega)
   rw [Mf,← List.append_assoc] at this
   exact this
theorem of.Part.outer (N:Nat) (r c:Int) (l:List Int) (x y:Int) {A B:Nat} (hA:A≤6) (hB:B≤6) (hN:6<N) {F:Nat→Nat→Int} (hF:∀ i j:Nat,F i j=Co c l (x+(i:Int)) (y+(j:Int))) (hp:∀ i j:Nat,i<A→j<B→(Hi r c l (x+(i:Int)) (y+(j:Int))&&Aaa x y (i:Int) (j:Int))=true):∀ (k i M:Nat),i+k=A→k<M →
 Aa.of.Part.L0 N M (A:Int) (B:Int) r c l x y (i:Int) (Di i B F)=some (.agg [.int .i64 (A:Int),.int .i64 (B:Int),.ints (.own 108002 tB) .u64 (Di A B F)]):=by
 intro k
 induction k with
 | zero =>
   intro i M hi hM
   obtain ⟨M,rfl⟩:∃ G,M=G+1:=⟨M-1,by omega⟩
   obtain rfl:i=A:=by omega
   rw [Aa.of.Part.Ax,Aw,A5q (by omega),A5p]
 | succ k ih =>
   intro i M hi hM
   obtain ⟨M,rfl⟩:∃ G,M=G+1:=⟨M-1,by omega⟩
   have n:=of.Part.inner N r c l x y hA hB hF (show i<A by omega) (fun j hj=>hp i j (by omega) hj) B 0 M N (by omega) (by omega)
   rw [List.range_zero,List.map_nil,List.append_nil] at n
   rw [Aa.of.Part.Ax,Aw,A5m (by omega),A5l]
   exact n.trans (ih (i+1) M (by omega) (by omega))
theorem Aa.of.Part.known:Aa.of.Part.Kn:=Aa.of.Part.Ae (.cons Aa.Fs.known .nil) fun a b r c l x y hp=>by
 obtain ⟨h12,hy⟩:=Ag.1 (show (((Cd a&&Cd b)&&Be r c l)&&Pz r c x y a b)=true from hp)
 obtain ⟨h1,hx⟩:=Ag.1 h12
 have h2:=Ag.2 ⟨hx,hy⟩
 obtain ⟨ha,hb⟩:=Ag.1 h1
 obtain ⟨A,rfl,hA⟩:=Jm ha
 obtain ⟨B,rfl,hB⟩:=Jm hb
 obtain ⟨hr,he⟩:=Ag.1 h2
 have he:=A6b he
 have hs:=Nw.1 hr
 have hp:∀ i j:Nat,i<A→j<B→(Hi r c l (x+(i:Int)) (y+(j:Int))&&Aaa x y (i:Int) (j:Int))=true:=fun i j hi hj =>
  Ag.2 ⟨Yo hr (by omega) (by omega) (by omega) (by omega) r,As.2 (by omega)⟩
 refine ⟨8,.agg [.int .i64 (A:Int),.int .i64 (B:Int),.ints (.own 108002 tB) .u64 (Di A B fun (i j:Nat)=>Co c l (x+(i:Int)) (y+(j:Int)))],[108002],?_,Wk.M9 (.cons .int (.cons .int (.cons (.drop _ _ _ _ (List.mem_singleton.2 rfl)) .nil)))⟩
 rw [Aa.of.Part.ev]
 have n:=of.Part.outer 8 r c l x y hA hB (by omega) (F:=fun (i j:Nat)=>Co c l (x+(i:Int)) (y+(j:Int))) (fun _ _=>rfl) hp A 0 8 (by omega) (by omega)
 rw [Qa] at n
 exact n
theorem of.Mul.inner (N:Nat) (r c:Int) (l:List Int) (p q:Int) (m:List Int) {A B:Nat} (hA:A≤6) (hB:B≤6) {F:Nat→Nat→Int} (hF:∀ i j:Nat,F i j=Lx (Gt c l (i:Int)) (Rm p q m (j:Int))) {i:Nat} (hi:i<A) (hp:∀ j:Nat,j<B→Xh r c l p q m (i:Int) (j:Int)=true):∀ (k j M0 M:Nat),j+k=B→k<M →
 Aa.of.Mul.L1 N M0 M (A:Int) (B:Int) r c l p q m (i:Int) (i:Int) (j:Int) (Di i B F++(List.range j).map (F i))=Aa.of.Mul.L0 N M0 (A:Int) (B:Int) r c l p q m ((i+1:Nat):Int) (Di (i+1) B F):=by
 intro k
 induction k with
 | zero =>
   intro j M0 M hj hM
   obtain ⟨M,rfl⟩:∃ G,M=G+1:=⟨M-1,by omega⟩
   obtain rfl:j=B:=by omega
   rw [Aa.of.Mul.Cy,Aw,A5q (by omega),A5p,Ap (by omega) (by omega),← Qb]
   rfl
 | succ k ih =>
   intro j M0 M hj hM
   obtain ⟨M,rfl⟩:∃ G,M=G+1:=⟨M-1,by omega⟩
   have d:decide ((Di i B F++(List.range j).map (F i)).length+1≤Kg)=true:=by
    refine A5m ?_
    have:=A6h (show i≤6 by omega) hB
    rw [A6d,Cf,A6r,A6o]; unfold Kg; omega
   rw [Aa.of.Mul.Cy,Aw,A5m (by omega),A5l,hp j (by omega),A5l,d,A5l,Ap (by omega) (by omega),← hF i j]
   have:=ih (j+1) M0 M (by omega) (by omega)
   rw [Mf,← List.append_assoc] at this
   exact this
theorem of.Mul.outer (N:Nat) (r c:Int) (l:List Int) (p q:Int) (m:List Int) {A B:Nat} (hA:A≤6) (hB:B≤6) (hN:6<N) {F:Nat→Nat→Int} (hF:∀ i j:Nat,F i j=Lx (Gt c l (i:Int)) (Rm p q m (j:Int))) (hp:∀ i j:Nat,i<A→j<B→Xh r c l p q m (i:Int) (j:Int)=true):∀ (k i M:Nat),i+k=A→k<M →
 Aa.of.Mul.L0 N M (A:Int) (B:Int) r c l p q m (i:Int) (Di i B F)=some (.agg [.int .i64 (A:Int),.int .i64 (B:Int),.ints (.own 108002 tB) .u64 (Di A B F)]):=by
 intro k
 induction k with
 | zero =>
   intro i M hi hM
   obtain ⟨M,rfl⟩:∃ G,M=G+1:=⟨M-1,by omega⟩
   obtain rfl:i=A:=by omega
   rw [Aa.of.Mul.Ax,Aw,A5q (by omega),A5p]
 | succ k ih =>
   intro i M hi hM
   obtain ⟨M,rfl⟩:∃ G,M=G+1:=⟨M-1,by omega⟩
   have n:=of.Mul.inner N r c l p q m hA hB hF (show i<A by omega) (fun j hj=>hp i j (by omega) hj) B 0 M N (by omega) (by omega)
   rw [List.range_zero,List.map_nil,List.append_nil] at n
   rw [Aa.of.Mul.Ax,Aw,A5m (by omega),A5l]
   exact n.trans (ih (i+1) M (by omega) (by omega))
theorem Aa.of.Mul.known:Aa.of.Mul.Kn:=Aa.of.Mul.Ae (.cons Aa.Hl.known .nil) fun a b r c l p q m hp=>by
 obtain ⟨h12,hy⟩:=Ag.1 (show (((Cd a&&Cd b)&&((Be r c l&&Be p q m)&&(Ak l&&Ak m)))&&decide (a=r∧b=q∧c=p))=true from hp)
 obtain ⟨h1,hx⟩:=Ag.1 h12
 have h2:=Ag.2 ⟨hx,hy⟩
 obtain ⟨ha,hb⟩:=Ag.1 h1
 obtain ⟨A,rfl,hA⟩:=Jm ha
 obtain ⟨B,rfl,hB⟩:=Jm hb
 obtain ⟨h3,he⟩:=Ag.1 h2
 obtain ⟨h4,h5⟩:=Ag.1 h3
 obtain ⟨hr,hm⟩:=Ag.1 h4
 obtain ⟨e1,e2,e3⟩:=A6b he
 have hp:∀ i j:Nat,i<A→j<B→Xh r c l p q m (i:Int) (j:Int)=true:=fun i j hi hj =>
  Ag.2 ⟨Ag.2 ⟨Ag.2 ⟨hr,As.2 (by omega)⟩,Ag.2 ⟨hm,As.2 (by omega)⟩⟩,Ag.2 ⟨h5,As.2 e3⟩⟩
 refine ⟨8,.agg [.int .i64 (A:Int),.int .i64 (B:Int),.ints (.own 108002 tB) .u64 (Di A B fun (i j:Nat)=>Lx (Gt c l (i:Int)) (Rm p q m (j:Int)))],[108002],?_,Wk.M9 (.cons .int (.cons .int (.cons (.drop _ _ _ _ (List.mem_singleton.2 rfl)) .nil)))⟩
 rw [Aa.of.Mul.ev]
 have n:=of.Mul.outer 8 r c l p q m hA hB (by omega) (F:=fun (i j:Nat)=>Lx (Gt c l (i:Int)) (Rm p q m (j:Int))) (fun _ _=>rfl) hp A 0 8 (by omega) (by omega)
 rw [Qa] at n
 exact n
open Go Go.Den Go.Cv Go.Proofs
open EqOf
def Aar (x:MX):DV:=.tup [.agg [.int .i64 x.1,.int .i64 x.2.1,.ints .fresh .u64 x.2.2.1],.int .i64 x.2.2.2]
def Azm (e:Int):DV:=.tup [.agg [.int .i64 0,.int .i64 0,.nil],.int .i64 e]
theorem Ue {drops:List Nat} {x:MX}:Wk drops (Aar x) (Aar x) :=
 Wk.Jc (.cons (Wk.M9 (.cons .int (.cons .int (.cons .Uv .nil)))) (.cons .int .nil))
theorem N2 {drops:List Nat} {e:Int}:Wk drops (Azm e) (Aar (Pu e)) :=
 Wk.Jc (.cons (Wk.M9 (.cons .int (.cons .int (.cons (.nil _ _) .nil)))) (.cons .int .nil))
theorem Aa.Hw.known:Aa.Hw.Kn:=Aa.Hw.Ae (.cons Aa.of.Hw.known (.cons Aa.size.known .nil)) fun n _=>by
 show ∃ N dv drops,_=some dv∧Wk drops dv (Aar (Q0 n))
 unfold Q0
 by_cases h:Cd n=true
 ·rw [A58 h]
  exact ⟨0,_,[],by rw [Aa.Hw.ev,h]; rfl,Ue⟩
 ·have e:Cd n=false:=by simpa using h
  rw [A57 h]
  exact ⟨0,_,[],by rw [Aa.Hw.ev,e]; rfl,N2⟩
theorem Mg {r c:Int} {l:List Int} (h:Be r c l=true):Cd r=true∧Cd c=true:=by
 obtain ⟨h1,h2,_⟩:=Nw.1 h
 exact ⟨Jn.2 h1,Jn.2 h2⟩
theorem Aa.Dz.known:Aa.Dz.Kn:=Aa.Dz.Ae (.cons Aa.Check.known (.cons Aa.of.Dz.known .nil)) fun r c l _=>by
 show ∃ N dv drops,_=some dv∧Wk drops dv (Aar (Gc r c l))
 unfold Gc
 by_cases h:Be r c l=true
 ·obtain ⟨h1,h2⟩:=Mg h
  rw [A58 h]
  exact ⟨0,_,[],by rw [Aa.Dz.ev,U1,h,h1,h2,A5m ⟨rfl,rfl⟩]; rfl,Ue⟩
 ·have e:Be r c l=false:=by simpa using h
  have ec:M7 r c l=1:=by unfold M7; rw [e]; rfl
  rw [A57 h]
  exact ⟨0,_,[],by rw [Aa.Dz.ev,U1,e,ec]; rfl,N2⟩
theorem Adh {r c x y a b:Int} (hr:0≤r∧r≤6) (hc:0≤c∧c≤6) :
 ((((((((Ba x (0:Int))||(Ba y (0:Int)))||(Ba a (0:Int)))||(Ba b (0:Int)))||(Ba r x))||(Ba c y))||(Ba (Ac (r-x)) a))||(Ba (Ac (c-y)) b))=!(Pz r c x y a b):=by
 unfold Pz
 simp only [Aw]
 by_cases h:0≤x∧0≤y∧x≤r∧y≤c
 ·rw [Ap (x:=r-x) (by omega) (by omega),Ap (x:=c-y) (by omega) (by omega),A51]
  simp only [Bool.or_eq_true,A5s,Bool.not_eq_true',A54]
  omega
 ·have e:decide (0≤x∧0≤y∧0≤a∧0≤b∧x≤r∧y≤c∧a≤r-x∧b≤c-y)=false:=A5q (by omega)
  rw [e,A51]
  simp only [Bool.or_eq_true,A5s,A64,iff_true]
  omega
theorem Ajz {r c x y a b:Int} {l:List Int} (h:Be r c l=true) (hp:Pz r c x y a b=true):Cd a=true∧Cd b=true:=by
 obtain ⟨h1,h2,_⟩:=Nw.1 h
 have:=A6b hp
 exact ⟨Jn.2 (by omega),Jn.2 (by omega)⟩
theorem Aa.Part.known:Aa.Part.Kn:=Aa.Part.Ae (.cons Aa.Check.known (.cons Aa.of.Part.known .nil)) fun r c l x y a b _=>by
 show ∃ N dv drops,_=some dv∧Wk drops dv (Aar (Ir r c l x y a b))
 unfold Ir
 by_cases h:Be r c l=true
 ·obtain ⟨h1,h2,_⟩:=Nw.1 h
  by_cases hp:Pz r c x y a b=true
  ·obtain ⟨s1,s2⟩:=Ajz h hp
   rw [A58 h,A58 hp]
   exact ⟨0,_,[],by rw [Aa.Part.ev,U1,Adh h1 h2,h,hp,s1,s2]; rfl,Ue⟩
  ·have e:Pz r c x y a b=false:=by simpa using hp
   rw [A58 h,A57 hp]
   exact ⟨0,_,[],by rw [Aa.Part.ev,U1,Adh h1 h2,h,e]; rfl,N2⟩
 ·have e:Be r c l=false:=by simpa using h
  have ec:M7 r c l=1:=by unfold M7; rw [e]; rfl
  rw [A57 h]
  exact ⟨0,_,[],by rw [Aa.Part.ev,U1,e,ec]; rfl,N2⟩
theorem Zz (r c:Int) (l:List Int) (p q:Int) (m:List Int):((Aeq r c l p q m) !=(0:Int))=!(Be r c l&&Be p q m):=by
 unfold Aeq
 cases Be r c l&&Be p q m<;>rfl
theorem Ayp {r c:Int} {l:List Int} {p q:Int} {m:List Int} (h:(Be r c l&&Be p q m)=false):Aeq r c l p q m=1:=by
 unfold Aeq; rw [h]; rfl
theorem Aa.Mul.known:Aa.Mul.Kn:=Aa.Mul.Ae (.cons Aa.of.Mul.known (.cons Aa.two.known .nil)) fun r c l p q m hp=>by
 show ∃ N dv drops,_=some dv∧Wk drops dv (Aar (Uq r c l p q m))
 unfold Uq
 have hp:(Ak l&&Ak m)=true:=hp
 by_cases h:(Be r c l&&Be p q m)=true
 ·obtain ⟨h1,h2⟩:=Ag.1 h
  by_cases hc:c=p
  ·have e:(c !=p)=false:=by rw [hc]; simp
   rw [A58 h,A58 hc]
   exact ⟨0,_,[],by rw [Aa.Mul.ev,Zz,h,e,(Mg h1).1,(Mg h2).2,hp,A5m ⟨rfl,rfl,hc⟩]; rfl,Ue⟩
  ·have e:(c !=p)=true:=by simpa using hc
   rw [A58 h,A57 hc]
   exact ⟨0,_,[],by rw [Aa.Mul.ev,Zz,h,e]; rfl,N2⟩
 ·have e:(Be r c l&&Be p q m)=false:=by simpa using h
  rw [A57 h]
  exact ⟨0,_,[],by rw [Aa.Mul.ev,Zz,e,Ayp e]; rfl,N2⟩
open Go Go.Den Go.Cv Go.Proofs
set_option maxRecDepth 100000
namespace EqRef10
def Bo.G7.Bi:List (Nat × Entry):=[]
def Bo.G7.E:Env:=Bn (Bh Bo.G7.Bi) (fun _=>false) (fun _=>none) (fun _=>none)
theorem Bo.G7.ev (N:Nat) (r c:Int) (l:List Int):Ci Bo.G7.E N f91 (Au f91) [.agg [.int .i64 r,.int .i64 c,.ints .arg .u64 l]]=some (.bool (bif (bif (bif (bif (Ev 0 r) then (Ev r 6) else false) then (Ev 0 c) else false) then (Ev c 6) else false) then ((length l:Int)==(Ac (r*c))) else false)) :=
 Eq.trans (by kernel_rfl)
 (Ay (Rt (Ev 0 r)) (Ay (N6 (Ev 0 r)) (Ay (N6 (Ev 0 r)) (Ay (X5 (Ev 0 r)) (Ay (A1f (Ev 0 r) (Ev r 6)) (Ay (Aqw (Ev 0 r) (Ev r 6)) (Ay (Aqw (Ev 0 r) (Ev r 6)) (Ay (A1g (Ev 0 r) (Ev r 6)) (Ay (A32 (Ev 0 r) (Ev r 6) (Ev 0 c)) (Ay (A1h (Ev 0 r) (Ev r 6) (Ev 0 c)) (Ay (A1h (Ev 0 r) (Ev r 6) (Ev 0 c)) (Ay (A33 (Ev 0 r) (Ev r 6) (Ev 0 c)) (Ay (Ayu (Ev 0 r) (Ev r 6) (Ev 0 c) (Ev c 6)) (Ay (Avc (Ev 0 r) (Ev r 6) (Ev 0 c) (Ev c 6)) (Ay (Avc (Ev 0 r) (Ev r 6) (Ev 0 c) (Ev c 6)) (Ay (Ayu (Ev 0 r) (Ev r 6) (Ev 0 c) (Ev c 6)) (Ay (Avc (Ev 0 r) (Ev r 6) (Ev 0 c) (Ev c 6)) (Ay (Ayu (Ev 0 r) (Ev r 6) (Ev 0 c) (Ev c 6)) (Ay (Avc (Ev 0 r) (Ev r 6) (Ev 0 c) (Ev c 6)) (Ay (A1i (Ev 0 r) (Ev r 6) (Ev 0 c) (Ev c 6)) (Ay (A1i (Ev 0 r) (Ev r 6) (Ev 0 c) (Ev c 6)) (Ay (A34 (Ev 0 r) (Ev r 6) (Ev 0 c) (Ev c 6)) rfl))))))))))))))))))))))
abbrev _root_.Go.Proofs.S1.Bo.G7.Kn:=A8 prog 91 Bo.G7.spec
theorem Bo.G7.Ae (hk:A4 prog Bo.G7.Bi) (h:Hyp Bo.G7.E f91 Bo.G7.ts Bo.G7.pre Bo.G7.out):Bo.G7.Kn :=
 Ar (A5 hk _ _ _) func91 (by kernel_rfl) (by kernel_rfl) h
def Bo.At.Bi:List (Nat × Entry):=[]
def Bo.At.E:Env:=Bn (Bh Bo.At.Bi) (fun _=>false) (fun _=>none) (fun _=>none)
theorem Bo.At.ev (N:Nat) (r c:Int) (l:List Int) (i k:Int):Ci Bo.At.E N f80 (Au f80) [.agg [.int .i64 r,.int .i64 c,.ints .arg .u64 l],.int .i64 i,.int .i64 k]=bif ((decide (0≤(Ac ((Ac (i*c))+k))))&&(decide ((Ac ((Ac (i*c))+k))<(length l:Int)))) then some (.int .u64 (getD l (toNat (Ac ((Ac (i*c))+k))) 0)) else none:=by kernel_rfl
abbrev _root_.Go.Proofs.S1.Bo.At.Kn:=A8 prog 80 Bo.At.spec
theorem Bo.At.Ae (hk:A4 prog Bo.At.Bi) (h:Hyp Bo.At.E f80 Bo.At.ts Bo.At.pre Bo.At.out):Bo.At.Kn :=
 Ar (A5 hk _ _ _) func80 (by kernel_rfl) (by kernel_rfl) h
def Bo.Hw.hint:Nat→Option Bf
 | 0=>some { keep:=[0,2,3,4],objs:=[],boxes:=[2,3] }
 | _=>none
def Bo.Row.Bi:List (Nat × Entry):=[]
def Bo.Row.E:Env:=Bn (Bh Bo.Row.Bi) (fun _=>false) (fun _=>none) (fun _=>none)
theorem Bo.Row.ev (N:Nat) (r c:Int) (l:List Int) (i:Int):Ci Bo.Row.E N f107 (Au f107) [.agg [.int .i64 r,.int .i64 c,.ints .arg .u64 l],.int .i64 i]=bif (((decide ((0:Int)≤(Ac (i*c))))&&(decide ((Ac (i*c))≤(Ac ((Ac (i+1))*c)))))&&((decide ((0:Int)≤(Ac ((Ac (i+1))*c))))&&(decide ((Ac ((Ac (i+1))*c))≤(length l:Int))))) then some (.ints .arg .u64 (List.drop (toNat (Ac (i*c))) (List.take (toNat (Ac ((Ac (i+1))*c))) l))) else none :=
 Eq.trans (by kernel_rfl)
 (C4 (A1s _ _ _ _) rfl rfl)
abbrev _root_.Go.Proofs.S1.Bo.Row.Kn:=A8 prog 107 Bo.Row.spec
theorem Bo.Row.Ae (hk:A4 prog Bo.Row.Bi) (h:Hyp Bo.Row.E f107 Bo.Row.ts Bo.Row.pre Bo.Row.out):Bo.Row.Kn :=
 Ar (A5 hk _ _ _) func107 (by kernel_rfl) (by kernel_rfl) h
def Bo.Rn.hint:Nat→Option Bf
 | 0=>some { keep:=[1,3,7,8],objs:=[(0,7,100007,.ints 37 .u64 [])],boxes:=[3] }
 | _=>none
def Bo.Rn.Bi:List (Nat × Entry):=[(80,Bo.At.spec)]
def Bo.Rn.E:Env:=Bn (Bh Bo.Rn.Bi) (fun _=>false) Bo.Rn.hint (fun _=>none)
section
variable (N M:Nat) (r c:Int) (l:List Int) (k f p8:Int) (p7:List Int)
def Bo.Rn.L0:Option DV:=Ce Bo.Rn.E N f108 (Au f108) [1,1,0,1,0] [] M ⟨Ik 25 [(1,.int .i64 k),(3,.ptr 3 0 0),(7,.oref 100007),(8,.int .i64 p8)],[(3,false,.box [.int .i64 r,.int .i64 c,.ints .arg .u64 l]),(100007,false,.ints 37 .u64 p7)]⟩
theorem Bo.Rn.Ax:Bo.Rn.L0 N (M+1) r c l k p8 p7=bif (Ba p8 r) then bif (Hi r c l p8 k) then bif (decide ((length p7)+1≤Kg)) then Bo.Rn.L0 N M r c l k (Ac (p8+1)) (p7++[(Co c l p8 k)]) else none else none else some (.ints (.own 100007 37) .u64 p7):=by kernel_rfl
theorem Bo.Rn.ev:Ci Bo.Rn.E N f108 (Au f108) [.agg [.int .i64 r,.int .i64 c,.ints .arg .u64 l],.int .i64 k,.int .i64 f] =
 Bo.Rn.L0 N N r c l k f []:=by kernel_rfl
end
abbrev _root_.Go.Proofs.S1.Bo.Rn.Kn:=A8 prog 108 Bo.Rn.spec
theorem Bo.Rn.Ae (hk:A4 prog Bo.Rn.Bi) (h:Hyp Bo.Rn.E f108 Bo.Rn.ts Bo.Rn.pre Bo.Rn.out):Bo.Rn.Kn :=
 Ar (A5 hk _ _ _) func108 (by kernel_rfl) (by kernel_rfl) h
end EqRef10
end Go.Proofs.S1
end
