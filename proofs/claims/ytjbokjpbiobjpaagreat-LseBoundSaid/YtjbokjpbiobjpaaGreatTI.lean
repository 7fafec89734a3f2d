/- A verified evaluator of the program's form and its use for this seat: S1EqBits6, S1EqTimes, S1PTimes, S1PTimesA, S1EqVec, S1PVec, S1EqMat, S1PMat, S1EqCmp, S1PCmp, S1PDiv, RootM, HouL, S1EqRoot, S1PRoot, S1PRootA, LdxL, S1EqLdx, S1PLdx, S1PLdxA, S1EqRef08, S1EqRef13. -/
import Derived.Test.YtjbokjpbiobjpaaGreatTE
import Derived.Test.YtjbokjpbiobjpaaGreatTF
import Derived.Test.YtjbokjpbiobjpaaGreatTH
import Derived.Test.YtjbokjpbiobjpaaGreatTG
set_option linter.unusedVariables false
set_option linter.unusedSimpArgs false
noncomputable section
open Int (toNat)
open List (length getD)
open Go.Proofs.Tryz
namespace Go.Proofs.S1
open Go Go.Den Go.Rnd Go.Proofs
set_option maxRecDepth 100000
namespace EqBits6
def B8.Bf.A8:List (Nat × Entry):=[(261,B8.Iz.spec)]
def B8.Bf.E:Env:=Ba (A7 B8.Bf.A8) (fun _=>false) (fun _=>none) (fun _=>none)
theorem B8.Bf.ev (N:Nat) (x:Int):B0 B8.Bf.E N f250 (Ap f250) [.int .u64 x]=bif (Ah x) then some (.int .i64 (Ab ((64:Int)-(Ef x)))) else none:=by kernel_rfl
abbrev _root_.Go.Proofs.S1.B8.Bf.Kn:=A4 prog 250 B8.Bf.spec
theorem B8.Bf.Ad (hk:Ay prog B8.Bf.A8) (h:Hyp B8.Bf.E f250 B8.Bf.ts B8.Bf.pre B8.Bf.out):B8.Bf.Kn :=
 Al (A1 hk _ _ _) func250 (by kernel_rfl) (by kernel_rfl) h
def B8.Gl.A8:List (Nat × Entry):=[]
def B8.Gl.E:Env:=Ba (A7 B8.Gl.A8) (fun _=>false) (fun _=>none) (fun _=>none)
theorem B8.Gl.ev (N:Nat) (x y:Int):B0 B8.Gl.E N f237 (Ap f237) [.int .u64 x,.int .u64 y]=some (.tup [.int .u64 (Bg ((Bg ((Bg ((Db .u64 x 32)*(Db .u64 y 32)))+(Db .u64 (Bg ((Bg ((Db .u64 x 32)*(Fz .u64 y 4294967295)))+(Db .u64 (Bg ((Fz .u64 x 4294967295)*(Fz .u64 y 4294967295))) 32))) 32)))+(Db .u64 (Bg ((Fz .u64 (Bg ((Bg ((Db .u64 x 32)*(Fz .u64 y 4294967295)))+(Db .u64 (Bg ((Fz .u64 x 4294967295)*(Fz .u64 y 4294967295))) 32))) 4294967295)+(Bg ((Fz .u64 x 4294967295)*(Db .u64 y 32))))) 32))),.int .u64 (Bg (x*y))]):=by kernel_rfl
abbrev _root_.Go.Proofs.S1.B8.Gl.Kn:=A4 prog 237 B8.Gl.spec
theorem B8.Gl.Ad (hk:Ay prog B8.Gl.A8) (h:Hyp B8.Gl.E f237 B8.Gl.ts B8.Gl.pre B8.Gl.out):B8.Gl.Kn :=
 Al (A1 hk _ _ _) func237 (by kernel_rfl) (by kernel_rfl) h
abbrev _root_.Go.Proofs.S1.B8.Iz.Kn:Prop:=A4 prog 261 B8.Iz.spec
theorem _root_.Go.Proofs.S1.B8.Iz.call:∀ (args:Array Value) (w:World),(callFunc 261 args).run prog w=.ok (.enter 261 args) w:=Q9 func261 (by kernel_rfl) (show f261.body=some (Ap f261) by kernel_rfl)
theorem _root_.Go.Proofs.S1.B8.Iz.run (x:Int) (w:World) (h0:0≤x) (h1:x≤18446744073709551615):Calls prog 261 #[.int .u64 x] w fun e w'=>e=.returned (.int .i64 (Lib.bitLen x.toNat))∧w'=w:=Tryz.Afh x w h0 h1
end EqBits6
namespace EqTimes
def times.signed.A8:List (Nat × Entry):=[(233,soft.E9.spec)]
def times.signed.E:Env:=Ba (A7 times.signed.A8) (fun _=>false) (fun _=>none) (fun _=>none)
theorem times.signed.ev (N:Nat) (b:Int) (n:Bool):B0 times.signed.E N f235 (Ap f235) [.int .u64 b,.bool n]=bif n then bif (Ah b) then some (.int .u64 (Dk b)) else none else some (.int .u64 b):=by kernel_rfl
abbrev _root_.Go.Proofs.S1.times.signed.Kn:=A4 prog 235 times.signed.spec
theorem times.signed.Ad (hk:Ay prog times.signed.A8) (h:Hyp times.signed.E f235 times.signed.ts times.signed.pre times.signed.out):times.signed.Kn :=
 Al (A1 hk _ _ _) func235 (by kernel_rfl) (by kernel_rfl) h
def times.nan.A8:List (Nat × Entry):=[(155,soft.Kind.spec)]
def times.nan.E:Env:=Ba (A7 times.nan.A8) (fun _=>false) (fun _=>none) (fun _=>none)
theorem times.nan.ev (N:Nat) (a b:Int):B0 times.nan.E N f234 (Ap f234) [.int .u64 a,.int .u64 b]=bif (Ah a) then bif ((Av a)==(4:Int)) then some (.bool true) else bif (Ah b) then bif ((Av b)==(4:Int)) then some (.bool true) else some (.bool false) else none else none:=by kernel_rfl
abbrev _root_.Go.Proofs.S1.times.nan.Kn:=A4 prog 234 times.nan.spec
theorem times.nan.Ad (hk:Ay prog times.nan.A8) (h:Hyp times.nan.E f234 times.nan.ts times.nan.pre times.nan.out):times.nan.Kn :=
 Al (A1 hk _ _ _) func234 (by kernel_rfl) (by kernel_rfl) h
def times.norm.A8:List (Nat × Entry):=[(250,B8.Bf.spec),(211,soft.Ex.spec)]
def times.norm.E:Env:=Ba (A7 times.norm.A8) (fun _=>false) (fun _=>none) (fun _=>none)
theorem times.norm.ev (N:Nat) (b:Int):B0 times.norm.E N f236 (Ap f236) [.int .u64 b]=bif (Ah b) then bif (Ah (Bc b)) then bif (decide (0≤(Ab ((64-Ef (Bc b))-11)))) then some (.tup [.int .u64 (Bp .u64 (Bc b) (Ab ((64-Ef (Bc b))-11))),.int .i64 (Ab ((A3 b)-(Ab ((64-Ef (Bc b))-11))))]) else none else none else none:=by kernel_rfl
abbrev _root_.Go.Proofs.S1.times.norm.Kn:=A4 prog 236 times.norm.spec
theorem times.norm.Ad (hk:Ay prog times.norm.A8) (h:Hyp times.norm.E f236 times.norm.ts times.norm.pre times.norm.out):times.norm.Kn :=
 Al (A1 hk _ _ _) func236 (by kernel_rfl) (by kernel_rfl) h
def times.wide.hint:Nat→Option A5
 | 0=>some { keep:=[0,1,2,3],objs:=[],boxes:=[] }
 | _=>none
def times.wide.A8:List (Nat × Entry):=[(212,soft.Cu.spec)]
def times.wide.E:Env:=Ba (A7 times.wide.A8) (fun _=>false) times.wide.hint (fun _=>none)
section
variable (N M:Nat) (n:Bool) (m e:Int) (r:Bool) (p1 p2:Int) (p3:Bool)
def times.wide.L0:Option DV:=Cc times.wide.E N f238 (Ap f238) [1,0,0] [] M ⟨He 39 [(0,.bool n),(1,.int .u64 p1),(2,.int .i64 p2),(3,.bool p3)],[]⟩
theorem times.wide.Aw:times.wide.L0 N (M+1) n p1 p2 p3=bif ((A0 p2 (-1130:Int))&&(A0 1 p1)) then times.wide.L0 N M n (Db .u64 p1 1) (Ab (p2+1)) (bif p3 then true else ((Fz .u64 p1 1)==(1:Int))) else bif (A0 p2 (-1130:Int)) then bif (D1 0 (-1074:Int) true) then some (.tup [.int .u64 (Ee n 0 (-1074:Int) true),.int .u8 (Ed n 0 (-1074:Int) true)]) else none else bif (D1 p1 p2 p3) then some (.tup [.int .u64 (Ee n p1 p2 p3),.int .u8 (Ed n p1 p2 p3)]) else none :=
 Eq.trans (by kernel_rfl)
 (An (N4 (A0 p2 (-1130:Int))) (An (Na (A0 p2 (-1130:Int))) (An (T6 (A0 p2 (-1130:Int))) (Dw (tt1 (A0 p2 (-1130:Int)) (A0 1 p1)) (An (S4 p3) (An (Oi p3) (An (Oi p3) (An (Zk p3) rfl)))) rfl))))
theorem times.wide.ev:B0 times.wide.E N f238 (Ap f238) [.bool n,.int .u64 m,.int .i64 e,.bool r] =
 times.wide.L0 N N n m e r:=by kernel_rfl
end
abbrev _root_.Go.Proofs.S1.times.wide.Kn:=A4 prog 238 times.wide.spec
theorem times.wide.Ad (hk:Ay prog times.wide.A8) (h:Hyp times.wide.E f238 times.wide.ts times.wide.pre times.wide.out):times.wide.Kn :=
 Al (A1 hk _ _ _) func238 (by kernel_rfl) (by kernel_rfl) h
def times.Mul.A8:List (Nat × Entry):=[(237,B8.Gl.spec),(155,soft.Kind.spec),(213,soft.Sign.spec),(234,times.nan.spec),(236,times.norm.spec),(235,times.signed.spec),(238,times.wide.spec)]
def times.Mul.E:Env:=Ba (A7 times.Mul.A8) (fun _=>false) (fun _=>none) (fun _=>none)
theorem times.Mul.ev (N:Nat) (a b:Int):B0 times.Mul.E N f208 (Ap f208) [.int .u64 a,.int .u64 b]=bif (Ah a) then bif (Ah b) then bif (Ah a) then bif (Ah b) then bif (Ah a&&Ah b) then bif (Ak4 a b) then some (.tup [.int .u64 9221120237041090560,.int .u8 0]) else bif ((((Av a)==(3:Int))&&((Av b)==(0:Int)))||(((Av a)==(0:Int))&&((Av b)==(3:Int)))) then some (.tup [.int .u64 9221120237041090560,.int .u8 16]) else bif (((Av a)==(3:Int))||((Av b)==(3:Int))) then bif (Ah 9218868437227405312) then some (.tup [.int .u64 (Qb (!((Dm a)==(Dm b))) 9218868437227405312),.int .u8 0]) else none else bif (((Av a)==(0:Int))||((Av b)==(0:Int))) then bif (Ah 0) then some (.tup [.int .u64 (Qb (!((Dm a)==(Dm b))) 0),.int .u8 0]) else none else bif (Ah a&&Kt a) then bif (Ah b&&Kt b) then bif (Ah (Cj a)&&Ah (Cj b)) then bif (M7 (Hn .u64 (Bp .u64 (Qe (Cj a) (Cj b)) 20) (Db .u64 (Lu (Cj a) (Cj b)) 44)) (Ab ((Ab ((Gs a)+(Gs b)))+44))) then some (.tup [.int .u64 (Ee (!((Dm a)==(Dm b))) (Hn .u64 (Bp .u64 (Qe (Cj a) (Cj b)) 20) (Db .u64 (Lu (Cj a) (Cj b)) 44)) (Ab ((Ab ((Gs a)+(Gs b)))+44)) ((Bp .u64 (Lu (Cj a) (Cj b)) 20) !=(0:Int))),.int .u8 (Ed (!((Dm a)==(Dm b))) (Hn .u64 (Bp .u64 (Qe (Cj a) (Cj b)) 20) (Db .u64 (Lu (Cj a) (Cj b)) 44)) (Ab ((Ab ((Gs a)+(Gs b)))+44)) ((Bp .u64 (Lu (Cj a) (Cj b)) 20) !=(0:Int)))]) else none else none else none else none else none else none else none else none else none :=
 Eq.trans (by kernel_rfl)
 (Ev (Ev (Ev (Ev (Ev (Ev rfl (An (N4 ((Av a)==(3:Int))) (An (Na ((Av a)==(3:Int))) (An (T6 ((Av a)==(3:Int))) (An (Atv ((Av a)==(3:Int)) ((Av b)==(0:Int))) (An (An0 ((Av a)==(3:Int)) ((Av b)==(0:Int))) (An (An0 ((Av a)==(3:Int)) ((Av b)==(0:Int))) (An (Atw ((Av a)==(3:Int)) ((Av b)==(0:Int)) ((Av a)==(0:Int))) (An (Atx ((Av a)==(3:Int)) ((Av b)==(0:Int)) ((Av a)==(0:Int))) (An (Aty ((Av a)==(3:Int)) ((Av b)==(0:Int)) ((Av a)==(0:Int))) (An (Atz ((Av a)==(3:Int)) ((Av b)==(0:Int))) (Dw (At0 ((Av a)==(3:Int)) ((Av b)==(0:Int)) ((Av a)==(0:Int)) ((Av b)==(3:Int))) rfl (An (S4 ((Av a)==(3:Int))) (An (Oi ((Av a)==(3:Int))) (An (Zk ((Av a)==(3:Int))) (Dw (tt5 ((Av a)==(3:Int)) ((Av b)==(3:Int))) rfl (An (S4 ((Av a)==(0:Int))) (An (Oi ((Av a)==(0:Int))) (An (Zk ((Av a)==(0:Int))) (Dw (tt5 ((Av a)==(0:Int)) ((Av b)==(0:Int))) rfl rfl)))))))))))))))))))) rfl) rfl) rfl) rfl) rfl)
abbrev _root_.Go.Proofs.S1.times.Mul.Kn:=A4 prog 208 times.Mul.spec
theorem times.Mul.Ad (hk:Ay prog times.Mul.A8) (h:Hyp times.Mul.E f208 times.Mul.ts times.Mul.pre times.Mul.out):times.Mul.Kn :=
 Al (A1 hk _ _ _) func208 (by kernel_rfl) (by kernel_rfl) h
def times.Div.hint:Nat→Option A5
 | 1=>some { keep:=[6,10,11,12,13,14,78],objs:=[],boxes:=[] }
 | _=>none
def times.Div.A8:List (Nat × Entry):=[(155,soft.Kind.spec),(213,soft.Sign.spec),(234,times.nan.spec),(236,times.norm.spec),(235,times.signed.spec),(238,times.wide.spec)]
def times.Div.E:Env:=Ba (A7 times.Div.A8) (fun _=>false) times.Div.hint (fun _=>none)
section
variable (N M:Nat) (a b p13 p14 p78:Int)
def times.Div.L0:Option DV:=Cc times.Div.E N f209 (Ap f209) [1,1,1,1,1,1,1,0,1,0] [] M ⟨He 104 [(6,.bool (!((Dm a)==(Dm b)))),(10,.int .i64 (Gs a)),(11,.int .u64 (Cj b)),(12,.int .i64 (Gs b)),(13,.int .u64 p13),(14,.int .u64 p14),(78,.int .i64 p78)],[]⟩
theorem times.Div.Aw:times.Div.L0 N (M+1) a b p13 p14 p78=bif (A0 p78 61) then bif (Ej (Cj b) (Bp .u64 p14 1)) then times.Div.L0 N M a b (Hn .u64 (Bp .u64 p13 1) 1) (Bg ((Bp .u64 p14 1)-(Cj b))) (Ab (p78+1)) else times.Div.L0 N M a b (Bp .u64 p13 1) (Bp .u64 p14 1) (Ab (p78+1)) else bif (M7 p13 (Ab ((Ab ((Gs a)-(Gs b)))-61))) then some (.tup [.int .u64 (Ee (!((Dm a)==(Dm b))) p13 (Ab ((Ab ((Gs a)-(Gs b)))-61)) (p14 !=(0:Int))),.int .u8 (Ed (!((Dm a)==(Dm b))) p13 (Ab ((Ab ((Gs a)-(Gs b)))-61)) (p14 !=(0:Int)))]) else none:=by kernel_rfl
theorem times.Div.ev:B0 times.Div.E N f209 (Ap f209) [.int .u64 a,.int .u64 b]=bif (Ah a) then bif (Ah b) then bif (Ah a) then bif (Ah b) then bif (Ah a&&Ah b) then bif (Ak4 a b) then some (.tup [.int .u64 9221120237041090560,.int .u8 0]) else bif ((((Av a)==(3:Int))&&((Av b)==(3:Int)))||(((Av a)==(0:Int))&&((Av b)==(0:Int)))) then some (.tup [.int .u64 9221120237041090560,.int .u8 16]) else bif ((Av a)==(3:Int)) then bif (Ah 9218868437227405312) then some (.tup [.int .u64 (Qb (!((Dm a)==(Dm b))) 9218868437227405312),.int .u8 0]) else none else bif (((Av b)==(3:Int))||((Av a)==(0:Int))) then bif (Ah 0) then some (.tup [.int .u64 (Qb (!((Dm a)==(Dm b))) 0),.int .u8 0]) else none else bif ((Av b)==(0:Int)) then bif (Ah 9218868437227405312) then some (.tup [.int .u64 (Qb (!((Dm a)==(Dm b))) 9218868437227405312),.int .u8 8]) else none else bif (Ah a&&Kt a) then bif (Ah b&&Kt b) then bif ((Cj b) !=0) then bif ((Cj b) !=0) then times.Div.L0 N N a b (Bg (Int.tdiv (Cj a) (Cj b))) (Int.tmod (Cj a) (Cj b)) (0:Int) else none else none else none else none else none else none else none else none else none :=
 Eq.trans (by kernel_rfl)
 (Ev (Ev (Ev (Ev (Ev (Ev rfl (An (N4 ((Av a)==(3:Int))) (An (Na ((Av a)==(3:Int))) (An (T6 ((Av a)==(3:Int))) (An (Atv ((Av a)==(3:Int)) ((Av b)==(3:Int))) (An (An0 ((Av a)==(3:Int)) ((Av b)==(3:Int))) (An (An0 ((Av a)==(3:Int)) ((Av b)==(3:Int))) (An (Atw ((Av a)==(3:Int)) ((Av b)==(3:Int)) ((Av a)==(0:Int))) (An (Atx ((Av a)==(3:Int)) ((Av b)==(3:Int)) ((Av a)==(0:Int))) (An (Aty ((Av a)==(3:Int)) ((Av b)==(3:Int)) ((Av a)==(0:Int))) (An (Atz ((Av a)==(3:Int)) ((Av b)==(3:Int))) (Dw (At0 ((Av a)==(3:Int)) ((Av b)==(3:Int)) ((Av a)==(0:Int)) ((Av b)==(0:Int))) rfl (Ev rfl (An (S4 ((Av b)==(3:Int))) (An (Oi ((Av b)==(3:Int))) (An (Zk ((Av b)==(3:Int))) (Dw (tt5 ((Av b)==(3:Int)) ((Av a)==(0:Int))) rfl (Ev rfl (Ev (Ev (Dw (E4 ((Cj b) !=0)) (Dw (E4 ((Cj b) !=0)) rfl rfl) rfl) rfl) rfl))))))))))))))))))) rfl) rfl) rfl) rfl) rfl)
end
abbrev _root_.Go.Proofs.S1.times.Div.Kn:=A4 prog 209 times.Div.spec
theorem times.Div.Ad (hk:Ay prog times.Div.A8) (h:Hyp times.Div.E f209 times.Div.ts times.Div.pre times.Div.out):times.Div.Kn :=
 Al (A1 hk _ _ _) func209 (by kernel_rfl) (by kernel_rfl) h
end EqTimes
open EqBits6 EqTimes
theorem Ac5 {n:Nat} (h0:n≠0) (h:n<2^64):Go.Lib.bitLen n=n.log2+1:=by
 have h1:=Nat.log2_self_le h0
 have h2:=Nat.lt_log2_self (n:=n)
 have hp:=B1 n.log2
 have e:n / 2^n.log2=1:=by
  rw [Nat.pow_succ] at h2
  exact Nat.div_eq_of_lt_le (by omega) (by omega)
 have e1:Go.Lib.bitLen 1=1:=by decide
 rw [Go.Lib.bitLen_shift n.log2 n h1 h,e,e1]
theorem B8.Iz.known:B8.Iz.Kn:=by
 refine ⟨?_,B8.Iz.call⟩
 intro args ha
 simp only [B8.Iz.spec,entry] at ha ⊢
 cases hd:Lf [.i .u64] args with
 | none=>rw [hd] at ha; cases ha
 | some ats =>
   rw [hd] at ha
   simp only at ha ⊢
   obtain ⟨ds,h1,h2⟩:=Lz hd
   obtain ⟨x,_,_,rfl,rfl,he⟩:=h1.Al0
   obtain ⟨rfl,rfl⟩:=he.Af8
   obtain ⟨n,rfl,hn⟩:=Bt (x:=x) ha
   refine N3.args ?_ h2
   intro w vals I hI hv
   obtain ⟨u,us,e1,e2,e3⟩:=hv
   simp only [Aj] at e2
   have e3:us=[]:=e3
   subst e2 e3
   have e4:vals=#[.int .u64 (n:Int)]:=Array.ext' e1
   subst e4
   refine (B8.Iz.run n w (by omega) (by omega)).mono ?_
   rintro e w' ⟨rfl,rfl⟩
   refine ⟨_,fun _=>none,rfl,Go.RowKit.Below.refl _ _,⟨fun i b h=>(by cases h),fun i j b h=>(by cases h)⟩,?_⟩
   show Aj _ _ (DV.int .i64 (Ef n)) _
   simp only [Aj]
   congr 1
   unfold Ef
   rw [Aw5]
   by_cases h0:n=0
   ·subst h0; rfl
   ·rw [Ac5 h0 hn,Axp (by omega)]; rfl
theorem Als {n:Nat} (hn:n<2^64):0≤Ef n∧Ef n≤64:=by
 unfold Ef
 rw [Aw5]
 by_cases h0:n=0
 ·subst h0; decide
 ·have:=(Ayj h0).2 hn
  rw [Axp (by omega)]; omega
theorem B8.Bf.known:B8.Bf.Kn:=B8.Bf.Ad (.cons B8.Iz.known .nil) fun x hp=>by
 obtain ⟨n,rfl,hn⟩:=Bt (x:=x) hp
 have:=Als hn
 refine ⟨0,B8.Bf.out [.i n],[],?_,.int⟩
 rw [B8.Bf.ev,B3 hn,Aw3,Ao (by omega) (by omega)]
 rfl
theorem Ic {a b:Nat} (ha:a<4294967296) (hb:b<4294967296):a*b≤18446744065119617025 :=
 Aya (Axz (show a≤4294967295 by omega) (show b≤4294967295 by omega)) (by decide)
theorem Ak8 (x y:Nat) (hx:x<2^64) (hy:y<2^64) :
 x*y / 18446744073709551616=(x / 2^32)*(y / 2^32)+((x / 2^32)*(y%2^32)+(x%2^32)*(y%2^32) / 2^32) / 2^32 +
  (((x / 2^32)*(y%2^32)+(x%2^32)*(y%2^32) / 2^32)%2^32+(x%2^32)*(y / 2^32)) / 2^32:=by
 have ex:x=x / 2^32*4294967296+x%2^32:=by omega
 have ey:y=y / 2^32*4294967296+y%2^32:=by omega
 have ha:x / 2^32<4294967296:=by omega
 have hc:y / 2^32<4294967296:=by omega
 have hb:x%2^32<4294967296:=by omega
 have hd:y%2^32<4294967296:=by omega
 generalize x / 2^32=a at *
 generalize x%2^32=b at *
 generalize y / 2^32=c at *
 generalize y%2^32=d at *
 have e:x*y=a*c*18446744073709551616+(a*d+b*c)*4294967296+b*d:=by
  rw [ex,ey,Ax7,Nat.mul_add,Nat.mul_add]
  have e1:a*4294967296*(c*4294967296)=a*c*18446744073709551616:=by
   rw [Nat.mul_mul_mul_comm]
  have e2:a*4294967296*d=a*d*4294967296:=Nat.mul_right_comm _ _ _
  have e3:b*(c*4294967296)=b*c*4294967296:=(Axu _ _ _).symm
  rw [e1,e2,e3]
  omega
 have b1:=Ic ha hc
 have b2:=Ic ha hd
 have b3:=Ic hb hc
 have b4:=Ic hb hd
 rw [e]
 clear e ex ey
 generalize a*c=p at *
 generalize a*d=q at *
 generalize b*c=r at *
 generalize b*d=s at *
 omega
theorem B8.Gl.known:B8.Gl.Kn:=B8.Gl.Ad .nil fun x y hp=>by
 obtain ⟨h1,h2⟩:=Ae.1 hp
 obtain ⟨x,rfl,hx⟩:=Bt h1
 obtain ⟨y,rfl,hy⟩:=Bt h2
 refine ⟨0,B8.Gl.out [.i x,.i y],[],?_,Wk.G3 (.cons .int (.cons .int .nil))⟩
 show _=some (DV.tup [.int .u64 (Qe x y),.int .u64 (Lu x y)])
 have s32:∀ n:Nat,Db .u64 (n:Int) (32:Int)=((n / 2^32:Nat):Int):=fun n=>Gz .u64 n 32 (by decide)
 have m32:∀ n:Nat,n<2^64→Fz .u64 (n:Int) (4294967295:Int)=((n%2^32:Nat):Int):=fun n hn=>Hh 32 hn (by decide)
 have ha:x / 2^32<4294967296:=by omega
 have hc:y / 2^32<4294967296:=by omega
 have hb:x%2^32<4294967296:=by omega
 have hd:y%2^32<4294967296:=by omega
 have b1:=Ic ha hc
 have b2:=Ic ha hd
 have b3:=Ic hb hc
 have b4:=Ic hb hd
 have hhi:=Ak8 x y hx hy
 have wn:∀ n:Nat,n<2^64→Bg (n:Int)=n:=fun n hn=>Ea (by omega) (by omega)
 have hlt:x*y / 18446744073709551616<2^64:=by
  rw [Nat.div_lt_iff_lt_mul (by decide)]
  have:=Axz (show x≤18446744073709551615 by omega) (show y≤18446744073709551615 by omega)
  omega
 rw [B8.Gl.ev]
 simp only [s32,m32 x hx,m32 y hy]
 generalize hA:x / 2^32=a at *
 generalize hB:x%2^32=b at *
 generalize hC:y / 2^32=c at *
 generalize hD:y%2^32=d at *
 simp only [← Axo]
 rw [wn (a*c) (by omega),wn (a*d) (by omega),wn (b*c) (by omega),wn (b*d) (by omega),s32]
 simp only [← Int.natCast_add]
 rw [wn (a*d+b*d / 2^32) (by omega),s32,m32 _ (by omega)]
 simp only [← Int.natCast_add]
 rw [wn (a*c+(a*d+b*d / 2^32) / 2^32) (by omega),wn _ (by omega),s32]
 simp only [← Int.natCast_add]
 rw [← hhi,wn _ hlt]
 unfold Qe Lu
 rw [Aw5,Aw5,Rg]
 congr 3
theorem times.signed.known:times.signed.Kn:=times.signed.Ad (.cons soft.E9.known .nil) fun b n hp=>by
 have hp:Ah b=true:=hp
 refine ⟨0,times.signed.out [.i b,.b n],[],?_,.int⟩
 rw [times.signed.ev,hp]
 cases n<;>rfl
theorem times.nan.known:times.nan.Kn:=times.nan.Ad (.cons soft.Kind.known .nil) fun a b hp=>by
 obtain ⟨ha,hb⟩:=Ae.1 hp
 refine ⟨0,times.nan.out [.i a,.i b],[],?_,.bool⟩
 rw [times.nan.ev,ha,hb,Aw3,Aw3]
 show _=some (DV.bool (decide (Av a=4)||decide (Av b=4)))
 by_cases h1:Av a=4
 ·rw [h1]; rfl
 ·have e1:(Av a==(4:Int))=false:=by simp; exact h1
  rw [e1,Aw8 h1,Aw7]
  by_cases h2:Av b=4
  ·rw [h2]; rfl
  ·have e2:(Av b==(4:Int))=false:=by simp; exact h2
   rw [e2,Aw8 h2]; rfl
theorem Mr {n:Nat} (h:Am n≠0):(Am n).log2≤52∧2^52≤Am n*2^Bx n∧Am n*2^Bx n<2^53∧Bx n≤52:=by
 have h1:=Ft n
 have h2:(Am n).log2<53:=(Ayj h).2 (by omega)
 have hz:=Oz (Am n) (Bx n) h
 have hne:Am n*2^Bx n≠0:=Lb h
 have hl:(Am n*2^Bx n).log2=52:=by rw [hz]; unfold Bx; omega
 refine ⟨by omega,?_,?_,by unfold Bx; omega⟩
 ·rw [← Nat.le_log2 hne]; omega
 ·rw [← Ayj hne]; omega
theorem times.norm.known:times.norm.Kn:=times.norm.Ad (.cons B8.Bf.known (.cons soft.Ex.known .nil)) fun b hp=>by
 obtain ⟨h1,h2⟩:=Ae.1 hp
 obtain ⟨n,rfl,hn⟩:=Bt h1
 have h2:Am n≠0:=At.1 h2
 obtain ⟨l1,l2,l3,l4⟩:=Mr h2
 have hM:=Ft n
 have hE:=Ce n
 refine ⟨0,times.norm.out [.i n],[],?_,Wk.G3 (.cons .int (.cons .int .nil))⟩
 show _=some (DV.tup [.int .u64 (Cj n),.int .i64 (Gs n)])
 have e1:Bc (n:Int)=(Am n:Int):=rfl
 have e2:A3 (n:Int)=As n:=rfl
 have e3:Ef (Am n:Int)=((Am n).log2:Int)+1:=by
  unfold Ef
  rw [Axp (by omega),Aw5]
 have e4:Ab ((64-(((Am n).log2:Int)+1))-(11:Int))=((Bx n:Nat):Int):=by
  rw [Ao (by omega) (by omega)]; unfold Bx; omega
 rw [times.norm.ev,B3 hn,e1,e2,B3 (n:=Am n) (by omega),e3,e4,E8 _ _ (by omega),Axg (by omega),Ao (by omega) (by omega),Aw4 (by omega)]
 rfl
theorem Aj1 {V t:Nat} {E:Int} (h0:V≠0) (h:V<2^t) (hE:E+t≤-1075):Bu V E=0∧flagsOf V E=3:=by
 have hl:V.log2<t:=(Ayj h0).2 h
 have hL:B7 V E=-1074:=by unfold B7; omega
 obtain ⟨k,hk⟩:∃ k:Nat,(-1074-E).toNat=t+1+k:=⟨(-1074-E).toNat-t-1,by omega⟩
 have hp:2^(t+1)≤2^(t+1+k):=Axi (by decide) (by omega)
 have ht:2^(t+1)=2*2^t:=by rw [Nat.pow_succ]; omega
 have e2:(-(-1074-E)).toNat=0:=by omega
 have hr:I4 V (-1074-E)=0:=by
  unfold I4 L8
  rw [e2,hk,Ax1,Ayc,Nat.div_eq_of_lt (by omega),Axg (by omega),Axp (by omega)]
 have hru:Bu V E=0:=by
  unfold Bu kept
  rw [Axp h0,hL,hr]
  simp
 refine ⟨hru,?_⟩
 unfold flagsOf exact K2
 rw [Axp h0,hru,hL,e2,hk,Ax1,Ayc,Axg (by omega),Aw8 h0]
 decide
theorem Ah7 (n:Bool) {m:Nat} {e:Int} (r:Bool) (hm:1<m) (he:e < -1130):F4 n (m / 2) (e+1) (r||decide (m%2=1))=F4 n m e r:=by
 have e1:(4*m+r.toNat) / 2^3=m / 2:=by cases r<;>simp<;>omega
 have e2:(r||decide (m%2=1))=decide ((4*m+r.toNat)%2^3≠0):=by
  rw [Axj]
  cases r
  ·simp; omega
  ·simp; omega
 have:=R7 n (V:=4*m+r.toNat) (k:=3) (E:=e-2) (e:=e+1) (s:=r||decide (m%2=1)) (by omega) e2 (by omega) (.inr (by omega))
 rw [e1] at this
 exact this
theorem R6 (n:Bool) {e:Int} (r:Bool) (he:e < -1130):F4 n 1 e r=F4 n 0 (-1074) true:=by
 have h1:r.toNat≤1:=by cases r<;>decide
 obtain ⟨a1,a2⟩:=Aj1 (V:=4*1+r.toNat) (t:=3) (E:=e-2) (by omega) (by omega) (by omega)
 obtain ⟨b1,b2⟩:=Aj1 (V:=4*0+true.toNat) (t:=1) (E:=-1074-2) (by decide) (by decide) (by decide)
 unfold F4
 rw [a1,a2,b1,b2]
theorem Agz (N:Nat) (n:Bool):∀ (k m:Nat) (e:Int) (r:Bool),1≤m→m<2^62→m≤2^k→-7000≤e→e≤6000→(2^60≤m∨e≤-1130) →
 times.wide.L0 N (k+1) n (m:Int) e r=some (.tup [.int .u64 (((F4 n m e r).1:Nat):Int),.int .u8 (((F4 n m e r).2:Nat):Int)]):=by
 intro k
 induction k with
 | zero =>
   intro m e r h1 h2 h3 h4 h5 h6
   have hm:m=1:=by simp at h3; omega
   subst hm
   rw [times.wide.Aw,Au,Au]
   have c1:decide ((1:Int)<((1:Nat):Int))=false:=by decide
   rw [c1,Bool.and_false,Aw7]
   by_cases he:e < -1130
   ·have hp:D1 (0:Int) (-1074:Int) true=true:=At.2 (by omega)
    rw [Aw4 he,Aw3,hp,Aw3,R6 n r he]
    rfl
   ·have he:e=-1130:=by omega
    subst he
    have hp:D1 ((1:Nat):Int) (-1130:Int) r=true:=At.2 (by omega)
    rw [Aw8 (by omega),Aw7,hp,Aw3]
    rfl
 | succ k ih =>
   intro m e r h1 h2 h3 h4 h5 h6
   rw [times.wide.Aw,Au,Au]
   by_cases he:e < -1130
   ·by_cases hm:1<m
    ·have c1:decide ((1:Int)<(m:Int))=true:=Aw4 (by omega)
     have e1:Db .u64 (m:Int) (1:Int)=((m / 2:Nat):Int):=Gz .u64 m 1 (by decide)
     have e2:Fz .u64 (m:Int) (1:Int)=((m%2:Nat):Int):=Hh (a:=m) 1 (by omega) (by decide)
     have e3:(bif r then true else (Fz .u64 (m:Int) (1:Int))==(1:Int))=(r||decide (m%2=1)):=by
      rw [e2]
      cases r
      ·rw [Axj]; simp; omega
      ·rfl
     rw [Aw4 he,c1,Aw9,Aw3,e1,e3,Ao (by omega) (by omega)]
     have hk:m / 2≤2^k:=by rw [Nat.pow_succ] at h3; omega
     rw [ih (m / 2) (e+1) _ (by omega) (by omega) hk (by omega) (by omega) (.inr (by omega)),Ah7 n r hm he]
    ·have hm:m=1:=by omega
     subst hm
     have c1:decide ((1:Int)<((1:Nat):Int))=false:=by decide
     have hp:D1 (0:Int) (-1074:Int) true=true:=At.2 (by omega)
     rw [c1,Bool.and_false,Aw7,Aw4 he,Aw3,hp,Aw3,R6 n r he]
     rfl
   ·have hp:D1 (m:Int) e r=true:=At.2 ⟨by omega,by omega,by omega,.inl (by omega),fun _=>by omega⟩
    rw [Aw8 he,Bool.false_and,Aw7,Aw7,hp,Aw3]
    rfl
theorem times.wide.known:times.wide.Kn:=times.wide.Ad (.cons soft.Cu.known .nil) fun n m e r hp=>by
 obtain ⟨h1,h2,h3,h4⟩:=At.1 (show M7 m e=true from hp)
 obtain ⟨m,rfl⟩:∃ k:Nat,m=k:=⟨m.toNat,by omega⟩
 refine ⟨63,times.wide.out [.b n,.i m,.i e,.b r],[],?_,Wk.G3 (.cons .int (.cons .int .nil))⟩
 rw [times.wide.ev,Agz 63 n 62 m e r (by omega) (by omega) (by omega) (by omega) (by omega) (.inl (by omega))]
 rfl
open EqTimes
theorem Po {b:Nat} (h0:Ag b≠0) (h3:Ag b≠3) (h4:Ag b≠4):Am b≠0:=by
 have:=Ir b
 unfold Ag at h0 h3 h4
 unfold Am
 by_cases h1:Df b=2047
 ·rw [Axq h1] at h3 h4
  by_cases h2:Co b=0
  ·rw [Axq h2] at h3; exact absurd rfl h3
  ·rw [Axp h2] at h4; exact absurd rfl h4
 ·rw [Axp h1] at h0
  by_cases h2:0<Df b
  ·rw [Axp (by omega)]; omega
  ·rw [Axp h2] at h0
   by_cases h5:0<Co b
   ·rw [Axq (by omega)]; omega
   ·rw [Axp h5] at h0; exact absurd rfl h0
theorem Yh {b:Nat} (h0:Ag b=0):Am b=0:=by
 unfold Ag at h0
 unfold Am
 by_cases h1:Df b=2047
 ·rw [Axq h1] at h0; split at h0<;>omega
 ·rw [Axp h1] at h0
  by_cases h2:0<Df b
  ·rw [Axq h2] at h0; omega
  ·rw [Axp h2] at h0
   by_cases h5:0<Co b
   ·rw [Axq h5] at h0; omega
   ·rw [Axq (by omega)]; omega
theorem Ael {x y:Nat} (hx1:2^52≤x) (hx2:x<2^53) (hy1:2^52≤y) (hy2:y<2^53):2^104≤x*y∧x*y<2^106:=by
 have h1:=Axz hx1 hy1
 have h2:x*y<2^53*2^53:=Nat.mul_lt_mul'' hx2 hy2
 exact ⟨Aya (by decide) h1,Aye h2 (by decide)⟩
theorem Aol {V:Nat} (h:V<2^106):Hn .u64 (Bp .u64 ((V / 18446744073709551616:Nat):Int) (20:Int)) (Db .u64 ((V%18446744073709551616:Nat):Int) (44:Int))=((V / 2^44:Nat):Int):=by
 have e1:Bp .u64 ((V / 18446744073709551616:Nat):Int) (20:Int)=((V / 18446744073709551616*2^20%2^64:Nat):Int):=E8 _ 20 (by decide)
 have e2:Db .u64 ((V%18446744073709551616:Nat):Int) (44:Int)=((V%18446744073709551616 / 2^44:Nat):Int):=Gz .u64 _ 44 (by decide)
 rw [e1,e2,Axg (by omega),Lh (k:=20) (by omega) (by omega)]
 congr 1
 omega
theorem Aok {V:Nat}:((Bp .u64 ((V%18446744073709551616:Nat):Int) (20:Int)) !=(0:Int))=decide (V%2^44≠0):=by
 have e1:Bp .u64 ((V%18446744073709551616:Nat):Int) (20:Int)=((V%18446744073709551616*2^20%2^64:Nat):Int):=E8 _ 20 (by decide)
 rw [e1,Axj]
 simp only [bne_iff_ne,ne_eq,Axa]
 omega
theorem Z5 (s t:Bool):(!(s==t))=(s !=t):=rfl
theorem w53 {x:Nat} (h:x<2^53):Ah (x:Int)=true:=B3 (by omega)
theorem Aot (n:Bool) {a b:Nat} (ha:Am a≠0) (hb:Am b≠0) :
 (bif (Ah (Cj a)&&Ah (Cj b)) then
  bif (M7 (Hn .u64 (Bp .u64 (Qe (Cj a) (Cj b)) (20:Int)) (Db .u64 (Lu (Cj a) (Cj b)) (44:Int))) (Ab ((Ab ((Gs a)+(Gs b)))+(44:Int)))) then
   some (DV.tup [.int .u64 (Ee n (Hn .u64 (Bp .u64 (Qe (Cj a) (Cj b)) (20:Int)) (Db .u64 (Lu (Cj a) (Cj b)) (44:Int))) (Ab ((Ab ((Gs a)+(Gs b)))+(44:Int))) ((Bp .u64 (Lu (Cj a) (Cj b)) (20:Int)) !=(0:Int))),.int .u8 (Ed n (Hn .u64 (Bp .u64 (Qe (Cj a) (Cj b)) (20:Int)) (Db .u64 (Lu (Cj a) (Cj b)) (44:Int))) (Ab ((Ab ((Gs a)+(Gs b)))+(44:Int))) ((Bp .u64 (Lu (Cj a) (Cj b)) (20:Int)) !=(0:Int)))])
  else none
 else none)=some (.tup [.int .u64 ((Bv n (Bu (Am a*Am b) (As a+As b)):Nat):Int),.int .u8 ((flagsOf (Am a*Am b) (As a+As b):Nat):Int)]):=by
 obtain ⟨a1,a2,a3,a4⟩:=Mr ha
 obtain ⟨b1,b2,b3,b4⟩:=Mr hb
 have ea:=Ce a
 have eb:=Ce b
 have ma:Cj (a:Int)=((Am a*2^Bx a:Nat):Int):=rfl
 have mb:Cj (b:Int)=((Am b*2^Bx b:Nat):Int):=rfl
 have na:Gs (a:Int)=As a-Bx a:=rfl
 have nb:Gs (b:Int)=As b-Bx b:=rfl
 have hi:Qe (Cj a) (Cj b)=((Am a*2^Bx a*(Am b*2^Bx b) / 18446744073709551616:Nat):Int):=rfl
 have lo:Lu (Cj a) (Cj b)=((Am a*2^Bx a*(Am b*2^Bx b)%18446744073709551616:Nat):Int):=rfl
 rw [hi,lo,ma,mb,na,nb,w53 a3,w53 b3,Aw9,Aw3]
 obtain ⟨v1,v2⟩:=Ael a2 a3 b2 b3
 have ev:Am a*2^Bx a*(Am b*2^Bx b)=Am a*Am b*2^(Bx a+Bx b):=by
  rw [Nat.mul_mul_mul_comm,← Axs]
 obtain ⟨s1,s2⟩:=Cp (Am a*Am b) (Bx a+Bx b) (As a+As b)
 rw [← ev] at s1 s2
 generalize Am a*2^Bx a*(Am b*2^Bx b)=V at *
 rw [Aol v2,Aok,Ao (x:=_+_) (by rw [Ao (by omega) (by omega)]; omega) (by rw [Ao (by omega) (by omega)]; omega),Ao (by omega) (by omega)]
 have hw:M7 ((V / 2^44:Nat):Int) (As a-Bx a+(As b-Bx b)+44)=true:=At.2 ⟨by omega,by omega,by omega,by omega⟩
 rw [hw,Aw3]
 unfold Ee Ed
 rw [Aw5,R7 n (V:=V) (k:=44) (E:=As a+As b-((Bx a+Bx b:Nat):Int)) (e:=As a-Bx a+(As b-Bx b)+44) (s:=decide (V%2^44≠0)) (by omega) rfl (by omega) (.inl (by omega)),s1,s2]
theorem kq (b k:Nat):(((Ag b:Nat):Int)==((k:Nat):Int))=decide (Ag b=k):=by
 rw [Axj]; simp only [beq_iff_eq,Axa]; omega
theorem X7 (n:Bool) {r:Nat} (h:r<2^63):Qb n (r:Int)=((Bv n r:Nat):Int):=by
 unfold Qb Bv Dk
 cases n
 ·rfl
 ·simp only [if_true]
  rw [Aw5,Qy h]
theorem Acl (n:Bool):Qb n (9218868437227405312:Int)=((Bv n Eg:Nat):Int):=X7 n (r:=Eg) (by decide)
theorem Xw (n:Bool):Qb n (0:Int)=((Bv n 0:Nat):Int):=X7 n (r:=0) (by decide)
theorem Pw (b:Nat):Av (b:Int)=((Ag b:Nat):Int):=rfl
theorem Aga (a b:Nat):Ak4 (a:Int) (b:Int)=(decide (Ag a=4)||decide (Ag b=4)):=by
 unfold Ak4 Av
 simp only [Aw5]
 rw [Axj]
 simp only [Bool.or_eq_true,Axa]
 omega
theorem k3 (b:Nat):(((Ag b:Nat):Int)==(3:Int))=decide (Ag b=3):=kq b 3
theorem k0 (b:Nat):(((Ag b:Nat):Int)==(0:Int))=decide (Ag b=0):=kq b 0
theorem times.Mul.known:times.Mul.Kn:=times.Mul.Ad (.cons B8.Gl.known (.cons soft.Kind.known (.cons soft.Sign.known (.cons times.nan.known (.cons times.norm.known (.cons times.signed.known (.cons times.wide.known .nil))))))) fun a b hp=>by
 obtain ⟨ha,hb⟩:=Ae.1 hp
 obtain ⟨a,rfl,hn⟩:=Bt ha
 obtain ⟨b,rfl,hm⟩:=Bt hb
 refine ⟨0,times.Mul.out [.i a,.i b],[],?_,Wk.G3 (.cons .int (.cons .int .nil))⟩
 have i1:Ah (9218868437227405312:Int)=true:=B3 (n:=9218868437227405312) (by decide)
 have i2:Ah (0:Int)=true:=B3 (n:=0) (by decide)
 rw [times.Mul.ev,ha,hb,Aga,Pw,Pw,k3,k3,k0,k0,i1,i2,Acl,Xw,Z5]
 show _=some (DV.tup [.int .u64 (((N9 a b).1:Nat):Int),.int .u8 (((N9 a b).2:Nat):Int)])
 have ea:Dm (a:Int)=B5 a:=rfl
 have eb:Dm (b:Int)=B5 b:=rfl
 rw [ea,eb]
 unfold N9
 simp only [Aw9,Aw3]
 by_cases h4:Ag a=4∨Ag b=4
 ·have c4:(decide (Ag a=4)||decide (Ag b=4))=true:=by simp; exact h4
  rw [Axq h4,c4,Aw3]; rfl
 ·have c4:(decide (Ag a=4)||decide (Ag b=4))=false:=by simp; omega
  rw [Axp h4,c4,Aw7]
  by_cases h3:Ag a=3∨Ag b=3
  ·rw [Axq h3]
   by_cases h0:Ag a=0∨Ag b=0
   ·have c0:(decide (Ag a=3)&&decide (Ag b=0)||decide (Ag a=0)&&decide (Ag b=3))=true:=by simp; omega
    rw [Axq h0,c0,Aw3]; rfl
   ·have c0:(decide (Ag a=3)&&decide (Ag b=0)||decide (Ag a=0)&&decide (Ag b=3))=false:=by simp; omega
    have c3:(decide (Ag a=3)||decide (Ag b=3))=true:=by simp; omega
    rw [Axp h0,c0,Aw7,c3,Aw3]; rfl
  ·have c0:(decide (Ag a=3)&&decide (Ag b=0)||decide (Ag a=0)&&decide (Ag b=3))=false:=by simp; omega
   have c3:(decide (Ag a=3)||decide (Ag b=3))=false:=by simp; omega
   rw [Axp h3,c0,Aw7,c3,Aw7]
   by_cases h0:Ag a=0∨Ag b=0
   ·have c5:(decide (Ag a=0)||decide (Ag b=0))=true:=by simp; exact h0
    have hz:Am a*Am b=0:=by
     rcases h0 with h | h
     ·rw [Yh h,Nat.zero_mul]
     ·rw [Yh h,Nat.mul_zero]
    rw [c5,Aw3,hz,Ya,Sg]; rfl
   ·have c5:(decide (Ag a=0)||decide (Ag b=0))=false:=by simp; omega
    have pa:=Po (b:=a) (by omega) (by omega) (by omega)
    have pb:=Po (b:=b) (by omega) (by omega) (by omega)
    have na:Kt (a:Int)=true:=At.2 pa
    have nb:Kt (b:Int)=true:=At.2 pb
    rw [c5,Aw7,na,nb,Aw9,Aw3,Aw3]
    exact Aot _ pa pb
theorem Aml (N:Nat) {a b:Nat} {X Y:Nat} (hY:0<Y) (hY2:Y<2^53) (hX:X<2*Y) (em:Cj (b:Int)=(Y:Int)):∀ (k i:Nat),k+i=61 →
 times.Div.L0 N (k+1) a b ((X*2^i / Y:Nat):Int) ((X*2^i%Y:Nat):Int) (i:Int) =
  times.Div.L0 N 1 a b ((X*2^61 / Y:Nat):Int) ((X*2^61%Y:Nat):Int) (61:Int):=by
 intro k
 induction k with
 | zero =>
   intro i hi
   have:i=61:=by omega
   subst this
   rfl
 | succ k ih =>
   intro i hi
   have hq:X*2^i / Y<2^62:=by
    rw [Nat.div_lt_iff_lt_mul hY]
    have h1:X*2^i<2*Y*2^i:=(Nat.mul_lt_mul_right (B1 i)).2 hX
    have h2:2*2^i≤2^62:=by
     rw [Axr,← Nat.pow_succ]; exact Axi (by decide) (by omega)
    have h3:2*2^i*Y≤2^62*Y:=Axf _ h2
    rw [Nat.mul_right_comm] at h1
    omega
   have hr:X*2^i%Y<Y:=Nat.mod_lt _ hY
   have hd:=Nat.div_add_mod (X*2^i) Y
   have e2:X*2^(i+1)=X*2^i*2:=by rw [Nat.pow_succ,Axu]
   rw [times.Div.Aw,Au,Gu,em,Aw4 (by omega),Aw3]
   have s1:Bp .u64 ((X*2^i%Y:Nat):Int) (1:Int)=((X*2^i%Y*2:Nat):Int):=by
    have:=E8 (X*2^i%Y) 1 (by decide)
    rw [Axg (a:=X*2^i%Y*2^1) (by omega)] at this
    exact this
   have s2:Bp .u64 ((X*2^i / Y:Nat):Int) (1:Int)=((X*2^i / Y*2^1:Nat):Int):=by
    have:=E8 (X*2^i / Y) 1 (by decide)
    rw [Axg (a:=X*2^i / Y*2^1) (by omega)] at this
    exact this
   have s3:Hn .u64 ((X*2^i / Y*2^1:Nat):Int) (1:Int)=((X*2^i / Y*2^1+1:Nat):Int):=Lh (k:=1) (b:=1) (by decide) (by omega)
   have ei:Ab ((i:Int)+1)=((i+1:Nat):Int):=by rw [Ao (by omega) (by omega)]; rfl
   rw [s1,s2,s3,ei]
   generalize hq':X*2^i / Y=q at *
   generalize hr':X*2^i%Y=r at *
   have step:∀ c,X*2^i*2=Y*(2*q+c)+(2*r-c*Y)→c*Y≤2*r→2*r<c*Y+Y→X*2^(i+1) / Y=2*q+c∧X*2^(i+1)%Y=2*r-c*Y:=fun c h1 h2 h3=>by
    rw [e2,h1]
    constructor
    ·rw [Nat.mul_add_div hY,Nat.div_eq_of_lt (by omega)]; omega
    ·rw [Nat.mul_add_mod,Axg (by omega)]
   by_cases hc:Y≤r*2
   ·obtain ⟨t1,t2⟩:=step 1 (by rw [Nat.mul_add,Ayc,Nat.mul_left_comm]; omega) (by omega) (by omega)
    have:=ih (i+1) (by omega)
    rw [t1,t2] at this
    rw [Aw4 (by omega),Aw3,Ea (by omega) (by omega)]
    have e3:((r*2:Nat):Int)-(Y:Int)=((2*r-1*Y:Nat):Int):=by omega
    have e4:q*2^1+1=2*q+1:=by omega
    rw [e3,e4]
    exact this
   ·obtain ⟨t1,t2⟩:=step 0 (by rw [Ayb,Nat.mul_left_comm]; omega) (by omega) (by omega)
    have:=ih (i+1) (by omega)
    rw [t1,t2] at this
    rw [Aw8 (by omega),Aw7]
    have e3:r*2=2*r-0*Y:=by omega
    have e4:q*2^1=2*q+0:=by omega
    rw [e3,e4]
    exact this
theorem Apx {a b:Nat} (ha:Am a≠0) (hb:Am b≠0) :
 times.Div.L0 62 62 a b (Bg (Int.tdiv (Cj a) (Cj b))) (Int.tmod (Cj a) (Cj b)) (0:Int) =
  some (.tup [.int .u64 ((Bv (B5 a !=B5 b) (Bu (F3 (Am a) (Am b) 120) (As a-As b-121)):Nat):Int),.int .u8 ((flagsOf (F3 (Am a) (Am b) 120) (As a-As b-121):Nat):Int)]):=by
 obtain ⟨a1,a2,a3,a4⟩:=Mr ha
 obtain ⟨b1,b2,b3,b4⟩:=Mr hb
 have ea:=Ce a
 have eb:=Ce b
 have ma:Cj (a:Int)=((Am a*2^Bx a:Nat):Int):=rfl
 have mb:Cj (b:Int)=((Am b*2^Bx b:Nat):Int):=rfl
 have na:Gs (a:Int)=As a-Bx a:=rfl
 have nb:Gs (b:Int)=As b-Bx b:=rfl
 have sL:=Adx (Am a) (Am b*2^Bx b) (Bx a) 61
 have hpos:0<Am b*2^Bx b:=by omega
 have hq1:2^53≤Am a*2^Bx a*2^61 / (Am b*2^Bx b):=by
  rw [Nat.le_div_iff_mul_le hpos]; omega
 have hqq:2^60≤Am a*2^Bx a*2^61 / (Am b*2^Bx b):=by
  rw [Nat.le_div_iff_mul_le hpos]; omega
 have hq2:Am a*2^Bx a*2^61 / (Am b*2^Bx b)<2^62:=by
  rw [Nat.div_lt_iff_lt_mul hpos]; omega
 have hstick:F3 (Am a*2^Bx a) (Am b*2^Bx b) 61=F3 (Am a) (Am b) (61+Bx a-Bx b):=by
  rw [sL]
  have:61+Bx a=61+Bx a-Bx b+Bx b:=by omega
  conv=>lhs; rw [this]
  rw [Abf]
 have hge1:2^53≤Am a*2^(61+Bx a-Bx b) / Am b:=by
  have e1:Am a*2^Bx a*2^61=Am a*2^(61+Bx a-Bx b)*2^Bx b:=by
   rw [Axu,← Axs,Axu,← Axs]
   congr 2
   omega
  rw [e1,Nat.mul_div_mul_right _ _ (B1 _)] at hq1
  exact hq1
 have hge2:2^53≤Am a*2^120 / Am b:=Ary (t:=53) (by omega) (by omega) (by have:=Ft b; omega) (by omega)
 obtain ⟨s1,s2⟩:=Adw (X:=Am a) (Y:=Am b) (K:=61+Bx a-Bx b) (L:=120) (E:=As a-Bx a-(As b-Bx b)-61-1) (F:=As a-As b-121) (by omega) hge1 hge2 (by omega)
 have d1:Bg (Int.tdiv (Cj a) (Cj b))=((Am a*2^Bx a*2^0 / (Am b*2^Bx b):Nat):Int):=by
  rw [ma,mb,K5,Ax1,Ayc]
  have h1:=Nat.div_le_self (Am a*2^Bx a) (Am b*2^Bx b)
  have h2:Am a*2^Bx a / (Am b*2^Bx b)<2^64:=Ax5 h1 (Nat.lt_trans a3 (by decide))
  generalize Am a*2^Bx a / (Am b*2^Bx b)=q at h2 ⊢
  exact Ea (Int.natCast_nonneg q) (by omega)
 have d2:Int.tmod (Cj a) (Cj b)=((Am a*2^Bx a*2^0%(Am b*2^Bx b):Nat):Int):=by
  rw [ma,mb,K4,Ax1,Ayc]
 rw [d1,d2]
 have lp:=Aml 62 (a:=a) (b:=b) hpos b3 (X:=Am a*2^Bx a) (by omega) mb 61 0 (by omega)
 refine lp.trans ?_
 rw [times.Div.Aw,Au,na,nb,Aw8 (by omega),Aw7]
 have we:Ab (Ab (As a-Bx a-(As b-Bx b))-61)=As a-Bx a-(As b-Bx b)-61:=by
  rw [Ao (x:=As a-Bx a-(As b-Bx b)) (by omega) (by omega),Ao (by omega) (by omega)]
 have hne:(((Am a*2^Bx a*2^61%(Am b*2^Bx b):Nat):Int) !=(0:Int))=decide (Am a*2^Bx a*2^61%(Am b*2^Bx b)≠0):=by
  rw [Axj]; simp only [bne_iff_ne,ne_eq,Axa]; omega
 rw [we,hne]
 have hw:M7 ((Am a*2^Bx a*2^61 / (Am b*2^Bx b):Nat):Int) (As a-Bx a-(As b-Bx b)-61)=true:=At.2 ⟨by omega,by omega,by omega,by omega⟩
 have hn:Dm (a:Int)=B5 a:=rfl
 have hn':Dm (b:Int)=B5 b:=rfl
 rw [hw,Aw3,Z5,hn,hn']
 unfold Ee Ed
 rw [Aw5,Ah9 _ rfl rfl hq1,hstick,s1,s2]
theorem times.Div.known:times.Div.Kn:=times.Div.Ad (.cons soft.Kind.known (.cons soft.Sign.known (.cons times.nan.known (.cons times.norm.known (.cons times.signed.known (.cons times.wide.known .nil)))))) fun a b hp=>by
 obtain ⟨ha,hb⟩:=Ae.1 hp
 obtain ⟨a,rfl,hn⟩:=Bt ha
 obtain ⟨b,rfl,hm⟩:=Bt hb
 refine ⟨62,times.Div.out [.i a,.i b],[],?_,Wk.G3 (.cons .int (.cons .int .nil))⟩
 have i1:Ah (9218868437227405312:Int)=true:=B3 (n:=9218868437227405312) (by decide)
 have i2:Ah (0:Int)=true:=B3 (n:=0) (by decide)
 rw [times.Div.ev,ha,hb,Aga,Pw,Pw,k3,k3,k0,k0,i1,i2,Acl,Xw,Z5]
 show _=some (DV.tup [.int .u64 (((Xu a b).1:Nat):Int),.int .u8 (((Xu a b).2:Nat):Int)])
 have ea:Dm (a:Int)=B5 a:=rfl
 have eb:Dm (b:Int)=B5 b:=rfl
 rw [ea,eb]
 unfold Xu
 rw [Aw9,Aw3,Aw3,Aw3,Aw3,Aw3]
 by_cases h4:Ag a=4∨Ag b=4
 ·have c4:(decide (Ag a=4)||decide (Ag b=4))=true:=by simp; exact h4
  rw [Axq h4,c4,Aw3]; rfl
 ·have c4:(decide (Ag a=4)||decide (Ag b=4))=false:=by simp; omega
  rw [Axp h4,c4,Aw7]
  by_cases h1:Ag a=Ag b∧(Ag a=3∨Ag a=0)
  ·have c1:(decide (Ag a=3)&&decide (Ag b=3)||decide (Ag a=0)&&decide (Ag b=0))=true:=by simp; omega
   rw [Axq h1,c1,Aw3]; rfl
  ·have c1:(decide (Ag a=3)&&decide (Ag b=3)||decide (Ag a=0)&&decide (Ag b=0))=false:=by simp; omega
   rw [Axp h1,c1,Aw7]
   by_cases h2:Ag a=3
   ·rw [Axq h2,Aw4 h2,Aw3]; rfl
   ·rw [Axp h2,Aw8 h2,Aw7]
    by_cases h3:Ag b=3∨Ag a=0
    ·have c3:(decide (Ag b=3)||decide (Ag a=0))=true:=by simp; exact h3
     rw [Axq h3,c3,Aw3]; rfl
    ·have c3:(decide (Ag b=3)||decide (Ag a=0))=false:=by simp; omega
     rw [Axp h3,c3,Aw7]
     by_cases h5:Ag b=0
     ·rw [Axq h5,Aw4 h5,Aw3]; rfl
     ·rw [Axp h5,Aw8 h5,Aw7]
      have pa:=Po (b:=a) (by omega) (by omega) (by omega)
      have pb:=Po (b:=b) (by omega) (by omega) (by omega)
      have na:Kt (a:Int)=true:=At.2 pa
      have nb:Kt (b:Int)=true:=At.2 pb
      have hnb:(Cj (b:Int) !=0)=true:=by
       obtain ⟨_,l2,_,_⟩:=Mr pb
       have mb:Cj (b:Int)=((Am b*2^Bx b:Nat):Int):=rfl
       rw [mb]
       simp only [bne_iff_ne,ne_eq]
       omega
      rw [na,nb,hnb,Aw9,Aw3,Aw3,Aw3,Aw3,Apx pa pb]
namespace EqVec
def Ac.Add.A8:List (Nat × Entry):=[(232,sum.Add.spec)]
def Ac.Add.E:Env:=Ba (A7 Ac.Add.A8) (fun _=>false) (fun _=>none) (fun _=>none)
theorem Ac.Add.ev (N:Nat) (a b:Int):B0 Ac.Add.E N f226 (Ap f226) [.int .u64 a,.int .u64 b]=bif (Ah a&&Ah b) then some (.int .u64 (I8 a b)) else none:=by kernel_rfl
abbrev _root_.Go.Proofs.S1.Ac.Add.Kn:=A4 prog 226 Ac.Add.spec
theorem Ac.Add.Ad (hk:Ay prog Ac.Add.A8) (h:Hyp Ac.Add.E f226 Ac.Add.ts Ac.Add.pre Ac.Add.out):Ac.Add.Kn :=
 Al (A1 hk _ _ _) func226 (by kernel_rfl) (by kernel_rfl) h
def Ac.Sub.A8:List (Nat × Entry):=[(207,sum.Sub.spec)]
def Ac.Sub.E:Env:=Ba (A7 Ac.Sub.A8) (fun _=>false) (fun _=>none) (fun _=>none)
theorem Ac.Sub.ev (N:Nat) (a b:Int):B0 Ac.Sub.E N f156 (Ap f156) [.int .u64 a,.int .u64 b]=bif (Ah a&&Ah b) then some (.int .u64 (Dl a b)) else none:=by kernel_rfl
abbrev _root_.Go.Proofs.S1.Ac.Sub.Kn:=A4 prog 156 Ac.Sub.spec
theorem Ac.Sub.Ad (hk:Ay prog Ac.Sub.A8) (h:Hyp Ac.Sub.E f156 Ac.Sub.ts Ac.Sub.pre Ac.Sub.out):Ac.Sub.Kn :=
 Al (A1 hk _ _ _) func156 (by kernel_rfl) (by kernel_rfl) h
def Ac.Mul.A8:List (Nat × Entry):=[(208,times.Mul.spec)]
def Ac.Mul.E:Env:=Ba (A7 Ac.Mul.A8) (fun _=>false) (fun _=>none) (fun _=>none)
theorem Ac.Mul.ev (N:Nat) (a b:Int):B0 Ac.Mul.E N f157 (Ap f157) [.int .u64 a,.int .u64 b]=bif (Ah a&&Ah b) then some (.int .u64 (Eh a b)) else none:=by kernel_rfl
abbrev _root_.Go.Proofs.S1.Ac.Mul.Kn:=A4 prog 157 Ac.Mul.spec
theorem Ac.Mul.Ad (hk:Ay prog Ac.Mul.A8) (h:Hyp Ac.Mul.E f157 Ac.Mul.ts Ac.Mul.pre Ac.Mul.out):Ac.Mul.Kn :=
 Al (A1 hk _ _ _) func157 (by kernel_rfl) (by kernel_rfl) h
def Ac.fit.A8:List (Nat × Entry):=[]
def Ac.fit.E:Env:=Ba (A7 Ac.fit.A8) (fun _=>false) (fun _=>none) (fun _=>none)
theorem Ac.fit.ev (N:Nat) (x y:List Int):B0 Ac.fit.E N f225 (Ap f225) [.ints .arg .u64 x,.ints .arg .u64 y]=some (.bool (bif ((length x:Int)==(length y:Int)) then (Ej (length x:Int) 64) else false)) :=
 Eq.trans (by kernel_rfl)
 (An (N4 ((length x:Int)==(length y:Int))) (An (Na ((length x:Int)==(length y:Int))) (An (Na ((length x:Int)==(length y:Int))) (An (T6 ((length x:Int)==(length y:Int))) rfl))))
abbrev _root_.Go.Proofs.S1.Ac.fit.Kn:=A4 prog 225 Ac.fit.spec
theorem Ac.fit.Ad (hk:Ay prog Ac.fit.A8) (h:Hyp Ac.fit.E f225 Ac.fit.ts Ac.fit.pre Ac.fit.out):Ac.fit.Kn :=
 Al (A1 hk _ _ _) func225 (by kernel_rfl) (by kernel_rfl) h
def Ac.M6.hint:Nat→Option A5
 | 0=>some { keep:=[0,1,6,13,14],objs:=[],boxes:=[] }
 | _=>none
def Ac.M6.A8:List (Nat × Entry):=[(226,Ac.Add.spec),(157,Ac.Mul.spec),(225,Ac.fit.spec)]
def Ac.M6.E:Env:=Ba (A7 Ac.M6.A8) (fun _=>false) Ac.M6.hint (fun _=>none)
section
variable (N M:Nat) (x y:List Int) (p6 p14:Int)
def Ac.M6.L0:Option DV:=Cc Ac.M6.E N f189 (Ap f189) [1,1,1,0,1,0] [] M ⟨He 30 [(0,.ints .arg .u64 x),(1,.ints .arg .u64 y),(6,.int .u64 p6),(13,.int .i64 (length x:Int)),(14,.int .i64 p14)],[]⟩
theorem Ac.M6.Aw:Ac.M6.L0 N (M+1) x y p6 p14=bif (A0 p14 (length x:Int)) then bif ((decide (0≤p14))&&(decide (p14<(length x:Int)))) then bif ((decide (0≤p14))&&(decide (p14<(length y:Int)))) then bif (Ah (getD x (toNat p14) 0)&&Ah (getD y (toNat p14) 0)) then bif (Ah p6&&Ah (Eh (getD x (toNat p14) 0) (getD y (toNat p14) 0))) then Ac.M6.L0 N M x y (I8 p6 (Eh (getD x (toNat p14) 0) (getD y (toNat p14) 0))) (Ab (p14+1)) else none else none else none else none else some (.tup [.int .u64 p6,.int .i64 0]) :=
 Eq.trans (by kernel_rfl)
 (Ev (Dw (M9 (decide (0≤p14)) (decide (p14<(length x:Int)))) (Dw (M9 (decide (0≤p14)) (decide (p14<(length y:Int)))) (Dw (E4 (Ah (getD x (toNat p14) 0)&&Ah (getD y (toNat p14) 0))) (Dw (E4 (Ah p6&&Ah (Eh (getD x (toNat p14) 0) (getD y (toNat p14) 0)))) rfl rfl) rfl) rfl) rfl) rfl)
theorem Ac.M6.ev:B0 Ac.M6.E N f189 (Ap f189) [.ints .arg .u64 x,.ints .arg .u64 y]=bif (!(Tu x y)) then some (.tup [.int .u64 0,.int .i64 3]) else Ac.M6.L0 N N x y 0 0:=by kernel_rfl
end
abbrev _root_.Go.Proofs.S1.Ac.M6.Kn:=A4 prog 189 Ac.M6.spec
theorem Ac.M6.Ad (hk:Ay prog Ac.M6.A8) (h:Hyp Ac.M6.E f189 Ac.M6.ts Ac.M6.pre Ac.M6.out):Ac.M6.Kn :=
 Al (A1 hk _ _ _) func189 (by kernel_rfl) (by kernel_rfl) h
def Bh.D2.hint:Nat→Option A5
 | 0=>some { keep:=[0,1,5],objs:=[],boxes:=[] }
 | _=>none
def Bh.D2.A8:List (Nat × Entry):=[]
def Bh.D2.E:Env:=Ba (A7 Bh.D2.A8) (fun _=>false) Bh.D2.hint (fun _=>none)
section
variable (N M:Nat) (x y:List Int) (p5:Int)
def Bh.D2.L0:Option DV:=Cc Bh.D2.E N f99 (Ap f99) [1,1,0,1,0] [] M ⟨He 26 [(0,.ints .arg .u64 x),(1,.ints .arg .u64 y),(5,.int .i64 p5)],[]⟩
theorem Bh.D2.Aw:Bh.D2.L0 N (M+1) x y p5=bif (A0 p5 (length x:Int)) then bif ((decide (0≤p5))&&(decide (p5<(length x:Int)))) then bif ((decide (0≤p5))&&(decide (p5<(length y:Int)))) then bif ((getD x (toNat p5) 0) !=(getD y (toNat p5) 0)) then some (.bool false) else Bh.D2.L0 N M x y (Ab (p5+1)) else none else none else some (.bool true) :=
 Eq.trans (by kernel_rfl)
 (Ev (Dw (M9 (decide (0≤p5)) (decide (p5<(length x:Int)))) (Dw (M9 (decide (0≤p5)) (decide (p5<(length y:Int)))) rfl rfl) rfl) rfl)
theorem Bh.D2.ev:B0 Bh.D2.E N f99 (Ap f99) [.ints .arg .u64 x,.ints .arg .u64 y]=bif ((length x:Int) !=(length y:Int)) then some (.bool false) else Bh.D2.L0 N N x y 0:=by kernel_rfl
end
abbrev _root_.Go.Proofs.S1.Bh.D2.Kn:=A4 prog 99 Bh.D2.spec
theorem Bh.D2.Ad (hk:Ay prog Bh.D2.A8) (h:Hyp Bh.D2.E f99 Bh.D2.ts Bh.D2.pre Bh.D2.out):Bh.D2.Kn :=
 Al (A1 hk _ _ _) func99 (by kernel_rfl) (by kernel_rfl) h
end EqVec
open Go Go.Den Go.Rnd Go.Proofs Ieee
open EqVec
theorem Ac.Add.known:Ac.Add.Kn:=Ac.Add.Ad (.cons sum.Add.known .nil) fun a b hp=>by
 have hp:(Ah a&&Ah b)=true:=hp
 refine ⟨0,Ac.Add.out [.i a,.i b],[],?_,.int⟩
 rw [Ac.Add.ev,hp]; rfl
theorem Ac.Sub.known:Ac.Sub.Kn:=Ac.Sub.Ad (.cons sum.Sub.known .nil) fun a b hp=>by
 have hp:(Ah a&&Ah b)=true:=hp
 refine ⟨0,Ac.Sub.out [.i a,.i b],[],?_,.int⟩
 rw [Ac.Sub.ev,hp]; rfl
theorem Ac.Mul.known:Ac.Mul.Kn:=Ac.Mul.Ad (.cons times.Mul.known .nil) fun a b hp=>by
 have hp:(Ah a&&Ah b)=true:=hp
 refine ⟨0,Ac.Mul.out [.i a,.i b],[],?_,.int⟩
 rw [Ac.Mul.ev,hp]; rfl
theorem Al5 (x y:List Int):(bif ((length x:Int)==(length y:Int)) then (Ej (length x:Int) (64:Int)) else false)=Tu x y:=by
 unfold Tu
 rw [Gu,Axj]
 by_cases h:x.length=y.length
 ·have:((x.length:Int)==(y.length:Int))=true:=by rw [beq_iff_eq]; omega
  rw [this,Aw3,Aw4 h,Ayg,Axa,Axa]; omega
 ·have:((x.length:Int)==(y.length:Int))=false:=by rw [Axy]; omega
  rw [this,Aw7,Aw8 h,Bool.false_and]
theorem Ac.fit.known:Ac.fit.Kn:=Ac.fit.Ad .nil fun x y _=>by
 refine ⟨0,Ac.fit.out [.l x,.l y],[],?_,.bool⟩
 rw [Ac.fit.ev,Al5]; rfl
theorem Aai {x y:List Int}:Tu x y=true↔x.length=y.length∧x.length≤64:=by unfold Tu; simp
theorem Sl {l:List Int} {i:Nat} (h:i<l.length):l.drop i=l.getD i 0::l.drop (i+1):=by
 rw [List.drop_eq_getElem_cons h,Axd,Axk h]; rfl
theorem Amj {x y:List Int} {i:Nat} (s:Nat) (hx:i<x.length) (hy:i<y.length) :
 Xt s (x.drop i) (y.drop i)=Xt (Ff s (N9 (x.getD i 0).toNat (y.getD i 0).toNat).1).1 (x.drop (i+1)) (y.drop (i+1)):=by
 rw [Sl hx,Sl hy]; rfl
theorem Amk (N:Nat) {x y:List Int} (hf:Tu x y=true) (hx:Af x=true) (hy:Af y=true):∀ (k i F s:Nat),i+k=x.length→k<F→s<2^64 →
 Ac.M6.L0 N F x y (s:Int) (i:Int)=some (.tup [.int .u64 ((Xt s (x.drop i) (y.drop i):Nat):Int),.int .i64 (0:Int)]):=by
 obtain ⟨h1,h2⟩:=Aai.1 hf
 intro k
 induction k with
 | zero =>
   intro i F s hi hF hs
   obtain ⟨F,rfl⟩:∃ G,F=G+1:=⟨F-1,by omega⟩
   rw [Ac.M6.Aw,Au,Aw8 (by omega),Aw7,Axh (by omega)]
   rfl
 | succ k ih =>
   intro i F s hi hF hs
   obtain ⟨F,rfl⟩:∃ G,F=G+1:=⟨F-1,by omega⟩
   have c1:decide ((i:Int)<(x.length:Int))=true:=Aw4 (by omega)
   have c2:decide ((i:Int)<(y.length:Int))=true:=Aw4 (by omega)
   have c3:decide ((0:Int)≤(i:Int))=true:=Aw4 (by omega)
   have g1:=Vp hx (show i<x.length by omega)
   have g2:=Vp hy (show i<y.length by omega)
   have em:Eh (x.getD i 0) (y.getD i 0)=(((N9 (x.getD i 0).toNat (y.getD i 0).toNat).1:Nat):Int):=rfl
   have ea:∀ t:Nat,I8 (s:Int) (t:Int)=(((Ff s t).1:Nat):Int):=fun t=>rfl
   rw [Ac.M6.Aw,Au,c1,c2,c3,Aw5,g1,g2,em,ea,B3 hs,B3 U9,Aw9,Aw3,Aw3,Aw3,Aw3,Aw3,Ao (by omega) (by omega),Amj s (by omega) (by omega)]
   exact ih (i+1) F _ (by omega) (by omega) (Sw hs U9).1
theorem Ac.M6.known:Ac.M6.Kn:=Ac.M6.Ad (.cons Ac.Add.known (.cons Ac.Mul.known (.cons Ac.fit.known .nil))) fun x y hp=>by
 obtain ⟨h1,hy⟩:=Ae.1 hp
 obtain ⟨hf,hx⟩:=Ae.1 h1
 refine ⟨x.length+1,Ac.M6.out [.l x,.l y],[],?_,Wk.G3 (.cons .int (.cons .int .nil))⟩
 rw [Ac.M6.ev,hf,Ax2,Aw7]
 exact Amk _ hf hx hy x.length 0 _ 0 (by omega) (by omega) (by decide)
theorem Ahm (N:Nat) (x y:List Int) (hl:x.length=y.length) (hb:x.length<2^62):∀ (k i F:Nat),i+k=x.length→k<F →
 Bh.D2.L0 N F x y (i:Int)=some (.bool (Rq (x.drop i) (y.drop i))):=by
 intro k
 induction k with
 | zero =>
   intro i F hi hF
   obtain ⟨F,rfl⟩:∃ G,F=G+1:=⟨F-1,by omega⟩
   rw [Bh.D2.Aw,Au,Aw8 (by omega),Aw7,Axh (by omega),Axh (by omega)]
   rfl
 | succ k ih =>
   intro i F hi hF
   obtain ⟨F,rfl⟩:∃ G,F=G+1:=⟨F-1,by omega⟩
   have c1:decide ((i:Int)<(x.length:Int))=true:=Aw4 (by omega)
   have c2:decide ((i:Int)<(y.length:Int))=true:=Aw4 (by omega)
   have c3:decide ((0:Int)≤(i:Int))=true:=Aw4 (by omega)
   rw [Bh.D2.Aw,Au,c1,c2,c3,Aw5,Sl (show i<x.length by omega),Sl (show i<y.length by omega)]
   unfold Rq
   by_cases h:x.getD i 0=y.getD i 0
   ·have:(x.getD i 0 !=y.getD i 0)=false:=by rw [h]; simp
    have ih:=ih (i+1) F (by omega) (by omega)
    unfold Rq at ih
    rw [this,Aw9,Aw3,Aw3,Aw3,Aw7,Ao (by omega) (by omega)]
    refine ih.trans ?_
    rw [h]
    simp
   ·have:(x.getD i 0 !=y.getD i 0)=true:=by simpa using h
    rw [this,Aw9,Aw3,Aw3,Aw3,Aw3]
    simp only [List.cons.injEq,h,false_and,decide_false]
theorem Bh.D2.known:Bh.D2.Kn:=Bh.D2.Ad .nil fun x y hp=>by
 have hp:=At.1 (show R3 x=true from hp)
 refine ⟨x.length+1,Bh.D2.out [.l x,.l y],[],?_,.bool⟩
 rw [Bh.D2.ev]
 by_cases h:x.length=y.length
 ·have:((x.length:Int) !=(y.length:Int))=false:=by rw [h]; simp
  rw [this,Aw7]
  exact Ahm _ x y h (by omega) x.length 0 _ (by omega) (by omega)
 ·have:((x.length:Int) !=(y.length:Int))=true:=by simp only [bne_iff_ne,ne_eq]; omega
  rw [this,Aw3]
  have e:Rq x y=false:=Aw8 fun k=>h (by rw [k])
  show _=some (DV.bool (Rq x y))
  rw [e]
namespace EqMat
def Aa.size.A8:List (Nat × Entry):=[]
def Aa.size.E:Env:=Ba (A7 Aa.size.A8) (fun _=>false) (fun _=>none) (fun _=>none)
theorem Aa.size.ev (N:Nat) (n:Int):B0 Aa.size.E N f204 (Ap f204) [.int .i64 n]=some (.bool (bif (Ej 0 n) then (Ej n 6) else false)) :=
 Eq.trans (by kernel_rfl)
 (An (N4 (Ej 0 n)) (An (Na (Ej 0 n)) (An (T6 (Ej 0 n)) rfl)))
abbrev _root_.Go.Proofs.S1.Aa.size.Kn:=A4 prog 204 Aa.size.spec
theorem Aa.size.Ad (hk:Ay prog Aa.size.A8) (h:Hyp Aa.size.E f204 Aa.size.ts Aa.size.pre Aa.size.out):Aa.size.Kn :=
 Al (A1 hk _ _ _) func204 (by kernel_rfl) (by kernel_rfl) h
def Aa.Check.A8:List (Nat × Entry):=[(204,Aa.size.spec)]
def Aa.Check.E:Env:=Ba (A7 Aa.Check.A8) (fun _=>false) (fun _=>none) (fun _=>none)
theorem Aa.Check.ev (N:Nat) (r c:Int) (l:List Int):B0 Aa.Check.E N f160 (Ap f160) [.agg [.int .i64 r,.int .i64 c,.ints .arg .u64 l]]=bif (((!(Bj r))||(!(Bj c)))||((length l:Int) !=(Ab (r*c)))) then some (.int .i64 1) else some (.int .i64 0) :=
 Eq.trans (by kernel_rfl)
 (An (Adq (Bj r)) (An (Uv (Bj r)) (An (Uv (Bj r)) (An (Uv (Bj r)) (An (Adr (Bj r)) (An (Aro (Bj r) (Bj c)) (An (Anz (Bj r) (Bj c)) (An (Anz (Bj r) (Bj c)) (An (Aro (Bj r) (Bj c)) (An (Anz (Bj r) (Bj c)) (An (Aro (Bj r) (Bj c)) (An (Anz (Bj r) (Bj c)) (An (Atu (Bj r) (Bj c)) (An (Atu (Bj r) (Bj c)) (An (Av7 (Bj r) (Bj c)) (Dw (Av8 (Bj r) (Bj c) ((length l:Int) !=(Ab (r*c)))) rfl rfl))))))))))))))))
abbrev _root_.Go.Proofs.S1.Aa.Check.Kn:=A4 prog 160 Aa.Check.spec
theorem Aa.Check.Ad (hk:Ay prog Aa.Check.A8) (h:Hyp Aa.Check.E f160 Aa.Check.ts Aa.Check.pre Aa.Check.out):Aa.Check.Kn :=
 Al (A1 hk _ _ _) func160 (by kernel_rfl) (by kernel_rfl) h
def Aa.get.A8:List (Nat × Entry):=[]
def Aa.get.E:Env:=Ba (A7 Aa.get.A8) (fun _=>false) (fun _=>none) (fun _=>none)
theorem Aa.get.ev (N:Nat) (r c:Int) (l:List Int) (i k:Int):B0 Aa.get.E N f193 (Ap f193) [.agg [.int .i64 r,.int .i64 c,.ints .arg .u64 l],.int .i64 i,.int .i64 k]=bif ((decide (0≤(Ab ((Ab (i*c))+k))))&&(decide ((Ab ((Ab (i*c))+k))<(length l:Int)))) then some (.int .u64 (getD l (toNat (Ab ((Ab (i*c))+k))) 0)) else none:=by kernel_rfl
abbrev _root_.Go.Proofs.S1.Aa.get.Kn:=A4 prog 193 Aa.get.spec
theorem Aa.get.Ad (hk:Ay prog Aa.get.A8) (h:Hyp Aa.get.E f193 Aa.get.ts Aa.get.pre Aa.get.out):Aa.get.Kn :=
 Al (A1 hk _ _ _) func193 (by kernel_rfl) (by kernel_rfl) h
def Aa.two.A8:List (Nat × Entry):=[(160,Aa.Check.spec)]
def Aa.two.E:Env:=Ba (A7 Aa.two.A8) (fun _=>false) (fun _=>none) (fun _=>none)
theorem Aa.two.ev (N:Nat) (r c:Int) (l:List Int) (p q:Int) (m:List Int):B0 Aa.two.E N f186 (Ap f186) [.agg [.int .i64 r,.int .i64 c,.ints .arg .u64 l],.agg [.int .i64 p,.int .i64 q,.ints .arg .u64 m]]=bif (((Jo r c l) !=(0:Int))||((Jo p q m) !=(0:Int))) then some (.int .i64 1) else some (.int .i64 0) :=
 Eq.trans (by kernel_rfl)
 (An (S4 ((Jo r c l) !=(0:Int))) (An (Oi ((Jo r c l) !=(0:Int))) (An (Oi ((Jo r c l) !=(0:Int))) (An (Zk ((Jo r c l) !=(0:Int))) (Dw (tt5 ((Jo r c l) !=(0:Int)) ((Jo p q m) !=(0:Int))) rfl rfl)))))
abbrev _root_.Go.Proofs.S1.Aa.two.Kn:=A4 prog 186 Aa.two.spec
theorem Aa.two.Ad (hk:Ay prog Aa.two.A8) (h:Hyp Aa.two.E f186 Aa.two.ts Aa.two.pre Aa.two.out):Aa.two.Kn :=
 Al (A1 hk _ _ _) func186 (by kernel_rfl) (by kernel_rfl) h
def Aa.Row.A8:List (Nat × Entry):=[]
def Aa.Row.E:Env:=Ba (A7 Aa.Row.A8) (fun _=>false) (fun _=>none) (fun _=>none)
theorem Aa.Row.ev (N:Nat) (r c:Int) (l:List Int) (i f:Int):B0 Aa.Row.E N f190 (Ap f190) [.agg [.int .i64 r,.int .i64 c,.ints .arg .u64 l],.int .i64 i,.int .i64 f]=bif (((decide ((0:Int)≤(Ab ((Ab (i*c))+f))))&&(decide ((Ab ((Ab (i*c))+f))≤(Ab ((Ab (i+1))*c)))))&&((decide ((0:Int)≤(Ab ((Ab (i+1))*c))))&&(decide ((Ab ((Ab (i+1))*c))≤(length l:Int))))) then bif (decide (0+(length (List.drop (toNat (Ab ((Ab (i*c))+f))) (List.take (toNat (Ab ((Ab (i+1))*c))) l)))≤I5)) then some (.ints (.own 22 37) .u64 ([]++(List.drop (toNat (Ab ((Ab (i*c))+f))) (List.take (toNat (Ab ((Ab (i+1))*c))) l)))) else none else none :=
 Eq.trans (by kernel_rfl)
 (Dw (Av6 (decide ((0:Int)≤(Ab ((Ab (i*c))+f)))) (decide ((Ab ((Ab (i*c))+f))≤(Ab ((Ab (i+1))*c)))) (decide ((0:Int)≤(Ab ((Ab (i+1))*c)))) (decide ((Ab ((Ab (i+1))*c))≤(length l:Int)))) rfl rfl)
abbrev _root_.Go.Proofs.S1.Aa.Row.Kn:=A4 prog 190 Aa.Row.spec
theorem Aa.Row.Ad (hk:Ay prog Aa.Row.A8) (h:Hyp Aa.Row.E f190 Aa.Row.ts Aa.Row.pre Aa.Row.out):Aa.Row.Kn :=
 Al (A1 hk _ _ _) func190 (by kernel_rfl) (by kernel_rfl) h
def Aa.C3.hint:Nat→Option A5
 | 0=>some { keep:=[1,3,7,8],objs:=[(0,7,100007,.ints 37 .u64 [])],boxes:=[3] }
 | _=>none
def Aa.C3.A8:List (Nat × Entry):=[(193,Aa.get.spec)]
def Aa.C3.E:Env:=Ba (A7 Aa.C3.A8) (fun _=>false) Aa.C3.hint (fun _=>none)
section
variable (N M:Nat) (r c:Int) (l:List Int) (k f p8:Int) (p7:List Int)
def Aa.C3.L0:Option DV:=Cc Aa.C3.E N f191 (Ap f191) [1,1,0,1,0] [] M ⟨He 24 [(1,.int .i64 k),(3,.ptr 3 0 0),(7,.oref 100007),(8,.int .i64 p8)],[(3,false,.box [.int .i64 r,.int .i64 c,.ints .arg .u64 l]),(100007,false,.ints 37 .u64 p7)]⟩
theorem Aa.C3.Aw:Aa.C3.L0 N (M+1) r c l k p8 p7=bif (A0 p8 r) then bif (D4 r c l p8 k) then bif (decide ((length p7)+1≤I5)) then Aa.C3.L0 N M r c l k (Ab (p8+1)) (p7++[(Di c l p8 k)]) else none else none else some (.ints (.own 100007 37) .u64 p7):=by kernel_rfl
theorem Aa.C3.ev:B0 Aa.C3.E N f191 (Ap f191) [.agg [.int .i64 r,.int .i64 c,.ints .arg .u64 l],.int .i64 k,.int .i64 f] =
 Aa.C3.L0 N N r c l k f []:=by kernel_rfl
end
abbrev _root_.Go.Proofs.S1.Aa.C3.Kn:=A4 prog 191 Aa.C3.spec
theorem Aa.C3.Ad (hk:Ay prog Aa.C3.A8) (h:Hyp Aa.C3.E f191 Aa.C3.ts Aa.C3.pre Aa.C3.out):Aa.C3.Kn :=
 Al (A1 hk _ _ _) func191 (by kernel_rfl) (by kernel_rfl) h
def Aa.Dn.A8:List (Nat × Entry):=[]
def Aa.Dn.E:Env:=Ba (A7 Aa.Dn.A8) (fun _=>false) (fun _=>none) (fun _=>none)
theorem Aa.Dn.ev (N:Nat) (i k:Int):B0 Aa.Dn.E N f205 (Ap f205) [.int .i64 i,.int .i64 k]=some (.int .u64 0):=by kernel_rfl
abbrev _root_.Go.Proofs.S1.Aa.Dn.Kn:=A4 prog 205 Aa.Dn.spec
theorem Aa.Dn.Ad (hk:Ay prog Aa.Dn.A8) (h:Hyp Aa.Dn.E f205 Aa.Dn.ts Aa.Dn.pre Aa.Dn.out):Aa.Dn.Kn :=
 Al (A1 hk _ _ _) func205 (by kernel_rfl) (by kernel_rfl) h
def Aa.Gn.A8:List (Nat × Entry):=[]
def Aa.Gn.E:Env:=Ba (A7 Aa.Gn.A8) (fun _=>false) (fun _=>none) (fun _=>none)
theorem Aa.Gn.ev (N:Nat) (i k:Int):B0 Aa.Gn.E N f246 (Ap f246) [.int .i64 i,.int .i64 k]=bif (i==k) then some (.int .u64 4607182418800017408) else some (.int .u64 0):=by kernel_rfl
abbrev _root_.Go.Proofs.S1.Aa.Gn.Kn:=A4 prog 246 Aa.Gn.spec
theorem Aa.Gn.Ad (hk:Ay prog Aa.Gn.A8) (h:Hyp Aa.Gn.E f246 Aa.Gn.ts Aa.Gn.pre Aa.Gn.out):Aa.Gn.Kn :=
 Al (A1 hk _ _ _) func246 (by kernel_rfl) (by kernel_rfl) h
def Aa.Er.A8:List (Nat × Entry):=[(193,Aa.get.spec)]
def Aa.Er.E:Env:=Ba (A7 Aa.Er.A8) (fun _=>false) (fun _=>none) (fun _=>none)
theorem Aa.Er.ev (N:Nat) (i k:Int) (r c:Int) (l:List Int):B0 Aa.Er.E N f220 (Ap f220) [.int .i64 i,.int .i64 k,.cellp [.int .i64 r,.int .i64 c,.ints .arg .u64 l]]=bif (D4 r c l k i) then some (.int .u64 (Di c l k i)) else none:=by kernel_rfl
abbrev _root_.Go.Proofs.S1.Aa.Er.Kn:=A4 prog 220 Aa.Er.spec
theorem Aa.Er.Ad (hk:Ay prog Aa.Er.A8) (h:Hyp Aa.Er.E f220 Aa.Er.ts Aa.Er.pre Aa.Er.out):Aa.Er.Kn :=
 Al (A1 hk _ _ _) func220 (by kernel_rfl) (by kernel_rfl) h
def Aa.Es.A8:List (Nat × Entry):=[(193,Aa.get.spec)]
def Aa.Es.E:Env:=Ba (A7 Aa.Es.A8) (fun _=>false) (fun _=>none) (fun _=>none)
theorem Aa.Es.ev (N:Nat) (i k:Int) (r c:Int) (l:List Int) (x y:Int):B0 Aa.Es.E N f192 (Ap f192) [.int .i64 i,.int .i64 k,.cellp [.int .i64 r,.int .i64 c,.ints .arg .u64 l],.cellp [.int .i64 x],.cellp [.int .i64 y]]=bif (D4 r c l (Ab (x+i)) (Ab (y+k))) then some (.int .u64 (Di c l (Ab (x+i)) (Ab (y+k)))) else none:=by kernel_rfl
abbrev _root_.Go.Proofs.S1.Aa.Es.Kn:=A4 prog 192 Aa.Es.spec
theorem Aa.Es.Ad (hk:Ay prog Aa.Es.A8) (h:Hyp Aa.Es.E f192 Aa.Es.ts Aa.Es.pre Aa.Es.out):Aa.Es.Kn :=
 Al (A1 hk _ _ _) func192 (by kernel_rfl) (by kernel_rfl) h
def Aa.Gj.A8:List (Nat × Entry):=[(193,Aa.get.spec),(156,Ac.Sub.spec)]
def Aa.Gj.E:Env:=Ba (A7 Aa.Gj.A8) (fun _=>false) (fun _=>none) (fun _=>none)
theorem Aa.Gj.ev (N:Nat) (i k:Int) (r c:Int) (l:List Int) (p q:Int) (m:List Int):B0 Aa.Gj.E N f194 (Ap f194) [.int .i64 i,.int .i64 k,.cellp [.int .i64 r,.int .i64 c,.ints .arg .u64 l],.cellp [.int .i64 p,.int .i64 q,.ints .arg .u64 m]]=bif (D4 r c l i k) then bif (D4 p q m i k) then bif (Ah (Di c l i k)&&Ah (Di q m i k)) then some (.int .u64 (Dl (Di c l i k) (Di q m i k))) else none else none else none :=
 Eq.trans (by kernel_rfl)
 (Dw (E4 (D4 r c l i k)) (Dw (E4 (D4 p q m i k)) (Dw (E4 (Ah (Di c l i k)&&Ah (Di q m i k))) rfl rfl) rfl) rfl)
abbrev _root_.Go.Proofs.S1.Aa.Gj.Kn:=A4 prog 194 Aa.Gj.spec
theorem Aa.Gj.Ad (hk:Ay prog Aa.Gj.A8) (h:Hyp Aa.Gj.E f194 Aa.Gj.ts Aa.Gj.pre Aa.Gj.out):Aa.Gj.Kn :=
 Al (A1 hk _ _ _) func194 (by kernel_rfl) (by kernel_rfl) h
def Aa.Du.A8:List (Nat × Entry):=[(193,Aa.get.spec)]
def Aa.Du.E:Env:=Ba (A7 Aa.Du.A8) (fun _=>false) (fun _=>none) (fun _=>none)
theorem Aa.Du.ev (N:Nat) (i k:Int) (r c:Int) (l:List Int) (p q:Int) (m:List Int):B0 Aa.Du.E N f195 (Ap f195) [.int .i64 i,.int .i64 k,.cellp [.int .i64 r,.int .i64 c,.ints .arg .u64 l],.cellp [.int .i64 p,.int .i64 q,.ints .arg .u64 m]]=bif (A0 i r) then bif (D4 r c l i k) then some (.int .u64 (Di c l i k)) else none else bif (D4 p q m (Ab (i-r)) k) then some (.int .u64 (Di q m (Ab (i-r)) k)) else none:=by kernel_rfl
abbrev _root_.Go.Proofs.S1.Aa.Du.Kn:=A4 prog 195 Aa.Du.spec
theorem Aa.Du.Ad (hk:Ay prog Aa.Du.A8) (h:Hyp Aa.Du.E f195 Aa.Du.ts Aa.Du.pre Aa.Du.out):Aa.Du.Kn :=
 Al (A1 hk _ _ _) func195 (by kernel_rfl) (by kernel_rfl) h
def Aa.Gk.A8:List (Nat × Entry):=[(191,Aa.C3.spec),(190,Aa.Row.spec),(189,Ac.M6.spec)]
def Aa.Gk.E:Env:=Ba (A7 Aa.Gk.A8) (fun _=>false) (fun _=>none) (fun _=>none)
theorem Aa.Gk.ev (N:Nat) (i k:Int) (r c:Int) (l:List Int) (p q:Int) (m:List Int):B0 Aa.Gk.E N f188 (Ap f188) [.int .i64 i,.int .i64 k,.cellp [.int .i64 r,.int .i64 c,.ints .arg .u64 l],.cellp [.int .i64 p,.int .i64 q,.ints .arg .u64 m]]=bif (V6 r c l i&&decide ((0:Int)=0)) then bif (Lg p q m k&&Cw (0≤(0:Int)∧(0:Int)≤p)) then bif ((Tu (Jy c l i) (Ds q m k 0 (toNat (p-0)))&&Af (Jy c l i))&&Af (Ds q m k 0 (toNat (p-0)))) then some (.int .u64 (Oc (Jy c l i) (Ds q m k 0 (toNat (p-0))))) else none else none else none :=
 Eq.trans (by kernel_rfl)
 (Dw (E4 (V6 r c l i&&decide ((0:Int)=0))) (Dw (E4 (Lg p q m k&&Cw (0≤(0:Int)∧(0:Int)≤p))) (Dw (E4 ((Tu (Jy c l i) (Ds q m k 0 (toNat (p-0)))&&Af (Jy c l i))&&Af (Ds q m k 0 (toNat (p-0))))) rfl rfl) rfl) rfl)
abbrev _root_.Go.Proofs.S1.Aa.Gk.Kn:=A4 prog 188 Aa.Gk.spec
theorem Aa.Gk.Ad (hk:Ay prog Aa.Gk.A8) (h:Hyp Aa.Gk.E f188 Aa.Gk.ts Aa.Gk.pre Aa.Gk.out):Aa.Gk.Kn :=
 Al (A1 hk _ _ _) func188 (by kernel_rfl) (by kernel_rfl) h
end EqMat
open EqMat
theorem Mk {a b:Int} (h1:0≤a) (h2:a<20) (h3:0≤b) (h4:b<20):0≤a*b∧a*b<400:=by
 have:=Int.mul_nonneg h1 h3
 have h5:a*b≤19*19:=Int.mul_le_mul (by omega) (by omega) h3 (by omega)
 omega
theorem Aa.size.known:Aa.size.Kn:=Aa.size.Ad .nil fun n _=>by
 refine ⟨0,Aa.size.out [.i n],[],?_,.bool⟩
 have e:(bif (Ej (0:Int) n) then (Ej n (6:Int)) else false)=Bj n:=by
  unfold Bj
  rw [Gu,Gu]
  cases decide (0≤n)<;>rfl
 rw [Aa.size.ev,e]; rfl
theorem Ac2 (r c:Int) (l:List Int):(((!(Bj r))||(!(Bj c)))||((length l:Int) !=(Ab (r*c))))=!(Ak r c l):=by
 unfold Ak
 cases h1:Bj r with
 | false=>rfl
 | true =>
   cases h2:Bj c with
   | false=>rfl
   | true =>
     obtain ⟨r1,r2⟩:=G6.1 h1
     obtain ⟨c1,c2⟩:=G6.1 h2
     have:=Mk (a:=r) (b:=c) r1 (by omega) c1 (by omega)
     rw [Ao (by omega) (by omega),Axj]
     simp
theorem Aa.Check.known:Aa.Check.Kn:=Aa.Check.Ad (.cons Aa.size.known .nil) fun r c l _=>by
 refine ⟨0,Aa.Check.out [.i r,.i c,.l l],[],?_,.int⟩
 rw [Aa.Check.ev,Ac2]
 show _=some (DV.int .i64 (Jo r c l))
 unfold Jo
 cases Ak r c l<;>rfl
theorem Hi {c i k:Int} {l:List Int} {R:Int} (h:D4 R c l i k=true):Ab (Ab (i*c)+k)=i*c+k∧0≤i*c+k∧i*c+k<l.length:=by
 obtain ⟨h1,h2,h3,h4,h5,h6,h7,_⟩:=At.1 h
 have:=Mk h1 (by omega) h5 (by omega)
 rw [Ao (x:=i*c) (by omega) (by omega),Ao (by omega) (by omega)]
 omega
theorem Aa.get.known:Aa.get.Kn:=Aa.get.Ad .nil fun r c l i k hp=>by
 obtain ⟨e,h1,h2⟩:=Hi (R:=r) (show D4 r c l i k=true from hp)
 refine ⟨0,Aa.get.out [.i r,.i c,.l l,.i i,.i k],[],?_,.int⟩
 rw [Aa.get.ev,e,Aw4 h1,Aw4 h2]
 rfl
theorem Q7 (r c:Int) (l:List Int):((Jo r c l) !=(0:Int))=!(Ak r c l):=by
 unfold Jo
 cases Ak r c l<;>rfl
theorem Aa.two.known:Aa.two.Kn:=Aa.two.Ad (.cons Aa.Check.known .nil) fun r c l p q m _=>by
 refine ⟨0,Aa.two.out [.i r,.i c,.l l,.i p,.i q,.l m],[],?_,.int⟩
 rw [Aa.two.ev,Q7,Q7]
 show _=some (DV.int .i64 (S3 r c l p q m))
 unfold S3
 cases Ak r c l<;>cases Ak p q m<;>rfl
theorem Aa.Row.known:Aa.Row.Kn:=Aa.Row.Ad .nil fun r c l i f hp=>by
 obtain ⟨h0,hf⟩:=Ae.1 hp
 obtain rfl:=Axt hf
 obtain ⟨hr,hi⟩:=Ae.1 h0
 have hi:=At.1 hi
 obtain ⟨R,C,rfl,rfl,r6,c6,hl⟩:=C2 hr
 obtain ⟨I,rfl⟩:∃ k:Nat,i=k:=⟨i.toNat,by omega⟩
 have hm:=Mk (a:=(I:Int)) (b:=(C:Int)) (by omega) (by omega) (by omega) (by omega)
 have hm2:=Mk (a:=(I:Int)+1) (b:=(C:Int)) (by omega) (by omega) (by omega) (by omega)
 have hle:(I+1)*C≤R*C:=Axf C (by omega)
 have hle2:I*C≤(I+1)*C:=Axf C (by omega)
 have e1:(I:Int)*(C:Int)=((I*C:Nat):Int):=(Axo _ _).symm
 have e2:((I:Int)+1)*(C:Int)=(((I+1)*C:Nat):Int):=by rw [Axo]; rfl
 refine ⟨0,.ints (.own 22 tB) .u64 (Jy (C:Int) l (I:Int)),[22],?_,.drop _ _ _ _ (List.mem_singleton.2 rfl)⟩
 rw [Aa.Row.ev,Ao (x:=(I:Int)+1) (by omega) (by omega),Ao (x:=(I:Int)*(C:Int)) (by omega) (by omega),Int.add_zero,Ao (x:=(I:Int)*(C:Int)) (by omega) (by omega),Ao (x:=((I:Int)+1)*(C:Int)) (by omega) (by omega)]
 unfold Jy
 have d1:decide ((0:Int)≤(I:Int)*(C:Int))=true:=Aw4 (by omega)
 have d2:decide ((I:Int)*(C:Int)≤((I:Int)+1)*(C:Int))=true:=Aw4 (by rw [e1,e2]; omega)
 have d3:decide ((0:Int)≤((I:Int)+1)*(C:Int))=true:=Aw4 (by omega)
 have d4:decide (((I:Int)+1)*(C:Int)≤(l.length:Int))=true:=Aw4 (by rw [e2]; omega)
 have d5:decide (0+(List.drop ((I:Int)*(C:Int)).toNat (List.take (((I:Int)+1)*(C:Int)).toNat l)).length≤I5)=true:=by
  refine Aw4 ?_
  rw [List.length_drop,List.length_take]
  unfold I5
  omega
 rw [d1,d2,d3,d4,d5]
 rfl
theorem Ja (c b i:Int) (n:Nat) (l:List Int):(Ds c l b i n).length=n:=by unfold Ds; rw [Ax9,Ax6]
theorem Ap1 (r c:Int) (l:List Int) (k:Int):Ds c l k 0 (toNat (r-0))=P9 r c l k:=by
 unfold Ds P9
 rw [Int.sub_zero]
 refine List.map_congr_left fun j _=>?_
 rw [Int.zero_add]
theorem Adh {r:Int} (h:0≤r):Cw (0≤(0:Int)∧0≤r)=true:=At.2 ⟨Int.le_refl _,h⟩
theorem Amp (N:Nat) {R C K f:Nat} {l:List Int} (r6:R≤6) (c6:C≤6) (hl:l.length=R*C) (hk:K<C):∀ (k i F:Nat),f+i+k=R→k<F →
 Aa.C3.L0 N F (R:Int) (C:Int) l (K:Int) ((f+i:Nat):Int) (Ds (C:Int) l (K:Int) (f:Int) i)=some (.ints (.own 100007 tB) .u64 (Ds (C:Int) l (K:Int) (f:Int) (R-f))):=by
 intro k
 induction k with
 | zero =>
   intro i F hi hF
   obtain ⟨F,rfl⟩:∃ G,F=G+1:=⟨F-1,by omega⟩
   rw [Aa.C3.Aw,Au,Aw8 (by omega),Aw7,show R-f=i by omega]
 | succ k ih =>
   intro i F hi hF
   obtain ⟨F,rfl⟩:∃ G,F=G+1:=⟨F-1,by omega⟩
   have d:decide ((Ds (C:Int) l (K:Int) (f:Int) i).length+1≤I5)=true:=Aw4 (by rw [Ja]; unfold I5; omega)
   rw [Aa.C3.Aw,Au,Aw4 (by omega),Aw3,F8 r6 c6 hl (show f+i<R by omega) hk,Aw3,d,Aw3,Ao (by omega) (by omega)]
   have:=ih (i+1) F (by omega) (by omega)
   unfold Ds at this ⊢
   rw [List.range_succ,List.map_append] at this
   exact this
theorem Aa.C3.known:Aa.C3.Kn:=Aa.C3.Ad (.cons Aa.get.known .nil) fun r c l k f hp=>by
 obtain ⟨h0,hf⟩:=Ae.1 (show (Lg r c l k&&Cw (0≤f∧f≤r))=true from hp)
 have hf:=At.1 hf
 obtain ⟨hr,hi⟩:=Ae.1 h0
 have hi:=At.1 hi
 obtain ⟨R,C,rfl,rfl,r6,c6,hl⟩:=C2 hr
 obtain ⟨K,rfl⟩:∃ j:Nat,k=j:=⟨k.toNat,by omega⟩
 obtain ⟨f,rfl⟩:∃ j:Nat,f=j:=⟨f.toNat,by omega⟩
 refine ⟨8,.ints (.own 100007 tB) .u64 (Ds (C:Int) l (K:Int) (f:Int) (R-f)),[100007],?_,?_⟩
 ·rw [Aa.C3.ev]
  exact Amp 8 r6 c6 hl (by omega) (R-f) 0 8 (by omega) (by omega)
 ·show Wk _ _ (DV.ints .fresh .u64 (Ds (C:Int) l (K:Int) (f:Int) (toNat ((R:Int)-(f:Int)))))
  rw [show toNat ((R:Int)-(f:Int))=R-f by omega]
  exact .drop _ _ _ _ (List.mem_singleton.2 rfl)
theorem Ii {r c i k:Int} {l:List Int} (h:Ak r c l=true) (h1:0≤i) (h2:i<r) (h3:0≤k) (h4:k<c) (R:Int):D4 R c l i k=true:=by
 obtain ⟨R',C,rfl,rfl,r6,c6,hl⟩:=C2 h
 obtain ⟨I,rfl⟩:∃ j:Nat,i=j:=⟨i.toNat,by omega⟩
 obtain ⟨K,rfl⟩:∃ j:Nat,k=j:=⟨k.toNat,by omega⟩
 exact F8 r6 c6 hl (by omega) (by omega)
theorem Aa.Dn.known:Aa.Dn.Kn:=Aa.Dn.Ad .nil fun i k _=>by
 refine ⟨0,Aa.Dn.out [.i i,.i k],[],?_,.int⟩
 rw [Aa.Dn.ev]; rfl
theorem Aa.Gn.known:Aa.Gn.Kn:=Aa.Gn.Ad .nil fun i k _=>by
 refine ⟨0,Aa.Gn.out [.i i,.i k],[],?_,.int⟩
 rw [Aa.Gn.ev]
 show _=some (DV.int .u64 (Sk i k))
 unfold Sk
 by_cases h:i=k
 ·have:(i==k)=true:=by rw [h]; simp
  rw [this,Axq h]; rfl
 ·have:(i==k)=false:=by simpa using h
  rw [this,Axp h]; rfl
theorem Aa.Er.known:Aa.Er.Kn:=Aa.Er.Ad (.cons Aa.get.known .nil) fun i k r c l hp=>by
 have hp:D4 r c l k i=true:=hp
 refine ⟨0,Aa.Er.out [.i i,.i k,.i r,.i c,.l l],[],?_,.int⟩
 rw [Aa.Er.ev,hp]; rfl
theorem Aa.Es.known:Aa.Es.Kn:=Aa.Es.Ad (.cons Aa.get.known .nil) fun i k r c l x y hp=>by
 obtain ⟨h1,h2⟩:=Ae.1 hp
 have h2:=At.1 h2
 refine ⟨0,Aa.Es.out [.i i,.i k,.i r,.i c,.l l,.i x,.i y],[],?_,.int⟩
 rw [Aa.Es.ev,Ao (x:=x+i) (by omega) (by omega),Ao (x:=y+k) (by omega) (by omega),h1]; rfl
theorem Aa.Du.known:Aa.Du.Kn:=Aa.Du.Ad (.cons Aa.get.known .nil) fun i k r c l p q m hp=>by
 obtain ⟨h1,h2,h3,h4,h5⟩:=At.1 (show K6 r c l p q m i k=true from hp)
 refine ⟨0,Aa.Du.out [.i i,.i k,.i r,.i c,.l l,.i p,.i q,.l m],[],?_,.int⟩
 show _=some (DV.int .u64 (Hm r c l q m i k))
 rw [Aa.Du.ev,Au,Ao (x:=i-r) (by omega) (by omega)]
 unfold Hm
 by_cases h:i<r
 ·rw [Axq h] at h5
  rw [Aw4 h,Aw3,h5,Aw3,Axq h]
 ·rw [Axp h] at h5
  rw [Aw8 h,Aw7,h5,Aw3,Axp h]
theorem Qp {R C:Nat} {l:List Int} (hl:l.length=R*C) {I:Nat} (hi:I<R):(Jy (C:Int) l (I:Int)).length=C:=by
 have hle:(I+1)*C≤R*C:=Axf C (by omega)
 have e1:((I:Int)*(C:Int)).toNat=I*C:=by rw [← Axo,Aw5]
 have e2:(((I:Int)+1)*(C:Int)).toNat=(I+1)*C:=by
  have:((I:Int)+1)*(C:Int)=(((I+1)*C:Nat):Int):=by rw [Axo]; rfl
  rw [this,Aw5]
 unfold Jy
 rw [List.length_drop,List.length_take,e1,e2]
 rw [Ax7,Nat.one_mul] at hle ⊢
 omega
theorem Ae8 (R:Nat) (C:Int) (l:List Int) (K:Int):(P9 (R:Int) C l K).length=R:=by
 unfold P9
 rw [Ax9,Ax6,Aw5]
theorem Aof {c i:Int} {l:List Int} (h:Af l=true):Af (Jy c l i)=true:=by
 have h:=At.1 h
 exact At.2 fun x hx=>h x (List.mem_of_mem_take (List.mem_of_mem_drop hx))
theorem Ha {c i k:Int} {l:List Int} (h:Af l=true):Ah (Di c l i k)=true:=by
 unfold Di
 by_cases hj:(i*c+k).toNat<l.length
 ·exact Vp h hj
 ·rw [Axd,Ayl (by omega)]
  exact B3 (n:=0) (by decide)
theorem Ap2 {r c k:Int} {l:List Int} (h:Af l=true):Af (P9 r c l k)=true:=by
 refine At.2 fun x hx=>?_
 obtain ⟨j,_,rfl⟩:=List.mem_map.1 hx
 exact Ha h
theorem Aa.Gk.known:Aa.Gk.Kn:=Aa.Gk.Ad (.cons Aa.C3.known (.cons Aa.Row.known (.cons Ac.M6.known .nil))) fun i k r c l p q m hp=>by
 obtain ⟨h1,h2⟩:=Ae.1 (show Qx r c l p q m i k=true from hp)
 obtain ⟨h3,h4⟩:=Ae.1 h1
 obtain ⟨h5,h6⟩:=Ae.1 h2
 obtain ⟨hl,hm⟩:=Ae.1 h5
 obtain rfl:=At.1 h6
 obtain ⟨hr,hi⟩:=Ae.1 h3
 have hi:=At.1 hi
 obtain ⟨R,C,rfl,rfl,r6,c6,ll⟩:=C2 hr
 obtain ⟨I,rfl⟩:∃ j:Nat,i=j:=⟨i.toNat,by omega⟩
 refine ⟨0,Aa.Gk.out [.i I,.i k,.i R,.i C,.l l,.i C,.i q,.l m],[],?_,.int⟩
 have hf:Tu (Jy (C:Int) l (I:Int)) (P9 (C:Int) q m k)=true:=Aai.2 ⟨by rw [Qp ll (by omega),Ae8],by rw [Qp ll (by omega)]; omega⟩
 rw [Aa.Gk.ev,Ap1,h3,h4,hf,Aof hl,Ap2 hm,Adh (by omega)]
 rfl
namespace EqCmp
def compare.Je.A8:List (Nat × Entry):=[(213,soft.Sign.spec)]
def compare.Je.E:Env:=Ba (A7 compare.Je.A8) (fun _=>false) (fun _=>none) (fun _=>none)
theorem compare.Je.ev (N:Nat) (b:Int):B0 compare.Je.E N f214 (Ap f214) [.int .u64 b]=bif (Ah b) then bif (Dm b) then some (.int .i64 (Ab (0-(Ab (Ny .u64 b 9223372036854775808))))) else some (.int .i64 (Ab b)) else none:=by kernel_rfl
abbrev _root_.Go.Proofs.S1.compare.Je.Kn:=A4 prog 214 compare.Je.spec
theorem compare.Je.Ad (hk:Ay prog compare.Je.A8) (h:Hyp compare.Je.E f214 compare.Je.ts compare.Je.pre compare.Je.out):compare.Je.Kn :=
 Al (A1 hk _ _ _) func214 (by kernel_rfl) (by kernel_rfl) h
def compare.Order.A8:List (Nat × Entry):=[(214,compare.Je.spec),(155,soft.Kind.spec)]
def compare.Order.E:Env:=Ba (A7 compare.Order.A8) (fun _=>false) (fun _=>none) (fun _=>none)
theorem compare.Order.ev (N:Nat) (a b:Int):B0 compare.Order.E N f162 (Ap f162) [.int .u64 a,.int .u64 b]=bif (Ah a) then bif ((Av a)==(4:Int)) then some (.tup [.int .i64 0,.bool false]) else bif (Ah b) then bif ((Av b)==(4:Int)) then some (.tup [.int .i64 0,.bool false]) else bif (Ah a) then bif (Ah b) then bif (A0 (Ye a) (Ye b)) then some (.tup [.int .i64 (-1:Int),.bool true]) else bif (Ah a) then bif (Ah b) then bif (A0 (Ye b) (Ye a)) then some (.tup [.int .i64 1,.bool true]) else some (.tup [.int .i64 0,.bool true]) else none else none else none else none else none else none:=by kernel_rfl
abbrev _root_.Go.Proofs.S1.compare.Order.Kn:=A4 prog 162 compare.Order.spec
theorem compare.Order.Ad (hk:Ay prog compare.Order.A8) (h:Hyp compare.Order.E f162 compare.Order.ts compare.Order.pre compare.Order.out):compare.Order.Kn :=
 Al (A1 hk _ _ _) func162 (by kernel_rfl) (by kernel_rfl) h
def compare.Jq.A8:List (Nat × Entry):=[(162,compare.Order.spec)]
def compare.Jq.E:Env:=Ba (A7 compare.Jq.A8) (fun _=>false) (fun _=>none) (fun _=>none)
theorem compare.Jq.ev (N:Nat) (a b:Int):B0 compare.Jq.E N f90 (Ap f90) [.int .u64 a,.int .u64 b]=bif (Ah a&&Ah b) then some (.bool (A0 (Xm a b) 0)) else none:=by kernel_rfl
abbrev _root_.Go.Proofs.S1.compare.Jq.Kn:=A4 prog 90 compare.Jq.spec
theorem compare.Jq.Ad (hk:Ay prog compare.Jq.A8) (h:Hyp compare.Jq.E f90 compare.Jq.ts compare.Jq.pre compare.Jq.out):compare.Jq.Kn :=
 Al (A1 hk _ _ _) func90 (by kernel_rfl) (by kernel_rfl) h
def compare.Sy.A8:List (Nat × Entry):=[]
def compare.Sy.E:Env:=Ba (A7 compare.Sy.A8) (fun _=>false) (fun _=>none) (fun _=>none)
theorem compare.Sy.ev (N:Nat) (a:Int):B0 compare.Sy.E N f87 (Ap f87) [.int .u64 a]=some (.int .u64 (Ny .u64 a 9223372036854775808)):=by kernel_rfl
abbrev _root_.Go.Proofs.S1.compare.Sy.Kn:=A4 prog 87 compare.Sy.spec
theorem compare.Sy.Ad (hk:Ay prog compare.Sy.A8) (h:Hyp compare.Sy.E f87 compare.Sy.ts compare.Sy.pre compare.Sy.out):compare.Sy.Kn :=
 Al (A1 hk _ _ _) func87 (by kernel_rfl) (by kernel_rfl) h
def compare.D7.hint:Nat→Option A5
 | 1=>some { keep:=[0,6,7,8],objs:=[],boxes:=[] }
 | _=>none
def compare.D7.A8:List (Nat × Entry):=[(155,soft.Kind.spec),(212,soft.Cu.spec),(211,soft.Ex.spec),(213,soft.Sign.spec)]
def compare.D7.E:Env:=Ba (A7 compare.D7.A8) (fun _=>false) compare.D7.hint (fun _=>none)
section
variable (N M:Nat) (a n p6 p7:Int) (p8:Bool)
def compare.D7.L0:Option DV:=Cc compare.D7.E N f161 (Ap f161) [1,1,1,1,1,1,0,0] [] M ⟨He 59 [(0,.int .u64 a),(6,.int .u64 p6),(7,.int .i64 p7),(8,.bool p8)],[]⟩
theorem compare.D7.Aw:compare.D7.L0 N (M+1) a p6 p7 p8=bif ((A0 p7 (-1130:Int))&&(A0 1 p6)) then compare.D7.L0 N M a (Db .u64 p6 1) (Ab (p7+1)) (bif p8 then true else ((Fz .u64 p6 1)==(1:Int))) else bif (A0 p7 (-1130:Int)) then bif (Ah a) then bif (D1 0 (-1074:Int) true) then some (.tup [.int .u64 (Ee (Dm a) 0 (-1074:Int) true),.int .u8 (Ed (Dm a) 0 (-1074:Int) true)]) else none else none else bif (Ah a) then bif (D1 p6 p7 p8) then some (.tup [.int .u64 (Ee (Dm a) p6 p7 p8),.int .u8 (Ed (Dm a) p6 p7 p8)]) else none else none :=
 Eq.trans (by kernel_rfl)
 (An (N4 (A0 p7 (-1130:Int))) (An (Na (A0 p7 (-1130:Int))) (An (T6 (A0 p7 (-1130:Int))) (Dw (tt1 (A0 p7 (-1130:Int)) (A0 1 p6)) (An (S4 p8) (An (Oi p8) (An (Oi p8) (An (Zk p8) rfl)))) rfl))))
theorem compare.D7.ev:B0 compare.D7.E N f161 (Ap f161) [.int .u64 a,.int .i64 n]=bif (Ah a) then bif ((Av a)==(4:Int)) then some (.tup [.int .u64 9221120237041090560,.int .u8 0]) else bif ((Av a)==(3:Int)) then bif ((Av a)==(3:Int)) then some (.tup [.int .u64 a,.int .u8 0]) else bif (Ah a) then compare.D7.L0 N N a (Bc a) (Ab ((A3 a)+(max (-2300:Int) (min 2300 n)))) false else none else bif ((Av a)==(0:Int)) then some (.tup [.int .u64 a,.int .u8 0]) else bif (Ah a) then compare.D7.L0 N N a (Bc a) (Ab ((A3 a)+(max (-2300:Int) (min 2300 n)))) false else none else none:=by kernel_rfl
end
abbrev _root_.Go.Proofs.S1.compare.D7.Kn:=A4 prog 161 compare.D7.spec
theorem compare.D7.Ad (hk:Ay prog compare.D7.A8) (h:Hyp compare.D7.E f161 compare.D7.ts compare.D7.pre compare.D7.out):compare.D7.Kn :=
 Al (A1 hk _ _ _) func161 (by kernel_rfl) (by kernel_rfl) h
def Ac.E2.A8:List (Nat × Entry):=[(161,compare.D7.spec)]
def Ac.E2.E:Env:=Ba (A7 Ac.E2.A8) (fun _=>false) (fun _=>none) (fun _=>none)
theorem Ac.E2.ev (N:Nat) (a n:Int):B0 Ac.E2.E N f88 (Ap f88) [.int .u64 a,.int .i64 n]=bif (E6 a n) then some (.int .u64 (B4 a n)) else none:=by kernel_rfl
abbrev _root_.Go.Proofs.S1.Ac.E2.Kn:=A4 prog 88 Ac.E2.spec
theorem Ac.E2.Ad (hk:Ay prog Ac.E2.A8) (h:Hyp Ac.E2.E f88 Ac.E2.ts Ac.E2.pre Ac.E2.out):Ac.E2.Kn :=
 Al (A1 hk _ _ _) func88 (by kernel_rfl) (by kernel_rfl) h
def Ac.Div.A8:List (Nat × Entry):=[(209,times.Div.spec)]
def Ac.Div.E:Env:=Ba (A7 Ac.Div.A8) (fun _=>false) (fun _=>none) (fun _=>none)
theorem Ac.Div.ev (N:Nat) (a b:Int):B0 Ac.Div.E N f158 (Ap f158) [.int .u64 a,.int .u64 b]=bif (Ah a&&Ah b) then some (.int .u64 (Fp a b)) else none:=by kernel_rfl
abbrev _root_.Go.Proofs.S1.Ac.Div.Kn:=A4 prog 158 Ac.Div.spec
theorem Ac.Div.Ad (hk:Ay prog Ac.Div.A8) (h:Hyp Ac.Div.E f158 Ac.Div.ts Ac.Div.pre Ac.Div.out):Ac.Div.Kn :=
 Al (A1 hk _ _ _) func158 (by kernel_rfl) (by kernel_rfl) h
def Ac.Cf.hint:Nat→Option A5
 | 0=>some { keep:=[3,6,7,8],objs:=[],boxes:=[] }
 | _=>none
def Ac.Cf.A8:List (Nat × Entry):=[(87,compare.Sy.spec),(155,soft.Kind.spec)]
def Ac.Cf.E:Env:=Ba (A7 Ac.Cf.A8) (fun _=>false) Ac.Cf.hint (fun _=>none)
section
variable (N M:Nat) (x:List Int) (p3 p8:Int)
def Ac.Cf.L0:Option DV:=Cc Ac.Cf.E N f89 (Ap f89) [1,1,0,1,0] [] M ⟨He 21 [(3,.int .u64 p3),(6,.ints .arg .u64 x),(7,.int .i64 (length x:Int)),(8,.int .i64 p8)],[]⟩
theorem Ac.Cf.Aw:Ac.Cf.L0 N (M+1) x p3 p8=bif (A0 p8 (length x:Int)) then bif ((decide (0≤p8))&&(decide (p8<(length x:Int)))) then bif (Ah (getD x (toNat p8) 0)) then bif ((Av (getD x (toNat p8) 0))==(4:Int)) then some (.int .u64 9221120237041090560) else bif (Ah (getD x (toNat p8) 0)) then Ac.Cf.L0 N M x (max p3 (Tp (getD x (toNat p8) 0))) (Ab (p8+1)) else none else none else none else some (.int .u64 p3):=by kernel_rfl
theorem Ac.Cf.ev:B0 Ac.Cf.E N f89 (Ap f89) [.ints .arg .u64 x] =
 Ac.Cf.L0 N N x 0 0:=by kernel_rfl
end
abbrev _root_.Go.Proofs.S1.Ac.Cf.Kn:=A4 prog 89 Ac.Cf.spec
theorem Ac.Cf.Ad (hk:Ay prog Ac.Cf.A8) (h:Hyp Ac.Cf.E f89 Ac.Cf.ts Ac.Cf.pre Ac.Cf.out):Ac.Cf.Kn :=
 Al (A1 hk _ _ _) func89 (by kernel_rfl) (by kernel_rfl) h
def Ac.Finite.hint:Nat→Option A5
 | 0=>some { keep:=[5,6,7],objs:=[],boxes:=[] }
 | _=>none
def Ac.Finite.A8:List (Nat × Entry):=[(148,soft.Finite.spec)]
def Ac.Finite.E:Env:=Ba (A7 Ac.Finite.A8) (fun _=>false) Ac.Finite.hint (fun _=>none)
section
variable (N M:Nat) (x:List Int) (p7:Int)
def Ac.Finite.L0:Option DV:=Cc Ac.Finite.E N f150 (Ap f150) [1,0,1,0] [] M ⟨He 15 [(5,.ints .arg .u64 x),(6,.int .i64 (length x:Int)),(7,.int .i64 p7)],[]⟩
theorem Ac.Finite.Aw:Ac.Finite.L0 N (M+1) x p7=bif (A0 p7 (length x:Int)) then bif ((decide (0≤p7))&&(decide (p7<(length x:Int)))) then bif (Ah (getD x (toNat p7) 0)) then bif (!(Cq (getD x (toNat p7) 0))) then some (.bool false) else Ac.Finite.L0 N M x (Ab (p7+1)) else none else none else some (.bool true):=by kernel_rfl
theorem Ac.Finite.ev:B0 Ac.Finite.E N f150 (Ap f150) [.ints .arg .u64 x] =
 Ac.Finite.L0 N N x 0:=by kernel_rfl
end
abbrev _root_.Go.Proofs.S1.Ac.Finite.Kn:=A4 prog 150 Ac.Finite.spec
theorem Ac.Finite.Ad (hk:Ay prog Ac.Finite.A8) (h:Hyp Ac.Finite.E f150 Ac.Finite.ts Ac.Finite.pre Ac.Finite.out):Ac.Finite.Kn :=
 Al (A1 hk _ _ _) func150 (by kernel_rfl) (by kernel_rfl) h
def B6.Check.hint:Nat→Option A5
 | 0=>some { keep:=[9,10,11],objs:=[],boxes:=[] }
 | _=>none
def B6.Check.A8:List (Nat × Entry):=[(160,Aa.Check.spec),(148,soft.Finite.spec)]
def B6.Check.E:Env:=Ba (A7 B6.Check.A8) (fun _=>false) B6.Check.hint (fun _=>none)
section
variable (N:Nat) (r c:Int) (M:Nat) (l:List Int) (p11:Int)
def B6.Check.L0:Option DV:=Cc B6.Check.E N f86 (Ap f86) [1,1,0,1,0] [] M ⟨He 19 [(9,.ints .arg .u64 l),(10,.int .i64 (length l:Int)),(11,.int .i64 p11)],[]⟩
theorem B6.Check.Aw:B6.Check.L0 N (M+1) l p11=bif (A0 p11 (length l:Int)) then bif ((decide (0≤p11))&&(decide (p11<(length l:Int)))) then bif (Ah (getD l (toNat p11) 0)) then bif (!(Cq (getD l (toNat p11) 0))) then some (.int .i64 4) else B6.Check.L0 N M l (Ab (p11+1)) else none else none else some (.int .i64 0):=by kernel_rfl
theorem B6.Check.ev:B0 B6.Check.E N f86 (Ap f86) [.agg [.int .i64 r,.int .i64 c,.ints .arg .u64 l]]=bif ((Jo r c l) !=(0:Int)) then some (.int .i64 1) else B6.Check.L0 N N l 0:=by kernel_rfl
end
abbrev _root_.Go.Proofs.S1.B6.Check.Kn:=A4 prog 86 B6.Check.spec
theorem B6.Check.Ad (hk:Ay prog B6.Check.A8) (h:Hyp B6.Check.E f86 B6.Check.ts B6.Check.pre B6.Check.out):B6.Check.Kn :=
 Al (A1 hk _ _ _) func86 (by kernel_rfl) (by kernel_rfl) h
end EqCmp
open EqCmp
theorem Ps {k j:Nat} (h:k≠j):(((k:Nat):Int)==((j:Nat):Int))=false:=by rw [Axy]; omega
theorem Zd (n:Nat):n%2^63<2^63:=Nat.mod_lt _ (by decide)
theorem Ac8 {n:Nat} (h:n<2^64):Ny .u64 (n:Int) (9223372036854775808:Int)=((n%2^63:Nat):Int):=by
 have:=N2 (B5 n) (Zd n)
 rw [Ahf h] at this
 exact this
theorem compare.Sy.known:compare.Sy.Kn:=compare.Sy.Ad .nil fun a hp=>by
 obtain ⟨n,rfl,hn⟩:=Bt (show Ah a=true from hp)
 refine ⟨0,compare.Sy.out [.i (n:Int)],[],?_,.int⟩
 show _=some (DV.int .u64 (((n:Int).toNat%2^63:Nat):Int))
 rw [compare.Sy.ev,Ac8 hn,Aw5]
theorem compare.Je.known:compare.Je.Kn:=compare.Je.Ad (.cons soft.Sign.known .nil) fun b hp=>by
 have hp:Ah b=true:=hp
 obtain ⟨n,rfl,hn⟩:=Bt hp
 refine ⟨0,compare.Je.out [.i (n:Int)],[],?_,.int⟩
 show _=some (DV.int .i64 (Hg (n:Int).toNat))
 have h63:=Zd n
 rw [compare.Je.ev,hp,Aw3,Ac8 hn,Aw5]
 unfold Hg Hr Dm
 rw [Aw5]
 cases hs:B5 n with
 | true =>
   rw [Aw3,Axq rfl,Ao (x:=((n%2^63:Nat):Int)) (by omega) (by omega),Ao (by omega) (by omega)]
   congr 2; omega
 | false =>
   have:n<2^63:=by
    unfold B5 at hs
    have:=of_decide_eq_false hs
    omega
   rw [Aw7,Axp (by decide),Axg this,Ao (by omega) (by omega)]
theorem compare.Order.known:compare.Order.Kn:=compare.Order.Ad (.cons compare.Je.known (.cons soft.Kind.known .nil)) fun a b hp=>by
 obtain ⟨ha,hb⟩:=Ae.1 (show (Ah a&&Ah b)=true from hp)
 refine ⟨0,compare.Order.out [.i a,.i b],[],?_,Wk.G3 (.cons .int (.cons .bool .nil))⟩
 show _=some (DV.tup [.int .i64 (Aom a.toNat b.toNat),.bool (Ar2 a.toNat b.toNat)])
 rw [compare.Order.ev,ha,hb,Aw3,Aw3,Aw3,Aw3,Aw3,Aw3,Au,Au]
 unfold Aom Ar2 Ye Av
 by_cases h1:Ag a.toNat=4
 ·have e:(((Ag a.toNat:Nat):Int)==(4:Int))=true:=by rw [h1]; rfl
  rw [e,Aw3,Axq (.inl h1),Aw4 (.inl h1)]; rfl
 ·have e:(((Ag a.toNat:Nat):Int)==(4:Int))=false:=Ps h1
  rw [e,Aw7]
  by_cases h2:Ag b.toNat=4
  ·have e:(((Ag b.toNat:Nat):Int)==(4:Int))=true:=by rw [h2]; rfl
   rw [e,Aw3,Axq (.inr h2),Aw4 (.inr h2)]; rfl
  ·have e:(((Ag b.toNat:Nat):Int)==(4:Int))=false:=Ps h2
   have hn:¬ (Ag a.toNat=4∨Ag b.toNat=4):=fun h=>h.elim h1 h2
   rw [e,Aw7,Axp hn,Aw8 hn]
   by_cases h3:Hg a.toNat<Hg b.toNat
   ·rw [Aw4 h3,Axq h3]; rfl
   ·rw [Aw8 h3,Axp h3]
    by_cases h4:Hg b.toNat<Hg a.toNat
    ·rw [Aw4 h4,Axq h4]; rfl
    ·rw [Aw8 h4,Axp h4]; rfl
theorem compare.Jq.known:compare.Jq.Kn:=compare.Jq.Ad (.cons compare.Order.known .nil) fun a b hp=>by
 have hp:(Ah a&&Ah b)=true:=hp
 refine ⟨0,compare.Jq.out [.i a,.i b],[],?_,.bool⟩
 rw [compare.Jq.ev,hp,Au]; rfl
theorem Ad2 (N:Nat) {a:Int} (ha:Ah a=true):∀ (k F m:Nat) (e:Int) (b:Bool),e=-1130-(k:Int)→k<F→m<2^53→(m≠0∨b=true)→-9000<e →
 compare.D7.L0 N F a (m:Int) e b=some (.tup [.int .u64 (((Bv (B5 a.toNat) 0,3):Nat × Nat).1:Nat),.int .u8 (((Bv (B5 a.toNat) 0,3):Nat × Nat).2:Nat)]):=by
 have pre1:D1 (0:Int) (-1074:Int) true=true:=At.2 (by omega)
 intro k
 induction k with
 | zero =>
   intro F m e b he hF hm h0 _
   obtain ⟨F,rfl⟩:∃ G,F=G+1:=⟨F-1,by omega⟩
   have hlt:A0 e (-1130:Int)=false:=by rw [Au]; exact Aw8 (by omega)
   have P6:D1 (m:Int) e b=true:=At.2 (by omega)
   rw [compare.D7.Aw,hlt,Bool.false_and,Aw7,Aw7,ha,Aw3,P6,Aw3]
   unfold Ee Ed Dm
   rw [Aw5,Ah4 _ hm h0 (by omega)]
 | succ k ih =>
   intro F m e b he hF hm h0 hb
   obtain ⟨F,rfl⟩:∃ G,F=G+1:=⟨F-1,by omega⟩
   have hlt:A0 e (-1130:Int)=true:=by rw [Au]; exact Aw4 (by omega)
   rw [compare.D7.Aw,hlt,Ayg,Aw3,Au]
   by_cases h1:(1:Int)<(m:Int)
   ·have em:Db .u64 (m:Int) (1:Int)=((m / 2^1:Nat):Int):=Gz .u64 m 1 (by decide)
    rw [Aw4 h1,Aw3,em,Ao (by omega) (by omega)]
    exact ih F (m / 2^1) (e+1) _ (by omega) (by omega) (by omega) (.inl (by omega)) (by omega)
   ·rw [Aw8 h1,Aw7,ha,Aw3,pre1,Aw3]
    unfold Ee Ed Dm
    rw [show (0:Int).toNat=0 from rfl,Ak2]
theorem compare.D7.known:compare.D7.Kn:=compare.D7.Ad (.cons soft.Kind.known (.cons soft.Cu.known (.cons soft.Ex.known (.cons soft.Sign.known .nil)))) fun a n hp=>by
 obtain ⟨ha,hn⟩:=Ae.1 (show E6 a n=true from hp)
 have hn:=At.1 hn
 refine ⟨3000,compare.D7.out [.i a,.i n],[],?_,Wk.G3 (.cons .int (.cons .int .nil))⟩
 show _=some (DV.tup [.int .u64 ((Dz a.toNat n).1:Nat),.int .u8 ((Dz a.toNat n).2:Nat)])
 have em:max (-2300:Int) (min (2300:Int) n)=n:=by omega
 have pE:=Ce a.toNat
 have pM:=Ft a.toNat
 have ee:Ab (A3 a+n)=As a.toNat+n:=by unfold A3; exact Ao (by omega) (by omega)
 rw [compare.D7.ev,ha,Aw3,Aw3,em,ee]
 unfold Av
 by_cases h4:Ag a.toNat=4
 ·have e:(((Ag a.toNat:Nat):Int)==(4:Int))=true:=by rw [h4]; rfl
  rw [e,Aw3]
  unfold Dz
  rw [Axq h4]; rfl
 have e4:(((Ag a.toNat:Nat):Int)==(4:Int))=false:=Ps h4
 rw [e4,Aw7]
 by_cases h3:Ag a.toNat=3
 ·have e:(((Ag a.toNat:Nat):Int)==(3:Int))=true:=by rw [h3]; rfl
  obtain ⟨k,rfl,hk⟩:=Bt ha
  rw [e,Aw3,Aw3]
  unfold Dz
  rw [Axp h4,Axq (.inl h3),Aw5]; rfl
 have e3:(((Ag a.toNat:Nat):Int)==(3:Int))=false:=Ps h3
 rw [e3,Aw7]
 by_cases h0:Ag a.toNat=0
 ·have e:(((Ag a.toNat:Nat):Int)==(0:Int))=true:=by rw [h0]; rfl
  obtain ⟨k,rfl,hk⟩:=Bt ha
  rw [e,Aw3]
  unfold Dz
  rw [Axp h4,Axq (.inr h0),Aw5]; rfl
 have e0:(((Ag a.toNat:Nat):Int)==(0:Int))=false:=Ps h0
 have hk:¬ (Ag a.toNat=3∨Ag a.toNat=0):=fun h=>h.elim h3 h0
 have hm:Am a.toNat≠0:=fun h=>h0 ((Dp h3 h4).1 h)
 rw [e0,Aw7]
 show compare.D7.L0 3000 3000 a (Am a.toNat:Nat) (As a.toNat+n) false=_
 by_cases ht:As a.toNat+n≤-1130
 ·rw [Ad1 h4 hk ht]
  exact Ad2 3000 ha (-1130-(As a.toNat+n)).toNat 3000 _ _ false (by omega) (by omega) (by omega) (.inl hm) (by omega)
 ·have hlt:A0 (As a.toNat+n) (-1130:Int)=false:=by rw [Au]; exact Aw8 (by omega)
  have P6:D1 ((Am a.toNat:Nat):Int) (As a.toNat+n) false=true:=At.2 ⟨by omega,by omega,by omega,by omega,fun h=>by cases h⟩
  rw [H8 h4 hk,show (3000:Nat)=2999+1 from rfl,compare.D7.Aw,hlt,Bool.false_and,Aw7,Aw7,ha,Aw3,P6,Aw3]
  unfold Ee Ed Dm
  rw [Aw5,Ue]
theorem Ac.E2.known:Ac.E2.Kn:=Ac.E2.Ad (.cons compare.D7.known .nil) fun a n hp=>by
 have hp:E6 a n=true:=hp
 refine ⟨0,Ac.E2.out [.i a,.i n],[],?_,.int⟩
 rw [Ac.E2.ev,hp]; rfl
theorem Ac.Div.known:Ac.Div.Kn:=Ac.Div.Ad (.cons times.Div.known .nil) fun a b hp=>by
 have hp:(Ah a&&Ah b)=true:=hp
 refine ⟨0,Ac.Div.out [.i a,.i b],[],?_,.int⟩
 rw [Ac.Div.ev,hp]; rfl
theorem Ih {l:List Int} {i:Nat} (h:i<l.length):l.drop i=l.getD i 0::l.drop (i+1):=by
 rw [List.drop_eq_getElem_cons h,Axd,Axk h]; rfl
theorem Ks {l:List Int} (h:Dh l=true):l.length<4611686018427387904∧∀ j,j<l.length→Ah (l.getD j 0)=true:=by
 obtain ⟨h1,h2⟩:=At.1 h
 exact ⟨h1,fun j hj=>by rw [Axd,Axk hj]; exact h2 _ (List.getElem_mem hj)⟩
theorem Kg {l:List Int} (h:Af l=true) (hl:l.length≤1000):Dh l=true:=At.2 ⟨by omega,At.1 h⟩
theorem Acq (N:Nat) {x:List Int} (hx:Dh x=true):∀ (k i F:Nat),i+k=x.length→k<F→Ac.Finite.L0 N F x (i:Int)=some (.bool ((x.drop i).all Cq)):=by
 obtain ⟨hl,hu⟩:=Ks hx
 intro k
 induction k with
 | zero =>
   intro i F hi hF
   obtain ⟨F,rfl⟩:∃ G,F=G+1:=⟨F-1,by omega⟩
   rw [Ac.Finite.Aw,Au,Aw8 (by omega),Aw7,Axh (by omega)]; rfl
 | succ k ih =>
   intro i F hi hF
   obtain ⟨F,rfl⟩:∃ G,F=G+1:=⟨F-1,by omega⟩
   rw [Ac.Finite.Aw,Au,Aw4 (show (i:Int)<(x.length:Int) by omega),Aw3,Aw4 (show (0:Int)≤(i:Int) by omega),Aw9,Aw3,Aw5,hu i (by omega),Aw3,Ih (by omega),List.all_cons]
   cases Cq (x.getD i 0) with
   | false=>rfl
   | true =>
     rw [Ax2,Aw7,Ao (by omega) (by omega),Ayg]
     exact ih (i+1) F (by omega) (by omega)
theorem Ac.Finite.known:Ac.Finite.Kn:=Ac.Finite.Ad (.cons soft.Finite.known .nil) fun x hp=>by
 have hp:Dh x=true:=hp
 refine ⟨x.length+1,Ac.Finite.out [.l x],[],?_,.bool⟩
 show _=some (DV.bool (x.all Cq))
 rw [Ac.Finite.ev]
 exact Acq _ hp x.length 0 (x.length+1) (by omega) (by omega)
theorem Ai5 {x:List Int} {i:Nat} (h:i<x.length) (m:Nat):Kl (x.drop i) m=if Ag (x.getD i 0).toNat=4 then Pe else Kl (x.drop (i+1)) (max m (Dg (x.getD i 0).toNat)):=by
 rw [Ih h]; rfl
theorem Aau (N:Nat) {x:List Int} (hx:Dh x=true):∀ (k i F m:Nat),i+k=x.length→k<F→Ac.Cf.L0 N F x (m:Int) (i:Int)=some (.int .u64 ((Kl (x.drop i) m:Nat):Int)):=by
 obtain ⟨hl,hu⟩:=Ks hx
 intro k
 induction k with
 | zero =>
   intro i F m hi hF
   obtain ⟨F,rfl⟩:∃ G,F=G+1:=⟨F-1,by omega⟩
   rw [Ac.Cf.Aw,Au,Aw8 (by omega),Aw7,Axh (by omega)]; rfl
 | succ k ih =>
   intro i F m hi hF
   obtain ⟨F,rfl⟩:∃ G,F=G+1:=⟨F-1,by omega⟩
   rw [Ac.Cf.Aw,Au,Aw4 (show (i:Int)<(x.length:Int) by omega),Aw3,Aw4 (show (0:Int)≤(i:Int) by omega),Aw9,Aw3,Aw5,hu i (by omega),Aw3,Ai5 (by omega)]
   unfold Av
   by_cases h4:Ag (x.getD i 0).toNat=4
   ·have e:(((Ag (x.getD i 0).toNat:Nat):Int)==(4:Int))=true:=by rw [h4]; rfl
    rw [e,Aw3,Axq h4]; rfl
   ·have e:(((Ag (x.getD i 0).toNat:Nat):Int)==(4:Int))=false:=Ps h4
    have em:max (m:Int) (Tp (x.getD i 0))=((max m (Dg (x.getD i 0).toNat):Nat):Int):=by unfold Tp; omega
    rw [e,Aw7,Aw3,Axp h4,em,Ao (by omega) (by omega)]
    exact ih (i+1) F _ (by omega) (by omega)
theorem Ac.Cf.known:Ac.Cf.Kn:=Ac.Cf.Ad (.cons compare.Sy.known (.cons soft.Kind.known .nil)) fun x hp=>by
 have hp:Dh x=true:=hp
 refine ⟨x.length+1,Ac.Cf.out [.l x],[],?_,.int⟩
 rw [Ac.Cf.ev]
 exact Aau _ hp x.length 0 (x.length+1) 0 (by omega) (by omega)
theorem Aas (N:Nat) {x:List Int} (hx:Dh x=true):∀ (k i F:Nat),i+k=x.length→k<F→B6.Check.L0 N F x (i:Int)=some (.int .i64 (if (x.drop i).all Cq=true then 0 else 4)):=by
 obtain ⟨hl,hu⟩:=Ks hx
 intro k
 induction k with
 | zero =>
   intro i F hi hF
   obtain ⟨F,rfl⟩:∃ G,F=G+1:=⟨F-1,by omega⟩
   rw [B6.Check.Aw,Au,Aw8 (by omega),Aw7,Axh (by omega)]; rfl
 | succ k ih =>
   intro i F hi hF
   obtain ⟨F,rfl⟩:∃ G,F=G+1:=⟨F-1,by omega⟩
   rw [B6.Check.Aw,Au,Aw4 (show (i:Int)<(x.length:Int) by omega),Aw3,Aw4 (show (0:Int)≤(i:Int) by omega),Aw9,Aw3,Aw5,hu i (by omega),Aw3,Ih (by omega),List.all_cons]
   cases Cq (x.getD i 0) with
   | false=>rfl
   | true =>
     rw [Ax2,Aw7,Ao (by omega) (by omega),Ayg]
     exact ih (i+1) F (by omega) (by omega)
theorem Mm {r c:Int} {l:List Int} (h:Ak r c l=true):l.length≤36:=by
 obtain ⟨R,C,rfl,rfl,r6,c6,hl⟩:=C2 h
 have:=Axz r6 c6
 omega
theorem B6.Check.known:B6.Check.Kn:=B6.Check.Ad (.cons Aa.Check.known (.cons soft.Finite.known .nil)) fun r c l hp=>by
 have hp:Af l=true:=hp
 refine ⟨l.length+1,B6.Check.out [.i r,.i c,.l l],[],?_,.int⟩
 show _=some (DV.int .i64 (Bo r c l))
 rw [B6.Check.ev]
 unfold Jo Bo Da
 by_cases h:Ak r c l=true
 ·have:=Mm h
  rw [Axq h,Axq h]
  have e:((0:Int) !=(0:Int))=false:=by decide
  rw [e,Aw7]
  exact Aas _ (Kg hp (by omega)) l.length 0 (l.length+1) (by omega) (by omega)
 ·rw [Axp h,Axp h]; rfl
open Go Go.Den Go.Rnd Go.Proofs Ieee
end Go.Proofs.S1
namespace Go.Rnd
open Go.Den
theorem Ae6 {P root rest two:Nat} (h1:P=root*root+rest) (h2:rest≤2*root) (h3:two<4) :
 (4*root+1≤4*rest+two→4*P+two=(2*root+1)*(2*root+1)+(4*rest+two-(4*root+1))∧4*rest+two-(4*root+1)≤2*(2*root+1)) ∧
 (4*rest+two<4*root+1→4*P+two=(2*root)*(2*root)+(4*rest+two)∧4*rest+two≤2*(2*root)):=by
 have e1:(2*root+1)*(2*root+1)=4*(root*root)+(4*root+1):=by
  rw [Ax7,Nat.mul_add,Nat.mul_add]
  have:2*root*(2*root)=4*(root*root):=by rw [Nat.mul_mul_mul_comm]
  omega
 have e2:(2*root)*(2*root)=4*(root*root):=by rw [Nat.mul_mul_mul_comm]
 constructor
 ·intro h; rw [e1]; omega
 ·intro h; rw [e2]; omega
theorem Aog {P root rest:Nat} (h1:P=root*root+rest) (h2:rest≤2*root):root=O3 P:=by
 refine Ww (by omega) ?_
 have:(root+1)*(root+1)=root*root+2*root+1:=by rw [Ax7,Nat.mul_add]; omega
 omega
end Go.Rnd
namespace Go.Rnd
open Go.Den
theorem Jr:Ah (0:Int)=true:=B3 (n:=0) (by decide)
theorem Aks:Ah Aoo=true:=B3 (n:=4607182418800017408) (by decide)
theorem Ahk {b:Nat} {n:Int} (h:b<2^64):(Dz b n).1<2^64:=by
 unfold Dz
 by_cases h4:Ag b=4
 ·rw [Axq h4]; exact (by decide:Pe<2^64)
 rw [Axp h4]
 by_cases h3:Ag b=3∨Ag b=0
 ·rw [Axq h3]; exact h
 rw [Axp h3]
 exact Rl _ _ _
theorem Iq {b n:Int} (h:Ah b=true):Ah (B4 b n)=true:=by
 obtain ⟨x,rfl,hx⟩:=Bt h
 exact B3 (Ahk (by rw [Aw5]; exact hx))
theorem Vr (b:Nat):Dg b<2^63:=Nat.mod_lt _ (by decide)
theorem Xb:∀ (l:List Int) (m:Nat),m<2^64→Kl l m<2^64
 | [],m,h=>h
 | x::l,m,h=>by
   unfold Kl
   split
   ·exact (by decide:Pe<2^64)
   ·have h2:=Vr x.toNat
    exact Xb l _ (by omega)
theorem Rb (l:List Int):Ah (A6 l)=true:=B3 (Xb l 0 (by decide))
theorem Alc (x:Int):Ah (Tp x)=true:=B3 (Nat.lt_trans (Vr x.toNat) (by decide))
theorem Am2 {a b:Int} (ha:Ah a=true) (hb:Ah b=true):Ah (I8 a b)=true:=by
 obtain ⟨x,rfl,hx⟩:=Bt ha
 obtain ⟨y,rfl,hy⟩:=Bt hb
 exact B3 (Sw (by rw [Aw5]; exact hx) (by rw [Aw5]; exact hy)).1
theorem Ab4 {a:Int} (ha:Ah a=true):Ah (Dk a)=true:=by
 obtain ⟨x,rfl,hx⟩:=Bt ha
 exact B3 (To (by rw [Aw5]; exact hx))
theorem Aj9 {b:Nat} (h:b<2^64):(Io b).1<2^64:=by
 by_cases h4:Ag b=4
 ·rw [Vz h4]; exact (by decide:Pe<2^64)
 by_cases h0:Ag b=0∨b=Eg
 ·rw [Mj h4 h0]; exact h
 cases hn:B5 b with
 | true=>rw [Abk h4 h0 hn]; exact (by decide:Pe<2^64)
 | false =>
   unfold Io
   rw [Axp h4,Axp h0,hn,Axp (by decide)]
   exact Nat.lt_trans (Hw _ _) (by decide)
theorem Afx {a:Int} (ha:Ah a=true):Ah (G5 a)=true:=by
 obtain ⟨x,rfl,hx⟩:=Bt ha
 exact B3 (Aj9 (by rw [Aw5]; exact hx))
theorem Aj6 (k:Int):∀ (l:List Int) {s:Int},Ah s=true→Ah (S9 k s l)=true
 | [],_,h=>h
 | _::l,_,h=>Aj6 k l (Am2 h (Kj _ _))
theorem Z6 (x:List Int):Ah (D0 x)=true:=by
 unfold D0
 split
 ·exact Rb x
 ·exact Iq (Afx (Aj6 _ _ Jr))
theorem Aqs (x:List Int):Ah (Uf x)=true:=by
 unfold Uf
 split
 ·exact Z6 _
 ·exact Ab4 (Z6 _)
theorem Aqb (x:List Int):Ah (Gy x)=true:=Iq (Aqs x)
theorem Aix (b:Nat):-1100≤H4 b∧H4 b≤1100:=by
 unfold H4
 split
 ·have h1:=Ce b
  have h2:=Ft b
  rename_i h
  have h3:(Am b).log2<53:=by
   by_cases h0:Am b=0
   ·rw [h0]; decide
   ·exact (Ayj h0).2 h2
  omega
 ·omega
theorem Ame (x:Int):-1100≤Bi x∧Bi x≤1100:=Aix x.toNat
theorem Lk {l:List Int} (h:Af l=true) (j:Nat):Ah (l.getD j 0)=true:=Sf (At.1 h) j
theorem P3 {l:List Int} (h:∀ x∈l,Ah x=true):Af l=true:=At.2 h
theorem Dy:Af []=true:=P3 fun _ h=>by cases h
theorem Ac9 {α:Type} {l:List α} {f:α→Int} (h:∀ j,Ah (f j)=true):Af (l.map f)=true:=P3 fun x hx=>by
 obtain ⟨j,_,rfl⟩:=List.mem_map.1 hx
 exact h j
theorem Aja {x:Int} {l:List Int} (h1:Ah x=true) (h2:Af l=true):Af (x::l)=true:=P3 fun y hy=>by
 rcases List.mem_cons.1 hy with rfl | hy
 ·exact h1
 ·exact At.1 h2 y hy
theorem L4 {c i k:Int} {l:List Int} (h:Af l=true):Ah (Di c l i k)=true:=Lk h _
theorem Ol (c b i:Int) (n:Nat) (l:List Int):(Ds c l b i n).length=n:=by unfold Ds; rw [Ax9,Ax6]
theorem Qo {c b i:Int} {n:Nat} {l:List Int} (h:Af l=true):Af (Ds c l b i n)=true:=Ac9 fun _=>L4 h
theorem Akh (n:Nat) {f:Nat→Int} (h:∀ j,Ah (f j)=true):Af (I3 n f)=true:=Aja Aks (Ac9 fun _=>h _)
theorem Rt {n:Nat} (h:n≠0) (f:Nat→Int):(I3 n f).length=n:=by
 unfold I3
 rw [List.length_cons,Ax9,Ax6]
 omega
theorem Vb {x:List Int} (h:Af x=true):Af (Bw x).1=true∧Ah (Bw x).2.1=true∧Ah (Bw x).2.2.1=true:=by
 have hz:Af []=true∧Ah (0:Int)=true∧Ah (0:Int)=true:=⟨Dy,Jr,Jr⟩
 unfold Bw
 split
 ·exact hz
 split
 ·unfold Aia
  split
  ·dsimp only
   exact ⟨Akh _ fun _=>Jr,Jr,Lk h 0⟩
  ·split
   ·dsimp only
    exact ⟨Akh _ fun _=>Aap _ _,Aap _ _,Aqb x⟩
   ·exact hz
 ·exact hz
theorem R8 {x:List Int} (h:(Bw x).2.2.2=0):(Bw x).1.length=x.length:=by
 unfold Bw at h ⊢
 by_cases h1:x.length=0∨64<x.length
 ·rw [Axq h1] at h; exact absurd h (by decide)
 rw [Axp h1] at h ⊢
 by_cases h2:Da x=true
 ·rw [Axq h2] at h ⊢
  unfold Aia at h ⊢
  by_cases h3:F7 (x.drop 1)=true
  ·rw [Axq h3]; dsimp only; exact Rt (n:=x.length) (by omega) _
  ·rw [Axp h3] at h ⊢
   by_cases h4:Cq (Gy x)=true
   ·rw [Axq h4]; dsimp only [Abz]; exact Rt (n:=x.length) (by omega) _
   ·rw [Axp h4] at h; exact absurd h (by decide)
 ·rw [Axp h2] at h; exact absurd h (by decide)
theorem Vk (x y:List Int):Ah (Oc x y)=true:=B3 (Aan x y 0 (by decide))
theorem Ai8 {c i k t a b:Int} {l v:List Int} (h:Af l=true):Ah (Li c l i k v t a b)=true:=by
 unfold Li
 split
 ·exact Nc (L4 h) (Kj _ _)
 ·exact L4 h
theorem Y8 {r c:Nat} {l:List Int} (h:Af l=true) (i k:Int) (v:List Int) (t:Int):Af (F0 r c l i k v t)=true:=Gv fun _ _=>Ai8 h
theorem Mc (r c:Nat) (l:List Int) (i k:Int) (v:List Int) (t:Int):(F0 r c l i k v t).length=r*c:=Br _ _ _
theorem Ai0 {r c:Nat} {l:List Int} (h:Af l=true) (j:Nat) {x:Int} (hx:Ah x=true):Af (Nv r c l j x)=true:=Gv fun a b=>by
 split
 ·split
  ·exact hx
  ·exact Jr
 ·exact L4 h
theorem Ov (r c:Nat) (l:List Int) (j:Nat):(P7 r c l j).length=r*c:=by unfold P7 Nv; exact Br _ _ _
theorem Va {r c:Nat} {l:List Int} (h:Af l=true) (j:Nat):Af (P7 r c l j)=true:=Ai0 (Y8 h _ _ _ _) _ (Vb (Qo h)).2.2
def Ab2 (r:Nat):Nat→List (List Int × Int)→Prop
 | _,[]=>True
 | j,m::ms=>(Af m.1=true∧Ah m.2=true∧m.1.length+j=r)∧Ab2 r (j+1) ms
theorem W7 (r c:Nat):∀ (n j:Nat) (l:List Int) (x:List Int × List (List Int × Int)),Af l=true→l.length=r*c→j+n≤r→Kb r c n j l=some x→Af x.1=true∧x.1.length=r*c∧x.2.length=n∧Ab2 r j x.2
 | 0,j,l,x,ha,hl,_,h=>by
   cases h
   exact ⟨ha,hl,rfl,trivial⟩
 | n+1,j,l,x,ha,hl,hj,h=>by
   unfold Kb at h
   by_cases h1:(Bw (En r c l j)).2.2.2=0
   ·rw [Axq h1,Option.map_eq_some_iff] at h
    obtain ⟨y,hy,rfl⟩:=h
    obtain ⟨a1,a2,a3,a4⟩:=W7 r c n (j+1) _ y (Va ha j) (Ov r c l j) (by omega) hy
    have hm:=Vb (x:=En r c l j) (Qo ha)
    have hlen:=R8 h1
    refine ⟨a1,a2,by rw [List.length_cons,a3],⟨hm.1,hm.2.1,?_⟩,a4⟩
    show (Bw (En r c l j)).1.length+j=r
    rw [hlen]
    unfold En
    rw [Ol]
    omega
   ·rw [Axp h1] at h; cases h
theorem Aal (n:Nat):Af (Ob n)=true:=Gv fun i k=>by
 unfold Sk
 split
 ·exact Aks
 ·exact Jr
theorem Vo (n:Nat):∀ (ms:List (List Int × Int)) (j:Nat) (q:List Int),Af q=true→q.length=n*n→Af (I7 n j ms q)=true∧(I7 n j ms q).length=n*n
 | [],_,_,h1,h2=>⟨h1,h2⟩
 | m::ms,j,q,h1,h2=>by
   unfold I7
   exact ⟨Y8 (Vo n ms (j+1) q h1 h2).1 _ _ _ _,Mc _ _ _ _ _ _ _⟩
theorem Aps {r c:Nat} {l:List Int} (h:(Ht r c l).isSome=true):Af (Oa r c l)=true∧(Oa r c l).length=r*r:=by
 unfold Oa
 cases hd:Ht r c l with
 | none=>rw [hd] at h; cases h
 | some x=>exact Vo r x.2 0 _ (Aal r) (by unfold Ob; exact Br _ _ _)
theorem Apr {r c:Nat} {l:List Int} (ha:Af l=true) (hl:l.length=r*c) (h:(Ht r c l).isSome=true):Af (J9 r c l)=true∧(J9 r c l).length=r*c:=by
 unfold J9
 cases hd:Ht r c l with
 | none=>rw [hd] at h; cases h
 | some x =>
   have hn:Hk r c≤r:=by unfold Hk; omega
   have:=W7 r c (Hk r c) 0 l x ha hl (by omega) hd
   exact ⟨this.1,this.2.1⟩
end Go.Rnd
namespace Go.Proofs.S1
open Go Go.Den Go.Rnd Go.Proofs
set_option maxRecDepth 100000
namespace EqRoot
def root.F5.hint:Nat→Option A5
 | 0=>some { keep:=[0,4,5,6,14],objs:=[],boxes:=[] }
 | _=>none
def root.F5.A8:List (Nat × Entry):=[]
def root.F5.E:Env:=Ba (A7 root.F5.A8) (fun _=>false) root.F5.hint (fun _=>none)
section
variable (N M:Nat) (m p4 p5 p6 p14:Int)
def root.F5.L0:Option DV:=Cc root.F5.E N f265 (Ap f265) [1,1,0,1,0] [] M ⟨He 68 [(0,.int .u64 m),(4,.int .u64 p4),(5,.int .u64 p5),(6,.int .u64 p6),(14,.int .i64 p14)],[]⟩
theorem root.F5.Aw:root.F5.L0 N (M+1) m p4 p5 p6 p14=bif (A0 p14 64) then bif (A0 p14 32) then bif (decide (0≤(Ab ((62:Int)-(Ab ((2:Int)*p14)))))) then bif (decide ((Gd (Hn .u64 (Bp .u64 p6 2) (Fz .u64 (Db .u64 m (Ab ((62:Int)-(Ab ((2:Int)*p14))))) 3)) (Hn .u64 (Bp .u64 p4 2) 1) 0)≤1)) then bif ((Gd (Hn .u64 (Bp .u64 p5 2) (Db .u64 p6 62)) (Db .u64 p4 62) (Gd (Hn .u64 (Bp .u64 p6 2) (Fz .u64 (Db .u64 m (Ab ((62:Int)-(Ab ((2:Int)*p14))))) 3)) (Hn .u64 (Bp .u64 p4 2) 1) 0))==(0:Int)) then root.F5.L0 N M m (Hn .u64 (Bp .u64 p4 1) 1) (Lq (Hn .u64 (Bp .u64 p5 2) (Db .u64 p6 62)) (Db .u64 p4 62) (Gd (Hn .u64 (Bp .u64 p6 2) (Fz .u64 (Db .u64 m (Ab ((62:Int)-(Ab ((2:Int)*p14))))) 3)) (Hn .u64 (Bp .u64 p4 2) 1) 0)) (Lq (Hn .u64 (Bp .u64 p6 2) (Fz .u64 (Db .u64 m (Ab ((62:Int)-(Ab ((2:Int)*p14))))) 3)) (Hn .u64 (Bp .u64 p4 2) 1) 0) (Ab (p14+1)) else root.F5.L0 N M m (Bp .u64 p4 1) (Hn .u64 (Bp .u64 p5 2) (Db .u64 p6 62)) (Hn .u64 (Bp .u64 p6 2) (Fz .u64 (Db .u64 m (Ab ((62:Int)-(Ab ((2:Int)*p14))))) 3)) (Ab (p14+1)) else none else none else bif (decide ((Gd (Hn .u64 (Bp .u64 p6 2) 0) (Hn .u64 (Bp .u64 p4 2) 1) 0)≤1)) then bif ((Gd (Hn .u64 (Bp .u64 p5 2) (Db .u64 p6 62)) (Db .u64 p4 62) (Gd (Hn .u64 (Bp .u64 p6 2) 0) (Hn .u64 (Bp .u64 p4 2) 1) 0))==(0:Int)) then root.F5.L0 N M m (Hn .u64 (Bp .u64 p4 1) 1) (Lq (Hn .u64 (Bp .u64 p5 2) (Db .u64 p6 62)) (Db .u64 p4 62) (Gd (Hn .u64 (Bp .u64 p6 2) 0) (Hn .u64 (Bp .u64 p4 2) 1) 0)) (Lq (Hn .u64 (Bp .u64 p6 2) 0) (Hn .u64 (Bp .u64 p4 2) 1) 0) (Ab (p14+1)) else root.F5.L0 N M m (Bp .u64 p4 1) (Hn .u64 (Bp .u64 p5 2) (Db .u64 p6 62)) (Hn .u64 (Bp .u64 p6 2) 0) (Ab (p14+1)) else none else some (.tup [.int .u64 p4,.bool (bif (p5==(0:Int)) then (p6==(0:Int)) else false)]) :=
 Eq.trans (by kernel_rfl)
 (Ev rfl (An (N4 (p5==(0:Int))) (An (Na (p5==(0:Int))) (An (T6 (p5==(0:Int))) rfl))))
theorem root.F5.ev:B0 root.F5.E N f265 (Ap f265) [.int .u64 m] =
 root.F5.L0 N N m 0 0 0 0:=by kernel_rfl
end
abbrev _root_.Go.Proofs.S1.root.F5.Kn:=A4 prog 265 root.F5.spec
theorem root.F5.Ad (hk:Ay prog root.F5.A8) (h:Hyp root.F5.E f265 root.F5.ts root.F5.pre root.F5.out):root.F5.Kn :=
 Al (A1 hk _ _ _) func265 (by kernel_rfl) (by kernel_rfl) h
def root.Sqrt.hint:Nat→Option A5
 | 5=>some { keep:=[5,7,9],objs:=[],boxes:=[] }
 | _=>none
def root.Sqrt.A8:List (Nat × Entry):=[(250,B8.Bf.spec),(265,root.F5.spec),(155,soft.Kind.spec),(212,soft.Cu.spec),(211,soft.Ex.spec),(213,soft.Sign.spec)]
def root.Sqrt.E:Env:=Ba (A7 root.Sqrt.A8) (fun _=>false) root.Sqrt.hint (fun _=>none)
section
variable (N:Nat) (a:Int) (M:Nat) (p5 p7:Int) (p9:Bool)
def root.Sqrt.L0:Option DV:=Cc root.Sqrt.E N f264 (Ap f264) [1,1,1,1,1,1,1,1,1,0,0] [] M ⟨He 73 [(5,.int .i64 p5),(7,.int .u64 p7),(9,.bool p9)],[]⟩
theorem root.Sqrt.Aw:root.Sqrt.L0 N (M+1) p5 p7 p9=bif (Ej 4611686018427387904 p7) then root.Sqrt.L0 N M (Ab (p5+2)) (Db .u64 p7 1) (bif p9 then true else ((Fz .u64 p7 1)==(1:Int))) else bif (D1 p7 (Ab ((Ab (Int.tdiv p5 2))-32)) p9) then some (.tup [.int .u64 (Ee false p7 (Ab ((Ab (Int.tdiv p5 2))-32)) p9),.int .u8 (Ed false p7 (Ab ((Ab (Int.tdiv p5 2))-32)) p9)]) else none :=
 Eq.trans (by kernel_rfl)
 (Ev (An (S4 p9) (An (Oi p9) (An (Oi p9) (An (Zk p9) rfl)))) rfl)
theorem root.Sqrt.ev:B0 root.Sqrt.E N f264 (Ap f264) [.int .u64 a]=bif (Ah a) then bif ((Av a)==(4:Int)) then some (.tup [.int .u64 9221120237041090560,.int .u8 0]) else bif (Ah a) then bif ((Av a)==(0:Int)) then some (.tup [.int .u64 a,.int .u8 0]) else bif (a==(9218868437227405312:Int)) then some (.tup [.int .u64 a,.int .u8 0]) else bif (Ah a) then bif (Dm a) then some (.tup [.int .u64 9221120237041090560,.int .u8 16]) else bif (Ah a) then bif (Ah (Bc a)) then bif ((Int.tmod (Ab ((A3 a)-(Ab ((64-Ef (Bc a))-2)))) 2) !=(0:Int)) then bif (decide (0≤(Ab ((Ab ((64-Ef (Bc a))-2))-1)))) then bif (Cw (0≤(Bp .u64 (Bc a) (Ab ((Ab ((64-Ef (Bc a))-2))-1)))∧(Bp .u64 (Bc a) (Ab ((Ab ((64-Ef (Bc a))-2))-1)))<9223372036854775808)) then root.Sqrt.L0 N N (Ab ((A3 a)-(Ab ((Ab ((64-Ef (Bc a))-2))-1)))) (R9 (Bp .u64 (Bc a) (Ab ((Ab ((64-Ef (Bc a))-2))-1)))) (!(Sa (Bp .u64 (Bc a) (Ab ((Ab ((64-Ef (Bc a))-2))-1))))) else none else none else bif (decide (0≤(Ab ((64-Ef (Bc a))-2)))) then bif (Cw (0≤(Bp .u64 (Bc a) (Ab ((64-Ef (Bc a))-2)))∧(Bp .u64 (Bc a) (Ab ((64-Ef (Bc a))-2)))<9223372036854775808)) then root.Sqrt.L0 N N (Ab ((A3 a)-(Ab ((64-Ef (Bc a))-2)))) (R9 (Bp .u64 (Bc a) (Ab ((64-Ef (Bc a))-2)))) (!(Sa (Bp .u64 (Bc a) (Ab ((64-Ef (Bc a))-2))))) else none else none else none else none else none else none else none:=by kernel_rfl
end
abbrev _root_.Go.Proofs.S1.root.Sqrt.Kn:=A4 prog 264 root.Sqrt.spec
theorem root.Sqrt.Ad (hk:Ay prog root.Sqrt.A8) (h:Hyp root.Sqrt.E f264 root.Sqrt.ts root.Sqrt.pre root.Sqrt.out):root.Sqrt.Kn :=
 Al (A1 hk _ _ _) func264 (by kernel_rfl) (by kernel_rfl) h
def Ac.Sqrt.A8:List (Nat × Entry):=[(264,root.Sqrt.spec)]
def Ac.Sqrt.E:Env:=Ba (A7 Ac.Sqrt.A8) (fun _=>false) (fun _=>none) (fun _=>none)
theorem Ac.Sqrt.ev (N:Nat) (a:Int):B0 Ac.Sqrt.E N f262 (Ap f262) [.int .u64 a]=bif (Ah a) then some (.int .u64 (G5 a)) else none:=by kernel_rfl
abbrev _root_.Go.Proofs.S1.Ac.Sqrt.Kn:=A4 prog 262 Ac.Sqrt.spec
theorem Ac.Sqrt.Ad (hk:Ay prog Ac.Sqrt.A8) (h:Hyp Ac.Sqrt.E f262 Ac.Sqrt.ts Ac.Sqrt.pre Ac.Sqrt.out):Ac.Sqrt.Kn :=
 Al (A1 hk _ _ _) func262 (by kernel_rfl) (by kernel_rfl) h
def compare.I9.A8:List (Nat × Entry):=[(261,B8.Iz.spec),(148,soft.Finite.spec),(155,soft.Kind.spec),(211,soft.Ex.spec)]
def compare.I9.E:Env:=Ba (A7 compare.I9.A8) (fun _=>false) (fun _=>none) (fun _=>none)
theorem compare.I9.ev (N:Nat) (a:Int):B0 compare.I9.E N f255 (Ap f255) [.int .u64 a]=bif (Ah a) then bif ((!(Cq a))||(Ah a)) then bif ((!(Cq a))||((Av a)==(0:Int))) then some (.int .i64 0) else bif (Ah a) then bif (Ah (Bc a)) then some (.int .i64 (Ab ((Ab ((Ef (Bc a))-1))+(A3 a)))) else none else none else none else none :=
 Eq.trans (by kernel_rfl)
 (Ev (An (Adq (Cq a)) (Dw (An1 (Cq a) (Ah a)) (An (Uv (Cq a)) (An (Adr (Cq a)) (Dw (Arq (Cq a) ((Av a)==(0:Int))) rfl rfl))) rfl)) rfl)
abbrev _root_.Go.Proofs.S1.compare.I9.Kn:=A4 prog 255 compare.I9.spec
theorem compare.I9.Ad (hk:Ay prog compare.I9.A8) (h:Hyp compare.I9.E f255 compare.I9.ts compare.I9.pre compare.I9.out):compare.I9.Kn :=
 Al (A1 hk _ _ _) func255 (by kernel_rfl) (by kernel_rfl) h
def Ac.Norm.hint:Nat→Option A5
 | 0=>some { keep:=[5,6,25,26,27],objs:=[],boxes:=[] }
 | _=>none
def Ac.Norm.A8:List (Nat × Entry):=[(255,compare.I9.spec),(148,soft.Finite.spec),(226,Ac.Add.spec),(89,Ac.Cf.spec),(157,Ac.Mul.spec),(88,Ac.E2.spec),(262,Ac.Sqrt.spec)]
def Ac.Norm.E:Env:=Ba (A7 Ac.Norm.A8) (fun _=>false) Ac.Norm.hint (fun _=>none)
section
variable (N M:Nat) (x:List Int) (p6 p27:Int)
def Ac.Norm.L0:Option DV:=Cc Ac.Norm.E N f257 (Ap f257) [1,1,1,1,1,1,0,1,0] [] M ⟨He 45 [(5,.int .i64 (Bi (A6 x))),(6,.int .u64 p6),(25,.ints .arg .u64 x),(26,.int .i64 (length x:Int)),(27,.int .i64 p27)],[]⟩
theorem Ac.Norm.Aw:Ac.Norm.L0 N (M+1) x p6 p27=bif (A0 p27 (length x:Int)) then bif ((decide (0≤p27))&&(decide (p27<(length x:Int)))) then bif (E6 (getD x (toNat p27) 0) (Ab (0-(Bi (A6 x))))) then bif (Ah (B4 (getD x (toNat p27) 0) (Ab (0-(Bi (A6 x)))))&&Ah (B4 (getD x (toNat p27) 0) (Ab (0-(Bi (A6 x)))))) then bif (Ah p6&&Ah (Eh (B4 (getD x (toNat p27) 0) (Ab (0-(Bi (A6 x))))) (B4 (getD x (toNat p27) 0) (Ab (0-(Bi (A6 x))))))) then Ac.Norm.L0 N M x (I8 p6 (Eh (B4 (getD x (toNat p27) 0) (Ab (0-(Bi (A6 x))))) (B4 (getD x (toNat p27) 0) (Ab (0-(Bi (A6 x))))))) (Ab (p27+1)) else none else none else none else none else bif (Ah p6) then bif (E6 (G5 p6) (Bi (A6 x))) then some (.tup [.int .u64 (B4 (G5 p6) (Bi (A6 x))),.int .i64 0]) else none else none:=by kernel_rfl
theorem Ac.Norm.ev:B0 Ac.Norm.E N f257 (Ap f257) [.ints .arg .u64 x]=bif (A0 64 (length x:Int)) then some (.tup [.int .u64 0,.int .i64 3]) else bif (Dh x) then bif (((A6 x)==(0:Int))||(Ah (A6 x))) then bif (((A6 x)==(0:Int))||(!(Cq (A6 x)))) then some (.tup [.int .u64 (A6 x),.int .i64 0]) else bif (Ah (A6 x)) then Ac.Norm.L0 N N x 0 (0:Int) else none else none else none :=
 Eq.trans (by kernel_rfl)
 (Ev rfl (Ev (An (S4 ((A6 x)==(0:Int))) (Dw (Atn ((A6 x)==(0:Int)) (Ah (A6 x))) (An (Oi ((A6 x)==(0:Int))) (An (Zk ((A6 x)==(0:Int))) (Dw (Avz ((A6 x)==(0:Int)) (Cq (A6 x))) rfl rfl))) rfl)) rfl))
end
abbrev _root_.Go.Proofs.S1.Ac.Norm.Kn:=A4 prog 257 Ac.Norm.spec
theorem Ac.Norm.Ad (hk:Ay prog Ac.Norm.A8) (h:Hyp Ac.Norm.E f257 Ac.Norm.ts Ac.Norm.pre Ac.Norm.out):Ac.Norm.Kn :=
 Al (A1 hk _ _ _) func257 (by kernel_rfl) (by kernel_rfl) h
end EqRoot
open EqRoot
theorem Sr (n s:Nat) (h:s≤64):Db .u64 (n:Int) (s:Int)=((n / 2^s:Nat):Int):=Gz .u64 n s h
theorem sh2 {n t:Nat} (ht:t<4):Hn .u64 (Bp .u64 (n:Int) (2:Int)) (t:Int)=((n%2^62*4+t:Nat):Int):=by
 rw [show (2:Int)=((2:Nat):Int) from rfl,E8 n 2 (by decide),show n*2^2%2^64=(n%2^62)*2^2 by omega]
 exact Lh ht (by omega)
theorem sh1 {n:Nat} (h:n<2^63):Bp .u64 (n:Int) (1:Int)=((2*n:Nat):Int):=by
 rw [show (1:Int)=((1:Nat):Int) from rfl,E8 n 1 (by decide)]
 congr 1; omega
theorem Awh {n:Nat} (h:n<2^63):Hn .u64 (Bp .u64 (n:Int) (1:Int)) (1:Int)=((2*n+1:Nat):Int):=by
 rw [show (1:Int)=((1:Nat):Int) from rfl,E8 n 1 (by decide),show n*2^1%2^64=n*2^1 by omega,Axr 2 n]
 exact Lh (k:=1) (by decide) (by omega)
theorem Ajv {m i:Nat} (hi:i<32):Fz .u64 (Db .u64 (m:Int) (Ab ((62:Int)-(Ab ((2:Int)*(i:Int)))))) (3:Int)=((m / 2^(62-2*i)%2^64%4:Nat):Int)∨2^64≤m:=by
 by_cases hm:m<2^64
 ·left
  rw [Ao (x:=(2:Int)*(i:Int)) (by omega) (by omega),Ao (x:=(62:Int)-2*(i:Int)) (by omega) (by omega),show (62:Int)-2*(i:Int)=((62-2*i:Nat):Int) by omega,Sr _ _ (by omega)]
  have hd:m / 2^(62-2*i)<2^64:=Ax5 (Nat.div_le_self _ _) hm
  rw [show (3:Int)=((2^2-1:Nat):Int) from rfl,Hh 2 hd (by decide)]
  congr 1
  omega
 ·right; omega
def P6 (m i:Nat):Nat:=m*2^64 / 2^(128-2*i)
theorem Akp {m i:Nat} (hi:i<32):P6 m (i+1)=4*P6 m i+m / 2^(62-2*i)%4:=by
 unfold P6
 have e1:128-2*i=64+(64-2*i):=by omega
 have e2:128-2*(i+1)=64+(62-2*i):=by omega
 rw [e1,e2,Axs,Axs,Axr (2^64),Axr (2^64),Nat.mul_div_mul_right _ _ (by decide),Nat.mul_div_mul_right _ _ (by decide),show 64-2*i=(62-2*i)+2 by omega,Axs,← Axw]
 omega
theorem Ahw {m i:Nat} (hi:32≤i) (h:i<64):P6 m (i+1)=4*P6 m i:=by
 unfold P6
 have e1:(2:Nat)^64=2^(2*i-64)*2^(128-2*i):=by rw [← Axs]; congr 1; omega
 have e2:(2:Nat)^64=2^(2*i-64)*4*2^(128-2*(i+1)):=by
  rw [show (4:Nat)=2^2 from rfl,← Axs,← Axs]; congr 1; omega
 have a1:m*2^64 / 2^(128-2*i)=m*2^(2*i-64):=by rw [e1,← Axu,Nat.mul_div_cancel _ (B1 _)]
 have a2:m*2^64 / 2^(128-2*(i+1))=m*(2^(2*i-64)*4):=by rw [e2,← Axu,Nat.mul_div_cancel _ (B1 _)]
 rw [a1,a2,← Axu,Axr 4]
theorem An6 {A B tl th:Nat} (hA:A<2^64) (htl:tl<2^64) (hB:B<2^64) (hth:th<4) :
 (Gd (A:Int) (tl:Int) (0:Int)=0∨Gd (A:Int) (tl:Int) (0:Int)=1) ∧
 (th*2^64+tl≤B*2^64+A→(Gd (B:Int) (th:Int) (Gd (A:Int) (tl:Int) (0:Int))==(0:Int))=true ∧
  ∃ h l:Nat,Lq (B:Int) (th:Int) (Gd (A:Int) (tl:Int) (0:Int))=(h:Int)∧Lq (A:Int) (tl:Int) (0:Int)=(l:Int)∧l<2^64∧h*2^64+l=B*2^64+A-(th*2^64+tl)) ∧
 (B*2^64+A<th*2^64+tl→(Gd (B:Int) (th:Int) (Gd (A:Int) (tl:Int) (0:Int))==(0:Int))=false):=by
 have e1:Gd (A:Int) (tl:Int) (0:Int)=((if A<tl then 1 else 0:Nat):Int):=by
  unfold Gd
  rw [Aw5,Aw5]
  rfl
 by_cases h:A<tl
 ·rw [Axq h] at e1
  rw [e1]
  have e2:Gd (B:Int) (th:Int) ((1:Nat):Int)=((if B<th+1 then 1 else 0:Nat):Int):=by
   unfold Gd
   rw [Aw5,Aw5]
   rfl
  refine ⟨.inr rfl,fun hle=>?_,fun hlt=>?_⟩
  ·rw [Axp (by omega)] at e2
   rw [e2]
   refine ⟨rfl,B-th-1,A+2^64-tl,?_,?_,by omega,by omega⟩
   ·unfold Lq
    rw [Aw5,Aw5,Aw5]
    congr 1; omega
   ·unfold Lq
    rw [Aw5,Aw5]
    show ((_:Nat):Int)=_
    congr 1
    show (A+18446744073709551616-tl-0)%18446744073709551616=_
    omega
  ·rw [Axq (by omega)] at e2
   rw [e2]; rfl
 ·rw [Axp h] at e1
  rw [e1]
  have e2:Gd (B:Int) (th:Int) ((0:Nat):Int)=((if B<th then 1 else 0:Nat):Int):=by
   unfold Gd
   rw [Aw5,Aw5]
   rfl
  refine ⟨.inl rfl,fun hle=>?_,fun hlt=>?_⟩
  ·rw [Axp (by omega)] at e2
   rw [e2]
   refine ⟨rfl,B-th,A-tl,?_,?_,by omega,by omega⟩
   ·unfold Lq
    rw [Aw5,Aw5,Aw5]
    congr 1; omega
   ·unfold Lq
    rw [Aw5,Aw5]
    show ((_:Nat):Int)=_
    congr 1
    show (A+18446744073709551616-tl-0)%18446744073709551616=_
    omega
  ·rw [Axq (by omega)] at e2
   rw [e2]; rfl
theorem glue (n t:Nat):n / 2^62*2^64+(n%2^62*4+t)=4*n+t:=by omega
theorem Aih (N:Nat) {m:Nat} (hm:m<2^63):∀ (k i F rt rest:Nat),i+k=64→k<F→P6 m i=rt*rt+rest→rest≤2*rt→rt<2^i→∀ hi lo:Nat,hi*2^64+lo=rest→lo<2^64 →
 root.F5.L0 N F (m:Int) (rt:Int) (hi:Int) (lo:Int) (i:Int)=some (.tup [.int .u64 (R9 m),.bool (Sa m)]):=by
 intro k
 induction k with
 | zero =>
   intro i F rt rest hi hF hP hr hb h l e hl
   obtain ⟨F,rfl⟩:∃ G,F=G+1:=⟨F-1,by omega⟩
   obtain rfl:i=64:=by omega
   have hP':m*2^64=rt*rt+rest:=by
    rw [← hP]; unfold P6
    rw [show 128-2*64=0 from rfl,Ax1,Nat.div_one]
   have hroot:=Aog hP' hr
   rw [root.F5.Aw,Au,Aw8 (by omega),Aw7]
   have e1:R9 (m:Int)=(rt:Int):=by unfold R9; rw [Aw5,← hroot]
   have e2:Sa (m:Int)=(bif ((h:Int)==(0:Int)) then ((l:Int)==(0:Int)) else false):=by
    unfold Sa
    rw [Aw5,← hroot,hP']
    by_cases h0:h=0
    ·subst h0
     rw [show (((0:Nat):Int)==(0:Int))=true from rfl,Aw3,Axj,Axa,beq_iff_eq]
     omega
    ·rw [show ((h:Int)==(0:Int))=false by rw [Axy]; omega,Aw7,Aw8]
     omega
   rw [e1,e2]
 | succ k ih =>
   intro i F rt rest hi hF hP hr hb h l e hl
   obtain ⟨F,rfl⟩:∃ G,F=G+1:=⟨F-1,by omega⟩
   have hp:2^i≤2^63:=Axi (by decide) (by omega)
   have hi63:2^(i+1)=2*2^i:=by rw [Nat.pow_succ,Axr]
   have f1:2*rt+1<2^(i+1):=by rw [hi63]; omega
   have f2:2*rt<2^(i+1):=by omega
   have hh:h=0:=by omega
   subst hh
   have hrest:rest=l:=by omega
   subst hrest
   obtain ⟨two,t4,hP',hcode⟩:∃ two:Nat,two<4∧P6 m (i+1)=4*P6 m i+two ∧
    root.F5.L0 N (F+1) (m:Int) (rt:Int) ((0:Nat):Int) (rest:Int) (i:Int) =
    (bif (decide ((Gd (Hn .u64 (Bp .u64 (rest:Int) (2:Int)) (two:Int)) (Hn .u64 (Bp .u64 (rt:Int) (2:Int)) (1:Int)) (0:Int))≤1)) then
     bif ((Gd (Hn .u64 (Bp .u64 ((0:Nat):Int) (2:Int)) (Db .u64 (rest:Int) (62:Int))) (Db .u64 (rt:Int) (62:Int)) (Gd (Hn .u64 (Bp .u64 (rest:Int) (2:Int)) (two:Int)) (Hn .u64 (Bp .u64 (rt:Int) (2:Int)) (1:Int)) (0:Int)))==(0:Int)) then
      root.F5.L0 N F (m:Int) (Hn .u64 (Bp .u64 (rt:Int) (1:Int)) (1:Int)) (Lq (Hn .u64 (Bp .u64 ((0:Nat):Int) (2:Int)) (Db .u64 (rest:Int) (62:Int))) (Db .u64 (rt:Int) (62:Int)) (Gd (Hn .u64 (Bp .u64 (rest:Int) (2:Int)) (two:Int)) (Hn .u64 (Bp .u64 (rt:Int) (2:Int)) (1:Int)) (0:Int))) (Lq (Hn .u64 (Bp .u64 (rest:Int) (2:Int)) (two:Int)) (Hn .u64 (Bp .u64 (rt:Int) (2:Int)) (1:Int)) (0:Int)) (Ab ((i:Int)+(1:Int)))
     else root.F5.L0 N F (m:Int) (Bp .u64 (rt:Int) (1:Int)) (Hn .u64 (Bp .u64 ((0:Nat):Int) (2:Int)) (Db .u64 (rest:Int) (62:Int))) (Hn .u64 (Bp .u64 (rest:Int) (2:Int)) (two:Int)) (Ab ((i:Int)+(1:Int)))
    else none):=by
    by_cases h32:i<32
    ·refine ⟨m / 2^(62-2*i)%4,Nat.mod_lt _ (by decide),Akp h32,?_⟩
     have ht:=(Ajv (m:=m) h32).resolve_right (by omega)
     have hq:m / 2^(62-2*i)%2^64%4=m / 2^(62-2*i)%4:=by omega
     rw [hq] at ht
     rw [root.F5.Aw,Au,Aw4 (show (i:Int)<64 by omega),Aw3,Au,Aw4 (show (i:Int)<32 by omega),Aw3,ht,Ao (x:=(2:Int)*(i:Int)) (by omega) (by omega),Ao (x:=(62:Int)-2*(i:Int)) (by omega) (by omega),Aw4 (show (0:Int)≤62-2*(i:Int) by omega),Aw3]
    ·refine ⟨0,by decide,by rw [Ahw (by omega) (by omega),Ayb],?_⟩
     rw [root.F5.Aw,Au,Aw4 (show (i:Int)<64 by omega),Aw3,Au,Aw8 (show ¬ (i:Int)<32 by omega),Aw7]
     rfl
   obtain ⟨s1,s2⟩:=Ae6 hP hr t4
   have eA:=sh2 (n:=rest) t4
   have eT:=sh2 (n:=rt) (t:=1) (by decide)
   have eB:Hn .u64 (Bp .u64 ((0:Nat):Int) (2:Int)) (Db .u64 (rest:Int) (62:Int))=((rest / 2^62:Nat):Int):=by
    rw [show (62:Int)=((62:Nat):Int) from rfl,Sr _ _ (by decide),sh2 (n:=0) (t:=rest / 2^62) (by omega)]
    congr 1; omega
   have eH:Db .u64 (rt:Int) (62:Int)=((rt / 2^62:Nat):Int):=by rw [show (62:Int)=((62:Nat):Int) from rfl,Sr _ _ (by decide)]
   have eT':Hn .u64 (Bp .u64 (rt:Int) (2:Int)) (1:Int)=((rt%2^62*4+1:Nat):Int):=eT
   obtain ⟨b1,b2,b3⟩:=An6 (A:=rest%2^62*4+two) (B:=rest / 2^62) (tl:=rt%2^62*4+1) (th:=rt / 2^62) (by omega) (by omega) (by omega) (by omega)
   rw [hcode,eA,eT',eB,eH,Aw4 (by rcases b1 with b | b<;>rw [b]<;>decide),Aw3,Ao (by omega) (by omega)]
   by_cases hc:4*rt+1≤4*rest+two
   ·obtain ⟨c1,hh,ll,c2,c3,c4,c5⟩:=b2 (by rw [glue,glue]; exact hc)
    obtain ⟨d1,d2⟩:=s1 hc
    rw [c1,Aw3,c2,c3,Awh (by omega)]
    refine ih (i+1) F (2*rt+1) (4*rest+two-(4*rt+1)) (by omega) (by omega) (hP'.trans d1) d2 f1 hh ll ?_ c4
    rw [c5,glue,glue]
   ·rw [b3 (by rw [glue,glue]; omega),Aw7,sh1 (by omega)]
    obtain ⟨d1,d2⟩:=s2 (by omega)
    refine ih (i+1) F (2*rt) (4*rest+two) (by omega) (by omega) (hP'.trans d1) d2 f2 _ _ (glue _ _) ?_
    clear hcode
    omega
theorem root.F5.known:root.F5.Kn:=root.F5.Ad .nil fun m hp=>by
 have hp:=At.1 hp
 obtain ⟨n,rfl⟩:∃ n:Nat,m=n:=⟨m.toNat,by omega⟩
 refine ⟨65,root.F5.out [.i n],[],?_,Wk.G3 (.cons .int (.cons .bool .nil))⟩
 rw [root.F5.ev]
 have h0:P6 n 0=0*0+0:=by
  unfold P6
  rw [Nat.div_eq_of_lt]
  show n*18446744073709551616<340282366920938463463374607431768211456
  omega
 exact Aih 65 (by omega) 64 0 65 0 0 rfl (by omega) h0 (Axx 0) Nat.one_pos 0 0 rfl (Nat.pow_pos (by decide))
open EqRoot
theorem Wr {b:Nat} (h:Am b≠0):Ef (Am b:Int)=((Am b).log2:Int)+1:=by
 unfold Ef
 rw [Axp (by omega),Aw5]
theorem Ahd {w:Nat} {E:Int} {s:Bool} (hw:2^62≤w) (n:Nat) (h:O3 n=w) (hs:s=decide (w*w≠n)) :
 F4 false (w / 2) (E+2) (bif s then true else decide (w%2=1))=(Bu (Fc n) E,flagsOf (Fc n) E):=by
 have e1:Fc n / 2^2=w / 2:=by unfold Fc; rw [h]; split<;>omega
 have e2:(bif s then true else decide (w%2=1))=decide (Fc n%2^2≠0):=by
  rw [hs]
  unfold Fc
  rw [h]
  by_cases h0:w*w=n
  ·rw [Aw8 (by omega),Aw7,Axq h0,decide_eq_decide]; omega
  ·rw [Aw4 h0,Aw3,Axp h0]; symm; exact Aw4 (by omega)
 rw [← e1]
 have:=R7 false (V:=Fc n) (k:=2) (E:=E) (e:=E+2) rfl e2 (by rw [e1]; omega) (by left; rw [e1]; omega)
 rw [Hq] at this
 exact this
theorem root.Sqrt.num {b:Nat} (hb:b<2^64) (h4:Ag b≠4) (h:¬ (Ag b=0∨b=Eg)) (hn:B5 b=false) {z:Nat} (hz:2^60≤Am b*2^z) (hz2:Am b*2^z<2^62) (he:(As b-(z:Int))%2=0) (z60:z≤62) :
 root.Sqrt.L0 2 2 (As b-(z:Int)) (R9 ((Am b*2^z:Nat):Int)) (!(Sa ((Am b*2^z:Nat):Int)))=some (.tup [.int .u64 (G5 (b:Int)),.int .u8 (Ok (b:Int))]):=by
 have hE:=Ce b
 have hM:=Ft b
 have h3:Ag b≠3:=fun h3=>by
  refine h (.inr ?_)
  have hpn:B5 b=false:=hn
  unfold B5 at hpn
  have hlt:b<2^63:=by simpa using hpn
  unfold Ag at h3
  have hp:=Ir b
  unfold Df at h3
  unfold Co at h3
  unfold Eg
  split at h3
  ·split at h3
   ·omega
   ·omega
  ·split at h3
   ·omega
   ·split at h3<;>omega
 have hm:Am b≠0:=fun h0=>h (.inl ((Dp h3 h4).1 h0))
 have eN:Am b*2^z*2^64=Am b*2^(z+64):=by rw [Axu,← Axs]
 have i1:2^62≤O3 (Am b*2^z*2^64):=Vh (t:=62) (by omega)
 have i2:=(Mw (Am b*2^z*2^64)).1
 have i3:O3 (Am b*2^z*2^64)<2^63:=by
  refine Abl (Ax5 i2 ?_)
  show _<9223372036854775808*9223372036854775808
  omega
 have r1:R9 ((Am b*2^z:Nat):Int)=(O3 (Am b*2^z*2^64):Int):=by unfold R9; rw [Aw5]
 have r2:(!(Sa ((Am b*2^z:Nat):Int)))=decide (O3 (Am b*2^z*2^64)*O3 (Am b*2^z*2^64)≠Am b*2^z*2^64):=by
  unfold Sa; rw [Aw5,← decide_not]
 obtain ⟨k1,k2⟩:=V7 hm
 have same:=Ahr (m:=Am b) (k:=z+64) (l:=Gf b) (E:=(As b-(z:Int)) / 2-33) (F:=(As b-(Gf b:Int)) / 2-1) (by rw [← eN]; omega) k1 (by omega)
 rw [← eN] at same
 have near:=Ahd (E:=(As b-(z:Int)) / 2-33) i1 _ rfl r2
 rw [same.1,same.2] at near
 have sq:Io b=_:=Vy h4 h hn
 rw [r1,r2]
 rw [r2] at near
 generalize O3 (Am b*2^z*2^64)=w at *
 have w1:Ej (4611686018427387904:Int) (w:Int)=true:=by rw [Gu]; exact Aw4 (by omega)
 have w2:Db .u64 (w:Int) (1:Int)=((w / 2:Nat):Int):=by rw [show (1:Int)=((1:Nat):Int) from rfl,Sr _ _ (by decide)]
 have w3:((Fz .u64 (w:Int) (1:Int))==(1:Int))=decide (w%2=1):=by
  rw [show Fz .u64 (w:Int) (1:Int)=((w%2^1:Nat):Int) from Hh 1 (by omega) (by decide),Axj,beq_iff_eq,Axa]
  omega
 have w4:Ej (4611686018427387904:Int) ((w / 2:Nat):Int)=false:=by rw [Gu]; exact Aw8 (by omega)
 have w5:Ab (Ab (Int.tdiv (As b-(z:Int)+2) 2)-32)=(As b-(z:Int)) / 2-33+2:=by
  have:Int.tdiv (As b-(z:Int)+2) 2=(As b-(z:Int)) / 2+1:=by
   rw [Int.tdiv_eq_ediv]
   split<;>omega
  rw [this,Ao (x:=(As b-(z:Int)) / 2+1) (by omega) (by omega),Ao (by omega) (by omega)]
  omega
 have w6:Ab (As b-(z:Int)+2)=As b-(z:Int)+2:=Ao (by omega) (by omega)
 generalize hs:decide (w*w≠Am b*2^z*2^64)=s at *
 have pre:D1 ((w / 2:Nat):Int) ((As b-(z:Int)) / 2-33+2) (bif s then true else decide (w%2=1))=true:=At.2 ⟨by omega,by omega,by omega,by omega,fun _=>.inl (by omega)⟩
 rw [show (2:Nat)=1+1 from rfl,root.Sqrt.Aw,w1,Aw3,w2,w3,w6,show (1:Nat)=0+1 from rfl,root.Sqrt.Aw,w4,Aw7,w5,pre,Aw3]
 unfold Ee Ed G5 Ok
 rw [Aw5,Aw5,near,sq]
theorem root.Sqrt.known:root.Sqrt.Kn:=root.Sqrt.Ad (.cons B8.Bf.known (.cons root.F5.known (.cons soft.Kind.known (.cons soft.Cu.known (.cons soft.Ex.known (.cons soft.Sign.known .nil)))))) fun a hp=>by
 obtain ⟨b,rfl,hb⟩:=Bt (x:=a) hp
 refine ⟨2,root.Sqrt.out [.i b],[],?_,Wk.G3 (.cons .int (.cons .int .nil))⟩
 show _=some (DV.tup [.int .u64 (G5 (b:Int)),.int .u8 (Ok (b:Int))])
 have hk:Av (b:Int)=(Ag b:Int):=rfl
 rw [root.Sqrt.ev,B3 hb,Aw3,Aw3,Aw3,Aw3,hk]
 by_cases h4:Ag b=4
 ·rw [h4,show (((4:Nat):Int)==(4:Int))=true from rfl,Aw3]
  unfold G5 Ok
  rw [Aw5,Vz h4]; rfl
 have k4:(((Ag b:Nat):Int)==(4:Int))=false:=by rw [Axy]; omega
 rw [k4,Aw7]
 by_cases h0:Ag b=0
 ·rw [h0,show (((0:Nat):Int)==(0:Int))=true from rfl,Aw3]
  unfold G5 Ok
  rw [Aw5,Mj h4 (.inl h0)]; rfl
 have k0:(((Ag b:Nat):Int)==(0:Int))=false:=by rw [Axy]; omega
 rw [k0,Aw7]
 by_cases hi:b=Eg
 ·rw [show (((b:Nat):Int)==(9218868437227405312:Int))=true by rw [hi]; rfl,Aw3]
  unfold G5 Ok
  rw [Aw5,Mj h4 (.inr hi)]; rfl
 have ki:(((b:Nat):Int)==(9218868437227405312:Int))=false:=by
  rw [Axy]; intro hh; refine hi (show b=9218868437227405312 from ?_); omega
 rw [ki,Aw7]
 have hh:¬ (Ag b=0∨b=Eg):=by rintro (h | h); exact h0 h; exact hi h
 have hneg:Dm (b:Int)=B5 b:=rfl
 rw [hneg]
 cases hn:B5 b with
 | true =>
   rw [Aw3]
   unfold G5 Ok
   rw [Aw5,Abk h4 hh hn]; rfl
 | false =>
   rw [Aw7]
   have hm:Am b≠0:=fun hz=>by
    have h3:Ag b≠3:=fun h3=>by
     rcases H3 b with ⟨p,_,_⟩ | ⟨_,_,q⟩ | ⟨_,q,_⟩
     ·unfold Am at hz
      rw [Axp (by omega)] at hz
      omega
     ·omega
     ·exact q h3
    exact hh (.inl ((Dp h3 h4).1 hz))
   have hM:=Ft b
   have hE:=Ce b
   have hl:(Am b).log2≤52:=by have:=(Ayj hm).2 (show Am b<2^53 by omega); omega
   have e1:Bc (b:Int)=(Am b:Int):=rfl
   have e2:A3 (b:Int)=As b:=rfl
   have l1:∀ z:Nat,(Am b).log2+z=60∨(Am b).log2+z=61→2^60≤Am b*2^z∧Am b*2^z<2^62:=by
    intro z hz
    have hlz:=Oz (Am b) z hm
    have hne:Am b*2^z≠0:=Lb hm
    constructor
    ·rw [← Nat.le_log2 hne]; omega
    ·rw [← Ayj hne]; omega
   have ez:Ab ((64-(((Am b).log2:Int)+1))-(2:Int))=((61-(Am b).log2:Nat):Int):=by rw [Ao (by omega) (by omega)]; omega
   have ez':Ab (((61-(Am b).log2:Nat):Int)-(1:Int))=((60-(Am b).log2:Nat):Int):=by rw [Ao (by omega) (by omega)]; omega
   rw [e1,e2,B3 (n:=Am b) (by omega),Aw3,Wr hm,ez,ez',Ao (x:=As b-((61-(Am b).log2:Nat):Int)) (by omega) (by omega),Ao (x:=As b-((60-(Am b).log2:Nat):Int)) (by omega) (by omega)]
   by_cases hp2:(As b-((61-(Am b).log2:Nat):Int))%2=0
   ·have t0:(Int.tmod (As b-((61-(Am b).log2:Nat):Int)) (2:Int) !=(0:Int))=false:=by
     rw [bne_eq_false_iff_eq]; exact Int.tmod_eq_zero_of_dvd (Int.dvd_of_emod_eq_zero hp2)
    obtain ⟨m1,m2⟩:=l1 (61-(Am b).log2) (by omega)
    rw [t0,Aw7,Aw4 (by omega),Aw3,E8 _ _ (by omega),Axg (by omega),At.2 (by omega),Aw3]
    exact root.Sqrt.num hb h4 hh hn m1 m2 hp2 (by omega)
   ·have t0:(Int.tmod (As b-((61-(Am b).log2:Nat):Int)) (2:Int) !=(0:Int))=true:=by
     rw [bne_iff_ne]; intro hz; exact hp2 (Int.emod_eq_zero_of_dvd (Int.dvd_of_tmod_eq_zero hz))
    obtain ⟨m1,m2⟩:=l1 (60-(Am b).log2) (by omega)
    rw [t0,Aw3,Aw4 (by omega),Aw3,E8 _ _ (by omega),Axg (by omega),At.2 (by omega),Aw3]
    exact root.Sqrt.num hb h4 hh hn m1 m2 (by omega) (by omega)
theorem Ac.Sqrt.known:Ac.Sqrt.Kn:=Ac.Sqrt.Ad (.cons root.Sqrt.known .nil) fun a hp=>by
 have hp:Ah a=true:=hp
 refine ⟨0,Ac.Sqrt.out [.i a],[],?_,.int⟩
 rw [Ac.Sqrt.ev,hp]; rfl
theorem compare.I9.known:compare.I9.Kn:=compare.I9.Ad (.cons B8.Iz.known (.cons soft.Finite.known (.cons soft.Kind.known (.cons soft.Ex.known .nil)))) fun a hp=>by
 obtain ⟨b,rfl,hb⟩:=Bt (x:=a) hp
 refine ⟨0,compare.I9.out [.i b],[],?_,.int⟩
 show _=some (DV.int .i64 (Bi (b:Int)))
 have hk:Av (b:Int)=(Ag b:Int):=rfl
 have hf:Cq (b:Int)=Gg b:=rfl
 have hE:=Ce b
 have hM:=Ft b
 rw [compare.I9.ev,B3 hb,Aw3,Ayf,Aw3,hk,hf]
 unfold Bi
 rw [Aw5]
 unfold H4
 cases hfin:Gg b with
 | false=>rfl
 | true =>
   by_cases h0:Ag b=0
   ·rw [h0]; rfl
   ·have k0:(((Ag b:Nat):Int)==(0:Int))=false:=by rw [Axy]; omega
    have hm:Am b≠0:=fun hz=>by
     obtain ⟨f4,f3⟩:=Fv hfin
     exact h0 ((Dp f3 f4).1 hz)
    have hl:(Am b).log2≤52:=by have:=(Ayj hm).2 (show Am b<2^53 by omega); omega
    have e1:Bc (b:Int)=(Am b:Int):=rfl
    have e2:A3 (b:Int)=As b:=rfl
    rw [k0,Axq ⟨rfl,h0⟩,Ax2,Bool.false_or,Aw7,Aw3,e1,e2,B3 (n:=Am b) (by omega),Aw3,Wr hm,Ao (x:=((Am b).log2:Int)+1-1) (by omega) (by omega),Ao (by omega) (by omega)]
    congr 2; omega
theorem Aj7 {x:List Int} {i:Nat} (h:i<x.length) (k s:Int):S9 k s (x.drop i)=S9 k (I8 s (Eh (B4 (x.getD i 0) k) (B4 (x.getD i 0) k))) (x.drop (i+1)):=by
 rw [Ih h,S9]
theorem Ah1 (N:Nat) {x:List Int} (hx:Dh x=true) (hl:x.length≤1000):∀ (k i F:Nat) (s:Int),i+k=x.length→k<F→Ah s=true →
 Ac.Norm.L0 N F x s (i:Int)=some (.tup [.int .u64 (B4 (G5 (S9 (-Bi (A6 x)) s (x.drop i))) (Bi (A6 x))),.int .i64 0]):=by
 obtain ⟨_,hu⟩:=Ks hx
 have he:=Ame (A6 x)
 intro k
 induction k with
 | zero =>
   intro i F s hi hF hs
   obtain ⟨F,rfl⟩:∃ G,F=G+1:=⟨F-1,by omega⟩
   rw [Ac.Norm.Aw,Au,Aw8 (by omega),Aw7,hs,Aw3,show E6 (G5 s) (Bi (A6 x))=true from Ae.2 ⟨Afx hs,At.2 (by omega)⟩,Aw3,Axh (by omega)]
   rfl
 | succ k ih =>
   intro i F s hi hF hs
   obtain ⟨F,rfl⟩:∃ G,F=G+1:=⟨F-1,by omega⟩
   rw [Ac.Norm.Aw,Au,Aw4 (show (i:Int)<(x.length:Int) by omega),Aw3,Aw4 (show (0:Int)≤(i:Int) by omega),Aw9,Aw3,Aw5,Ao (x:=0-Bi (A6 x)) (by omega) (by omega),show (0:Int)-Bi (A6 x)=-Bi (A6 x) by omega,
    show E6 (getD x i 0) (-Bi (A6 x))=true from Ae.2 ⟨hu i (by omega),At.2 (by omega)⟩,Aw3,Iq (hu i (by omega)),Aw9,Aw3,hs,Kj,Aw9,Aw3,Aj7 (by omega),Ao (by omega) (by omega)]
   exact ih (i+1) F _ (by omega) (by omega) (Am2 hs (Kj _ _))
theorem Ac.Norm.known:Ac.Norm.Kn:=Ac.Norm.Ad (.cons compare.I9.known (.cons soft.Finite.known (.cons Ac.Add.known (.cons Ac.Cf.known (.cons Ac.Mul.known (.cons Ac.E2.known (.cons Ac.Sqrt.known .nil))))))) fun x hp=>by
 obtain ⟨hx,hl⟩:=Ae.1 (show (Dh x&&Cw (length x≤64))=true from hp)
 have hl:=At.1 hl
 refine ⟨65,Ac.Norm.out [.l x],[],?_,Wk.G3 (.cons .int (.cons .int .nil))⟩
 show _=some (DV.tup [.int .u64 (D0 x),.int .i64 0])
 rw [Ac.Norm.ev,Au,Aw8 (by omega),Aw7,hx,Aw3,Rb,Ayf,Aw3]
 unfold D0
 by_cases h:A6 x=0∨Cq (A6 x)=false
 ·have:((A6 x==(0:Int))||(!(Cq (A6 x))))=true:=by
   rcases h with h | h
   ·rw [h]; rfl
   ·rw [h,Aym,Ayf]
  rw [this,Aw3,Axq h]
 ·have:((A6 x==(0:Int))||(!(Cq (A6 x))))=false:=by
   rw [Bool.or_eq_false_iff,Axy,Bool.not_eq_false']
   refine ⟨fun h0=>h (.inl h0),?_⟩
   cases hf:Cq (A6 x) with
   | true=>rfl
   | false=>exact absurd (.inr hf) h
  rw [this,Aw7,Aw3,Axp h]
  exact Ah1 65 hx (by omega) x.length 0 65 0 (by omega) (by omega) Jr
end Go.Proofs.S1
namespace Go.Rnd
open Go.Den
end Go.Rnd
namespace Go.Proofs.S1
open Go Go.Den Go.Rnd Go.Proofs
set_option maxRecDepth 100000
namespace EqLdx
end EqLdx
open EqLdx
theorem Aqk (x:Nat):Dg x<2^64:=Nat.lt_trans (Vr x) (by decide)
theorem Alv (x:Nat):Ag (Dg x)=Ag x:=by
 have e1:Df (Dg x)=Df x:=by unfold Df Dg; omega
 have e2:Co (Dg x)=Co x:=by unfold Co Dg; omega
 unfold Ag
 rw [e1,e2]
theorem Amq (x y:Int):(compare x y=.lt↔x<y)∧(compare x y=.gt↔y<x)∧(compare x y=.eq↔x=y):=by
 rcases Int.lt_trichotomy x y with h | h | h
 ·rw [Ae9 h]; refine ⟨by simp [h],?_,?_⟩<;>simp<;>omega
 ·subst h
  have:compare x x=.eq:=by simp [compare,compareOfLessAndEq]
  rw [this]; simp
 ·rw [Afa h]; refine ⟨?_,by simp [h],?_⟩<;>simp<;>omega
theorem Vn {x:Nat} (hx:x<2^64) (h4:Ag x≠4):(Ieee.double.order (Dg x) 9218868437227405311==some .gt)=decide (Ag x=3):=by
 have k1:Ag 9218868437227405311≠4:=by decide +kernel
 have k2:Hg 9218868437227405311=9218868437227405311:=by decide +kernel
 have ka:Hg (Dg x)=((Dg x:Nat):Int):=by
  have:=Wu false (r:=Dg x) (Vr x)
  exact this
 rw [Ahz (Aqk x) (by decide) (by rw [Alv]; exact h4) k1,k2,ka]
 have hl:=Asc h4
 rw [Axj,beq_iff_eq,Aw6,(Amq _ _).2.1,Axa]
 constructor
 ·intro h
  refine Decidable.byContradiction fun h3=>?_
  have:=Sc h3 h4
  rw [Em] at this
  unfold Dg at h
  omega
 ·intro h3
  have:=Nm h3
  rw [Em] at this
  unfold Dg
  omega
open EqLdx
namespace EqRef08
end EqRef08
namespace EqRef13
def Gq.I9.A8:List (Nat × Entry):=[(180,Ca.T2.spec),(131,Ax.Finite.spec),(62,Ax.Kind.spec),(63,Ax.Value.spec)]
def Gq.I9.E:Env:=Ba (A7 Gq.I9.A8) (fun _=>false) (fun _=>none) (fun _=>none)
theorem Gq.I9.ev (N:Nat) (a:Int):B0 Gq.I9.E N f132 (Ap f132) [.int .u64 a]=bif (Ah a) then bif ((!(Cq a))||(N8 a)) then bif ((!(Cq a))||((Av a)==(0:Int))) then some (.int .i64 0) else bif (Ah a) then bif (Xh (Ck (mD (Hb a))) (A2 (mD (Hb a)))&&okE (eD (Hb a) (A3 a))) then some (.int .i64 (Ab ((Ag5 (wv (Ck (mD (Hb a))) (A2 (mD (Hb a)))) (eD (Hb a) (A3 a)))-1))) else none else none else none else none :=
 Eq.trans (by kernel_rfl)
 (Ev (An (Adq (Cq a)) (Dw (An1 (Cq a) (N8 a)) (An (Uv (Cq a)) (An (Adr (Cq a)) (Dw (Arq (Cq a) ((Av a)==(0:Int))) rfl rfl))) rfl)) rfl)
abbrev _root_.Go.Proofs.S1.Gq.I9.Kn:=A4 prog 132 Gq.I9.spec
theorem Gq.I9.Ad (hk:Ay prog Gq.I9.A8) (h:Hyp Gq.I9.E f132 Gq.I9.ts Gq.I9.pre Gq.I9.out):Gq.I9.Kn :=
 Al (A1 hk _ _ _) func132 (by kernel_rfl) (by kernel_rfl) h
end EqRef13
end Go.Proofs.S1
end
