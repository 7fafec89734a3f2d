/- A verified evaluator of the program's form and its use for this seat: S1EqBits6, S1EqTimes, S1PTimes, S1PTimesA, S1EqVec, S1PVec, S1EqMat, S1PMat, S1EqCmp, S1PCmp, S1PDiv, RootM, HouL, S1EqRoot. -/
import Derived.Test.YtjbokjpbiobjpaaGreatTE
import Derived.Test.YtjbokjpbiobjpaaGreatTF
import Derived.Test.YtjbokjpbiobjpaaGreatTH
import Derived.Test.YtjbokjpbiobjpaaGreatTG
set_option linter.unusedVariables false
set_option linter.unusedSimpArgs false
noncomputable section
namespace Go.Proofs.S1
open Go Go.Den Go.Rnd Go.Proofs
set_option maxRecDepth 100000
namespace EqBits6
def C5.B5.A6:List (Nat × Entry):=[(261,C5.Lq.spec)]
def C5.B5.E:Env:=A9 (A5 C5.B5.A6) (fun _=>false) (fun _=>none) (fun _=>none)
theorem C5.B5.ev (N:Nat) (x:Int):Bq C5.B5.E N Tryz.f250 (An Tryz.f250) [.int .u64 x]=bif (Af x) then some (.int .i64 (Ab ((64:Int)-(E4 x)))) else none:=by kernel_rfl
abbrev _root_.Go.Proofs.S1.C5.B5.Kn:=A3 Tryz.prog 250 C5.B5.spec
theorem C5.B5.Ac (hk:Ax Tryz.prog C5.B5.A6) (h:∀ (x:Int),C5.B5.pre [.i x]=true→A8 C5.B5.E Tryz.f250 [.int .u64 x] (C5.B5.out [.i x])):C5.B5.Kn :=
  Ak (Az hk _ _ _) Tryz.func250 (by kernel_rfl) (by kernel_rfl) h
def C5.Ie.A6:List (Nat × Entry):=[]
def C5.Ie.E:Env:=A9 (A5 C5.Ie.A6) (fun _=>false) (fun _=>none) (fun _=>none)
theorem C5.Ie.ev (N:Nat) (x y:Int):Bq C5.Ie.E N Tryz.f237 (An Tryz.f237) [.int .u64 x,.int .u64 y]=some (.tup [.int .u64 (Bk ((Bk ((Bk ((Dj .u64 x 32)*(Dj .u64 y 32)))+(Dj .u64 (Bk ((Bk ((Dj .u64 x 32)*(Ev .u64 y 4294967295)))+(Dj .u64 (Bk ((Ev .u64 x 4294967295)*(Ev .u64 y 4294967295))) 32))) 32)))+(Dj .u64 (Bk ((Ev .u64 (Bk ((Bk ((Dj .u64 x 32)*(Ev .u64 y 4294967295)))+(Dj .u64 (Bk ((Ev .u64 x 4294967295)*(Ev .u64 y 4294967295))) 32))) 4294967295)+(Bk ((Ev .u64 x 4294967295)*(Dj .u64 y 32))))) 32))),.int .u64 (Bk (x*y))]):=by kernel_rfl
abbrev _root_.Go.Proofs.S1.C5.Ie.Kn:=A3 Tryz.prog 237 C5.Ie.spec
theorem C5.Ie.Ac (hk:Ax Tryz.prog C5.Ie.A6) (h:∀ (x y:Int),C5.Ie.pre [.i x,.i y]=true→A8 C5.Ie.E Tryz.f237 [.int .u64 x,.int .u64 y] (C5.Ie.out [.i x,.i y])):C5.Ie.Kn :=
  Ak (Az hk _ _ _) Tryz.func237 (by kernel_rfl) (by kernel_rfl) h
abbrev _root_.Go.Proofs.S1.C5.Lq.Kn:Prop:=A3 Tryz.prog 261 C5.Lq.spec
theorem _root_.Go.Proofs.S1.C5.Lq.call:∀ (args:Array Value) (w:World),(callFunc 261 args).run Tryz.prog w=.ok (.enter 261 args) w:=Ti Tryz.func261 (by kernel_rfl) (show Tryz.f261.body=some (An Tryz.f261) by kernel_rfl)
theorem _root_.Go.Proofs.S1.C5.Lq.run (x:Int) (w:World) (h0:0≤x) (h1:x≤18446744073709551615):Calls Tryz.prog 261 #[.int .u64 x] w fun e w'=>e=.returned (.int .i64 (Lib.bitLen x.toNat))∧w'=w:=Tryz.Ah9 x w h0 h1
end EqBits6
namespace EqTimes
def times.signed.A6:List (Nat × Entry):=[(233,soft.Dp.spec)]
def times.signed.E:Env:=A9 (A5 times.signed.A6) (fun _=>false) (fun _=>none) (fun _=>none)
theorem times.signed.ev (N:Nat) (b:Int) (n:Bool):Bq times.signed.E N Tryz.f235 (An Tryz.f235) [.int .u64 b,.bool n]=bif n then bif (Af b) then some (.int .u64 (Db b)) else none else some (.int .u64 b):=by kernel_rfl
abbrev _root_.Go.Proofs.S1.times.signed.Kn:=A3 Tryz.prog 235 times.signed.spec
theorem times.signed.Ac (hk:Ax Tryz.prog times.signed.A6) (h:∀ (b:Int) (n:Bool),times.signed.pre [.i b,.b n]=true→A8 times.signed.E Tryz.f235 [.int .u64 b,.bool n] (times.signed.out [.i b,.b n])):times.signed.Kn :=
  Ak (Az hk _ _ _) Tryz.func235 (by kernel_rfl) (by kernel_rfl) h
def times.nan.A6:List (Nat × Entry):=[(155,soft.Kind.spec)]
def times.nan.E:Env:=A9 (A5 times.nan.A6) (fun _=>false) (fun _=>none) (fun _=>none)
theorem times.nan.ev (N:Nat) (a b:Int):Bq times.nan.E N Tryz.f234 (An Tryz.f234) [.int .u64 a,.int .u64 b]=bif (Af a) then bif ((Bd a)==(4:Int)) then some (.bool true) else bif (Af b) then bif ((Bd b)==(4:Int)) then some (.bool true) else some (.bool false) else none else none:=by kernel_rfl
abbrev _root_.Go.Proofs.S1.times.nan.Kn:=A3 Tryz.prog 234 times.nan.spec
theorem times.nan.Ac (hk:Ax Tryz.prog times.nan.A6) (h:∀ (a b:Int),times.nan.pre [.i a,.i b]=true→A8 times.nan.E Tryz.f234 [.int .u64 a,.int .u64 b] (times.nan.out [.i a,.i b])):times.nan.Kn :=
  Ak (Az hk _ _ _) Tryz.func234 (by kernel_rfl) (by kernel_rfl) h
def times.norm.A6:List (Nat × Entry):=[(250,C5.B5.spec),(211,soft.F9.spec)]
def times.norm.E:Env:=A9 (A5 times.norm.A6) (fun _=>false) (fun _=>none) (fun _=>none)
theorem times.norm.ev (N:Nat) (b:Int):Bq times.norm.E N Tryz.f236 (An Tryz.f236) [.int .u64 b]=bif (Af b) then bif (Af (Bv b)) then bif (decide (0≤(Ab ((64-E4 (Bv b))-11)))) then some (.tup [.int .u64 (B4 .u64 (Bv b) (Ab ((64-E4 (Bv b))-11))),.int .i64 (Ab ((Bh b)-(Ab ((64-E4 (Bv b))-11))))]) else none else none else none:=by kernel_rfl
abbrev _root_.Go.Proofs.S1.times.norm.Kn:=A3 Tryz.prog 236 times.norm.spec
theorem times.norm.Ac (hk:Ax Tryz.prog times.norm.A6) (h:∀ (b:Int),times.norm.pre [.i b]=true→A8 times.norm.E Tryz.f236 [.int .u64 b] (times.norm.out [.i b])):times.norm.Kn :=
  Ak (Az hk _ _ _) Tryz.func236 (by kernel_rfl) (by kernel_rfl) h
def times.wide.hint:Nat→Option Ba
  | 0=>some { keep:=[0,1,2,3],objs:=[],boxes:=[] }
  | _=>none
def times.wide.A6:List (Nat × Entry):=[(212,soft.Di.spec)]
def times.wide.E:Env:=A9 (A5 times.wide.A6) (fun _=>false) times.wide.hint (fun _=>none)
def times.wide.L0 (N M:Nat) (n:Bool) (p1 p2:Int) (p3:Bool):Option DV:=B0 times.wide.E N Tryz.f238 (An Tryz.f238) [1,0,0] [] M ⟨Gj 39 [(0,.bool n),(1,.int .u64 p1),(2,.int .i64 p2),(3,.bool p3)],[]⟩
theorem times.wide.Ar (N M:Nat) (n:Bool) (p1 p2:Int) (p3:Bool):times.wide.L0 N (M+1) n p1 p2 p3=bif ((A4 p2 (-1130:Int))&&(A4 1 p1)) then times.wide.L0 N M n (Dj .u64 p1 1) (Ab (p2+1)) (bif p3 then true else ((Ev .u64 p1 1)==(1:Int))) else bif (A4 p2 (-1130:Int)) then bif (Eg 0 (-1074:Int) true) then some (.tup [.int .u64 (E3 n 0 (-1074:Int) true),.int .u8 (E2 n 0 (-1074:Int) true)]) else none else bif (Eg p1 p2 p3) then some (.tup [.int .u64 (E3 n p1 p2 p3),.int .u8 (E2 n p1 p2 p3)]) else none :=
  Eq.trans (by kernel_rfl)
  (Av (N2 (A4 p2 (-1130:Int))) (Av (Lt (A4 p2 (-1130:Int))) (Av (Sr (A4 p2 (-1130:Int))) (C0 (tt1 (A4 p2 (-1130:Int)) (A4 1 p1)) (Av (Se p3) (Av (Qa p3) (Av (Qa p3) (Av (W4 p3) rfl)))) rfl))))
theorem times.wide.ev (N:Nat) (n:Bool) (m e:Int) (r:Bool):Bq times.wide.E N Tryz.f238 (An Tryz.f238) [.bool n,.int .u64 m,.int .i64 e,.bool r] =
  times.wide.L0 N N n m e r:=by kernel_rfl
abbrev _root_.Go.Proofs.S1.times.wide.Kn:=A3 Tryz.prog 238 times.wide.spec
theorem times.wide.Ac (hk:Ax Tryz.prog times.wide.A6) (h:∀ (n:Bool) (m e:Int) (r:Bool),times.wide.pre [.b n,.i m,.i e,.b r]=true→A8 times.wide.E Tryz.f238 [.bool n,.int .u64 m,.int .i64 e,.bool r] (times.wide.out [.b n,.i m,.i e,.b r])):times.wide.Kn :=
  Ak (Az hk _ _ _) Tryz.func238 (by kernel_rfl) (by kernel_rfl) h
def times.Mul.A6:List (Nat × Entry):=[(237,C5.Ie.spec),(155,soft.Kind.spec),(213,soft.Sign.spec),(234,times.nan.spec),(236,times.norm.spec),(235,times.signed.spec),(238,times.wide.spec)]
def times.Mul.E:Env:=A9 (A5 times.Mul.A6) (fun _=>false) (fun _=>none) (fun _=>none)
theorem times.Mul.ev (N:Nat) (a b:Int):Bq times.Mul.E N Tryz.f208 (An Tryz.f208) [.int .u64 a,.int .u64 b]=bif (Af a) then bif (Af b) then bif (Af a) then bif (Af b) then bif (Af a&&Af b) then bif (Anu a b) then some (.tup [.int .u64 9221120237041090560,.int .u8 0]) else bif ((((Bd a)==(3:Int))&&((Bd b)==(0:Int)))||(((Bd a)==(0:Int))&&((Bd b)==(3:Int)))) then some (.tup [.int .u64 9221120237041090560,.int .u8 16]) else bif (((Bd a)==(3:Int))||((Bd b)==(3:Int))) then bif (Af 9218868437227405312) then some (.tup [.int .u64 (Sf (!((Dt a)==(Dt b))) 9218868437227405312),.int .u8 0]) else none else bif (((Bd a)==(0:Int))||((Bd b)==(0:Int))) then bif (Af 0) then some (.tup [.int .u64 (Sf (!((Dt a)==(Dt b))) 0),.int .u8 0]) else none else bif (Af a&&Md a) then bif (Af b&&Md b) then bif (Af (C8 a)&&Af (C8 b)) then bif (Pa (Ia .u64 (B4 .u64 (Si (C8 a) (C8 b)) 20) (Dj .u64 (Nq (C8 a) (C8 b)) 44)) (Ab ((Ab ((Hd a)+(Hd b)))+44))) then some (.tup [.int .u64 (E3 (!((Dt a)==(Dt b))) (Ia .u64 (B4 .u64 (Si (C8 a) (C8 b)) 20) (Dj .u64 (Nq (C8 a) (C8 b)) 44)) (Ab ((Ab ((Hd a)+(Hd b)))+44)) ((B4 .u64 (Nq (C8 a) (C8 b)) 20) !=(0:Int))),.int .u8 (E2 (!((Dt a)==(Dt b))) (Ia .u64 (B4 .u64 (Si (C8 a) (C8 b)) 20) (Dj .u64 (Nq (C8 a) (C8 b)) 44)) (Ab ((Ab ((Hd a)+(Hd b)))+44)) ((B4 .u64 (Nq (C8 a) (C8 b)) 20) !=(0:Int)))]) else none else none else none else none else none else none else none else none else none :=
  Eq.trans (by kernel_rfl)
  (Eh (Eh (Eh (Eh (Eh (Eh rfl (Av (N2 ((Bd a)==(3:Int))) (Av (Lt ((Bd a)==(3:Int))) (Av (Sr ((Bd a)==(3:Int))) (Av (Avi ((Bd a)==(3:Int)) ((Bd b)==(0:Int))) (Av (Aqc ((Bd a)==(3:Int)) ((Bd b)==(0:Int))) (Av (Aqc ((Bd a)==(3:Int)) ((Bd b)==(0:Int))) (Av (Avj ((Bd a)==(3:Int)) ((Bd b)==(0:Int)) ((Bd a)==(0:Int))) (Av (Avk ((Bd a)==(3:Int)) ((Bd b)==(0:Int)) ((Bd a)==(0:Int))) (Av (Avl ((Bd a)==(3:Int)) ((Bd b)==(0:Int)) ((Bd a)==(0:Int))) (Av (Avm ((Bd a)==(3:Int)) ((Bd b)==(0:Int))) (C0 (Avn ((Bd a)==(3:Int)) ((Bd b)==(0:Int)) ((Bd a)==(0:Int)) ((Bd b)==(3:Int))) rfl (Av (Se ((Bd a)==(3:Int))) (Av (Qa ((Bd a)==(3:Int))) (Av (W4 ((Bd a)==(3:Int))) (C0 (tt5 ((Bd a)==(3:Int)) ((Bd b)==(3:Int))) rfl (Av (Se ((Bd a)==(0:Int))) (Av (Qa ((Bd a)==(0:Int))) (Av (W4 ((Bd a)==(0:Int))) (C0 (tt5 ((Bd a)==(0:Int)) ((Bd b)==(0:Int))) rfl rfl)))))))))))))))))))) rfl) rfl) rfl) rfl) rfl)
abbrev _root_.Go.Proofs.S1.times.Mul.Kn:=A3 Tryz.prog 208 times.Mul.spec
theorem times.Mul.Ac (hk:Ax Tryz.prog times.Mul.A6) (h:∀ (a b:Int),times.Mul.pre [.i a,.i b]=true→A8 times.Mul.E Tryz.f208 [.int .u64 a,.int .u64 b] (times.Mul.out [.i a,.i b])):times.Mul.Kn :=
  Ak (Az hk _ _ _) Tryz.func208 (by kernel_rfl) (by kernel_rfl) h
def times.Div.hint:Nat→Option Ba
  | 1=>some { keep:=[6,10,11,12,13,14,78],objs:=[],boxes:=[] }
  | _=>none
def times.Div.A6:List (Nat × Entry):=[(155,soft.Kind.spec),(213,soft.Sign.spec),(234,times.nan.spec),(236,times.norm.spec),(235,times.signed.spec),(238,times.wide.spec)]
def times.Div.E:Env:=A9 (A5 times.Div.A6) (fun _=>false) times.Div.hint (fun _=>none)
def times.Div.L0 (N M:Nat) (a b:Int) (p13 p14 p78:Int):Option DV:=B0 times.Div.E N Tryz.f209 (An Tryz.f209) [1,1,1,1,1,1,1,0,1,0] [] M ⟨Gj 104 [(6,.bool (!((Dt a)==(Dt b)))),(10,.int .i64 (Hd a)),(11,.int .u64 (C8 b)),(12,.int .i64 (Hd b)),(13,.int .u64 p13),(14,.int .u64 p14),(78,.int .i64 p78)],[]⟩
theorem times.Div.Ar (N M:Nat) (a b:Int) (p13 p14 p78:Int):times.Div.L0 N (M+1) a b p13 p14 p78=bif (A4 p78 61) then bif (D6 (C8 b) (B4 .u64 p14 1)) then times.Div.L0 N M a b (Ia .u64 (B4 .u64 p13 1) 1) (Bk ((B4 .u64 p14 1)-(C8 b))) (Ab (p78+1)) else times.Div.L0 N M a b (B4 .u64 p13 1) (B4 .u64 p14 1) (Ab (p78+1)) else bif (Pa p13 (Ab ((Ab ((Hd a)-(Hd b)))-61))) then some (.tup [.int .u64 (E3 (!((Dt a)==(Dt b))) p13 (Ab ((Ab ((Hd a)-(Hd b)))-61)) (p14 !=(0:Int))),.int .u8 (E2 (!((Dt a)==(Dt b))) p13 (Ab ((Ab ((Hd a)-(Hd b)))-61)) (p14 !=(0:Int)))]) else none:=by kernel_rfl
theorem times.Div.ev (N:Nat) (a b:Int):Bq times.Div.E N Tryz.f209 (An Tryz.f209) [.int .u64 a,.int .u64 b]=bif (Af a) then bif (Af b) then bif (Af a) then bif (Af b) then bif (Af a&&Af b) then bif (Anu a b) then some (.tup [.int .u64 9221120237041090560,.int .u8 0]) else bif ((((Bd a)==(3:Int))&&((Bd b)==(3:Int)))||(((Bd a)==(0:Int))&&((Bd b)==(0:Int)))) then some (.tup [.int .u64 9221120237041090560,.int .u8 16]) else bif ((Bd a)==(3:Int)) then bif (Af 9218868437227405312) then some (.tup [.int .u64 (Sf (!((Dt a)==(Dt b))) 9218868437227405312),.int .u8 0]) else none else bif (((Bd b)==(3:Int))||((Bd a)==(0:Int))) then bif (Af 0) then some (.tup [.int .u64 (Sf (!((Dt a)==(Dt b))) 0),.int .u8 0]) else none else bif ((Bd b)==(0:Int)) then bif (Af 9218868437227405312) then some (.tup [.int .u64 (Sf (!((Dt a)==(Dt b))) 9218868437227405312),.int .u8 8]) else none else bif (Af a&&Md a) then bif (Af b&&Md b) then bif ((C8 b) !=0) then bif ((C8 b) !=0) then times.Div.L0 N N a b (Bk (Int.tdiv (C8 a) (C8 b))) (Int.tmod (C8 a) (C8 b)) (0:Int) else none else none else none else none else none else none else none else none else none :=
  Eq.trans (by kernel_rfl)
  (Eh (Eh (Eh (Eh (Eh (Eh rfl (Av (N2 ((Bd a)==(3:Int))) (Av (Lt ((Bd a)==(3:Int))) (Av (Sr ((Bd a)==(3:Int))) (Av (Avi ((Bd a)==(3:Int)) ((Bd b)==(3:Int))) (Av (Aqc ((Bd a)==(3:Int)) ((Bd b)==(3:Int))) (Av (Aqc ((Bd a)==(3:Int)) ((Bd b)==(3:Int))) (Av (Avj ((Bd a)==(3:Int)) ((Bd b)==(3:Int)) ((Bd a)==(0:Int))) (Av (Avk ((Bd a)==(3:Int)) ((Bd b)==(3:Int)) ((Bd a)==(0:Int))) (Av (Avl ((Bd a)==(3:Int)) ((Bd b)==(3:Int)) ((Bd a)==(0:Int))) (Av (Avm ((Bd a)==(3:Int)) ((Bd b)==(3:Int))) (C0 (Avn ((Bd a)==(3:Int)) ((Bd b)==(3:Int)) ((Bd a)==(0:Int)) ((Bd b)==(0:Int))) rfl (Eh rfl (Av (Se ((Bd b)==(3:Int))) (Av (Qa ((Bd b)==(3:Int))) (Av (W4 ((Bd b)==(3:Int))) (C0 (tt5 ((Bd b)==(3:Int)) ((Bd a)==(0:Int))) rfl (Eh rfl (Eh (Eh (C0 (Cx ((C8 b) !=0)) (C0 (Cx ((C8 b) !=0)) rfl rfl) rfl) rfl) rfl))))))))))))))))))) rfl) rfl) rfl) rfl) rfl)
abbrev _root_.Go.Proofs.S1.times.Div.Kn:=A3 Tryz.prog 209 times.Div.spec
theorem times.Div.Ac (hk:Ax Tryz.prog times.Div.A6) (h:∀ (a b:Int),times.Div.pre [.i a,.i b]=true→A8 times.Div.E Tryz.f209 [.int .u64 a,.int .u64 b] (times.Div.out [.i a,.i b])):times.Div.Kn :=
  Ak (Az hk _ _ _) Tryz.func209 (by kernel_rfl) (by kernel_rfl) h
end EqTimes
open EqBits6 EqTimes
theorem Af9 {n:Nat} (h0:n≠0) (h:n<2^64):Go.Lib.bitLen n=n.log2+1:=by
  have h1:=Nat.log2_self_le h0
  have h2:=Nat.lt_log2_self (n:=n)
  have hp:=Cp n.log2
  have e:n / 2^n.log2=1:=by
    rw [Nat.pow_succ] at h2
    exact Nat.div_eq_of_lt_le (by omega) (by omega)
  have e1:Go.Lib.bitLen 1=1:=by decide
  rw [Go.Lib.bitLen_shift n.log2 n h1 h,e,e1]
theorem C5.Lq.known:C5.Lq.Kn:=by
  refine ⟨?_,C5.Lq.call⟩
  intro args ha
  simp only [C5.Lq.spec,entry] at ha ⊢
  cases hd:Mk [.i .u64] args with
  | none=>rw [hd] at ha; cases ha
  | some ats =>
    rw [hd] at ha
    simp only at ha ⊢
    obtain ⟨ds,h1,h2⟩:=Mj hd
    obtain ⟨x,_,_,rfl,rfl,he⟩:=h1.Aom
    obtain ⟨rfl,rfl⟩:=he.Ac1
    obtain ⟨n,rfl,hn⟩:=Bm (x:=x) ha
    refine Oc.args ?_ h2
    intro w vals I hI hv
    obtain ⟨u,us,e1,e2,e3⟩:=hv
    simp only [Ao] at e2
    have e3:us=[]:=e3
    subst e2 e3
    have e4:vals=#[.int .u64 (n:Int)]:=Array.ext' e1
    subst e4
    refine (C5.Lq.run n w (by omega) (by omega)).mono ?_
    rintro e w' ⟨rfl,rfl⟩
    refine ⟨_,fun _=>none,rfl,Go.RowKit.Below.refl _ _,⟨fun i b h=>(by cases h),fun i j b h=>(by cases h)⟩,?_⟩
    show Ao _ _ (DV.int .i64 (E4 n)) _
    simp only [Ao]
    congr 1
    unfold E4
    rw [Ayu]
    by_cases h0:n=0
    · subst h0; rfl
    · rw [Af9 h0 hn,if_neg (by omega)]; rfl
theorem Aoe {n:Nat} (hn:n<2^64):0≤E4 n∧E4 n≤64:=by
  unfold E4
  rw [Ayu]
  by_cases h0:n=0
  · subst h0; decide
  · have:=(Nat.log2_lt h0).2 hn
    rw [if_neg (by omega)]; omega
theorem C5.B5.known:C5.B5.Kn:=C5.B5.Ac (.cons C5.Lq.known .nil) fun x hp=>by
  obtain ⟨n,rfl,hn⟩:=Bm (x:=x) hp
  have:=Aoe hn
  refine ⟨0,C5.B5.out [.i n],[],?_,.int⟩
  rw [C5.B5.ev,Cb hn,Ays,Al (by omega) (by omega)]
  rfl
theorem Jv {a b:Nat} (ha:a<4294967296) (hb:b<4294967296):a*b≤18446744065119617025 :=
  Nat.le_trans (Nat.mul_le_mul (show a≤4294967295 by omega) (show b≤4294967295 by omega)) (by decide)
theorem Anx (x y:Nat) (hx:x<2^64) (hy:y<2^64) :
    x*y / 18446744073709551616=(x / 2^32)*(y / 2^32)+((x / 2^32)*(y%2^32)+(x%2^32)*(y%2^32) / 2^32) / 2^32 +
      (((x / 2^32)*(y%2^32)+(x%2^32)*(y%2^32) / 2^32)%2^32+(x%2^32)*(y / 2^32)) / 2^32:=by
  have ex:x=x / 2^32*4294967296+x%2^32:=by omega
  have ey:y=y / 2^32*4294967296+y%2^32:=by omega
  have ha:x / 2^32<4294967296:=by omega
  have hc:y / 2^32<4294967296:=by omega
  have hb:x%2^32<4294967296:=by omega
  have hd:y%2^32<4294967296:=by omega
  generalize x / 2^32=a at *
  generalize x%2^32=b at *
  generalize y / 2^32=c at *
  generalize y%2^32=d at *
  have e:x*y=a*c*18446744073709551616+(a*d+b*c)*4294967296+b*d:=by
    rw [ex,ey,Nat.add_mul,Nat.mul_add,Nat.mul_add]
    have e1:a*4294967296*(c*4294967296)=a*c*18446744073709551616:=by
      rw [Nat.mul_mul_mul_comm]
    have e2:a*4294967296*d=a*d*4294967296:=Nat.mul_right_comm _ _ _
    have e3:b*(c*4294967296)=b*c*4294967296:=(Nat.mul_assoc _ _ _).symm
    rw [e1,e2,e3]
    omega
  have b1:=Jv ha hc
  have b2:=Jv ha hd
  have b3:=Jv hb hc
  have b4:=Jv hb hd
  rw [e]
  clear e ex ey
  generalize a*c=p at *
  generalize a*d=q at *
  generalize b*c=r at *
  generalize b*d=s at *
  omega
theorem C5.Ie.known:C5.Ie.Kn:=C5.Ie.Ac .nil fun x y hp=>by
  obtain ⟨h1,h2⟩:=Ad.1 hp
  obtain ⟨x,rfl,hx⟩:=Bm h1
  obtain ⟨y,rfl,hy⟩:=Bm h2
  refine ⟨0,C5.Ie.out [.i x,.i y],[],?_,Wk.Gp (.cons .int (.cons .int .nil))⟩
  show _=some (DV.tup [.int .u64 (Si x y),.int .u64 (Nq x y)])
  have s32:∀ n:Nat,Dj .u64 (n:Int) (32:Int)=((n / 2^32:Nat):Int):=fun n=>Hw .u64 n 32 (by decide)
  have m32:∀ n:Nat,n<2^64→Ev .u64 (n:Int) (4294967295:Int)=((n%2^32:Nat):Int):=fun n hn=>I6 32 hn (by decide)
  have ha:x / 2^32<4294967296:=by omega
  have hc:y / 2^32<4294967296:=by omega
  have hb:x%2^32<4294967296:=by omega
  have hd:y%2^32<4294967296:=by omega
  have b1:=Jv ha hc
  have b2:=Jv ha hd
  have b3:=Jv hb hc
  have b4:=Jv hb hd
  have hhi:=Anx x y hx hy
  have wn:∀ n:Nat,n<2^64→Bk (n:Int)=n:=fun n hn=>Dn (by omega) (by omega)
  have hlt:x*y / 18446744073709551616<2^64:=by
    rw [Nat.div_lt_iff_lt_mul (by decide)]
    have:=Nat.mul_le_mul (show x≤18446744073709551615 by omega) (show y≤18446744073709551615 by omega)
    omega
  rw [C5.Ie.ev]
  simp only [s32,m32 x hx,m32 y hy]
  generalize hA:x / 2^32=a at *
  generalize hB:x%2^32=b at *
  generalize hC:y / 2^32=c at *
  generalize hD:y%2^32=d at *
  simp only [← Azd]
  rw [wn (a*c) (by omega),wn (a*d) (by omega),wn (b*c) (by omega),wn (b*d) (by omega),s32]
  simp only [← Int.natCast_add]
  rw [wn (a*d+b*d / 2^32) (by omega),s32,m32 _ (by omega)]
  simp only [← Int.natCast_add]
  rw [wn (a*c+(a*d+b*d / 2^32) / 2^32) (by omega),wn _ (by omega),s32]
  simp only [← Int.natCast_add]
  rw [← hhi,wn _ hlt]
  unfold Si Nq
  rw [Ayu,Ayu,Oe]
  congr 3
theorem times.signed.known:times.signed.Kn:=times.signed.Ac (.cons soft.Dp.known .nil) fun b n hp=>by
  have hp:Af b=true:=hp
  refine ⟨0,times.signed.out [.i b,.b n],[],?_,.int⟩
  rw [times.signed.ev,hp]
  cases n<;>rfl
theorem times.nan.known:times.nan.Kn:=times.nan.Ac (.cons soft.Kind.known .nil) fun a b hp=>by
  obtain ⟨ha,hb⟩:=Ad.1 hp
  refine ⟨0,times.nan.out [.i a,.i b],[],?_,.bool⟩
  rw [times.nan.ev,ha,hb,Ays,Ays]
  show _=some (DV.bool (decide (Bd a=4)||decide (Bd b=4)))
  by_cases h1:Bd a=4
  · rw [h1]; rfl
  · have e1:(Bd a==(4:Int))=false:=by simp; exact h1
    rw [e1,Ayx h1,Ayw]
    by_cases h2:Bd b=4
    · rw [h2]; rfl
    · have e2:(Bd b==(4:Int))=false:=by simp; exact h2
      rw [e2,Ayx h2]; rfl
theorem Ou {n:Nat} (h:Aw n≠0):(Aw n).log2≤52∧2^52≤Aw n*2^Ch n∧Aw n*2^Ch n<2^53∧Ch n≤52:=by
  have h1:=Fb n
  have h2:(Aw n).log2<53:=(Nat.log2_lt h).2 (by omega)
  have hz:=Lk (Aw n) (Ch n) h
  have hne:Aw n*2^Ch n≠0:=Is h
  have hl:(Aw n*2^Ch n).log2=52:=by rw [hz]; unfold Ch; omega
  refine ⟨by omega,?_,?_,by unfold Ch; omega⟩
  · rw [← Nat.le_log2 hne]; omega
  · rw [← Nat.log2_lt hne]; omega
theorem times.norm.known:times.norm.Kn:=times.norm.Ac (.cons C5.B5.known (.cons soft.F9.known .nil)) fun b hp=>by
  obtain ⟨h1,h2⟩:=Ad.1 hp
  obtain ⟨n,rfl,hn⟩:=Bm h1
  have h2:Aw n≠0:=Aq.1 h2
  obtain ⟨l1,l2,l3,l4⟩:=Ou h2
  have hM:=Fb n
  have hE:=En n
  refine ⟨0,times.norm.out [.i n],[],?_,Wk.Gp (.cons .int (.cons .int .nil))⟩
  show _=some (DV.tup [.int .u64 (C8 n),.int .i64 (Hd n)])
  have e1:Bv (n:Int)=(Aw n:Int):=rfl
  have e2:Bh (n:Int)=A2 n:=rfl
  have e3:E4 (Aw n:Int)=((Aw n).log2:Int)+1:=by
    unfold E4
    rw [if_neg (by omega),Ayu]
  have e4:Ab ((64-(((Aw n).log2:Int)+1))-(11:Int))=((Ch n:Nat):Int):=by
    rw [Al (by omega) (by omega)]; unfold Ch; omega
  rw [times.norm.ev,Cb hn,e1,e2,Cb (n:=Aw n) (by omega),e3,e4,Fh _ _ (by omega),Ay5 (by omega),Al (by omega) (by omega),Ayt (by omega)]
  rfl
theorem Aj2 {V t:Nat} {E:Int} (h0:V≠0) (h:V<2^t) (hE:E+t≤-1075):Co V E=0∧flagsOf V E=3:=by
  have hl:V.log2<t:=(Nat.log2_lt h0).2 h
  have hL:Cn V E=-1074:=by unfold Cn; omega
  obtain ⟨k,hk⟩:∃ k:Nat,(-1074-E).toNat=t+1+k:=⟨(-1074-E).toNat-t-1,by omega⟩
  have hp:2^(t+1)≤2^(t+1+k):=Ay7 (by decide) (by omega)
  have ht:2^(t+1)=2*2^t:=by rw [Nat.pow_succ]; omega
  have e2:(-(-1074-E)).toNat=0:=by omega
  have hr:J6 V (-1074-E)=0:=by
    unfold J6 M3
    rw [e2,hk,Nat.pow_zero,Nat.mul_one,Nat.div_eq_of_lt (by omega),Ay5 (by omega),if_neg (by omega)]
  have hru:Co V E=0:=by
    unfold Co kept
    rw [if_neg h0,hL,hr]
    simp
  refine ⟨hru,?_⟩
  unfold flagsOf exact Mt
  rw [if_neg h0,hru,hL,e2,hk,Nat.pow_zero,Nat.mul_one,Ay5 (by omega),Ayx h0]
  decide
theorem Ak2 (n:Bool) {m:Nat} {e:Int} (r:Bool) (hm:1<m) (he:e < -1130):Gi n (m / 2) (e+1) (r||decide (m%2=1))=Gi n m e r:=by
  have e1:(4*m+r.toNat) / 2^3=m / 2:=by cases r<;>simp<;>omega
  have e2:(r||decide (m%2=1))=decide ((4*m+r.toNat)%2^3≠0):=by
    rw [Ay8]
    cases r
    · simp; omega
    · simp; omega
  have:=Uj n (V:=4*m+r.toNat) (k:=3) (E:=e-2) (e:=e+1) (s:=r||decide (m%2=1)) (by omega) e2 (by omega) (.inr (by omega))
  rw [e1] at this
  exact this
theorem Ui (n:Bool) {e:Int} (r:Bool) (he:e < -1130):Gi n 1 e r=Gi n 0 (-1074) true:=by
  have h1:r.toNat≤1:=by cases r<;>decide
  obtain ⟨a1,a2⟩:=Aj2 (V:=4*1+r.toNat) (t:=3) (E:=e-2) (by omega) (by omega) (by omega)
  obtain ⟨b1,b2⟩:=Aj2 (V:=4*0+true.toNat) (t:=1) (E:=-1074-2) (by decide) (by decide) (by decide)
  unfold Gi
  rw [a1,a2,b1,b2]
theorem Ajx (N:Nat) (n:Bool):∀ (k m:Nat) (e:Int) (r:Bool),1≤m→m<2^62→m≤2^k→-7000≤e→e≤6000→(2^60≤m∨e≤-1130) →
    times.wide.L0 N (k+1) n (m:Int) e r=some (.tup [.int .u64 (((Gi n m e r).1:Nat):Int),.int .u8 (((Gi n m e r).2:Nat):Int)]):=by
  intro k
  induction k with
  | zero =>
    intro m e r h1 h2 h3 h4 h5 h6
    have hm:m=1:=by simp at h3; omega
    subst hm
    rw [times.wide.Ar,As,As]
    have c1:decide ((1:Int)<((1:Nat):Int))=false:=by decide
    rw [c1,Bool.and_false,Ayw]
    by_cases he:e < -1130
    · have hp:Eg (0:Int) (-1074:Int) true=true:=Aq.2 (by omega)
      rw [Ayt he,Ays,hp,Ays,Ui n r he]
      rfl
    · have he:e=-1130:=by omega
      subst he
      have hp:Eg ((1:Nat):Int) (-1130:Int) r=true:=Aq.2 (by omega)
      rw [Ayx (by omega),Ayw,hp,Ays]
      rfl
  | succ k ih =>
    intro m e r h1 h2 h3 h4 h5 h6
    rw [times.wide.Ar,As,As]
    by_cases he:e < -1130
    · by_cases hm:1<m
      · have c1:decide ((1:Int)<(m:Int))=true:=Ayt (by omega)
        have e1:Dj .u64 (m:Int) (1:Int)=((m / 2:Nat):Int):=Hw .u64 m 1 (by decide)
        have e2:Ev .u64 (m:Int) (1:Int)=((m%2:Nat):Int):=I6 (a:=m) 1 (by omega) (by decide)
        have e3:(bif r then true else (Ev .u64 (m:Int) (1:Int))==(1:Int))=(r||decide (m%2=1)):=by
          rw [e2]
          cases r
          · rw [Ay8]; simp; omega
          · rfl
        rw [Ayt he,c1,Ayy,Ays,e1,e3,Al (by omega) (by omega)]
        have hk:m / 2≤2^k:=by rw [Nat.pow_succ] at h3; omega
        rw [ih (m / 2) (e+1) _ (by omega) (by omega) hk (by omega) (by omega) (.inr (by omega)),Ak2 n r hm he]
      · have hm:m=1:=by omega
        subst hm
        have c1:decide ((1:Int)<((1:Nat):Int))=false:=by decide
        have hp:Eg (0:Int) (-1074:Int) true=true:=Aq.2 (by omega)
        rw [c1,Bool.and_false,Ayw,Ayt he,Ays,hp,Ays,Ui n r he]
        rfl
    · have hp:Eg (m:Int) e r=true:=Aq.2 ⟨by omega,by omega,by omega,.inl (by omega),fun _=>by omega⟩
      rw [Ayx he,Bool.false_and,Ayw,Ayw,hp,Ays]
      rfl
theorem times.wide.known:times.wide.Kn:=times.wide.Ac (.cons soft.Di.known .nil) fun n m e r hp=>by
  obtain ⟨h1,h2,h3,h4⟩:=Aq.1 (show Pa m e=true from hp)
  obtain ⟨m,rfl⟩:∃ k:Nat,m=k:=⟨m.toNat,by omega⟩
  refine ⟨63,times.wide.out [.b n,.i m,.i e,.b r],[],?_,Wk.Gp (.cons .int (.cons .int .nil))⟩
  rw [times.wide.ev,Ajx 63 n 62 m e r (by omega) (by omega) (by omega) (by omega) (by omega) (.inl (by omega))]
  rfl
open EqTimes
theorem Om {b:Nat} (h0:Am b≠0) (h3:Am b≠3) (h4:Am b≠4):Aw b≠0:=by
  have:=Ji b
  unfold Am at h0 h3 h4
  unfold Aw
  by_cases h1:Dz b=2047
  · rw [if_pos h1] at h3 h4
    by_cases h2:Da b=0
    · rw [if_pos h2] at h3; exact absurd rfl h3
    · rw [if_neg h2] at h4; exact absurd rfl h4
  · rw [if_neg h1] at h0
    by_cases h2:0<Dz b
    · rw [if_neg (by omega)]; omega
    · rw [if_neg h2] at h0
      by_cases h5:0<Da b
      · rw [if_pos (by omega)]; omega
      · rw [if_neg h5] at h0; exact absurd rfl h0
theorem Vq {b:Nat} (h0:Am b=0):Aw b=0:=by
  unfold Am at h0
  unfold Aw
  by_cases h1:Dz b=2047
  · rw [if_pos h1] at h0; split at h0<;>omega
  · rw [if_neg h1] at h0
    by_cases h2:0<Dz b
    · rw [if_pos h2] at h0; omega
    · rw [if_neg h2] at h0
      by_cases h5:0<Da b
      · rw [if_pos h5] at h0; omega
      · rw [if_pos (by omega)]; omega
theorem Ahh {x y:Nat} (hx1:2^52≤x) (hx2:x<2^53) (hy1:2^52≤y) (hy2:y<2^53):2^104≤x*y∧x*y<2^106:=by
  have h1:=Nat.mul_le_mul hx1 hy1
  have h2:x*y<2^53*2^53:=Nat.mul_lt_mul'' hx2 hy2
  exact ⟨Nat.le_trans (by decide) h1,Nat.lt_of_lt_of_le h2 (by decide)⟩
theorem Aqs {V:Nat} (h:V<2^106):Ia .u64 (B4 .u64 ((V / 18446744073709551616:Nat):Int) (20:Int)) (Dj .u64 ((V%18446744073709551616:Nat):Int) (44:Int))=((V / 2^44:Nat):Int):=by
  have e1:B4 .u64 ((V / 18446744073709551616:Nat):Int) (20:Int)=((V / 18446744073709551616*2^20%2^64:Nat):Int):=Fh _ 20 (by decide)
  have e2:Dj .u64 ((V%18446744073709551616:Nat):Int) (44:Int)=((V%18446744073709551616 / 2^44:Nat):Int):=Hw .u64 _ 44 (by decide)
  rw [e1,e2,Ay5 (by omega),Nc (k:=20) (by omega) (by omega)]
  congr 1
  omega
theorem Aqr {V:Nat}:((B4 .u64 ((V%18446744073709551616:Nat):Int) (20:Int)) !=(0:Int))=decide (V%2^44≠0):=by
  have e1:B4 .u64 ((V%18446744073709551616:Nat):Int) (20:Int)=((V%18446744073709551616*2^20%2^64:Nat):Int):=Fh _ 20 (by decide)
  rw [e1,Ay8]
  simp only [bne_iff_ne,ne_eq,Ayz]
  omega
theorem Ac0 (s t:Bool):(!(s==t))=(s !=t):=rfl
theorem w53 {x:Nat} (h:x<2^53):Af (x:Int)=true:=Cb (by omega)
theorem Aq0 (n:Bool) {a b:Nat} (ha:Aw a≠0) (hb:Aw b≠0) :
    (bif (Af (C8 a)&&Af (C8 b)) then
      bif (Pa (Ia .u64 (B4 .u64 (Si (C8 a) (C8 b)) (20:Int)) (Dj .u64 (Nq (C8 a) (C8 b)) (44:Int))) (Ab ((Ab ((Hd a)+(Hd b)))+(44:Int)))) then
        some (DV.tup [.int .u64 (E3 n (Ia .u64 (B4 .u64 (Si (C8 a) (C8 b)) (20:Int)) (Dj .u64 (Nq (C8 a) (C8 b)) (44:Int))) (Ab ((Ab ((Hd a)+(Hd b)))+(44:Int))) ((B4 .u64 (Nq (C8 a) (C8 b)) (20:Int)) !=(0:Int))),.int .u8 (E2 n (Ia .u64 (B4 .u64 (Si (C8 a) (C8 b)) (20:Int)) (Dj .u64 (Nq (C8 a) (C8 b)) (44:Int))) (Ab ((Ab ((Hd a)+(Hd b)))+(44:Int))) ((B4 .u64 (Nq (C8 a) (C8 b)) (20:Int)) !=(0:Int)))])
      else none
    else none)=some (.tup [.int .u64 ((Bl n (Co (Aw a*Aw b) (A2 a+A2 b)):Nat):Int),.int .u8 ((flagsOf (Aw a*Aw b) (A2 a+A2 b):Nat):Int)]):=by
  obtain ⟨a1,a2,a3,a4⟩:=Ou ha
  obtain ⟨b1,b2,b3,b4⟩:=Ou hb
  have ea:=En a
  have eb:=En b
  have ma:C8 (a:Int)=((Aw a*2^Ch a:Nat):Int):=rfl
  have mb:C8 (b:Int)=((Aw b*2^Ch b:Nat):Int):=rfl
  have na:Hd (a:Int)=A2 a-Ch a:=rfl
  have nb:Hd (b:Int)=A2 b-Ch b:=rfl
  have hi:Si (C8 a) (C8 b)=((Aw a*2^Ch a*(Aw b*2^Ch b) / 18446744073709551616:Nat):Int):=rfl
  have lo:Nq (C8 a) (C8 b)=((Aw a*2^Ch a*(Aw b*2^Ch b)%18446744073709551616:Nat):Int):=rfl
  rw [hi,lo,ma,mb,na,nb,w53 a3,w53 b3,Ayy,Ays]
  obtain ⟨v1,v2⟩:=Ahh a2 a3 b2 b3
  have ev:Aw a*2^Ch a*(Aw b*2^Ch b)=Aw a*Aw b*2^(Ch a+Ch b):=by
    rw [Nat.mul_mul_mul_comm,← Nat.pow_add]
  obtain ⟨s1,s2⟩:=Ee (Aw a*Aw b) (Ch a+Ch b) (A2 a+A2 b)
  rw [← ev] at s1 s2
  generalize Aw a*2^Ch a*(Aw b*2^Ch b)=V at *
  rw [Aqs v2,Aqr,Al (x:=_+_) (by rw [Al (by omega) (by omega)]; omega) (by rw [Al (by omega) (by omega)]; omega),Al (by omega) (by omega)]
  have hw:Pa ((V / 2^44:Nat):Int) (A2 a-Ch a+(A2 b-Ch b)+44)=true:=Aq.2 ⟨by omega,by omega,by omega,by omega⟩
  rw [hw,Ays]
  unfold E3 E2
  rw [Ayu,Uj n (V:=V) (k:=44) (E:=A2 a+A2 b-((Ch a+Ch b:Nat):Int)) (e:=A2 a-Ch a+(A2 b-Ch b)+44) (s:=decide (V%2^44≠0)) (by omega) rfl (by omega) (.inl (by omega)),s1,s2]
theorem kq (b k:Nat):(((Am b:Nat):Int)==((k:Nat):Int))=decide (Am b=k):=by
  rw [Ay8]; simp only [beq_iff_eq,Ayz]; omega
theorem Aau (n:Bool) {r:Nat} (h:r<2^63):Sf n (r:Int)=((Bl n r:Nat):Int):=by
  unfold Sf Bl Db
  cases n
  · rfl
  · simp only [if_true]
    rw [Ayu,Yv h]
theorem Afn (n:Bool):Sf n (9218868437227405312:Int)=((Bl n Eb:Nat):Int):=Aau n (r:=Eb) (by decide)
theorem Aal (n:Bool):Sf n (0:Int)=((Bl n 0:Nat):Int):=Aau n (r:=0) (by decide)
theorem Rr (b:Nat):Bd (b:Int)=((Am b:Nat):Int):=rfl
theorem Ai5 (a b:Nat):Anu (a:Int) (b:Int)=(decide (Am a=4)||decide (Am b=4)):=by
  unfold Anu Bd
  simp only [Ayu]
  rw [Ay8]
  simp only [Bool.or_eq_true,Ayz]
  omega
theorem k3 (b:Nat):(((Am b:Nat):Int)==(3:Int))=decide (Am b=3):=kq b 3
theorem k0 (b:Nat):(((Am b:Nat):Int)==(0:Int))=decide (Am b=0):=kq b 0
theorem times.Mul.known:times.Mul.Kn:=times.Mul.Ac (.cons C5.Ie.known (.cons soft.Kind.known (.cons soft.Sign.known (.cons times.nan.known (.cons times.norm.known (.cons times.signed.known (.cons times.wide.known .nil))))))) fun a b hp=>by
  obtain ⟨ha,hb⟩:=Ad.1 hp
  obtain ⟨a,rfl,hn⟩:=Bm ha
  obtain ⟨b,rfl,hm⟩:=Bm hb
  refine ⟨0,times.Mul.out [.i a,.i b],[],?_,Wk.Gp (.cons .int (.cons .int .nil))⟩
  have i1:Af (9218868437227405312:Int)=true:=Cb (n:=9218868437227405312) (by decide)
  have i2:Af (0:Int)=true:=Cb (n:=0) (by decide)
  rw [times.Mul.ev,ha,hb,Ai5,Rr,Rr,k3,k3,k0,k0,i1,i2,Afn,Aal,Ac0]
  show _=some (DV.tup [.int .u64 (((Nj a b).1:Nat):Int),.int .u8 (((Nj a b).2:Nat):Int)])
  have ea:Dt (a:Int)=Bt a:=rfl
  have eb:Dt (b:Int)=Bt b:=rfl
  rw [ea,eb]
  unfold Nj
  simp only [Ayy,Ays]
  by_cases h4:Am a=4∨Am b=4
  · have c4:(decide (Am a=4)||decide (Am b=4))=true:=by simp; exact h4
    rw [if_pos h4,c4,Ays]; rfl
  · have c4:(decide (Am a=4)||decide (Am b=4))=false:=by simp; omega
    rw [if_neg h4,c4,Ayw]
    by_cases h3:Am a=3∨Am b=3
    · rw [if_pos h3]
      by_cases h0:Am a=0∨Am b=0
      · have c0:(decide (Am a=3)&&decide (Am b=0)||decide (Am a=0)&&decide (Am b=3))=true:=by simp; omega
        rw [if_pos h0,c0,Ays]; rfl
      · have c0:(decide (Am a=3)&&decide (Am b=0)||decide (Am a=0)&&decide (Am b=3))=false:=by simp; omega
        have c3:(decide (Am a=3)||decide (Am b=3))=true:=by simp; omega
        rw [if_neg h0,c0,Ayw,c3,Ays]; rfl
    · have c0:(decide (Am a=3)&&decide (Am b=0)||decide (Am a=0)&&decide (Am b=3))=false:=by simp; omega
      have c3:(decide (Am a=3)||decide (Am b=3))=false:=by simp; omega
      rw [if_neg h3,c0,Ayw,c3,Ayw]
      by_cases h0:Am a=0∨Am b=0
      · have c5:(decide (Am a=0)||decide (Am b=0))=true:=by simp; exact h0
        have hz:Aw a*Aw b=0:=by
          rcases h0 with h | h
          · rw [Vq h,Nat.zero_mul]
          · rw [Vq h,Nat.mul_zero]
        rw [c5,Ays,hz,Rk,Pu]; rfl
      · have c5:(decide (Am a=0)||decide (Am b=0))=false:=by simp; omega
        have pa:=Om (b:=a) (by omega) (by omega) (by omega)
        have pb:=Om (b:=b) (by omega) (by omega) (by omega)
        have na:Md (a:Int)=true:=Aq.2 pa
        have nb:Md (b:Int)=true:=Aq.2 pb
        rw [c5,Ayw,na,nb,Ayy,Ays,Ays]
        exact Aq0 _ pa pb
theorem Ao5 (N:Nat) {a b:Nat} {X Y:Nat} (hY:0<Y) (hY2:Y<2^53) (hX:X<2*Y) (em:C8 (b:Int)=(Y:Int)):∀ (k i:Nat),k+i=61 →
    times.Div.L0 N (k+1) a b ((X*2^i / Y:Nat):Int) ((X*2^i%Y:Nat):Int) (i:Int) =
      times.Div.L0 N 1 a b ((X*2^61 / Y:Nat):Int) ((X*2^61%Y:Nat):Int) (61:Int):=by
  intro k
  induction k with
  | zero =>
    intro i hi
    have:i=61:=by omega
    subst this
    rfl
  | succ k ih =>
    intro i hi
    have hq:X*2^i / Y<2^62:=by
      rw [Nat.div_lt_iff_lt_mul hY]
      have h1:X*2^i<2*Y*2^i:=(Nat.mul_lt_mul_right (Cp i)).2 hX
      have h2:2*2^i≤2^62:=by
        rw [Nat.mul_comm,← Nat.pow_succ]; exact Ay7 (by decide) (by omega)
      have h3:2*2^i*Y≤2^62*Y:=Ay4 _ h2
      rw [Nat.mul_right_comm] at h1
      omega
    have hr:X*2^i%Y<Y:=Nat.mod_lt _ hY
    have hd:=Nat.div_add_mod (X*2^i) Y
    have e2:X*2^(i+1)=X*2^i*2:=by rw [Nat.pow_succ,Nat.mul_assoc]
    rw [times.Div.Ar,As,Ef,em,Ayt (by omega),Ays]
    have s1:B4 .u64 ((X*2^i%Y:Nat):Int) (1:Int)=((X*2^i%Y*2:Nat):Int):=by
      have:=Fh (X*2^i%Y) 1 (by decide)
      rw [Ay5 (a:=X*2^i%Y*2^1) (by omega)] at this
      exact this
    have s2:B4 .u64 ((X*2^i / Y:Nat):Int) (1:Int)=((X*2^i / Y*2^1:Nat):Int):=by
      have:=Fh (X*2^i / Y) 1 (by decide)
      rw [Ay5 (a:=X*2^i / Y*2^1) (by omega)] at this
      exact this
    have s3:Ia .u64 ((X*2^i / Y*2^1:Nat):Int) (1:Int)=((X*2^i / Y*2^1+1:Nat):Int):=Nc (k:=1) (b:=1) (by decide) (by omega)
    have ei:Ab ((i:Int)+1)=((i+1:Nat):Int):=by rw [Al (by omega) (by omega)]; rfl
    rw [s1,s2,s3,ei]
    generalize hq':X*2^i / Y=q at *
    generalize hr':X*2^i%Y=r at *
    have step:∀ c,X*2^i*2=Y*(2*q+c)+(2*r-c*Y)→c*Y≤2*r→2*r<c*Y+Y→X*2^(i+1) / Y=2*q+c∧X*2^(i+1)%Y=2*r-c*Y:=fun c h1 h2 h3=>by
      rw [e2,h1]
      constructor
      · rw [Nat.mul_add_div hY,Nat.div_eq_of_lt (by omega)]; omega
      · rw [Nat.mul_add_mod,Ay5 (by omega)]
    by_cases hc:Y≤r*2
    · obtain ⟨t1,t2⟩:=step 1 (by rw [Nat.mul_add,Nat.mul_one,Nat.mul_left_comm]; omega) (by omega) (by omega)
      have:=ih (i+1) (by omega)
      rw [t1,t2] at this
      rw [Ayt (by omega),Ays,Dn (by omega) (by omega)]
      have e3:((r*2:Nat):Int)-(Y:Int)=((2*r-1*Y:Nat):Int):=by omega
      have e4:q*2^1+1=2*q+1:=by omega
      rw [e3,e4]
      exact this
    · obtain ⟨t1,t2⟩:=step 0 (by rw [Nat.add_zero,Nat.mul_left_comm]; omega) (by omega) (by omega)
      have:=ih (i+1) (by omega)
      rw [t1,t2] at this
      rw [Ayx (by omega),Ayw]
      have e3:r*2=2*r-0*Y:=by omega
      have e4:q*2^1=2*q+0:=by omega
      rw [e3,e4]
      exact this
theorem Arq {a b:Nat} (ha:Aw a≠0) (hb:Aw b≠0) :
    times.Div.L0 62 62 a b (Bk (Int.tdiv (C8 a) (C8 b))) (Int.tmod (C8 a) (C8 b)) (0:Int) =
      some (.tup [.int .u64 ((Bl (Bt a !=Bt b) (Co (Fk (Aw a) (Aw b) 120) (A2 a-A2 b-121)):Nat):Int),.int .u8 ((flagsOf (Fk (Aw a) (Aw b) 120) (A2 a-A2 b-121):Nat):Int)]):=by
  obtain ⟨a1,a2,a3,a4⟩:=Ou ha
  obtain ⟨b1,b2,b3,b4⟩:=Ou hb
  have ea:=En a
  have eb:=En b
  have ma:C8 (a:Int)=((Aw a*2^Ch a:Nat):Int):=rfl
  have mb:C8 (b:Int)=((Aw b*2^Ch b:Nat):Int):=rfl
  have na:Hd (a:Int)=A2 a-Ch a:=rfl
  have nb:Hd (b:Int)=A2 b-Ch b:=rfl
  have sL:=Agw (Aw a) (Aw b*2^Ch b) (Ch a) 61
  have hpos:0<Aw b*2^Ch b:=by omega
  have hq1:2^53≤Aw a*2^Ch a*2^61 / (Aw b*2^Ch b):=by
    rw [Nat.le_div_iff_mul_le hpos]; omega
  have hqq:2^60≤Aw a*2^Ch a*2^61 / (Aw b*2^Ch b):=by
    rw [Nat.le_div_iff_mul_le hpos]; omega
  have hq2:Aw a*2^Ch a*2^61 / (Aw b*2^Ch b)<2^62:=by
    rw [Nat.div_lt_iff_lt_mul hpos]; omega
  have hstick:Fk (Aw a*2^Ch a) (Aw b*2^Ch b) 61=Fk (Aw a) (Aw b) (61+Ch a-Ch b):=by
    rw [sL]
    have:61+Ch a=61+Ch a-Ch b+Ch b:=by omega
    conv=>lhs; rw [this]
    rw [Ad9]
  have hge1:2^53≤Aw a*2^(61+Ch a-Ch b) / Aw b:=by
    have e1:Aw a*2^Ch a*2^61=Aw a*2^(61+Ch a-Ch b)*2^Ch b:=by
      rw [Nat.mul_assoc,← Nat.pow_add,Nat.mul_assoc,← Nat.pow_add]
      congr 2
      omega
    rw [e1,Nat.mul_div_mul_right _ _ (Cp _)] at hq1
    exact hq1
  have hge2:2^53≤Aw a*2^120 / Aw b:=Ana (t:=53) (by omega) (by omega) (by have:=Fb b; omega) (by omega)
  obtain ⟨s1,s2⟩:=Xx (X:=Aw a) (Y:=Aw b) (K:=61+Ch a-Ch b) (L:=120) (E:=A2 a-Ch a-(A2 b-Ch b)-61-1) (F:=A2 a-A2 b-121) (by omega) hge1 hge2 (by omega)
  have d1:Bk (Int.tdiv (C8 a) (C8 b))=((Aw a*2^Ch a*2^0 / (Aw b*2^Ch b):Nat):Int):=by
    rw [ma,mb,J4,Nat.pow_zero,Nat.mul_one]
    have h1:=Nat.div_le_self (Aw a*2^Ch a) (Aw b*2^Ch b)
    have h2:Aw a*2^Ch a / (Aw b*2^Ch b)<2^64:=Nat.lt_of_le_of_lt h1 (Nat.lt_trans a3 (by decide))
    generalize Aw a*2^Ch a / (Aw b*2^Ch b)=q at h2 ⊢
    exact Dn (Int.natCast_nonneg q) (by omega)
  have d2:Int.tmod (C8 a) (C8 b)=((Aw a*2^Ch a*2^0%(Aw b*2^Ch b):Nat):Int):=by
    rw [ma,mb,J3,Nat.pow_zero,Nat.mul_one]
  rw [d1,d2]
  have lp:=Ao5 62 (a:=a) (b:=b) hpos b3 (X:=Aw a*2^Ch a) (by omega) mb 61 0 (by omega)
  refine lp.trans ?_
  rw [times.Div.Ar,As,na,nb,Ayx (by omega),Ayw]
  have we:Ab (Ab (A2 a-Ch a-(A2 b-Ch b))-61)=A2 a-Ch a-(A2 b-Ch b)-61:=by
    rw [Al (x:=A2 a-Ch a-(A2 b-Ch b)) (by omega) (by omega),Al (by omega) (by omega)]
  have hne:(((Aw a*2^Ch a*2^61%(Aw b*2^Ch b):Nat):Int) !=(0:Int))=decide (Aw a*2^Ch a*2^61%(Aw b*2^Ch b)≠0):=by
    rw [Ay8]; simp only [bne_iff_ne,ne_eq,Ayz]; omega
  rw [we,hne]
  have hw:Pa ((Aw a*2^Ch a*2^61 / (Aw b*2^Ch b):Nat):Int) (A2 a-Ch a-(A2 b-Ch b)-61)=true:=Aq.2 ⟨by omega,by omega,by omega,by omega⟩
  have hn:Dt (a:Int)=Bt a:=rfl
  have hn':Dt (b:Int)=Bt b:=rfl
  rw [hw,Ays,Ac0,hn,hn']
  unfold E3 E2
  rw [Ayu,Ak4 _ rfl rfl hq1,hstick,s1,s2]
theorem times.Div.known:times.Div.Kn:=times.Div.Ac (.cons soft.Kind.known (.cons soft.Sign.known (.cons times.nan.known (.cons times.norm.known (.cons times.signed.known (.cons times.wide.known .nil)))))) fun a b hp=>by
  obtain ⟨ha,hb⟩:=Ad.1 hp
  obtain ⟨a,rfl,hn⟩:=Bm ha
  obtain ⟨b,rfl,hm⟩:=Bm hb
  refine ⟨62,times.Div.out [.i a,.i b],[],?_,Wk.Gp (.cons .int (.cons .int .nil))⟩
  have i1:Af (9218868437227405312:Int)=true:=Cb (n:=9218868437227405312) (by decide)
  have i2:Af (0:Int)=true:=Cb (n:=0) (by decide)
  rw [times.Div.ev,ha,hb,Ai5,Rr,Rr,k3,k3,k0,k0,i1,i2,Afn,Aal,Ac0]
  show _=some (DV.tup [.int .u64 (((Adh a b).1:Nat):Int),.int .u8 (((Adh a b).2:Nat):Int)])
  have ea:Dt (a:Int)=Bt a:=rfl
  have eb:Dt (b:Int)=Bt b:=rfl
  rw [ea,eb]
  unfold Adh
  rw [Ayy,Ays,Ays,Ays,Ays,Ays]
  by_cases h4:Am a=4∨Am b=4
  · have c4:(decide (Am a=4)||decide (Am b=4))=true:=by simp; exact h4
    rw [if_pos h4,c4,Ays]; rfl
  · have c4:(decide (Am a=4)||decide (Am b=4))=false:=by simp; omega
    rw [if_neg h4,c4,Ayw]
    by_cases h1:Am a=Am b∧(Am a=3∨Am a=0)
    · have c1:(decide (Am a=3)&&decide (Am b=3)||decide (Am a=0)&&decide (Am b=0))=true:=by simp; omega
      rw [if_pos h1,c1,Ays]; rfl
    · have c1:(decide (Am a=3)&&decide (Am b=3)||decide (Am a=0)&&decide (Am b=0))=false:=by simp; omega
      rw [if_neg h1,c1,Ayw]
      by_cases h2:Am a=3
      · rw [if_pos h2,Ayt h2,Ays]; rfl
      · rw [if_neg h2,Ayx h2,Ayw]
        by_cases h3:Am b=3∨Am a=0
        · have c3:(decide (Am b=3)||decide (Am a=0))=true:=by simp; exact h3
          rw [if_pos h3,c3,Ays]; rfl
        · have c3:(decide (Am b=3)||decide (Am a=0))=false:=by simp; omega
          rw [if_neg h3,c3,Ayw]
          by_cases h5:Am b=0
          · rw [if_pos h5,Ayt h5,Ays]; rfl
          · rw [if_neg h5,Ayx h5,Ayw]
            have pa:=Om (b:=a) (by omega) (by omega) (by omega)
            have pb:=Om (b:=b) (by omega) (by omega) (by omega)
            have na:Md (a:Int)=true:=Aq.2 pa
            have nb:Md (b:Int)=true:=Aq.2 pb
            have hnb:(C8 (b:Int) !=0)=true:=by
              obtain ⟨_,l2,_,_⟩:=Ou pb
              have mb:C8 (b:Int)=((Aw b*2^Ch b:Nat):Int):=rfl
              rw [mb]
              simp only [bne_iff_ne,ne_eq]
              omega
            rw [na,nb,hnb,Ayy,Ays,Ays,Ays,Ays,Arq pa pb]
namespace EqVec
def Ae.Add.A6:List (Nat × Entry):=[(232,sum.Add.spec)]
def Ae.Add.E:Env:=A9 (A5 Ae.Add.A6) (fun _=>false) (fun _=>none) (fun _=>none)
theorem Ae.Add.ev (N:Nat) (a b:Int):Bq Ae.Add.E N Tryz.f226 (An Tryz.f226) [.int .u64 a,.int .u64 b]=bif (Af a&&Af b) then some (.int .u64 (Jx a b)) else none:=by kernel_rfl
abbrev _root_.Go.Proofs.S1.Ae.Add.Kn:=A3 Tryz.prog 226 Ae.Add.spec
theorem Ae.Add.Ac (hk:Ax Tryz.prog Ae.Add.A6) (h:∀ (a b:Int),Ae.Add.pre [.i a,.i b]=true→A8 Ae.Add.E Tryz.f226 [.int .u64 a,.int .u64 b] (Ae.Add.out [.i a,.i b])):Ae.Add.Kn :=
  Ak (Az hk _ _ _) Tryz.func226 (by kernel_rfl) (by kernel_rfl) h
def Ae.Sub.A6:List (Nat × Entry):=[(207,sum.Sub.spec)]
def Ae.Sub.E:Env:=A9 (A5 Ae.Sub.A6) (fun _=>false) (fun _=>none) (fun _=>none)
theorem Ae.Sub.ev (N:Nat) (a b:Int):Bq Ae.Sub.E N Tryz.f156 (An Tryz.f156) [.int .u64 a,.int .u64 b]=bif (Af a&&Af b) then some (.int .u64 (Ew a b)) else none:=by kernel_rfl
abbrev _root_.Go.Proofs.S1.Ae.Sub.Kn:=A3 Tryz.prog 156 Ae.Sub.spec
theorem Ae.Sub.Ac (hk:Ax Tryz.prog Ae.Sub.A6) (h:∀ (a b:Int),Ae.Sub.pre [.i a,.i b]=true→A8 Ae.Sub.E Tryz.f156 [.int .u64 a,.int .u64 b] (Ae.Sub.out [.i a,.i b])):Ae.Sub.Kn :=
  Ak (Az hk _ _ _) Tryz.func156 (by kernel_rfl) (by kernel_rfl) h
def Ae.Mul.A6:List (Nat × Entry):=[(208,times.Mul.spec)]
def Ae.Mul.E:Env:=A9 (A5 Ae.Mul.A6) (fun _=>false) (fun _=>none) (fun _=>none)
theorem Ae.Mul.ev (N:Nat) (a b:Int):Bq Ae.Mul.E N Tryz.f157 (An Tryz.f157) [.int .u64 a,.int .u64 b]=bif (Af a&&Af b) then some (.int .u64 (D3 a b)) else none:=by kernel_rfl
abbrev _root_.Go.Proofs.S1.Ae.Mul.Kn:=A3 Tryz.prog 157 Ae.Mul.spec
theorem Ae.Mul.Ac (hk:Ax Tryz.prog Ae.Mul.A6) (h:∀ (a b:Int),Ae.Mul.pre [.i a,.i b]=true→A8 Ae.Mul.E Tryz.f157 [.int .u64 a,.int .u64 b] (Ae.Mul.out [.i a,.i b])):Ae.Mul.Kn :=
  Ak (Az hk _ _ _) Tryz.func157 (by kernel_rfl) (by kernel_rfl) h
def Ae.fit.A6:List (Nat × Entry):=[]
def Ae.fit.E:Env:=A9 (A5 Ae.fit.A6) (fun _=>false) (fun _=>none) (fun _=>none)
theorem Ae.fit.ev (N:Nat) (x y:List Int):Bq Ae.fit.E N Tryz.f225 (An Tryz.f225) [.ints .arg .u64 x,.ints .arg .u64 y]=some (.bool (bif ((List.length x:Int)==(List.length y:Int)) then (D6 (List.length x:Int) 64) else false)) :=
  Eq.trans (by kernel_rfl)
  (Av (N2 ((List.length x:Int)==(List.length y:Int))) (Av (Lt ((List.length x:Int)==(List.length y:Int))) (Av (Lt ((List.length x:Int)==(List.length y:Int))) (Av (Sr ((List.length x:Int)==(List.length y:Int))) rfl))))
abbrev _root_.Go.Proofs.S1.Ae.fit.Kn:=A3 Tryz.prog 225 Ae.fit.spec
theorem Ae.fit.Ac (hk:Ax Tryz.prog Ae.fit.A6) (h:∀ (x y:List Int),Ae.fit.pre [.l x,.l y]=true→A8 Ae.fit.E Tryz.f225 [.ints .arg .u64 x,.ints .arg .u64 y] (Ae.fit.out [.l x,.l y])):Ae.fit.Kn :=
  Ak (Az hk _ _ _) Tryz.func225 (by kernel_rfl) (by kernel_rfl) h
def Ae.H3.hint:Nat→Option Ba
  | 0=>some { keep:=[0,1,6,13,14],objs:=[],boxes:=[] }
  | _=>none
def Ae.H3.A6:List (Nat × Entry):=[(226,Ae.Add.spec),(157,Ae.Mul.spec),(225,Ae.fit.spec)]
def Ae.H3.E:Env:=A9 (A5 Ae.H3.A6) (fun _=>false) Ae.H3.hint (fun _=>none)
def Ae.H3.L0 (N M:Nat) (x y:List Int) (p6 p14:Int):Option DV:=B0 Ae.H3.E N Tryz.f189 (An Tryz.f189) [1,1,1,0,1,0] [] M ⟨Gj 30 [(0,.ints .arg .u64 x),(1,.ints .arg .u64 y),(6,.int .u64 p6),(13,.int .i64 (List.length x:Int)),(14,.int .i64 p14)],[]⟩
theorem Ae.H3.Ar (N M:Nat) (x y:List Int) (p6 p14:Int):Ae.H3.L0 N (M+1) x y p6 p14=bif (A4 p14 (List.length x:Int)) then bif ((decide (0≤p14))&&(decide (p14<(List.length x:Int)))) then bif ((decide (0≤p14))&&(decide (p14<(List.length y:Int)))) then bif (Af (List.getD x (Int.toNat p14) 0)&&Af (List.getD y (Int.toNat p14) 0)) then bif (Af p6&&Af (D3 (List.getD x (Int.toNat p14) 0) (List.getD y (Int.toNat p14) 0))) then Ae.H3.L0 N M x y (Jx p6 (D3 (List.getD x (Int.toNat p14) 0) (List.getD y (Int.toNat p14) 0))) (Ab (p14+1)) else none else none else none else none else some (.tup [.int .u64 p6,.int .i64 0]) :=
  Eq.trans (by kernel_rfl)
  (Eh (C0 (Ko (decide (0≤p14)) (decide (p14<(List.length x:Int)))) (C0 (Ko (decide (0≤p14)) (decide (p14<(List.length y:Int)))) (C0 (Cx (Af (List.getD x (Int.toNat p14) 0)&&Af (List.getD y (Int.toNat p14) 0))) (C0 (Cx (Af p6&&Af (D3 (List.getD x (Int.toNat p14) 0) (List.getD y (Int.toNat p14) 0)))) rfl rfl) rfl) rfl) rfl) rfl)
theorem Ae.H3.ev (N:Nat) (x y:List Int):Bq Ae.H3.E N Tryz.f189 (An Tryz.f189) [.ints .arg .u64 x,.ints .arg .u64 y]=bif (!(O3 x y)) then some (.tup [.int .u64 0,.int .i64 3]) else Ae.H3.L0 N N x y 0 0:=by kernel_rfl
abbrev _root_.Go.Proofs.S1.Ae.H3.Kn:=A3 Tryz.prog 189 Ae.H3.spec
theorem Ae.H3.Ac (hk:Ax Tryz.prog Ae.H3.A6) (h:∀ (x y:List Int),Ae.H3.pre [.l x,.l y]=true→A8 Ae.H3.E Tryz.f189 [.ints .arg .u64 x,.ints .arg .u64 y] (Ae.H3.out [.l x,.l y])):Ae.H3.Kn :=
  Ak (Az hk _ _ _) Tryz.func189 (by kernel_rfl) (by kernel_rfl) h
def Ag.F.A6:List (Nat × Entry):=[]
def Ag.F.E:Env:=A9 (A5 Ag.F.A6) (fun _=>false) (fun _=>none) (fun _=>none)
theorem Ag.F.ev (N:Nat) (x:Int):Bq Ag.F.E N Tryz.f159 (An Tryz.f159) [.int .u64 x]=bif (decide (0≤x)) then some (.fl (Int.toNat x)) else none:=by kernel_rfl
abbrev _root_.Go.Proofs.S1.Ag.F.Kn:=A3 Tryz.prog 159 Ag.F.spec
theorem Ag.F.Ac (hk:Ax Tryz.prog Ag.F.A6) (h:∀ (x:Int),Ag.F.pre [.i x]=true→A8 Ag.F.E Tryz.f159 [.int .u64 x] (Ag.F.out [.i x])):Ag.F.Kn :=
  Ak (Az hk _ _ _) Tryz.func159 (by kernel_rfl) (by kernel_rfl) h
def Ag.B.A6:List (Nat × Entry):=[(168,E0.Canon.nb.spec)]
def Ag.B.E:Env:=A9 (A5 Ag.B.A6) (fun _=>false) (fun _=>none) (fun _=>none)
theorem Ag.B.ev (N x:Nat):Bq Ag.B.E N Tryz.f102 (An Tryz.f102) [.fl x]=some (.int .u64 (Fw x)):=by kernel_rfl
abbrev _root_.Go.Proofs.S1.Ag.B.Kn:=A3 Tryz.prog 102 Ag.B.spec
theorem Ag.B.Ac (hk:Ax Tryz.prog Ag.B.A6) (h:∀ (x:Nat),Ag.B.pre [.f x]=true→A8 Ag.B.E Tryz.f102 [.fl x] (Ag.B.out [.f x])):Ag.B.Kn :=
  Ak (Az hk _ _ _) Tryz.func102 (by kernel_rfl) (by kernel_rfl) h
def Ag.Add.A6:List (Nat × Entry):=[(102,Ag.B.spec),(159,Ag.F.spec)]
def Ag.Add.E:Env:=A9 (A5 Ag.Add.A6) (fun _=>false) (fun _=>none) (fun _=>none)
theorem Ag.Add.ev (N:Nat) (a b:Int):Bq Ag.Add.E N Tryz.f181 (An Tryz.f181) [.int .u64 a,.int .u64 b]=bif (Af a) then bif (Af b) then some (.int .u64 (Fw ((Ieee.double.add (Int.toNat a) (Int.toNat b)).getD nanBits))) else none else none:=by kernel_rfl
abbrev _root_.Go.Proofs.S1.Ag.Add.Kn:=A3 Tryz.prog 181 Ag.Add.spec
theorem Ag.Add.Ac (hk:Ax Tryz.prog Ag.Add.A6) (h:∀ (a b:Int),Ag.Add.pre [.i a,.i b]=true→A8 Ag.Add.E Tryz.f181 [.int .u64 a,.int .u64 b] (Ag.Add.out [.i a,.i b])):Ag.Add.Kn :=
  Ak (Az hk _ _ _) Tryz.func181 (by kernel_rfl) (by kernel_rfl) h
def Ag.Sub.A6:List (Nat × Entry):=[(102,Ag.B.spec),(159,Ag.F.spec)]
def Ag.Sub.E:Env:=A9 (A5 Ag.Sub.A6) (fun _=>false) (fun _=>none) (fun _=>none)
theorem Ag.Sub.ev (N:Nat) (a b:Int):Bq Ag.Sub.E N Tryz.f81 (An Tryz.f81) [.int .u64 a,.int .u64 b]=bif (Af a) then bif (Af b) then some (.int .u64 (Fw ((Ieee.double.sub (Int.toNat a) (Int.toNat b)).getD nanBits))) else none else none:=by kernel_rfl
abbrev _root_.Go.Proofs.S1.Ag.Sub.Kn:=A3 Tryz.prog 81 Ag.Sub.spec
theorem Ag.Sub.Ac (hk:Ax Tryz.prog Ag.Sub.A6) (h:∀ (a b:Int),Ag.Sub.pre [.i a,.i b]=true→A8 Ag.Sub.E Tryz.f81 [.int .u64 a,.int .u64 b] (Ag.Sub.out [.i a,.i b])):Ag.Sub.Kn :=
  Ak (Az hk _ _ _) Tryz.func81 (by kernel_rfl) (by kernel_rfl) h
def Ag.Mul.A6:List (Nat × Entry):=[(102,Ag.B.spec),(159,Ag.F.spec)]
def Ag.Mul.E:Env:=A9 (A5 Ag.Mul.A6) (fun _=>false) (fun _=>none) (fun _=>none)
theorem Ag.Mul.ev (N:Nat) (a b:Int):Bq Ag.Mul.E N Tryz.f82 (An Tryz.f82) [.int .u64 a,.int .u64 b]=bif (Af a) then bif (Af b) then some (.int .u64 (Fw ((Ieee.double.mul (Int.toNat a) (Int.toNat b)).getD nanBits))) else none else none:=by kernel_rfl
abbrev _root_.Go.Proofs.S1.Ag.Mul.Kn:=A3 Tryz.prog 82 Ag.Mul.spec
theorem Ag.Mul.Ac (hk:Ax Tryz.prog Ag.Mul.A6) (h:∀ (a b:Int),Ag.Mul.pre [.i a,.i b]=true→A8 Ag.Mul.E Tryz.f82 [.int .u64 a,.int .u64 b] (Ag.Mul.out [.i a,.i b])):Ag.Mul.Kn :=
  Ak (Az hk _ _ _) Tryz.func82 (by kernel_rfl) (by kernel_rfl) h
def Ag.H3.hint:Nat→Option Ba
  | 0=>some { keep:=[0,1,5,6],objs:=[],boxes:=[] }
  | _=>none
def Ag.H3.A6:List (Nat × Entry):=[(181,Ag.Add.spec),(82,Ag.Mul.spec)]
def Ag.H3.E:Env:=A9 (A5 Ag.H3.A6) (fun _=>false) Ag.H3.hint (fun _=>none)
def Ag.H3.L0 (N M:Nat) (x y:List Int) (p5 p6:Int):Option DV:=B0 Ag.H3.E N Tryz.f118 (An Tryz.f118) [1,1,0,1,0] [] M ⟨Gj 25 [(0,.ints .arg .u64 x),(1,.ints .arg .u64 y),(5,.int .u64 p5),(6,.int .i64 p6)],[]⟩
theorem Ag.H3.Ar (N M:Nat) (x y:List Int) (p5 p6:Int):Ag.H3.L0 N (M+1) x y p5 p6=bif (A4 p6 (List.length x:Int)) then bif ((decide (0≤p6))&&(decide (p6<(List.length x:Int)))) then bif ((decide (0≤p6))&&(decide (p6<(List.length y:Int)))) then bif (Af (List.getD x (Int.toNat p6) 0)&&Af (List.getD y (Int.toNat p6) 0)) then bif (Af p5&&Af (D3 (List.getD x (Int.toNat p6) 0) (List.getD y (Int.toNat p6) 0))) then Ag.H3.L0 N M x y (Jx p5 (D3 (List.getD x (Int.toNat p6) 0) (List.getD y (Int.toNat p6) 0))) (Ab (p6+1)) else none else none else none else none else some (.int .u64 p5) :=
  Eq.trans (by kernel_rfl)
  (Eh (C0 (Ko (decide (0≤p6)) (decide (p6<(List.length x:Int)))) (C0 (Ko (decide (0≤p6)) (decide (p6<(List.length y:Int)))) (C0 (Cx (Af (List.getD x (Int.toNat p6) 0)&&Af (List.getD y (Int.toNat p6) 0))) (C0 (Cx (Af p5&&Af (D3 (List.getD x (Int.toNat p6) 0) (List.getD y (Int.toNat p6) 0)))) rfl rfl) rfl) rfl) rfl) rfl)
theorem Ag.H3.ev (N:Nat) (x y:List Int):Bq Ag.H3.E N Tryz.f118 (An Tryz.f118) [.ints .arg .u64 x,.ints .arg .u64 y] =
  Ag.H3.L0 N N x y 0 0:=by kernel_rfl
abbrev _root_.Go.Proofs.S1.Ag.H3.Kn:=A3 Tryz.prog 118 Ag.H3.spec
theorem Ag.H3.Ac (hk:Ax Tryz.prog Ag.H3.A6) (h:∀ (x y:List Int),Ag.H3.pre [.l x,.l y]=true→A8 Ag.H3.E Tryz.f118 [.ints .arg .u64 x,.ints .arg .u64 y] (Ag.H3.out [.l x,.l y])):Ag.H3.Kn :=
  Ak (Az hk _ _ _) Tryz.func118 (by kernel_rfl) (by kernel_rfl) h
def Ag.Ex.hint:Nat→Option Ba
  | 0=>some { keep:=[0,1,5],objs:=[],boxes:=[] }
  | _=>none
def Ag.Ex.A6:List (Nat × Entry):=[]
def Ag.Ex.E:Env:=A9 (A5 Ag.Ex.A6) (fun _=>false) Ag.Ex.hint (fun _=>none)
def Ag.Ex.L0 (N M:Nat) (x y:List Int) (p5:Int):Option DV:=B0 Ag.Ex.E N Tryz.f99 (An Tryz.f99) [1,1,0,1,0] [] M ⟨Gj 26 [(0,.ints .arg .u64 x),(1,.ints .arg .u64 y),(5,.int .i64 p5)],[]⟩
theorem Ag.Ex.Ar (N M:Nat) (x y:List Int) (p5:Int):Ag.Ex.L0 N (M+1) x y p5=bif (A4 p5 (List.length x:Int)) then bif ((decide (0≤p5))&&(decide (p5<(List.length x:Int)))) then bif ((decide (0≤p5))&&(decide (p5<(List.length y:Int)))) then bif ((List.getD x (Int.toNat p5) 0) !=(List.getD y (Int.toNat p5) 0)) then some (.bool false) else Ag.Ex.L0 N M x y (Ab (p5+1)) else none else none else some (.bool true) :=
  Eq.trans (by kernel_rfl)
  (Eh (C0 (Ko (decide (0≤p5)) (decide (p5<(List.length x:Int)))) (C0 (Ko (decide (0≤p5)) (decide (p5<(List.length y:Int)))) rfl rfl) rfl) rfl)
theorem Ag.Ex.ev (N:Nat) (x y:List Int):Bq Ag.Ex.E N Tryz.f99 (An Tryz.f99) [.ints .arg .u64 x,.ints .arg .u64 y]=bif ((List.length x:Int) !=(List.length y:Int)) then some (.bool false) else Ag.Ex.L0 N N x y 0:=by kernel_rfl
abbrev _root_.Go.Proofs.S1.Ag.Ex.Kn:=A3 Tryz.prog 99 Ag.Ex.spec
theorem Ag.Ex.Ac (hk:Ax Tryz.prog Ag.Ex.A6) (h:∀ (x y:List Int),Ag.Ex.pre [.l x,.l y]=true→A8 Ag.Ex.E Tryz.f99 [.ints .arg .u64 x,.ints .arg .u64 y] (Ag.Ex.out [.l x,.l y])):Ag.Ex.Kn :=
  Ak (Az hk _ _ _) Tryz.func99 (by kernel_rfl) (by kernel_rfl) h
end EqVec
open Go Go.Den Go.Rnd Go.Proofs Ieee
open EqVec
theorem Uh {b:Nat} (h3:Am b≠3) (h4:Am b≠4):Aw b=0↔Am b=0 :=
  ⟨fun h=>by
    by_cases h0:Am b=0
    · exact h0
    · exact absurd h (Om h0 h3 h4),Vq⟩
theorem K2 (s:Bool):Dx (Bl s Eb)=Bl s Eb:=Gu s (Nat.le_refl _)
theorem Ul {a b:Nat} (ha:a<2^64) (hb:b<2^64) {d:Nat} (hd:Am d=4):Dx ((Ieee.double.mul a b).getD d)=(Nj a b).1:=by
  have cd:Dx d=P8:=if_pos hd
  have ex:∀ s t:Bool,(s ^^ t)=(s !=t):=fun s t=>by cases s<;>cases t<;>rfl
  unfold Format.mul
  rw [I1 ha,I1 hb]
  unfold Nj
  by_cases a4:Am a=4
  · rw [if_pos (.inl a4),G2 a4]; exact cd
  · by_cases b4:Am b=4
    · rw [if_pos (.inr b4),G2 b4]
      by_cases a3:Am a=3
      · rw [Ek a3]; exact cd
      · rw [Ej a3 a4]; exact cd
    · rw [if_neg (fun h=>h.elim a4 b4)]
      by_cases a3:Am a=3
      · rw [if_pos (.inl a3),Ek a3]
        by_cases b3:Am b=3
        · rw [Ek b3,if_neg (by omega)]
          show Dx (Bl (Bt a ^^ Bt b) Eb)=_
          rw [K2,ex]
        · rw [Ej b3 b4]
          have z:=Uh b3 b4
          by_cases b0:Am b=0
          · have e:(Datum.infinity (Bt a)).product (.number (Bt b) (Aw b) (A2 b))=none:=if_pos (z.2 b0)
            rw [e,if_pos (.inr b0)]; exact cd
          · have e:(Datum.infinity (Bt a)).product (.number (Bt b) (Aw b) (A2 b))=some (.infinity (Bt a ^^ Bt b)):=if_neg (fun k=>b0 (z.1 k))
            rw [e,if_neg (by omega)]
            show Dx (Bl (Bt a ^^ Bt b) Eb)=_
            rw [K2,ex]
      · rw [Ej a3 a4]
        have z:=Uh a3 a4
        by_cases b3:Am b=3
        · rw [if_pos (.inr b3),Ek b3]
          have sw:∀ s t:Bool,(t ^^ s)=(s !=t):=fun s t=>by cases s<;>cases t<;>rfl
          by_cases a0:Am a=0
          · have e:(Datum.number (Bt a) (Aw a) (A2 a)).product (.infinity (Bt b))=none:=if_pos (z.2 a0)
            rw [e,if_pos (.inl a0)]; exact cd
          · have e:(Datum.number (Bt a) (Aw a) (A2 a)).product (.infinity (Bt b))=some (.infinity (Bt b ^^ Bt a)):=if_neg (fun k=>a0 (z.1 k))
            rw [e,if_neg (by omega)]
            show Dx (Bl (Bt b ^^ Bt a) Eb)=_
            rw [K2,sw]
        · rw [Ej b3 b4,if_neg (by omega)]
          show Dx (Ieee.double.write (.number (Bt a ^^ Bt b) (Aw a*Aw b) (A2 a+A2 b)))=_
          rw [Mm,Gu _ (K5 _ _),ex]
theorem Gq:Am nanBits=4:=by decide +kernel
theorem Ae.Add.known:Ae.Add.Kn:=Ae.Add.Ac (.cons sum.Add.known .nil) fun a b hp=>by
  have hp:(Af a&&Af b)=true:=hp
  refine ⟨0,Ae.Add.out [.i a,.i b],[],?_,.int⟩
  rw [Ae.Add.ev,hp]; rfl
theorem Ae.Sub.known:Ae.Sub.Kn:=Ae.Sub.Ac (.cons sum.Sub.known .nil) fun a b hp=>by
  have hp:(Af a&&Af b)=true:=hp
  refine ⟨0,Ae.Sub.out [.i a,.i b],[],?_,.int⟩
  rw [Ae.Sub.ev,hp]; rfl
theorem Ae.Mul.known:Ae.Mul.Kn:=Ae.Mul.Ac (.cons times.Mul.known .nil) fun a b hp=>by
  have hp:(Af a&&Af b)=true:=hp
  refine ⟨0,Ae.Mul.out [.i a,.i b],[],?_,.int⟩
  rw [Ae.Mul.ev,hp]; rfl
theorem Aos (x y:List Int):(bif ((List.length x:Int)==(List.length y:Int)) then (D6 (List.length x:Int) (64:Int)) else false)=O3 x y:=by
  unfold O3
  rw [Ef,Ay8]
  by_cases h:x.length=y.length
  · have:((x.length:Int)==(y.length:Int))=true:=by rw [beq_iff_eq]; omega
    rw [this,Ays,Ayt h,Bool.true_and,Ayz,Ayz]; omega
  · have:((x.length:Int)==(y.length:Int))=false:=by rw [beq_eq_false_iff_ne]; omega
    rw [this,Ayw,Ayx h,Bool.false_and]
theorem Ae.fit.known:Ae.fit.Kn:=Ae.fit.Ac .nil fun x y _=>by
  refine ⟨0,Ae.fit.out [.l x,.l y],[],?_,.bool⟩
  rw [Ae.fit.ev,Aos]; rfl
theorem Ru {x y:List Int}:O3 x y=true↔x.length=y.length∧x.length≤64:=by unfold O3; simp
theorem U5 {l:List Int} {i:Nat} (h:i<l.length):l.drop i=l.getD i 0::l.drop (i+1):=by
  rw [List.drop_eq_getElem_cons h,Ay2,Ay9 h]; rfl
theorem Af3 {x y:List Int} {i:Nat} (s:Nat) (hx:i<x.length) (hy:i<y.length) :
    Adf s (x.drop i) (y.drop i)=Adf (K3 s (Nj (x.getD i 0).toNat (y.getD i 0).toNat).1).1 (x.drop (i+1)) (y.drop (i+1)):=by
  rw [U5 hx,U5 hy]; rfl
theorem Ao4 (N:Nat) {x y:List Int} (hf:O3 x y=true) (hx:Ah x=true) (hy:Ah y=true):∀ (k i F s:Nat),i+k=x.length→k<F→s<2^64 →
    Ae.H3.L0 N F x y (s:Int) (i:Int)=some (.tup [.int .u64 ((Adf s (x.drop i) (y.drop i):Nat):Int),.int .i64 (0:Int)]):=by
  obtain ⟨h1,h2⟩:=Ru.1 hf
  intro k
  induction k with
  | zero =>
    intro i F s hi hF hs
    obtain ⟨F,rfl⟩:∃ G,F=G+1:=⟨F-1,by omega⟩
    rw [Ae.H3.Ar,As,Ayx (by omega),Ayw,Ay6 (by omega)]
    rfl
  | succ k ih =>
    intro i F s hi hF hs
    obtain ⟨F,rfl⟩:∃ G,F=G+1:=⟨F-1,by omega⟩
    have c1:decide ((i:Int)<(x.length:Int))=true:=Ayt (by omega)
    have c2:decide ((i:Int)<(y.length:Int))=true:=Ayt (by omega)
    have c3:decide ((0:Int)≤(i:Int))=true:=Ayt (by omega)
    have g1:=La hx (show i<x.length by omega)
    have g2:=La hy (show i<y.length by omega)
    have em:D3 (x.getD i 0) (y.getD i 0)=(((Nj (x.getD i 0).toNat (y.getD i 0).toNat).1:Nat):Int):=rfl
    have ea:∀ t:Nat,Jx (s:Int) (t:Int)=(((K3 s t).1:Nat):Int):=fun t=>rfl
    rw [Ae.H3.Ar,As,c1,c2,c3,Ayu,g1,g2,em,ea,Cb hs,Cb Ro,Ayy,Ays,Ays,Ays,Ays,Ays,Al (by omega) (by omega),Af3 s (by omega) (by omega)]
    exact ih (i+1) F _ (by omega) (by omega) (Va hs Ro).1
theorem Ae.H3.known:Ae.H3.Kn:=Ae.H3.Ac (.cons Ae.Add.known (.cons Ae.Mul.known (.cons Ae.fit.known .nil))) fun x y hp=>by
  obtain ⟨h1,hy⟩:=Ad.1 hp
  obtain ⟨hf,hx⟩:=Ad.1 h1
  refine ⟨x.length+1,Ae.H3.out [.l x,.l y],[],?_,Wk.Gp (.cons .int (.cons .int .nil))⟩
  rw [Ae.H3.ev,hf,Bool.not_true,Ayw]
  exact Ao4 _ hf hx hy x.length 0 _ 0 (by omega) (by omega) (by decide)
theorem Ag.F.known:Ag.F.Kn:=Ag.F.Ac .nil fun x hp=>by
  obtain ⟨n,rfl,hn⟩:=Bm (x:=x) hp
  refine ⟨0,Ag.F.out [.i n],[],?_,.fl⟩
  rw [Ag.F.ev,Ayt (Int.natCast_nonneg n)]; rfl
theorem Ag.B.known:Ag.B.Kn:=Ag.B.Ac (.cons E0.Canon.Ans .nil) fun x _=>by
  refine ⟨0,Ag.B.out [.f x],[],?_,.int⟩
  rw [Ag.B.ev]; rfl
theorem Ag.Add.known:Ag.Add.Kn:=Ag.Add.Ac (.cons Ag.B.known (.cons Ag.F.known .nil)) fun a b hp=>by
  obtain ⟨ha,hb⟩:=Ad.1 hp
  obtain ⟨a,rfl,hn⟩:=Bm ha
  obtain ⟨b,rfl,hm⟩:=Bm hb
  refine ⟨0,Ag.Add.out [.i a,.i b],[],?_,.int⟩
  rw [Ag.Add.ev,ha,hb,Ayu,Ayu]
  unfold Fw
  rw [Apm hn hm Gq]; rfl
theorem Ag.Sub.known:Ag.Sub.Kn:=Ag.Sub.Ac (.cons Ag.B.known (.cons Ag.F.known .nil)) fun a b hp=>by
  obtain ⟨ha,hb⟩:=Ad.1 hp
  obtain ⟨a,rfl,hn⟩:=Bm ha
  obtain ⟨b,rfl,hm⟩:=Bm hb
  refine ⟨0,Ag.Sub.out [.i a,.i b],[],?_,.int⟩
  rw [Ag.Sub.ev,ha,hb,Ayu,Ayu]
  unfold Fw
  rw [Ams hn hm Gq]; rfl
theorem Ag.Mul.known:Ag.Mul.Kn:=Ag.Mul.Ac (.cons Ag.B.known (.cons Ag.F.known .nil)) fun a b hp=>by
  obtain ⟨ha,hb⟩:=Ad.1 hp
  obtain ⟨a,rfl,hn⟩:=Bm ha
  obtain ⟨b,rfl,hm⟩:=Bm hb
  refine ⟨0,Ag.Mul.out [.i a,.i b],[],?_,.int⟩
  rw [Ag.Mul.ev,ha,hb,Ayu,Ayu]
  unfold Fw
  rw [Ul hn hm Gq]; rfl
theorem Acp (N:Nat) {x y:List Int} (hf:O3 x y=true) (hx:Ah x=true) (hy:Ah y=true):∀ (k i F s:Nat),i+k=x.length→k<F→s<2^64 →
    Ag.H3.L0 N F x y (s:Int) (i:Int)=some (.int .u64 ((Adf s (x.drop i) (y.drop i):Nat):Int)):=by
  obtain ⟨h1,h2⟩:=Ru.1 hf
  intro k
  induction k with
  | zero =>
    intro i F s hi hF hs
    obtain ⟨F,rfl⟩:∃ G,F=G+1:=⟨F-1,by omega⟩
    rw [Ag.H3.Ar,As,Ayx (by omega),Ayw,Ay6 (by omega)]
    rfl
  | succ k ih =>
    intro i F s hi hF hs
    obtain ⟨F,rfl⟩:∃ G,F=G+1:=⟨F-1,by omega⟩
    have c1:decide ((i:Int)<(x.length:Int))=true:=Ayt (by omega)
    have c2:decide ((i:Int)<(y.length:Int))=true:=Ayt (by omega)
    have c3:decide ((0:Int)≤(i:Int))=true:=Ayt (by omega)
    have g1:=La hx (show i<x.length by omega)
    have g2:=La hy (show i<y.length by omega)
    have em:D3 (x.getD i 0) (y.getD i 0)=(((Nj (x.getD i 0).toNat (y.getD i 0).toNat).1:Nat):Int):=rfl
    have ea:∀ t:Nat,Jx (s:Int) (t:Int)=(((K3 s t).1:Nat):Int):=fun t=>rfl
    rw [Ag.H3.Ar,As,c1,c2,c3,Ayu,g1,g2,em,ea,Cb hs,Cb Ro,Ayy,Ays,Ays,Ays,Ays,Ays,Al (by omega) (by omega),Af3 s (by omega) (by omega)]
    exact ih (i+1) F _ (by omega) (by omega) (Va hs Ro).1
theorem Ag.H3.known:Ag.H3.Kn:=Ag.H3.Ac (.cons Ag.Add.known (.cons Ag.Mul.known .nil)) fun x y hp=>by
  obtain ⟨h1,hy⟩:=Ad.1 hp
  obtain ⟨hf,hx⟩:=Ad.1 h1
  refine ⟨x.length+1,Ag.H3.out [.l x,.l y],[],?_,.int⟩
  rw [Ag.H3.ev]
  exact Acp _ hf hx hy x.length 0 _ 0 (by omega) (by omega) (by decide)
theorem Akb (N:Nat) (x y:List Int) (hl:x.length=y.length) (hb:x.length<2^62):∀ (k i F:Nat),i+k=x.length→k<F →
    Ag.Ex.L0 N F x y (i:Int)=some (.bool (T4 (x.drop i) (y.drop i))):=by
  intro k
  induction k with
  | zero =>
    intro i F hi hF
    obtain ⟨F,rfl⟩:∃ G,F=G+1:=⟨F-1,by omega⟩
    rw [Ag.Ex.Ar,As,Ayx (by omega),Ayw,Ay6 (by omega),Ay6 (by omega)]
    rfl
  | succ k ih =>
    intro i F hi hF
    obtain ⟨F,rfl⟩:∃ G,F=G+1:=⟨F-1,by omega⟩
    have c1:decide ((i:Int)<(x.length:Int))=true:=Ayt (by omega)
    have c2:decide ((i:Int)<(y.length:Int))=true:=Ayt (by omega)
    have c3:decide ((0:Int)≤(i:Int))=true:=Ayt (by omega)
    rw [Ag.Ex.Ar,As,c1,c2,c3,Ayu,U5 (show i<x.length by omega),U5 (show i<y.length by omega)]
    unfold T4
    by_cases h:x.getD i 0=y.getD i 0
    · have:(x.getD i 0 !=y.getD i 0)=false:=by rw [h]; simp
      have ih:=ih (i+1) F (by omega) (by omega)
      unfold T4 at ih
      rw [this,Ayy,Ays,Ays,Ays,Ayw,Al (by omega) (by omega)]
      refine ih.trans ?_
      rw [h]
      simp
    · have:(x.getD i 0 !=y.getD i 0)=true:=by simpa using h
      rw [this,Ayy,Ays,Ays,Ays,Ays]
      simp only [List.cons.injEq,h,false_and,decide_false]
theorem Ag.Ex.known:Ag.Ex.Kn:=Ag.Ex.Ac .nil fun x y hp=>by
  have hp:=Aq.1 (show Lg x=true from hp)
  refine ⟨x.length+1,Ag.Ex.out [.l x,.l y],[],?_,.bool⟩
  rw [Ag.Ex.ev]
  by_cases h:x.length=y.length
  · have:((x.length:Int) !=(y.length:Int))=false:=by rw [h]; simp
    rw [this,Ayw]
    exact Akb _ x y h (by omega) x.length 0 _ (by omega) (by omega)
  · have:((x.length:Int) !=(y.length:Int))=true:=by simp only [bne_iff_ne,ne_eq]; omega
    rw [this,Ays]
    have e:T4 x y=false:=Ayx fun k=>h (by rw [k])
    show _=some (DV.bool (T4 x y))
    rw [e]
namespace EqMat
def Aa.size.A6:List (Nat × Entry):=[]
def Aa.size.E:Env:=A9 (A5 Aa.size.A6) (fun _=>false) (fun _=>none) (fun _=>none)
theorem Aa.size.ev (N:Nat) (n:Int):Bq Aa.size.E N Tryz.f204 (An Tryz.f204) [.int .i64 n]=some (.bool (bif (D6 0 n) then (D6 n 6) else false)) :=
  Eq.trans (by kernel_rfl)
  (Av (N2 (D6 0 n)) (Av (Lt (D6 0 n)) (Av (Sr (D6 0 n)) rfl)))
abbrev _root_.Go.Proofs.S1.Aa.size.Kn:=A3 Tryz.prog 204 Aa.size.spec
theorem Aa.size.Ac (hk:Ax Tryz.prog Aa.size.A6) (h:∀ (n:Int),Aa.size.pre [.i n]=true→A8 Aa.size.E Tryz.f204 [.int .i64 n] (Aa.size.out [.i n])):Aa.size.Kn :=
  Ak (Az hk _ _ _) Tryz.func204 (by kernel_rfl) (by kernel_rfl) h
def Aa.Check.A6:List (Nat × Entry):=[(204,Aa.size.spec)]
def Aa.Check.E:Env:=A9 (A5 Aa.Check.A6) (fun _=>false) (fun _=>none) (fun _=>none)
theorem Aa.Check.ev (N:Nat) (r c:Int) (l:List Int):Bq Aa.Check.E N Tryz.f160 (An Tryz.f160) [.agg [.int .i64 r,.int .i64 c,.ints .arg .u64 l]]=bif (((!(Bg r))||(!(Bg c)))||((List.length l:Int) !=(Ab (r*c)))) then some (.int .i64 1) else some (.int .i64 0) :=
  Eq.trans (by kernel_rfl)
  (Av (Ab8 (Bg r)) (Av (R8 (Bg r)) (Av (R8 (Bg r)) (Av (R8 (Bg r)) (Av (Ab9 (Bg r)) (Av (As4 (Bg r) (Bg c)) (Av (Aqb (Bg r) (Bg c)) (Av (Aqb (Bg r) (Bg c)) (Av (As4 (Bg r) (Bg c)) (Av (Aqb (Bg r) (Bg c)) (Av (As4 (Bg r) (Bg c)) (Av (Aqb (Bg r) (Bg c)) (Av (Avh (Bg r) (Bg c)) (Av (Avh (Bg r) (Bg c)) (Av (Ax0 (Bg r) (Bg c)) (C0 (Ax1 (Bg r) (Bg c) ((List.length l:Int) !=(Ab (r*c)))) rfl rfl))))))))))))))))
abbrev _root_.Go.Proofs.S1.Aa.Check.Kn:=A3 Tryz.prog 160 Aa.Check.spec
theorem Aa.Check.Ac (hk:Ax Tryz.prog Aa.Check.A6) (h:∀ (r c:Int) (l:List Int),Aa.Check.pre [.i r,.i c,.l l]=true→A8 Aa.Check.E Tryz.f160 [.agg [.int .i64 r,.int .i64 c,.ints .arg .u64 l]] (Aa.Check.out [.i r,.i c,.l l])):Aa.Check.Kn :=
  Ak (Az hk _ _ _) Tryz.func160 (by kernel_rfl) (by kernel_rfl) h
def Aa.get.A6:List (Nat × Entry):=[]
def Aa.get.E:Env:=A9 (A5 Aa.get.A6) (fun _=>false) (fun _=>none) (fun _=>none)
theorem Aa.get.ev (N:Nat) (r c:Int) (l:List Int) (i k:Int):Bq Aa.get.E N Tryz.f193 (An Tryz.f193) [.agg [.int .i64 r,.int .i64 c,.ints .arg .u64 l],.int .i64 i,.int .i64 k]=bif ((decide (0≤(Ab ((Ab (i*c))+k))))&&(decide ((Ab ((Ab (i*c))+k))<(List.length l:Int)))) then some (.int .u64 (List.getD l (Int.toNat (Ab ((Ab (i*c))+k))) 0)) else none:=by kernel_rfl
abbrev _root_.Go.Proofs.S1.Aa.get.Kn:=A3 Tryz.prog 193 Aa.get.spec
theorem Aa.get.Ac (hk:Ax Tryz.prog Aa.get.A6) (h:∀ (r c:Int) (l:List Int) (i k:Int),Aa.get.pre [.i r,.i c,.l l,.i i,.i k]=true→A8 Aa.get.E Tryz.f193 [.agg [.int .i64 r,.int .i64 c,.ints .arg .u64 l],.int .i64 i,.int .i64 k] (Aa.get.out [.i r,.i c,.l l,.i i,.i k])):Aa.get.Kn :=
  Ak (Az hk _ _ _) Tryz.func193 (by kernel_rfl) (by kernel_rfl) h
def Aa.two.A6:List (Nat × Entry):=[(160,Aa.Check.spec)]
def Aa.two.E:Env:=A9 (A5 Aa.two.A6) (fun _=>false) (fun _=>none) (fun _=>none)
theorem Aa.two.ev (N:Nat) (r c:Int) (l:List Int) (p q:Int) (m:List Int):Bq Aa.two.E N Tryz.f186 (An Tryz.f186) [.agg [.int .i64 r,.int .i64 c,.ints .arg .u64 l],.agg [.int .i64 p,.int .i64 q,.ints .arg .u64 m]]=bif (((K1 r c l) !=(0:Int))||((K1 p q m) !=(0:Int))) then some (.int .i64 1) else some (.int .i64 0) :=
  Eq.trans (by kernel_rfl)
  (Av (Se ((K1 r c l) !=(0:Int))) (Av (Qa ((K1 r c l) !=(0:Int))) (Av (Qa ((K1 r c l) !=(0:Int))) (Av (W4 ((K1 r c l) !=(0:Int))) (C0 (tt5 ((K1 r c l) !=(0:Int)) ((K1 p q m) !=(0:Int))) rfl rfl)))))
abbrev _root_.Go.Proofs.S1.Aa.two.Kn:=A3 Tryz.prog 186 Aa.two.spec
theorem Aa.two.Ac (hk:Ax Tryz.prog Aa.two.A6) (h:∀ (r c:Int) (l:List Int) (p q:Int) (m:List Int),Aa.two.pre [.i r,.i c,.l l,.i p,.i q,.l m]=true→A8 Aa.two.E Tryz.f186 [.agg [.int .i64 r,.int .i64 c,.ints .arg .u64 l],.agg [.int .i64 p,.int .i64 q,.ints .arg .u64 m]] (Aa.two.out [.i r,.i c,.l l,.i p,.i q,.l m])):Aa.two.Kn :=
  Ak (Az hk _ _ _) Tryz.func186 (by kernel_rfl) (by kernel_rfl) h
def Aa.Row.A6:List (Nat × Entry):=[]
def Aa.Row.E:Env:=A9 (A5 Aa.Row.A6) (fun _=>false) (fun _=>none) (fun _=>none)
theorem Aa.Row.ev (N:Nat) (r c:Int) (l:List Int) (i f:Int):Bq Aa.Row.E N Tryz.f190 (An Tryz.f190) [.agg [.int .i64 r,.int .i64 c,.ints .arg .u64 l],.int .i64 i,.int .i64 f]=bif (((decide ((0:Int)≤(Ab ((Ab (i*c))+f))))&&(decide ((Ab ((Ab (i*c))+f))≤(Ab ((Ab (i+1))*c)))))&&((decide ((0:Int)≤(Ab ((Ab (i+1))*c))))&&(decide ((Ab ((Ab (i+1))*c))≤(List.length l:Int))))) then bif (decide (0+(List.length (List.drop (Int.toNat (Ab ((Ab (i*c))+f))) (List.take (Int.toNat (Ab ((Ab (i+1))*c))) l)))≤Gt)) then some (.ints (.own 22 37) .u64 ([]++(List.drop (Int.toNat (Ab ((Ab (i*c))+f))) (List.take (Int.toNat (Ab ((Ab (i+1))*c))) l)))) else none else none :=
  Eq.trans (by kernel_rfl)
  (C0 (Avg (decide ((0:Int)≤(Ab ((Ab (i*c))+f)))) (decide ((Ab ((Ab (i*c))+f))≤(Ab ((Ab (i+1))*c)))) (decide ((0:Int)≤(Ab ((Ab (i+1))*c)))) (decide ((Ab ((Ab (i+1))*c))≤(List.length l:Int)))) rfl rfl)
abbrev _root_.Go.Proofs.S1.Aa.Row.Kn:=A3 Tryz.prog 190 Aa.Row.spec
theorem Aa.Row.Ac (hk:Ax Tryz.prog Aa.Row.A6) (h:∀ (r c:Int) (l:List Int) (i f:Int),Aa.Row.pre [.i r,.i c,.l l,.i i,.i f]=true→A8 Aa.Row.E Tryz.f190 [.agg [.int .i64 r,.int .i64 c,.ints .arg .u64 l],.int .i64 i,.int .i64 f] (Aa.Row.out [.i r,.i c,.l l,.i i,.i f])):Aa.Row.Kn :=
  Ak (Az hk _ _ _) Tryz.func190 (by kernel_rfl) (by kernel_rfl) h
def Aa.D1.hint:Nat→Option Ba
  | 0=>some { keep:=[1,3,7,8],objs:=[(0,7,100007,.ints 37 .u64 [])],boxes:=[3] }
  | _=>none
def Aa.D1.A6:List (Nat × Entry):=[(193,Aa.get.spec)]
def Aa.D1.E:Env:=A9 (A5 Aa.D1.A6) (fun _=>false) Aa.D1.hint (fun _=>none)
def Aa.D1.L0 (N M:Nat) (r c:Int) (l:List Int) (k p8:Int) (p7:List Int):Option DV:=B0 Aa.D1.E N Tryz.f191 (An Tryz.f191) [1,1,0,1,0] [] M ⟨Gj 24 [(1,.int .i64 k),(3,.ptr 3 0 0),(7,.oref 100007),(8,.int .i64 p8)],[(3,false,.box [.int .i64 r,.int .i64 c,.ints .arg .u64 l]),(100007,false,.ints 37 .u64 p7)]⟩
theorem Aa.D1.Ar (N M:Nat) (r c:Int) (l:List Int) (k p8:Int) (p7:List Int):Aa.D1.L0 N (M+1) r c l k p8 p7=bif (A4 p8 r) then bif (C2 r c l p8 k) then bif (decide ((List.length p7)+1≤Gt)) then Aa.D1.L0 N M r c l k (Ab (p8+1)) (p7++[(D9 c l p8 k)]) else none else none else some (.ints (.own 100007 37) .u64 p7):=by kernel_rfl
theorem Aa.D1.ev (N:Nat) (r c:Int) (l:List Int) (k f:Int):Bq Aa.D1.E N Tryz.f191 (An Tryz.f191) [.agg [.int .i64 r,.int .i64 c,.ints .arg .u64 l],.int .i64 k,.int .i64 f] =
  Aa.D1.L0 N N r c l k f []:=by kernel_rfl
abbrev _root_.Go.Proofs.S1.Aa.D1.Kn:=A3 Tryz.prog 191 Aa.D1.spec
theorem Aa.D1.Ac (hk:Ax Tryz.prog Aa.D1.A6) (h:∀ (r c:Int) (l:List Int) (k f:Int),Aa.D1.pre [.i r,.i c,.l l,.i k,.i f]=true→A8 Aa.D1.E Tryz.f191 [.agg [.int .i64 r,.int .i64 c,.ints .arg .u64 l],.int .i64 k,.int .i64 f] (Aa.D1.out [.i r,.i c,.l l,.i k,.i f])):Aa.D1.Kn :=
  Ak (Az hk _ _ _) Tryz.func191 (by kernel_rfl) (by kernel_rfl) h
def Aa.Ei.A6:List (Nat × Entry):=[]
def Aa.Ei.E:Env:=A9 (A5 Aa.Ei.A6) (fun _=>false) (fun _=>none) (fun _=>none)
theorem Aa.Ei.ev (N:Nat) (i k:Int):Bq Aa.Ei.E N Tryz.f205 (An Tryz.f205) [.int .i64 i,.int .i64 k]=some (.int .u64 0):=by kernel_rfl
abbrev _root_.Go.Proofs.S1.Aa.Ei.Kn:=A3 Tryz.prog 205 Aa.Ei.spec
theorem Aa.Ei.Ac (hk:Ax Tryz.prog Aa.Ei.A6) (h:∀ (i k:Int),Aa.Ei.pre [.i i,.i k]=true→A8 Aa.Ei.E Tryz.f205 [.int .i64 i,.int .i64 k] (Aa.Ei.out [.i i,.i k])):Aa.Ei.Kn :=
  Ak (Az hk _ _ _) Tryz.func205 (by kernel_rfl) (by kernel_rfl) h
def Aa.Ii.A6:List (Nat × Entry):=[]
def Aa.Ii.E:Env:=A9 (A5 Aa.Ii.A6) (fun _=>false) (fun _=>none) (fun _=>none)
theorem Aa.Ii.ev (N:Nat) (i k:Int):Bq Aa.Ii.E N Tryz.f246 (An Tryz.f246) [.int .i64 i,.int .i64 k]=bif (i==k) then some (.int .u64 4607182418800017408) else some (.int .u64 0):=by kernel_rfl
abbrev _root_.Go.Proofs.S1.Aa.Ii.Kn:=A3 Tryz.prog 246 Aa.Ii.spec
theorem Aa.Ii.Ac (hk:Ax Tryz.prog Aa.Ii.A6) (h:∀ (i k:Int),Aa.Ii.pre [.i i,.i k]=true→A8 Aa.Ii.E Tryz.f246 [.int .i64 i,.int .i64 k] (Aa.Ii.out [.i i,.i k])):Aa.Ii.Kn :=
  Ak (Az hk _ _ _) Tryz.func246 (by kernel_rfl) (by kernel_rfl) h
def Aa.Fy.A6:List (Nat × Entry):=[(193,Aa.get.spec)]
def Aa.Fy.E:Env:=A9 (A5 Aa.Fy.A6) (fun _=>false) (fun _=>none) (fun _=>none)
theorem Aa.Fy.ev (N:Nat) (i k:Int) (r c:Int) (l:List Int):Bq Aa.Fy.E N Tryz.f220 (An Tryz.f220) [.int .i64 i,.int .i64 k,.cellp [.int .i64 r,.int .i64 c,.ints .arg .u64 l]]=bif (C2 r c l k i) then some (.int .u64 (D9 c l k i)) else none:=by kernel_rfl
abbrev _root_.Go.Proofs.S1.Aa.Fy.Kn:=A3 Tryz.prog 220 Aa.Fy.spec
theorem Aa.Fy.Ac (hk:Ax Tryz.prog Aa.Fy.A6) (h:∀ (i k:Int) (r c:Int) (l:List Int),Aa.Fy.pre [.i i,.i k,.i r,.i c,.l l]=true→A8 Aa.Fy.E Tryz.f220 [.int .i64 i,.int .i64 k,.cellp [.int .i64 r,.int .i64 c,.ints .arg .u64 l]] (Aa.Fy.out [.i i,.i k,.i r,.i c,.l l])):Aa.Fy.Kn :=
  Ak (Az hk _ _ _) Tryz.func220 (by kernel_rfl) (by kernel_rfl) h
def Aa.F0.A6:List (Nat × Entry):=[(193,Aa.get.spec)]
def Aa.F0.E:Env:=A9 (A5 Aa.F0.A6) (fun _=>false) (fun _=>none) (fun _=>none)
theorem Aa.F0.ev (N:Nat) (i k:Int) (r c:Int) (l:List Int) (x y:Int):Bq Aa.F0.E N Tryz.f192 (An Tryz.f192) [.int .i64 i,.int .i64 k,.cellp [.int .i64 r,.int .i64 c,.ints .arg .u64 l],.cellp [.int .i64 x],.cellp [.int .i64 y]]=bif (C2 r c l (Ab (x+i)) (Ab (y+k))) then some (.int .u64 (D9 c l (Ab (x+i)) (Ab (y+k)))) else none:=by kernel_rfl
abbrev _root_.Go.Proofs.S1.Aa.F0.Kn:=A3 Tryz.prog 192 Aa.F0.spec
theorem Aa.F0.Ac (hk:Ax Tryz.prog Aa.F0.A6) (h:∀ (i k:Int) (r c:Int) (l:List Int) (x y:Int),Aa.F0.pre [.i i,.i k,.i r,.i c,.l l,.i x,.i y]=true→A8 Aa.F0.E Tryz.f192 [.int .i64 i,.int .i64 k,.cellp [.int .i64 r,.int .i64 c,.ints .arg .u64 l],.cellp [.int .i64 x],.cellp [.int .i64 y]] (Aa.F0.out [.i i,.i k,.i r,.i c,.l l,.i x,.i y])):Aa.F0.Kn :=
  Ak (Az hk _ _ _) Tryz.func192 (by kernel_rfl) (by kernel_rfl) h
def Aa.Eu.A6:List (Nat × Entry):=[(193,Aa.get.spec)]
def Aa.Eu.E:Env:=A9 (A5 Aa.Eu.A6) (fun _=>false) (fun _=>none) (fun _=>none)
theorem Aa.Eu.ev (N:Nat) (i k:Int) (r c:Int) (l:List Int) (p q:Int) (m:List Int):Bq Aa.Eu.E N Tryz.f195 (An Tryz.f195) [.int .i64 i,.int .i64 k,.cellp [.int .i64 r,.int .i64 c,.ints .arg .u64 l],.cellp [.int .i64 p,.int .i64 q,.ints .arg .u64 m]]=bif (A4 i r) then bif (C2 r c l i k) then some (.int .u64 (D9 c l i k)) else none else bif (C2 p q m (Ab (i-r)) k) then some (.int .u64 (D9 q m (Ab (i-r)) k)) else none:=by kernel_rfl
abbrev _root_.Go.Proofs.S1.Aa.Eu.Kn:=A3 Tryz.prog 195 Aa.Eu.spec
theorem Aa.Eu.Ac (hk:Ax Tryz.prog Aa.Eu.A6) (h:∀ (i k:Int) (r c:Int) (l:List Int) (p q:Int) (m:List Int),Aa.Eu.pre [.i i,.i k,.i r,.i c,.l l,.i p,.i q,.l m]=true→A8 Aa.Eu.E Tryz.f195 [.int .i64 i,.int .i64 k,.cellp [.int .i64 r,.int .i64 c,.ints .arg .u64 l],.cellp [.int .i64 p,.int .i64 q,.ints .arg .u64 m]] (Aa.Eu.out [.i i,.i k,.i r,.i c,.l l,.i p,.i q,.l m])):Aa.Eu.Kn :=
  Ak (Az hk _ _ _) Tryz.func195 (by kernel_rfl) (by kernel_rfl) h
def Aa.Ic.A6:List (Nat × Entry):=[(191,Aa.D1.spec),(190,Aa.Row.spec),(189,Ae.H3.spec)]
def Aa.Ic.E:Env:=A9 (A5 Aa.Ic.A6) (fun _=>false) (fun _=>none) (fun _=>none)
theorem Aa.Ic.ev (N:Nat) (i k:Int) (r c:Int) (l:List Int) (p q:Int) (m:List Int):Bq Aa.Ic.E N Tryz.f188 (An Tryz.f188) [.int .i64 i,.int .i64 k,.cellp [.int .i64 r,.int .i64 c,.ints .arg .u64 l],.cellp [.int .i64 p,.int .i64 q,.ints .arg .u64 m]]=bif (Pg r c l i&&decide ((0:Int)=0)) then bif (G6 p q m k&&Cz (0≤(0:Int)∧(0:Int)≤p)) then bif ((O3 (Ha c l i) (Cu q m k 0 (Int.toNat (p-0)))&&Ah (Ha c l i))&&Ah (Cu q m k 0 (Int.toNat (p-0)))) then some (.int .u64 (Jg (Ha c l i) (Cu q m k 0 (Int.toNat (p-0))))) else none else none else none :=
  Eq.trans (by kernel_rfl)
  (C0 (Cx (Pg r c l i&&decide ((0:Int)=0))) (C0 (Cx (G6 p q m k&&Cz (0≤(0:Int)∧(0:Int)≤p))) (C0 (Cx ((O3 (Ha c l i) (Cu q m k 0 (Int.toNat (p-0)))&&Ah (Ha c l i))&&Ah (Cu q m k 0 (Int.toNat (p-0))))) rfl rfl) rfl) rfl)
abbrev _root_.Go.Proofs.S1.Aa.Ic.Kn:=A3 Tryz.prog 188 Aa.Ic.spec
theorem Aa.Ic.Ac (hk:Ax Tryz.prog Aa.Ic.A6) (h:∀ (i k:Int) (r c:Int) (l:List Int) (p q:Int) (m:List Int),Aa.Ic.pre [.i i,.i k,.i r,.i c,.l l,.i p,.i q,.l m]=true→A8 Aa.Ic.E Tryz.f188 [.int .i64 i,.int .i64 k,.cellp [.int .i64 r,.int .i64 c,.ints .arg .u64 l],.cellp [.int .i64 p,.int .i64 q,.ints .arg .u64 m]] (Aa.Ic.out [.i i,.i k,.i r,.i c,.l l,.i p,.i q,.l m])):Aa.Ic.Kn :=
  Ak (Az hk _ _ _) Tryz.func188 (by kernel_rfl) (by kernel_rfl) h
end EqMat
open EqMat
theorem Jr {a b:Int} (h1:0≤a) (h2:a<20) (h3:0≤b) (h4:b<20):0≤a*b∧a*b<400:=by
  have:=Int.mul_nonneg h1 h3
  have h5:a*b≤19*19:=Int.mul_le_mul (by omega) (by omega) h3 (by omega)
  omega
theorem Aa.size.known:Aa.size.Kn:=Aa.size.Ac .nil fun n _=>by
  refine ⟨0,Aa.size.out [.i n],[],?_,.bool⟩
  have e:(bif (D6 (0:Int) n) then (D6 n (6:Int)) else false)=Bg n:=by
    unfold Bg
    rw [Ef,Ef]
    cases decide (0≤n)<;>rfl
  rw [Aa.size.ev,e]; rfl
theorem Af6 (r c:Int) (l:List Int):(((!(Bg r))||(!(Bg c)))||((List.length l:Int) !=(Ab (r*c))))=!(A0 r c l):=by
  unfold A0
  cases h1:Bg r with
  | false=>rfl
  | true =>
    cases h2:Bg c with
    | false=>rfl
    | true =>
      obtain ⟨r1,r2⟩:=Im.1 h1
      obtain ⟨c1,c2⟩:=Im.1 h2
      have:=Jr (a:=r) (b:=c) r1 (by omega) c1 (by omega)
      rw [Al (by omega) (by omega),Ay8]
      simp
theorem Aa.Check.known:Aa.Check.Kn:=Aa.Check.Ac (.cons Aa.size.known .nil) fun r c l _=>by
  refine ⟨0,Aa.Check.out [.i r,.i c,.l l],[],?_,.int⟩
  rw [Aa.Check.ev,Af6]
  show _=some (DV.int .i64 (K1 r c l))
  unfold K1
  cases A0 r c l<;>rfl
theorem K8 {c i k:Int} {l:List Int} {R:Int} (h:C2 R c l i k=true):Ab (Ab (i*c)+k)=i*c+k∧0≤i*c+k∧i*c+k<l.length:=by
  obtain ⟨h1,h2,h3,h4,h5,h6,h7,_⟩:=Aq.1 h
  have:=Jr h1 (by omega) h5 (by omega)
  rw [Al (x:=i*c) (by omega) (by omega),Al (by omega) (by omega)]
  omega
theorem Aa.get.known:Aa.get.Kn:=Aa.get.Ac .nil fun r c l i k hp=>by
  obtain ⟨e,h1,h2⟩:=K8 (R:=r) (show C2 r c l i k=true from hp)
  refine ⟨0,Aa.get.out [.i r,.i c,.l l,.i i,.i k],[],?_,.int⟩
  rw [Aa.get.ev,e,Ayt h1,Ayt h2]
  rfl
theorem Tf (r c:Int) (l:List Int):((K1 r c l) !=(0:Int))=!(A0 r c l):=by
  unfold K1
  cases A0 r c l<;>rfl
theorem Aa.two.known:Aa.two.Kn:=Aa.two.Ac (.cons Aa.Check.known .nil) fun r c l p q m _=>by
  refine ⟨0,Aa.two.out [.i r,.i c,.l l,.i p,.i q,.l m],[],?_,.int⟩
  rw [Aa.two.ev,Tf,Tf]
  show _=some (DV.int .i64 (Xr r c l p q m))
  unfold Xr
  cases A0 r c l<;>cases A0 p q m<;>rfl
theorem Aa.Row.known:Aa.Row.Kn:=Aa.Row.Ac .nil fun r c l i f hp=>by
  obtain ⟨h0,hf⟩:=Ad.1 hp
  obtain rfl:=of_decide_eq_true hf
  obtain ⟨hr,hi⟩:=Ad.1 h0
  have hi:=Aq.1 hi
  obtain ⟨R,C,rfl,rfl,r6,c6,hl⟩:=Ce hr
  obtain ⟨I,rfl⟩:∃ k:Nat,i=k:=⟨i.toNat,by omega⟩
  have hm:=Jr (a:=(I:Int)) (b:=(C:Int)) (by omega) (by omega) (by omega) (by omega)
  have hm2:=Jr (a:=(I:Int)+1) (b:=(C:Int)) (by omega) (by omega) (by omega) (by omega)
  have hle:(I+1)*C≤R*C:=Ay4 C (by omega)
  have hle2:I*C≤(I+1)*C:=Ay4 C (by omega)
  have e1:(I:Int)*(C:Int)=((I*C:Nat):Int):=(Azd _ _).symm
  have e2:((I:Int)+1)*(C:Int)=(((I+1)*C:Nat):Int):=by rw [Azd]; rfl
  refine ⟨0,.ints (.own 22 tB) .u64 (Ha (C:Int) l (I:Int)),[22],?_,.drop _ _ _ _ (List.mem_singleton.2 rfl)⟩
  rw [Aa.Row.ev,Al (x:=(I:Int)+1) (by omega) (by omega),Al (x:=(I:Int)*(C:Int)) (by omega) (by omega),Int.add_zero,Al (x:=(I:Int)*(C:Int)) (by omega) (by omega),Al (x:=((I:Int)+1)*(C:Int)) (by omega) (by omega)]
  unfold Ha
  have d1:decide ((0:Int)≤(I:Int)*(C:Int))=true:=Ayt (by omega)
  have d2:decide ((I:Int)*(C:Int)≤((I:Int)+1)*(C:Int))=true:=Ayt (by rw [e1,e2]; omega)
  have d3:decide ((0:Int)≤((I:Int)+1)*(C:Int))=true:=Ayt (by omega)
  have d4:decide (((I:Int)+1)*(C:Int)≤(l.length:Int))=true:=Ayt (by rw [e2]; omega)
  have d5:decide (0+(List.drop ((I:Int)*(C:Int)).toNat (List.take (((I:Int)+1)*(C:Int)).toNat l)).length≤Gt)=true:=by
    refine Ayt ?_
    rw [List.length_drop,List.length_take]
    unfold Gt
    omega
  rw [d1,d2,d3,d4,d5]
  rfl
theorem Gd (c b i:Int) (n:Nat) (l:List Int):(Cu c l b i n).length=n:=by unfold Cu; rw [List.length_map,List.length_range]
theorem Ajl (r c:Int) (l:List Int) (k:Int):Cu c l k 0 (Int.toNat (r-0))=Kk r c l k:=by
  unfold Cu Kk
  rw [Int.sub_zero]
  refine List.map_congr_left fun j _=>?_
  rw [Int.zero_add]
theorem Xo {r:Int} (h:0≤r):Cz (0≤(0:Int)∧0≤r)=true:=Aq.2 ⟨Int.le_refl _,h⟩
theorem Apa (N:Nat) {R C K f:Nat} {l:List Int} (r6:R≤6) (c6:C≤6) (hl:l.length=R*C) (hk:K<C):∀ (k i F:Nat),f+i+k=R→k<F →
    Aa.D1.L0 N F (R:Int) (C:Int) l (K:Int) ((f+i:Nat):Int) (Cu (C:Int) l (K:Int) (f:Int) i)=some (.ints (.own 100007 tB) .u64 (Cu (C:Int) l (K:Int) (f:Int) (R-f))):=by
  intro k
  induction k with
  | zero =>
    intro i F hi hF
    obtain ⟨F,rfl⟩:∃ G,F=G+1:=⟨F-1,by omega⟩
    rw [Aa.D1.Ar,As,Ayx (by omega),Ayw,show R-f=i by omega]
  | succ k ih =>
    intro i F hi hF
    obtain ⟨F,rfl⟩:∃ G,F=G+1:=⟨F-1,by omega⟩
    have d:decide ((Cu (C:Int) l (K:Int) (f:Int) i).length+1≤Gt)=true:=Ayt (by rw [Gd]; unfold Gt; omega)
    rw [Aa.D1.Ar,As,Ayt (by omega),Ays,Du r6 c6 hl (show f+i<R by omega) hk,Ays,d,Ays,Al (by omega) (by omega)]
    have:=ih (i+1) F (by omega) (by omega)
    unfold Cu at this ⊢
    rw [List.range_succ,List.map_append] at this
    exact this
theorem Aa.D1.known:Aa.D1.Kn:=Aa.D1.Ac (.cons Aa.get.known .nil) fun r c l k f hp=>by
  obtain ⟨h0,hf⟩:=Ad.1 (show (G6 r c l k&&Cz (0≤f∧f≤r))=true from hp)
  have hf:=Aq.1 hf
  obtain ⟨hr,hi⟩:=Ad.1 h0
  have hi:=Aq.1 hi
  obtain ⟨R,C,rfl,rfl,r6,c6,hl⟩:=Ce hr
  obtain ⟨K,rfl⟩:∃ j:Nat,k=j:=⟨k.toNat,by omega⟩
  obtain ⟨f,rfl⟩:∃ j:Nat,f=j:=⟨f.toNat,by omega⟩
  refine ⟨8,.ints (.own 100007 tB) .u64 (Cu (C:Int) l (K:Int) (f:Int) (R-f)),[100007],?_,?_⟩
  · rw [Aa.D1.ev]
    exact Apa 8 r6 c6 hl (by omega) (R-f) 0 8 (by omega) (by omega)
  · show Wk _ _ (DV.ints .fresh .u64 (Cu (C:Int) l (K:Int) (f:Int) (Int.toNat ((R:Int)-(f:Int)))))
    rw [show Int.toNat ((R:Int)-(f:Int))=R-f by omega]
    exact .drop _ _ _ _ (List.mem_singleton.2 rfl)
theorem Ln {r c i k:Int} {l:List Int} (h:A0 r c l=true) (h1:0≤i) (h2:i<r) (h3:0≤k) (h4:k<c) (R:Int):C2 R c l i k=true:=by
  obtain ⟨R',C,rfl,rfl,r6,c6,hl⟩:=Ce h
  obtain ⟨I,rfl⟩:∃ j:Nat,i=j:=⟨i.toNat,by omega⟩
  obtain ⟨K,rfl⟩:∃ j:Nat,k=j:=⟨k.toNat,by omega⟩
  exact Du r6 c6 hl (by omega) (by omega)
theorem Aa.Ei.known:Aa.Ei.Kn:=Aa.Ei.Ac .nil fun i k _=>by
  refine ⟨0,Aa.Ei.out [.i i,.i k],[],?_,.int⟩
  rw [Aa.Ei.ev]; rfl
theorem Aa.Ii.known:Aa.Ii.Kn:=Aa.Ii.Ac .nil fun i k _=>by
  refine ⟨0,Aa.Ii.out [.i i,.i k],[],?_,.int⟩
  rw [Aa.Ii.ev]
  show _=some (DV.int .u64 (Nk i k))
  unfold Nk
  by_cases h:i=k
  · have:(i==k)=true:=by rw [h]; simp
    rw [this,if_pos h]; rfl
  · have:(i==k)=false:=by simpa using h
    rw [this,if_neg h]; rfl
theorem Aa.Fy.known:Aa.Fy.Kn:=Aa.Fy.Ac (.cons Aa.get.known .nil) fun i k r c l hp=>by
  have hp:C2 r c l k i=true:=hp
  refine ⟨0,Aa.Fy.out [.i i,.i k,.i r,.i c,.l l],[],?_,.int⟩
  rw [Aa.Fy.ev,hp]; rfl
theorem Aa.F0.known:Aa.F0.Kn:=Aa.F0.Ac (.cons Aa.get.known .nil) fun i k r c l x y hp=>by
  obtain ⟨h1,h2⟩:=Ad.1 hp
  have h2:=Aq.1 h2
  refine ⟨0,Aa.F0.out [.i i,.i k,.i r,.i c,.l l,.i x,.i y],[],?_,.int⟩
  rw [Aa.F0.ev,Al (x:=x+i) (by omega) (by omega),Al (x:=y+k) (by omega) (by omega),h1]; rfl
theorem Aa.Eu.known:Aa.Eu.Kn:=Aa.Eu.Ac (.cons Aa.get.known .nil) fun i k r c l p q m hp=>by
  obtain ⟨h1,h2,h3,h4,h5⟩:=Aq.1 (show Mw r c l p q m i k=true from hp)
  refine ⟨0,Aa.Eu.out [.i i,.i k,.i r,.i c,.l l,.i p,.i q,.l m],[],?_,.int⟩
  show _=some (DV.int .u64 (Ja r c l q m i k))
  rw [Aa.Eu.ev,As,Al (x:=i-r) (by omega) (by omega)]
  unfold Ja
  by_cases h:i<r
  · rw [if_pos h] at h5
    rw [Ayt h,Ays,h5,Ays,if_pos h]
  · rw [if_neg h] at h5
    rw [Ayx h,Ayw,h5,Ays,if_neg h]
theorem Pe {R C:Nat} {l:List Int} (hl:l.length=R*C) {I:Nat} (hi:I<R):(Ha (C:Int) l (I:Int)).length=C:=by
  have hle:(I+1)*C≤R*C:=Ay4 C (by omega)
  have e1:((I:Int)*(C:Int)).toNat=I*C:=by rw [← Azd,Ayu]
  have e2:(((I:Int)+1)*(C:Int)).toNat=(I+1)*C:=by
    have:((I:Int)+1)*(C:Int)=(((I+1)*C:Nat):Int):=by rw [Azd]; rfl
    rw [this,Ayu]
  unfold Ha
  rw [List.length_drop,List.length_take,e1,e2]
  rw [Nat.add_mul,Nat.one_mul] at hle ⊢
  omega
theorem Zt (R:Nat) (C:Int) (l:List Int) (K:Int):(Kk (R:Int) C l K).length=R:=by
  unfold Kk
  rw [List.length_map,List.length_range,Ayu]
theorem Aiv {c i:Int} {l:List Int} (h:Ah l=true):Ah (Ha c l i)=true:=by
  have h:=Aq.1 h
  exact Aq.2 fun x hx=>h x (List.mem_of_mem_take (List.mem_of_mem_drop hx))
theorem G7 {c i k:Int} {l:List Int} (h:Ah l=true):Af (D9 c l i k)=true:=by
  unfold D9
  by_cases hj:(i*c+k).toNat<l.length
  · exact La h hj
  · rw [Ay2,List.getElem?_eq_none (by omega)]
    exact Cb (n:=0) (by decide)
theorem Ajm {r c k:Int} {l:List Int} (h:Ah l=true):Ah (Kk r c l k)=true:=by
  refine Aq.2 fun x hx=>?_
  obtain ⟨j,_,rfl⟩:=List.mem_map.1 hx
  exact G7 h
theorem Aa.Ic.known:Aa.Ic.Kn:=Aa.Ic.Ac (.cons Aa.D1.known (.cons Aa.Row.known (.cons Ae.H3.known .nil))) fun i k r c l p q m hp=>by
  obtain ⟨h1,h2⟩:=Ad.1 (show S2 r c l p q m i k=true from hp)
  obtain ⟨h3,h4⟩:=Ad.1 h1
  obtain ⟨h5,h6⟩:=Ad.1 h2
  obtain ⟨hl,hm⟩:=Ad.1 h5
  obtain rfl:=Aq.1 h6
  obtain ⟨hr,hi⟩:=Ad.1 h3
  have hi:=Aq.1 hi
  obtain ⟨R,C,rfl,rfl,r6,c6,ll⟩:=Ce hr
  obtain ⟨I,rfl⟩:∃ j:Nat,i=j:=⟨i.toNat,by omega⟩
  refine ⟨0,Aa.Ic.out [.i I,.i k,.i R,.i C,.l l,.i C,.i q,.l m],[],?_,.int⟩
  have hf:O3 (Ha (C:Int) l (I:Int)) (Kk (C:Int) q m k)=true:=Ru.2 ⟨by rw [Pe ll (by omega),Zt],by rw [Pe ll (by omega)]; omega⟩
  rw [Aa.Ic.ev,Ajl,h3,h4,hf,Aiv hl,Ajm hm,Xo (by omega)]
  rfl
namespace EqCmp
def compare.Mb.A6:List (Nat × Entry):=[(213,soft.Sign.spec)]
def compare.Mb.E:Env:=A9 (A5 compare.Mb.A6) (fun _=>false) (fun _=>none) (fun _=>none)
theorem compare.Mb.ev (N:Nat) (b:Int):Bq compare.Mb.E N Tryz.f214 (An Tryz.f214) [.int .u64 b]=bif (Af b) then bif (Dt b) then some (.int .i64 (Ab (0-(Ab (Gr .u64 b 9223372036854775808))))) else some (.int .i64 (Ab b)) else none:=by kernel_rfl
abbrev _root_.Go.Proofs.S1.compare.Mb.Kn:=A3 Tryz.prog 214 compare.Mb.spec
theorem compare.Mb.Ac (hk:Ax Tryz.prog compare.Mb.A6) (h:∀ (b:Int),compare.Mb.pre [.i b]=true→A8 compare.Mb.E Tryz.f214 [.int .u64 b] (compare.Mb.out [.i b])):compare.Mb.Kn :=
  Ak (Az hk _ _ _) Tryz.func214 (by kernel_rfl) (by kernel_rfl) h
def compare.Order.A6:List (Nat × Entry):=[(214,compare.Mb.spec),(155,soft.Kind.spec)]
def compare.Order.E:Env:=A9 (A5 compare.Order.A6) (fun _=>false) (fun _=>none) (fun _=>none)
theorem compare.Order.ev (N:Nat) (a b:Int):Bq compare.Order.E N Tryz.f162 (An Tryz.f162) [.int .u64 a,.int .u64 b]=bif (Af a) then bif ((Bd a)==(4:Int)) then some (.tup [.int .i64 0,.bool false]) else bif (Af b) then bif ((Bd b)==(4:Int)) then some (.tup [.int .i64 0,.bool false]) else bif (Af a) then bif (Af b) then bif (A4 (Aa3 a) (Aa3 b)) then some (.tup [.int .i64 (-1:Int),.bool true]) else bif (Af a) then bif (Af b) then bif (A4 (Aa3 b) (Aa3 a)) then some (.tup [.int .i64 1,.bool true]) else some (.tup [.int .i64 0,.bool true]) else none else none else none else none else none else none:=by kernel_rfl
abbrev _root_.Go.Proofs.S1.compare.Order.Kn:=A3 Tryz.prog 162 compare.Order.spec
theorem compare.Order.Ac (hk:Ax Tryz.prog compare.Order.A6) (h:∀ (a b:Int),compare.Order.pre [.i a,.i b]=true→A8 compare.Order.E Tryz.f162 [.int .u64 a,.int .u64 b] (compare.Order.out [.i a,.i b])):compare.Order.Kn :=
  Ak (Az hk _ _ _) Tryz.func162 (by kernel_rfl) (by kernel_rfl) h
def compare.Ml.A6:List (Nat × Entry):=[(162,compare.Order.spec)]
def compare.Ml.E:Env:=A9 (A5 compare.Ml.A6) (fun _=>false) (fun _=>none) (fun _=>none)
theorem compare.Ml.ev (N:Nat) (a b:Int):Bq compare.Ml.E N Tryz.f90 (An Tryz.f90) [.int .u64 a,.int .u64 b]=bif (Af a&&Af b) then some (.bool (A4 (Sy a b) 0)) else none:=by kernel_rfl
abbrev _root_.Go.Proofs.S1.compare.Ml.Kn:=A3 Tryz.prog 90 compare.Ml.spec
theorem compare.Ml.Ac (hk:Ax Tryz.prog compare.Ml.A6) (h:∀ (a b:Int),compare.Ml.pre [.i a,.i b]=true→A8 compare.Ml.E Tryz.f90 [.int .u64 a,.int .u64 b] (compare.Ml.out [.i a,.i b])):compare.Ml.Kn :=
  Ak (Az hk _ _ _) Tryz.func90 (by kernel_rfl) (by kernel_rfl) h
def compare.Hr.A6:List (Nat × Entry):=[]
def compare.Hr.E:Env:=A9 (A5 compare.Hr.A6) (fun _=>false) (fun _=>none) (fun _=>none)
theorem compare.Hr.ev (N:Nat) (a:Int):Bq compare.Hr.E N Tryz.f87 (An Tryz.f87) [.int .u64 a]=some (.int .u64 (Gr .u64 a 9223372036854775808)):=by kernel_rfl
abbrev _root_.Go.Proofs.S1.compare.Hr.Kn:=A3 Tryz.prog 87 compare.Hr.spec
theorem compare.Hr.Ac (hk:Ax Tryz.prog compare.Hr.A6) (h:∀ (a:Int),compare.Hr.pre [.i a]=true→A8 compare.Hr.E Tryz.f87 [.int .u64 a] (compare.Hr.out [.i a])):compare.Hr.Kn :=
  Ak (Az hk _ _ _) Tryz.func87 (by kernel_rfl) (by kernel_rfl) h
def compare.E7.hint:Nat→Option Ba
  | 1=>some { keep:=[0,6,7,8],objs:=[],boxes:=[] }
  | _=>none
def compare.E7.A6:List (Nat × Entry):=[(155,soft.Kind.spec),(212,soft.Di.spec),(211,soft.F9.spec),(213,soft.Sign.spec)]
def compare.E7.E:Env:=A9 (A5 compare.E7.A6) (fun _=>false) compare.E7.hint (fun _=>none)
def compare.E7.L0 (N M:Nat) (a p6 p7:Int) (p8:Bool):Option DV:=B0 compare.E7.E N Tryz.f161 (An Tryz.f161) [1,1,1,1,1,1,0,0] [] M ⟨Gj 59 [(0,.int .u64 a),(6,.int .u64 p6),(7,.int .i64 p7),(8,.bool p8)],[]⟩
theorem compare.E7.Ar (N M:Nat) (a p6 p7:Int) (p8:Bool):compare.E7.L0 N (M+1) a p6 p7 p8=bif ((A4 p7 (-1130:Int))&&(A4 1 p6)) then compare.E7.L0 N M a (Dj .u64 p6 1) (Ab (p7+1)) (bif p8 then true else ((Ev .u64 p6 1)==(1:Int))) else bif (A4 p7 (-1130:Int)) then bif (Af a) then bif (Eg 0 (-1074:Int) true) then some (.tup [.int .u64 (E3 (Dt a) 0 (-1074:Int) true),.int .u8 (E2 (Dt a) 0 (-1074:Int) true)]) else none else none else bif (Af a) then bif (Eg p6 p7 p8) then some (.tup [.int .u64 (E3 (Dt a) p6 p7 p8),.int .u8 (E2 (Dt a) p6 p7 p8)]) else none else none :=
  Eq.trans (by kernel_rfl)
  (Av (N2 (A4 p7 (-1130:Int))) (Av (Lt (A4 p7 (-1130:Int))) (Av (Sr (A4 p7 (-1130:Int))) (C0 (tt1 (A4 p7 (-1130:Int)) (A4 1 p6)) (Av (Se p8) (Av (Qa p8) (Av (Qa p8) (Av (W4 p8) rfl)))) rfl))))
theorem compare.E7.ev (N:Nat) (a n:Int):Bq compare.E7.E N Tryz.f161 (An Tryz.f161) [.int .u64 a,.int .i64 n]=bif (Af a) then bif ((Bd a)==(4:Int)) then some (.tup [.int .u64 9221120237041090560,.int .u8 0]) else bif ((Bd a)==(3:Int)) then bif ((Bd a)==(3:Int)) then some (.tup [.int .u64 a,.int .u8 0]) else bif (Af a) then compare.E7.L0 N N a (Bv a) (Ab ((Bh a)+(max (-2300:Int) (min 2300 n)))) false else none else bif ((Bd a)==(0:Int)) then some (.tup [.int .u64 a,.int .u8 0]) else bif (Af a) then compare.E7.L0 N N a (Bv a) (Ab ((Bh a)+(max (-2300:Int) (min 2300 n)))) false else none else none:=by kernel_rfl
abbrev _root_.Go.Proofs.S1.compare.E7.Kn:=A3 Tryz.prog 161 compare.E7.spec
theorem compare.E7.Ac (hk:Ax Tryz.prog compare.E7.A6) (h:∀ (a n:Int),compare.E7.pre [.i a,.i n]=true→A8 compare.E7.E Tryz.f161 [.int .u64 a,.int .i64 n] (compare.E7.out [.i a,.i n])):compare.E7.Kn :=
  Ak (Az hk _ _ _) Tryz.func161 (by kernel_rfl) (by kernel_rfl) h
def Ae.Bs.A6:List (Nat × Entry):=[(161,compare.E7.spec)]
def Ae.Bs.E:Env:=A9 (A5 Ae.Bs.A6) (fun _=>false) (fun _=>none) (fun _=>none)
theorem Ae.Bs.ev (N:Nat) (a n:Int):Bq Ae.Bs.E N Tryz.f88 (An Tryz.f88) [.int .u64 a,.int .i64 n]=bif (Dh a n) then some (.int .u64 (By a n)) else none:=by kernel_rfl
abbrev _root_.Go.Proofs.S1.Ae.Bs.Kn:=A3 Tryz.prog 88 Ae.Bs.spec
theorem Ae.Bs.Ac (hk:Ax Tryz.prog Ae.Bs.A6) (h:∀ (a n:Int),Ae.Bs.pre [.i a,.i n]=true→A8 Ae.Bs.E Tryz.f88 [.int .u64 a,.int .i64 n] (Ae.Bs.out [.i a,.i n])):Ae.Bs.Kn :=
  Ak (Az hk _ _ _) Tryz.func88 (by kernel_rfl) (by kernel_rfl) h
def Ae.Div.A6:List (Nat × Entry):=[(209,times.Div.spec)]
def Ae.Div.E:Env:=A9 (A5 Ae.Div.A6) (fun _=>false) (fun _=>none) (fun _=>none)
theorem Ae.Div.ev (N:Nat) (a b:Int):Bq Ae.Div.E N Tryz.f158 (An Tryz.f158) [.int .u64 a,.int .u64 b]=bif (Af a&&Af b) then some (.int .u64 (Fc a b)) else none:=by kernel_rfl
abbrev _root_.Go.Proofs.S1.Ae.Div.Kn:=A3 Tryz.prog 158 Ae.Div.spec
theorem Ae.Div.Ac (hk:Ax Tryz.prog Ae.Div.A6) (h:∀ (a b:Int),Ae.Div.pre [.i a,.i b]=true→A8 Ae.Div.E Tryz.f158 [.int .u64 a,.int .u64 b] (Ae.Div.out [.i a,.i b])):Ae.Div.Kn :=
  Ak (Az hk _ _ _) Tryz.func158 (by kernel_rfl) (by kernel_rfl) h
def Ae.Bo.hint:Nat→Option Ba
  | 0=>some { keep:=[3,6,7,8],objs:=[],boxes:=[] }
  | _=>none
def Ae.Bo.A6:List (Nat × Entry):=[(87,compare.Hr.spec),(155,soft.Kind.spec)]
def Ae.Bo.E:Env:=A9 (A5 Ae.Bo.A6) (fun _=>false) Ae.Bo.hint (fun _=>none)
def Ae.Bo.L0 (N M:Nat) (x:List Int) (p3 p8:Int):Option DV:=B0 Ae.Bo.E N Tryz.f89 (An Tryz.f89) [1,1,0,1,0] [] M ⟨Gj 21 [(3,.int .u64 p3),(6,.ints .arg .u64 x),(7,.int .i64 (List.length x:Int)),(8,.int .i64 p8)],[]⟩
theorem Ae.Bo.Ar (N M:Nat) (x:List Int) (p3 p8:Int):Ae.Bo.L0 N (M+1) x p3 p8=bif (A4 p8 (List.length x:Int)) then bif ((decide (0≤p8))&&(decide (p8<(List.length x:Int)))) then bif (Af (List.getD x (Int.toNat p8) 0)) then bif ((Bd (List.getD x (Int.toNat p8) 0))==(4:Int)) then some (.int .u64 9221120237041090560) else bif (Af (List.getD x (Int.toNat p8) 0)) then Ae.Bo.L0 N M x (max p3 (Je (List.getD x (Int.toNat p8) 0))) (Ab (p8+1)) else none else none else none else some (.int .u64 p3):=by kernel_rfl
theorem Ae.Bo.ev (N:Nat) (x:List Int):Bq Ae.Bo.E N Tryz.f89 (An Tryz.f89) [.ints .arg .u64 x] =
  Ae.Bo.L0 N N x 0 0:=by kernel_rfl
abbrev _root_.Go.Proofs.S1.Ae.Bo.Kn:=A3 Tryz.prog 89 Ae.Bo.spec
theorem Ae.Bo.Ac (hk:Ax Tryz.prog Ae.Bo.A6) (h:∀ (x:List Int),Ae.Bo.pre [.l x]=true→A8 Ae.Bo.E Tryz.f89 [.ints .arg .u64 x] (Ae.Bo.out [.l x])):Ae.Bo.Kn :=
  Ak (Az hk _ _ _) Tryz.func89 (by kernel_rfl) (by kernel_rfl) h
def Ae.Finite.hint:Nat→Option Ba
  | 0=>some { keep:=[5,6,7],objs:=[],boxes:=[] }
  | _=>none
def Ae.Finite.A6:List (Nat × Entry):=[(148,soft.Finite.spec)]
def Ae.Finite.E:Env:=A9 (A5 Ae.Finite.A6) (fun _=>false) Ae.Finite.hint (fun _=>none)
def Ae.Finite.L0 (N M:Nat) (x:List Int) (p7:Int):Option DV:=B0 Ae.Finite.E N Tryz.f150 (An Tryz.f150) [1,0,1,0] [] M ⟨Gj 15 [(5,.ints .arg .u64 x),(6,.int .i64 (List.length x:Int)),(7,.int .i64 p7)],[]⟩
theorem Ae.Finite.Ar (N M:Nat) (x:List Int) (p7:Int):Ae.Finite.L0 N (M+1) x p7=bif (A4 p7 (List.length x:Int)) then bif ((decide (0≤p7))&&(decide (p7<(List.length x:Int)))) then bif (Af (List.getD x (Int.toNat p7) 0)) then bif (!(Cv (List.getD x (Int.toNat p7) 0))) then some (.bool false) else Ae.Finite.L0 N M x (Ab (p7+1)) else none else none else some (.bool true):=by kernel_rfl
theorem Ae.Finite.ev (N:Nat) (x:List Int):Bq Ae.Finite.E N Tryz.f150 (An Tryz.f150) [.ints .arg .u64 x] =
  Ae.Finite.L0 N N x 0:=by kernel_rfl
abbrev _root_.Go.Proofs.S1.Ae.Finite.Kn:=A3 Tryz.prog 150 Ae.Finite.spec
theorem Ae.Finite.Ac (hk:Ax Tryz.prog Ae.Finite.A6) (h:∀ (x:List Int),Ae.Finite.pre [.l x]=true→A8 Ae.Finite.E Tryz.f150 [.ints .arg .u64 x] (Ae.Finite.out [.l x])):Ae.Finite.Kn :=
  Ak (Az hk _ _ _) Tryz.func150 (by kernel_rfl) (by kernel_rfl) h
def Cy.Check.hint:Nat→Option Ba
  | 0=>some { keep:=[9,10,11],objs:=[],boxes:=[] }
  | _=>none
def Cy.Check.A6:List (Nat × Entry):=[(160,Aa.Check.spec),(148,soft.Finite.spec)]
def Cy.Check.E:Env:=A9 (A5 Cy.Check.A6) (fun _=>false) Cy.Check.hint (fun _=>none)
def Cy.Check.L0 (N M:Nat) (l:List Int) (p11:Int):Option DV:=B0 Cy.Check.E N Tryz.f86 (An Tryz.f86) [1,1,0,1,0] [] M ⟨Gj 19 [(9,.ints .arg .u64 l),(10,.int .i64 (List.length l:Int)),(11,.int .i64 p11)],[]⟩
theorem Cy.Check.Ar (N M:Nat) (l:List Int) (p11:Int):Cy.Check.L0 N (M+1) l p11=bif (A4 p11 (List.length l:Int)) then bif ((decide (0≤p11))&&(decide (p11<(List.length l:Int)))) then bif (Af (List.getD l (Int.toNat p11) 0)) then bif (!(Cv (List.getD l (Int.toNat p11) 0))) then some (.int .i64 4) else Cy.Check.L0 N M l (Ab (p11+1)) else none else none else some (.int .i64 0):=by kernel_rfl
theorem Cy.Check.ev (N:Nat) (r c:Int) (l:List Int):Bq Cy.Check.E N Tryz.f86 (An Tryz.f86) [.agg [.int .i64 r,.int .i64 c,.ints .arg .u64 l]]=bif ((K1 r c l) !=(0:Int)) then some (.int .i64 1) else Cy.Check.L0 N N l 0:=by kernel_rfl
abbrev _root_.Go.Proofs.S1.Cy.Check.Kn:=A3 Tryz.prog 86 Cy.Check.spec
theorem Cy.Check.Ac (hk:Ax Tryz.prog Cy.Check.A6) (h:∀ (r c:Int) (l:List Int),Cy.Check.pre [.i r,.i c,.l l]=true→A8 Cy.Check.E Tryz.f86 [.agg [.int .i64 r,.int .i64 c,.ints .arg .u64 l]] (Cy.Check.out [.i r,.i c,.l l])):Cy.Check.Kn :=
  Ak (Az hk _ _ _) Tryz.func86 (by kernel_rfl) (by kernel_rfl) h
end EqCmp
open EqCmp
theorem Rn {k j:Nat} (h:k≠j):(((k:Nat):Int)==((j:Nat):Int))=false:=by rw [beq_eq_false_iff_ne]; omega
theorem Ab3 (n:Nat):n%2^63<2^63:=Nat.mod_lt _ (by decide)
theorem Z0 {n:Nat} (h:n<2^64):Gr .u64 (n:Int) (9223372036854775808:Int)=((n%2^63:Nat):Int):=by
  have:=P3 (Bt n) (Ab3 n)
  rw [Mo h] at this
  exact this
theorem compare.Hr.known:compare.Hr.Kn:=compare.Hr.Ac .nil fun a hp=>by
  obtain ⟨n,rfl,hn⟩:=Bm (show Af a=true from hp)
  refine ⟨0,compare.Hr.out [.i (n:Int)],[],?_,.int⟩
  show _=some (DV.int .u64 (((n:Int).toNat%2^63:Nat):Int))
  rw [compare.Hr.ev,Z0 hn,Ayu]
theorem compare.Mb.known:compare.Mb.Kn:=compare.Mb.Ac (.cons soft.Sign.known .nil) fun b hp=>by
  have hp:Af b=true:=hp
  obtain ⟨n,rfl,hn⟩:=Bm hp
  refine ⟨0,compare.Mb.out [.i (n:Int)],[],?_,.int⟩
  show _=some (DV.int .i64 (H0 (n:Int).toNat))
  have h63:=Ab3 n
  rw [compare.Mb.ev,hp,Ays,Z0 hn,Ayu]
  unfold H0 H5 Dt
  rw [Ayu]
  cases hs:Bt n with
  | true =>
    rw [Ays,if_pos rfl,Al (x:=((n%2^63:Nat):Int)) (by omega) (by omega),Al (by omega) (by omega)]
    congr 2; omega
  | false =>
    have:n<2^63:=by
      unfold Bt at hs
      have:=of_decide_eq_false hs
      omega
    rw [Ayw,if_neg (by decide),Ay5 this,Al (by omega) (by omega)]
theorem compare.Order.known:compare.Order.Kn:=compare.Order.Ac (.cons compare.Mb.known (.cons soft.Kind.known .nil)) fun a b hp=>by
  obtain ⟨ha,hb⟩:=Ad.1 (show (Af a&&Af b)=true from hp)
  refine ⟨0,compare.Order.out [.i a,.i b],[],?_,Wk.Gp (.cons .int (.cons .bool .nil))⟩
  show _=some (DV.tup [.int .i64 (Ae4 a.toNat b.toNat),.bool (Aac a.toNat b.toNat)])
  rw [compare.Order.ev,ha,hb,Ays,Ays,Ays,Ays,Ays,Ays,As,As]
  unfold Ae4 Aac Aa3 Bd
  by_cases h1:Am a.toNat=4
  · have e:(((Am a.toNat:Nat):Int)==(4:Int))=true:=by rw [h1]; rfl
    rw [e,Ays,if_pos (.inl h1),Ayt (.inl h1)]; rfl
  · have e:(((Am a.toNat:Nat):Int)==(4:Int))=false:=Rn h1
    rw [e,Ayw]
    by_cases h2:Am b.toNat=4
    · have e:(((Am b.toNat:Nat):Int)==(4:Int))=true:=by rw [h2]; rfl
      rw [e,Ays,if_pos (.inr h2),Ayt (.inr h2)]; rfl
    · have e:(((Am b.toNat:Nat):Int)==(4:Int))=false:=Rn h2
      have hn:¬ (Am a.toNat=4∨Am b.toNat=4):=fun h=>h.elim h1 h2
      rw [e,Ayw,if_neg hn,Ayx hn]
      by_cases h3:H0 a.toNat<H0 b.toNat
      · rw [Ayt h3,if_pos h3]; rfl
      · rw [Ayx h3,if_neg h3]
        by_cases h4:H0 b.toNat<H0 a.toNat
        · rw [Ayt h4,if_pos h4]; rfl
        · rw [Ayx h4,if_neg h4]; rfl
theorem compare.Ml.known:compare.Ml.Kn:=compare.Ml.Ac (.cons compare.Order.known .nil) fun a b hp=>by
  have hp:(Af a&&Af b)=true:=hp
  refine ⟨0,compare.Ml.out [.i a,.i b],[],?_,.bool⟩
  rw [compare.Ml.ev,hp,As]; rfl
theorem Ag0 (N:Nat) {a:Int} (ha:Af a=true):∀ (k F m:Nat) (e:Int) (b:Bool),e=-1130-(k:Int)→k<F→m<2^53→(m≠0∨b=true)→-9000<e →
    compare.E7.L0 N F a (m:Int) e b=some (.tup [.int .u64 (((Bl (Bt a.toNat) 0,3):Nat × Nat).1:Nat),.int .u8 (((Bl (Bt a.toNat) 0,3):Nat × Nat).2:Nat)]):=by
  have pre1:Eg (0:Int) (-1074:Int) true=true:=Aq.2 (by omega)
  intro k
  induction k with
  | zero =>
    intro F m e b he hF hm h0 _
    obtain ⟨F,rfl⟩:∃ G,F=G+1:=⟨F-1,by omega⟩
    have hlt:A4 e (-1130:Int)=false:=by rw [As]; exact Ayx (by omega)
    have R9:Eg (m:Int) e b=true:=Aq.2 (by omega)
    rw [compare.E7.Ar,hlt,Bool.false_and,Ayw,Ayw,ha,Ays,R9,Ays]
    unfold E3 E2 Dt
    rw [Ayu,Akz _ hm h0 (by omega)]
  | succ k ih =>
    intro F m e b he hF hm h0 hb
    obtain ⟨F,rfl⟩:∃ G,F=G+1:=⟨F-1,by omega⟩
    have hlt:A4 e (-1130:Int)=true:=by rw [As]; exact Ayt (by omega)
    rw [compare.E7.Ar,hlt,Bool.true_and,Ays,As]
    by_cases h1:(1:Int)<(m:Int)
    · have em:Dj .u64 (m:Int) (1:Int)=((m / 2^1:Nat):Int):=Hw .u64 m 1 (by decide)
      rw [Ayt h1,Ays,em,Al (by omega) (by omega)]
      exact ih F (m / 2^1) (e+1) _ (by omega) (by omega) (by omega) (.inl (by omega)) (by omega)
    · rw [Ayx h1,Ayw,ha,Ays,pre1,Ays]
      unfold E3 E2 Dt
      rw [show (0:Int).toNat=0 from rfl,Anr]
theorem compare.E7.known:compare.E7.Kn:=compare.E7.Ac (.cons soft.Kind.known (.cons soft.Di.known (.cons soft.F9.known (.cons soft.Sign.known .nil)))) fun a n hp=>by
  obtain ⟨ha,hn⟩:=Ad.1 (show Dh a n=true from hp)
  have hn:=Aq.1 hn
  refine ⟨3000,compare.E7.out [.i a,.i n],[],?_,Wk.Gp (.cons .int (.cons .int .nil))⟩
  show _=some (DV.tup [.int .u64 ((Gl a.toNat n).1:Nat),.int .u8 ((Gl a.toNat n).2:Nat)])
  have em:max (-2300:Int) (min (2300:Int) n)=n:=by omega
  have pE:=En a.toNat
  have pM:=Fb a.toNat
  have ee:Ab (Bh a+n)=A2 a.toNat+n:=by unfold Bh; exact Al (by omega) (by omega)
  rw [compare.E7.ev,ha,Ays,Ays,em,ee]
  unfold Bd
  by_cases h4:Am a.toNat=4
  · have e:(((Am a.toNat:Nat):Int)==(4:Int))=true:=by rw [h4]; rfl
    rw [e,Ays]
    unfold Gl
    rw [if_pos h4]; rfl
  have e4:(((Am a.toNat:Nat):Int)==(4:Int))=false:=Rn h4
  rw [e4,Ayw]
  by_cases h3:Am a.toNat=3
  · have e:(((Am a.toNat:Nat):Int)==(3:Int))=true:=by rw [h3]; rfl
    obtain ⟨k,rfl,hk⟩:=Bm ha
    rw [e,Ays,Ays]
    unfold Gl
    rw [if_neg h4,if_pos (.inl h3),Ayu]; rfl
  have e3:(((Am a.toNat:Nat):Int)==(3:Int))=false:=Rn h3
  rw [e3,Ayw]
  by_cases h0:Am a.toNat=0
  · have e:(((Am a.toNat:Nat):Int)==(0:Int))=true:=by rw [h0]; rfl
    obtain ⟨k,rfl,hk⟩:=Bm ha
    rw [e,Ays]
    unfold Gl
    rw [if_neg h4,if_pos (.inr h0),Ayu]; rfl
  have e0:(((Am a.toNat:Nat):Int)==(0:Int))=false:=Rn h0
  have hk:¬ (Am a.toNat=3∨Am a.toNat=0):=fun h=>h.elim h3 h0
  have hm:Aw a.toNat≠0:=fun h=>h0 ((Hh h3 h4).1 h)
  rw [e0,Ayw]
  show compare.E7.L0 3000 3000 a (Aw a.toNat:Nat) (A2 a.toNat+n) false=_
  by_cases ht:A2 a.toNat+n≤-1130
  · rw [Agz h4 hk ht]
    exact Ag0 3000 ha (-1130-(A2 a.toNat+n)).toNat 3000 _ _ false (by omega) (by omega) (by omega) (.inl hm) (by omega)
  · have hlt:A4 (A2 a.toNat+n) (-1130:Int)=false:=by rw [As]; exact Ayx (by omega)
    have R9:Eg ((Aw a.toNat:Nat):Int) (A2 a.toNat+n) false=true:=Aq.2 ⟨by omega,by omega,by omega,by omega,fun h=>by cases h⟩
    rw [Aj8 h4 hk,show (3000:Nat)=2999+1 from rfl,compare.E7.Ar,hlt,Bool.false_and,Ayw,Ayw,ha,Ays,R9,Ays]
    unfold E3 E2 Dt
    rw [Ayu,Wh]
theorem Ae.Bs.known:Ae.Bs.Kn:=Ae.Bs.Ac (.cons compare.E7.known .nil) fun a n hp=>by
  have hp:Dh a n=true:=hp
  refine ⟨0,Ae.Bs.out [.i a,.i n],[],?_,.int⟩
  rw [Ae.Bs.ev,hp]; rfl
theorem Ae.Div.known:Ae.Div.Kn:=Ae.Div.Ac (.cons times.Div.known .nil) fun a b hp=>by
  have hp:(Af a&&Af b)=true:=hp
  refine ⟨0,Ae.Div.out [.i a,.i b],[],?_,.int⟩
  rw [Ae.Div.ev,hp]; rfl
theorem G5 {l:List Int} {i:Nat} (h:i<l.length):l.drop i=l.getD i 0::l.drop (i+1):=by
  rw [List.drop_eq_getElem_cons h,Ay2,Ay9 h]; rfl
theorem H6 {l:List Int} (h:Cl l=true):l.length<4611686018427387904∧∀ j,j<l.length→Af (l.getD j 0)=true:=by
  obtain ⟨h1,h2⟩:=Aq.1 h
  exact ⟨h1,fun j hj=>by rw [Ay2,Ay9 hj]; exact h2 _ (List.getElem_mem hj)⟩
theorem Jb {l:List Int} (h:Ah l=true) (hl:l.length≤1000):Cl l=true:=Aq.2 ⟨by omega,Aq.1 h⟩
theorem Afu (N:Nat) {x:List Int} (hx:Cl x=true):∀ (k i F:Nat),i+k=x.length→k<F→Ae.Finite.L0 N F x (i:Int)=some (.bool ((x.drop i).all Cv)):=by
  obtain ⟨hl,hu⟩:=H6 hx
  intro k
  induction k with
  | zero =>
    intro i F hi hF
    obtain ⟨F,rfl⟩:∃ G,F=G+1:=⟨F-1,by omega⟩
    rw [Ae.Finite.Ar,As,Ayx (by omega),Ayw,Ay6 (by omega)]; rfl
  | succ k ih =>
    intro i F hi hF
    obtain ⟨F,rfl⟩:∃ G,F=G+1:=⟨F-1,by omega⟩
    rw [Ae.Finite.Ar,As,Ayt (show (i:Int)<(x.length:Int) by omega),Ays,Ayt (show (0:Int)≤(i:Int) by omega),Ayy,Ays,Ayu,hu i (by omega),Ays,G5 (by omega),List.all_cons]
    cases Cv (x.getD i 0) with
    | false=>rfl
    | true =>
      rw [Bool.not_true,Ayw,Al (by omega) (by omega),Bool.true_and]
      exact ih (i+1) F (by omega) (by omega)
theorem Ae.Finite.known:Ae.Finite.Kn:=Ae.Finite.Ac (.cons soft.Finite.known .nil) fun x hp=>by
  have hp:Cl x=true:=hp
  refine ⟨x.length+1,Ae.Finite.out [.l x],[],?_,.bool⟩
  show _=some (DV.bool (x.all Cv))
  rw [Ae.Finite.ev]
  exact Afu _ hp x.length 0 (x.length+1) (by omega) (by omega)
theorem Al0 {x:List Int} {i:Nat} (h:i<x.length) (m:Nat):Zy (x.drop i) m=if Am (x.getD i 0).toNat=4 then P8 else Zy (x.drop (i+1)) (max m (G9 (x.getD i 0).toNat)):=by
  rw [G5 h]; rfl
theorem Adl (N:Nat) {x:List Int} (hx:Cl x=true):∀ (k i F m:Nat),i+k=x.length→k<F→Ae.Bo.L0 N F x (m:Int) (i:Int)=some (.int .u64 ((Zy (x.drop i) m:Nat):Int)):=by
  obtain ⟨hl,hu⟩:=H6 hx
  intro k
  induction k with
  | zero =>
    intro i F m hi hF
    obtain ⟨F,rfl⟩:∃ G,F=G+1:=⟨F-1,by omega⟩
    rw [Ae.Bo.Ar,As,Ayx (by omega),Ayw,Ay6 (by omega)]; rfl
  | succ k ih =>
    intro i F m hi hF
    obtain ⟨F,rfl⟩:∃ G,F=G+1:=⟨F-1,by omega⟩
    rw [Ae.Bo.Ar,As,Ayt (show (i:Int)<(x.length:Int) by omega),Ays,Ayt (show (0:Int)≤(i:Int) by omega),Ayy,Ays,Ayu,hu i (by omega),Ays,Al0 (by omega)]
    unfold Bd
    by_cases h4:Am (x.getD i 0).toNat=4
    · have e:(((Am (x.getD i 0).toNat:Nat):Int)==(4:Int))=true:=by rw [h4]; rfl
      rw [e,Ays,if_pos h4]; rfl
    · have e:(((Am (x.getD i 0).toNat:Nat):Int)==(4:Int))=false:=Rn h4
      have em:max (m:Int) (Je (x.getD i 0))=((max m (G9 (x.getD i 0).toNat):Nat):Int):=by unfold Je; omega
      rw [e,Ayw,Ays,if_neg h4,em,Al (by omega) (by omega)]
      exact ih (i+1) F _ (by omega) (by omega)
theorem Ae.Bo.known:Ae.Bo.Kn:=Ae.Bo.Ac (.cons compare.Hr.known (.cons soft.Kind.known .nil)) fun x hp=>by
  have hp:Cl x=true:=hp
  refine ⟨x.length+1,Ae.Bo.out [.l x],[],?_,.int⟩
  rw [Ae.Bo.ev]
  exact Adl _ hp x.length 0 (x.length+1) 0 (by omega) (by omega)
theorem Adk (N:Nat) {x:List Int} (hx:Cl x=true):∀ (k i F:Nat),i+k=x.length→k<F→Cy.Check.L0 N F x (i:Int)=some (.int .i64 (if (x.drop i).all Cv=true then 0 else 4)):=by
  obtain ⟨hl,hu⟩:=H6 hx
  intro k
  induction k with
  | zero =>
    intro i F hi hF
    obtain ⟨F,rfl⟩:∃ G,F=G+1:=⟨F-1,by omega⟩
    rw [Cy.Check.Ar,As,Ayx (by omega),Ayw,Ay6 (by omega)]; rfl
  | succ k ih =>
    intro i F hi hF
    obtain ⟨F,rfl⟩:∃ G,F=G+1:=⟨F-1,by omega⟩
    rw [Cy.Check.Ar,As,Ayt (show (i:Int)<(x.length:Int) by omega),Ays,Ayt (show (0:Int)≤(i:Int) by omega),Ayy,Ays,Ayu,hu i (by omega),Ays,G5 (by omega),List.all_cons]
    cases Cv (x.getD i 0) with
    | false=>rfl
    | true =>
      rw [Bool.not_true,Ayw,Al (by omega) (by omega),Bool.true_and]
      exact ih (i+1) F (by omega) (by omega)
theorem Kq {r c:Int} {l:List Int} (h:A0 r c l=true):l.length≤36:=by
  obtain ⟨R,C,rfl,rfl,r6,c6,hl⟩:=Ce h
  have:=Nat.mul_le_mul r6 c6
  omega
theorem Cy.Check.known:Cy.Check.Kn:=Cy.Check.Ac (.cons Aa.Check.known (.cons soft.Finite.known .nil)) fun r c l hp=>by
  have hp:Ah l=true:=hp
  refine ⟨l.length+1,Cy.Check.out [.i r,.i c,.l l],[],?_,.int⟩
  show _=some (DV.int .i64 (Cg r c l))
  rw [Cy.Check.ev]
  unfold K1 Cg Df
  by_cases h:A0 r c l=true
  · have:=Kq h
    rw [if_pos h,if_pos h]
    have e:((0:Int) !=(0:Int))=false:=by decide
    rw [e,Ayw]
    exact Adk _ (Jb hp (by omega)) l.length 0 (l.length+1) (by omega) (by omega)
  · rw [if_neg h,if_neg h]; rfl
open Go Go.Den Go.Rnd Go.Proofs Ieee
theorem Am9 {m n:Nat} (hm:m≠0) (hn:n≠0) (lm:m<2^53) (ln:n<2^53) (i j:Int) :
    Co (Fk m n (54+n.log2-m.log2)) (i-j-((54+n.log2-m.log2:Nat):Int)-1)=Co (Fk m n 120) (i-j-121):=by
  have l1:=(Nat.log2_lt hm).2 lm
  have a1:=Nat.log2_self_le hm
  have a2:=Nat.lt_log2_self (n:=n)
  have g1:2^53≤m*2^(54+n.log2-m.log2) / n:=by
    rw [Nat.le_div_iff_mul_le (by omega)]
    have h1:2^m.log2*2^(54+n.log2-m.log2)≤m*2^(54+n.log2-m.log2):=Ay4 _ a1
    have h2:2^m.log2*2^(54+n.log2-m.log2)=2^53*2^(n.log2+1):=by
      rw [← Nat.pow_add,← Nat.pow_add]
      congr 1
      omega
    have h3:2^53*n≤2^53*2^(n.log2+1):=Nat.mul_le_mul_left _ (by omega)
    omega
  have g2:2^53≤m*2^120 / n:=Ana (t:=53) (by omega) (by omega) ln (by omega)
  exact (Xx (by omega) g1 g2 (by omega)).1
theorem Aqo (s t:Bool) (m:Nat) (i:Int) (n:Nat) (j:Int) (hn:n≠0):(Datum.number s m i).quotient 54 (.number t n j) =
    some (.number (s ^^ t) (Fk m n (54+n.log2-m.log2)) (i-j-((54+n.log2-m.log2:Nat):Int)-1)):=by
  have e:(Datum.number s m i).quotient 54 (.number t n j)=some (.number (s ^^ t) (2*(m <<< (54+n.log2-m.log2) / n)+(m <<< (54+n.log2-m.log2)%n !=0).toNat) (i-j-((54+n.log2-m.log2:Nat):Int)-1)):=if_neg hn
  rw [e,Nat.shiftLeft_eq]
  unfold Fk
  congr 3
  by_cases h:m*2^(54+n.log2-m.log2)%n=0
  · rw [if_pos h,h]; rfl
  · have:(m*2^(54+n.log2-m.log2)%n !=0)=true:=by simpa using h
    rw [if_neg h,this]; rfl
theorem Ao6 {a b:Nat} (ha:a<2^64) (hb:b<2^64) {d:Nat} (hd:Am d=4):Dx ((Ieee.double.div a b).getD d)=(Adh a b).1:=by
  have cd:Dx d=P8:=if_pos hd
  have ex:∀ s t:Bool,(s ^^ t)=(s !=t):=fun s t=>by cases s<;>cases t<;>rfl
  have e54:Ieee.double.fractionBits+2=54:=rfl
  unfold Format.div
  rw [I1 ha,I1 hb,e54]
  unfold Adh
  by_cases a4:Am a=4
  · rw [if_pos (.inl a4),G2 a4]; exact cd
  · by_cases b4:Am b=4
    · rw [if_pos (.inr b4),G2 b4]
      by_cases a3:Am a=3
      · rw [Ek a3]; exact cd
      · rw [Ej a3 a4]; exact cd
    · rw [if_neg (fun h=>h.elim a4 b4)]
      by_cases a3:Am a=3
      · rw [Ek a3]
        by_cases b3:Am b=3
        · rw [Ek b3,if_pos ⟨by omega,.inl a3⟩]; exact cd
        · rw [Ej b3 b4,if_neg (by omega),if_pos a3]
          show Dx (Bl (Bt a ^^ Bt b) Eb)=_
          rw [Go.Proofs.S1.K2,ex]
      · rw [Ej a3 a4]
        by_cases b3:Am b=3
        · rw [Ek b3,if_neg (by omega),if_neg a3,if_pos (.inl b3)]
          show Dx (Ieee.double.write (.number (Bt a ^^ Bt b) 0 0))=_
          rw [Mm,Rk,ex]
          exact Gu _ (Nat.zero_le _)
        · rw [Ej b3 b4]
          have za:=Uh a3 a4
          have zb:=Uh b3 b4
          by_cases b0:Am b=0
          · by_cases a0:Am a=0
            · have e:(Datum.number (Bt a) (Aw a) (A2 a)).quotient 54 (.number (Bt b) (Aw b) (A2 b))=none:=by
                show (if Aw b=0 then (if Aw a=0 then none else _) else _)=_
                rw [if_pos (zb.2 b0),if_pos (za.2 a0)]
              rw [e,if_pos ⟨by omega,.inr a0⟩]; exact cd
            · have e:(Datum.number (Bt a) (Aw a) (A2 a)).quotient 54 (.number (Bt b) (Aw b) (A2 b))=some (.infinity (Bt a ^^ Bt b)):=by
                show (if Aw b=0 then (if Aw a=0 then none else _) else _)=_
                rw [if_pos (zb.2 b0),if_neg (fun k=>a0 (za.1 k))]
              rw [e,if_neg (by omega),if_neg a3,if_neg (by omega),if_pos b0]
              show Dx (Bl (Bt a ^^ Bt b) Eb)=_
              rw [Go.Proofs.S1.K2,ex]
          · have hn:Aw b≠0:=fun k=>b0 (zb.1 k)
            rw [Aqo _ _ _ _ _ _ hn,if_neg (by omega),if_neg a3]
            show Dx (Ieee.double.write (.number _ _ _))=_
            rw [Mm,Gu _ (K5 _ _),ex]
            by_cases a0:Am a=0
            · rw [if_pos (.inr a0),za.2 a0]
              have:Fk 0 (Aw b) (54+(Aw b).log2-Nat.log2 0)=0:=by
                unfold Fk
                rw [Nat.zero_mul,Nat.zero_div,Nat.zero_mod,if_pos rfl]
              rw [this,Rk]
            · have hm:Aw a≠0:=fun k=>a0 (za.1 k)
              have la:=Fb a
              have lb:=Fb b
              rw [if_neg (by omega),if_neg b0,Am9 hm hn (by omega) (by omega)]
end Go.Proofs.S1
namespace Go.Rnd
open Go.Den
theorem Ah1 {P root rest two:Nat} (h1:P=root*root+rest) (h2:rest≤2*root) (h3:two<4) :
    (4*root+1≤4*rest+two→4*P+two=(2*root+1)*(2*root+1)+(4*rest+two-(4*root+1))∧4*rest+two-(4*root+1)≤2*(2*root+1)) ∧
    (4*rest+two<4*root+1→4*P+two=(2*root)*(2*root)+(4*rest+two)∧4*rest+two≤2*(2*root)):=by
  have e1:(2*root+1)*(2*root+1)=4*(root*root)+(4*root+1):=by
    rw [Nat.add_mul,Nat.mul_add,Nat.mul_add]
    have:2*root*(2*root)=4*(root*root):=by rw [Nat.mul_mul_mul_comm]
    omega
  have e2:(2*root)*(2*root)=4*(root*root):=by rw [Nat.mul_mul_mul_comm]
  constructor
  · intro h; rw [e1]; omega
  · intro h; rw [e2]; omega
theorem Aql {P root rest:Nat} (h1:P=root*root+rest) (h2:rest≤2*root):root=S8 P:=by
  refine Y9 (by omega) ?_
  have:(root+1)*(root+1)=root*root+2*root+1:=by rw [Nat.add_mul,Nat.mul_add]; omega
  omega
end Go.Rnd
namespace Go.Rnd
open Go.Den
theorem H4:Af (0:Int)=true:=Cb (n:=0) (by decide)
theorem Ani:Af Atm=true:=Cb (n:=4607182418800017408) (by decide)
theorem Aj9 {b:Nat} {n:Int} (h:b<2^64):(Gl b n).1<2^64:=by
  unfold Gl
  by_cases h4:Am b=4
  · rw [if_pos h4]; exact (by decide:P8<2^64)
  rw [if_neg h4]
  by_cases h3:Am b=3∨Am b=0
  · rw [if_pos h3]; exact h
  rw [if_neg h3]
  exact Tx _ _ _
theorem Hu {b n:Int} (h:Af b=true):Af (By b n)=true:=by
  obtain ⟨x,rfl,hx⟩:=Bm h
  exact Cb (Aj9 (by rw [Ayu]; exact hx))
theorem R3 (b:Nat):G9 b<2^63:=Nat.mod_lt _ (by decide)
theorem Zx:∀ (l:List Int) (m:Nat),m<2^64→Zy l m<2^64
  | [],m,h=>h
  | x::l,m,h=>by
    unfold Zy
    split
    · exact (by decide:P8<2^64)
    · have h2:=R3 x.toNat
      exact Zx l _ (by omega)
theorem Oa (l:List Int):Af (Be l)=true:=Cb (Zx l 0 (by decide))
theorem S7 (x:Int):Af (Je x)=true:=Cb (Nat.lt_trans (R3 x.toNat) (by decide))
theorem Aid {a b:Int} (ha:Af a=true) (hb:Af b=true):Af (Jx a b)=true:=by
  obtain ⟨x,rfl,hx⟩:=Bm ha
  obtain ⟨y,rfl,hy⟩:=Bm hb
  exact Cb (Va (by rw [Ayu]; exact hx) (by rw [Ayu]; exact hy)).1
theorem Yw {a:Int} (ha:Af a=true):Af (Db a)=true:=by
  obtain ⟨x,rfl,hx⟩:=Bm ha
  exact Cb (Vu (by rw [Ayu]; exact hx))
theorem Amv {b:Nat} (h:b<2^64):(Oh b).1<2^64:=by
  by_cases h4:Am b=4
  · rw [X0 h4]; exact (by decide:P8<2^64)
  by_cases h0:Am b=0∨b=Eb
  · rw [Og h4 h0]; exact h
  cases hn:Bt b with
  | true=>rw [Tv h4 h0 hn]; exact (by decide:P8<2^64)
  | false =>
    unfold Oh
    rw [if_neg h4,if_neg h0,hn,if_neg (by decide)]
    exact Nat.lt_trans (W8 _ _) (by decide)
theorem Acf {a:Int} (ha:Af a=true):Af (Fu a)=true:=by
  obtain ⟨x,rfl,hx⟩:=Bm ha
  exact Cb (Amv (by rw [Ayu]; exact hx))
theorem Amu (k:Int):∀ (l:List Int) {s:Int},Af s=true→Af (Aef k s l)=true
  | [],_,h=>h
  | _::l,_,h=>Amu k l (Aid h (Jn _ _))
theorem Xe (x:List Int):Af (Dk x)=true:=by
  unfold Dk
  split
  · exact Oa x
  · exact Hu (Acf (Amu _ _ H4))
theorem Awh (x:List Int):Af (muI x)=true:=by
  unfold muI
  split
  · exact Xe _
  · exact Yw (Xe _)
theorem Ar1 (x:List Int):Af (E6 x)=true:=Hu (Awh x)
theorem Alo (b:Nat):-1100≤Alp b∧Alp b≤1100:=by
  unfold Alp
  split
  · have h1:=En b
    have h2:=Fb b
    rename_i h
    have h3:(Aw b).log2<53:=by
      by_cases h0:Aw b=0
      · rw [h0]; decide
      · exact (Nat.log2_lt h0).2 h2
    omega
  · omega
theorem Zo (x:Int):-1100≤Br x∧Br x≤1100:=Alo x.toNat
theorem Ix {l:List Int} (h:Ah l=true) (j:Nat):Af (l.getD j 0)=true:=Xj (Aq.1 h) j
theorem R0 {l:List Int} (h:∀ x∈l,Af x=true):Ah l=true:=Aq.2 h
theorem Lo:Ah []=true:=R0 fun _ h=>by cases h
theorem Agf {α:Type} {l:List α} {f:α→Int} (h:∀ j,Af (f j)=true):Ah (l.map f)=true:=R0 fun x hx=>by
  obtain ⟨j,_,rfl⟩:=List.mem_map.1 hx
  exact h j
theorem Al3 {x:Int} {l:List Int} (h1:Af x=true) (h2:Ah l=true):Ah (x::l)=true:=R0 fun y hy=>by
  rcases List.mem_cons.1 hy with rfl | hy
  · exact h1
  · exact Aq.1 h2 y hy
theorem R1 {c i k:Int} {l:List Int} (h:Ah l=true):Af (D9 c l i k)=true:=Ix h _
theorem Aen (c b i:Int) (n:Nat) (l:List Int):(Cu c l b i n).length=n:=by unfold Cu; rw [List.length_map,List.length_range]
theorem Pc {c b i:Int} {n:Nat} {l:List Int} (h:Ah l=true):Ah (Cu c l b i n)=true:=Agf fun _=>R1 h
theorem Am3 (n:Nat) {f:Nat→Int} (h:∀ j,Af (f j)=true):Ah (Jd n f)=true:=Al3 Ani (Agf fun _=>h _)
theorem Pf {n:Nat} (h:n≠0) (f:Nat→Int):(Jd n f).length=n:=by
  unfold Jd
  rw [List.length_cons,List.length_map,List.length_range]
  omega
theorem Un {x:List Int} (h:Ah x=true):Ah (Cm x).1=true∧Af (Cm x).2.1=true∧Af (Cm x).2.2.1=true:=by
  have hz:Ah []=true∧Af (0:Int)=true∧Af (0:Int)=true:=⟨Lo,H4,H4⟩
  unfold Cm
  split
  · exact hz
  split
  · unfold Jo
    split
    · dsimp only
      exact ⟨Am3 _ fun _=>H4,H4,Ix h 0⟩
    · split
      · dsimp only
        exact ⟨Am3 _ fun _=>Adg _ _,Adg _ _,Ar1 x⟩
      · exact hz
  · exact hz
theorem Um {x:List Int} (h:(Cm x).2.2.2=0):(Cm x).1.length=x.length:=by
  unfold Cm at h ⊢
  by_cases h1:x.length=0∨64<x.length
  · rw [if_pos h1] at h; exact absurd h (by decide)
  rw [if_neg h1] at h ⊢
  by_cases h2:Df x=true
  · rw [if_pos h2] at h ⊢
    unfold Jo at h ⊢
    by_cases h3:Ed (x.drop 1)=true
    · rw [if_pos h3]; dsimp only; exact Pf (n:=x.length) (by omega) _
    · rw [if_neg h3] at h ⊢
      by_cases h4:Cv (E6 x)=true
      · rw [if_pos h4]; dsimp only [Sb]; exact Pf (n:=x.length) (by omega) _
      · rw [if_neg h4] at h; exact absurd h (by decide)
  · rw [if_neg h2] at h; exact absurd h (by decide)
theorem Rx (x y:List Int):Af (Jg x y)=true:=Cb (Ade x y 0 (by decide))
theorem Al2 {c i k t a b:Int} {l v:List Int} (h:Ah l=true):Af (P0 c l i k v t a b)=true:=by
  unfold P0
  split
  · exact N3 (R1 h) (Jn _ _)
  · exact R1 h
theorem Abz {r c:Nat} {l:List Int} (h:Ah l=true) (i k:Int) (v:List Int) (t:Int):Ah (E9 r c l i k v t)=true:=Gh fun _ _=>Al2 h
theorem K9 (r c:Nat) (l:List Int) (i k:Int) (v:List Int) (t:Int):(E9 r c l i k v t).length=r*c:=Ca _ _ _
theorem Alv {r c:Nat} {l:List Int} (h:Ah l=true) (j:Nat) {x:Int} (hx:Af x=true):Ah (Na r c l j x)=true:=Gh fun a b=>by
  split
  · split
    · exact hx
    · exact H4
  · exact R1 h
theorem Nr (r c:Nat) (l:List Int) (j:Nat):(Yu r c l j).length=r*c:=by unfold Yu Na; exact Ca _ _ _
theorem Xf {r c:Nat} {l:List Int} (h:Ah l=true) (j:Nat):Ah (Yu r c l j)=true:=Alv (Abz h _ _ _ _) _ (Un (Pc h)).2.2
def Abb (r:Nat):Nat→List (List Int × Int)→Prop
  | _,[]=>True
  | j,m::ms=>(Ah m.1=true∧Af m.2=true∧m.1.length+j=r)∧Abb r (j+1) ms
theorem Zr (r c:Nat):∀ (n j:Nat) (l:List Int) (x:List Int × List (List Int × Int)),Ah l=true→l.length=r*c→j+n≤r→M9 r c n j l=some x→Ah x.1=true∧x.1.length=r*c∧x.2.length=n∧Abb r j x.2
  | 0,j,l,x,ha,hl,_,h=>by
    cases h
    exact ⟨ha,hl,rfl,trivial⟩
  | n+1,j,l,x,ha,hl,hj,h=>by
    unfold M9 at h
    by_cases h1:(Cm (E5 r c l j)).2.2.2=0
    · rw [if_pos h1,Option.map_eq_some_iff] at h
      obtain ⟨y,hy,rfl⟩:=h
      obtain ⟨a1,a2,a3,a4⟩:=Zr r c n (j+1) _ y (Xf ha j) (Nr r c l j) (by omega) hy
      have hm:=Un (x:=E5 r c l j) (Pc ha)
      have hlen:=Um h1
      refine ⟨a1,a2,by rw [List.length_cons,a3],⟨hm.1,hm.2.1,?_⟩,a4⟩
      show (Cm (E5 r c l j)).1.length+j=r
      rw [hlen]
      unfold E5
      rw [Aen]
      omega
    · rw [if_neg h1] at h; cases h
theorem U3 (n:Nat):Ah (I5 n)=true:=Gh fun i k=>by
  unfold Nk
  split
  · exact Ani
  · exact H4
theorem Ry (n:Nat):∀ (ms:List (List Int × Int)) (j:Nat) (q:List Int),Ah q=true→q.length=n*n→Ah (Hg n j ms q)=true∧(Hg n j ms q).length=n*n
  | [],_,_,h1,h2=>⟨h1,h2⟩
  | m::ms,j,q,h1,h2=>by
    unfold Hg
    exact ⟨Abz (Ry n ms (j+1) q h1 h2).1 _ _ _ _,K9 _ _ _ _ _ _ _⟩
theorem Arn {r c:Nat} {l:List Int} (h:(Kd r c l).isSome=true):Ah (Mi r c l)=true∧(Mi r c l).length=r*r:=by
  unfold Mi
  cases hd:Kd r c l with
  | none=>rw [hd] at h; cases h
  | some x=>exact Ry r x.2 0 _ (U3 r) (by unfold I5; exact Ca _ _ _)
theorem Arm {r c:Nat} {l:List Int} (ha:Ah l=true) (hl:l.length=r*c) (h:(Kd r c l).isSome=true):Ah (Kc r c l)=true∧(Kc r c l).length=r*c:=by
  unfold Kc
  cases hd:Kd r c l with
  | none=>rw [hd] at h; cases h
  | some x =>
    have hn:H9 r c≤r:=by unfold H9; omega
    have:=Zr r c (H9 r c) 0 l x ha hl (by omega) hd
    exact ⟨this.1,this.2.1⟩
end Go.Rnd
namespace Go.Proofs.S1
open Go Go.Den Go.Rnd Go.Proofs
set_option maxRecDepth 100000
namespace EqRoot
def root.Gx.hint:Nat→Option Ba
  | 0=>some { keep:=[0,4,5,6,14],objs:=[],boxes:=[] }
  | _=>none
def root.Gx.A6:List (Nat × Entry):=[]
def root.Gx.E:Env:=A9 (A5 root.Gx.A6) (fun _=>false) root.Gx.hint (fun _=>none)
def root.Gx.L0 (N M:Nat) (m p4:Int) (p5 p6 p14:Int):Option DV:=B0 root.Gx.E N Tryz.f265 (An Tryz.f265) [1,1,0,1,0] [] M ⟨Gj 68 [(0,.int .u64 m),(4,.int .u64 p4),(5,.int .u64 p5),(6,.int .u64 p6),(14,.int .i64 p14)],[]⟩
theorem root.Gx.Ar (N M:Nat) (m p4:Int) (p5 p6 p14:Int):root.Gx.L0 N (M+1) m p4 p5 p6 p14=bif (A4 p14 64) then bif (A4 p14 32) then bif (decide (0≤(Ab ((62:Int)-(Ab ((2:Int)*p14)))))) then bif (decide ((Gz (Ia .u64 (B4 .u64 p6 2) (Ev .u64 (Dj .u64 m (Ab ((62:Int)-(Ab ((2:Int)*p14))))) 3)) (Ia .u64 (B4 .u64 p4 2) 1) 0)≤1)) then bif ((Gz (Ia .u64 (B4 .u64 p5 2) (Dj .u64 p6 62)) (Dj .u64 p4 62) (Gz (Ia .u64 (B4 .u64 p6 2) (Ev .u64 (Dj .u64 m (Ab ((62:Int)-(Ab ((2:Int)*p14))))) 3)) (Ia .u64 (B4 .u64 p4 2) 1) 0))==(0:Int)) then root.Gx.L0 N M m (Ia .u64 (B4 .u64 p4 1) 1) (Nn (Ia .u64 (B4 .u64 p5 2) (Dj .u64 p6 62)) (Dj .u64 p4 62) (Gz (Ia .u64 (B4 .u64 p6 2) (Ev .u64 (Dj .u64 m (Ab ((62:Int)-(Ab ((2:Int)*p14))))) 3)) (Ia .u64 (B4 .u64 p4 2) 1) 0)) (Nn (Ia .u64 (B4 .u64 p6 2) (Ev .u64 (Dj .u64 m (Ab ((62:Int)-(Ab ((2:Int)*p14))))) 3)) (Ia .u64 (B4 .u64 p4 2) 1) 0) (Ab (p14+1)) else root.Gx.L0 N M m (B4 .u64 p4 1) (Ia .u64 (B4 .u64 p5 2) (Dj .u64 p6 62)) (Ia .u64 (B4 .u64 p6 2) (Ev .u64 (Dj .u64 m (Ab ((62:Int)-(Ab ((2:Int)*p14))))) 3)) (Ab (p14+1)) else none else none else bif (decide ((Gz (Ia .u64 (B4 .u64 p6 2) 0) (Ia .u64 (B4 .u64 p4 2) 1) 0)≤1)) then bif ((Gz (Ia .u64 (B4 .u64 p5 2) (Dj .u64 p6 62)) (Dj .u64 p4 62) (Gz (Ia .u64 (B4 .u64 p6 2) 0) (Ia .u64 (B4 .u64 p4 2) 1) 0))==(0:Int)) then root.Gx.L0 N M m (Ia .u64 (B4 .u64 p4 1) 1) (Nn (Ia .u64 (B4 .u64 p5 2) (Dj .u64 p6 62)) (Dj .u64 p4 62) (Gz (Ia .u64 (B4 .u64 p6 2) 0) (Ia .u64 (B4 .u64 p4 2) 1) 0)) (Nn (Ia .u64 (B4 .u64 p6 2) 0) (Ia .u64 (B4 .u64 p4 2) 1) 0) (Ab (p14+1)) else root.Gx.L0 N M m (B4 .u64 p4 1) (Ia .u64 (B4 .u64 p5 2) (Dj .u64 p6 62)) (Ia .u64 (B4 .u64 p6 2) 0) (Ab (p14+1)) else none else some (.tup [.int .u64 p4,.bool (bif (p5==(0:Int)) then (p6==(0:Int)) else false)]) :=
  Eq.trans (by kernel_rfl)
  (Eh rfl (Av (N2 (p5==(0:Int))) (Av (Lt (p5==(0:Int))) (Av (Sr (p5==(0:Int))) rfl))))
theorem root.Gx.ev (N:Nat) (m:Int):Bq root.Gx.E N Tryz.f265 (An Tryz.f265) [.int .u64 m] =
  root.Gx.L0 N N m 0 0 0 0:=by kernel_rfl
abbrev _root_.Go.Proofs.S1.root.Gx.Kn:=A3 Tryz.prog 265 root.Gx.spec
theorem root.Gx.Ac (hk:Ax Tryz.prog root.Gx.A6) (h:∀ (m:Int),root.Gx.pre [.i m]=true→A8 root.Gx.E Tryz.f265 [.int .u64 m] (root.Gx.out [.i m])):root.Gx.Kn :=
  Ak (Az hk _ _ _) Tryz.func265 (by kernel_rfl) (by kernel_rfl) h
def root.Sqrt.hint:Nat→Option Ba
  | 5=>some { keep:=[5,7,9],objs:=[],boxes:=[] }
  | _=>none
def root.Sqrt.A6:List (Nat × Entry):=[(250,C5.B5.spec),(265,root.Gx.spec),(155,soft.Kind.spec),(212,soft.Di.spec),(211,soft.F9.spec),(213,soft.Sign.spec)]
def root.Sqrt.E:Env:=A9 (A5 root.Sqrt.A6) (fun _=>false) root.Sqrt.hint (fun _=>none)
def root.Sqrt.L0 (N M:Nat) (p5 p7:Int) (p9:Bool):Option DV:=B0 root.Sqrt.E N Tryz.f264 (An Tryz.f264) [1,1,1,1,1,1,1,1,1,0,0] [] M ⟨Gj 73 [(5,.int .i64 p5),(7,.int .u64 p7),(9,.bool p9)],[]⟩
theorem root.Sqrt.Ar (N M:Nat) (p5 p7:Int) (p9:Bool):root.Sqrt.L0 N (M+1) p5 p7 p9=bif (D6 4611686018427387904 p7) then root.Sqrt.L0 N M (Ab (p5+2)) (Dj .u64 p7 1) (bif p9 then true else ((Ev .u64 p7 1)==(1:Int))) else bif (Eg p7 (Ab ((Ab (Int.tdiv p5 2))-32)) p9) then some (.tup [.int .u64 (E3 false p7 (Ab ((Ab (Int.tdiv p5 2))-32)) p9),.int .u8 (E2 false p7 (Ab ((Ab (Int.tdiv p5 2))-32)) p9)]) else none :=
  Eq.trans (by kernel_rfl)
  (Eh (Av (Se p9) (Av (Qa p9) (Av (Qa p9) (Av (W4 p9) rfl)))) rfl)
theorem root.Sqrt.ev (N:Nat) (a:Int):Bq root.Sqrt.E N Tryz.f264 (An Tryz.f264) [.int .u64 a]=bif (Af a) then bif ((Bd a)==(4:Int)) then some (.tup [.int .u64 9221120237041090560,.int .u8 0]) else bif (Af a) then bif ((Bd a)==(0:Int)) then some (.tup [.int .u64 a,.int .u8 0]) else bif (a==(9218868437227405312:Int)) then some (.tup [.int .u64 a,.int .u8 0]) else bif (Af a) then bif (Dt a) then some (.tup [.int .u64 9221120237041090560,.int .u8 16]) else bif (Af a) then bif (Af (Bv a)) then bif ((Int.tmod (Ab ((Bh a)-(Ab ((64-E4 (Bv a))-2)))) 2) !=(0:Int)) then bif (decide (0≤(Ab ((Ab ((64-E4 (Bv a))-2))-1)))) then bif (Cz (0≤(B4 .u64 (Bv a) (Ab ((Ab ((64-E4 (Bv a))-2))-1)))∧(B4 .u64 (Bv a) (Ab ((Ab ((64-E4 (Bv a))-2))-1)))<9223372036854775808)) then root.Sqrt.L0 N N (Ab ((Bh a)-(Ab ((Ab ((64-E4 (Bv a))-2))-1)))) (Uq (B4 .u64 (Bv a) (Ab ((Ab ((64-E4 (Bv a))-2))-1)))) (!(Ur (B4 .u64 (Bv a) (Ab ((Ab ((64-E4 (Bv a))-2))-1))))) else none else none else bif (decide (0≤(Ab ((64-E4 (Bv a))-2)))) then bif (Cz (0≤(B4 .u64 (Bv a) (Ab ((64-E4 (Bv a))-2)))∧(B4 .u64 (Bv a) (Ab ((64-E4 (Bv a))-2)))<9223372036854775808)) then root.Sqrt.L0 N N (Ab ((Bh a)-(Ab ((64-E4 (Bv a))-2)))) (Uq (B4 .u64 (Bv a) (Ab ((64-E4 (Bv a))-2)))) (!(Ur (B4 .u64 (Bv a) (Ab ((64-E4 (Bv a))-2))))) else none else none else none else none else none else none else none:=by kernel_rfl
abbrev _root_.Go.Proofs.S1.root.Sqrt.Kn:=A3 Tryz.prog 264 root.Sqrt.spec
theorem root.Sqrt.Ac (hk:Ax Tryz.prog root.Sqrt.A6) (h:∀ (a:Int),root.Sqrt.pre [.i a]=true→A8 root.Sqrt.E Tryz.f264 [.int .u64 a] (root.Sqrt.out [.i a])):root.Sqrt.Kn :=
  Ak (Az hk _ _ _) Tryz.func264 (by kernel_rfl) (by kernel_rfl) h
def Ae.Sqrt.A6:List (Nat × Entry):=[(264,root.Sqrt.spec)]
def Ae.Sqrt.E:Env:=A9 (A5 Ae.Sqrt.A6) (fun _=>false) (fun _=>none) (fun _=>none)
theorem Ae.Sqrt.ev (N:Nat) (a:Int):Bq Ae.Sqrt.E N Tryz.f262 (An Tryz.f262) [.int .u64 a]=bif (Af a) then some (.int .u64 (Fu a)) else none:=by kernel_rfl
abbrev _root_.Go.Proofs.S1.Ae.Sqrt.Kn:=A3 Tryz.prog 262 Ae.Sqrt.spec
theorem Ae.Sqrt.Ac (hk:Ax Tryz.prog Ae.Sqrt.A6) (h:∀ (a:Int),Ae.Sqrt.pre [.i a]=true→A8 Ae.Sqrt.E Tryz.f262 [.int .u64 a] (Ae.Sqrt.out [.i a])):Ae.Sqrt.Kn :=
  Ak (Az hk _ _ _) Tryz.func262 (by kernel_rfl) (by kernel_rfl) h
def compare.Lu.A6:List (Nat × Entry):=[(261,C5.Lq.spec),(148,soft.Finite.spec),(155,soft.Kind.spec),(211,soft.F9.spec)]
def compare.Lu.E:Env:=A9 (A5 compare.Lu.A6) (fun _=>false) (fun _=>none) (fun _=>none)
theorem compare.Lu.ev (N:Nat) (a:Int):Bq compare.Lu.E N Tryz.f255 (An Tryz.f255) [.int .u64 a]=bif (Af a) then bif ((!(Cv a))||(Af a)) then bif ((!(Cv a))||((Bd a)==(0:Int))) then some (.int .i64 0) else bif (Af a) then bif (Af (Bv a)) then some (.int .i64 (Ab ((Ab ((E4 (Bv a))-1))+(Bh a)))) else none else none else none else none :=
  Eq.trans (by kernel_rfl)
  (Eh (Av (Ab8 (Cv a)) (C0 (Amo (Cv a) (Af a)) (Av (R8 (Cv a)) (Av (Ab9 (Cv a)) (C0 (As5 (Cv a) ((Bd a)==(0:Int))) rfl rfl))) rfl)) rfl)
abbrev _root_.Go.Proofs.S1.compare.Lu.Kn:=A3 Tryz.prog 255 compare.Lu.spec
theorem compare.Lu.Ac (hk:Ax Tryz.prog compare.Lu.A6) (h:∀ (a:Int),compare.Lu.pre [.i a]=true→A8 compare.Lu.E Tryz.f255 [.int .u64 a] (compare.Lu.out [.i a])):compare.Lu.Kn :=
  Ak (Az hk _ _ _) Tryz.func255 (by kernel_rfl) (by kernel_rfl) h
def Ae.Norm.hint:Nat→Option Ba
  | 0=>some { keep:=[5,6,25,26,27],objs:=[],boxes:=[] }
  | _=>none
def Ae.Norm.A6:List (Nat × Entry):=[(255,compare.Lu.spec),(148,soft.Finite.spec),(226,Ae.Add.spec),(89,Ae.Bo.spec),(157,Ae.Mul.spec),(88,Ae.Bs.spec),(262,Ae.Sqrt.spec)]
def Ae.Norm.E:Env:=A9 (A5 Ae.Norm.A6) (fun _=>false) Ae.Norm.hint (fun _=>none)
def Ae.Norm.L0 (N M:Nat) (x:List Int) (p6 p27:Int):Option DV:=B0 Ae.Norm.E N Tryz.f257 (An Tryz.f257) [1,1,1,1,1,1,0,1,0] [] M ⟨Gj 45 [(5,.int .i64 (Br (Be x))),(6,.int .u64 p6),(25,.ints .arg .u64 x),(26,.int .i64 (List.length x:Int)),(27,.int .i64 p27)],[]⟩
theorem Ae.Norm.Ar (N M:Nat) (x:List Int) (p6 p27:Int):Ae.Norm.L0 N (M+1) x p6 p27=bif (A4 p27 (List.length x:Int)) then bif ((decide (0≤p27))&&(decide (p27<(List.length x:Int)))) then bif (Dh (List.getD x (Int.toNat p27) 0) (Ab (0-(Br (Be x))))) then bif (Af (By (List.getD x (Int.toNat p27) 0) (Ab (0-(Br (Be x)))))&&Af (By (List.getD x (Int.toNat p27) 0) (Ab (0-(Br (Be x)))))) then bif (Af p6&&Af (D3 (By (List.getD x (Int.toNat p27) 0) (Ab (0-(Br (Be x))))) (By (List.getD x (Int.toNat p27) 0) (Ab (0-(Br (Be x))))))) then Ae.Norm.L0 N M x (Jx p6 (D3 (By (List.getD x (Int.toNat p27) 0) (Ab (0-(Br (Be x))))) (By (List.getD x (Int.toNat p27) 0) (Ab (0-(Br (Be x))))))) (Ab (p27+1)) else none else none else none else none else bif (Af p6) then bif (Dh (Fu p6) (Br (Be x))) then some (.tup [.int .u64 (By (Fu p6) (Br (Be x))),.int .i64 0]) else none else none:=by kernel_rfl
theorem Ae.Norm.ev (N:Nat) (x:List Int):Bq Ae.Norm.E N Tryz.f257 (An Tryz.f257) [.ints .arg .u64 x]=bif (A4 64 (List.length x:Int)) then some (.tup [.int .u64 0,.int .i64 3]) else bif (Cl x) then bif (((Be x)==(0:Int))||(Af (Be x))) then bif (((Be x)==(0:Int))||(!(Cv (Be x)))) then some (.tup [.int .u64 (Be x),.int .i64 0]) else bif (Af (Be x)) then Ae.Norm.L0 N N x 0 (0:Int) else none else none else none :=
  Eq.trans (by kernel_rfl)
  (Eh rfl (Eh (Av (Se ((Be x)==(0:Int))) (C0 (Ap6 ((Be x)==(0:Int)) (Af (Be x))) (Av (Qa ((Be x)==(0:Int))) (Av (W4 ((Be x)==(0:Int))) (C0 (Au6 ((Be x)==(0:Int)) (Cv (Be x))) rfl rfl))) rfl)) rfl))
abbrev _root_.Go.Proofs.S1.Ae.Norm.Kn:=A3 Tryz.prog 257 Ae.Norm.spec
theorem Ae.Norm.Ac (hk:Ax Tryz.prog Ae.Norm.A6) (h:∀ (x:List Int),Ae.Norm.pre [.l x]=true→A8 Ae.Norm.E Tryz.f257 [.ints .arg .u64 x] (Ae.Norm.out [.l x])):Ae.Norm.Kn :=
  Ak (Az hk _ _ _) Tryz.func257 (by kernel_rfl) (by kernel_rfl) h
end EqRoot
end Go.Proofs.S1
end
