/- A verified evaluator of the program's form and its use for this seat: S1EqBits6, S1EqTimes, S1PTimes, S1PTimesA, S1EqVec, S1PVec, S1EqMat, S1PMat, S1EqCmp, S1PCmp, S1PDiv, RootM, HouL, S1EqRoot. -/
import Derived.Test.YtjbokjpbiobjpaaGreatTE
import Derived.Test.YtjbokjpbiobjpaaGreatTF
import Derived.Test.YtjbokjpbiobjpaaGreatTH
import Derived.Test.YtjbokjpbiobjpaaGreatTG
set_option linter.unusedVariables false
set_option linter.unusedSimpArgs false
noncomputable section
namespace Go.Proofs.S1
open Go Go.Den Go.Rnd Go.Proofs
set_option maxRecDepth 100000
namespace EqBits6
def Cz.B3.A6:List (Nat × Entry):=[(261,Cz.Lg.spec)]
def Cz.B3.E:Env:=A9 (A5 Cz.B3.A6) (fun _=>false) (fun _=>none) (fun _=>none)
theorem Cz.B3.ev (N:Nat) (x:Int):Bp Cz.B3.E N Tryz.f250 (An Tryz.f250) [.int .u64 x]=bif (Af x) then some (.int .i64 (Ab ((64:Int)-(E2 x)))) else none:=by kernel_rfl
abbrev _root_.Go.Proofs.S1.Cz.B3.Kn:=A3 Tryz.prog 250 Cz.B3.spec
theorem Cz.B3.Ac (hk:Ax Tryz.prog Cz.B3.A6) (h:∀ (x:Int),Cz.B3.pre [.i x]=true→A8 Cz.B3.E Tryz.f250 [.int .u64 x] (Cz.B3.out [.i x])):Cz.B3.Kn :=
  Ak (Az hk _ _ _) Tryz.func250 (by kernel_rfl) (by kernel_rfl) h
def Cz.Ia.A6:List (Nat × Entry):=[]
def Cz.Ia.E:Env:=A9 (A5 Cz.Ia.A6) (fun _=>false) (fun _=>none) (fun _=>none)
theorem Cz.Ia.ev (N:Nat) (x y:Int):Bp Cz.Ia.E N Tryz.f237 (An Tryz.f237) [.int .u64 x,.int .u64 y]=some (.tup [.int .u64 (Bj ((Bj ((Bj ((De .u64 x 32)*(De .u64 y 32)))+(De .u64 (Bj ((Bj ((De .u64 x 32)*(Et .u64 y 4294967295)))+(De .u64 (Bj ((Et .u64 x 4294967295)*(Et .u64 y 4294967295))) 32))) 32)))+(De .u64 (Bj ((Et .u64 (Bj ((Bj ((De .u64 x 32)*(Et .u64 y 4294967295)))+(De .u64 (Bj ((Et .u64 x 4294967295)*(Et .u64 y 4294967295))) 32))) 4294967295)+(Bj ((Et .u64 x 4294967295)*(De .u64 y 32))))) 32))),.int .u64 (Bj (x*y))]):=by kernel_rfl
abbrev _root_.Go.Proofs.S1.Cz.Ia.Kn:=A3 Tryz.prog 237 Cz.Ia.spec
theorem Cz.Ia.Ac (hk:Ax Tryz.prog Cz.Ia.A6) (h:∀ (x y:Int),Cz.Ia.pre [.i x,.i y]=true→A8 Cz.Ia.E Tryz.f237 [.int .u64 x,.int .u64 y] (Cz.Ia.out [.i x,.i y])):Cz.Ia.Kn :=
  Ak (Az hk _ _ _) Tryz.func237 (by kernel_rfl) (by kernel_rfl) h
abbrev _root_.Go.Proofs.S1.Cz.Lg.Kn:Prop:=A3 Tryz.prog 261 Cz.Lg.spec
theorem _root_.Go.Proofs.S1.Cz.Lg.call:∀ (args:Array Value) (w:World),(callFunc 261 args).run Tryz.prog w=.ok (.enter 261 args) w:=S8 Tryz.func261 (by kernel_rfl) (show Tryz.f261.body=some (An Tryz.f261) by kernel_rfl)
theorem _root_.Go.Proofs.S1.Cz.Lg.run (x:Int) (w:World) (h0:0≤x) (h1:x≤18446744073709551615):Calls Tryz.prog 261 #[.int .u64 x] w fun e w'=>e=.returned (.int .i64 (Lib.bitLen x.toNat))∧w'=w:=Tryz.Aht x w h0 h1
end EqBits6
namespace EqTimes
def times.signed.A6:List (Nat × Entry):=[(233,soft.Dk.spec)]
def times.signed.E:Env:=A9 (A5 times.signed.A6) (fun _=>false) (fun _=>none) (fun _=>none)
theorem times.signed.ev (N:Nat) (b:Int) (n:Bool):Bp times.signed.E N Tryz.f235 (An Tryz.f235) [.int .u64 b,.bool n]=bif n then bif (Af b) then some (.int .u64 (C5 b)) else none else some (.int .u64 b):=by kernel_rfl
abbrev _root_.Go.Proofs.S1.times.signed.Kn:=A3 Tryz.prog 235 times.signed.spec
theorem times.signed.Ac (hk:Ax Tryz.prog times.signed.A6) (h:∀ (b:Int) (n:Bool),times.signed.pre [.i b,.b n]=true→A8 times.signed.E Tryz.f235 [.int .u64 b,.bool n] (times.signed.out [.i b,.b n])):times.signed.Kn :=
  Ak (Az hk _ _ _) Tryz.func235 (by kernel_rfl) (by kernel_rfl) h
def times.nan.A6:List (Nat × Entry):=[(155,soft.Kind.spec)]
def times.nan.E:Env:=A9 (A5 times.nan.A6) (fun _=>false) (fun _=>none) (fun _=>none)
theorem times.nan.ev (N:Nat) (a b:Int):Bp times.nan.E N Tryz.f234 (An Tryz.f234) [.int .u64 a,.int .u64 b]=bif (Af a) then bif ((Bd a)==(4:Int)) then some (.bool true) else bif (Af b) then bif ((Bd b)==(4:Int)) then some (.bool true) else some (.bool false) else none else none:=by kernel_rfl
abbrev _root_.Go.Proofs.S1.times.nan.Kn:=A3 Tryz.prog 234 times.nan.spec
theorem times.nan.Ac (hk:Ax Tryz.prog times.nan.A6) (h:∀ (a b:Int),times.nan.pre [.i a,.i b]=true→A8 times.nan.E Tryz.f234 [.int .u64 a,.int .u64 b] (times.nan.out [.i a,.i b])):times.nan.Kn :=
  Ak (Az hk _ _ _) Tryz.func234 (by kernel_rfl) (by kernel_rfl) h
def times.norm.A6:List (Nat × Entry):=[(250,Cz.B3.spec),(211,soft.F7.spec)]
def times.norm.E:Env:=A9 (A5 times.norm.A6) (fun _=>false) (fun _=>none) (fun _=>none)
theorem times.norm.ev (N:Nat) (b:Int):Bp times.norm.E N Tryz.f236 (An Tryz.f236) [.int .u64 b]=bif (Af b) then bif (Af (Bt b)) then bif (decide (0≤(Ab ((64-E2 (Bt b))-11)))) then some (.tup [.int .u64 (B2 .u64 (Bt b) (Ab ((64-E2 (Bt b))-11))),.int .i64 (Ab ((Bh b)-(Ab ((64-E2 (Bt b))-11))))]) else none else none else none:=by kernel_rfl
abbrev _root_.Go.Proofs.S1.times.norm.Kn:=A3 Tryz.prog 236 times.norm.spec
theorem times.norm.Ac (hk:Ax Tryz.prog times.norm.A6) (h:∀ (b:Int),times.norm.pre [.i b]=true→A8 times.norm.E Tryz.f236 [.int .u64 b] (times.norm.out [.i b])):times.norm.Kn :=
  Ak (Az hk _ _ _) Tryz.func236 (by kernel_rfl) (by kernel_rfl) h
def times.wide.hint:Nat→Option Ba
  | 0=>some { keep:=[0,1,2,3],objs:=[],boxes:=[] }
  | _=>none
def times.wide.A6:List (Nat × Entry):=[(212,soft.Dd.spec)]
def times.wide.E:Env:=A9 (A5 times.wide.A6) (fun _=>false) times.wide.hint (fun _=>none)
def times.wide.L0 (N M:Nat) (n:Bool) (p1 p2:Int) (p3:Bool):Option DV:=Bz times.wide.E N Tryz.f238 (An Tryz.f238) [1,0,0] [] M ⟨Gl 39 [(0,.bool n),(1,.int .u64 p1),(2,.int .i64 p2),(3,.bool p3)],[]⟩
theorem times.wide.Au (N M:Nat) (n:Bool) (p1 p2:Int) (p3:Bool):times.wide.L0 N (M+1) n p1 p2 p3=bif ((A4 p2 (-1130:Int))&&(A4 1 p1)) then times.wide.L0 N M n (De .u64 p1 1) (Ab (p2+1)) (bif p3 then true else ((Et .u64 p1 1)==(1:Int))) else bif (A4 p2 (-1130:Int)) then bif (Ec 0 (-1074:Int) true) then some (.tup [.int .u64 (E1 n 0 (-1074:Int) true),.int .u8 (E0 n 0 (-1074:Int) true)]) else none else bif (Ec p1 p2 p3) then some (.tup [.int .u64 (E1 n p1 p2 p3),.int .u8 (E0 n p1 p2 p3)]) else none :=
  Eq.trans (by kernel_rfl)
  (Aw (O1 (A4 p2 (-1130:Int))) (Aw (Lv (A4 p2 (-1130:Int))) (Aw (Ti (A4 p2 (-1130:Int))) (C2 (tt1 (A4 p2 (-1130:Int)) (A4 1 p1)) (Aw (R7 p3) (Aw (P2 p3) (Aw (P2 p3) (Aw (Wt p3) rfl)))) rfl))))
theorem times.wide.ev (N:Nat) (n:Bool) (m e:Int) (r:Bool):Bp times.wide.E N Tryz.f238 (An Tryz.f238) [.bool n,.int .u64 m,.int .i64 e,.bool r] =
  times.wide.L0 N N n m e r:=by kernel_rfl
abbrev _root_.Go.Proofs.S1.times.wide.Kn:=A3 Tryz.prog 238 times.wide.spec
theorem times.wide.Ac (hk:Ax Tryz.prog times.wide.A6) (h:∀ (n:Bool) (m e:Int) (r:Bool),times.wide.pre [.b n,.i m,.i e,.b r]=true→A8 times.wide.E Tryz.f238 [.bool n,.int .u64 m,.int .i64 e,.bool r] (times.wide.out [.b n,.i m,.i e,.b r])):times.wide.Kn :=
  Ak (Az hk _ _ _) Tryz.func238 (by kernel_rfl) (by kernel_rfl) h
def times.Mul.A6:List (Nat × Entry):=[(237,Cz.Ia.spec),(155,soft.Kind.spec),(213,soft.Sign.spec),(234,times.nan.spec),(236,times.norm.spec),(235,times.signed.spec),(238,times.wide.spec)]
def times.Mul.E:Env:=A9 (A5 times.Mul.A6) (fun _=>false) (fun _=>none) (fun _=>none)
theorem times.Mul.ev (N:Nat) (a b:Int):Bp times.Mul.E N Tryz.f208 (An Tryz.f208) [.int .u64 a,.int .u64 b]=bif (Af a) then bif (Af b) then bif (Af a) then bif (Af b) then bif (Af a&&Af b) then bif (Anc a b) then some (.tup [.int .u64 9221120237041090560,.int .u8 0]) else bif ((((Bd a)==(3:Int))&&((Bd b)==(0:Int)))||(((Bd a)==(0:Int))&&((Bd b)==(3:Int)))) then some (.tup [.int .u64 9221120237041090560,.int .u8 16]) else bif (((Bd a)==(3:Int))||((Bd b)==(3:Int))) then bif (Af 9218868437227405312) then some (.tup [.int .u64 (R8 (!((Dp a)==(Dp b))) 9218868437227405312),.int .u8 0]) else none else bif (((Bd a)==(0:Int))||((Bd b)==(0:Int))) then bif (Af 0) then some (.tup [.int .u64 (R8 (!((Dp a)==(Dp b))) 0),.int .u8 0]) else none else bif (Af a&&L5 a) then bif (Af b&&L5 b) then bif (Af (C1 a)&&Af (C1 b)) then bif (O2 (H7 .u64 (B2 .u64 (Sb (C1 a) (C1 b)) 20) (De .u64 (Nj (C1 a) (C1 b)) 44)) (Ab ((Ab ((Hb a)+(Hb b)))+44))) then some (.tup [.int .u64 (E1 (!((Dp a)==(Dp b))) (H7 .u64 (B2 .u64 (Sb (C1 a) (C1 b)) 20) (De .u64 (Nj (C1 a) (C1 b)) 44)) (Ab ((Ab ((Hb a)+(Hb b)))+44)) ((B2 .u64 (Nj (C1 a) (C1 b)) 20) !=(0:Int))),.int .u8 (E0 (!((Dp a)==(Dp b))) (H7 .u64 (B2 .u64 (Sb (C1 a) (C1 b)) 20) (De .u64 (Nj (C1 a) (C1 b)) 44)) (Ab ((Ab ((Hb a)+(Hb b)))+44)) ((B2 .u64 (Nj (C1 a) (C1 b)) 20) !=(0:Int)))]) else none else none else none else none else none else none else none else none else none :=
  Eq.trans (by kernel_rfl)
  (Ej (Ej (Ej (Ej (Ej (Ej rfl (Aw (O1 ((Bd a)==(3:Int))) (Aw (Lv ((Bd a)==(3:Int))) (Aw (Ti ((Bd a)==(3:Int))) (Aw (Auz ((Bd a)==(3:Int)) ((Bd b)==(0:Int))) (Aw (Apv ((Bd a)==(3:Int)) ((Bd b)==(0:Int))) (Aw (Apv ((Bd a)==(3:Int)) ((Bd b)==(0:Int))) (Aw (Au0 ((Bd a)==(3:Int)) ((Bd b)==(0:Int)) ((Bd a)==(0:Int))) (Aw (Au1 ((Bd a)==(3:Int)) ((Bd b)==(0:Int)) ((Bd a)==(0:Int))) (Aw (Au2 ((Bd a)==(3:Int)) ((Bd b)==(0:Int)) ((Bd a)==(0:Int))) (Aw (Au3 ((Bd a)==(3:Int)) ((Bd b)==(0:Int))) (C2 (Au4 ((Bd a)==(3:Int)) ((Bd b)==(0:Int)) ((Bd a)==(0:Int)) ((Bd b)==(3:Int))) rfl (Aw (R7 ((Bd a)==(3:Int))) (Aw (P2 ((Bd a)==(3:Int))) (Aw (Wt ((Bd a)==(3:Int))) (C2 (tt5 ((Bd a)==(3:Int)) ((Bd b)==(3:Int))) rfl (Aw (R7 ((Bd a)==(0:Int))) (Aw (P2 ((Bd a)==(0:Int))) (Aw (Wt ((Bd a)==(0:Int))) (C2 (tt5 ((Bd a)==(0:Int)) ((Bd b)==(0:Int))) rfl rfl)))))))))))))))))))) rfl) rfl) rfl) rfl) rfl)
abbrev _root_.Go.Proofs.S1.times.Mul.Kn:=A3 Tryz.prog 208 times.Mul.spec
theorem times.Mul.Ac (hk:Ax Tryz.prog times.Mul.A6) (h:∀ (a b:Int),times.Mul.pre [.i a,.i b]=true→A8 times.Mul.E Tryz.f208 [.int .u64 a,.int .u64 b] (times.Mul.out [.i a,.i b])):times.Mul.Kn :=
  Ak (Az hk _ _ _) Tryz.func208 (by kernel_rfl) (by kernel_rfl) h
def times.Div.hint:Nat→Option Ba
  | 1=>some { keep:=[6,10,11,12,13,14,78],objs:=[],boxes:=[] }
  | _=>none
def times.Div.A6:List (Nat × Entry):=[(155,soft.Kind.spec),(213,soft.Sign.spec),(234,times.nan.spec),(236,times.norm.spec),(235,times.signed.spec),(238,times.wide.spec)]
def times.Div.E:Env:=A9 (A5 times.Div.A6) (fun _=>false) times.Div.hint (fun _=>none)
def times.Div.L0 (N M:Nat) (a b:Int) (p13 p14 p78:Int):Option DV:=Bz times.Div.E N Tryz.f209 (An Tryz.f209) [1,1,1,1,1,1,1,0,1,0] [] M ⟨Gl 104 [(6,.bool (!((Dp a)==(Dp b)))),(10,.int .i64 (Hb a)),(11,.int .u64 (C1 b)),(12,.int .i64 (Hb b)),(13,.int .u64 p13),(14,.int .u64 p14),(78,.int .i64 p78)],[]⟩
theorem times.Div.Au (N M:Nat) (a b:Int) (p13 p14 p78:Int):times.Div.L0 N (M+1) a b p13 p14 p78=bif (A4 p78 61) then bif (Ee (C1 b) (B2 .u64 p14 1)) then times.Div.L0 N M a b (H7 .u64 (B2 .u64 p13 1) 1) (Bj ((B2 .u64 p14 1)-(C1 b))) (Ab (p78+1)) else times.Div.L0 N M a b (B2 .u64 p13 1) (B2 .u64 p14 1) (Ab (p78+1)) else bif (O2 p13 (Ab ((Ab ((Hb a)-(Hb b)))-61))) then some (.tup [.int .u64 (E1 (!((Dp a)==(Dp b))) p13 (Ab ((Ab ((Hb a)-(Hb b)))-61)) (p14 !=(0:Int))),.int .u8 (E0 (!((Dp a)==(Dp b))) p13 (Ab ((Ab ((Hb a)-(Hb b)))-61)) (p14 !=(0:Int)))]) else none:=by kernel_rfl
theorem times.Div.ev (N:Nat) (a b:Int):Bp times.Div.E N Tryz.f209 (An Tryz.f209) [.int .u64 a,.int .u64 b]=bif (Af a) then bif (Af b) then bif (Af a) then bif (Af b) then bif (Af a&&Af b) then bif (Anc a b) then some (.tup [.int .u64 9221120237041090560,.int .u8 0]) else bif ((((Bd a)==(3:Int))&&((Bd b)==(3:Int)))||(((Bd a)==(0:Int))&&((Bd b)==(0:Int)))) then some (.tup [.int .u64 9221120237041090560,.int .u8 16]) else bif ((Bd a)==(3:Int)) then bif (Af 9218868437227405312) then some (.tup [.int .u64 (R8 (!((Dp a)==(Dp b))) 9218868437227405312),.int .u8 0]) else none else bif (((Bd b)==(3:Int))||((Bd a)==(0:Int))) then bif (Af 0) then some (.tup [.int .u64 (R8 (!((Dp a)==(Dp b))) 0),.int .u8 0]) else none else bif ((Bd b)==(0:Int)) then bif (Af 9218868437227405312) then some (.tup [.int .u64 (R8 (!((Dp a)==(Dp b))) 9218868437227405312),.int .u8 8]) else none else bif (Af a&&L5 a) then bif (Af b&&L5 b) then bif ((C1 b) !=0) then bif ((C1 b) !=0) then times.Div.L0 N N a b (Bj (Int.tdiv (C1 a) (C1 b))) (Int.tmod (C1 a) (C1 b)) (0:Int) else none else none else none else none else none else none else none else none else none :=
  Eq.trans (by kernel_rfl)
  (Ej (Ej (Ej (Ej (Ej (Ej rfl (Aw (O1 ((Bd a)==(3:Int))) (Aw (Lv ((Bd a)==(3:Int))) (Aw (Ti ((Bd a)==(3:Int))) (Aw (Auz ((Bd a)==(3:Int)) ((Bd b)==(3:Int))) (Aw (Apv ((Bd a)==(3:Int)) ((Bd b)==(3:Int))) (Aw (Apv ((Bd a)==(3:Int)) ((Bd b)==(3:Int))) (Aw (Au0 ((Bd a)==(3:Int)) ((Bd b)==(3:Int)) ((Bd a)==(0:Int))) (Aw (Au1 ((Bd a)==(3:Int)) ((Bd b)==(3:Int)) ((Bd a)==(0:Int))) (Aw (Au2 ((Bd a)==(3:Int)) ((Bd b)==(3:Int)) ((Bd a)==(0:Int))) (Aw (Au3 ((Bd a)==(3:Int)) ((Bd b)==(3:Int))) (C2 (Au4 ((Bd a)==(3:Int)) ((Bd b)==(3:Int)) ((Bd a)==(0:Int)) ((Bd b)==(0:Int))) rfl (Ej rfl (Aw (R7 ((Bd b)==(3:Int))) (Aw (P2 ((Bd b)==(3:Int))) (Aw (Wt ((Bd b)==(3:Int))) (C2 (tt5 ((Bd b)==(3:Int)) ((Bd a)==(0:Int))) rfl (Ej rfl (Ej (Ej (C2 (Cs ((C1 b) !=0)) (C2 (Cs ((C1 b) !=0)) rfl rfl) rfl) rfl) rfl))))))))))))))))))) rfl) rfl) rfl) rfl) rfl)
abbrev _root_.Go.Proofs.S1.times.Div.Kn:=A3 Tryz.prog 209 times.Div.spec
theorem times.Div.Ac (hk:Ax Tryz.prog times.Div.A6) (h:∀ (a b:Int),times.Div.pre [.i a,.i b]=true→A8 times.Div.E Tryz.f209 [.int .u64 a,.int .u64 b] (times.Div.out [.i a,.i b])):times.Div.Kn :=
  Ak (Az hk _ _ _) Tryz.func209 (by kernel_rfl) (by kernel_rfl) h
end EqTimes
open EqBits6 EqTimes
theorem Afv {n:Nat} (h0:n≠0) (h:n<2^64):Go.Lib.bitLen n=n.log2+1:=by
  have h1:=Nat.log2_self_le h0
  have h2:=Nat.lt_log2_self (n:=n)
  have hp:=Cj n.log2
  have e:n / 2^n.log2=1:=by
    rw [Nat.pow_succ] at h2
    exact Nat.div_eq_of_lt_le (by omega) (by omega)
  have e1:Go.Lib.bitLen 1=1:=by decide
  rw [Go.Lib.bitLen_shift n.log2 n h1 h,e,e1]
theorem Cz.Lg.known:Cz.Lg.Kn:=by
  refine ⟨?_,Cz.Lg.call⟩
  intro args ha
  simp only [Cz.Lg.spec,entry] at ha ⊢
  cases hd:Mc [.i .u64] args with
  | none=>rw [hd] at ha; cases ha
  | some ats =>
    rw [hd] at ha
    simp only at ha ⊢
    obtain ⟨ds,h1,h2⟩:=Mb hd
    obtain ⟨x,_,_,rfl,rfl,he⟩:=h1.An5
    obtain ⟨rfl,rfl⟩:=he.Acl
    obtain ⟨n,rfl,hn⟩:=Bl (x:=x) ha
    refine N5.args ?_ h2
    intro w vals I hI hv
    obtain ⟨u,us,e1,e2,e3⟩:=hv
    simp only [Ao] at e2
    have e3:us=[]:=e3
    subst e2 e3
    have e4:vals=#[.int .u64 (n:Int)]:=Array.ext' e1
    subst e4
    refine (Cz.Lg.run n w (by omega) (by omega)).mono ?_
    rintro e w' ⟨rfl,rfl⟩
    refine ⟨_,fun _=>none,rfl,Go.RowKit.Below.refl _ _,⟨fun i b h=>(by cases h),fun i j b h=>(by cases h)⟩,?_⟩
    show Ao _ _ (DV.int .i64 (E2 n)) _
    simp only [Ao]
    congr 1
    unfold E2
    rw [Axv]
    by_cases h0:n=0
    · subst h0; rfl
    · rw [Afv h0 hn,if_neg (by omega)]; rfl
theorem Anw {n:Nat} (hn:n<2^64):0≤E2 n∧E2 n≤64:=by
  unfold E2
  rw [Axv]
  by_cases h0:n=0
  · subst h0; decide
  · have:=(Nat.log2_lt h0).2 hn
    rw [if_neg (by omega)]; omega
theorem Cz.B3.known:Cz.B3.Kn:=Cz.B3.Ac (.cons Cz.Lg.known .nil) fun x hp=>by
  obtain ⟨n,rfl,hn⟩:=Bl (x:=x) hp
  have:=Anw hn
  refine ⟨0,Cz.B3.out [.i n],[],?_,.int⟩
  rw [Cz.B3.ev,B9 hn,Axt,Am (by omega) (by omega)]
  rfl
theorem Jo {a b:Nat} (ha:a<4294967296) (hb:b<4294967296):a*b≤18446744065119617025 :=
  Nat.le_trans (Nat.mul_le_mul (show a≤4294967295 by omega) (show b≤4294967295 by omega)) (by decide)
theorem Ang (x y:Nat) (hx:x<2^64) (hy:y<2^64) :
    x*y / 18446744073709551616=(x / 2^32)*(y / 2^32)+((x / 2^32)*(y%2^32)+(x%2^32)*(y%2^32) / 2^32) / 2^32 +
      (((x / 2^32)*(y%2^32)+(x%2^32)*(y%2^32) / 2^32)%2^32+(x%2^32)*(y / 2^32)) / 2^32:=by
  have ex:x=x / 2^32*4294967296+x%2^32:=by omega
  have ey:y=y / 2^32*4294967296+y%2^32:=by omega
  have ha:x / 2^32<4294967296:=by omega
  have hc:y / 2^32<4294967296:=by omega
  have hb:x%2^32<4294967296:=by omega
  have hd:y%2^32<4294967296:=by omega
  generalize x / 2^32=a at *
  generalize x%2^32=b at *
  generalize y / 2^32=c at *
  generalize y%2^32=d at *
  have e:x*y=a*c*18446744073709551616+(a*d+b*c)*4294967296+b*d:=by
    rw [ex,ey,Nat.add_mul,Nat.mul_add,Nat.mul_add]
    have e1:a*4294967296*(c*4294967296)=a*c*18446744073709551616:=by
      rw [Nat.mul_mul_mul_comm]
    have e2:a*4294967296*d=a*d*4294967296:=Nat.mul_right_comm _ _ _
    have e3:b*(c*4294967296)=b*c*4294967296:=(Nat.mul_assoc _ _ _).symm
    rw [e1,e2,e3]
    omega
  have b1:=Jo ha hc
  have b2:=Jo ha hd
  have b3:=Jo hb hc
  have b4:=Jo hb hd
  rw [e]
  clear e ex ey
  generalize a*c=p at *
  generalize a*d=q at *
  generalize b*c=r at *
  generalize b*d=s at *
  omega
theorem Cz.Ia.known:Cz.Ia.Kn:=Cz.Ia.Ac .nil fun x y hp=>by
  obtain ⟨h1,h2⟩:=Ad.1 hp
  obtain ⟨x,rfl,hx⟩:=Bl h1
  obtain ⟨y,rfl,hy⟩:=Bl h2
  refine ⟨0,Cz.Ia.out [.i x,.i y],[],?_,Wk.Gw (.cons .int (.cons .int .nil))⟩
  show _=some (DV.tup [.int .u64 (Sb x y),.int .u64 (Nj x y)])
  have s32:∀ n:Nat,De .u64 (n:Int) (32:Int)=((n / 2^32:Nat):Int):=fun n=>Ht .u64 n 32 (by decide)
  have m32:∀ n:Nat,n<2^64→Et .u64 (n:Int) (4294967295:Int)=((n%2^32:Nat):Int):=fun n hn=>I2 32 hn (by decide)
  have ha:x / 2^32<4294967296:=by omega
  have hc:y / 2^32<4294967296:=by omega
  have hb:x%2^32<4294967296:=by omega
  have hd:y%2^32<4294967296:=by omega
  have b1:=Jo ha hc
  have b2:=Jo ha hd
  have b3:=Jo hb hc
  have b4:=Jo hb hd
  have hhi:=Ang x y hx hy
  have wn:∀ n:Nat,n<2^64→Bj (n:Int)=n:=fun n hn=>Di (by omega) (by omega)
  have hlt:x*y / 18446744073709551616<2^64:=by
    rw [Nat.div_lt_iff_lt_mul (by decide)]
    have:=Nat.mul_le_mul (show x≤18446744073709551615 by omega) (show y≤18446744073709551615 by omega)
    omega
  rw [Cz.Ia.ev]
  simp only [s32,m32 x hx,m32 y hy]
  generalize hA:x / 2^32=a at *
  generalize hB:x%2^32=b at *
  generalize hC:y / 2^32=c at *
  generalize hD:y%2^32=d at *
  simp only [← Aye]
  rw [wn (a*c) (by omega),wn (a*d) (by omega),wn (b*c) (by omega),wn (b*d) (by omega),s32]
  simp only [← Int.natCast_add]
  rw [wn (a*d+b*d / 2^32) (by omega),s32,m32 _ (by omega)]
  simp only [← Int.natCast_add]
  rw [wn (a*c+(a*d+b*d / 2^32) / 2^32) (by omega),wn _ (by omega),s32]
  simp only [← Int.natCast_add]
  rw [← hhi,wn _ hlt]
  unfold Sb Nj
  rw [Axv,Axv,N7]
  congr 3
theorem times.signed.known:times.signed.Kn:=times.signed.Ac (.cons soft.Dk.known .nil) fun b n hp=>by
  have hp:Af b=true:=hp
  refine ⟨0,times.signed.out [.i b,.b n],[],?_,.int⟩
  rw [times.signed.ev,hp]
  cases n<;>rfl
theorem times.nan.known:times.nan.Kn:=times.nan.Ac (.cons soft.Kind.known .nil) fun a b hp=>by
  obtain ⟨ha,hb⟩:=Ad.1 hp
  refine ⟨0,times.nan.out [.i a,.i b],[],?_,.bool⟩
  rw [times.nan.ev,ha,hb,Axt,Axt]
  show _=some (DV.bool (decide (Bd a=4)||decide (Bd b=4)))
  by_cases h1:Bd a=4
  · rw [h1]; rfl
  · have e1:(Bd a==(4:Int))=false:=by simp; exact h1
    rw [e1,Axy h1,Axx]
    by_cases h2:Bd b=4
    · rw [h2]; rfl
    · have e2:(Bd b==(4:Int))=false:=by simp; exact h2
      rw [e2,Axy h2]; rfl
theorem Ok {n:Nat} (h:Av n≠0):(Av n).log2≤52∧2^52≤Av n*2^Ce n∧Av n*2^Ce n<2^53∧Ce n≤52:=by
  have h1:=E9 n
  have h2:(Av n).log2<53:=(Nat.log2_lt h).2 (by omega)
  have hz:=La (Av n) (Ce n) h
  have hne:Av n*2^Ce n≠0:=Ip h
  have hl:(Av n*2^Ce n).log2=52:=by rw [hz]; unfold Ce; omega
  refine ⟨by omega,?_,?_,by unfold Ce; omega⟩
  · rw [← Nat.le_log2 hne]; omega
  · rw [← Nat.log2_lt hne]; omega
theorem times.norm.known:times.norm.Kn:=times.norm.Ac (.cons Cz.B3.known (.cons soft.F7.known .nil)) fun b hp=>by
  obtain ⟨h1,h2⟩:=Ad.1 hp
  obtain ⟨n,rfl,hn⟩:=Bl h1
  have h2:Av n≠0:=Ar.1 h2
  obtain ⟨l1,l2,l3,l4⟩:=Ok h2
  have hM:=E9 n
  have hE:=El n
  refine ⟨0,times.norm.out [.i n],[],?_,Wk.Gw (.cons .int (.cons .int .nil))⟩
  show _=some (DV.tup [.int .u64 (C1 n),.int .i64 (Hb n)])
  have e1:Bt (n:Int)=(Av n:Int):=rfl
  have e2:Bh (n:Int)=A2 n:=rfl
  have e3:E2 (Av n:Int)=((Av n).log2:Int)+1:=by
    unfold E2
    rw [if_neg (by omega),Axv]
  have e4:Ab ((64-(((Av n).log2:Int)+1))-(11:Int))=((Ce n:Nat):Int):=by
    rw [Am (by omega) (by omega)]; unfold Ce; omega
  rw [times.norm.ev,B9 hn,e1,e2,B9 (n:=Av n) (by omega),e3,e4,Ff _ _ (by omega),Ax6 (by omega),Am (by omega) (by omega),Axu (by omega)]
  rfl
theorem Ajk {V t:Nat} {E:Int} (h0:V≠0) (h:V<2^t) (hE:E+t≤-1075):Ci V E=0∧flagsOf V E=3:=by
  have hl:V.log2<t:=(Nat.log2_lt h0).2 h
  have hL:Ch V E=-1074:=by unfold Ch; omega
  obtain ⟨k,hk⟩:∃ k:Nat,(-1074-E).toNat=t+1+k:=⟨(-1074-E).toNat-t-1,by omega⟩
  have hp:2^(t+1)≤2^(t+1+k):=Ax8 (by decide) (by omega)
  have ht:2^(t+1)=2*2^t:=by rw [Nat.pow_succ]; omega
  have e2:(-(-1074-E)).toNat=0:=by omega
  have hr:Jz V (-1074-E)=0:=by
    unfold Jz Mq
    rw [e2,hk,Nat.pow_zero,Nat.mul_one,Nat.div_eq_of_lt (by omega),Ax6 (by omega),if_neg (by omega)]
  have hru:Ci V E=0:=by
    unfold Ci kept
    rw [if_neg h0,hL,hr]
    simp
  refine ⟨hru,?_⟩
  unfold flagsOf exact Ml
  rw [if_neg h0,hru,hL,e2,hk,Nat.pow_zero,Nat.mul_one,Ax6 (by omega),Axy h0]
  decide
theorem Akk (n:Bool) {m:Nat} {e:Int} (r:Bool) (hm:1<m) (he:e < -1130):Gf n (m / 2) (e+1) (r||decide (m%2=1))=Gf n m e r:=by
  have e1:(4*m+r.toNat) / 2^3=m / 2:=by cases r<;>simp<;>omega
  have e2:(r||decide (m%2=1))=decide ((4*m+r.toNat)%2^3≠0):=by
    rw [Ax9]
    cases r
    · simp; omega
    · simp; omega
  have:=T9 n (V:=4*m+r.toNat) (k:=3) (E:=e-2) (e:=e+1) (s:=r||decide (m%2=1)) (by omega) e2 (by omega) (.inr (by omega))
  rw [e1] at this
  exact this
theorem T8 (n:Bool) {e:Int} (r:Bool) (he:e < -1130):Gf n 1 e r=Gf n 0 (-1074) true:=by
  have h1:r.toNat≤1:=by cases r<;>decide
  obtain ⟨a1,a2⟩:=Ajk (V:=4*1+r.toNat) (t:=3) (E:=e-2) (by omega) (by omega) (by omega)
  obtain ⟨b1,b2⟩:=Ajk (V:=4*0+true.toNat) (t:=1) (E:=-1074-2) (by decide) (by decide) (by decide)
  unfold Gf
  rw [a1,a2,b1,b2]
theorem Ajg (N:Nat) (n:Bool):∀ (k m:Nat) (e:Int) (r:Bool),1≤m→m<2^62→m≤2^k→-7000≤e→e≤6000→(2^60≤m∨e≤-1130) →
    times.wide.L0 N (k+1) n (m:Int) e r=some (.tup [.int .u64 (((Gf n m e r).1:Nat):Int),.int .u8 (((Gf n m e r).2:Nat):Int)]):=by
  intro k
  induction k with
  | zero =>
    intro m e r h1 h2 h3 h4 h5 h6
    have hm:m=1:=by simp at h3; omega
    subst hm
    rw [times.wide.Au,As,As]
    have c1:decide ((1:Int)<((1:Nat):Int))=false:=by decide
    rw [c1,Bool.and_false,Axx]
    by_cases he:e < -1130
    · have hp:Ec (0:Int) (-1074:Int) true=true:=Ar.2 (by omega)
      rw [Axu he,Axt,hp,Axt,T8 n r he]
      rfl
    · have he:e=-1130:=by omega
      subst he
      have hp:Ec ((1:Nat):Int) (-1130:Int) r=true:=Ar.2 (by omega)
      rw [Axy (by omega),Axx,hp,Axt]
      rfl
  | succ k ih =>
    intro m e r h1 h2 h3 h4 h5 h6
    rw [times.wide.Au,As,As]
    by_cases he:e < -1130
    · by_cases hm:1<m
      · have c1:decide ((1:Int)<(m:Int))=true:=Axu (by omega)
        have e1:De .u64 (m:Int) (1:Int)=((m / 2:Nat):Int):=Ht .u64 m 1 (by decide)
        have e2:Et .u64 (m:Int) (1:Int)=((m%2:Nat):Int):=I2 (a:=m) 1 (by omega) (by decide)
        have e3:(bif r then true else (Et .u64 (m:Int) (1:Int))==(1:Int))=(r||decide (m%2=1)):=by
          rw [e2]
          cases r
          · rw [Ax9]; simp; omega
          · rfl
        rw [Axu he,c1,Axz,Axt,e1,e3,Am (by omega) (by omega)]
        have hk:m / 2≤2^k:=by rw [Nat.pow_succ] at h3; omega
        rw [ih (m / 2) (e+1) _ (by omega) (by omega) hk (by omega) (by omega) (.inr (by omega)),Akk n r hm he]
      · have hm:m=1:=by omega
        subst hm
        have c1:decide ((1:Int)<((1:Nat):Int))=false:=by decide
        have hp:Ec (0:Int) (-1074:Int) true=true:=Ar.2 (by omega)
        rw [c1,Bool.and_false,Axx,Axu he,Axt,hp,Axt,T8 n r he]
        rfl
    · have hp:Ec (m:Int) e r=true:=Ar.2 ⟨by omega,by omega,by omega,.inl (by omega),fun _=>by omega⟩
      rw [Axy he,Bool.false_and,Axx,Axx,hp,Axt]
      rfl
theorem times.wide.known:times.wide.Kn:=times.wide.Ac (.cons soft.Dd.known .nil) fun n m e r hp=>by
  obtain ⟨h1,h2,h3,h4⟩:=Ar.1 (show O2 m e=true from hp)
  obtain ⟨m,rfl⟩:∃ k:Nat,m=k:=⟨m.toNat,by omega⟩
  refine ⟨63,times.wide.out [.b n,.i m,.i e,.b r],[],?_,Wk.Gw (.cons .int (.cons .int .nil))⟩
  rw [times.wide.ev,Ajg 63 n 62 m e r (by omega) (by omega) (by omega) (by omega) (by omega) (.inl (by omega))]
  rfl
open EqTimes
theorem Oe {b:Nat} (h0:Al b≠0) (h3:Al b≠3) (h4:Al b≠4):Av b≠0:=by
  have:=Jb b
  unfold Al at h0 h3 h4
  unfold Av
  by_cases h1:Dv b=2047
  · rw [if_pos h1] at h3 h4
    by_cases h2:C4 b=0
    · rw [if_pos h2] at h3; exact absurd rfl h3
    · rw [if_neg h2] at h4; exact absurd rfl h4
  · rw [if_neg h1] at h0
    by_cases h2:0<Dv b
    · rw [if_neg (by omega)]; omega
    · rw [if_neg h2] at h0
      by_cases h5:0<C4 b
      · rw [if_pos (by omega)]; omega
      · rw [if_neg h5] at h0; exact absurd rfl h0
theorem Ve {b:Nat} (h0:Al b=0):Av b=0:=by
  unfold Al at h0
  unfold Av
  by_cases h1:Dv b=2047
  · rw [if_pos h1] at h0; split at h0<;>omega
  · rw [if_neg h1] at h0
    by_cases h2:0<Dv b
    · rw [if_pos h2] at h0; omega
    · rw [if_neg h2] at h0
      by_cases h5:0<C4 b
      · rw [if_pos h5] at h0; omega
      · rw [if_pos (by omega)]; omega
theorem Ag3 {x y:Nat} (hx1:2^52≤x) (hx2:x<2^53) (hy1:2^52≤y) (hy2:y<2^53):2^104≤x*y∧x*y<2^106:=by
  have h1:=Nat.mul_le_mul hx1 hy1
  have h2:x*y<2^53*2^53:=Nat.mul_lt_mul'' hx2 hy2
  exact ⟨Nat.le_trans (by decide) h1,Nat.lt_of_lt_of_le h2 (by decide)⟩
theorem Aqb {V:Nat} (h:V<2^106):H7 .u64 (B2 .u64 ((V / 18446744073709551616:Nat):Int) (20:Int)) (De .u64 ((V%18446744073709551616:Nat):Int) (44:Int))=((V / 2^44:Nat):Int):=by
  have e1:B2 .u64 ((V / 18446744073709551616:Nat):Int) (20:Int)=((V / 18446744073709551616*2^20%2^64:Nat):Int):=Ff _ 20 (by decide)
  have e2:De .u64 ((V%18446744073709551616:Nat):Int) (44:Int)=((V%18446744073709551616 / 2^44:Nat):Int):=Ht .u64 _ 44 (by decide)
  rw [e1,e2,Ax6 (by omega),M5 (k:=20) (by omega) (by omega)]
  congr 1
  omega
theorem Aqa {V:Nat}:((B2 .u64 ((V%18446744073709551616:Nat):Int) (20:Int)) !=(0:Int))=decide (V%2^44≠0):=by
  have e1:B2 .u64 ((V%18446744073709551616:Nat):Int) (20:Int)=((V%18446744073709551616*2^20%2^64:Nat):Int):=Ff _ 20 (by decide)
  rw [e1,Ax9]
  simp only [bne_iff_ne,ne_eq,Ax0]
  omega
theorem Ack (s t:Bool):(!(s==t))=(s !=t):=rfl
theorem w53 {x:Nat} (h:x<2^53):Af (x:Int)=true:=B9 (by omega)
theorem Aqj (n:Bool) {a b:Nat} (ha:Av a≠0) (hb:Av b≠0) :
    (bif (Af (C1 a)&&Af (C1 b)) then
      bif (O2 (H7 .u64 (B2 .u64 (Sb (C1 a) (C1 b)) (20:Int)) (De .u64 (Nj (C1 a) (C1 b)) (44:Int))) (Ab ((Ab ((Hb a)+(Hb b)))+(44:Int)))) then
        some (DV.tup [.int .u64 (E1 n (H7 .u64 (B2 .u64 (Sb (C1 a) (C1 b)) (20:Int)) (De .u64 (Nj (C1 a) (C1 b)) (44:Int))) (Ab ((Ab ((Hb a)+(Hb b)))+(44:Int))) ((B2 .u64 (Nj (C1 a) (C1 b)) (20:Int)) !=(0:Int))),.int .u8 (E0 n (H7 .u64 (B2 .u64 (Sb (C1 a) (C1 b)) (20:Int)) (De .u64 (Nj (C1 a) (C1 b)) (44:Int))) (Ab ((Ab ((Hb a)+(Hb b)))+(44:Int))) ((B2 .u64 (Nj (C1 a) (C1 b)) (20:Int)) !=(0:Int)))])
      else none
    else none)=some (.tup [.int .u64 ((Bk n (Ci (Av a*Av b) (A2 a+A2 b)):Nat):Int),.int .u8 ((flagsOf (Av a*Av b) (A2 a+A2 b):Nat):Int)]):=by
  obtain ⟨a1,a2,a3,a4⟩:=Ok ha
  obtain ⟨b1,b2,b3,b4⟩:=Ok hb
  have ea:=El a
  have eb:=El b
  have ma:C1 (a:Int)=((Av a*2^Ce a:Nat):Int):=rfl
  have mb:C1 (b:Int)=((Av b*2^Ce b:Nat):Int):=rfl
  have na:Hb (a:Int)=A2 a-Ce a:=rfl
  have nb:Hb (b:Int)=A2 b-Ce b:=rfl
  have hi:Sb (C1 a) (C1 b)=((Av a*2^Ce a*(Av b*2^Ce b) / 18446744073709551616:Nat):Int):=rfl
  have lo:Nj (C1 a) (C1 b)=((Av a*2^Ce a*(Av b*2^Ce b)%18446744073709551616:Nat):Int):=rfl
  rw [hi,lo,ma,mb,na,nb,w53 a3,w53 b3,Axz,Axt]
  obtain ⟨v1,v2⟩:=Ag3 a2 a3 b2 b3
  have ev:Av a*2^Ce a*(Av b*2^Ce b)=Av a*Av b*2^(Ce a+Ce b):=by
    rw [Nat.mul_mul_mul_comm,← Nat.pow_add]
  obtain ⟨s1,s2⟩:=Eb (Av a*Av b) (Ce a+Ce b) (A2 a+A2 b)
  rw [← ev] at s1 s2
  generalize Av a*2^Ce a*(Av b*2^Ce b)=V at *
  rw [Aqb v2,Aqa,Am (x:=_+_) (by rw [Am (by omega) (by omega)]; omega) (by rw [Am (by omega) (by omega)]; omega),Am (by omega) (by omega)]
  have hw:O2 ((V / 2^44:Nat):Int) (A2 a-Ce a+(A2 b-Ce b)+44)=true:=Ar.2 ⟨by omega,by omega,by omega,by omega⟩
  rw [hw,Axt]
  unfold E1 E0
  rw [Axv,T9 n (V:=V) (k:=44) (E:=A2 a+A2 b-((Ce a+Ce b:Nat):Int)) (e:=A2 a-Ce a+(A2 b-Ce b)+44) (s:=decide (V%2^44≠0)) (by omega) rfl (by omega) (.inl (by omega)),s1,s2]
theorem kq (b k:Nat):(((Al b:Nat):Int)==((k:Nat):Int))=decide (Al b=k):=by
  rw [Ax9]; simp only [beq_iff_eq,Ax0]; omega
theorem Aaf (n:Bool) {r:Nat} (h:r<2^63):R8 n (r:Int)=((Bk n r:Nat):Int):=by
  unfold R8 Bk C5
  cases n
  · rfl
  · simp only [if_true]
    rw [Axv,Yj h]
theorem Ae9 (n:Bool):R8 n (9218868437227405312:Int)=((Bk n D8:Nat):Int):=Aaf n (r:=D8) (by decide)
theorem Z6 (n:Bool):R8 n (0:Int)=((Bk n 0:Nat):Int):=Aaf n (r:=0) (by decide)
theorem Rj (b:Nat):Bd (b:Int)=((Al b:Nat):Int):=rfl
theorem Aio (a b:Nat):Anc (a:Int) (b:Int)=(decide (Al a=4)||decide (Al b=4)):=by
  unfold Anc Bd
  simp only [Axv]
  rw [Ax9]
  simp only [Bool.or_eq_true,Ax0]
  omega
theorem k3 (b:Nat):(((Al b:Nat):Int)==(3:Int))=decide (Al b=3):=kq b 3
theorem k0 (b:Nat):(((Al b:Nat):Int)==(0:Int))=decide (Al b=0):=kq b 0
theorem times.Mul.known:times.Mul.Kn:=times.Mul.Ac (.cons Cz.Ia.known (.cons soft.Kind.known (.cons soft.Sign.known (.cons times.nan.known (.cons times.norm.known (.cons times.signed.known (.cons times.wide.known .nil))))))) fun a b hp=>by
  obtain ⟨ha,hb⟩:=Ad.1 hp
  obtain ⟨a,rfl,hn⟩:=Bl ha
  obtain ⟨b,rfl,hm⟩:=Bl hb
  refine ⟨0,times.Mul.out [.i a,.i b],[],?_,Wk.Gw (.cons .int (.cons .int .nil))⟩
  have i1:Af (9218868437227405312:Int)=true:=B9 (n:=9218868437227405312) (by decide)
  have i2:Af (0:Int)=true:=B9 (n:=0) (by decide)
  rw [times.Mul.ev,ha,hb,Aio,Rj,Rj,k3,k3,k0,k0,i1,i2,Ae9,Z6,Ack]
  show _=some (DV.tup [.int .u64 (((Nb a b).1:Nat):Int),.int .u8 (((Nb a b).2:Nat):Int)])
  have ea:Dp (a:Int)=Bs a:=rfl
  have eb:Dp (b:Int)=Bs b:=rfl
  rw [ea,eb]
  unfold Nb
  simp only [Axz,Axt]
  by_cases h4:Al a=4∨Al b=4
  · have c4:(decide (Al a=4)||decide (Al b=4))=true:=by simp; exact h4
    rw [if_pos h4,c4,Axt]; rfl
  · have c4:(decide (Al a=4)||decide (Al b=4))=false:=by simp; omega
    rw [if_neg h4,c4,Axx]
    by_cases h3:Al a=3∨Al b=3
    · rw [if_pos h3]
      by_cases h0:Al a=0∨Al b=0
      · have c0:(decide (Al a=3)&&decide (Al b=0)||decide (Al a=0)&&decide (Al b=3))=true:=by simp; omega
        rw [if_pos h0,c0,Axt]; rfl
      · have c0:(decide (Al a=3)&&decide (Al b=0)||decide (Al a=0)&&decide (Al b=3))=false:=by simp; omega
        have c3:(decide (Al a=3)||decide (Al b=3))=true:=by simp; omega
        rw [if_neg h0,c0,Axx,c3,Axt]; rfl
    · have c0:(decide (Al a=3)&&decide (Al b=0)||decide (Al a=0)&&decide (Al b=3))=false:=by simp; omega
      have c3:(decide (Al a=3)||decide (Al b=3))=false:=by simp; omega
      rw [if_neg h3,c0,Axx,c3,Axx]
      by_cases h0:Al a=0∨Al b=0
      · have c5:(decide (Al a=0)||decide (Al b=0))=true:=by simp; exact h0
        have hz:Av a*Av b=0:=by
          rcases h0 with h | h
          · rw [Ve h,Nat.zero_mul]
          · rw [Ve h,Nat.mul_zero]
        rw [c5,Axt,hz,Rc,Pl]; rfl
      · have c5:(decide (Al a=0)||decide (Al b=0))=false:=by simp; omega
        have pa:=Oe (b:=a) (by omega) (by omega) (by omega)
        have pb:=Oe (b:=b) (by omega) (by omega) (by omega)
        have na:L5 (a:Int)=true:=Ar.2 pa
        have nb:L5 (b:Int)=true:=Ar.2 pb
        rw [c5,Axx,na,nb,Axz,Axt,Axt]
        exact Aqj _ pa pb
theorem Aon (N:Nat) {a b:Nat} {X Y:Nat} (hY:0<Y) (hY2:Y<2^53) (hX:X<2*Y) (em:C1 (b:Int)=(Y:Int)):∀ (k i:Nat),k+i=61 →
    times.Div.L0 N (k+1) a b ((X*2^i / Y:Nat):Int) ((X*2^i%Y:Nat):Int) (i:Int) =
      times.Div.L0 N 1 a b ((X*2^61 / Y:Nat):Int) ((X*2^61%Y:Nat):Int) (61:Int):=by
  intro k
  induction k with
  | zero =>
    intro i hi
    have:i=61:=by omega
    subst this
    rfl
  | succ k ih =>
    intro i hi
    have hq:X*2^i / Y<2^62:=by
      rw [Nat.div_lt_iff_lt_mul hY]
      have h1:X*2^i<2*Y*2^i:=(Nat.mul_lt_mul_right (Cj i)).2 hX
      have h2:2*2^i≤2^62:=by
        rw [Nat.mul_comm,← Nat.pow_succ]; exact Ax8 (by decide) (by omega)
      have h3:2*2^i*Y≤2^62*Y:=Ax5 _ h2
      rw [Nat.mul_right_comm] at h1
      omega
    have hr:X*2^i%Y<Y:=Nat.mod_lt _ hY
    have hd:=Nat.div_add_mod (X*2^i) Y
    have e2:X*2^(i+1)=X*2^i*2:=by rw [Nat.pow_succ,Nat.mul_assoc]
    rw [times.Div.Au,As,Ei,em,Axu (by omega),Axt]
    have s1:B2 .u64 ((X*2^i%Y:Nat):Int) (1:Int)=((X*2^i%Y*2:Nat):Int):=by
      have:=Ff (X*2^i%Y) 1 (by decide)
      rw [Ax6 (a:=X*2^i%Y*2^1) (by omega)] at this
      exact this
    have s2:B2 .u64 ((X*2^i / Y:Nat):Int) (1:Int)=((X*2^i / Y*2^1:Nat):Int):=by
      have:=Ff (X*2^i / Y) 1 (by decide)
      rw [Ax6 (a:=X*2^i / Y*2^1) (by omega)] at this
      exact this
    have s3:H7 .u64 ((X*2^i / Y*2^1:Nat):Int) (1:Int)=((X*2^i / Y*2^1+1:Nat):Int):=M5 (k:=1) (b:=1) (by decide) (by omega)
    have ei:Ab ((i:Int)+1)=((i+1:Nat):Int):=by rw [Am (by omega) (by omega)]; rfl
    rw [s1,s2,s3,ei]
    generalize hq':X*2^i / Y=q at *
    generalize hr':X*2^i%Y=r at *
    have step:∀ c,X*2^i*2=Y*(2*q+c)+(2*r-c*Y)→c*Y≤2*r→2*r<c*Y+Y→X*2^(i+1) / Y=2*q+c∧X*2^(i+1)%Y=2*r-c*Y:=fun c h1 h2 h3=>by
      rw [e2,h1]
      constructor
      · rw [Nat.mul_add_div hY,Nat.div_eq_of_lt (by omega)]; omega
      · rw [Nat.mul_add_mod,Ax6 (by omega)]
    by_cases hc:Y≤r*2
    · obtain ⟨t1,t2⟩:=step 1 (by rw [Nat.mul_add,Nat.mul_one,Nat.mul_left_comm]; omega) (by omega) (by omega)
      have:=ih (i+1) (by omega)
      rw [t1,t2] at this
      rw [Axu (by omega),Axt,Di (by omega) (by omega)]
      have e3:((r*2:Nat):Int)-(Y:Int)=((2*r-1*Y:Nat):Int):=by omega
      have e4:q*2^1+1=2*q+1:=by omega
      rw [e3,e4]
      exact this
    · obtain ⟨t1,t2⟩:=step 0 (by rw [Nat.add_zero,Nat.mul_left_comm]; omega) (by omega) (by omega)
      have:=ih (i+1) (by omega)
      rw [t1,t2] at this
      rw [Axy (by omega),Axx]
      have e3:r*2=2*r-0*Y:=by omega
      have e4:q*2^1=2*q+0:=by omega
      rw [e3,e4]
      exact this
theorem Aq8 {a b:Nat} (ha:Av a≠0) (hb:Av b≠0) :
    times.Div.L0 62 62 a b (Bj (Int.tdiv (C1 a) (C1 b))) (Int.tmod (C1 a) (C1 b)) (0:Int) =
      some (.tup [.int .u64 ((Bk (Bs a !=Bs b) (Ci (Fi (Av a) (Av b) 120) (A2 a-A2 b-121)):Nat):Int),.int .u8 ((flagsOf (Fi (Av a) (Av b) 120) (A2 a-A2 b-121):Nat):Int)]):=by
  obtain ⟨a1,a2,a3,a4⟩:=Ok ha
  obtain ⟨b1,b2,b3,b4⟩:=Ok hb
  have ea:=El a
  have eb:=El b
  have ma:C1 (a:Int)=((Av a*2^Ce a:Nat):Int):=rfl
  have mb:C1 (b:Int)=((Av b*2^Ce b:Nat):Int):=rfl
  have na:Hb (a:Int)=A2 a-Ce a:=rfl
  have nb:Hb (b:Int)=A2 b-Ce b:=rfl
  have sL:=Agi (Av a) (Av b*2^Ce b) (Ce a) 61
  have hpos:0<Av b*2^Ce b:=by omega
  have hq1:2^53≤Av a*2^Ce a*2^61 / (Av b*2^Ce b):=by
    rw [Nat.le_div_iff_mul_le hpos]; omega
  have hqq:2^60≤Av a*2^Ce a*2^61 / (Av b*2^Ce b):=by
    rw [Nat.le_div_iff_mul_le hpos]; omega
  have hq2:Av a*2^Ce a*2^61 / (Av b*2^Ce b)<2^62:=by
    rw [Nat.div_lt_iff_lt_mul hpos]; omega
  have hstick:Fi (Av a*2^Ce a) (Av b*2^Ce b) 61=Fi (Av a) (Av b) (61+Ce a-Ce b):=by
    rw [sL]
    have:61+Ce a=61+Ce a-Ce b+Ce b:=by omega
    conv=>lhs; rw [this]
    rw [Adu]
  have hge1:2^53≤Av a*2^(61+Ce a-Ce b) / Av b:=by
    have e1:Av a*2^Ce a*2^61=Av a*2^(61+Ce a-Ce b)*2^Ce b:=by
      rw [Nat.mul_assoc,← Nat.pow_add,Nat.mul_assoc,← Nat.pow_add]
      congr 2
      omega
    rw [e1,Nat.mul_div_mul_right _ _ (Cj _)] at hq1
    exact hq1
  have hge2:2^53≤Av a*2^120 / Av b:=Amt (t:=53) (by omega) (by omega) (by have:=E9 b; omega) (by omega)
  obtain ⟨s1,s2⟩:=Xm (X:=Av a) (Y:=Av b) (K:=61+Ce a-Ce b) (L:=120) (E:=A2 a-Ce a-(A2 b-Ce b)-61-1) (F:=A2 a-A2 b-121) (by omega) hge1 hge2 (by omega)
  have d1:Bj (Int.tdiv (C1 a) (C1 b))=((Av a*2^Ce a*2^0 / (Av b*2^Ce b):Nat):Int):=by
    rw [ma,mb,Jx,Nat.pow_zero,Nat.mul_one]
    have h1:=Nat.div_le_self (Av a*2^Ce a) (Av b*2^Ce b)
    have h2:Av a*2^Ce a / (Av b*2^Ce b)<2^64:=Nat.lt_of_le_of_lt h1 (Nat.lt_trans a3 (by decide))
    generalize Av a*2^Ce a / (Av b*2^Ce b)=q at h2 ⊢
    exact Di (Int.natCast_nonneg q) (by omega)
  have d2:Int.tmod (C1 a) (C1 b)=((Av a*2^Ce a*2^0%(Av b*2^Ce b):Nat):Int):=by
    rw [ma,mb,Jw,Nat.pow_zero,Nat.mul_one]
  rw [d1,d2]
  have lp:=Aon 62 (a:=a) (b:=b) hpos b3 (X:=Av a*2^Ce a) (by omega) mb 61 0 (by omega)
  refine lp.trans ?_
  rw [times.Div.Au,As,na,nb,Axy (by omega),Axx]
  have we:Ab (Ab (A2 a-Ce a-(A2 b-Ce b))-61)=A2 a-Ce a-(A2 b-Ce b)-61:=by
    rw [Am (x:=A2 a-Ce a-(A2 b-Ce b)) (by omega) (by omega),Am (by omega) (by omega)]
  have hne:(((Av a*2^Ce a*2^61%(Av b*2^Ce b):Nat):Int) !=(0:Int))=decide (Av a*2^Ce a*2^61%(Av b*2^Ce b)≠0):=by
    rw [Ax9]; simp only [bne_iff_ne,ne_eq,Ax0]; omega
  rw [we,hne]
  have hw:O2 ((Av a*2^Ce a*2^61 / (Av b*2^Ce b):Nat):Int) (A2 a-Ce a-(A2 b-Ce b)-61)=true:=Ar.2 ⟨by omega,by omega,by omega,by omega⟩
  have hn:Dp (a:Int)=Bs a:=rfl
  have hn':Dp (b:Int)=Bs b:=rfl
  rw [hw,Axt,Ack,hn,hn']
  unfold E1 E0
  rw [Axv,Akm _ rfl rfl hq1,hstick,s1,s2]
theorem times.Div.known:times.Div.Kn:=times.Div.Ac (.cons soft.Kind.known (.cons soft.Sign.known (.cons times.nan.known (.cons times.norm.known (.cons times.signed.known (.cons times.wide.known .nil)))))) fun a b hp=>by
  obtain ⟨ha,hb⟩:=Ad.1 hp
  obtain ⟨a,rfl,hn⟩:=Bl ha
  obtain ⟨b,rfl,hm⟩:=Bl hb
  refine ⟨62,times.Div.out [.i a,.i b],[],?_,Wk.Gw (.cons .int (.cons .int .nil))⟩
  have i1:Af (9218868437227405312:Int)=true:=B9 (n:=9218868437227405312) (by decide)
  have i2:Af (0:Int)=true:=B9 (n:=0) (by decide)
  rw [times.Div.ev,ha,hb,Aio,Rj,Rj,k3,k3,k0,k0,i1,i2,Ae9,Z6,Ack]
  show _=some (DV.tup [.int .u64 (((Ac1 a b).1:Nat):Int),.int .u8 (((Ac1 a b).2:Nat):Int)])
  have ea:Dp (a:Int)=Bs a:=rfl
  have eb:Dp (b:Int)=Bs b:=rfl
  rw [ea,eb]
  unfold Ac1
  rw [Axz,Axt,Axt,Axt,Axt,Axt]
  by_cases h4:Al a=4∨Al b=4
  · have c4:(decide (Al a=4)||decide (Al b=4))=true:=by simp; exact h4
    rw [if_pos h4,c4,Axt]; rfl
  · have c4:(decide (Al a=4)||decide (Al b=4))=false:=by simp; omega
    rw [if_neg h4,c4,Axx]
    by_cases h1:Al a=Al b∧(Al a=3∨Al a=0)
    · have c1:(decide (Al a=3)&&decide (Al b=3)||decide (Al a=0)&&decide (Al b=0))=true:=by simp; omega
      rw [if_pos h1,c1,Axt]; rfl
    · have c1:(decide (Al a=3)&&decide (Al b=3)||decide (Al a=0)&&decide (Al b=0))=false:=by simp; omega
      rw [if_neg h1,c1,Axx]
      by_cases h2:Al a=3
      · rw [if_pos h2,Axu h2,Axt]; rfl
      · rw [if_neg h2,Axy h2,Axx]
        by_cases h3:Al b=3∨Al a=0
        · have c3:(decide (Al b=3)||decide (Al a=0))=true:=by simp; exact h3
          rw [if_pos h3,c3,Axt]; rfl
        · have c3:(decide (Al b=3)||decide (Al a=0))=false:=by simp; omega
          rw [if_neg h3,c3,Axx]
          by_cases h5:Al b=0
          · rw [if_pos h5,Axu h5,Axt]; rfl
          · rw [if_neg h5,Axy h5,Axx]
            have pa:=Oe (b:=a) (by omega) (by omega) (by omega)
            have pb:=Oe (b:=b) (by omega) (by omega) (by omega)
            have na:L5 (a:Int)=true:=Ar.2 pa
            have nb:L5 (b:Int)=true:=Ar.2 pb
            have hnb:(C1 (b:Int) !=0)=true:=by
              obtain ⟨_,l2,_,_⟩:=Ok pb
              have mb:C1 (b:Int)=((Av b*2^Ce b:Nat):Int):=rfl
              rw [mb]
              simp only [bne_iff_ne,ne_eq]
              omega
            rw [na,nb,hnb,Axz,Axt,Axt,Axt,Axt,Aq8 pa pb]
namespace EqVec
def Ae.Add.A6:List (Nat × Entry):=[(232,sum.Add.spec)]
def Ae.Add.E:Env:=A9 (A5 Ae.Add.A6) (fun _=>false) (fun _=>none) (fun _=>none)
theorem Ae.Add.ev (N:Nat) (a b:Int):Bp Ae.Add.E N Tryz.f226 (An Tryz.f226) [.int .u64 a,.int .u64 b]=bif (Af a&&Af b) then some (.int .u64 (Jq a b)) else none:=by kernel_rfl
abbrev _root_.Go.Proofs.S1.Ae.Add.Kn:=A3 Tryz.prog 226 Ae.Add.spec
theorem Ae.Add.Ac (hk:Ax Tryz.prog Ae.Add.A6) (h:∀ (a b:Int),Ae.Add.pre [.i a,.i b]=true→A8 Ae.Add.E Tryz.f226 [.int .u64 a,.int .u64 b] (Ae.Add.out [.i a,.i b])):Ae.Add.Kn :=
  Ak (Az hk _ _ _) Tryz.func226 (by kernel_rfl) (by kernel_rfl) h
def Ae.Sub.A6:List (Nat × Entry):=[(207,sum.Sub.spec)]
def Ae.Sub.E:Env:=A9 (A5 Ae.Sub.A6) (fun _=>false) (fun _=>none) (fun _=>none)
theorem Ae.Sub.ev (N:Nat) (a b:Int):Bp Ae.Sub.E N Tryz.f156 (An Tryz.f156) [.int .u64 a,.int .u64 b]=bif (Af a&&Af b) then some (.int .u64 (Eu a b)) else none:=by kernel_rfl
abbrev _root_.Go.Proofs.S1.Ae.Sub.Kn:=A3 Tryz.prog 156 Ae.Sub.spec
theorem Ae.Sub.Ac (hk:Ax Tryz.prog Ae.Sub.A6) (h:∀ (a b:Int),Ae.Sub.pre [.i a,.i b]=true→A8 Ae.Sub.E Tryz.f156 [.int .u64 a,.int .u64 b] (Ae.Sub.out [.i a,.i b])):Ae.Sub.Kn :=
  Ak (Az hk _ _ _) Tryz.func156 (by kernel_rfl) (by kernel_rfl) h
def Ae.Mul.A6:List (Nat × Entry):=[(208,times.Mul.spec)]
def Ae.Mul.E:Env:=A9 (A5 Ae.Mul.A6) (fun _=>false) (fun _=>none) (fun _=>none)
theorem Ae.Mul.ev (N:Nat) (a b:Int):Bp Ae.Mul.E N Tryz.f157 (An Tryz.f157) [.int .u64 a,.int .u64 b]=bif (Af a&&Af b) then some (.int .u64 (D1 a b)) else none:=by kernel_rfl
abbrev _root_.Go.Proofs.S1.Ae.Mul.Kn:=A3 Tryz.prog 157 Ae.Mul.spec
theorem Ae.Mul.Ac (hk:Ax Tryz.prog Ae.Mul.A6) (h:∀ (a b:Int),Ae.Mul.pre [.i a,.i b]=true→A8 Ae.Mul.E Tryz.f157 [.int .u64 a,.int .u64 b] (Ae.Mul.out [.i a,.i b])):Ae.Mul.Kn :=
  Ak (Az hk _ _ _) Tryz.func157 (by kernel_rfl) (by kernel_rfl) h
def Ae.fit.A6:List (Nat × Entry):=[]
def Ae.fit.E:Env:=A9 (A5 Ae.fit.A6) (fun _=>false) (fun _=>none) (fun _=>none)
theorem Ae.fit.ev (N:Nat) (x y:List Int):Bp Ae.fit.E N Tryz.f225 (An Tryz.f225) [.ints .arg .u64 x,.ints .arg .u64 y]=some (.bool (bif ((List.length x:Int)==(List.length y:Int)) then (Ee (List.length x:Int) 64) else false)) :=
  Eq.trans (by kernel_rfl)
  (Aw (O1 ((List.length x:Int)==(List.length y:Int))) (Aw (Lv ((List.length x:Int)==(List.length y:Int))) (Aw (Lv ((List.length x:Int)==(List.length y:Int))) (Aw (Ti ((List.length x:Int)==(List.length y:Int))) rfl))))
abbrev _root_.Go.Proofs.S1.Ae.fit.Kn:=A3 Tryz.prog 225 Ae.fit.spec
theorem Ae.fit.Ac (hk:Ax Tryz.prog Ae.fit.A6) (h:∀ (x y:List Int),Ae.fit.pre [.l x,.l y]=true→A8 Ae.fit.E Tryz.f225 [.ints .arg .u64 x,.ints .arg .u64 y] (Ae.fit.out [.l x,.l y])):Ae.fit.Kn :=
  Ak (Az hk _ _ _) Tryz.func225 (by kernel_rfl) (by kernel_rfl) h
def Ae.Hz.hint:Nat→Option Ba
  | 0=>some { keep:=[0,1,6,13,14],objs:=[],boxes:=[] }
  | _=>none
def Ae.Hz.A6:List (Nat × Entry):=[(226,Ae.Add.spec),(157,Ae.Mul.spec),(225,Ae.fit.spec)]
def Ae.Hz.E:Env:=A9 (A5 Ae.Hz.A6) (fun _=>false) Ae.Hz.hint (fun _=>none)
def Ae.Hz.L0 (N M:Nat) (x y:List Int) (p6 p14:Int):Option DV:=Bz Ae.Hz.E N Tryz.f189 (An Tryz.f189) [1,1,1,0,1,0] [] M ⟨Gl 30 [(0,.ints .arg .u64 x),(1,.ints .arg .u64 y),(6,.int .u64 p6),(13,.int .i64 (List.length x:Int)),(14,.int .i64 p14)],[]⟩
theorem Ae.Hz.Au (N M:Nat) (x y:List Int) (p6 p14:Int):Ae.Hz.L0 N (M+1) x y p6 p14=bif (A4 p14 (List.length x:Int)) then bif ((decide (0≤p14))&&(decide (p14<(List.length x:Int)))) then bif ((decide (0≤p14))&&(decide (p14<(List.length y:Int)))) then bif (Af (List.getD x (Int.toNat p14) 0)&&Af (List.getD y (Int.toNat p14) 0)) then bif (Af p6&&Af (D1 (List.getD x (Int.toNat p14) 0) (List.getD y (Int.toNat p14) 0))) then Ae.Hz.L0 N M x y (Jq p6 (D1 (List.getD x (Int.toNat p14) 0) (List.getD y (Int.toNat p14) 0))) (Ab (p14+1)) else none else none else none else none else some (.tup [.int .u64 p6,.int .i64 0]) :=
  Eq.trans (by kernel_rfl)
  (Ej (C2 (Lk (decide (0≤p14)) (decide (p14<(List.length x:Int)))) (C2 (Lk (decide (0≤p14)) (decide (p14<(List.length y:Int)))) (C2 (Cs (Af (List.getD x (Int.toNat p14) 0)&&Af (List.getD y (Int.toNat p14) 0))) (C2 (Cs (Af p6&&Af (D1 (List.getD x (Int.toNat p14) 0) (List.getD y (Int.toNat p14) 0)))) rfl rfl) rfl) rfl) rfl) rfl)
theorem Ae.Hz.ev (N:Nat) (x y:List Int):Bp Ae.Hz.E N Tryz.f189 (An Tryz.f189) [.ints .arg .u64 x,.ints .arg .u64 y]=bif (!(Ow x y)) then some (.tup [.int .u64 0,.int .i64 3]) else Ae.Hz.L0 N N x y 0 0:=by kernel_rfl
abbrev _root_.Go.Proofs.S1.Ae.Hz.Kn:=A3 Tryz.prog 189 Ae.Hz.spec
theorem Ae.Hz.Ac (hk:Ax Tryz.prog Ae.Hz.A6) (h:∀ (x y:List Int),Ae.Hz.pre [.l x,.l y]=true→A8 Ae.Hz.E Tryz.f189 [.ints .arg .u64 x,.ints .arg .u64 y] (Ae.Hz.out [.l x,.l y])):Ae.Hz.Kn :=
  Ak (Az hk _ _ _) Tryz.func189 (by kernel_rfl) (by kernel_rfl) h
def Ag.F.A6:List (Nat × Entry):=[]
def Ag.F.E:Env:=A9 (A5 Ag.F.A6) (fun _=>false) (fun _=>none) (fun _=>none)
theorem Ag.F.ev (N:Nat) (x:Int):Bp Ag.F.E N Tryz.f159 (An Tryz.f159) [.int .u64 x]=bif (decide (0≤x)) then some (.fl (Int.toNat x)) else none:=by kernel_rfl
abbrev _root_.Go.Proofs.S1.Ag.F.Kn:=A3 Tryz.prog 159 Ag.F.spec
theorem Ag.F.Ac (hk:Ax Tryz.prog Ag.F.A6) (h:∀ (x:Int),Ag.F.pre [.i x]=true→A8 Ag.F.E Tryz.f159 [.int .u64 x] (Ag.F.out [.i x])):Ag.F.Kn :=
  Ak (Az hk _ _ _) Tryz.func159 (by kernel_rfl) (by kernel_rfl) h
def Ag.B.A6:List (Nat × Entry):=[(168,Ey.Canon.nb.spec)]
def Ag.B.E:Env:=A9 (A5 Ag.B.A6) (fun _=>false) (fun _=>none) (fun _=>none)
theorem Ag.B.ev (N x:Nat):Bp Ag.B.E N Tryz.f102 (An Tryz.f102) [.fl x]=some (.int .u64 (Ft x)):=by kernel_rfl
abbrev _root_.Go.Proofs.S1.Ag.B.Kn:=A3 Tryz.prog 102 Ag.B.spec
theorem Ag.B.Ac (hk:Ax Tryz.prog Ag.B.A6) (h:∀ (x:Nat),Ag.B.pre [.f x]=true→A8 Ag.B.E Tryz.f102 [.fl x] (Ag.B.out [.f x])):Ag.B.Kn :=
  Ak (Az hk _ _ _) Tryz.func102 (by kernel_rfl) (by kernel_rfl) h
def Ag.Add.A6:List (Nat × Entry):=[(102,Ag.B.spec),(159,Ag.F.spec)]
def Ag.Add.E:Env:=A9 (A5 Ag.Add.A6) (fun _=>false) (fun _=>none) (fun _=>none)
theorem Ag.Add.ev (N:Nat) (a b:Int):Bp Ag.Add.E N Tryz.f181 (An Tryz.f181) [.int .u64 a,.int .u64 b]=bif (Af a) then bif (Af b) then some (.int .u64 (Ft ((Ieee.double.add (Int.toNat a) (Int.toNat b)).getD nanBits))) else none else none:=by kernel_rfl
abbrev _root_.Go.Proofs.S1.Ag.Add.Kn:=A3 Tryz.prog 181 Ag.Add.spec
theorem Ag.Add.Ac (hk:Ax Tryz.prog Ag.Add.A6) (h:∀ (a b:Int),Ag.Add.pre [.i a,.i b]=true→A8 Ag.Add.E Tryz.f181 [.int .u64 a,.int .u64 b] (Ag.Add.out [.i a,.i b])):Ag.Add.Kn :=
  Ak (Az hk _ _ _) Tryz.func181 (by kernel_rfl) (by kernel_rfl) h
def Ag.Sub.A6:List (Nat × Entry):=[(102,Ag.B.spec),(159,Ag.F.spec)]
def Ag.Sub.E:Env:=A9 (A5 Ag.Sub.A6) (fun _=>false) (fun _=>none) (fun _=>none)
theorem Ag.Sub.ev (N:Nat) (a b:Int):Bp Ag.Sub.E N Tryz.f81 (An Tryz.f81) [.int .u64 a,.int .u64 b]=bif (Af a) then bif (Af b) then some (.int .u64 (Ft ((Ieee.double.sub (Int.toNat a) (Int.toNat b)).getD nanBits))) else none else none:=by kernel_rfl
abbrev _root_.Go.Proofs.S1.Ag.Sub.Kn:=A3 Tryz.prog 81 Ag.Sub.spec
theorem Ag.Sub.Ac (hk:Ax Tryz.prog Ag.Sub.A6) (h:∀ (a b:Int),Ag.Sub.pre [.i a,.i b]=true→A8 Ag.Sub.E Tryz.f81 [.int .u64 a,.int .u64 b] (Ag.Sub.out [.i a,.i b])):Ag.Sub.Kn :=
  Ak (Az hk _ _ _) Tryz.func81 (by kernel_rfl) (by kernel_rfl) h
def Ag.Mul.A6:List (Nat × Entry):=[(102,Ag.B.spec),(159,Ag.F.spec)]
def Ag.Mul.E:Env:=A9 (A5 Ag.Mul.A6) (fun _=>false) (fun _=>none) (fun _=>none)
theorem Ag.Mul.ev (N:Nat) (a b:Int):Bp Ag.Mul.E N Tryz.f82 (An Tryz.f82) [.int .u64 a,.int .u64 b]=bif (Af a) then bif (Af b) then some (.int .u64 (Ft ((Ieee.double.mul (Int.toNat a) (Int.toNat b)).getD nanBits))) else none else none:=by kernel_rfl
abbrev _root_.Go.Proofs.S1.Ag.Mul.Kn:=A3 Tryz.prog 82 Ag.Mul.spec
theorem Ag.Mul.Ac (hk:Ax Tryz.prog Ag.Mul.A6) (h:∀ (a b:Int),Ag.Mul.pre [.i a,.i b]=true→A8 Ag.Mul.E Tryz.f82 [.int .u64 a,.int .u64 b] (Ag.Mul.out [.i a,.i b])):Ag.Mul.Kn :=
  Ak (Az hk _ _ _) Tryz.func82 (by kernel_rfl) (by kernel_rfl) h
def Ag.Hz.hint:Nat→Option Ba
  | 0=>some { keep:=[0,1,5,6],objs:=[],boxes:=[] }
  | _=>none
def Ag.Hz.A6:List (Nat × Entry):=[(181,Ag.Add.spec),(82,Ag.Mul.spec)]
def Ag.Hz.E:Env:=A9 (A5 Ag.Hz.A6) (fun _=>false) Ag.Hz.hint (fun _=>none)
def Ag.Hz.L0 (N M:Nat) (x y:List Int) (p5 p6:Int):Option DV:=Bz Ag.Hz.E N Tryz.f118 (An Tryz.f118) [1,1,0,1,0] [] M ⟨Gl 25 [(0,.ints .arg .u64 x),(1,.ints .arg .u64 y),(5,.int .u64 p5),(6,.int .i64 p6)],[]⟩
theorem Ag.Hz.Au (N M:Nat) (x y:List Int) (p5 p6:Int):Ag.Hz.L0 N (M+1) x y p5 p6=bif (A4 p6 (List.length x:Int)) then bif ((decide (0≤p6))&&(decide (p6<(List.length x:Int)))) then bif ((decide (0≤p6))&&(decide (p6<(List.length y:Int)))) then bif (Af (List.getD x (Int.toNat p6) 0)&&Af (List.getD y (Int.toNat p6) 0)) then bif (Af p5&&Af (D1 (List.getD x (Int.toNat p6) 0) (List.getD y (Int.toNat p6) 0))) then Ag.Hz.L0 N M x y (Jq p5 (D1 (List.getD x (Int.toNat p6) 0) (List.getD y (Int.toNat p6) 0))) (Ab (p6+1)) else none else none else none else none else some (.int .u64 p5) :=
  Eq.trans (by kernel_rfl)
  (Ej (C2 (Lk (decide (0≤p6)) (decide (p6<(List.length x:Int)))) (C2 (Lk (decide (0≤p6)) (decide (p6<(List.length y:Int)))) (C2 (Cs (Af (List.getD x (Int.toNat p6) 0)&&Af (List.getD y (Int.toNat p6) 0))) (C2 (Cs (Af p5&&Af (D1 (List.getD x (Int.toNat p6) 0) (List.getD y (Int.toNat p6) 0)))) rfl rfl) rfl) rfl) rfl) rfl)
theorem Ag.Hz.ev (N:Nat) (x y:List Int):Bp Ag.Hz.E N Tryz.f118 (An Tryz.f118) [.ints .arg .u64 x,.ints .arg .u64 y] =
  Ag.Hz.L0 N N x y 0 0:=by kernel_rfl
abbrev _root_.Go.Proofs.S1.Ag.Hz.Kn:=A3 Tryz.prog 118 Ag.Hz.spec
theorem Ag.Hz.Ac (hk:Ax Tryz.prog Ag.Hz.A6) (h:∀ (x y:List Int),Ag.Hz.pre [.l x,.l y]=true→A8 Ag.Hz.E Tryz.f118 [.ints .arg .u64 x,.ints .arg .u64 y] (Ag.Hz.out [.l x,.l y])):Ag.Hz.Kn :=
  Ak (Az hk _ _ _) Tryz.func118 (by kernel_rfl) (by kernel_rfl) h
def Ag.Ev.hint:Nat→Option Ba
  | 0=>some { keep:=[0,1,5],objs:=[],boxes:=[] }
  | _=>none
def Ag.Ev.A6:List (Nat × Entry):=[]
def Ag.Ev.E:Env:=A9 (A5 Ag.Ev.A6) (fun _=>false) Ag.Ev.hint (fun _=>none)
def Ag.Ev.L0 (N M:Nat) (x y:List Int) (p5:Int):Option DV:=Bz Ag.Ev.E N Tryz.f99 (An Tryz.f99) [1,1,0,1,0] [] M ⟨Gl 26 [(0,.ints .arg .u64 x),(1,.ints .arg .u64 y),(5,.int .i64 p5)],[]⟩
theorem Ag.Ev.Au (N M:Nat) (x y:List Int) (p5:Int):Ag.Ev.L0 N (M+1) x y p5=bif (A4 p5 (List.length x:Int)) then bif ((decide (0≤p5))&&(decide (p5<(List.length x:Int)))) then bif ((decide (0≤p5))&&(decide (p5<(List.length y:Int)))) then bif ((List.getD x (Int.toNat p5) 0) !=(List.getD y (Int.toNat p5) 0)) then some (.bool false) else Ag.Ev.L0 N M x y (Ab (p5+1)) else none else none else some (.bool true) :=
  Eq.trans (by kernel_rfl)
  (Ej (C2 (Lk (decide (0≤p5)) (decide (p5<(List.length x:Int)))) (C2 (Lk (decide (0≤p5)) (decide (p5<(List.length y:Int)))) rfl rfl) rfl) rfl)
theorem Ag.Ev.ev (N:Nat) (x y:List Int):Bp Ag.Ev.E N Tryz.f99 (An Tryz.f99) [.ints .arg .u64 x,.ints .arg .u64 y]=bif ((List.length x:Int) !=(List.length y:Int)) then some (.bool false) else Ag.Ev.L0 N N x y 0:=by kernel_rfl
abbrev _root_.Go.Proofs.S1.Ag.Ev.Kn:=A3 Tryz.prog 99 Ag.Ev.spec
theorem Ag.Ev.Ac (hk:Ax Tryz.prog Ag.Ev.A6) (h:∀ (x y:List Int),Ag.Ev.pre [.l x,.l y]=true→A8 Ag.Ev.E Tryz.f99 [.ints .arg .u64 x,.ints .arg .u64 y] (Ag.Ev.out [.l x,.l y])):Ag.Ev.Kn :=
  Ak (Az hk _ _ _) Tryz.func99 (by kernel_rfl) (by kernel_rfl) h
end EqVec
open Go Go.Den Go.Rnd Go.Proofs Ieee
open EqVec
theorem T7 {b:Nat} (h3:Al b≠3) (h4:Al b≠4):Av b=0↔Al b=0 :=
  ⟨fun h=>by
    by_cases h0:Al b=0
    · exact h0
    · exact absurd h (Oe h0 h3 h4),Ve⟩
theorem Kt (s:Bool):Dt (Bk s D8)=Bk s D8:=Gq s (Nat.le_refl _)
theorem Ub {a b:Nat} (ha:a<2^64) (hb:b<2^64) {d:Nat} (hd:Al d=4):Dt ((Ieee.double.mul a b).getD d)=(Nb a b).1:=by
  have cd:Dt d=P0:=if_pos hd
  have ex:∀ s t:Bool,(s ^^ t)=(s !=t):=fun s t=>by cases s<;>cases t<;>rfl
  unfold Format.mul
  rw [Iw ha,Iw hb]
  unfold Nb
  by_cases a4:Al a=4
  · rw [if_pos (.inl a4),G0 a4]; exact cd
  · by_cases b4:Al b=4
    · rw [if_pos (.inr b4),G0 b4]
      by_cases a3:Al a=3
      · rw [Eg a3]; exact cd
      · rw [Ef a3 a4]; exact cd
    · rw [if_neg (fun h=>h.elim a4 b4)]
      by_cases a3:Al a=3
      · rw [if_pos (.inl a3),Eg a3]
        by_cases b3:Al b=3
        · rw [Eg b3,if_neg (by omega)]
          show Dt (Bk (Bs a ^^ Bs b) D8)=_
          rw [Kt,ex]
        · rw [Ef b3 b4]
          have z:=T7 b3 b4
          by_cases b0:Al b=0
          · have e:(Datum.infinity (Bs a)).product (.number (Bs b) (Av b) (A2 b))=none:=if_pos (z.2 b0)
            rw [e,if_pos (.inr b0)]; exact cd
          · have e:(Datum.infinity (Bs a)).product (.number (Bs b) (Av b) (A2 b))=some (.infinity (Bs a ^^ Bs b)):=if_neg (fun k=>b0 (z.1 k))
            rw [e,if_neg (by omega)]
            show Dt (Bk (Bs a ^^ Bs b) D8)=_
            rw [Kt,ex]
      · rw [Ef a3 a4]
        have z:=T7 a3 a4
        by_cases b3:Al b=3
        · rw [if_pos (.inr b3),Eg b3]
          have sw:∀ s t:Bool,(t ^^ s)=(s !=t):=fun s t=>by cases s<;>cases t<;>rfl
          by_cases a0:Al a=0
          · have e:(Datum.number (Bs a) (Av a) (A2 a)).product (.infinity (Bs b))=none:=if_pos (z.2 a0)
            rw [e,if_pos (.inl a0)]; exact cd
          · have e:(Datum.number (Bs a) (Av a) (A2 a)).product (.infinity (Bs b))=some (.infinity (Bs b ^^ Bs a)):=if_neg (fun k=>a0 (z.1 k))
            rw [e,if_neg (by omega)]
            show Dt (Bk (Bs b ^^ Bs a) D8)=_
            rw [Kt,sw]
        · rw [Ef b3 b4,if_neg (by omega)]
          show Dt (Ieee.double.write (.number (Bs a ^^ Bs b) (Av a*Av b) (A2 a+A2 b)))=_
          rw [Me,Gq _ (Kw _ _),ex]
theorem Gk:Al nanBits=4:=by decide +kernel
theorem Ae.Add.known:Ae.Add.Kn:=Ae.Add.Ac (.cons sum.Add.known .nil) fun a b hp=>by
  have hp:(Af a&&Af b)=true:=hp
  refine ⟨0,Ae.Add.out [.i a,.i b],[],?_,.int⟩
  rw [Ae.Add.ev,hp]; rfl
theorem Ae.Sub.known:Ae.Sub.Kn:=Ae.Sub.Ac (.cons sum.Sub.known .nil) fun a b hp=>by
  have hp:(Af a&&Af b)=true:=hp
  refine ⟨0,Ae.Sub.out [.i a,.i b],[],?_,.int⟩
  rw [Ae.Sub.ev,hp]; rfl
theorem Ae.Mul.known:Ae.Mul.Kn:=Ae.Mul.Ac (.cons times.Mul.known .nil) fun a b hp=>by
  have hp:(Af a&&Af b)=true:=hp
  refine ⟨0,Ae.Mul.out [.i a,.i b],[],?_,.int⟩
  rw [Ae.Mul.ev,hp]; rfl
theorem Aob (x y:List Int):(bif ((List.length x:Int)==(List.length y:Int)) then (Ee (List.length x:Int) (64:Int)) else false)=Ow x y:=by
  unfold Ow
  rw [Ei,Ax9]
  by_cases h:x.length=y.length
  · have:((x.length:Int)==(y.length:Int))=true:=by rw [beq_iff_eq]; omega
    rw [this,Axt,Axu h,Bool.true_and,Ax0,Ax0]; omega
  · have:((x.length:Int)==(y.length:Int))=false:=by rw [beq_eq_false_iff_ne]; omega
    rw [this,Axx,Axy h,Bool.false_and]
theorem Ae.fit.known:Ae.fit.Kn:=Ae.fit.Ac .nil fun x y _=>by
  refine ⟨0,Ae.fit.out [.l x,.l y],[],?_,.bool⟩
  rw [Ae.fit.ev,Aob]; rfl
theorem Rm {x y:List Int}:Ow x y=true↔x.length=y.length∧x.length≤64:=by unfold Ow; simp
theorem Uu {l:List Int} {i:Nat} (h:i<l.length):l.drop i=l.getD i 0::l.drop (i+1):=by
  rw [List.drop_eq_getElem_cons h,Ax3,Aya h]; rfl
theorem Afp {x y:List Int} {i:Nat} (s:Nat) (hx:i<x.length) (hy:i<y.length) :
    Acz s (x.drop i) (y.drop i)=Acz (Ku s (Nb (x.getD i 0).toNat (y.getD i 0).toNat).1).1 (x.drop (i+1)) (y.drop (i+1)):=by
  rw [Uu hx,Uu hy]; rfl
theorem Aom (N:Nat) {x y:List Int} (hf:Ow x y=true) (hx:Ai x=true) (hy:Ai y=true):∀ (k i F s:Nat),i+k=x.length→k<F→s<2^64 →
    Ae.Hz.L0 N F x y (s:Int) (i:Int)=some (.tup [.int .u64 ((Acz s (x.drop i) (y.drop i):Nat):Int),.int .i64 (0:Int)]):=by
  obtain ⟨h1,h2⟩:=Rm.1 hf
  intro k
  induction k with
  | zero =>
    intro i F s hi hF hs
    obtain ⟨F,rfl⟩:∃ G,F=G+1:=⟨F-1,by omega⟩
    rw [Ae.Hz.Au,As,Axy (by omega),Axx,Ax7 (by omega)]
    rfl
  | succ k ih =>
    intro i F s hi hF hs
    obtain ⟨F,rfl⟩:∃ G,F=G+1:=⟨F-1,by omega⟩
    have c1:decide ((i:Int)<(x.length:Int))=true:=Axu (by omega)
    have c2:decide ((i:Int)<(y.length:Int))=true:=Axu (by omega)
    have c3:decide ((0:Int)≤(i:Int))=true:=Axu (by omega)
    have g1:=Pv hx (show i<x.length by omega)
    have g2:=Pv hy (show i<y.length by omega)
    have em:D1 (x.getD i 0) (y.getD i 0)=(((Nb (x.getD i 0).toNat (y.getD i 0).toNat).1:Nat):Int):=rfl
    have ea:∀ t:Nat,Jq (s:Int) (t:Int)=(((Ku s t).1:Nat):Int):=fun t=>rfl
    rw [Ae.Hz.Au,As,c1,c2,c3,Axv,g1,g2,em,ea,B9 hs,B9 Rg,Axz,Axt,Axt,Axt,Axt,Axt,Am (by omega) (by omega),Afp s (by omega) (by omega)]
    exact ih (i+1) F _ (by omega) (by omega) (Uz hs Rg).1
theorem Ae.Hz.known:Ae.Hz.Kn:=Ae.Hz.Ac (.cons Ae.Add.known (.cons Ae.Mul.known (.cons Ae.fit.known .nil))) fun x y hp=>by
  obtain ⟨h1,hy⟩:=Ad.1 hp
  obtain ⟨hf,hx⟩:=Ad.1 h1
  refine ⟨x.length+1,Ae.Hz.out [.l x,.l y],[],?_,Wk.Gw (.cons .int (.cons .int .nil))⟩
  rw [Ae.Hz.ev,hf,Bool.not_true,Axx]
  exact Aom _ hf hx hy x.length 0 _ 0 (by omega) (by omega) (by decide)
theorem Ag.F.known:Ag.F.Kn:=Ag.F.Ac .nil fun x hp=>by
  obtain ⟨n,rfl,hn⟩:=Bl (x:=x) hp
  refine ⟨0,Ag.F.out [.i n],[],?_,.fl⟩
  rw [Ag.F.ev,Axu (Int.natCast_nonneg n)]; rfl
theorem Ag.B.known:Ag.B.Kn:=Ag.B.Ac (.cons Ey.Canon.Ana .nil) fun x _=>by
  refine ⟨0,Ag.B.out [.f x],[],?_,.int⟩
  rw [Ag.B.ev]; rfl
theorem Ag.Add.known:Ag.Add.Kn:=Ag.Add.Ac (.cons Ag.B.known (.cons Ag.F.known .nil)) fun a b hp=>by
  obtain ⟨ha,hb⟩:=Ad.1 hp
  obtain ⟨a,rfl,hn⟩:=Bl ha
  obtain ⟨b,rfl,hm⟩:=Bl hb
  refine ⟨0,Ag.Add.out [.i a,.i b],[],?_,.int⟩
  rw [Ag.Add.ev,ha,hb,Axv,Axv]
  unfold Ft
  rw [Ao4 hn hm Gk]; rfl
theorem Ag.Sub.known:Ag.Sub.Kn:=Ag.Sub.Ac (.cons Ag.B.known (.cons Ag.F.known .nil)) fun a b hp=>by
  obtain ⟨ha,hb⟩:=Ad.1 hp
  obtain ⟨a,rfl,hn⟩:=Bl ha
  obtain ⟨b,rfl,hm⟩:=Bl hb
  refine ⟨0,Ag.Sub.out [.i a,.i b],[],?_,.int⟩
  rw [Ag.Sub.ev,ha,hb,Axv,Axv]
  unfold Ft
  rw [Amb hn hm Gk]; rfl
theorem Ag.Mul.known:Ag.Mul.Kn:=Ag.Mul.Ac (.cons Ag.B.known (.cons Ag.F.known .nil)) fun a b hp=>by
  obtain ⟨ha,hb⟩:=Ad.1 hp
  obtain ⟨a,rfl,hn⟩:=Bl ha
  obtain ⟨b,rfl,hm⟩:=Bl hb
  refine ⟨0,Ag.Mul.out [.i a,.i b],[],?_,.int⟩
  rw [Ag.Mul.ev,ha,hb,Axv,Axv]
  unfold Ft
  rw [Ub hn hm Gk]; rfl
theorem Ab9 (N:Nat) {x y:List Int} (hf:Ow x y=true) (hx:Ai x=true) (hy:Ai y=true):∀ (k i F s:Nat),i+k=x.length→k<F→s<2^64 →
    Ag.Hz.L0 N F x y (s:Int) (i:Int)=some (.int .u64 ((Acz s (x.drop i) (y.drop i):Nat):Int)):=by
  obtain ⟨h1,h2⟩:=Rm.1 hf
  intro k
  induction k with
  | zero =>
    intro i F s hi hF hs
    obtain ⟨F,rfl⟩:∃ G,F=G+1:=⟨F-1,by omega⟩
    rw [Ag.Hz.Au,As,Axy (by omega),Axx,Ax7 (by omega)]
    rfl
  | succ k ih =>
    intro i F s hi hF hs
    obtain ⟨F,rfl⟩:∃ G,F=G+1:=⟨F-1,by omega⟩
    have c1:decide ((i:Int)<(x.length:Int))=true:=Axu (by omega)
    have c2:decide ((i:Int)<(y.length:Int))=true:=Axu (by omega)
    have c3:decide ((0:Int)≤(i:Int))=true:=Axu (by omega)
    have g1:=Pv hx (show i<x.length by omega)
    have g2:=Pv hy (show i<y.length by omega)
    have em:D1 (x.getD i 0) (y.getD i 0)=(((Nb (x.getD i 0).toNat (y.getD i 0).toNat).1:Nat):Int):=rfl
    have ea:∀ t:Nat,Jq (s:Int) (t:Int)=(((Ku s t).1:Nat):Int):=fun t=>rfl
    rw [Ag.Hz.Au,As,c1,c2,c3,Axv,g1,g2,em,ea,B9 hs,B9 Rg,Axz,Axt,Axt,Axt,Axt,Axt,Am (by omega) (by omega),Afp s (by omega) (by omega)]
    exact ih (i+1) F _ (by omega) (by omega) (Uz hs Rg).1
theorem Ag.Hz.known:Ag.Hz.Kn:=Ag.Hz.Ac (.cons Ag.Add.known (.cons Ag.Mul.known .nil)) fun x y hp=>by
  obtain ⟨h1,hy⟩:=Ad.1 hp
  obtain ⟨hf,hx⟩:=Ad.1 h1
  refine ⟨x.length+1,Ag.Hz.out [.l x,.l y],[],?_,.int⟩
  rw [Ag.Hz.ev]
  exact Ab9 _ hf hx hy x.length 0 _ 0 (by omega) (by omega) (by decide)
theorem Ajt (N:Nat) (x y:List Int) (hl:x.length=y.length) (hb:x.length<2^62):∀ (k i F:Nat),i+k=x.length→k<F →
    Ag.Ev.L0 N F x y (i:Int)=some (.bool (Tu (x.drop i) (y.drop i))):=by
  intro k
  induction k with
  | zero =>
    intro i F hi hF
    obtain ⟨F,rfl⟩:∃ G,F=G+1:=⟨F-1,by omega⟩
    rw [Ag.Ev.Au,As,Axy (by omega),Axx,Ax7 (by omega),Ax7 (by omega)]
    rfl
  | succ k ih =>
    intro i F hi hF
    obtain ⟨F,rfl⟩:∃ G,F=G+1:=⟨F-1,by omega⟩
    have c1:decide ((i:Int)<(x.length:Int))=true:=Axu (by omega)
    have c2:decide ((i:Int)<(y.length:Int))=true:=Axu (by omega)
    have c3:decide ((0:Int)≤(i:Int))=true:=Axu (by omega)
    rw [Ag.Ev.Au,As,c1,c2,c3,Axv,Uu (show i<x.length by omega),Uu (show i<y.length by omega)]
    unfold Tu
    by_cases h:x.getD i 0=y.getD i 0
    · have:(x.getD i 0 !=y.getD i 0)=false:=by rw [h]; simp
      have ih:=ih (i+1) F (by omega) (by omega)
      unfold Tu at ih
      rw [this,Axz,Axt,Axt,Axt,Axx,Am (by omega) (by omega)]
      refine ih.trans ?_
      rw [h]
      simp
    · have:(x.getD i 0 !=y.getD i 0)=true:=by simpa using h
      rw [this,Axz,Axt,Axt,Axt,Axt]
      simp only [List.cons.injEq,h,false_and,decide_false]
theorem Ag.Ev.known:Ag.Ev.Kn:=Ag.Ev.Ac .nil fun x y hp=>by
  have hp:=Ar.1 (show Mt x=true from hp)
  refine ⟨x.length+1,Ag.Ev.out [.l x,.l y],[],?_,.bool⟩
  rw [Ag.Ev.ev]
  by_cases h:x.length=y.length
  · have:((x.length:Int) !=(y.length:Int))=false:=by rw [h]; simp
    rw [this,Axx]
    exact Ajt _ x y h (by omega) x.length 0 _ (by omega) (by omega)
  · have:((x.length:Int) !=(y.length:Int))=true:=by simp only [bne_iff_ne,ne_eq]; omega
    rw [this,Axt]
    have e:Tu x y=false:=Axy fun k=>h (by rw [k])
    show _=some (DV.bool (Tu x y))
    rw [e]
namespace EqMat
def Aa.size.A6:List (Nat × Entry):=[]
def Aa.size.E:Env:=A9 (A5 Aa.size.A6) (fun _=>false) (fun _=>none) (fun _=>none)
theorem Aa.size.ev (N:Nat) (n:Int):Bp Aa.size.E N Tryz.f204 (An Tryz.f204) [.int .i64 n]=some (.bool (bif (Ee 0 n) then (Ee n 6) else false)) :=
  Eq.trans (by kernel_rfl)
  (Aw (O1 (Ee 0 n)) (Aw (Lv (Ee 0 n)) (Aw (Ti (Ee 0 n)) rfl)))
abbrev _root_.Go.Proofs.S1.Aa.size.Kn:=A3 Tryz.prog 204 Aa.size.spec
theorem Aa.size.Ac (hk:Ax Tryz.prog Aa.size.A6) (h:∀ (n:Int),Aa.size.pre [.i n]=true→A8 Aa.size.E Tryz.f204 [.int .i64 n] (Aa.size.out [.i n])):Aa.size.Kn :=
  Ak (Az hk _ _ _) Tryz.func204 (by kernel_rfl) (by kernel_rfl) h
def Aa.Check.A6:List (Nat × Entry):=[(204,Aa.size.spec)]
def Aa.Check.E:Env:=A9 (A5 Aa.Check.A6) (fun _=>false) (fun _=>none) (fun _=>none)
theorem Aa.Check.ev (N:Nat) (r c:Int) (l:List Int):Bp Aa.Check.E N Tryz.f160 (An Tryz.f160) [.agg [.int .i64 r,.int .i64 c,.ints .arg .u64 l]]=bif (((!(Bg r))||(!(Bg c)))||((List.length l:Int) !=(Ab (r*c)))) then some (.int .i64 1) else some (.int .i64 0) :=
  Eq.trans (by kernel_rfl)
  (Aw (Abr (Bg r)) (Aw (R0 (Bg r)) (Aw (R0 (Bg r)) (Aw (R0 (Bg r)) (Aw (Abt (Bg r)) (Aw (Asl (Bg r) (Bg c)) (Aw (Apu (Bg r) (Bg c)) (Aw (Apu (Bg r) (Bg c)) (Aw (Asl (Bg r) (Bg c)) (Aw (Apu (Bg r) (Bg c)) (Aw (Asl (Bg r) (Bg c)) (Aw (Apu (Bg r) (Bg c)) (Aw (Auy (Bg r) (Bg c)) (Aw (Auy (Bg r) (Bg c)) (Aw (Aw1 (Bg r) (Bg c)) (C2 (Aw2 (Bg r) (Bg c) ((List.length l:Int) !=(Ab (r*c)))) rfl rfl))))))))))))))))
abbrev _root_.Go.Proofs.S1.Aa.Check.Kn:=A3 Tryz.prog 160 Aa.Check.spec
theorem Aa.Check.Ac (hk:Ax Tryz.prog Aa.Check.A6) (h:∀ (r c:Int) (l:List Int),Aa.Check.pre [.i r,.i c,.l l]=true→A8 Aa.Check.E Tryz.f160 [.agg [.int .i64 r,.int .i64 c,.ints .arg .u64 l]] (Aa.Check.out [.i r,.i c,.l l])):Aa.Check.Kn :=
  Ak (Az hk _ _ _) Tryz.func160 (by kernel_rfl) (by kernel_rfl) h
def Aa.get.A6:List (Nat × Entry):=[]
def Aa.get.E:Env:=A9 (A5 Aa.get.A6) (fun _=>false) (fun _=>none) (fun _=>none)
theorem Aa.get.ev (N:Nat) (r c:Int) (l:List Int) (i k:Int):Bp Aa.get.E N Tryz.f193 (An Tryz.f193) [.agg [.int .i64 r,.int .i64 c,.ints .arg .u64 l],.int .i64 i,.int .i64 k]=bif ((decide (0≤(Ab ((Ab (i*c))+k))))&&(decide ((Ab ((Ab (i*c))+k))<(List.length l:Int)))) then some (.int .u64 (List.getD l (Int.toNat (Ab ((Ab (i*c))+k))) 0)) else none:=by kernel_rfl
abbrev _root_.Go.Proofs.S1.Aa.get.Kn:=A3 Tryz.prog 193 Aa.get.spec
theorem Aa.get.Ac (hk:Ax Tryz.prog Aa.get.A6) (h:∀ (r c:Int) (l:List Int) (i k:Int),Aa.get.pre [.i r,.i c,.l l,.i i,.i k]=true→A8 Aa.get.E Tryz.f193 [.agg [.int .i64 r,.int .i64 c,.ints .arg .u64 l],.int .i64 i,.int .i64 k] (Aa.get.out [.i r,.i c,.l l,.i i,.i k])):Aa.get.Kn :=
  Ak (Az hk _ _ _) Tryz.func193 (by kernel_rfl) (by kernel_rfl) h
def Aa.two.A6:List (Nat × Entry):=[(160,Aa.Check.spec)]
def Aa.two.E:Env:=A9 (A5 Aa.two.A6) (fun _=>false) (fun _=>none) (fun _=>none)
theorem Aa.two.ev (N:Nat) (r c:Int) (l:List Int) (p q:Int) (m:List Int):Bp Aa.two.E N Tryz.f186 (An Tryz.f186) [.agg [.int .i64 r,.int .i64 c,.ints .arg .u64 l],.agg [.int .i64 p,.int .i64 q,.ints .arg .u64 m]]=bif (((Ks r c l) !=(0:Int))||((Ks p q m) !=(0:Int))) then some (.int .i64 1) else some (.int .i64 0) :=
  Eq.trans (by kernel_rfl)
  (Aw (R7 ((Ks r c l) !=(0:Int))) (Aw (P2 ((Ks r c l) !=(0:Int))) (Aw (P2 ((Ks r c l) !=(0:Int))) (Aw (Wt ((Ks r c l) !=(0:Int))) (C2 (tt5 ((Ks r c l) !=(0:Int)) ((Ks p q m) !=(0:Int))) rfl rfl)))))
abbrev _root_.Go.Proofs.S1.Aa.two.Kn:=A3 Tryz.prog 186 Aa.two.spec
theorem Aa.two.Ac (hk:Ax Tryz.prog Aa.two.A6) (h:∀ (r c:Int) (l:List Int) (p q:Int) (m:List Int),Aa.two.pre [.i r,.i c,.l l,.i p,.i q,.l m]=true→A8 Aa.two.E Tryz.f186 [.agg [.int .i64 r,.int .i64 c,.ints .arg .u64 l],.agg [.int .i64 p,.int .i64 q,.ints .arg .u64 m]] (Aa.two.out [.i r,.i c,.l l,.i p,.i q,.l m])):Aa.two.Kn :=
  Ak (Az hk _ _ _) Tryz.func186 (by kernel_rfl) (by kernel_rfl) h
def Aa.Row.A6:List (Nat × Entry):=[]
def Aa.Row.E:Env:=A9 (A5 Aa.Row.A6) (fun _=>false) (fun _=>none) (fun _=>none)
theorem Aa.Row.ev (N:Nat) (r c:Int) (l:List Int) (i f:Int):Bp Aa.Row.E N Tryz.f190 (An Tryz.f190) [.agg [.int .i64 r,.int .i64 c,.ints .arg .u64 l],.int .i64 i,.int .i64 f]=bif (((decide ((0:Int)≤(Ab ((Ab (i*c))+f))))&&(decide ((Ab ((Ab (i*c))+f))≤(Ab ((Ab (i+1))*c)))))&&((decide ((0:Int)≤(Ab ((Ab (i+1))*c))))&&(decide ((Ab ((Ab (i+1))*c))≤(List.length l:Int))))) then bif (decide (0+(List.length (List.drop (Int.toNat (Ab ((Ab (i*c))+f))) (List.take (Int.toNat (Ab ((Ab (i+1))*c))) l)))≤Gp)) then some (.ints (.own 22 37) .u64 ([]++(List.drop (Int.toNat (Ab ((Ab (i*c))+f))) (List.take (Int.toNat (Ab ((Ab (i+1))*c))) l)))) else none else none :=
  Eq.trans (by kernel_rfl)
  (C2 (Aux (decide ((0:Int)≤(Ab ((Ab (i*c))+f)))) (decide ((Ab ((Ab (i*c))+f))≤(Ab ((Ab (i+1))*c)))) (decide ((0:Int)≤(Ab ((Ab (i+1))*c)))) (decide ((Ab ((Ab (i+1))*c))≤(List.length l:Int)))) rfl rfl)
abbrev _root_.Go.Proofs.S1.Aa.Row.Kn:=A3 Tryz.prog 190 Aa.Row.spec
theorem Aa.Row.Ac (hk:Ax Tryz.prog Aa.Row.A6) (h:∀ (r c:Int) (l:List Int) (i f:Int),Aa.Row.pre [.i r,.i c,.l l,.i i,.i f]=true→A8 Aa.Row.E Tryz.f190 [.agg [.int .i64 r,.int .i64 c,.ints .arg .u64 l],.int .i64 i,.int .i64 f] (Aa.Row.out [.i r,.i c,.l l,.i i,.i f])):Aa.Row.Kn :=
  Ak (Az hk _ _ _) Tryz.func190 (by kernel_rfl) (by kernel_rfl) h
def Aa.Dz.hint:Nat→Option Ba
  | 0=>some { keep:=[1,3,7,8],objs:=[(0,7,100007,.ints 37 .u64 [])],boxes:=[3] }
  | _=>none
def Aa.Dz.A6:List (Nat × Entry):=[(193,Aa.get.spec)]
def Aa.Dz.E:Env:=A9 (A5 Aa.Dz.A6) (fun _=>false) Aa.Dz.hint (fun _=>none)
def Aa.Dz.L0 (N M:Nat) (r c:Int) (l:List Int) (k p8:Int) (p7:List Int):Option DV:=Bz Aa.Dz.E N Tryz.f191 (An Tryz.f191) [1,1,0,1,0] [] M ⟨Gl 24 [(1,.int .i64 k),(3,.ptr 3 0 0),(7,.oref 100007),(8,.int .i64 p8)],[(3,false,.box [.int .i64 r,.int .i64 c,.ints .arg .u64 l]),(100007,false,.ints 37 .u64 p7)]⟩
theorem Aa.Dz.Au (N M:Nat) (r c:Int) (l:List Int) (k p8:Int) (p7:List Int):Aa.Dz.L0 N (M+1) r c l k p8 p7=bif (A4 p8 r) then bif (Cw r c l p8 k) then bif (decide ((List.length p7)+1≤Gp)) then Aa.Dz.L0 N M r c l k (Ab (p8+1)) (p7++[(D6 c l p8 k)]) else none else none else some (.ints (.own 100007 37) .u64 p7):=by kernel_rfl
theorem Aa.Dz.ev (N:Nat) (r c:Int) (l:List Int) (k f:Int):Bp Aa.Dz.E N Tryz.f191 (An Tryz.f191) [.agg [.int .i64 r,.int .i64 c,.ints .arg .u64 l],.int .i64 k,.int .i64 f] =
  Aa.Dz.L0 N N r c l k f []:=by kernel_rfl
abbrev _root_.Go.Proofs.S1.Aa.Dz.Kn:=A3 Tryz.prog 191 Aa.Dz.spec
theorem Aa.Dz.Ac (hk:Ax Tryz.prog Aa.Dz.A6) (h:∀ (r c:Int) (l:List Int) (k f:Int),Aa.Dz.pre [.i r,.i c,.l l,.i k,.i f]=true→A8 Aa.Dz.E Tryz.f191 [.agg [.int .i64 r,.int .i64 c,.ints .arg .u64 l],.int .i64 k,.int .i64 f] (Aa.Dz.out [.i r,.i c,.l l,.i k,.i f])):Aa.Dz.Kn :=
  Ak (Az hk _ _ _) Tryz.func191 (by kernel_rfl) (by kernel_rfl) h
def Aa.Ed.A6:List (Nat × Entry):=[]
def Aa.Ed.E:Env:=A9 (A5 Aa.Ed.A6) (fun _=>false) (fun _=>none) (fun _=>none)
theorem Aa.Ed.ev (N:Nat) (i k:Int):Bp Aa.Ed.E N Tryz.f205 (An Tryz.f205) [.int .i64 i,.int .i64 k]=some (.int .u64 0):=by kernel_rfl
abbrev _root_.Go.Proofs.S1.Aa.Ed.Kn:=A3 Tryz.prog 205 Aa.Ed.spec
theorem Aa.Ed.Ac (hk:Ax Tryz.prog Aa.Ed.A6) (h:∀ (i k:Int),Aa.Ed.pre [.i i,.i k]=true→A8 Aa.Ed.E Tryz.f205 [.int .i64 i,.int .i64 k] (Aa.Ed.out [.i i,.i k])):Aa.Ed.Kn :=
  Ak (Az hk _ _ _) Tryz.func205 (by kernel_rfl) (by kernel_rfl) h
def Aa.Ie.A6:List (Nat × Entry):=[]
def Aa.Ie.E:Env:=A9 (A5 Aa.Ie.A6) (fun _=>false) (fun _=>none) (fun _=>none)
theorem Aa.Ie.ev (N:Nat) (i k:Int):Bp Aa.Ie.E N Tryz.f246 (An Tryz.f246) [.int .i64 i,.int .i64 k]=bif (i==k) then some (.int .u64 4607182418800017408) else some (.int .u64 0):=by kernel_rfl
abbrev _root_.Go.Proofs.S1.Aa.Ie.Kn:=A3 Tryz.prog 246 Aa.Ie.spec
theorem Aa.Ie.Ac (hk:Ax Tryz.prog Aa.Ie.A6) (h:∀ (i k:Int),Aa.Ie.pre [.i i,.i k]=true→A8 Aa.Ie.E Tryz.f246 [.int .i64 i,.int .i64 k] (Aa.Ie.out [.i i,.i k])):Aa.Ie.Kn :=
  Ak (Az hk _ _ _) Tryz.func246 (by kernel_rfl) (by kernel_rfl) h
def Aa.Fv.A6:List (Nat × Entry):=[(193,Aa.get.spec)]
def Aa.Fv.E:Env:=A9 (A5 Aa.Fv.A6) (fun _=>false) (fun _=>none) (fun _=>none)
theorem Aa.Fv.ev (N:Nat) (i k:Int) (r c:Int) (l:List Int):Bp Aa.Fv.E N Tryz.f220 (An Tryz.f220) [.int .i64 i,.int .i64 k,.cellp [.int .i64 r,.int .i64 c,.ints .arg .u64 l]]=bif (Cw r c l k i) then some (.int .u64 (D6 c l k i)) else none:=by kernel_rfl
abbrev _root_.Go.Proofs.S1.Aa.Fv.Kn:=A3 Tryz.prog 220 Aa.Fv.spec
theorem Aa.Fv.Ac (hk:Ax Tryz.prog Aa.Fv.A6) (h:∀ (i k:Int) (r c:Int) (l:List Int),Aa.Fv.pre [.i i,.i k,.i r,.i c,.l l]=true→A8 Aa.Fv.E Tryz.f220 [.int .i64 i,.int .i64 k,.cellp [.int .i64 r,.int .i64 c,.ints .arg .u64 l]] (Aa.Fv.out [.i i,.i k,.i r,.i c,.l l])):Aa.Fv.Kn :=
  Ak (Az hk _ _ _) Tryz.func220 (by kernel_rfl) (by kernel_rfl) h
def Aa.Fx.A6:List (Nat × Entry):=[(193,Aa.get.spec)]
def Aa.Fx.E:Env:=A9 (A5 Aa.Fx.A6) (fun _=>false) (fun _=>none) (fun _=>none)
theorem Aa.Fx.ev (N:Nat) (i k:Int) (r c:Int) (l:List Int) (x y:Int):Bp Aa.Fx.E N Tryz.f192 (An Tryz.f192) [.int .i64 i,.int .i64 k,.cellp [.int .i64 r,.int .i64 c,.ints .arg .u64 l],.cellp [.int .i64 x],.cellp [.int .i64 y]]=bif (Cw r c l (Ab (x+i)) (Ab (y+k))) then some (.int .u64 (D6 c l (Ab (x+i)) (Ab (y+k)))) else none:=by kernel_rfl
abbrev _root_.Go.Proofs.S1.Aa.Fx.Kn:=A3 Tryz.prog 192 Aa.Fx.spec
theorem Aa.Fx.Ac (hk:Ax Tryz.prog Aa.Fx.A6) (h:∀ (i k:Int) (r c:Int) (l:List Int) (x y:Int),Aa.Fx.pre [.i i,.i k,.i r,.i c,.l l,.i x,.i y]=true→A8 Aa.Fx.E Tryz.f192 [.int .i64 i,.int .i64 k,.cellp [.int .i64 r,.int .i64 c,.ints .arg .u64 l],.cellp [.int .i64 x],.cellp [.int .i64 y]] (Aa.Fx.out [.i i,.i k,.i r,.i c,.l l,.i x,.i y])):Aa.Fx.Kn :=
  Ak (Az hk _ _ _) Tryz.func192 (by kernel_rfl) (by kernel_rfl) h
def Aa.Es.A6:List (Nat × Entry):=[(193,Aa.get.spec)]
def Aa.Es.E:Env:=A9 (A5 Aa.Es.A6) (fun _=>false) (fun _=>none) (fun _=>none)
theorem Aa.Es.ev (N:Nat) (i k:Int) (r c:Int) (l:List Int) (p q:Int) (m:List Int):Bp Aa.Es.E N Tryz.f195 (An Tryz.f195) [.int .i64 i,.int .i64 k,.cellp [.int .i64 r,.int .i64 c,.ints .arg .u64 l],.cellp [.int .i64 p,.int .i64 q,.ints .arg .u64 m]]=bif (A4 i r) then bif (Cw r c l i k) then some (.int .u64 (D6 c l i k)) else none else bif (Cw p q m (Ab (i-r)) k) then some (.int .u64 (D6 q m (Ab (i-r)) k)) else none:=by kernel_rfl
abbrev _root_.Go.Proofs.S1.Aa.Es.Kn:=A3 Tryz.prog 195 Aa.Es.spec
theorem Aa.Es.Ac (hk:Ax Tryz.prog Aa.Es.A6) (h:∀ (i k:Int) (r c:Int) (l:List Int) (p q:Int) (m:List Int),Aa.Es.pre [.i i,.i k,.i r,.i c,.l l,.i p,.i q,.l m]=true→A8 Aa.Es.E Tryz.f195 [.int .i64 i,.int .i64 k,.cellp [.int .i64 r,.int .i64 c,.ints .arg .u64 l],.cellp [.int .i64 p,.int .i64 q,.ints .arg .u64 m]] (Aa.Es.out [.i i,.i k,.i r,.i c,.l l,.i p,.i q,.l m])):Aa.Es.Kn :=
  Ak (Az hk _ _ _) Tryz.func195 (by kernel_rfl) (by kernel_rfl) h
def Aa.H9.A6:List (Nat × Entry):=[(191,Aa.Dz.spec),(190,Aa.Row.spec),(189,Ae.Hz.spec)]
def Aa.H9.E:Env:=A9 (A5 Aa.H9.A6) (fun _=>false) (fun _=>none) (fun _=>none)
theorem Aa.H9.ev (N:Nat) (i k:Int) (r c:Int) (l:List Int) (p q:Int) (m:List Int):Bp Aa.H9.E N Tryz.f188 (An Tryz.f188) [.int .i64 i,.int .i64 k,.cellp [.int .i64 r,.int .i64 c,.ints .arg .u64 l],.cellp [.int .i64 p,.int .i64 q,.ints .arg .u64 m]]=bif (O8 r c l i&&decide ((0:Int)=0)) then bif (G4 p q m k&&Cu (0≤(0:Int)∧(0:Int)≤p)) then bif ((Ow (G8 c l i) (Cp q m k 0 (Int.toNat (p-0)))&&Ai (G8 c l i))&&Ai (Cp q m k 0 (Int.toNat (p-0)))) then some (.int .u64 (I9 (G8 c l i) (Cp q m k 0 (Int.toNat (p-0))))) else none else none else none :=
  Eq.trans (by kernel_rfl)
  (C2 (Cs (O8 r c l i&&decide ((0:Int)=0))) (C2 (Cs (G4 p q m k&&Cu (0≤(0:Int)∧(0:Int)≤p))) (C2 (Cs ((Ow (G8 c l i) (Cp q m k 0 (Int.toNat (p-0)))&&Ai (G8 c l i))&&Ai (Cp q m k 0 (Int.toNat (p-0))))) rfl rfl) rfl) rfl)
abbrev _root_.Go.Proofs.S1.Aa.H9.Kn:=A3 Tryz.prog 188 Aa.H9.spec
theorem Aa.H9.Ac (hk:Ax Tryz.prog Aa.H9.A6) (h:∀ (i k:Int) (r c:Int) (l:List Int) (p q:Int) (m:List Int),Aa.H9.pre [.i i,.i k,.i r,.i c,.l l,.i p,.i q,.l m]=true→A8 Aa.H9.E Tryz.f188 [.int .i64 i,.int .i64 k,.cellp [.int .i64 r,.int .i64 c,.ints .arg .u64 l],.cellp [.int .i64 p,.int .i64 q,.ints .arg .u64 m]] (Aa.H9.out [.i i,.i k,.i r,.i c,.l l,.i p,.i q,.l m])):Aa.H9.Kn :=
  Ak (Az hk _ _ _) Tryz.func188 (by kernel_rfl) (by kernel_rfl) h
end EqMat
open EqMat
theorem Jk {a b:Int} (h1:0≤a) (h2:a<20) (h3:0≤b) (h4:b<20):0≤a*b∧a*b<400:=by
  have:=Int.mul_nonneg h1 h3
  have h5:a*b≤19*19:=Int.mul_le_mul (by omega) (by omega) h3 (by omega)
  omega
theorem Aa.size.known:Aa.size.Kn:=Aa.size.Ac .nil fun n _=>by
  refine ⟨0,Aa.size.out [.i n],[],?_,.bool⟩
  have e:(bif (Ee (0:Int) n) then (Ee n (6:Int)) else false)=Bg n:=by
    unfold Bg
    rw [Ei,Ei]
    cases decide (0≤n)<;>rfl
  rw [Aa.size.ev,e]; rfl
theorem Afs (r c:Int) (l:List Int):(((!(Bg r))||(!(Bg c)))||((List.length l:Int) !=(Ab (r*c))))=!(A0 r c l):=by
  unfold A0
  cases h1:Bg r with
  | false=>rfl
  | true =>
    cases h2:Bg c with
    | false=>rfl
    | true =>
      obtain ⟨r1,r2⟩:=Ij.1 h1
      obtain ⟨c1,c2⟩:=Ij.1 h2
      have:=Jk (a:=r) (b:=c) r1 (by omega) c1 (by omega)
      rw [Am (by omega) (by omega),Ax9]
      simp
theorem Aa.Check.known:Aa.Check.Kn:=Aa.Check.Ac (.cons Aa.size.known .nil) fun r c l _=>by
  refine ⟨0,Aa.Check.out [.i r,.i c,.l l],[],?_,.int⟩
  rw [Aa.Check.ev,Afs]
  show _=some (DV.int .i64 (Ks r c l))
  unfold Ks
  cases A0 r c l<;>rfl
theorem K0 {c i k:Int} {l:List Int} {R:Int} (h:Cw R c l i k=true):Ab (Ab (i*c)+k)=i*c+k∧0≤i*c+k∧i*c+k<l.length:=by
  obtain ⟨h1,h2,h3,h4,h5,h6,h7,_⟩:=Ar.1 h
  have:=Jk h1 (by omega) h5 (by omega)
  rw [Am (x:=i*c) (by omega) (by omega),Am (by omega) (by omega)]
  omega
theorem Aa.get.known:Aa.get.Kn:=Aa.get.Ac .nil fun r c l i k hp=>by
  obtain ⟨e,h1,h2⟩:=K0 (R:=r) (show Cw r c l i k=true from hp)
  refine ⟨0,Aa.get.out [.i r,.i c,.l l,.i i,.i k],[],?_,.int⟩
  rw [Aa.get.ev,e,Axu h1,Axu h2]
  rfl
theorem S5 (r c:Int) (l:List Int):((Ks r c l) !=(0:Int))=!(A0 r c l):=by
  unfold Ks
  cases A0 r c l<;>rfl
theorem Aa.two.known:Aa.two.Kn:=Aa.two.Ac (.cons Aa.Check.known .nil) fun r c l p q m _=>by
  refine ⟨0,Aa.two.out [.i r,.i c,.l l,.i p,.i q,.l m],[],?_,.int⟩
  rw [Aa.two.ev,S5,S5]
  show _=some (DV.int .i64 (Xh r c l p q m))
  unfold Xh
  cases A0 r c l<;>cases A0 p q m<;>rfl
theorem Aa.Row.known:Aa.Row.Kn:=Aa.Row.Ac .nil fun r c l i f hp=>by
  obtain ⟨h0,hf⟩:=Ad.1 hp
  obtain rfl:=of_decide_eq_true hf
  obtain ⟨hr,hi⟩:=Ad.1 h0
  have hi:=Ar.1 hi
  obtain ⟨R,C,rfl,rfl,r6,c6,hl⟩:=Cc hr
  obtain ⟨I,rfl⟩:∃ k:Nat,i=k:=⟨i.toNat,by omega⟩
  have hm:=Jk (a:=(I:Int)) (b:=(C:Int)) (by omega) (by omega) (by omega) (by omega)
  have hm2:=Jk (a:=(I:Int)+1) (b:=(C:Int)) (by omega) (by omega) (by omega) (by omega)
  have hle:(I+1)*C≤R*C:=Ax5 C (by omega)
  have hle2:I*C≤(I+1)*C:=Ax5 C (by omega)
  have e1:(I:Int)*(C:Int)=((I*C:Nat):Int):=(Aye _ _).symm
  have e2:((I:Int)+1)*(C:Int)=(((I+1)*C:Nat):Int):=by rw [Aye]; rfl
  refine ⟨0,.ints (.own 22 tB) .u64 (G8 (C:Int) l (I:Int)),[22],?_,.drop _ _ _ _ (List.mem_singleton.2 rfl)⟩
  rw [Aa.Row.ev,Am (x:=(I:Int)+1) (by omega) (by omega),Am (x:=(I:Int)*(C:Int)) (by omega) (by omega),Int.add_zero,Am (x:=(I:Int)*(C:Int)) (by omega) (by omega),Am (x:=((I:Int)+1)*(C:Int)) (by omega) (by omega)]
  unfold G8
  have d1:decide ((0:Int)≤(I:Int)*(C:Int))=true:=Axu (by omega)
  have d2:decide ((I:Int)*(C:Int)≤((I:Int)+1)*(C:Int))=true:=Axu (by rw [e1,e2]; omega)
  have d3:decide ((0:Int)≤((I:Int)+1)*(C:Int))=true:=Axu (by omega)
  have d4:decide (((I:Int)+1)*(C:Int)≤(l.length:Int))=true:=Axu (by rw [e2]; omega)
  have d5:decide (0+(List.drop ((I:Int)*(C:Int)).toNat (List.take (((I:Int)+1)*(C:Int)).toNat l)).length≤Gp)=true:=by
    refine Axu ?_
    rw [List.length_drop,List.length_take]
    unfold Gp
    omega
  rw [d1,d2,d3,d4,d5]
  rfl
theorem Ga (c b i:Int) (n:Nat) (l:List Int):(Cp c l b i n).length=n:=by unfold Cp; rw [List.length_map,List.length_range]
theorem Ai4 (r c:Int) (l:List Int) (k:Int):Cp c l k 0 (Int.toNat (r-0))=Kd r c l k:=by
  unfold Cp Kd
  rw [Int.sub_zero]
  refine List.map_congr_left fun j _=>?_
  rw [Int.zero_add]
theorem Xe {r:Int} (h:0≤r):Cu (0≤(0:Int)∧0≤r)=true:=Ar.2 ⟨Int.le_refl _,h⟩
theorem Aos (N:Nat) {R C K f:Nat} {l:List Int} (r6:R≤6) (c6:C≤6) (hl:l.length=R*C) (hk:K<C):∀ (k i F:Nat),f+i+k=R→k<F →
    Aa.Dz.L0 N F (R:Int) (C:Int) l (K:Int) ((f+i:Nat):Int) (Cp (C:Int) l (K:Int) (f:Int) i)=some (.ints (.own 100007 tB) .u64 (Cp (C:Int) l (K:Int) (f:Int) (R-f))):=by
  intro k
  induction k with
  | zero =>
    intro i F hi hF
    obtain ⟨F,rfl⟩:∃ G,F=G+1:=⟨F-1,by omega⟩
    rw [Aa.Dz.Au,As,Axy (by omega),Axx,show R-f=i by omega]
  | succ k ih =>
    intro i F hi hF
    obtain ⟨F,rfl⟩:∃ G,F=G+1:=⟨F-1,by omega⟩
    have d:decide ((Cp (C:Int) l (K:Int) (f:Int) i).length+1≤Gp)=true:=Axu (by rw [Ga]; unfold Gp; omega)
    rw [Aa.Dz.Au,As,Axu (by omega),Axt,Dq r6 c6 hl (show f+i<R by omega) hk,Axt,d,Axt,Am (by omega) (by omega)]
    have:=ih (i+1) F (by omega) (by omega)
    unfold Cp at this ⊢
    rw [List.range_succ,List.map_append] at this
    exact this
theorem Aa.Dz.known:Aa.Dz.Kn:=Aa.Dz.Ac (.cons Aa.get.known .nil) fun r c l k f hp=>by
  obtain ⟨h0,hf⟩:=Ad.1 (show (G4 r c l k&&Cu (0≤f∧f≤r))=true from hp)
  have hf:=Ar.1 hf
  obtain ⟨hr,hi⟩:=Ad.1 h0
  have hi:=Ar.1 hi
  obtain ⟨R,C,rfl,rfl,r6,c6,hl⟩:=Cc hr
  obtain ⟨K,rfl⟩:∃ j:Nat,k=j:=⟨k.toNat,by omega⟩
  obtain ⟨f,rfl⟩:∃ j:Nat,f=j:=⟨f.toNat,by omega⟩
  refine ⟨8,.ints (.own 100007 tB) .u64 (Cp (C:Int) l (K:Int) (f:Int) (R-f)),[100007],?_,?_⟩
  · rw [Aa.Dz.ev]
    exact Aos 8 r6 c6 hl (by omega) (R-f) 0 8 (by omega) (by omega)
  · show Wk _ _ (DV.ints .fresh .u64 (Cp (C:Int) l (K:Int) (f:Int) (Int.toNat ((R:Int)-(f:Int)))))
    rw [show Int.toNat ((R:Int)-(f:Int))=R-f by omega]
    exact .drop _ _ _ _ (List.mem_singleton.2 rfl)
theorem Ld {r c i k:Int} {l:List Int} (h:A0 r c l=true) (h1:0≤i) (h2:i<r) (h3:0≤k) (h4:k<c) (R:Int):Cw R c l i k=true:=by
  obtain ⟨R',C,rfl,rfl,r6,c6,hl⟩:=Cc h
  obtain ⟨I,rfl⟩:∃ j:Nat,i=j:=⟨i.toNat,by omega⟩
  obtain ⟨K,rfl⟩:∃ j:Nat,k=j:=⟨k.toNat,by omega⟩
  exact Dq r6 c6 hl (by omega) (by omega)
theorem Aa.Ed.known:Aa.Ed.Kn:=Aa.Ed.Ac .nil fun i k _=>by
  refine ⟨0,Aa.Ed.out [.i i,.i k],[],?_,.int⟩
  rw [Aa.Ed.ev]; rfl
theorem Aa.Ie.known:Aa.Ie.Kn:=Aa.Ie.Ac .nil fun i k _=>by
  refine ⟨0,Aa.Ie.out [.i i,.i k],[],?_,.int⟩
  rw [Aa.Ie.ev]
  show _=some (DV.int .u64 (Nc i k))
  unfold Nc
  by_cases h:i=k
  · have:(i==k)=true:=by rw [h]; simp
    rw [this,if_pos h]; rfl
  · have:(i==k)=false:=by simpa using h
    rw [this,if_neg h]; rfl
theorem Aa.Fv.known:Aa.Fv.Kn:=Aa.Fv.Ac (.cons Aa.get.known .nil) fun i k r c l hp=>by
  have hp:Cw r c l k i=true:=hp
  refine ⟨0,Aa.Fv.out [.i i,.i k,.i r,.i c,.l l],[],?_,.int⟩
  rw [Aa.Fv.ev,hp]; rfl
theorem Aa.Fx.known:Aa.Fx.Kn:=Aa.Fx.Ac (.cons Aa.get.known .nil) fun i k r c l x y hp=>by
  obtain ⟨h1,h2⟩:=Ad.1 hp
  have h2:=Ar.1 h2
  refine ⟨0,Aa.Fx.out [.i i,.i k,.i r,.i c,.l l,.i x,.i y],[],?_,.int⟩
  rw [Aa.Fx.ev,Am (x:=x+i) (by omega) (by omega),Am (x:=y+k) (by omega) (by omega),h1]; rfl
theorem Aa.Es.known:Aa.Es.Kn:=Aa.Es.Ac (.cons Aa.get.known .nil) fun i k r c l p q m hp=>by
  obtain ⟨h1,h2,h3,h4,h5⟩:=Ar.1 (show Mo r c l p q m i k=true from hp)
  refine ⟨0,Aa.Es.out [.i i,.i k,.i r,.i c,.l l,.i p,.i q,.l m],[],?_,.int⟩
  show _=some (DV.int .u64 (I4 r c l q m i k))
  rw [Aa.Es.ev,As,Am (x:=i-r) (by omega) (by omega)]
  unfold I4
  by_cases h:i<r
  · rw [if_pos h] at h5
    rw [Axu h,Axt,h5,Axt,if_pos h]
  · rw [if_neg h] at h5
    rw [Axy h,Axx,h5,Axt,if_neg h]
theorem O6 {R C:Nat} {l:List Int} (hl:l.length=R*C) {I:Nat} (hi:I<R):(G8 (C:Int) l (I:Int)).length=C:=by
  have hle:(I+1)*C≤R*C:=Ax5 C (by omega)
  have e1:((I:Int)*(C:Int)).toNat=I*C:=by rw [← Aye,Axv]
  have e2:(((I:Int)+1)*(C:Int)).toNat=(I+1)*C:=by
    have:((I:Int)+1)*(C:Int)=(((I+1)*C:Nat):Int):=by rw [Aye]; rfl
    rw [this,Axv]
  unfold G8
  rw [List.length_drop,List.length_take,e1,e2]
  rw [Nat.add_mul,Nat.one_mul] at hle ⊢
  omega
theorem Zg (R:Nat) (C:Int) (l:List Int) (K:Int):(Kd (R:Int) C l K).length=R:=by
  unfold Kd
  rw [List.length_map,List.length_range,Axv]
theorem Aie {c i:Int} {l:List Int} (h:Ai l=true):Ai (G8 c l i)=true:=by
  have h:=Ar.1 h
  exact Ar.2 fun x hx=>h x (List.mem_of_mem_take (List.mem_of_mem_drop hx))
theorem G5 {c i k:Int} {l:List Int} (h:Ai l=true):Af (D6 c l i k)=true:=by
  unfold D6
  by_cases hj:(i*c+k).toNat<l.length
  · exact Pv h hj
  · rw [Ax3,List.getElem?_eq_none (by omega)]
    exact B9 (n:=0) (by decide)
theorem Ai5 {r c k:Int} {l:List Int} (h:Ai l=true):Ai (Kd r c l k)=true:=by
  refine Ar.2 fun x hx=>?_
  obtain ⟨j,_,rfl⟩:=List.mem_map.1 hx
  exact G5 h
theorem Aa.H9.known:Aa.H9.Kn:=Aa.H9.Ac (.cons Aa.Dz.known (.cons Aa.Row.known (.cons Ae.Hz.known .nil))) fun i k r c l p q m hp=>by
  obtain ⟨h1,h2⟩:=Ad.1 (show Sr r c l p q m i k=true from hp)
  obtain ⟨h3,h4⟩:=Ad.1 h1
  obtain ⟨h5,h6⟩:=Ad.1 h2
  obtain ⟨hl,hm⟩:=Ad.1 h5
  obtain rfl:=Ar.1 h6
  obtain ⟨hr,hi⟩:=Ad.1 h3
  have hi:=Ar.1 hi
  obtain ⟨R,C,rfl,rfl,r6,c6,ll⟩:=Cc hr
  obtain ⟨I,rfl⟩:∃ j:Nat,i=j:=⟨i.toNat,by omega⟩
  refine ⟨0,Aa.H9.out [.i I,.i k,.i R,.i C,.l l,.i C,.i q,.l m],[],?_,.int⟩
  have hf:Ow (G8 (C:Int) l (I:Int)) (Kd (C:Int) q m k)=true:=Rm.2 ⟨by rw [O6 ll (by omega),Zg],by rw [O6 ll (by omega)]; omega⟩
  rw [Aa.H9.ev,Ai4,h3,h4,hf,Aie hl,Ai5 hm,Xe (by omega)]
  rfl
namespace EqCmp
def compare.Lz.A6:List (Nat × Entry):=[(213,soft.Sign.spec)]
def compare.Lz.E:Env:=A9 (A5 compare.Lz.A6) (fun _=>false) (fun _=>none) (fun _=>none)
theorem compare.Lz.ev (N:Nat) (b:Int):Bp compare.Lz.E N Tryz.f214 (An Tryz.f214) [.int .u64 b]=bif (Af b) then bif (Dp b) then some (.int .i64 (Ab (0-(Ab (Gm .u64 b 9223372036854775808))))) else some (.int .i64 (Ab b)) else none:=by kernel_rfl
abbrev _root_.Go.Proofs.S1.compare.Lz.Kn:=A3 Tryz.prog 214 compare.Lz.spec
theorem compare.Lz.Ac (hk:Ax Tryz.prog compare.Lz.A6) (h:∀ (b:Int),compare.Lz.pre [.i b]=true→A8 compare.Lz.E Tryz.f214 [.int .u64 b] (compare.Lz.out [.i b])):compare.Lz.Kn :=
  Ak (Az hk _ _ _) Tryz.func214 (by kernel_rfl) (by kernel_rfl) h
def compare.Order.A6:List (Nat × Entry):=[(214,compare.Lz.spec),(155,soft.Kind.spec)]
def compare.Order.E:Env:=A9 (A5 compare.Order.A6) (fun _=>false) (fun _=>none) (fun _=>none)
theorem compare.Order.ev (N:Nat) (a b:Int):Bp compare.Order.E N Tryz.f162 (An Tryz.f162) [.int .u64 a,.int .u64 b]=bif (Af a) then bif ((Bd a)==(4:Int)) then some (.tup [.int .i64 0,.bool false]) else bif (Af b) then bif ((Bd b)==(4:Int)) then some (.tup [.int .i64 0,.bool false]) else bif (Af a) then bif (Af b) then bif (A4 (Aao a) (Aao b)) then some (.tup [.int .i64 (-1:Int),.bool true]) else bif (Af a) then bif (Af b) then bif (A4 (Aao b) (Aao a)) then some (.tup [.int .i64 1,.bool true]) else some (.tup [.int .i64 0,.bool true]) else none else none else none else none else none else none:=by kernel_rfl
abbrev _root_.Go.Proofs.S1.compare.Order.Kn:=A3 Tryz.prog 162 compare.Order.spec
theorem compare.Order.Ac (hk:Ax Tryz.prog compare.Order.A6) (h:∀ (a b:Int),compare.Order.pre [.i a,.i b]=true→A8 compare.Order.E Tryz.f162 [.int .u64 a,.int .u64 b] (compare.Order.out [.i a,.i b])):compare.Order.Kn :=
  Ak (Az hk _ _ _) Tryz.func162 (by kernel_rfl) (by kernel_rfl) h
def compare.Md.A6:List (Nat × Entry):=[(162,compare.Order.spec)]
def compare.Md.E:Env:=A9 (A5 compare.Md.A6) (fun _=>false) (fun _=>none) (fun _=>none)
theorem compare.Md.ev (N:Nat) (a b:Int):Bp compare.Md.E N Tryz.f90 (An Tryz.f90) [.int .u64 a,.int .u64 b]=bif (Af a&&Af b) then some (.bool (A4 (Sp a b) 0)) else none:=by kernel_rfl
abbrev _root_.Go.Proofs.S1.compare.Md.Kn:=A3 Tryz.prog 90 compare.Md.spec
theorem compare.Md.Ac (hk:Ax Tryz.prog compare.Md.A6) (h:∀ (a b:Int),compare.Md.pre [.i a,.i b]=true→A8 compare.Md.E Tryz.f90 [.int .u64 a,.int .u64 b] (compare.Md.out [.i a,.i b])):compare.Md.Kn :=
  Ak (Az hk _ _ _) Tryz.func90 (by kernel_rfl) (by kernel_rfl) h
def compare.Ho.A6:List (Nat × Entry):=[]
def compare.Ho.E:Env:=A9 (A5 compare.Ho.A6) (fun _=>false) (fun _=>none) (fun _=>none)
theorem compare.Ho.ev (N:Nat) (a:Int):Bp compare.Ho.E N Tryz.f87 (An Tryz.f87) [.int .u64 a]=some (.int .u64 (Gm .u64 a 9223372036854775808)):=by kernel_rfl
abbrev _root_.Go.Proofs.S1.compare.Ho.Kn:=A3 Tryz.prog 87 compare.Ho.spec
theorem compare.Ho.Ac (hk:Ax Tryz.prog compare.Ho.A6) (h:∀ (a:Int),compare.Ho.pre [.i a]=true→A8 compare.Ho.E Tryz.f87 [.int .u64 a] (compare.Ho.out [.i a])):compare.Ho.Kn :=
  Ak (Az hk _ _ _) Tryz.func87 (by kernel_rfl) (by kernel_rfl) h
def compare.E5.hint:Nat→Option Ba
  | 1=>some { keep:=[0,6,7,8],objs:=[],boxes:=[] }
  | _=>none
def compare.E5.A6:List (Nat × Entry):=[(155,soft.Kind.spec),(212,soft.Dd.spec),(211,soft.F7.spec),(213,soft.Sign.spec)]
def compare.E5.E:Env:=A9 (A5 compare.E5.A6) (fun _=>false) compare.E5.hint (fun _=>none)
def compare.E5.L0 (N M:Nat) (a p6 p7:Int) (p8:Bool):Option DV:=Bz compare.E5.E N Tryz.f161 (An Tryz.f161) [1,1,1,1,1,1,0,0] [] M ⟨Gl 59 [(0,.int .u64 a),(6,.int .u64 p6),(7,.int .i64 p7),(8,.bool p8)],[]⟩
theorem compare.E5.Au (N M:Nat) (a p6 p7:Int) (p8:Bool):compare.E5.L0 N (M+1) a p6 p7 p8=bif ((A4 p7 (-1130:Int))&&(A4 1 p6)) then compare.E5.L0 N M a (De .u64 p6 1) (Ab (p7+1)) (bif p8 then true else ((Et .u64 p6 1)==(1:Int))) else bif (A4 p7 (-1130:Int)) then bif (Af a) then bif (Ec 0 (-1074:Int) true) then some (.tup [.int .u64 (E1 (Dp a) 0 (-1074:Int) true),.int .u8 (E0 (Dp a) 0 (-1074:Int) true)]) else none else none else bif (Af a) then bif (Ec p6 p7 p8) then some (.tup [.int .u64 (E1 (Dp a) p6 p7 p8),.int .u8 (E0 (Dp a) p6 p7 p8)]) else none else none :=
  Eq.trans (by kernel_rfl)
  (Aw (O1 (A4 p7 (-1130:Int))) (Aw (Lv (A4 p7 (-1130:Int))) (Aw (Ti (A4 p7 (-1130:Int))) (C2 (tt1 (A4 p7 (-1130:Int)) (A4 1 p6)) (Aw (R7 p8) (Aw (P2 p8) (Aw (P2 p8) (Aw (Wt p8) rfl)))) rfl))))
theorem compare.E5.ev (N:Nat) (a n:Int):Bp compare.E5.E N Tryz.f161 (An Tryz.f161) [.int .u64 a,.int .i64 n]=bif (Af a) then bif ((Bd a)==(4:Int)) then some (.tup [.int .u64 9221120237041090560,.int .u8 0]) else bif ((Bd a)==(3:Int)) then bif ((Bd a)==(3:Int)) then some (.tup [.int .u64 a,.int .u8 0]) else bif (Af a) then compare.E5.L0 N N a (Bt a) (Ab ((Bh a)+(max (-2300:Int) (min 2300 n)))) false else none else bif ((Bd a)==(0:Int)) then some (.tup [.int .u64 a,.int .u8 0]) else bif (Af a) then compare.E5.L0 N N a (Bt a) (Ab ((Bh a)+(max (-2300:Int) (min 2300 n)))) false else none else none:=by kernel_rfl
abbrev _root_.Go.Proofs.S1.compare.E5.Kn:=A3 Tryz.prog 161 compare.E5.spec
theorem compare.E5.Ac (hk:Ax Tryz.prog compare.E5.A6) (h:∀ (a n:Int),compare.E5.pre [.i a,.i n]=true→A8 compare.E5.E Tryz.f161 [.int .u64 a,.int .i64 n] (compare.E5.out [.i a,.i n])):compare.E5.Kn :=
  Ak (Az hk _ _ _) Tryz.func161 (by kernel_rfl) (by kernel_rfl) h
def Ae.Br.A6:List (Nat × Entry):=[(161,compare.E5.spec)]
def Ae.Br.E:Env:=A9 (A5 Ae.Br.A6) (fun _=>false) (fun _=>none) (fun _=>none)
theorem Ae.Br.ev (N:Nat) (a n:Int):Bp Ae.Br.E N Tryz.f88 (An Tryz.f88) [.int .u64 a,.int .i64 n]=bif (Db a n) then some (.int .u64 (Bw a n)) else none:=by kernel_rfl
abbrev _root_.Go.Proofs.S1.Ae.Br.Kn:=A3 Tryz.prog 88 Ae.Br.spec
theorem Ae.Br.Ac (hk:Ax Tryz.prog Ae.Br.A6) (h:∀ (a n:Int),Ae.Br.pre [.i a,.i n]=true→A8 Ae.Br.E Tryz.f88 [.int .u64 a,.int .i64 n] (Ae.Br.out [.i a,.i n])):Ae.Br.Kn :=
  Ak (Az hk _ _ _) Tryz.func88 (by kernel_rfl) (by kernel_rfl) h
def Ae.Div.A6:List (Nat × Entry):=[(209,times.Div.spec)]
def Ae.Div.E:Env:=A9 (A5 Ae.Div.A6) (fun _=>false) (fun _=>none) (fun _=>none)
theorem Ae.Div.ev (N:Nat) (a b:Int):Bp Ae.Div.E N Tryz.f158 (An Tryz.f158) [.int .u64 a,.int .u64 b]=bif (Af a&&Af b) then some (.int .u64 (Fa a b)) else none:=by kernel_rfl
abbrev _root_.Go.Proofs.S1.Ae.Div.Kn:=A3 Tryz.prog 158 Ae.Div.spec
theorem Ae.Div.Ac (hk:Ax Tryz.prog Ae.Div.A6) (h:∀ (a b:Int),Ae.Div.pre [.i a,.i b]=true→A8 Ae.Div.E Tryz.f158 [.int .u64 a,.int .u64 b] (Ae.Div.out [.i a,.i b])):Ae.Div.Kn :=
  Ak (Az hk _ _ _) Tryz.func158 (by kernel_rfl) (by kernel_rfl) h
def Ae.Bn.hint:Nat→Option Ba
  | 0=>some { keep:=[3,6,7,8],objs:=[],boxes:=[] }
  | _=>none
def Ae.Bn.A6:List (Nat × Entry):=[(87,compare.Ho.spec),(155,soft.Kind.spec)]
def Ae.Bn.E:Env:=A9 (A5 Ae.Bn.A6) (fun _=>false) Ae.Bn.hint (fun _=>none)
def Ae.Bn.L0 (N M:Nat) (x:List Int) (p3 p8:Int):Option DV:=Bz Ae.Bn.E N Tryz.f89 (An Tryz.f89) [1,1,0,1,0] [] M ⟨Gl 21 [(3,.int .u64 p3),(6,.ints .arg .u64 x),(7,.int .i64 (List.length x:Int)),(8,.int .i64 p8)],[]⟩
theorem Ae.Bn.Au (N M:Nat) (x:List Int) (p3 p8:Int):Ae.Bn.L0 N (M+1) x p3 p8=bif (A4 p8 (List.length x:Int)) then bif ((decide (0≤p8))&&(decide (p8<(List.length x:Int)))) then bif (Af (List.getD x (Int.toNat p8) 0)) then bif ((Bd (List.getD x (Int.toNat p8) 0))==(4:Int)) then some (.int .u64 9221120237041090560) else bif (Af (List.getD x (Int.toNat p8) 0)) then Ae.Bn.L0 N M x (max p3 (I7 (List.getD x (Int.toNat p8) 0))) (Ab (p8+1)) else none else none else none else some (.int .u64 p3):=by kernel_rfl
theorem Ae.Bn.ev (N:Nat) (x:List Int):Bp Ae.Bn.E N Tryz.f89 (An Tryz.f89) [.ints .arg .u64 x] =
  Ae.Bn.L0 N N x 0 0:=by kernel_rfl
abbrev _root_.Go.Proofs.S1.Ae.Bn.Kn:=A3 Tryz.prog 89 Ae.Bn.spec
theorem Ae.Bn.Ac (hk:Ax Tryz.prog Ae.Bn.A6) (h:∀ (x:List Int),Ae.Bn.pre [.l x]=true→A8 Ae.Bn.E Tryz.f89 [.ints .arg .u64 x] (Ae.Bn.out [.l x])):Ae.Bn.Kn :=
  Ak (Az hk _ _ _) Tryz.func89 (by kernel_rfl) (by kernel_rfl) h
def Ae.Finite.hint:Nat→Option Ba
  | 0=>some { keep:=[5,6,7],objs:=[],boxes:=[] }
  | _=>none
def Ae.Finite.A6:List (Nat × Entry):=[(148,soft.Finite.spec)]
def Ae.Finite.E:Env:=A9 (A5 Ae.Finite.A6) (fun _=>false) Ae.Finite.hint (fun _=>none)
def Ae.Finite.L0 (N M:Nat) (x:List Int) (p7:Int):Option DV:=Bz Ae.Finite.E N Tryz.f150 (An Tryz.f150) [1,0,1,0] [] M ⟨Gl 15 [(5,.ints .arg .u64 x),(6,.int .i64 (List.length x:Int)),(7,.int .i64 p7)],[]⟩
theorem Ae.Finite.Au (N M:Nat) (x:List Int) (p7:Int):Ae.Finite.L0 N (M+1) x p7=bif (A4 p7 (List.length x:Int)) then bif ((decide (0≤p7))&&(decide (p7<(List.length x:Int)))) then bif (Af (List.getD x (Int.toNat p7) 0)) then bif (!(Cq (List.getD x (Int.toNat p7) 0))) then some (.bool false) else Ae.Finite.L0 N M x (Ab (p7+1)) else none else none else some (.bool true):=by kernel_rfl
theorem Ae.Finite.ev (N:Nat) (x:List Int):Bp Ae.Finite.E N Tryz.f150 (An Tryz.f150) [.ints .arg .u64 x] =
  Ae.Finite.L0 N N x 0:=by kernel_rfl
abbrev _root_.Go.Proofs.S1.Ae.Finite.Kn:=A3 Tryz.prog 150 Ae.Finite.spec
theorem Ae.Finite.Ac (hk:Ax Tryz.prog Ae.Finite.A6) (h:∀ (x:List Int),Ae.Finite.pre [.l x]=true→A8 Ae.Finite.E Tryz.f150 [.ints .arg .u64 x] (Ae.Finite.out [.l x])):Ae.Finite.Kn :=
  Ak (Az hk _ _ _) Tryz.func150 (by kernel_rfl) (by kernel_rfl) h
def Ct.Check.hint:Nat→Option Ba
  | 0=>some { keep:=[9,10,11],objs:=[],boxes:=[] }
  | _=>none
def Ct.Check.A6:List (Nat × Entry):=[(160,Aa.Check.spec),(148,soft.Finite.spec)]
def Ct.Check.E:Env:=A9 (A5 Ct.Check.A6) (fun _=>false) Ct.Check.hint (fun _=>none)
def Ct.Check.L0 (N M:Nat) (l:List Int) (p11:Int):Option DV:=Bz Ct.Check.E N Tryz.f86 (An Tryz.f86) [1,1,0,1,0] [] M ⟨Gl 19 [(9,.ints .arg .u64 l),(10,.int .i64 (List.length l:Int)),(11,.int .i64 p11)],[]⟩
theorem Ct.Check.Au (N M:Nat) (l:List Int) (p11:Int):Ct.Check.L0 N (M+1) l p11=bif (A4 p11 (List.length l:Int)) then bif ((decide (0≤p11))&&(decide (p11<(List.length l:Int)))) then bif (Af (List.getD l (Int.toNat p11) 0)) then bif (!(Cq (List.getD l (Int.toNat p11) 0))) then some (.int .i64 4) else Ct.Check.L0 N M l (Ab (p11+1)) else none else none else some (.int .i64 0):=by kernel_rfl
theorem Ct.Check.ev (N:Nat) (r c:Int) (l:List Int):Bp Ct.Check.E N Tryz.f86 (An Tryz.f86) [.agg [.int .i64 r,.int .i64 c,.ints .arg .u64 l]]=bif ((Ks r c l) !=(0:Int)) then some (.int .i64 1) else Ct.Check.L0 N N l 0:=by kernel_rfl
abbrev _root_.Go.Proofs.S1.Ct.Check.Kn:=A3 Tryz.prog 86 Ct.Check.spec
theorem Ct.Check.Ac (hk:Ax Tryz.prog Ct.Check.A6) (h:∀ (r c:Int) (l:List Int),Ct.Check.pre [.i r,.i c,.l l]=true→A8 Ct.Check.E Tryz.f86 [.agg [.int .i64 r,.int .i64 c,.ints .arg .u64 l]] (Ct.Check.out [.i r,.i c,.l l])):Ct.Check.Kn :=
  Ak (Az hk _ _ _) Tryz.func86 (by kernel_rfl) (by kernel_rfl) h
end EqCmp
open EqCmp
theorem Rf {k j:Nat} (h:k≠j):(((k:Nat):Int)==((j:Nat):Int))=false:=by rw [beq_eq_false_iff_ne]; omega
theorem Abm (n:Nat):n%2^63<2^63:=Nat.mod_lt _ (by decide)
theorem Zn {n:Nat} (h:n<2^64):Gm .u64 (n:Int) (9223372036854775808:Int)=((n%2^63:Nat):Int):=by
  have:=Pu (Bs n) (Abm n)
  rw [Mg h] at this
  exact this
theorem compare.Ho.known:compare.Ho.Kn:=compare.Ho.Ac .nil fun a hp=>by
  obtain ⟨n,rfl,hn⟩:=Bl (show Af a=true from hp)
  refine ⟨0,compare.Ho.out [.i (n:Int)],[],?_,.int⟩
  show _=some (DV.int .u64 (((n:Int).toNat%2^63:Nat):Int))
  rw [compare.Ho.ev,Zn hn,Axv]
theorem compare.Lz.known:compare.Lz.Kn:=compare.Lz.Ac (.cons soft.Sign.known .nil) fun b hp=>by
  have hp:Af b=true:=hp
  obtain ⟨n,rfl,hn⟩:=Bl hp
  refine ⟨0,compare.Lz.out [.i (n:Int)],[],?_,.int⟩
  show _=some (DV.int .i64 (Hx (n:Int).toNat))
  have h63:=Abm n
  rw [compare.Lz.ev,hp,Axt,Zn hn,Axv]
  unfold Hx H2 Dp
  rw [Axv]
  cases hs:Bs n with
  | true =>
    rw [Axt,if_pos rfl,Am (x:=((n%2^63:Nat):Int)) (by omega) (by omega),Am (by omega) (by omega)]
    congr 2; omega
  | false =>
    have:n<2^63:=by
      unfold Bs at hs
      have:=of_decide_eq_false hs
      omega
    rw [Axx,if_neg (by decide),Ax6 this,Am (by omega) (by omega)]
theorem compare.Order.known:compare.Order.Kn:=compare.Order.Ac (.cons compare.Lz.known (.cons soft.Kind.known .nil)) fun a b hp=>by
  obtain ⟨ha,hb⟩:=Ad.1 (show (Af a&&Af b)=true from hp)
  refine ⟨0,compare.Order.out [.i a,.i b],[],?_,Wk.Gw (.cons .int (.cons .bool .nil))⟩
  show _=some (DV.tup [.int .i64 (Aep a.toNat b.toNat),.bool (Zz a.toNat b.toNat)])
  rw [compare.Order.ev,ha,hb,Axt,Axt,Axt,Axt,Axt,Axt,As,As]
  unfold Aep Zz Aao Bd
  by_cases h1:Al a.toNat=4
  · have e:(((Al a.toNat:Nat):Int)==(4:Int))=true:=by rw [h1]; rfl
    rw [e,Axt,if_pos (.inl h1),Axu (.inl h1)]; rfl
  · have e:(((Al a.toNat:Nat):Int)==(4:Int))=false:=Rf h1
    rw [e,Axx]
    by_cases h2:Al b.toNat=4
    · have e:(((Al b.toNat:Nat):Int)==(4:Int))=true:=by rw [h2]; rfl
      rw [e,Axt,if_pos (.inr h2),Axu (.inr h2)]; rfl
    · have e:(((Al b.toNat:Nat):Int)==(4:Int))=false:=Rf h2
      have hn:¬ (Al a.toNat=4∨Al b.toNat=4):=fun h=>h.elim h1 h2
      rw [e,Axx,if_neg hn,Axy hn]
      by_cases h3:Hx a.toNat<Hx b.toNat
      · rw [Axu h3,if_pos h3]; rfl
      · rw [Axy h3,if_neg h3]
        by_cases h4:Hx b.toNat<Hx a.toNat
        · rw [Axu h4,if_pos h4]; rfl
        · rw [Axy h4,if_neg h4]; rfl
theorem compare.Md.known:compare.Md.Kn:=compare.Md.Ac (.cons compare.Order.known .nil) fun a b hp=>by
  have hp:(Af a&&Af b)=true:=hp
  refine ⟨0,compare.Md.out [.i a,.i b],[],?_,.bool⟩
  rw [compare.Md.ev,hp,As]; rfl
theorem Agm (N:Nat) {a:Int} (ha:Af a=true):∀ (k F m:Nat) (e:Int) (b:Bool),e=-1130-(k:Int)→k<F→m<2^53→(m≠0∨b=true)→-9000<e →
    compare.E5.L0 N F a (m:Int) e b=some (.tup [.int .u64 (((Bk (Bs a.toNat) 0,3):Nat × Nat).1:Nat),.int .u8 (((Bk (Bs a.toNat) 0,3):Nat × Nat).2:Nat)]):=by
  have pre1:Ec (0:Int) (-1074:Int) true=true:=Ar.2 (by omega)
  intro k
  induction k with
  | zero =>
    intro F m e b he hF hm h0 _
    obtain ⟨F,rfl⟩:∃ G,F=G+1:=⟨F-1,by omega⟩
    have hlt:A4 e (-1130:Int)=false:=by rw [As]; exact Axy (by omega)
    have R1:Ec (m:Int) e b=true:=Ar.2 (by omega)
    rw [compare.E5.Au,hlt,Bool.false_and,Axx,Axx,ha,Axt,R1,Axt]
    unfold E1 E0 Dp
    rw [Axv,Akh _ hm h0 (by omega)]
  | succ k ih =>
    intro F m e b he hF hm h0 hb
    obtain ⟨F,rfl⟩:∃ G,F=G+1:=⟨F-1,by omega⟩
    have hlt:A4 e (-1130:Int)=true:=by rw [As]; exact Axu (by omega)
    rw [compare.E5.Au,hlt,Bool.true_and,Axt,As]
    by_cases h1:(1:Int)<(m:Int)
    · have em:De .u64 (m:Int) (1:Int)=((m / 2^1:Nat):Int):=Ht .u64 m 1 (by decide)
      rw [Axu h1,Axt,em,Am (by omega) (by omega)]
      exact ih F (m / 2^1) (e+1) _ (by omega) (by omega) (by omega) (.inl (by omega)) (by omega)
    · rw [Axy h1,Axx,ha,Axt,pre1,Axt]
      unfold E1 E0 Dp
      rw [show (0:Int).toNat=0 from rfl,Am9]
theorem compare.E5.known:compare.E5.Kn:=compare.E5.Ac (.cons soft.Kind.known (.cons soft.Dd.known (.cons soft.F7.known (.cons soft.Sign.known .nil)))) fun a n hp=>by
  obtain ⟨ha,hn⟩:=Ad.1 (show Db a n=true from hp)
  have hn:=Ar.1 hn
  refine ⟨3000,compare.E5.out [.i a,.i n],[],?_,Wk.Gw (.cons .int (.cons .int .nil))⟩
  show _=some (DV.tup [.int .u64 ((Gh a.toNat n).1:Nat),.int .u8 ((Gh a.toNat n).2:Nat)])
  have em:max (-2300:Int) (min (2300:Int) n)=n:=by omega
  have pE:=El a.toNat
  have pM:=E9 a.toNat
  have ee:Ab (Bh a+n)=A2 a.toNat+n:=by unfold Bh; exact Am (by omega) (by omega)
  rw [compare.E5.ev,ha,Axt,Axt,em,ee]
  unfold Bd
  by_cases h4:Al a.toNat=4
  · have e:(((Al a.toNat:Nat):Int)==(4:Int))=true:=by rw [h4]; rfl
    rw [e,Axt]
    unfold Gh
    rw [if_pos h4]; rfl
  have e4:(((Al a.toNat:Nat):Int)==(4:Int))=false:=Rf h4
  rw [e4,Axx]
  by_cases h3:Al a.toNat=3
  · have e:(((Al a.toNat:Nat):Int)==(3:Int))=true:=by rw [h3]; rfl
    obtain ⟨k,rfl,hk⟩:=Bl ha
    rw [e,Axt,Axt]
    unfold Gh
    rw [if_neg h4,if_pos (.inl h3),Axv]; rfl
  have e3:(((Al a.toNat:Nat):Int)==(3:Int))=false:=Rf h3
  rw [e3,Axx]
  by_cases h0:Al a.toNat=0
  · have e:(((Al a.toNat:Nat):Int)==(0:Int))=true:=by rw [h0]; rfl
    obtain ⟨k,rfl,hk⟩:=Bl ha
    rw [e,Axt]
    unfold Gh
    rw [if_neg h4,if_pos (.inr h0),Axv]; rfl
  have e0:(((Al a.toNat:Nat):Int)==(0:Int))=false:=Rf h0
  have hk:¬ (Al a.toNat=3∨Al a.toNat=0):=fun h=>h.elim h3 h0
  have hm:Av a.toNat≠0:=fun h=>h0 ((He h3 h4).1 h)
  rw [e0,Axx]
  show compare.E5.L0 3000 3000 a (Av a.toNat:Nat) (A2 a.toNat+n) false=_
  by_cases ht:A2 a.toNat+n≤-1130
  · rw [Agl h4 hk ht]
    exact Agm 3000 ha (-1130-(A2 a.toNat+n)).toNat 3000 _ _ false (by omega) (by omega) (by omega) (.inl hm) (by omega)
  · have hlt:A4 (A2 a.toNat+n) (-1130:Int)=false:=by rw [As]; exact Axy (by omega)
    have R1:Ec ((Av a.toNat:Nat):Int) (A2 a.toNat+n) false=true:=Ar.2 ⟨by omega,by omega,by omega,by omega,fun h=>by cases h⟩
    rw [Ajq h4 hk,show (3000:Nat)=2999+1 from rfl,compare.E5.Au,hlt,Bool.false_and,Axx,Axx,ha,Axt,R1,Axt]
    unfold E1 E0 Dp
    rw [Axv,V6]
theorem Ae.Br.known:Ae.Br.Kn:=Ae.Br.Ac (.cons compare.E5.known .nil) fun a n hp=>by
  have hp:Db a n=true:=hp
  refine ⟨0,Ae.Br.out [.i a,.i n],[],?_,.int⟩
  rw [Ae.Br.ev,hp]; rfl
theorem Ae.Div.known:Ae.Div.Kn:=Ae.Div.Ac (.cons times.Div.known .nil) fun a b hp=>by
  have hp:(Af a&&Af b)=true:=hp
  refine ⟨0,Ae.Div.out [.i a,.i b],[],?_,.int⟩
  rw [Ae.Div.ev,hp]; rfl
theorem G3 {l:List Int} {i:Nat} (h:i<l.length):l.drop i=l.getD i 0::l.drop (i+1):=by
  rw [List.drop_eq_getElem_cons h,Ax3,Aya h]; rfl
theorem H3 {l:List Int} (h:Ck l=true):l.length<4611686018427387904∧∀ j,j<l.length→Af (l.getD j 0)=true:=by
  obtain ⟨h1,h2⟩:=Ar.1 h
  exact ⟨h1,fun j hj=>by rw [Ax3,Aya hj]; exact h2 _ (List.getElem_mem hj)⟩
theorem I5 {l:List Int} (h:Ai l=true) (hl:l.length≤1000):Ck l=true:=Ar.2 ⟨by omega,Ar.1 h⟩
theorem Afg (N:Nat) {x:List Int} (hx:Ck x=true):∀ (k i F:Nat),i+k=x.length→k<F→Ae.Finite.L0 N F x (i:Int)=some (.bool ((x.drop i).all Cq)):=by
  obtain ⟨hl,hu⟩:=H3 hx
  intro k
  induction k with
  | zero =>
    intro i F hi hF
    obtain ⟨F,rfl⟩:∃ G,F=G+1:=⟨F-1,by omega⟩
    rw [Ae.Finite.Au,As,Axy (by omega),Axx,Ax7 (by omega)]; rfl
  | succ k ih =>
    intro i F hi hF
    obtain ⟨F,rfl⟩:∃ G,F=G+1:=⟨F-1,by omega⟩
    rw [Ae.Finite.Au,As,Axu (show (i:Int)<(x.length:Int) by omega),Axt,Axu (show (0:Int)≤(i:Int) by omega),Axz,Axt,Axv,hu i (by omega),Axt,G3 (by omega),List.all_cons]
    cases Cq (x.getD i 0) with
    | false=>rfl
    | true =>
      rw [Bool.not_true,Axx,Am (by omega) (by omega),Bool.true_and]
      exact ih (i+1) F (by omega) (by omega)
theorem Ae.Finite.known:Ae.Finite.Kn:=Ae.Finite.Ac (.cons soft.Finite.known .nil) fun x hp=>by
  have hp:Ck x=true:=hp
  refine ⟨x.length+1,Ae.Finite.out [.l x],[],?_,.bool⟩
  show _=some (DV.bool (x.all Cq))
  rw [Ae.Finite.ev]
  exact Afg _ hp x.length 0 (x.length+1) (by omega) (by omega)
theorem Alg {x:List Int} {i:Nat} (h:i<x.length) (m:Nat):Zl (x.drop i) m=if Al (x.getD i 0).toNat=4 then P0 else Zl (x.drop (i+1)) (max m (G7 (x.getD i 0).toNat)):=by
  rw [G3 h]; rfl
theorem Ac5 (N:Nat) {x:List Int} (hx:Ck x=true):∀ (k i F m:Nat),i+k=x.length→k<F→Ae.Bn.L0 N F x (m:Int) (i:Int)=some (.int .u64 ((Zl (x.drop i) m:Nat):Int)):=by
  obtain ⟨hl,hu⟩:=H3 hx
  intro k
  induction k with
  | zero =>
    intro i F m hi hF
    obtain ⟨F,rfl⟩:∃ G,F=G+1:=⟨F-1,by omega⟩
    rw [Ae.Bn.Au,As,Axy (by omega),Axx,Ax7 (by omega)]; rfl
  | succ k ih =>
    intro i F m hi hF
    obtain ⟨F,rfl⟩:∃ G,F=G+1:=⟨F-1,by omega⟩
    rw [Ae.Bn.Au,As,Axu (show (i:Int)<(x.length:Int) by omega),Axt,Axu (show (0:Int)≤(i:Int) by omega),Axz,Axt,Axv,hu i (by omega),Axt,Alg (by omega)]
    unfold Bd
    by_cases h4:Al (x.getD i 0).toNat=4
    · have e:(((Al (x.getD i 0).toNat:Nat):Int)==(4:Int))=true:=by rw [h4]; rfl
      rw [e,Axt,if_pos h4]; rfl
    · have e:(((Al (x.getD i 0).toNat:Nat):Int)==(4:Int))=false:=Rf h4
      have em:max (m:Int) (I7 (x.getD i 0))=((max m (G7 (x.getD i 0).toNat):Nat):Int):=by unfold I7; omega
      rw [e,Axx,Axt,if_neg h4,em,Am (by omega) (by omega)]
      exact ih (i+1) F _ (by omega) (by omega)
theorem Ae.Bn.known:Ae.Bn.Kn:=Ae.Bn.Ac (.cons compare.Ho.known (.cons soft.Kind.known .nil)) fun x hp=>by
  have hp:Ck x=true:=hp
  refine ⟨x.length+1,Ae.Bn.out [.l x],[],?_,.int⟩
  rw [Ae.Bn.ev]
  exact Ac5 _ hp x.length 0 (x.length+1) 0 (by omega) (by omega)
theorem Ac4 (N:Nat) {x:List Int} (hx:Ck x=true):∀ (k i F:Nat),i+k=x.length→k<F→Ct.Check.L0 N F x (i:Int)=some (.int .i64 (if (x.drop i).all Cq=true then 0 else 4)):=by
  obtain ⟨hl,hu⟩:=H3 hx
  intro k
  induction k with
  | zero =>
    intro i F hi hF
    obtain ⟨F,rfl⟩:∃ G,F=G+1:=⟨F-1,by omega⟩
    rw [Ct.Check.Au,As,Axy (by omega),Axx,Ax7 (by omega)]; rfl
  | succ k ih =>
    intro i F hi hF
    obtain ⟨F,rfl⟩:∃ G,F=G+1:=⟨F-1,by omega⟩
    rw [Ct.Check.Au,As,Axu (show (i:Int)<(x.length:Int) by omega),Axt,Axu (show (0:Int)≤(i:Int) by omega),Axz,Axt,Axv,hu i (by omega),Axt,G3 (by omega),List.all_cons]
    cases Cq (x.getD i 0) with
    | false=>rfl
    | true =>
      rw [Bool.not_true,Axx,Am (by omega) (by omega),Bool.true_and]
      exact ih (i+1) F (by omega) (by omega)
theorem Kh {r c:Int} {l:List Int} (h:A0 r c l=true):l.length≤36:=by
  obtain ⟨R,C,rfl,rfl,r6,c6,hl⟩:=Cc h
  have:=Nat.mul_le_mul r6 c6
  omega
theorem Ct.Check.known:Ct.Check.Kn:=Ct.Check.Ac (.cons Aa.Check.known (.cons soft.Finite.known .nil)) fun r c l hp=>by
  have hp:Ai l=true:=hp
  refine ⟨l.length+1,Ct.Check.out [.i r,.i c,.l l],[],?_,.int⟩
  show _=some (DV.int .i64 (Cd r c l))
  rw [Ct.Check.ev]
  unfold Ks Cd Da
  by_cases h:A0 r c l=true
  · have:=Kh h
    rw [if_pos h,if_pos h]
    have e:((0:Int) !=(0:Int))=false:=by decide
    rw [e,Axx]
    exact Ac4 _ (I5 hp (by omega)) l.length 0 (l.length+1) (by omega) (by omega)
  · rw [if_neg h,if_neg h]; rfl
open Go Go.Den Go.Rnd Go.Proofs Ieee
theorem Ams {m n:Nat} (hm:m≠0) (hn:n≠0) (lm:m<2^53) (ln:n<2^53) (i j:Int) :
    Ci (Fi m n (54+n.log2-m.log2)) (i-j-((54+n.log2-m.log2:Nat):Int)-1)=Ci (Fi m n 120) (i-j-121):=by
  have l1:=(Nat.log2_lt hm).2 lm
  have a1:=Nat.log2_self_le hm
  have a2:=Nat.lt_log2_self (n:=n)
  have g1:2^53≤m*2^(54+n.log2-m.log2) / n:=by
    rw [Nat.le_div_iff_mul_le (by omega)]
    have h1:2^m.log2*2^(54+n.log2-m.log2)≤m*2^(54+n.log2-m.log2):=Ax5 _ a1
    have h2:2^m.log2*2^(54+n.log2-m.log2)=2^53*2^(n.log2+1):=by
      rw [← Nat.pow_add,← Nat.pow_add]
      congr 1
      omega
    have h3:2^53*n≤2^53*2^(n.log2+1):=Nat.mul_le_mul_left _ (by omega)
    omega
  have g2:2^53≤m*2^120 / n:=Amt (t:=53) (by omega) (by omega) ln (by omega)
  exact (Xm (by omega) g1 g2 (by omega)).1
theorem Ap7 (s t:Bool) (m:Nat) (i:Int) (n:Nat) (j:Int) (hn:n≠0):(Datum.number s m i).quotient 54 (.number t n j) =
    some (.number (s ^^ t) (Fi m n (54+n.log2-m.log2)) (i-j-((54+n.log2-m.log2:Nat):Int)-1)):=by
  have e:(Datum.number s m i).quotient 54 (.number t n j)=some (.number (s ^^ t) (2*(m <<< (54+n.log2-m.log2) / n)+(m <<< (54+n.log2-m.log2)%n !=0).toNat) (i-j-((54+n.log2-m.log2:Nat):Int)-1)):=if_neg hn
  rw [e,Nat.shiftLeft_eq]
  unfold Fi
  congr 3
  by_cases h:m*2^(54+n.log2-m.log2)%n=0
  · rw [if_pos h,h]; rfl
  · have:(m*2^(54+n.log2-m.log2)%n !=0)=true:=by simpa using h
    rw [if_neg h,this]; rfl
theorem Aoo {a b:Nat} (ha:a<2^64) (hb:b<2^64) {d:Nat} (hd:Al d=4):Dt ((Ieee.double.div a b).getD d)=(Ac1 a b).1:=by
  have cd:Dt d=P0:=if_pos hd
  have ex:∀ s t:Bool,(s ^^ t)=(s !=t):=fun s t=>by cases s<;>cases t<;>rfl
  have e54:Ieee.double.fractionBits+2=54:=rfl
  unfold Format.div
  rw [Iw ha,Iw hb,e54]
  unfold Ac1
  by_cases a4:Al a=4
  · rw [if_pos (.inl a4),G0 a4]; exact cd
  · by_cases b4:Al b=4
    · rw [if_pos (.inr b4),G0 b4]
      by_cases a3:Al a=3
      · rw [Eg a3]; exact cd
      · rw [Ef a3 a4]; exact cd
    · rw [if_neg (fun h=>h.elim a4 b4)]
      by_cases a3:Al a=3
      · rw [Eg a3]
        by_cases b3:Al b=3
        · rw [Eg b3,if_pos ⟨by omega,.inl a3⟩]; exact cd
        · rw [Ef b3 b4,if_neg (by omega),if_pos a3]
          show Dt (Bk (Bs a ^^ Bs b) D8)=_
          rw [Go.Proofs.S1.Kt,ex]
      · rw [Ef a3 a4]
        by_cases b3:Al b=3
        · rw [Eg b3,if_neg (by omega),if_neg a3,if_pos (.inl b3)]
          show Dt (Ieee.double.write (.number (Bs a ^^ Bs b) 0 0))=_
          rw [Me,Rc,ex]
          exact Gq _ (Nat.zero_le _)
        · rw [Ef b3 b4]
          have za:=T7 a3 a4
          have zb:=T7 b3 b4
          by_cases b0:Al b=0
          · by_cases a0:Al a=0
            · have e:(Datum.number (Bs a) (Av a) (A2 a)).quotient 54 (.number (Bs b) (Av b) (A2 b))=none:=by
                show (if Av b=0 then (if Av a=0 then none else _) else _)=_
                rw [if_pos (zb.2 b0),if_pos (za.2 a0)]
              rw [e,if_pos ⟨by omega,.inr a0⟩]; exact cd
            · have e:(Datum.number (Bs a) (Av a) (A2 a)).quotient 54 (.number (Bs b) (Av b) (A2 b))=some (.infinity (Bs a ^^ Bs b)):=by
                show (if Av b=0 then (if Av a=0 then none else _) else _)=_
                rw [if_pos (zb.2 b0),if_neg (fun k=>a0 (za.1 k))]
              rw [e,if_neg (by omega),if_neg a3,if_neg (by omega),if_pos b0]
              show Dt (Bk (Bs a ^^ Bs b) D8)=_
              rw [Go.Proofs.S1.Kt,ex]
          · have hn:Av b≠0:=fun k=>b0 (zb.1 k)
            rw [Ap7 _ _ _ _ _ _ hn,if_neg (by omega),if_neg a3]
            show Dt (Ieee.double.write (.number _ _ _))=_
            rw [Me,Gq _ (Kw _ _),ex]
            by_cases a0:Al a=0
            · rw [if_pos (.inr a0),za.2 a0]
              have:Fi 0 (Av b) (54+(Av b).log2-Nat.log2 0)=0:=by
                unfold Fi
                rw [Nat.zero_mul,Nat.zero_div,Nat.zero_mod,if_pos rfl]
              rw [this,Rc]
            · have hm:Av a≠0:=fun k=>a0 (za.1 k)
              have la:=E9 a
              have lb:=E9 b
              rw [if_neg (by omega),if_neg b0,Ams hm hn (by omega) (by omega)]
end Go.Proofs.S1
namespace Go.Rnd
open Go.Den
theorem Ahl {P root rest two:Nat} (h1:P=root*root+rest) (h2:rest≤2*root) (h3:two<4) :
    (4*root+1≤4*rest+two→4*P+two=(2*root+1)*(2*root+1)+(4*rest+two-(4*root+1))∧4*rest+two-(4*root+1)≤2*(2*root+1)) ∧
    (4*rest+two<4*root+1→4*P+two=(2*root)*(2*root)+(4*rest+two)∧4*rest+two≤2*(2*root)):=by
  have e1:(2*root+1)*(2*root+1)=4*(root*root)+(4*root+1):=by
    rw [Nat.add_mul,Nat.mul_add,Nat.mul_add]
    have:2*root*(2*root)=4*(root*root):=by rw [Nat.mul_mul_mul_comm]
    omega
  have e2:(2*root)*(2*root)=4*(root*root):=by rw [Nat.mul_mul_mul_comm]
  constructor
  · intro h; rw [e1]; omega
  · intro h; rw [e2]; omega
theorem Ap4 {P root rest:Nat} (h1:P=root*root+rest) (h2:rest≤2*root):root=Sy P:=by
  refine Yw (by omega) ?_
  have:(root+1)*(root+1)=root*root+2*root+1:=by rw [Nat.add_mul,Nat.mul_add]; omega
  omega
end Go.Rnd
namespace Go.Rnd
open Go.Den
theorem H0:Af (0:Int)=true:=B9 (n:=0) (by decide)
theorem Am0:Af As3=true:=B9 (n:=4607182418800017408) (by decide)
theorem Ajr {b:Nat} {n:Int} (h:b<2^64):(Gh b n).1<2^64:=by
  unfold Gh
  by_cases h4:Al b=4
  · rw [if_pos h4]; exact (by decide:P0<2^64)
  rw [if_neg h4]
  by_cases h3:Al b=3∨Al b=0
  · rw [if_pos h3]; exact h
  rw [if_neg h3]
  exact Tn _ _ _
theorem Hr {b n:Int} (h:Af b=true):Af (Bw b n)=true:=by
  obtain ⟨x,rfl,hx⟩:=Bl h
  exact B9 (Ajr (by rw [Axv]; exact hx))
theorem Rv (b:Nat):G7 b<2^63:=Nat.mod_lt _ (by decide)
theorem Zk:∀ (l:List Int) (m:Nat),m<2^64→Zl l m<2^64
  | [],m,h=>h
  | x::l,m,h=>by
    unfold Zl
    split
    · exact (by decide:P0<2^64)
    · have h2:=Rv x.toNat
      exact Zk l _ (by omega)
theorem N2 (l:List Int):Af (Be l)=true:=B9 (Zk l 0 (by decide))
theorem Sx (x:Int):Af (I7 x)=true:=B9 (Nat.lt_trans (Rv x.toNat) (by decide))
theorem Ahx {a b:Int} (ha:Af a=true) (hb:Af b=true):Af (Jq a b)=true:=by
  obtain ⟨x,rfl,hx⟩:=Bl ha
  obtain ⟨y,rfl,hy⟩:=Bl hb
  exact B9 (Uz (by rw [Axv]; exact hx) (by rw [Axv]; exact hy)).1
theorem Yk {a:Int} (ha:Af a=true):Af (C5 a)=true:=by
  obtain ⟨x,rfl,hx⟩:=Bl ha
  exact B9 (Vi (by rw [Axv]; exact hx))
theorem Ame {b:Nat} (h:b<2^64):(N9 b).1<2^64:=by
  by_cases h4:Al b=4
  · rw [Xp h4]; exact (by decide:P0<2^64)
  by_cases h0:Al b=0∨b=D8
  · rw [N8 h4 h0]; exact h
  cases hn:Bs b with
  | true=>rw [Tl h4 h0 hn]; exact (by decide:P0<2^64)
  | false =>
    unfold N9
    rw [if_neg h4,if_neg h0,hn,if_neg (by decide)]
    exact Nat.lt_trans (Wx _ _) (by decide)
theorem Abz {a:Int} (ha:Af a=true):Af (Fq a)=true:=by
  obtain ⟨x,rfl,hx⟩:=Bl ha
  exact B9 (Ame (by rw [Axv]; exact hx))
theorem Amd (k:Int):∀ (l:List Int) {s:Int},Af s=true→Af (Ad0 k s l)=true
  | [],_,h=>h
  | _::l,_,h=>Amd k l (Ahx h (Jg _ _))
theorem W3 (x:List Int):Af (Df x)=true:=by
  unfold Df
  split
  · exact N2 x
  · exact Hr (Abz (Amd _ _ H0))
theorem Avh (x:List Int):Af (muI x)=true:=by
  unfold muI
  split
  · exact W3 _
  · exact Yk (W3 _)
theorem Ark (x:List Int):Af (E4 x)=true:=Hr (Avh x)
theorem Ak5 (b:Nat):-1100≤Ak6 b∧Ak6 b≤1100:=by
  unfold Ak6
  split
  · have h1:=El b
    have h2:=E9 b
    rename_i h
    have h3:(Av b).log2<53:=by
      by_cases h0:Av b=0
      · rw [h0]; decide
      · exact (Nat.log2_lt h0).2 h2
    omega
  · omega
theorem Za (x:Int):-1100≤Bq x∧Bq x≤1100:=Ak5 x.toNat
theorem It {l:List Int} (h:Ai l=true) (j:Nat):Af (l.getD j 0)=true:=W8 (Ar.1 h) j
theorem Rt {l:List Int} (h:∀ x∈l,Af x=true):Ai l=true:=Ar.2 h
theorem Le:Ai []=true:=Rt fun _ h=>by cases h
theorem Af1 {α:Type} {l:List α} {f:α→Int} (h:∀ j,Af (f j)=true):Ai (l.map f)=true:=Rt fun x hx=>by
  obtain ⟨j,_,rfl⟩:=List.mem_map.1 hx
  exact h j
theorem Alj {x:Int} {l:List Int} (h1:Af x=true) (h2:Ai l=true):Ai (x::l)=true:=Rt fun y hy=>by
  rcases List.mem_cons.1 hy with rfl | hy
  · exact h1
  · exact Ar.1 h2 y hy
theorem Ru {c i k:Int} {l:List Int} (h:Ai l=true):Af (D6 c l i k)=true:=It h _
theorem Ad8 (c b i:Int) (n:Nat) (l:List Int):(Cp c l b i n).length=n:=by unfold Cp; rw [List.length_map,List.length_range]
theorem O4 {c b i:Int} {n:Nat} {l:List Int} (h:Ai l=true):Ai (Cp c l b i n)=true:=Af1 fun _=>Ru h
theorem Amm (n:Nat) {f:Nat→Int} (h:∀ j,Af (f j)=true):Ai (I6 n f)=true:=Alj Am0 (Af1 fun _=>h _)
theorem O7 {n:Nat} (h:n≠0) (f:Nat→Int):(I6 n f).length=n:=by
  unfold I6
  rw [List.length_cons,List.length_map,List.length_range]
  omega
theorem Ud {x:List Int} (h:Ai x=true):Ai (Cg x).1=true∧Af (Cg x).2.1=true∧Af (Cg x).2.2.1=true:=by
  have hz:Ai []=true∧Af (0:Int)=true∧Af (0:Int)=true:=⟨Le,H0,H0⟩
  unfold Cg
  split
  · exact hz
  split
  · unfold Jh
    split
    · dsimp only
      exact ⟨Amm _ fun _=>H0,H0,It h 0⟩
    · split
      · dsimp only
        exact ⟨Amm _ fun _=>Ac0 _ _,Ac0 _ _,Ark x⟩
      · exact hz
  · exact hz
theorem Uc {x:List Int} (h:(Cg x).2.2.2=0):(Cg x).1.length=x.length:=by
  unfold Cg at h ⊢
  by_cases h1:x.length=0∨64<x.length
  · rw [if_pos h1] at h; exact absurd h (by decide)
  rw [if_neg h1] at h ⊢
  by_cases h2:Da x=true
  · rw [if_pos h2] at h ⊢
    unfold Jh at h ⊢
    by_cases h3:Ea (x.drop 1)=true
    · rw [if_pos h3]; dsimp only; exact O7 (n:=x.length) (by omega) _
    · rw [if_neg h3] at h ⊢
      by_cases h4:Cq (E4 x)=true
      · rw [if_pos h4]; dsimp only [R4]; exact O7 (n:=x.length) (by omega) _
      · rw [if_neg h4] at h; exact absurd h (by decide)
  · rw [if_neg h2] at h; exact absurd h (by decide)
theorem Rp (x y:List Int):Af (I9 x y)=true:=B9 (Acy x y 0 (by decide))
theorem Ali {c i k t a b:Int} {l v:List Int} (h:Ai l=true):Af (Pq c l i k v t a b)=true:=by
  unfold Pq
  split
  · exact Nv (Ru h) (Jg _ _)
  · exact Ru h
theorem Abj {r c:Nat} {l:List Int} (h:Ai l=true) (i k:Int) (v:List Int) (t:Int):Ai (E7 r c l i k v t)=true:=Ge fun _ _=>Ali h
theorem K1 (r c:Nat) (l:List Int) (i k:Int) (v:List Int) (t:Int):(E7 r c l i k v t).length=r*c:=B8 _ _ _
theorem Alb {r c:Nat} {l:List Int} (h:Ai l=true) (j:Nat) {x:Int} (hx:Af x=true):Ai (M3 r c l j x)=true:=Ge fun a b=>by
  split
  · split
    · exact hx
    · exact H0
  · exact Ru h
theorem Nk (r c:Nat) (l:List Int) (j:Nat):(Yi r c l j).length=r*c:=by unfold Yi M3; exact B8 _ _ _
theorem W4 {r c:Nat} {l:List Int} (h:Ai l=true) (j:Nat):Ai (Yi r c l j)=true:=Alb (Abj h _ _ _ _) _ (Ud (O4 h)).2.2
def Aaw (r:Nat):Nat→List (List Int × Int)→Prop
  | _,[]=>True
  | j,m::ms=>(Ai m.1=true∧Af m.2=true∧m.1.length+j=r)∧Aaw r (j+1) ms
theorem Ze (r c:Nat):∀ (n j:Nat) (l:List Int) (x:List Int × List (List Int × Int)),Ai l=true→l.length=r*c→j+n≤r→Mz r c n j l=some x→Ai x.1=true∧x.1.length=r*c∧x.2.length=n∧Aaw r j x.2
  | 0,j,l,x,ha,hl,_,h=>by
    cases h
    exact ⟨ha,hl,rfl,trivial⟩
  | n+1,j,l,x,ha,hl,hj,h=>by
    unfold Mz at h
    by_cases h1:(Cg (E3 r c l j)).2.2.2=0
    · rw [if_pos h1,Option.map_eq_some_iff] at h
      obtain ⟨y,hy,rfl⟩:=h
      obtain ⟨a1,a2,a3,a4⟩:=Ze r c n (j+1) _ y (W4 ha j) (Nk r c l j) (by omega) hy
      have hm:=Ud (x:=E3 r c l j) (O4 ha)
      have hlen:=Uc h1
      refine ⟨a1,a2,by rw [List.length_cons,a3],⟨hm.1,hm.2.1,?_⟩,a4⟩
      show (Cg (E3 r c l j)).1.length+j=r
      rw [hlen]
      unfold E3
      rw [Ad8]
      omega
    · rw [if_neg h1] at h; cases h
theorem Ut (n:Nat):Ai (I1 n)=true:=Ge fun i k=>by
  unfold Nc
  split
  · exact Am0
  · exact H0
theorem Rq (n:Nat):∀ (ms:List (List Int × Int)) (j:Nat) (q:List Int),Ai q=true→q.length=n*n→Ai (Hd n j ms q)=true∧(Hd n j ms q).length=n*n
  | [],_,_,h1,h2=>⟨h1,h2⟩
  | m::ms,j,q,h1,h2=>by
    unfold Hd
    exact ⟨Abj (Rq n ms (j+1) q h1 h2).1 _ _ _ _,K1 _ _ _ _ _ _ _⟩
theorem Aq5 {r c:Nat} {l:List Int} (h:(J6 r c l).isSome=true):Ai (Ma r c l)=true∧(Ma r c l).length=r*r:=by
  unfold Ma
  cases hd:J6 r c l with
  | none=>rw [hd] at h; cases h
  | some x=>exact Rq r x.2 0 _ (Ut r) (by unfold I1; exact B8 _ _ _)
theorem Aq4 {r c:Nat} {l:List Int} (ha:Ai l=true) (hl:l.length=r*c) (h:(J6 r c l).isSome=true):Ai (J5 r c l)=true∧(J5 r c l).length=r*c:=by
  unfold J5
  cases hd:J6 r c l with
  | none=>rw [hd] at h; cases h
  | some x =>
    have hn:H6 r c≤r:=by unfold H6; omega
    have:=Ze r c (H6 r c) 0 l x ha hl (by omega) hd
    exact ⟨this.1,this.2.1⟩
end Go.Rnd
namespace Go.Proofs.S1
open Go Go.Den Go.Rnd Go.Proofs
set_option maxRecDepth 100000
namespace EqRoot
def root.Gt.hint:Nat→Option Ba
  | 0=>some { keep:=[0,4,5,6,14],objs:=[],boxes:=[] }
  | _=>none
def root.Gt.A6:List (Nat × Entry):=[]
def root.Gt.E:Env:=A9 (A5 root.Gt.A6) (fun _=>false) root.Gt.hint (fun _=>none)
def root.Gt.L0 (N M:Nat) (m p4:Int) (p5 p6 p14:Int):Option DV:=Bz root.Gt.E N Tryz.f265 (An Tryz.f265) [1,1,0,1,0] [] M ⟨Gl 68 [(0,.int .u64 m),(4,.int .u64 p4),(5,.int .u64 p5),(6,.int .u64 p6),(14,.int .i64 p14)],[]⟩
theorem root.Gt.Au (N M:Nat) (m p4:Int) (p5 p6 p14:Int):root.Gt.L0 N (M+1) m p4 p5 p6 p14=bif (A4 p14 64) then bif (A4 p14 32) then bif (decide (0≤(Ab ((62:Int)-(Ab ((2:Int)*p14)))))) then bif (decide ((Gx (H7 .u64 (B2 .u64 p6 2) (Et .u64 (De .u64 m (Ab ((62:Int)-(Ab ((2:Int)*p14))))) 3)) (H7 .u64 (B2 .u64 p4 2) 1) 0)≤1)) then bif ((Gx (H7 .u64 (B2 .u64 p5 2) (De .u64 p6 62)) (De .u64 p4 62) (Gx (H7 .u64 (B2 .u64 p6 2) (Et .u64 (De .u64 m (Ab ((62:Int)-(Ab ((2:Int)*p14))))) 3)) (H7 .u64 (B2 .u64 p4 2) 1) 0))==(0:Int)) then root.Gt.L0 N M m (H7 .u64 (B2 .u64 p4 1) 1) (Ng (H7 .u64 (B2 .u64 p5 2) (De .u64 p6 62)) (De .u64 p4 62) (Gx (H7 .u64 (B2 .u64 p6 2) (Et .u64 (De .u64 m (Ab ((62:Int)-(Ab ((2:Int)*p14))))) 3)) (H7 .u64 (B2 .u64 p4 2) 1) 0)) (Ng (H7 .u64 (B2 .u64 p6 2) (Et .u64 (De .u64 m (Ab ((62:Int)-(Ab ((2:Int)*p14))))) 3)) (H7 .u64 (B2 .u64 p4 2) 1) 0) (Ab (p14+1)) else root.Gt.L0 N M m (B2 .u64 p4 1) (H7 .u64 (B2 .u64 p5 2) (De .u64 p6 62)) (H7 .u64 (B2 .u64 p6 2) (Et .u64 (De .u64 m (Ab ((62:Int)-(Ab ((2:Int)*p14))))) 3)) (Ab (p14+1)) else none else none else bif (decide ((Gx (H7 .u64 (B2 .u64 p6 2) 0) (H7 .u64 (B2 .u64 p4 2) 1) 0)≤1)) then bif ((Gx (H7 .u64 (B2 .u64 p5 2) (De .u64 p6 62)) (De .u64 p4 62) (Gx (H7 .u64 (B2 .u64 p6 2) 0) (H7 .u64 (B2 .u64 p4 2) 1) 0))==(0:Int)) then root.Gt.L0 N M m (H7 .u64 (B2 .u64 p4 1) 1) (Ng (H7 .u64 (B2 .u64 p5 2) (De .u64 p6 62)) (De .u64 p4 62) (Gx (H7 .u64 (B2 .u64 p6 2) 0) (H7 .u64 (B2 .u64 p4 2) 1) 0)) (Ng (H7 .u64 (B2 .u64 p6 2) 0) (H7 .u64 (B2 .u64 p4 2) 1) 0) (Ab (p14+1)) else root.Gt.L0 N M m (B2 .u64 p4 1) (H7 .u64 (B2 .u64 p5 2) (De .u64 p6 62)) (H7 .u64 (B2 .u64 p6 2) 0) (Ab (p14+1)) else none else some (.tup [.int .u64 p4,.bool (bif (p5==(0:Int)) then (p6==(0:Int)) else false)]) :=
  Eq.trans (by kernel_rfl)
  (Ej rfl (Aw (O1 (p5==(0:Int))) (Aw (Lv (p5==(0:Int))) (Aw (Ti (p5==(0:Int))) rfl))))
theorem root.Gt.ev (N:Nat) (m:Int):Bp root.Gt.E N Tryz.f265 (An Tryz.f265) [.int .u64 m] =
  root.Gt.L0 N N m 0 0 0 0:=by kernel_rfl
abbrev _root_.Go.Proofs.S1.root.Gt.Kn:=A3 Tryz.prog 265 root.Gt.spec
theorem root.Gt.Ac (hk:Ax Tryz.prog root.Gt.A6) (h:∀ (m:Int),root.Gt.pre [.i m]=true→A8 root.Gt.E Tryz.f265 [.int .u64 m] (root.Gt.out [.i m])):root.Gt.Kn :=
  Ak (Az hk _ _ _) Tryz.func265 (by kernel_rfl) (by kernel_rfl) h
def root.Sqrt.hint:Nat→Option Ba
  | 5=>some { keep:=[5,7,9],objs:=[],boxes:=[] }
  | _=>none
def root.Sqrt.A6:List (Nat × Entry):=[(250,Cz.B3.spec),(265,root.Gt.spec),(155,soft.Kind.spec),(212,soft.Dd.spec),(211,soft.F7.spec),(213,soft.Sign.spec)]
def root.Sqrt.E:Env:=A9 (A5 root.Sqrt.A6) (fun _=>false) root.Sqrt.hint (fun _=>none)
def root.Sqrt.L0 (N M:Nat) (p5 p7:Int) (p9:Bool):Option DV:=Bz root.Sqrt.E N Tryz.f264 (An Tryz.f264) [1,1,1,1,1,1,1,1,1,0,0] [] M ⟨Gl 73 [(5,.int .i64 p5),(7,.int .u64 p7),(9,.bool p9)],[]⟩
theorem root.Sqrt.Au (N M:Nat) (p5 p7:Int) (p9:Bool):root.Sqrt.L0 N (M+1) p5 p7 p9=bif (Ee 4611686018427387904 p7) then root.Sqrt.L0 N M (Ab (p5+2)) (De .u64 p7 1) (bif p9 then true else ((Et .u64 p7 1)==(1:Int))) else bif (Ec p7 (Ab ((Ab (Int.tdiv p5 2))-32)) p9) then some (.tup [.int .u64 (E1 false p7 (Ab ((Ab (Int.tdiv p5 2))-32)) p9),.int .u8 (E0 false p7 (Ab ((Ab (Int.tdiv p5 2))-32)) p9)]) else none :=
  Eq.trans (by kernel_rfl)
  (Ej (Aw (R7 p9) (Aw (P2 p9) (Aw (P2 p9) (Aw (Wt p9) rfl)))) rfl)
theorem root.Sqrt.ev (N:Nat) (a:Int):Bp root.Sqrt.E N Tryz.f264 (An Tryz.f264) [.int .u64 a]=bif (Af a) then bif ((Bd a)==(4:Int)) then some (.tup [.int .u64 9221120237041090560,.int .u8 0]) else bif (Af a) then bif ((Bd a)==(0:Int)) then some (.tup [.int .u64 a,.int .u8 0]) else bif (a==(9218868437227405312:Int)) then some (.tup [.int .u64 a,.int .u8 0]) else bif (Af a) then bif (Dp a) then some (.tup [.int .u64 9221120237041090560,.int .u8 16]) else bif (Af a) then bif (Af (Bt a)) then bif ((Int.tmod (Ab ((Bh a)-(Ab ((64-E2 (Bt a))-2)))) 2) !=(0:Int)) then bif (decide (0≤(Ab ((Ab ((64-E2 (Bt a))-2))-1)))) then bif (Cu (0≤(B2 .u64 (Bt a) (Ab ((Ab ((64-E2 (Bt a))-2))-1)))∧(B2 .u64 (Bt a) (Ab ((Ab ((64-E2 (Bt a))-2))-1)))<9223372036854775808)) then root.Sqrt.L0 N N (Ab ((Bh a)-(Ab ((Ab ((64-E2 (Bt a))-2))-1)))) (Uf (B2 .u64 (Bt a) (Ab ((Ab ((64-E2 (Bt a))-2))-1)))) (!(Ug (B2 .u64 (Bt a) (Ab ((Ab ((64-E2 (Bt a))-2))-1))))) else none else none else bif (decide (0≤(Ab ((64-E2 (Bt a))-2)))) then bif (Cu (0≤(B2 .u64 (Bt a) (Ab ((64-E2 (Bt a))-2)))∧(B2 .u64 (Bt a) (Ab ((64-E2 (Bt a))-2)))<9223372036854775808)) then root.Sqrt.L0 N N (Ab ((Bh a)-(Ab ((64-E2 (Bt a))-2)))) (Uf (B2 .u64 (Bt a) (Ab ((64-E2 (Bt a))-2)))) (!(Ug (B2 .u64 (Bt a) (Ab ((64-E2 (Bt a))-2))))) else none else none else none else none else none else none else none:=by kernel_rfl
abbrev _root_.Go.Proofs.S1.root.Sqrt.Kn:=A3 Tryz.prog 264 root.Sqrt.spec
theorem root.Sqrt.Ac (hk:Ax Tryz.prog root.Sqrt.A6) (h:∀ (a:Int),root.Sqrt.pre [.i a]=true→A8 root.Sqrt.E Tryz.f264 [.int .u64 a] (root.Sqrt.out [.i a])):root.Sqrt.Kn :=
  Ak (Az hk _ _ _) Tryz.func264 (by kernel_rfl) (by kernel_rfl) h
def Ae.Sqrt.A6:List (Nat × Entry):=[(264,root.Sqrt.spec)]
def Ae.Sqrt.E:Env:=A9 (A5 Ae.Sqrt.A6) (fun _=>false) (fun _=>none) (fun _=>none)
theorem Ae.Sqrt.ev (N:Nat) (a:Int):Bp Ae.Sqrt.E N Tryz.f262 (An Tryz.f262) [.int .u64 a]=bif (Af a) then some (.int .u64 (Fq a)) else none:=by kernel_rfl
abbrev _root_.Go.Proofs.S1.Ae.Sqrt.Kn:=A3 Tryz.prog 262 Ae.Sqrt.spec
theorem Ae.Sqrt.Ac (hk:Ax Tryz.prog Ae.Sqrt.A6) (h:∀ (a:Int),Ae.Sqrt.pre [.i a]=true→A8 Ae.Sqrt.E Tryz.f262 [.int .u64 a] (Ae.Sqrt.out [.i a])):Ae.Sqrt.Kn :=
  Ak (Az hk _ _ _) Tryz.func262 (by kernel_rfl) (by kernel_rfl) h
def compare.Lj.A6:List (Nat × Entry):=[(261,Cz.Lg.spec),(148,soft.Finite.spec),(155,soft.Kind.spec),(211,soft.F7.spec)]
def compare.Lj.E:Env:=A9 (A5 compare.Lj.A6) (fun _=>false) (fun _=>none) (fun _=>none)
theorem compare.Lj.ev (N:Nat) (a:Int):Bp compare.Lj.E N Tryz.f255 (An Tryz.f255) [.int .u64 a]=bif (Af a) then bif ((!(Cq a))||(Af a)) then bif ((!(Cq a))||((Bd a)==(0:Int))) then some (.int .i64 0) else bif (Af a) then bif (Af (Bt a)) then some (.int .i64 (Ab ((Ab ((E2 (Bt a))-1))+(Bh a)))) else none else none else none else none :=
  Eq.trans (by kernel_rfl)
  (Ej (Aw (Abr (Cq a)) (C2 (Al8 (Cq a) (Af a)) (Aw (R0 (Cq a)) (Aw (Abt (Cq a)) (C2 (Asm (Cq a) ((Bd a)==(0:Int))) rfl rfl))) rfl)) rfl)
abbrev _root_.Go.Proofs.S1.compare.Lj.Kn:=A3 Tryz.prog 255 compare.Lj.spec
theorem compare.Lj.Ac (hk:Ax Tryz.prog compare.Lj.A6) (h:∀ (a:Int),compare.Lj.pre [.i a]=true→A8 compare.Lj.E Tryz.f255 [.int .u64 a] (compare.Lj.out [.i a])):compare.Lj.Kn :=
  Ak (Az hk _ _ _) Tryz.func255 (by kernel_rfl) (by kernel_rfl) h
def Ae.Norm.hint:Nat→Option Ba
  | 0=>some { keep:=[5,6,25,26,27],objs:=[],boxes:=[] }
  | _=>none
def Ae.Norm.A6:List (Nat × Entry):=[(255,compare.Lj.spec),(148,soft.Finite.spec),(226,Ae.Add.spec),(89,Ae.Bn.spec),(157,Ae.Mul.spec),(88,Ae.Br.spec),(262,Ae.Sqrt.spec)]
def Ae.Norm.E:Env:=A9 (A5 Ae.Norm.A6) (fun _=>false) Ae.Norm.hint (fun _=>none)
def Ae.Norm.L0 (N M:Nat) (x:List Int) (p6 p27:Int):Option DV:=Bz Ae.Norm.E N Tryz.f257 (An Tryz.f257) [1,1,1,1,1,1,0,1,0] [] M ⟨Gl 45 [(5,.int .i64 (Bq (Be x))),(6,.int .u64 p6),(25,.ints .arg .u64 x),(26,.int .i64 (List.length x:Int)),(27,.int .i64 p27)],[]⟩
theorem Ae.Norm.Au (N M:Nat) (x:List Int) (p6 p27:Int):Ae.Norm.L0 N (M+1) x p6 p27=bif (A4 p27 (List.length x:Int)) then bif ((decide (0≤p27))&&(decide (p27<(List.length x:Int)))) then bif (Db (List.getD x (Int.toNat p27) 0) (Ab (0-(Bq (Be x))))) then bif (Af (Bw (List.getD x (Int.toNat p27) 0) (Ab (0-(Bq (Be x)))))&&Af (Bw (List.getD x (Int.toNat p27) 0) (Ab (0-(Bq (Be x)))))) then bif (Af p6&&Af (D1 (Bw (List.getD x (Int.toNat p27) 0) (Ab (0-(Bq (Be x))))) (Bw (List.getD x (Int.toNat p27) 0) (Ab (0-(Bq (Be x))))))) then Ae.Norm.L0 N M x (Jq p6 (D1 (Bw (List.getD x (Int.toNat p27) 0) (Ab (0-(Bq (Be x))))) (Bw (List.getD x (Int.toNat p27) 0) (Ab (0-(Bq (Be x))))))) (Ab (p27+1)) else none else none else none else none else bif (Af p6) then bif (Db (Fq p6) (Bq (Be x))) then some (.tup [.int .u64 (Bw (Fq p6) (Bq (Be x))),.int .i64 0]) else none else none:=by kernel_rfl
theorem Ae.Norm.ev (N:Nat) (x:List Int):Bp Ae.Norm.E N Tryz.f257 (An Tryz.f257) [.ints .arg .u64 x]=bif (A4 64 (List.length x:Int)) then some (.tup [.int .u64 0,.int .i64 3]) else bif (Ck x) then bif (((Be x)==(0:Int))||(Af (Be x))) then bif (((Be x)==(0:Int))||(!(Cq (Be x)))) then some (.tup [.int .u64 (Be x),.int .i64 0]) else bif (Af (Be x)) then Ae.Norm.L0 N N x 0 (0:Int) else none else none else none :=
  Eq.trans (by kernel_rfl)
  (Ej rfl (Ej (Aw (R7 ((Be x)==(0:Int))) (C2 (Apn ((Be x)==(0:Int)) (Af (Be x))) (Aw (P2 ((Be x)==(0:Int))) (Aw (Wt ((Be x)==(0:Int))) (C2 (Aun ((Be x)==(0:Int)) (Cq (Be x))) rfl rfl))) rfl)) rfl))
abbrev _root_.Go.Proofs.S1.Ae.Norm.Kn:=A3 Tryz.prog 257 Ae.Norm.spec
theorem Ae.Norm.Ac (hk:Ax Tryz.prog Ae.Norm.A6) (h:∀ (x:List Int),Ae.Norm.pre [.l x]=true→A8 Ae.Norm.E Tryz.f257 [.ints .arg .u64 x] (Ae.Norm.out [.l x])):Ae.Norm.Kn :=
  Ak (Az hk _ _ _) Tryz.func257 (by kernel_rfl) (by kernel_rfl) h
end EqRoot
end Go.Proofs.S1
end
