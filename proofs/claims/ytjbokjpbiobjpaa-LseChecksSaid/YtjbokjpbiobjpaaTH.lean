/- A verified evaluator of the program's form and its use for this seat: S1EqBits6, S1EqTimes, S1PTimes, S1PTimesA, S1EqVec, S1PVec, S1EqMat, S1PMat, S1EqCmp, S1PCmp, S1PDiv, RootM, HouL, S1EqRoot, S1PRoot. -/
import Derived.Test.YtjbokjpbiobjpaaTE
import Derived.Test.YtjbokjpbiobjpaaTG
import Derived.Test.YtjbokjpbiobjpaaTF
set_option linter.unusedVariables false
set_option linter.unusedSimpArgs false
noncomputable section
namespace Go.Proofs.S1
open Go Go.Den Go.Rnd Go.Proofs
set_option maxRecDepth 100000
namespace EqBits6
def Bu.Bb.A8:List (Nat × Entry):=[(95,Bu.Ia.spec)]
def Bu.Bb.E:Env:=Ba (A6 Bu.Bb.A8) (fun _=>false) (fun _=>none) (fun _=>none)
theorem Bu.Bb.ev (N:Nat) (x:Int):Bo Bu.Bb.E N Try.f98 (An Try.f98) [.int .u64 x]=bif (Ag x) then some (.int .i64 (Ab ((64:Int)-(Di x)))) else none:=by kernel_rfl
abbrev _root_.Go.Proofs.S1.Bu.Bb.Kn:=A4 Try.prog 98 Bu.Bb.spec
theorem Bu.Bb.Ae (hk:Av Try.prog Bu.Bb.A8) (h:∀ (x:Int),Bu.Bb.pre [.i x]=true→Bd Bu.Bb.E Try.f98 [.int .u64 x] (Bu.Bb.out [.i x])):Bu.Bb.Kn :=
  Aj (Ax hk _ _ _) Try.func98 (by kernel_rfl) (by kernel_rfl) h
def Bu.Fw.A8:List (Nat × Entry):=[]
def Bu.Fw.E:Env:=Ba (A6 Bu.Fw.A8) (fun _=>false) (fun _=>none) (fun _=>none)
theorem Bu.Fw.ev (N:Nat) (x y:Int):Bo Bu.Fw.E N Try.f93 (An Try.f93) [.int .u64 x,.int .u64 y]=some (.tup [.int .u64 (Bx ((Bx ((Bx ((Cf .u64 x 32)*(Cf .u64 y 32)))+(Cf .u64 (Bx ((Bx ((Cf .u64 x 32)*(Eo .u64 y 4294967295)))+(Cf .u64 (Bx ((Eo .u64 x 4294967295)*(Eo .u64 y 4294967295))) 32))) 32)))+(Cf .u64 (Bx ((Eo .u64 (Bx ((Bx ((Cf .u64 x 32)*(Eo .u64 y 4294967295)))+(Cf .u64 (Bx ((Eo .u64 x 4294967295)*(Eo .u64 y 4294967295))) 32))) 4294967295)+(Bx ((Eo .u64 x 4294967295)*(Cf .u64 y 32))))) 32))),.int .u64 (Bx (x*y))]):=by kernel_rfl
abbrev _root_.Go.Proofs.S1.Bu.Fw.Kn:=A4 Try.prog 93 Bu.Fw.spec
theorem Bu.Fw.Ae (hk:Av Try.prog Bu.Fw.A8) (h:∀ (x y:Int),Bu.Fw.pre [.i x,.i y]=true→Bd Bu.Fw.E Try.f93 [.int .u64 x,.int .u64 y] (Bu.Fw.out [.i x,.i y])):Bu.Fw.Kn :=
  Aj (Ax hk _ _ _) Try.func93 (by kernel_rfl) (by kernel_rfl) h
abbrev _root_.Go.Proofs.S1.Bu.Ia.Kn:Prop:=A4 Try.prog 95 Bu.Ia.spec
theorem _root_.Go.Proofs.S1.Bu.Ia.call:∀ (args:Array Value) (w:World),(callFunc 95 args).run Try.prog w=.ok (.enter 95 args) w:=N5 Try.func95 (by kernel_rfl) (show Try.f95.body=some (An Try.f95) by kernel_rfl)
theorem _root_.Go.Proofs.S1.Bu.Ia.run (x:Int) (w:World) (h0:0≤x) (h1:x≤18446744073709551615):Calls Try.prog 95 #[.int .u64 x] w fun e w'=>e=.returned (.int .i64 (Lib.bitLen x.toNat))∧w'=w:=Try.Y8 x w h0 h1
end EqBits6
namespace EqTimes
def times.signed.A8:List (Nat × Entry):=[(73,soft.Ev.spec)]
def times.signed.E:Env:=Ba (A6 times.signed.A8) (fun _=>false) (fun _=>none) (fun _=>none)
theorem times.signed.ev (N:Nat) (b:Int) (n:Bool):Bo times.signed.E N Try.f91 (An Try.f91) [.int .u64 b,.bool n]=bif n then bif (Ag b) then some (.int .u64 (Cq b)) else none else some (.int .u64 b):=by kernel_rfl
abbrev _root_.Go.Proofs.S1.times.signed.Kn:=A4 Try.prog 91 times.signed.spec
theorem times.signed.Ae (hk:Av Try.prog times.signed.A8) (h:∀ (b:Int) (n:Bool),times.signed.pre [.i b,.b n]=true→Bd times.signed.E Try.f91 [.int .u64 b,.bool n] (times.signed.out [.i b,.b n])):times.signed.Kn :=
  Aj (Ax hk _ _ _) Try.func91 (by kernel_rfl) (by kernel_rfl) h
def times.nan.A8:List (Nat × Entry):=[(24,soft.Kind.spec)]
def times.nan.E:Env:=Ba (A6 times.nan.A8) (fun _=>false) (fun _=>none) (fun _=>none)
theorem times.nan.ev (N:Nat) (a b:Int):Bo times.nan.E N Try.f90 (An Try.f90) [.int .u64 a,.int .u64 b]=bif (Ag a) then bif ((Az a)==(4:Int)) then some (.bool true) else bif (Ag b) then bif ((Az b)==(4:Int)) then some (.bool true) else some (.bool false) else none else none:=by kernel_rfl
abbrev _root_.Go.Proofs.S1.times.nan.Kn:=A4 Try.prog 90 times.nan.spec
theorem times.nan.Ae (hk:Av Try.prog times.nan.A8) (h:∀ (a b:Int),times.nan.pre [.i a,.i b]=true→Bd times.nan.E Try.f90 [.int .u64 a,.int .u64 b] (times.nan.out [.i a,.i b])):times.nan.Kn :=
  Aj (Ax hk _ _ _) Try.func90 (by kernel_rfl) (by kernel_rfl) h
def times.norm.A8:List (Nat × Entry):=[(98,Bu.Bb.spec),(83,soft.Eg.spec)]
def times.norm.E:Env:=Ba (A6 times.norm.A8) (fun _=>false) (fun _=>none) (fun _=>none)
theorem times.norm.ev (N:Nat) (b:Int):Bo times.norm.E N Try.f92 (An Try.f92) [.int .u64 b]=bif (Ag b) then bif (Ag (A1 b)) then bif (decide (0≤(Ab ((64-Di (A1 b))-11)))) then some (.tup [.int .u64 (Be .u64 (A1 b) (Ab ((64-Di (A1 b))-11))),.int .i64 (Ab ((Ay b)-(Ab ((64-Di (A1 b))-11))))]) else none else none else none:=by kernel_rfl
abbrev _root_.Go.Proofs.S1.times.norm.Kn:=A4 Try.prog 92 times.norm.spec
theorem times.norm.Ae (hk:Av Try.prog times.norm.A8) (h:∀ (b:Int),times.norm.pre [.i b]=true→Bd times.norm.E Try.f92 [.int .u64 b] (times.norm.out [.i b])):times.norm.Kn :=
  Aj (Ax hk _ _ _) Try.func92 (by kernel_rfl) (by kernel_rfl) h
def times.wide.hint:Nat→Option A0
  | 0=>some { keep:=[0,1,2,3],objs:=[],boxes:=[] }
  | _=>none
def times.wide.A8:List (Nat × Entry):=[(84,soft.B9.spec)]
def times.wide.E:Env:=Ba (A6 times.wide.A8) (fun _=>false) times.wide.hint (fun _=>none)
def times.wide.L0 (N M:Nat) (n:Bool) (p1 p2:Int) (p3:Bool):Option DV:=B3 times.wide.E N Try.f94 (An Try.f94) [1,0,0] [] M ⟨Gy 39 [(0,.bool n),(1,.int .u64 p1),(2,.int .i64 p2),(3,.bool p3)],[]⟩
theorem times.wide.As (N M:Nat) (n:Bool) (p1 p2:Int) (p3:Bool):times.wide.L0 N (M+1) n p1 p2 p3=bif ((Au p2 (-1130:Int))&&(Au 1 p1)) then times.wide.L0 N M n (Cf .u64 p1 1) (Ab (p2+1)) (bif p3 then true else ((Eo .u64 p1 1)==(1:Int))) else bif (Au p2 (-1130:Int)) then bif (Cv 0 (-1074:Int) true) then some (.tup [.int .u64 (Dh n 0 (-1074:Int) true),.int .u8 (Dg n 0 (-1074:Int) true)]) else none else bif (Cv p1 p2 p3) then some (.tup [.int .u64 (Dh n p1 p2 p3),.int .u8 (Dg n p1 p2 p3)]) else none :=
  Eq.trans (by kernel_rfl)
  (Am (Su (Au p2 (-1130:Int))) (Am (Qz (Au p2 (-1130:Int))) (Am (Vw (Au p2 (-1130:Int))) (Dp (tt1 (Au p2 (-1130:Int)) (Au 1 p1)) (Am (Qb p3) (Am (Mu p3) (Am (Mu p3) (Am (Vv p3) rfl)))) rfl))))
theorem times.wide.ev (N:Nat) (n:Bool) (m e:Int) (r:Bool):Bo times.wide.E N Try.f94 (An Try.f94) [.bool n,.int .u64 m,.int .i64 e,.bool r] =
  times.wide.L0 N N n m e r:=by kernel_rfl
abbrev _root_.Go.Proofs.S1.times.wide.Kn:=A4 Try.prog 94 times.wide.spec
theorem times.wide.Ae (hk:Av Try.prog times.wide.A8) (h:∀ (n:Bool) (m e:Int) (r:Bool),times.wide.pre [.b n,.i m,.i e,.b r]=true→Bd times.wide.E Try.f94 [.bool n,.int .u64 m,.int .i64 e,.bool r] (times.wide.out [.b n,.i m,.i e,.b r])):times.wide.Kn :=
  Aj (Ax hk _ _ _) Try.func94 (by kernel_rfl) (by kernel_rfl) h
def times.Mul.A8:List (Nat × Entry):=[(93,Bu.Fw.spec),(24,soft.Kind.spec),(80,soft.Sign.spec),(90,times.nan.spec),(92,times.norm.spec),(91,times.signed.spec),(94,times.wide.spec)]
def times.Mul.E:Env:=Ba (A6 times.Mul.A8) (fun _=>false) (fun _=>none) (fun _=>none)
theorem times.Mul.ev (N:Nat) (a b:Int):Bo times.Mul.E N Try.f72 (An Try.f72) [.int .u64 a,.int .u64 b]=bif (Ag a) then bif (Ag b) then bif (Ag a) then bif (Ag b) then bif (Ag a&&Ag b) then bif (Adk a b) then some (.tup [.int .u64 9221120237041090560,.int .u8 0]) else bif ((((Az a)==(3:Int))&&((Az b)==(0:Int)))||(((Az a)==(0:Int))&&((Az b)==(3:Int)))) then some (.tup [.int .u64 9221120237041090560,.int .u8 16]) else bif (((Az a)==(3:Int))||((Az b)==(3:Int))) then bif (Ag 9218868437227405312) then some (.tup [.int .u64 (M6 (!((Cy a)==(Cy b))) 9218868437227405312),.int .u8 0]) else none else bif (((Az a)==(0:Int))||((Az b)==(0:Int))) then bif (Ag 0) then some (.tup [.int .u64 (M6 (!((Cy a)==(Cy b))) 0),.int .u8 0]) else none else bif (Ag a&&Ir a) then bif (Ag b&&Ir b) then bif (Ag (Bv a)&&Ag (Bv b)) then bif (Kl (Gd .u64 (Be .u64 (M9 (Bv a) (Bv b)) 20) (Cf .u64 (Jk (Bv a) (Bv b)) 44)) (Ab ((Ab ((Ff a)+(Ff b)))+44))) then some (.tup [.int .u64 (Dh (!((Cy a)==(Cy b))) (Gd .u64 (Be .u64 (M9 (Bv a) (Bv b)) 20) (Cf .u64 (Jk (Bv a) (Bv b)) 44)) (Ab ((Ab ((Ff a)+(Ff b)))+44)) ((Be .u64 (Jk (Bv a) (Bv b)) 20) !=(0:Int))),.int .u8 (Dg (!((Cy a)==(Cy b))) (Gd .u64 (Be .u64 (M9 (Bv a) (Bv b)) 20) (Cf .u64 (Jk (Bv a) (Bv b)) 44)) (Ab ((Ab ((Ff a)+(Ff b)))+44)) ((Be .u64 (Jk (Bv a) (Bv b)) 20) !=(0:Int)))]) else none else none else none else none else none else none else none else none else none :=
  Eq.trans (by kernel_rfl)
  (Ew (Ew (Ew (Ew (Ew (Ew rfl (Am (Su ((Az a)==(3:Int))) (Am (Qz ((Az a)==(3:Int))) (Am (Vw ((Az a)==(3:Int))) (Am (tt36 ((Az a)==(3:Int)) ((Az b)==(0:Int))) (Am (Afs ((Az a)==(3:Int)) ((Az b)==(0:Int))) (Am (Afs ((Az a)==(3:Int)) ((Az b)==(0:Int))) (Am (tt34 ((Az a)==(3:Int)) ((Az b)==(0:Int)) ((Az a)==(0:Int))) (Am (tt33 ((Az a)==(3:Int)) ((Az b)==(0:Int)) ((Az a)==(0:Int))) (Am (tt32 ((Az a)==(3:Int)) ((Az b)==(0:Int)) ((Az a)==(0:Int))) (Am (tt31 ((Az a)==(3:Int)) ((Az b)==(0:Int))) (Dp (tt30 ((Az a)==(3:Int)) ((Az b)==(0:Int)) ((Az a)==(0:Int)) ((Az b)==(3:Int))) rfl (Am (Qb ((Az a)==(3:Int))) (Am (Mu ((Az a)==(3:Int))) (Am (Vv ((Az a)==(3:Int))) (Dp (tt5 ((Az a)==(3:Int)) ((Az b)==(3:Int))) rfl (Am (Qb ((Az a)==(0:Int))) (Am (Mu ((Az a)==(0:Int))) (Am (Vv ((Az a)==(0:Int))) (Dp (tt5 ((Az a)==(0:Int)) ((Az b)==(0:Int))) rfl rfl)))))))))))))))))))) rfl) rfl) rfl) rfl) rfl)
abbrev _root_.Go.Proofs.S1.times.Mul.Kn:=A4 Try.prog 72 times.Mul.spec
theorem times.Mul.Ae (hk:Av Try.prog times.Mul.A8) (h:∀ (a b:Int),times.Mul.pre [.i a,.i b]=true→Bd times.Mul.E Try.f72 [.int .u64 a,.int .u64 b] (times.Mul.out [.i a,.i b])):times.Mul.Kn :=
  Aj (Ax hk _ _ _) Try.func72 (by kernel_rfl) (by kernel_rfl) h
def times.Div.hint:Nat→Option A0
  | 1=>some { keep:=[6,10,11,12,13,14,78],objs:=[],boxes:=[] }
  | _=>none
def times.Div.A8:List (Nat × Entry):=[(24,soft.Kind.spec),(80,soft.Sign.spec),(90,times.nan.spec),(92,times.norm.spec),(91,times.signed.spec),(94,times.wide.spec)]
def times.Div.E:Env:=Ba (A6 times.Div.A8) (fun _=>false) times.Div.hint (fun _=>none)
def times.Div.L0 (N M:Nat) (a b:Int) (p13 p14 p78:Int):Option DV:=B3 times.Div.E N Try.f87 (An Try.f87) [1,1,1,1,1,1,1,0,1,0] [] M ⟨Gy 104 [(6,.bool (!((Cy a)==(Cy b)))),(10,.int .i64 (Ff a)),(11,.int .u64 (Bv b)),(12,.int .i64 (Ff b)),(13,.int .u64 p13),(14,.int .u64 p14),(78,.int .i64 p78)],[]⟩
theorem times.Div.As (N M:Nat) (a b:Int) (p13 p14 p78:Int):times.Div.L0 N (M+1) a b p13 p14 p78=bif (Au p78 61) then bif (Dt (Bv b) (Be .u64 p14 1)) then times.Div.L0 N M a b (Gd .u64 (Be .u64 p13 1) 1) (Bx ((Be .u64 p14 1)-(Bv b))) (Ab (p78+1)) else times.Div.L0 N M a b (Be .u64 p13 1) (Be .u64 p14 1) (Ab (p78+1)) else bif (Kl p13 (Ab ((Ab ((Ff a)-(Ff b)))-61))) then some (.tup [.int .u64 (Dh (!((Cy a)==(Cy b))) p13 (Ab ((Ab ((Ff a)-(Ff b)))-61)) (p14 !=(0:Int))),.int .u8 (Dg (!((Cy a)==(Cy b))) p13 (Ab ((Ab ((Ff a)-(Ff b)))-61)) (p14 !=(0:Int)))]) else none:=by kernel_rfl
theorem times.Div.ev (N:Nat) (a b:Int):Bo times.Div.E N Try.f87 (An Try.f87) [.int .u64 a,.int .u64 b]=bif (Ag a) then bif (Ag b) then bif (Ag a) then bif (Ag b) then bif (Ag a&&Ag b) then bif (Adk a b) then some (.tup [.int .u64 9221120237041090560,.int .u8 0]) else bif ((((Az a)==(3:Int))&&((Az b)==(3:Int)))||(((Az a)==(0:Int))&&((Az b)==(0:Int)))) then some (.tup [.int .u64 9221120237041090560,.int .u8 16]) else bif ((Az a)==(3:Int)) then bif (Ag 9218868437227405312) then some (.tup [.int .u64 (M6 (!((Cy a)==(Cy b))) 9218868437227405312),.int .u8 0]) else none else bif (((Az b)==(3:Int))||((Az a)==(0:Int))) then bif (Ag 0) then some (.tup [.int .u64 (M6 (!((Cy a)==(Cy b))) 0),.int .u8 0]) else none else bif ((Az b)==(0:Int)) then bif (Ag 9218868437227405312) then some (.tup [.int .u64 (M6 (!((Cy a)==(Cy b))) 9218868437227405312),.int .u8 8]) else none else bif (Ag a&&Ir a) then bif (Ag b&&Ir b) then bif ((Bv b) !=0) then bif ((Bv b) !=0) then times.Div.L0 N N a b (Bx (Int.tdiv (Bv a) (Bv b))) (Int.tmod (Bv a) (Bv b)) (0:Int) else none else none else none else none else none else none else none else none else none :=
  Eq.trans (by kernel_rfl)
  (Ew (Ew (Ew (Ew (Ew (Ew rfl (Am (Su ((Az a)==(3:Int))) (Am (Qz ((Az a)==(3:Int))) (Am (Vw ((Az a)==(3:Int))) (Am (tt36 ((Az a)==(3:Int)) ((Az b)==(3:Int))) (Am (Afs ((Az a)==(3:Int)) ((Az b)==(3:Int))) (Am (Afs ((Az a)==(3:Int)) ((Az b)==(3:Int))) (Am (tt34 ((Az a)==(3:Int)) ((Az b)==(3:Int)) ((Az a)==(0:Int))) (Am (tt33 ((Az a)==(3:Int)) ((Az b)==(3:Int)) ((Az a)==(0:Int))) (Am (tt32 ((Az a)==(3:Int)) ((Az b)==(3:Int)) ((Az a)==(0:Int))) (Am (tt31 ((Az a)==(3:Int)) ((Az b)==(3:Int))) (Dp (tt30 ((Az a)==(3:Int)) ((Az b)==(3:Int)) ((Az a)==(0:Int)) ((Az b)==(0:Int))) rfl (Ew rfl (Am (Qb ((Az b)==(3:Int))) (Am (Mu ((Az b)==(3:Int))) (Am (Vv ((Az b)==(3:Int))) (Dp (tt5 ((Az b)==(3:Int)) ((Az a)==(0:Int))) rfl (Ew rfl (Ew (Ew (Dp (Eh ((Bv b) !=0)) (Dp (Eh ((Bv b) !=0)) rfl rfl) rfl) rfl) rfl))))))))))))))))))) rfl) rfl) rfl) rfl) rfl)
abbrev _root_.Go.Proofs.S1.times.Div.Kn:=A4 Try.prog 87 times.Div.spec
theorem times.Div.Ae (hk:Av Try.prog times.Div.A8) (h:∀ (a b:Int),times.Div.pre [.i a,.i b]=true→Bd times.Div.E Try.f87 [.int .u64 a,.int .u64 b] (times.Div.out [.i a,.i b])):times.Div.Kn :=
  Aj (Ax hk _ _ _) Try.func87 (by kernel_rfl) (by kernel_rfl) h
end EqTimes
open EqBits6 EqTimes
theorem Xm {n:Nat} (h0:n≠0) (h:n<2^64):Go.Lib.bitLen n=n.log2+1:=by
  have h1:=Nat.log2_self_le h0
  have h2:=Nat.lt_log2_self (n:=n)
  have hp:=Cj n.log2
  have e:n / 2^n.log2=1:=by
    rw [Nat.pow_succ] at h2
    exact Nat.div_eq_of_lt_le (by omega) (by omega)
  have e1:Go.Lib.bitLen 1=1:=by decide
  rw [Go.Lib.bitLen_shift n.log2 n h1 h,e,e1]
theorem Bu.Ia.known:Bu.Ia.Kn:=by
  refine ⟨?_,Bu.Ia.call⟩
  intro args ha
  simp only [Bu.Ia.spec,entry] at ha ⊢
  cases hd:Jb [.i .u64] args with
  | none=>rw [hd] at ha; cases ha
  | some ats =>
    rw [hd] at ha
    simp only at ha ⊢
    obtain ⟨ds,h1,h2⟩:=Jp hd
    obtain ⟨x,_,_,rfl,rfl,he⟩:=h1.Ad7
    obtain ⟨rfl,rfl⟩:=he.Zs
    obtain ⟨n,rfl,hn⟩:=Bj (x:=x) ha
    refine K8.args ?_ h2
    intro w vals I hI hv
    obtain ⟨u,us,e1,e2,e3⟩:=hv
    simp only [Ah] at e2
    have e3:us=[]:=e3
    subst e2 e3
    have e4:vals=#[.int .u64 (n:Int)]:=Array.ext' e1
    subst e4
    refine (Bu.Ia.run n w (by omega) (by omega)).mono ?_
    rintro e w' ⟨rfl,rfl⟩
    refine ⟨_,fun _=>none,rfl,Go.RowKit.Below.refl _ _,⟨fun i b h=>(by cases h),fun i j b h=>(by cases h)⟩,?_⟩
    show Ah _ _ (DV.int .i64 (Di n)) _
    simp only [Ah]
    congr 1
    unfold Di
    rw [Ahp]
    by_cases h0:n=0
    · subst h0; rfl
    · rw [Xm h0 hn,if_neg (by omega)]; rfl
theorem Ad2 {n:Nat} (hn:n<2^64):0≤Di n∧Di n≤64:=by
  unfold Di
  rw [Ahp]
  by_cases h0:n=0
  · subst h0; decide
  · have:=(Nat.log2_lt h0).2 hn
    rw [if_neg (by omega)]; omega
theorem Bu.Bb.known:Bu.Bb.Kn:=Bu.Bb.Ae (.cons Bu.Ia.known .nil) fun x hp=>by
  obtain ⟨n,rfl,hn⟩:=Bj (x:=x) hp
  have:=Ad2 hn
  refine ⟨0,Bu.Bb.out [.i n],[],?_,.int⟩
  rw [Bu.Bb.ev,Bl hn,Ahn,Ak (by omega) (by omega)]
  rfl
theorem Gx {a b:Nat} (ha:a<4294967296) (hb:b<4294967296):a*b≤18446744065119617025 :=
  Nat.le_trans (Nat.mul_le_mul (show a≤4294967295 by omega) (show b≤4294967295 by omega)) (by decide)
theorem Adm (x y:Nat) (hx:x<2^64) (hy:y<2^64) :
    x*y / 18446744073709551616=(x / 2^32)*(y / 2^32)+((x / 2^32)*(y%2^32)+(x%2^32)*(y%2^32) / 2^32) / 2^32 +
      (((x / 2^32)*(y%2^32)+(x%2^32)*(y%2^32) / 2^32)%2^32+(x%2^32)*(y / 2^32)) / 2^32:=by
  have ex:x=x / 2^32*4294967296+x%2^32:=by omega
  have ey:y=y / 2^32*4294967296+y%2^32:=by omega
  have ha:x / 2^32<4294967296:=by omega
  have hc:y / 2^32<4294967296:=by omega
  have hb:x%2^32<4294967296:=by omega
  have hd:y%2^32<4294967296:=by omega
  generalize x / 2^32=a at *
  generalize x%2^32=b at *
  generalize y / 2^32=c at *
  generalize y%2^32=d at *
  have e:x*y=a*c*18446744073709551616+(a*d+b*c)*4294967296+b*d:=by
    rw [ex,ey,Nat.add_mul,Nat.mul_add,Nat.mul_add]
    have e1:a*4294967296*(c*4294967296)=a*c*18446744073709551616:=by
      rw [Nat.mul_mul_mul_comm]
    have e2:a*4294967296*d=a*d*4294967296:=Nat.mul_right_comm _ _ _
    have e3:b*(c*4294967296)=b*c*4294967296:=(Nat.mul_assoc _ _ _).symm
    rw [e1,e2,e3]
    omega
  have b1:=Gx ha hc
  have b2:=Gx ha hd
  have b3:=Gx hb hc
  have b4:=Gx hb hd
  rw [e]
  clear e ex ey
  generalize a*c=p at *
  generalize a*d=q at *
  generalize b*c=r at *
  generalize b*d=s at *
  omega
theorem Bu.Fw.known:Bu.Fw.Kn:=Bu.Fw.Ae .nil fun x y hp=>by
  obtain ⟨h1,h2⟩:=Ad.1 hp
  obtain ⟨x,rfl,hx⟩:=Bj h1
  obtain ⟨y,rfl,hy⟩:=Bj h2
  refine ⟨0,Bu.Fw.out [.i x,.i y],[],?_,Wk.Fl (.cons .int (.cons .int .nil))⟩
  show _=some (DV.tup [.int .u64 (M9 x y),.int .u64 (Jk x y)])
  have s32:∀ n:Nat,Cf .u64 (n:Int) (32:Int)=((n / 2^32:Nat):Int):=fun n=>Fi .u64 n 32 (by decide)
  have m32:∀ n:Nat,n<2^64→Eo .u64 (n:Int) (4294967295:Int)=((n%2^32:Nat):Int):=fun n hn=>F7 32 hn (by decide)
  have ha:x / 2^32<4294967296:=by omega
  have hc:y / 2^32<4294967296:=by omega
  have hb:x%2^32<4294967296:=by omega
  have hd:y%2^32<4294967296:=by omega
  have b1:=Gx ha hc
  have b2:=Gx ha hd
  have b3:=Gx hb hc
  have b4:=Gx hb hd
  have hhi:=Adm x y hx hy
  have wn:∀ n:Nat,n<2^64→Bx (n:Int)=n:=fun n hn=>Gf (by omega) (by omega)
  have hlt:x*y / 18446744073709551616<2^64:=by
    rw [Nat.div_lt_iff_lt_mul (by decide)]
    have:=Nat.mul_le_mul (show x≤18446744073709551615 by omega) (show y≤18446744073709551615 by omega)
    omega
  rw [Bu.Fw.ev]
  simp only [s32,m32 x hx,m32 y hy]
  generalize hA:x / 2^32=a at *
  generalize hB:x%2^32=b at *
  generalize hC:y / 2^32=c at *
  generalize hD:y%2^32=d at *
  simp only [← Ah8]
  rw [wn (a*c) (by omega),wn (a*d) (by omega),wn (b*c) (by omega),wn (b*d) (by omega),s32]
  simp only [← Int.natCast_add]
  rw [wn (a*d+b*d / 2^32) (by omega),s32,m32 _ (by omega)]
  simp only [← Int.natCast_add]
  rw [wn (a*c+(a*d+b*d / 2^32) / 2^32) (by omega),wn _ (by omega),s32]
  simp only [← Int.natCast_add]
  rw [← hhi,wn _ hlt]
  unfold M9 Jk
  rw [Ahp,Ahp,Ob]
  congr 3
theorem times.signed.known:times.signed.Kn:=times.signed.Ae (.cons soft.Ev.known .nil) fun b n hp=>by
  have hp:Ag b=true:=hp
  refine ⟨0,times.signed.out [.i b,.b n],[],?_,.int⟩
  rw [times.signed.ev,hp]
  cases n<;>rfl
theorem times.nan.known:times.nan.Kn:=times.nan.Ae (.cons soft.Kind.known .nil) fun a b hp=>by
  obtain ⟨ha,hb⟩:=Ad.1 hp
  refine ⟨0,times.nan.out [.i a,.i b],[],?_,.bool⟩
  rw [times.nan.ev,ha,hb,Ahn,Ahn]
  show _=some (DV.bool (decide (Az a=4)||decide (Az b=4)))
  by_cases h1:Az a=4
  · rw [h1]; rfl
  · have e1:(Az a==(4:Int))=false:=by simp; exact h1
    rw [e1,Ahs h1,Ahr]
    by_cases h2:Az b=4
    · rw [h2]; rfl
    · have e2:(Az b==(4:Int))=false:=by simp; exact h2
      rw [e2,Ahs h2]; rfl
theorem Ke {n:Nat} (h:Ap n≠0):(Ap n).log2≤52∧2^52≤Ap n*2^Bg n∧Ap n*2^Bg n<2^53∧Bg n≤52:=by
  have h1:=E7 n
  have h2:(Ap n).log2<53:=(Nat.log2_lt h).2 (by omega)
  have hz:=R1 (Ap n) (Bg n) h
  have hne:Ap n*2^Bg n≠0:=Ku h
  have hl:(Ap n*2^Bg n).log2=52:=by rw [hz]; unfold Bg; omega
  refine ⟨by omega,?_,?_,by unfold Bg; omega⟩
  · rw [← Nat.le_log2 hne]; omega
  · rw [← Nat.log2_lt hne]; omega
theorem times.norm.known:times.norm.Kn:=times.norm.Ae (.cons Bu.Bb.known (.cons soft.Eg.known .nil)) fun b hp=>by
  obtain ⟨h1,h2⟩:=Ad.1 hp
  obtain ⟨n,rfl,hn⟩:=Bj h1
  have h2:Ap n≠0:=Ar.1 h2
  obtain ⟨l1,l2,l3,l4⟩:=Ke h2
  have hM:=E7 n
  have hE:=Ek n
  refine ⟨0,times.norm.out [.i n],[],?_,Wk.Fl (.cons .int (.cons .int .nil))⟩
  show _=some (DV.tup [.int .u64 (Bv n),.int .i64 (Ff n)])
  have e1:A1 (n:Int)=(Ap n:Int):=rfl
  have e2:Ay (n:Int)=A2 n:=rfl
  have e3:Di (Ap n:Int)=((Ap n).log2:Int)+1:=by
    unfold Di
    rw [if_neg (by omega),Ahp]
  have e4:Ab ((64-(((Ap n).log2:Int)+1))-(11:Int))=((Bg n:Nat):Int):=by
    rw [Ak (by omega) (by omega)]; unfold Bg; omega
  rw [times.norm.ev,Bl hn,e1,e2,Bl (n:=Ap n) (by omega),e3,e4,D0 _ _ (by omega),Ah0 (by omega),Ak (by omega) (by omega),Aho (by omega)]
  rfl
theorem Acr {V t:Nat} {E:Int} (h0:V≠0) (h:V<2^t) (hE:E+t≤-1075):B0 V E=0∧flagsOf V E=3:=by
  have hl:V.log2<t:=(Nat.log2_lt h0).2 h
  have hL:C3 V E=-1074:=by unfold C3; omega
  obtain ⟨k,hk⟩:∃ k:Nat,(-1074-E).toNat=t+1+k:=⟨(-1074-E).toNat-t-1,by omega⟩
  have hp:2^(t+1)≤2^(t+1+k):=Ah2 (by decide) (by omega)
  have ht:2^(t+1)=2*2^t:=by rw [Nat.pow_succ]; omega
  have e2:(-(-1074-E)).toNat=0:=by omega
  have hr:Kb V (-1074-E)=0:=by
    unfold Kb Om
    rw [e2,hk,Nat.pow_zero,Nat.mul_one,Nat.div_eq_of_lt (by omega),Ah0 (by omega),if_neg (by omega)]
  have hru:B0 V E=0:=by
    unfold B0 kept
    rw [if_neg h0,hL,hr]
    simp
  refine ⟨hru,?_⟩
  unfold flagsOf exact Ju
  rw [if_neg h0,hru,hL,e2,hk,Nat.pow_zero,Nat.mul_one,Ah0 (by omega),Ahs h0]
  decide
theorem Abd (n:Bool) {m:Nat} {e:Int} (r:Bool) (hm:1<m) (he:e < -1130):Et n (m / 2) (e+1) (r||decide (m%2=1))=Et n m e r:=by
  have e1:(4*m+r.toNat) / 2^3=m / 2:=by cases r<;>simp<;>omega
  have e2:(r||decide (m%2=1))=decide ((4*m+r.toNat)%2^3≠0):=by
    rw [Ah3]
    cases r
    · simp; omega
    · simp; omega
  have:=Oz n (V:=4*m+r.toNat) (k:=3) (E:=e-2) (e:=e+1) (s:=r||decide (m%2=1)) (by omega) e2 (by omega) (.inr (by omega))
  rw [e1] at this
  exact this
theorem Oy (n:Bool) {e:Int} (r:Bool) (he:e < -1130):Et n 1 e r=Et n 0 (-1074) true:=by
  have h1:r.toNat≤1:=by cases r<;>decide
  obtain ⟨a1,a2⟩:=Acr (V:=4*1+r.toNat) (t:=3) (E:=e-2) (by omega) (by omega) (by omega)
  obtain ⟨b1,b2⟩:=Acr (V:=4*0+true.toNat) (t:=1) (E:=-1074-2) (by decide) (by decide) (by decide)
  unfold Et
  rw [a1,a2,b1,b2]
theorem Aae (N:Nat) (n:Bool):∀ (k m:Nat) (e:Int) (r:Bool),1≤m→m<2^62→m≤2^k→-7000≤e→e≤6000→(2^60≤m∨e≤-1130) →
    times.wide.L0 N (k+1) n (m:Int) e r=some (.tup [.int .u64 (((Et n m e r).1:Nat):Int),.int .u8 (((Et n m e r).2:Nat):Int)]):=by
  intro k
  induction k with
  | zero =>
    intro m e r h1 h2 h3 h4 h5 h6
    have hm:m=1:=by simp at h3; omega
    subst hm
    rw [times.wide.As,Aq,Aq]
    have c1:decide ((1:Int)<((1:Nat):Int))=false:=by decide
    rw [c1,Bool.and_false,Ahr]
    by_cases he:e < -1130
    · have hp:Cv (0:Int) (-1074:Int) true=true:=Ar.2 (by omega)
      rw [Aho he,Ahn,hp,Ahn,Oy n r he]
      rfl
    · have he:e=-1130:=by omega
      subst he
      have hp:Cv ((1:Nat):Int) (-1130:Int) r=true:=Ar.2 (by omega)
      rw [Ahs (by omega),Ahr,hp,Ahn]
      rfl
  | succ k ih =>
    intro m e r h1 h2 h3 h4 h5 h6
    rw [times.wide.As,Aq,Aq]
    by_cases he:e < -1130
    · by_cases hm:1<m
      · have c1:decide ((1:Int)<(m:Int))=true:=Aho (by omega)
        have e1:Cf .u64 (m:Int) (1:Int)=((m / 2:Nat):Int):=Fi .u64 m 1 (by decide)
        have e2:Eo .u64 (m:Int) (1:Int)=((m%2:Nat):Int):=F7 (a:=m) 1 (by omega) (by decide)
        have e3:(bif r then true else (Eo .u64 (m:Int) (1:Int))==(1:Int))=(r||decide (m%2=1)):=by
          rw [e2]
          cases r
          · rw [Ah3]; simp; omega
          · rfl
        rw [Aho he,c1,Aht,Ahn,e1,e3,Ak (by omega) (by omega)]
        have hk:m / 2≤2^k:=by rw [Nat.pow_succ] at h3; omega
        rw [ih (m / 2) (e+1) _ (by omega) (by omega) hk (by omega) (by omega) (.inr (by omega)),Abd n r hm he]
      · have hm:m=1:=by omega
        subst hm
        have c1:decide ((1:Int)<((1:Nat):Int))=false:=by decide
        have hp:Cv (0:Int) (-1074:Int) true=true:=Ar.2 (by omega)
        rw [c1,Bool.and_false,Ahr,Aho he,Ahn,hp,Ahn,Oy n r he]
        rfl
    · have hp:Cv (m:Int) e r=true:=Ar.2 ⟨by omega,by omega,by omega,.inl (by omega),fun _=>by omega⟩
      rw [Ahs he,Bool.false_and,Ahr,Ahr,hp,Ahn]
      rfl
theorem times.wide.known:times.wide.Kn:=times.wide.Ae (.cons soft.B9.known .nil) fun n m e r hp=>by
  obtain ⟨h1,h2,h3,h4⟩:=Ar.1 (show Kl m e=true from hp)
  obtain ⟨m,rfl⟩:∃ k:Nat,m=k:=⟨m.toNat,by omega⟩
  refine ⟨63,times.wide.out [.b n,.i m,.i e,.b r],[],?_,Wk.Fl (.cons .int (.cons .int .nil))⟩
  rw [times.wide.ev,Aae 63 n 62 m e r (by omega) (by omega) (by omega) (by omega) (by omega) (.inl (by omega))]
  rfl
open EqTimes
theorem Mk {b:Nat} (h0:Ao b≠0) (h3:Ao b≠3) (h4:Ao b≠4):Ap b≠0:=by
  have:=Jj b
  unfold Ao at h0 h3 h4
  unfold Ap
  by_cases h1:Gp b=2047
  · rw [if_pos h1] at h3 h4
    by_cases h2:F3 b=0
    · rw [if_pos h2] at h3; exact absurd rfl h3
    · rw [if_neg h2] at h4; exact absurd rfl h4
  · rw [if_neg h1] at h0
    by_cases h2:0<Gp b
    · rw [if_neg (by omega)]; omega
    · rw [if_neg h2] at h0
      by_cases h5:0<F3 b
      · rw [if_pos (by omega)]; omega
      · rw [if_neg h5] at h0; exact absurd rfl h0
theorem Tm {b:Nat} (h0:Ao b=0):Ap b=0:=by
  unfold Ao at h0
  unfold Ap
  by_cases h1:Gp b=2047
  · rw [if_pos h1] at h0; split at h0<;>omega
  · rw [if_neg h1] at h0
    by_cases h2:0<Gp b
    · rw [if_pos h2] at h0; omega
    · rw [if_neg h2] at h0
      by_cases h5:0<F3 b
      · rw [if_pos h5] at h0; omega
      · rw [if_pos (by omega)]; omega
theorem Yk {x y:Nat} (hx1:2^52≤x) (hx2:x<2^53) (hy1:2^52≤y) (hy2:y<2^53):2^104≤x*y∧x*y<2^106:=by
  have h1:=Nat.mul_le_mul hx1 hy1
  have h2:x*y<2^53*2^53:=Nat.mul_lt_mul'' hx2 hy2
  exact ⟨Nat.le_trans (by decide) h1,Nat.lt_of_lt_of_le h2 (by decide)⟩
theorem Af6 {V:Nat} (h:V<2^106):Gd .u64 (Be .u64 ((V / 18446744073709551616:Nat):Int) (20:Int)) (Cf .u64 ((V%18446744073709551616:Nat):Int) (44:Int))=((V / 2^44:Nat):Int):=by
  have e1:Be .u64 ((V / 18446744073709551616:Nat):Int) (20:Int)=((V / 18446744073709551616*2^20%2^64:Nat):Int):=D0 _ 20 (by decide)
  have e2:Cf .u64 ((V%18446744073709551616:Nat):Int) (44:Int)=((V%18446744073709551616 / 2^44:Nat):Int):=Fi .u64 _ 44 (by decide)
  rw [e1,e2,Ah0 (by omega),Jd (k:=20) (by omega) (by omega)]
  congr 1
  omega
theorem Af5 {V:Nat}:((Be .u64 ((V%18446744073709551616:Nat):Int) (20:Int)) !=(0:Int))=decide (V%2^44≠0):=by
  have e1:Be .u64 ((V%18446744073709551616:Nat):Int) (20:Int)=((V%18446744073709551616*2^20%2^64:Nat):Int):=D0 _ 20 (by decide)
  rw [e1,Ah3]
  simp only [bne_iff_ne,ne_eq,Ahu]
  omega
theorem Uv (s t:Bool):(!(s==t))=(s !=t):=rfl
theorem w53 {x:Nat} (h:x<2^53):Ag (x:Int)=true:=Bl (by omega)
theorem Agc (n:Bool) {a b:Nat} (ha:Ap a≠0) (hb:Ap b≠0) :
    (bif (Ag (Bv a)&&Ag (Bv b)) then
      bif (Kl (Gd .u64 (Be .u64 (M9 (Bv a) (Bv b)) (20:Int)) (Cf .u64 (Jk (Bv a) (Bv b)) (44:Int))) (Ab ((Ab ((Ff a)+(Ff b)))+(44:Int)))) then
        some (DV.tup [.int .u64 (Dh n (Gd .u64 (Be .u64 (M9 (Bv a) (Bv b)) (20:Int)) (Cf .u64 (Jk (Bv a) (Bv b)) (44:Int))) (Ab ((Ab ((Ff a)+(Ff b)))+(44:Int))) ((Be .u64 (Jk (Bv a) (Bv b)) (20:Int)) !=(0:Int))),.int .u8 (Dg n (Gd .u64 (Be .u64 (M9 (Bv a) (Bv b)) (20:Int)) (Cf .u64 (Jk (Bv a) (Bv b)) (44:Int))) (Ab ((Ab ((Ff a)+(Ff b)))+(44:Int))) ((Be .u64 (Jk (Bv a) (Bv b)) (20:Int)) !=(0:Int)))])
      else none
    else none)=some (.tup [.int .u64 ((B7 n (B0 (Ap a*Ap b) (A2 a+A2 b)):Nat):Int),.int .u8 ((flagsOf (Ap a*Ap b) (A2 a+A2 b):Nat):Int)]):=by
  obtain ⟨a1,a2,a3,a4⟩:=Ke ha
  obtain ⟨b1,b2,b3,b4⟩:=Ke hb
  have ea:=Ek a
  have eb:=Ek b
  have ma:Bv (a:Int)=((Ap a*2^Bg a:Nat):Int):=rfl
  have mb:Bv (b:Int)=((Ap b*2^Bg b:Nat):Int):=rfl
  have na:Ff (a:Int)=A2 a-Bg a:=rfl
  have nb:Ff (b:Int)=A2 b-Bg b:=rfl
  have hi:M9 (Bv a) (Bv b)=((Ap a*2^Bg a*(Ap b*2^Bg b) / 18446744073709551616:Nat):Int):=rfl
  have lo:Jk (Bv a) (Bv b)=((Ap a*2^Bg a*(Ap b*2^Bg b)%18446744073709551616:Nat):Int):=rfl
  rw [hi,lo,ma,mb,na,nb,w53 a3,w53 b3,Aht,Ahn]
  obtain ⟨v1,v2⟩:=Yk a2 a3 b2 b3
  have ev:Ap a*2^Bg a*(Ap b*2^Bg b)=Ap a*Ap b*2^(Bg a+Bg b):=by
    rw [Nat.mul_mul_mul_comm,← Nat.pow_add]
  obtain ⟨s1,s2⟩:=Dw (Ap a*Ap b) (Bg a+Bg b) (A2 a+A2 b)
  rw [← ev] at s1 s2
  generalize Ap a*2^Bg a*(Ap b*2^Bg b)=V at *
  rw [Af6 v2,Af5,Ak (x:=_+_) (by rw [Ak (by omega) (by omega)]; omega) (by rw [Ak (by omega) (by omega)]; omega),Ak (by omega) (by omega)]
  have hw:Kl ((V / 2^44:Nat):Int) (A2 a-Bg a+(A2 b-Bg b)+44)=true:=Ar.2 ⟨by omega,by omega,by omega,by omega⟩
  rw [hw,Ahn]
  unfold Dh Dg
  rw [Ahp,Oz n (V:=V) (k:=44) (E:=A2 a+A2 b-((Bg a+Bg b:Nat):Int)) (e:=A2 a-Bg a+(A2 b-Bg b)+44) (s:=decide (V%2^44≠0)) (by omega) rfl (by omega) (.inl (by omega)),s1,s2]
theorem kq (b k:Nat):(((Ao b:Nat):Int)==((k:Nat):Int))=decide (Ao b=k):=by
  rw [Ah3]; simp only [beq_iff_eq,Ahu]; omega
theorem Te (n:Bool) {r:Nat} (h:r<2^63):M6 n (r:Int)=((B7 n r:Nat):Int):=by
  unfold M6 B7 Cq
  cases n
  · rfl
  · simp only [if_true]
    rw [Ahp,Rx h]
theorem W6 (n:Bool):M6 n (9218868437227405312:Int)=((B7 n Gc:Nat):Int):=Te n (r:=Gc) (by decide)
theorem S7 (n:Bool):M6 n (0:Int)=((B7 n 0:Nat):Int):=Te n (r:=0) (by decide)
theorem Mp (b:Nat):Az (b:Int)=((Ao b:Nat):Int):=rfl
theorem Zu (a b:Nat):Adk (a:Int) (b:Int)=(decide (Ao a=4)||decide (Ao b=4)):=by
  unfold Adk Az
  simp only [Ahp]
  rw [Ah3]
  simp only [Bool.or_eq_true,Ahu]
  omega
theorem k3 (b:Nat):(((Ao b:Nat):Int)==(3:Int))=decide (Ao b=3):=kq b 3
theorem k0 (b:Nat):(((Ao b:Nat):Int)==(0:Int))=decide (Ao b=0):=kq b 0
theorem times.Mul.known:times.Mul.Kn:=times.Mul.Ae (.cons Bu.Fw.known (.cons soft.Kind.known (.cons soft.Sign.known (.cons times.nan.known (.cons times.norm.known (.cons times.signed.known (.cons times.wide.known .nil))))))) fun a b hp=>by
  obtain ⟨ha,hb⟩:=Ad.1 hp
  obtain ⟨a,rfl,hn⟩:=Bj ha
  obtain ⟨b,rfl,hm⟩:=Bj hb
  refine ⟨0,times.Mul.out [.i a,.i b],[],?_,Wk.Fl (.cons .int (.cons .int .nil))⟩
  have i1:Ag (9218868437227405312:Int)=true:=Bl (n:=9218868437227405312) (by decide)
  have i2:Ag (0:Int)=true:=Bl (n:=0) (by decide)
  rw [times.Mul.ev,ha,hb,Zu,Mp,Mp,k3,k3,k0,k0,i1,i2,W6,S7,Uv]
  show _=some (DV.tup [.int .u64 (((Sx a b).1:Nat):Int),.int .u8 (((Sx a b).2:Nat):Int)])
  have ea:Cy (a:Int)=Dn a:=rfl
  have eb:Cy (b:Int)=Dn b:=rfl
  rw [ea,eb]
  unfold Sx
  simp only [Aht,Ahn]
  by_cases h4:Ao a=4∨Ao b=4
  · have c4:(decide (Ao a=4)||decide (Ao b=4))=true:=by simp; exact h4
    rw [if_pos h4,c4,Ahn]; rfl
  · have c4:(decide (Ao a=4)||decide (Ao b=4))=false:=by simp; omega
    rw [if_neg h4,c4,Ahr]
    by_cases h3:Ao a=3∨Ao b=3
    · rw [if_pos h3]
      by_cases h0:Ao a=0∨Ao b=0
      · have c0:(decide (Ao a=3)&&decide (Ao b=0)||decide (Ao a=0)&&decide (Ao b=3))=true:=by simp; omega
        rw [if_pos h0,c0,Ahn]; rfl
      · have c0:(decide (Ao a=3)&&decide (Ao b=0)||decide (Ao a=0)&&decide (Ao b=3))=false:=by simp; omega
        have c3:(decide (Ao a=3)||decide (Ao b=3))=true:=by simp; omega
        rw [if_neg h0,c0,Ahr,c3,Ahn]; rfl
    · have c0:(decide (Ao a=3)&&decide (Ao b=0)||decide (Ao a=0)&&decide (Ao b=3))=false:=by simp; omega
      have c3:(decide (Ao a=3)||decide (Ao b=3))=false:=by simp; omega
      rw [if_neg h3,c0,Ahr,c3,Ahr]
      by_cases h0:Ao a=0∨Ao b=0
      · have c5:(decide (Ao a=0)||decide (Ao b=0))=true:=by simp; exact h0
        have hz:Ap a*Ap b=0:=by
          rcases h0 with h | h
          · rw [Tm h,Nat.zero_mul]
          · rw [Tm h,Nat.mul_zero]
        rw [c5,Ahn,hz,Tg,O6]; rfl
      · have c5:(decide (Ao a=0)||decide (Ao b=0))=false:=by simp; omega
        have pa:=Mk (b:=a) (by omega) (by omega) (by omega)
        have pb:=Mk (b:=b) (by omega) (by omega) (by omega)
        have na:Ir (a:Int)=true:=Ar.2 pa
        have nb:Ir (b:Int)=true:=Ar.2 pb
        rw [c5,Ahr,na,nb,Aht,Ahn,Ahn]
        exact Agc _ pa pb
theorem Aen (N:Nat) {a b:Nat} {X Y:Nat} (hY:0<Y) (hY2:Y<2^53) (hX:X<2*Y) (em:Bv (b:Int)=(Y:Int)):∀ (k i:Nat),k+i=61 →
    times.Div.L0 N (k+1) a b ((X*2^i / Y:Nat):Int) ((X*2^i%Y:Nat):Int) (i:Int) =
      times.Div.L0 N 1 a b ((X*2^61 / Y:Nat):Int) ((X*2^61%Y:Nat):Int) (61:Int):=by
  intro k
  induction k with
  | zero =>
    intro i hi
    have:i=61:=by omega
    subst this
    rfl
  | succ k ih =>
    intro i hi
    have hq:X*2^i / Y<2^62:=by
      rw [Nat.div_lt_iff_lt_mul hY]
      have h1:X*2^i<2*Y*2^i:=(Nat.mul_lt_mul_right (Cj i)).2 hX
      have h2:2*2^i≤2^62:=by
        rw [Nat.mul_comm,← Nat.pow_succ]; exact Ah2 (by decide) (by omega)
      have h3:2*2^i*Y≤2^62*Y:=Ahz _ h2
      rw [Nat.mul_right_comm] at h1
      omega
    have hr:X*2^i%Y<Y:=Nat.mod_lt _ hY
    have hd:=Nat.div_add_mod (X*2^i) Y
    have e2:X*2^(i+1)=X*2^i*2:=by rw [Nat.pow_succ,Nat.mul_assoc]
    rw [times.Div.As,Aq,F2,em,Aho (by omega),Ahn]
    have s1:Be .u64 ((X*2^i%Y:Nat):Int) (1:Int)=((X*2^i%Y*2:Nat):Int):=by
      have:=D0 (X*2^i%Y) 1 (by decide)
      rw [Ah0 (a:=X*2^i%Y*2^1) (by omega)] at this
      exact this
    have s2:Be .u64 ((X*2^i / Y:Nat):Int) (1:Int)=((X*2^i / Y*2^1:Nat):Int):=by
      have:=D0 (X*2^i / Y) 1 (by decide)
      rw [Ah0 (a:=X*2^i / Y*2^1) (by omega)] at this
      exact this
    have s3:Gd .u64 ((X*2^i / Y*2^1:Nat):Int) (1:Int)=((X*2^i / Y*2^1+1:Nat):Int):=Jd (k:=1) (b:=1) (by decide) (by omega)
    have ei:Ab ((i:Int)+1)=((i+1:Nat):Int):=by rw [Ak (by omega) (by omega)]; rfl
    rw [s1,s2,s3,ei]
    generalize hq':X*2^i / Y=q at *
    generalize hr':X*2^i%Y=r at *
    have step:∀ c,X*2^i*2=Y*(2*q+c)+(2*r-c*Y)→c*Y≤2*r→2*r<c*Y+Y→X*2^(i+1) / Y=2*q+c∧X*2^(i+1)%Y=2*r-c*Y:=fun c h1 h2 h3=>by
      rw [e2,h1]
      constructor
      · rw [Nat.mul_add_div hY,Nat.div_eq_of_lt (by omega)]; omega
      · rw [Nat.mul_add_mod,Ah0 (by omega)]
    by_cases hc:Y≤r*2
    · obtain ⟨t1,t2⟩:=step 1 (by rw [Nat.mul_add,Nat.mul_one,Nat.mul_left_comm]; omega) (by omega) (by omega)
      have:=ih (i+1) (by omega)
      rw [t1,t2] at this
      rw [Aho (by omega),Ahn,Gf (by omega) (by omega)]
      have e3:((r*2:Nat):Int)-(Y:Int)=((2*r-1*Y:Nat):Int):=by omega
      have e4:q*2^1+1=2*q+1:=by omega
      rw [e3,e4]
      exact this
    · obtain ⟨t1,t2⟩:=step 0 (by rw [Nat.add_zero,Nat.mul_left_comm]; omega) (by omega) (by omega)
      have:=ih (i+1) (by omega)
      rw [t1,t2] at this
      rw [Ahs (by omega),Ahr]
      have e3:r*2=2*r-0*Y:=by omega
      have e4:q*2^1=2*q+0:=by omega
      rw [e3,e4]
      exact this
theorem Ag1 {a b:Nat} (ha:Ap a≠0) (hb:Ap b≠0) :
    times.Div.L0 62 62 a b (Bx (Int.tdiv (Bv a) (Bv b))) (Int.tmod (Bv a) (Bv b)) (0:Int) =
      some (.tup [.int .u64 ((B7 (Dn a !=Dn b) (B0 (E2 (Ap a) (Ap b) 120) (A2 a-A2 b-121)):Nat):Int),.int .u8 ((flagsOf (E2 (Ap a) (Ap b) 120) (A2 a-A2 b-121):Nat):Int)]):=by
  obtain ⟨a1,a2,a3,a4⟩:=Ke ha
  obtain ⟨b1,b2,b3,b4⟩:=Ke hb
  have ea:=Ek a
  have eb:=Ek b
  have ma:Bv (a:Int)=((Ap a*2^Bg a:Nat):Int):=rfl
  have mb:Bv (b:Int)=((Ap b*2^Bg b:Nat):Int):=rfl
  have na:Ff (a:Int)=A2 a-Bg a:=rfl
  have nb:Ff (b:Int)=A2 b-Bg b:=rfl
  have sL:=X2 (Ap a) (Ap b*2^Bg b) (Bg a) 61
  have hpos:0<Ap b*2^Bg b:=by omega
  have hq1:2^53≤Ap a*2^Bg a*2^61 / (Ap b*2^Bg b):=by
    rw [Nat.le_div_iff_mul_le hpos]; omega
  have hqq:2^60≤Ap a*2^Bg a*2^61 / (Ap b*2^Bg b):=by
    rw [Nat.le_div_iff_mul_le hpos]; omega
  have hq2:Ap a*2^Bg a*2^61 / (Ap b*2^Bg b)<2^62:=by
    rw [Nat.div_lt_iff_lt_mul hpos]; omega
  have hstick:E2 (Ap a*2^Bg a) (Ap b*2^Bg b) 61=E2 (Ap a) (Ap b) (61+Bg a-Bg b):=by
    rw [sL]
    have:61+Bg a=61+Bg a-Bg b+Bg b:=by omega
    conv=>lhs; rw [this]
    rw [V8]
  have hge1:2^53≤Ap a*2^(61+Bg a-Bg b) / Ap b:=by
    have e1:Ap a*2^Bg a*2^61=Ap a*2^(61+Bg a-Bg b)*2^Bg b:=by
      rw [Nat.mul_assoc,← Nat.pow_add,Nat.mul_assoc,← Nat.pow_add]
      congr 2
      omega
    rw [e1,Nat.mul_div_mul_right _ _ (Cj _)] at hq1
    exact hq1
  have hge2:2^53≤Ap a*2^120 / Ap b:=quo_ge (t:=53) (by omega) (by omega) (by have:=E7 b; omega) (by omega)
  obtain ⟨s1,s2⟩:=X1 (X:=Ap a) (Y:=Ap b) (K:=61+Bg a-Bg b) (L:=120) (E:=A2 a-Bg a-(A2 b-Bg b)-61-1) (F:=A2 a-A2 b-121) (by omega) hge1 hge2 (by omega)
  have d1:Bx (Int.tdiv (Bv a) (Bv b))=((Ap a*2^Bg a*2^0 / (Ap b*2^Bg b):Nat):Int):=by
    rw [ma,mb,V6,Nat.pow_zero,Nat.mul_one]
    have h1:=Nat.div_le_self (Ap a*2^Bg a) (Ap b*2^Bg b)
    have h2:Ap a*2^Bg a / (Ap b*2^Bg b)<2^64:=Nat.lt_of_le_of_lt h1 (Nat.lt_trans a3 (by decide))
    generalize Ap a*2^Bg a / (Ap b*2^Bg b)=q at h2 ⊢
    exact Gf (Int.natCast_nonneg q) (by omega)
  have d2:Int.tmod (Bv a) (Bv b)=((Ap a*2^Bg a*2^0%(Ap b*2^Bg b):Nat):Int):=by
    rw [ma,mb,V5,Nat.pow_zero,Nat.mul_one]
  rw [d1,d2]
  have lp:=Aen 62 (a:=a) (b:=b) hpos b3 (X:=Ap a*2^Bg a) (by omega) mb 61 0 (by omega)
  refine lp.trans ?_
  rw [times.Div.As,Aq,na,nb,Ahs (by omega),Ahr]
  have we:Ab (Ab (A2 a-Bg a-(A2 b-Bg b))-61)=A2 a-Bg a-(A2 b-Bg b)-61:=by
    rw [Ak (x:=A2 a-Bg a-(A2 b-Bg b)) (by omega) (by omega),Ak (by omega) (by omega)]
  have hne:(((Ap a*2^Bg a*2^61%(Ap b*2^Bg b):Nat):Int) !=(0:Int))=decide (Ap a*2^Bg a*2^61%(Ap b*2^Bg b)≠0):=by
    rw [Ah3]; simp only [bne_iff_ne,ne_eq,Ahu]; omega
  rw [we,hne]
  have hw:Kl ((Ap a*2^Bg a*2^61 / (Ap b*2^Bg b):Nat):Int) (A2 a-Bg a-(A2 b-Bg b)-61)=true:=Ar.2 ⟨by omega,by omega,by omega,by omega⟩
  have hn:Cy (a:Int)=Dn a:=rfl
  have hn':Cy (b:Int)=Dn b:=rfl
  rw [hw,Ahn,Uv,hn,hn']
  unfold Dh Dg
  rw [Ahp,Abf _ rfl rfl hq1,hstick,s1,s2]
theorem times.Div.known:times.Div.Kn:=times.Div.Ae (.cons soft.Kind.known (.cons soft.Sign.known (.cons times.nan.known (.cons times.norm.known (.cons times.signed.known (.cons times.wide.known .nil)))))) fun a b hp=>by
  obtain ⟨ha,hb⟩:=Ad.1 hp
  obtain ⟨a,rfl,hn⟩:=Bj ha
  obtain ⟨b,rfl,hm⟩:=Bj hb
  refine ⟨62,times.Div.out [.i a,.i b],[],?_,Wk.Fl (.cons .int (.cons .int .nil))⟩
  have i1:Ag (9218868437227405312:Int)=true:=Bl (n:=9218868437227405312) (by decide)
  have i2:Ag (0:Int)=true:=Bl (n:=0) (by decide)
  rw [times.Div.ev,ha,hb,Zu,Mp,Mp,k3,k3,k0,k0,i1,i2,W6,S7,Uv]
  show _=some (DV.tup [.int .u64 (((Y0 a b).1:Nat):Int),.int .u8 (((Y0 a b).2:Nat):Int)])
  have ea:Cy (a:Int)=Dn a:=rfl
  have eb:Cy (b:Int)=Dn b:=rfl
  rw [ea,eb]
  unfold Y0
  rw [Aht,Ahn,Ahn,Ahn,Ahn,Ahn]
  by_cases h4:Ao a=4∨Ao b=4
  · have c4:(decide (Ao a=4)||decide (Ao b=4))=true:=by simp; exact h4
    rw [if_pos h4,c4,Ahn]; rfl
  · have c4:(decide (Ao a=4)||decide (Ao b=4))=false:=by simp; omega
    rw [if_neg h4,c4,Ahr]
    by_cases h1:Ao a=Ao b∧(Ao a=3∨Ao a=0)
    · have c1:(decide (Ao a=3)&&decide (Ao b=3)||decide (Ao a=0)&&decide (Ao b=0))=true:=by simp; omega
      rw [if_pos h1,c1,Ahn]; rfl
    · have c1:(decide (Ao a=3)&&decide (Ao b=3)||decide (Ao a=0)&&decide (Ao b=0))=false:=by simp; omega
      rw [if_neg h1,c1,Ahr]
      by_cases h2:Ao a=3
      · rw [if_pos h2,Aho h2,Ahn]; rfl
      · rw [if_neg h2,Ahs h2,Ahr]
        by_cases h3:Ao b=3∨Ao a=0
        · have c3:(decide (Ao b=3)||decide (Ao a=0))=true:=by simp; exact h3
          rw [if_pos h3,c3,Ahn]; rfl
        · have c3:(decide (Ao b=3)||decide (Ao a=0))=false:=by simp; omega
          rw [if_neg h3,c3,Ahr]
          by_cases h5:Ao b=0
          · rw [if_pos h5,Aho h5,Ahn]; rfl
          · rw [if_neg h5,Ahs h5,Ahr]
            have pa:=Mk (b:=a) (by omega) (by omega) (by omega)
            have pb:=Mk (b:=b) (by omega) (by omega) (by omega)
            have na:Ir (a:Int)=true:=Ar.2 pa
            have nb:Ir (b:Int)=true:=Ar.2 pb
            have hnb:(Bv (b:Int) !=0)=true:=by
              obtain ⟨_,l2,_,_⟩:=Ke pb
              have mb:Bv (b:Int)=((Ap b*2^Bg b:Nat):Int):=rfl
              rw [mb]
              simp only [bne_iff_ne,ne_eq]
              omega
            rw [na,nb,hnb,Aht,Ahn,Ahn,Ahn,Ahn,Ag1 pa pb]
namespace EqVec
def Ac.Add.A8:List (Nat × Entry):=[(71,sum.Add.spec)]
def Ac.Add.E:Env:=Ba (A6 Ac.Add.A8) (fun _=>false) (fun _=>none) (fun _=>none)
theorem Ac.Add.ev (N:Nat) (a b:Int):Bo Ac.Add.E N Try.f60 (An Try.f60) [.int .u64 a,.int .u64 b]=bif (Ag a&&Ag b) then some (.int .u64 (Il a b)) else none:=by kernel_rfl
abbrev _root_.Go.Proofs.S1.Ac.Add.Kn:=A4 Try.prog 60 Ac.Add.spec
theorem Ac.Add.Ae (hk:Av Try.prog Ac.Add.A8) (h:∀ (a b:Int),Ac.Add.pre [.i a,.i b]=true→Bd Ac.Add.E Try.f60 [.int .u64 a,.int .u64 b] (Ac.Add.out [.i a,.i b])):Ac.Add.Kn :=
  Aj (Ax hk _ _ _) Try.func60 (by kernel_rfl) (by kernel_rfl) h
def Ac.Sub.A8:List (Nat × Entry):=[(62,sum.Sub.spec)]
def Ac.Sub.E:Env:=Ba (A6 Ac.Sub.A8) (fun _=>false) (fun _=>none) (fun _=>none)
theorem Ac.Sub.ev (N:Nat) (a b:Int):Bo Ac.Sub.E N Try.f39 (An Try.f39) [.int .u64 a,.int .u64 b]=bif (Ag a&&Ag b) then some (.int .u64 (C0 a b)) else none:=by kernel_rfl
abbrev _root_.Go.Proofs.S1.Ac.Sub.Kn:=A4 Try.prog 39 Ac.Sub.spec
theorem Ac.Sub.Ae (hk:Av Try.prog Ac.Sub.A8) (h:∀ (a b:Int),Ac.Sub.pre [.i a,.i b]=true→Bd Ac.Sub.E Try.f39 [.int .u64 a,.int .u64 b] (Ac.Sub.out [.i a,.i b])):Ac.Sub.Kn :=
  Aj (Ax hk _ _ _) Try.func39 (by kernel_rfl) (by kernel_rfl) h
def Ac.Mul.A8:List (Nat × Entry):=[(72,times.Mul.spec)]
def Ac.Mul.E:Env:=Ba (A6 Ac.Mul.A8) (fun _=>false) (fun _=>none) (fun _=>none)
theorem Ac.Mul.ev (N:Nat) (a b:Int):Bo Ac.Mul.E N Try.f61 (An Try.f61) [.int .u64 a,.int .u64 b]=bif (Ag a&&Ag b) then some (.int .u64 (Dz a b)) else none:=by kernel_rfl
abbrev _root_.Go.Proofs.S1.Ac.Mul.Kn:=A4 Try.prog 61 Ac.Mul.spec
theorem Ac.Mul.Ae (hk:Av Try.prog Ac.Mul.A8) (h:∀ (a b:Int),Ac.Mul.pre [.i a,.i b]=true→Bd Ac.Mul.E Try.f61 [.int .u64 a,.int .u64 b] (Ac.Mul.out [.i a,.i b])):Ac.Mul.Kn :=
  Aj (Ax hk _ _ _) Try.func61 (by kernel_rfl) (by kernel_rfl) h
def Ac.fit.A8:List (Nat × Entry):=[]
def Ac.fit.E:Env:=Ba (A6 Ac.fit.A8) (fun _=>false) (fun _=>none) (fun _=>none)
theorem Ac.fit.ev (N:Nat) (x y:List Int):Bo Ac.fit.E N Try.f59 (An Try.f59) [.ints .arg .u64 x,.ints .arg .u64 y]=some (.bool (bif ((List.length x:Int)==(List.length y:Int)) then (Dt (List.length x:Int) 64) else false)) :=
  Eq.trans (by kernel_rfl)
  (Am (Su ((List.length x:Int)==(List.length y:Int))) (Am (Qz ((List.length x:Int)==(List.length y:Int))) (Am (Qz ((List.length x:Int)==(List.length y:Int))) (Am (Vw ((List.length x:Int)==(List.length y:Int))) rfl))))
abbrev _root_.Go.Proofs.S1.Ac.fit.Kn:=A4 Try.prog 59 Ac.fit.spec
theorem Ac.fit.Ae (hk:Av Try.prog Ac.fit.A8) (h:∀ (x y:List Int),Ac.fit.pre [.l x,.l y]=true→Bd Ac.fit.E Try.f59 [.ints .arg .u64 x,.ints .arg .u64 y] (Ac.fit.out [.l x,.l y])):Ac.fit.Kn :=
  Aj (Ax hk _ _ _) Try.func59 (by kernel_rfl) (by kernel_rfl) h
def Ac.Lf.hint:Nat→Option A0
  | 0=>some { keep:=[0,1,6,13,14],objs:=[],boxes:=[] }
  | _=>none
def Ac.Lf.A8:List (Nat × Entry):=[(60,Ac.Add.spec),(61,Ac.Mul.spec),(59,Ac.fit.spec)]
def Ac.Lf.E:Env:=Ba (A6 Ac.Lf.A8) (fun _=>false) Ac.Lf.hint (fun _=>none)
def Ac.Lf.L0 (N M:Nat) (x y:List Int) (p6 p14:Int):Option DV:=B3 Ac.Lf.E N Try.f33 (An Try.f33) [1,1,1,0,1,0] [] M ⟨Gy 30 [(0,.ints .arg .u64 x),(1,.ints .arg .u64 y),(6,.int .u64 p6),(13,.int .i64 (List.length x:Int)),(14,.int .i64 p14)],[]⟩
theorem Ac.Lf.As (N M:Nat) (x y:List Int) (p6 p14:Int):Ac.Lf.L0 N (M+1) x y p6 p14=bif (Au p14 (List.length x:Int)) then bif ((decide (0≤p14))&&(decide (p14<(List.length x:Int)))) then bif ((decide (0≤p14))&&(decide (p14<(List.length y:Int)))) then bif (Ag (List.getD x (Int.toNat p14) 0)&&Ag (List.getD y (Int.toNat p14) 0)) then bif (Ag p6&&Ag (Dz (List.getD x (Int.toNat p14) 0) (List.getD y (Int.toNat p14) 0))) then Ac.Lf.L0 N M x y (Il p6 (Dz (List.getD x (Int.toNat p14) 0) (List.getD y (Int.toNat p14) 0))) (Ab (p14+1)) else none else none else none else none else some (.tup [.int .u64 p6,.int .i64 0]) :=
  Eq.trans (by kernel_rfl)
  (Ew (Dp (Nk (decide (0≤p14)) (decide (p14<(List.length x:Int)))) (Dp (Nk (decide (0≤p14)) (decide (p14<(List.length y:Int)))) (Dp (Eh (Ag (List.getD x (Int.toNat p14) 0)&&Ag (List.getD y (Int.toNat p14) 0))) (Dp (Eh (Ag p6&&Ag (Dz (List.getD x (Int.toNat p14) 0) (List.getD y (Int.toNat p14) 0)))) rfl rfl) rfl) rfl) rfl) rfl)
theorem Ac.Lf.ev (N:Nat) (x y:List Int):Bo Ac.Lf.E N Try.f33 (An Try.f33) [.ints .arg .u64 x,.ints .arg .u64 y]=bif (!(P0 x y)) then some (.tup [.int .u64 0,.int .i64 3]) else Ac.Lf.L0 N N x y 0 0:=by kernel_rfl
abbrev _root_.Go.Proofs.S1.Ac.Lf.Kn:=A4 Try.prog 33 Ac.Lf.spec
theorem Ac.Lf.Ae (hk:Av Try.prog Ac.Lf.A8) (h:∀ (x y:List Int),Ac.Lf.pre [.l x,.l y]=true→Bd Ac.Lf.E Try.f33 [.ints .arg .u64 x,.ints .arg .u64 y] (Ac.Lf.out [.l x,.l y])):Ac.Lf.Kn :=
  Aj (Ax hk _ _ _) Try.func33 (by kernel_rfl) (by kernel_rfl) h
end EqVec
open Go Go.Den Go.Rnd Go.Proofs Ieee
open EqVec
theorem Ac.Add.known:Ac.Add.Kn:=Ac.Add.Ae (.cons sum.Add.known .nil) fun a b hp=>by
  have hp:(Ag a&&Ag b)=true:=hp
  refine ⟨0,Ac.Add.out [.i a,.i b],[],?_,.int⟩
  rw [Ac.Add.ev,hp]; rfl
theorem Ac.Sub.known:Ac.Sub.Kn:=Ac.Sub.Ae (.cons sum.Sub.known .nil) fun a b hp=>by
  have hp:(Ag a&&Ag b)=true:=hp
  refine ⟨0,Ac.Sub.out [.i a,.i b],[],?_,.int⟩
  rw [Ac.Sub.ev,hp]; rfl
theorem Ac.Mul.known:Ac.Mul.Kn:=Ac.Mul.Ae (.cons times.Mul.known .nil) fun a b hp=>by
  have hp:(Ag a&&Ag b)=true:=hp
  refine ⟨0,Ac.Mul.out [.i a,.i b],[],?_,.int⟩
  rw [Ac.Mul.ev,hp]; rfl
theorem Aec (x y:List Int):(bif ((List.length x:Int)==(List.length y:Int)) then (Dt (List.length x:Int) (64:Int)) else false)=P0 x y:=by
  unfold P0
  rw [F2,Ah3]
  by_cases h:x.length=y.length
  · have:((x.length:Int)==(y.length:Int))=true:=by rw [beq_iff_eq]; omega
    rw [this,Ahn,Aho h,Bool.true_and,Ahu,Ahu]; omega
  · have:((x.length:Int)==(y.length:Int))=false:=by rw [beq_eq_false_iff_ne]; omega
    rw [this,Ahr,Ahs h,Bool.false_and]
theorem Ac.fit.known:Ac.fit.Kn:=Ac.fit.Ae .nil fun x y _=>by
  refine ⟨0,Ac.fit.out [.l x,.l y],[],?_,.bool⟩
  rw [Ac.fit.ev,Aec]; rfl
theorem U8 {x y:List Int}:P0 x y=true↔x.length=y.length∧x.length≤64:=by unfold P0; simp
theorem Xg {l:List Int} {i:Nat} (h:i<l.length):l.drop i=l.getD i 0::l.drop (i+1):=by
  rw [List.drop_eq_getElem_cons h,Ahx,Ah4 h]; rfl
theorem Ael {x y:List Int} {i:Nat} (s:Nat) (hx:i<x.length) (hy:i<y.length) :
    Xi s (x.drop i) (y.drop i)=Xi (Ma s (Sx (x.getD i 0).toNat (y.getD i 0).toNat).1).1 (x.drop (i+1)) (y.drop (i+1)):=by
  rw [Xg hx,Xg hy]; rfl
theorem Aem (N:Nat) {x y:List Int} (hf:P0 x y=true) (hx:Af x=true) (hy:Af y=true):∀ (k i F s:Nat),i+k=x.length→k<F→s<2^64 →
    Ac.Lf.L0 N F x y (s:Int) (i:Int)=some (.tup [.int .u64 ((Xi s (x.drop i) (y.drop i):Nat):Int),.int .i64 (0:Int)]):=by
  obtain ⟨h1,h2⟩:=U8.1 hf
  intro k
  induction k with
  | zero =>
    intro i F s hi hF hs
    obtain ⟨F,rfl⟩:∃ G,F=G+1:=⟨F-1,by omega⟩
    rw [Ac.Lf.As,Aq,Ahs (by omega),Ahr,Ah1 (by omega)]
    rfl
  | succ k ih =>
    intro i F s hi hF hs
    obtain ⟨F,rfl⟩:∃ G,F=G+1:=⟨F-1,by omega⟩
    have c1:decide ((i:Int)<(x.length:Int))=true:=Aho (by omega)
    have c2:decide ((i:Int)<(y.length:Int))=true:=Aho (by omega)
    have c3:decide ((0:Int)≤(i:Int))=true:=Aho (by omega)
    have g1:=Vq hx (show i<x.length by omega)
    have g2:=Vq hy (show i<y.length by omega)
    have em:Dz (x.getD i 0) (y.getD i 0)=(((Sx (x.getD i 0).toNat (y.getD i 0).toNat).1:Nat):Int):=rfl
    have ea:∀ t:Nat,Il (s:Int) (t:Int)=(((Ma s t).1:Nat):Int):=fun t=>rfl
    rw [Ac.Lf.As,Aq,c1,c2,c3,Ahp,g1,g2,em,ea,Bl hs,Bl Q5,Aht,Ahn,Ahn,Ahn,Ahn,Ahn,Ak (by omega) (by omega),Ael s (by omega) (by omega)]
    exact ih (i+1) F _ (by omega) (by omega) (Rb hs Q5).1
theorem Ac.Lf.known:Ac.Lf.Kn:=Ac.Lf.Ae (.cons Ac.Add.known (.cons Ac.Mul.known (.cons Ac.fit.known .nil))) fun x y hp=>by
  obtain ⟨h1,hy⟩:=Ad.1 hp
  obtain ⟨hf,hx⟩:=Ad.1 h1
  refine ⟨x.length+1,Ac.Lf.out [.l x,.l y],[],?_,Wk.Fl (.cons .int (.cons .int .nil))⟩
  rw [Ac.Lf.ev,hf,Bool.not_true,Ahr]
  exact Aem _ hf hx hy x.length 0 _ 0 (by omega) (by omega) (by decide)
namespace EqMat
def Aa.size.A8:List (Nat × Entry):=[]
def Aa.size.E:Env:=Ba (A6 Aa.size.A8) (fun _=>false) (fun _=>none) (fun _=>none)
theorem Aa.size.ev (N:Nat) (n:Int):Bo Aa.size.E N Try.f23 (An Try.f23) [.int .i64 n]=some (.bool (bif (Dt 0 n) then (Dt n 6) else false)) :=
  Eq.trans (by kernel_rfl)
  (Am (Su (Dt 0 n)) (Am (Qz (Dt 0 n)) (Am (Vw (Dt 0 n)) rfl)))
abbrev _root_.Go.Proofs.S1.Aa.size.Kn:=A4 Try.prog 23 Aa.size.spec
theorem Aa.size.Ae (hk:Av Try.prog Aa.size.A8) (h:∀ (n:Int),Aa.size.pre [.i n]=true→Bd Aa.size.E Try.f23 [.int .i64 n] (Aa.size.out [.i n])):Aa.size.Kn :=
  Aj (Ax hk _ _ _) Try.func23 (by kernel_rfl) (by kernel_rfl) h
def Aa.Check.A8:List (Nat × Entry):=[(23,Aa.size.spec)]
def Aa.Check.E:Env:=Ba (A6 Aa.Check.A8) (fun _=>false) (fun _=>none) (fun _=>none)
theorem Aa.Check.ev (N:Nat) (r c:Int) (l:List Int):Bo Aa.Check.E N Try.f12 (An Try.f12) [.agg [.int .i64 r,.int .i64 c,.ints .arg .u64 l]]=bif (((!(A7 r))||(!(A7 c)))||((List.length l:Int) !=(Ab (r*c)))) then some (.int .i64 1) else some (.int .i64 0) :=
  Eq.trans (by kernel_rfl)
  (Am (Aak (A7 r)) (Am (Rd (A7 r)) (Am (Rd (A7 r)) (Am (Rd (A7 r)) (Am (Aal (A7 r)) (Am (tt42 (A7 r) (A7 c)) (Am (Afr (A7 r) (A7 c)) (Am (Afr (A7 r) (A7 c)) (Am (tt42 (A7 r) (A7 c)) (Am (Afr (A7 r) (A7 c)) (Am (tt42 (A7 r) (A7 c)) (Am (Afr (A7 r) (A7 c)) (Am (tt40 (A7 r) (A7 c)) (Am (tt40 (A7 r) (A7 c)) (Am (tt39 (A7 r) (A7 c)) (Dp (tt38 (A7 r) (A7 c) ((List.length l:Int) !=(Ab (r*c)))) rfl rfl))))))))))))))))
abbrev _root_.Go.Proofs.S1.Aa.Check.Kn:=A4 Try.prog 12 Aa.Check.spec
theorem Aa.Check.Ae (hk:Av Try.prog Aa.Check.A8) (h:∀ (r c:Int) (l:List Int),Aa.Check.pre [.i r,.i c,.l l]=true→Bd Aa.Check.E Try.f12 [.agg [.int .i64 r,.int .i64 c,.ints .arg .u64 l]] (Aa.Check.out [.i r,.i c,.l l])):Aa.Check.Kn :=
  Aj (Ax hk _ _ _) Try.func12 (by kernel_rfl) (by kernel_rfl) h
def Aa.get.A8:List (Nat × Entry):=[]
def Aa.get.E:Env:=Ba (A6 Aa.get.A8) (fun _=>false) (fun _=>none) (fun _=>none)
theorem Aa.get.ev (N:Nat) (r c:Int) (l:List Int) (i k:Int):Bo Aa.get.E N Try.f37 (An Try.f37) [.agg [.int .i64 r,.int .i64 c,.ints .arg .u64 l],.int .i64 i,.int .i64 k]=bif ((decide (0≤(Ab ((Ab (i*c))+k))))&&(decide ((Ab ((Ab (i*c))+k))<(List.length l:Int)))) then some (.int .u64 (List.getD l (Int.toNat (Ab ((Ab (i*c))+k))) 0)) else none:=by kernel_rfl
abbrev _root_.Go.Proofs.S1.Aa.get.Kn:=A4 Try.prog 37 Aa.get.spec
theorem Aa.get.Ae (hk:Av Try.prog Aa.get.A8) (h:∀ (r c:Int) (l:List Int) (i k:Int),Aa.get.pre [.i r,.i c,.l l,.i i,.i k]=true→Bd Aa.get.E Try.f37 [.agg [.int .i64 r,.int .i64 c,.ints .arg .u64 l],.int .i64 i,.int .i64 k] (Aa.get.out [.i r,.i c,.l l,.i i,.i k])):Aa.get.Kn :=
  Aj (Ax hk _ _ _) Try.func37 (by kernel_rfl) (by kernel_rfl) h
def Aa.two.A8:List (Nat × Entry):=[(12,Aa.Check.spec)]
def Aa.two.E:Env:=Ba (A6 Aa.two.A8) (fun _=>false) (fun _=>none) (fun _=>none)
theorem Aa.two.ev (N:Nat) (r c:Int) (l:List Int) (p q:Int) (m:List Int):Bo Aa.two.E N Try.f30 (An Try.f30) [.agg [.int .i64 r,.int .i64 c,.ints .arg .u64 l],.agg [.int .i64 p,.int .i64 q,.ints .arg .u64 m]]=bif (((Hp r c l) !=(0:Int))||((Hp p q m) !=(0:Int))) then some (.int .i64 1) else some (.int .i64 0) :=
  Eq.trans (by kernel_rfl)
  (Am (Qb ((Hp r c l) !=(0:Int))) (Am (Mu ((Hp r c l) !=(0:Int))) (Am (Mu ((Hp r c l) !=(0:Int))) (Am (Vv ((Hp r c l) !=(0:Int))) (Dp (tt5 ((Hp r c l) !=(0:Int)) ((Hp p q m) !=(0:Int))) rfl rfl)))))
abbrev _root_.Go.Proofs.S1.Aa.two.Kn:=A4 Try.prog 30 Aa.two.spec
theorem Aa.two.Ae (hk:Av Try.prog Aa.two.A8) (h:∀ (r c:Int) (l:List Int) (p q:Int) (m:List Int),Aa.two.pre [.i r,.i c,.l l,.i p,.i q,.l m]=true→Bd Aa.two.E Try.f30 [.agg [.int .i64 r,.int .i64 c,.ints .arg .u64 l],.agg [.int .i64 p,.int .i64 q,.ints .arg .u64 m]] (Aa.two.out [.i r,.i c,.l l,.i p,.i q,.l m])):Aa.two.Kn :=
  Aj (Ax hk _ _ _) Try.func30 (by kernel_rfl) (by kernel_rfl) h
def Aa.Row.A8:List (Nat × Entry):=[]
def Aa.Row.E:Env:=Ba (A6 Aa.Row.A8) (fun _=>false) (fun _=>none) (fun _=>none)
theorem Aa.Row.ev (N:Nat) (r c:Int) (l:List Int) (i f:Int):Bo Aa.Row.E N Try.f34 (An Try.f34) [.agg [.int .i64 r,.int .i64 c,.ints .arg .u64 l],.int .i64 i,.int .i64 f]=bif (((decide ((0:Int)≤(Ab ((Ab (i*c))+f))))&&(decide ((Ab ((Ab (i*c))+f))≤(Ab ((Ab (i+1))*c)))))&&((decide ((0:Int)≤(Ab ((Ab (i+1))*c))))&&(decide ((Ab ((Ab (i+1))*c))≤(List.length l:Int))))) then bif (decide (0+(List.length (List.drop (Int.toNat (Ab ((Ab (i*c))+f))) (List.take (Int.toNat (Ab ((Ab (i+1))*c))) l)))≤Hv)) then some (.ints (.own 22 41) .u64 ([]++(List.drop (Int.toNat (Ab ((Ab (i*c))+f))) (List.take (Int.toNat (Ab ((Ab (i+1))*c))) l)))) else none else none :=
  Eq.trans (by kernel_rfl)
  (Dp (tt43 (decide ((0:Int)≤(Ab ((Ab (i*c))+f)))) (decide ((Ab ((Ab (i*c))+f))≤(Ab ((Ab (i+1))*c)))) (decide ((0:Int)≤(Ab ((Ab (i+1))*c)))) (decide ((Ab ((Ab (i+1))*c))≤(List.length l:Int)))) rfl rfl)
abbrev _root_.Go.Proofs.S1.Aa.Row.Kn:=A4 Try.prog 34 Aa.Row.spec
theorem Aa.Row.Ae (hk:Av Try.prog Aa.Row.A8) (h:∀ (r c:Int) (l:List Int) (i f:Int),Aa.Row.pre [.i r,.i c,.l l,.i i,.i f]=true→Bd Aa.Row.E Try.f34 [.agg [.int .i64 r,.int .i64 c,.ints .arg .u64 l],.int .i64 i,.int .i64 f] (Aa.Row.out [.i r,.i c,.l l,.i i,.i f])):Aa.Row.Kn :=
  Aj (Ax hk _ _ _) Try.func34 (by kernel_rfl) (by kernel_rfl) h
def Aa.Ck.hint:Nat→Option A0
  | 0=>some { keep:=[1,3,7,8],objs:=[(0,7,100007,.ints 41 .u64 [])],boxes:=[3] }
  | _=>none
def Aa.Ck.A8:List (Nat × Entry):=[(37,Aa.get.spec)]
def Aa.Ck.E:Env:=Ba (A6 Aa.Ck.A8) (fun _=>false) Aa.Ck.hint (fun _=>none)
def Aa.Ck.L0 (N M:Nat) (r c:Int) (l:List Int) (k p8:Int) (p7:List Int):Option DV:=B3 Aa.Ck.E N Try.f35 (An Try.f35) [1,1,0,1,0] [] M ⟨Gy 24 [(1,.int .i64 k),(3,.ptr 3 0 0),(7,.oref 100007),(8,.int .i64 p8)],[(3,false,.box [.int .i64 r,.int .i64 c,.ints .arg .u64 l]),(100007,false,.ints 41 .u64 p7)]⟩
theorem Aa.Ck.As (N M:Nat) (r c:Int) (l:List Int) (k p8:Int) (p7:List Int):Aa.Ck.L0 N (M+1) r c l k p8 p7=bif (Au p8 r) then bif (Cx r c l p8 k) then bif (decide ((List.length p7)+1≤Hv)) then Aa.Ck.L0 N M r c l k (Ab (p8+1)) (p7++[(Dr c l p8 k)]) else none else none else some (.ints (.own 100007 41) .u64 p7):=by kernel_rfl
theorem Aa.Ck.ev (N:Nat) (r c:Int) (l:List Int) (k f:Int):Bo Aa.Ck.E N Try.f35 (An Try.f35) [.agg [.int .i64 r,.int .i64 c,.ints .arg .u64 l],.int .i64 k,.int .i64 f] =
  Aa.Ck.L0 N N r c l k f []:=by kernel_rfl
abbrev _root_.Go.Proofs.S1.Aa.Ck.Kn:=A4 Try.prog 35 Aa.Ck.spec
theorem Aa.Ck.Ae (hk:Av Try.prog Aa.Ck.A8) (h:∀ (r c:Int) (l:List Int) (k f:Int),Aa.Ck.pre [.i r,.i c,.l l,.i k,.i f]=true→Bd Aa.Ck.E Try.f35 [.agg [.int .i64 r,.int .i64 c,.ints .arg .u64 l],.int .i64 k,.int .i64 f] (Aa.Ck.out [.i r,.i c,.l l,.i k,.i f])):Aa.Ck.Kn :=
  Aj (Ax hk _ _ _) Try.func35 (by kernel_rfl) (by kernel_rfl) h
def Aa.Cz.A8:List (Nat × Entry):=[]
def Aa.Cz.E:Env:=Ba (A6 Aa.Cz.A8) (fun _=>false) (fun _=>none) (fun _=>none)
theorem Aa.Cz.ev (N:Nat) (i k:Int):Bo Aa.Cz.E N Try.f86 (An Try.f86) [.int .i64 i,.int .i64 k]=some (.int .u64 0):=by kernel_rfl
abbrev _root_.Go.Proofs.S1.Aa.Cz.Kn:=A4 Try.prog 86 Aa.Cz.spec
theorem Aa.Cz.Ae (hk:Av Try.prog Aa.Cz.A8) (h:∀ (i k:Int),Aa.Cz.pre [.i i,.i k]=true→Bd Aa.Cz.E Try.f86 [.int .i64 i,.int .i64 k] (Aa.Cz.out [.i i,.i k])):Aa.Cz.Kn :=
  Aj (Ax hk _ _ _) Try.func86 (by kernel_rfl) (by kernel_rfl) h
def Aa.Fy.A8:List (Nat × Entry):=[]
def Aa.Fy.E:Env:=Ba (A6 Aa.Fy.A8) (fun _=>false) (fun _=>none) (fun _=>none)
theorem Aa.Fy.ev (N:Nat) (i k:Int):Bo Aa.Fy.E N Try.f66 (An Try.f66) [.int .i64 i,.int .i64 k]=bif (i==k) then some (.int .u64 4607182418800017408) else some (.int .u64 0):=by kernel_rfl
abbrev _root_.Go.Proofs.S1.Aa.Fy.Kn:=A4 Try.prog 66 Aa.Fy.spec
theorem Aa.Fy.Ae (hk:Av Try.prog Aa.Fy.A8) (h:∀ (i k:Int),Aa.Fy.pre [.i i,.i k]=true→Bd Aa.Fy.E Try.f66 [.int .i64 i,.int .i64 k] (Aa.Fy.out [.i i,.i k])):Aa.Fy.Kn :=
  Aj (Ax hk _ _ _) Try.func66 (by kernel_rfl) (by kernel_rfl) h
def Aa.D5.A8:List (Nat × Entry):=[(37,Aa.get.spec)]
def Aa.D5.E:Env:=Ba (A6 Aa.D5.A8) (fun _=>false) (fun _=>none) (fun _=>none)
theorem Aa.D5.ev (N:Nat) (i k:Int) (r c:Int) (l:List Int):Bo Aa.D5.E N Try.f46 (An Try.f46) [.int .i64 i,.int .i64 k,.cellp [.int .i64 r,.int .i64 c,.ints .arg .u64 l]]=bif (Cx r c l k i) then some (.int .u64 (Dr c l k i)) else none:=by kernel_rfl
abbrev _root_.Go.Proofs.S1.Aa.D5.Kn:=A4 Try.prog 46 Aa.D5.spec
theorem Aa.D5.Ae (hk:Av Try.prog Aa.D5.A8) (h:∀ (i k:Int) (r c:Int) (l:List Int),Aa.D5.pre [.i i,.i k,.i r,.i c,.l l]=true→Bd Aa.D5.E Try.f46 [.int .i64 i,.int .i64 k,.cellp [.int .i64 r,.int .i64 c,.ints .arg .u64 l]] (Aa.D5.out [.i i,.i k,.i r,.i c,.l l])):Aa.D5.Kn :=
  Aj (Ax hk _ _ _) Try.func46 (by kernel_rfl) (by kernel_rfl) h
def Aa.D7.A8:List (Nat × Entry):=[(37,Aa.get.spec)]
def Aa.D7.E:Env:=Ba (A6 Aa.D7.A8) (fun _=>false) (fun _=>none) (fun _=>none)
theorem Aa.D7.ev (N:Nat) (i k:Int) (r c:Int) (l:List Int) (x y:Int):Bo Aa.D7.E N Try.f36 (An Try.f36) [.int .i64 i,.int .i64 k,.cellp [.int .i64 r,.int .i64 c,.ints .arg .u64 l],.cellp [.int .i64 x],.cellp [.int .i64 y]]=bif (Cx r c l (Ab (x+i)) (Ab (y+k))) then some (.int .u64 (Dr c l (Ab (x+i)) (Ab (y+k)))) else none:=by kernel_rfl
abbrev _root_.Go.Proofs.S1.Aa.D7.Kn:=A4 Try.prog 36 Aa.D7.spec
theorem Aa.D7.Ae (hk:Av Try.prog Aa.D7.A8) (h:∀ (i k:Int) (r c:Int) (l:List Int) (x y:Int),Aa.D7.pre [.i i,.i k,.i r,.i c,.l l,.i x,.i y]=true→Bd Aa.D7.E Try.f36 [.int .i64 i,.int .i64 k,.cellp [.int .i64 r,.int .i64 c,.ints .arg .u64 l],.cellp [.int .i64 x],.cellp [.int .i64 y]] (Aa.D7.out [.i i,.i k,.i r,.i c,.l l,.i x,.i y])):Aa.D7.Kn :=
  Aj (Ax hk _ _ _) Try.func36 (by kernel_rfl) (by kernel_rfl) h
def Aa.Ft.A8:List (Nat × Entry):=[(37,Aa.get.spec),(39,Ac.Sub.spec)]
def Aa.Ft.E:Env:=Ba (A6 Aa.Ft.A8) (fun _=>false) (fun _=>none) (fun _=>none)
theorem Aa.Ft.ev (N:Nat) (i k:Int) (r c:Int) (l:List Int) (p q:Int) (m:List Int):Bo Aa.Ft.E N Try.f38 (An Try.f38) [.int .i64 i,.int .i64 k,.cellp [.int .i64 r,.int .i64 c,.ints .arg .u64 l],.cellp [.int .i64 p,.int .i64 q,.ints .arg .u64 m]]=bif (Cx r c l i k) then bif (Cx p q m i k) then bif (Ag (Dr c l i k)&&Ag (Dr q m i k)) then some (.int .u64 (C0 (Dr c l i k) (Dr q m i k))) else none else none else none :=
  Eq.trans (by kernel_rfl)
  (Dp (Eh (Cx r c l i k)) (Dp (Eh (Cx p q m i k)) (Dp (Eh (Ag (Dr c l i k)&&Ag (Dr q m i k))) rfl rfl) rfl) rfl)
abbrev _root_.Go.Proofs.S1.Aa.Ft.Kn:=A4 Try.prog 38 Aa.Ft.spec
theorem Aa.Ft.Ae (hk:Av Try.prog Aa.Ft.A8) (h:∀ (i k:Int) (r c:Int) (l:List Int) (p q:Int) (m:List Int),Aa.Ft.pre [.i i,.i k,.i r,.i c,.l l,.i p,.i q,.l m]=true→Bd Aa.Ft.E Try.f38 [.int .i64 i,.int .i64 k,.cellp [.int .i64 r,.int .i64 c,.ints .arg .u64 l],.cellp [.int .i64 p,.int .i64 q,.ints .arg .u64 m]] (Aa.Ft.out [.i i,.i k,.i r,.i c,.l l,.i p,.i q,.l m])):Aa.Ft.Kn :=
  Aj (Ax hk _ _ _) Try.func38 (by kernel_rfl) (by kernel_rfl) h
def Aa.Db.A8:List (Nat × Entry):=[(37,Aa.get.spec)]
def Aa.Db.E:Env:=Ba (A6 Aa.Db.A8) (fun _=>false) (fun _=>none) (fun _=>none)
theorem Aa.Db.ev (N:Nat) (i k:Int) (r c:Int) (l:List Int) (p q:Int) (m:List Int):Bo Aa.Db.E N Try.f43 (An Try.f43) [.int .i64 i,.int .i64 k,.cellp [.int .i64 r,.int .i64 c,.ints .arg .u64 l],.cellp [.int .i64 p,.int .i64 q,.ints .arg .u64 m]]=bif (Au i r) then bif (Cx r c l i k) then some (.int .u64 (Dr c l i k)) else none else bif (Cx p q m (Ab (i-r)) k) then some (.int .u64 (Dr q m (Ab (i-r)) k)) else none:=by kernel_rfl
abbrev _root_.Go.Proofs.S1.Aa.Db.Kn:=A4 Try.prog 43 Aa.Db.spec
theorem Aa.Db.Ae (hk:Av Try.prog Aa.Db.A8) (h:∀ (i k:Int) (r c:Int) (l:List Int) (p q:Int) (m:List Int),Aa.Db.pre [.i i,.i k,.i r,.i c,.l l,.i p,.i q,.l m]=true→Bd Aa.Db.E Try.f43 [.int .i64 i,.int .i64 k,.cellp [.int .i64 r,.int .i64 c,.ints .arg .u64 l],.cellp [.int .i64 p,.int .i64 q,.ints .arg .u64 m]] (Aa.Db.out [.i i,.i k,.i r,.i c,.l l,.i p,.i q,.l m])):Aa.Db.Kn :=
  Aj (Ax hk _ _ _) Try.func43 (by kernel_rfl) (by kernel_rfl) h
def Aa.Fv.A8:List (Nat × Entry):=[(35,Aa.Ck.spec),(34,Aa.Row.spec),(33,Ac.Lf.spec)]
def Aa.Fv.E:Env:=Ba (A6 Aa.Fv.A8) (fun _=>false) (fun _=>none) (fun _=>none)
theorem Aa.Fv.ev (N:Nat) (i k:Int) (r c:Int) (l:List Int) (p q:Int) (m:List Int):Bo Aa.Fv.E N Try.f32 (An Try.f32) [.int .i64 i,.int .i64 k,.cellp [.int .i64 r,.int .i64 c,.ints .arg .u64 l],.cellp [.int .i64 p,.int .i64 q,.ints .arg .u64 m]]=bif (Uq r c l i&&decide ((0:Int)=0)) then bif (Jc p q m k&&Dd (0≤(0:Int)∧(0:Int)≤p)) then bif ((P0 (Jw c l i) (Cu q m k 0 (Int.toNat (p-0)))&&Af (Jw c l i))&&Af (Cu q m k 0 (Int.toNat (p-0)))) then some (.int .u64 (M3 (Jw c l i) (Cu q m k 0 (Int.toNat (p-0))))) else none else none else none :=
  Eq.trans (by kernel_rfl)
  (Dp (Eh (Uq r c l i&&decide ((0:Int)=0))) (Dp (Eh (Jc p q m k&&Dd (0≤(0:Int)∧(0:Int)≤p))) (Dp (Eh ((P0 (Jw c l i) (Cu q m k 0 (Int.toNat (p-0)))&&Af (Jw c l i))&&Af (Cu q m k 0 (Int.toNat (p-0))))) rfl rfl) rfl) rfl)
abbrev _root_.Go.Proofs.S1.Aa.Fv.Kn:=A4 Try.prog 32 Aa.Fv.spec
theorem Aa.Fv.Ae (hk:Av Try.prog Aa.Fv.A8) (h:∀ (i k:Int) (r c:Int) (l:List Int) (p q:Int) (m:List Int),Aa.Fv.pre [.i i,.i k,.i r,.i c,.l l,.i p,.i q,.l m]=true→Bd Aa.Fv.E Try.f32 [.int .i64 i,.int .i64 k,.cellp [.int .i64 r,.int .i64 c,.ints .arg .u64 l],.cellp [.int .i64 p,.int .i64 q,.ints .arg .u64 m]] (Aa.Fv.out [.i i,.i k,.i r,.i c,.l l,.i p,.i q,.l m])):Aa.Fv.Kn :=
  Aj (Ax hk _ _ _) Try.func32 (by kernel_rfl) (by kernel_rfl) h
end EqMat
open EqMat
theorem J9 {a b:Int} (h1:0≤a) (h2:a<20) (h3:0≤b) (h4:b<20):0≤a*b∧a*b<400:=by
  have:=Int.mul_nonneg h1 h3
  have h5:a*b≤19*19:=Int.mul_le_mul (by omega) (by omega) h3 (by omega)
  omega
theorem Aa.size.known:Aa.size.Kn:=Aa.size.Ae .nil fun n _=>by
  refine ⟨0,Aa.size.out [.i n],[],?_,.bool⟩
  have e:(bif (Dt (0:Int) n) then (Dt n (6:Int)) else false)=A7 n:=by
    unfold A7
    rw [F2,F2]
    cases decide (0≤n)<;>rfl
  rw [Aa.size.ev,e]; rfl
theorem Xl (r c:Int) (l:List Int):(((!(A7 r))||(!(A7 c)))||((List.length l:Int) !=(Ab (r*c))))=!(Aw r c l):=by
  unfold Aw
  cases h1:A7 r with
  | false=>rfl
  | true =>
    cases h2:A7 c with
    | false=>rfl
    | true =>
      obtain ⟨r1,r2⟩:=F0.1 h1
      obtain ⟨c1,c2⟩:=F0.1 h2
      have:=J9 (a:=r) (b:=c) r1 (by omega) c1 (by omega)
      rw [Ak (by omega) (by omega),Ah3]
      simp
theorem Aa.Check.known:Aa.Check.Kn:=Aa.Check.Ae (.cons Aa.size.known .nil) fun r c l _=>by
  refine ⟨0,Aa.Check.out [.i r,.i c,.l l],[],?_,.int⟩
  rw [Aa.Check.ev,Xl]
  show _=some (DV.int .i64 (Hp r c l))
  unfold Hp
  cases Aw r c l<;>rfl
theorem F8 {c i k:Int} {l:List Int} {R:Int} (h:Cx R c l i k=true):Ab (Ab (i*c)+k)=i*c+k∧0≤i*c+k∧i*c+k<l.length:=by
  obtain ⟨h1,h2,h3,h4,h5,h6,h7,_⟩:=Ar.1 h
  have:=J9 h1 (by omega) h5 (by omega)
  rw [Ak (x:=i*c) (by omega) (by omega),Ak (by omega) (by omega)]
  omega
theorem Aa.get.known:Aa.get.Kn:=Aa.get.Ae .nil fun r c l i k hp=>by
  obtain ⟨e,h1,h2⟩:=F8 (R:=r) (show Cx r c l i k=true from hp)
  refine ⟨0,Aa.get.out [.i r,.i c,.l l,.i i,.i k],[],?_,.int⟩
  rw [Aa.get.ev,e,Aho h1,Aho h2]
  rfl
theorem N2 (r c:Int) (l:List Int):((Hp r c l) !=(0:Int))=!(Aw r c l):=by
  unfold Hp
  cases Aw r c l<;>rfl
theorem Aa.two.known:Aa.two.Kn:=Aa.two.Ae (.cons Aa.Check.known .nil) fun r c l p q m _=>by
  refine ⟨0,Aa.two.out [.i r,.i c,.l l,.i p,.i q,.l m],[],?_,.int⟩
  rw [Aa.two.ev,N2,N2]
  show _=some (DV.int .i64 (Pg r c l p q m))
  unfold Pg
  cases Aw r c l<;>cases Aw p q m<;>rfl
theorem Aa.Row.known:Aa.Row.Kn:=Aa.Row.Ae .nil fun r c l i f hp=>by
  obtain ⟨h0,hf⟩:=Ad.1 hp
  obtain rfl:=of_decide_eq_true hf
  obtain ⟨hr,hi⟩:=Ad.1 h0
  have hi:=Ar.1 hi
  obtain ⟨R,C,rfl,rfl,r6,c6,hl⟩:=Dj hr
  obtain ⟨I,rfl⟩:∃ k:Nat,i=k:=⟨i.toNat,by omega⟩
  have hm:=J9 (a:=(I:Int)) (b:=(C:Int)) (by omega) (by omega) (by omega) (by omega)
  have hm2:=J9 (a:=(I:Int)+1) (b:=(C:Int)) (by omega) (by omega) (by omega) (by omega)
  have hle:(I+1)*C≤R*C:=Ahz C (by omega)
  have hle2:I*C≤(I+1)*C:=Ahz C (by omega)
  have e1:(I:Int)*(C:Int)=((I*C:Nat):Int):=(Ah8 _ _).symm
  have e2:((I:Int)+1)*(C:Int)=(((I+1)*C:Nat):Int):=by rw [Ah8]; rfl
  refine ⟨0,.ints (.own 22 tB) .u64 (Jw (C:Int) l (I:Int)),[22],?_,.drop _ _ _ _ (List.mem_singleton.2 rfl)⟩
  rw [Aa.Row.ev,Ak (x:=(I:Int)+1) (by omega) (by omega),Ak (x:=(I:Int)*(C:Int)) (by omega) (by omega),Int.add_zero,Ak (x:=(I:Int)*(C:Int)) (by omega) (by omega),Ak (x:=((I:Int)+1)*(C:Int)) (by omega) (by omega)]
  unfold Jw
  have d1:decide ((0:Int)≤(I:Int)*(C:Int))=true:=Aho (by omega)
  have d2:decide ((I:Int)*(C:Int)≤((I:Int)+1)*(C:Int))=true:=Aho (by rw [e1,e2]; omega)
  have d3:decide ((0:Int)≤((I:Int)+1)*(C:Int))=true:=Aho (by omega)
  have d4:decide (((I:Int)+1)*(C:Int)≤(l.length:Int))=true:=Aho (by rw [e2]; omega)
  have d5:decide (0+(List.drop ((I:Int)*(C:Int)).toNat (List.take (((I:Int)+1)*(C:Int)).toNat l)).length≤Hv)=true:=by
    refine Aho ?_
    rw [List.length_drop,List.length_take]
    unfold Hv
    omega
  rw [d1,d2,d3,d4,d5]
  rfl
theorem Hf (c b i:Int) (n:Nat) (l:List Int):(Cu c l b i n).length=n:=by unfold Cu; rw [List.length_map,List.length_range]
theorem Ag4 (r c:Int) (l:List Int) (k:Int):Cu c l k 0 (Int.toNat (r-0))=N1 r c l k:=by
  unfold Cu N1
  rw [Int.sub_zero]
  refine List.map_congr_left fun j _=>?_
  rw [Int.zero_add]
theorem Xu {r:Int} (h:0≤r):Dd (0≤(0:Int)∧0≤r)=true:=Ar.2 ⟨Int.le_refl _,h⟩
theorem Aer (N:Nat) {R C K f:Nat} {l:List Int} (r6:R≤6) (c6:C≤6) (hl:l.length=R*C) (hk:K<C):∀ (k i F:Nat),f+i+k=R→k<F →
    Aa.Ck.L0 N F (R:Int) (C:Int) l (K:Int) ((f+i:Nat):Int) (Cu (C:Int) l (K:Int) (f:Int) i)=some (.ints (.own 100007 tB) .u64 (Cu (C:Int) l (K:Int) (f:Int) (R-f))):=by
  intro k
  induction k with
  | zero =>
    intro i F hi hF
    obtain ⟨F,rfl⟩:∃ G,F=G+1:=⟨F-1,by omega⟩
    rw [Aa.Ck.As,Aq,Ahs (by omega),Ahr,show R-f=i by omega]
  | succ k ih =>
    intro i F hi hF
    obtain ⟨F,rfl⟩:∃ G,F=G+1:=⟨F-1,by omega⟩
    have d:decide ((Cu (C:Int) l (K:Int) (f:Int) i).length+1≤Hv)=true:=Aho (by rw [Hf]; unfold Hv; omega)
    rw [Aa.Ck.As,Aq,Aho (by omega),Ahn,Ez r6 c6 hl (show f+i<R by omega) hk,Ahn,d,Ahn,Ak (by omega) (by omega)]
    have:=ih (i+1) F (by omega) (by omega)
    unfold Cu at this ⊢
    rw [List.range_succ,List.map_append] at this
    exact this
theorem Aa.Ck.known:Aa.Ck.Kn:=Aa.Ck.Ae (.cons Aa.get.known .nil) fun r c l k f hp=>by
  obtain ⟨h0,hf⟩:=Ad.1 (show (Jc r c l k&&Dd (0≤f∧f≤r))=true from hp)
  have hf:=Ar.1 hf
  obtain ⟨hr,hi⟩:=Ad.1 h0
  have hi:=Ar.1 hi
  obtain ⟨R,C,rfl,rfl,r6,c6,hl⟩:=Dj hr
  obtain ⟨K,rfl⟩:∃ j:Nat,k=j:=⟨k.toNat,by omega⟩
  obtain ⟨f,rfl⟩:∃ j:Nat,f=j:=⟨f.toNat,by omega⟩
  refine ⟨8,.ints (.own 100007 tB) .u64 (Cu (C:Int) l (K:Int) (f:Int) (R-f)),[100007],?_,?_⟩
  · rw [Aa.Ck.ev]
    exact Aer 8 r6 c6 hl (by omega) (R-f) 0 8 (by omega) (by omega)
  · show Wk _ _ (DV.ints .fresh .u64 (Cu (C:Int) l (K:Int) (f:Int) (Int.toNat ((R:Int)-(f:Int)))))
    rw [show Int.toNat ((R:Int)-(f:Int))=R-f by omega]
    exact .drop _ _ _ _ (List.mem_singleton.2 rfl)
theorem G1 {r c i k:Int} {l:List Int} (h:Aw r c l=true) (h1:0≤i) (h2:i<r) (h3:0≤k) (h4:k<c) (R:Int):Cx R c l i k=true:=by
  obtain ⟨R',C,rfl,rfl,r6,c6,hl⟩:=Dj h
  obtain ⟨I,rfl⟩:∃ j:Nat,i=j:=⟨i.toNat,by omega⟩
  obtain ⟨K,rfl⟩:∃ j:Nat,k=j:=⟨k.toNat,by omega⟩
  exact Ez r6 c6 hl (by omega) (by omega)
theorem Aa.Cz.known:Aa.Cz.Kn:=Aa.Cz.Ae .nil fun i k _=>by
  refine ⟨0,Aa.Cz.out [.i i,.i k],[],?_,.int⟩
  rw [Aa.Cz.ev]; rfl
theorem Aa.Fy.known:Aa.Fy.Kn:=Aa.Fy.Ae .nil fun i k _=>by
  refine ⟨0,Aa.Fy.out [.i i,.i k],[],?_,.int⟩
  rw [Aa.Fy.ev]
  show _=some (DV.int .u64 (P2 i k))
  unfold P2
  by_cases h:i=k
  · have:(i==k)=true:=by rw [h]; simp
    rw [this,if_pos h]; rfl
  · have:(i==k)=false:=by simpa using h
    rw [this,if_neg h]; rfl
theorem Aa.D5.known:Aa.D5.Kn:=Aa.D5.Ae (.cons Aa.get.known .nil) fun i k r c l hp=>by
  have hp:Cx r c l k i=true:=hp
  refine ⟨0,Aa.D5.out [.i i,.i k,.i r,.i c,.l l],[],?_,.int⟩
  rw [Aa.D5.ev,hp]; rfl
theorem Aa.D7.known:Aa.D7.Kn:=Aa.D7.Ae (.cons Aa.get.known .nil) fun i k r c l x y hp=>by
  obtain ⟨h1,h2⟩:=Ad.1 hp
  have h2:=Ar.1 h2
  refine ⟨0,Aa.D7.out [.i i,.i k,.i r,.i c,.l l,.i x,.i y],[],?_,.int⟩
  rw [Aa.D7.ev,Ak (x:=x+i) (by omega) (by omega),Ak (x:=y+k) (by omega) (by omega),h1]; rfl
theorem Aa.Db.known:Aa.Db.Kn:=Aa.Db.Ae (.cons Aa.get.known .nil) fun i k r c l p q m hp=>by
  obtain ⟨h1,h2,h3,h4,h5⟩:=Ar.1 (show I3 r c l p q m i k=true from hp)
  refine ⟨0,Aa.Db.out [.i i,.i k,.i r,.i c,.l l,.i p,.i q,.l m],[],?_,.int⟩
  show _=some (DV.int .u64 (G3 r c l q m i k))
  rw [Aa.Db.ev,Aq,Ak (x:=i-r) (by omega) (by omega)]
  unfold G3
  by_cases h:i<r
  · rw [if_pos h] at h5
    rw [Aho h,Ahn,h5,Ahn,if_pos h]
  · rw [if_neg h] at h5
    rw [Ahs h,Ahr,h5,Ahn,if_neg h]
theorem Rl {R C:Nat} {l:List Int} (hl:l.length=R*C) {I:Nat} (hi:I<R):(Jw (C:Int) l (I:Int)).length=C:=by
  have hle:(I+1)*C≤R*C:=Ahz C (by omega)
  have e1:((I:Int)*(C:Int)).toNat=I*C:=by rw [← Ah8,Ahp]
  have e2:(((I:Int)+1)*(C:Int)).toNat=(I+1)*C:=by
    have:((I:Int)+1)*(C:Int)=(((I+1)*C:Nat):Int):=by rw [Ah8]; rfl
    rw [this,Ahp]
  unfold Jw
  rw [List.length_drop,List.length_take,e1,e2]
  rw [Nat.add_mul,Nat.one_mul] at hle ⊢
  omega
theorem Y3 (R:Nat) (C:Int) (l:List Int) (K:Int):(N1 (R:Int) C l K).length=R:=by
  unfold N1
  rw [List.length_map,List.length_range,Ahp]
theorem Af1 {c i:Int} {l:List Int} (h:Af l=true):Af (Jw c l i)=true:=by
  have h:=Ar.1 h
  exact Ar.2 fun x hx=>h x (List.mem_of_mem_take (List.mem_of_mem_drop hx))
theorem Hq {c i k:Int} {l:List Int} (h:Af l=true):Ag (Dr c l i k)=true:=by
  unfold Dr
  by_cases hj:(i*c+k).toNat<l.length
  · exact Vq h hj
  · rw [Ahx,List.getElem?_eq_none (by omega)]
    exact Bl (n:=0) (by decide)
theorem Ag5 {r c k:Int} {l:List Int} (h:Af l=true):Af (N1 r c l k)=true:=by
  refine Ar.2 fun x hx=>?_
  obtain ⟨j,_,rfl⟩:=List.mem_map.1 hx
  exact Hq h
theorem Aa.Fv.known:Aa.Fv.Kn:=Aa.Fv.Ae (.cons Aa.Ck.known (.cons Aa.Row.known (.cons Ac.Lf.known .nil))) fun i k r c l p q m hp=>by
  obtain ⟨h1,h2⟩:=Ad.1 (show Nt r c l p q m i k=true from hp)
  obtain ⟨h3,h4⟩:=Ad.1 h1
  obtain ⟨h5,h6⟩:=Ad.1 h2
  obtain ⟨hl,hm⟩:=Ad.1 h5
  obtain rfl:=Ar.1 h6
  obtain ⟨hr,hi⟩:=Ad.1 h3
  have hi:=Ar.1 hi
  obtain ⟨R,C,rfl,rfl,r6,c6,ll⟩:=Dj hr
  obtain ⟨I,rfl⟩:∃ j:Nat,i=j:=⟨i.toNat,by omega⟩
  refine ⟨0,Aa.Fv.out [.i I,.i k,.i R,.i C,.l l,.i C,.i q,.l m],[],?_,.int⟩
  have hf:P0 (Jw (C:Int) l (I:Int)) (N1 (C:Int) q m k)=true:=U8.2 ⟨by rw [Rl ll (by omega),Y3],by rw [Rl ll (by omega)]; omega⟩
  rw [Aa.Fv.ev,Ag4,h3,h4,hf,Af1 hl,Ag5 hm,Xu (by omega)]
  rfl
namespace EqCmp
def compare.Ip.A8:List (Nat × Entry):=[(80,soft.Sign.spec)]
def compare.Ip.E:Env:=Ba (A6 compare.Ip.A8) (fun _=>false) (fun _=>none) (fun _=>none)
theorem compare.Ip.ev (N:Nat) (b:Int):Bo compare.Ip.E N Try.f85 (An Try.f85) [.int .u64 b]=bif (Ag b) then bif (Cy b) then some (.int .i64 (Ab (0-(Ab (K4 .u64 b 9223372036854775808))))) else some (.int .i64 (Ab b)) else none:=by kernel_rfl
abbrev _root_.Go.Proofs.S1.compare.Ip.Kn:=A4 Try.prog 85 compare.Ip.spec
theorem compare.Ip.Ae (hk:Av Try.prog compare.Ip.A8) (h:∀ (b:Int),compare.Ip.pre [.i b]=true→Bd compare.Ip.E Try.f85 [.int .u64 b] (compare.Ip.out [.i b])):compare.Ip.Kn :=
  Aj (Ax hk _ _ _) Try.func85 (by kernel_rfl) (by kernel_rfl) h
def compare.Order.A8:List (Nat × Entry):=[(85,compare.Ip.spec),(24,soft.Kind.spec)]
def compare.Order.E:Env:=Ba (A6 compare.Order.A8) (fun _=>false) (fun _=>none) (fun _=>none)
theorem compare.Order.ev (N:Nat) (a b:Int):Bo compare.Order.E N Try.f68 (An Try.f68) [.int .u64 a,.int .u64 b]=bif (Ag a) then bif ((Az a)==(4:Int)) then some (.tup [.int .i64 0,.bool false]) else bif (Ag b) then bif ((Az b)==(4:Int)) then some (.tup [.int .i64 0,.bool false]) else bif (Ag a) then bif (Ag b) then bif (Au (Tk a) (Tk b)) then some (.tup [.int .i64 (-1:Int),.bool true]) else bif (Ag a) then bif (Ag b) then bif (Au (Tk b) (Tk a)) then some (.tup [.int .i64 1,.bool true]) else some (.tup [.int .i64 0,.bool true]) else none else none else none else none else none else none:=by kernel_rfl
abbrev _root_.Go.Proofs.S1.compare.Order.Kn:=A4 Try.prog 68 compare.Order.spec
theorem compare.Order.Ae (hk:Av Try.prog compare.Order.A8) (h:∀ (a b:Int),compare.Order.pre [.i a,.i b]=true→Bd compare.Order.E Try.f68 [.int .u64 a,.int .u64 b] (compare.Order.out [.i a,.i b])):compare.Order.Kn :=
  Aj (Ax hk _ _ _) Try.func68 (by kernel_rfl) (by kernel_rfl) h
def compare.Ix.A8:List (Nat × Entry):=[(68,compare.Order.spec)]
def compare.Ix.E:Env:=Ba (A6 compare.Ix.A8) (fun _=>false) (fun _=>none) (fun _=>none)
theorem compare.Ix.ev (N:Nat) (a b:Int):Bo compare.Ix.E N Try.f54 (An Try.f54) [.int .u64 a,.int .u64 b]=bif (Ag a&&Ag b) then some (.bool (Au (Yf a b) 0)) else none:=by kernel_rfl
abbrev _root_.Go.Proofs.S1.compare.Ix.Kn:=A4 Try.prog 54 compare.Ix.spec
theorem compare.Ix.Ae (hk:Av Try.prog compare.Ix.A8) (h:∀ (a b:Int),compare.Ix.pre [.i a,.i b]=true→Bd compare.Ix.E Try.f54 [.int .u64 a,.int .u64 b] (compare.Ix.out [.i a,.i b])):compare.Ix.Kn :=
  Aj (Ax hk _ _ _) Try.func54 (by kernel_rfl) (by kernel_rfl) h
def compare.Qv.A8:List (Nat × Entry):=[]
def compare.Qv.E:Env:=Ba (A6 compare.Qv.A8) (fun _=>false) (fun _=>none) (fun _=>none)
theorem compare.Qv.ev (N:Nat) (a:Int):Bo compare.Qv.E N Try.f51 (An Try.f51) [.int .u64 a]=some (.int .u64 (K4 .u64 a 9223372036854775808)):=by kernel_rfl
abbrev _root_.Go.Proofs.S1.compare.Qv.Kn:=A4 Try.prog 51 compare.Qv.spec
theorem compare.Qv.Ae (hk:Av Try.prog compare.Qv.A8) (h:∀ (a:Int),compare.Qv.pre [.i a]=true→Bd compare.Qv.E Try.f51 [.int .u64 a] (compare.Qv.out [.i a])):compare.Qv.Kn :=
  Aj (Ax hk _ _ _) Try.func51 (by kernel_rfl) (by kernel_rfl) h
def compare.Dk.hint:Nat→Option A0
  | 1=>some { keep:=[0,6,7,8],objs:=[],boxes:=[] }
  | _=>none
def compare.Dk.A8:List (Nat × Entry):=[(24,soft.Kind.spec),(84,soft.B9.spec),(83,soft.Eg.spec),(80,soft.Sign.spec)]
def compare.Dk.E:Env:=Ba (A6 compare.Dk.A8) (fun _=>false) compare.Dk.hint (fun _=>none)
def compare.Dk.L0 (N M:Nat) (a p6 p7:Int) (p8:Bool):Option DV:=B3 compare.Dk.E N Try.f67 (An Try.f67) [1,1,1,1,1,1,0,0] [] M ⟨Gy 59 [(0,.int .u64 a),(6,.int .u64 p6),(7,.int .i64 p7),(8,.bool p8)],[]⟩
theorem compare.Dk.As (N M:Nat) (a p6 p7:Int) (p8:Bool):compare.Dk.L0 N (M+1) a p6 p7 p8=bif ((Au p7 (-1130:Int))&&(Au 1 p6)) then compare.Dk.L0 N M a (Cf .u64 p6 1) (Ab (p7+1)) (bif p8 then true else ((Eo .u64 p6 1)==(1:Int))) else bif (Au p7 (-1130:Int)) then bif (Ag a) then bif (Cv 0 (-1074:Int) true) then some (.tup [.int .u64 (Dh (Cy a) 0 (-1074:Int) true),.int .u8 (Dg (Cy a) 0 (-1074:Int) true)]) else none else none else bif (Ag a) then bif (Cv p6 p7 p8) then some (.tup [.int .u64 (Dh (Cy a) p6 p7 p8),.int .u8 (Dg (Cy a) p6 p7 p8)]) else none else none :=
  Eq.trans (by kernel_rfl)
  (Am (Su (Au p7 (-1130:Int))) (Am (Qz (Au p7 (-1130:Int))) (Am (Vw (Au p7 (-1130:Int))) (Dp (tt1 (Au p7 (-1130:Int)) (Au 1 p6)) (Am (Qb p8) (Am (Mu p8) (Am (Mu p8) (Am (Vv p8) rfl)))) rfl))))
theorem compare.Dk.ev (N:Nat) (a n:Int):Bo compare.Dk.E N Try.f67 (An Try.f67) [.int .u64 a,.int .i64 n]=bif (Ag a) then bif ((Az a)==(4:Int)) then some (.tup [.int .u64 9221120237041090560,.int .u8 0]) else bif ((Az a)==(3:Int)) then bif ((Az a)==(3:Int)) then some (.tup [.int .u64 a,.int .u8 0]) else bif (Ag a) then compare.Dk.L0 N N a (A1 a) (Ab ((Ay a)+(max (-2300:Int) (min 2300 n)))) false else none else bif ((Az a)==(0:Int)) then some (.tup [.int .u64 a,.int .u8 0]) else bif (Ag a) then compare.Dk.L0 N N a (A1 a) (Ab ((Ay a)+(max (-2300:Int) (min 2300 n)))) false else none else none:=by kernel_rfl
abbrev _root_.Go.Proofs.S1.compare.Dk.Kn:=A4 Try.prog 67 compare.Dk.spec
theorem compare.Dk.Ae (hk:Av Try.prog compare.Dk.A8) (h:∀ (a n:Int),compare.Dk.pre [.i a,.i n]=true→Bd compare.Dk.E Try.f67 [.int .u64 a,.int .i64 n] (compare.Dk.out [.i a,.i n])):compare.Dk.Kn :=
  Aj (Ax hk _ _ _) Try.func67 (by kernel_rfl) (by kernel_rfl) h
def Ac.Eu.A8:List (Nat × Entry):=[(67,compare.Dk.spec)]
def Ac.Eu.E:Env:=Ba (A6 Ac.Eu.A8) (fun _=>false) (fun _=>none) (fun _=>none)
theorem Ac.Eu.ev (N:Nat) (a n:Int):Bo Ac.Eu.E N Try.f52 (An Try.f52) [.int .u64 a,.int .i64 n]=bif (Dy a n) then some (.int .u64 (Bt a n)) else none:=by kernel_rfl
abbrev _root_.Go.Proofs.S1.Ac.Eu.Kn:=A4 Try.prog 52 Ac.Eu.spec
theorem Ac.Eu.Ae (hk:Av Try.prog Ac.Eu.A8) (h:∀ (a n:Int),Ac.Eu.pre [.i a,.i n]=true→Bd Ac.Eu.E Try.f52 [.int .u64 a,.int .i64 n] (Ac.Eu.out [.i a,.i n])):Ac.Eu.Kn :=
  Aj (Ax hk _ _ _) Try.func52 (by kernel_rfl) (by kernel_rfl) h
def Ac.Div.A8:List (Nat × Entry):=[(87,times.Div.spec)]
def Ac.Div.E:Env:=Ba (A6 Ac.Div.A8) (fun _=>false) (fun _=>none) (fun _=>none)
theorem Ac.Div.ev (N:Nat) (a b:Int):Bo Ac.Div.E N Try.f70 (An Try.f70) [.int .u64 a,.int .u64 b]=bif (Ag a&&Ag b) then some (.int .u64 (Em a b)) else none:=by kernel_rfl
abbrev _root_.Go.Proofs.S1.Ac.Div.Kn:=A4 Try.prog 70 Ac.Div.spec
theorem Ac.Div.Ae (hk:Av Try.prog Ac.Div.A8) (h:∀ (a b:Int),Ac.Div.pre [.i a,.i b]=true→Bd Ac.Div.E Try.f70 [.int .u64 a,.int .u64 b] (Ac.Div.out [.i a,.i b])):Ac.Div.Kn :=
  Aj (Ax hk _ _ _) Try.func70 (by kernel_rfl) (by kernel_rfl) h
def Ac.Bz.hint:Nat→Option A0
  | 0=>some { keep:=[3,6,7,8],objs:=[],boxes:=[] }
  | _=>none
def Ac.Bz.A8:List (Nat × Entry):=[(51,compare.Qv.spec),(24,soft.Kind.spec)]
def Ac.Bz.E:Env:=Ba (A6 Ac.Bz.A8) (fun _=>false) Ac.Bz.hint (fun _=>none)
def Ac.Bz.L0 (N M:Nat) (x:List Int) (p3 p8:Int):Option DV:=B3 Ac.Bz.E N Try.f53 (An Try.f53) [1,1,0,1,0] [] M ⟨Gy 21 [(3,.int .u64 p3),(6,.ints .arg .u64 x),(7,.int .i64 (List.length x:Int)),(8,.int .i64 p8)],[]⟩
theorem Ac.Bz.As (N M:Nat) (x:List Int) (p3 p8:Int):Ac.Bz.L0 N (M+1) x p3 p8=bif (Au p8 (List.length x:Int)) then bif ((decide (0≤p8))&&(decide (p8<(List.length x:Int)))) then bif (Ag (List.getD x (Int.toNat p8) 0)) then bif ((Az (List.getD x (Int.toNat p8) 0))==(4:Int)) then some (.int .u64 9221120237041090560) else bif (Ag (List.getD x (Int.toNat p8) 0)) then Ac.Bz.L0 N M x (max p3 (W0 (List.getD x (Int.toNat p8) 0))) (Ab (p8+1)) else none else none else none else some (.int .u64 p3):=by kernel_rfl
theorem Ac.Bz.ev (N:Nat) (x:List Int):Bo Ac.Bz.E N Try.f53 (An Try.f53) [.ints .arg .u64 x] =
  Ac.Bz.L0 N N x 0 0:=by kernel_rfl
abbrev _root_.Go.Proofs.S1.Ac.Bz.Kn:=A4 Try.prog 53 Ac.Bz.spec
theorem Ac.Bz.Ae (hk:Av Try.prog Ac.Bz.A8) (h:∀ (x:List Int),Ac.Bz.pre [.l x]=true→Bd Ac.Bz.E Try.f53 [.ints .arg .u64 x] (Ac.Bz.out [.l x])):Ac.Bz.Kn :=
  Aj (Ax hk _ _ _) Try.func53 (by kernel_rfl) (by kernel_rfl) h
def Ac.Finite.hint:Nat→Option A0
  | 0=>some { keep:=[5,6,7],objs:=[],boxes:=[] }
  | _=>none
def Ac.Finite.A8:List (Nat × Entry):=[(13,soft.Finite.spec)]
def Ac.Finite.E:Env:=Ba (A6 Ac.Finite.A8) (fun _=>false) Ac.Finite.hint (fun _=>none)
def Ac.Finite.L0 (N M:Nat) (x:List Int) (p7:Int):Option DV:=B3 Ac.Finite.E N Try.f50 (An Try.f50) [1,0,1,0] [] M ⟨Gy 15 [(5,.ints .arg .u64 x),(6,.int .i64 (List.length x:Int)),(7,.int .i64 p7)],[]⟩
theorem Ac.Finite.As (N M:Nat) (x:List Int) (p7:Int):Ac.Finite.L0 N (M+1) x p7=bif (Au p7 (List.length x:Int)) then bif ((decide (0≤p7))&&(decide (p7<(List.length x:Int)))) then bif (Ag (List.getD x (Int.toNat p7) 0)) then bif (!(Cp (List.getD x (Int.toNat p7) 0))) then some (.bool false) else Ac.Finite.L0 N M x (Ab (p7+1)) else none else none else some (.bool true):=by kernel_rfl
theorem Ac.Finite.ev (N:Nat) (x:List Int):Bo Ac.Finite.E N Try.f50 (An Try.f50) [.ints .arg .u64 x] =
  Ac.Finite.L0 N N x 0:=by kernel_rfl
abbrev _root_.Go.Proofs.S1.Ac.Finite.Kn:=A4 Try.prog 50 Ac.Finite.spec
theorem Ac.Finite.Ae (hk:Av Try.prog Ac.Finite.A8) (h:∀ (x:List Int),Ac.Finite.pre [.l x]=true→Bd Ac.Finite.E Try.f50 [.ints .arg .u64 x] (Ac.Finite.out [.l x])):Ac.Finite.Kn :=
  Aj (Ax hk _ _ _) Try.func50 (by kernel_rfl) (by kernel_rfl) h
def Bn.Check.hint:Nat→Option A0
  | 0=>some { keep:=[9,10,11],objs:=[],boxes:=[] }
  | _=>none
def Bn.Check.A8:List (Nat × Entry):=[(12,Aa.Check.spec),(13,soft.Finite.spec)]
def Bn.Check.E:Env:=Ba (A6 Bn.Check.A8) (fun _=>false) Bn.Check.hint (fun _=>none)
def Bn.Check.L0 (N M:Nat) (l:List Int) (p11:Int):Option DV:=B3 Bn.Check.E N Try.f8 (An Try.f8) [1,1,0,1,0] [] M ⟨Gy 19 [(9,.ints .arg .u64 l),(10,.int .i64 (List.length l:Int)),(11,.int .i64 p11)],[]⟩
theorem Bn.Check.As (N M:Nat) (l:List Int) (p11:Int):Bn.Check.L0 N (M+1) l p11=bif (Au p11 (List.length l:Int)) then bif ((decide (0≤p11))&&(decide (p11<(List.length l:Int)))) then bif (Ag (List.getD l (Int.toNat p11) 0)) then bif (!(Cp (List.getD l (Int.toNat p11) 0))) then some (.int .i64 4) else Bn.Check.L0 N M l (Ab (p11+1)) else none else none else some (.int .i64 0):=by kernel_rfl
theorem Bn.Check.ev (N:Nat) (r c:Int) (l:List Int):Bo Bn.Check.E N Try.f8 (An Try.f8) [.agg [.int .i64 r,.int .i64 c,.ints .arg .u64 l]]=bif ((Hp r c l) !=(0:Int)) then some (.int .i64 1) else Bn.Check.L0 N N l 0:=by kernel_rfl
abbrev _root_.Go.Proofs.S1.Bn.Check.Kn:=A4 Try.prog 8 Bn.Check.spec
theorem Bn.Check.Ae (hk:Av Try.prog Bn.Check.A8) (h:∀ (r c:Int) (l:List Int),Bn.Check.pre [.i r,.i c,.l l]=true→Bd Bn.Check.E Try.f8 [.agg [.int .i64 r,.int .i64 c,.ints .arg .u64 l]] (Bn.Check.out [.i r,.i c,.l l])):Bn.Check.Kn :=
  Aj (Ax hk _ _ _) Try.func8 (by kernel_rfl) (by kernel_rfl) h
end EqCmp
open EqCmp
theorem Mm {k j:Nat} (h:k≠j):(((k:Nat):Int)==((j:Nat):Int))=false:=by rw [beq_eq_false_iff_ne]; omega
theorem Ub (n:Nat):n%2^63<2^63:=Nat.mod_lt _ (by decide)
theorem Xo {n:Nat} (h:n<2^64):K4 .u64 (n:Int) (9223372036854775808:Int)=((n%2^63:Nat):Int):=by
  have:=K7 (Dn n) (Ub n)
  rw [Aar h] at this
  exact this
theorem compare.Qv.known:compare.Qv.Kn:=compare.Qv.Ae .nil fun a hp=>by
  obtain ⟨n,rfl,hn⟩:=Bj (show Ag a=true from hp)
  refine ⟨0,compare.Qv.out [.i (n:Int)],[],?_,.int⟩
  show _=some (DV.int .u64 (((n:Int).toNat%2^63:Nat):Int))
  rw [compare.Qv.ev,Xo hn,Ahp]
theorem compare.Ip.known:compare.Ip.Kn:=compare.Ip.Ae (.cons soft.Sign.known .nil) fun b hp=>by
  have hp:Ag b=true:=hp
  obtain ⟨n,rfl,hn⟩:=Bj hp
  refine ⟨0,compare.Ip.out [.i (n:Int)],[],?_,.int⟩
  show _=some (DV.int .i64 (R9 (n:Int).toNat))
  have h63:=Ub n
  rw [compare.Ip.ev,hp,Ahn,Xo hn,Ahp]
  unfold R9 Qd Cy
  rw [Ahp]
  cases hs:Dn n with
  | true =>
    rw [Ahn,if_pos rfl,Ak (x:=((n%2^63:Nat):Int)) (by omega) (by omega),Ak (by omega) (by omega)]
    congr 2; omega
  | false =>
    have:n<2^63:=by
      unfold Dn at hs
      have:=of_decide_eq_false hs
      omega
    rw [Ahr,if_neg (by decide),Ah0 this,Ak (by omega) (by omega)]
theorem compare.Order.known:compare.Order.Kn:=compare.Order.Ae (.cons compare.Ip.known (.cons soft.Kind.known .nil)) fun a b hp=>by
  obtain ⟨ha,hb⟩:=Ad.1 (show (Ag a&&Ag b)=true from hp)
  refine ⟨0,compare.Order.out [.i a,.i b],[],?_,Wk.Fl (.cons .int (.cons .bool .nil))⟩
  show _=some (DV.tup [.int .i64 (ordN a.toNat b.toNat),.bool (ordB a.toNat b.toNat)])
  rw [compare.Order.ev,ha,hb,Ahn,Ahn,Ahn,Ahn,Ahn,Ahn,Aq,Aq]
  unfold ordN ordB Tk Az
  by_cases h1:Ao a.toNat=4
  · have e:(((Ao a.toNat:Nat):Int)==(4:Int))=true:=by rw [h1]; rfl
    rw [e,Ahn,if_pos (.inl h1),Aho (.inl h1)]; rfl
  · have e:(((Ao a.toNat:Nat):Int)==(4:Int))=false:=Mm h1
    rw [e,Ahr]
    by_cases h2:Ao b.toNat=4
    · have e:(((Ao b.toNat:Nat):Int)==(4:Int))=true:=by rw [h2]; rfl
      rw [e,Ahn,if_pos (.inr h2),Aho (.inr h2)]; rfl
    · have e:(((Ao b.toNat:Nat):Int)==(4:Int))=false:=Mm h2
      have hn:¬ (Ao a.toNat=4∨Ao b.toNat=4):=fun h=>h.elim h1 h2
      rw [e,Ahr,if_neg hn,Ahs hn]
      by_cases h3:R9 a.toNat<R9 b.toNat
      · rw [Aho h3,if_pos h3]; rfl
      · rw [Ahs h3,if_neg h3]
        by_cases h4:R9 b.toNat<R9 a.toNat
        · rw [Aho h4,if_pos h4]; rfl
        · rw [Ahs h4,if_neg h4]; rfl
theorem compare.Ix.known:compare.Ix.Kn:=compare.Ix.Ae (.cons compare.Order.known .nil) fun a b hp=>by
  have hp:(Ag a&&Ag b)=true:=hp
  refine ⟨0,compare.Ix.out [.i a,.i b],[],?_,.bool⟩
  rw [compare.Ix.ev,hp,Aq]; rfl
theorem X6 (N:Nat) {a:Int} (ha:Ag a=true):∀ (k F m:Nat) (e:Int) (b:Bool),e=-1130-(k:Int)→k<F→m<2^53→(m≠0∨b=true)→-9000<e →
    compare.Dk.L0 N F a (m:Int) e b=some (.tup [.int .u64 (((B7 (Dn a.toNat) 0,3):Nat × Nat).1:Nat),.int .u8 (((B7 (Dn a.toNat) 0,3):Nat × Nat).2:Nat)]):=by
  have pre1:Cv (0:Int) (-1074:Int) true=true:=Ar.2 (by omega)
  intro k
  induction k with
  | zero =>
    intro F m e b he hF hm h0 _
    obtain ⟨F,rfl⟩:∃ G,F=G+1:=⟨F-1,by omega⟩
    have hlt:Au e (-1130:Int)=false:=by rw [Aq]; exact Ahs (by omega)
    have Mv:Cv (m:Int) e b=true:=Ar.2 (by omega)
    rw [compare.Dk.As,hlt,Bool.false_and,Ahr,Ahr,ha,Ahn,Mv,Ahn]
    unfold Dh Dg Cy
    rw [Ahp,Aba _ hm h0 (by omega)]
  | succ k ih =>
    intro F m e b he hF hm h0 hb
    obtain ⟨F,rfl⟩:∃ G,F=G+1:=⟨F-1,by omega⟩
    have hlt:Au e (-1130:Int)=true:=by rw [Aq]; exact Aho (by omega)
    rw [compare.Dk.As,hlt,Bool.true_and,Ahn,Aq]
    by_cases h1:(1:Int)<(m:Int)
    · have em:Cf .u64 (m:Int) (1:Int)=((m / 2^1:Nat):Int):=Fi .u64 m 1 (by decide)
      rw [Aho h1,Ahn,em,Ak (by omega) (by omega)]
      exact ih F (m / 2^1) (e+1) _ (by omega) (by omega) (by omega) (.inl (by omega)) (by omega)
    · rw [Ahs h1,Ahr,ha,Ahn,pre1,Ahn]
      unfold Dh Dg Cy
      rw [show (0:Int).toNat=0 from rfl,Adg]
theorem compare.Dk.known:compare.Dk.Kn:=compare.Dk.Ae (.cons soft.Kind.known (.cons soft.B9.known (.cons soft.Eg.known (.cons soft.Sign.known .nil)))) fun a n hp=>by
  obtain ⟨ha,hn⟩:=Ad.1 (show Dy a n=true from hp)
  have hn:=Ar.1 hn
  refine ⟨3000,compare.Dk.out [.i a,.i n],[],?_,Wk.Fl (.cons .int (.cons .int .nil))⟩
  show _=some (DV.tup [.int .u64 ((Gn a.toNat n).1:Nat),.int .u8 ((Gn a.toNat n).2:Nat)])
  have em:max (-2300:Int) (min (2300:Int) n)=n:=by omega
  have pE:=Ek a.toNat
  have pM:=E7 a.toNat
  have ee:Ab (Ay a+n)=A2 a.toNat+n:=by unfold Ay; exact Ak (by omega) (by omega)
  rw [compare.Dk.ev,ha,Ahn,Ahn,em,ee]
  unfold Az
  by_cases h4:Ao a.toNat=4
  · have e:(((Ao a.toNat:Nat):Int)==(4:Int))=true:=by rw [h4]; rfl
    rw [e,Ahn]
    unfold Gn
    rw [if_pos h4]; rfl
  have e4:(((Ao a.toNat:Nat):Int)==(4:Int))=false:=Mm h4
  rw [e4,Ahr]
  by_cases h3:Ao a.toNat=3
  · have e:(((Ao a.toNat:Nat):Int)==(3:Int))=true:=by rw [h3]; rfl
    obtain ⟨k,rfl,hk⟩:=Bj ha
    rw [e,Ahn,Ahn]
    unfold Gn
    rw [if_neg h4,if_pos (.inl h3),Ahp]; rfl
  have e3:(((Ao a.toNat:Nat):Int)==(3:Int))=false:=Mm h3
  rw [e3,Ahr]
  by_cases h0:Ao a.toNat=0
  · have e:(((Ao a.toNat:Nat):Int)==(0:Int))=true:=by rw [h0]; rfl
    obtain ⟨k,rfl,hk⟩:=Bj ha
    rw [e,Ahn]
    unfold Gn
    rw [if_neg h4,if_pos (.inr h0),Ahp]; rfl
  have e0:(((Ao a.toNat:Nat):Int)==(0:Int))=false:=Mm h0
  have hk:¬ (Ao a.toNat=3∨Ao a.toNat=0):=fun h=>h.elim h3 h0
  have hm:Ap a.toNat≠0:=fun h=>h0 ((I6 h3 h4).1 h)
  rw [e0,Ahr]
  show compare.Dk.L0 3000 3000 a (Ap a.toNat:Nat) (A2 a.toNat+n) false=_
  by_cases ht:A2 a.toNat+n≤-1130
  · rw [X5 h4 hk ht]
    exact X6 3000 ha (-1130-(A2 a.toNat+n)).toNat 3000 _ _ false (by omega) (by omega) (by omega) (.inl hm) (by omega)
  · have hlt:Au (A2 a.toNat+n) (-1130:Int)=false:=by rw [Aq]; exact Ahs (by omega)
    have Mv:Cv ((Ap a.toNat:Nat):Int) (A2 a.toNat+n) false=true:=Ar.2 ⟨by omega,by omega,by omega,by omega,fun h=>by cases h⟩
    rw [Aav h4 hk,show (3000:Nat)=2999+1 from rfl,compare.Dk.As,hlt,Bool.false_and,Ahr,Ahr,ha,Ahn,Mv,Ahn]
    unfold Dh Dg Cy
    rw [Ahp,Qi]
theorem Ac.Eu.known:Ac.Eu.Kn:=Ac.Eu.Ae (.cons compare.Dk.known .nil) fun a n hp=>by
  have hp:Dy a n=true:=hp
  refine ⟨0,Ac.Eu.out [.i a,.i n],[],?_,.int⟩
  rw [Ac.Eu.ev,hp]; rfl
theorem Ac.Div.known:Ac.Div.Kn:=Ac.Div.Ae (.cons times.Div.known .nil) fun a b hp=>by
  have hp:(Ag a&&Ag b)=true:=hp
  refine ⟨0,Ac.Div.out [.i a,.i b],[],?_,.int⟩
  rw [Ac.Div.ev,hp]; rfl
theorem G0 {l:List Int} {i:Nat} (h:i<l.length):l.drop i=l.getD i 0::l.drop (i+1):=by
  rw [List.drop_eq_getElem_cons h,Ahx,Ah4 h]; rfl
theorem Iq {l:List Int} (h:Cs l=true):l.length<4611686018427387904∧∀ j,j<l.length→Ag (l.getD j 0)=true:=by
  obtain ⟨h1,h2⟩:=Ar.1 h
  exact ⟨h1,fun j hj=>by rw [Ahx,Ah4 hj]; exact h2 _ (List.getElem_mem hj)⟩
theorem I7 {l:List Int} (h:Af l=true) (hl:l.length≤1000):Cs l=true:=Ar.2 ⟨by omega,Ar.1 h⟩
theorem Xb (N:Nat) {x:List Int} (hx:Cs x=true):∀ (k i F:Nat),i+k=x.length→k<F→Ac.Finite.L0 N F x (i:Int)=some (.bool ((x.drop i).all Cp)):=by
  obtain ⟨hl,hu⟩:=Iq hx
  intro k
  induction k with
  | zero =>
    intro i F hi hF
    obtain ⟨F,rfl⟩:∃ G,F=G+1:=⟨F-1,by omega⟩
    rw [Ac.Finite.As,Aq,Ahs (by omega),Ahr,Ah1 (by omega)]; rfl
  | succ k ih =>
    intro i F hi hF
    obtain ⟨F,rfl⟩:∃ G,F=G+1:=⟨F-1,by omega⟩
    rw [Ac.Finite.As,Aq,Aho (show (i:Int)<(x.length:Int) by omega),Ahn,Aho (show (0:Int)≤(i:Int) by omega),Aht,Ahn,Ahp,hu i (by omega),Ahn,G0 (by omega),List.all_cons]
    cases Cp (x.getD i 0) with
    | false=>rfl
    | true =>
      rw [Bool.not_true,Ahr,Ak (by omega) (by omega),Bool.true_and]
      exact ih (i+1) F (by omega) (by omega)
theorem Ac.Finite.known:Ac.Finite.Kn:=Ac.Finite.Ae (.cons soft.Finite.known .nil) fun x hp=>by
  have hp:Cs x=true:=hp
  refine ⟨x.length+1,Ac.Finite.out [.l x],[],?_,.bool⟩
  show _=some (DV.bool (x.all Cp))
  rw [Ac.Finite.ev]
  exact Xb _ hp x.length 0 (x.length+1) (by omega) (by omega)
theorem Ab2 {x:List Int} {i:Nat} (h:i<x.length) (m:Nat):Vl (x.drop i) m=if Ao (x.getD i 0).toNat=4 then S6 else Vl (x.drop (i+1)) (max m (Aca (x.getD i 0).toNat)):=by
  rw [G0 h]; rfl
theorem Vk (N:Nat) {x:List Int} (hx:Cs x=true):∀ (k i F m:Nat),i+k=x.length→k<F→Ac.Bz.L0 N F x (m:Int) (i:Int)=some (.int .u64 ((Vl (x.drop i) m:Nat):Int)):=by
  obtain ⟨hl,hu⟩:=Iq hx
  intro k
  induction k with
  | zero =>
    intro i F m hi hF
    obtain ⟨F,rfl⟩:∃ G,F=G+1:=⟨F-1,by omega⟩
    rw [Ac.Bz.As,Aq,Ahs (by omega),Ahr,Ah1 (by omega)]; rfl
  | succ k ih =>
    intro i F m hi hF
    obtain ⟨F,rfl⟩:∃ G,F=G+1:=⟨F-1,by omega⟩
    rw [Ac.Bz.As,Aq,Aho (show (i:Int)<(x.length:Int) by omega),Ahn,Aho (show (0:Int)≤(i:Int) by omega),Aht,Ahn,Ahp,hu i (by omega),Ahn,Ab2 (by omega)]
    unfold Az
    by_cases h4:Ao (x.getD i 0).toNat=4
    · have e:(((Ao (x.getD i 0).toNat:Nat):Int)==(4:Int))=true:=by rw [h4]; rfl
      rw [e,Ahn,if_pos h4]; rfl
    · have e:(((Ao (x.getD i 0).toNat:Nat):Int)==(4:Int))=false:=Mm h4
      have em:max (m:Int) (W0 (x.getD i 0))=((max m (Aca (x.getD i 0).toNat):Nat):Int):=by unfold W0; omega
      rw [e,Ahr,Ahn,if_neg h4,em,Ak (by omega) (by omega)]
      exact ih (i+1) F _ (by omega) (by omega)
theorem Ac.Bz.known:Ac.Bz.Kn:=Ac.Bz.Ae (.cons compare.Qv.known (.cons soft.Kind.known .nil)) fun x hp=>by
  have hp:Cs x=true:=hp
  refine ⟨x.length+1,Ac.Bz.out [.l x],[],?_,.int⟩
  rw [Ac.Bz.ev]
  exact Vk _ hp x.length 0 (x.length+1) 0 (by omega) (by omega)
theorem Vj (N:Nat) {x:List Int} (hx:Cs x=true):∀ (k i F:Nat),i+k=x.length→k<F→Bn.Check.L0 N F x (i:Int)=some (.int .i64 (if (x.drop i).all Cp=true then 0 else 4)):=by
  obtain ⟨hl,hu⟩:=Iq hx
  intro k
  induction k with
  | zero =>
    intro i F hi hF
    obtain ⟨F,rfl⟩:∃ G,F=G+1:=⟨F-1,by omega⟩
    rw [Bn.Check.As,Aq,Ahs (by omega),Ahr,Ah1 (by omega)]; rfl
  | succ k ih =>
    intro i F hi hF
    obtain ⟨F,rfl⟩:∃ G,F=G+1:=⟨F-1,by omega⟩
    rw [Bn.Check.As,Aq,Aho (show (i:Int)<(x.length:Int) by omega),Ahn,Aho (show (0:Int)≤(i:Int) by omega),Aht,Ahn,Ahp,hu i (by omega),Ahn,G0 (by omega),List.all_cons]
    cases Cp (x.getD i 0) with
    | false=>rfl
    | true =>
      rw [Bool.not_true,Ahr,Ak (by omega) (by omega),Bool.true_and]
      exact ih (i+1) F (by omega) (by omega)
theorem Mj {r c:Int} {l:List Int} (h:Aw r c l=true):l.length≤36:=by
  obtain ⟨R,C,rfl,rfl,r6,c6,hl⟩:=Dj h
  have:=Nat.mul_le_mul r6 c6
  omega
theorem Bn.Check.known:Bn.Check.Kn:=Bn.Check.Ae (.cons Aa.Check.known (.cons soft.Finite.known .nil)) fun r c l hp=>by
  have hp:Af l=true:=hp
  refine ⟨l.length+1,Bn.Check.out [.i r,.i c,.l l],[],?_,.int⟩
  show _=some (DV.int .i64 (Bh r c l))
  rw [Bn.Check.ev]
  unfold Hp Bh Ey
  by_cases h:Aw r c l=true
  · have:=Mj h
    rw [if_pos h,if_pos h]
    have e:((0:Int) !=(0:Int))=false:=by decide
    rw [e,Ahr]
    exact Vj _ (I7 hp (by omega)) l.length 0 (l.length+1) (by omega) (by omega)
  · rw [if_neg h,if_neg h]; rfl
open Go Go.Den Go.Rnd Go.Proofs Ieee
end Go.Proofs.S1
namespace Go.Rnd
open Go.Den
theorem Y1 {P root rest two:Nat} (h1:P=root*root+rest) (h2:rest≤2*root) (h3:two<4) :
    (4*root+1≤4*rest+two→4*P+two=(2*root+1)*(2*root+1)+(4*rest+two-(4*root+1))∧4*rest+two-(4*root+1)≤2*(2*root+1)) ∧
    (4*rest+two<4*root+1→4*P+two=(2*root)*(2*root)+(4*rest+two)∧4*rest+two≤2*(2*root)):=by
  have e1:(2*root+1)*(2*root+1)=4*(root*root)+(4*root+1):=by
    rw [Nat.add_mul,Nat.mul_add,Nat.mul_add]
    have:2*root*(2*root)=4*(root*root):=by rw [Nat.mul_mul_mul_comm]
    omega
  have e2:(2*root)*(2*root)=4*(root*root):=by rw [Nat.mul_mul_mul_comm]
  constructor
  · intro h; rw [e1]; omega
  · intro h; rw [e2]; omega
theorem Af2 {P root rest:Nat} (h1:P=root*root+rest) (h2:rest≤2*root):root=Oa P:=by
  refine Sb (by omega) ?_
  have:(root+1)*(root+1)=root*root+2*root+1:=by rw [Nat.add_mul,Nat.mul_add]; omega
  omega
end Go.Rnd
namespace Go.Rnd
open Go.Den
theorem Ht:Ag (0:Int)=true:=Bl (n:=0) (by decide)
theorem Adb:Ag oneI=true:=Bl (n:=4607182418800017408) (by decide)
theorem Aaw {b:Nat} {n:Int} (h:b<2^64):(Gn b n).1<2^64:=by
  unfold Gn
  by_cases h4:Ao b=4
  · rw [if_pos h4]; exact (by decide:S6<2^64)
  rw [if_neg h4]
  by_cases h3:Ao b=3∨Ao b=0
  · rw [if_pos h3]; exact h
  rw [if_neg h3]
  exact Of _ _ _
theorem Hz {b n:Int} (h:Ag b=true):Ag (Bt b n)=true:=by
  obtain ⟨x,rfl,hx⟩:=Bj h
  exact Bl (Aaw (by rw [Ahp]; exact hx))
theorem Aad (b:Nat):Aca b<2^63:=Nat.mod_lt _ (by decide)
theorem So:∀ (l:List Int) (m:Nat),m<2^64→Vl l m<2^64
  | [],m,h=>h
  | x::l,m,h=>by
    unfold Vl
    split
    · exact (by decide:S6<2^64)
    · have h2:=Aad x.toNat
      exact So l _ (by omega)
theorem N7 (l:List Int):Ag (Bc l)=true:=Bl (So l 0 (by decide))
theorem Adp (x:Int):Ag (W0 x)=true:=Bl (Nat.lt_trans (Aad x.toNat) (by decide))
theorem Ae2 {a b:Int} (ha:Ag a=true) (hb:Ag b=true):Ag (Il a b)=true:=by
  obtain ⟨x,rfl,hx⟩:=Bj ha
  obtain ⟨y,rfl,hy⟩:=Bj hb
  exact Bl (Rb (by rw [Ahp]; exact hx) (by rw [Ahp]; exact hy)).1
theorem Ww {a:Int} (ha:Ag a=true):Ag (Cq a)=true:=by
  obtain ⟨x,rfl,hx⟩:=Bj ha
  exact Bl (Px (by rw [Ahp]; exact hx))
theorem Acx {b:Nat} (h:b<2^64):(K9 b).1<2^64:=by
  by_cases h4:Ao b=4
  · rw [We h4]; exact (by decide:S6<2^64)
  by_cases h0:Ao b=0∨b=Gc
  · rw [Pk h4 h0]; exact h
  cases hn:Dn b with
  | true=>rw [Wd h4 h0 hn]; exact (by decide:S6<2^64)
  | false =>
    unfold K9
    rw [if_neg h4,if_neg h0,hn,if_neg (by decide)]
    exact Nat.lt_trans (Q2 _ _) (by decide)
theorem Zk {a:Int} (ha:Ag a=true):Ag (Gb a)=true:=by
  obtain ⟨x,rfl,hx⟩:=Bj ha
  exact Bl (Acx (by rw [Ahp]; exact hx))
theorem Acu (k:Int):∀ (l:List Int) {s:Int},Ag s=true→Ag (X3 k s l)=true
  | [],_,h=>h
  | _::l,_,h=>Acu k l (Ae2 h (Jy _ _))
theorem Uw (x:List Int):Ag (Dm x)=true:=by
  unfold Dm
  split
  · exact N7 x
  · exact Hz (Zk (Acu _ _ Ht))
theorem mu_in (x:List Int):Ag (muI x)=true:=by
  unfold muI
  split
  · exact Uw _
  · exact Ww (Uw _)
theorem Ahd (x:List Int):Ag (Gh x)=true:=Hz (mu_in x)
theorem Abw (b:Nat):-1100≤Aeh b∧Aeh b≤1100:=by
  unfold Aeh
  split
  · have h1:=Ek b
    have h2:=E7 b
    rename_i h
    have h3:(Ap b).log2<53:=by
      by_cases h0:Ap b=0
      · rw [h0]; decide
      · exact (Nat.log2_lt h0).2 h2
    omega
  · omega
theorem Aeg (x:Int):-1100≤Bk x∧Bk x≤1100:=Abw x.toNat
theorem Kj {l:List Int} (h:Af l=true) (j:Nat):Ag (l.getD j 0)=true:=O5 (Ar.1 h) j
theorem Mr {l:List Int} (h:∀ x∈l,Ag x=true):Af l=true:=Ar.2 h
theorem Ct:Af []=true:=Mr fun _ h=>by cases h
theorem Xp {α:Type} {l:List α} {f:α→Int} (h:∀ j,Ag (f j)=true):Af (l.map f)=true:=Mr fun x hx=>by
  obtain ⟨j,_,rfl⟩:=List.mem_map.1 hx
  exact h j
theorem Ab7 {x:Int} {l:List Int} (h1:Ag x=true) (h2:Af l=true):Af (x::l)=true:=Mr fun y hy=>by
  rcases List.mem_cons.1 hy with rfl | hy
  · exact h1
  · exact Ar.1 h2 y hy
theorem Jr {c i k:Int} {l:List Int} (h:Af l=true):Ag (Dr c l i k)=true:=Kj h _
theorem Wh (c b i:Int) (n:Nat) (l:List Int):(Cu c l b i n).length=n:=by unfold Cu; rw [List.length_map,List.length_range]
theorem Pn {c b i:Int} {n:Nat} {l:List Int} (h:Af l=true):Af (Cu c l b i n)=true:=Xp fun _=>Jr h
theorem Ac2 (n:Nat) {f:Nat→Int} (h:∀ j,Ag (f j)=true):Af (Hg n f)=true:=Ab7 Adb (Xp fun _=>h _)
theorem Ok {n:Nat} (h:n≠0) (f:Nat→Int):(Hg n f).length=n:=by
  unfold Hg
  rw [List.length_cons,List.length_map,List.length_range]
  omega
theorem Q6 {x:List Int} (h:Af x=true):Af (Bs x).1=true∧Ag (Bs x).2.1=true∧Ag (Bs x).2.2.1=true:=by
  have hz:Af []=true∧Ag (0:Int)=true∧Ag (0:Int)=true:=⟨Ct,Ht,Ht⟩
  unfold Bs
  split
  · exact hz
  split
  · unfold Agd
    split
    · dsimp only
      exact ⟨Ac2 _ fun _=>Ht,Ht,Kj h 0⟩
    · split
      · dsimp only
        exact ⟨Ac2 _ fun _=>Vg _ _,Vg _ _,Ahd x⟩
      · exact hz
  · exact hz
theorem Ry {x:List Int} (h:(Bs x).2.2.2=0):(Bs x).1.length=x.length:=by
  unfold Bs at h ⊢
  by_cases h1:x.length=0∨64<x.length
  · rw [if_pos h1] at h; exact absurd h (by decide)
  rw [if_neg h1] at h ⊢
  by_cases h2:Ey x=true
  · rw [if_pos h2] at h ⊢
    unfold Agd at h ⊢
    by_cases h3:H3 (x.drop 1)=true
    · rw [if_pos h3]; dsimp only; exact Ok (n:=x.length) (by omega) _
    · rw [if_neg h3] at h ⊢
      by_cases h4:Cp (Gh x)=true
      · rw [if_pos h4]; dsimp only [Wt]; exact Ok (n:=x.length) (by omega) _
      · rw [if_neg h4] at h; exact absurd h (by decide)
  · rw [if_neg h2] at h; exact absurd h (by decide)
theorem Vf (x y:List Int):Ag (M3 x y)=true:=Bl (Ve x y 0 (by decide))
theorem Ab5 {c i k t a b:Int} {l v:List Int} (h:Af l=true):Ag (L6 c l i k v t a b)=true:=by
  unfold L6
  split
  · exact Lj (Jr h) (Jy _ _)
  · exact Jr h
theorem T8 {r c:Nat} {l:List Int} (h:Af l=true) (i k:Int) (v:List Int) (t:Int):Af (E9 r c l i k v t)=true:=Gl fun _ _=>Ab5 h
theorem J4 (r c:Nat) (l:List Int) (i k:Int) (v:List Int) (t:Int):(E9 r c l i k v t).length=r*c:=Bq _ _ _
theorem Aby {r c:Nat} {l:List Int} (h:Af l=true) (j:Nat) {x:Int} (hx:Ag x=true):Af (P5 r c l j x)=true:=Gl fun a b=>by
  split
  · split
    · exact hx
    · exact Ht
  · exact Jr h
theorem Lr (r c:Nat) (l:List Int) (j:Nat):(Sy r c l j).length=r*c:=by unfold Sy P5; exact Bq _ _ _
theorem Uy {r c:Nat} {l:List Int} (h:Af l=true) (j:Nat):Af (Sy r c l j)=true:=Aby (T8 h _ _ _ _) _ (Q6 (Pn h)).2.2
def Wv (r:Nat):Nat→List (List Int × Int)→Prop
  | _,[]=>True
  | j,m::ms=>(Af m.1=true∧Ag m.2=true∧m.1.length+j=r)∧Wv r (j+1) ms
theorem Sl (r c:Nat):∀ (n j:Nat) (l:List Int) (x:List Int × List (List Int × Int)),Af l=true→l.length=r*c→j+n≤r→Le r c n j l=some x→Af x.1=true∧x.1.length=r*c∧x.2.length=n∧Wv r j x.2
  | 0,j,l,x,ha,hl,_,h=>by
    cases h
    exact ⟨ha,hl,rfl,trivial⟩
  | n+1,j,l,x,ha,hl,hj,h=>by
    unfold Le at h
    by_cases h1:(Bs (Fb r c l j)).2.2.2=0
    · rw [if_pos h1,Option.map_eq_some_iff] at h
      obtain ⟨y,hy,rfl⟩:=h
      obtain ⟨a1,a2,a3,a4⟩:=Sl r c n (j+1) _ y (Uy ha j) (Lr r c l j) (by omega) hy
      have hm:=Q6 (x:=Fb r c l j) (Pn ha)
      have hlen:=Ry h1
      refine ⟨a1,a2,by rw [List.length_cons,a3],⟨hm.1,hm.2.1,?_⟩,a4⟩
      show (Bs (Fb r c l j)).1.length+j=r
      rw [hlen]
      unfold Fb
      rw [Wh]
      omega
    · rw [if_neg h1] at h; cases h
theorem Vb (n:Nat):Af (L3 n)=true:=Gl fun i k=>by
  unfold P2
  split
  · exact Adb
  · exact Ht
theorem Ra (n:Nat):∀ (ms:List (List Int × Int)) (j:Nat) (q:List Int),Af q=true→q.length=n*n→Af (Ik n j ms q)=true∧(Ik n j ms q).length=n*n
  | [],_,_,h1,h2=>⟨h1,h2⟩
  | m::ms,j,q,h1,h2=>by
    unfold Ik
    exact ⟨T8 (Ra n ms (j+1) q h1 h2).1 _ _ _ _,J4 _ _ _ _ _ _ _⟩
theorem Agy {r c:Nat} {l:List Int} (h:(Hd r c l).isSome=true):Af (Ny r c l)=true∧(Ny r c l).length=r*r:=by
  unfold Ny
  cases hd:Hd r c l with
  | none=>rw [hd] at h; cases h
  | some x=>exact Ra r x.2 0 _ (Vb r) (by unfold L3; exact Bq _ _ _)
theorem Agx {r c:Nat} {l:List Int} (ha:Af l=true) (hl:l.length=r*c) (h:(Hd r c l).isSome=true):Af (K0 r c l)=true∧(K0 r c l).length=r*c:=by
  unfold K0
  cases hd:Hd r c l with
  | none=>rw [hd] at h; cases h
  | some x =>
    have hn:He r c≤r:=by unfold He; omega
    have:=Sl r c (He r c) 0 l x ha hl (by omega) hd
    exact ⟨this.1,this.2.1⟩
end Go.Rnd
namespace Go.Proofs.S1
open Go Go.Den Go.Rnd Go.Proofs
set_option maxRecDepth 100000
namespace EqRoot
def root.E3.hint:Nat→Option A0
  | 0=>some { keep:=[0,4,5,6,14],objs:=[],boxes:=[] }
  | _=>none
def root.E3.A8:List (Nat × Entry):=[]
def root.E3.E:Env:=Ba (A6 root.E3.A8) (fun _=>false) root.E3.hint (fun _=>none)
def root.E3.L0 (N M:Nat) (m p4:Int) (p5 p6 p14:Int):Option DV:=B3 root.E3.E N Try.f100 (An Try.f100) [1,1,0,1,0] [] M ⟨Gy 68 [(0,.int .u64 m),(4,.int .u64 p4),(5,.int .u64 p5),(6,.int .u64 p6),(14,.int .i64 p14)],[]⟩
theorem root.E3.As (N M:Nat) (m p4:Int) (p5 p6 p14:Int):root.E3.L0 N (M+1) m p4 p5 p6 p14=bif (Au p14 64) then bif (Au p14 32) then bif (decide (0≤(Ab ((62:Int)-(Ab ((2:Int)*p14)))))) then bif (decide ((E4 (Gd .u64 (Be .u64 p6 2) (Eo .u64 (Cf .u64 m (Ab ((62:Int)-(Ab ((2:Int)*p14))))) 3)) (Gd .u64 (Be .u64 p4 2) 1) 0)≤1)) then bif ((E4 (Gd .u64 (Be .u64 p5 2) (Cf .u64 p6 62)) (Cf .u64 p4 62) (E4 (Gd .u64 (Be .u64 p6 2) (Eo .u64 (Cf .u64 m (Ab ((62:Int)-(Ab ((2:Int)*p14))))) 3)) (Gd .u64 (Be .u64 p4 2) 1) 0))==(0:Int)) then root.E3.L0 N M m (Gd .u64 (Be .u64 p4 1) 1) (Jh (Gd .u64 (Be .u64 p5 2) (Cf .u64 p6 62)) (Cf .u64 p4 62) (E4 (Gd .u64 (Be .u64 p6 2) (Eo .u64 (Cf .u64 m (Ab ((62:Int)-(Ab ((2:Int)*p14))))) 3)) (Gd .u64 (Be .u64 p4 2) 1) 0)) (Jh (Gd .u64 (Be .u64 p6 2) (Eo .u64 (Cf .u64 m (Ab ((62:Int)-(Ab ((2:Int)*p14))))) 3)) (Gd .u64 (Be .u64 p4 2) 1) 0) (Ab (p14+1)) else root.E3.L0 N M m (Be .u64 p4 1) (Gd .u64 (Be .u64 p5 2) (Cf .u64 p6 62)) (Gd .u64 (Be .u64 p6 2) (Eo .u64 (Cf .u64 m (Ab ((62:Int)-(Ab ((2:Int)*p14))))) 3)) (Ab (p14+1)) else none else none else bif (decide ((E4 (Gd .u64 (Be .u64 p6 2) 0) (Gd .u64 (Be .u64 p4 2) 1) 0)≤1)) then bif ((E4 (Gd .u64 (Be .u64 p5 2) (Cf .u64 p6 62)) (Cf .u64 p4 62) (E4 (Gd .u64 (Be .u64 p6 2) 0) (Gd .u64 (Be .u64 p4 2) 1) 0))==(0:Int)) then root.E3.L0 N M m (Gd .u64 (Be .u64 p4 1) 1) (Jh (Gd .u64 (Be .u64 p5 2) (Cf .u64 p6 62)) (Cf .u64 p4 62) (E4 (Gd .u64 (Be .u64 p6 2) 0) (Gd .u64 (Be .u64 p4 2) 1) 0)) (Jh (Gd .u64 (Be .u64 p6 2) 0) (Gd .u64 (Be .u64 p4 2) 1) 0) (Ab (p14+1)) else root.E3.L0 N M m (Be .u64 p4 1) (Gd .u64 (Be .u64 p5 2) (Cf .u64 p6 62)) (Gd .u64 (Be .u64 p6 2) 0) (Ab (p14+1)) else none else some (.tup [.int .u64 p4,.bool (bif (p5==(0:Int)) then (p6==(0:Int)) else false)]) :=
  Eq.trans (by kernel_rfl)
  (Ew rfl (Am (Su (p5==(0:Int))) (Am (Qz (p5==(0:Int))) (Am (Vw (p5==(0:Int))) rfl))))
theorem root.E3.ev (N:Nat) (m:Int):Bo root.E3.E N Try.f100 (An Try.f100) [.int .u64 m] =
  root.E3.L0 N N m 0 0 0 0:=by kernel_rfl
abbrev _root_.Go.Proofs.S1.root.E3.Kn:=A4 Try.prog 100 root.E3.spec
theorem root.E3.Ae (hk:Av Try.prog root.E3.A8) (h:∀ (m:Int),root.E3.pre [.i m]=true→Bd root.E3.E Try.f100 [.int .u64 m] (root.E3.out [.i m])):root.E3.Kn :=
  Aj (Ax hk _ _ _) Try.func100 (by kernel_rfl) (by kernel_rfl) h
def root.Sqrt.hint:Nat→Option A0
  | 5=>some { keep:=[5,7,9],objs:=[],boxes:=[] }
  | _=>none
def root.Sqrt.A8:List (Nat × Entry):=[(98,Bu.Bb.spec),(100,root.E3.spec),(24,soft.Kind.spec),(84,soft.B9.spec),(83,soft.Eg.spec),(80,soft.Sign.spec)]
def root.Sqrt.E:Env:=Ba (A6 root.Sqrt.A8) (fun _=>false) root.Sqrt.hint (fun _=>none)
def root.Sqrt.L0 (N M:Nat) (p5 p7:Int) (p9:Bool):Option DV:=B3 root.Sqrt.E N Try.f99 (An Try.f99) [1,1,1,1,1,1,1,1,1,0,0] [] M ⟨Gy 73 [(5,.int .i64 p5),(7,.int .u64 p7),(9,.bool p9)],[]⟩
theorem root.Sqrt.As (N M:Nat) (p5 p7:Int) (p9:Bool):root.Sqrt.L0 N (M+1) p5 p7 p9=bif (Dt 4611686018427387904 p7) then root.Sqrt.L0 N M (Ab (p5+2)) (Cf .u64 p7 1) (bif p9 then true else ((Eo .u64 p7 1)==(1:Int))) else bif (Cv p7 (Ab ((Ab (Int.tdiv p5 2))-32)) p9) then some (.tup [.int .u64 (Dh false p7 (Ab ((Ab (Int.tdiv p5 2))-32)) p9),.int .u8 (Dg false p7 (Ab ((Ab (Int.tdiv p5 2))-32)) p9)]) else none :=
  Eq.trans (by kernel_rfl)
  (Ew (Am (Qb p9) (Am (Mu p9) (Am (Mu p9) (Am (Vv p9) rfl)))) rfl)
theorem root.Sqrt.ev (N:Nat) (a:Int):Bo root.Sqrt.E N Try.f99 (An Try.f99) [.int .u64 a]=bif (Ag a) then bif ((Az a)==(4:Int)) then some (.tup [.int .u64 9221120237041090560,.int .u8 0]) else bif (Ag a) then bif ((Az a)==(0:Int)) then some (.tup [.int .u64 a,.int .u8 0]) else bif (a==(9218868437227405312:Int)) then some (.tup [.int .u64 a,.int .u8 0]) else bif (Ag a) then bif (Cy a) then some (.tup [.int .u64 9221120237041090560,.int .u8 16]) else bif (Ag a) then bif (Ag (A1 a)) then bif ((Int.tmod (Ab ((Ay a)-(Ab ((64-Di (A1 a))-2)))) 2) !=(0:Int)) then bif (decide (0≤(Ab ((Ab ((64-Di (A1 a))-2))-1)))) then bif (Dd (0≤(Be .u64 (A1 a) (Ab ((Ab ((64-Di (A1 a))-2))-1)))∧(Be .u64 (A1 a) (Ab ((Ab ((64-Di (A1 a))-2))-1)))<9223372036854775808)) then root.Sqrt.L0 N N (Ab ((Ay a)-(Ab ((Ab ((64-Di (A1 a))-2))-1)))) (O0 (Be .u64 (A1 a) (Ab ((Ab ((64-Di (A1 a))-2))-1)))) (!(O1 (Be .u64 (A1 a) (Ab ((Ab ((64-Di (A1 a))-2))-1))))) else none else none else bif (decide (0≤(Ab ((64-Di (A1 a))-2)))) then bif (Dd (0≤(Be .u64 (A1 a) (Ab ((64-Di (A1 a))-2)))∧(Be .u64 (A1 a) (Ab ((64-Di (A1 a))-2)))<9223372036854775808)) then root.Sqrt.L0 N N (Ab ((Ay a)-(Ab ((64-Di (A1 a))-2)))) (O0 (Be .u64 (A1 a) (Ab ((64-Di (A1 a))-2)))) (!(O1 (Be .u64 (A1 a) (Ab ((64-Di (A1 a))-2))))) else none else none else none else none else none else none else none:=by kernel_rfl
abbrev _root_.Go.Proofs.S1.root.Sqrt.Kn:=A4 Try.prog 99 root.Sqrt.spec
theorem root.Sqrt.Ae (hk:Av Try.prog root.Sqrt.A8) (h:∀ (a:Int),root.Sqrt.pre [.i a]=true→Bd root.Sqrt.E Try.f99 [.int .u64 a] (root.Sqrt.out [.i a])):root.Sqrt.Kn :=
  Aj (Ax hk _ _ _) Try.func99 (by kernel_rfl) (by kernel_rfl) h
def Ac.Sqrt.A8:List (Nat × Entry):=[(99,root.Sqrt.spec)]
def Ac.Sqrt.E:Env:=Ba (A6 Ac.Sqrt.A8) (fun _=>false) (fun _=>none) (fun _=>none)
theorem Ac.Sqrt.ev (N:Nat) (a:Int):Bo Ac.Sqrt.E N Try.f96 (An Try.f96) [.int .u64 a]=bif (Ag a) then some (.int .u64 (Gb a)) else none:=by kernel_rfl
abbrev _root_.Go.Proofs.S1.Ac.Sqrt.Kn:=A4 Try.prog 96 Ac.Sqrt.spec
theorem Ac.Sqrt.Ae (hk:Av Try.prog Ac.Sqrt.A8) (h:∀ (a:Int),Ac.Sqrt.pre [.i a]=true→Bd Ac.Sqrt.E Try.f96 [.int .u64 a] (Ac.Sqrt.out [.i a])):Ac.Sqrt.Kn :=
  Aj (Ax hk _ _ _) Try.func96 (by kernel_rfl) (by kernel_rfl) h
def compare.Qu.A8:List (Nat × Entry):=[(95,Bu.Ia.spec),(13,soft.Finite.spec),(24,soft.Kind.spec),(83,soft.Eg.spec)]
def compare.Qu.E:Env:=Ba (A6 compare.Qu.A8) (fun _=>false) (fun _=>none) (fun _=>none)
theorem compare.Qu.ev (N:Nat) (a:Int):Bo compare.Qu.E N Try.f77 (An Try.f77) [.int .u64 a]=bif (Ag a) then bif ((!(Cp a))||(Ag a)) then bif ((!(Cp a))||((Az a)==(0:Int))) then some (.int .i64 0) else bif (Ag a) then bif (Ag (A1 a)) then some (.int .i64 (Ab ((Ab ((Di (A1 a))-1))+(Ay a)))) else none else none else none else none :=
  Eq.trans (by kernel_rfl)
  (Ew (Am (Aak (Cp a)) (Dp (tt29 (Cp a) (Ag a)) (Am (Rd (Cp a)) (Am (Aal (Cp a)) (Dp (tt23 (Cp a) ((Az a)==(0:Int))) rfl rfl))) rfl)) rfl)
abbrev _root_.Go.Proofs.S1.compare.Qu.Kn:=A4 Try.prog 77 compare.Qu.spec
theorem compare.Qu.Ae (hk:Av Try.prog compare.Qu.A8) (h:∀ (a:Int),compare.Qu.pre [.i a]=true→Bd compare.Qu.E Try.f77 [.int .u64 a] (compare.Qu.out [.i a])):compare.Qu.Kn :=
  Aj (Ax hk _ _ _) Try.func77 (by kernel_rfl) (by kernel_rfl) h
def Ac.Norm.hint:Nat→Option A0
  | 0=>some { keep:=[5,6,25,26,27],objs:=[],boxes:=[] }
  | _=>none
def Ac.Norm.A8:List (Nat × Entry):=[(77,compare.Qu.spec),(13,soft.Finite.spec),(60,Ac.Add.spec),(53,Ac.Bz.spec),(61,Ac.Mul.spec),(52,Ac.Eu.spec),(96,Ac.Sqrt.spec)]
def Ac.Norm.E:Env:=Ba (A6 Ac.Norm.A8) (fun _=>false) Ac.Norm.hint (fun _=>none)
def Ac.Norm.L0 (N M:Nat) (x:List Int) (p6 p27:Int):Option DV:=B3 Ac.Norm.E N Try.f79 (An Try.f79) [1,1,1,1,1,1,0,1,0] [] M ⟨Gy 45 [(5,.int .i64 (Bk (Bc x))),(6,.int .u64 p6),(25,.ints .arg .u64 x),(26,.int .i64 (List.length x:Int)),(27,.int .i64 p27)],[]⟩
theorem Ac.Norm.As (N M:Nat) (x:List Int) (p6 p27:Int):Ac.Norm.L0 N (M+1) x p6 p27=bif (Au p27 (List.length x:Int)) then bif ((decide (0≤p27))&&(decide (p27<(List.length x:Int)))) then bif (Dy (List.getD x (Int.toNat p27) 0) (Ab (0-(Bk (Bc x))))) then bif (Ag (Bt (List.getD x (Int.toNat p27) 0) (Ab (0-(Bk (Bc x)))))&&Ag (Bt (List.getD x (Int.toNat p27) 0) (Ab (0-(Bk (Bc x)))))) then bif (Ag p6&&Ag (Dz (Bt (List.getD x (Int.toNat p27) 0) (Ab (0-(Bk (Bc x))))) (Bt (List.getD x (Int.toNat p27) 0) (Ab (0-(Bk (Bc x))))))) then Ac.Norm.L0 N M x (Il p6 (Dz (Bt (List.getD x (Int.toNat p27) 0) (Ab (0-(Bk (Bc x))))) (Bt (List.getD x (Int.toNat p27) 0) (Ab (0-(Bk (Bc x))))))) (Ab (p27+1)) else none else none else none else none else bif (Ag p6) then bif (Dy (Gb p6) (Bk (Bc x))) then some (.tup [.int .u64 (Bt (Gb p6) (Bk (Bc x))),.int .i64 0]) else none else none:=by kernel_rfl
theorem Ac.Norm.ev (N:Nat) (x:List Int):Bo Ac.Norm.E N Try.f79 (An Try.f79) [.ints .arg .u64 x]=bif (Au 64 (List.length x:Int)) then some (.tup [.int .u64 0,.int .i64 3]) else bif (Cs x) then bif (((Bc x)==(0:Int))||(Ag (Bc x))) then bif (((Bc x)==(0:Int))||(!(Cp (Bc x)))) then some (.tup [.int .u64 (Bc x),.int .i64 0]) else bif (Ag (Bc x)) then Ac.Norm.L0 N N x 0 (0:Int) else none else none else none :=
  Eq.trans (by kernel_rfl)
  (Ew rfl (Ew (Am (Qb ((Bc x)==(0:Int))) (Dp (tt79 ((Bc x)==(0:Int)) (Ag (Bc x))) (Am (Mu ((Bc x)==(0:Int))) (Am (Vv ((Bc x)==(0:Int))) (Dp (tt78 ((Bc x)==(0:Int)) (Cp (Bc x))) rfl rfl))) rfl)) rfl))
abbrev _root_.Go.Proofs.S1.Ac.Norm.Kn:=A4 Try.prog 79 Ac.Norm.spec
theorem Ac.Norm.Ae (hk:Av Try.prog Ac.Norm.A8) (h:∀ (x:List Int),Ac.Norm.pre [.l x]=true→Bd Ac.Norm.E Try.f79 [.ints .arg .u64 x] (Ac.Norm.out [.l x])):Ac.Norm.Kn :=
  Aj (Ax hk _ _ _) Try.func79 (by kernel_rfl) (by kernel_rfl) h
end EqRoot
open EqRoot
theorem Pb (n s:Nat) (h:s≤64):Cf .u64 (n:Int) (s:Int)=((n / 2^s:Nat):Int):=Fi .u64 n s h
theorem sh2 {n t:Nat} (ht:t<4):Gd .u64 (Be .u64 (n:Int) (2:Int)) (t:Int)=((n%2^62*4+t:Nat):Int):=by
  rw [show (2:Int)=((2:Nat):Int) from rfl,D0 n 2 (by decide),show n*2^2%2^64=(n%2^62)*2^2 by omega]
  exact Jd ht (by omega)
theorem sh1 {n:Nat} (h:n<2^63):Be .u64 (n:Int) (1:Int)=((2*n:Nat):Int):=by
  rw [show (1:Int)=((1:Nat):Int) from rfl,D0 n 1 (by decide)]
  congr 1; omega
theorem sh1o {n:Nat} (h:n<2^63):Gd .u64 (Be .u64 (n:Int) (1:Int)) (1:Int)=((2*n+1:Nat):Int):=by
  rw [show (1:Int)=((1:Nat):Int) from rfl,D0 n 1 (by decide),show n*2^1%2^64=n*2^1 by omega,Nat.mul_comm 2 n]
  exact Jd (k:=1) (by decide) (by omega)
theorem Acn {m i:Nat} (hi:i<32):Eo .u64 (Cf .u64 (m:Int) (Ab ((62:Int)-(Ab ((2:Int)*(i:Int)))))) (3:Int)=((m / 2^(62-2*i)%2^64%4:Nat):Int)∨2^64≤m:=by
  by_cases hm:m<2^64
  · left
    rw [Ak (x:=(2:Int)*(i:Int)) (by omega) (by omega),Ak (x:=(62:Int)-2*(i:Int)) (by omega) (by omega),show (62:Int)-2*(i:Int)=((62-2*i:Nat):Int) by omega,Pb _ _ (by omega)]
    have hd:m / 2^(62-2*i)<2^64:=Nat.lt_of_le_of_lt (Nat.div_le_self _ _) hm
    rw [show (3:Int)=((2^2-1:Nat):Int) from rfl,F7 2 hd (by decide)]
    congr 1
    omega
  · right; omega
def Mv (m i:Nat):Nat:=m*2^64 / 2^(128-2*i)
theorem Ac9 {m i:Nat} (hi:i<32):Mv m (i+1)=4*Mv m i+m / 2^(62-2*i)%4:=by
  unfold Mv
  have e1:128-2*i=64+(64-2*i):=by omega
  have e2:128-2*(i+1)=64+(62-2*i):=by omega
  rw [e1,e2,Nat.pow_add,Nat.pow_add,Nat.mul_comm (2^64),Nat.mul_comm (2^64),Nat.mul_div_mul_right _ _ (by decide),Nat.mul_div_mul_right _ _ (by decide),show 64-2*i=(62-2*i)+2 by omega,Nat.pow_add,← Nat.div_div_eq_div_mul]
  omega
theorem Aa5 {m i:Nat} (hi:32≤i) (h:i<64):Mv m (i+1)=4*Mv m i:=by
  unfold Mv
  have e1:(2:Nat)^64=2^(2*i-64)*2^(128-2*i):=by rw [← Nat.pow_add]; congr 1; omega
  have e2:(2:Nat)^64=2^(2*i-64)*4*2^(128-2*(i+1)):=by
    rw [show (4:Nat)=2^2 from rfl,← Nat.pow_add,← Nat.pow_add]; congr 1; omega
  have a1:m*2^64 / 2^(128-2*i)=m*2^(2*i-64):=by rw [e1,← Nat.mul_assoc,Nat.mul_div_cancel _ (Cj _)]
  have a2:m*2^64 / 2^(128-2*(i+1))=m*(2^(2*i-64)*4):=by rw [e2,← Nat.mul_assoc,Nat.mul_div_cancel _ (Cj _)]
  rw [a1,a2,← Nat.mul_assoc,Nat.mul_comm 4]
theorem Afv {A B tl th:Nat} (hA:A<2^64) (htl:tl<2^64) (hB:B<2^64) (hth:th<4) :
    (E4 (A:Int) (tl:Int) (0:Int)=0∨E4 (A:Int) (tl:Int) (0:Int)=1) ∧
    (th*2^64+tl≤B*2^64+A→(E4 (B:Int) (th:Int) (E4 (A:Int) (tl:Int) (0:Int))==(0:Int))=true ∧
      ∃ h l:Nat,Jh (B:Int) (th:Int) (E4 (A:Int) (tl:Int) (0:Int))=(h:Int)∧Jh (A:Int) (tl:Int) (0:Int)=(l:Int)∧l<2^64∧h*2^64+l=B*2^64+A-(th*2^64+tl)) ∧
    (B*2^64+A<th*2^64+tl→(E4 (B:Int) (th:Int) (E4 (A:Int) (tl:Int) (0:Int))==(0:Int))=false):=by
  have e1:E4 (A:Int) (tl:Int) (0:Int)=((if A<tl then 1 else 0:Nat):Int):=by
    unfold E4
    rw [Ahp,Ahp]
    rfl
  by_cases h:A<tl
  · rw [if_pos h] at e1
    rw [e1]
    have e2:E4 (B:Int) (th:Int) ((1:Nat):Int)=((if B<th+1 then 1 else 0:Nat):Int):=by
      unfold E4
      rw [Ahp,Ahp]
      rfl
    refine ⟨.inr rfl,fun hle=>?_,fun hlt=>?_⟩
    · rw [if_neg (by omega)] at e2
      rw [e2]
      refine ⟨rfl,B-th-1,A+2^64-tl,?_,?_,by omega,by omega⟩
      · unfold Jh
        rw [Ahp,Ahp,Ahp]
        congr 1; omega
      · unfold Jh
        rw [Ahp,Ahp]
        show ((_:Nat):Int)=_
        congr 1
        show (A+18446744073709551616-tl-0)%18446744073709551616=_
        omega
    · rw [if_pos (by omega)] at e2
      rw [e2]; rfl
  · rw [if_neg h] at e1
    rw [e1]
    have e2:E4 (B:Int) (th:Int) ((0:Nat):Int)=((if B<th then 1 else 0:Nat):Int):=by
      unfold E4
      rw [Ahp,Ahp]
      rfl
    refine ⟨.inl rfl,fun hle=>?_,fun hlt=>?_⟩
    · rw [if_neg (by omega)] at e2
      rw [e2]
      refine ⟨rfl,B-th,A-tl,?_,?_,by omega,by omega⟩
      · unfold Jh
        rw [Ahp,Ahp,Ahp]
        congr 1; omega
      · unfold Jh
        rw [Ahp,Ahp]
        show ((_:Nat):Int)=_
        congr 1
        show (A+18446744073709551616-tl-0)%18446744073709551616=_
        omega
    · rw [if_pos (by omega)] at e2
      rw [e2]; rfl
theorem glue (n t:Nat):n / 2^62*2^64+(n%2^62*4+t)=4*n+t:=by omega
theorem Abj (N:Nat) {m:Nat} (hm:m<2^63):∀ (k i F rt rest:Nat),i+k=64→k<F→Mv m i=rt*rt+rest→rest≤2*rt→rt<2^i→∀ hi lo:Nat,hi*2^64+lo=rest→lo<2^64 →
    root.E3.L0 N F (m:Int) (rt:Int) (hi:Int) (lo:Int) (i:Int)=some (.tup [.int .u64 (O0 m),.bool (O1 m)]):=by
  intro k
  induction k with
  | zero =>
    intro i F rt rest hi hF hP hr hb h l e hl
    obtain ⟨F,rfl⟩:∃ G,F=G+1:=⟨F-1,by omega⟩
    obtain rfl:i=64:=by omega
    have hP':m*2^64=rt*rt+rest:=by
      rw [← hP]; unfold Mv
      rw [show 128-2*64=0 from rfl,Nat.pow_zero,Nat.div_one]
    have hroot:=Af2 hP' hr
    rw [root.E3.As,Aq,Ahs (by omega),Ahr]
    have e1:O0 (m:Int)=(rt:Int):=by unfold O0; rw [Ahp,← hroot]
    have e2:O1 (m:Int)=(bif ((h:Int)==(0:Int)) then ((l:Int)==(0:Int)) else false):=by
      unfold O1
      rw [Ahp,← hroot,hP']
      by_cases h0:h=0
      · subst h0
        rw [show (((0:Nat):Int)==(0:Int))=true from rfl,Ahn,Ah3,Ahu,beq_iff_eq]
        omega
      · rw [show ((h:Int)==(0:Int))=false by rw [beq_eq_false_iff_ne]; omega,Ahr,Ahs]
        omega
    rw [e1,e2]
  | succ k ih =>
    intro i F rt rest hi hF hP hr hb h l e hl
    obtain ⟨F,rfl⟩:∃ G,F=G+1:=⟨F-1,by omega⟩
    have hp:2^i≤2^63:=Ah2 (by decide) (by omega)
    have hi63:2^(i+1)=2*2^i:=by rw [Nat.pow_succ,Nat.mul_comm]
    have f1:2*rt+1<2^(i+1):=by rw [hi63]; omega
    have f2:2*rt<2^(i+1):=by omega
    have hh:h=0:=by omega
    subst hh
    have hrest:rest=l:=by omega
    subst hrest
    obtain ⟨two,t4,hP',hcode⟩:∃ two:Nat,two<4∧Mv m (i+1)=4*Mv m i+two ∧
        root.E3.L0 N (F+1) (m:Int) (rt:Int) ((0:Nat):Int) (rest:Int) (i:Int) =
        (bif (decide ((E4 (Gd .u64 (Be .u64 (rest:Int) (2:Int)) (two:Int)) (Gd .u64 (Be .u64 (rt:Int) (2:Int)) (1:Int)) (0:Int))≤1)) then
          bif ((E4 (Gd .u64 (Be .u64 ((0:Nat):Int) (2:Int)) (Cf .u64 (rest:Int) (62:Int))) (Cf .u64 (rt:Int) (62:Int)) (E4 (Gd .u64 (Be .u64 (rest:Int) (2:Int)) (two:Int)) (Gd .u64 (Be .u64 (rt:Int) (2:Int)) (1:Int)) (0:Int)))==(0:Int)) then
            root.E3.L0 N F (m:Int) (Gd .u64 (Be .u64 (rt:Int) (1:Int)) (1:Int)) (Jh (Gd .u64 (Be .u64 ((0:Nat):Int) (2:Int)) (Cf .u64 (rest:Int) (62:Int))) (Cf .u64 (rt:Int) (62:Int)) (E4 (Gd .u64 (Be .u64 (rest:Int) (2:Int)) (two:Int)) (Gd .u64 (Be .u64 (rt:Int) (2:Int)) (1:Int)) (0:Int))) (Jh (Gd .u64 (Be .u64 (rest:Int) (2:Int)) (two:Int)) (Gd .u64 (Be .u64 (rt:Int) (2:Int)) (1:Int)) (0:Int)) (Ab ((i:Int)+(1:Int)))
          else root.E3.L0 N F (m:Int) (Be .u64 (rt:Int) (1:Int)) (Gd .u64 (Be .u64 ((0:Nat):Int) (2:Int)) (Cf .u64 (rest:Int) (62:Int))) (Gd .u64 (Be .u64 (rest:Int) (2:Int)) (two:Int)) (Ab ((i:Int)+(1:Int)))
        else none):=by
      by_cases h32:i<32
      · refine ⟨m / 2^(62-2*i)%4,Nat.mod_lt _ (by decide),Ac9 h32,?_⟩
        have ht:=(Acn (m:=m) h32).resolve_right (by omega)
        have hq:m / 2^(62-2*i)%2^64%4=m / 2^(62-2*i)%4:=by omega
        rw [hq] at ht
        rw [root.E3.As,Aq,Aho (show (i:Int)<64 by omega),Ahn,Aq,Aho (show (i:Int)<32 by omega),Ahn,ht,Ak (x:=(2:Int)*(i:Int)) (by omega) (by omega),Ak (x:=(62:Int)-2*(i:Int)) (by omega) (by omega),Aho (show (0:Int)≤62-2*(i:Int) by omega),Ahn]
      · refine ⟨0,by decide,by rw [Aa5 (by omega) (by omega),Nat.add_zero],?_⟩
        rw [root.E3.As,Aq,Aho (show (i:Int)<64 by omega),Ahn,Aq,Ahs (show ¬ (i:Int)<32 by omega),Ahr]
        rfl
    obtain ⟨s1,s2⟩:=Y1 hP hr t4
    have eA:=sh2 (n:=rest) t4
    have eT:=sh2 (n:=rt) (t:=1) (by decide)
    have eB:Gd .u64 (Be .u64 ((0:Nat):Int) (2:Int)) (Cf .u64 (rest:Int) (62:Int))=((rest / 2^62:Nat):Int):=by
      rw [show (62:Int)=((62:Nat):Int) from rfl,Pb _ _ (by decide),sh2 (n:=0) (t:=rest / 2^62) (by omega)]
      congr 1; omega
    have eH:Cf .u64 (rt:Int) (62:Int)=((rt / 2^62:Nat):Int):=by rw [show (62:Int)=((62:Nat):Int) from rfl,Pb _ _ (by decide)]
    have eT':Gd .u64 (Be .u64 (rt:Int) (2:Int)) (1:Int)=((rt%2^62*4+1:Nat):Int):=eT
    obtain ⟨b1,b2,b3⟩:=Afv (A:=rest%2^62*4+two) (B:=rest / 2^62) (tl:=rt%2^62*4+1) (th:=rt / 2^62) (by omega) (by omega) (by omega) (by omega)
    rw [hcode,eA,eT',eB,eH,Aho (by rcases b1 with b | b<;>rw [b]<;>decide),Ahn,Ak (by omega) (by omega)]
    by_cases hc:4*rt+1≤4*rest+two
    · obtain ⟨c1,hh,ll,c2,c3,c4,c5⟩:=b2 (by rw [glue,glue]; exact hc)
      obtain ⟨d1,d2⟩:=s1 hc
      rw [c1,Ahn,c2,c3,sh1o (by omega)]
      refine ih (i+1) F (2*rt+1) (4*rest+two-(4*rt+1)) (by omega) (by omega) (hP'.trans d1) d2 f1 hh ll ?_ c4
      rw [c5,glue,glue]
    · rw [b3 (by rw [glue,glue]; omega),Ahr,sh1 (by omega)]
      obtain ⟨d1,d2⟩:=s2 (by omega)
      refine ih (i+1) F (2*rt) (4*rest+two) (by omega) (by omega) (hP'.trans d1) d2 f2 _ _ (glue _ _) ?_
      clear hcode
      omega
theorem root.E3.known:root.E3.Kn:=root.E3.Ae .nil fun m hp=>by
  have hp:=Ar.1 hp
  obtain ⟨n,rfl⟩:∃ n:Nat,m=n:=⟨m.toNat,by omega⟩
  refine ⟨65,root.E3.out [.i n],[],?_,Wk.Fl (.cons .int (.cons .bool .nil))⟩
  rw [root.E3.ev]
  have h0:Mv n 0=0*0+0:=by
    unfold Mv
    rw [Nat.div_eq_of_lt]
    show n*18446744073709551616<340282366920938463463374607431768211456
    omega
  exact Abj 65 (by omega) 64 0 65 0 0 rfl (by omega) h0 (Nat.le_refl 0) Nat.one_pos 0 0 rfl (Nat.pow_pos (by decide))
end Go.Proofs.S1
end
