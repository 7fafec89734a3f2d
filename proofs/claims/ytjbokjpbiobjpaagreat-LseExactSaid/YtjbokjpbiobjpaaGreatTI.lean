/- A verified evaluator of the program's form and its use for this seat: S1EqBits6, S1EqTimes, S1PTimes, S1PTimesA, S1EqVec, S1PVec, S1EqMat, S1PMat, S1EqCmp, S1PCmp, S1PDiv, RootM, HouL, S1EqRoot, S1PRoot. -/
import Derived.Test.YtjbokjpbiobjpaaGreatTE
import Derived.Test.YtjbokjpbiobjpaaGreatTF
import Derived.Test.YtjbokjpbiobjpaaGreatTH
import Derived.Test.YtjbokjpbiobjpaaGreatTG
set_option linter.unusedVariables false
set_option linter.unusedSimpArgs false
noncomputable section
namespace Go.Proofs.S1
open Go Go.Den Go.Rnd Go.Proofs
set_option maxRecDepth 100000
namespace EqBits6
def Ci.Bo.Bb:List (Nat × Entry):=[(261,Ci.J8.spec)]
def Ci.Bo.E:Env:=Bc (Ba Ci.Bo.Bb) (fun _=>false) (fun _=>none) (fun _=>none)
theorem Ci.Bo.ev (N:Nat) (x:Int):Bw Ci.Bo.E N Tryz.f250 (Am Tryz.f250) [.int .u64 x]=bif (Ai x) then some (.int .i64 (Ab ((64:Int)-(Ei x)))) else none:=by kernel_rfl
abbrev _root_.Go.Proofs.S1.Ci.Bo.Kn:=A6 Tryz.prog 250 Ci.Bo.spec
theorem Ci.Bo.Ad (hk:A0 Tryz.prog Ci.Bo.Bb) (h:∀ (x:Int),Ci.Bo.pre [.i x]=true→Be Ci.Bo.E Tryz.f250 [.int .u64 x] (Ci.Bo.out [.i x])):Ci.Bo.Kn :=
  Ak (A1 hk _ _ _) Tryz.func250 (by kernel_rfl) (by kernel_rfl) h
def Ci.G2.Bb:List (Nat × Entry):=[]
def Ci.G2.E:Env:=Bc (Ba Ci.G2.Bb) (fun _=>false) (fun _=>none) (fun _=>none)
theorem Ci.G2.ev (N:Nat) (x y:Int):Bw Ci.G2.E N Tryz.f237 (Am Tryz.f237) [.int .u64 x,.int .u64 y]=some (.tup [.int .u64 (A9 ((A9 ((A9 ((Dg .u64 x 32)*(Dg .u64 y 32)))+(Dg .u64 (A9 ((A9 ((Dg .u64 x 32)*(Fs .u64 y 4294967295)))+(Dg .u64 (A9 ((Fs .u64 x 4294967295)*(Fs .u64 y 4294967295))) 32))) 32)))+(Dg .u64 (A9 ((Fs .u64 (A9 ((A9 ((Dg .u64 x 32)*(Fs .u64 y 4294967295)))+(Dg .u64 (A9 ((Fs .u64 x 4294967295)*(Fs .u64 y 4294967295))) 32))) 4294967295)+(A9 ((Fs .u64 x 4294967295)*(Dg .u64 y 32))))) 32))),.int .u64 (A9 (x*y))]):=by kernel_rfl
abbrev _root_.Go.Proofs.S1.Ci.G2.Kn:=A6 Tryz.prog 237 Ci.G2.spec
theorem Ci.G2.Ad (hk:A0 Tryz.prog Ci.G2.Bb) (h:∀ (x y:Int),Ci.G2.pre [.i x,.i y]=true→Be Ci.G2.E Tryz.f237 [.int .u64 x,.int .u64 y] (Ci.G2.out [.i x,.i y])):Ci.G2.Kn :=
  Ak (A1 hk _ _ _) Tryz.func237 (by kernel_rfl) (by kernel_rfl) h
abbrev _root_.Go.Proofs.S1.Ci.J8.Kn:Prop:=A6 Tryz.prog 261 Ci.J8.spec
theorem _root_.Go.Proofs.S1.Ci.J8.call:∀ (args:Array Value) (w:World),(callFunc 261 args).run Tryz.prog w=.ok (.enter 261 args) w:=Nw Tryz.func261 (by kernel_rfl) (show Tryz.f261.body=some (Am Tryz.f261) by kernel_rfl)
theorem _root_.Go.Proofs.S1.Ci.J8.run (x:Int) (w:World) (h0:0≤x) (h1:x≤18446744073709551615):Calls Tryz.prog 261 #[.int .u64 x] w fun e w'=>e=.returned (.int .i64 (Lib.bitLen x.toNat))∧w'=w:=Tryz.Ae8 x w h0 h1
end EqBits6
namespace EqTimes
def times.signed.Bb:List (Nat × Entry):=[(233,soft.Fy.spec)]
def times.signed.E:Env:=Bc (Ba times.signed.Bb) (fun _=>false) (fun _=>none) (fun _=>none)
theorem times.signed.ev (N:Nat) (b:Int) (n:Bool):Bw times.signed.E N Tryz.f235 (Am Tryz.f235) [.int .u64 b,.bool n]=bif n then bif (Ai b) then some (.int .u64 (Ds b)) else none else some (.int .u64 b):=by kernel_rfl
abbrev _root_.Go.Proofs.S1.times.signed.Kn:=A6 Tryz.prog 235 times.signed.spec
theorem times.signed.Ad (hk:A0 Tryz.prog times.signed.Bb) (h:∀ (b:Int) (n:Bool),times.signed.pre [.i b,.b n]=true→Be times.signed.E Tryz.f235 [.int .u64 b,.bool n] (times.signed.out [.i b,.b n])):times.signed.Kn :=
  Ak (A1 hk _ _ _) Tryz.func235 (by kernel_rfl) (by kernel_rfl) h
def times.nan.Bb:List (Nat × Entry):=[(155,soft.Kind.spec)]
def times.nan.E:Env:=Bc (Ba times.nan.Bb) (fun _=>false) (fun _=>none) (fun _=>none)
theorem times.nan.ev (N:Nat) (a b:Int):Bw times.nan.E N Tryz.f234 (Am Tryz.f234) [.int .u64 a,.int .u64 b]=bif (Ai a) then bif ((A3 a)==(4:Int)) then some (.bool true) else bif (Ai b) then bif ((A3 b)==(4:Int)) then some (.bool true) else some (.bool false) else none else none:=by kernel_rfl
abbrev _root_.Go.Proofs.S1.times.nan.Kn:=A6 Tryz.prog 234 times.nan.spec
theorem times.nan.Ad (hk:A0 Tryz.prog times.nan.Bb) (h:∀ (a b:Int),times.nan.pre [.i a,.i b]=true→Be times.nan.E Tryz.f234 [.int .u64 a,.int .u64 b] (times.nan.out [.i a,.i b])):times.nan.Kn :=
  Ak (A1 hk _ _ _) Tryz.func234 (by kernel_rfl) (by kernel_rfl) h
def times.norm.Bb:List (Nat × Entry):=[(250,Ci.Bo.spec),(211,soft.Fk.spec)]
def times.norm.E:Env:=Bc (Ba times.norm.Bb) (fun _=>false) (fun _=>none) (fun _=>none)
theorem times.norm.ev (N:Nat) (b:Int):Bw times.norm.E N Tryz.f236 (Am Tryz.f236) [.int .u64 b]=bif (Ai b) then bif (Ai (Bh b)) then bif (decide (0≤(Ab ((64-Ei (Bh b))-11)))) then some (.tup [.int .u64 (Br .u64 (Bh b) (Ab ((64-Ei (Bh b))-11))),.int .i64 (Ab ((Az b)-(Ab ((64-Ei (Bh b))-11))))]) else none else none else none:=by kernel_rfl
abbrev _root_.Go.Proofs.S1.times.norm.Kn:=A6 Tryz.prog 236 times.norm.spec
theorem times.norm.Ad (hk:A0 Tryz.prog times.norm.Bb) (h:∀ (b:Int),times.norm.pre [.i b]=true→Be times.norm.E Tryz.f236 [.int .u64 b] (times.norm.out [.i b])):times.norm.Kn :=
  Ak (A1 hk _ _ _) Tryz.func236 (by kernel_rfl) (by kernel_rfl) h
def times.wide.hint:Nat→Option A8
  | 0=>some { keep:=[0,1,2,3],objs:=[],boxes:=[] }
  | _=>none
def times.wide.Bb:List (Nat × Entry):=[(212,soft.C0.spec)]
def times.wide.E:Env:=Bc (Ba times.wide.Bb) (fun _=>false) times.wide.hint (fun _=>none)
def times.wide.L0 (N M:Nat) (n:Bool) (p1 p2:Int) (p3:Bool):Option DV:=B3 times.wide.E N Tryz.f238 (Am Tryz.f238) [1,0,0] [] M ⟨Gb 39 [(0,.bool n),(1,.int .u64 p1),(2,.int .i64 p2),(3,.bool p3)],[]⟩
theorem times.wide.Au (N M:Nat) (n:Bool) (p1 p2:Int) (p3:Bool):times.wide.L0 N (M+1) n p1 p2 p3=bif ((A2 p2 (-1130:Int))&&(A2 1 p1)) then times.wide.L0 N M n (Dg .u64 p1 1) (Ab (p2+1)) (bif p3 then true else ((Fs .u64 p1 1)==(1:Int))) else bif (A2 p2 (-1130:Int)) then bif (D0 0 (-1074:Int) true) then some (.tup [.int .u64 (Eh n 0 (-1074:Int) true),.int .u8 (Eg n 0 (-1074:Int) true)]) else none else bif (D0 p1 p2 p3) then some (.tup [.int .u64 (Eh n p1 p2 p3),.int .u8 (Eg n p1 p2 p3)]) else none :=
  Eq.trans (by kernel_rfl)
  (Ap (N4 (A2 p2 (-1130:Int))) (Ap (Ki (A2 p2 (-1130:Int))) (Ap (Sr (A2 p2 (-1130:Int))) (Da (tt1 (A2 p2 (-1130:Int)) (A2 1 p1)) (Ap (Ul p3) (Ap (Q9 p3) (Ap (Q9 p3) (Ap (tt6 p3) rfl)))) rfl))))
theorem times.wide.ev (N:Nat) (n:Bool) (m e:Int) (r:Bool):Bw times.wide.E N Tryz.f238 (Am Tryz.f238) [.bool n,.int .u64 m,.int .i64 e,.bool r] =
  times.wide.L0 N N n m e r:=by kernel_rfl
abbrev _root_.Go.Proofs.S1.times.wide.Kn:=A6 Tryz.prog 238 times.wide.spec
theorem times.wide.Ad (hk:A0 Tryz.prog times.wide.Bb) (h:∀ (n:Bool) (m e:Int) (r:Bool),times.wide.pre [.b n,.i m,.i e,.b r]=true→Be times.wide.E Tryz.f238 [.bool n,.int .u64 m,.int .i64 e,.bool r] (times.wide.out [.b n,.i m,.i e,.b r])):times.wide.Kn :=
  Ak (A1 hk _ _ _) Tryz.func238 (by kernel_rfl) (by kernel_rfl) h
def times.Mul.Bb:List (Nat × Entry):=[(237,Ci.G2.spec),(155,soft.Kind.spec),(213,soft.Sign.spec),(234,times.nan.spec),(236,times.norm.spec),(235,times.signed.spec),(238,times.wide.spec)]
def times.Mul.E:Env:=Bc (Ba times.Mul.Bb) (fun _=>false) (fun _=>none) (fun _=>none)
theorem times.Mul.ev (N:Nat) (a b:Int):Bw times.Mul.E N Tryz.f208 (Am Tryz.f208) [.int .u64 a,.int .u64 b]=bif (Ai a) then bif (Ai b) then bif (Ai a) then bif (Ai b) then bif (Ai a&&Ai b) then bif (Akm a b) then some (.tup [.int .u64 9221120237041090560,.int .u8 0]) else bif ((((A3 a)==(3:Int))&&((A3 b)==(0:Int)))||(((A3 a)==(0:Int))&&((A3 b)==(3:Int)))) then some (.tup [.int .u64 9221120237041090560,.int .u8 16]) else bif (((A3 a)==(3:Int))||((A3 b)==(3:Int))) then bif (Ai 9218868437227405312) then some (.tup [.int .u64 (P8 (!((Dv a)==(Dv b))) 9218868437227405312),.int .u8 0]) else none else bif (((A3 a)==(0:Int))||((A3 b)==(0:Int))) then bif (Ai 0) then some (.tup [.int .u64 (P8 (!((Dv a)==(Dv b))) 0),.int .u8 0]) else none else bif (Ai a&&Ky a) then bif (Ai b&&Ky b) then bif (Ai (Cl a)&&Ai (Cl b)) then bif (Na (Hr .u64 (Br .u64 (Qb (Cl a) (Cl b)) 20) (Dg .u64 (Lz (Cl a) (Cl b)) 44)) (Ab ((Ab ((Gg a)+(Gg b)))+44))) then some (.tup [.int .u64 (Eh (!((Dv a)==(Dv b))) (Hr .u64 (Br .u64 (Qb (Cl a) (Cl b)) 20) (Dg .u64 (Lz (Cl a) (Cl b)) 44)) (Ab ((Ab ((Gg a)+(Gg b)))+44)) ((Br .u64 (Lz (Cl a) (Cl b)) 20) !=(0:Int))),.int .u8 (Eg (!((Dv a)==(Dv b))) (Hr .u64 (Br .u64 (Qb (Cl a) (Cl b)) 20) (Dg .u64 (Lz (Cl a) (Cl b)) 44)) (Ab ((Ab ((Gg a)+(Gg b)))+44)) ((Br .u64 (Lz (Cl a) (Cl b)) 20) !=(0:Int)))]) else none else none else none else none else none else none else none else none else none :=
  Eq.trans (by kernel_rfl)
  (Es (Es (Es (Es (Es (Es rfl (Ap (N4 ((A3 a)==(3:Int))) (Ap (Ki ((A3 a)==(3:Int))) (Ap (Sr ((A3 a)==(3:Int))) (Ap (Ati ((A3 a)==(3:Int)) ((A3 b)==(0:Int))) (Ap (Ano ((A3 a)==(3:Int)) ((A3 b)==(0:Int))) (Ap (Ano ((A3 a)==(3:Int)) ((A3 b)==(0:Int))) (Ap (Atj ((A3 a)==(3:Int)) ((A3 b)==(0:Int)) ((A3 a)==(0:Int))) (Ap (Atk ((A3 a)==(3:Int)) ((A3 b)==(0:Int)) ((A3 a)==(0:Int))) (Ap (Atl ((A3 a)==(3:Int)) ((A3 b)==(0:Int)) ((A3 a)==(0:Int))) (Ap (Atm ((A3 a)==(3:Int)) ((A3 b)==(0:Int))) (Da (Atn ((A3 a)==(3:Int)) ((A3 b)==(0:Int)) ((A3 a)==(0:Int)) ((A3 b)==(3:Int))) rfl (Ap (Ul ((A3 a)==(3:Int))) (Ap (Q9 ((A3 a)==(3:Int))) (Ap (tt6 ((A3 a)==(3:Int))) (Da (tt5 ((A3 a)==(3:Int)) ((A3 b)==(3:Int))) rfl (Ap (Ul ((A3 a)==(0:Int))) (Ap (Q9 ((A3 a)==(0:Int))) (Ap (tt6 ((A3 a)==(0:Int))) (Da (tt5 ((A3 a)==(0:Int)) ((A3 b)==(0:Int))) rfl rfl)))))))))))))))))))) rfl) rfl) rfl) rfl) rfl)
abbrev _root_.Go.Proofs.S1.times.Mul.Kn:=A6 Tryz.prog 208 times.Mul.spec
theorem times.Mul.Ad (hk:A0 Tryz.prog times.Mul.Bb) (h:∀ (a b:Int),times.Mul.pre [.i a,.i b]=true→Be times.Mul.E Tryz.f208 [.int .u64 a,.int .u64 b] (times.Mul.out [.i a,.i b])):times.Mul.Kn :=
  Ak (A1 hk _ _ _) Tryz.func208 (by kernel_rfl) (by kernel_rfl) h
def times.Div.hint:Nat→Option A8
  | 1=>some { keep:=[6,10,11,12,13,14,78],objs:=[],boxes:=[] }
  | _=>none
def times.Div.Bb:List (Nat × Entry):=[(155,soft.Kind.spec),(213,soft.Sign.spec),(234,times.nan.spec),(236,times.norm.spec),(235,times.signed.spec),(238,times.wide.spec)]
def times.Div.E:Env:=Bc (Ba times.Div.Bb) (fun _=>false) times.Div.hint (fun _=>none)
def times.Div.L0 (N M:Nat) (a b:Int) (p13 p14 p78:Int):Option DV:=B3 times.Div.E N Tryz.f209 (Am Tryz.f209) [1,1,1,1,1,1,1,0,1,0] [] M ⟨Gb 104 [(6,.bool (!((Dv a)==(Dv b)))),(10,.int .i64 (Gg a)),(11,.int .u64 (Cl b)),(12,.int .i64 (Gg b)),(13,.int .u64 p13),(14,.int .u64 p14),(78,.int .i64 p78)],[]⟩
theorem times.Div.Au (N M:Nat) (a b:Int) (p13 p14 p78:Int):times.Div.L0 N (M+1) a b p13 p14 p78=bif (A2 p78 61) then bif (D1 (Cl b) (Br .u64 p14 1)) then times.Div.L0 N M a b (Hr .u64 (Br .u64 p13 1) 1) (A9 ((Br .u64 p14 1)-(Cl b))) (Ab (p78+1)) else times.Div.L0 N M a b (Br .u64 p13 1) (Br .u64 p14 1) (Ab (p78+1)) else bif (Na p13 (Ab ((Ab ((Gg a)-(Gg b)))-61))) then some (.tup [.int .u64 (Eh (!((Dv a)==(Dv b))) p13 (Ab ((Ab ((Gg a)-(Gg b)))-61)) (p14 !=(0:Int))),.int .u8 (Eg (!((Dv a)==(Dv b))) p13 (Ab ((Ab ((Gg a)-(Gg b)))-61)) (p14 !=(0:Int)))]) else none:=by kernel_rfl
theorem times.Div.ev (N:Nat) (a b:Int):Bw times.Div.E N Tryz.f209 (Am Tryz.f209) [.int .u64 a,.int .u64 b]=bif (Ai a) then bif (Ai b) then bif (Ai a) then bif (Ai b) then bif (Ai a&&Ai b) then bif (Akm a b) then some (.tup [.int .u64 9221120237041090560,.int .u8 0]) else bif ((((A3 a)==(3:Int))&&((A3 b)==(3:Int)))||(((A3 a)==(0:Int))&&((A3 b)==(0:Int)))) then some (.tup [.int .u64 9221120237041090560,.int .u8 16]) else bif ((A3 a)==(3:Int)) then bif (Ai 9218868437227405312) then some (.tup [.int .u64 (P8 (!((Dv a)==(Dv b))) 9218868437227405312),.int .u8 0]) else none else bif (((A3 b)==(3:Int))||((A3 a)==(0:Int))) then bif (Ai 0) then some (.tup [.int .u64 (P8 (!((Dv a)==(Dv b))) 0),.int .u8 0]) else none else bif ((A3 b)==(0:Int)) then bif (Ai 9218868437227405312) then some (.tup [.int .u64 (P8 (!((Dv a)==(Dv b))) 9218868437227405312),.int .u8 8]) else none else bif (Ai a&&Ky a) then bif (Ai b&&Ky b) then bif ((Cl b) !=0) then bif ((Cl b) !=0) then times.Div.L0 N N a b (A9 (Int.tdiv (Cl a) (Cl b))) (Int.tmod (Cl a) (Cl b)) (0:Int) else none else none else none else none else none else none else none else none else none :=
  Eq.trans (by kernel_rfl)
  (Es (Es (Es (Es (Es (Es rfl (Ap (N4 ((A3 a)==(3:Int))) (Ap (Ki ((A3 a)==(3:Int))) (Ap (Sr ((A3 a)==(3:Int))) (Ap (Ati ((A3 a)==(3:Int)) ((A3 b)==(3:Int))) (Ap (Ano ((A3 a)==(3:Int)) ((A3 b)==(3:Int))) (Ap (Ano ((A3 a)==(3:Int)) ((A3 b)==(3:Int))) (Ap (Atj ((A3 a)==(3:Int)) ((A3 b)==(3:Int)) ((A3 a)==(0:Int))) (Ap (Atk ((A3 a)==(3:Int)) ((A3 b)==(3:Int)) ((A3 a)==(0:Int))) (Ap (Atl ((A3 a)==(3:Int)) ((A3 b)==(3:Int)) ((A3 a)==(0:Int))) (Ap (Atm ((A3 a)==(3:Int)) ((A3 b)==(3:Int))) (Da (Atn ((A3 a)==(3:Int)) ((A3 b)==(3:Int)) ((A3 a)==(0:Int)) ((A3 b)==(0:Int))) rfl (Es rfl (Ap (Ul ((A3 b)==(3:Int))) (Ap (Q9 ((A3 b)==(3:Int))) (Ap (tt6 ((A3 b)==(3:Int))) (Da (tt5 ((A3 b)==(3:Int)) ((A3 a)==(0:Int))) rfl (Es rfl (Es (Es (Da (De ((Cl b) !=0)) (Da (De ((Cl b) !=0)) rfl rfl) rfl) rfl) rfl))))))))))))))))))) rfl) rfl) rfl) rfl) rfl)
abbrev _root_.Go.Proofs.S1.times.Div.Kn:=A6 Tryz.prog 209 times.Div.spec
theorem times.Div.Ad (hk:A0 Tryz.prog times.Div.Bb) (h:∀ (a b:Int),times.Div.pre [.i a,.i b]=true→Be times.Div.E Tryz.f209 [.int .u64 a,.int .u64 b] (times.Div.out [.i a,.i b])):times.Div.Kn :=
  Ak (A1 hk _ _ _) Tryz.func209 (by kernel_rfl) (by kernel_rfl) h
end EqTimes
open EqBits6 EqTimes
theorem Acx {n:Nat} (h0:n≠0) (h:n<2^64):Go.Lib.bitLen n=n.log2+1:=by
  have h1:=Nat.log2_self_le h0
  have h2:=Nat.lt_log2_self (n:=n)
  have hp:=B8 n.log2
  have e:n / 2^n.log2=1:=by
    rw [Nat.pow_succ] at h2
    exact Nat.div_eq_of_lt_le (by omega) (by omega)
  have e1:Go.Lib.bitLen 1=1:=by decide
  rw [Go.Lib.bitLen_shift n.log2 n h1 h,e,e1]
theorem Ci.J8.known:Ci.J8.Kn:=by
  refine ⟨?_,Ci.J8.call⟩
  intro args ha
  simp only [Ci.J8.spec,entry] at ha ⊢
  cases hd:Ln [.i .u64] args with
  | none=>rw [hd] at ha; cases ha
  | some ats =>
    rw [hd] at ha
    simp only at ha ⊢
    obtain ⟨ds,h1,h2⟩:=L8 hd
    obtain ⟨x,_,_,rfl,rfl,he⟩:=h1.Alk
    obtain ⟨rfl,rfl⟩:=he.Zk
    obtain ⟨n,rfl,hn⟩:=Bu (x:=x) ha
    refine N3.args ?_ h2
    intro w vals I hI hv
    obtain ⟨u,us,e1,e2,e3⟩:=hv
    simp only [Aj] at e2
    have e3:us=[]:=e3
    subst e2 e3
    have e4:vals=#[.int .u64 (n:Int)]:=Array.ext' e1
    subst e4
    refine (Ci.J8.run n w (by omega) (by omega)).mono ?_
    rintro e w' ⟨rfl,rfl⟩
    refine ⟨_,fun _=>none,rfl,Go.RowKit.Below.refl _ _,⟨fun i b h=>(by cases h),fun i j b h=>(by cases h)⟩,?_⟩
    show Aj _ _ (DV.int .i64 (Ei n)) _
    simp only [Aj]
    congr 1
    unfold Ei
    rw [Auv]
    by_cases h0:n=0
    · subst h0; rfl
    · rw [Acx h0 hn,if_neg (by omega)]; rfl
theorem Alf {n:Nat} (hn:n<2^64):0≤Ei n∧Ei n≤64:=by
  unfold Ei
  rw [Auv]
  by_cases h0:n=0
  · subst h0; decide
  · have:=(Nat.log2_lt h0).2 hn
    rw [if_neg (by omega)]; omega
theorem Ci.Bo.known:Ci.Bo.Kn:=Ci.Bo.Ad (.cons Ci.J8.known .nil) fun x hp=>by
  obtain ⟨n,rfl,hn⟩:=Bu (x:=x) hp
  have:=Alf hn
  refine ⟨0,Ci.Bo.out [.i n],[],?_,.int⟩
  rw [Ci.Bo.ev,B5 hn,Aut,Al (by omega) (by omega)]
  rfl
theorem Ii {a b:Nat} (ha:a<4294967296) (hb:b<4294967296):a*b≤18446744065119617025 :=
  Nat.le_trans (Nat.mul_le_mul (show a≤4294967295 by omega) (show b≤4294967295 by omega)) (by decide)
theorem Akq (x y:Nat) (hx:x<2^64) (hy:y<2^64) :
    x*y / 18446744073709551616=(x / 2^32)*(y / 2^32)+((x / 2^32)*(y%2^32)+(x%2^32)*(y%2^32) / 2^32) / 2^32 +
      (((x / 2^32)*(y%2^32)+(x%2^32)*(y%2^32) / 2^32)%2^32+(x%2^32)*(y / 2^32)) / 2^32:=by
  have ex:x=x / 2^32*4294967296+x%2^32:=by omega
  have ey:y=y / 2^32*4294967296+y%2^32:=by omega
  have ha:x / 2^32<4294967296:=by omega
  have hc:y / 2^32<4294967296:=by omega
  have hb:x%2^32<4294967296:=by omega
  have hd:y%2^32<4294967296:=by omega
  generalize x / 2^32=a at *
  generalize x%2^32=b at *
  generalize y / 2^32=c at *
  generalize y%2^32=d at *
  have e:x*y=a*c*18446744073709551616+(a*d+b*c)*4294967296+b*d:=by
    rw [ex,ey,Nat.add_mul,Nat.mul_add,Nat.mul_add]
    have e1:a*4294967296*(c*4294967296)=a*c*18446744073709551616:=by
      rw [Nat.mul_mul_mul_comm]
    have e2:a*4294967296*d=a*d*4294967296:=Nat.mul_right_comm _ _ _
    have e3:b*(c*4294967296)=b*c*4294967296:=(Nat.mul_assoc _ _ _).symm
    rw [e1,e2,e3]
    omega
  have b1:=Ii ha hc
  have b2:=Ii ha hd
  have b3:=Ii hb hc
  have b4:=Ii hb hd
  rw [e]
  clear e ex ey
  generalize a*c=p at *
  generalize a*d=q at *
  generalize b*c=r at *
  generalize b*d=s at *
  omega
theorem Ci.G2.known:Ci.G2.Kn:=Ci.G2.Ad .nil fun x y hp=>by
  obtain ⟨h1,h2⟩:=Ae.1 hp
  obtain ⟨x,rfl,hx⟩:=Bu h1
  obtain ⟨y,rfl,hy⟩:=Bu h2
  refine ⟨0,Ci.G2.out [.i x,.i y],[],?_,Wk.Gu (.cons .int (.cons .int .nil))⟩
  show _=some (DV.tup [.int .u64 (Qb x y),.int .u64 (Lz x y)])
  have s32:∀ n:Nat,Dg .u64 (n:Int) (32:Int)=((n / 2^32:Nat):Int):=fun n=>Gr .u64 n 32 (by decide)
  have m32:∀ n:Nat,n<2^64→Fs .u64 (n:Int) (4294967295:Int)=((n%2^32:Nat):Int):=fun n hn=>Hl 32 hn (by decide)
  have ha:x / 2^32<4294967296:=by omega
  have hc:y / 2^32<4294967296:=by omega
  have hb:x%2^32<4294967296:=by omega
  have hd:y%2^32<4294967296:=by omega
  have b1:=Ii ha hc
  have b2:=Ii ha hd
  have b3:=Ii hb hc
  have b4:=Ii hb hd
  have hhi:=Akq x y hx hy
  have wn:∀ n:Nat,n<2^64→A9 (n:Int)=n:=fun n hn=>Co (by omega) (by omega)
  have hlt:x*y / 18446744073709551616<2^64:=by
    rw [Nat.div_lt_iff_lt_mul (by decide)]
    have:=Nat.mul_le_mul (show x≤18446744073709551615 by omega) (show y≤18446744073709551615 by omega)
    omega
  rw [Ci.G2.ev]
  simp only [s32,m32 x hx,m32 y hy]
  generalize hA:x / 2^32=a at *
  generalize hB:x%2^32=b at *
  generalize hC:y / 2^32=c at *
  generalize hD:y%2^32=d at *
  simp only [← Ave]
  rw [wn (a*c) (by omega),wn (a*d) (by omega),wn (b*c) (by omega),wn (b*d) (by omega),s32]
  simp only [← Int.natCast_add]
  rw [wn (a*d+b*d / 2^32) (by omega),s32,m32 _ (by omega)]
  simp only [← Int.natCast_add]
  rw [wn (a*c+(a*d+b*d / 2^32) / 2^32) (by omega),wn _ (by omega),s32]
  simp only [← Int.natCast_add]
  rw [← hhi,wn _ hlt]
  unfold Qb Lz
  rw [Auv,Auv,Rb]
  congr 3
theorem times.signed.known:times.signed.Kn:=times.signed.Ad (.cons soft.Fy.known .nil) fun b n hp=>by
  have hp:Ai b=true:=hp
  refine ⟨0,times.signed.out [.i b,.b n],[],?_,.int⟩
  rw [times.signed.ev,hp]
  cases n<;>rfl
theorem times.nan.known:times.nan.Kn:=times.nan.Ad (.cons soft.Kind.known .nil) fun a b hp=>by
  obtain ⟨ha,hb⟩:=Ae.1 hp
  refine ⟨0,times.nan.out [.i a,.i b],[],?_,.bool⟩
  rw [times.nan.ev,ha,hb,Aut,Aut]
  show _=some (DV.bool (decide (A3 a=4)||decide (A3 b=4)))
  by_cases h1:A3 a=4
  · rw [h1]; rfl
  · have e1:(A3 a==(4:Int))=false:=by simp; exact h1
    rw [e1,Auy h1,Aux]
    by_cases h2:A3 b=4
    · rw [h2]; rfl
    · have e2:(A3 b==(4:Int))=false:=by simp; exact h2
      rw [e2,Auy h2]; rfl
theorem Mz {n:Nat} (h:Ar n≠0):(Ar n).log2≤52∧2^52≤Ar n*2^B1 n∧Ar n*2^B1 n<2^53∧B1 n≤52:=by
  have h1:=Eo n
  have h2:(Ar n).log2<53:=(Nat.log2_lt h).2 (by omega)
  have hz:=O0 (Ar n) (B1 n) h
  have hne:Ar n*2^B1 n≠0:=Jj h
  have hl:(Ar n*2^B1 n).log2=52:=by rw [hz]; unfold B1; omega
  refine ⟨by omega,?_,?_,by unfold B1; omega⟩
  · rw [← Nat.le_log2 hne]; omega
  · rw [← Nat.log2_lt hne]; omega
theorem times.norm.known:times.norm.Kn:=times.norm.Ad (.cons Ci.Bo.known (.cons soft.Fk.known .nil)) fun b hp=>by
  obtain ⟨h1,h2⟩:=Ae.1 hp
  obtain ⟨n,rfl,hn⟩:=Bu h1
  have h2:Ar n≠0:=Aq.1 h2
  obtain ⟨l1,l2,l3,l4⟩:=Mz h2
  have hM:=Eo n
  have hE:=Dc n
  refine ⟨0,times.norm.out [.i n],[],?_,Wk.Gu (.cons .int (.cons .int .nil))⟩
  show _=some (DV.tup [.int .u64 (Cl n),.int .i64 (Gg n)])
  have e1:Bh (n:Int)=(Ar n:Int):=rfl
  have e2:Az (n:Int)=Aw n:=rfl
  have e3:Ei (Ar n:Int)=((Ar n).log2:Int)+1:=by
    unfold Ei
    rw [if_neg (by omega),Auv]
  have e4:Ab ((64-(((Ar n).log2:Int)+1))-(11:Int))=((B1 n:Nat):Int):=by
    rw [Al (by omega) (by omega)]; unfold B1; omega
  rw [times.norm.ev,B5 hn,e1,e2,B5 (n:=Ar n) (by omega),e3,e4,E2 _ _ (by omega),Au6 (by omega),Al (by omega) (by omega),Auu (by omega)]
  rfl
theorem Ajo {V t:Nat} {E:Int} (h0:V≠0) (h:V<2^t) (hE:E+t≤-1075):B7 V E=0∧flagsOf V E=3:=by
  have hl:V.log2<t:=(Nat.log2_lt h0).2 h
  have hL:Cb V E=-1074:=by unfold Cb; omega
  obtain ⟨k,hk⟩:∃ k:Nat,(-1074-E).toNat=t+1+k:=⟨(-1074-E).toNat-t-1,by omega⟩
  have hp:2^(t+1)≤2^(t+1+k):=Au8 (by decide) (by omega)
  have ht:2^(t+1)=2*2^t:=by rw [Nat.pow_succ]; omega
  have e2:(-(-1074-E)).toNat=0:=by omega
  have hr:I8 V (-1074-E)=0:=by
    unfold I8 Me
    rw [e2,hk,Nat.pow_zero,Nat.mul_one,Nat.div_eq_of_lt (by omega),Au6 (by omega),if_neg (by omega)]
  have hru:B7 V E=0:=by
    unfold B7 kept
    rw [if_neg h0,hL,hr]
    simp
  refine ⟨hru,?_⟩
  unfold flagsOf exact Lc
  rw [if_neg h0,hru,hL,e2,hk,Nat.pow_zero,Nat.mul_one,Au6 (by omega),Auy h0]
  decide
theorem Ahw (n:Bool) {m:Nat} {e:Int} (r:Bool) (hm:1<m) (he:e < -1130):Fx n (m / 2) (e+1) (r||decide (m%2=1))=Fx n m e r:=by
  have e1:(4*m+r.toNat) / 2^3=m / 2:=by cases r<;>simp<;>omega
  have e2:(r||decide (m%2=1))=decide ((4*m+r.toNat)%2^3≠0):=by
    rw [Au9]
    cases r
    · simp; omega
    · simp; omega
  have:=R6 n (V:=4*m+r.toNat) (k:=3) (E:=e-2) (e:=e+1) (s:=r||decide (m%2=1)) (by omega) e2 (by omega) (.inr (by omega))
  rw [e1] at this
  exact this
theorem R5 (n:Bool) {e:Int} (r:Bool) (he:e < -1130):Fx n 1 e r=Fx n 0 (-1074) true:=by
  have h1:r.toNat≤1:=by cases r<;>decide
  obtain ⟨a1,a2⟩:=Ajo (V:=4*1+r.toNat) (t:=3) (E:=e-2) (by omega) (by omega) (by omega)
  obtain ⟨b1,b2⟩:=Ajo (V:=4*0+true.toNat) (t:=1) (E:=-1074-2) (by decide) (by decide) (by decide)
  unfold Fx
  rw [a1,a2,b1,b2]
theorem Ags (N:Nat) (n:Bool):∀ (k m:Nat) (e:Int) (r:Bool),1≤m→m<2^62→m≤2^k→-7000≤e→e≤6000→(2^60≤m∨e≤-1130) →
    times.wide.L0 N (k+1) n (m:Int) e r=some (.tup [.int .u64 (((Fx n m e r).1:Nat):Int),.int .u8 (((Fx n m e r).2:Nat):Int)]):=by
  intro k
  induction k with
  | zero =>
    intro m e r h1 h2 h3 h4 h5 h6
    have hm:m=1:=by simp at h3; omega
    subst hm
    rw [times.wide.Au,At,At]
    have c1:decide ((1:Int)<((1:Nat):Int))=false:=by decide
    rw [c1,Bool.and_false,Aux]
    by_cases he:e < -1130
    · have hp:D0 (0:Int) (-1074:Int) true=true:=Aq.2 (by omega)
      rw [Auu he,Aut,hp,Aut,R5 n r he]
      rfl
    · have he:e=-1130:=by omega
      subst he
      have hp:D0 ((1:Nat):Int) (-1130:Int) r=true:=Aq.2 (by omega)
      rw [Auy (by omega),Aux,hp,Aut]
      rfl
  | succ k ih =>
    intro m e r h1 h2 h3 h4 h5 h6
    rw [times.wide.Au,At,At]
    by_cases he:e < -1130
    · by_cases hm:1<m
      · have c1:decide ((1:Int)<(m:Int))=true:=Auu (by omega)
        have e1:Dg .u64 (m:Int) (1:Int)=((m / 2:Nat):Int):=Gr .u64 m 1 (by decide)
        have e2:Fs .u64 (m:Int) (1:Int)=((m%2:Nat):Int):=Hl (a:=m) 1 (by omega) (by decide)
        have e3:(bif r then true else (Fs .u64 (m:Int) (1:Int))==(1:Int))=(r||decide (m%2=1)):=by
          rw [e2]
          cases r
          · rw [Au9]; simp; omega
          · rfl
        rw [Auu he,c1,Auz,Aut,e1,e3,Al (by omega) (by omega)]
        have hk:m / 2≤2^k:=by rw [Nat.pow_succ] at h3; omega
        rw [ih (m / 2) (e+1) _ (by omega) (by omega) hk (by omega) (by omega) (.inr (by omega)),Ahw n r hm he]
      · have hm:m=1:=by omega
        subst hm
        have c1:decide ((1:Int)<((1:Nat):Int))=false:=by decide
        have hp:D0 (0:Int) (-1074:Int) true=true:=Aq.2 (by omega)
        rw [c1,Bool.and_false,Aux,Auu he,Aut,hp,Aut,R5 n r he]
        rfl
    · have hp:D0 (m:Int) e r=true:=Aq.2 ⟨by omega,by omega,by omega,.inl (by omega),fun _=>by omega⟩
      rw [Auy he,Bool.false_and,Aux,Aux,hp,Aut]
      rfl
theorem times.wide.known:times.wide.Kn:=times.wide.Ad (.cons soft.C0.known .nil) fun n m e r hp=>by
  obtain ⟨h1,h2,h3,h4⟩:=Aq.1 (show Na m e=true from hp)
  obtain ⟨m,rfl⟩:∃ k:Nat,m=k:=⟨m.toNat,by omega⟩
  refine ⟨63,times.wide.out [.b n,.i m,.i e,.b r],[],?_,Wk.Gu (.cons .int (.cons .int .nil))⟩
  rw [times.wide.ev,Ags 63 n 62 m e r (by omega) (by omega) (by omega) (by omega) (by omega) (.inl (by omega))]
  rfl
open EqTimes
theorem Pq {b:Nat} (h0:Ao b≠0) (h3:Ao b≠3) (h4:Ao b≠4):Ar b≠0:=by
  have:=Iu b
  unfold Ao at h0 h3 h4
  unfold Ar
  by_cases h1:Em b=2047
  · rw [if_pos h1] at h3 h4
    by_cases h2:Dt b=0
    · rw [if_pos h2] at h3; exact absurd rfl h3
    · rw [if_neg h2] at h4; exact absurd rfl h4
  · rw [if_neg h1] at h0
    by_cases h2:0<Em b
    · rw [if_neg (by omega)]; omega
    · rw [if_neg h2] at h0
      by_cases h5:0<Dt b
      · rw [if_pos (by omega)]; omega
      · rw [if_neg h5] at h0; exact absurd rfl h0
theorem Xz {b:Nat} (h0:Ao b=0):Ar b=0:=by
  unfold Ao at h0
  unfold Ar
  by_cases h1:Em b=2047
  · rw [if_pos h1] at h0; split at h0<;>omega
  · rw [if_neg h1] at h0
    by_cases h2:0<Em b
    · rw [if_pos h2] at h0; omega
    · rw [if_neg h2] at h0
      by_cases h5:0<Dt b
      · rw [if_pos h5] at h0; omega
      · rw [if_pos (by omega)]; omega
theorem Ad9 {x y:Nat} (hx1:2^52≤x) (hx2:x<2^53) (hy1:2^52≤y) (hy2:y<2^53):2^104≤x*y∧x*y<2^106:=by
  have h1:=Nat.mul_le_mul hx1 hy1
  have h2:x*y<2^53*2^53:=Nat.mul_lt_mul'' hx2 hy2
  exact ⟨Nat.le_trans (by decide) h1,Nat.lt_of_lt_of_le h2 (by decide)⟩
theorem An6 {V:Nat} (h:V<2^106):Hr .u64 (Br .u64 ((V / 18446744073709551616:Nat):Int) (20:Int)) (Dg .u64 ((V%18446744073709551616:Nat):Int) (44:Int))=((V / 2^44:Nat):Int):=by
  have e1:Br .u64 ((V / 18446744073709551616:Nat):Int) (20:Int)=((V / 18446744073709551616*2^20%2^64:Nat):Int):=E2 _ 20 (by decide)
  have e2:Dg .u64 ((V%18446744073709551616:Nat):Int) (44:Int)=((V%18446744073709551616 / 2^44:Nat):Int):=Gr .u64 _ 44 (by decide)
  rw [e1,e2,Au6 (by omega),Lq (k:=20) (by omega) (by omega)]
  congr 1
  omega
theorem An5 {V:Nat}:((Br .u64 ((V%18446744073709551616:Nat):Int) (20:Int)) !=(0:Int))=decide (V%2^44≠0):=by
  have e1:Br .u64 ((V%18446744073709551616:Nat):Int) (20:Int)=((V%18446744073709551616*2^20%2^64:Nat):Int):=E2 _ 20 (by decide)
  rw [e1,Au9]
  simp only [bne_iff_ne,ne_eq,Au0]
  omega
theorem Zi (s t:Bool):(!(s==t))=(s !=t):=rfl
theorem w53 {x:Nat} (h:x<2^53):Ai (x:Int)=true:=B5 (by omega)
theorem Aob (n:Bool) {a b:Nat} (ha:Ar a≠0) (hb:Ar b≠0) :
    (bif (Ai (Cl a)&&Ai (Cl b)) then
      bif (Na (Hr .u64 (Br .u64 (Qb (Cl a) (Cl b)) (20:Int)) (Dg .u64 (Lz (Cl a) (Cl b)) (44:Int))) (Ab ((Ab ((Gg a)+(Gg b)))+(44:Int)))) then
        some (DV.tup [.int .u64 (Eh n (Hr .u64 (Br .u64 (Qb (Cl a) (Cl b)) (20:Int)) (Dg .u64 (Lz (Cl a) (Cl b)) (44:Int))) (Ab ((Ab ((Gg a)+(Gg b)))+(44:Int))) ((Br .u64 (Lz (Cl a) (Cl b)) (20:Int)) !=(0:Int))),.int .u8 (Eg n (Hr .u64 (Br .u64 (Qb (Cl a) (Cl b)) (20:Int)) (Dg .u64 (Lz (Cl a) (Cl b)) (44:Int))) (Ab ((Ab ((Gg a)+(Gg b)))+(44:Int))) ((Br .u64 (Lz (Cl a) (Cl b)) (20:Int)) !=(0:Int)))])
      else none
    else none)=some (.tup [.int .u64 ((B0 n (B7 (Ar a*Ar b) (Aw a+Aw b)):Nat):Int),.int .u8 ((flagsOf (Ar a*Ar b) (Aw a+Aw b):Nat):Int)]):=by
  obtain ⟨a1,a2,a3,a4⟩:=Mz ha
  obtain ⟨b1,b2,b3,b4⟩:=Mz hb
  have ea:=Dc a
  have eb:=Dc b
  have ma:Cl (a:Int)=((Ar a*2^B1 a:Nat):Int):=rfl
  have mb:Cl (b:Int)=((Ar b*2^B1 b:Nat):Int):=rfl
  have na:Gg (a:Int)=Aw a-B1 a:=rfl
  have nb:Gg (b:Int)=Aw b-B1 b:=rfl
  have hi:Qb (Cl a) (Cl b)=((Ar a*2^B1 a*(Ar b*2^B1 b) / 18446744073709551616:Nat):Int):=rfl
  have lo:Lz (Cl a) (Cl b)=((Ar a*2^B1 a*(Ar b*2^B1 b)%18446744073709551616:Nat):Int):=rfl
  rw [hi,lo,ma,mb,na,nb,w53 a3,w53 b3,Auz,Aut]
  obtain ⟨v1,v2⟩:=Ad9 a2 a3 b2 b3
  have ev:Ar a*2^B1 a*(Ar b*2^B1 b)=Ar a*Ar b*2^(B1 a+B1 b):=by
    rw [Nat.mul_mul_mul_comm,← Nat.pow_add]
  obtain ⟨s1,s2⟩:=Df (Ar a*Ar b) (B1 a+B1 b) (Aw a+Aw b)
  rw [← ev] at s1 s2
  generalize Ar a*2^B1 a*(Ar b*2^B1 b)=V at *
  rw [An6 v2,An5,Al (x:=_+_) (by rw [Al (by omega) (by omega)]; omega) (by rw [Al (by omega) (by omega)]; omega),Al (by omega) (by omega)]
  have hw:Na ((V / 2^44:Nat):Int) (Aw a-B1 a+(Aw b-B1 b)+44)=true:=Aq.2 ⟨by omega,by omega,by omega,by omega⟩
  rw [hw,Aut]
  unfold Eh Eg
  rw [Auv,R6 n (V:=V) (k:=44) (E:=Aw a+Aw b-((B1 a+B1 b:Nat):Int)) (e:=Aw a-B1 a+(Aw b-B1 b)+44) (s:=decide (V%2^44≠0)) (by omega) rfl (by omega) (.inl (by omega)),s1,s2]
theorem kq (b k:Nat):(((Ao b:Nat):Int)==((k:Nat):Int))=decide (Ao b=k):=by
  rw [Au9]; simp only [beq_iff_eq,Au0]; omega
theorem Xq (n:Bool) {r:Nat} (h:r<2^63):P8 n (r:Int)=((B0 n r:Nat):Int):=by
  unfold P8 B0 Ds
  cases n
  · rfl
  · simp only [if_true]
    rw [Auv,V7 h]
theorem Ab9 (n:Bool):P8 n (9218868437227405312:Int)=((B0 n Gp:Nat):Int):=Xq n (r:=Gp) (by decide)
theorem Xh (n:Bool):P8 n (0:Int)=((B0 n 0:Nat):Int):=Xq n (r:=0) (by decide)
theorem Pw (b:Nat):A3 (b:Int)=((Ao b:Nat):Int):=rfl
theorem Af5 (a b:Nat):Akm (a:Int) (b:Int)=(decide (Ao a=4)||decide (Ao b=4)):=by
  unfold Akm A3
  simp only [Auv]
  rw [Au9]
  simp only [Bool.or_eq_true,Au0]
  omega
theorem k3 (b:Nat):(((Ao b:Nat):Int)==(3:Int))=decide (Ao b=3):=kq b 3
theorem k0 (b:Nat):(((Ao b:Nat):Int)==(0:Int))=decide (Ao b=0):=kq b 0
theorem times.Mul.known:times.Mul.Kn:=times.Mul.Ad (.cons Ci.G2.known (.cons soft.Kind.known (.cons soft.Sign.known (.cons times.nan.known (.cons times.norm.known (.cons times.signed.known (.cons times.wide.known .nil))))))) fun a b hp=>by
  obtain ⟨ha,hb⟩:=Ae.1 hp
  obtain ⟨a,rfl,hn⟩:=Bu ha
  obtain ⟨b,rfl,hm⟩:=Bu hb
  refine ⟨0,times.Mul.out [.i a,.i b],[],?_,Wk.Gu (.cons .int (.cons .int .nil))⟩
  have i1:Ai (9218868437227405312:Int)=true:=B5 (n:=9218868437227405312) (by decide)
  have i2:Ai (0:Int)=true:=B5 (n:=0) (by decide)
  rw [times.Mul.ev,ha,hb,Af5,Pw,Pw,k3,k3,k0,k0,i1,i2,Ab9,Xh,Zi]
  show _=some (DV.tup [.int .u64 (((Kg a b).1:Nat):Int),.int .u8 (((Kg a b).2:Nat):Int)])
  have ea:Dv (a:Int)=Cs a:=rfl
  have eb:Dv (b:Int)=Cs b:=rfl
  rw [ea,eb]
  unfold Kg
  simp only [Auz,Aut]
  by_cases h4:Ao a=4∨Ao b=4
  · have c4:(decide (Ao a=4)||decide (Ao b=4))=true:=by simp; exact h4
    rw [if_pos h4,c4,Aut]; rfl
  · have c4:(decide (Ao a=4)||decide (Ao b=4))=false:=by simp; omega
    rw [if_neg h4,c4,Aux]
    by_cases h3:Ao a=3∨Ao b=3
    · rw [if_pos h3]
      by_cases h0:Ao a=0∨Ao b=0
      · have c0:(decide (Ao a=3)&&decide (Ao b=0)||decide (Ao a=0)&&decide (Ao b=3))=true:=by simp; omega
        rw [if_pos h0,c0,Aut]; rfl
      · have c0:(decide (Ao a=3)&&decide (Ao b=0)||decide (Ao a=0)&&decide (Ao b=3))=false:=by simp; omega
        have c3:(decide (Ao a=3)||decide (Ao b=3))=true:=by simp; omega
        rw [if_neg h0,c0,Aux,c3,Aut]; rfl
    · have c0:(decide (Ao a=3)&&decide (Ao b=0)||decide (Ao a=0)&&decide (Ao b=3))=false:=by simp; omega
      have c3:(decide (Ao a=3)||decide (Ao b=3))=false:=by simp; omega
      rw [if_neg h3,c0,Aux,c3,Aux]
      by_cases h0:Ao a=0∨Ao b=0
      · have c5:(decide (Ao a=0)||decide (Ao b=0))=true:=by simp; exact h0
        have hz:Ar a*Ar b=0:=by
          rcases h0 with h | h
          · rw [Xz h,Nat.zero_mul]
          · rw [Xz h,Nat.mul_zero]
        rw [c5,Aut,hz,Pk,Nq]; rfl
      · have c5:(decide (Ao a=0)||decide (Ao b=0))=false:=by simp; omega
        have pa:=Pq (b:=a) (by omega) (by omega) (by omega)
        have pb:=Pq (b:=b) (by omega) (by omega) (by omega)
        have na:Ky (a:Int)=true:=Aq.2 pa
        have nb:Ky (b:Int)=true:=Aq.2 pb
        rw [c5,Aux,na,nb,Auz,Aut,Aut]
        exact Aob _ pa pb
theorem Amd (N:Nat) {a b:Nat} {X Y:Nat} (hY:0<Y) (hY2:Y<2^53) (hX:X<2*Y) (em:Cl (b:Int)=(Y:Int)):∀ (k i:Nat),k+i=61 →
    times.Div.L0 N (k+1) a b ((X*2^i / Y:Nat):Int) ((X*2^i%Y:Nat):Int) (i:Int) =
      times.Div.L0 N 1 a b ((X*2^61 / Y:Nat):Int) ((X*2^61%Y:Nat):Int) (61:Int):=by
  intro k
  induction k with
  | zero =>
    intro i hi
    have:i=61:=by omega
    subst this
    rfl
  | succ k ih =>
    intro i hi
    have hq:X*2^i / Y<2^62:=by
      rw [Nat.div_lt_iff_lt_mul hY]
      have h1:X*2^i<2*Y*2^i:=(Nat.mul_lt_mul_right (B8 i)).2 hX
      have h2:2*2^i≤2^62:=by
        rw [Nat.mul_comm,← Nat.pow_succ]; exact Au8 (by decide) (by omega)
      have h3:2*2^i*Y≤2^62*Y:=Au5 _ h2
      rw [Nat.mul_right_comm] at h1
      omega
    have hr:X*2^i%Y<Y:=Nat.mod_lt _ hY
    have hd:=Nat.div_add_mod (X*2^i) Y
    have e2:X*2^(i+1)=X*2^i*2:=by rw [Nat.pow_succ,Nat.mul_assoc]
    rw [times.Div.Au,At,Ej,em,Auu (by omega),Aut]
    have s1:Br .u64 ((X*2^i%Y:Nat):Int) (1:Int)=((X*2^i%Y*2:Nat):Int):=by
      have:=E2 (X*2^i%Y) 1 (by decide)
      rw [Au6 (a:=X*2^i%Y*2^1) (by omega)] at this
      exact this
    have s2:Br .u64 ((X*2^i / Y:Nat):Int) (1:Int)=((X*2^i / Y*2^1:Nat):Int):=by
      have:=E2 (X*2^i / Y) 1 (by decide)
      rw [Au6 (a:=X*2^i / Y*2^1) (by omega)] at this
      exact this
    have s3:Hr .u64 ((X*2^i / Y*2^1:Nat):Int) (1:Int)=((X*2^i / Y*2^1+1:Nat):Int):=Lq (k:=1) (b:=1) (by decide) (by omega)
    have ei:Ab ((i:Int)+1)=((i+1:Nat):Int):=by rw [Al (by omega) (by omega)]; rfl
    rw [s1,s2,s3,ei]
    generalize hq':X*2^i / Y=q at *
    generalize hr':X*2^i%Y=r at *
    have step:∀ c,X*2^i*2=Y*(2*q+c)+(2*r-c*Y)→c*Y≤2*r→2*r<c*Y+Y→X*2^(i+1) / Y=2*q+c∧X*2^(i+1)%Y=2*r-c*Y:=fun c h1 h2 h3=>by
      rw [e2,h1]
      constructor
      · rw [Nat.mul_add_div hY,Nat.div_eq_of_lt (by omega)]; omega
      · rw [Nat.mul_add_mod,Au6 (by omega)]
    by_cases hc:Y≤r*2
    · obtain ⟨t1,t2⟩:=step 1 (by rw [Nat.mul_add,Nat.mul_one,Nat.mul_left_comm]; omega) (by omega) (by omega)
      have:=ih (i+1) (by omega)
      rw [t1,t2] at this
      rw [Auu (by omega),Aut,Co (by omega) (by omega)]
      have e3:((r*2:Nat):Int)-(Y:Int)=((2*r-1*Y:Nat):Int):=by omega
      have e4:q*2^1+1=2*q+1:=by omega
      rw [e3,e4]
      exact this
    · obtain ⟨t1,t2⟩:=step 0 (by rw [Nat.add_zero,Nat.mul_left_comm]; omega) (by omega) (by omega)
      have:=ih (i+1) (by omega)
      rw [t1,t2] at this
      rw [Auy (by omega),Aux]
      have e3:r*2=2*r-0*Y:=by omega
      have e4:q*2^1=2*q+0:=by omega
      rw [e3,e4]
      exact this
theorem Ao8 {a b:Nat} (ha:Ar a≠0) (hb:Ar b≠0) :
    times.Div.L0 62 62 a b (A9 (Int.tdiv (Cl a) (Cl b))) (Int.tmod (Cl a) (Cl b)) (0:Int) =
      some (.tup [.int .u64 ((B0 (Cs a !=Cs b) (B7 (Fv (Ar a) (Ar b) 120) (Aw a-Aw b-121)):Nat):Int),.int .u8 ((flagsOf (Fv (Ar a) (Ar b) 120) (Aw a-Aw b-121):Nat):Int)]):=by
  obtain ⟨a1,a2,a3,a4⟩:=Mz ha
  obtain ⟨b1,b2,b3,b4⟩:=Mz hb
  have ea:=Dc a
  have eb:=Dc b
  have ma:Cl (a:Int)=((Ar a*2^B1 a:Nat):Int):=rfl
  have mb:Cl (b:Int)=((Ar b*2^B1 b:Nat):Int):=rfl
  have na:Gg (a:Int)=Aw a-B1 a:=rfl
  have nb:Gg (b:Int)=Aw b-B1 b:=rfl
  have sL:=Adk (Ar a) (Ar b*2^B1 b) (B1 a) 61
  have hpos:0<Ar b*2^B1 b:=by omega
  have hq1:2^53≤Ar a*2^B1 a*2^61 / (Ar b*2^B1 b):=by
    rw [Nat.le_div_iff_mul_le hpos]; omega
  have hqq:2^60≤Ar a*2^B1 a*2^61 / (Ar b*2^B1 b):=by
    rw [Nat.le_div_iff_mul_le hpos]; omega
  have hq2:Ar a*2^B1 a*2^61 / (Ar b*2^B1 b)<2^62:=by
    rw [Nat.div_lt_iff_lt_mul hpos]; omega
  have hstick:Fv (Ar a*2^B1 a) (Ar b*2^B1 b) 61=Fv (Ar a) (Ar b) (61+B1 a-B1 b):=by
    rw [sL]
    have:61+B1 a=61+B1 a-B1 b+B1 b:=by omega
    conv=>lhs; rw [this]
    rw [Aau]
  have hge1:2^53≤Ar a*2^(61+B1 a-B1 b) / Ar b:=by
    have e1:Ar a*2^B1 a*2^61=Ar a*2^(61+B1 a-B1 b)*2^B1 b:=by
      rw [Nat.mul_assoc,← Nat.pow_add,Nat.mul_assoc,← Nat.pow_add]
      congr 2
      omega
    rw [e1,Nat.mul_div_mul_right _ _ (B8 _)] at hq1
    exact hq1
  have hge2:2^53≤Ar a*2^120 / Ar b:=Aq7 (t:=53) (by omega) (by omega) (by have:=Eo b; omega) (by omega)
  obtain ⟨s1,s2⟩:=Adj (X:=Ar a) (Y:=Ar b) (K:=61+B1 a-B1 b) (L:=120) (E:=Aw a-B1 a-(Aw b-B1 b)-61-1) (F:=Aw a-Aw b-121) (by omega) hge1 hge2 (by omega)
  have d1:A9 (Int.tdiv (Cl a) (Cl b))=((Ar a*2^B1 a*2^0 / (Ar b*2^B1 b):Nat):Int):=by
    rw [ma,mb,Hx,Nat.pow_zero,Nat.mul_one]
    have h1:=Nat.div_le_self (Ar a*2^B1 a) (Ar b*2^B1 b)
    have h2:Ar a*2^B1 a / (Ar b*2^B1 b)<2^64:=Nat.lt_of_le_of_lt h1 (Nat.lt_trans a3 (by decide))
    generalize Ar a*2^B1 a / (Ar b*2^B1 b)=q at h2 ⊢
    exact Co (Int.natCast_nonneg q) (by omega)
  have d2:Int.tmod (Cl a) (Cl b)=((Ar a*2^B1 a*2^0%(Ar b*2^B1 b):Nat):Int):=by
    rw [ma,mb,Hw,Nat.pow_zero,Nat.mul_one]
  rw [d1,d2]
  have lp:=Amd 62 (a:=a) (b:=b) hpos b3 (X:=Ar a*2^B1 a) (by omega) mb 61 0 (by omega)
  refine lp.trans ?_
  rw [times.Div.Au,At,na,nb,Auy (by omega),Aux]
  have we:Ab (Ab (Aw a-B1 a-(Aw b-B1 b))-61)=Aw a-B1 a-(Aw b-B1 b)-61:=by
    rw [Al (x:=Aw a-B1 a-(Aw b-B1 b)) (by omega) (by omega),Al (by omega) (by omega)]
  have hne:(((Ar a*2^B1 a*2^61%(Ar b*2^B1 b):Nat):Int) !=(0:Int))=decide (Ar a*2^B1 a*2^61%(Ar b*2^B1 b)≠0):=by
    rw [Au9]; simp only [bne_iff_ne,ne_eq,Au0]; omega
  rw [we,hne]
  have hw:Na ((Ar a*2^B1 a*2^61 / (Ar b*2^B1 b):Nat):Int) (Aw a-B1 a-(Aw b-B1 b)-61)=true:=Aq.2 ⟨by omega,by omega,by omega,by omega⟩
  have hn:Dv (a:Int)=Cs a:=rfl
  have hn':Dv (b:Int)=Cs b:=rfl
  rw [hw,Aut,Zi,hn,hn']
  unfold Eh Eg
  rw [Auv,Ahy _ rfl rfl hq1,hstick,s1,s2]
theorem times.Div.known:times.Div.Kn:=times.Div.Ad (.cons soft.Kind.known (.cons soft.Sign.known (.cons times.nan.known (.cons times.norm.known (.cons times.signed.known (.cons times.wide.known .nil)))))) fun a b hp=>by
  obtain ⟨ha,hb⟩:=Ae.1 hp
  obtain ⟨a,rfl,hn⟩:=Bu ha
  obtain ⟨b,rfl,hm⟩:=Bu hb
  refine ⟨62,times.Div.out [.i a,.i b],[],?_,Wk.Gu (.cons .int (.cons .int .nil))⟩
  have i1:Ai (9218868437227405312:Int)=true:=B5 (n:=9218868437227405312) (by decide)
  have i2:Ai (0:Int)=true:=B5 (n:=0) (by decide)
  rw [times.Div.ev,ha,hb,Af5,Pw,Pw,k3,k3,k0,k0,i1,i2,Ab9,Xh,Zi]
  show _=some (DV.tup [.int .u64 (((Xf a b).1:Nat):Int),.int .u8 (((Xf a b).2:Nat):Int)])
  have ea:Dv (a:Int)=Cs a:=rfl
  have eb:Dv (b:Int)=Cs b:=rfl
  rw [ea,eb]
  unfold Xf
  rw [Auz,Aut,Aut,Aut,Aut,Aut]
  by_cases h4:Ao a=4∨Ao b=4
  · have c4:(decide (Ao a=4)||decide (Ao b=4))=true:=by simp; exact h4
    rw [if_pos h4,c4,Aut]; rfl
  · have c4:(decide (Ao a=4)||decide (Ao b=4))=false:=by simp; omega
    rw [if_neg h4,c4,Aux]
    by_cases h1:Ao a=Ao b∧(Ao a=3∨Ao a=0)
    · have c1:(decide (Ao a=3)&&decide (Ao b=3)||decide (Ao a=0)&&decide (Ao b=0))=true:=by simp; omega
      rw [if_pos h1,c1,Aut]; rfl
    · have c1:(decide (Ao a=3)&&decide (Ao b=3)||decide (Ao a=0)&&decide (Ao b=0))=false:=by simp; omega
      rw [if_neg h1,c1,Aux]
      by_cases h2:Ao a=3
      · rw [if_pos h2,Auu h2,Aut]; rfl
      · rw [if_neg h2,Auy h2,Aux]
        by_cases h3:Ao b=3∨Ao a=0
        · have c3:(decide (Ao b=3)||decide (Ao a=0))=true:=by simp; exact h3
          rw [if_pos h3,c3,Aut]; rfl
        · have c3:(decide (Ao b=3)||decide (Ao a=0))=false:=by simp; omega
          rw [if_neg h3,c3,Aux]
          by_cases h5:Ao b=0
          · rw [if_pos h5,Auu h5,Aut]; rfl
          · rw [if_neg h5,Auy h5,Aux]
            have pa:=Pq (b:=a) (by omega) (by omega) (by omega)
            have pb:=Pq (b:=b) (by omega) (by omega) (by omega)
            have na:Ky (a:Int)=true:=Aq.2 pa
            have nb:Ky (b:Int)=true:=Aq.2 pb
            have hnb:(Cl (b:Int) !=0)=true:=by
              obtain ⟨_,l2,_,_⟩:=Mz pb
              have mb:Cl (b:Int)=((Ar b*2^B1 b:Nat):Int):=rfl
              rw [mb]
              simp only [bne_iff_ne,ne_eq]
              omega
            rw [na,nb,hnb,Auz,Aut,Aut,Aut,Aut,Ao8 pa pb]
namespace EqVec
def Af.Add.Bb:List (Nat × Entry):=[(232,sum.Add.spec)]
def Af.Add.E:Env:=Bc (Ba Af.Add.Bb) (fun _=>false) (fun _=>none) (fun _=>none)
theorem Af.Add.ev (N:Nat) (a b:Int):Bw Af.Add.E N Tryz.f226 (Am Tryz.f226) [.int .u64 a,.int .u64 b]=bif (Ai a&&Ai b) then some (.int .u64 (Kp a b)) else none:=by kernel_rfl
abbrev _root_.Go.Proofs.S1.Af.Add.Kn:=A6 Tryz.prog 226 Af.Add.spec
theorem Af.Add.Ad (hk:A0 Tryz.prog Af.Add.Bb) (h:∀ (a b:Int),Af.Add.pre [.i a,.i b]=true→Be Af.Add.E Tryz.f226 [.int .u64 a,.int .u64 b] (Af.Add.out [.i a,.i b])):Af.Add.Kn :=
  Ak (A1 hk _ _ _) Tryz.func226 (by kernel_rfl) (by kernel_rfl) h
def Af.Sub.Bb:List (Nat × Entry):=[(207,sum.Sub.spec)]
def Af.Sub.E:Env:=Bc (Ba Af.Sub.Bb) (fun _=>false) (fun _=>none) (fun _=>none)
theorem Af.Sub.ev (N:Nat) (a b:Int):Bw Af.Sub.E N Tryz.f156 (Am Tryz.f156) [.int .u64 a,.int .u64 b]=bif (Ai a&&Ai b) then some (.int .u64 (Dr a b)) else none:=by kernel_rfl
abbrev _root_.Go.Proofs.S1.Af.Sub.Kn:=A6 Tryz.prog 156 Af.Sub.spec
theorem Af.Sub.Ad (hk:A0 Tryz.prog Af.Sub.Bb) (h:∀ (a b:Int),Af.Sub.pre [.i a,.i b]=true→Be Af.Sub.E Tryz.f156 [.int .u64 a,.int .u64 b] (Af.Sub.out [.i a,.i b])):Af.Sub.Kn :=
  Ak (A1 hk _ _ _) Tryz.func156 (by kernel_rfl) (by kernel_rfl) h
def Af.Mul.Bb:List (Nat × Entry):=[(208,times.Mul.spec)]
def Af.Mul.E:Env:=Bc (Ba Af.Mul.Bb) (fun _=>false) (fun _=>none) (fun _=>none)
theorem Af.Mul.ev (N:Nat) (a b:Int):Bw Af.Mul.E N Tryz.f157 (Am Tryz.f157) [.int .u64 a,.int .u64 b]=bif (Ai a&&Ai b) then some (.int .u64 (Ek a b)) else none:=by kernel_rfl
abbrev _root_.Go.Proofs.S1.Af.Mul.Kn:=A6 Tryz.prog 157 Af.Mul.spec
theorem Af.Mul.Ad (hk:A0 Tryz.prog Af.Mul.Bb) (h:∀ (a b:Int),Af.Mul.pre [.i a,.i b]=true→Be Af.Mul.E Tryz.f157 [.int .u64 a,.int .u64 b] (Af.Mul.out [.i a,.i b])):Af.Mul.Kn :=
  Ak (A1 hk _ _ _) Tryz.func157 (by kernel_rfl) (by kernel_rfl) h
def Af.fit.Bb:List (Nat × Entry):=[]
def Af.fit.E:Env:=Bc (Ba Af.fit.Bb) (fun _=>false) (fun _=>none) (fun _=>none)
theorem Af.fit.ev (N:Nat) (x y:List Int):Bw Af.fit.E N Tryz.f225 (Am Tryz.f225) [.ints .arg .u64 x,.ints .arg .u64 y]=some (.bool (bif ((List.length x:Int)==(List.length y:Int)) then (D1 (List.length x:Int) 64) else false)) :=
  Eq.trans (by kernel_rfl)
  (Ap (N4 ((List.length x:Int)==(List.length y:Int))) (Ap (Ki ((List.length x:Int)==(List.length y:Int))) (Ap (Ki ((List.length x:Int)==(List.length y:Int))) (Ap (Sr ((List.length x:Int)==(List.length y:Int))) rfl))))
abbrev _root_.Go.Proofs.S1.Af.fit.Kn:=A6 Tryz.prog 225 Af.fit.spec
theorem Af.fit.Ad (hk:A0 Tryz.prog Af.fit.Bb) (h:∀ (x y:List Int),Af.fit.pre [.l x,.l y]=true→Be Af.fit.E Tryz.f225 [.ints .arg .u64 x,.ints .arg .u64 y] (Af.fit.out [.l x,.l y])):Af.fit.Kn :=
  Ak (A1 hk _ _ _) Tryz.func225 (by kernel_rfl) (by kernel_rfl) h
def Af.Od.hint:Nat→Option A8
  | 0=>some { keep:=[0,1,6,13,14],objs:=[],boxes:=[] }
  | _=>none
def Af.Od.Bb:List (Nat × Entry):=[(226,Af.Add.spec),(157,Af.Mul.spec),(225,Af.fit.spec)]
def Af.Od.E:Env:=Bc (Ba Af.Od.Bb) (fun _=>false) Af.Od.hint (fun _=>none)
def Af.Od.L0 (N M:Nat) (x y:List Int) (p6 p14:Int):Option DV:=B3 Af.Od.E N Tryz.f189 (Am Tryz.f189) [1,1,1,0,1,0] [] M ⟨Gb 30 [(0,.ints .arg .u64 x),(1,.ints .arg .u64 y),(6,.int .u64 p6),(13,.int .i64 (List.length x:Int)),(14,.int .i64 p14)],[]⟩
theorem Af.Od.Au (N M:Nat) (x y:List Int) (p6 p14:Int):Af.Od.L0 N (M+1) x y p6 p14=bif (A2 p14 (List.length x:Int)) then bif ((decide (0≤p14))&&(decide (p14<(List.length x:Int)))) then bif ((decide (0≤p14))&&(decide (p14<(List.length y:Int)))) then bif (Ai (List.getD x (Int.toNat p14) 0)&&Ai (List.getD y (Int.toNat p14) 0)) then bif (Ai p6&&Ai (Ek (List.getD x (Int.toNat p14) 0) (List.getD y (Int.toNat p14) 0))) then Af.Od.L0 N M x y (Kp p6 (Ek (List.getD x (Int.toNat p14) 0) (List.getD y (Int.toNat p14) 0))) (Ab (p14+1)) else none else none else none else none else some (.tup [.int .u64 p6,.int .i64 0]) :=
  Eq.trans (by kernel_rfl)
  (Es (Da (Mq (decide (0≤p14)) (decide (p14<(List.length x:Int)))) (Da (Mq (decide (0≤p14)) (decide (p14<(List.length y:Int)))) (Da (De (Ai (List.getD x (Int.toNat p14) 0)&&Ai (List.getD y (Int.toNat p14) 0))) (Da (De (Ai p6&&Ai (Ek (List.getD x (Int.toNat p14) 0) (List.getD y (Int.toNat p14) 0)))) rfl rfl) rfl) rfl) rfl) rfl)
theorem Af.Od.ev (N:Nat) (x y:List Int):Bw Af.Od.E N Tryz.f189 (Am Tryz.f189) [.ints .arg .u64 x,.ints .arg .u64 y]=bif (!(To x y)) then some (.tup [.int .u64 0,.int .i64 3]) else Af.Od.L0 N N x y 0 0:=by kernel_rfl
abbrev _root_.Go.Proofs.S1.Af.Od.Kn:=A6 Tryz.prog 189 Af.Od.spec
theorem Af.Od.Ad (hk:A0 Tryz.prog Af.Od.Bb) (h:∀ (x y:List Int),Af.Od.pre [.l x,.l y]=true→Be Af.Od.E Tryz.f189 [.ints .arg .u64 x,.ints .arg .u64 y] (Af.Od.out [.l x,.l y])):Af.Od.Kn :=
  Ak (A1 hk _ _ _) Tryz.func189 (by kernel_rfl) (by kernel_rfl) h
end EqVec
open Go Go.Den Go.Rnd Go.Proofs Ieee
open EqVec
theorem Af.Add.known:Af.Add.Kn:=Af.Add.Ad (.cons sum.Add.known .nil) fun a b hp=>by
  have hp:(Ai a&&Ai b)=true:=hp
  refine ⟨0,Af.Add.out [.i a,.i b],[],?_,.int⟩
  rw [Af.Add.ev,hp]; rfl
theorem Af.Sub.known:Af.Sub.Kn:=Af.Sub.Ad (.cons sum.Sub.known .nil) fun a b hp=>by
  have hp:(Ai a&&Ai b)=true:=hp
  refine ⟨0,Af.Sub.out [.i a,.i b],[],?_,.int⟩
  rw [Af.Sub.ev,hp]; rfl
theorem Af.Mul.known:Af.Mul.Kn:=Af.Mul.Ad (.cons times.Mul.known .nil) fun a b hp=>by
  have hp:(Ai a&&Ai b)=true:=hp
  refine ⟨0,Af.Mul.out [.i a,.i b],[],?_,.int⟩
  rw [Af.Mul.ev,hp]; rfl
theorem Als (x y:List Int):(bif ((List.length x:Int)==(List.length y:Int)) then (D1 (List.length x:Int) (64:Int)) else false)=To x y:=by
  unfold To
  rw [Ej,Au9]
  by_cases h:x.length=y.length
  · have:((x.length:Int)==(y.length:Int))=true:=by rw [beq_iff_eq]; omega
    rw [this,Aut,Auu h,Bool.true_and,Au0,Au0]; omega
  · have:((x.length:Int)==(y.length:Int))=false:=by rw [beq_eq_false_iff_ne]; omega
    rw [this,Aux,Auy h,Bool.false_and]
theorem Af.fit.known:Af.fit.Kn:=Af.fit.Ad .nil fun x y _=>by
  refine ⟨0,Af.fit.out [.l x,.l y],[],?_,.bool⟩
  rw [Af.fit.ev,Als]; rfl
theorem Zx {x y:List Int}:To x y=true↔x.length=y.length∧x.length≤64:=by unfold To; simp
theorem Acs {l:List Int} {i:Nat} (h:i<l.length):l.drop i=l.getD i 0::l.drop (i+1):=by
  rw [List.drop_eq_getElem_cons h,Au3,Ava h]; rfl
theorem Ama {x y:List Int} {i:Nat} (s:Nat) (hx:i<x.length) (hy:i<y.length) :
    Oc s (x.drop i) (y.drop i)=Oc (H9 s (Kg (x.getD i 0).toNat (y.getD i 0).toNat).1).1 (x.drop (i+1)) (y.drop (i+1)):=by
  rw [Acs hx,Acs hy]; rfl
theorem Amb (N:Nat) {x y:List Int} (hf:To x y=true) (hx:Ah x=true) (hy:Ah y=true):∀ (k i F s:Nat),i+k=x.length→k<F→s<2^64 →
    Af.Od.L0 N F x y (s:Int) (i:Int)=some (.tup [.int .u64 ((Oc s (x.drop i) (y.drop i):Nat):Int),.int .i64 (0:Int)]):=by
  obtain ⟨h1,h2⟩:=Zx.1 hf
  intro k
  induction k with
  | zero =>
    intro i F s hi hF hs
    obtain ⟨F,rfl⟩:∃ G,F=G+1:=⟨F-1,by omega⟩
    rw [Af.Od.Au,At,Auy (by omega),Aux,Au7 (by omega)]
    rfl
  | succ k ih =>
    intro i F s hi hF hs
    obtain ⟨F,rfl⟩:∃ G,F=G+1:=⟨F-1,by omega⟩
    have c1:decide ((i:Int)<(x.length:Int))=true:=Auu (by omega)
    have c2:decide ((i:Int)<(y.length:Int))=true:=Auu (by omega)
    have c3:decide ((0:Int)≤(i:Int))=true:=Auu (by omega)
    have g1:=N2 hx (show i<x.length by omega)
    have g2:=N2 hy (show i<y.length by omega)
    have em:Ek (x.getD i 0) (y.getD i 0)=(((Kg (x.getD i 0).toNat (y.getD i 0).toNat).1:Nat):Int):=rfl
    have ea:∀ t:Nat,Kp (s:Int) (t:Int)=(((H9 s t).1:Nat):Int):=fun t=>rfl
    rw [Af.Od.Au,At,c1,c2,c3,Auv,g1,g2,em,ea,B5 hs,B5 Uz,Auz,Aut,Aut,Aut,Aut,Aut,Al (by omega) (by omega),Ama s (by omega) (by omega)]
    exact ih (i+1) F _ (by omega) (by omega) (Vb hs Uz).1
theorem Af.Od.known:Af.Od.Kn:=Af.Od.Ad (.cons Af.Add.known (.cons Af.Mul.known (.cons Af.fit.known .nil))) fun x y hp=>by
  obtain ⟨h1,hy⟩:=Ae.1 hp
  obtain ⟨hf,hx⟩:=Ae.1 h1
  refine ⟨x.length+1,Af.Od.out [.l x,.l y],[],?_,Wk.Gu (.cons .int (.cons .int .nil))⟩
  rw [Af.Od.ev,hf,Bool.not_true,Aux]
  exact Amb _ hf hx hy x.length 0 _ 0 (by omega) (by omega) (by decide)
namespace EqMat
def Aa.size.Bb:List (Nat × Entry):=[]
def Aa.size.E:Env:=Bc (Ba Aa.size.Bb) (fun _=>false) (fun _=>none) (fun _=>none)
theorem Aa.size.ev (N:Nat) (n:Int):Bw Aa.size.E N Tryz.f204 (Am Tryz.f204) [.int .i64 n]=some (.bool (bif (D1 0 n) then (D1 n 6) else false)) :=
  Eq.trans (by kernel_rfl)
  (Ap (N4 (D1 0 n)) (Ap (Ki (D1 0 n)) (Ap (Sr (D1 0 n)) rfl)))
abbrev _root_.Go.Proofs.S1.Aa.size.Kn:=A6 Tryz.prog 204 Aa.size.spec
theorem Aa.size.Ad (hk:A0 Tryz.prog Aa.size.Bb) (h:∀ (n:Int),Aa.size.pre [.i n]=true→Be Aa.size.E Tryz.f204 [.int .i64 n] (Aa.size.out [.i n])):Aa.size.Kn :=
  Ak (A1 hk _ _ _) Tryz.func204 (by kernel_rfl) (by kernel_rfl) h
def Aa.Check.Bb:List (Nat × Entry):=[(204,Aa.size.spec)]
def Aa.Check.E:Env:=Bc (Ba Aa.Check.Bb) (fun _=>false) (fun _=>none) (fun _=>none)
theorem Aa.Check.ev (N:Nat) (r c:Int) (l:List Int):Bw Aa.Check.E N Tryz.f160 (Am Tryz.f160) [.agg [.int .i64 r,.int .i64 c,.ints .arg .u64 l]]=bif (((!(Bg r))||(!(Bg c)))||((List.length l:Int) !=(Ab (r*c)))) then some (.int .i64 1) else some (.int .i64 0) :=
  Eq.trans (by kernel_rfl)
  (Ap (Aaq (Bg r)) (Ap (Sv (Bg r)) (Ap (Sv (Bg r)) (Ap (Sv (Bg r)) (Ap (Aar (Bg r)) (Ap (Ajk (Bg r) (Bg c)) (Ap (Agx (Bg r) (Bg c)) (Ap (Agx (Bg r) (Bg c)) (Ap (Ajk (Bg r) (Bg c)) (Ap (Agx (Bg r) (Bg c)) (Ap (Ajk (Bg r) (Bg c)) (Ap (Agx (Bg r) (Bg c)) (Ap (Aqw (Bg r) (Bg c)) (Ap (Aqw (Bg r) (Bg c)) (Ap (Ath (Bg r) (Bg c)) (Da (tt38 (Bg r) (Bg c) ((List.length l:Int) !=(Ab (r*c)))) rfl rfl))))))))))))))))
abbrev _root_.Go.Proofs.S1.Aa.Check.Kn:=A6 Tryz.prog 160 Aa.Check.spec
theorem Aa.Check.Ad (hk:A0 Tryz.prog Aa.Check.Bb) (h:∀ (r c:Int) (l:List Int),Aa.Check.pre [.i r,.i c,.l l]=true→Be Aa.Check.E Tryz.f160 [.agg [.int .i64 r,.int .i64 c,.ints .arg .u64 l]] (Aa.Check.out [.i r,.i c,.l l])):Aa.Check.Kn :=
  Ak (A1 hk _ _ _) Tryz.func160 (by kernel_rfl) (by kernel_rfl) h
def Aa.get.Bb:List (Nat × Entry):=[]
def Aa.get.E:Env:=Bc (Ba Aa.get.Bb) (fun _=>false) (fun _=>none) (fun _=>none)
theorem Aa.get.ev (N:Nat) (r c:Int) (l:List Int) (i k:Int):Bw Aa.get.E N Tryz.f193 (Am Tryz.f193) [.agg [.int .i64 r,.int .i64 c,.ints .arg .u64 l],.int .i64 i,.int .i64 k]=bif ((decide (0≤(Ab ((Ab (i*c))+k))))&&(decide ((Ab ((Ab (i*c))+k))<(List.length l:Int)))) then some (.int .u64 (List.getD l (Int.toNat (Ab ((Ab (i*c))+k))) 0)) else none:=by kernel_rfl
abbrev _root_.Go.Proofs.S1.Aa.get.Kn:=A6 Tryz.prog 193 Aa.get.spec
theorem Aa.get.Ad (hk:A0 Tryz.prog Aa.get.Bb) (h:∀ (r c:Int) (l:List Int) (i k:Int),Aa.get.pre [.i r,.i c,.l l,.i i,.i k]=true→Be Aa.get.E Tryz.f193 [.agg [.int .i64 r,.int .i64 c,.ints .arg .u64 l],.int .i64 i,.int .i64 k] (Aa.get.out [.i r,.i c,.l l,.i i,.i k])):Aa.get.Kn :=
  Ak (A1 hk _ _ _) Tryz.func193 (by kernel_rfl) (by kernel_rfl) h
def Aa.two.Bb:List (Nat × Entry):=[(160,Aa.Check.spec)]
def Aa.two.E:Env:=Bc (Ba Aa.two.Bb) (fun _=>false) (fun _=>none) (fun _=>none)
theorem Aa.two.ev (N:Nat) (r c:Int) (l:List Int) (p q:Int) (m:List Int):Bw Aa.two.E N Tryz.f186 (Am Tryz.f186) [.agg [.int .i64 r,.int .i64 c,.ints .arg .u64 l],.agg [.int .i64 p,.int .i64 q,.ints .arg .u64 m]]=bif (((Jp r c l) !=(0:Int))||((Jp p q m) !=(0:Int))) then some (.int .i64 1) else some (.int .i64 0) :=
  Eq.trans (by kernel_rfl)
  (Ap (Ul ((Jp r c l) !=(0:Int))) (Ap (Q9 ((Jp r c l) !=(0:Int))) (Ap (Q9 ((Jp r c l) !=(0:Int))) (Ap (tt6 ((Jp r c l) !=(0:Int))) (Da (tt5 ((Jp r c l) !=(0:Int)) ((Jp p q m) !=(0:Int))) rfl rfl)))))
abbrev _root_.Go.Proofs.S1.Aa.two.Kn:=A6 Tryz.prog 186 Aa.two.spec
theorem Aa.two.Ad (hk:A0 Tryz.prog Aa.two.Bb) (h:∀ (r c:Int) (l:List Int) (p q:Int) (m:List Int),Aa.two.pre [.i r,.i c,.l l,.i p,.i q,.l m]=true→Be Aa.two.E Tryz.f186 [.agg [.int .i64 r,.int .i64 c,.ints .arg .u64 l],.agg [.int .i64 p,.int .i64 q,.ints .arg .u64 m]] (Aa.two.out [.i r,.i c,.l l,.i p,.i q,.l m])):Aa.two.Kn :=
  Ak (A1 hk _ _ _) Tryz.func186 (by kernel_rfl) (by kernel_rfl) h
def Aa.Row.Bb:List (Nat × Entry):=[]
def Aa.Row.E:Env:=Bc (Ba Aa.Row.Bb) (fun _=>false) (fun _=>none) (fun _=>none)
theorem Aa.Row.ev (N:Nat) (r c:Int) (l:List Int) (i f:Int):Bw Aa.Row.E N Tryz.f190 (Am Tryz.f190) [.agg [.int .i64 r,.int .i64 c,.ints .arg .u64 l],.int .i64 i,.int .i64 f]=bif (((decide ((0:Int)≤(Ab ((Ab (i*c))+f))))&&(decide ((Ab ((Ab (i*c))+f))≤(Ab ((Ab (i+1))*c)))))&&((decide ((0:Int)≤(Ab ((Ab (i+1))*c))))&&(decide ((Ab ((Ab (i+1))*c))≤(List.length l:Int))))) then bif (decide (0+(List.length (List.drop (Int.toNat (Ab ((Ab (i*c))+f))) (List.take (Int.toNat (Ab ((Ab (i+1))*c))) l)))≤Gd)) then some (.ints (.own 22 37) .u64 ([]++(List.drop (Int.toNat (Ab ((Ab (i*c))+f))) (List.take (Int.toNat (Ab ((Ab (i+1))*c))) l)))) else none else none :=
  Eq.trans (by kernel_rfl)
  (Da (tt43 (decide ((0:Int)≤(Ab ((Ab (i*c))+f)))) (decide ((Ab ((Ab (i*c))+f))≤(Ab ((Ab (i+1))*c)))) (decide ((0:Int)≤(Ab ((Ab (i+1))*c)))) (decide ((Ab ((Ab (i+1))*c))≤(List.length l:Int)))) rfl rfl)
abbrev _root_.Go.Proofs.S1.Aa.Row.Kn:=A6 Tryz.prog 190 Aa.Row.spec
theorem Aa.Row.Ad (hk:A0 Tryz.prog Aa.Row.Bb) (h:∀ (r c:Int) (l:List Int) (i f:Int),Aa.Row.pre [.i r,.i c,.l l,.i i,.i f]=true→Be Aa.Row.E Tryz.f190 [.agg [.int .i64 r,.int .i64 c,.ints .arg .u64 l],.int .i64 i,.int .i64 f] (Aa.Row.out [.i r,.i c,.l l,.i i,.i f])):Aa.Row.Kn :=
  Ak (A1 hk _ _ _) Tryz.func190 (by kernel_rfl) (by kernel_rfl) h
def Aa.Dk.hint:Nat→Option A8
  | 0=>some { keep:=[1,3,7,8],objs:=[(0,7,100007,.ints 37 .u64 [])],boxes:=[3] }
  | _=>none
def Aa.Dk.Bb:List (Nat × Entry):=[(193,Aa.get.spec)]
def Aa.Dk.E:Env:=Bc (Ba Aa.Dk.Bb) (fun _=>false) Aa.Dk.hint (fun _=>none)
def Aa.Dk.L0 (N M:Nat) (r c:Int) (l:List Int) (k p8:Int) (p7:List Int):Option DV:=B3 Aa.Dk.E N Tryz.f191 (Am Tryz.f191) [1,1,0,1,0] [] M ⟨Gb 24 [(1,.int .i64 k),(3,.ptr 3 0 0),(7,.oref 100007),(8,.int .i64 p8)],[(3,false,.box [.int .i64 r,.int .i64 c,.ints .arg .u64 l]),(100007,false,.ints 37 .u64 p7)]⟩
theorem Aa.Dk.Au (N M:Nat) (r c:Int) (l:List Int) (k p8:Int) (p7:List Int):Aa.Dk.L0 N (M+1) r c l k p8 p7=bif (A2 p8 r) then bif (Dq r c l p8 k) then bif (decide ((List.length p7)+1≤Gd)) then Aa.Dk.L0 N M r c l k (Ab (p8+1)) (p7++[(D4 c l p8 k)]) else none else none else some (.ints (.own 100007 37) .u64 p7):=by kernel_rfl
theorem Aa.Dk.ev (N:Nat) (r c:Int) (l:List Int) (k f:Int):Bw Aa.Dk.E N Tryz.f191 (Am Tryz.f191) [.agg [.int .i64 r,.int .i64 c,.ints .arg .u64 l],.int .i64 k,.int .i64 f] =
  Aa.Dk.L0 N N r c l k f []:=by kernel_rfl
abbrev _root_.Go.Proofs.S1.Aa.Dk.Kn:=A6 Tryz.prog 191 Aa.Dk.spec
theorem Aa.Dk.Ad (hk:A0 Tryz.prog Aa.Dk.Bb) (h:∀ (r c:Int) (l:List Int) (k f:Int),Aa.Dk.pre [.i r,.i c,.l l,.i k,.i f]=true→Be Aa.Dk.E Tryz.f191 [.agg [.int .i64 r,.int .i64 c,.ints .arg .u64 l],.int .i64 k,.int .i64 f] (Aa.Dk.out [.i r,.i c,.l l,.i k,.i f])):Aa.Dk.Kn :=
  Ak (A1 hk _ _ _) Tryz.func191 (by kernel_rfl) (by kernel_rfl) h
def Aa.D3.Bb:List (Nat × Entry):=[]
def Aa.D3.E:Env:=Bc (Ba Aa.D3.Bb) (fun _=>false) (fun _=>none) (fun _=>none)
theorem Aa.D3.ev (N:Nat) (i k:Int):Bw Aa.D3.E N Tryz.f205 (Am Tryz.f205) [.int .i64 i,.int .i64 k]=some (.int .u64 0):=by kernel_rfl
abbrev _root_.Go.Proofs.S1.Aa.D3.Kn:=A6 Tryz.prog 205 Aa.D3.spec
theorem Aa.D3.Ad (hk:A0 Tryz.prog Aa.D3.Bb) (h:∀ (i k:Int),Aa.D3.pre [.i i,.i k]=true→Be Aa.D3.E Tryz.f205 [.int .i64 i,.int .i64 k] (Aa.D3.out [.i i,.i k])):Aa.D3.Kn :=
  Ak (A1 hk _ _ _) Tryz.func205 (by kernel_rfl) (by kernel_rfl) h
def Aa.G4.Bb:List (Nat × Entry):=[]
def Aa.G4.E:Env:=Bc (Ba Aa.G4.Bb) (fun _=>false) (fun _=>none) (fun _=>none)
theorem Aa.G4.ev (N:Nat) (i k:Int):Bw Aa.G4.E N Tryz.f246 (Am Tryz.f246) [.int .i64 i,.int .i64 k]=bif (i==k) then some (.int .u64 4607182418800017408) else some (.int .u64 0):=by kernel_rfl
abbrev _root_.Go.Proofs.S1.Aa.G4.Kn:=A6 Tryz.prog 246 Aa.G4.spec
theorem Aa.G4.Ad (hk:A0 Tryz.prog Aa.G4.Bb) (h:∀ (i k:Int),Aa.G4.pre [.i i,.i k]=true→Be Aa.G4.E Tryz.f246 [.int .i64 i,.int .i64 k] (Aa.G4.out [.i i,.i k])):Aa.G4.Kn :=
  Ak (A1 hk _ _ _) Tryz.func246 (by kernel_rfl) (by kernel_rfl) h
def Aa.E8.Bb:List (Nat × Entry):=[(193,Aa.get.spec)]
def Aa.E8.E:Env:=Bc (Ba Aa.E8.Bb) (fun _=>false) (fun _=>none) (fun _=>none)
theorem Aa.E8.ev (N:Nat) (i k:Int) (r c:Int) (l:List Int):Bw Aa.E8.E N Tryz.f220 (Am Tryz.f220) [.int .i64 i,.int .i64 k,.cellp [.int .i64 r,.int .i64 c,.ints .arg .u64 l]]=bif (Dq r c l k i) then some (.int .u64 (D4 c l k i)) else none:=by kernel_rfl
abbrev _root_.Go.Proofs.S1.Aa.E8.Kn:=A6 Tryz.prog 220 Aa.E8.spec
theorem Aa.E8.Ad (hk:A0 Tryz.prog Aa.E8.Bb) (h:∀ (i k:Int) (r c:Int) (l:List Int),Aa.E8.pre [.i i,.i k,.i r,.i c,.l l]=true→Be Aa.E8.E Tryz.f220 [.int .i64 i,.int .i64 k,.cellp [.int .i64 r,.int .i64 c,.ints .arg .u64 l]] (Aa.E8.out [.i i,.i k,.i r,.i c,.l l])):Aa.E8.Kn :=
  Ak (A1 hk _ _ _) Tryz.func220 (by kernel_rfl) (by kernel_rfl) h
def Aa.Fa.Bb:List (Nat × Entry):=[(193,Aa.get.spec)]
def Aa.Fa.E:Env:=Bc (Ba Aa.Fa.Bb) (fun _=>false) (fun _=>none) (fun _=>none)
theorem Aa.Fa.ev (N:Nat) (i k:Int) (r c:Int) (l:List Int) (x y:Int):Bw Aa.Fa.E N Tryz.f192 (Am Tryz.f192) [.int .i64 i,.int .i64 k,.cellp [.int .i64 r,.int .i64 c,.ints .arg .u64 l],.cellp [.int .i64 x],.cellp [.int .i64 y]]=bif (Dq r c l (Ab (x+i)) (Ab (y+k))) then some (.int .u64 (D4 c l (Ab (x+i)) (Ab (y+k)))) else none:=by kernel_rfl
abbrev _root_.Go.Proofs.S1.Aa.Fa.Kn:=A6 Tryz.prog 192 Aa.Fa.spec
theorem Aa.Fa.Ad (hk:A0 Tryz.prog Aa.Fa.Bb) (h:∀ (i k:Int) (r c:Int) (l:List Int) (x y:Int),Aa.Fa.pre [.i i,.i k,.i r,.i c,.l l,.i x,.i y]=true→Be Aa.Fa.E Tryz.f192 [.int .i64 i,.int .i64 k,.cellp [.int .i64 r,.int .i64 c,.ints .arg .u64 l],.cellp [.int .i64 x],.cellp [.int .i64 y]] (Aa.Fa.out [.i i,.i k,.i r,.i c,.l l,.i x,.i y])):Aa.Fa.Kn :=
  Ak (A1 hk _ _ _) Tryz.func192 (by kernel_rfl) (by kernel_rfl) h
def Aa.G0.Bb:List (Nat × Entry):=[(193,Aa.get.spec),(156,Af.Sub.spec)]
def Aa.G0.E:Env:=Bc (Ba Aa.G0.Bb) (fun _=>false) (fun _=>none) (fun _=>none)
theorem Aa.G0.ev (N:Nat) (i k:Int) (r c:Int) (l:List Int) (p q:Int) (m:List Int):Bw Aa.G0.E N Tryz.f194 (Am Tryz.f194) [.int .i64 i,.int .i64 k,.cellp [.int .i64 r,.int .i64 c,.ints .arg .u64 l],.cellp [.int .i64 p,.int .i64 q,.ints .arg .u64 m]]=bif (Dq r c l i k) then bif (Dq p q m i k) then bif (Ai (D4 c l i k)&&Ai (D4 q m i k)) then some (.int .u64 (Dr (D4 c l i k) (D4 q m i k))) else none else none else none :=
  Eq.trans (by kernel_rfl)
  (Da (De (Dq r c l i k)) (Da (De (Dq p q m i k)) (Da (De (Ai (D4 c l i k)&&Ai (D4 q m i k))) rfl rfl) rfl) rfl)
abbrev _root_.Go.Proofs.S1.Aa.G0.Kn:=A6 Tryz.prog 194 Aa.G0.spec
theorem Aa.G0.Ad (hk:A0 Tryz.prog Aa.G0.Bb) (h:∀ (i k:Int) (r c:Int) (l:List Int) (p q:Int) (m:List Int),Aa.G0.pre [.i i,.i k,.i r,.i c,.l l,.i p,.i q,.l m]=true→Be Aa.G0.E Tryz.f194 [.int .i64 i,.int .i64 k,.cellp [.int .i64 r,.int .i64 c,.ints .arg .u64 l],.cellp [.int .i64 p,.int .i64 q,.ints .arg .u64 m]] (Aa.G0.out [.i i,.i k,.i r,.i c,.l l,.i p,.i q,.l m])):Aa.G0.Kn :=
  Ak (A1 hk _ _ _) Tryz.func194 (by kernel_rfl) (by kernel_rfl) h
def Aa.Ea.Bb:List (Nat × Entry):=[(193,Aa.get.spec)]
def Aa.Ea.E:Env:=Bc (Ba Aa.Ea.Bb) (fun _=>false) (fun _=>none) (fun _=>none)
theorem Aa.Ea.ev (N:Nat) (i k:Int) (r c:Int) (l:List Int) (p q:Int) (m:List Int):Bw Aa.Ea.E N Tryz.f195 (Am Tryz.f195) [.int .i64 i,.int .i64 k,.cellp [.int .i64 r,.int .i64 c,.ints .arg .u64 l],.cellp [.int .i64 p,.int .i64 q,.ints .arg .u64 m]]=bif (A2 i r) then bif (Dq r c l i k) then some (.int .u64 (D4 c l i k)) else none else bif (Dq p q m (Ab (i-r)) k) then some (.int .u64 (D4 q m (Ab (i-r)) k)) else none:=by kernel_rfl
abbrev _root_.Go.Proofs.S1.Aa.Ea.Kn:=A6 Tryz.prog 195 Aa.Ea.spec
theorem Aa.Ea.Ad (hk:A0 Tryz.prog Aa.Ea.Bb) (h:∀ (i k:Int) (r c:Int) (l:List Int) (p q:Int) (m:List Int),Aa.Ea.pre [.i i,.i k,.i r,.i c,.l l,.i p,.i q,.l m]=true→Be Aa.Ea.E Tryz.f195 [.int .i64 i,.int .i64 k,.cellp [.int .i64 r,.int .i64 c,.ints .arg .u64 l],.cellp [.int .i64 p,.int .i64 q,.ints .arg .u64 m]] (Aa.Ea.out [.i i,.i k,.i r,.i c,.l l,.i p,.i q,.l m])):Aa.Ea.Kn :=
  Ak (A1 hk _ _ _) Tryz.func195 (by kernel_rfl) (by kernel_rfl) h
def Aa.G1.Bb:List (Nat × Entry):=[(191,Aa.Dk.spec),(190,Aa.Row.spec),(189,Af.Od.spec)]
def Aa.G1.E:Env:=Bc (Ba Aa.G1.Bb) (fun _=>false) (fun _=>none) (fun _=>none)
theorem Aa.G1.ev (N:Nat) (i k:Int) (r c:Int) (l:List Int) (p q:Int) (m:List Int):Bw Aa.G1.E N Tryz.f188 (Am Tryz.f188) [.int .i64 i,.int .i64 k,.cellp [.int .i64 r,.int .i64 c,.ints .arg .u64 l],.cellp [.int .i64 p,.int .i64 q,.ints .arg .u64 m]]=bif (Vr r c l i&&decide ((0:Int)=0)) then bif (Lp p q m k&&Cu (0≤(0:Int)∧(0:Int)≤p)) then bif ((To (It c l i) (Dy q m k 0 (Int.toNat (p-0)))&&Ah (It c l i))&&Ah (Dy q m k 0 (Int.toNat (p-0)))) then some (.int .u64 (Lw (It c l i) (Dy q m k 0 (Int.toNat (p-0))))) else none else none else none :=
  Eq.trans (by kernel_rfl)
  (Da (De (Vr r c l i&&decide ((0:Int)=0))) (Da (De (Lp p q m k&&Cu (0≤(0:Int)∧(0:Int)≤p))) (Da (De ((To (It c l i) (Dy q m k 0 (Int.toNat (p-0)))&&Ah (It c l i))&&Ah (Dy q m k 0 (Int.toNat (p-0))))) rfl rfl) rfl) rfl)
abbrev _root_.Go.Proofs.S1.Aa.G1.Kn:=A6 Tryz.prog 188 Aa.G1.spec
theorem Aa.G1.Ad (hk:A0 Tryz.prog Aa.G1.Bb) (h:∀ (i k:Int) (r c:Int) (l:List Int) (p q:Int) (m:List Int),Aa.G1.pre [.i i,.i k,.i r,.i c,.l l,.i p,.i q,.l m]=true→Be Aa.G1.E Tryz.f188 [.int .i64 i,.int .i64 k,.cellp [.int .i64 r,.int .i64 c,.ints .arg .u64 l],.cellp [.int .i64 p,.int .i64 q,.ints .arg .u64 m]] (Aa.G1.out [.i i,.i k,.i r,.i c,.l l,.i p,.i q,.l m])):Aa.G1.Kn :=
  Ak (A1 hk _ _ _) Tryz.func188 (by kernel_rfl) (by kernel_rfl) h
end EqMat
open EqMat
theorem K7 {a b:Int} (h1:0≤a) (h2:a<20) (h3:0≤b) (h4:b<20):0≤a*b∧a*b<400:=by
  have:=Int.mul_nonneg h1 h3
  have h5:a*b≤19*19:=Int.mul_le_mul (by omega) (by omega) h3 (by omega)
  omega
theorem Aa.size.known:Aa.size.Kn:=Aa.size.Ad .nil fun n _=>by
  refine ⟨0,Aa.size.out [.i n],[],?_,.bool⟩
  have e:(bif (D1 (0:Int) n) then (D1 n (6:Int)) else false)=Bg n:=by
    unfold Bg
    rw [Ej,Ej]
    cases decide (0≤n)<;>rfl
  rw [Aa.size.ev,e]; rfl
theorem Acw (r c:Int) (l:List Int):(((!(Bg r))||(!(Bg c)))||((List.length l:Int) !=(Ab (r*c))))=!(Av r c l):=by
  unfold Av
  cases h1:Bg r with
  | false=>rfl
  | true =>
    cases h2:Bg c with
    | false=>rfl
    | true =>
      obtain ⟨r1,r2⟩:=G6.1 h1
      obtain ⟨c1,c2⟩:=G6.1 h2
      have:=K7 (a:=r) (b:=c) r1 (by omega) c1 (by omega)
      rw [Al (by omega) (by omega),Au9]
      simp
theorem Aa.Check.known:Aa.Check.Kn:=Aa.Check.Ad (.cons Aa.size.known .nil) fun r c l _=>by
  refine ⟨0,Aa.Check.out [.i r,.i c,.l l],[],?_,.int⟩
  rw [Aa.Check.ev,Acw]
  show _=some (DV.int .i64 (Jp r c l))
  unfold Jp
  cases Av r c l<;>rfl
theorem Gy {c i k:Int} {l:List Int} {R:Int} (h:Dq R c l i k=true):Ab (Ab (i*c)+k)=i*c+k∧0≤i*c+k∧i*c+k<l.length:=by
  obtain ⟨h1,h2,h3,h4,h5,h6,h7,_⟩:=Aq.1 h
  have:=K7 h1 (by omega) h5 (by omega)
  rw [Al (x:=i*c) (by omega) (by omega),Al (by omega) (by omega)]
  omega
theorem Aa.get.known:Aa.get.Kn:=Aa.get.Ad .nil fun r c l i k hp=>by
  obtain ⟨e,h1,h2⟩:=Gy (R:=r) (show Dq r c l i k=true from hp)
  refine ⟨0,Aa.get.out [.i r,.i c,.l l,.i i,.i k],[],?_,.int⟩
  rw [Aa.get.ev,e,Auu h1,Auu h2]
  rfl
theorem Q2 (r c:Int) (l:List Int):((Jp r c l) !=(0:Int))=!(Av r c l):=by
  unfold Jp
  cases Av r c l<;>rfl
theorem Aa.two.known:Aa.two.Kn:=Aa.two.Ad (.cons Aa.Check.known .nil) fun r c l p q m _=>by
  refine ⟨0,Aa.two.out [.i r,.i c,.l l,.i p,.i q,.l m],[],?_,.int⟩
  rw [Aa.two.ev,Q2,Q2]
  show _=some (DV.int .i64 (Su r c l p q m))
  unfold Su
  cases Av r c l<;>cases Av p q m<;>rfl
theorem Aa.Row.known:Aa.Row.Kn:=Aa.Row.Ad .nil fun r c l i f hp=>by
  obtain ⟨h0,hf⟩:=Ae.1 hp
  obtain rfl:=of_decide_eq_true hf
  obtain ⟨hr,hi⟩:=Ae.1 h0
  have hi:=Aq.1 hi
  obtain ⟨R,C,rfl,rfl,r6,c6,hl⟩:=Dd hr
  obtain ⟨I,rfl⟩:∃ k:Nat,i=k:=⟨i.toNat,by omega⟩
  have hm:=K7 (a:=(I:Int)) (b:=(C:Int)) (by omega) (by omega) (by omega) (by omega)
  have hm2:=K7 (a:=(I:Int)+1) (b:=(C:Int)) (by omega) (by omega) (by omega) (by omega)
  have hle:(I+1)*C≤R*C:=Au5 C (by omega)
  have hle2:I*C≤(I+1)*C:=Au5 C (by omega)
  have e1:(I:Int)*(C:Int)=((I*C:Nat):Int):=(Ave _ _).symm
  have e2:((I:Int)+1)*(C:Int)=(((I+1)*C:Nat):Int):=by rw [Ave]; rfl
  refine ⟨0,.ints (.own 22 tB) .u64 (It (C:Int) l (I:Int)),[22],?_,.drop _ _ _ _ (List.mem_singleton.2 rfl)⟩
  rw [Aa.Row.ev,Al (x:=(I:Int)+1) (by omega) (by omega),Al (x:=(I:Int)*(C:Int)) (by omega) (by omega),Int.add_zero,Al (x:=(I:Int)*(C:Int)) (by omega) (by omega),Al (x:=((I:Int)+1)*(C:Int)) (by omega) (by omega)]
  unfold It
  have d1:decide ((0:Int)≤(I:Int)*(C:Int))=true:=Auu (by omega)
  have d2:decide ((I:Int)*(C:Int)≤((I:Int)+1)*(C:Int))=true:=Auu (by rw [e1,e2]; omega)
  have d3:decide ((0:Int)≤((I:Int)+1)*(C:Int))=true:=Auu (by omega)
  have d4:decide (((I:Int)+1)*(C:Int)≤(l.length:Int))=true:=Auu (by rw [e2]; omega)
  have d5:decide (0+(List.drop ((I:Int)*(C:Int)).toNat (List.take (((I:Int)+1)*(C:Int)).toNat l)).length≤Gd)=true:=by
    refine Auu ?_
    rw [List.length_drop,List.length_take]
    unfold Gd
    omega
  rw [d1,d2,d3,d4,d5]
  rfl
theorem Jb (c b i:Int) (n:Nat) (l:List Int):(Dy c l b i n).length=n:=by unfold Dy; rw [List.length_map,List.length_range]
theorem Apb (r c:Int) (l:List Int) (k:Int):Dy c l k 0 (Int.toNat (r-0))=Mk r c l k:=by
  unfold Dy Mk
  rw [Int.sub_zero]
  refine List.map_congr_left fun j _=>?_
  rw [Int.zero_add]
theorem Ac5 {r:Int} (h:0≤r):Cu (0≤(0:Int)∧0≤r)=true:=Aq.2 ⟨Int.le_refl _,h⟩
theorem Amh (N:Nat) {R C K f:Nat} {l:List Int} (r6:R≤6) (c6:C≤6) (hl:l.length=R*C) (hk:K<C):∀ (k i F:Nat),f+i+k=R→k<F →
    Aa.Dk.L0 N F (R:Int) (C:Int) l (K:Int) ((f+i:Nat):Int) (Dy (C:Int) l (K:Int) (f:Int) i)=some (.ints (.own 100007 tB) .u64 (Dy (C:Int) l (K:Int) (f:Int) (R-f))):=by
  intro k
  induction k with
  | zero =>
    intro i F hi hF
    obtain ⟨F,rfl⟩:∃ G,F=G+1:=⟨F-1,by omega⟩
    rw [Aa.Dk.Au,At,Auy (by omega),Aux,show R-f=i by omega]
  | succ k ih =>
    intro i F hi hF
    obtain ⟨F,rfl⟩:∃ G,F=G+1:=⟨F-1,by omega⟩
    have d:decide ((Dy (C:Int) l (K:Int) (f:Int) i).length+1≤Gd)=true:=Auu (by rw [Jb]; unfold Gd; omega)
    rw [Aa.Dk.Au,At,Auu (by omega),Aut,Ft r6 c6 hl (show f+i<R by omega) hk,Aut,d,Aut,Al (by omega) (by omega)]
    have:=ih (i+1) F (by omega) (by omega)
    unfold Dy at this ⊢
    rw [List.range_succ,List.map_append] at this
    exact this
theorem Aa.Dk.known:Aa.Dk.Kn:=Aa.Dk.Ad (.cons Aa.get.known .nil) fun r c l k f hp=>by
  obtain ⟨h0,hf⟩:=Ae.1 (show (Lp r c l k&&Cu (0≤f∧f≤r))=true from hp)
  have hf:=Aq.1 hf
  obtain ⟨hr,hi⟩:=Ae.1 h0
  have hi:=Aq.1 hi
  obtain ⟨R,C,rfl,rfl,r6,c6,hl⟩:=Dd hr
  obtain ⟨K,rfl⟩:∃ j:Nat,k=j:=⟨k.toNat,by omega⟩
  obtain ⟨f,rfl⟩:∃ j:Nat,f=j:=⟨f.toNat,by omega⟩
  refine ⟨8,.ints (.own 100007 tB) .u64 (Dy (C:Int) l (K:Int) (f:Int) (R-f)),[100007],?_,?_⟩
  · rw [Aa.Dk.ev]
    exact Amh 8 r6 c6 hl (by omega) (R-f) 0 8 (by omega) (by omega)
  · show Wk _ _ (DV.ints .fresh .u64 (Dy (C:Int) l (K:Int) (f:Int) (Int.toNat ((R:Int)-(f:Int)))))
    rw [show Int.toNat ((R:Int)-(f:Int))=R-f by omega]
    exact .drop _ _ _ _ (List.mem_singleton.2 rfl)
theorem Im {r c i k:Int} {l:List Int} (h:Av r c l=true) (h1:0≤i) (h2:i<r) (h3:0≤k) (h4:k<c) (R:Int):Dq R c l i k=true:=by
  obtain ⟨R',C,rfl,rfl,r6,c6,hl⟩:=Dd h
  obtain ⟨I,rfl⟩:∃ j:Nat,i=j:=⟨i.toNat,by omega⟩
  obtain ⟨K,rfl⟩:∃ j:Nat,k=j:=⟨k.toNat,by omega⟩
  exact Ft r6 c6 hl (by omega) (by omega)
theorem Aa.D3.known:Aa.D3.Kn:=Aa.D3.Ad .nil fun i k _=>by
  refine ⟨0,Aa.D3.out [.i i,.i k],[],?_,.int⟩
  rw [Aa.D3.ev]; rfl
theorem Aa.G4.known:Aa.G4.Kn:=Aa.G4.Ad .nil fun i k _=>by
  refine ⟨0,Aa.G4.out [.i i,.i k],[],?_,.int⟩
  rw [Aa.G4.ev]
  show _=some (DV.int .u64 (Ca i k))
  unfold Ca
  by_cases h:i=k
  · have:(i==k)=true:=by rw [h]; simp
    rw [this,if_pos h]; rfl
  · have:(i==k)=false:=by simpa using h
    rw [this,if_neg h]; rfl
theorem Aa.E8.known:Aa.E8.Kn:=Aa.E8.Ad (.cons Aa.get.known .nil) fun i k r c l hp=>by
  have hp:Dq r c l k i=true:=hp
  refine ⟨0,Aa.E8.out [.i i,.i k,.i r,.i c,.l l],[],?_,.int⟩
  rw [Aa.E8.ev,hp]; rfl
theorem Aa.Fa.known:Aa.Fa.Kn:=Aa.Fa.Ad (.cons Aa.get.known .nil) fun i k r c l x y hp=>by
  obtain ⟨h1,h2⟩:=Ae.1 hp
  have h2:=Aq.1 h2
  refine ⟨0,Aa.Fa.out [.i i,.i k,.i r,.i c,.l l,.i x,.i y],[],?_,.int⟩
  rw [Aa.Fa.ev,Al (x:=x+i) (by omega) (by omega),Al (x:=y+k) (by omega) (by omega),h1]; rfl
theorem Aa.Ea.known:Aa.Ea.Kn:=Aa.Ea.Ad (.cons Aa.get.known .nil) fun i k r c l p q m hp=>by
  obtain ⟨h1,h2,h3,h4,h5⟩:=Aq.1 (show Lf r c l p q m i k=true from hp)
  refine ⟨0,Aa.Ea.out [.i i,.i k,.i r,.i c,.l l,.i p,.i q,.l m],[],?_,.int⟩
  show _=some (DV.int .u64 (Hp r c l q m i k))
  rw [Aa.Ea.ev,At,Al (x:=i-r) (by omega) (by omega)]
  unfold Hp
  by_cases h:i<r
  · rw [if_pos h] at h5
    rw [Auu h,Aut,h5,Aut,if_pos h]
  · rw [if_neg h] at h5
    rw [Auy h,Aux,h5,Aut,if_neg h]
theorem Qm {R C:Nat} {l:List Int} (hl:l.length=R*C) {I:Nat} (hi:I<R):(It (C:Int) l (I:Int)).length=C:=by
  have hle:(I+1)*C≤R*C:=Au5 C (by omega)
  have e1:((I:Int)*(C:Int)).toNat=I*C:=by rw [← Ave,Auv]
  have e2:(((I:Int)+1)*(C:Int)).toNat=(I+1)*C:=by
    have:((I:Int)+1)*(C:Int)=(((I+1)*C:Nat):Int):=by rw [Ave]; rfl
    rw [this,Auv]
  unfold It
  rw [List.length_drop,List.length_take,e1,e2]
  rw [Nat.add_mul,Nat.one_mul] at hle ⊢
  omega
theorem Ae3 (R:Nat) (C:Int) (l:List Int) (K:Int):(Mk (R:Int) C l K).length=R:=by
  unfold Mk
  rw [List.length_map,List.length_range,Auv]
theorem An0 {c i:Int} {l:List Int} (h:Ah l=true):Ah (It c l i)=true:=by
  have h:=Aq.1 h
  exact Aq.2 fun x hx=>h x (List.mem_of_mem_take (List.mem_of_mem_drop hx))
theorem Hd {c i k:Int} {l:List Int} (h:Ah l=true):Ai (D4 c l i k)=true:=by
  unfold D4
  by_cases hj:(i*c+k).toNat<l.length
  · exact N2 h hj
  · rw [Au3,List.getElem?_eq_none (by omega)]
    exact B5 (n:=0) (by decide)
theorem Apc {r c k:Int} {l:List Int} (h:Ah l=true):Ah (Mk r c l k)=true:=by
  refine Aq.2 fun x hx=>?_
  obtain ⟨j,_,rfl⟩:=List.mem_map.1 hx
  exact Hd h
theorem Aa.G1.known:Aa.G1.Kn:=Aa.G1.Ad (.cons Aa.Dk.known (.cons Aa.Row.known (.cons Af.Od.known .nil))) fun i k r c l p q m hp=>by
  obtain ⟨h1,h2⟩:=Ae.1 (show Qs r c l p q m i k=true from hp)
  obtain ⟨h3,h4⟩:=Ae.1 h1
  obtain ⟨h5,h6⟩:=Ae.1 h2
  obtain ⟨hl,hm⟩:=Ae.1 h5
  obtain rfl:=Aq.1 h6
  obtain ⟨hr,hi⟩:=Ae.1 h3
  have hi:=Aq.1 hi
  obtain ⟨R,C,rfl,rfl,r6,c6,ll⟩:=Dd hr
  obtain ⟨I,rfl⟩:∃ j:Nat,i=j:=⟨i.toNat,by omega⟩
  refine ⟨0,Aa.G1.out [.i I,.i k,.i R,.i C,.l l,.i C,.i q,.l m],[],?_,.int⟩
  have hf:To (It (C:Int) l (I:Int)) (Mk (C:Int) q m k)=true:=Zx.2 ⟨by rw [Qm ll (by omega),Ae3],by rw [Qm ll (by omega)]; omega⟩
  rw [Aa.G1.ev,Apb,h3,h4,hf,An0 hl,Apc hm,Ac5 (by omega)]
  rfl
namespace EqCmp
def compare.Kv.Bb:List (Nat × Entry):=[(213,soft.Sign.spec)]
def compare.Kv.E:Env:=Bc (Ba compare.Kv.Bb) (fun _=>false) (fun _=>none) (fun _=>none)
theorem compare.Kv.ev (N:Nat) (b:Int):Bw compare.Kv.E N Tryz.f214 (Am Tryz.f214) [.int .u64 b]=bif (Ai b) then bif (Dv b) then some (.int .i64 (Ab (0-(Ab (Ny .u64 b 9223372036854775808))))) else some (.int .i64 (Ab b)) else none:=by kernel_rfl
abbrev _root_.Go.Proofs.S1.compare.Kv.Kn:=A6 Tryz.prog 214 compare.Kv.spec
theorem compare.Kv.Ad (hk:A0 Tryz.prog compare.Kv.Bb) (h:∀ (b:Int),compare.Kv.pre [.i b]=true→Be compare.Kv.E Tryz.f214 [.int .u64 b] (compare.Kv.out [.i b])):compare.Kv.Kn :=
  Ak (A1 hk _ _ _) Tryz.func214 (by kernel_rfl) (by kernel_rfl) h
def compare.Order.Bb:List (Nat × Entry):=[(214,compare.Kv.spec),(155,soft.Kind.spec)]
def compare.Order.E:Env:=Bc (Ba compare.Order.Bb) (fun _=>false) (fun _=>none) (fun _=>none)
theorem compare.Order.ev (N:Nat) (a b:Int):Bw compare.Order.E N Tryz.f162 (Am Tryz.f162) [.int .u64 a,.int .u64 b]=bif (Ai a) then bif ((A3 a)==(4:Int)) then some (.tup [.int .i64 0,.bool false]) else bif (Ai b) then bif ((A3 b)==(4:Int)) then some (.tup [.int .i64 0,.bool false]) else bif (Ai a) then bif (Ai b) then bif (A2 (Xv a) (Xv b)) then some (.tup [.int .i64 (-1:Int),.bool true]) else bif (Ai a) then bif (Ai b) then bif (A2 (Xv b) (Xv a)) then some (.tup [.int .i64 1,.bool true]) else some (.tup [.int .i64 0,.bool true]) else none else none else none else none else none else none:=by kernel_rfl
abbrev _root_.Go.Proofs.S1.compare.Order.Kn:=A6 Tryz.prog 162 compare.Order.spec
theorem compare.Order.Ad (hk:A0 Tryz.prog compare.Order.Bb) (h:∀ (a b:Int),compare.Order.pre [.i a,.i b]=true→Be compare.Order.E Tryz.f162 [.int .u64 a,.int .u64 b] (compare.Order.out [.i a,.i b])):compare.Order.Kn :=
  Ak (A1 hk _ _ _) Tryz.func162 (by kernel_rfl) (by kernel_rfl) h
def compare.K5.Bb:List (Nat × Entry):=[(162,compare.Order.spec)]
def compare.K5.E:Env:=Bc (Ba compare.K5.Bb) (fun _=>false) (fun _=>none) (fun _=>none)
theorem compare.K5.ev (N:Nat) (a b:Int):Bw compare.K5.E N Tryz.f90 (Am Tryz.f90) [.int .u64 a,.int .u64 b]=bif (Ai a&&Ai b) then some (.bool (A2 (Ad3 a b) 0)) else none:=by kernel_rfl
abbrev _root_.Go.Proofs.S1.compare.K5.Kn:=A6 Tryz.prog 90 compare.K5.spec
theorem compare.K5.Ad (hk:A0 Tryz.prog compare.K5.Bb) (h:∀ (a b:Int),compare.K5.pre [.i a,.i b]=true→Be compare.K5.E Tryz.f90 [.int .u64 a,.int .u64 b] (compare.K5.out [.i a,.i b])):compare.K5.Kn :=
  Ak (A1 hk _ _ _) Tryz.func90 (by kernel_rfl) (by kernel_rfl) h
def compare.Uk.Bb:List (Nat × Entry):=[]
def compare.Uk.E:Env:=Bc (Ba compare.Uk.Bb) (fun _=>false) (fun _=>none) (fun _=>none)
theorem compare.Uk.ev (N:Nat) (a:Int):Bw compare.Uk.E N Tryz.f87 (Am Tryz.f87) [.int .u64 a]=some (.int .u64 (Ny .u64 a 9223372036854775808)):=by kernel_rfl
abbrev _root_.Go.Proofs.S1.compare.Uk.Kn:=A6 Tryz.prog 87 compare.Uk.spec
theorem compare.Uk.Ad (hk:A0 Tryz.prog compare.Uk.Bb) (h:∀ (a:Int),compare.Uk.pre [.i a]=true→Be compare.Uk.E Tryz.f87 [.int .u64 a] (compare.Uk.out [.i a])):compare.Uk.Kn :=
  Ak (A1 hk _ _ _) Tryz.func87 (by kernel_rfl) (by kernel_rfl) h
def compare.El.hint:Nat→Option A8
  | 1=>some { keep:=[0,6,7,8],objs:=[],boxes:=[] }
  | _=>none
def compare.El.Bb:List (Nat × Entry):=[(155,soft.Kind.spec),(212,soft.C0.spec),(211,soft.Fk.spec),(213,soft.Sign.spec)]
def compare.El.E:Env:=Bc (Ba compare.El.Bb) (fun _=>false) compare.El.hint (fun _=>none)
def compare.El.L0 (N M:Nat) (a p6 p7:Int) (p8:Bool):Option DV:=B3 compare.El.E N Tryz.f161 (Am Tryz.f161) [1,1,1,1,1,1,0,0] [] M ⟨Gb 59 [(0,.int .u64 a),(6,.int .u64 p6),(7,.int .i64 p7),(8,.bool p8)],[]⟩
theorem compare.El.Au (N M:Nat) (a p6 p7:Int) (p8:Bool):compare.El.L0 N (M+1) a p6 p7 p8=bif ((A2 p7 (-1130:Int))&&(A2 1 p6)) then compare.El.L0 N M a (Dg .u64 p6 1) (Ab (p7+1)) (bif p8 then true else ((Fs .u64 p6 1)==(1:Int))) else bif (A2 p7 (-1130:Int)) then bif (Ai a) then bif (D0 0 (-1074:Int) true) then some (.tup [.int .u64 (Eh (Dv a) 0 (-1074:Int) true),.int .u8 (Eg (Dv a) 0 (-1074:Int) true)]) else none else none else bif (Ai a) then bif (D0 p6 p7 p8) then some (.tup [.int .u64 (Eh (Dv a) p6 p7 p8),.int .u8 (Eg (Dv a) p6 p7 p8)]) else none else none :=
  Eq.trans (by kernel_rfl)
  (Ap (N4 (A2 p7 (-1130:Int))) (Ap (Ki (A2 p7 (-1130:Int))) (Ap (Sr (A2 p7 (-1130:Int))) (Da (tt1 (A2 p7 (-1130:Int)) (A2 1 p6)) (Ap (Ul p8) (Ap (Q9 p8) (Ap (Q9 p8) (Ap (tt6 p8) rfl)))) rfl))))
theorem compare.El.ev (N:Nat) (a n:Int):Bw compare.El.E N Tryz.f161 (Am Tryz.f161) [.int .u64 a,.int .i64 n]=bif (Ai a) then bif ((A3 a)==(4:Int)) then some (.tup [.int .u64 9221120237041090560,.int .u8 0]) else bif ((A3 a)==(3:Int)) then bif ((A3 a)==(3:Int)) then some (.tup [.int .u64 a,.int .u8 0]) else bif (Ai a) then compare.El.L0 N N a (Bh a) (Ab ((Az a)+(max (-2300:Int) (min 2300 n)))) false else none else bif ((A3 a)==(0:Int)) then some (.tup [.int .u64 a,.int .u8 0]) else bif (Ai a) then compare.El.L0 N N a (Bh a) (Ab ((Az a)+(max (-2300:Int) (min 2300 n)))) false else none else none:=by kernel_rfl
abbrev _root_.Go.Proofs.S1.compare.El.Kn:=A6 Tryz.prog 161 compare.El.spec
theorem compare.El.Ad (hk:A0 Tryz.prog compare.El.Bb) (h:∀ (a n:Int),compare.El.pre [.i a,.i n]=true→Be compare.El.E Tryz.f161 [.int .u64 a,.int .i64 n] (compare.El.out [.i a,.i n])):compare.El.Kn :=
  Ak (A1 hk _ _ _) Tryz.func161 (by kernel_rfl) (by kernel_rfl) h
def Af.Bx.Bb:List (Nat × Entry):=[(161,compare.El.spec)]
def Af.Bx.E:Env:=Bc (Ba Af.Bx.Bb) (fun _=>false) (fun _=>none) (fun _=>none)
theorem Af.Bx.ev (N:Nat) (a n:Int):Bw Af.Bx.E N Tryz.f88 (Am Tryz.f88) [.int .u64 a,.int .i64 n]=bif (E0 a n) then some (.int .u64 (Ch a n)) else none:=by kernel_rfl
abbrev _root_.Go.Proofs.S1.Af.Bx.Kn:=A6 Tryz.prog 88 Af.Bx.spec
theorem Af.Bx.Ad (hk:A0 Tryz.prog Af.Bx.Bb) (h:∀ (a n:Int),Af.Bx.pre [.i a,.i n]=true→Be Af.Bx.E Tryz.f88 [.int .u64 a,.int .i64 n] (Af.Bx.out [.i a,.i n])):Af.Bx.Kn :=
  Ak (A1 hk _ _ _) Tryz.func88 (by kernel_rfl) (by kernel_rfl) h
def Af.Div.Bb:List (Nat × Entry):=[(209,times.Div.spec)]
def Af.Div.E:Env:=Bc (Ba Af.Div.Bb) (fun _=>false) (fun _=>none) (fun _=>none)
theorem Af.Div.ev (N:Nat) (a b:Int):Bw Af.Div.E N Tryz.f158 (Am Tryz.f158) [.int .u64 a,.int .u64 b]=bif (Ai a&&Ai b) then some (.int .u64 (Ev a b)) else none:=by kernel_rfl
abbrev _root_.Go.Proofs.S1.Af.Div.Kn:=A6 Tryz.prog 158 Af.Div.spec
theorem Af.Div.Ad (hk:A0 Tryz.prog Af.Div.Bb) (h:∀ (a b:Int),Af.Div.pre [.i a,.i b]=true→Be Af.Div.E Tryz.f158 [.int .u64 a,.int .u64 b] (Af.Div.out [.i a,.i b])):Af.Div.Kn :=
  Ak (A1 hk _ _ _) Tryz.func158 (by kernel_rfl) (by kernel_rfl) h
def Af.Cn.hint:Nat→Option A8
  | 0=>some { keep:=[3,6,7,8],objs:=[],boxes:=[] }
  | _=>none
def Af.Cn.Bb:List (Nat × Entry):=[(87,compare.Uk.spec),(155,soft.Kind.spec)]
def Af.Cn.E:Env:=Bc (Ba Af.Cn.Bb) (fun _=>false) Af.Cn.hint (fun _=>none)
def Af.Cn.L0 (N M:Nat) (x:List Int) (p3 p8:Int):Option DV:=B3 Af.Cn.E N Tryz.f89 (Am Tryz.f89) [1,1,0,1,0] [] M ⟨Gb 21 [(3,.int .u64 p3),(6,.ints .arg .u64 x),(7,.int .i64 (List.length x:Int)),(8,.int .i64 p8)],[]⟩
theorem Af.Cn.Au (N M:Nat) (x:List Int) (p3 p8:Int):Af.Cn.L0 N (M+1) x p3 p8=bif (A2 p8 (List.length x:Int)) then bif ((decide (0≤p8))&&(decide (p8<(List.length x:Int)))) then bif (Ai (List.getD x (Int.toNat p8) 0)) then bif ((A3 (List.getD x (Int.toNat p8) 0))==(4:Int)) then some (.int .u64 9221120237041090560) else bif (Ai (List.getD x (Int.toNat p8) 0)) then Af.Cn.L0 N M x (max p3 (Abt (List.getD x (Int.toNat p8) 0))) (Ab (p8+1)) else none else none else none else some (.int .u64 p3):=by kernel_rfl
theorem Af.Cn.ev (N:Nat) (x:List Int):Bw Af.Cn.E N Tryz.f89 (Am Tryz.f89) [.ints .arg .u64 x] =
  Af.Cn.L0 N N x 0 0:=by kernel_rfl
abbrev _root_.Go.Proofs.S1.Af.Cn.Kn:=A6 Tryz.prog 89 Af.Cn.spec
theorem Af.Cn.Ad (hk:A0 Tryz.prog Af.Cn.Bb) (h:∀ (x:List Int),Af.Cn.pre [.l x]=true→Be Af.Cn.E Tryz.f89 [.ints .arg .u64 x] (Af.Cn.out [.l x])):Af.Cn.Kn :=
  Ak (A1 hk _ _ _) Tryz.func89 (by kernel_rfl) (by kernel_rfl) h
def Af.Finite.hint:Nat→Option A8
  | 0=>some { keep:=[5,6,7],objs:=[],boxes:=[] }
  | _=>none
def Af.Finite.Bb:List (Nat × Entry):=[(148,soft.Finite.spec)]
def Af.Finite.E:Env:=Bc (Ba Af.Finite.Bb) (fun _=>false) Af.Finite.hint (fun _=>none)
def Af.Finite.L0 (N M:Nat) (x:List Int) (p7:Int):Option DV:=B3 Af.Finite.E N Tryz.f150 (Am Tryz.f150) [1,0,1,0] [] M ⟨Gb 15 [(5,.ints .arg .u64 x),(6,.int .i64 (List.length x:Int)),(7,.int .i64 p7)],[]⟩
theorem Af.Finite.Au (N M:Nat) (x:List Int) (p7:Int):Af.Finite.L0 N (M+1) x p7=bif (A2 p7 (List.length x:Int)) then bif ((decide (0≤p7))&&(decide (p7<(List.length x:Int)))) then bif (Ai (List.getD x (Int.toNat p7) 0)) then bif (!(Cy (List.getD x (Int.toNat p7) 0))) then some (.bool false) else Af.Finite.L0 N M x (Ab (p7+1)) else none else none else some (.bool true):=by kernel_rfl
theorem Af.Finite.ev (N:Nat) (x:List Int):Bw Af.Finite.E N Tryz.f150 (Am Tryz.f150) [.ints .arg .u64 x] =
  Af.Finite.L0 N N x 0:=by kernel_rfl
abbrev _root_.Go.Proofs.S1.Af.Finite.Kn:=A6 Tryz.prog 150 Af.Finite.spec
theorem Af.Finite.Ad (hk:A0 Tryz.prog Af.Finite.Bb) (h:∀ (x:List Int),Af.Finite.pre [.l x]=true→Be Af.Finite.E Tryz.f150 [.ints .arg .u64 x] (Af.Finite.out [.l x])):Af.Finite.Kn :=
  Ak (A1 hk _ _ _) Tryz.func150 (by kernel_rfl) (by kernel_rfl) h
def Cc.Check.hint:Nat→Option A8
  | 0=>some { keep:=[9,10,11],objs:=[],boxes:=[] }
  | _=>none
def Cc.Check.Bb:List (Nat × Entry):=[(160,Aa.Check.spec),(148,soft.Finite.spec)]
def Cc.Check.E:Env:=Bc (Ba Cc.Check.Bb) (fun _=>false) Cc.Check.hint (fun _=>none)
def Cc.Check.L0 (N M:Nat) (l:List Int) (p11:Int):Option DV:=B3 Cc.Check.E N Tryz.f86 (Am Tryz.f86) [1,1,0,1,0] [] M ⟨Gb 19 [(9,.ints .arg .u64 l),(10,.int .i64 (List.length l:Int)),(11,.int .i64 p11)],[]⟩
theorem Cc.Check.Au (N M:Nat) (l:List Int) (p11:Int):Cc.Check.L0 N (M+1) l p11=bif (A2 p11 (List.length l:Int)) then bif ((decide (0≤p11))&&(decide (p11<(List.length l:Int)))) then bif (Ai (List.getD l (Int.toNat p11) 0)) then bif (!(Cy (List.getD l (Int.toNat p11) 0))) then some (.int .i64 4) else Cc.Check.L0 N M l (Ab (p11+1)) else none else none else some (.int .i64 0):=by kernel_rfl
theorem Cc.Check.ev (N:Nat) (r c:Int) (l:List Int):Bw Cc.Check.E N Tryz.f86 (Am Tryz.f86) [.agg [.int .i64 r,.int .i64 c,.ints .arg .u64 l]]=bif ((Jp r c l) !=(0:Int)) then some (.int .i64 1) else Cc.Check.L0 N N l 0:=by kernel_rfl
abbrev _root_.Go.Proofs.S1.Cc.Check.Kn:=A6 Tryz.prog 86 Cc.Check.spec
theorem Cc.Check.Ad (hk:A0 Tryz.prog Cc.Check.Bb) (h:∀ (r c:Int) (l:List Int),Cc.Check.pre [.i r,.i c,.l l]=true→Be Cc.Check.E Tryz.f86 [.agg [.int .i64 r,.int .i64 c,.ints .arg .u64 l]] (Cc.Check.out [.i r,.i c,.l l])):Cc.Check.Kn :=
  Ak (A1 hk _ _ _) Tryz.func86 (by kernel_rfl) (by kernel_rfl) h
end EqCmp
open EqCmp
theorem Ps {k j:Nat} (h:k≠j):(((k:Nat):Int)==((j:Nat):Int))=false:=by rw [beq_eq_false_iff_ne]; omega
theorem Yv (n:Nat):n%2^63<2^63:=Nat.mod_lt _ (by decide)
theorem Acy {n:Nat} (h:n<2^64):Ny .u64 (n:Int) (9223372036854775808:Int)=((n%2^63:Nat):Int):=by
  have:=N1 (Cs n) (Yv n)
  rw [Xr h] at this
  exact this
theorem compare.Uk.known:compare.Uk.Kn:=compare.Uk.Ad .nil fun a hp=>by
  obtain ⟨n,rfl,hn⟩:=Bu (show Ai a=true from hp)
  refine ⟨0,compare.Uk.out [.i (n:Int)],[],?_,.int⟩
  show _=some (DV.int .u64 (((n:Int).toNat%2^63:Nat):Int))
  rw [compare.Uk.ev,Acy hn,Auv]
theorem compare.Kv.known:compare.Kv.Kn:=compare.Kv.Ad (.cons soft.Sign.known .nil) fun b hp=>by
  have hp:Ai b=true:=hp
  obtain ⟨n,rfl,hn⟩:=Bu hp
  refine ⟨0,compare.Kv.out [.i (n:Int)],[],?_,.int⟩
  show _=some (DV.int .i64 (Ob (n:Int).toNat))
  have h63:=Yv n
  rw [compare.Kv.ev,hp,Aut,Acy hn,Auv]
  unfold Ob Ie Dv
  rw [Auv]
  cases hs:Cs n with
  | true =>
    rw [Aut,if_pos rfl,Al (x:=((n%2^63:Nat):Int)) (by omega) (by omega),Al (by omega) (by omega)]
    congr 2; omega
  | false =>
    have:n<2^63:=by
      unfold Cs at hs
      have:=of_decide_eq_false hs
      omega
    rw [Aux,if_neg (by decide),Au6 this,Al (by omega) (by omega)]
theorem compare.Order.known:compare.Order.Kn:=compare.Order.Ad (.cons compare.Kv.known (.cons soft.Kind.known .nil)) fun a b hp=>by
  obtain ⟨ha,hb⟩:=Ae.1 (show (Ai a&&Ai b)=true from hp)
  refine ⟨0,compare.Order.out [.i a,.i b],[],?_,Wk.Gu (.cons .int (.cons .bool .nil))⟩
  show _=some (DV.tup [.int .i64 (Ara a.toNat b.toNat),.bool (Arb a.toNat b.toNat)])
  rw [compare.Order.ev,ha,hb,Aut,Aut,Aut,Aut,Aut,Aut,At,At]
  unfold Ara Arb Xv A3
  by_cases h1:Ao a.toNat=4
  · have e:(((Ao a.toNat:Nat):Int)==(4:Int))=true:=by rw [h1]; rfl
    rw [e,Aut,if_pos (.inl h1),Auu (.inl h1)]; rfl
  · have e:(((Ao a.toNat:Nat):Int)==(4:Int))=false:=Ps h1
    rw [e,Aux]
    by_cases h2:Ao b.toNat=4
    · have e:(((Ao b.toNat:Nat):Int)==(4:Int))=true:=by rw [h2]; rfl
      rw [e,Aut,if_pos (.inr h2),Auu (.inr h2)]; rfl
    · have e:(((Ao b.toNat:Nat):Int)==(4:Int))=false:=Ps h2
      have hn:¬ (Ao a.toNat=4∨Ao b.toNat=4):=fun h=>h.elim h1 h2
      rw [e,Aux,if_neg hn,Auy hn]
      by_cases h3:Ob a.toNat<Ob b.toNat
      · rw [Auu h3,if_pos h3]; rfl
      · rw [Auy h3,if_neg h3]
        by_cases h4:Ob b.toNat<Ob a.toNat
        · rw [Auu h4,if_pos h4]; rfl
        · rw [Auy h4,if_neg h4]; rfl
theorem compare.K5.known:compare.K5.Kn:=compare.K5.Ad (.cons compare.Order.known .nil) fun a b hp=>by
  have hp:(Ai a&&Ai b)=true:=hp
  refine ⟨0,compare.K5.out [.i a,.i b],[],?_,.bool⟩
  rw [compare.K5.ev,hp,At]; rfl
theorem Adr (N:Nat) {a:Int} (ha:Ai a=true):∀ (k F m:Nat) (e:Int) (b:Bool),e=-1130-(k:Int)→k<F→m<2^53→(m≠0∨b=true)→-9000<e →
    compare.El.L0 N F a (m:Int) e b=some (.tup [.int .u64 (((B0 (Cs a.toNat) 0,3):Nat × Nat).1:Nat),.int .u8 (((B0 (Cs a.toNat) 0,3):Nat × Nat).2:Nat)]):=by
  have pre1:D0 (0:Int) (-1074:Int) true=true:=Aq.2 (by omega)
  intro k
  induction k with
  | zero =>
    intro F m e b he hF hm h0 _
    obtain ⟨F,rfl⟩:∃ G,F=G+1:=⟨F-1,by omega⟩
    have hlt:A2 e (-1130:Int)=false:=by rw [At]; exact Auy (by omega)
    have P5:D0 (m:Int) e b=true:=Aq.2 (by omega)
    rw [compare.El.Au,hlt,Bool.false_and,Aux,Aux,ha,Aut,P5,Aut]
    unfold Eh Eg Dv
    rw [Auv,Aht _ hm h0 (by omega)]
  | succ k ih =>
    intro F m e b he hF hm h0 hb
    obtain ⟨F,rfl⟩:∃ G,F=G+1:=⟨F-1,by omega⟩
    have hlt:A2 e (-1130:Int)=true:=by rw [At]; exact Auu (by omega)
    rw [compare.El.Au,hlt,Bool.true_and,Aut,At]
    by_cases h1:(1:Int)<(m:Int)
    · have em:Dg .u64 (m:Int) (1:Int)=((m / 2^1:Nat):Int):=Gr .u64 m 1 (by decide)
      rw [Auu h1,Aut,em,Al (by omega) (by omega)]
      exact ih F (m / 2^1) (e+1) _ (by omega) (by omega) (by omega) (.inl (by omega)) (by omega)
    · rw [Auy h1,Aux,ha,Aut,pre1,Aut]
      unfold Eh Eg Dv
      rw [show (0:Int).toNat=0 from rfl,Akk]
theorem compare.El.known:compare.El.Kn:=compare.El.Ad (.cons soft.Kind.known (.cons soft.C0.known (.cons soft.Fk.known (.cons soft.Sign.known .nil)))) fun a n hp=>by
  obtain ⟨ha,hn⟩:=Ae.1 (show E0 a n=true from hp)
  have hn:=Aq.1 hn
  refine ⟨3000,compare.El.out [.i a,.i n],[],?_,Wk.Gu (.cons .int (.cons .int .nil))⟩
  show _=some (DV.tup [.int .u64 ((H6 a.toNat n).1:Nat),.int .u8 ((H6 a.toNat n).2:Nat)])
  have em:max (-2300:Int) (min (2300:Int) n)=n:=by omega
  have pE:=Dc a.toNat
  have pM:=Eo a.toNat
  have ee:Ab (Az a+n)=Aw a.toNat+n:=by unfold Az; exact Al (by omega) (by omega)
  rw [compare.El.ev,ha,Aut,Aut,em,ee]
  unfold A3
  by_cases h4:Ao a.toNat=4
  · have e:(((Ao a.toNat:Nat):Int)==(4:Int))=true:=by rw [h4]; rfl
    rw [e,Aut]
    unfold H6
    rw [if_pos h4]; rfl
  have e4:(((Ao a.toNat:Nat):Int)==(4:Int))=false:=Ps h4
  rw [e4,Aux]
  by_cases h3:Ao a.toNat=3
  · have e:(((Ao a.toNat:Nat):Int)==(3:Int))=true:=by rw [h3]; rfl
    obtain ⟨k,rfl,hk⟩:=Bu ha
    rw [e,Aut,Aut]
    unfold H6
    rw [if_neg h4,if_pos (.inl h3),Auv]; rfl
  have e3:(((Ao a.toNat:Nat):Int)==(3:Int))=false:=Ps h3
  rw [e3,Aux]
  by_cases h0:Ao a.toNat=0
  · have e:(((Ao a.toNat:Nat):Int)==(0:Int))=true:=by rw [h0]; rfl
    obtain ⟨k,rfl,hk⟩:=Bu ha
    rw [e,Aut]
    unfold H6
    rw [if_neg h4,if_pos (.inr h0),Auv]; rfl
  have e0:(((Ao a.toNat:Nat):Int)==(0:Int))=false:=Ps h0
  have hk:¬ (Ao a.toNat=3∨Ao a.toNat=0):=fun h=>h.elim h3 h0
  have hm:Ar a.toNat≠0:=fun h=>h0 ((Jf h3 h4).1 h)
  rw [e0,Aux]
  show compare.El.L0 3000 3000 a (Ar a.toNat:Nat) (Aw a.toNat+n) false=_
  by_cases ht:Aw a.toNat+n≤-1130
  · rw [Adq h4 hk ht]
    exact Adr 3000 ha (-1130-(Aw a.toNat+n)).toNat 3000 _ _ false (by omega) (by omega) (by omega) (.inl hm) (by omega)
  · have hlt:A2 (Aw a.toNat+n) (-1130:Int)=false:=by rw [At]; exact Auy (by omega)
    have P5:D0 ((Ar a.toNat:Nat):Int) (Aw a.toNat+n) false=true:=Aq.2 ⟨by omega,by omega,by omega,by omega,fun h=>by cases h⟩
    rw [Ahc h4 hk,show (3000:Nat)=2999+1 from rfl,compare.El.Au,hlt,Bool.false_and,Aux,Aux,ha,Aut,P5,Aut]
    unfold Eh Eg Dv
    rw [Auv,T7]
theorem Af.Bx.known:Af.Bx.Kn:=Af.Bx.Ad (.cons compare.El.known .nil) fun a n hp=>by
  have hp:E0 a n=true:=hp
  refine ⟨0,Af.Bx.out [.i a,.i n],[],?_,.int⟩
  rw [Af.Bx.ev,hp]; rfl
theorem Af.Div.known:Af.Div.Kn:=Af.Div.Ad (.cons times.Div.known .nil) fun a b hp=>by
  have hp:(Ai a&&Ai b)=true:=hp
  refine ⟨0,Af.Div.out [.i a,.i b],[],?_,.int⟩
  rw [Af.Div.ev,hp]; rfl
theorem Ik {l:List Int} {i:Nat} (h:i<l.length):l.drop i=l.getD i 0::l.drop (i+1):=by
  rw [List.drop_eq_getElem_cons h,Au3,Ava h]; rfl
theorem Kw {l:List Int} (h:Cx l=true):l.length<4611686018427387904∧∀ j,j<l.length→Ai (l.getD j 0)=true:=by
  obtain ⟨h1,h2⟩:=Aq.1 h
  exact ⟨h1,fun j hj=>by rw [Au3,Ava hj]; exact h2 _ (List.getElem_mem hj)⟩
theorem Kd {l:List Int} (h:Ah l=true) (hl:l.length≤1000):Cx l=true:=Aq.2 ⟨by omega,Aq.1 h⟩
theorem Acj (N:Nat) {x:List Int} (hx:Cx x=true):∀ (k i F:Nat),i+k=x.length→k<F→Af.Finite.L0 N F x (i:Int)=some (.bool ((x.drop i).all Cy)):=by
  obtain ⟨hl,hu⟩:=Kw hx
  intro k
  induction k with
  | zero =>
    intro i F hi hF
    obtain ⟨F,rfl⟩:∃ G,F=G+1:=⟨F-1,by omega⟩
    rw [Af.Finite.Au,At,Auy (by omega),Aux,Au7 (by omega)]; rfl
  | succ k ih =>
    intro i F hi hF
    obtain ⟨F,rfl⟩:∃ G,F=G+1:=⟨F-1,by omega⟩
    rw [Af.Finite.Au,At,Auu (show (i:Int)<(x.length:Int) by omega),Aut,Auu (show (0:Int)≤(i:Int) by omega),Auz,Aut,Auv,hu i (by omega),Aut,Ik (by omega),List.all_cons]
    cases Cy (x.getD i 0) with
    | false=>rfl
    | true =>
      rw [Bool.not_true,Aux,Al (by omega) (by omega),Bool.true_and]
      exact ih (i+1) F (by omega) (by omega)
theorem Af.Finite.known:Af.Finite.Kn:=Af.Finite.Ad (.cons soft.Finite.known .nil) fun x hp=>by
  have hp:Cx x=true:=hp
  refine ⟨x.length+1,Af.Finite.out [.l x],[],?_,.bool⟩
  show _=some (DV.bool (x.all Cy))
  rw [Af.Finite.ev]
  exact Acj _ hp x.length 0 (x.length+1) (by omega) (by omega)
theorem Ais {x:List Int} {i:Nat} (h:i<x.length) (m:Nat):Z8 (x.drop i) m=if Ao (x.getD i 0).toNat=4 then Xg else Z8 (x.drop (i+1)) (max m (Aiy (x.getD i 0).toNat)):=by
  rw [Ik h]; rfl
theorem Z7 (N:Nat) {x:List Int} (hx:Cx x=true):∀ (k i F m:Nat),i+k=x.length→k<F→Af.Cn.L0 N F x (m:Int) (i:Int)=some (.int .u64 ((Z8 (x.drop i) m:Nat):Int)):=by
  obtain ⟨hl,hu⟩:=Kw hx
  intro k
  induction k with
  | zero =>
    intro i F m hi hF
    obtain ⟨F,rfl⟩:∃ G,F=G+1:=⟨F-1,by omega⟩
    rw [Af.Cn.Au,At,Auy (by omega),Aux,Au7 (by omega)]; rfl
  | succ k ih =>
    intro i F m hi hF
    obtain ⟨F,rfl⟩:∃ G,F=G+1:=⟨F-1,by omega⟩
    rw [Af.Cn.Au,At,Auu (show (i:Int)<(x.length:Int) by omega),Aut,Auu (show (0:Int)≤(i:Int) by omega),Auz,Aut,Auv,hu i (by omega),Aut,Ais (by omega)]
    unfold A3
    by_cases h4:Ao (x.getD i 0).toNat=4
    · have e:(((Ao (x.getD i 0).toNat:Nat):Int)==(4:Int))=true:=by rw [h4]; rfl
      rw [e,Aut,if_pos h4]; rfl
    · have e:(((Ao (x.getD i 0).toNat:Nat):Int)==(4:Int))=false:=Ps h4
      have em:max (m:Int) (Abt (x.getD i 0))=((max m (Aiy (x.getD i 0).toNat):Nat):Int):=by unfold Abt; omega
      rw [e,Aux,Aut,if_neg h4,em,Al (by omega) (by omega)]
      exact ih (i+1) F _ (by omega) (by omega)
theorem Af.Cn.known:Af.Cn.Kn:=Af.Cn.Ad (.cons compare.Uk.known (.cons soft.Kind.known .nil)) fun x hp=>by
  have hp:Cx x=true:=hp
  refine ⟨x.length+1,Af.Cn.out [.l x],[],?_,.int⟩
  rw [Af.Cn.ev]
  exact Z7 _ hp x.length 0 (x.length+1) 0 (by omega) (by omega)
theorem Z6 (N:Nat) {x:List Int} (hx:Cx x=true):∀ (k i F:Nat),i+k=x.length→k<F→Cc.Check.L0 N F x (i:Int)=some (.int .i64 (if (x.drop i).all Cy=true then 0 else 4)):=by
  obtain ⟨hl,hu⟩:=Kw hx
  intro k
  induction k with
  | zero =>
    intro i F hi hF
    obtain ⟨F,rfl⟩:∃ G,F=G+1:=⟨F-1,by omega⟩
    rw [Cc.Check.Au,At,Auy (by omega),Aux,Au7 (by omega)]; rfl
  | succ k ih =>
    intro i F hi hF
    obtain ⟨F,rfl⟩:∃ G,F=G+1:=⟨F-1,by omega⟩
    rw [Cc.Check.Au,At,Auu (show (i:Int)<(x.length:Int) by omega),Aut,Auu (show (0:Int)≤(i:Int) by omega),Auz,Aut,Auv,hu i (by omega),Aut,Ik (by omega),List.all_cons]
    cases Cy (x.getD i 0) with
    | false=>rfl
    | true =>
      rw [Bool.not_true,Aux,Al (by omega) (by omega),Bool.true_and]
      exact ih (i+1) F (by omega) (by omega)
theorem Ms {r c:Int} {l:List Int} (h:Av r c l=true):l.length≤36:=by
  obtain ⟨R,C,rfl,rfl,r6,c6,hl⟩:=Dd h
  have:=Nat.mul_le_mul r6 c6
  omega
theorem Cc.Check.known:Cc.Check.Kn:=Cc.Check.Ad (.cons Aa.Check.known (.cons soft.Finite.known .nil)) fun r c l hp=>by
  have hp:Ah l=true:=hp
  refine ⟨l.length+1,Cc.Check.out [.i r,.i c,.l l],[],?_,.int⟩
  show _=some (DV.int .i64 (Bt r c l))
  rw [Cc.Check.ev]
  unfold Jp Bt Dz
  by_cases h:Av r c l=true
  · have:=Ms h
    rw [if_pos h,if_pos h]
    have e:((0:Int) !=(0:Int))=false:=by decide
    rw [e,Aux]
    exact Z6 _ (Kd hp (by omega)) l.length 0 (l.length+1) (by omega) (by omega)
  · rw [if_neg h,if_neg h]; rfl
open Go Go.Den Go.Rnd Go.Proofs Ieee
end Go.Proofs.S1
namespace Go.Rnd
open Go.Den
theorem Ae1 {P root rest two:Nat} (h1:P=root*root+rest) (h2:rest≤2*root) (h3:two<4) :
    (4*root+1≤4*rest+two→4*P+two=(2*root+1)*(2*root+1)+(4*rest+two-(4*root+1))∧4*rest+two-(4*root+1)≤2*(2*root+1)) ∧
    (4*rest+two<4*root+1→4*P+two=(2*root)*(2*root)+(4*rest+two)∧4*rest+two≤2*(2*root)):=by
  have e1:(2*root+1)*(2*root+1)=4*(root*root)+(4*root+1):=by
    rw [Nat.add_mul,Nat.mul_add,Nat.mul_add]
    have:2*root*(2*root)=4*(root*root):=by rw [Nat.mul_mul_mul_comm]
    omega
  have e2:(2*root)*(2*root)=4*(root*root):=by rw [Nat.mul_mul_mul_comm]
  constructor
  · intro h; rw [e1]; omega
  · intro h; rw [e2]; omega
theorem An1 {P root rest:Nat} (h1:P=root*root+rest) (h2:rest≤2*root):root=Ra P:=by
  refine Wj (by omega) ?_
  have:(root+1)*(root+1)=root*root+2*root+1:=by rw [Nat.add_mul,Nat.mul_add]; omega
  omega
end Go.Rnd
namespace Go.Rnd
open Go.Den
theorem Jr:Ai (0:Int)=true:=B5 (n:=0) (by decide)
theorem Akd:Ai Ard=true:=B5 (n:=4607182418800017408) (by decide)
theorem Ahd {b:Nat} {n:Int} (h:b<2^64):(H6 b n).1<2^64:=by
  unfold H6
  by_cases h4:Ao b=4
  · rw [if_pos h4]; exact (by decide:Xg<2^64)
  rw [if_neg h4]
  by_cases h3:Ao b=3∨Ao b=0
  · rw [if_pos h3]; exact h
  rw [if_neg h3]
  exact Ri _ _ _
theorem Jw {b n:Int} (h:Ai b=true):Ai (Ch b n)=true:=by
  obtain ⟨x,rfl,hx⟩:=Bu h
  exact B5 (Ahd (by rw [Auv]; exact hx))
theorem Agr (b:Nat):Aiy b<2^63:=Nat.mod_lt _ (by decide)
theorem Wz:∀ (l:List Int) (m:Nat),m<2^64→Z8 l m<2^64
  | [],m,h=>h
  | x::l,m,h=>by
    unfold Z8
    split
    · exact (by decide:Xg<2^64)
    · have h2:=Agr x.toNat
      exact Wz l _ (by omega)
theorem Q5 (l:List Int):Ai (Bp l)=true:=B5 (Wz l 0 (by decide))
theorem Akw (x:Int):Ai (Abt x)=true:=B5 (Nat.lt_trans (Agr x.toNat) (by decide))
theorem Amt {a b:Int} (ha:Ai a=true) (hb:Ai b=true):Ai (Kp a b)=true:=by
  obtain ⟨x,rfl,hx⟩:=Bu ha
  obtain ⟨y,rfl,hy⟩:=Bu hb
  exact B5 (Vb (by rw [Auv]; exact hx) (by rw [Auv]; exact hy)).1
theorem Abo {a:Int} (ha:Ai a=true):Ai (Ds a)=true:=by
  obtain ⟨x,rfl,hx⟩:=Bu ha
  exact B5 (Tj (by rw [Auv]; exact hx))
theorem Aju {b:Nat} (h:b<2^64):(N5 b).1<2^64:=by
  by_cases h4:Ao b=4
  · rw [Aa0 h4]; exact (by decide:Xg<2^64)
  by_cases h0:Ao b=0∨b=Gp
  · rw [S2 h4 h0]; exact h
  cases hn:Cs b with
  | true=>rw [Aaz h4 h0 hn]; exact (by decide:Xg<2^64)
  | false =>
    unfold N5
    rw [if_neg h4,if_neg h0,hn,if_neg (by decide)]
    exact Nat.lt_trans (Po _ _) (by decide)
theorem Afo {a:Int} (ha:Ai a=true):Ai (Hq a)=true:=by
  obtain ⟨x,rfl,hx⟩:=Bu ha
  exact B5 (Aju (by rw [Auv]; exact hx))
theorem Ajr (k:Int):∀ (l:List Int) {s:Int},Ai s=true→Ai (Adn k s l)=true
  | [],_,h=>h
  | _::l,_,h=>Ajr k l (Amt h (Mg _ _))
theorem Zj (x:List Int):Ai (Er x)=true:=by
  unfold Er
  split
  · exact Q5 x
  · exact Jw (Afo (Ajr _ _ Jr))
theorem Aue (x:List Int):Ai (muI x)=true:=by
  unfold muI
  split
  · exact Zj _
  · exact Abo (Zj _)
theorem Apk (x:List Int):Ai (Hz x)=true:=Jw (Aue x)
theorem Ail (b:Nat):-1100≤Aev b∧Aev b≤1100:=by
  unfold Aev
  split
  · have h1:=Dc b
    have h2:=Eo b
    rename_i h
    have h3:(Ar b).log2<53:=by
      by_cases h0:Ar b=0
      · rw [h0]; decide
      · exact (Nat.log2_lt h0).2 h2
    omega
  · omega
theorem Al3 (x:Int):-1100≤Bs x∧Bs x≤1100:=Ail x.toNat
theorem M8 {l:List Int} (h:Ah l=true) (j:Nat):Ai (l.getD j 0)=true:=Sg (Aq.1 h) j
theorem P2 {l:List Int} (h:∀ x∈l,Ai x=true):Ah l=true:=Aq.2 h
theorem Dx:Ah []=true:=P2 fun _ h=>by cases h
theorem Acz {α:Type} {l:List α} {f:α→Int} (h:∀ j,Ai (f j)=true):Ah (l.map f)=true:=P2 fun x hx=>by
  obtain ⟨j,_,rfl⟩:=List.mem_map.1 hx
  exact h j
theorem Aiw {x:Int} {l:List Int} (h1:Ai x=true) (h2:Ah l=true):Ah (x::l)=true:=P2 fun y hy=>by
  rcases List.mem_cons.1 hy with rfl | hy
  · exact h1
  · exact Aq.1 h2 y hy
theorem Ma {c i k:Int} {l:List Int} (h:Ah l=true):Ai (D4 c l i k)=true:=M8 h _
theorem Aa7 (c b i:Int) (n:Nat) (l:List Int):(Dy c l b i n).length=n:=by unfold Dy; rw [List.length_map,List.length_range]
theorem S5 {c b i:Int} {n:Nat} {l:List Int} (h:Ah l=true):Ah (Dy c l b i n)=true:=Acz fun _=>Ma h
theorem Aj3 (n:Nat) {f:Nat→Int} (h:∀ j,Ai (f j)=true):Ah (Jc n f)=true:=Aiw Akd (Acz fun _=>h _)
theorem Rr {n:Nat} (h:n≠0) (f:Nat→Int):(Jc n f).length=n:=by
  unfold Jc
  rw [List.length_cons,List.length_map,List.length_range]
  omega
theorem U0 {x:List Int} (h:Ah x=true):Ah (Cg x).1=true∧Ai (Cg x).2.1=true∧Ai (Cg x).2.2.1=true:=by
  have hz:Ah []=true∧Ai (0:Int)=true∧Ai (0:Int)=true:=⟨Dx,Jr,Jr⟩
  unfold Cg
  split
  · exact hz
  split
  · unfold Aoc
    split
    · dsimp only
      exact ⟨Aj3 _ fun _=>Jr,Jr,M8 h 0⟩
    · split
      · dsimp only
        exact ⟨Aj3 _ fun _=>Z3 _ _,Z3 _ _,Apk x⟩
      · exact hz
  · exact hz
theorem V8 {x:List Int} (h:(Cg x).2.2.2=0):(Cg x).1.length=x.length:=by
  unfold Cg at h ⊢
  by_cases h1:x.length=0∨64<x.length
  · rw [if_pos h1] at h; exact absurd h (by decide)
  rw [if_neg h1] at h ⊢
  by_cases h2:Dz x=true
  · rw [if_pos h2] at h ⊢
    unfold Aoc at h ⊢
    by_cases h3:Jz (x.drop 1)=true
    · rw [if_pos h3]; dsimp only; exact Rr (n:=x.length) (by omega) _
    · rw [if_neg h3] at h ⊢
      by_cases h4:Cy (Hz x)=true
      · rw [if_pos h4]; dsimp only [Abk]; exact Rr (n:=x.length) (by omega) _
      · rw [if_neg h4] at h; exact absurd h (by decide)
  · rw [if_neg h2] at h; exact absurd h (by decide)
theorem U8 (x y:List Int):Ai (Lw x y)=true:=B5 (Z2 x y 0 (by decide))
theorem Aiv {c i k t a b:Int} {l v:List Int} (h:Ah l=true):Ai (O8 c l i k v t a b)=true:=by
  unfold O8
  split
  · exact Nd (Ma h) (Mg _ _)
  · exact Ma h
theorem Yr {r c:Nat} {l:List Int} (h:Ah l=true) (i k:Int) (v:List Int) (t:Int):Ah (Ga r c l i k v t)=true:=F4 fun _ _=>Aiv h
theorem Ml (r c:Nat) (l:List Int) (i k:Int) (v:List Int) (t:Int):(Ga r c l i k v t).length=r*c:=Bn _ _ _
theorem Aio {r c:Nat} {l:List Int} (h:Ah l=true) (j:Nat) {x:Int} (hx:Ai x=true):Ah (Tu r c l j x)=true:=F4 fun a b=>by
  split
  · split
    · exact hx
    · exact Jr
  · exact Ma h
theorem Ou (r c:Nat) (l:List Int) (j:Nat):(W8 r c l j).length=r*c:=by unfold W8 Tu; exact Bn _ _ _
theorem Zn {r c:Nat} {l:List Int} (h:Ah l=true) (j:Nat):Ah (W8 r c l j)=true:=Aio (Yr h _ _ _ _) _ (U0 (S5 h)).2.2
def Abm (r:Nat):Nat→List (List Int × Int)→Prop
  | _,[]=>True
  | j,m::ms=>(Ah m.1=true∧Ai m.2=true∧m.1.length+j=r)∧Abm r (j+1) ms
theorem Wt (r c:Nat):∀ (n j:Nat) (l:List Int) (x:List Int × List (List Int × Int)),Ah l=true→l.length=r*c→j+n≤r→N9 r c n j l=some x→Ah x.1=true∧x.1.length=r*c∧x.2.length=n∧Abm r j x.2
  | 0,j,l,x,ha,hl,_,h=>by
    cases h
    exact ⟨ha,hl,rfl,trivial⟩
  | n+1,j,l,x,ha,hl,hj,h=>by
    unfold N9 at h
    by_cases h1:(Cg (Ge r c l j)).2.2.2=0
    · rw [if_pos h1,Option.map_eq_some_iff] at h
      obtain ⟨y,hy,rfl⟩:=h
      obtain ⟨a1,a2,a3,a4⟩:=Wt r c n (j+1) _ y (Zn ha j) (Ou r c l j) (by omega) hy
      have hm:=U0 (x:=Ge r c l j) (S5 ha)
      have hlen:=V8 h1
      refine ⟨a1,a2,by rw [List.length_cons,a3],⟨hm.1,hm.2.1,?_⟩,a4⟩
      show (Cg (Ge r c l j)).1.length+j=r
      rw [hlen]
      unfold Ge
      rw [Aa7]
      omega
    · rw [if_neg h1] at h; cases h
theorem Z0 (n:Nat):Ah (D5 n)=true:=F4 fun i k=>by
  unfold Ca
  split
  · exact Akd
  · exact Jr
theorem Va (n:Nat):∀ (ms:List (List Int × Int)) (j:Nat) (q:List Int),Ah q=true→q.length=n*n→Ah (Ko n j ms q)=true∧(Ko n j ms q).length=n*n
  | [],_,_,h1,h2=>⟨h1,h2⟩
  | m::ms,j,q,h1,h2=>by
    unfold Ko
    exact ⟨Yr (Va n ms (j+1) q h1 h2).1 _ _ _ _,Ml _ _ _ _ _ _ _⟩
theorem Ao5 {r c:Nat} {l:List Int} (h:(I9 r c l).isSome=true):Ah (Qy r c l)=true∧(Qy r c l).length=r*r:=by
  unfold Qy
  cases hd:I9 r c l with
  | none=>rw [hd] at h; cases h
  | some x=>exact Va r x.2 0 _ (Z0 r) (by unfold D5; exact Bn _ _ _)
theorem Ao4 {r c:Nat} {l:List Int} (ha:Ah l=true) (hl:l.length=r*c) (h:(I9 r c l).isSome=true):Ah (Ns r c l)=true∧(Ns r c l).length=r*c:=by
  unfold Ns
  cases hd:I9 r c l with
  | none=>rw [hd] at h; cases h
  | some x =>
    have hn:Ja r c≤r:=by unfold Ja; omega
    have:=Wt r c (Ja r c) 0 l x ha hl (by omega) hd
    exact ⟨this.1,this.2.1⟩
end Go.Rnd
namespace Go.Proofs.S1
open Go Go.Den Go.Rnd Go.Proofs
set_option maxRecDepth 100000
namespace EqRoot
def root.F3.hint:Nat→Option A8
  | 0=>some { keep:=[0,4,5,6,14],objs:=[],boxes:=[] }
  | _=>none
def root.F3.Bb:List (Nat × Entry):=[]
def root.F3.E:Env:=Bc (Ba root.F3.Bb) (fun _=>false) root.F3.hint (fun _=>none)
def root.F3.L0 (N M:Nat) (m p4:Int) (p5 p6 p14:Int):Option DV:=B3 root.F3.E N Tryz.f265 (Am Tryz.f265) [1,1,0,1,0] [] M ⟨Gb 68 [(0,.int .u64 m),(4,.int .u64 p4),(5,.int .u64 p5),(6,.int .u64 p6),(14,.int .i64 p14)],[]⟩
theorem root.F3.Au (N M:Nat) (m p4:Int) (p5 p6 p14:Int):root.F3.L0 N (M+1) m p4 p5 p6 p14=bif (A2 p14 64) then bif (A2 p14 32) then bif (decide (0≤(Ab ((62:Int)-(Ab ((2:Int)*p14)))))) then bif (decide ((F6 (Hr .u64 (Br .u64 p6 2) (Fs .u64 (Dg .u64 m (Ab ((62:Int)-(Ab ((2:Int)*p14))))) 3)) (Hr .u64 (Br .u64 p4 2) 1) 0)≤1)) then bif ((F6 (Hr .u64 (Br .u64 p5 2) (Dg .u64 p6 62)) (Dg .u64 p4 62) (F6 (Hr .u64 (Br .u64 p6 2) (Fs .u64 (Dg .u64 m (Ab ((62:Int)-(Ab ((2:Int)*p14))))) 3)) (Hr .u64 (Br .u64 p4 2) 1) 0))==(0:Int)) then root.F3.L0 N M m (Hr .u64 (Br .u64 p4 1) 1) (Lx (Hr .u64 (Br .u64 p5 2) (Dg .u64 p6 62)) (Dg .u64 p4 62) (F6 (Hr .u64 (Br .u64 p6 2) (Fs .u64 (Dg .u64 m (Ab ((62:Int)-(Ab ((2:Int)*p14))))) 3)) (Hr .u64 (Br .u64 p4 2) 1) 0)) (Lx (Hr .u64 (Br .u64 p6 2) (Fs .u64 (Dg .u64 m (Ab ((62:Int)-(Ab ((2:Int)*p14))))) 3)) (Hr .u64 (Br .u64 p4 2) 1) 0) (Ab (p14+1)) else root.F3.L0 N M m (Br .u64 p4 1) (Hr .u64 (Br .u64 p5 2) (Dg .u64 p6 62)) (Hr .u64 (Br .u64 p6 2) (Fs .u64 (Dg .u64 m (Ab ((62:Int)-(Ab ((2:Int)*p14))))) 3)) (Ab (p14+1)) else none else none else bif (decide ((F6 (Hr .u64 (Br .u64 p6 2) 0) (Hr .u64 (Br .u64 p4 2) 1) 0)≤1)) then bif ((F6 (Hr .u64 (Br .u64 p5 2) (Dg .u64 p6 62)) (Dg .u64 p4 62) (F6 (Hr .u64 (Br .u64 p6 2) 0) (Hr .u64 (Br .u64 p4 2) 1) 0))==(0:Int)) then root.F3.L0 N M m (Hr .u64 (Br .u64 p4 1) 1) (Lx (Hr .u64 (Br .u64 p5 2) (Dg .u64 p6 62)) (Dg .u64 p4 62) (F6 (Hr .u64 (Br .u64 p6 2) 0) (Hr .u64 (Br .u64 p4 2) 1) 0)) (Lx (Hr .u64 (Br .u64 p6 2) 0) (Hr .u64 (Br .u64 p4 2) 1) 0) (Ab (p14+1)) else root.F3.L0 N M m (Br .u64 p4 1) (Hr .u64 (Br .u64 p5 2) (Dg .u64 p6 62)) (Hr .u64 (Br .u64 p6 2) 0) (Ab (p14+1)) else none else some (.tup [.int .u64 p4,.bool (bif (p5==(0:Int)) then (p6==(0:Int)) else false)]) :=
  Eq.trans (by kernel_rfl)
  (Es rfl (Ap (N4 (p5==(0:Int))) (Ap (Ki (p5==(0:Int))) (Ap (Sr (p5==(0:Int))) rfl))))
theorem root.F3.ev (N:Nat) (m:Int):Bw root.F3.E N Tryz.f265 (Am Tryz.f265) [.int .u64 m] =
  root.F3.L0 N N m 0 0 0 0:=by kernel_rfl
abbrev _root_.Go.Proofs.S1.root.F3.Kn:=A6 Tryz.prog 265 root.F3.spec
theorem root.F3.Ad (hk:A0 Tryz.prog root.F3.Bb) (h:∀ (m:Int),root.F3.pre [.i m]=true→Be root.F3.E Tryz.f265 [.int .u64 m] (root.F3.out [.i m])):root.F3.Kn :=
  Ak (A1 hk _ _ _) Tryz.func265 (by kernel_rfl) (by kernel_rfl) h
def root.Sqrt.hint:Nat→Option A8
  | 5=>some { keep:=[5,7,9],objs:=[],boxes:=[] }
  | _=>none
def root.Sqrt.Bb:List (Nat × Entry):=[(250,Ci.Bo.spec),(265,root.F3.spec),(155,soft.Kind.spec),(212,soft.C0.spec),(211,soft.Fk.spec),(213,soft.Sign.spec)]
def root.Sqrt.E:Env:=Bc (Ba root.Sqrt.Bb) (fun _=>false) root.Sqrt.hint (fun _=>none)
def root.Sqrt.L0 (N M:Nat) (p5 p7:Int) (p9:Bool):Option DV:=B3 root.Sqrt.E N Tryz.f264 (Am Tryz.f264) [1,1,1,1,1,1,1,1,1,0,0] [] M ⟨Gb 73 [(5,.int .i64 p5),(7,.int .u64 p7),(9,.bool p9)],[]⟩
theorem root.Sqrt.Au (N M:Nat) (p5 p7:Int) (p9:Bool):root.Sqrt.L0 N (M+1) p5 p7 p9=bif (D1 4611686018427387904 p7) then root.Sqrt.L0 N M (Ab (p5+2)) (Dg .u64 p7 1) (bif p9 then true else ((Fs .u64 p7 1)==(1:Int))) else bif (D0 p7 (Ab ((Ab (Int.tdiv p5 2))-32)) p9) then some (.tup [.int .u64 (Eh false p7 (Ab ((Ab (Int.tdiv p5 2))-32)) p9),.int .u8 (Eg false p7 (Ab ((Ab (Int.tdiv p5 2))-32)) p9)]) else none :=
  Eq.trans (by kernel_rfl)
  (Es (Ap (Ul p9) (Ap (Q9 p9) (Ap (Q9 p9) (Ap (tt6 p9) rfl)))) rfl)
theorem root.Sqrt.ev (N:Nat) (a:Int):Bw root.Sqrt.E N Tryz.f264 (Am Tryz.f264) [.int .u64 a]=bif (Ai a) then bif ((A3 a)==(4:Int)) then some (.tup [.int .u64 9221120237041090560,.int .u8 0]) else bif (Ai a) then bif ((A3 a)==(0:Int)) then some (.tup [.int .u64 a,.int .u8 0]) else bif (a==(9218868437227405312:Int)) then some (.tup [.int .u64 a,.int .u8 0]) else bif (Ai a) then bif (Dv a) then some (.tup [.int .u64 9221120237041090560,.int .u8 16]) else bif (Ai a) then bif (Ai (Bh a)) then bif ((Int.tmod (Ab ((Az a)-(Ab ((64-Ei (Bh a))-2)))) 2) !=(0:Int)) then bif (decide (0≤(Ab ((Ab ((64-Ei (Bh a))-2))-1)))) then bif (Cu (0≤(Br .u64 (Bh a) (Ab ((Ab ((64-Ei (Bh a))-2))-1)))∧(Br .u64 (Bh a) (Ab ((Ab ((64-Ei (Bh a))-2))-1)))<9223372036854775808)) then root.Sqrt.L0 N N (Ab ((Az a)-(Ab ((Ab ((64-Ei (Bh a))-2))-1)))) (R8 (Br .u64 (Bh a) (Ab ((Ab ((64-Ei (Bh a))-2))-1)))) (!(R9 (Br .u64 (Bh a) (Ab ((Ab ((64-Ei (Bh a))-2))-1))))) else none else none else bif (decide (0≤(Ab ((64-Ei (Bh a))-2)))) then bif (Cu (0≤(Br .u64 (Bh a) (Ab ((64-Ei (Bh a))-2)))∧(Br .u64 (Bh a) (Ab ((64-Ei (Bh a))-2)))<9223372036854775808)) then root.Sqrt.L0 N N (Ab ((Az a)-(Ab ((64-Ei (Bh a))-2)))) (R8 (Br .u64 (Bh a) (Ab ((64-Ei (Bh a))-2)))) (!(R9 (Br .u64 (Bh a) (Ab ((64-Ei (Bh a))-2))))) else none else none else none else none else none else none else none:=by kernel_rfl
abbrev _root_.Go.Proofs.S1.root.Sqrt.Kn:=A6 Tryz.prog 264 root.Sqrt.spec
theorem root.Sqrt.Ad (hk:A0 Tryz.prog root.Sqrt.Bb) (h:∀ (a:Int),root.Sqrt.pre [.i a]=true→Be root.Sqrt.E Tryz.f264 [.int .u64 a] (root.Sqrt.out [.i a])):root.Sqrt.Kn :=
  Ak (A1 hk _ _ _) Tryz.func264 (by kernel_rfl) (by kernel_rfl) h
def Af.Sqrt.Bb:List (Nat × Entry):=[(264,root.Sqrt.spec)]
def Af.Sqrt.E:Env:=Bc (Ba Af.Sqrt.Bb) (fun _=>false) (fun _=>none) (fun _=>none)
theorem Af.Sqrt.ev (N:Nat) (a:Int):Bw Af.Sqrt.E N Tryz.f262 (Am Tryz.f262) [.int .u64 a]=bif (Ai a) then some (.int .u64 (Hq a)) else none:=by kernel_rfl
abbrev _root_.Go.Proofs.S1.Af.Sqrt.Kn:=A6 Tryz.prog 262 Af.Sqrt.spec
theorem Af.Sqrt.Ad (hk:A0 Tryz.prog Af.Sqrt.Bb) (h:∀ (a:Int),Af.Sqrt.pre [.i a]=true→Be Af.Sqrt.E Tryz.f262 [.int .u64 a] (Af.Sqrt.out [.i a])):Af.Sqrt.Kn :=
  Ak (A1 hk _ _ _) Tryz.func262 (by kernel_rfl) (by kernel_rfl) h
def compare.Kq.Bb:List (Nat × Entry):=[(261,Ci.J8.spec),(148,soft.Finite.spec),(155,soft.Kind.spec),(211,soft.Fk.spec)]
def compare.Kq.E:Env:=Bc (Ba compare.Kq.Bb) (fun _=>false) (fun _=>none) (fun _=>none)
theorem compare.Kq.ev (N:Nat) (a:Int):Bw compare.Kq.E N Tryz.f255 (Am Tryz.f255) [.int .u64 a]=bif (Ai a) then bif ((!(Cy a))||(Ai a)) then bif ((!(Cy a))||((A3 a)==(0:Int))) then some (.int .i64 0) else bif (Ai a) then bif (Ai (Bh a)) then some (.int .i64 (Ab ((Ab ((Ei (Bh a))-1))+(Az a)))) else none else none else none else none :=
  Eq.trans (by kernel_rfl)
  (Es (Ap (Aaq (Cy a)) (Da (Ajl (Cy a) (Ai a)) (Ap (Sv (Cy a)) (Ap (Aar (Cy a)) (Da (Aqy (Cy a) ((A3 a)==(0:Int))) rfl rfl))) rfl)) rfl)
abbrev _root_.Go.Proofs.S1.compare.Kq.Kn:=A6 Tryz.prog 255 compare.Kq.spec
theorem compare.Kq.Ad (hk:A0 Tryz.prog compare.Kq.Bb) (h:∀ (a:Int),compare.Kq.pre [.i a]=true→Be compare.Kq.E Tryz.f255 [.int .u64 a] (compare.Kq.out [.i a])):compare.Kq.Kn :=
  Ak (A1 hk _ _ _) Tryz.func255 (by kernel_rfl) (by kernel_rfl) h
def Af.Norm.hint:Nat→Option A8
  | 0=>some { keep:=[5,6,25,26,27],objs:=[],boxes:=[] }
  | _=>none
def Af.Norm.Bb:List (Nat × Entry):=[(255,compare.Kq.spec),(148,soft.Finite.spec),(226,Af.Add.spec),(89,Af.Cn.spec),(157,Af.Mul.spec),(88,Af.Bx.spec),(262,Af.Sqrt.spec)]
def Af.Norm.E:Env:=Bc (Ba Af.Norm.Bb) (fun _=>false) Af.Norm.hint (fun _=>none)
def Af.Norm.L0 (N M:Nat) (x:List Int) (p6 p27:Int):Option DV:=B3 Af.Norm.E N Tryz.f257 (Am Tryz.f257) [1,1,1,1,1,1,0,1,0] [] M ⟨Gb 45 [(5,.int .i64 (Bs (Bp x))),(6,.int .u64 p6),(25,.ints .arg .u64 x),(26,.int .i64 (List.length x:Int)),(27,.int .i64 p27)],[]⟩
theorem Af.Norm.Au (N M:Nat) (x:List Int) (p6 p27:Int):Af.Norm.L0 N (M+1) x p6 p27=bif (A2 p27 (List.length x:Int)) then bif ((decide (0≤p27))&&(decide (p27<(List.length x:Int)))) then bif (E0 (List.getD x (Int.toNat p27) 0) (Ab (0-(Bs (Bp x))))) then bif (Ai (Ch (List.getD x (Int.toNat p27) 0) (Ab (0-(Bs (Bp x)))))&&Ai (Ch (List.getD x (Int.toNat p27) 0) (Ab (0-(Bs (Bp x)))))) then bif (Ai p6&&Ai (Ek (Ch (List.getD x (Int.toNat p27) 0) (Ab (0-(Bs (Bp x))))) (Ch (List.getD x (Int.toNat p27) 0) (Ab (0-(Bs (Bp x))))))) then Af.Norm.L0 N M x (Kp p6 (Ek (Ch (List.getD x (Int.toNat p27) 0) (Ab (0-(Bs (Bp x))))) (Ch (List.getD x (Int.toNat p27) 0) (Ab (0-(Bs (Bp x))))))) (Ab (p27+1)) else none else none else none else none else bif (Ai p6) then bif (E0 (Hq p6) (Bs (Bp x))) then some (.tup [.int .u64 (Ch (Hq p6) (Bs (Bp x))),.int .i64 0]) else none else none:=by kernel_rfl
theorem Af.Norm.ev (N:Nat) (x:List Int):Bw Af.Norm.E N Tryz.f257 (Am Tryz.f257) [.ints .arg .u64 x]=bif (A2 64 (List.length x:Int)) then some (.tup [.int .u64 0,.int .i64 3]) else bif (Cx x) then bif (((Bp x)==(0:Int))||(Ai (Bp x))) then bif (((Bp x)==(0:Int))||(!(Cy (Bp x)))) then some (.tup [.int .u64 (Bp x),.int .i64 0]) else bif (Ai (Bp x)) then Af.Norm.L0 N N x 0 (0:Int) else none else none else none :=
  Eq.trans (by kernel_rfl)
  (Es rfl (Es (Ap (Ul ((Bp x)==(0:Int))) (Da (As3 ((Bp x)==(0:Int)) (Ai (Bp x))) (Ap (Q9 ((Bp x)==(0:Int))) (Ap (tt6 ((Bp x)==(0:Int))) (Da (tt89 ((Bp x)==(0:Int)) (Cy (Bp x))) rfl rfl))) rfl)) rfl))
abbrev _root_.Go.Proofs.S1.Af.Norm.Kn:=A6 Tryz.prog 257 Af.Norm.spec
theorem Af.Norm.Ad (hk:A0 Tryz.prog Af.Norm.Bb) (h:∀ (x:List Int),Af.Norm.pre [.l x]=true→Be Af.Norm.E Tryz.f257 [.ints .arg .u64 x] (Af.Norm.out [.l x])):Af.Norm.Kn :=
  Ak (A1 hk _ _ _) Tryz.func257 (by kernel_rfl) (by kernel_rfl) h
end EqRoot
open EqRoot
theorem Sm (n s:Nat) (h:s≤64):Dg .u64 (n:Int) (s:Int)=((n / 2^s:Nat):Int):=Gr .u64 n s h
theorem sh2 {n t:Nat} (ht:t<4):Hr .u64 (Br .u64 (n:Int) (2:Int)) (t:Int)=((n%2^62*4+t:Nat):Int):=by
  rw [show (2:Int)=((2:Nat):Int) from rfl,E2 n 2 (by decide),show n*2^2%2^64=(n%2^62)*2^2 by omega]
  exact Lq ht (by omega)
theorem sh1 {n:Nat} (h:n<2^63):Br .u64 (n:Int) (1:Int)=((2*n:Nat):Int):=by
  rw [show (1:Int)=((1:Nat):Int) from rfl,E2 n 1 (by decide)]
  congr 1; omega
theorem sh1o {n:Nat} (h:n<2^63):Hr .u64 (Br .u64 (n:Int) (1:Int)) (1:Int)=((2*n+1:Nat):Int):=by
  rw [show (1:Int)=((1:Nat):Int) from rfl,E2 n 1 (by decide),show n*2^1%2^64=n*2^1 by omega,Nat.mul_comm 2 n]
  exact Lq (k:=1) (by decide) (by omega)
theorem Ajg {m i:Nat} (hi:i<32):Fs .u64 (Dg .u64 (m:Int) (Ab ((62:Int)-(Ab ((2:Int)*(i:Int)))))) (3:Int)=((m / 2^(62-2*i)%2^64%4:Nat):Int)∨2^64≤m:=by
  by_cases hm:m<2^64
  · left
    rw [Al (x:=(2:Int)*(i:Int)) (by omega) (by omega),Al (x:=(62:Int)-2*(i:Int)) (by omega) (by omega),show (62:Int)-2*(i:Int)=((62-2*i:Nat):Int) by omega,Sm _ _ (by omega)]
    have hd:m / 2^(62-2*i)<2^64:=Nat.lt_of_le_of_lt (Nat.div_le_self _ _) hm
    rw [show (3:Int)=((2^2-1:Nat):Int) from rfl,Hl 2 hd (by decide)]
    congr 1
    omega
  · right; omega
def P5 (m i:Nat):Nat:=m*2^64 / 2^(128-2*i)
theorem Aka {m i:Nat} (hi:i<32):P5 m (i+1)=4*P5 m i+m / 2^(62-2*i)%4:=by
  unfold P5
  have e1:128-2*i=64+(64-2*i):=by omega
  have e2:128-2*(i+1)=64+(62-2*i):=by omega
  rw [e1,e2,Nat.pow_add,Nat.pow_add,Nat.mul_comm (2^64),Nat.mul_comm (2^64),Nat.mul_div_mul_right _ _ (by decide),Nat.mul_div_mul_right _ _ (by decide),show 64-2*i=(62-2*i)+2 by omega,Nat.pow_add,← Nat.div_div_eq_div_mul]
  omega
theorem Ahm {m i:Nat} (hi:32≤i) (h:i<64):P5 m (i+1)=4*P5 m i:=by
  unfold P5
  have e1:(2:Nat)^64=2^(2*i-64)*2^(128-2*i):=by rw [← Nat.pow_add]; congr 1; omega
  have e2:(2:Nat)^64=2^(2*i-64)*4*2^(128-2*(i+1)):=by
    rw [show (4:Nat)=2^2 from rfl,← Nat.pow_add,← Nat.pow_add]; congr 1; omega
  have a1:m*2^64 / 2^(128-2*i)=m*2^(2*i-64):=by rw [e1,← Nat.mul_assoc,Nat.mul_div_cancel _ (B8 _)]
  have a2:m*2^64 / 2^(128-2*(i+1))=m*(2^(2*i-64)*4):=by rw [e2,← Nat.mul_assoc,Nat.mul_div_cancel _ (B8 _)]
  rw [a1,a2,← Nat.mul_assoc,Nat.mul_comm 4]
theorem Ans {A B tl th:Nat} (hA:A<2^64) (htl:tl<2^64) (hB:B<2^64) (hth:th<4) :
    (F6 (A:Int) (tl:Int) (0:Int)=0∨F6 (A:Int) (tl:Int) (0:Int)=1) ∧
    (th*2^64+tl≤B*2^64+A→(F6 (B:Int) (th:Int) (F6 (A:Int) (tl:Int) (0:Int))==(0:Int))=true ∧
      ∃ h l:Nat,Lx (B:Int) (th:Int) (F6 (A:Int) (tl:Int) (0:Int))=(h:Int)∧Lx (A:Int) (tl:Int) (0:Int)=(l:Int)∧l<2^64∧h*2^64+l=B*2^64+A-(th*2^64+tl)) ∧
    (B*2^64+A<th*2^64+tl→(F6 (B:Int) (th:Int) (F6 (A:Int) (tl:Int) (0:Int))==(0:Int))=false):=by
  have e1:F6 (A:Int) (tl:Int) (0:Int)=((if A<tl then 1 else 0:Nat):Int):=by
    unfold F6
    rw [Auv,Auv]
    rfl
  by_cases h:A<tl
  · rw [if_pos h] at e1
    rw [e1]
    have e2:F6 (B:Int) (th:Int) ((1:Nat):Int)=((if B<th+1 then 1 else 0:Nat):Int):=by
      unfold F6
      rw [Auv,Auv]
      rfl
    refine ⟨.inr rfl,fun hle=>?_,fun hlt=>?_⟩
    · rw [if_neg (by omega)] at e2
      rw [e2]
      refine ⟨rfl,B-th-1,A+2^64-tl,?_,?_,by omega,by omega⟩
      · unfold Lx
        rw [Auv,Auv,Auv]
        congr 1; omega
      · unfold Lx
        rw [Auv,Auv]
        show ((_:Nat):Int)=_
        congr 1
        show (A+18446744073709551616-tl-0)%18446744073709551616=_
        omega
    · rw [if_pos (by omega)] at e2
      rw [e2]; rfl
  · rw [if_neg h] at e1
    rw [e1]
    have e2:F6 (B:Int) (th:Int) ((0:Nat):Int)=((if B<th then 1 else 0:Nat):Int):=by
      unfold F6
      rw [Auv,Auv]
      rfl
    refine ⟨.inl rfl,fun hle=>?_,fun hlt=>?_⟩
    · rw [if_neg (by omega)] at e2
      rw [e2]
      refine ⟨rfl,B-th,A-tl,?_,?_,by omega,by omega⟩
      · unfold Lx
        rw [Auv,Auv,Auv]
        congr 1; omega
      · unfold Lx
        rw [Auv,Auv]
        show ((_:Nat):Int)=_
        congr 1
        show (A+18446744073709551616-tl-0)%18446744073709551616=_
        omega
    · rw [if_pos (by omega)] at e2
      rw [e2]; rfl
theorem glue (n t:Nat):n / 2^62*2^64+(n%2^62*4+t)=4*n+t:=by omega
theorem Ah5 (N:Nat) {m:Nat} (hm:m<2^63):∀ (k i F rt rest:Nat),i+k=64→k<F→P5 m i=rt*rt+rest→rest≤2*rt→rt<2^i→∀ hi lo:Nat,hi*2^64+lo=rest→lo<2^64 →
    root.F3.L0 N F (m:Int) (rt:Int) (hi:Int) (lo:Int) (i:Int)=some (.tup [.int .u64 (R8 m),.bool (R9 m)]):=by
  intro k
  induction k with
  | zero =>
    intro i F rt rest hi hF hP hr hb h l e hl
    obtain ⟨F,rfl⟩:∃ G,F=G+1:=⟨F-1,by omega⟩
    obtain rfl:i=64:=by omega
    have hP':m*2^64=rt*rt+rest:=by
      rw [← hP]; unfold P5
      rw [show 128-2*64=0 from rfl,Nat.pow_zero,Nat.div_one]
    have hroot:=An1 hP' hr
    rw [root.F3.Au,At,Auy (by omega),Aux]
    have e1:R8 (m:Int)=(rt:Int):=by unfold R8; rw [Auv,← hroot]
    have e2:R9 (m:Int)=(bif ((h:Int)==(0:Int)) then ((l:Int)==(0:Int)) else false):=by
      unfold R9
      rw [Auv,← hroot,hP']
      by_cases h0:h=0
      · subst h0
        rw [show (((0:Nat):Int)==(0:Int))=true from rfl,Aut,Au9,Au0,beq_iff_eq]
        omega
      · rw [show ((h:Int)==(0:Int))=false by rw [beq_eq_false_iff_ne]; omega,Aux,Auy]
        omega
    rw [e1,e2]
  | succ k ih =>
    intro i F rt rest hi hF hP hr hb h l e hl
    obtain ⟨F,rfl⟩:∃ G,F=G+1:=⟨F-1,by omega⟩
    have hp:2^i≤2^63:=Au8 (by decide) (by omega)
    have hi63:2^(i+1)=2*2^i:=by rw [Nat.pow_succ,Nat.mul_comm]
    have f1:2*rt+1<2^(i+1):=by rw [hi63]; omega
    have f2:2*rt<2^(i+1):=by omega
    have hh:h=0:=by omega
    subst hh
    have hrest:rest=l:=by omega
    subst hrest
    obtain ⟨two,t4,hP',hcode⟩:∃ two:Nat,two<4∧P5 m (i+1)=4*P5 m i+two ∧
        root.F3.L0 N (F+1) (m:Int) (rt:Int) ((0:Nat):Int) (rest:Int) (i:Int) =
        (bif (decide ((F6 (Hr .u64 (Br .u64 (rest:Int) (2:Int)) (two:Int)) (Hr .u64 (Br .u64 (rt:Int) (2:Int)) (1:Int)) (0:Int))≤1)) then
          bif ((F6 (Hr .u64 (Br .u64 ((0:Nat):Int) (2:Int)) (Dg .u64 (rest:Int) (62:Int))) (Dg .u64 (rt:Int) (62:Int)) (F6 (Hr .u64 (Br .u64 (rest:Int) (2:Int)) (two:Int)) (Hr .u64 (Br .u64 (rt:Int) (2:Int)) (1:Int)) (0:Int)))==(0:Int)) then
            root.F3.L0 N F (m:Int) (Hr .u64 (Br .u64 (rt:Int) (1:Int)) (1:Int)) (Lx (Hr .u64 (Br .u64 ((0:Nat):Int) (2:Int)) (Dg .u64 (rest:Int) (62:Int))) (Dg .u64 (rt:Int) (62:Int)) (F6 (Hr .u64 (Br .u64 (rest:Int) (2:Int)) (two:Int)) (Hr .u64 (Br .u64 (rt:Int) (2:Int)) (1:Int)) (0:Int))) (Lx (Hr .u64 (Br .u64 (rest:Int) (2:Int)) (two:Int)) (Hr .u64 (Br .u64 (rt:Int) (2:Int)) (1:Int)) (0:Int)) (Ab ((i:Int)+(1:Int)))
          else root.F3.L0 N F (m:Int) (Br .u64 (rt:Int) (1:Int)) (Hr .u64 (Br .u64 ((0:Nat):Int) (2:Int)) (Dg .u64 (rest:Int) (62:Int))) (Hr .u64 (Br .u64 (rest:Int) (2:Int)) (two:Int)) (Ab ((i:Int)+(1:Int)))
        else none):=by
      by_cases h32:i<32
      · refine ⟨m / 2^(62-2*i)%4,Nat.mod_lt _ (by decide),Aka h32,?_⟩
        have ht:=(Ajg (m:=m) h32).resolve_right (by omega)
        have hq:m / 2^(62-2*i)%2^64%4=m / 2^(62-2*i)%4:=by omega
        rw [hq] at ht
        rw [root.F3.Au,At,Auu (show (i:Int)<64 by omega),Aut,At,Auu (show (i:Int)<32 by omega),Aut,ht,Al (x:=(2:Int)*(i:Int)) (by omega) (by omega),Al (x:=(62:Int)-2*(i:Int)) (by omega) (by omega),Auu (show (0:Int)≤62-2*(i:Int) by omega),Aut]
      · refine ⟨0,by decide,by rw [Ahm (by omega) (by omega),Nat.add_zero],?_⟩
        rw [root.F3.Au,At,Auu (show (i:Int)<64 by omega),Aut,At,Auy (show ¬ (i:Int)<32 by omega),Aux]
        rfl
    obtain ⟨s1,s2⟩:=Ae1 hP hr t4
    have eA:=sh2 (n:=rest) t4
    have eT:=sh2 (n:=rt) (t:=1) (by decide)
    have eB:Hr .u64 (Br .u64 ((0:Nat):Int) (2:Int)) (Dg .u64 (rest:Int) (62:Int))=((rest / 2^62:Nat):Int):=by
      rw [show (62:Int)=((62:Nat):Int) from rfl,Sm _ _ (by decide),sh2 (n:=0) (t:=rest / 2^62) (by omega)]
      congr 1; omega
    have eH:Dg .u64 (rt:Int) (62:Int)=((rt / 2^62:Nat):Int):=by rw [show (62:Int)=((62:Nat):Int) from rfl,Sm _ _ (by decide)]
    have eT':Hr .u64 (Br .u64 (rt:Int) (2:Int)) (1:Int)=((rt%2^62*4+1:Nat):Int):=eT
    obtain ⟨b1,b2,b3⟩:=Ans (A:=rest%2^62*4+two) (B:=rest / 2^62) (tl:=rt%2^62*4+1) (th:=rt / 2^62) (by omega) (by omega) (by omega) (by omega)
    rw [hcode,eA,eT',eB,eH,Auu (by rcases b1 with b | b<;>rw [b]<;>decide),Aut,Al (by omega) (by omega)]
    by_cases hc:4*rt+1≤4*rest+two
    · obtain ⟨c1,hh,ll,c2,c3,c4,c5⟩:=b2 (by rw [glue,glue]; exact hc)
      obtain ⟨d1,d2⟩:=s1 hc
      rw [c1,Aut,c2,c3,sh1o (by omega)]
      refine ih (i+1) F (2*rt+1) (4*rest+two-(4*rt+1)) (by omega) (by omega) (hP'.trans d1) d2 f1 hh ll ?_ c4
      rw [c5,glue,glue]
    · rw [b3 (by rw [glue,glue]; omega),Aux,sh1 (by omega)]
      obtain ⟨d1,d2⟩:=s2 (by omega)
      refine ih (i+1) F (2*rt) (4*rest+two) (by omega) (by omega) (hP'.trans d1) d2 f2 _ _ (glue _ _) ?_
      clear hcode
      omega
theorem root.F3.known:root.F3.Kn:=root.F3.Ad .nil fun m hp=>by
  have hp:=Aq.1 hp
  obtain ⟨n,rfl⟩:∃ n:Nat,m=n:=⟨m.toNat,by omega⟩
  refine ⟨65,root.F3.out [.i n],[],?_,Wk.Gu (.cons .int (.cons .bool .nil))⟩
  rw [root.F3.ev]
  have h0:P5 n 0=0*0+0:=by
    unfold P5
    rw [Nat.div_eq_of_lt]
    show n*18446744073709551616<340282366920938463463374607431768211456
    omega
  exact Ah5 65 (by omega) 64 0 65 0 0 rfl (by omega) h0 (Nat.le_refl 0) Nat.one_pos 0 0 rfl (Nat.pow_pos (by decide))
end Go.Proofs.S1
end
