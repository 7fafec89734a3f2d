/- A verified evaluator of the program's form and its use for this seat: S1EqBits6, S1EqTimes, S1PTimes, S1PTimesA, S1EqVec, S1PVec, S1EqMat, S1PMat, S1EqCmp, S1PCmp, S1PDiv, RootM, HouL, S1EqRoot, S1PRoot. -/
import Derived.Test.YtjbokjpbiobjpaaGreatTE
import Derived.Test.YtjbokjpbiobjpaaGreatTF
import Derived.Test.YtjbokjpbiobjpaaGreatTH
import Derived.Test.YtjbokjpbiobjpaaGreatTG
set_option linter.unusedVariables false
set_option linter.unusedSimpArgs false
noncomputable section
namespace Go.Proofs.S1
open Go Go.Den Go.Rnd Go.Proofs
set_option maxRecDepth 100000
namespace EqBits6
def Ch.Bp.Bb:List (Nat × Entry):=[(261,Ch.Jx.spec)]
def Ch.Bp.E:Env:=Be (Ba Ch.Bp.Bb) (fun _=>false) (fun _=>none) (fun _=>none)
theorem Ch.Bp.ev (N:Nat) (x:Int):B0 Ch.Bp.E N Tryz.f250 (Al Tryz.f250) [.int .u64 x]=bif (Ai x) then some (.int .i64 (Ab ((64:Int)-(Ec x)))) else none:=by kernel_rfl
abbrev _root_.Go.Proofs.S1.Ch.Bp.Kn:=A8 Tryz.prog 250 Ch.Bp.spec
theorem Ch.Bp.Ad (hk:Az Tryz.prog Ch.Bp.Bb) (h:∀ (x:Int),Ch.Bp.pre [.i x]=true→Bf Ch.Bp.E Tryz.f250 [.int .u64 x] (Ch.Bp.out [.i x])):Ch.Bp.Kn :=
  Ak (A0 hk _ _ _) Tryz.func250 (by kernel_rfl) (by kernel_rfl) h
def Ch.Gy.Bb:List (Nat × Entry):=[]
def Ch.Gy.E:Env:=Be (Ba Ch.Gy.Bb) (fun _=>false) (fun _=>none) (fun _=>none)
theorem Ch.Gy.ev (N:Nat) (x y:Int):B0 Ch.Gy.E N Tryz.f237 (Al Tryz.f237) [.int .u64 x,.int .u64 y]=some (.tup [.int .u64 (A7 ((A7 ((A7 ((Da .u64 x 32)*(Da .u64 y 32)))+(Da .u64 (A7 ((A7 ((Da .u64 x 32)*(Fj .u64 y 4294967295)))+(Da .u64 (A7 ((Fj .u64 x 4294967295)*(Fj .u64 y 4294967295))) 32))) 32)))+(Da .u64 (A7 ((Fj .u64 (A7 ((A7 ((Da .u64 x 32)*(Fj .u64 y 4294967295)))+(Da .u64 (A7 ((Fj .u64 x 4294967295)*(Fj .u64 y 4294967295))) 32))) 4294967295)+(A7 ((Fj .u64 x 4294967295)*(Da .u64 y 32))))) 32))),.int .u64 (A7 (x*y))]):=by kernel_rfl
abbrev _root_.Go.Proofs.S1.Ch.Gy.Kn:=A8 Tryz.prog 237 Ch.Gy.spec
theorem Ch.Gy.Ad (hk:Az Tryz.prog Ch.Gy.Bb) (h:∀ (x y:Int),Ch.Gy.pre [.i x,.i y]=true→Bf Ch.Gy.E Tryz.f237 [.int .u64 x,.int .u64 y] (Ch.Gy.out [.i x,.i y])):Ch.Gy.Kn :=
  Ak (A0 hk _ _ _) Tryz.func237 (by kernel_rfl) (by kernel_rfl) h
abbrev _root_.Go.Proofs.S1.Ch.Jx.Kn:Prop:=A8 Tryz.prog 261 Ch.Jx.spec
theorem _root_.Go.Proofs.S1.Ch.Jx.call:∀ (args:Array Value) (w:World),(callFunc 261 args).run Tryz.prog w=.ok (.enter 261 args) w:=Ni Tryz.func261 (by kernel_rfl) (show Tryz.f261.body=some (Al Tryz.f261) by kernel_rfl)
theorem _root_.Go.Proofs.S1.Ch.Jx.run (x:Int) (w:World) (h0:0≤x) (h1:x≤18446744073709551615):Calls Tryz.prog 261 #[.int .u64 x] w fun e w'=>e=.returned (.int .i64 (Lib.bitLen x.toNat))∧w'=w:=Tryz.Aey x w h0 h1
end EqBits6
namespace EqTimes
def times.signed.Bb:List (Nat × Entry):=[(233,soft.Fs.spec)]
def times.signed.E:Env:=Be (Ba times.signed.Bb) (fun _=>false) (fun _=>none) (fun _=>none)
theorem times.signed.ev (N:Nat) (b:Int) (n:Bool):B0 times.signed.E N Tryz.f235 (Al Tryz.f235) [.int .u64 b,.bool n]=bif n then bif (Ai b) then some (.int .u64 (Dm b)) else none else some (.int .u64 b):=by kernel_rfl
abbrev _root_.Go.Proofs.S1.times.signed.Kn:=A8 Tryz.prog 235 times.signed.spec
theorem times.signed.Ad (hk:Az Tryz.prog times.signed.Bb) (h:∀ (b:Int) (n:Bool),times.signed.pre [.i b,.b n]=true→Bf times.signed.E Tryz.f235 [.int .u64 b,.bool n] (times.signed.out [.i b,.b n])):times.signed.Kn :=
  Ak (A0 hk _ _ _) Tryz.func235 (by kernel_rfl) (by kernel_rfl) h
def times.nan.Bb:List (Nat × Entry):=[(155,soft.Kind.spec)]
def times.nan.E:Env:=Be (Ba times.nan.Bb) (fun _=>false) (fun _=>none) (fun _=>none)
theorem times.nan.ev (N:Nat) (a b:Int):B0 times.nan.E N Tryz.f234 (Al Tryz.f234) [.int .u64 a,.int .u64 b]=bif (Ai a) then bif ((A1 a)==(4:Int)) then some (.bool true) else bif (Ai b) then bif ((A1 b)==(4:Int)) then some (.bool true) else some (.bool false) else none else none:=by kernel_rfl
abbrev _root_.Go.Proofs.S1.times.nan.Kn:=A8 Tryz.prog 234 times.nan.spec
theorem times.nan.Ad (hk:Az Tryz.prog times.nan.Bb) (h:∀ (a b:Int),times.nan.pre [.i a,.i b]=true→Bf times.nan.E Tryz.f234 [.int .u64 a,.int .u64 b] (times.nan.out [.i a,.i b])):times.nan.Kn :=
  Ak (A0 hk _ _ _) Tryz.func234 (by kernel_rfl) (by kernel_rfl) h
def times.norm.Bb:List (Nat × Entry):=[(250,Ch.Bp.spec),(211,soft.Fc.spec)]
def times.norm.E:Env:=Be (Ba times.norm.Bb) (fun _=>false) (fun _=>none) (fun _=>none)
theorem times.norm.ev (N:Nat) (b:Int):B0 times.norm.E N Tryz.f236 (Al Tryz.f236) [.int .u64 b]=bif (Ai b) then bif (Ai (Bh b)) then bif (decide (0≤(Ab ((64-Ec (Bh b))-11)))) then some (.tup [.int .u64 (Bs .u64 (Bh b) (Ab ((64-Ec (Bh b))-11))),.int .i64 (Ab ((Aw b)-(Ab ((64-Ec (Bh b))-11))))]) else none else none else none:=by kernel_rfl
abbrev _root_.Go.Proofs.S1.times.norm.Kn:=A8 Tryz.prog 236 times.norm.spec
theorem times.norm.Ad (hk:Az Tryz.prog times.norm.Bb) (h:∀ (b:Int),times.norm.pre [.i b]=true→Bf times.norm.E Tryz.f236 [.int .u64 b] (times.norm.out [.i b])):times.norm.Kn :=
  Ak (A0 hk _ _ _) Tryz.func236 (by kernel_rfl) (by kernel_rfl) h
def times.wide.hint:Nat→Option A9
  | 0=>some { keep:=[0,1,2,3],objs:=[],boxes:=[] }
  | _=>none
def times.wide.Bb:List (Nat × Entry):=[(212,soft.Cy.spec)]
def times.wide.E:Env:=Be (Ba times.wide.Bb) (fun _=>false) times.wide.hint (fun _=>none)
def times.wide.L0 (N M:Nat) (n:Bool) (p1 p2:Int) (p3:Bool):Option DV:=B7 times.wide.E N Tryz.f238 (Al Tryz.f238) [1,0,0] [] M ⟨Fy 39 [(0,.bool n),(1,.int .u64 p1),(2,.int .i64 p2),(3,.bool p3)],[]⟩
theorem times.wide.At (N M:Nat) (n:Bool) (p1 p2:Int) (p3:Bool):times.wide.L0 N (M+1) n p1 p2 p3=bif ((A4 p2 (-1130:Int))&&(A4 1 p1)) then times.wide.L0 N M n (Da .u64 p1 1) (Ab (p2+1)) (bif p3 then true else ((Fj .u64 p1 1)==(1:Int))) else bif (A4 p2 (-1130:Int)) then bif (Ds 0 (-1074:Int) true) then some (.tup [.int .u64 (Eb n 0 (-1074:Int) true),.int .u8 (Ea n 0 (-1074:Int) true)]) else none else bif (Ds p1 p2 p3) then some (.tup [.int .u64 (Eb n p1 p2 p3),.int .u8 (Ea n p1 p2 p3)]) else none :=
  Eq.trans (by kernel_rfl)
  (Ar (N2 (A4 p2 (-1130:Int))) (Ar (Ke (A4 p2 (-1130:Int))) (Ar (Sj (A4 p2 (-1130:Int))) (C3 (tt1 (A4 p2 (-1130:Int)) (A4 1 p1)) (Ar (U4 p3) (Ar (Tk p3) (Ar (Tk p3) (Ar (tt6 p3) rfl)))) rfl))))
theorem times.wide.ev (N:Nat) (n:Bool) (m e:Int) (r:Bool):B0 times.wide.E N Tryz.f238 (Al Tryz.f238) [.bool n,.int .u64 m,.int .i64 e,.bool r] =
  times.wide.L0 N N n m e r:=by kernel_rfl
abbrev _root_.Go.Proofs.S1.times.wide.Kn:=A8 Tryz.prog 238 times.wide.spec
theorem times.wide.Ad (hk:Az Tryz.prog times.wide.Bb) (h:∀ (n:Bool) (m e:Int) (r:Bool),times.wide.pre [.b n,.i m,.i e,.b r]=true→Bf times.wide.E Tryz.f238 [.bool n,.int .u64 m,.int .i64 e,.bool r] (times.wide.out [.b n,.i m,.i e,.b r])):times.wide.Kn :=
  Ak (A0 hk _ _ _) Tryz.func238 (by kernel_rfl) (by kernel_rfl) h
def times.Mul.Bb:List (Nat × Entry):=[(237,Ch.Gy.spec),(155,soft.Kind.spec),(213,soft.Sign.spec),(234,times.nan.spec),(236,times.norm.spec),(235,times.signed.spec),(238,times.wide.spec)]
def times.Mul.E:Env:=Be (Ba times.Mul.Bb) (fun _=>false) (fun _=>none) (fun _=>none)
theorem times.Mul.ev (N:Nat) (a b:Int):B0 times.Mul.E N Tryz.f208 (Al Tryz.f208) [.int .u64 a,.int .u64 b]=bif (Ai a) then bif (Ai b) then bif (Ai a) then bif (Ai b) then bif (Ai a&&Ai b) then bif (Ajz a b) then some (.tup [.int .u64 9221120237041090560,.int .u8 0]) else bif ((((A1 a)==(3:Int))&&((A1 b)==(0:Int)))||(((A1 a)==(0:Int))&&((A1 b)==(3:Int)))) then some (.tup [.int .u64 9221120237041090560,.int .u8 16]) else bif (((A1 a)==(3:Int))||((A1 b)==(3:Int))) then bif (Ai 9218868437227405312) then some (.tup [.int .u64 (P2 (!((Dp a)==(Dp b))) 9218868437227405312),.int .u8 0]) else none else bif (((A1 a)==(0:Int))||((A1 b)==(0:Int))) then bif (Ai 0) then some (.tup [.int .u64 (P2 (!((Dp a)==(Dp b))) 0),.int .u8 0]) else none else bif (Ai a&&Kk a) then bif (Ai b&&Kk b) then bif (Ai (Cj a)&&Ai (Cj b)) then bif (Mv (Hh .u64 (Bs .u64 (P5 (Cj a) (Cj b)) 20) (Da .u64 (Lr (Cj a) (Cj b)) 44)) (Ab ((Ab ((F9 a)+(F9 b)))+44))) then some (.tup [.int .u64 (Eb (!((Dp a)==(Dp b))) (Hh .u64 (Bs .u64 (P5 (Cj a) (Cj b)) 20) (Da .u64 (Lr (Cj a) (Cj b)) 44)) (Ab ((Ab ((F9 a)+(F9 b)))+44)) ((Bs .u64 (Lr (Cj a) (Cj b)) 20) !=(0:Int))),.int .u8 (Ea (!((Dp a)==(Dp b))) (Hh .u64 (Bs .u64 (P5 (Cj a) (Cj b)) 20) (Da .u64 (Lr (Cj a) (Cj b)) 44)) (Ab ((Ab ((F9 a)+(F9 b)))+44)) ((Bs .u64 (Lr (Cj a) (Cj b)) 20) !=(0:Int)))]) else none else none else none else none else none else none else none else none else none :=
  Eq.trans (by kernel_rfl)
  (Ev (Ev (Ev (Ev (Ev (Ev rfl (Ar (N2 ((A1 a)==(3:Int))) (Ar (Ke ((A1 a)==(3:Int))) (Ar (Sj ((A1 a)==(3:Int))) (Ar (Atb ((A1 a)==(3:Int)) ((A1 b)==(0:Int))) (Ar (Am2 ((A1 a)==(3:Int)) ((A1 b)==(0:Int))) (Ar (Am2 ((A1 a)==(3:Int)) ((A1 b)==(0:Int))) (Ar (Atc ((A1 a)==(3:Int)) ((A1 b)==(0:Int)) ((A1 a)==(0:Int))) (Ar (Atd ((A1 a)==(3:Int)) ((A1 b)==(0:Int)) ((A1 a)==(0:Int))) (Ar (Ate ((A1 a)==(3:Int)) ((A1 b)==(0:Int)) ((A1 a)==(0:Int))) (Ar (Atf ((A1 a)==(3:Int)) ((A1 b)==(0:Int))) (C3 (Atg ((A1 a)==(3:Int)) ((A1 b)==(0:Int)) ((A1 a)==(0:Int)) ((A1 b)==(3:Int))) rfl (Ar (U4 ((A1 a)==(3:Int))) (Ar (Tk ((A1 a)==(3:Int))) (Ar (tt6 ((A1 a)==(3:Int))) (C3 (tt5 ((A1 a)==(3:Int)) ((A1 b)==(3:Int))) rfl (Ar (U4 ((A1 a)==(0:Int))) (Ar (Tk ((A1 a)==(0:Int))) (Ar (tt6 ((A1 a)==(0:Int))) (C3 (tt5 ((A1 a)==(0:Int)) ((A1 b)==(0:Int))) rfl rfl)))))))))))))))))))) rfl) rfl) rfl) rfl) rfl)
abbrev _root_.Go.Proofs.S1.times.Mul.Kn:=A8 Tryz.prog 208 times.Mul.spec
theorem times.Mul.Ad (hk:Az Tryz.prog times.Mul.Bb) (h:∀ (a b:Int),times.Mul.pre [.i a,.i b]=true→Bf times.Mul.E Tryz.f208 [.int .u64 a,.int .u64 b] (times.Mul.out [.i a,.i b])):times.Mul.Kn :=
  Ak (A0 hk _ _ _) Tryz.func208 (by kernel_rfl) (by kernel_rfl) h
def times.Div.hint:Nat→Option A9
  | 1=>some { keep:=[6,10,11,12,13,14,78],objs:=[],boxes:=[] }
  | _=>none
def times.Div.Bb:List (Nat × Entry):=[(155,soft.Kind.spec),(213,soft.Sign.spec),(234,times.nan.spec),(236,times.norm.spec),(235,times.signed.spec),(238,times.wide.spec)]
def times.Div.E:Env:=Be (Ba times.Div.Bb) (fun _=>false) times.Div.hint (fun _=>none)
def times.Div.L0 (N M:Nat) (a b:Int) (p13 p14 p78:Int):Option DV:=B7 times.Div.E N Tryz.f209 (Al Tryz.f209) [1,1,1,1,1,1,1,0,1,0] [] M ⟨Fy 104 [(6,.bool (!((Dp a)==(Dp b)))),(10,.int .i64 (F9 a)),(11,.int .u64 (Cj b)),(12,.int .i64 (F9 b)),(13,.int .u64 p13),(14,.int .u64 p14),(78,.int .i64 p78)],[]⟩
theorem times.Div.At (N M:Nat) (a b:Int) (p13 p14 p78:Int):times.Div.L0 N (M+1) a b p13 p14 p78=bif (A4 p78 61) then bif (Dv (Cj b) (Bs .u64 p14 1)) then times.Div.L0 N M a b (Hh .u64 (Bs .u64 p13 1) 1) (A7 ((Bs .u64 p14 1)-(Cj b))) (Ab (p78+1)) else times.Div.L0 N M a b (Bs .u64 p13 1) (Bs .u64 p14 1) (Ab (p78+1)) else bif (Mv p13 (Ab ((Ab ((F9 a)-(F9 b)))-61))) then some (.tup [.int .u64 (Eb (!((Dp a)==(Dp b))) p13 (Ab ((Ab ((F9 a)-(F9 b)))-61)) (p14 !=(0:Int))),.int .u8 (Ea (!((Dp a)==(Dp b))) p13 (Ab ((Ab ((F9 a)-(F9 b)))-61)) (p14 !=(0:Int)))]) else none:=by kernel_rfl
theorem times.Div.ev (N:Nat) (a b:Int):B0 times.Div.E N Tryz.f209 (Al Tryz.f209) [.int .u64 a,.int .u64 b]=bif (Ai a) then bif (Ai b) then bif (Ai a) then bif (Ai b) then bif (Ai a&&Ai b) then bif (Ajz a b) then some (.tup [.int .u64 9221120237041090560,.int .u8 0]) else bif ((((A1 a)==(3:Int))&&((A1 b)==(3:Int)))||(((A1 a)==(0:Int))&&((A1 b)==(0:Int)))) then some (.tup [.int .u64 9221120237041090560,.int .u8 16]) else bif ((A1 a)==(3:Int)) then bif (Ai 9218868437227405312) then some (.tup [.int .u64 (P2 (!((Dp a)==(Dp b))) 9218868437227405312),.int .u8 0]) else none else bif (((A1 b)==(3:Int))||((A1 a)==(0:Int))) then bif (Ai 0) then some (.tup [.int .u64 (P2 (!((Dp a)==(Dp b))) 0),.int .u8 0]) else none else bif ((A1 b)==(0:Int)) then bif (Ai 9218868437227405312) then some (.tup [.int .u64 (P2 (!((Dp a)==(Dp b))) 9218868437227405312),.int .u8 8]) else none else bif (Ai a&&Kk a) then bif (Ai b&&Kk b) then bif ((Cj b) !=0) then bif ((Cj b) !=0) then times.Div.L0 N N a b (A7 (Int.tdiv (Cj a) (Cj b))) (Int.tmod (Cj a) (Cj b)) (0:Int) else none else none else none else none else none else none else none else none else none :=
  Eq.trans (by kernel_rfl)
  (Ev (Ev (Ev (Ev (Ev (Ev rfl (Ar (N2 ((A1 a)==(3:Int))) (Ar (Ke ((A1 a)==(3:Int))) (Ar (Sj ((A1 a)==(3:Int))) (Ar (Atb ((A1 a)==(3:Int)) ((A1 b)==(3:Int))) (Ar (Am2 ((A1 a)==(3:Int)) ((A1 b)==(3:Int))) (Ar (Am2 ((A1 a)==(3:Int)) ((A1 b)==(3:Int))) (Ar (Atc ((A1 a)==(3:Int)) ((A1 b)==(3:Int)) ((A1 a)==(0:Int))) (Ar (Atd ((A1 a)==(3:Int)) ((A1 b)==(3:Int)) ((A1 a)==(0:Int))) (Ar (Ate ((A1 a)==(3:Int)) ((A1 b)==(3:Int)) ((A1 a)==(0:Int))) (Ar (Atf ((A1 a)==(3:Int)) ((A1 b)==(3:Int))) (C3 (Atg ((A1 a)==(3:Int)) ((A1 b)==(3:Int)) ((A1 a)==(0:Int)) ((A1 b)==(0:Int))) rfl (Ev rfl (Ar (U4 ((A1 b)==(3:Int))) (Ar (Tk ((A1 b)==(3:Int))) (Ar (tt6 ((A1 b)==(3:Int))) (C3 (tt5 ((A1 b)==(3:Int)) ((A1 a)==(0:Int))) rfl (Ev rfl (Ev (Ev (C3 (C4 ((Cj b) !=0)) (C3 (C4 ((Cj b) !=0)) rfl rfl) rfl) rfl) rfl))))))))))))))))))) rfl) rfl) rfl) rfl) rfl)
abbrev _root_.Go.Proofs.S1.times.Div.Kn:=A8 Tryz.prog 209 times.Div.spec
theorem times.Div.Ad (hk:Az Tryz.prog times.Div.Bb) (h:∀ (a b:Int),times.Div.pre [.i a,.i b]=true→Bf times.Div.E Tryz.f209 [.int .u64 a,.int .u64 b] (times.Div.out [.i a,.i b])):times.Div.Kn :=
  Ak (A0 hk _ _ _) Tryz.func209 (by kernel_rfl) (by kernel_rfl) h
end EqTimes
open EqBits6 EqTimes
theorem Acs {n:Nat} (h0:n≠0) (h:n<2^64):Go.Lib.bitLen n=n.log2+1:=by
  have h1:=Nat.log2_self_le h0
  have h2:=Nat.lt_log2_self (n:=n)
  have hp:=B9 n.log2
  have e:n / 2^n.log2=1:=by
    rw [Nat.pow_succ] at h2
    exact Nat.div_eq_of_lt_le (by omega) (by omega)
  have e1:Go.Lib.bitLen 1=1:=by decide
  rw [Go.Lib.bitLen_shift n.log2 n h1 h,e,e1]
theorem Ch.Jx.known:Ch.Jx.Kn:=by
  refine ⟨?_,Ch.Jx.call⟩
  intro args ha
  simp only [Ch.Jx.spec,entry] at ha ⊢
  cases hd:Lb [.i .u64] args with
  | none=>rw [hd] at ha; cases ha
  | some ats =>
    rw [hd] at ha
    simp only at ha ⊢
    obtain ⟨ds,h1,h2⟩:=Lw hd
    obtain ⟨x,_,_,rfl,rfl,he⟩:=h1.Aky
    obtain ⟨rfl,rfl⟩:=he.Zi
    obtain ⟨n,rfl,hn⟩:=Bv (x:=x) ha
    refine Np.args ?_ h2
    intro w vals I hI hv
    obtain ⟨u,us,e1,e2,e3⟩:=hv
    simp only [Aj] at e2
    have e3:us=[]:=e3
    subst e2 e3
    have e4:vals=#[.int .u64 (n:Int)]:=Array.ext' e1
    subst e4
    refine (Ch.Jx.run n w (by omega) (by omega)).mono ?_
    rintro e w' ⟨rfl,rfl⟩
    refine ⟨_,fun _=>none,rfl,Go.RowKit.Below.refl _ _,⟨fun i b h=>(by cases h),fun i j b h=>(by cases h)⟩,?_⟩
    show Aj _ _ (DV.int .i64 (Ec n)) _
    simp only [Aj]
    congr 1
    unfold Ec
    rw [Aum]
    by_cases h0:n=0
    · subst h0; rfl
    · rw [Acs h0 hn,if_neg (by omega)]; rfl
theorem Aks {n:Nat} (hn:n<2^64):0≤Ec n∧Ec n≤64:=by
  unfold Ec
  rw [Aum]
  by_cases h0:n=0
  · subst h0; decide
  · have:=(Nat.log2_lt h0).2 hn
    rw [if_neg (by omega)]; omega
theorem Ch.Bp.known:Ch.Bp.Kn:=Ch.Bp.Ad (.cons Ch.Jx.known .nil) fun x hp=>by
  obtain ⟨n,rfl,hn⟩:=Bv (x:=x) hp
  have:=Aks hn
  refine ⟨0,Ch.Bp.out [.i n],[],?_,.int⟩
  rw [Ch.Bp.ev,B5 hn,Auk,An (by omega) (by omega)]
  rfl
theorem H3 {a b:Nat} (ha:a<4294967296) (hb:b<4294967296):a*b≤18446744065119617025 :=
  Nat.le_trans (Nat.mul_le_mul (show a≤4294967295 by omega) (show b≤4294967295 by omega)) (by decide)
theorem Aj4 (x y:Nat) (hx:x<2^64) (hy:y<2^64) :
    x*y / 18446744073709551616=(x / 2^32)*(y / 2^32)+((x / 2^32)*(y%2^32)+(x%2^32)*(y%2^32) / 2^32) / 2^32 +
      (((x / 2^32)*(y%2^32)+(x%2^32)*(y%2^32) / 2^32)%2^32+(x%2^32)*(y / 2^32)) / 2^32:=by
  have ex:x=x / 2^32*4294967296+x%2^32:=by omega
  have ey:y=y / 2^32*4294967296+y%2^32:=by omega
  have ha:x / 2^32<4294967296:=by omega
  have hc:y / 2^32<4294967296:=by omega
  have hb:x%2^32<4294967296:=by omega
  have hd:y%2^32<4294967296:=by omega
  generalize x / 2^32=a at *
  generalize x%2^32=b at *
  generalize y / 2^32=c at *
  generalize y%2^32=d at *
  have e:x*y=a*c*18446744073709551616+(a*d+b*c)*4294967296+b*d:=by
    rw [ex,ey,Nat.add_mul,Nat.mul_add,Nat.mul_add]
    have e1:a*4294967296*(c*4294967296)=a*c*18446744073709551616:=by
      rw [Nat.mul_mul_mul_comm]
    have e2:a*4294967296*d=a*d*4294967296:=Nat.mul_right_comm _ _ _
    have e3:b*(c*4294967296)=b*c*4294967296:=(Nat.mul_assoc _ _ _).symm
    rw [e1,e2,e3]
    omega
  have b1:=H3 ha hc
  have b2:=H3 ha hd
  have b3:=H3 hb hc
  have b4:=H3 hb hd
  rw [e]
  clear e ex ey
  generalize a*c=p at *
  generalize a*d=q at *
  generalize b*c=r at *
  generalize b*d=s at *
  omega
theorem Ch.Gy.known:Ch.Gy.Kn:=Ch.Gy.Ad .nil fun x y hp=>by
  obtain ⟨h1,h2⟩:=Ag.1 hp
  obtain ⟨x,rfl,hx⟩:=Bv h1
  obtain ⟨y,rfl,hy⟩:=Bv h2
  refine ⟨0,Ch.Gy.out [.i x,.i y],[],?_,Wk.Gm (.cons .int (.cons .int .nil))⟩
  show _=some (DV.tup [.int .u64 (P5 x y),.int .u64 (Lr x y)])
  have s32:∀ n:Nat,Da .u64 (n:Int) (32:Int)=((n / 2^32:Nat):Int):=fun n=>Gi .u64 n 32 (by decide)
  have m32:∀ n:Nat,n<2^64→Fj .u64 (n:Int) (4294967295:Int)=((n%2^32:Nat):Int):=fun n hn=>Hb 32 hn (by decide)
  have ha:x / 2^32<4294967296:=by omega
  have hc:y / 2^32<4294967296:=by omega
  have hb:x%2^32<4294967296:=by omega
  have hd:y%2^32<4294967296:=by omega
  have b1:=H3 ha hc
  have b2:=H3 ha hd
  have b3:=H3 hb hc
  have b4:=H3 hb hd
  have hhi:=Aj4 x y hx hy
  have wn:∀ n:Nat,n<2^64→A7 (n:Int)=n:=fun n hn=>Cn (by omega) (by omega)
  have hlt:x*y / 18446744073709551616<2^64:=by
    rw [Nat.div_lt_iff_lt_mul (by decide)]
    have:=Nat.mul_le_mul (show x≤18446744073709551615 by omega) (show y≤18446744073709551615 by omega)
    omega
  rw [Ch.Gy.ev]
  simp only [s32,m32 x hx,m32 y hy]
  generalize hA:x / 2^32=a at *
  generalize hB:x%2^32=b at *
  generalize hC:y / 2^32=c at *
  generalize hD:y%2^32=d at *
  simp only [← Au5]
  rw [wn (a*c) (by omega),wn (a*d) (by omega),wn (b*c) (by omega),wn (b*d) (by omega),s32]
  simp only [← Int.natCast_add]
  rw [wn (a*d+b*d / 2^32) (by omega),s32,m32 _ (by omega)]
  simp only [← Int.natCast_add]
  rw [wn (a*c+(a*d+b*d / 2^32) / 2^32) (by omega),wn _ (by omega),s32]
  simp only [← Int.natCast_add]
  rw [← hhi,wn _ hlt]
  unfold P5 Lr
  rw [Aum,Aum,Q4]
  congr 3
theorem times.signed.known:times.signed.Kn:=times.signed.Ad (.cons soft.Fs.known .nil) fun b n hp=>by
  have hp:Ai b=true:=hp
  refine ⟨0,times.signed.out [.i b,.b n],[],?_,.int⟩
  rw [times.signed.ev,hp]
  cases n<;>rfl
theorem times.nan.known:times.nan.Kn:=times.nan.Ad (.cons soft.Kind.known .nil) fun a b hp=>by
  obtain ⟨ha,hb⟩:=Ag.1 hp
  refine ⟨0,times.nan.out [.i a,.i b],[],?_,.bool⟩
  rw [times.nan.ev,ha,hb,Auk,Auk]
  show _=some (DV.bool (decide (A1 a=4)||decide (A1 b=4)))
  by_cases h1:A1 a=4
  · rw [h1]; rfl
  · have e1:(A1 a==(4:Int))=false:=by simp; exact h1
    rw [e1,Aup h1,Auo]
    by_cases h2:A1 b=4
    · rw [h2]; rfl
    · have e2:(A1 b==(4:Int))=false:=by simp; exact h2
      rw [e2,Aup h2]; rfl
theorem Mk {n:Nat} (h:Aq n≠0):(Aq n).log2≤52∧2^52≤Aq n*2^B2 n∧Aq n*2^B2 n<2^53∧B2 n≤52:=by
  have h1:=Ei n
  have h2:(Aq n).log2<53:=(Nat.log2_lt h).2 (by omega)
  have hz:=Oo (Aq n) (B2 n) h
  have hne:Aq n*2^B2 n≠0:=Ja h
  have hl:(Aq n*2^B2 n).log2=52:=by rw [hz]; unfold B2; omega
  refine ⟨by omega,?_,?_,by unfold B2; omega⟩
  · rw [← Nat.le_log2 hne]; omega
  · rw [← Nat.log2_lt hne]; omega
theorem times.norm.known:times.norm.Kn:=times.norm.Ad (.cons Ch.Bp.known (.cons soft.Fc.known .nil)) fun b hp=>by
  obtain ⟨h1,h2⟩:=Ag.1 hp
  obtain ⟨n,rfl,hn⟩:=Bv h1
  have h2:Aq n≠0:=Ap.1 h2
  obtain ⟨l1,l2,l3,l4⟩:=Mk h2
  have hM:=Ei n
  have hE:=Di n
  refine ⟨0,times.norm.out [.i n],[],?_,Wk.Gm (.cons .int (.cons .int .nil))⟩
  show _=some (DV.tup [.int .u64 (Cj n),.int .i64 (F9 n)])
  have e1:Bh (n:Int)=(Aq n:Int):=rfl
  have e2:Aw (n:Int)=Ax n:=rfl
  have e3:Ec (Aq n:Int)=((Aq n).log2:Int)+1:=by
    unfold Ec
    rw [if_neg (by omega),Aum]
  have e4:Ab ((64-(((Aq n).log2:Int)+1))-(11:Int))=((B2 n:Nat):Int):=by
    rw [An (by omega) (by omega)]; unfold B2; omega
  rw [times.norm.ev,B5 hn,e1,e2,B5 (n:=Aq n) (by omega),e3,e4,Ex _ _ (by omega),Aux (by omega),An (by omega) (by omega),Aul (by omega)]
  rfl
theorem Ai0 {V t:Nat} {E:Int} (h0:V≠0) (h:V<2^t) (hE:E+t≤-1075):B8 V E=0∧flagsOf V E=3:=by
  have hl:V.log2<t:=(Nat.log2_lt h0).2 h
  have hL:Cc V E=-1074:=by unfold Cc; omega
  obtain ⟨k,hk⟩:∃ k:Nat,(-1074-E).toNat=t+1+k:=⟨(-1074-E).toNat-t-1,by omega⟩
  have hp:2^(t+1)≤2^(t+1+k):=Auz (by decide) (by omega)
  have ht:2^(t+1)=2*2^t:=by rw [Nat.pow_succ]; omega
  have e2:(-(-1074-E)).toNat=0:=by omega
  have hr:Iy V (-1074-E)=0:=by
    unfold Iy L5
    rw [e2,hk,Nat.pow_zero,Nat.mul_one,Nat.div_eq_of_lt (by omega),Aux (by omega),if_neg (by omega)]
  have hru:B8 V E=0:=by
    unfold B8 kept
    rw [if_neg h0,hL,hr]
    simp
  refine ⟨hru,?_⟩
  unfold flagsOf exact K1
  rw [if_neg h0,hru,hL,e2,hk,Nat.pow_zero,Nat.mul_one,Aux (by omega),Aup h0]
  decide
theorem Ag9 (n:Bool) {m:Nat} {e:Int} (r:Bool) (hm:1<m) (he:e < -1130):Fq n (m / 2) (e+1) (r||decide (m%2=1))=Fq n m e r:=by
  have e1:(4*m+r.toNat) / 2^3=m / 2:=by cases r<;>simp<;>omega
  have e2:(r||decide (m%2=1))=decide ((4*m+r.toNat)%2^3≠0):=by
    rw [Au0]
    cases r
    · simp; omega
    · simp; omega
  have:=Rv n (V:=4*m+r.toNat) (k:=3) (E:=e-2) (e:=e+1) (s:=r||decide (m%2=1)) (by omega) e2 (by omega) (.inr (by omega))
  rw [e1] at this
  exact this
theorem Ru (n:Bool) {e:Int} (r:Bool) (he:e < -1130):Fq n 1 e r=Fq n 0 (-1074) true:=by
  have h1:r.toNat≤1:=by cases r<;>decide
  obtain ⟨a1,a2⟩:=Ai0 (V:=4*1+r.toNat) (t:=3) (E:=e-2) (by omega) (by omega) (by omega)
  obtain ⟨b1,b2⟩:=Ai0 (V:=4*0+true.toNat) (t:=1) (E:=-1074-2) (by decide) (by decide) (by decide)
  unfold Fq
  rw [a1,a2,b1,b2]
theorem Aga (N:Nat) (n:Bool):∀ (k m:Nat) (e:Int) (r:Bool),1≤m→m<2^62→m≤2^k→-7000≤e→e≤6000→(2^60≤m∨e≤-1130) →
    times.wide.L0 N (k+1) n (m:Int) e r=some (.tup [.int .u64 (((Fq n m e r).1:Nat):Int),.int .u8 (((Fq n m e r).2:Nat):Int)]):=by
  intro k
  induction k with
  | zero =>
    intro m e r h1 h2 h3 h4 h5 h6
    have hm:m=1:=by simp at h3; omega
    subst hm
    rw [times.wide.At,Au,Au]
    have c1:decide ((1:Int)<((1:Nat):Int))=false:=by decide
    rw [c1,Bool.and_false,Auo]
    by_cases he:e < -1130
    · have hp:Ds (0:Int) (-1074:Int) true=true:=Ap.2 (by omega)
      rw [Aul he,Auk,hp,Auk,Ru n r he]
      rfl
    · have he:e=-1130:=by omega
      subst he
      have hp:Ds ((1:Nat):Int) (-1130:Int) r=true:=Ap.2 (by omega)
      rw [Aup (by omega),Auo,hp,Auk]
      rfl
  | succ k ih =>
    intro m e r h1 h2 h3 h4 h5 h6
    rw [times.wide.At,Au,Au]
    by_cases he:e < -1130
    · by_cases hm:1<m
      · have c1:decide ((1:Int)<(m:Int))=true:=Aul (by omega)
        have e1:Da .u64 (m:Int) (1:Int)=((m / 2:Nat):Int):=Gi .u64 m 1 (by decide)
        have e2:Fj .u64 (m:Int) (1:Int)=((m%2:Nat):Int):=Hb (a:=m) 1 (by omega) (by decide)
        have e3:(bif r then true else (Fj .u64 (m:Int) (1:Int))==(1:Int))=(r||decide (m%2=1)):=by
          rw [e2]
          cases r
          · rw [Au0]; simp; omega
          · rfl
        rw [Aul he,c1,Auq,Auk,e1,e3,An (by omega) (by omega)]
        have hk:m / 2≤2^k:=by rw [Nat.pow_succ] at h3; omega
        rw [ih (m / 2) (e+1) _ (by omega) (by omega) hk (by omega) (by omega) (.inr (by omega)),Ag9 n r hm he]
      · have hm:m=1:=by omega
        subst hm
        have c1:decide ((1:Int)<((1:Nat):Int))=false:=by decide
        have hp:Ds (0:Int) (-1074:Int) true=true:=Ap.2 (by omega)
        rw [c1,Bool.and_false,Auo,Aul he,Auk,hp,Auk,Ru n r he]
        rfl
    · have hp:Ds (m:Int) e r=true:=Ap.2 ⟨by omega,by omega,by omega,.inl (by omega),fun _=>by omega⟩
      rw [Aup he,Bool.false_and,Auo,Auo,hp,Auk]
      rfl
theorem times.wide.known:times.wide.Kn:=times.wide.Ad (.cons soft.Cy.known .nil) fun n m e r hp=>by
  obtain ⟨h1,h2,h3,h4⟩:=Ap.1 (show Mv m e=true from hp)
  obtain ⟨m,rfl⟩:∃ k:Nat,m=k:=⟨m.toNat,by omega⟩
  refine ⟨63,times.wide.out [.b n,.i m,.i e,.b r],[],?_,Wk.Gm (.cons .int (.cons .int .nil))⟩
  rw [times.wide.ev,Aga 63 n 62 m e r (by omega) (by omega) (by omega) (by omega) (by omega) (.inl (by omega))]
  rfl
open EqTimes
theorem Pg {b:Nat} (h0:Ao b≠0) (h3:Ao b≠3) (h4:Ao b≠4):Aq b≠0:=by
  have:=Ij b
  unfold Ao at h0 h3 h4
  unfold Aq
  by_cases h1:Em b=2047
  · rw [if_pos h1] at h3 h4
    by_cases h2:Dt b=0
    · rw [if_pos h2] at h3; exact absurd rfl h3
    · rw [if_neg h2] at h4; exact absurd rfl h4
  · rw [if_neg h1] at h0
    by_cases h2:0<Em b
    · rw [if_neg (by omega)]; omega
    · rw [if_neg h2] at h0
      by_cases h5:0<Dt b
      · rw [if_pos (by omega)]; omega
      · rw [if_neg h5] at h0; exact absurd rfl h0
theorem Xr {b:Nat} (h0:Ao b=0):Aq b=0:=by
  unfold Ao at h0
  unfold Aq
  by_cases h1:Em b=2047
  · rw [if_pos h1] at h0; split at h0<;>omega
  · rw [if_neg h1] at h0
    by_cases h2:0<Em b
    · rw [if_pos h2] at h0; omega
    · rw [if_neg h2] at h0
      by_cases h5:0<Dt b
      · rw [if_pos h5] at h0; omega
      · rw [if_pos (by omega)]; omega
theorem Ad4 {x y:Nat} (hx1:2^52≤x) (hx2:x<2^53) (hy1:2^52≤y) (hy2:y<2^53):2^104≤x*y∧x*y<2^106:=by
  have h1:=Nat.mul_le_mul hx1 hy1
  have h2:x*y<2^53*2^53:=Nat.mul_lt_mul'' hx2 hy2
  exact ⟨Nat.le_trans (by decide) h1,Nat.lt_of_lt_of_le h2 (by decide)⟩
theorem Ank {V:Nat} (h:V<2^106):Hh .u64 (Bs .u64 ((V / 18446744073709551616:Nat):Int) (20:Int)) (Da .u64 ((V%18446744073709551616:Nat):Int) (44:Int))=((V / 2^44:Nat):Int):=by
  have e1:Bs .u64 ((V / 18446744073709551616:Nat):Int) (20:Int)=((V / 18446744073709551616*2^20%2^64:Nat):Int):=Ex _ 20 (by decide)
  have e2:Da .u64 ((V%18446744073709551616:Nat):Int) (44:Int)=((V%18446744073709551616 / 2^44:Nat):Int):=Gi .u64 _ 44 (by decide)
  rw [e1,e2,Aux (by omega),Ld (k:=20) (by omega) (by omega)]
  congr 1
  omega
theorem Anj {V:Nat}:((Bs .u64 ((V%18446744073709551616:Nat):Int) (20:Int)) !=(0:Int))=decide (V%2^44≠0):=by
  have e1:Bs .u64 ((V%18446744073709551616:Nat):Int) (20:Int)=((V%18446744073709551616*2^20%2^64:Nat):Int):=Ex _ 20 (by decide)
  rw [e1,Au0]
  simp only [bne_iff_ne,ne_eq,Aur]
  omega
theorem Zg (s t:Bool):(!(s==t))=(s !=t):=rfl
theorem w53 {x:Nat} (h:x<2^53):Ai (x:Int)=true:=B5 (by omega)
theorem Anr (n:Bool) {a b:Nat} (ha:Aq a≠0) (hb:Aq b≠0) :
    (bif (Ai (Cj a)&&Ai (Cj b)) then
      bif (Mv (Hh .u64 (Bs .u64 (P5 (Cj a) (Cj b)) (20:Int)) (Da .u64 (Lr (Cj a) (Cj b)) (44:Int))) (Ab ((Ab ((F9 a)+(F9 b)))+(44:Int)))) then
        some (DV.tup [.int .u64 (Eb n (Hh .u64 (Bs .u64 (P5 (Cj a) (Cj b)) (20:Int)) (Da .u64 (Lr (Cj a) (Cj b)) (44:Int))) (Ab ((Ab ((F9 a)+(F9 b)))+(44:Int))) ((Bs .u64 (Lr (Cj a) (Cj b)) (20:Int)) !=(0:Int))),.int .u8 (Ea n (Hh .u64 (Bs .u64 (P5 (Cj a) (Cj b)) (20:Int)) (Da .u64 (Lr (Cj a) (Cj b)) (44:Int))) (Ab ((Ab ((F9 a)+(F9 b)))+(44:Int))) ((Bs .u64 (Lr (Cj a) (Cj b)) (20:Int)) !=(0:Int)))])
      else none
    else none)=some (.tup [.int .u64 ((B1 n (B8 (Aq a*Aq b) (Ax a+Ax b)):Nat):Int),.int .u8 ((flagsOf (Aq a*Aq b) (Ax a+Ax b):Nat):Int)]):=by
  obtain ⟨a1,a2,a3,a4⟩:=Mk ha
  obtain ⟨b1,b2,b3,b4⟩:=Mk hb
  have ea:=Di a
  have eb:=Di b
  have ma:Cj (a:Int)=((Aq a*2^B2 a:Nat):Int):=rfl
  have mb:Cj (b:Int)=((Aq b*2^B2 b:Nat):Int):=rfl
  have na:F9 (a:Int)=Ax a-B2 a:=rfl
  have nb:F9 (b:Int)=Ax b-B2 b:=rfl
  have hi:P5 (Cj a) (Cj b)=((Aq a*2^B2 a*(Aq b*2^B2 b) / 18446744073709551616:Nat):Int):=rfl
  have lo:Lr (Cj a) (Cj b)=((Aq a*2^B2 a*(Aq b*2^B2 b)%18446744073709551616:Nat):Int):=rfl
  rw [hi,lo,ma,mb,na,nb,w53 a3,w53 b3,Auq,Auk]
  obtain ⟨v1,v2⟩:=Ad4 a2 a3 b2 b3
  have ev:Aq a*2^B2 a*(Aq b*2^B2 b)=Aq a*Aq b*2^(B2 a+B2 b):=by
    rw [Nat.mul_mul_mul_comm,← Nat.pow_add]
  obtain ⟨s1,s2⟩:=Dl (Aq a*Aq b) (B2 a+B2 b) (Ax a+Ax b)
  rw [← ev] at s1 s2
  generalize Aq a*2^B2 a*(Aq b*2^B2 b)=V at *
  rw [Ank v2,Anj,An (x:=_+_) (by rw [An (by omega) (by omega)]; omega) (by rw [An (by omega) (by omega)]; omega),An (by omega) (by omega)]
  have hw:Mv ((V / 2^44:Nat):Int) (Ax a-B2 a+(Ax b-B2 b)+44)=true:=Ap.2 ⟨by omega,by omega,by omega,by omega⟩
  rw [hw,Auk]
  unfold Eb Ea
  rw [Aum,Rv n (V:=V) (k:=44) (E:=Ax a+Ax b-((B2 a+B2 b:Nat):Int)) (e:=Ax a-B2 a+(Ax b-B2 b)+44) (s:=decide (V%2^44≠0)) (by omega) rfl (by omega) (.inl (by omega)),s1,s2]
theorem kq (b k:Nat):(((Ao b:Nat):Int)==((k:Nat):Int))=decide (Ao b=k):=by
  rw [Au0]; simp only [beq_iff_eq,Aur]; omega
theorem Xi (n:Bool) {r:Nat} (h:r<2^63):P2 n (r:Int)=((B1 n r:Nat):Int):=by
  unfold P2 B1 Dm
  cases n
  · rfl
  · simp only [if_true]
    rw [Aum,Vx h]
theorem Ab9 (n:Bool):P2 n (9218868437227405312:Int)=((B1 n Gg:Nat):Int):=Xi n (r:=Gg) (by decide)
theorem Xa (n:Bool):P2 n (0:Int)=((B1 n 0:Nat):Int):=Xi n (r:=0) (by decide)
theorem Pn (b:Nat):A1 (b:Int)=((Ao b:Nat):Int):=rfl
theorem Afr (a b:Nat):Ajz (a:Int) (b:Int)=(decide (Ao a=4)||decide (Ao b=4)):=by
  unfold Ajz A1
  simp only [Aum]
  rw [Au0]
  simp only [Bool.or_eq_true,Aur]
  omega
theorem k3 (b:Nat):(((Ao b:Nat):Int)==(3:Int))=decide (Ao b=3):=kq b 3
theorem k0 (b:Nat):(((Ao b:Nat):Int)==(0:Int))=decide (Ao b=0):=kq b 0
theorem times.Mul.known:times.Mul.Kn:=times.Mul.Ad (.cons Ch.Gy.known (.cons soft.Kind.known (.cons soft.Sign.known (.cons times.nan.known (.cons times.norm.known (.cons times.signed.known (.cons times.wide.known .nil))))))) fun a b hp=>by
  obtain ⟨ha,hb⟩:=Ag.1 hp
  obtain ⟨a,rfl,hn⟩:=Bv ha
  obtain ⟨b,rfl,hm⟩:=Bv hb
  refine ⟨0,times.Mul.out [.i a,.i b],[],?_,Wk.Gm (.cons .int (.cons .int .nil))⟩
  have i1:Ai (9218868437227405312:Int)=true:=B5 (n:=9218868437227405312) (by decide)
  have i2:Ai (0:Int)=true:=B5 (n:=0) (by decide)
  rw [times.Mul.ev,ha,hb,Afr,Pn,Pn,k3,k3,k0,k0,i1,i2,Ab9,Xa,Zg]
  show _=some (DV.tup [.int .u64 (((Lj a b).1:Nat):Int),.int .u8 (((Lj a b).2:Nat):Int)])
  have ea:Dp (a:Int)=Cs a:=rfl
  have eb:Dp (b:Int)=Cs b:=rfl
  rw [ea,eb]
  unfold Lj
  simp only [Auq,Auk]
  by_cases h4:Ao a=4∨Ao b=4
  · have c4:(decide (Ao a=4)||decide (Ao b=4))=true:=by simp; exact h4
    rw [if_pos h4,c4,Auk]; rfl
  · have c4:(decide (Ao a=4)||decide (Ao b=4))=false:=by simp; omega
    rw [if_neg h4,c4,Auo]
    by_cases h3:Ao a=3∨Ao b=3
    · rw [if_pos h3]
      by_cases h0:Ao a=0∨Ao b=0
      · have c0:(decide (Ao a=3)&&decide (Ao b=0)||decide (Ao a=0)&&decide (Ao b=3))=true:=by simp; omega
        rw [if_pos h0,c0,Auk]; rfl
      · have c0:(decide (Ao a=3)&&decide (Ao b=0)||decide (Ao a=0)&&decide (Ao b=3))=false:=by simp; omega
        have c3:(decide (Ao a=3)||decide (Ao b=3))=true:=by simp; omega
        rw [if_neg h0,c0,Auo,c3,Auk]; rfl
    · have c0:(decide (Ao a=3)&&decide (Ao b=0)||decide (Ao a=0)&&decide (Ao b=3))=false:=by simp; omega
      have c3:(decide (Ao a=3)||decide (Ao b=3))=false:=by simp; omega
      rw [if_neg h3,c0,Auo,c3,Auo]
      by_cases h0:Ao a=0∨Ao b=0
      · have c5:(decide (Ao a=0)||decide (Ao b=0))=true:=by simp; exact h0
        have hz:Aq a*Aq b=0:=by
          rcases h0 with h | h
          · rw [Xr h,Nat.zero_mul]
          · rw [Xr h,Nat.mul_zero]
        rw [c5,Auk,hz,Pa,Nc]; rfl
      · have c5:(decide (Ao a=0)||decide (Ao b=0))=false:=by simp; omega
        have pa:=Pg (b:=a) (by omega) (by omega) (by omega)
        have pb:=Pg (b:=b) (by omega) (by omega) (by omega)
        have na:Kk (a:Int)=true:=Ap.2 pa
        have nb:Kk (b:Int)=true:=Ap.2 pb
        rw [c5,Auo,na,nb,Auq,Auk,Auk]
        exact Anr _ pa pb
theorem Alu (N:Nat) {a b:Nat} {X Y:Nat} (hY:0<Y) (hY2:Y<2^53) (hX:X<2*Y) (em:Cj (b:Int)=(Y:Int)):∀ (k i:Nat),k+i=61 →
    times.Div.L0 N (k+1) a b ((X*2^i / Y:Nat):Int) ((X*2^i%Y:Nat):Int) (i:Int) =
      times.Div.L0 N 1 a b ((X*2^61 / Y:Nat):Int) ((X*2^61%Y:Nat):Int) (61:Int):=by
  intro k
  induction k with
  | zero =>
    intro i hi
    have:i=61:=by omega
    subst this
    rfl
  | succ k ih =>
    intro i hi
    have hq:X*2^i / Y<2^62:=by
      rw [Nat.div_lt_iff_lt_mul hY]
      have h1:X*2^i<2*Y*2^i:=(Nat.mul_lt_mul_right (B9 i)).2 hX
      have h2:2*2^i≤2^62:=by
        rw [Nat.mul_comm,← Nat.pow_succ]; exact Auz (by decide) (by omega)
      have h3:2*2^i*Y≤2^62*Y:=Auw _ h2
      rw [Nat.mul_right_comm] at h1
      omega
    have hr:X*2^i%Y<Y:=Nat.mod_lt _ hY
    have hd:=Nat.div_add_mod (X*2^i) Y
    have e2:X*2^(i+1)=X*2^i*2:=by rw [Nat.pow_succ,Nat.mul_assoc]
    rw [times.Div.At,Au,Ed,em,Aul (by omega),Auk]
    have s1:Bs .u64 ((X*2^i%Y:Nat):Int) (1:Int)=((X*2^i%Y*2:Nat):Int):=by
      have:=Ex (X*2^i%Y) 1 (by decide)
      rw [Aux (a:=X*2^i%Y*2^1) (by omega)] at this
      exact this
    have s2:Bs .u64 ((X*2^i / Y:Nat):Int) (1:Int)=((X*2^i / Y*2^1:Nat):Int):=by
      have:=Ex (X*2^i / Y) 1 (by decide)
      rw [Aux (a:=X*2^i / Y*2^1) (by omega)] at this
      exact this
    have s3:Hh .u64 ((X*2^i / Y*2^1:Nat):Int) (1:Int)=((X*2^i / Y*2^1+1:Nat):Int):=Ld (k:=1) (b:=1) (by decide) (by omega)
    have ei:Ab ((i:Int)+1)=((i+1:Nat):Int):=by rw [An (by omega) (by omega)]; rfl
    rw [s1,s2,s3,ei]
    generalize hq':X*2^i / Y=q at *
    generalize hr':X*2^i%Y=r at *
    have step:∀ c,X*2^i*2=Y*(2*q+c)+(2*r-c*Y)→c*Y≤2*r→2*r<c*Y+Y→X*2^(i+1) / Y=2*q+c∧X*2^(i+1)%Y=2*r-c*Y:=fun c h1 h2 h3=>by
      rw [e2,h1]
      constructor
      · rw [Nat.mul_add_div hY,Nat.div_eq_of_lt (by omega)]; omega
      · rw [Nat.mul_add_mod,Aux (by omega)]
    by_cases hc:Y≤r*2
    · obtain ⟨t1,t2⟩:=step 1 (by rw [Nat.mul_add,Nat.mul_one,Nat.mul_left_comm]; omega) (by omega) (by omega)
      have:=ih (i+1) (by omega)
      rw [t1,t2] at this
      rw [Aul (by omega),Auk,Cn (by omega) (by omega)]
      have e3:((r*2:Nat):Int)-(Y:Int)=((2*r-1*Y:Nat):Int):=by omega
      have e4:q*2^1+1=2*q+1:=by omega
      rw [e3,e4]
      exact this
    · obtain ⟨t1,t2⟩:=step 0 (by rw [Nat.add_zero,Nat.mul_left_comm]; omega) (by omega) (by omega)
      have:=ih (i+1) (by omega)
      rw [t1,t2] at this
      rw [Aup (by omega),Auo]
      have e3:r*2=2*r-0*Y:=by omega
      have e4:q*2^1=2*q+0:=by omega
      rw [e3,e4]
      exact this
theorem Aor {a b:Nat} (ha:Aq a≠0) (hb:Aq b≠0) :
    times.Div.L0 62 62 a b (A7 (Int.tdiv (Cj a) (Cj b))) (Int.tmod (Cj a) (Cj b)) (0:Int) =
      some (.tup [.int .u64 ((B1 (Cs a !=Cs b) (B8 (Fp (Aq a) (Aq b) 120) (Ax a-Ax b-121)):Nat):Int),.int .u8 ((flagsOf (Fp (Aq a) (Aq b) 120) (Ax a-Ax b-121):Nat):Int)]):=by
  obtain ⟨a1,a2,a3,a4⟩:=Mk ha
  obtain ⟨b1,b2,b3,b4⟩:=Mk hb
  have ea:=Di a
  have eb:=Di b
  have ma:Cj (a:Int)=((Aq a*2^B2 a:Nat):Int):=rfl
  have mb:Cj (b:Int)=((Aq b*2^B2 b:Nat):Int):=rfl
  have na:F9 (a:Int)=Ax a-B2 a:=rfl
  have nb:F9 (b:Int)=Ax b-B2 b:=rfl
  have sL:=Adg (Aq a) (Aq b*2^B2 b) (B2 a) 61
  have hpos:0<Aq b*2^B2 b:=by omega
  have hq1:2^53≤Aq a*2^B2 a*2^61 / (Aq b*2^B2 b):=by
    rw [Nat.le_div_iff_mul_le hpos]; omega
  have hqq:2^60≤Aq a*2^B2 a*2^61 / (Aq b*2^B2 b):=by
    rw [Nat.le_div_iff_mul_le hpos]; omega
  have hq2:Aq a*2^B2 a*2^61 / (Aq b*2^B2 b)<2^62:=by
    rw [Nat.div_lt_iff_lt_mul hpos]; omega
  have hstick:Fp (Aq a*2^B2 a) (Aq b*2^B2 b) 61=Fp (Aq a) (Aq b) (61+B2 a-B2 b):=by
    rw [sL]
    have:61+B2 a=61+B2 a-B2 b+B2 b:=by omega
    conv=>lhs; rw [this]
    rw [Aax]
  have hge1:2^53≤Aq a*2^(61+B2 a-B2 b) / Aq b:=by
    have e1:Aq a*2^B2 a*2^61=Aq a*2^(61+B2 a-B2 b)*2^B2 b:=by
      rw [Nat.mul_assoc,← Nat.pow_add,Nat.mul_assoc,← Nat.pow_add]
      congr 2
      omega
    rw [e1,Nat.mul_div_mul_right _ _ (B9 _)] at hq1
    exact hq1
  have hge2:2^53≤Aq a*2^120 / Aq b:=Aqs (t:=53) (by omega) (by omega) (by have:=Ei b; omega) (by omega)
  obtain ⟨s1,s2⟩:=Adf (X:=Aq a) (Y:=Aq b) (K:=61+B2 a-B2 b) (L:=120) (E:=Ax a-B2 a-(Ax b-B2 b)-61-1) (F:=Ax a-Ax b-121) (by omega) hge1 hge2 (by omega)
  have d1:A7 (Int.tdiv (Cj a) (Cj b))=((Aq a*2^B2 a*2^0 / (Aq b*2^B2 b):Nat):Int):=by
    rw [ma,mb,Hl,Nat.pow_zero,Nat.mul_one]
    have h1:=Nat.div_le_self (Aq a*2^B2 a) (Aq b*2^B2 b)
    have h2:Aq a*2^B2 a / (Aq b*2^B2 b)<2^64:=Nat.lt_of_le_of_lt h1 (Nat.lt_trans a3 (by decide))
    generalize Aq a*2^B2 a / (Aq b*2^B2 b)=q at h2 ⊢
    exact Cn (Int.natCast_nonneg q) (by omega)
  have d2:Int.tmod (Cj a) (Cj b)=((Aq a*2^B2 a*2^0%(Aq b*2^B2 b):Nat):Int):=by
    rw [ma,mb,Hk,Nat.pow_zero,Nat.mul_one]
  rw [d1,d2]
  have lp:=Alu 62 (a:=a) (b:=b) hpos b3 (X:=Aq a*2^B2 a) (by omega) mb 61 0 (by omega)
  refine lp.trans ?_
  rw [times.Div.At,Au,na,nb,Aup (by omega),Auo]
  have we:Ab (Ab (Ax a-B2 a-(Ax b-B2 b))-61)=Ax a-B2 a-(Ax b-B2 b)-61:=by
    rw [An (x:=Ax a-B2 a-(Ax b-B2 b)) (by omega) (by omega),An (by omega) (by omega)]
  have hne:(((Aq a*2^B2 a*2^61%(Aq b*2^B2 b):Nat):Int) !=(0:Int))=decide (Aq a*2^B2 a*2^61%(Aq b*2^B2 b)≠0):=by
    rw [Au0]; simp only [bne_iff_ne,ne_eq,Aur]; omega
  rw [we,hne]
  have hw:Mv ((Aq a*2^B2 a*2^61 / (Aq b*2^B2 b):Nat):Int) (Ax a-B2 a-(Ax b-B2 b)-61)=true:=Ap.2 ⟨by omega,by omega,by omega,by omega⟩
  have hn:Dp (a:Int)=Cs a:=rfl
  have hn':Dp (b:Int)=Cs b:=rfl
  rw [hw,Auk,Zg,hn,hn']
  unfold Eb Ea
  rw [Aum,Ahb _ rfl rfl hq1,hstick,s1,s2]
theorem times.Div.known:times.Div.Kn:=times.Div.Ad (.cons soft.Kind.known (.cons soft.Sign.known (.cons times.nan.known (.cons times.norm.known (.cons times.signed.known (.cons times.wide.known .nil)))))) fun a b hp=>by
  obtain ⟨ha,hb⟩:=Ag.1 hp
  obtain ⟨a,rfl,hn⟩:=Bv ha
  obtain ⟨b,rfl,hm⟩:=Bv hb
  refine ⟨62,times.Div.out [.i a,.i b],[],?_,Wk.Gm (.cons .int (.cons .int .nil))⟩
  have i1:Ai (9218868437227405312:Int)=true:=B5 (n:=9218868437227405312) (by decide)
  have i2:Ai (0:Int)=true:=B5 (n:=0) (by decide)
  rw [times.Div.ev,ha,hb,Afr,Pn,Pn,k3,k3,k0,k0,i1,i2,Ab9,Xa,Zg]
  show _=some (DV.tup [.int .u64 (((W8 a b).1:Nat):Int),.int .u8 (((W8 a b).2:Nat):Int)])
  have ea:Dp (a:Int)=Cs a:=rfl
  have eb:Dp (b:Int)=Cs b:=rfl
  rw [ea,eb]
  unfold W8
  rw [Auq,Auk,Auk,Auk,Auk,Auk]
  by_cases h4:Ao a=4∨Ao b=4
  · have c4:(decide (Ao a=4)||decide (Ao b=4))=true:=by simp; exact h4
    rw [if_pos h4,c4,Auk]; rfl
  · have c4:(decide (Ao a=4)||decide (Ao b=4))=false:=by simp; omega
    rw [if_neg h4,c4,Auo]
    by_cases h1:Ao a=Ao b∧(Ao a=3∨Ao a=0)
    · have c1:(decide (Ao a=3)&&decide (Ao b=3)||decide (Ao a=0)&&decide (Ao b=0))=true:=by simp; omega
      rw [if_pos h1,c1,Auk]; rfl
    · have c1:(decide (Ao a=3)&&decide (Ao b=3)||decide (Ao a=0)&&decide (Ao b=0))=false:=by simp; omega
      rw [if_neg h1,c1,Auo]
      by_cases h2:Ao a=3
      · rw [if_pos h2,Aul h2,Auk]; rfl
      · rw [if_neg h2,Aup h2,Auo]
        by_cases h3:Ao b=3∨Ao a=0
        · have c3:(decide (Ao b=3)||decide (Ao a=0))=true:=by simp; exact h3
          rw [if_pos h3,c3,Auk]; rfl
        · have c3:(decide (Ao b=3)||decide (Ao a=0))=false:=by simp; omega
          rw [if_neg h3,c3,Auo]
          by_cases h5:Ao b=0
          · rw [if_pos h5,Aul h5,Auk]; rfl
          · rw [if_neg h5,Aup h5,Auo]
            have pa:=Pg (b:=a) (by omega) (by omega) (by omega)
            have pb:=Pg (b:=b) (by omega) (by omega) (by omega)
            have na:Kk (a:Int)=true:=Ap.2 pa
            have nb:Kk (b:Int)=true:=Ap.2 pb
            have hnb:(Cj (b:Int) !=0)=true:=by
              obtain ⟨_,l2,_,_⟩:=Mk pb
              have mb:Cj (b:Int)=((Aq b*2^B2 b:Nat):Int):=rfl
              rw [mb]
              simp only [bne_iff_ne,ne_eq]
              omega
            rw [na,nb,hnb,Auq,Auk,Auk,Auk,Auk,Aor pa pb]
namespace EqVec
def Af.Add.Bb:List (Nat × Entry):=[(232,sum.Add.spec)]
def Af.Add.E:Env:=Be (Ba Af.Add.Bb) (fun _=>false) (fun _=>none) (fun _=>none)
theorem Af.Add.ev (N:Nat) (a b:Int):B0 Af.Add.E N Tryz.f226 (Al Tryz.f226) [.int .u64 a,.int .u64 b]=bif (Ai a&&Ai b) then some (.int .u64 (Kc a b)) else none:=by kernel_rfl
abbrev _root_.Go.Proofs.S1.Af.Add.Kn:=A8 Tryz.prog 226 Af.Add.spec
theorem Af.Add.Ad (hk:Az Tryz.prog Af.Add.Bb) (h:∀ (a b:Int),Af.Add.pre [.i a,.i b]=true→Bf Af.Add.E Tryz.f226 [.int .u64 a,.int .u64 b] (Af.Add.out [.i a,.i b])):Af.Add.Kn :=
  Ak (A0 hk _ _ _) Tryz.func226 (by kernel_rfl) (by kernel_rfl) h
def Af.Sub.Bb:List (Nat × Entry):=[(207,sum.Sub.spec)]
def Af.Sub.E:Env:=Be (Ba Af.Sub.Bb) (fun _=>false) (fun _=>none) (fun _=>none)
theorem Af.Sub.ev (N:Nat) (a b:Int):B0 Af.Sub.E N Tryz.f156 (Al Tryz.f156) [.int .u64 a,.int .u64 b]=bif (Ai a&&Ai b) then some (.int .u64 (Dk a b)) else none:=by kernel_rfl
abbrev _root_.Go.Proofs.S1.Af.Sub.Kn:=A8 Tryz.prog 156 Af.Sub.spec
theorem Af.Sub.Ad (hk:Az Tryz.prog Af.Sub.Bb) (h:∀ (a b:Int),Af.Sub.pre [.i a,.i b]=true→Bf Af.Sub.E Tryz.f156 [.int .u64 a,.int .u64 b] (Af.Sub.out [.i a,.i b])):Af.Sub.Kn :=
  Ak (A0 hk _ _ _) Tryz.func156 (by kernel_rfl) (by kernel_rfl) h
def Af.Mul.Bb:List (Nat × Entry):=[(208,times.Mul.spec)]
def Af.Mul.E:Env:=Be (Ba Af.Mul.Bb) (fun _=>false) (fun _=>none) (fun _=>none)
theorem Af.Mul.ev (N:Nat) (a b:Int):B0 Af.Mul.E N Tryz.f157 (Al Tryz.f157) [.int .u64 a,.int .u64 b]=bif (Ai a&&Ai b) then some (.int .u64 (Eg a b)) else none:=by kernel_rfl
abbrev _root_.Go.Proofs.S1.Af.Mul.Kn:=A8 Tryz.prog 157 Af.Mul.spec
theorem Af.Mul.Ad (hk:Az Tryz.prog Af.Mul.Bb) (h:∀ (a b:Int),Af.Mul.pre [.i a,.i b]=true→Bf Af.Mul.E Tryz.f157 [.int .u64 a,.int .u64 b] (Af.Mul.out [.i a,.i b])):Af.Mul.Kn :=
  Ak (A0 hk _ _ _) Tryz.func157 (by kernel_rfl) (by kernel_rfl) h
def Af.fit.Bb:List (Nat × Entry):=[]
def Af.fit.E:Env:=Be (Ba Af.fit.Bb) (fun _=>false) (fun _=>none) (fun _=>none)
theorem Af.fit.ev (N:Nat) (x y:List Int):B0 Af.fit.E N Tryz.f225 (Al Tryz.f225) [.ints .arg .u64 x,.ints .arg .u64 y]=some (.bool (bif ((List.length x:Int)==(List.length y:Int)) then (Dv (List.length x:Int) 64) else false)) :=
  Eq.trans (by kernel_rfl)
  (Ar (N2 ((List.length x:Int)==(List.length y:Int))) (Ar (Ke ((List.length x:Int)==(List.length y:Int))) (Ar (Ke ((List.length x:Int)==(List.length y:Int))) (Ar (Sj ((List.length x:Int)==(List.length y:Int))) rfl))))
abbrev _root_.Go.Proofs.S1.Af.fit.Kn:=A8 Tryz.prog 225 Af.fit.spec
theorem Af.fit.Ad (hk:Az Tryz.prog Af.fit.Bb) (h:∀ (x y:List Int),Af.fit.pre [.l x,.l y]=true→Bf Af.fit.E Tryz.f225 [.ints .arg .u64 x,.ints .arg .u64 y] (Af.fit.out [.l x,.l y])):Af.fit.Kn :=
  Ak (A0 hk _ _ _) Tryz.func225 (by kernel_rfl) (by kernel_rfl) h
def Af.N1.hint:Nat→Option A9
  | 0=>some { keep:=[0,1,6,13,14],objs:=[],boxes:=[] }
  | _=>none
def Af.N1.Bb:List (Nat × Entry):=[(226,Af.Add.spec),(157,Af.Mul.spec),(225,Af.fit.spec)]
def Af.N1.E:Env:=Be (Ba Af.N1.Bb) (fun _=>false) Af.N1.hint (fun _=>none)
def Af.N1.L0 (N M:Nat) (x y:List Int) (p6 p14:Int):Option DV:=B7 Af.N1.E N Tryz.f189 (Al Tryz.f189) [1,1,1,0,1,0] [] M ⟨Fy 30 [(0,.ints .arg .u64 x),(1,.ints .arg .u64 y),(6,.int .u64 p6),(13,.int .i64 (List.length x:Int)),(14,.int .i64 p14)],[]⟩
theorem Af.N1.At (N M:Nat) (x y:List Int) (p6 p14:Int):Af.N1.L0 N (M+1) x y p6 p14=bif (A4 p14 (List.length x:Int)) then bif ((decide (0≤p14))&&(decide (p14<(List.length x:Int)))) then bif ((decide (0≤p14))&&(decide (p14<(List.length y:Int)))) then bif (Ai (List.getD x (Int.toNat p14) 0)&&Ai (List.getD y (Int.toNat p14) 0)) then bif (Ai p6&&Ai (Eg (List.getD x (Int.toNat p14) 0) (List.getD y (Int.toNat p14) 0))) then Af.N1.L0 N M x y (Kc p6 (Eg (List.getD x (Int.toNat p14) 0) (List.getD y (Int.toNat p14) 0))) (Ab (p14+1)) else none else none else none else none else some (.tup [.int .u64 p6,.int .i64 0]) :=
  Eq.trans (by kernel_rfl)
  (Ev (C3 (Li (decide (0≤p14)) (decide (p14<(List.length x:Int)))) (C3 (Li (decide (0≤p14)) (decide (p14<(List.length y:Int)))) (C3 (C4 (Ai (List.getD x (Int.toNat p14) 0)&&Ai (List.getD y (Int.toNat p14) 0))) (C3 (C4 (Ai p6&&Ai (Eg (List.getD x (Int.toNat p14) 0) (List.getD y (Int.toNat p14) 0)))) rfl rfl) rfl) rfl) rfl) rfl)
theorem Af.N1.ev (N:Nat) (x y:List Int):B0 Af.N1.E N Tryz.f189 (Al Tryz.f189) [.ints .arg .u64 x,.ints .arg .u64 y]=bif (!(S8 x y)) then some (.tup [.int .u64 0,.int .i64 3]) else Af.N1.L0 N N x y 0 0:=by kernel_rfl
abbrev _root_.Go.Proofs.S1.Af.N1.Kn:=A8 Tryz.prog 189 Af.N1.spec
theorem Af.N1.Ad (hk:Az Tryz.prog Af.N1.Bb) (h:∀ (x y:List Int),Af.N1.pre [.l x,.l y]=true→Bf Af.N1.E Tryz.f189 [.ints .arg .u64 x,.ints .arg .u64 y] (Af.N1.out [.l x,.l y])):Af.N1.Kn :=
  Ak (A0 hk _ _ _) Tryz.func189 (by kernel_rfl) (by kernel_rfl) h
end EqVec
open Go Go.Den Go.Rnd Go.Proofs Ieee
open EqVec
theorem Af.Add.known:Af.Add.Kn:=Af.Add.Ad (.cons sum.Add.known .nil) fun a b hp=>by
  have hp:(Ai a&&Ai b)=true:=hp
  refine ⟨0,Af.Add.out [.i a,.i b],[],?_,.int⟩
  rw [Af.Add.ev,hp]; rfl
theorem Af.Sub.known:Af.Sub.Kn:=Af.Sub.Ad (.cons sum.Sub.known .nil) fun a b hp=>by
  have hp:(Ai a&&Ai b)=true:=hp
  refine ⟨0,Af.Sub.out [.i a,.i b],[],?_,.int⟩
  rw [Af.Sub.ev,hp]; rfl
theorem Af.Mul.known:Af.Mul.Kn:=Af.Mul.Ad (.cons times.Mul.known .nil) fun a b hp=>by
  have hp:(Ai a&&Ai b)=true:=hp
  refine ⟨0,Af.Mul.out [.i a,.i b],[],?_,.int⟩
  rw [Af.Mul.ev,hp]; rfl
theorem Ak7 (x y:List Int):(bif ((List.length x:Int)==(List.length y:Int)) then (Dv (List.length x:Int) (64:Int)) else false)=S8 x y:=by
  unfold S8
  rw [Ed,Au0]
  by_cases h:x.length=y.length
  · have:((x.length:Int)==(y.length:Int))=true:=by rw [beq_iff_eq]; omega
    rw [this,Auk,Aul h,Bool.true_and,Aur,Aur]; omega
  · have:((x.length:Int)==(y.length:Int))=false:=by rw [beq_eq_false_iff_ne]; omega
    rw [this,Auo,Aup h,Bool.false_and]
theorem Af.fit.known:Af.fit.Kn:=Af.fit.Ad .nil fun x y _=>by
  refine ⟨0,Af.fit.out [.l x,.l y],[],?_,.bool⟩
  rw [Af.fit.ev,Ak7]; rfl
theorem Zy {x y:List Int}:S8 x y=true↔x.length=y.length∧x.length≤64:=by unfold S8; simp
theorem Aco {l:List Int} {i:Nat} (h:i<l.length):l.drop i=l.getD i 0::l.drop (i+1):=by
  rw [List.drop_eq_getElem_cons h,Auu,Au1 h]; rfl
theorem Alq {x y:List Int} {i:Nat} (s:Nat) (hx:i<x.length) (hy:i<y.length) :
    Ub s (x.drop i) (y.drop i)=Ub (H9 s (Lj (x.getD i 0).toNat (y.getD i 0).toNat).1).1 (x.drop (i+1)) (y.drop (i+1)):=by
  rw [Aco hx,Aco hy]; rfl
theorem Alr (N:Nat) {x y:List Int} (hf:S8 x y=true) (hx:Ah x=true) (hy:Ah y=true):∀ (k i F s:Nat),i+k=x.length→k<F→s<2^64 →
    Af.N1.L0 N F x y (s:Int) (i:Int)=some (.tup [.int .u64 ((Ub s (x.drop i) (y.drop i):Nat):Int),.int .i64 (0:Int)]):=by
  obtain ⟨h1,h2⟩:=Zy.1 hf
  intro k
  induction k with
  | zero =>
    intro i F s hi hF hs
    obtain ⟨F,rfl⟩:∃ G,F=G+1:=⟨F-1,by omega⟩
    rw [Af.N1.At,Au,Aup (by omega),Auo,Auy (by omega)]
    rfl
  | succ k ih =>
    intro i F s hi hF hs
    obtain ⟨F,rfl⟩:∃ G,F=G+1:=⟨F-1,by omega⟩
    have c1:decide ((i:Int)<(x.length:Int))=true:=Aul (by omega)
    have c2:decide ((i:Int)<(y.length:Int))=true:=Aul (by omega)
    have c3:decide ((0:Int)≤(i:Int))=true:=Aul (by omega)
    have g1:=No hx (show i<x.length by omega)
    have g2:=No hy (show i<y.length by omega)
    have em:Eg (x.getD i 0) (y.getD i 0)=(((Lj (x.getD i 0).toNat (y.getD i 0).toNat).1:Nat):Int):=rfl
    have ea:∀ t:Nat,Kc (s:Int) (t:Int)=(((H9 s t).1:Nat):Int):=fun t=>rfl
    rw [Af.N1.At,Au,c1,c2,c3,Aum,g1,g2,em,ea,B5 hs,B5 Ul,Auq,Auk,Auk,Auk,Auk,Auk,An (by omega) (by omega),Alq s (by omega) (by omega)]
    exact ih (i+1) F _ (by omega) (by omega) (Uv hs Ul).1
theorem Af.N1.known:Af.N1.Kn:=Af.N1.Ad (.cons Af.Add.known (.cons Af.Mul.known (.cons Af.fit.known .nil))) fun x y hp=>by
  obtain ⟨h1,hy⟩:=Ag.1 hp
  obtain ⟨hf,hx⟩:=Ag.1 h1
  refine ⟨x.length+1,Af.N1.out [.l x,.l y],[],?_,Wk.Gm (.cons .int (.cons .int .nil))⟩
  rw [Af.N1.ev,hf,Bool.not_true,Auo]
  exact Alr _ hf hx hy x.length 0 _ 0 (by omega) (by omega) (by decide)
namespace EqMat
def Aa.size.Bb:List (Nat × Entry):=[]
def Aa.size.E:Env:=Be (Ba Aa.size.Bb) (fun _=>false) (fun _=>none) (fun _=>none)
theorem Aa.size.ev (N:Nat) (n:Int):B0 Aa.size.E N Tryz.f204 (Al Tryz.f204) [.int .i64 n]=some (.bool (bif (Dv 0 n) then (Dv n 6) else false)) :=
  Eq.trans (by kernel_rfl)
  (Ar (N2 (Dv 0 n)) (Ar (Ke (Dv 0 n)) (Ar (Sj (Dv 0 n)) rfl)))
abbrev _root_.Go.Proofs.S1.Aa.size.Kn:=A8 Tryz.prog 204 Aa.size.spec
theorem Aa.size.Ad (hk:Az Tryz.prog Aa.size.Bb) (h:∀ (n:Int),Aa.size.pre [.i n]=true→Bf Aa.size.E Tryz.f204 [.int .i64 n] (Aa.size.out [.i n])):Aa.size.Kn :=
  Ak (A0 hk _ _ _) Tryz.func204 (by kernel_rfl) (by kernel_rfl) h
def Aa.Check.Bb:List (Nat × Entry):=[(204,Aa.size.spec)]
def Aa.Check.E:Env:=Be (Ba Aa.Check.Bb) (fun _=>false) (fun _=>none) (fun _=>none)
theorem Aa.Check.ev (N:Nat) (r c:Int) (l:List Int):B0 Aa.Check.E N Tryz.f160 (Al Tryz.f160) [.agg [.int .i64 r,.int .i64 c,.ints .arg .u64 l]]=bif (((!(Bj r))||(!(Bj c)))||((List.length l:Int) !=(Ab (r*c)))) then some (.int .i64 1) else some (.int .i64 0) :=
  Eq.trans (by kernel_rfl)
  (Ar (Ada (Bj r)) (Ar (T7 (Bj r)) (Ar (T7 (Bj r)) (Ar (T7 (Bj r)) (Ar (Adb (Bj r)) (Ar (Aqe (Bj r) (Bj c)) (Ar (Am1 (Bj r) (Bj c)) (Ar (Am1 (Bj r) (Bj c)) (Ar (Aqe (Bj r) (Bj c)) (Ar (Am1 (Bj r) (Bj c)) (Ar (Aqe (Bj r) (Bj c)) (Ar (Am1 (Bj r) (Bj c)) (Ar (Ata (Bj r) (Bj c)) (Ar (Ata (Bj r) (Bj c)) (Ar (tt39 (Bj r) (Bj c)) (C3 (tt38 (Bj r) (Bj c) ((List.length l:Int) !=(Ab (r*c)))) rfl rfl))))))))))))))))
abbrev _root_.Go.Proofs.S1.Aa.Check.Kn:=A8 Tryz.prog 160 Aa.Check.spec
theorem Aa.Check.Ad (hk:Az Tryz.prog Aa.Check.Bb) (h:∀ (r c:Int) (l:List Int),Aa.Check.pre [.i r,.i c,.l l]=true→Bf Aa.Check.E Tryz.f160 [.agg [.int .i64 r,.int .i64 c,.ints .arg .u64 l]] (Aa.Check.out [.i r,.i c,.l l])):Aa.Check.Kn :=
  Ak (A0 hk _ _ _) Tryz.func160 (by kernel_rfl) (by kernel_rfl) h
def Aa.get.Bb:List (Nat × Entry):=[]
def Aa.get.E:Env:=Be (Ba Aa.get.Bb) (fun _=>false) (fun _=>none) (fun _=>none)
theorem Aa.get.ev (N:Nat) (r c:Int) (l:List Int) (i k:Int):B0 Aa.get.E N Tryz.f193 (Al Tryz.f193) [.agg [.int .i64 r,.int .i64 c,.ints .arg .u64 l],.int .i64 i,.int .i64 k]=bif ((decide (0≤(Ab ((Ab (i*c))+k))))&&(decide ((Ab ((Ab (i*c))+k))<(List.length l:Int)))) then some (.int .u64 (List.getD l (Int.toNat (Ab ((Ab (i*c))+k))) 0)) else none:=by kernel_rfl
abbrev _root_.Go.Proofs.S1.Aa.get.Kn:=A8 Tryz.prog 193 Aa.get.spec
theorem Aa.get.Ad (hk:Az Tryz.prog Aa.get.Bb) (h:∀ (r c:Int) (l:List Int) (i k:Int),Aa.get.pre [.i r,.i c,.l l,.i i,.i k]=true→Bf Aa.get.E Tryz.f193 [.agg [.int .i64 r,.int .i64 c,.ints .arg .u64 l],.int .i64 i,.int .i64 k] (Aa.get.out [.i r,.i c,.l l,.i i,.i k])):Aa.get.Kn :=
  Ak (A0 hk _ _ _) Tryz.func193 (by kernel_rfl) (by kernel_rfl) h
def Aa.two.Bb:List (Nat × Entry):=[(160,Aa.Check.spec)]
def Aa.two.E:Env:=Be (Ba Aa.two.Bb) (fun _=>false) (fun _=>none) (fun _=>none)
theorem Aa.two.ev (N:Nat) (r c:Int) (l:List Int) (p q:Int) (m:List Int):B0 Aa.two.E N Tryz.f186 (Al Tryz.f186) [.agg [.int .i64 r,.int .i64 c,.ints .arg .u64 l],.agg [.int .i64 p,.int .i64 q,.ints .arg .u64 m]]=bif (((Je r c l) !=(0:Int))||((Je p q m) !=(0:Int))) then some (.int .i64 1) else some (.int .i64 0) :=
  Eq.trans (by kernel_rfl)
  (Ar (U4 ((Je r c l) !=(0:Int))) (Ar (Tk ((Je r c l) !=(0:Int))) (Ar (Tk ((Je r c l) !=(0:Int))) (Ar (tt6 ((Je r c l) !=(0:Int))) (C3 (tt5 ((Je r c l) !=(0:Int)) ((Je p q m) !=(0:Int))) rfl rfl)))))
abbrev _root_.Go.Proofs.S1.Aa.two.Kn:=A8 Tryz.prog 186 Aa.two.spec
theorem Aa.two.Ad (hk:Az Tryz.prog Aa.two.Bb) (h:∀ (r c:Int) (l:List Int) (p q:Int) (m:List Int),Aa.two.pre [.i r,.i c,.l l,.i p,.i q,.l m]=true→Bf Aa.two.E Tryz.f186 [.agg [.int .i64 r,.int .i64 c,.ints .arg .u64 l],.agg [.int .i64 p,.int .i64 q,.ints .arg .u64 m]] (Aa.two.out [.i r,.i c,.l l,.i p,.i q,.l m])):Aa.two.Kn :=
  Ak (A0 hk _ _ _) Tryz.func186 (by kernel_rfl) (by kernel_rfl) h
def Aa.Row.Bb:List (Nat × Entry):=[]
def Aa.Row.E:Env:=Be (Ba Aa.Row.Bb) (fun _=>false) (fun _=>none) (fun _=>none)
theorem Aa.Row.ev (N:Nat) (r c:Int) (l:List Int) (i f:Int):B0 Aa.Row.E N Tryz.f190 (Al Tryz.f190) [.agg [.int .i64 r,.int .i64 c,.ints .arg .u64 l],.int .i64 i,.int .i64 f]=bif (((decide ((0:Int)≤(Ab ((Ab (i*c))+f))))&&(decide ((Ab ((Ab (i*c))+f))≤(Ab ((Ab (i+1))*c)))))&&((decide ((0:Int)≤(Ab ((Ab (i+1))*c))))&&(decide ((Ab ((Ab (i+1))*c))≤(List.length l:Int))))) then bif (decide (0+(List.length (List.drop (Int.toNat (Ab ((Ab (i*c))+f))) (List.take (Int.toNat (Ab ((Ab (i+1))*c))) l)))≤Gf)) then some (.ints (.own 22 37) .u64 ([]++(List.drop (Int.toNat (Ab ((Ab (i*c))+f))) (List.take (Int.toNat (Ab ((Ab (i+1))*c))) l)))) else none else none :=
  Eq.trans (by kernel_rfl)
  (C3 (tt43 (decide ((0:Int)≤(Ab ((Ab (i*c))+f)))) (decide ((Ab ((Ab (i*c))+f))≤(Ab ((Ab (i+1))*c)))) (decide ((0:Int)≤(Ab ((Ab (i+1))*c)))) (decide ((Ab ((Ab (i+1))*c))≤(List.length l:Int)))) rfl rfl)
abbrev _root_.Go.Proofs.S1.Aa.Row.Kn:=A8 Tryz.prog 190 Aa.Row.spec
theorem Aa.Row.Ad (hk:Az Tryz.prog Aa.Row.Bb) (h:∀ (r c:Int) (l:List Int) (i f:Int),Aa.Row.pre [.i r,.i c,.l l,.i i,.i f]=true→Bf Aa.Row.E Tryz.f190 [.agg [.int .i64 r,.int .i64 c,.ints .arg .u64 l],.int .i64 i,.int .i64 f] (Aa.Row.out [.i r,.i c,.l l,.i i,.i f])):Aa.Row.Kn :=
  Ak (A0 hk _ _ _) Tryz.func190 (by kernel_rfl) (by kernel_rfl) h
def Aa.Dg.hint:Nat→Option A9
  | 0=>some { keep:=[1,3,7,8],objs:=[(0,7,100007,.ints 37 .u64 [])],boxes:=[3] }
  | _=>none
def Aa.Dg.Bb:List (Nat × Entry):=[(193,Aa.get.spec)]
def Aa.Dg.E:Env:=Be (Ba Aa.Dg.Bb) (fun _=>false) Aa.Dg.hint (fun _=>none)
def Aa.Dg.L0 (N M:Nat) (r c:Int) (l:List Int) (k p8:Int) (p7:List Int):Option DV:=B7 Aa.Dg.E N Tryz.f191 (Al Tryz.f191) [1,1,0,1,0] [] M ⟨Fy 24 [(1,.int .i64 k),(3,.ptr 3 0 0),(7,.oref 100007),(8,.int .i64 p8)],[(3,false,.box [.int .i64 r,.int .i64 c,.ints .arg .u64 l]),(100007,false,.ints 37 .u64 p7)]⟩
theorem Aa.Dg.At (N M:Nat) (r c:Int) (l:List Int) (k p8:Int) (p7:List Int):Aa.Dg.L0 N (M+1) r c l k p8 p7=bif (A4 p8 r) then bif (Du r c l p8 k) then bif (decide ((List.length p7)+1≤Gf)) then Aa.Dg.L0 N M r c l k (Ab (p8+1)) (p7++[(Ee c l p8 k)]) else none else none else some (.ints (.own 100007 37) .u64 p7):=by kernel_rfl
theorem Aa.Dg.ev (N:Nat) (r c:Int) (l:List Int) (k f:Int):B0 Aa.Dg.E N Tryz.f191 (Al Tryz.f191) [.agg [.int .i64 r,.int .i64 c,.ints .arg .u64 l],.int .i64 k,.int .i64 f] =
  Aa.Dg.L0 N N r c l k f []:=by kernel_rfl
abbrev _root_.Go.Proofs.S1.Aa.Dg.Kn:=A8 Tryz.prog 191 Aa.Dg.spec
theorem Aa.Dg.Ad (hk:Az Tryz.prog Aa.Dg.Bb) (h:∀ (r c:Int) (l:List Int) (k f:Int),Aa.Dg.pre [.i r,.i c,.l l,.i k,.i f]=true→Bf Aa.Dg.E Tryz.f191 [.agg [.int .i64 r,.int .i64 c,.ints .arg .u64 l],.int .i64 k,.int .i64 f] (Aa.Dg.out [.i r,.i c,.l l,.i k,.i f])):Aa.Dg.Kn :=
  Ak (A0 hk _ _ _) Tryz.func191 (by kernel_rfl) (by kernel_rfl) h
def Aa.Dy.Bb:List (Nat × Entry):=[]
def Aa.Dy.E:Env:=Be (Ba Aa.Dy.Bb) (fun _=>false) (fun _=>none) (fun _=>none)
theorem Aa.Dy.ev (N:Nat) (i k:Int):B0 Aa.Dy.E N Tryz.f205 (Al Tryz.f205) [.int .i64 i,.int .i64 k]=some (.int .u64 0):=by kernel_rfl
abbrev _root_.Go.Proofs.S1.Aa.Dy.Kn:=A8 Tryz.prog 205 Aa.Dy.spec
theorem Aa.Dy.Ad (hk:Az Tryz.prog Aa.Dy.Bb) (h:∀ (i k:Int),Aa.Dy.pre [.i i,.i k]=true→Bf Aa.Dy.E Tryz.f205 [.int .i64 i,.int .i64 k] (Aa.Dy.out [.i i,.i k])):Aa.Dy.Kn :=
  Ak (A0 hk _ _ _) Tryz.func205 (by kernel_rfl) (by kernel_rfl) h
def Aa.G0.Bb:List (Nat × Entry):=[]
def Aa.G0.E:Env:=Be (Ba Aa.G0.Bb) (fun _=>false) (fun _=>none) (fun _=>none)
theorem Aa.G0.ev (N:Nat) (i k:Int):B0 Aa.G0.E N Tryz.f246 (Al Tryz.f246) [.int .i64 i,.int .i64 k]=bif (i==k) then some (.int .u64 4607182418800017408) else some (.int .u64 0):=by kernel_rfl
abbrev _root_.Go.Proofs.S1.Aa.G0.Kn:=A8 Tryz.prog 246 Aa.G0.spec
theorem Aa.G0.Ad (hk:Az Tryz.prog Aa.G0.Bb) (h:∀ (i k:Int),Aa.G0.pre [.i i,.i k]=true→Bf Aa.G0.E Tryz.f246 [.int .i64 i,.int .i64 k] (Aa.G0.out [.i i,.i k])):Aa.G0.Kn :=
  Ak (A0 hk _ _ _) Tryz.func246 (by kernel_rfl) (by kernel_rfl) h
def Aa.E2.Bb:List (Nat × Entry):=[(193,Aa.get.spec)]
def Aa.E2.E:Env:=Be (Ba Aa.E2.Bb) (fun _=>false) (fun _=>none) (fun _=>none)
theorem Aa.E2.ev (N:Nat) (i k:Int) (r c:Int) (l:List Int):B0 Aa.E2.E N Tryz.f220 (Al Tryz.f220) [.int .i64 i,.int .i64 k,.cellp [.int .i64 r,.int .i64 c,.ints .arg .u64 l]]=bif (Du r c l k i) then some (.int .u64 (Ee c l k i)) else none:=by kernel_rfl
abbrev _root_.Go.Proofs.S1.Aa.E2.Kn:=A8 Tryz.prog 220 Aa.E2.spec
theorem Aa.E2.Ad (hk:Az Tryz.prog Aa.E2.Bb) (h:∀ (i k:Int) (r c:Int) (l:List Int),Aa.E2.pre [.i i,.i k,.i r,.i c,.l l]=true→Bf Aa.E2.E Tryz.f220 [.int .i64 i,.int .i64 k,.cellp [.int .i64 r,.int .i64 c,.ints .arg .u64 l]] (Aa.E2.out [.i i,.i k,.i r,.i c,.l l])):Aa.E2.Kn :=
  Ak (A0 hk _ _ _) Tryz.func220 (by kernel_rfl) (by kernel_rfl) h
def Aa.E4.Bb:List (Nat × Entry):=[(193,Aa.get.spec)]
def Aa.E4.E:Env:=Be (Ba Aa.E4.Bb) (fun _=>false) (fun _=>none) (fun _=>none)
theorem Aa.E4.ev (N:Nat) (i k:Int) (r c:Int) (l:List Int) (x y:Int):B0 Aa.E4.E N Tryz.f192 (Al Tryz.f192) [.int .i64 i,.int .i64 k,.cellp [.int .i64 r,.int .i64 c,.ints .arg .u64 l],.cellp [.int .i64 x],.cellp [.int .i64 y]]=bif (Du r c l (Ab (x+i)) (Ab (y+k))) then some (.int .u64 (Ee c l (Ab (x+i)) (Ab (y+k)))) else none:=by kernel_rfl
abbrev _root_.Go.Proofs.S1.Aa.E4.Kn:=A8 Tryz.prog 192 Aa.E4.spec
theorem Aa.E4.Ad (hk:Az Tryz.prog Aa.E4.Bb) (h:∀ (i k:Int) (r c:Int) (l:List Int) (x y:Int),Aa.E4.pre [.i i,.i k,.i r,.i c,.l l,.i x,.i y]=true→Bf Aa.E4.E Tryz.f192 [.int .i64 i,.int .i64 k,.cellp [.int .i64 r,.int .i64 c,.ints .arg .u64 l],.cellp [.int .i64 x],.cellp [.int .i64 y]] (Aa.E4.out [.i i,.i k,.i r,.i c,.l l,.i x,.i y])):Aa.E4.Kn :=
  Ak (A0 hk _ _ _) Tryz.func192 (by kernel_rfl) (by kernel_rfl) h
def Aa.Gv.Bb:List (Nat × Entry):=[(193,Aa.get.spec),(156,Af.Sub.spec)]
def Aa.Gv.E:Env:=Be (Ba Aa.Gv.Bb) (fun _=>false) (fun _=>none) (fun _=>none)
theorem Aa.Gv.ev (N:Nat) (i k:Int) (r c:Int) (l:List Int) (p q:Int) (m:List Int):B0 Aa.Gv.E N Tryz.f194 (Al Tryz.f194) [.int .i64 i,.int .i64 k,.cellp [.int .i64 r,.int .i64 c,.ints .arg .u64 l],.cellp [.int .i64 p,.int .i64 q,.ints .arg .u64 m]]=bif (Du r c l i k) then bif (Du p q m i k) then bif (Ai (Ee c l i k)&&Ai (Ee q m i k)) then some (.int .u64 (Dk (Ee c l i k) (Ee q m i k))) else none else none else none :=
  Eq.trans (by kernel_rfl)
  (C3 (C4 (Du r c l i k)) (C3 (C4 (Du p q m i k)) (C3 (C4 (Ai (Ee c l i k)&&Ai (Ee q m i k))) rfl rfl) rfl) rfl)
abbrev _root_.Go.Proofs.S1.Aa.Gv.Kn:=A8 Tryz.prog 194 Aa.Gv.spec
theorem Aa.Gv.Ad (hk:Az Tryz.prog Aa.Gv.Bb) (h:∀ (i k:Int) (r c:Int) (l:List Int) (p q:Int) (m:List Int),Aa.Gv.pre [.i i,.i k,.i r,.i c,.l l,.i p,.i q,.l m]=true→Bf Aa.Gv.E Tryz.f194 [.int .i64 i,.int .i64 k,.cellp [.int .i64 r,.int .i64 c,.ints .arg .u64 l],.cellp [.int .i64 p,.int .i64 q,.ints .arg .u64 m]] (Aa.Gv.out [.i i,.i k,.i r,.i c,.l l,.i p,.i q,.l m])):Aa.Gv.Kn :=
  Ak (A0 hk _ _ _) Tryz.func194 (by kernel_rfl) (by kernel_rfl) h
def Aa.Gx.Bb:List (Nat × Entry):=[(191,Aa.Dg.spec),(190,Aa.Row.spec),(189,Af.N1.spec)]
def Aa.Gx.E:Env:=Be (Ba Aa.Gx.Bb) (fun _=>false) (fun _=>none) (fun _=>none)
theorem Aa.Gx.ev (N:Nat) (i k:Int) (r c:Int) (l:List Int) (p q:Int) (m:List Int):B0 Aa.Gx.E N Tryz.f188 (Al Tryz.f188) [.int .i64 i,.int .i64 k,.cellp [.int .i64 r,.int .i64 c,.ints .arg .u64 l],.cellp [.int .i64 p,.int .i64 q,.ints .arg .u64 m]]=bif (Y5 r c l i&&decide ((0:Int)=0)) then bif (Lc p q m k&&Cr (0≤(0:Int)∧(0:Int)≤p)) then bif ((S8 (J0 c l i) (Dr q m k 0 (Int.toNat (p-0)))&&Ah (J0 c l i))&&Ah (Dr q m k 0 (Int.toNat (p-0)))) then some (.int .u64 (Nf (J0 c l i) (Dr q m k 0 (Int.toNat (p-0))))) else none else none else none :=
  Eq.trans (by kernel_rfl)
  (C3 (C4 (Y5 r c l i&&decide ((0:Int)=0))) (C3 (C4 (Lc p q m k&&Cr (0≤(0:Int)∧(0:Int)≤p))) (C3 (C4 ((S8 (J0 c l i) (Dr q m k 0 (Int.toNat (p-0)))&&Ah (J0 c l i))&&Ah (Dr q m k 0 (Int.toNat (p-0))))) rfl rfl) rfl) rfl)
abbrev _root_.Go.Proofs.S1.Aa.Gx.Kn:=A8 Tryz.prog 188 Aa.Gx.spec
theorem Aa.Gx.Ad (hk:Az Tryz.prog Aa.Gx.Bb) (h:∀ (i k:Int) (r c:Int) (l:List Int) (p q:Int) (m:List Int),Aa.Gx.pre [.i i,.i k,.i r,.i c,.l l,.i p,.i q,.l m]=true→Bf Aa.Gx.E Tryz.f188 [.int .i64 i,.int .i64 k,.cellp [.int .i64 r,.int .i64 c,.ints .arg .u64 l],.cellp [.int .i64 p,.int .i64 q,.ints .arg .u64 m]] (Aa.Gx.out [.i i,.i k,.i r,.i c,.l l,.i p,.i q,.l m])):Aa.Gx.Kn :=
  Ak (A0 hk _ _ _) Tryz.func188 (by kernel_rfl) (by kernel_rfl) h
end EqMat
open EqMat
theorem Ku {a b:Int} (h1:0≤a) (h2:a<20) (h3:0≤b) (h4:b<20):0≤a*b∧a*b<400:=by
  have:=Int.mul_nonneg h1 h3
  have h5:a*b≤19*19:=Int.mul_le_mul (by omega) (by omega) h3 (by omega)
  omega
theorem Aa.size.known:Aa.size.Kn:=Aa.size.Ad .nil fun n _=>by
  refine ⟨0,Aa.size.out [.i n],[],?_,.bool⟩
  have e:(bif (Dv (0:Int) n) then (Dv n (6:Int)) else false)=Bj n:=by
    unfold Bj
    rw [Ed,Ed]
    cases decide (0≤n)<;>rfl
  rw [Aa.size.ev,e]; rfl
theorem Acr (r c:Int) (l:List Int):(((!(Bj r))||(!(Bj c)))||((List.length l:Int) !=(Ab (r*c))))=!(Bg r c l):=by
  unfold Bg
  cases h1:Bj r with
  | false=>rfl
  | true =>
    cases h2:Bj c with
    | false=>rfl
    | true =>
      obtain ⟨r1,r2⟩:=Hm.1 h1
      obtain ⟨c1,c2⟩:=Hm.1 h2
      have:=Ku (a:=r) (b:=c) r1 (by omega) c1 (by omega)
      rw [An (by omega) (by omega),Au0]
      simp
theorem Aa.Check.known:Aa.Check.Kn:=Aa.Check.Ad (.cons Aa.size.known .nil) fun r c l _=>by
  refine ⟨0,Aa.Check.out [.i r,.i c,.l l],[],?_,.int⟩
  rw [Aa.Check.ev,Acr]
  show _=some (DV.int .i64 (Je r c l))
  unfold Je
  cases Bg r c l<;>rfl
theorem Gt {c i k:Int} {l:List Int} {R:Int} (h:Du R c l i k=true):Ab (Ab (i*c)+k)=i*c+k∧0≤i*c+k∧i*c+k<l.length:=by
  obtain ⟨h1,h2,h3,h4,h5,h6,h7,_⟩:=Ap.1 h
  have:=Ku h1 (by omega) h5 (by omega)
  rw [An (x:=i*c) (by omega) (by omega),An (by omega) (by omega)]
  omega
theorem Aa.get.known:Aa.get.Kn:=Aa.get.Ad .nil fun r c l i k hp=>by
  obtain ⟨e,h1,h2⟩:=Gt (R:=r) (show Du r c l i k=true from hp)
  refine ⟨0,Aa.get.out [.i r,.i c,.l l,.i i,.i k],[],?_,.int⟩
  rw [Aa.get.ev,e,Aul h1,Aul h2]
  rfl
theorem Qv (r c:Int) (l:List Int):((Je r c l) !=(0:Int))=!(Bg r c l):=by
  unfold Je
  cases Bg r c l<;>rfl
theorem Aa.two.known:Aa.two.Kn:=Aa.two.Ad (.cons Aa.Check.known .nil) fun r c l p q m _=>by
  refine ⟨0,Aa.two.out [.i r,.i c,.l l,.i p,.i q,.l m],[],?_,.int⟩
  rw [Aa.two.ev,Qv,Qv]
  show _=some (DV.int .i64 (U2 r c l p q m))
  unfold U2
  cases Bg r c l<;>cases Bg p q m<;>rfl
theorem Aa.Row.known:Aa.Row.Kn:=Aa.Row.Ad .nil fun r c l i f hp=>by
  obtain ⟨h0,hf⟩:=Ag.1 hp
  obtain rfl:=of_decide_eq_true hf
  obtain ⟨hr,hi⟩:=Ag.1 h0
  have hi:=Ap.1 hi
  obtain ⟨R,C,rfl,rfl,r6,c6,hl⟩:=Dj hr
  obtain ⟨I,rfl⟩:∃ k:Nat,i=k:=⟨i.toNat,by omega⟩
  have hm:=Ku (a:=(I:Int)) (b:=(C:Int)) (by omega) (by omega) (by omega) (by omega)
  have hm2:=Ku (a:=(I:Int)+1) (b:=(C:Int)) (by omega) (by omega) (by omega) (by omega)
  have hle:(I+1)*C≤R*C:=Auw C (by omega)
  have hle2:I*C≤(I+1)*C:=Auw C (by omega)
  have e1:(I:Int)*(C:Int)=((I*C:Nat):Int):=(Au5 _ _).symm
  have e2:((I:Int)+1)*(C:Int)=(((I+1)*C:Nat):Int):=by rw [Au5]; rfl
  refine ⟨0,.ints (.own 22 tB) .u64 (J0 (C:Int) l (I:Int)),[22],?_,.drop _ _ _ _ (List.mem_singleton.2 rfl)⟩
  rw [Aa.Row.ev,An (x:=(I:Int)+1) (by omega) (by omega),An (x:=(I:Int)*(C:Int)) (by omega) (by omega),Int.add_zero,An (x:=(I:Int)*(C:Int)) (by omega) (by omega),An (x:=((I:Int)+1)*(C:Int)) (by omega) (by omega)]
  unfold J0
  have d1:decide ((0:Int)≤(I:Int)*(C:Int))=true:=Aul (by omega)
  have d2:decide ((I:Int)*(C:Int)≤((I:Int)+1)*(C:Int))=true:=Aul (by rw [e1,e2]; omega)
  have d3:decide ((0:Int)≤((I:Int)+1)*(C:Int))=true:=Aul (by omega)
  have d4:decide (((I:Int)+1)*(C:Int)≤(l.length:Int))=true:=Aul (by rw [e2]; omega)
  have d5:decide (0+(List.drop ((I:Int)*(C:Int)).toNat (List.take (((I:Int)+1)*(C:Int)).toNat l)).length≤Gf)=true:=by
    refine Aul ?_
    rw [List.length_drop,List.length_take]
    unfold Gf
    omega
  rw [d1,d2,d3,d4,d5]
  rfl
theorem I2 (c b i:Int) (n:Nat) (l:List Int):(Dr c l b i n).length=n:=by unfold Dr; rw [List.length_map,List.length_range]
theorem Aou (r c:Int) (l:List Int) (k:Int):Dr c l k 0 (Int.toNat (r-0))=N0 r c l k:=by
  unfold Dr N0
  rw [Int.sub_zero]
  refine List.map_congr_left fun j _=>?_
  rw [Int.zero_add]
theorem Ac2 {r:Int} (h:0≤r):Cr (0≤(0:Int)∧0≤r)=true:=Ap.2 ⟨Int.le_refl _,h⟩
theorem Aly (N:Nat) {R C K f:Nat} {l:List Int} (r6:R≤6) (c6:C≤6) (hl:l.length=R*C) (hk:K<C):∀ (k i F:Nat),f+i+k=R→k<F →
    Aa.Dg.L0 N F (R:Int) (C:Int) l (K:Int) ((f+i:Nat):Int) (Dr (C:Int) l (K:Int) (f:Int) i)=some (.ints (.own 100007 tB) .u64 (Dr (C:Int) l (K:Int) (f:Int) (R-f))):=by
  intro k
  induction k with
  | zero =>
    intro i F hi hF
    obtain ⟨F,rfl⟩:∃ G,F=G+1:=⟨F-1,by omega⟩
    rw [Aa.Dg.At,Au,Aup (by omega),Auo,show R-f=i by omega]
  | succ k ih =>
    intro i F hi hF
    obtain ⟨F,rfl⟩:∃ G,F=G+1:=⟨F-1,by omega⟩
    have d:decide ((Dr (C:Int) l (K:Int) (f:Int) i).length+1≤Gf)=true:=Aul (by rw [I2]; unfold Gf; omega)
    rw [Aa.Dg.At,Au,Aul (by omega),Auk,Fk r6 c6 hl (show f+i<R by omega) hk,Auk,d,Auk,An (by omega) (by omega)]
    have:=ih (i+1) F (by omega) (by omega)
    unfold Dr at this ⊢
    rw [List.range_succ,List.map_append] at this
    exact this
theorem Aa.Dg.known:Aa.Dg.Kn:=Aa.Dg.Ad (.cons Aa.get.known .nil) fun r c l k f hp=>by
  obtain ⟨h0,hf⟩:=Ag.1 (show (Lc r c l k&&Cr (0≤f∧f≤r))=true from hp)
  have hf:=Ap.1 hf
  obtain ⟨hr,hi⟩:=Ag.1 h0
  have hi:=Ap.1 hi
  obtain ⟨R,C,rfl,rfl,r6,c6,hl⟩:=Dj hr
  obtain ⟨K,rfl⟩:∃ j:Nat,k=j:=⟨k.toNat,by omega⟩
  obtain ⟨f,rfl⟩:∃ j:Nat,f=j:=⟨f.toNat,by omega⟩
  refine ⟨8,.ints (.own 100007 tB) .u64 (Dr (C:Int) l (K:Int) (f:Int) (R-f)),[100007],?_,?_⟩
  · rw [Aa.Dg.ev]
    exact Aly 8 r6 c6 hl (by omega) (R-f) 0 8 (by omega) (by omega)
  · show Wk _ _ (DV.ints .fresh .u64 (Dr (C:Int) l (K:Int) (f:Int) (Int.toNat ((R:Int)-(f:Int)))))
    rw [show Int.toNat ((R:Int)-(f:Int))=R-f by omega]
    exact .drop _ _ _ _ (List.mem_singleton.2 rfl)
theorem Lx {r c i k:Int} {l:List Int} (h:Bg r c l=true) (h1:0≤i) (h2:i<r) (h3:0≤k) (h4:k<c) (R:Int):Du R c l i k=true:=by
  obtain ⟨R',C,rfl,rfl,r6,c6,hl⟩:=Dj h
  obtain ⟨I,rfl⟩:∃ j:Nat,i=j:=⟨i.toNat,by omega⟩
  obtain ⟨K,rfl⟩:∃ j:Nat,k=j:=⟨k.toNat,by omega⟩
  exact Fk r6 c6 hl (by omega) (by omega)
theorem Aa.Dy.known:Aa.Dy.Kn:=Aa.Dy.Ad .nil fun i k _=>by
  refine ⟨0,Aa.Dy.out [.i i,.i k],[],?_,.int⟩
  rw [Aa.Dy.ev]; rfl
theorem Aa.G0.known:Aa.G0.Kn:=Aa.G0.Ad .nil fun i k _=>by
  refine ⟨0,Aa.G0.out [.i i,.i k],[],?_,.int⟩
  rw [Aa.G0.ev]
  show _=some (DV.int .u64 (Co i k))
  unfold Co
  by_cases h:i=k
  · have:(i==k)=true:=by rw [h]; simp
    rw [this,if_pos h]; rfl
  · have:(i==k)=false:=by simpa using h
    rw [this,if_neg h]; rfl
theorem Aa.E2.known:Aa.E2.Kn:=Aa.E2.Ad (.cons Aa.get.known .nil) fun i k r c l hp=>by
  have hp:Du r c l k i=true:=hp
  refine ⟨0,Aa.E2.out [.i i,.i k,.i r,.i c,.l l],[],?_,.int⟩
  rw [Aa.E2.ev,hp]; rfl
theorem Aa.E4.known:Aa.E4.Kn:=Aa.E4.Ad (.cons Aa.get.known .nil) fun i k r c l x y hp=>by
  obtain ⟨h1,h2⟩:=Ag.1 hp
  have h2:=Ap.1 h2
  refine ⟨0,Aa.E4.out [.i i,.i k,.i r,.i c,.l l,.i x,.i y],[],?_,.int⟩
  rw [Aa.E4.ev,An (x:=x+i) (by omega) (by omega),An (x:=y+k) (by omega) (by omega),h1]; rfl
theorem Qg {R C:Nat} {l:List Int} (hl:l.length=R*C) {I:Nat} (hi:I<R):(J0 (C:Int) l (I:Int)).length=C:=by
  have hle:(I+1)*C≤R*C:=Auw C (by omega)
  have e1:((I:Int)*(C:Int)).toNat=I*C:=by rw [← Au5,Aum]
  have e2:(((I:Int)+1)*(C:Int)).toNat=(I+1)*C:=by
    have:((I:Int)+1)*(C:Int)=(((I+1)*C:Nat):Int):=by rw [Au5]; rfl
    rw [this,Aum]
  unfold J0
  rw [List.length_drop,List.length_take,e1,e2]
  rw [Nat.add_mul,Nat.one_mul] at hle ⊢
  omega
theorem Aet (R:Nat) (C:Int) (l:List Int) (K:Int):(N0 (R:Int) C l K).length=R:=by
  unfold N0
  rw [List.length_map,List.length_range,Aum]
theorem Anc {c i:Int} {l:List Int} (h:Ah l=true):Ah (J0 c l i)=true:=by
  have h:=Ap.1 h
  exact Ap.2 fun x hx=>h x (List.mem_of_mem_take (List.mem_of_mem_drop hx))
theorem Hv {c i k:Int} {l:List Int} (h:Ah l=true):Ai (Ee c l i k)=true:=by
  unfold Ee
  by_cases hj:(i*c+k).toNat<l.length
  · exact No h hj
  · rw [Auu,List.getElem?_eq_none (by omega)]
    exact B5 (n:=0) (by decide)
theorem Aov {r c k:Int} {l:List Int} (h:Ah l=true):Ah (N0 r c l k)=true:=by
  refine Ap.2 fun x hx=>?_
  obtain ⟨j,_,rfl⟩:=List.mem_map.1 hx
  exact Hv h
theorem Aa.Gx.known:Aa.Gx.Kn:=Aa.Gx.Ad (.cons Aa.Dg.known (.cons Aa.Row.known (.cons Af.N1.known .nil))) fun i k r c l p q m hp=>by
  obtain ⟨h1,h2⟩:=Ag.1 (show Qm r c l p q m i k=true from hp)
  obtain ⟨h3,h4⟩:=Ag.1 h1
  obtain ⟨h5,h6⟩:=Ag.1 h2
  obtain ⟨hl,hm⟩:=Ag.1 h5
  obtain rfl:=Ap.1 h6
  obtain ⟨hr,hi⟩:=Ag.1 h3
  have hi:=Ap.1 hi
  obtain ⟨R,C,rfl,rfl,r6,c6,ll⟩:=Dj hr
  obtain ⟨I,rfl⟩:∃ j:Nat,i=j:=⟨i.toNat,by omega⟩
  refine ⟨0,Aa.Gx.out [.i I,.i k,.i R,.i C,.l l,.i C,.i q,.l m],[],?_,.int⟩
  have hf:S8 (J0 (C:Int) l (I:Int)) (N0 (C:Int) q m k)=true:=Zy.2 ⟨by rw [Qg ll (by omega),Aet],by rw [Qg ll (by omega)]; omega⟩
  rw [Aa.Gx.ev,Aou,h3,h4,hf,Anc hl,Aov hm,Ac2 (by omega)]
  rfl
namespace EqCmp
def compare.Ki.Bb:List (Nat × Entry):=[(213,soft.Sign.spec)]
def compare.Ki.E:Env:=Be (Ba compare.Ki.Bb) (fun _=>false) (fun _=>none) (fun _=>none)
theorem compare.Ki.ev (N:Nat) (b:Int):B0 compare.Ki.E N Tryz.f214 (Al Tryz.f214) [.int .u64 b]=bif (Ai b) then bif (Dp b) then some (.int .i64 (Ab (0-(Ab (Nk .u64 b 9223372036854775808))))) else some (.int .i64 (Ab b)) else none:=by kernel_rfl
abbrev _root_.Go.Proofs.S1.compare.Ki.Kn:=A8 Tryz.prog 214 compare.Ki.spec
theorem compare.Ki.Ad (hk:Az Tryz.prog compare.Ki.Bb) (h:∀ (b:Int),compare.Ki.pre [.i b]=true→Bf compare.Ki.E Tryz.f214 [.int .u64 b] (compare.Ki.out [.i b])):compare.Ki.Kn :=
  Ak (A0 hk _ _ _) Tryz.func214 (by kernel_rfl) (by kernel_rfl) h
def compare.Order.Bb:List (Nat × Entry):=[(214,compare.Ki.spec),(155,soft.Kind.spec)]
def compare.Order.E:Env:=Be (Ba compare.Order.Bb) (fun _=>false) (fun _=>none) (fun _=>none)
theorem compare.Order.ev (N:Nat) (a b:Int):B0 compare.Order.E N Tryz.f162 (Al Tryz.f162) [.int .u64 a,.int .u64 b]=bif (Ai a) then bif ((A1 a)==(4:Int)) then some (.tup [.int .i64 0,.bool false]) else bif (Ai b) then bif ((A1 b)==(4:Int)) then some (.tup [.int .i64 0,.bool false]) else bif (Ai a) then bif (Ai b) then bif (A4 (Xn a) (Xn b)) then some (.tup [.int .i64 (-1:Int),.bool true]) else bif (Ai a) then bif (Ai b) then bif (A4 (Xn b) (Xn a)) then some (.tup [.int .i64 1,.bool true]) else some (.tup [.int .i64 0,.bool true]) else none else none else none else none else none else none:=by kernel_rfl
abbrev _root_.Go.Proofs.S1.compare.Order.Kn:=A8 Tryz.prog 162 compare.Order.spec
theorem compare.Order.Ad (hk:Az Tryz.prog compare.Order.Bb) (h:∀ (a b:Int),compare.Order.pre [.i a,.i b]=true→Bf compare.Order.E Tryz.f162 [.int .u64 a,.int .u64 b] (compare.Order.out [.i a,.i b])):compare.Order.Kn :=
  Ak (A0 hk _ _ _) Tryz.func162 (by kernel_rfl) (by kernel_rfl) h
def compare.Kq.Bb:List (Nat × Entry):=[(162,compare.Order.spec)]
def compare.Kq.E:Env:=Be (Ba compare.Kq.Bb) (fun _=>false) (fun _=>none) (fun _=>none)
theorem compare.Kq.ev (N:Nat) (a b:Int):B0 compare.Kq.E N Tryz.f90 (Al Tryz.f90) [.int .u64 a,.int .u64 b]=bif (Ai a&&Ai b) then some (.bool (A4 (Adz a b) 0)) else none:=by kernel_rfl
abbrev _root_.Go.Proofs.S1.compare.Kq.Kn:=A8 Tryz.prog 90 compare.Kq.spec
theorem compare.Kq.Ad (hk:Az Tryz.prog compare.Kq.Bb) (h:∀ (a b:Int),compare.Kq.pre [.i a,.i b]=true→Bf compare.Kq.E Tryz.f90 [.int .u64 a,.int .u64 b] (compare.Kq.out [.i a,.i b])):compare.Kq.Kn :=
  Ak (A0 hk _ _ _) Tryz.func90 (by kernel_rfl) (by kernel_rfl) h
def compare.T6.Bb:List (Nat × Entry):=[]
def compare.T6.E:Env:=Be (Ba compare.T6.Bb) (fun _=>false) (fun _=>none) (fun _=>none)
theorem compare.T6.ev (N:Nat) (a:Int):B0 compare.T6.E N Tryz.f87 (Al Tryz.f87) [.int .u64 a]=some (.int .u64 (Nk .u64 a 9223372036854775808)):=by kernel_rfl
abbrev _root_.Go.Proofs.S1.compare.T6.Kn:=A8 Tryz.prog 87 compare.T6.spec
theorem compare.T6.Ad (hk:Az Tryz.prog compare.T6.Bb) (h:∀ (a:Int),compare.T6.pre [.i a]=true→Bf compare.T6.E Tryz.f87 [.int .u64 a] (compare.T6.out [.i a])):compare.T6.Kn :=
  Ak (A0 hk _ _ _) Tryz.func87 (by kernel_rfl) (by kernel_rfl) h
def compare.Eh.hint:Nat→Option A9
  | 1=>some { keep:=[0,6,7,8],objs:=[],boxes:=[] }
  | _=>none
def compare.Eh.Bb:List (Nat × Entry):=[(155,soft.Kind.spec),(212,soft.Cy.spec),(211,soft.Fc.spec),(213,soft.Sign.spec)]
def compare.Eh.E:Env:=Be (Ba compare.Eh.Bb) (fun _=>false) compare.Eh.hint (fun _=>none)
def compare.Eh.L0 (N M:Nat) (a p6 p7:Int) (p8:Bool):Option DV:=B7 compare.Eh.E N Tryz.f161 (Al Tryz.f161) [1,1,1,1,1,1,0,0] [] M ⟨Fy 59 [(0,.int .u64 a),(6,.int .u64 p6),(7,.int .i64 p7),(8,.bool p8)],[]⟩
theorem compare.Eh.At (N M:Nat) (a p6 p7:Int) (p8:Bool):compare.Eh.L0 N (M+1) a p6 p7 p8=bif ((A4 p7 (-1130:Int))&&(A4 1 p6)) then compare.Eh.L0 N M a (Da .u64 p6 1) (Ab (p7+1)) (bif p8 then true else ((Fj .u64 p6 1)==(1:Int))) else bif (A4 p7 (-1130:Int)) then bif (Ai a) then bif (Ds 0 (-1074:Int) true) then some (.tup [.int .u64 (Eb (Dp a) 0 (-1074:Int) true),.int .u8 (Ea (Dp a) 0 (-1074:Int) true)]) else none else none else bif (Ai a) then bif (Ds p6 p7 p8) then some (.tup [.int .u64 (Eb (Dp a) p6 p7 p8),.int .u8 (Ea (Dp a) p6 p7 p8)]) else none else none :=
  Eq.trans (by kernel_rfl)
  (Ar (N2 (A4 p7 (-1130:Int))) (Ar (Ke (A4 p7 (-1130:Int))) (Ar (Sj (A4 p7 (-1130:Int))) (C3 (tt1 (A4 p7 (-1130:Int)) (A4 1 p6)) (Ar (U4 p8) (Ar (Tk p8) (Ar (Tk p8) (Ar (tt6 p8) rfl)))) rfl))))
theorem compare.Eh.ev (N:Nat) (a n:Int):B0 compare.Eh.E N Tryz.f161 (Al Tryz.f161) [.int .u64 a,.int .i64 n]=bif (Ai a) then bif ((A1 a)==(4:Int)) then some (.tup [.int .u64 9221120237041090560,.int .u8 0]) else bif ((A1 a)==(3:Int)) then bif ((A1 a)==(3:Int)) then some (.tup [.int .u64 a,.int .u8 0]) else bif (Ai a) then compare.Eh.L0 N N a (Bh a) (Ab ((Aw a)+(max (-2300:Int) (min 2300 n)))) false else none else bif ((A1 a)==(0:Int)) then some (.tup [.int .u64 a,.int .u8 0]) else bif (Ai a) then compare.Eh.L0 N N a (Bh a) (Ab ((Aw a)+(max (-2300:Int) (min 2300 n)))) false else none else none:=by kernel_rfl
abbrev _root_.Go.Proofs.S1.compare.Eh.Kn:=A8 Tryz.prog 161 compare.Eh.spec
theorem compare.Eh.Ad (hk:Az Tryz.prog compare.Eh.Bb) (h:∀ (a n:Int),compare.Eh.pre [.i a,.i n]=true→Bf compare.Eh.E Tryz.f161 [.int .u64 a,.int .i64 n] (compare.Eh.out [.i a,.i n])):compare.Eh.Kn :=
  Ak (A0 hk _ _ _) Tryz.func161 (by kernel_rfl) (by kernel_rfl) h
def Af.Bx.Bb:List (Nat × Entry):=[(161,compare.Eh.spec)]
def Af.Bx.E:Env:=Be (Ba Af.Bx.Bb) (fun _=>false) (fun _=>none) (fun _=>none)
theorem Af.Bx.ev (N:Nat) (a n:Int):B0 Af.Bx.E N Tryz.f88 (Al Tryz.f88) [.int .u64 a,.int .i64 n]=bif (Ew a n) then some (.int .u64 (Cg a n)) else none:=by kernel_rfl
abbrev _root_.Go.Proofs.S1.Af.Bx.Kn:=A8 Tryz.prog 88 Af.Bx.spec
theorem Af.Bx.Ad (hk:Az Tryz.prog Af.Bx.Bb) (h:∀ (a n:Int),Af.Bx.pre [.i a,.i n]=true→Bf Af.Bx.E Tryz.f88 [.int .u64 a,.int .i64 n] (Af.Bx.out [.i a,.i n])):Af.Bx.Kn :=
  Ak (A0 hk _ _ _) Tryz.func88 (by kernel_rfl) (by kernel_rfl) h
def Af.Div.Bb:List (Nat × Entry):=[(209,times.Div.spec)]
def Af.Div.E:Env:=Be (Ba Af.Div.Bb) (fun _=>false) (fun _=>none) (fun _=>none)
theorem Af.Div.ev (N:Nat) (a b:Int):B0 Af.Div.E N Tryz.f158 (Al Tryz.f158) [.int .u64 a,.int .u64 b]=bif (Ai a&&Ai b) then some (.int .u64 (Eo a b)) else none:=by kernel_rfl
abbrev _root_.Go.Proofs.S1.Af.Div.Kn:=A8 Tryz.prog 158 Af.Div.spec
theorem Af.Div.Ad (hk:Az Tryz.prog Af.Div.Bb) (h:∀ (a b:Int),Af.Div.pre [.i a,.i b]=true→Bf Af.Div.E Tryz.f158 [.int .u64 a,.int .u64 b] (Af.Div.out [.i a,.i b])):Af.Div.Kn :=
  Ak (A0 hk _ _ _) Tryz.func158 (by kernel_rfl) (by kernel_rfl) h
def Af.Cm.hint:Nat→Option A9
  | 0=>some { keep:=[3,6,7,8],objs:=[],boxes:=[] }
  | _=>none
def Af.Cm.Bb:List (Nat × Entry):=[(87,compare.T6.spec),(155,soft.Kind.spec)]
def Af.Cm.E:Env:=Be (Ba Af.Cm.Bb) (fun _=>false) Af.Cm.hint (fun _=>none)
def Af.Cm.L0 (N M:Nat) (x:List Int) (p3 p8:Int):Option DV:=B7 Af.Cm.E N Tryz.f89 (Al Tryz.f89) [1,1,0,1,0] [] M ⟨Fy 21 [(3,.int .u64 p3),(6,.ints .arg .u64 x),(7,.int .i64 (List.length x:Int)),(8,.int .i64 p8)],[]⟩
theorem Af.Cm.At (N M:Nat) (x:List Int) (p3 p8:Int):Af.Cm.L0 N (M+1) x p3 p8=bif (A4 p8 (List.length x:Int)) then bif ((decide (0≤p8))&&(decide (p8<(List.length x:Int)))) then bif (Ai (List.getD x (Int.toNat p8) 0)) then bif ((A1 (List.getD x (Int.toNat p8) 0))==(4:Int)) then some (.int .u64 9221120237041090560) else bif (Ai (List.getD x (Int.toNat p8) 0)) then Af.Cm.L0 N M x (max p3 (Abu (List.getD x (Int.toNat p8) 0))) (Ab (p8+1)) else none else none else none else some (.int .u64 p3):=by kernel_rfl
theorem Af.Cm.ev (N:Nat) (x:List Int):B0 Af.Cm.E N Tryz.f89 (Al Tryz.f89) [.ints .arg .u64 x] =
  Af.Cm.L0 N N x 0 0:=by kernel_rfl
abbrev _root_.Go.Proofs.S1.Af.Cm.Kn:=A8 Tryz.prog 89 Af.Cm.spec
theorem Af.Cm.Ad (hk:Az Tryz.prog Af.Cm.Bb) (h:∀ (x:List Int),Af.Cm.pre [.l x]=true→Bf Af.Cm.E Tryz.f89 [.ints .arg .u64 x] (Af.Cm.out [.l x])):Af.Cm.Kn :=
  Ak (A0 hk _ _ _) Tryz.func89 (by kernel_rfl) (by kernel_rfl) h
def Af.Finite.hint:Nat→Option A9
  | 0=>some { keep:=[5,6,7],objs:=[],boxes:=[] }
  | _=>none
def Af.Finite.Bb:List (Nat × Entry):=[(148,soft.Finite.spec)]
def Af.Finite.E:Env:=Be (Ba Af.Finite.Bb) (fun _=>false) Af.Finite.hint (fun _=>none)
def Af.Finite.L0 (N M:Nat) (x:List Int) (p7:Int):Option DV:=B7 Af.Finite.E N Tryz.f150 (Al Tryz.f150) [1,0,1,0] [] M ⟨Fy 15 [(5,.ints .arg .u64 x),(6,.int .i64 (List.length x:Int)),(7,.int .i64 p7)],[]⟩
theorem Af.Finite.At (N M:Nat) (x:List Int) (p7:Int):Af.Finite.L0 N (M+1) x p7=bif (A4 p7 (List.length x:Int)) then bif ((decide (0≤p7))&&(decide (p7<(List.length x:Int)))) then bif (Ai (List.getD x (Int.toNat p7) 0)) then bif (!(Cv (List.getD x (Int.toNat p7) 0))) then some (.bool false) else Af.Finite.L0 N M x (Ab (p7+1)) else none else none else some (.bool true):=by kernel_rfl
theorem Af.Finite.ev (N:Nat) (x:List Int):B0 Af.Finite.E N Tryz.f150 (Al Tryz.f150) [.ints .arg .u64 x] =
  Af.Finite.L0 N N x 0:=by kernel_rfl
abbrev _root_.Go.Proofs.S1.Af.Finite.Kn:=A8 Tryz.prog 150 Af.Finite.spec
theorem Af.Finite.Ad (hk:Az Tryz.prog Af.Finite.Bb) (h:∀ (x:List Int),Af.Finite.pre [.l x]=true→Bf Af.Finite.E Tryz.f150 [.ints .arg .u64 x] (Af.Finite.out [.l x])):Af.Finite.Kn :=
  Ak (A0 hk _ _ _) Tryz.func150 (by kernel_rfl) (by kernel_rfl) h
def Cb.Check.hint:Nat→Option A9
  | 0=>some { keep:=[9,10,11],objs:=[],boxes:=[] }
  | _=>none
def Cb.Check.Bb:List (Nat × Entry):=[(160,Aa.Check.spec),(148,soft.Finite.spec)]
def Cb.Check.E:Env:=Be (Ba Cb.Check.Bb) (fun _=>false) Cb.Check.hint (fun _=>none)
def Cb.Check.L0 (N M:Nat) (l:List Int) (p11:Int):Option DV:=B7 Cb.Check.E N Tryz.f86 (Al Tryz.f86) [1,1,0,1,0] [] M ⟨Fy 19 [(9,.ints .arg .u64 l),(10,.int .i64 (List.length l:Int)),(11,.int .i64 p11)],[]⟩
theorem Cb.Check.At (N M:Nat) (l:List Int) (p11:Int):Cb.Check.L0 N (M+1) l p11=bif (A4 p11 (List.length l:Int)) then bif ((decide (0≤p11))&&(decide (p11<(List.length l:Int)))) then bif (Ai (List.getD l (Int.toNat p11) 0)) then bif (!(Cv (List.getD l (Int.toNat p11) 0))) then some (.int .i64 4) else Cb.Check.L0 N M l (Ab (p11+1)) else none else none else some (.int .i64 0):=by kernel_rfl
theorem Cb.Check.ev (N:Nat) (r c:Int) (l:List Int):B0 Cb.Check.E N Tryz.f86 (Al Tryz.f86) [.agg [.int .i64 r,.int .i64 c,.ints .arg .u64 l]]=bif ((Je r c l) !=(0:Int)) then some (.int .i64 1) else Cb.Check.L0 N N l 0:=by kernel_rfl
abbrev _root_.Go.Proofs.S1.Cb.Check.Kn:=A8 Tryz.prog 86 Cb.Check.spec
theorem Cb.Check.Ad (hk:Az Tryz.prog Cb.Check.Bb) (h:∀ (r c:Int) (l:List Int),Cb.Check.pre [.i r,.i c,.l l]=true→Bf Cb.Check.E Tryz.f86 [.agg [.int .i64 r,.int .i64 c,.ints .arg .u64 l]] (Cb.Check.out [.i r,.i c,.l l])):Cb.Check.Kn :=
  Ak (A0 hk _ _ _) Tryz.func86 (by kernel_rfl) (by kernel_rfl) h
end EqCmp
open EqCmp
theorem Pj {k j:Nat} (h:k≠j):(((k:Nat):Int)==((j:Nat):Int))=false:=by rw [beq_eq_false_iff_ne]; omega
theorem Yo (n:Nat):n%2^63<2^63:=Nat.mod_lt _ (by decide)
theorem Acu {n:Nat} (h:n<2^64):Nk .u64 (n:Int) (9223372036854775808:Int)=((n%2^63:Nat):Int):=by
  have:=Nn (Cs n) (Yo n)
  rw [Xj h] at this
  exact this
theorem compare.T6.known:compare.T6.Kn:=compare.T6.Ad .nil fun a hp=>by
  obtain ⟨n,rfl,hn⟩:=Bv (show Ai a=true from hp)
  refine ⟨0,compare.T6.out [.i (n:Int)],[],?_,.int⟩
  show _=some (DV.int .u64 (((n:Int).toNat%2^63:Nat):Int))
  rw [compare.T6.ev,Acu hn,Aum]
theorem compare.Ki.known:compare.Ki.Kn:=compare.Ki.Ad (.cons soft.Sign.known .nil) fun b hp=>by
  have hp:Ai b=true:=hp
  obtain ⟨n,rfl,hn⟩:=Bv hp
  refine ⟨0,compare.Ki.out [.i (n:Int)],[],?_,.int⟩
  show _=some (DV.int .i64 (Ny (n:Int).toNat))
  have h63:=Yo n
  rw [compare.Ki.ev,hp,Auk,Acu hn,Aum]
  unfold Ny H8 Dp
  rw [Aum]
  cases hs:Cs n with
  | true =>
    rw [Auk,if_pos rfl,An (x:=((n%2^63:Nat):Int)) (by omega) (by omega),An (by omega) (by omega)]
    congr 2; omega
  | false =>
    have:n<2^63:=by
      unfold Cs at hs
      have:=of_decide_eq_false hs
      omega
    rw [Auo,if_neg (by decide),Aux this,An (by omega) (by omega)]
theorem compare.Order.known:compare.Order.Kn:=compare.Order.Ad (.cons compare.Ki.known (.cons soft.Kind.known .nil)) fun a b hp=>by
  obtain ⟨ha,hb⟩:=Ag.1 (show (Ai a&&Ai b)=true from hp)
  refine ⟨0,compare.Order.out [.i a,.i b],[],?_,Wk.Gm (.cons .int (.cons .bool .nil))⟩
  show _=some (DV.tup [.int .i64 (Aqu a.toNat b.toNat),.bool (Aqv a.toNat b.toNat)])
  rw [compare.Order.ev,ha,hb,Auk,Auk,Auk,Auk,Auk,Auk,Au,Au]
  unfold Aqu Aqv Xn A1
  by_cases h1:Ao a.toNat=4
  · have e:(((Ao a.toNat:Nat):Int)==(4:Int))=true:=by rw [h1]; rfl
    rw [e,Auk,if_pos (.inl h1),Aul (.inl h1)]; rfl
  · have e:(((Ao a.toNat:Nat):Int)==(4:Int))=false:=Pj h1
    rw [e,Auo]
    by_cases h2:Ao b.toNat=4
    · have e:(((Ao b.toNat:Nat):Int)==(4:Int))=true:=by rw [h2]; rfl
      rw [e,Auk,if_pos (.inr h2),Aul (.inr h2)]; rfl
    · have e:(((Ao b.toNat:Nat):Int)==(4:Int))=false:=Pj h2
      have hn:¬ (Ao a.toNat=4∨Ao b.toNat=4):=fun h=>h.elim h1 h2
      rw [e,Auo,if_neg hn,Aup hn]
      by_cases h3:Ny a.toNat<Ny b.toNat
      · rw [Aul h3,if_pos h3]; rfl
      · rw [Aup h3,if_neg h3]
        by_cases h4:Ny b.toNat<Ny a.toNat
        · rw [Aul h4,if_pos h4]; rfl
        · rw [Aup h4,if_neg h4]; rfl
theorem compare.Kq.known:compare.Kq.Kn:=compare.Kq.Ad (.cons compare.Order.known .nil) fun a b hp=>by
  have hp:(Ai a&&Ai b)=true:=hp
  refine ⟨0,compare.Kq.out [.i a,.i b],[],?_,.bool⟩
  rw [compare.Kq.ev,hp,Au]; rfl
theorem Adm (N:Nat) {a:Int} (ha:Ai a=true):∀ (k F m:Nat) (e:Int) (b:Bool),e=-1130-(k:Int)→k<F→m<2^53→(m≠0∨b=true)→-9000<e →
    compare.Eh.L0 N F a (m:Int) e b=some (.tup [.int .u64 (((B1 (Cs a.toNat) 0,3):Nat × Nat).1:Nat),.int .u8 (((B1 (Cs a.toNat) 0,3):Nat × Nat).2:Nat)]):=by
  have pre1:Ds (0:Int) (-1074:Int) true=true:=Ap.2 (by omega)
  intro k
  induction k with
  | zero =>
    intro F m e b he hF hm h0 _
    obtain ⟨F,rfl⟩:∃ G,F=G+1:=⟨F-1,by omega⟩
    have hlt:A4 e (-1130:Int)=false:=by rw [Au]; exact Aup (by omega)
    have Px:Ds (m:Int) e b=true:=Ap.2 (by omega)
    rw [compare.Eh.At,hlt,Bool.false_and,Auo,Auo,ha,Auk,Px,Auk]
    unfold Eb Ea Dp
    rw [Aum,Ag6 _ hm h0 (by omega)]
  | succ k ih =>
    intro F m e b he hF hm h0 hb
    obtain ⟨F,rfl⟩:∃ G,F=G+1:=⟨F-1,by omega⟩
    have hlt:A4 e (-1130:Int)=true:=by rw [Au]; exact Aul (by omega)
    rw [compare.Eh.At,hlt,Bool.true_and,Auk,Au]
    by_cases h1:(1:Int)<(m:Int)
    · have em:Da .u64 (m:Int) (1:Int)=((m / 2^1:Nat):Int):=Gi .u64 m 1 (by decide)
      rw [Aul h1,Auk,em,An (by omega) (by omega)]
      exact ih F (m / 2^1) (e+1) _ (by omega) (by omega) (by omega) (.inl (by omega)) (by omega)
    · rw [Aup h1,Auo,ha,Auk,pre1,Auk]
      unfold Eb Ea Dp
      rw [show (0:Int).toNat=0 from rfl,Ajx]
theorem compare.Eh.known:compare.Eh.Kn:=compare.Eh.Ad (.cons soft.Kind.known (.cons soft.Cy.known (.cons soft.Fc.known (.cons soft.Sign.known .nil)))) fun a n hp=>by
  obtain ⟨ha,hn⟩:=Ag.1 (show Ew a n=true from hp)
  have hn:=Ap.1 hn
  refine ⟨3000,compare.Eh.out [.i a,.i n],[],?_,Wk.Gm (.cons .int (.cons .int .nil))⟩
  show _=some (DV.tup [.int .u64 ((Hs a.toNat n).1:Nat),.int .u8 ((Hs a.toNat n).2:Nat)])
  have em:max (-2300:Int) (min (2300:Int) n)=n:=by omega
  have pE:=Di a.toNat
  have pM:=Ei a.toNat
  have ee:Ab (Aw a+n)=Ax a.toNat+n:=by unfold Aw; exact An (by omega) (by omega)
  rw [compare.Eh.ev,ha,Auk,Auk,em,ee]
  unfold A1
  by_cases h4:Ao a.toNat=4
  · have e:(((Ao a.toNat:Nat):Int)==(4:Int))=true:=by rw [h4]; rfl
    rw [e,Auk]
    unfold Hs
    rw [if_pos h4]; rfl
  have e4:(((Ao a.toNat:Nat):Int)==(4:Int))=false:=Pj h4
  rw [e4,Auo]
  by_cases h3:Ao a.toNat=3
  · have e:(((Ao a.toNat:Nat):Int)==(3:Int))=true:=by rw [h3]; rfl
    obtain ⟨k,rfl,hk⟩:=Bv ha
    rw [e,Auk,Auk]
    unfold Hs
    rw [if_neg h4,if_pos (.inl h3),Aum]; rfl
  have e3:(((Ao a.toNat:Nat):Int)==(3:Int))=false:=Pj h3
  rw [e3,Auo]
  by_cases h0:Ao a.toNat=0
  · have e:(((Ao a.toNat:Nat):Int)==(0:Int))=true:=by rw [h0]; rfl
    obtain ⟨k,rfl,hk⟩:=Bv ha
    rw [e,Auk]
    unfold Hs
    rw [if_neg h4,if_pos (.inr h0),Aum]; rfl
  have e0:(((Ao a.toNat:Nat):Int)==(0:Int))=false:=Pj h0
  have hk:¬ (Ao a.toNat=3∨Ao a.toNat=0):=fun h=>h.elim h3 h0
  have hm:Aq a.toNat≠0:=fun h=>h0 ((I6 h3 h4).1 h)
  rw [e0,Auo]
  show compare.Eh.L0 3000 3000 a (Aq a.toNat:Nat) (Ax a.toNat+n) false=_
  by_cases ht:Ax a.toNat+n≤-1130
  · rw [Adl h4 hk ht]
    exact Adm 3000 ha (-1130-(Ax a.toNat+n)).toNat 3000 _ _ false (by omega) (by omega) (by omega) (.inl hm) (by omega)
  · have hlt:A4 (Ax a.toNat+n) (-1130:Int)=false:=by rw [Au]; exact Aup (by omega)
    have Px:Ds ((Aq a.toNat:Nat):Int) (Ax a.toNat+n) false=true:=Ap.2 ⟨by omega,by omega,by omega,by omega,fun h=>by cases h⟩
    rw [Agp h4 hk,show (3000:Nat)=2999+1 from rfl,compare.Eh.At,hlt,Bool.false_and,Auo,Auo,ha,Auk,Px,Auk]
    unfold Eb Ea Dp
    rw [Aum,Tr]
theorem Af.Bx.known:Af.Bx.Kn:=Af.Bx.Ad (.cons compare.Eh.known .nil) fun a n hp=>by
  have hp:Ew a n=true:=hp
  refine ⟨0,Af.Bx.out [.i a,.i n],[],?_,.int⟩
  rw [Af.Bx.ev,hp]; rfl
theorem Af.Div.known:Af.Div.Kn:=Af.Div.Ad (.cons times.Div.known .nil) fun a b hp=>by
  have hp:(Ai a&&Ai b)=true:=hp
  refine ⟨0,Af.Div.out [.i a,.i b],[],?_,.int⟩
  rw [Af.Div.ev,hp]; rfl
theorem H5 {l:List Int} {i:Nat} (h:i<l.length):l.drop i=l.getD i 0::l.drop (i+1):=by
  rw [List.drop_eq_getElem_cons h,Auu,Au1 h]; rfl
theorem Kj {l:List Int} (h:Cw l=true):l.length<4611686018427387904∧∀ j,j<l.length→Ai (l.getD j 0)=true:=by
  obtain ⟨h1,h2⟩:=Ap.1 h
  exact ⟨h1,fun j hj=>by rw [Auu,Au1 hj]; exact h2 _ (List.getElem_mem hj)⟩
theorem K5 {l:List Int} (h:Ah l=true) (hl:l.length≤1000):Cw l=true:=Ap.2 ⟨by omega,Ap.1 h⟩
theorem Aci (N:Nat) {x:List Int} (hx:Cw x=true):∀ (k i F:Nat),i+k=x.length→k<F→Af.Finite.L0 N F x (i:Int)=some (.bool ((x.drop i).all Cv)):=by
  obtain ⟨hl,hu⟩:=Kj hx
  intro k
  induction k with
  | zero =>
    intro i F hi hF
    obtain ⟨F,rfl⟩:∃ G,F=G+1:=⟨F-1,by omega⟩
    rw [Af.Finite.At,Au,Aup (by omega),Auo,Auy (by omega)]; rfl
  | succ k ih =>
    intro i F hi hF
    obtain ⟨F,rfl⟩:∃ G,F=G+1:=⟨F-1,by omega⟩
    rw [Af.Finite.At,Au,Aul (show (i:Int)<(x.length:Int) by omega),Auk,Aul (show (0:Int)≤(i:Int) by omega),Auq,Auk,Aum,hu i (by omega),Auk,H5 (by omega),List.all_cons]
    cases Cv (x.getD i 0) with
    | false=>rfl
    | true =>
      rw [Bool.not_true,Auo,An (by omega) (by omega),Bool.true_and]
      exact ih (i+1) F (by omega) (by omega)
theorem Af.Finite.known:Af.Finite.Kn:=Af.Finite.Ad (.cons soft.Finite.known .nil) fun x hp=>by
  have hp:Cw x=true:=hp
  refine ⟨x.length+1,Af.Finite.out [.l x],[],?_,.bool⟩
  show _=some (DV.bool (x.all Cv))
  rw [Af.Finite.ev]
  exact Aci _ hp x.length 0 (x.length+1) (by omega) (by omega)
theorem Ah4 {x:List Int} {i:Nat} (h:i<x.length) (m:Nat):Aab (x.drop i) m=if Ao (x.getD i 0).toNat=4 then W9 else Aab (x.drop (i+1)) (max m (Aia (x.getD i 0).toNat)):=by
  rw [H5 h]; rfl
theorem Aaa (N:Nat) {x:List Int} (hx:Cw x=true):∀ (k i F m:Nat),i+k=x.length→k<F→Af.Cm.L0 N F x (m:Int) (i:Int)=some (.int .u64 ((Aab (x.drop i) m:Nat):Int)):=by
  obtain ⟨hl,hu⟩:=Kj hx
  intro k
  induction k with
  | zero =>
    intro i F m hi hF
    obtain ⟨F,rfl⟩:∃ G,F=G+1:=⟨F-1,by omega⟩
    rw [Af.Cm.At,Au,Aup (by omega),Auo,Auy (by omega)]; rfl
  | succ k ih =>
    intro i F m hi hF
    obtain ⟨F,rfl⟩:∃ G,F=G+1:=⟨F-1,by omega⟩
    rw [Af.Cm.At,Au,Aul (show (i:Int)<(x.length:Int) by omega),Auk,Aul (show (0:Int)≤(i:Int) by omega),Auq,Auk,Aum,hu i (by omega),Auk,Ah4 (by omega)]
    unfold A1
    by_cases h4:Ao (x.getD i 0).toNat=4
    · have e:(((Ao (x.getD i 0).toNat:Nat):Int)==(4:Int))=true:=by rw [h4]; rfl
      rw [e,Auk,if_pos h4]; rfl
    · have e:(((Ao (x.getD i 0).toNat:Nat):Int)==(4:Int))=false:=Pj h4
      have em:max (m:Int) (Abu (x.getD i 0))=((max m (Aia (x.getD i 0).toNat):Nat):Int):=by unfold Abu; omega
      rw [e,Auo,Auk,if_neg h4,em,An (by omega) (by omega)]
      exact ih (i+1) F _ (by omega) (by omega)
theorem Af.Cm.known:Af.Cm.Kn:=Af.Cm.Ad (.cons compare.T6.known (.cons soft.Kind.known .nil)) fun x hp=>by
  have hp:Cw x=true:=hp
  refine ⟨x.length+1,Af.Cm.out [.l x],[],?_,.int⟩
  rw [Af.Cm.ev]
  exact Aaa _ hp x.length 0 (x.length+1) 0 (by omega) (by omega)
theorem Z9 (N:Nat) {x:List Int} (hx:Cw x=true):∀ (k i F:Nat),i+k=x.length→k<F→Cb.Check.L0 N F x (i:Int)=some (.int .i64 (if (x.drop i).all Cv=true then 0 else 4)):=by
  obtain ⟨hl,hu⟩:=Kj hx
  intro k
  induction k with
  | zero =>
    intro i F hi hF
    obtain ⟨F,rfl⟩:∃ G,F=G+1:=⟨F-1,by omega⟩
    rw [Cb.Check.At,Au,Aup (by omega),Auo,Auy (by omega)]; rfl
  | succ k ih =>
    intro i F hi hF
    obtain ⟨F,rfl⟩:∃ G,F=G+1:=⟨F-1,by omega⟩
    rw [Cb.Check.At,Au,Aul (show (i:Int)<(x.length:Int) by omega),Auk,Aul (show (0:Int)≤(i:Int) by omega),Auq,Auk,Aum,hu i (by omega),Auk,H5 (by omega),List.all_cons]
    cases Cv (x.getD i 0) with
    | false=>rfl
    | true =>
      rw [Bool.not_true,Auo,An (by omega) (by omega),Bool.true_and]
      exact ih (i+1) F (by omega) (by omega)
theorem Pf {r c:Int} {l:List Int} (h:Bg r c l=true):l.length≤36:=by
  obtain ⟨R,C,rfl,rfl,r6,c6,hl⟩:=Dj h
  have:=Nat.mul_le_mul r6 c6
  omega
theorem Cb.Check.known:Cb.Check.Kn:=Cb.Check.Ad (.cons Aa.Check.known (.cons soft.Finite.known .nil)) fun r c l hp=>by
  have hp:Ah l=true:=hp
  refine ⟨l.length+1,Cb.Check.out [.i r,.i c,.l l],[],?_,.int⟩
  show _=some (DV.int .i64 (B6 r c l))
  rw [Cb.Check.ev]
  unfold Je B6 Dw
  by_cases h:Bg r c l=true
  · have:=Pf h
    rw [if_pos h,if_pos h]
    have e:((0:Int) !=(0:Int))=false:=by decide
    rw [e,Auo]
    exact Z9 _ (K5 hp (by omega)) l.length 0 (l.length+1) (by omega) (by omega)
  · rw [if_neg h,if_neg h]; rfl
open Go Go.Den Go.Rnd Go.Proofs Ieee
end Go.Proofs.S1
namespace Go.Rnd
open Go.Den
theorem Aer {P root rest two:Nat} (h1:P=root*root+rest) (h2:rest≤2*root) (h3:two<4) :
    (4*root+1≤4*rest+two→4*P+two=(2*root+1)*(2*root+1)+(4*rest+two-(4*root+1))∧4*rest+two-(4*root+1)≤2*(2*root+1)) ∧
    (4*rest+two<4*root+1→4*P+two=(2*root)*(2*root)+(4*rest+two)∧4*rest+two≤2*(2*root)):=by
  have e1:(2*root+1)*(2*root+1)=4*(root*root)+(4*root+1):=by
    rw [Nat.add_mul,Nat.mul_add,Nat.mul_add]
    have:2*root*(2*root)=4*(root*root):=by rw [Nat.mul_mul_mul_comm]
    omega
  have e2:(2*root)*(2*root)=4*(root*root):=by rw [Nat.mul_mul_mul_comm]
  constructor
  · intro h; rw [e1]; omega
  · intro h; rw [e2]; omega
theorem Ane {P root rest:Nat} (h1:P=root*root+rest) (h2:rest≤2*root):root=Q2 P:=by
  refine V8 (by omega) ?_
  have:(root+1)*(root+1)=root*root+2*root+1:=by rw [Nat.add_mul,Nat.mul_add]; omega
  omega
end Go.Rnd
namespace Go.Rnd
open Go.Den
theorem Jh:Ai (0:Int)=true:=B5 (n:=0) (by decide)
theorem Ajq:Ai Aqx=true:=B5 (n:=4607182418800017408) (by decide)
theorem Agq {b:Nat} {n:Int} (h:b<2^64):(Hs b n).1<2^64:=by
  unfold Hs
  by_cases h4:Ao b=4
  · rw [if_pos h4]; exact (by decide:W9<2^64)
  rw [if_neg h4]
  by_cases h3:Ao b=3∨Ao b=0
  · rw [if_pos h3]; exact h
  rw [if_neg h3]
  exact Q9 _ _ _
theorem Jm {b n:Int} (h:Ai b=true):Ai (Cg b n)=true:=by
  obtain ⟨x,rfl,hx⟩:=Bv h
  exact B5 (Agq (by rw [Aum]; exact hx))
theorem Af9 (b:Nat):Aia b<2^63:=Nat.mod_lt _ (by decide)
theorem Wq:∀ (l:List Int) (m:Nat),m<2^64→Aab l m<2^64
  | [],m,h=>h
  | x::l,m,h=>by
    unfold Aab
    split
    · exact (by decide:W9<2^64)
    · have h2:=Af9 x.toNat
      exact Wq l _ (by omega)
theorem Qy (l:List Int):Ai (Bq l)=true:=B5 (Wq l 0 (by decide))
theorem Aj9 (x:Int):Ai (Abu x)=true:=B5 (Nat.lt_trans (Af9 x.toNat) (by decide))
theorem Amb {a b:Int} (ha:Ai a=true) (hb:Ai b=true):Ai (Kc a b)=true:=by
  obtain ⟨x,rfl,hx⟩:=Bv ha
  obtain ⟨y,rfl,hy⟩:=Bv hb
  exact B5 (Uv (by rw [Aum]; exact hx) (by rw [Aum]; exact hy)).1
theorem Abo {a:Int} (ha:Ai a=true):Ai (Dm a)=true:=by
  obtain ⟨x,rfl,hx⟩:=Bv ha
  exact B5 (S5 (by rw [Aum]; exact hx))
theorem Ai6 {b:Nat} (h:b<2^64):(Nq b).1<2^64:=by
  by_cases h4:Ao b=4
  · rw [Aa3 h4]; exact (by decide:W9<2^64)
  by_cases h0:Ao b=0∨b=Gg
  · rw [Sm h4 h0]; exact h
  cases hn:Cs b with
  | true=>rw [Aa2 h4 h0 hn]; exact (by decide:W9<2^64)
  | false =>
    unfold Nq
    rw [if_neg h4,if_neg h0,hn,if_neg (by decide)]
    exact Nat.lt_trans (Pd _ _) (by decide)
theorem Afa {a:Int} (ha:Ai a=true):Ai (Hg a)=true:=by
  obtain ⟨x,rfl,hx⟩:=Bv ha
  exact B5 (Ai6 (by rw [Aum]; exact hx))
theorem Ai3 (k:Int):∀ (l:List Int) {s:Int},Ai s=true→Ai (Adh k s l)=true
  | [],_,h=>h
  | _::l,_,h=>Ai3 k l (Amb h (L7 _ _))
theorem Zh (x:List Int):Ai (Ek x)=true:=by
  unfold Ek
  split
  · exact Qy x
  · exact Jm (Afa (Ai3 _ _ Jh))
theorem At5 (x:List Int):Ai (muI x)=true:=by
  unfold muI
  split
  · exact Zh _
  · exact Abo (Zh _)
theorem Ao3 (x:List Int):Ai (Ho x)=true:=Jm (At5 x)
theorem Ahy (b:Nat):-1100≤Aem b∧Aem b≤1100:=by
  unfold Aem
  split
  · have h1:=Di b
    have h2:=Ei b
    rename_i h
    have h3:(Aq b).log2<53:=by
      by_cases h0:Aq b=0
      · rw [h0]; decide
      · exact (Nat.log2_lt h0).2 h2
    omega
  · omega
theorem Alj (x:Int):-1100≤Bt x∧Bt x≤1100:=Ahy x.toNat
theorem Ms {l:List Int} (h:Ah l=true) (j:Nat):Ai (l.getD j 0)=true:=R7 (Ap.1 h) j
theorem Ps {l:List Int} (h:∀ x∈l,Ai x=true):Ah l=true:=Ap.2 h
theorem Ep:Ah []=true:=Ps fun _ h=>by cases h
theorem Acv {α:Type} {l:List α} {f:α→Int} (h:∀ j,Ai (f j)=true):Ah (l.map f)=true:=Ps fun x hx=>by
  obtain ⟨j,_,rfl⟩:=List.mem_map.1 hx
  exact h j
theorem Ah8 {x:Int} {l:List Int} (h1:Ai x=true) (h2:Ah l=true):Ah (x::l)=true:=Ps fun y hy=>by
  rcases List.mem_cons.1 hy with rfl | hy
  · exact h1
  · exact Ap.1 h2 y hy
theorem Pu {c i k:Int} {l:List Int} (h:Ah l=true):Ai (Ee c l i k)=true:=Ms h _
theorem Aa9 (c b i:Int) (n:Nat) (l:List Int):(Dr c l b i n).length=n:=by unfold Dr; rw [List.length_map,List.length_range]
theorem Sp {c b i:Int} {n:Nat} {l:List Int} (h:Ah l=true):Ah (Dr c l b i n)=true:=Acv fun _=>Pu h
theorem Ajg (n:Nat) {f:Nat→Int} (h:∀ j,Ai (f j)=true):Ah (I3 n f)=true:=Ah8 Ajq (Acv fun _=>h _)
theorem Rj {n:Nat} (h:n≠0) (f:Nat→Int):(I3 n f).length=n:=by
  unfold I3
  rw [List.length_cons,List.length_map,List.length_range]
  omega
theorem Um {x:List Int} (h:Ah x=true):Ah (Cf x).1=true∧Ai (Cf x).2.1=true∧Ai (Cf x).2.2.1=true:=by
  have hz:Ah []=true∧Ai (0:Int)=true∧Ai (0:Int)=true:=⟨Ep,Jh,Jh⟩
  unfold Cf
  split
  · exact hz
  split
  · unfold Ans
    split
    · dsimp only
      exact ⟨Ajg _ fun _=>Jh,Jh,Ms h 0⟩
    · split
      · dsimp only
        exact ⟨Ajg _ fun _=>Z6 _ _,Z6 _ _,Ao3 x⟩
      · exact hz
  · exact hz
theorem Vy {x:List Int} (h:(Cf x).2.2.2=0):(Cf x).1.length=x.length:=by
  unfold Cf at h ⊢
  by_cases h1:x.length=0∨64<x.length
  · rw [if_pos h1] at h; exact absurd h (by decide)
  rw [if_neg h1] at h ⊢
  by_cases h2:Dw x=true
  · rw [if_pos h2] at h ⊢
    unfold Ans at h ⊢
    by_cases h3:Jp (x.drop 1)=true
    · rw [if_pos h3]; dsimp only; exact Rj (n:=x.length) (by omega) _
    · rw [if_neg h3] at h ⊢
      by_cases h4:Cv (Ho x)=true
      · rw [if_pos h4]; dsimp only [Abl]; exact Rj (n:=x.length) (by omega) _
      · rw [if_neg h4] at h; exact absurd h (by decide)
  · rw [if_neg h2] at h; exact absurd h (by decide)
theorem Z5 (x y:List Int):Ai (Nf x y)=true:=B5 (Z4 x y 0 (by decide))
theorem Ah7 {c i k t a b:Int} {l v:List Int} (h:Ah l=true):Ai (O0 c l i k v t a b)=true:=by
  unfold O0
  split
  · exact N7 (Pu h) (L7 _ _)
  · exact Pu h
theorem Yk {r c:Nat} {l:List Int} (h:Ah l=true) (i k:Int) (v:List Int) (t:Int):Ah (F4 r c l i k v t)=true:=Gr fun _ _=>Ah7 h
theorem Mc (r c:Nat) (l:List Int) (i k:Int) (v:List Int) (t:Int):(F4 r c l i k v t).length=r*c:=Bu _ _ _
theorem Ah0 {r c:Nat} {l:List Int} (h:Ah l=true) (j:Nat) {x:Int} (hx:Ai x=true):Ah (Td r c l j x)=true:=Gr fun a b=>by
  split
  · split
    · exact hx
    · exact Jh
  · exact Pu h
theorem Oi (r c:Nat) (l:List Int) (j:Nat):(W1 r c l j).length=r*c:=by unfold W1 Td; exact Bu _ _ _
theorem Zl {r c:Nat} {l:List Int} (h:Ah l=true) (j:Nat):Ah (W1 r c l j)=true:=Ah0 (Yk h _ _ _ _) _ (Um (Sp h)).2.2
def Abn (r:Nat):Nat→List (List Int × Int)→Prop
  | _,[]=>True
  | j,m::ms=>(Ah m.1=true∧Ai m.2=true∧m.1.length+j=r)∧Abn r (j+1) ms
theorem Wj (r c:Nat):∀ (n j:Nat) (l:List Int) (x:List Int × List (List Int × Int)),Ah l=true→l.length=r*c→j+n≤r→Nw r c n j l=some x→Ah x.1=true∧x.1.length=r*c∧x.2.length=n∧Abn r j x.2
  | 0,j,l,x,ha,hl,_,h=>by
    cases h
    exact ⟨ha,hl,rfl,trivial⟩
  | n+1,j,l,x,ha,hl,hj,h=>by
    unfold Nw at h
    by_cases h1:(Cf (F6 r c l j)).2.2.2=0
    · rw [if_pos h1,Option.map_eq_some_iff] at h
      obtain ⟨y,hy,rfl⟩:=h
      obtain ⟨a1,a2,a3,a4⟩:=Wj r c n (j+1) _ y (Zl ha j) (Oi r c l j) (by omega) hy
      have hm:=Um (x:=F6 r c l j) (Sp ha)
      have hlen:=Vy h1
      refine ⟨a1,a2,by rw [List.length_cons,a3],⟨hm.1,hm.2.1,?_⟩,a4⟩
      show (Cf (F6 r c l j)).1.length+j=r
      rw [hlen]
      unfold F6
      rw [Aa9]
      omega
    · rw [if_neg h1] at h; cases h
theorem Z2 (n:Nat):Ah (D7 n)=true:=Gr fun i k=>by
  unfold Co
  split
  · exact Ajq
  · exact Jh
theorem Uu (n:Nat):∀ (ms:List (List Int × Int)) (j:Nat) (q:List Int),Ah q=true→q.length=n*n→Ah (Kb n j ms q)=true∧(Kb n j ms q).length=n*n
  | [],_,_,h1,h2=>⟨h1,h2⟩
  | m::ms,j,q,h1,h2=>by
    unfold Kb
    exact ⟨Yk (Uu n ms (j+1) q h1 h2).1 _ _ _ _,Mc _ _ _ _ _ _ _⟩
theorem Aok {r c:Nat} {l:List Int} (h:(Iz r c l).isSome=true):Ah (Sb r c l)=true∧(Sb r c l).length=r*r:=by
  unfold Sb
  cases hd:Iz r c l with
  | none=>rw [hd] at h; cases h
  | some x=>exact Uu r x.2 0 _ (Z2 r) (by unfold D7; exact Bu _ _ _)
theorem Aoj {r c:Nat} {l:List Int} (ha:Ah l=true) (hl:l.length=r*c) (h:(Iz r c l).isSome=true):Ah (Nz r c l)=true∧(Nz r c l).length=r*c:=by
  unfold Nz
  cases hd:Iz r c l with
  | none=>rw [hd] at h; cases h
  | some x =>
    have hn:I1 r c≤r:=by unfold I1; omega
    have:=Wj r c (I1 r c) 0 l x ha hl (by omega) hd
    exact ⟨this.1,this.2.1⟩
end Go.Rnd
namespace Go.Proofs.S1
open Go Go.Den Go.Rnd Go.Proofs
set_option maxRecDepth 100000
namespace EqRoot
def root.Fz.hint:Nat→Option A9
  | 0=>some { keep:=[0,4,5,6,14],objs:=[],boxes:=[] }
  | _=>none
def root.Fz.Bb:List (Nat × Entry):=[]
def root.Fz.E:Env:=Be (Ba root.Fz.Bb) (fun _=>false) root.Fz.hint (fun _=>none)
def root.Fz.L0 (N M:Nat) (m p4:Int) (p5 p6 p14:Int):Option DV:=B7 root.Fz.E N Tryz.f265 (Al Tryz.f265) [1,1,0,1,0] [] M ⟨Fy 68 [(0,.int .u64 m),(4,.int .u64 p4),(5,.int .u64 p5),(6,.int .u64 p6),(14,.int .i64 p14)],[]⟩
theorem root.Fz.At (N M:Nat) (m p4:Int) (p5 p6 p14:Int):root.Fz.L0 N (M+1) m p4 p5 p6 p14=bif (A4 p14 64) then bif (A4 p14 32) then bif (decide (0≤(Ab ((62:Int)-(Ab ((2:Int)*p14)))))) then bif (decide ((F0 (Hh .u64 (Bs .u64 p6 2) (Fj .u64 (Da .u64 m (Ab ((62:Int)-(Ab ((2:Int)*p14))))) 3)) (Hh .u64 (Bs .u64 p4 2) 1) 0)≤1)) then bif ((F0 (Hh .u64 (Bs .u64 p5 2) (Da .u64 p6 62)) (Da .u64 p4 62) (F0 (Hh .u64 (Bs .u64 p6 2) (Fj .u64 (Da .u64 m (Ab ((62:Int)-(Ab ((2:Int)*p14))))) 3)) (Hh .u64 (Bs .u64 p4 2) 1) 0))==(0:Int)) then root.Fz.L0 N M m (Hh .u64 (Bs .u64 p4 1) 1) (Ll (Hh .u64 (Bs .u64 p5 2) (Da .u64 p6 62)) (Da .u64 p4 62) (F0 (Hh .u64 (Bs .u64 p6 2) (Fj .u64 (Da .u64 m (Ab ((62:Int)-(Ab ((2:Int)*p14))))) 3)) (Hh .u64 (Bs .u64 p4 2) 1) 0)) (Ll (Hh .u64 (Bs .u64 p6 2) (Fj .u64 (Da .u64 m (Ab ((62:Int)-(Ab ((2:Int)*p14))))) 3)) (Hh .u64 (Bs .u64 p4 2) 1) 0) (Ab (p14+1)) else root.Fz.L0 N M m (Bs .u64 p4 1) (Hh .u64 (Bs .u64 p5 2) (Da .u64 p6 62)) (Hh .u64 (Bs .u64 p6 2) (Fj .u64 (Da .u64 m (Ab ((62:Int)-(Ab ((2:Int)*p14))))) 3)) (Ab (p14+1)) else none else none else bif (decide ((F0 (Hh .u64 (Bs .u64 p6 2) 0) (Hh .u64 (Bs .u64 p4 2) 1) 0)≤1)) then bif ((F0 (Hh .u64 (Bs .u64 p5 2) (Da .u64 p6 62)) (Da .u64 p4 62) (F0 (Hh .u64 (Bs .u64 p6 2) 0) (Hh .u64 (Bs .u64 p4 2) 1) 0))==(0:Int)) then root.Fz.L0 N M m (Hh .u64 (Bs .u64 p4 1) 1) (Ll (Hh .u64 (Bs .u64 p5 2) (Da .u64 p6 62)) (Da .u64 p4 62) (F0 (Hh .u64 (Bs .u64 p6 2) 0) (Hh .u64 (Bs .u64 p4 2) 1) 0)) (Ll (Hh .u64 (Bs .u64 p6 2) 0) (Hh .u64 (Bs .u64 p4 2) 1) 0) (Ab (p14+1)) else root.Fz.L0 N M m (Bs .u64 p4 1) (Hh .u64 (Bs .u64 p5 2) (Da .u64 p6 62)) (Hh .u64 (Bs .u64 p6 2) 0) (Ab (p14+1)) else none else some (.tup [.int .u64 p4,.bool (bif (p5==(0:Int)) then (p6==(0:Int)) else false)]) :=
  Eq.trans (by kernel_rfl)
  (Ev rfl (Ar (N2 (p5==(0:Int))) (Ar (Ke (p5==(0:Int))) (Ar (Sj (p5==(0:Int))) rfl))))
theorem root.Fz.ev (N:Nat) (m:Int):B0 root.Fz.E N Tryz.f265 (Al Tryz.f265) [.int .u64 m] =
  root.Fz.L0 N N m 0 0 0 0:=by kernel_rfl
abbrev _root_.Go.Proofs.S1.root.Fz.Kn:=A8 Tryz.prog 265 root.Fz.spec
theorem root.Fz.Ad (hk:Az Tryz.prog root.Fz.Bb) (h:∀ (m:Int),root.Fz.pre [.i m]=true→Bf root.Fz.E Tryz.f265 [.int .u64 m] (root.Fz.out [.i m])):root.Fz.Kn :=
  Ak (A0 hk _ _ _) Tryz.func265 (by kernel_rfl) (by kernel_rfl) h
def root.Sqrt.hint:Nat→Option A9
  | 5=>some { keep:=[5,7,9],objs:=[],boxes:=[] }
  | _=>none
def root.Sqrt.Bb:List (Nat × Entry):=[(250,Ch.Bp.spec),(265,root.Fz.spec),(155,soft.Kind.spec),(212,soft.Cy.spec),(211,soft.Fc.spec),(213,soft.Sign.spec)]
def root.Sqrt.E:Env:=Be (Ba root.Sqrt.Bb) (fun _=>false) root.Sqrt.hint (fun _=>none)
def root.Sqrt.L0 (N M:Nat) (p5 p7:Int) (p9:Bool):Option DV:=B7 root.Sqrt.E N Tryz.f264 (Al Tryz.f264) [1,1,1,1,1,1,1,1,1,0,0] [] M ⟨Fy 73 [(5,.int .i64 p5),(7,.int .u64 p7),(9,.bool p9)],[]⟩
theorem root.Sqrt.At (N M:Nat) (p5 p7:Int) (p9:Bool):root.Sqrt.L0 N (M+1) p5 p7 p9=bif (Dv 4611686018427387904 p7) then root.Sqrt.L0 N M (Ab (p5+2)) (Da .u64 p7 1) (bif p9 then true else ((Fj .u64 p7 1)==(1:Int))) else bif (Ds p7 (Ab ((Ab (Int.tdiv p5 2))-32)) p9) then some (.tup [.int .u64 (Eb false p7 (Ab ((Ab (Int.tdiv p5 2))-32)) p9),.int .u8 (Ea false p7 (Ab ((Ab (Int.tdiv p5 2))-32)) p9)]) else none :=
  Eq.trans (by kernel_rfl)
  (Ev (Ar (U4 p9) (Ar (Tk p9) (Ar (Tk p9) (Ar (tt6 p9) rfl)))) rfl)
theorem root.Sqrt.ev (N:Nat) (a:Int):B0 root.Sqrt.E N Tryz.f264 (Al Tryz.f264) [.int .u64 a]=bif (Ai a) then bif ((A1 a)==(4:Int)) then some (.tup [.int .u64 9221120237041090560,.int .u8 0]) else bif (Ai a) then bif ((A1 a)==(0:Int)) then some (.tup [.int .u64 a,.int .u8 0]) else bif (a==(9218868437227405312:Int)) then some (.tup [.int .u64 a,.int .u8 0]) else bif (Ai a) then bif (Dp a) then some (.tup [.int .u64 9221120237041090560,.int .u8 16]) else bif (Ai a) then bif (Ai (Bh a)) then bif ((Int.tmod (Ab ((Aw a)-(Ab ((64-Ec (Bh a))-2)))) 2) !=(0:Int)) then bif (decide (0≤(Ab ((Ab ((64-Ec (Bh a))-2))-1)))) then bif (Cr (0≤(Bs .u64 (Bh a) (Ab ((Ab ((64-Ec (Bh a))-2))-1)))∧(Bs .u64 (Bh a) (Ab ((Ab ((64-Ec (Bh a))-2))-1)))<9223372036854775808)) then root.Sqrt.L0 N N (Ab ((Aw a)-(Ab ((Ab ((64-Ec (Bh a))-2))-1)))) (Rx (Bs .u64 (Bh a) (Ab ((Ab ((64-Ec (Bh a))-2))-1)))) (!(Ry (Bs .u64 (Bh a) (Ab ((Ab ((64-Ec (Bh a))-2))-1))))) else none else none else bif (decide (0≤(Ab ((64-Ec (Bh a))-2)))) then bif (Cr (0≤(Bs .u64 (Bh a) (Ab ((64-Ec (Bh a))-2)))∧(Bs .u64 (Bh a) (Ab ((64-Ec (Bh a))-2)))<9223372036854775808)) then root.Sqrt.L0 N N (Ab ((Aw a)-(Ab ((64-Ec (Bh a))-2)))) (Rx (Bs .u64 (Bh a) (Ab ((64-Ec (Bh a))-2)))) (!(Ry (Bs .u64 (Bh a) (Ab ((64-Ec (Bh a))-2))))) else none else none else none else none else none else none else none:=by kernel_rfl
abbrev _root_.Go.Proofs.S1.root.Sqrt.Kn:=A8 Tryz.prog 264 root.Sqrt.spec
theorem root.Sqrt.Ad (hk:Az Tryz.prog root.Sqrt.Bb) (h:∀ (a:Int),root.Sqrt.pre [.i a]=true→Bf root.Sqrt.E Tryz.f264 [.int .u64 a] (root.Sqrt.out [.i a])):root.Sqrt.Kn :=
  Ak (A0 hk _ _ _) Tryz.func264 (by kernel_rfl) (by kernel_rfl) h
def Af.Sqrt.Bb:List (Nat × Entry):=[(264,root.Sqrt.spec)]
def Af.Sqrt.E:Env:=Be (Ba Af.Sqrt.Bb) (fun _=>false) (fun _=>none) (fun _=>none)
theorem Af.Sqrt.ev (N:Nat) (a:Int):B0 Af.Sqrt.E N Tryz.f262 (Al Tryz.f262) [.int .u64 a]=bif (Ai a) then some (.int .u64 (Hg a)) else none:=by kernel_rfl
abbrev _root_.Go.Proofs.S1.Af.Sqrt.Kn:=A8 Tryz.prog 262 Af.Sqrt.spec
theorem Af.Sqrt.Ad (hk:Az Tryz.prog Af.Sqrt.Bb) (h:∀ (a:Int),Af.Sqrt.pre [.i a]=true→Bf Af.Sqrt.E Tryz.f262 [.int .u64 a] (Af.Sqrt.out [.i a])):Af.Sqrt.Kn :=
  Ak (A0 hk _ _ _) Tryz.func262 (by kernel_rfl) (by kernel_rfl) h
def compare.Kd.Bb:List (Nat × Entry):=[(261,Ch.Jx.spec),(148,soft.Finite.spec),(155,soft.Kind.spec),(211,soft.Fc.spec)]
def compare.Kd.E:Env:=Be (Ba compare.Kd.Bb) (fun _=>false) (fun _=>none) (fun _=>none)
theorem compare.Kd.ev (N:Nat) (a:Int):B0 compare.Kd.E N Tryz.f255 (Al Tryz.f255) [.int .u64 a]=bif (Ai a) then bif ((!(Cv a))||(Ai a)) then bif ((!(Cv a))||((A1 a)==(0:Int))) then some (.int .i64 0) else bif (Ai a) then bif (Ai (Bh a)) then some (.int .i64 (Ab ((Ab ((Ec (Bh a))-1))+(Aw a)))) else none else none else none else none :=
  Eq.trans (by kernel_rfl)
  (Ev (Ar (Ada (Cv a)) (C3 (Am3 (Cv a) (Ai a)) (Ar (T7 (Cv a)) (Ar (Adb (Cv a)) (C3 (Aqg (Cv a) ((A1 a)==(0:Int))) rfl rfl))) rfl)) rfl)
abbrev _root_.Go.Proofs.S1.compare.Kd.Kn:=A8 Tryz.prog 255 compare.Kd.spec
theorem compare.Kd.Ad (hk:Az Tryz.prog compare.Kd.Bb) (h:∀ (a:Int),compare.Kd.pre [.i a]=true→Bf compare.Kd.E Tryz.f255 [.int .u64 a] (compare.Kd.out [.i a])):compare.Kd.Kn :=
  Ak (A0 hk _ _ _) Tryz.func255 (by kernel_rfl) (by kernel_rfl) h
def Af.Norm.hint:Nat→Option A9
  | 0=>some { keep:=[5,6,25,26,27],objs:=[],boxes:=[] }
  | _=>none
def Af.Norm.Bb:List (Nat × Entry):=[(255,compare.Kd.spec),(148,soft.Finite.spec),(226,Af.Add.spec),(89,Af.Cm.spec),(157,Af.Mul.spec),(88,Af.Bx.spec),(262,Af.Sqrt.spec)]
def Af.Norm.E:Env:=Be (Ba Af.Norm.Bb) (fun _=>false) Af.Norm.hint (fun _=>none)
def Af.Norm.L0 (N M:Nat) (x:List Int) (p6 p27:Int):Option DV:=B7 Af.Norm.E N Tryz.f257 (Al Tryz.f257) [1,1,1,1,1,1,0,1,0] [] M ⟨Fy 45 [(5,.int .i64 (Bt (Bq x))),(6,.int .u64 p6),(25,.ints .arg .u64 x),(26,.int .i64 (List.length x:Int)),(27,.int .i64 p27)],[]⟩
theorem Af.Norm.At (N M:Nat) (x:List Int) (p6 p27:Int):Af.Norm.L0 N (M+1) x p6 p27=bif (A4 p27 (List.length x:Int)) then bif ((decide (0≤p27))&&(decide (p27<(List.length x:Int)))) then bif (Ew (List.getD x (Int.toNat p27) 0) (Ab (0-(Bt (Bq x))))) then bif (Ai (Cg (List.getD x (Int.toNat p27) 0) (Ab (0-(Bt (Bq x)))))&&Ai (Cg (List.getD x (Int.toNat p27) 0) (Ab (0-(Bt (Bq x)))))) then bif (Ai p6&&Ai (Eg (Cg (List.getD x (Int.toNat p27) 0) (Ab (0-(Bt (Bq x))))) (Cg (List.getD x (Int.toNat p27) 0) (Ab (0-(Bt (Bq x))))))) then Af.Norm.L0 N M x (Kc p6 (Eg (Cg (List.getD x (Int.toNat p27) 0) (Ab (0-(Bt (Bq x))))) (Cg (List.getD x (Int.toNat p27) 0) (Ab (0-(Bt (Bq x))))))) (Ab (p27+1)) else none else none else none else none else bif (Ai p6) then bif (Ew (Hg p6) (Bt (Bq x))) then some (.tup [.int .u64 (Cg (Hg p6) (Bt (Bq x))),.int .i64 0]) else none else none:=by kernel_rfl
theorem Af.Norm.ev (N:Nat) (x:List Int):B0 Af.Norm.E N Tryz.f257 (Al Tryz.f257) [.ints .arg .u64 x]=bif (A4 64 (List.length x:Int)) then some (.tup [.int .u64 0,.int .i64 3]) else bif (Cw x) then bif (((Bq x)==(0:Int))||(Ai (Bq x))) then bif (((Bq x)==(0:Int))||(!(Cv (Bq x)))) then some (.tup [.int .u64 (Bq x),.int .i64 0]) else bif (Ai (Bq x)) then Af.Norm.L0 N N x 0 (0:Int) else none else none else none :=
  Eq.trans (by kernel_rfl)
  (Ev rfl (Ev (Ar (U4 ((Bq x)==(0:Int))) (C3 (Ap6 ((Bq x)==(0:Int)) (Ai (Bq x))) (Ar (Tk ((Bq x)==(0:Int))) (Ar (tt6 ((Bq x)==(0:Int))) (C3 (Asy ((Bq x)==(0:Int)) (Cv (Bq x))) rfl rfl))) rfl)) rfl))
abbrev _root_.Go.Proofs.S1.Af.Norm.Kn:=A8 Tryz.prog 257 Af.Norm.spec
theorem Af.Norm.Ad (hk:Az Tryz.prog Af.Norm.Bb) (h:∀ (x:List Int),Af.Norm.pre [.l x]=true→Bf Af.Norm.E Tryz.f257 [.ints .arg .u64 x] (Af.Norm.out [.l x])):Af.Norm.Kn :=
  Ak (A0 hk _ _ _) Tryz.func257 (by kernel_rfl) (by kernel_rfl) h
end EqRoot
open EqRoot
theorem Se (n s:Nat) (h:s≤64):Da .u64 (n:Int) (s:Int)=((n / 2^s:Nat):Int):=Gi .u64 n s h
theorem sh2 {n t:Nat} (ht:t<4):Hh .u64 (Bs .u64 (n:Int) (2:Int)) (t:Int)=((n%2^62*4+t:Nat):Int):=by
  rw [show (2:Int)=((2:Nat):Int) from rfl,Ex n 2 (by decide),show n*2^2%2^64=(n%2^62)*2^2 by omega]
  exact Ld ht (by omega)
theorem sh1 {n:Nat} (h:n<2^63):Bs .u64 (n:Int) (1:Int)=((2*n:Nat):Int):=by
  rw [show (1:Int)=((1:Nat):Int) from rfl,Ex n 1 (by decide)]
  congr 1; omega
theorem sh1o {n:Nat} (h:n<2^63):Hh .u64 (Bs .u64 (n:Int) (1:Int)) (1:Int)=((2*n+1:Nat):Int):=by
  rw [show (1:Int)=((1:Nat):Int) from rfl,Ex n 1 (by decide),show n*2^1%2^64=n*2^1 by omega,Nat.mul_comm 2 n]
  exact Ld (k:=1) (by decide) (by omega)
theorem Aiv {m i:Nat} (hi:i<32):Fj .u64 (Da .u64 (m:Int) (Ab ((62:Int)-(Ab ((2:Int)*(i:Int)))))) (3:Int)=((m / 2^(62-2*i)%2^64%4:Nat):Int)∨2^64≤m:=by
  by_cases hm:m<2^64
  · left
    rw [An (x:=(2:Int)*(i:Int)) (by omega) (by omega),An (x:=(62:Int)-2*(i:Int)) (by omega) (by omega),show (62:Int)-2*(i:Int)=((62-2*i:Nat):Int) by omega,Se _ _ (by omega)]
    have hd:m / 2^(62-2*i)<2^64:=Nat.lt_of_le_of_lt (Nat.div_le_self _ _) hm
    rw [show (3:Int)=((2^2-1:Nat):Int) from rfl,Hb 2 hd (by decide)]
    congr 1
    omega
  · right; omega
def Px (m i:Nat):Nat:=m*2^64 / 2^(128-2*i)
theorem Ajn {m i:Nat} (hi:i<32):Px m (i+1)=4*Px m i+m / 2^(62-2*i)%4:=by
  unfold Px
  have e1:128-2*i=64+(64-2*i):=by omega
  have e2:128-2*(i+1)=64+(62-2*i):=by omega
  rw [e1,e2,Nat.pow_add,Nat.pow_add,Nat.mul_comm (2^64),Nat.mul_comm (2^64),Nat.mul_div_mul_right _ _ (by decide),Nat.mul_div_mul_right _ _ (by decide),show 64-2*i=(62-2*i)+2 by omega,Nat.pow_add,← Nat.div_div_eq_div_mul]
  omega
theorem Agz {m i:Nat} (hi:32≤i) (h:i<64):Px m (i+1)=4*Px m i:=by
  unfold Px
  have e1:(2:Nat)^64=2^(2*i-64)*2^(128-2*i):=by rw [← Nat.pow_add]; congr 1; omega
  have e2:(2:Nat)^64=2^(2*i-64)*4*2^(128-2*(i+1)):=by
    rw [show (4:Nat)=2^2 from rfl,← Nat.pow_add,← Nat.pow_add]; congr 1; omega
  have a1:m*2^64 / 2^(128-2*i)=m*2^(2*i-64):=by rw [e1,← Nat.mul_assoc,Nat.mul_div_cancel _ (B9 _)]
  have a2:m*2^64 / 2^(128-2*(i+1))=m*(2^(2*i-64)*4):=by rw [e2,← Nat.mul_assoc,Nat.mul_div_cancel _ (B9 _)]
  rw [a1,a2,← Nat.mul_assoc,Nat.mul_comm 4]
theorem Am5 {A B tl th:Nat} (hA:A<2^64) (htl:tl<2^64) (hB:B<2^64) (hth:th<4) :
    (F0 (A:Int) (tl:Int) (0:Int)=0∨F0 (A:Int) (tl:Int) (0:Int)=1) ∧
    (th*2^64+tl≤B*2^64+A→(F0 (B:Int) (th:Int) (F0 (A:Int) (tl:Int) (0:Int))==(0:Int))=true ∧
      ∃ h l:Nat,Ll (B:Int) (th:Int) (F0 (A:Int) (tl:Int) (0:Int))=(h:Int)∧Ll (A:Int) (tl:Int) (0:Int)=(l:Int)∧l<2^64∧h*2^64+l=B*2^64+A-(th*2^64+tl)) ∧
    (B*2^64+A<th*2^64+tl→(F0 (B:Int) (th:Int) (F0 (A:Int) (tl:Int) (0:Int))==(0:Int))=false):=by
  have e1:F0 (A:Int) (tl:Int) (0:Int)=((if A<tl then 1 else 0:Nat):Int):=by
    unfold F0
    rw [Aum,Aum]
    rfl
  by_cases h:A<tl
  · rw [if_pos h] at e1
    rw [e1]
    have e2:F0 (B:Int) (th:Int) ((1:Nat):Int)=((if B<th+1 then 1 else 0:Nat):Int):=by
      unfold F0
      rw [Aum,Aum]
      rfl
    refine ⟨.inr rfl,fun hle=>?_,fun hlt=>?_⟩
    · rw [if_neg (by omega)] at e2
      rw [e2]
      refine ⟨rfl,B-th-1,A+2^64-tl,?_,?_,by omega,by omega⟩
      · unfold Ll
        rw [Aum,Aum,Aum]
        congr 1; omega
      · unfold Ll
        rw [Aum,Aum]
        show ((_:Nat):Int)=_
        congr 1
        show (A+18446744073709551616-tl-0)%18446744073709551616=_
        omega
    · rw [if_pos (by omega)] at e2
      rw [e2]; rfl
  · rw [if_neg h] at e1
    rw [e1]
    have e2:F0 (B:Int) (th:Int) ((0:Nat):Int)=((if B<th then 1 else 0:Nat):Int):=by
      unfold F0
      rw [Aum,Aum]
      rfl
    refine ⟨.inl rfl,fun hle=>?_,fun hlt=>?_⟩
    · rw [if_neg (by omega)] at e2
      rw [e2]
      refine ⟨rfl,B-th,A-tl,?_,?_,by omega,by omega⟩
      · unfold Ll
        rw [Aum,Aum,Aum]
        congr 1; omega
      · unfold Ll
        rw [Aum,Aum]
        show ((_:Nat):Int)=_
        congr 1
        show (A+18446744073709551616-tl-0)%18446744073709551616=_
        omega
    · rw [if_pos (by omega)] at e2
      rw [e2]; rfl
theorem glue (n t:Nat):n / 2^62*2^64+(n%2^62*4+t)=4*n+t:=by omega
theorem Ahi (N:Nat) {m:Nat} (hm:m<2^63):∀ (k i F rt rest:Nat),i+k=64→k<F→Px m i=rt*rt+rest→rest≤2*rt→rt<2^i→∀ hi lo:Nat,hi*2^64+lo=rest→lo<2^64 →
    root.Fz.L0 N F (m:Int) (rt:Int) (hi:Int) (lo:Int) (i:Int)=some (.tup [.int .u64 (Rx m),.bool (Ry m)]):=by
  intro k
  induction k with
  | zero =>
    intro i F rt rest hi hF hP hr hb h l e hl
    obtain ⟨F,rfl⟩:∃ G,F=G+1:=⟨F-1,by omega⟩
    obtain rfl:i=64:=by omega
    have hP':m*2^64=rt*rt+rest:=by
      rw [← hP]; unfold Px
      rw [show 128-2*64=0 from rfl,Nat.pow_zero,Nat.div_one]
    have hroot:=Ane hP' hr
    rw [root.Fz.At,Au,Aup (by omega),Auo]
    have e1:Rx (m:Int)=(rt:Int):=by unfold Rx; rw [Aum,← hroot]
    have e2:Ry (m:Int)=(bif ((h:Int)==(0:Int)) then ((l:Int)==(0:Int)) else false):=by
      unfold Ry
      rw [Aum,← hroot,hP']
      by_cases h0:h=0
      · subst h0
        rw [show (((0:Nat):Int)==(0:Int))=true from rfl,Auk,Au0,Aur,beq_iff_eq]
        omega
      · rw [show ((h:Int)==(0:Int))=false by rw [beq_eq_false_iff_ne]; omega,Auo,Aup]
        omega
    rw [e1,e2]
  | succ k ih =>
    intro i F rt rest hi hF hP hr hb h l e hl
    obtain ⟨F,rfl⟩:∃ G,F=G+1:=⟨F-1,by omega⟩
    have hp:2^i≤2^63:=Auz (by decide) (by omega)
    have hi63:2^(i+1)=2*2^i:=by rw [Nat.pow_succ,Nat.mul_comm]
    have f1:2*rt+1<2^(i+1):=by rw [hi63]; omega
    have f2:2*rt<2^(i+1):=by omega
    have hh:h=0:=by omega
    subst hh
    have hrest:rest=l:=by omega
    subst hrest
    obtain ⟨two,t4,hP',hcode⟩:∃ two:Nat,two<4∧Px m (i+1)=4*Px m i+two ∧
        root.Fz.L0 N (F+1) (m:Int) (rt:Int) ((0:Nat):Int) (rest:Int) (i:Int) =
        (bif (decide ((F0 (Hh .u64 (Bs .u64 (rest:Int) (2:Int)) (two:Int)) (Hh .u64 (Bs .u64 (rt:Int) (2:Int)) (1:Int)) (0:Int))≤1)) then
          bif ((F0 (Hh .u64 (Bs .u64 ((0:Nat):Int) (2:Int)) (Da .u64 (rest:Int) (62:Int))) (Da .u64 (rt:Int) (62:Int)) (F0 (Hh .u64 (Bs .u64 (rest:Int) (2:Int)) (two:Int)) (Hh .u64 (Bs .u64 (rt:Int) (2:Int)) (1:Int)) (0:Int)))==(0:Int)) then
            root.Fz.L0 N F (m:Int) (Hh .u64 (Bs .u64 (rt:Int) (1:Int)) (1:Int)) (Ll (Hh .u64 (Bs .u64 ((0:Nat):Int) (2:Int)) (Da .u64 (rest:Int) (62:Int))) (Da .u64 (rt:Int) (62:Int)) (F0 (Hh .u64 (Bs .u64 (rest:Int) (2:Int)) (two:Int)) (Hh .u64 (Bs .u64 (rt:Int) (2:Int)) (1:Int)) (0:Int))) (Ll (Hh .u64 (Bs .u64 (rest:Int) (2:Int)) (two:Int)) (Hh .u64 (Bs .u64 (rt:Int) (2:Int)) (1:Int)) (0:Int)) (Ab ((i:Int)+(1:Int)))
          else root.Fz.L0 N F (m:Int) (Bs .u64 (rt:Int) (1:Int)) (Hh .u64 (Bs .u64 ((0:Nat):Int) (2:Int)) (Da .u64 (rest:Int) (62:Int))) (Hh .u64 (Bs .u64 (rest:Int) (2:Int)) (two:Int)) (Ab ((i:Int)+(1:Int)))
        else none):=by
      by_cases h32:i<32
      · refine ⟨m / 2^(62-2*i)%4,Nat.mod_lt _ (by decide),Ajn h32,?_⟩
        have ht:=(Aiv (m:=m) h32).resolve_right (by omega)
        have hq:m / 2^(62-2*i)%2^64%4=m / 2^(62-2*i)%4:=by omega
        rw [hq] at ht
        rw [root.Fz.At,Au,Aul (show (i:Int)<64 by omega),Auk,Au,Aul (show (i:Int)<32 by omega),Auk,ht,An (x:=(2:Int)*(i:Int)) (by omega) (by omega),An (x:=(62:Int)-2*(i:Int)) (by omega) (by omega),Aul (show (0:Int)≤62-2*(i:Int) by omega),Auk]
      · refine ⟨0,by decide,by rw [Agz (by omega) (by omega),Nat.add_zero],?_⟩
        rw [root.Fz.At,Au,Aul (show (i:Int)<64 by omega),Auk,Au,Aup (show ¬ (i:Int)<32 by omega),Auo]
        rfl
    obtain ⟨s1,s2⟩:=Aer hP hr t4
    have eA:=sh2 (n:=rest) t4
    have eT:=sh2 (n:=rt) (t:=1) (by decide)
    have eB:Hh .u64 (Bs .u64 ((0:Nat):Int) (2:Int)) (Da .u64 (rest:Int) (62:Int))=((rest / 2^62:Nat):Int):=by
      rw [show (62:Int)=((62:Nat):Int) from rfl,Se _ _ (by decide),sh2 (n:=0) (t:=rest / 2^62) (by omega)]
      congr 1; omega
    have eH:Da .u64 (rt:Int) (62:Int)=((rt / 2^62:Nat):Int):=by rw [show (62:Int)=((62:Nat):Int) from rfl,Se _ _ (by decide)]
    have eT':Hh .u64 (Bs .u64 (rt:Int) (2:Int)) (1:Int)=((rt%2^62*4+1:Nat):Int):=eT
    obtain ⟨b1,b2,b3⟩:=Am5 (A:=rest%2^62*4+two) (B:=rest / 2^62) (tl:=rt%2^62*4+1) (th:=rt / 2^62) (by omega) (by omega) (by omega) (by omega)
    rw [hcode,eA,eT',eB,eH,Aul (by rcases b1 with b | b<;>rw [b]<;>decide),Auk,An (by omega) (by omega)]
    by_cases hc:4*rt+1≤4*rest+two
    · obtain ⟨c1,hh,ll,c2,c3,c4,c5⟩:=b2 (by rw [glue,glue]; exact hc)
      obtain ⟨d1,d2⟩:=s1 hc
      rw [c1,Auk,c2,c3,sh1o (by omega)]
      refine ih (i+1) F (2*rt+1) (4*rest+two-(4*rt+1)) (by omega) (by omega) (hP'.trans d1) d2 f1 hh ll ?_ c4
      rw [c5,glue,glue]
    · rw [b3 (by rw [glue,glue]; omega),Auo,sh1 (by omega)]
      obtain ⟨d1,d2⟩:=s2 (by omega)
      refine ih (i+1) F (2*rt) (4*rest+two) (by omega) (by omega) (hP'.trans d1) d2 f2 _ _ (glue _ _) ?_
      clear hcode
      omega
theorem root.Fz.known:root.Fz.Kn:=root.Fz.Ad .nil fun m hp=>by
  have hp:=Ap.1 hp
  obtain ⟨n,rfl⟩:∃ n:Nat,m=n:=⟨m.toNat,by omega⟩
  refine ⟨65,root.Fz.out [.i n],[],?_,Wk.Gm (.cons .int (.cons .bool .nil))⟩
  rw [root.Fz.ev]
  have h0:Px n 0=0*0+0:=by
    unfold Px
    rw [Nat.div_eq_of_lt]
    show n*18446744073709551616<340282366920938463463374607431768211456
    omega
  exact Ahi 65 (by omega) 64 0 65 0 0 rfl (by omega) h0 (Nat.le_refl 0) Nat.one_pos 0 0 rfl (Nat.pow_pos (by decide))
end Go.Proofs.S1
end
