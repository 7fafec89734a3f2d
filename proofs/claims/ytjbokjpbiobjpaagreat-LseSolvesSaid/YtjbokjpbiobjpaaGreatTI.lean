/- A verified evaluator of the program's form and its use for this seat: S1EqBits6, S1EqTimes, S1PTimes, S1PTimesA, S1EqVec, S1PVec, S1EqMat, S1PMat, S1EqCmp, S1PCmp, S1PDiv, RootM, HouL, S1EqRoot. -/
import Derived.Test.YtjbokjpbiobjpaaGreatTE
import Derived.Test.YtjbokjpbiobjpaaGreatTF
import Derived.Test.YtjbokjpbiobjpaaGreatTH
import Derived.Test.YtjbokjpbiobjpaaGreatTG
set_option linter.unusedVariables false
set_option linter.unusedSimpArgs false
noncomputable section
namespace Go.Proofs.S1
open Go Go.Den Go.Rnd Go.Proofs
set_option maxRecDepth 100000
namespace EqBits6
def C1.B6.A8:List (Nat × Entry):=[(261,C1.Lx.spec)]
def C1.B6.E:Env:=A9 (A7 C1.B6.A8) (fun _=>false) (fun _=>none) (fun _=>none)
theorem C1.B6.ev (N:Nat) (x:Int):Bp C1.B6.E N Tryz.f250 (Al Tryz.f250) [.int .u64 x]=bif (Ag x) then some (.int .i64 (Ab ((64:Int)-(Fj x)))) else none:=by kernel_rfl
abbrev _root_.Go.Proofs.S1.C1.B6.Kn:=A5 Tryz.prog 250 C1.B6.spec
theorem C1.B6.Ac (hk:Ay Tryz.prog C1.B6.A8) (h:∀ (x:Int),C1.B6.pre [.i x]=true→Ba C1.B6.E Tryz.f250 [.int .u64 x] (C1.B6.out [.i x])):C1.B6.Kn :=
  Aj (A1 hk _ _ _) Tryz.func250 (by kernel_rfl) (by kernel_rfl) h
def C1.It.A8:List (Nat × Entry):=[]
def C1.It.E:Env:=A9 (A7 C1.It.A8) (fun _=>false) (fun _=>none) (fun _=>none)
theorem C1.It.ev (N:Nat) (x y:Int):Bp C1.It.E N Tryz.f237 (Al Tryz.f237) [.int .u64 x,.int .u64 y]=some (.tup [.int .u64 (Bj ((Bj ((Bj ((Dp .u64 x 32)*(Dp .u64 y 32)))+(Dp .u64 (Bj ((Bj ((Dp .u64 x 32)*(E9 .u64 y 4294967295)))+(Dp .u64 (Bj ((E9 .u64 x 4294967295)*(E9 .u64 y 4294967295))) 32))) 32)))+(Dp .u64 (Bj ((E9 .u64 (Bj ((Bj ((Dp .u64 x 32)*(E9 .u64 y 4294967295)))+(Dp .u64 (Bj ((E9 .u64 x 4294967295)*(E9 .u64 y 4294967295))) 32))) 4294967295)+(Bj ((E9 .u64 x 4294967295)*(Dp .u64 y 32))))) 32))),.int .u64 (Bj (x*y))]):=by kernel_rfl
abbrev _root_.Go.Proofs.S1.C1.It.Kn:=A5 Tryz.prog 237 C1.It.spec
theorem C1.It.Ac (hk:Ay Tryz.prog C1.It.A8) (h:∀ (x y:Int),C1.It.pre [.i x,.i y]=true→Ba C1.It.E Tryz.f237 [.int .u64 x,.int .u64 y] (C1.It.out [.i x,.i y])):C1.It.Kn :=
  Aj (A1 hk _ _ _) Tryz.func237 (by kernel_rfl) (by kernel_rfl) h
abbrev _root_.Go.Proofs.S1.C1.Lx.Kn:Prop:=A5 Tryz.prog 261 C1.Lx.spec
theorem _root_.Go.Proofs.S1.C1.Lx.call:∀ (args:Array Value) (w:World),(callFunc 261 args).run Tryz.prog w=.ok (.enter 261 args) w:=Tq Tryz.func261 (by kernel_rfl) (show Tryz.f261.body=some (Al Tryz.f261) by kernel_rfl)
theorem _root_.Go.Proofs.S1.C1.Lx.run (x:Int) (w:World) (h0:0≤x) (h1:x≤18446744073709551615):Calls Tryz.prog 261 #[.int .u64 x] w fun e w'=>e=.returned (.int .i64 (Lib.bitLen x.toNat))∧w'=w:=Tryz.Air x w h0 h1
end EqBits6
namespace EqTimes
def times.signed.A8:List (Nat × Entry):=[(233,soft.Dv.spec)]
def times.signed.E:Env:=A9 (A7 times.signed.A8) (fun _=>false) (fun _=>none) (fun _=>none)
theorem times.signed.ev (N:Nat) (b:Int) (n:Bool):Bp times.signed.E N Tryz.f235 (Al Tryz.f235) [.int .u64 b,.bool n]=bif n then bif (Ag b) then some (.int .u64 (Dd b)) else none else some (.int .u64 b):=by kernel_rfl
abbrev _root_.Go.Proofs.S1.times.signed.Kn:=A5 Tryz.prog 235 times.signed.spec
theorem times.signed.Ac (hk:Ay Tryz.prog times.signed.A8) (h:∀ (b:Int) (n:Bool),times.signed.pre [.i b,.b n]=true→Ba times.signed.E Tryz.f235 [.int .u64 b,.bool n] (times.signed.out [.i b,.b n])):times.signed.Kn :=
  Aj (A1 hk _ _ _) Tryz.func235 (by kernel_rfl) (by kernel_rfl) h
def times.nan.A8:List (Nat × Entry):=[(155,soft.Kind.spec)]
def times.nan.E:Env:=A9 (A7 times.nan.A8) (fun _=>false) (fun _=>none) (fun _=>none)
theorem times.nan.ev (N:Nat) (a b:Int):Bp times.nan.E N Tryz.f234 (Al Tryz.f234) [.int .u64 a,.int .u64 b]=bif (Ag a) then bif ((Be a)==(4:Int)) then some (.bool true) else bif (Ag b) then bif ((Be b)==(4:Int)) then some (.bool true) else some (.bool false) else none else none:=by kernel_rfl
abbrev _root_.Go.Proofs.S1.times.nan.Kn:=A5 Tryz.prog 234 times.nan.spec
theorem times.nan.Ac (hk:Ay Tryz.prog times.nan.A8) (h:∀ (a b:Int),times.nan.pre [.i a,.i b]=true→Ba times.nan.E Tryz.f234 [.int .u64 a,.int .u64 b] (times.nan.out [.i a,.i b])):times.nan.Kn :=
  Aj (A1 hk _ _ _) Tryz.func234 (by kernel_rfl) (by kernel_rfl) h
def times.norm.A8:List (Nat × Entry):=[(250,C1.B6.spec),(211,soft.Gp.spec)]
def times.norm.E:Env:=A9 (A7 times.norm.A8) (fun _=>false) (fun _=>none) (fun _=>none)
theorem times.norm.ev (N:Nat) (b:Int):Bp times.norm.E N Tryz.f236 (Al Tryz.f236) [.int .u64 b]=bif (Ag b) then bif (Ag (Bw b)) then bif (decide (0≤(Ab ((64-Fj (Bw b))-11)))) then some (.tup [.int .u64 (B5 .u64 (Bw b) (Ab ((64-Fj (Bw b))-11))),.int .i64 (Ab ((Bh b)-(Ab ((64-Fj (Bw b))-11))))]) else none else none else none:=by kernel_rfl
abbrev _root_.Go.Proofs.S1.times.norm.Kn:=A5 Tryz.prog 236 times.norm.spec
theorem times.norm.Ac (hk:Ay Tryz.prog times.norm.A8) (h:∀ (b:Int),times.norm.pre [.i b]=true→Ba times.norm.E Tryz.f236 [.int .u64 b] (times.norm.out [.i b])):times.norm.Kn :=
  Aj (A1 hk _ _ _) Tryz.func236 (by kernel_rfl) (by kernel_rfl) h
def times.wide.hint:Nat→Option Bb
  | 0=>some { keep:=[0,1,2,3],objs:=[],boxes:=[] }
  | _=>none
def times.wide.A8:List (Nat × Entry):=[(212,soft.Dn.spec)]
def times.wide.E:Env:=A9 (A7 times.wide.A8) (fun _=>false) times.wide.hint (fun _=>none)
def times.wide.L0 (N M:Nat) (n:Bool) (p1 p2:Int) (p3:Bool):Option DV:=Bv times.wide.E N Tryz.f238 (Al Tryz.f238) [1,0,0] [] M ⟨Ft 39 [(0,.bool n),(1,.int .u64 p1),(2,.int .i64 p2),(3,.bool p3)],[]⟩
theorem times.wide.Au (N M:Nat) (n:Bool) (p1 p2:Int) (p3:Bool):times.wide.L0 N (M+1) n p1 p2 p3=bif ((A6 p2 (-1130:Int))&&(A6 1 p1)) then times.wide.L0 N M n (Dp .u64 p1 1) (Ab (p2+1)) (bif p3 then true else ((E9 .u64 p1 1)==(1:Int))) else bif (A6 p2 (-1130:Int)) then bif (Eo 0 (-1074:Int) true) then some (.tup [.int .u64 (Fi n 0 (-1074:Int) true),.int .u8 (Fh n 0 (-1074:Int) true)]) else none else bif (Eo p1 p2 p3) then some (.tup [.int .u64 (Fi n p1 p2 p3),.int .u8 (Fh n p1 p2 p3)]) else none :=
  Eq.trans (by kernel_rfl)
  (Ar (On (A6 p2 (-1130:Int))) (Ar (Mb (A6 p2 (-1130:Int))) (Ar (Tw (A6 p2 (-1130:Int))) (Cq (tt1 (A6 p2 (-1130:Int)) (A6 1 p1)) (Ar (Rs p3) (Ar (Pg p3) (Ar (Pg p3) (Ar (Xb p3) rfl)))) rfl))))
theorem times.wide.ev (N:Nat) (n:Bool) (m e:Int) (r:Bool):Bp times.wide.E N Tryz.f238 (Al Tryz.f238) [.bool n,.int .u64 m,.int .i64 e,.bool r] =
  times.wide.L0 N N n m e r:=by kernel_rfl
abbrev _root_.Go.Proofs.S1.times.wide.Kn:=A5 Tryz.prog 238 times.wide.spec
theorem times.wide.Ac (hk:Ay Tryz.prog times.wide.A8) (h:∀ (n:Bool) (m e:Int) (r:Bool),times.wide.pre [.b n,.i m,.i e,.b r]=true→Ba times.wide.E Tryz.f238 [.bool n,.int .u64 m,.int .i64 e,.bool r] (times.wide.out [.b n,.i m,.i e,.b r])):times.wide.Kn :=
  Aj (A1 hk _ _ _) Tryz.func238 (by kernel_rfl) (by kernel_rfl) h
def times.Mul.A8:List (Nat × Entry):=[(237,C1.It.spec),(155,soft.Kind.spec),(213,soft.Sign.spec),(234,times.nan.spec),(236,times.norm.spec),(235,times.signed.spec),(238,times.wide.spec)]
def times.Mul.E:Env:=A9 (A7 times.Mul.A8) (fun _=>false) (fun _=>none) (fun _=>none)
theorem times.Mul.ev (N:Nat) (a b:Int):Bp times.Mul.E N Tryz.f208 (Al Tryz.f208) [.int .u64 a,.int .u64 b]=bif (Ag a) then bif (Ag b) then bif (Ag a) then bif (Ag b) then bif (Ag a&&Ag b) then bif (Aop a b) then some (.tup [.int .u64 9221120237041090560,.int .u8 0]) else bif ((((Be a)==(3:Int))&&((Be b)==(0:Int)))||(((Be a)==(0:Int))&&((Be b)==(3:Int)))) then some (.tup [.int .u64 9221120237041090560,.int .u8 16]) else bif (((Be a)==(3:Int))||((Be b)==(3:Int))) then bif (Ag 9218868437227405312) then some (.tup [.int .u64 (So (!((D0 a)==(D0 b))) 9218868437227405312),.int .u8 0]) else none else bif (((Be a)==(0:Int))||((Be b)==(0:Int))) then bif (Ag 0) then some (.tup [.int .u64 (So (!((D0 a)==(D0 b))) 0),.int .u8 0]) else none else bif (Ag a&&Ml a) then bif (Ag b&&Ml b) then bif (Ag (C3 a)&&Ag (C3 b)) then bif (Ph (Io .u64 (B5 .u64 (Sr (C3 a) (C3 b)) 20) (Dp .u64 (Nx (C3 a) (C3 b)) 44)) (Ab ((Ab ((Ho a)+(Ho b)))+44))) then some (.tup [.int .u64 (Fi (!((D0 a)==(D0 b))) (Io .u64 (B5 .u64 (Sr (C3 a) (C3 b)) 20) (Dp .u64 (Nx (C3 a) (C3 b)) 44)) (Ab ((Ab ((Ho a)+(Ho b)))+44)) ((B5 .u64 (Nx (C3 a) (C3 b)) 20) !=(0:Int))),.int .u8 (Fh (!((D0 a)==(D0 b))) (Io .u64 (B5 .u64 (Sr (C3 a) (C3 b)) 20) (Dp .u64 (Nx (C3 a) (C3 b)) 44)) (Ab ((Ab ((Ho a)+(Ho b)))+44)) ((B5 .u64 (Nx (C3 a) (C3 b)) 20) !=(0:Int)))]) else none else none else none else none else none else none else none else none else none :=
  Eq.trans (by kernel_rfl)
  (Ea (Ea (Ea (Ea (Ea (Ea rfl (Ar (On ((Be a)==(3:Int))) (Ar (Mb ((Be a)==(3:Int))) (Ar (Tw ((Be a)==(3:Int))) (Ar (Awg ((Be a)==(3:Int)) ((Be b)==(0:Int))) (Ar (Aq9 ((Be a)==(3:Int)) ((Be b)==(0:Int))) (Ar (Aq9 ((Be a)==(3:Int)) ((Be b)==(0:Int))) (Ar (Awh ((Be a)==(3:Int)) ((Be b)==(0:Int)) ((Be a)==(0:Int))) (Ar (Awi ((Be a)==(3:Int)) ((Be b)==(0:Int)) ((Be a)==(0:Int))) (Ar (Awj ((Be a)==(3:Int)) ((Be b)==(0:Int)) ((Be a)==(0:Int))) (Ar (Awk ((Be a)==(3:Int)) ((Be b)==(0:Int))) (Cq (Awl ((Be a)==(3:Int)) ((Be b)==(0:Int)) ((Be a)==(0:Int)) ((Be b)==(3:Int))) rfl (Ar (Rs ((Be a)==(3:Int))) (Ar (Pg ((Be a)==(3:Int))) (Ar (Xb ((Be a)==(3:Int))) (Cq (tt5 ((Be a)==(3:Int)) ((Be b)==(3:Int))) rfl (Ar (Rs ((Be a)==(0:Int))) (Ar (Pg ((Be a)==(0:Int))) (Ar (Xb ((Be a)==(0:Int))) (Cq (tt5 ((Be a)==(0:Int)) ((Be b)==(0:Int))) rfl rfl)))))))))))))))))))) rfl) rfl) rfl) rfl) rfl)
abbrev _root_.Go.Proofs.S1.times.Mul.Kn:=A5 Tryz.prog 208 times.Mul.spec
theorem times.Mul.Ac (hk:Ay Tryz.prog times.Mul.A8) (h:∀ (a b:Int),times.Mul.pre [.i a,.i b]=true→Ba times.Mul.E Tryz.f208 [.int .u64 a,.int .u64 b] (times.Mul.out [.i a,.i b])):times.Mul.Kn :=
  Aj (A1 hk _ _ _) Tryz.func208 (by kernel_rfl) (by kernel_rfl) h
def times.Div.hint:Nat→Option Bb
  | 1=>some { keep:=[6,10,11,12,13,14,78],objs:=[],boxes:=[] }
  | _=>none
def times.Div.A8:List (Nat × Entry):=[(155,soft.Kind.spec),(213,soft.Sign.spec),(234,times.nan.spec),(236,times.norm.spec),(235,times.signed.spec),(238,times.wide.spec)]
def times.Div.E:Env:=A9 (A7 times.Div.A8) (fun _=>false) times.Div.hint (fun _=>none)
def times.Div.L0 (N M:Nat) (a b:Int) (p13 p14 p78:Int):Option DV:=Bv times.Div.E N Tryz.f209 (Al Tryz.f209) [1,1,1,1,1,1,1,0,1,0] [] M ⟨Ft 104 [(6,.bool (!((D0 a)==(D0 b)))),(10,.int .i64 (Ho a)),(11,.int .u64 (C3 b)),(12,.int .i64 (Ho b)),(13,.int .u64 p13),(14,.int .u64 p14),(78,.int .i64 p78)],[]⟩
theorem times.Div.Au (N M:Nat) (a b:Int) (p13 p14 p78:Int):times.Div.L0 N (M+1) a b p13 p14 p78=bif (A6 p78 61) then bif (Ep (C3 b) (B5 .u64 p14 1)) then times.Div.L0 N M a b (Io .u64 (B5 .u64 p13 1) 1) (Bj ((B5 .u64 p14 1)-(C3 b))) (Ab (p78+1)) else times.Div.L0 N M a b (B5 .u64 p13 1) (B5 .u64 p14 1) (Ab (p78+1)) else bif (Ph p13 (Ab ((Ab ((Ho a)-(Ho b)))-61))) then some (.tup [.int .u64 (Fi (!((D0 a)==(D0 b))) p13 (Ab ((Ab ((Ho a)-(Ho b)))-61)) (p14 !=(0:Int))),.int .u8 (Fh (!((D0 a)==(D0 b))) p13 (Ab ((Ab ((Ho a)-(Ho b)))-61)) (p14 !=(0:Int)))]) else none:=by kernel_rfl
theorem times.Div.ev (N:Nat) (a b:Int):Bp times.Div.E N Tryz.f209 (Al Tryz.f209) [.int .u64 a,.int .u64 b]=bif (Ag a) then bif (Ag b) then bif (Ag a) then bif (Ag b) then bif (Ag a&&Ag b) then bif (Aop a b) then some (.tup [.int .u64 9221120237041090560,.int .u8 0]) else bif ((((Be a)==(3:Int))&&((Be b)==(3:Int)))||(((Be a)==(0:Int))&&((Be b)==(0:Int)))) then some (.tup [.int .u64 9221120237041090560,.int .u8 16]) else bif ((Be a)==(3:Int)) then bif (Ag 9218868437227405312) then some (.tup [.int .u64 (So (!((D0 a)==(D0 b))) 9218868437227405312),.int .u8 0]) else none else bif (((Be b)==(3:Int))||((Be a)==(0:Int))) then bif (Ag 0) then some (.tup [.int .u64 (So (!((D0 a)==(D0 b))) 0),.int .u8 0]) else none else bif ((Be b)==(0:Int)) then bif (Ag 9218868437227405312) then some (.tup [.int .u64 (So (!((D0 a)==(D0 b))) 9218868437227405312),.int .u8 8]) else none else bif (Ag a&&Ml a) then bif (Ag b&&Ml b) then bif ((C3 b) !=0) then bif ((C3 b) !=0) then times.Div.L0 N N a b (Bj (Int.tdiv (C3 a) (C3 b))) (Int.tmod (C3 a) (C3 b)) (0:Int) else none else none else none else none else none else none else none else none else none :=
  Eq.trans (by kernel_rfl)
  (Ea (Ea (Ea (Ea (Ea (Ea rfl (Ar (On ((Be a)==(3:Int))) (Ar (Mb ((Be a)==(3:Int))) (Ar (Tw ((Be a)==(3:Int))) (Ar (Awg ((Be a)==(3:Int)) ((Be b)==(3:Int))) (Ar (Aq9 ((Be a)==(3:Int)) ((Be b)==(3:Int))) (Ar (Aq9 ((Be a)==(3:Int)) ((Be b)==(3:Int))) (Ar (Awh ((Be a)==(3:Int)) ((Be b)==(3:Int)) ((Be a)==(0:Int))) (Ar (Awi ((Be a)==(3:Int)) ((Be b)==(3:Int)) ((Be a)==(0:Int))) (Ar (Awj ((Be a)==(3:Int)) ((Be b)==(3:Int)) ((Be a)==(0:Int))) (Ar (Awk ((Be a)==(3:Int)) ((Be b)==(3:Int))) (Cq (Awl ((Be a)==(3:Int)) ((Be b)==(3:Int)) ((Be a)==(0:Int)) ((Be b)==(0:Int))) rfl (Ea rfl (Ar (Rs ((Be b)==(3:Int))) (Ar (Pg ((Be b)==(3:Int))) (Ar (Xb ((Be b)==(3:Int))) (Cq (tt5 ((Be b)==(3:Int)) ((Be a)==(0:Int))) rfl (Ea rfl (Ea (Ea (Cq (Ci ((C3 b) !=0)) (Cq (Ci ((C3 b) !=0)) rfl rfl) rfl) rfl) rfl))))))))))))))))))) rfl) rfl) rfl) rfl) rfl)
abbrev _root_.Go.Proofs.S1.times.Div.Kn:=A5 Tryz.prog 209 times.Div.spec
theorem times.Div.Ac (hk:Ay Tryz.prog times.Div.A8) (h:∀ (a b:Int),times.Div.pre [.i a,.i b]=true→Ba times.Div.E Tryz.f209 [.int .u64 a,.int .u64 b] (times.Div.out [.i a,.i b])):times.Div.Kn :=
  Aj (A1 hk _ _ _) Tryz.func209 (by kernel_rfl) (by kernel_rfl) h
end EqTimes
open EqBits6 EqTimes
theorem Agl {n:Nat} (h0:n≠0) (h:n<2^64):Go.Lib.bitLen n=n.log2+1:=by
  have h1:=Nat.log2_self_le h0
  have h2:=Nat.lt_log2_self (n:=n)
  have hp:=Cn n.log2
  have e:n / 2^n.log2=1:=by
    rw [Nat.pow_succ] at h2
    exact Nat.div_eq_of_lt_le (by omega) (by omega)
  have e1:Go.Lib.bitLen 1=1:=by decide
  rw [Go.Lib.bitLen_shift n.log2 n h1 h,e,e1]
theorem C1.Lx.known:C1.Lx.Kn:=by
  refine ⟨?_,C1.Lx.call⟩
  intro args ha
  simp only [C1.Lx.spec,entry] at ha ⊢
  cases hd:Mr [.i .u64] args with
  | none=>rw [hd] at ha; cases ha
  | some ats =>
    rw [hd] at ha
    simp only at ha ⊢
    obtain ⟨ds,h1,h2⟩:=Mq hd
    obtain ⟨x,_,_,rfl,rfl,he⟩:=h1.Apj
    obtain ⟨rfl,rfl⟩:=he.Ac3
    obtain ⟨n,rfl,hn⟩:=Bl (x:=x) ha
    refine Ok.args ?_ h2
    intro w vals I hI hv
    obtain ⟨u,us,e1,e2,e3⟩:=hv
    simp only [Ao] at e2
    have e3:us=[]:=e3
    subst e2 e3
    have e4:vals=#[.int .u64 (n:Int)]:=Array.ext' e1
    subst e4
    refine (C1.Lx.run n w (by omega) (by omega)).mono ?_
    rintro e w' ⟨rfl,rfl⟩
    refine ⟨_,fun _=>none,rfl,Go.RowKit.Below.refl _ _,⟨fun i b h=>(by cases h),fun i j b h=>(by cases h)⟩,?_⟩
    show Ao _ _ (DV.int .i64 (Fj n)) _
    simp only [Ao]
    congr 1
    unfold Fj
    rw [Ay8]
    by_cases h0:n=0
    · subst h0; rfl
    · rw [Agl h0 hn,if_neg (by omega)]; rfl
theorem Apb {n:Nat} (hn:n<2^64):0≤Fj n∧Fj n≤64:=by
  unfold Fj
  rw [Ay8]
  by_cases h0:n=0
  · subst h0; decide
  · have:=(Nat.log2_lt h0).2 hn
    rw [if_neg (by omega)]; omega
theorem C1.B6.known:C1.B6.Kn:=C1.B6.Ac (.cons C1.Lx.known .nil) fun x hp=>by
  obtain ⟨n,rfl,hn⟩:=Bl (x:=x) hp
  have:=Apb hn
  refine ⟨0,C1.B6.out [.i n],[],?_,.int⟩
  rw [C1.B6.ev,Cb hn,Ay6,Am (by omega) (by omega)]
  rfl
theorem J6 {a b:Nat} (ha:a<4294967296) (hb:b<4294967296):a*b≤18446744065119617025 :=
  Nat.le_trans (Nat.mul_le_mul (show a≤4294967295 by omega) (show b≤4294967295 by omega)) (by decide)
theorem Aos (x y:Nat) (hx:x<2^64) (hy:y<2^64) :
    x*y / 18446744073709551616=(x / 2^32)*(y / 2^32)+((x / 2^32)*(y%2^32)+(x%2^32)*(y%2^32) / 2^32) / 2^32 +
      (((x / 2^32)*(y%2^32)+(x%2^32)*(y%2^32) / 2^32)%2^32+(x%2^32)*(y / 2^32)) / 2^32:=by
  have ex:x=x / 2^32*4294967296+x%2^32:=by omega
  have ey:y=y / 2^32*4294967296+y%2^32:=by omega
  have ha:x / 2^32<4294967296:=by omega
  have hc:y / 2^32<4294967296:=by omega
  have hb:x%2^32<4294967296:=by omega
  have hd:y%2^32<4294967296:=by omega
  generalize x / 2^32=a at *
  generalize x%2^32=b at *
  generalize y / 2^32=c at *
  generalize y%2^32=d at *
  have e:x*y=a*c*18446744073709551616+(a*d+b*c)*4294967296+b*d:=by
    rw [ex,ey,Nat.add_mul,Nat.mul_add,Nat.mul_add]
    have e1:a*4294967296*(c*4294967296)=a*c*18446744073709551616:=by
      rw [Nat.mul_mul_mul_comm]
    have e2:a*4294967296*d=a*d*4294967296:=Nat.mul_right_comm _ _ _
    have e3:b*(c*4294967296)=b*c*4294967296:=(Nat.mul_assoc _ _ _).symm
    rw [e1,e2,e3]
    omega
  have b1:=J6 ha hc
  have b2:=J6 ha hd
  have b3:=J6 hb hc
  have b4:=J6 hb hd
  rw [e]
  clear e ex ey
  generalize a*c=p at *
  generalize a*d=q at *
  generalize b*c=r at *
  generalize b*d=s at *
  omega
theorem C1.It.known:C1.It.Kn:=C1.It.Ac .nil fun x y hp=>by
  obtain ⟨h1,h2⟩:=Ad.1 hp
  obtain ⟨x,rfl,hx⟩:=Bl h1
  obtain ⟨y,rfl,hy⟩:=Bl h2
  refine ⟨0,C1.It.out [.i x,.i y],[],?_,Wk.G6 (.cons .int (.cons .int .nil))⟩
  show _=some (DV.tup [.int .u64 (Sr x y),.int .u64 (Nx x y)])
  have s32:∀ n:Nat,Dp .u64 (n:Int) (32:Int)=((n / 2^32:Nat):Int):=fun n=>H7 .u64 n 32 (by decide)
  have m32:∀ n:Nat,n<2^64→E9 .u64 (n:Int) (4294967295:Int)=((n%2^32:Nat):Int):=fun n hn=>Jk 32 hn (by decide)
  have ha:x / 2^32<4294967296:=by omega
  have hc:y / 2^32<4294967296:=by omega
  have hb:x%2^32<4294967296:=by omega
  have hd:y%2^32<4294967296:=by omega
  have b1:=J6 ha hc
  have b2:=J6 ha hd
  have b3:=J6 hb hc
  have b4:=J6 hb hd
  have hhi:=Aos x y hx hy
  have wn:∀ n:Nat,n<2^64→Bj (n:Int)=n:=fun n hn=>Dt (by omega) (by omega)
  have hlt:x*y / 18446744073709551616<2^64:=by
    rw [Nat.div_lt_iff_lt_mul (by decide)]
    have:=Nat.mul_le_mul (show x≤18446744073709551615 by omega) (show y≤18446744073709551615 by omega)
    omega
  rw [C1.It.ev]
  simp only [s32,m32 x hx,m32 y hy]
  generalize hA:x / 2^32=a at *
  generalize hB:x%2^32=b at *
  generalize hC:y / 2^32=c at *
  generalize hD:y%2^32=d at *
  simp only [← Azr]
  rw [wn (a*c) (by omega),wn (a*d) (by omega),wn (b*c) (by omega),wn (b*d) (by omega),s32]
  simp only [← Int.natCast_add]
  rw [wn (a*d+b*d / 2^32) (by omega),s32,m32 _ (by omega)]
  simp only [← Int.natCast_add]
  rw [wn (a*c+(a*d+b*d / 2^32) / 2^32) (by omega),wn _ (by omega),s32]
  simp only [← Int.natCast_add]
  rw [← hhi,wn _ hlt]
  unfold Sr Nx
  rw [Ay8,Ay8,Om]
  congr 3
theorem times.signed.known:times.signed.Kn:=times.signed.Ac (.cons soft.Dv.known .nil) fun b n hp=>by
  have hp:Ag b=true:=hp
  refine ⟨0,times.signed.out [.i b,.b n],[],?_,.int⟩
  rw [times.signed.ev,hp]
  cases n<;>rfl
theorem times.nan.known:times.nan.Kn:=times.nan.Ac (.cons soft.Kind.known .nil) fun a b hp=>by
  obtain ⟨ha,hb⟩:=Ad.1 hp
  refine ⟨0,times.nan.out [.i a,.i b],[],?_,.bool⟩
  rw [times.nan.ev,ha,hb,Ay6,Ay6]
  show _=some (DV.bool (decide (Be a=4)||decide (Be b=4)))
  by_cases h1:Be a=4
  · rw [h1]; rfl
  · have e1:(Be a==(4:Int))=false:=by simp; exact h1
    rw [e1,Azb h1,Aza]
    by_cases h2:Be b=4
    · rw [h2]; rfl
    · have e2:(Be b==(4:Int))=false:=by simp; exact h2
      rw [e2,Azb h2]; rfl
theorem O4 {n:Nat} (h:Ax n≠0):(Ax n).log2≤52∧2^52≤Ax n*2^Cf n∧Ax n*2^Cf n<2^53∧Cf n≤52:=by
  have h1:=Fs n
  have h2:(Ax n).log2<53:=(Nat.log2_lt h).2 (by omega)
  have hz:=Lr (Ax n) (Cf n) h
  have hne:Ax n*2^Cf n≠0:=I5 h
  have hl:(Ax n*2^Cf n).log2=52:=by rw [hz]; unfold Cf; omega
  refine ⟨by omega,?_,?_,by unfold Cf; omega⟩
  · rw [← Nat.le_log2 hne]; omega
  · rw [← Nat.log2_lt hne]; omega
theorem times.norm.known:times.norm.Kn:=times.norm.Ac (.cons C1.B6.known (.cons soft.Gp.known .nil)) fun b hp=>by
  obtain ⟨h1,h2⟩:=Ad.1 hp
  obtain ⟨n,rfl,hn⟩:=Bl h1
  have h2:Ax n≠0:=Aw.1 h2
  obtain ⟨l1,l2,l3,l4⟩:=O4 h2
  have hM:=Fs n
  have hE:=E2 n
  refine ⟨0,times.norm.out [.i n],[],?_,Wk.G6 (.cons .int (.cons .int .nil))⟩
  show _=some (DV.tup [.int .u64 (C3 n),.int .i64 (Ho n)])
  have e1:Bw (n:Int)=(Ax n:Int):=rfl
  have e2:Bh (n:Int)=A3 n:=rfl
  have e3:Fj (Ax n:Int)=((Ax n).log2:Int)+1:=by
    unfold Fj
    rw [if_neg (by omega),Ay8]
  have e4:Ab ((64-(((Ax n).log2:Int)+1))-(11:Int))=((Cf n:Nat):Int):=by
    rw [Am (by omega) (by omega)]; unfold Cf; omega
  rw [times.norm.ev,Cb hn,e1,e2,Cb (n:=Ax n) (by omega),e3,e4,Fx _ _ (by omega),Azj (by omega),Am (by omega) (by omega),Ay7 (by omega)]
  rfl
theorem Akr {V t:Nat} {E:Int} (h0:V≠0) (h:V<2^t) (hE:E+t≤-1075):Cm V E=0∧flagsOf V E=3:=by
  have hl:V.log2<t:=(Nat.log2_lt h0).2 h
  have hL:Cl V E=-1074:=by unfold Cl; omega
  obtain ⟨k,hk⟩:∃ k:Nat,(-1074-E).toNat=t+1+k:=⟨(-1074-E).toNat-t-1,by omega⟩
  have hp:2^(t+1)≤2^(t+1+k):=Azl (by decide) (by omega)
  have ht:2^(t+1)=2*2^t:=by rw [Nat.pow_succ]; omega
  have e2:(-(-1074-E)).toNat=0:=by omega
  have hr:Kh V (-1074-E)=0:=by
    unfold Kh Nb
    rw [e2,hk,Nat.pow_zero,Nat.mul_one,Nat.div_eq_of_lt (by omega),Azj (by omega),if_neg (by omega)]
  have hru:Cm V E=0:=by
    unfold Cm kept
    rw [if_neg h0,hL,hr]
    simp
  refine ⟨hru,?_⟩
  unfold flagsOf exact M6
  rw [if_neg h0,hru,hL,e2,hk,Nat.pow_zero,Nat.mul_one,Azj (by omega),Azb h0]
  decide
theorem Alp (n:Bool) {m:Nat} {e:Int} (r:Bool) (hm:1<m) (he:e < -1130):Gx n (m / 2) (e+1) (r||decide (m%2=1))=Gx n m e r:=by
  have e1:(4*m+r.toNat) / 2^3=m / 2:=by cases r<;>simp<;>omega
  have e2:(r||decide (m%2=1))=decide ((4*m+r.toNat)%2^3≠0):=by
    rw [Azm]
    cases r
    · simp; omega
    · simp; omega
  have:=Uq n (V:=4*m+r.toNat) (k:=3) (E:=e-2) (e:=e+1) (s:=r||decide (m%2=1)) (by omega) e2 (by omega) (.inr (by omega))
  rw [e1] at this
  exact this
theorem Uo (n:Bool) {e:Int} (r:Bool) (he:e < -1130):Gx n 1 e r=Gx n 0 (-1074) true:=by
  have h1:r.toNat≤1:=by cases r<;>decide
  obtain ⟨a1,a2⟩:=Akr (V:=4*1+r.toNat) (t:=3) (E:=e-2) (by omega) (by omega) (by omega)
  obtain ⟨b1,b2⟩:=Akr (V:=4*0+true.toNat) (t:=1) (E:=-1074-2) (by decide) (by decide) (by decide)
  unfold Gx
  rw [a1,a2,b1,b2]
theorem Akl (N:Nat) (n:Bool):∀ (k m:Nat) (e:Int) (r:Bool),1≤m→m<2^62→m≤2^k→-7000≤e→e≤6000→(2^60≤m∨e≤-1130) →
    times.wide.L0 N (k+1) n (m:Int) e r=some (.tup [.int .u64 (((Gx n m e r).1:Nat):Int),.int .u8 (((Gx n m e r).2:Nat):Int)]):=by
  intro k
  induction k with
  | zero =>
    intro m e r h1 h2 h3 h4 h5 h6
    have hm:m=1:=by simp at h3; omega
    subst hm
    rw [times.wide.Au,Aq,Aq]
    have c1:decide ((1:Int)<((1:Nat):Int))=false:=by decide
    rw [c1,Bool.and_false,Aza]
    by_cases he:e < -1130
    · have hp:Eo (0:Int) (-1074:Int) true=true:=Aw.2 (by omega)
      rw [Ay7 he,Ay6,hp,Ay6,Uo n r he]
      rfl
    · have he:e=-1130:=by omega
      subst he
      have hp:Eo ((1:Nat):Int) (-1130:Int) r=true:=Aw.2 (by omega)
      rw [Azb (by omega),Aza,hp,Ay6]
      rfl
  | succ k ih =>
    intro m e r h1 h2 h3 h4 h5 h6
    rw [times.wide.Au,Aq,Aq]
    by_cases he:e < -1130
    · by_cases hm:1<m
      · have c1:decide ((1:Int)<(m:Int))=true:=Ay7 (by omega)
        have e1:Dp .u64 (m:Int) (1:Int)=((m / 2:Nat):Int):=H7 .u64 m 1 (by decide)
        have e2:E9 .u64 (m:Int) (1:Int)=((m%2:Nat):Int):=Jk (a:=m) 1 (by omega) (by decide)
        have e3:(bif r then true else (E9 .u64 (m:Int) (1:Int))==(1:Int))=(r||decide (m%2=1)):=by
          rw [e2]
          cases r
          · rw [Azm]; simp; omega
          · rfl
        rw [Ay7 he,c1,Azc,Ay6,e1,e3,Am (by omega) (by omega)]
        have hk:m / 2≤2^k:=by rw [Nat.pow_succ] at h3; omega
        rw [ih (m / 2) (e+1) _ (by omega) (by omega) hk (by omega) (by omega) (.inr (by omega)),Alp n r hm he]
      · have hm:m=1:=by omega
        subst hm
        have c1:decide ((1:Int)<((1:Nat):Int))=false:=by decide
        have hp:Eo (0:Int) (-1074:Int) true=true:=Aw.2 (by omega)
        rw [c1,Bool.and_false,Aza,Ay7 he,Ay6,hp,Ay6,Uo n r he]
        rfl
    · have hp:Eo (m:Int) e r=true:=Aw.2 ⟨by omega,by omega,by omega,.inl (by omega),fun _=>by omega⟩
      rw [Azb he,Bool.false_and,Aza,Aza,hp,Ay6]
      rfl
theorem times.wide.known:times.wide.Kn:=times.wide.Ac (.cons soft.Dn.known .nil) fun n m e r hp=>by
  obtain ⟨h1,h2,h3,h4⟩:=Aw.1 (show Ph m e=true from hp)
  obtain ⟨m,rfl⟩:∃ k:Nat,m=k:=⟨m.toNat,by omega⟩
  refine ⟨63,times.wide.out [.b n,.i m,.i e,.b r],[],?_,Wk.G6 (.cons .int (.cons .int .nil))⟩
  rw [times.wide.ev,Akl 63 n 62 m e r (by omega) (by omega) (by omega) (by omega) (by omega) (.inl (by omega))]
  rfl
open EqTimes
theorem Oz {b:Nat} (h0:An b≠0) (h3:An b≠3) (h4:An b≠4):Ax b≠0:=by
  have:=Jt b
  unfold An at h0 h3 h4
  unfold Ax
  by_cases h1:D6 b=2047
  · rw [if_pos h1] at h3 h4
    by_cases h2:Dc b=0
    · rw [if_pos h2] at h3; exact absurd rfl h3
    · rw [if_neg h2] at h4; exact absurd rfl h4
  · rw [if_neg h1] at h0
    by_cases h2:0<D6 b
    · rw [if_neg (by omega)]; omega
    · rw [if_neg h2] at h0
      by_cases h5:0<Dc b
      · rw [if_pos (by omega)]; omega
      · rw [if_neg h5] at h0; exact absurd rfl h0
theorem V0 {b:Nat} (h0:An b=0):Ax b=0:=by
  unfold An at h0
  unfold Ax
  by_cases h1:D6 b=2047
  · rw [if_pos h1] at h0; split at h0<;>omega
  · rw [if_neg h1] at h0
    by_cases h2:0<D6 b
    · rw [if_pos h2] at h0; omega
    · rw [if_neg h2] at h0
      by_cases h5:0<Dc b
      · rw [if_pos h5] at h0; omega
      · rw [if_pos (by omega)]; omega
theorem Ahy {x y:Nat} (hx1:2^52≤x) (hx2:x<2^53) (hy1:2^52≤y) (hy2:y<2^53):2^104≤x*y∧x*y<2^106:=by
  have h1:=Nat.mul_le_mul hx1 hy1
  have h2:x*y<2^53*2^53:=Nat.mul_lt_mul'' hx2 hy2
  exact ⟨Nat.le_trans (by decide) h1,Nat.lt_of_lt_of_le h2 (by decide)⟩
theorem Arv {V:Nat} (h:V<2^106):Io .u64 (B5 .u64 ((V / 18446744073709551616:Nat):Int) (20:Int)) (Dp .u64 ((V%18446744073709551616:Nat):Int) (44:Int))=((V / 2^44:Nat):Int):=by
  have e1:B5 .u64 ((V / 18446744073709551616:Nat):Int) (20:Int)=((V / 18446744073709551616*2^20%2^64:Nat):Int):=Fx _ 20 (by decide)
  have e2:Dp .u64 ((V%18446744073709551616:Nat):Int) (44:Int)=((V%18446744073709551616 / 2^44:Nat):Int):=H7 .u64 _ 44 (by decide)
  rw [e1,e2,Azj (by omega),Nl (k:=20) (by omega) (by omega)]
  congr 1
  omega
theorem Aru {V:Nat}:((B5 .u64 ((V%18446744073709551616:Nat):Int) (20:Int)) !=(0:Int))=decide (V%2^44≠0):=by
  have e1:B5 .u64 ((V%18446744073709551616:Nat):Int) (20:Int)=((V%18446744073709551616*2^20%2^64:Nat):Int):=Fx _ 20 (by decide)
  rw [e1,Azm]
  simp only [bne_iff_ne,ne_eq,Azd]
  omega
theorem Ac2 (s t:Bool):(!(s==t))=(s !=t):=rfl
theorem w53 {x:Nat} (h:x<2^53):Ag (x:Int)=true:=Cb (by omega)
theorem Ar2 (n:Bool) {a b:Nat} (ha:Ax a≠0) (hb:Ax b≠0) :
    (bif (Ag (C3 a)&&Ag (C3 b)) then
      bif (Ph (Io .u64 (B5 .u64 (Sr (C3 a) (C3 b)) (20:Int)) (Dp .u64 (Nx (C3 a) (C3 b)) (44:Int))) (Ab ((Ab ((Ho a)+(Ho b)))+(44:Int)))) then
        some (DV.tup [.int .u64 (Fi n (Io .u64 (B5 .u64 (Sr (C3 a) (C3 b)) (20:Int)) (Dp .u64 (Nx (C3 a) (C3 b)) (44:Int))) (Ab ((Ab ((Ho a)+(Ho b)))+(44:Int))) ((B5 .u64 (Nx (C3 a) (C3 b)) (20:Int)) !=(0:Int))),.int .u8 (Fh n (Io .u64 (B5 .u64 (Sr (C3 a) (C3 b)) (20:Int)) (Dp .u64 (Nx (C3 a) (C3 b)) (44:Int))) (Ab ((Ab ((Ho a)+(Ho b)))+(44:Int))) ((B5 .u64 (Nx (C3 a) (C3 b)) (20:Int)) !=(0:Int)))])
      else none
    else none)=some (.tup [.int .u64 ((Bk n (Cm (Ax a*Ax b) (A3 a+A3 b)):Nat):Int),.int .u8 ((flagsOf (Ax a*Ax b) (A3 a+A3 b):Nat):Int)]):=by
  obtain ⟨a1,a2,a3,a4⟩:=O4 ha
  obtain ⟨b1,b2,b3,b4⟩:=O4 hb
  have ea:=E2 a
  have eb:=E2 b
  have ma:C3 (a:Int)=((Ax a*2^Cf a:Nat):Int):=rfl
  have mb:C3 (b:Int)=((Ax b*2^Cf b:Nat):Int):=rfl
  have na:Ho (a:Int)=A3 a-Cf a:=rfl
  have nb:Ho (b:Int)=A3 b-Cf b:=rfl
  have hi:Sr (C3 a) (C3 b)=((Ax a*2^Cf a*(Ax b*2^Cf b) / 18446744073709551616:Nat):Int):=rfl
  have lo:Nx (C3 a) (C3 b)=((Ax a*2^Cf a*(Ax b*2^Cf b)%18446744073709551616:Nat):Int):=rfl
  rw [hi,lo,ma,mb,na,nb,w53 a3,w53 b3,Azc,Ay6]
  obtain ⟨v1,v2⟩:=Ahy a2 a3 b2 b3
  have ev:Ax a*2^Cf a*(Ax b*2^Cf b)=Ax a*Ax b*2^(Cf a+Cf b):=by
    rw [Nat.mul_mul_mul_comm,← Nat.pow_add]
  obtain ⟨s1,s2⟩:=El (Ax a*Ax b) (Cf a+Cf b) (A3 a+A3 b)
  rw [← ev] at s1 s2
  generalize Ax a*2^Cf a*(Ax b*2^Cf b)=V at *
  rw [Arv v2,Aru,Am (x:=_+_) (by rw [Am (by omega) (by omega)]; omega) (by rw [Am (by omega) (by omega)]; omega),Am (by omega) (by omega)]
  have hw:Ph ((V / 2^44:Nat):Int) (A3 a-Cf a+(A3 b-Cf b)+44)=true:=Aw.2 ⟨by omega,by omega,by omega,by omega⟩
  rw [hw,Ay6]
  unfold Fi Fh
  rw [Ay8,Uq n (V:=V) (k:=44) (E:=A3 a+A3 b-((Cf a+Cf b:Nat):Int)) (e:=A3 a-Cf a+(A3 b-Cf b)+44) (s:=decide (V%2^44≠0)) (by omega) rfl (by omega) (.inl (by omega)),s1,s2]
theorem kq (b k:Nat):(((An b:Nat):Int)==((k:Nat):Int))=decide (An b=k):=by
  rw [Azm]; simp only [beq_iff_eq,Azd]; omega
theorem Aat (n:Bool) {r:Nat} (h:r<2^63):So n (r:Int)=((Bk n r:Nat):Int):=by
  unfold So Bk Dd
  cases n
  · rfl
  · simp only [if_true]
    rw [Ay8,Yt h]
theorem Af0 (n:Bool):So n (9218868437227405312:Int)=((Bk n Ee:Nat):Int):=Aat n (r:=Ee) (by decide)
theorem Aal (n:Bool):So n (0:Int)=((Bk n 0:Nat):Int):=Aat n (r:=0) (by decide)
theorem R7 (b:Nat):Be (b:Int)=((An b:Nat):Int):=rfl
theorem Ajn (a b:Nat):Aop (a:Int) (b:Int)=(decide (An a=4)||decide (An b=4)):=by
  unfold Aop Be
  simp only [Ay8]
  rw [Azm]
  simp only [Bool.or_eq_true,Azd]
  omega
theorem k3 (b:Nat):(((An b:Nat):Int)==(3:Int))=decide (An b=3):=kq b 3
theorem k0 (b:Nat):(((An b:Nat):Int)==(0:Int))=decide (An b=0):=kq b 0
theorem times.Mul.known:times.Mul.Kn:=times.Mul.Ac (.cons C1.It.known (.cons soft.Kind.known (.cons soft.Sign.known (.cons times.nan.known (.cons times.norm.known (.cons times.signed.known (.cons times.wide.known .nil))))))) fun a b hp=>by
  obtain ⟨ha,hb⟩:=Ad.1 hp
  obtain ⟨a,rfl,hn⟩:=Bl ha
  obtain ⟨b,rfl,hm⟩:=Bl hb
  refine ⟨0,times.Mul.out [.i a,.i b],[],?_,Wk.G6 (.cons .int (.cons .int .nil))⟩
  have i1:Ag (9218868437227405312:Int)=true:=Cb (n:=9218868437227405312) (by decide)
  have i2:Ag (0:Int)=true:=Cb (n:=0) (by decide)
  rw [times.Mul.ev,ha,hb,Ajn,R7,R7,k3,k3,k0,k0,i1,i2,Af0,Aal,Ac2]
  show _=some (DV.tup [.int .u64 (((Nr a b).1:Nat):Int),.int .u8 (((Nr a b).2:Nat):Int)])
  have ea:D0 (a:Int)=Bu a:=rfl
  have eb:D0 (b:Int)=Bu b:=rfl
  rw [ea,eb]
  unfold Nr
  simp only [Azc,Ay6]
  by_cases h4:An a=4∨An b=4
  · have c4:(decide (An a=4)||decide (An b=4))=true:=by simp; exact h4
    rw [if_pos h4,c4,Ay6]; rfl
  · have c4:(decide (An a=4)||decide (An b=4))=false:=by simp; omega
    rw [if_neg h4,c4,Aza]
    by_cases h3:An a=3∨An b=3
    · rw [if_pos h3]
      by_cases h0:An a=0∨An b=0
      · have c0:(decide (An a=3)&&decide (An b=0)||decide (An a=0)&&decide (An b=3))=true:=by simp; omega
        rw [if_pos h0,c0,Ay6]; rfl
      · have c0:(decide (An a=3)&&decide (An b=0)||decide (An a=0)&&decide (An b=3))=false:=by simp; omega
        have c3:(decide (An a=3)||decide (An b=3))=true:=by simp; omega
        rw [if_neg h0,c0,Aza,c3,Ay6]; rfl
    · have c0:(decide (An a=3)&&decide (An b=0)||decide (An a=0)&&decide (An b=3))=false:=by simp; omega
      have c3:(decide (An a=3)||decide (An b=3))=false:=by simp; omega
      rw [if_neg h3,c0,Aza,c3,Aza]
      by_cases h0:An a=0∨An b=0
      · have c5:(decide (An a=0)||decide (An b=0))=true:=by simp; exact h0
        have hz:Ax a*Ax b=0:=by
          rcases h0 with h | h
          · rw [V0 h,Nat.zero_mul]
          · rw [V0 h,Nat.mul_zero]
        rw [c5,Ay6,hz,Ry,P4]; rfl
      · have c5:(decide (An a=0)||decide (An b=0))=false:=by simp; omega
        have pa:=Oz (b:=a) (by omega) (by omega) (by omega)
        have pb:=Oz (b:=b) (by omega) (by omega) (by omega)
        have na:Ml (a:Int)=true:=Aw.2 pa
        have nb:Ml (b:Int)=true:=Aw.2 pb
        rw [c5,Aza,na,nb,Azc,Ay6,Ay6]
        exact Ar2 _ pa pb
theorem Ap3 (N:Nat) {a b:Nat} {X Y:Nat} (hY:0<Y) (hY2:Y<2^53) (hX:X<2*Y) (em:C3 (b:Int)=(Y:Int)):∀ (k i:Nat),k+i=61 →
    times.Div.L0 N (k+1) a b ((X*2^i / Y:Nat):Int) ((X*2^i%Y:Nat):Int) (i:Int) =
      times.Div.L0 N 1 a b ((X*2^61 / Y:Nat):Int) ((X*2^61%Y:Nat):Int) (61:Int):=by
  intro k
  induction k with
  | zero =>
    intro i hi
    have:i=61:=by omega
    subst this
    rfl
  | succ k ih =>
    intro i hi
    have hq:X*2^i / Y<2^62:=by
      rw [Nat.div_lt_iff_lt_mul hY]
      have h1:X*2^i<2*Y*2^i:=(Nat.mul_lt_mul_right (Cn i)).2 hX
      have h2:2*2^i≤2^62:=by
        rw [Nat.mul_comm,← Nat.pow_succ]; exact Azl (by decide) (by omega)
      have h3:2*2^i*Y≤2^62*Y:=Azi _ h2
      rw [Nat.mul_right_comm] at h1
      omega
    have hr:X*2^i%Y<Y:=Nat.mod_lt _ hY
    have hd:=Nat.div_add_mod (X*2^i) Y
    have e2:X*2^(i+1)=X*2^i*2:=by rw [Nat.pow_succ,Nat.mul_assoc]
    rw [times.Div.Au,Aq,Ev,em,Ay7 (by omega),Ay6]
    have s1:B5 .u64 ((X*2^i%Y:Nat):Int) (1:Int)=((X*2^i%Y*2:Nat):Int):=by
      have:=Fx (X*2^i%Y) 1 (by decide)
      rw [Azj (a:=X*2^i%Y*2^1) (by omega)] at this
      exact this
    have s2:B5 .u64 ((X*2^i / Y:Nat):Int) (1:Int)=((X*2^i / Y*2^1:Nat):Int):=by
      have:=Fx (X*2^i / Y) 1 (by decide)
      rw [Azj (a:=X*2^i / Y*2^1) (by omega)] at this
      exact this
    have s3:Io .u64 ((X*2^i / Y*2^1:Nat):Int) (1:Int)=((X*2^i / Y*2^1+1:Nat):Int):=Nl (k:=1) (b:=1) (by decide) (by omega)
    have ei:Ab ((i:Int)+1)=((i+1:Nat):Int):=by rw [Am (by omega) (by omega)]; rfl
    rw [s1,s2,s3,ei]
    generalize hq':X*2^i / Y=q at *
    generalize hr':X*2^i%Y=r at *
    have step:∀ c,X*2^i*2=Y*(2*q+c)+(2*r-c*Y)→c*Y≤2*r→2*r<c*Y+Y→X*2^(i+1) / Y=2*q+c∧X*2^(i+1)%Y=2*r-c*Y:=fun c h1 h2 h3=>by
      rw [e2,h1]
      constructor
      · rw [Nat.mul_add_div hY,Nat.div_eq_of_lt (by omega)]; omega
      · rw [Nat.mul_add_mod,Azj (by omega)]
    by_cases hc:Y≤r*2
    · obtain ⟨t1,t2⟩:=step 1 (by rw [Nat.mul_add,Nat.mul_one,Nat.mul_left_comm]; omega) (by omega) (by omega)
      have:=ih (i+1) (by omega)
      rw [t1,t2] at this
      rw [Ay7 (by omega),Ay6,Dt (by omega) (by omega)]
      have e3:((r*2:Nat):Int)-(Y:Int)=((2*r-1*Y:Nat):Int):=by omega
      have e4:q*2^1+1=2*q+1:=by omega
      rw [e3,e4]
      exact this
    · obtain ⟨t1,t2⟩:=step 0 (by rw [Nat.add_zero,Nat.mul_left_comm]; omega) (by omega) (by omega)
      have:=ih (i+1) (by omega)
      rw [t1,t2] at this
      rw [Azb (by omega),Aza]
      have e3:r*2=2*r-0*Y:=by omega
      have e4:q*2^1=2*q+0:=by omega
      rw [e3,e4]
      exact this
theorem As0 {a b:Nat} (ha:Ax a≠0) (hb:Ax b≠0) :
    times.Div.L0 62 62 a b (Bj (Int.tdiv (C3 a) (C3 b))) (Int.tmod (C3 a) (C3 b)) (0:Int) =
      some (.tup [.int .u64 ((Bk (Bu a !=Bu b) (Cm (F0 (Ax a) (Ax b) 120) (A3 a-A3 b-121)):Nat):Int),.int .u8 ((flagsOf (F0 (Ax a) (Ax b) 120) (A3 a-A3 b-121):Nat):Int)]):=by
  obtain ⟨a1,a2,a3,a4⟩:=O4 ha
  obtain ⟨b1,b2,b3,b4⟩:=O4 hb
  have ea:=E2 a
  have eb:=E2 b
  have ma:C3 (a:Int)=((Ax a*2^Cf a:Nat):Int):=rfl
  have mb:C3 (b:Int)=((Ax b*2^Cf b:Nat):Int):=rfl
  have na:Ho (a:Int)=A3 a-Cf a:=rfl
  have nb:Ho (b:Int)=A3 b-Cf b:=rfl
  have sL:=Ahe (Ax a) (Ax b*2^Cf b) (Cf a) 61
  have hpos:0<Ax b*2^Cf b:=by omega
  have hq1:2^53≤Ax a*2^Cf a*2^61 / (Ax b*2^Cf b):=by
    rw [Nat.le_div_iff_mul_le hpos]; omega
  have hqq:2^60≤Ax a*2^Cf a*2^61 / (Ax b*2^Cf b):=by
    rw [Nat.le_div_iff_mul_le hpos]; omega
  have hq2:Ax a*2^Cf a*2^61 / (Ax b*2^Cf b)<2^62:=by
    rw [Nat.div_lt_iff_lt_mul hpos]; omega
  have hstick:F0 (Ax a*2^Cf a) (Ax b*2^Cf b) 61=F0 (Ax a) (Ax b) (61+Cf a-Cf b):=by
    rw [sL]
    have:61+Cf a=61+Cf a-Cf b+Cf b:=by omega
    conv=>lhs; rw [this]
    rw [Aeg]
  have hge1:2^53≤Ax a*2^(61+Cf a-Cf b) / Ax b:=by
    have e1:Ax a*2^Cf a*2^61=Ax a*2^(61+Cf a-Cf b)*2^Cf b:=by
      rw [Nat.mul_assoc,← Nat.pow_add,Nat.mul_assoc,← Nat.pow_add]
      congr 2
      omega
    rw [e1,Nat.mul_div_mul_right _ _ (Cn _)] at hq1
    exact hq1
  have hge2:2^53≤Ax a*2^120 / Ax b:=An6 (t:=53) (by omega) (by omega) (by have:=Fs b; omega) (by omega)
  obtain ⟨s1,s2⟩:=Xz (X:=Ax a) (Y:=Ax b) (K:=61+Cf a-Cf b) (L:=120) (E:=A3 a-Cf a-(A3 b-Cf b)-61-1) (F:=A3 a-A3 b-121) (by omega) hge1 hge2 (by omega)
  have d1:Bj (Int.tdiv (C3 a) (C3 b))=((Ax a*2^Cf a*2^0 / (Ax b*2^Cf b):Nat):Int):=by
    rw [ma,mb,Ke,Nat.pow_zero,Nat.mul_one]
    have h1:=Nat.div_le_self (Ax a*2^Cf a) (Ax b*2^Cf b)
    have h2:Ax a*2^Cf a / (Ax b*2^Cf b)<2^64:=Nat.lt_of_le_of_lt h1 (Nat.lt_trans a3 (by decide))
    generalize Ax a*2^Cf a / (Ax b*2^Cf b)=q at h2 ⊢
    exact Dt (Int.natCast_nonneg q) (by omega)
  have d2:Int.tmod (C3 a) (C3 b)=((Ax a*2^Cf a*2^0%(Ax b*2^Cf b):Nat):Int):=by
    rw [ma,mb,Kd,Nat.pow_zero,Nat.mul_one]
  rw [d1,d2]
  have lp:=Ap3 62 (a:=a) (b:=b) hpos b3 (X:=Ax a*2^Cf a) (by omega) mb 61 0 (by omega)
  refine lp.trans ?_
  rw [times.Div.Au,Aq,na,nb,Azb (by omega),Aza]
  have we:Ab (Ab (A3 a-Cf a-(A3 b-Cf b))-61)=A3 a-Cf a-(A3 b-Cf b)-61:=by
    rw [Am (x:=A3 a-Cf a-(A3 b-Cf b)) (by omega) (by omega),Am (by omega) (by omega)]
  have hne:(((Ax a*2^Cf a*2^61%(Ax b*2^Cf b):Nat):Int) !=(0:Int))=decide (Ax a*2^Cf a*2^61%(Ax b*2^Cf b)≠0):=by
    rw [Azm]; simp only [bne_iff_ne,ne_eq,Azd]; omega
  rw [we,hne]
  have hw:Ph ((Ax a*2^Cf a*2^61 / (Ax b*2^Cf b):Nat):Int) (A3 a-Cf a-(A3 b-Cf b)-61)=true:=Aw.2 ⟨by omega,by omega,by omega,by omega⟩
  have hn:D0 (a:Int)=Bu a:=rfl
  have hn':D0 (b:Int)=Bu b:=rfl
  rw [hw,Ay6,Ac2,hn,hn']
  unfold Fi Fh
  rw [Ay8,Alr _ rfl rfl hq1,hstick,s1,s2]
theorem times.Div.known:times.Div.Kn:=times.Div.Ac (.cons soft.Kind.known (.cons soft.Sign.known (.cons times.nan.known (.cons times.norm.known (.cons times.signed.known (.cons times.wide.known .nil)))))) fun a b hp=>by
  obtain ⟨ha,hb⟩:=Ad.1 hp
  obtain ⟨a,rfl,hn⟩:=Bl ha
  obtain ⟨b,rfl,hm⟩:=Bl hb
  refine ⟨62,times.Div.out [.i a,.i b],[],?_,Wk.G6 (.cons .int (.cons .int .nil))⟩
  have i1:Ag (9218868437227405312:Int)=true:=Cb (n:=9218868437227405312) (by decide)
  have i2:Ag (0:Int)=true:=Cb (n:=0) (by decide)
  rw [times.Div.ev,ha,hb,Ajn,R7,R7,k3,k3,k0,k0,i1,i2,Af0,Aal,Ac2]
  show _=some (DV.tup [.int .u64 (((Ado a b).1:Nat):Int),.int .u8 (((Ado a b).2:Nat):Int)])
  have ea:D0 (a:Int)=Bu a:=rfl
  have eb:D0 (b:Int)=Bu b:=rfl
  rw [ea,eb]
  unfold Ado
  rw [Azc,Ay6,Ay6,Ay6,Ay6,Ay6]
  by_cases h4:An a=4∨An b=4
  · have c4:(decide (An a=4)||decide (An b=4))=true:=by simp; exact h4
    rw [if_pos h4,c4,Ay6]; rfl
  · have c4:(decide (An a=4)||decide (An b=4))=false:=by simp; omega
    rw [if_neg h4,c4,Aza]
    by_cases h1:An a=An b∧(An a=3∨An a=0)
    · have c1:(decide (An a=3)&&decide (An b=3)||decide (An a=0)&&decide (An b=0))=true:=by simp; omega
      rw [if_pos h1,c1,Ay6]; rfl
    · have c1:(decide (An a=3)&&decide (An b=3)||decide (An a=0)&&decide (An b=0))=false:=by simp; omega
      rw [if_neg h1,c1,Aza]
      by_cases h2:An a=3
      · rw [if_pos h2,Ay7 h2,Ay6]; rfl
      · rw [if_neg h2,Azb h2,Aza]
        by_cases h3:An b=3∨An a=0
        · have c3:(decide (An b=3)||decide (An a=0))=true:=by simp; exact h3
          rw [if_pos h3,c3,Ay6]; rfl
        · have c3:(decide (An b=3)||decide (An a=0))=false:=by simp; omega
          rw [if_neg h3,c3,Aza]
          by_cases h5:An b=0
          · rw [if_pos h5,Ay7 h5,Ay6]; rfl
          · rw [if_neg h5,Azb h5,Aza]
            have pa:=Oz (b:=a) (by omega) (by omega) (by omega)
            have pb:=Oz (b:=b) (by omega) (by omega) (by omega)
            have na:Ml (a:Int)=true:=Aw.2 pa
            have nb:Ml (b:Int)=true:=Aw.2 pb
            have hnb:(C3 (b:Int) !=0)=true:=by
              obtain ⟨_,l2,_,_⟩:=O4 pb
              have mb:C3 (b:Int)=((Ax b*2^Cf b:Nat):Int):=rfl
              rw [mb]
              simp only [bne_iff_ne,ne_eq]
              omega
            rw [na,nb,hnb,Azc,Ay6,Ay6,Ay6,Ay6,As0 pa pb]
namespace EqVec
def Ah.Add.A8:List (Nat × Entry):=[(232,sum.Add.spec)]
def Ah.Add.E:Env:=A9 (A7 Ah.Add.A8) (fun _=>false) (fun _=>none) (fun _=>none)
theorem Ah.Add.ev (N:Nat) (a b:Int):Bp Ah.Add.E N Tryz.f226 (Al Tryz.f226) [.int .u64 a,.int .u64 b]=bif (Ag a&&Ag b) then some (.int .u64 (J8 a b)) else none:=by kernel_rfl
abbrev _root_.Go.Proofs.S1.Ah.Add.Kn:=A5 Tryz.prog 226 Ah.Add.spec
theorem Ah.Add.Ac (hk:Ay Tryz.prog Ah.Add.A8) (h:∀ (a b:Int),Ah.Add.pre [.i a,.i b]=true→Ba Ah.Add.E Tryz.f226 [.int .u64 a,.int .u64 b] (Ah.Add.out [.i a,.i b])):Ah.Add.Kn :=
  Aj (A1 hk _ _ _) Tryz.func226 (by kernel_rfl) (by kernel_rfl) h
def Ah.Sub.A8:List (Nat × Entry):=[(207,sum.Sub.spec)]
def Ah.Sub.E:Env:=A9 (A7 Ah.Sub.A8) (fun _=>false) (fun _=>none) (fun _=>none)
theorem Ah.Sub.ev (N:Nat) (a b:Int):Bp Ah.Sub.E N Tryz.f156 (Al Tryz.f156) [.int .u64 a,.int .u64 b]=bif (Ag a&&Ag b) then some (.int .u64 (Db a b)) else none:=by kernel_rfl
abbrev _root_.Go.Proofs.S1.Ah.Sub.Kn:=A5 Tryz.prog 156 Ah.Sub.spec
theorem Ah.Sub.Ac (hk:Ay Tryz.prog Ah.Sub.A8) (h:∀ (a b:Int),Ah.Sub.pre [.i a,.i b]=true→Ba Ah.Sub.E Tryz.f156 [.int .u64 a,.int .u64 b] (Ah.Sub.out [.i a,.i b])):Ah.Sub.Kn :=
  Aj (A1 hk _ _ _) Tryz.func156 (by kernel_rfl) (by kernel_rfl) h
def Ah.Mul.A8:List (Nat × Entry):=[(208,times.Mul.spec)]
def Ah.Mul.E:Env:=A9 (A7 Ah.Mul.A8) (fun _=>false) (fun _=>none) (fun _=>none)
theorem Ah.Mul.ev (N:Nat) (a b:Int):Bp Ah.Mul.E N Tryz.f157 (Al Tryz.f157) [.int .u64 a,.int .u64 b]=bif (Ag a&&Ag b) then some (.int .u64 (D1 a b)) else none:=by kernel_rfl
abbrev _root_.Go.Proofs.S1.Ah.Mul.Kn:=A5 Tryz.prog 157 Ah.Mul.spec
theorem Ah.Mul.Ac (hk:Ay Tryz.prog Ah.Mul.A8) (h:∀ (a b:Int),Ah.Mul.pre [.i a,.i b]=true→Ba Ah.Mul.E Tryz.f157 [.int .u64 a,.int .u64 b] (Ah.Mul.out [.i a,.i b])):Ah.Mul.Kn :=
  Aj (A1 hk _ _ _) Tryz.func157 (by kernel_rfl) (by kernel_rfl) h
def Ah.fit.A8:List (Nat × Entry):=[]
def Ah.fit.E:Env:=A9 (A7 Ah.fit.A8) (fun _=>false) (fun _=>none) (fun _=>none)
theorem Ah.fit.ev (N:Nat) (x y:List Int):Bp Ah.fit.E N Tryz.f225 (Al Tryz.f225) [.ints .arg .u64 x,.ints .arg .u64 y]=some (.bool (bif ((List.length x:Int)==(List.length y:Int)) then (Ep (List.length x:Int) 64) else false)) :=
  Eq.trans (by kernel_rfl)
  (Ar (On ((List.length x:Int)==(List.length y:Int))) (Ar (Mb ((List.length x:Int)==(List.length y:Int))) (Ar (Mb ((List.length x:Int)==(List.length y:Int))) (Ar (Tw ((List.length x:Int)==(List.length y:Int))) rfl))))
abbrev _root_.Go.Proofs.S1.Ah.fit.Kn:=A5 Tryz.prog 225 Ah.fit.spec
theorem Ah.fit.Ac (hk:Ay Tryz.prog Ah.fit.A8) (h:∀ (x y:List Int),Ah.fit.pre [.l x,.l y]=true→Ba Ah.fit.E Tryz.f225 [.ints .arg .u64 x,.ints .arg .u64 y] (Ah.fit.out [.l x,.l y])):Ah.fit.Kn :=
  Aj (A1 hk _ _ _) Tryz.func225 (by kernel_rfl) (by kernel_rfl) h
def Ah.Ig.hint:Nat→Option Bb
  | 0=>some { keep:=[0,1,6,13,14],objs:=[],boxes:=[] }
  | _=>none
def Ah.Ig.A8:List (Nat × Entry):=[(226,Ah.Add.spec),(157,Ah.Mul.spec),(225,Ah.fit.spec)]
def Ah.Ig.E:Env:=A9 (A7 Ah.Ig.A8) (fun _=>false) Ah.Ig.hint (fun _=>none)
def Ah.Ig.L0 (N M:Nat) (x y:List Int) (p6 p14:Int):Option DV:=Bv Ah.Ig.E N Tryz.f189 (Al Tryz.f189) [1,1,1,0,1,0] [] M ⟨Ft 30 [(0,.ints .arg .u64 x),(1,.ints .arg .u64 y),(6,.int .u64 p6),(13,.int .i64 (List.length x:Int)),(14,.int .i64 p14)],[]⟩
theorem Ah.Ig.Au (N M:Nat) (x y:List Int) (p6 p14:Int):Ah.Ig.L0 N (M+1) x y p6 p14=bif (A6 p14 (List.length x:Int)) then bif ((decide (0≤p14))&&(decide (p14<(List.length x:Int)))) then bif ((decide (0≤p14))&&(decide (p14<(List.length y:Int)))) then bif (Ag (List.getD x (Int.toNat p14) 0)&&Ag (List.getD y (Int.toNat p14) 0)) then bif (Ag p6&&Ag (D1 (List.getD x (Int.toNat p14) 0) (List.getD y (Int.toNat p14) 0))) then Ah.Ig.L0 N M x y (J8 p6 (D1 (List.getD x (Int.toNat p14) 0) (List.getD y (Int.toNat p14) 0))) (Ab (p14+1)) else none else none else none else none else some (.tup [.int .u64 p6,.int .i64 0]) :=
  Eq.trans (by kernel_rfl)
  (Ea (Cq (Jw (decide (0≤p14)) (decide (p14<(List.length x:Int)))) (Cq (Jw (decide (0≤p14)) (decide (p14<(List.length y:Int)))) (Cq (Ci (Ag (List.getD x (Int.toNat p14) 0)&&Ag (List.getD y (Int.toNat p14) 0))) (Cq (Ci (Ag p6&&Ag (D1 (List.getD x (Int.toNat p14) 0) (List.getD y (Int.toNat p14) 0)))) rfl rfl) rfl) rfl) rfl) rfl)
theorem Ah.Ig.ev (N:Nat) (x y:List Int):Bp Ah.Ig.E N Tryz.f189 (Al Tryz.f189) [.ints .arg .u64 x,.ints .arg .u64 y]=bif (!(Pc x y)) then some (.tup [.int .u64 0,.int .i64 3]) else Ah.Ig.L0 N N x y 0 0:=by kernel_rfl
abbrev _root_.Go.Proofs.S1.Ah.Ig.Kn:=A5 Tryz.prog 189 Ah.Ig.spec
theorem Ah.Ig.Ac (hk:Ay Tryz.prog Ah.Ig.A8) (h:∀ (x y:List Int),Ah.Ig.pre [.l x,.l y]=true→Ba Ah.Ig.E Tryz.f189 [.ints .arg .u64 x,.ints .arg .u64 y] (Ah.Ig.out [.l x,.l y])):Ah.Ig.Kn :=
  Aj (A1 hk _ _ _) Tryz.func189 (by kernel_rfl) (by kernel_rfl) h
def Ak.F.A8:List (Nat × Entry):=[]
def Ak.F.E:Env:=A9 (A7 Ak.F.A8) (fun _=>false) (fun _=>none) (fun _=>none)
theorem Ak.F.ev (N:Nat) (x:Int):Bp Ak.F.E N Tryz.f159 (Al Tryz.f159) [.int .u64 x]=bif (decide (0≤x)) then some (.fl (Int.toNat x)) else none:=by kernel_rfl
abbrev _root_.Go.Proofs.S1.Ak.F.Kn:=A5 Tryz.prog 159 Ak.F.spec
theorem Ak.F.Ac (hk:Ay Tryz.prog Ak.F.A8) (h:∀ (x:Int),Ak.F.pre [.i x]=true→Ba Ak.F.E Tryz.f159 [.int .u64 x] (Ak.F.out [.i x])):Ak.F.Kn :=
  Aj (A1 hk _ _ _) Tryz.func159 (by kernel_rfl) (by kernel_rfl) h
def Ak.B.A8:List (Nat × Entry):=[(168,Ff.Canon.nb.spec)]
def Ak.B.E:Env:=A9 (A7 Ak.B.A8) (fun _=>false) (fun _=>none) (fun _=>none)
theorem Ak.B.ev (N x:Nat):Bp Ak.B.E N Tryz.f102 (Al Tryz.f102) [.fl x]=some (.int .u64 (Ga x)):=by kernel_rfl
abbrev _root_.Go.Proofs.S1.Ak.B.Kn:=A5 Tryz.prog 102 Ak.B.spec
theorem Ak.B.Ac (hk:Ay Tryz.prog Ak.B.A8) (h:∀ (x:Nat),Ak.B.pre [.f x]=true→Ba Ak.B.E Tryz.f102 [.fl x] (Ak.B.out [.f x])):Ak.B.Kn :=
  Aj (A1 hk _ _ _) Tryz.func102 (by kernel_rfl) (by kernel_rfl) h
def Ak.Add.A8:List (Nat × Entry):=[(102,Ak.B.spec),(159,Ak.F.spec)]
def Ak.Add.E:Env:=A9 (A7 Ak.Add.A8) (fun _=>false) (fun _=>none) (fun _=>none)
theorem Ak.Add.ev (N:Nat) (a b:Int):Bp Ak.Add.E N Tryz.f181 (Al Tryz.f181) [.int .u64 a,.int .u64 b]=bif (Ag a) then bif (Ag b) then some (.int .u64 (Ga ((Ieee.double.add (Int.toNat a) (Int.toNat b)).getD nanBits))) else none else none:=by kernel_rfl
abbrev _root_.Go.Proofs.S1.Ak.Add.Kn:=A5 Tryz.prog 181 Ak.Add.spec
theorem Ak.Add.Ac (hk:Ay Tryz.prog Ak.Add.A8) (h:∀ (a b:Int),Ak.Add.pre [.i a,.i b]=true→Ba Ak.Add.E Tryz.f181 [.int .u64 a,.int .u64 b] (Ak.Add.out [.i a,.i b])):Ak.Add.Kn :=
  Aj (A1 hk _ _ _) Tryz.func181 (by kernel_rfl) (by kernel_rfl) h
def Ak.Sub.A8:List (Nat × Entry):=[(102,Ak.B.spec),(159,Ak.F.spec)]
def Ak.Sub.E:Env:=A9 (A7 Ak.Sub.A8) (fun _=>false) (fun _=>none) (fun _=>none)
theorem Ak.Sub.ev (N:Nat) (a b:Int):Bp Ak.Sub.E N Tryz.f81 (Al Tryz.f81) [.int .u64 a,.int .u64 b]=bif (Ag a) then bif (Ag b) then some (.int .u64 (Ga ((Ieee.double.sub (Int.toNat a) (Int.toNat b)).getD nanBits))) else none else none:=by kernel_rfl
abbrev _root_.Go.Proofs.S1.Ak.Sub.Kn:=A5 Tryz.prog 81 Ak.Sub.spec
theorem Ak.Sub.Ac (hk:Ay Tryz.prog Ak.Sub.A8) (h:∀ (a b:Int),Ak.Sub.pre [.i a,.i b]=true→Ba Ak.Sub.E Tryz.f81 [.int .u64 a,.int .u64 b] (Ak.Sub.out [.i a,.i b])):Ak.Sub.Kn :=
  Aj (A1 hk _ _ _) Tryz.func81 (by kernel_rfl) (by kernel_rfl) h
def Ak.Mul.A8:List (Nat × Entry):=[(102,Ak.B.spec),(159,Ak.F.spec)]
def Ak.Mul.E:Env:=A9 (A7 Ak.Mul.A8) (fun _=>false) (fun _=>none) (fun _=>none)
theorem Ak.Mul.ev (N:Nat) (a b:Int):Bp Ak.Mul.E N Tryz.f82 (Al Tryz.f82) [.int .u64 a,.int .u64 b]=bif (Ag a) then bif (Ag b) then some (.int .u64 (Ga ((Ieee.double.mul (Int.toNat a) (Int.toNat b)).getD nanBits))) else none else none:=by kernel_rfl
abbrev _root_.Go.Proofs.S1.Ak.Mul.Kn:=A5 Tryz.prog 82 Ak.Mul.spec
theorem Ak.Mul.Ac (hk:Ay Tryz.prog Ak.Mul.A8) (h:∀ (a b:Int),Ak.Mul.pre [.i a,.i b]=true→Ba Ak.Mul.E Tryz.f82 [.int .u64 a,.int .u64 b] (Ak.Mul.out [.i a,.i b])):Ak.Mul.Kn :=
  Aj (A1 hk _ _ _) Tryz.func82 (by kernel_rfl) (by kernel_rfl) h
def Ak.Ig.hint:Nat→Option Bb
  | 0=>some { keep:=[0,1,5,6],objs:=[],boxes:=[] }
  | _=>none
def Ak.Ig.A8:List (Nat × Entry):=[(181,Ak.Add.spec),(82,Ak.Mul.spec)]
def Ak.Ig.E:Env:=A9 (A7 Ak.Ig.A8) (fun _=>false) Ak.Ig.hint (fun _=>none)
def Ak.Ig.L0 (N M:Nat) (x y:List Int) (p5 p6:Int):Option DV:=Bv Ak.Ig.E N Tryz.f118 (Al Tryz.f118) [1,1,0,1,0] [] M ⟨Ft 25 [(0,.ints .arg .u64 x),(1,.ints .arg .u64 y),(5,.int .u64 p5),(6,.int .i64 p6)],[]⟩
theorem Ak.Ig.Au (N M:Nat) (x y:List Int) (p5 p6:Int):Ak.Ig.L0 N (M+1) x y p5 p6=bif (A6 p6 (List.length x:Int)) then bif ((decide (0≤p6))&&(decide (p6<(List.length x:Int)))) then bif ((decide (0≤p6))&&(decide (p6<(List.length y:Int)))) then bif (Ag (List.getD x (Int.toNat p6) 0)&&Ag (List.getD y (Int.toNat p6) 0)) then bif (Ag p5&&Ag (D1 (List.getD x (Int.toNat p6) 0) (List.getD y (Int.toNat p6) 0))) then Ak.Ig.L0 N M x y (J8 p5 (D1 (List.getD x (Int.toNat p6) 0) (List.getD y (Int.toNat p6) 0))) (Ab (p6+1)) else none else none else none else none else some (.int .u64 p5) :=
  Eq.trans (by kernel_rfl)
  (Ea (Cq (Jw (decide (0≤p6)) (decide (p6<(List.length x:Int)))) (Cq (Jw (decide (0≤p6)) (decide (p6<(List.length y:Int)))) (Cq (Ci (Ag (List.getD x (Int.toNat p6) 0)&&Ag (List.getD y (Int.toNat p6) 0))) (Cq (Ci (Ag p5&&Ag (D1 (List.getD x (Int.toNat p6) 0) (List.getD y (Int.toNat p6) 0)))) rfl rfl) rfl) rfl) rfl) rfl)
theorem Ak.Ig.ev (N:Nat) (x y:List Int):Bp Ak.Ig.E N Tryz.f118 (Al Tryz.f118) [.ints .arg .u64 x,.ints .arg .u64 y] =
  Ak.Ig.L0 N N x y 0 0:=by kernel_rfl
abbrev _root_.Go.Proofs.S1.Ak.Ig.Kn:=A5 Tryz.prog 118 Ak.Ig.spec
theorem Ak.Ig.Ac (hk:Ay Tryz.prog Ak.Ig.A8) (h:∀ (x y:List Int),Ak.Ig.pre [.l x,.l y]=true→Ba Ak.Ig.E Tryz.f118 [.ints .arg .u64 x,.ints .arg .u64 y] (Ak.Ig.out [.l x,.l y])):Ak.Ig.Kn :=
  Aj (A1 hk _ _ _) Tryz.func118 (by kernel_rfl) (by kernel_rfl) h
def Ak.Fb.hint:Nat→Option Bb
  | 0=>some { keep:=[0,1,5],objs:=[],boxes:=[] }
  | _=>none
def Ak.Fb.A8:List (Nat × Entry):=[]
def Ak.Fb.E:Env:=A9 (A7 Ak.Fb.A8) (fun _=>false) Ak.Fb.hint (fun _=>none)
def Ak.Fb.L0 (N M:Nat) (x y:List Int) (p5:Int):Option DV:=Bv Ak.Fb.E N Tryz.f99 (Al Tryz.f99) [1,1,0,1,0] [] M ⟨Ft 26 [(0,.ints .arg .u64 x),(1,.ints .arg .u64 y),(5,.int .i64 p5)],[]⟩
theorem Ak.Fb.Au (N M:Nat) (x y:List Int) (p5:Int):Ak.Fb.L0 N (M+1) x y p5=bif (A6 p5 (List.length x:Int)) then bif ((decide (0≤p5))&&(decide (p5<(List.length x:Int)))) then bif ((decide (0≤p5))&&(decide (p5<(List.length y:Int)))) then bif ((List.getD x (Int.toNat p5) 0) !=(List.getD y (Int.toNat p5) 0)) then some (.bool false) else Ak.Fb.L0 N M x y (Ab (p5+1)) else none else none else some (.bool true) :=
  Eq.trans (by kernel_rfl)
  (Ea (Cq (Jw (decide (0≤p5)) (decide (p5<(List.length x:Int)))) (Cq (Jw (decide (0≤p5)) (decide (p5<(List.length y:Int)))) rfl rfl) rfl) rfl)
theorem Ak.Fb.ev (N:Nat) (x y:List Int):Bp Ak.Fb.E N Tryz.f99 (Al Tryz.f99) [.ints .arg .u64 x,.ints .arg .u64 y]=bif ((List.length x:Int) !=(List.length y:Int)) then some (.bool false) else Ak.Fb.L0 N N x y 0:=by kernel_rfl
abbrev _root_.Go.Proofs.S1.Ak.Fb.Kn:=A5 Tryz.prog 99 Ak.Fb.spec
theorem Ak.Fb.Ac (hk:Ay Tryz.prog Ak.Fb.A8) (h:∀ (x y:List Int),Ak.Fb.pre [.l x,.l y]=true→Ba Ak.Fb.E Tryz.f99 [.ints .arg .u64 x,.ints .arg .u64 y] (Ak.Fb.out [.l x,.l y])):Ak.Fb.Kn :=
  Aj (A1 hk _ _ _) Tryz.func99 (by kernel_rfl) (by kernel_rfl) h
end EqVec
open Go Go.Den Go.Rnd Go.Proofs Ieee
open EqVec
theorem Un {b:Nat} (h3:An b≠3) (h4:An b≠4):Ax b=0↔An b=0 :=
  ⟨fun h=>by
    by_cases h0:An b=0
    · exact h0
    · exact absurd h (Oz h0 h3 h4),V0⟩
theorem Lb (s:Bool):D4 (Bk s Ee)=Bk s Ee:=G7 s (Nat.le_refl _)
theorem Us {a b:Nat} (ha:a<2^64) (hb:b<2^64) {d:Nat} (hd:An d=4):D4 ((Ieee.double.mul a b).getD d)=(Nr a b).1:=by
  have cd:D4 d=Ql:=if_pos hd
  have ex:∀ s t:Bool,(s ^^ t)=(s !=t):=fun s t=>by cases s<;>cases t<;>rfl
  unfold Format.mul
  rw [Jf ha,Jf hb]
  unfold Nr
  by_cases a4:An a=4
  · rw [if_pos (.inl a4),Hf a4]; exact cd
  · by_cases b4:An b=4
    · rw [if_pos (.inr b4),Hf b4]
      by_cases a3:An a=3
      · rw [Es a3]; exact cd
      · rw [Er a3 a4]; exact cd
    · rw [if_neg (fun h=>h.elim a4 b4)]
      by_cases a3:An a=3
      · rw [if_pos (.inl a3),Es a3]
        by_cases b3:An b=3
        · rw [Es b3,if_neg (by omega)]
          show D4 (Bk (Bu a ^^ Bu b) Ee)=_
          rw [Lb,ex]
        · rw [Er b3 b4]
          have z:=Un b3 b4
          by_cases b0:An b=0
          · have e:(Datum.infinity (Bu a)).product (.number (Bu b) (Ax b) (A3 b))=none:=if_pos (z.2 b0)
            rw [e,if_pos (.inr b0)]; exact cd
          · have e:(Datum.infinity (Bu a)).product (.number (Bu b) (Ax b) (A3 b))=some (.infinity (Bu a ^^ Bu b)):=if_neg (fun k=>b0 (z.1 k))
            rw [e,if_neg (by omega)]
            show D4 (Bk (Bu a ^^ Bu b) Ee)=_
            rw [Lb,ex]
      · rw [Er a3 a4]
        have z:=Un a3 a4
        by_cases b3:An b=3
        · rw [if_pos (.inr b3),Es b3]
          have sw:∀ s t:Bool,(t ^^ s)=(s !=t):=fun s t=>by cases s<;>cases t<;>rfl
          by_cases a0:An a=0
          · have e:(Datum.number (Bu a) (Ax a) (A3 a)).product (.infinity (Bu b))=none:=if_pos (z.2 a0)
            rw [e,if_pos (.inl a0)]; exact cd
          · have e:(Datum.number (Bu a) (Ax a) (A3 a)).product (.infinity (Bu b))=some (.infinity (Bu b ^^ Bu a)):=if_neg (fun k=>a0 (z.1 k))
            rw [e,if_neg (by omega)]
            show D4 (Bk (Bu b ^^ Bu a) Ee)=_
            rw [Lb,sw]
        · rw [Er b3 b4,if_neg (by omega)]
          show D4 (Ieee.double.write (.number (Bu a ^^ Bu b) (Ax a*Ax b) (A3 a+A3 b)))=_
          rw [Mt,G7 _ (Le _ _),ex]
theorem G3:An nanBits=4:=by decide +kernel
theorem Ah.Add.known:Ah.Add.Kn:=Ah.Add.Ac (.cons sum.Add.known .nil) fun a b hp=>by
  have hp:(Ag a&&Ag b)=true:=hp
  refine ⟨0,Ah.Add.out [.i a,.i b],[],?_,.int⟩
  rw [Ah.Add.ev,hp]; rfl
theorem Ah.Sub.known:Ah.Sub.Kn:=Ah.Sub.Ac (.cons sum.Sub.known .nil) fun a b hp=>by
  have hp:(Ag a&&Ag b)=true:=hp
  refine ⟨0,Ah.Sub.out [.i a,.i b],[],?_,.int⟩
  rw [Ah.Sub.ev,hp]; rfl
theorem Ah.Mul.known:Ah.Mul.Kn:=Ah.Mul.Ac (.cons times.Mul.known .nil) fun a b hp=>by
  have hp:(Ag a&&Ag b)=true:=hp
  refine ⟨0,Ah.Mul.out [.i a,.i b],[],?_,.int⟩
  rw [Ah.Mul.ev,hp]; rfl
theorem Apr (x y:List Int):(bif ((List.length x:Int)==(List.length y:Int)) then (Ep (List.length x:Int) (64:Int)) else false)=Pc x y:=by
  unfold Pc
  rw [Ev,Azm]
  by_cases h:x.length=y.length
  · have:((x.length:Int)==(y.length:Int))=true:=by rw [beq_iff_eq]; omega
    rw [this,Ay6,Ay7 h,Bool.true_and,Azd,Azd]; omega
  · have:((x.length:Int)==(y.length:Int))=false:=by rw [beq_eq_false_iff_ne]; omega
    rw [this,Aza,Azb h,Bool.false_and]
theorem Ah.fit.known:Ah.fit.Kn:=Ah.fit.Ac .nil fun x y _=>by
  refine ⟨0,Ah.fit.out [.l x,.l y],[],?_,.bool⟩
  rw [Ah.fit.ev,Apr]; rfl
theorem Sa {x y:List Int}:Pc x y=true↔x.length=y.length∧x.length≤64:=by unfold Pc; simp
theorem Vc {l:List Int} {i:Nat} (h:i<l.length):l.drop i=l.getD i 0::l.drop (i+1):=by
  rw [List.drop_eq_getElem_cons h,Azg,Azn h]; rfl
theorem Agg {x y:List Int} {i:Nat} (s:Nat) (hx:i<x.length) (hy:i<y.length) :
    Adl s (x.drop i) (y.drop i)=Adl (Lc s (Nr (x.getD i 0).toNat (y.getD i 0).toNat).1).1 (x.drop (i+1)) (y.drop (i+1)):=by
  rw [Vc hx,Vc hy]; rfl
theorem Ap2 (N:Nat) {x y:List Int} (hf:Pc x y=true) (hx:Ae x=true) (hy:Ae y=true):∀ (k i F s:Nat),i+k=x.length→k<F→s<2^64 →
    Ah.Ig.L0 N F x y (s:Int) (i:Int)=some (.tup [.int .u64 ((Adl s (x.drop i) (y.drop i):Nat):Int),.int .i64 (0:Int)]):=by
  obtain ⟨h1,h2⟩:=Sa.1 hf
  intro k
  induction k with
  | zero =>
    intro i F s hi hF hs
    obtain ⟨F,rfl⟩:∃ G,F=G+1:=⟨F-1,by omega⟩
    rw [Ah.Ig.Au,Aq,Azb (by omega),Aza,Azk (by omega)]
    rfl
  | succ k ih =>
    intro i F s hi hF hs
    obtain ⟨F,rfl⟩:∃ G,F=G+1:=⟨F-1,by omega⟩
    have c1:decide ((i:Int)<(x.length:Int))=true:=Ay7 (by omega)
    have c2:decide ((i:Int)<(y.length:Int))=true:=Ay7 (by omega)
    have c3:decide ((0:Int)≤(i:Int))=true:=Ay7 (by omega)
    have g1:=Qe hx (show i<x.length by omega)
    have g2:=Qe hy (show i<y.length by omega)
    have em:D1 (x.getD i 0) (y.getD i 0)=(((Nr (x.getD i 0).toNat (y.getD i 0).toNat).1:Nat):Int):=rfl
    have ea:∀ t:Nat,J8 (s:Int) (t:Int)=(((Lc s t).1:Nat):Int):=fun t=>rfl
    rw [Ah.Ig.Au,Aq,c1,c2,c3,Ay8,g1,g2,em,ea,Cb hs,Cb R3,Azc,Ay6,Ay6,Ay6,Ay6,Ay6,Am (by omega) (by omega),Agg s (by omega) (by omega)]
    exact ih (i+1) F _ (by omega) (by omega) (Vi hs R3).1
theorem Ah.Ig.known:Ah.Ig.Kn:=Ah.Ig.Ac (.cons Ah.Add.known (.cons Ah.Mul.known (.cons Ah.fit.known .nil))) fun x y hp=>by
  obtain ⟨h1,hy⟩:=Ad.1 hp
  obtain ⟨hf,hx⟩:=Ad.1 h1
  refine ⟨x.length+1,Ah.Ig.out [.l x,.l y],[],?_,Wk.G6 (.cons .int (.cons .int .nil))⟩
  rw [Ah.Ig.ev,hf,Bool.not_true,Aza]
  exact Ap2 _ hf hx hy x.length 0 _ 0 (by omega) (by omega) (by decide)
theorem Ak.F.known:Ak.F.Kn:=Ak.F.Ac .nil fun x hp=>by
  obtain ⟨n,rfl,hn⟩:=Bl (x:=x) hp
  refine ⟨0,Ak.F.out [.i n],[],?_,.fl⟩
  rw [Ak.F.ev,Ay7 (Int.natCast_nonneg n)]; rfl
theorem Ak.B.known:Ak.B.Kn:=Ak.B.Ac (.cons Ff.Canon.Aon .nil) fun x _=>by
  refine ⟨0,Ak.B.out [.f x],[],?_,.int⟩
  rw [Ak.B.ev]; rfl
theorem Ak.Add.known:Ak.Add.Kn:=Ak.Add.Ac (.cons Ak.B.known (.cons Ak.F.known .nil)) fun a b hp=>by
  obtain ⟨ha,hb⟩:=Ad.1 hp
  obtain ⟨a,rfl,hn⟩:=Bl ha
  obtain ⟨b,rfl,hm⟩:=Bl hb
  refine ⟨0,Ak.Add.out [.i a,.i b],[],?_,.int⟩
  rw [Ak.Add.ev,ha,hb,Ay8,Ay8]
  unfold Ga
  rw [Aqi hn hm G3]; rfl
theorem Ak.Sub.known:Ak.Sub.Kn:=Ak.Sub.Ac (.cons Ak.B.known (.cons Ak.F.known .nil)) fun a b hp=>by
  obtain ⟨ha,hb⟩:=Ad.1 hp
  obtain ⟨a,rfl,hn⟩:=Bl ha
  obtain ⟨b,rfl,hm⟩:=Bl hb
  refine ⟨0,Ak.Sub.out [.i a,.i b],[],?_,.int⟩
  rw [Ak.Sub.ev,ha,hb,Ay8,Ay8]
  unfold Ga
  rw [Ano hn hm G3]; rfl
theorem Ak.Mul.known:Ak.Mul.Kn:=Ak.Mul.Ac (.cons Ak.B.known (.cons Ak.F.known .nil)) fun a b hp=>by
  obtain ⟨ha,hb⟩:=Ad.1 hp
  obtain ⟨a,rfl,hn⟩:=Bl ha
  obtain ⟨b,rfl,hm⟩:=Bl hb
  refine ⟨0,Ak.Mul.out [.i a,.i b],[],?_,.int⟩
  rw [Ak.Mul.ev,ha,hb,Ay8,Ay8]
  unfold Ga
  rw [Us hn hm G3]; rfl
theorem Acq (N:Nat) {x y:List Int} (hf:Pc x y=true) (hx:Ae x=true) (hy:Ae y=true):∀ (k i F s:Nat),i+k=x.length→k<F→s<2^64 →
    Ak.Ig.L0 N F x y (s:Int) (i:Int)=some (.int .u64 ((Adl s (x.drop i) (y.drop i):Nat):Int)):=by
  obtain ⟨h1,h2⟩:=Sa.1 hf
  intro k
  induction k with
  | zero =>
    intro i F s hi hF hs
    obtain ⟨F,rfl⟩:∃ G,F=G+1:=⟨F-1,by omega⟩
    rw [Ak.Ig.Au,Aq,Azb (by omega),Aza,Azk (by omega)]
    rfl
  | succ k ih =>
    intro i F s hi hF hs
    obtain ⟨F,rfl⟩:∃ G,F=G+1:=⟨F-1,by omega⟩
    have c1:decide ((i:Int)<(x.length:Int))=true:=Ay7 (by omega)
    have c2:decide ((i:Int)<(y.length:Int))=true:=Ay7 (by omega)
    have c3:decide ((0:Int)≤(i:Int))=true:=Ay7 (by omega)
    have g1:=Qe hx (show i<x.length by omega)
    have g2:=Qe hy (show i<y.length by omega)
    have em:D1 (x.getD i 0) (y.getD i 0)=(((Nr (x.getD i 0).toNat (y.getD i 0).toNat).1:Nat):Int):=rfl
    have ea:∀ t:Nat,J8 (s:Int) (t:Int)=(((Lc s t).1:Nat):Int):=fun t=>rfl
    rw [Ak.Ig.Au,Aq,c1,c2,c3,Ay8,g1,g2,em,ea,Cb hs,Cb R3,Azc,Ay6,Ay6,Ay6,Ay6,Ay6,Am (by omega) (by omega),Agg s (by omega) (by omega)]
    exact ih (i+1) F _ (by omega) (by omega) (Vi hs R3).1
theorem Ak.Ig.known:Ak.Ig.Kn:=Ak.Ig.Ac (.cons Ak.Add.known (.cons Ak.Mul.known .nil)) fun x y hp=>by
  obtain ⟨h1,hy⟩:=Ad.1 hp
  obtain ⟨hf,hx⟩:=Ad.1 h1
  refine ⟨x.length+1,Ak.Ig.out [.l x,.l y],[],?_,.int⟩
  rw [Ak.Ig.ev]
  exact Acq _ hf hx hy x.length 0 _ 0 (by omega) (by omega) (by decide)
theorem Ak0 (N:Nat) (x y:List Int) (hl:x.length=y.length) (hb:x.length<2^62):∀ (k i F:Nat),i+k=x.length→k<F →
    Ak.Fb.L0 N F x y (i:Int)=some (.bool (Uc (x.drop i) (y.drop i))):=by
  intro k
  induction k with
  | zero =>
    intro i F hi hF
    obtain ⟨F,rfl⟩:∃ G,F=G+1:=⟨F-1,by omega⟩
    rw [Ak.Fb.Au,Aq,Azb (by omega),Aza,Azk (by omega),Azk (by omega)]
    rfl
  | succ k ih =>
    intro i F hi hF
    obtain ⟨F,rfl⟩:∃ G,F=G+1:=⟨F-1,by omega⟩
    have c1:decide ((i:Int)<(x.length:Int))=true:=Ay7 (by omega)
    have c2:decide ((i:Int)<(y.length:Int))=true:=Ay7 (by omega)
    have c3:decide ((0:Int)≤(i:Int))=true:=Ay7 (by omega)
    rw [Ak.Fb.Au,Aq,c1,c2,c3,Ay8,Vc (show i<x.length by omega),Vc (show i<y.length by omega)]
    unfold Uc
    by_cases h:x.getD i 0=y.getD i 0
    · have:(x.getD i 0 !=y.getD i 0)=false:=by rw [h]; simp
      have ih:=ih (i+1) F (by omega) (by omega)
      unfold Uc at ih
      rw [this,Azc,Ay6,Ay6,Ay6,Aza,Am (by omega) (by omega)]
      refine ih.trans ?_
      rw [h]
      simp
    · have:(x.getD i 0 !=y.getD i 0)=true:=by simpa using h
      rw [this,Azc,Ay6,Ay6,Ay6,Ay6]
      simp only [List.cons.injEq,h,false_and,decide_false]
theorem Ak.Fb.known:Ak.Fb.Kn:=Ak.Fb.Ac .nil fun x y hp=>by
  have hp:=Aw.1 (show F1 x=true from hp)
  refine ⟨x.length+1,Ak.Fb.out [.l x,.l y],[],?_,.bool⟩
  rw [Ak.Fb.ev]
  by_cases h:x.length=y.length
  · have:((x.length:Int) !=(y.length:Int))=false:=by rw [h]; simp
    rw [this,Aza]
    exact Ak0 _ x y h (by omega) x.length 0 _ (by omega) (by omega)
  · have:((x.length:Int) !=(y.length:Int))=true:=by simp only [bne_iff_ne,ne_eq]; omega
    rw [this,Ay6]
    have e:Uc x y=false:=Azb fun k=>h (by rw [k])
    show _=some (DV.bool (Uc x y))
    rw [e]
namespace EqMat
def Aa.size.A8:List (Nat × Entry):=[]
def Aa.size.E:Env:=A9 (A7 Aa.size.A8) (fun _=>false) (fun _=>none) (fun _=>none)
theorem Aa.size.ev (N:Nat) (n:Int):Bp Aa.size.E N Tryz.f204 (Al Tryz.f204) [.int .i64 n]=some (.bool (bif (Ep 0 n) then (Ep n 6) else false)) :=
  Eq.trans (by kernel_rfl)
  (Ar (On (Ep 0 n)) (Ar (Mb (Ep 0 n)) (Ar (Tw (Ep 0 n)) rfl)))
abbrev _root_.Go.Proofs.S1.Aa.size.Kn:=A5 Tryz.prog 204 Aa.size.spec
theorem Aa.size.Ac (hk:Ay Tryz.prog Aa.size.A8) (h:∀ (n:Int),Aa.size.pre [.i n]=true→Ba Aa.size.E Tryz.f204 [.int .i64 n] (Aa.size.out [.i n])):Aa.size.Kn :=
  Aj (A1 hk _ _ _) Tryz.func204 (by kernel_rfl) (by kernel_rfl) h
def Aa.Check.A8:List (Nat × Entry):=[(204,Aa.size.spec)]
def Aa.Check.E:Env:=A9 (A7 Aa.Check.A8) (fun _=>false) (fun _=>none) (fun _=>none)
theorem Aa.Check.ev (N:Nat) (r c:Int) (l:List Int):Bp Aa.Check.E N Tryz.f160 (Al Tryz.f160) [.agg [.int .i64 r,.int .i64 c,.ints .arg .u64 l]]=bif (((!(Bn r))||(!(Bn c)))||((List.length l:Int) !=(Ab (r*c)))) then some (.int .i64 1) else some (.int .i64 0) :=
  Eq.trans (by kernel_rfl)
  (Ar (Z6 (Bn r)) (Ar (Qq (Bn r)) (Ar (Qq (Bn r)) (Ar (Qq (Bn r)) (Ar (Ab7 (Bn r)) (Ar (Anl (Bn r) (Bn c)) (Ar (Ahd (Bn r) (Bn c)) (Ar (Ahd (Bn r) (Bn c)) (Ar (Anl (Bn r) (Bn c)) (Ar (Ahd (Bn r) (Bn c)) (Ar (Anl (Bn r) (Bn c)) (Ar (Ahd (Bn r) (Bn c)) (Ar (Awe (Bn r) (Bn c)) (Ar (Awe (Bn r) (Bn c)) (Ar (Awf (Bn r) (Bn c)) (Cq (Ayf (Bn r) (Bn c) ((List.length l:Int) !=(Ab (r*c)))) rfl rfl))))))))))))))))
abbrev _root_.Go.Proofs.S1.Aa.Check.Kn:=A5 Tryz.prog 160 Aa.Check.spec
theorem Aa.Check.Ac (hk:Ay Tryz.prog Aa.Check.A8) (h:∀ (r c:Int) (l:List Int),Aa.Check.pre [.i r,.i c,.l l]=true→Ba Aa.Check.E Tryz.f160 [.agg [.int .i64 r,.int .i64 c,.ints .arg .u64 l]] (Aa.Check.out [.i r,.i c,.l l])):Aa.Check.Kn :=
  Aj (A1 hk _ _ _) Tryz.func160 (by kernel_rfl) (by kernel_rfl) h
def Aa.get.A8:List (Nat × Entry):=[]
def Aa.get.E:Env:=A9 (A7 Aa.get.A8) (fun _=>false) (fun _=>none) (fun _=>none)
theorem Aa.get.ev (N:Nat) (r c:Int) (l:List Int) (i k:Int):Bp Aa.get.E N Tryz.f193 (Al Tryz.f193) [.agg [.int .i64 r,.int .i64 c,.ints .arg .u64 l],.int .i64 i,.int .i64 k]=bif ((decide (0≤(Ab ((Ab (i*c))+k))))&&(decide ((Ab ((Ab (i*c))+k))<(List.length l:Int)))) then some (.int .u64 (List.getD l (Int.toNat (Ab ((Ab (i*c))+k))) 0)) else none:=by kernel_rfl
abbrev _root_.Go.Proofs.S1.Aa.get.Kn:=A5 Tryz.prog 193 Aa.get.spec
theorem Aa.get.Ac (hk:Ay Tryz.prog Aa.get.A8) (h:∀ (r c:Int) (l:List Int) (i k:Int),Aa.get.pre [.i r,.i c,.l l,.i i,.i k]=true→Ba Aa.get.E Tryz.f193 [.agg [.int .i64 r,.int .i64 c,.ints .arg .u64 l],.int .i64 i,.int .i64 k] (Aa.get.out [.i r,.i c,.l l,.i i,.i k])):Aa.get.Kn :=
  Aj (A1 hk _ _ _) Tryz.func193 (by kernel_rfl) (by kernel_rfl) h
def Aa.two.A8:List (Nat × Entry):=[(160,Aa.Check.spec)]
def Aa.two.E:Env:=A9 (A7 Aa.two.A8) (fun _=>false) (fun _=>none) (fun _=>none)
theorem Aa.two.ev (N:Nat) (r c:Int) (l:List Int) (p q:Int) (m:List Int):Bp Aa.two.E N Tryz.f186 (Al Tryz.f186) [.agg [.int .i64 r,.int .i64 c,.ints .arg .u64 l],.agg [.int .i64 p,.int .i64 q,.ints .arg .u64 m]]=bif (((La r c l) !=(0:Int))||((La p q m) !=(0:Int))) then some (.int .i64 1) else some (.int .i64 0) :=
  Eq.trans (by kernel_rfl)
  (Ar (Rs ((La r c l) !=(0:Int))) (Ar (Pg ((La r c l) !=(0:Int))) (Ar (Pg ((La r c l) !=(0:Int))) (Ar (Xb ((La r c l) !=(0:Int))) (Cq (tt5 ((La r c l) !=(0:Int)) ((La p q m) !=(0:Int))) rfl rfl)))))
abbrev _root_.Go.Proofs.S1.Aa.two.Kn:=A5 Tryz.prog 186 Aa.two.spec
theorem Aa.two.Ac (hk:Ay Tryz.prog Aa.two.A8) (h:∀ (r c:Int) (l:List Int) (p q:Int) (m:List Int),Aa.two.pre [.i r,.i c,.l l,.i p,.i q,.l m]=true→Ba Aa.two.E Tryz.f186 [.agg [.int .i64 r,.int .i64 c,.ints .arg .u64 l],.agg [.int .i64 p,.int .i64 q,.ints .arg .u64 m]] (Aa.two.out [.i r,.i c,.l l,.i p,.i q,.l m])):Aa.two.Kn :=
  Aj (A1 hk _ _ _) Tryz.func186 (by kernel_rfl) (by kernel_rfl) h
def Aa.Row.A8:List (Nat × Entry):=[]
def Aa.Row.E:Env:=A9 (A7 Aa.Row.A8) (fun _=>false) (fun _=>none) (fun _=>none)
theorem Aa.Row.ev (N:Nat) (r c:Int) (l:List Int) (i f:Int):Bp Aa.Row.E N Tryz.f190 (Al Tryz.f190) [.agg [.int .i64 r,.int .i64 c,.ints .arg .u64 l],.int .i64 i,.int .i64 f]=bif (((decide ((0:Int)≤(Ab ((Ab (i*c))+f))))&&(decide ((Ab ((Ab (i*c))+f))≤(Ab ((Ab (i+1))*c)))))&&((decide ((0:Int)≤(Ab ((Ab (i+1))*c))))&&(decide ((Ab ((Ab (i+1))*c))≤(List.length l:Int))))) then bif (decide (0+(List.length (List.drop (Int.toNat (Ab ((Ab (i*c))+f))) (List.take (Int.toNat (Ab ((Ab (i+1))*c))) l)))≤Gu)) then some (.ints (.own 22 37) .u64 ([]++(List.drop (Int.toNat (Ab ((Ab (i*c))+f))) (List.take (Int.toNat (Ab ((Ab (i+1))*c))) l)))) else none else none :=
  Eq.trans (by kernel_rfl)
  (Cq (Awd (decide ((0:Int)≤(Ab ((Ab (i*c))+f)))) (decide ((Ab ((Ab (i*c))+f))≤(Ab ((Ab (i+1))*c)))) (decide ((0:Int)≤(Ab ((Ab (i+1))*c)))) (decide ((Ab ((Ab (i+1))*c))≤(List.length l:Int)))) rfl rfl)
abbrev _root_.Go.Proofs.S1.Aa.Row.Kn:=A5 Tryz.prog 190 Aa.Row.spec
theorem Aa.Row.Ac (hk:Ay Tryz.prog Aa.Row.A8) (h:∀ (r c:Int) (l:List Int) (i f:Int),Aa.Row.pre [.i r,.i c,.l l,.i i,.i f]=true→Ba Aa.Row.E Tryz.f190 [.agg [.int .i64 r,.int .i64 c,.ints .arg .u64 l],.int .i64 i,.int .i64 f] (Aa.Row.out [.i r,.i c,.l l,.i i,.i f])):Aa.Row.Kn :=
  Aj (A1 hk _ _ _) Tryz.func190 (by kernel_rfl) (by kernel_rfl) h
def Aa.D8.hint:Nat→Option Bb
  | 0=>some { keep:=[1,3,7,8],objs:=[(0,7,100007,.ints 37 .u64 [])],boxes:=[3] }
  | _=>none
def Aa.D8.A8:List (Nat × Entry):=[(193,Aa.get.spec)]
def Aa.D8.E:Env:=A9 (A7 Aa.D8.A8) (fun _=>false) Aa.D8.hint (fun _=>none)
def Aa.D8.L0 (N M:Nat) (r c:Int) (l:List Int) (k p8:Int) (p7:List Int):Option DV:=Bv Aa.D8.E N Tryz.f191 (Al Tryz.f191) [1,1,0,1,0] [] M ⟨Ft 24 [(1,.int .i64 k),(3,.ptr 3 0 0),(7,.oref 100007),(8,.int .i64 p8)],[(3,false,.box [.int .i64 r,.int .i64 c,.ints .arg .u64 l]),(100007,false,.ints 37 .u64 p7)]⟩
theorem Aa.D8.Au (N M:Nat) (r c:Int) (l:List Int) (k p8:Int) (p7:List Int):Aa.D8.L0 N (M+1) r c l k p8 p7=bif (A6 p8 r) then bif (Cd r c l p8 k) then bif (decide ((List.length p7)+1≤Gu)) then Aa.D8.L0 N M r c l k (Ab (p8+1)) (p7++[(Cj c l p8 k)]) else none else none else some (.ints (.own 100007 37) .u64 p7):=by kernel_rfl
theorem Aa.D8.ev (N:Nat) (r c:Int) (l:List Int) (k f:Int):Bp Aa.D8.E N Tryz.f191 (Al Tryz.f191) [.agg [.int .i64 r,.int .i64 c,.ints .arg .u64 l],.int .i64 k,.int .i64 f] =
  Aa.D8.L0 N N r c l k f []:=by kernel_rfl
abbrev _root_.Go.Proofs.S1.Aa.D8.Kn:=A5 Tryz.prog 191 Aa.D8.spec
theorem Aa.D8.Ac (hk:Ay Tryz.prog Aa.D8.A8) (h:∀ (r c:Int) (l:List Int) (k f:Int),Aa.D8.pre [.i r,.i c,.l l,.i k,.i f]=true→Ba Aa.D8.E Tryz.f191 [.agg [.int .i64 r,.int .i64 c,.ints .arg .u64 l],.int .i64 k,.int .i64 f] (Aa.D8.out [.i r,.i c,.l l,.i k,.i f])):Aa.D8.Kn :=
  Aj (A1 hk _ _ _) Tryz.func191 (by kernel_rfl) (by kernel_rfl) h
def Aa.E0.A8:List (Nat × Entry):=[]
def Aa.E0.E:Env:=A9 (A7 Aa.E0.A8) (fun _=>false) (fun _=>none) (fun _=>none)
theorem Aa.E0.ev (N:Nat) (i k:Int):Bp Aa.E0.E N Tryz.f205 (Al Tryz.f205) [.int .i64 i,.int .i64 k]=some (.int .u64 0):=by kernel_rfl
abbrev _root_.Go.Proofs.S1.Aa.E0.Kn:=A5 Tryz.prog 205 Aa.E0.spec
theorem Aa.E0.Ac (hk:Ay Tryz.prog Aa.E0.A8) (h:∀ (i k:Int),Aa.E0.pre [.i i,.i k]=true→Ba Aa.E0.E Tryz.f205 [.int .i64 i,.int .i64 k] (Aa.E0.out [.i i,.i k])):Aa.E0.Kn :=
  Aj (A1 hk _ _ _) Tryz.func205 (by kernel_rfl) (by kernel_rfl) h
def Aa.Iw.A8:List (Nat × Entry):=[]
def Aa.Iw.E:Env:=A9 (A7 Aa.Iw.A8) (fun _=>false) (fun _=>none) (fun _=>none)
theorem Aa.Iw.ev (N:Nat) (i k:Int):Bp Aa.Iw.E N Tryz.f246 (Al Tryz.f246) [.int .i64 i,.int .i64 k]=bif (i==k) then some (.int .u64 4607182418800017408) else some (.int .u64 0):=by kernel_rfl
abbrev _root_.Go.Proofs.S1.Aa.Iw.Kn:=A5 Tryz.prog 246 Aa.Iw.spec
theorem Aa.Iw.Ac (hk:Ay Tryz.prog Aa.Iw.A8) (h:∀ (i k:Int),Aa.Iw.pre [.i i,.i k]=true→Ba Aa.Iw.E Tryz.f246 [.int .i64 i,.int .i64 k] (Aa.Iw.out [.i i,.i k])):Aa.Iw.Kn :=
  Aj (A1 hk _ _ _) Tryz.func246 (by kernel_rfl) (by kernel_rfl) h
def Aa.Gc.A8:List (Nat × Entry):=[(193,Aa.get.spec)]
def Aa.Gc.E:Env:=A9 (A7 Aa.Gc.A8) (fun _=>false) (fun _=>none) (fun _=>none)
theorem Aa.Gc.ev (N:Nat) (i k:Int) (r c:Int) (l:List Int):Bp Aa.Gc.E N Tryz.f220 (Al Tryz.f220) [.int .i64 i,.int .i64 k,.cellp [.int .i64 r,.int .i64 c,.ints .arg .u64 l]]=bif (Cd r c l k i) then some (.int .u64 (Cj c l k i)) else none:=by kernel_rfl
abbrev _root_.Go.Proofs.S1.Aa.Gc.Kn:=A5 Tryz.prog 220 Aa.Gc.spec
theorem Aa.Gc.Ac (hk:Ay Tryz.prog Aa.Gc.A8) (h:∀ (i k:Int) (r c:Int) (l:List Int),Aa.Gc.pre [.i i,.i k,.i r,.i c,.l l]=true→Ba Aa.Gc.E Tryz.f220 [.int .i64 i,.int .i64 k,.cellp [.int .i64 r,.int .i64 c,.ints .arg .u64 l]] (Aa.Gc.out [.i i,.i k,.i r,.i c,.l l])):Aa.Gc.Kn :=
  Aj (A1 hk _ _ _) Tryz.func220 (by kernel_rfl) (by kernel_rfl) h
def Aa.Ge.A8:List (Nat × Entry):=[(193,Aa.get.spec)]
def Aa.Ge.E:Env:=A9 (A7 Aa.Ge.A8) (fun _=>false) (fun _=>none) (fun _=>none)
theorem Aa.Ge.ev (N:Nat) (i k:Int) (r c:Int) (l:List Int) (x y:Int):Bp Aa.Ge.E N Tryz.f192 (Al Tryz.f192) [.int .i64 i,.int .i64 k,.cellp [.int .i64 r,.int .i64 c,.ints .arg .u64 l],.cellp [.int .i64 x],.cellp [.int .i64 y]]=bif (Cd r c l (Ab (x+i)) (Ab (y+k))) then some (.int .u64 (Cj c l (Ab (x+i)) (Ab (y+k)))) else none:=by kernel_rfl
abbrev _root_.Go.Proofs.S1.Aa.Ge.Kn:=A5 Tryz.prog 192 Aa.Ge.spec
theorem Aa.Ge.Ac (hk:Ay Tryz.prog Aa.Ge.A8) (h:∀ (i k:Int) (r c:Int) (l:List Int) (x y:Int),Aa.Ge.pre [.i i,.i k,.i r,.i c,.l l,.i x,.i y]=true→Ba Aa.Ge.E Tryz.f192 [.int .i64 i,.int .i64 k,.cellp [.int .i64 r,.int .i64 c,.ints .arg .u64 l],.cellp [.int .i64 x],.cellp [.int .i64 y]] (Aa.Ge.out [.i i,.i k,.i r,.i c,.l l,.i x,.i y])):Aa.Ge.Kn :=
  Aj (A1 hk _ _ _) Tryz.func192 (by kernel_rfl) (by kernel_rfl) h
def Aa.Iq.A8:List (Nat × Entry):=[(193,Aa.get.spec),(156,Ah.Sub.spec)]
def Aa.Iq.E:Env:=A9 (A7 Aa.Iq.A8) (fun _=>false) (fun _=>none) (fun _=>none)
theorem Aa.Iq.ev (N:Nat) (i k:Int) (r c:Int) (l:List Int) (p q:Int) (m:List Int):Bp Aa.Iq.E N Tryz.f194 (Al Tryz.f194) [.int .i64 i,.int .i64 k,.cellp [.int .i64 r,.int .i64 c,.ints .arg .u64 l],.cellp [.int .i64 p,.int .i64 q,.ints .arg .u64 m]]=bif (Cd r c l i k) then bif (Cd p q m i k) then bif (Ag (Cj c l i k)&&Ag (Cj q m i k)) then some (.int .u64 (Db (Cj c l i k) (Cj q m i k))) else none else none else none :=
  Eq.trans (by kernel_rfl)
  (Cq (Ci (Cd r c l i k)) (Cq (Ci (Cd p q m i k)) (Cq (Ci (Ag (Cj c l i k)&&Ag (Cj q m i k))) rfl rfl) rfl) rfl)
abbrev _root_.Go.Proofs.S1.Aa.Iq.Kn:=A5 Tryz.prog 194 Aa.Iq.spec
theorem Aa.Iq.Ac (hk:Ay Tryz.prog Aa.Iq.A8) (h:∀ (i k:Int) (r c:Int) (l:List Int) (p q:Int) (m:List Int),Aa.Iq.pre [.i i,.i k,.i r,.i c,.l l,.i p,.i q,.l m]=true→Ba Aa.Iq.E Tryz.f194 [.int .i64 i,.int .i64 k,.cellp [.int .i64 r,.int .i64 c,.ints .arg .u64 l],.cellp [.int .i64 p,.int .i64 q,.ints .arg .u64 m]] (Aa.Iq.out [.i i,.i k,.i r,.i c,.l l,.i p,.i q,.l m])):Aa.Iq.Kn :=
  Aj (A1 hk _ _ _) Tryz.func194 (by kernel_rfl) (by kernel_rfl) h
def Aa.E7.A8:List (Nat × Entry):=[(193,Aa.get.spec)]
def Aa.E7.E:Env:=A9 (A7 Aa.E7.A8) (fun _=>false) (fun _=>none) (fun _=>none)
theorem Aa.E7.ev (N:Nat) (i k:Int) (r c:Int) (l:List Int) (p q:Int) (m:List Int):Bp Aa.E7.E N Tryz.f195 (Al Tryz.f195) [.int .i64 i,.int .i64 k,.cellp [.int .i64 r,.int .i64 c,.ints .arg .u64 l],.cellp [.int .i64 p,.int .i64 q,.ints .arg .u64 m]]=bif (A6 i r) then bif (Cd r c l i k) then some (.int .u64 (Cj c l i k)) else none else bif (Cd p q m (Ab (i-r)) k) then some (.int .u64 (Cj q m (Ab (i-r)) k)) else none:=by kernel_rfl
abbrev _root_.Go.Proofs.S1.Aa.E7.Kn:=A5 Tryz.prog 195 Aa.E7.spec
theorem Aa.E7.Ac (hk:Ay Tryz.prog Aa.E7.A8) (h:∀ (i k:Int) (r c:Int) (l:List Int) (p q:Int) (m:List Int),Aa.E7.pre [.i i,.i k,.i r,.i c,.l l,.i p,.i q,.l m]=true→Ba Aa.E7.E Tryz.f195 [.int .i64 i,.int .i64 k,.cellp [.int .i64 r,.int .i64 c,.ints .arg .u64 l],.cellp [.int .i64 p,.int .i64 q,.ints .arg .u64 m]] (Aa.E7.out [.i i,.i k,.i r,.i c,.l l,.i p,.i q,.l m])):Aa.E7.Kn :=
  Aj (A1 hk _ _ _) Tryz.func195 (by kernel_rfl) (by kernel_rfl) h
def Aa.Is.A8:List (Nat × Entry):=[(191,Aa.D8.spec),(190,Aa.Row.spec),(189,Ah.Ig.spec)]
def Aa.Is.E:Env:=A9 (A7 Aa.Is.A8) (fun _=>false) (fun _=>none) (fun _=>none)
theorem Aa.Is.ev (N:Nat) (i k:Int) (r c:Int) (l:List Int) (p q:Int) (m:List Int):Bp Aa.Is.E N Tryz.f188 (Al Tryz.f188) [.int .i64 i,.int .i64 k,.cellp [.int .i64 r,.int .i64 c,.ints .arg .u64 l],.cellp [.int .i64 p,.int .i64 q,.ints .arg .u64 m]]=bif (Pp r c l i&&decide ((0:Int)=0)) then bif (Hj p q m k&&Dh (0≤(0:Int)∧(0:Int)≤p)) then bif ((Pc (Fw c l i) (Cu q m k 0 (Int.toNat (p-0)))&&Ae (Fw c l i))&&Ae (Cu q m k 0 (Int.toNat (p-0)))) then some (.int .u64 (G1 (Fw c l i) (Cu q m k 0 (Int.toNat (p-0))))) else none else none else none :=
  Eq.trans (by kernel_rfl)
  (Cq (Ci (Pp r c l i&&decide ((0:Int)=0))) (Cq (Ci (Hj p q m k&&Dh (0≤(0:Int)∧(0:Int)≤p))) (Cq (Ci ((Pc (Fw c l i) (Cu q m k 0 (Int.toNat (p-0)))&&Ae (Fw c l i))&&Ae (Cu q m k 0 (Int.toNat (p-0))))) rfl rfl) rfl) rfl)
abbrev _root_.Go.Proofs.S1.Aa.Is.Kn:=A5 Tryz.prog 188 Aa.Is.spec
theorem Aa.Is.Ac (hk:Ay Tryz.prog Aa.Is.A8) (h:∀ (i k:Int) (r c:Int) (l:List Int) (p q:Int) (m:List Int),Aa.Is.pre [.i i,.i k,.i r,.i c,.l l,.i p,.i q,.l m]=true→Ba Aa.Is.E Tryz.f188 [.int .i64 i,.int .i64 k,.cellp [.int .i64 r,.int .i64 c,.ints .arg .u64 l],.cellp [.int .i64 p,.int .i64 q,.ints .arg .u64 m]] (Aa.Is.out [.i i,.i k,.i r,.i c,.l l,.i p,.i q,.l m])):Aa.Is.Kn :=
  Aj (A1 hk _ _ _) Tryz.func188 (by kernel_rfl) (by kernel_rfl) h
end EqMat
open EqMat
theorem Je {a b:Int} (h1:0≤a) (h2:a<20) (h3:0≤b) (h4:b<20):0≤a*b∧a*b<400:=by
  have:=Int.mul_nonneg h1 h3
  have h5:a*b≤19*19:=Int.mul_le_mul (by omega) (by omega) h3 (by omega)
  omega
theorem Aa.size.known:Aa.size.Kn:=Aa.size.Ac .nil fun n _=>by
  refine ⟨0,Aa.size.out [.i n],[],?_,.bool⟩
  have e:(bif (Ep (0:Int) n) then (Ep n (6:Int)) else false)=Bn n:=by
    unfold Bn
    rw [Ev,Ev]
    cases decide (0≤n)<;>rfl
  rw [Aa.size.ev,e]; rfl
theorem Agi (r c:Int) (l:List Int):(((!(Bn r))||(!(Bn c)))||((List.length l:Int) !=(Ab (r*c))))=!(Av r c l):=by
  unfold Av
  cases h1:Bn r with
  | false=>rfl
  | true =>
    cases h2:Bn c with
    | false=>rfl
    | true =>
      obtain ⟨r1,r2⟩:=I1.1 h1
      obtain ⟨c1,c2⟩:=I1.1 h2
      have:=Je (a:=r) (b:=c) r1 (by omega) c1 (by omega)
      rw [Am (by omega) (by omega),Azm]
      simp
theorem Aa.Check.known:Aa.Check.Kn:=Aa.Check.Ac (.cons Aa.size.known .nil) fun r c l _=>by
  refine ⟨0,Aa.Check.out [.i r,.i c,.l l],[],?_,.int⟩
  rw [Aa.Check.ev,Agi]
  show _=some (DV.int .i64 (La r c l))
  unfold La
  cases Av r c l<;>rfl
theorem Hz {c i k:Int} {l:List Int} {R:Int} (h:Cd R c l i k=true):Ab (Ab (i*c)+k)=i*c+k∧0≤i*c+k∧i*c+k<l.length:=by
  obtain ⟨h1,h2,h3,h4,h5,h6,h7,_⟩:=Aw.1 h
  have:=Je h1 (by omega) h5 (by omega)
  rw [Am (x:=i*c) (by omega) (by omega),Am (by omega) (by omega)]
  omega
theorem Aa.get.known:Aa.get.Kn:=Aa.get.Ac .nil fun r c l i k hp=>by
  obtain ⟨e,h1,h2⟩:=Hz (R:=r) (show Cd r c l i k=true from hp)
  refine ⟨0,Aa.get.out [.i r,.i c,.l l,.i i,.i k],[],?_,.int⟩
  rw [Aa.get.ev,e,Ay7 h1,Ay7 h2]
  rfl
theorem Tn (r c:Int) (l:List Int):((La r c l) !=(0:Int))=!(Av r c l):=by
  unfold La
  cases Av r c l<;>rfl
theorem Aa.two.known:Aa.two.Kn:=Aa.two.Ac (.cons Aa.Check.known .nil) fun r c l p q m _=>by
  refine ⟨0,Aa.two.out [.i r,.i c,.l l,.i p,.i q,.l m],[],?_,.int⟩
  rw [Aa.two.ev,Tn,Tn]
  show _=some (DV.int .i64 (Vl r c l p q m))
  unfold Vl
  cases Av r c l<;>cases Av p q m<;>rfl
theorem Aa.Row.known:Aa.Row.Kn:=Aa.Row.Ac .nil fun r c l i f hp=>by
  obtain ⟨h0,hf⟩:=Ad.1 hp
  obtain rfl:=of_decide_eq_true hf
  obtain ⟨hr,hi⟩:=Ad.1 h0
  have hi:=Aw.1 hi
  obtain ⟨R,C,rfl,rfl,r6,c6,hl⟩:=B8 hr
  obtain ⟨I,rfl⟩:∃ k:Nat,i=k:=⟨i.toNat,by omega⟩
  have hm:=Je (a:=(I:Int)) (b:=(C:Int)) (by omega) (by omega) (by omega) (by omega)
  have hm2:=Je (a:=(I:Int)+1) (b:=(C:Int)) (by omega) (by omega) (by omega) (by omega)
  have hle:(I+1)*C≤R*C:=Azi C (by omega)
  have hle2:I*C≤(I+1)*C:=Azi C (by omega)
  have e1:(I:Int)*(C:Int)=((I*C:Nat):Int):=(Azr _ _).symm
  have e2:((I:Int)+1)*(C:Int)=(((I+1)*C:Nat):Int):=by rw [Azr]; rfl
  refine ⟨0,.ints (.own 22 tB) .u64 (Fw (C:Int) l (I:Int)),[22],?_,.drop _ _ _ _ (List.mem_singleton.2 rfl)⟩
  rw [Aa.Row.ev,Am (x:=(I:Int)+1) (by omega) (by omega),Am (x:=(I:Int)*(C:Int)) (by omega) (by omega),Int.add_zero,Am (x:=(I:Int)*(C:Int)) (by omega) (by omega),Am (x:=((I:Int)+1)*(C:Int)) (by omega) (by omega)]
  unfold Fw
  have d1:decide ((0:Int)≤(I:Int)*(C:Int))=true:=Ay7 (by omega)
  have d2:decide ((I:Int)*(C:Int)≤((I:Int)+1)*(C:Int))=true:=Ay7 (by rw [e1,e2]; omega)
  have d3:decide ((0:Int)≤((I:Int)+1)*(C:Int))=true:=Ay7 (by omega)
  have d4:decide (((I:Int)+1)*(C:Int)≤(l.length:Int))=true:=Ay7 (by rw [e2]; omega)
  have d5:decide (0+(List.drop ((I:Int)*(C:Int)).toNat (List.take (((I:Int)+1)*(C:Int)).toNat l)).length≤Gu)=true:=by
    refine Ay7 ?_
    rw [List.length_drop,List.length_take]
    unfold Gu
    omega
  rw [d1,d2,d3,d4,d5]
  rfl
theorem Gr (c b i:Int) (n:Nat) (l:List Int):(Cu c l b i n).length=n:=by unfold Cu; rw [List.length_map,List.length_range]
theorem Aj9 (r c:Int) (l:List Int) (k:Int):Cu c l k 0 (Int.toNat (r-0))=Hk r c l k:=by
  unfold Cu Hk
  rw [Int.sub_zero]
  refine List.map_congr_left fun j _=>?_
  rw [Int.zero_add]
theorem Xt {r:Int} (h:0≤r):Dh (0≤(0:Int)∧0≤r)=true:=Aw.2 ⟨Int.le_refl _,h⟩
theorem Ap8 (N:Nat) {R C K f:Nat} {l:List Int} (r6:R≤6) (c6:C≤6) (hl:l.length=R*C) (hk:K<C):∀ (k i F:Nat),f+i+k=R→k<F →
    Aa.D8.L0 N F (R:Int) (C:Int) l (K:Int) ((f+i:Nat):Int) (Cu (C:Int) l (K:Int) (f:Int) i)=some (.ints (.own 100007 tB) .u64 (Cu (C:Int) l (K:Int) (f:Int) (R-f))):=by
  intro k
  induction k with
  | zero =>
    intro i F hi hF
    obtain ⟨F,rfl⟩:∃ G,F=G+1:=⟨F-1,by omega⟩
    rw [Aa.D8.Au,Aq,Azb (by omega),Aza,show R-f=i by omega]
  | succ k ih =>
    intro i F hi hF
    obtain ⟨F,rfl⟩:∃ G,F=G+1:=⟨F-1,by omega⟩
    have d:decide ((Cu (C:Int) l (K:Int) (f:Int) i).length+1≤Gu)=true:=Ay7 (by rw [Gr]; unfold Gu; omega)
    rw [Aa.D8.Au,Aq,Ay7 (by omega),Ay6,Cy r6 c6 hl (show f+i<R by omega) hk,Ay6,d,Ay6,Am (by omega) (by omega)]
    have:=ih (i+1) F (by omega) (by omega)
    unfold Cu at this ⊢
    rw [List.range_succ,List.map_append] at this
    exact this
theorem Aa.D8.known:Aa.D8.Kn:=Aa.D8.Ac (.cons Aa.get.known .nil) fun r c l k f hp=>by
  obtain ⟨h0,hf⟩:=Ad.1 (show (Hj r c l k&&Dh (0≤f∧f≤r))=true from hp)
  have hf:=Aw.1 hf
  obtain ⟨hr,hi⟩:=Ad.1 h0
  have hi:=Aw.1 hi
  obtain ⟨R,C,rfl,rfl,r6,c6,hl⟩:=B8 hr
  obtain ⟨K,rfl⟩:∃ j:Nat,k=j:=⟨k.toNat,by omega⟩
  obtain ⟨f,rfl⟩:∃ j:Nat,f=j:=⟨f.toNat,by omega⟩
  refine ⟨8,.ints (.own 100007 tB) .u64 (Cu (C:Int) l (K:Int) (f:Int) (R-f)),[100007],?_,?_⟩
  · rw [Aa.D8.ev]
    exact Ap8 8 r6 c6 hl (by omega) (R-f) 0 8 (by omega) (by omega)
  · show Wk _ _ (DV.ints .fresh .u64 (Cu (C:Int) l (K:Int) (f:Int) (Int.toNat ((R:Int)-(f:Int)))))
    rw [show Int.toNat ((R:Int)-(f:Int))=R-f by omega]
    exact .drop _ _ _ _ (List.mem_singleton.2 rfl)
theorem I9 {r c i k:Int} {l:List Int} (h:Av r c l=true) (h1:0≤i) (h2:i<r) (h3:0≤k) (h4:k<c) (R:Int):Cd R c l i k=true:=by
  obtain ⟨R',C,rfl,rfl,r6,c6,hl⟩:=B8 h
  obtain ⟨I,rfl⟩:∃ j:Nat,i=j:=⟨i.toNat,by omega⟩
  obtain ⟨K,rfl⟩:∃ j:Nat,k=j:=⟨k.toNat,by omega⟩
  exact Cy r6 c6 hl (by omega) (by omega)
theorem Aa.E0.known:Aa.E0.Kn:=Aa.E0.Ac .nil fun i k _=>by
  refine ⟨0,Aa.E0.out [.i i,.i k],[],?_,.int⟩
  rw [Aa.E0.ev]; rfl
theorem Aa.Iw.known:Aa.Iw.Kn:=Aa.Iw.Ac .nil fun i k _=>by
  refine ⟨0,Aa.Iw.out [.i i,.i k],[],?_,.int⟩
  rw [Aa.Iw.ev]
  show _=some (DV.int .u64 (Ns i k))
  unfold Ns
  by_cases h:i=k
  · have:(i==k)=true:=by rw [h]; simp
    rw [this,if_pos h]; rfl
  · have:(i==k)=false:=by simpa using h
    rw [this,if_neg h]; rfl
theorem Aa.Gc.known:Aa.Gc.Kn:=Aa.Gc.Ac (.cons Aa.get.known .nil) fun i k r c l hp=>by
  have hp:Cd r c l k i=true:=hp
  refine ⟨0,Aa.Gc.out [.i i,.i k,.i r,.i c,.l l],[],?_,.int⟩
  rw [Aa.Gc.ev,hp]; rfl
theorem Aa.Ge.known:Aa.Ge.Kn:=Aa.Ge.Ac (.cons Aa.get.known .nil) fun i k r c l x y hp=>by
  obtain ⟨h1,h2⟩:=Ad.1 hp
  have h2:=Aw.1 h2
  refine ⟨0,Aa.Ge.out [.i i,.i k,.i r,.i c,.l l,.i x,.i y],[],?_,.int⟩
  rw [Aa.Ge.ev,Am (x:=x+i) (by omega) (by omega),Am (x:=y+k) (by omega) (by omega),h1]; rfl
theorem Aa.E7.known:Aa.E7.Kn:=Aa.E7.Ac (.cons Aa.get.known .nil) fun i k r c l p q m hp=>by
  obtain ⟨h1,h2,h3,h4,h5⟩:=Aw.1 (show M9 r c l p q m i k=true from hp)
  refine ⟨0,Aa.E7.out [.i i,.i k,.i r,.i c,.l l,.i p,.i q,.l m],[],?_,.int⟩
  show _=some (DV.int .u64 (Jm r c l q m i k))
  rw [Aa.E7.ev,Aq,Am (x:=i-r) (by omega) (by omega)]
  unfold Jm
  by_cases h:i<r
  · rw [if_pos h] at h5
    rw [Ay7 h,Ay6,h5,Ay6,if_pos h]
  · rw [if_neg h] at h5
    rw [Azb h,Aza,h5,Ay6,if_neg h]
theorem Pn {R C:Nat} {l:List Int} (hl:l.length=R*C) {I:Nat} (hi:I<R):(Fw (C:Int) l (I:Int)).length=C:=by
  have hle:(I+1)*C≤R*C:=Azi C (by omega)
  have e1:((I:Int)*(C:Int)).toNat=I*C:=by rw [← Azr,Ay8]
  have e2:(((I:Int)+1)*(C:Int)).toNat=(I+1)*C:=by
    have:((I:Int)+1)*(C:Int)=(((I+1)*C:Nat):Int):=by rw [Azr]; rfl
    rw [this,Ay8]
  unfold Fw
  rw [List.length_drop,List.length_take,e1,e2]
  rw [Nat.add_mul,Nat.one_mul] at hle ⊢
  omega
theorem Zt (R:Nat) (C:Int) (l:List Int) (K:Int):(Hk (R:Int) C l K).length=R:=by
  unfold Hk
  rw [List.length_map,List.length_range,Ay8]
theorem Ajf {c i:Int} {l:List Int} (h:Ae l=true):Ae (Fw c l i)=true:=by
  have h:=Aw.1 h
  exact Aw.2 fun x hx=>h x (List.mem_of_mem_take (List.mem_of_mem_drop hx))
theorem Ey {c i k:Int} {l:List Int} (h:Ae l=true):Ag (Cj c l i k)=true:=by
  unfold Cj
  by_cases hj:(i*c+k).toNat<l.length
  · exact Qe h hj
  · rw [Azg,List.getElem?_eq_none (by omega)]
    exact Cb (n:=0) (by decide)
theorem Aka {r c k:Int} {l:List Int} (h:Ae l=true):Ae (Hk r c l k)=true:=by
  refine Aw.2 fun x hx=>?_
  obtain ⟨j,_,rfl⟩:=List.mem_map.1 hx
  exact Ey h
theorem Aa.Is.known:Aa.Is.Kn:=Aa.Is.Ac (.cons Aa.D8.known (.cons Aa.Row.known (.cons Ah.Ig.known .nil))) fun i k r c l p q m hp=>by
  obtain ⟨h1,h2⟩:=Ad.1 (show Tc r c l p q m i k=true from hp)
  obtain ⟨h3,h4⟩:=Ad.1 h1
  obtain ⟨h5,h6⟩:=Ad.1 h2
  obtain ⟨hl,hm⟩:=Ad.1 h5
  obtain rfl:=Aw.1 h6
  obtain ⟨hr,hi⟩:=Ad.1 h3
  have hi:=Aw.1 hi
  obtain ⟨R,C,rfl,rfl,r6,c6,ll⟩:=B8 hr
  obtain ⟨I,rfl⟩:∃ j:Nat,i=j:=⟨i.toNat,by omega⟩
  refine ⟨0,Aa.Is.out [.i I,.i k,.i R,.i C,.l l,.i C,.i q,.l m],[],?_,.int⟩
  have hf:Pc (Fw (C:Int) l (I:Int)) (Hk (C:Int) q m k)=true:=Sa.2 ⟨by rw [Pn ll (by omega),Zt],by rw [Pn ll (by omega)]; omega⟩
  rw [Aa.Is.ev,Aj9,h3,h4,hf,Ajf hl,Aka hm,Xt (by omega)]
  rfl
namespace EqCmp
def compare.Mj.A8:List (Nat × Entry):=[(213,soft.Sign.spec)]
def compare.Mj.E:Env:=A9 (A7 compare.Mj.A8) (fun _=>false) (fun _=>none) (fun _=>none)
theorem compare.Mj.ev (N:Nat) (b:Int):Bp compare.Mj.E N Tryz.f214 (Al Tryz.f214) [.int .u64 b]=bif (Ag b) then bif (D0 b) then some (.int .i64 (Ab (0-(Ab (G4 .u64 b 9223372036854775808))))) else some (.int .i64 (Ab b)) else none:=by kernel_rfl
abbrev _root_.Go.Proofs.S1.compare.Mj.Kn:=A5 Tryz.prog 214 compare.Mj.spec
theorem compare.Mj.Ac (hk:Ay Tryz.prog compare.Mj.A8) (h:∀ (b:Int),compare.Mj.pre [.i b]=true→Ba compare.Mj.E Tryz.f214 [.int .u64 b] (compare.Mj.out [.i b])):compare.Mj.Kn :=
  Aj (A1 hk _ _ _) Tryz.func214 (by kernel_rfl) (by kernel_rfl) h
def compare.Order.A8:List (Nat × Entry):=[(214,compare.Mj.spec),(155,soft.Kind.spec)]
def compare.Order.E:Env:=A9 (A7 compare.Order.A8) (fun _=>false) (fun _=>none) (fun _=>none)
theorem compare.Order.ev (N:Nat) (a b:Int):Bp compare.Order.E N Tryz.f162 (Al Tryz.f162) [.int .u64 a,.int .u64 b]=bif (Ag a) then bif ((Be a)==(4:Int)) then some (.tup [.int .i64 0,.bool false]) else bif (Ag b) then bif ((Be b)==(4:Int)) then some (.tup [.int .i64 0,.bool false]) else bif (Ag a) then bif (Ag b) then bif (A6 (Aa1 a) (Aa1 b)) then some (.tup [.int .i64 (-1:Int),.bool true]) else bif (Ag a) then bif (Ag b) then bif (A6 (Aa1 b) (Aa1 a)) then some (.tup [.int .i64 1,.bool true]) else some (.tup [.int .i64 0,.bool true]) else none else none else none else none else none else none:=by kernel_rfl
abbrev _root_.Go.Proofs.S1.compare.Order.Kn:=A5 Tryz.prog 162 compare.Order.spec
theorem compare.Order.Ac (hk:Ay Tryz.prog compare.Order.A8) (h:∀ (a b:Int),compare.Order.pre [.i a,.i b]=true→Ba compare.Order.E Tryz.f162 [.int .u64 a,.int .u64 b] (compare.Order.out [.i a,.i b])):compare.Order.Kn :=
  Aj (A1 hk _ _ _) Tryz.func162 (by kernel_rfl) (by kernel_rfl) h
def compare.Ms.A8:List (Nat × Entry):=[(162,compare.Order.spec)]
def compare.Ms.E:Env:=A9 (A7 compare.Ms.A8) (fun _=>false) (fun _=>none) (fun _=>none)
theorem compare.Ms.ev (N:Nat) (a b:Int):Bp compare.Ms.E N Tryz.f90 (Al Tryz.f90) [.int .u64 a,.int .u64 b]=bif (Ag a&&Ag b) then some (.bool (A6 (Ta a b) 0)) else none:=by kernel_rfl
abbrev _root_.Go.Proofs.S1.compare.Ms.Kn:=A5 Tryz.prog 90 compare.Ms.spec
theorem compare.Ms.Ac (hk:Ay Tryz.prog compare.Ms.A8) (h:∀ (a b:Int),compare.Ms.pre [.i a,.i b]=true→Ba compare.Ms.E Tryz.f90 [.int .u64 a,.int .u64 b] (compare.Ms.out [.i a,.i b])):compare.Ms.Kn :=
  Aj (A1 hk _ _ _) Tryz.func90 (by kernel_rfl) (by kernel_rfl) h
def compare.H3.A8:List (Nat × Entry):=[]
def compare.H3.E:Env:=A9 (A7 compare.H3.A8) (fun _=>false) (fun _=>none) (fun _=>none)
theorem compare.H3.ev (N:Nat) (a:Int):Bp compare.H3.E N Tryz.f87 (Al Tryz.f87) [.int .u64 a]=some (.int .u64 (G4 .u64 a 9223372036854775808)):=by kernel_rfl
abbrev _root_.Go.Proofs.S1.compare.H3.Kn:=A5 Tryz.prog 87 compare.H3.spec
theorem compare.H3.Ac (hk:Ay Tryz.prog compare.H3.A8) (h:∀ (a:Int),compare.H3.pre [.i a]=true→Ba compare.H3.E Tryz.f87 [.int .u64 a] (compare.H3.out [.i a])):compare.H3.Kn :=
  Aj (A1 hk _ _ _) Tryz.func87 (by kernel_rfl) (by kernel_rfl) h
def compare.Fm.hint:Nat→Option Bb
  | 1=>some { keep:=[0,6,7,8],objs:=[],boxes:=[] }
  | _=>none
def compare.Fm.A8:List (Nat × Entry):=[(155,soft.Kind.spec),(212,soft.Dn.spec),(211,soft.Gp.spec),(213,soft.Sign.spec)]
def compare.Fm.E:Env:=A9 (A7 compare.Fm.A8) (fun _=>false) compare.Fm.hint (fun _=>none)
def compare.Fm.L0 (N M:Nat) (a p6 p7:Int) (p8:Bool):Option DV:=Bv compare.Fm.E N Tryz.f161 (Al Tryz.f161) [1,1,1,1,1,1,0,0] [] M ⟨Ft 59 [(0,.int .u64 a),(6,.int .u64 p6),(7,.int .i64 p7),(8,.bool p8)],[]⟩
theorem compare.Fm.Au (N M:Nat) (a p6 p7:Int) (p8:Bool):compare.Fm.L0 N (M+1) a p6 p7 p8=bif ((A6 p7 (-1130:Int))&&(A6 1 p6)) then compare.Fm.L0 N M a (Dp .u64 p6 1) (Ab (p7+1)) (bif p8 then true else ((E9 .u64 p6 1)==(1:Int))) else bif (A6 p7 (-1130:Int)) then bif (Ag a) then bif (Eo 0 (-1074:Int) true) then some (.tup [.int .u64 (Fi (D0 a) 0 (-1074:Int) true),.int .u8 (Fh (D0 a) 0 (-1074:Int) true)]) else none else none else bif (Ag a) then bif (Eo p6 p7 p8) then some (.tup [.int .u64 (Fi (D0 a) p6 p7 p8),.int .u8 (Fh (D0 a) p6 p7 p8)]) else none else none :=
  Eq.trans (by kernel_rfl)
  (Ar (On (A6 p7 (-1130:Int))) (Ar (Mb (A6 p7 (-1130:Int))) (Ar (Tw (A6 p7 (-1130:Int))) (Cq (tt1 (A6 p7 (-1130:Int)) (A6 1 p6)) (Ar (Rs p8) (Ar (Pg p8) (Ar (Pg p8) (Ar (Xb p8) rfl)))) rfl))))
theorem compare.Fm.ev (N:Nat) (a n:Int):Bp compare.Fm.E N Tryz.f161 (Al Tryz.f161) [.int .u64 a,.int .i64 n]=bif (Ag a) then bif ((Be a)==(4:Int)) then some (.tup [.int .u64 9221120237041090560,.int .u8 0]) else bif ((Be a)==(3:Int)) then bif ((Be a)==(3:Int)) then some (.tup [.int .u64 a,.int .u8 0]) else bif (Ag a) then compare.Fm.L0 N N a (Bw a) (Ab ((Bh a)+(max (-2300:Int) (min 2300 n)))) false else none else bif ((Be a)==(0:Int)) then some (.tup [.int .u64 a,.int .u8 0]) else bif (Ag a) then compare.Fm.L0 N N a (Bw a) (Ab ((Bh a)+(max (-2300:Int) (min 2300 n)))) false else none else none:=by kernel_rfl
abbrev _root_.Go.Proofs.S1.compare.Fm.Kn:=A5 Tryz.prog 161 compare.Fm.spec
theorem compare.Fm.Ac (hk:Ay Tryz.prog compare.Fm.A8) (h:∀ (a n:Int),compare.Fm.pre [.i a,.i n]=true→Ba compare.Fm.E Tryz.f161 [.int .u64 a,.int .i64 n] (compare.Fm.out [.i a,.i n])):compare.Fm.Kn :=
  Aj (A1 hk _ _ _) Tryz.func161 (by kernel_rfl) (by kernel_rfl) h
def Ah.Bt.A8:List (Nat × Entry):=[(161,compare.Fm.spec)]
def Ah.Bt.E:Env:=A9 (A7 Ah.Bt.A8) (fun _=>false) (fun _=>none) (fun _=>none)
theorem Ah.Bt.ev (N:Nat) (a n:Int):Bp Ah.Bt.E N Tryz.f88 (Al Tryz.f88) [.int .u64 a,.int .i64 n]=bif (Dj a n) then some (.int .u64 (By a n)) else none:=by kernel_rfl
abbrev _root_.Go.Proofs.S1.Ah.Bt.Kn:=A5 Tryz.prog 88 Ah.Bt.spec
theorem Ah.Bt.Ac (hk:Ay Tryz.prog Ah.Bt.A8) (h:∀ (a n:Int),Ah.Bt.pre [.i a,.i n]=true→Ba Ah.Bt.E Tryz.f88 [.int .u64 a,.int .i64 n] (Ah.Bt.out [.i a,.i n])):Ah.Bt.Kn :=
  Aj (A1 hk _ _ _) Tryz.func88 (by kernel_rfl) (by kernel_rfl) h
def Ah.Div.A8:List (Nat × Entry):=[(209,times.Div.spec)]
def Ah.Div.E:Env:=A9 (A7 Ah.Div.A8) (fun _=>false) (fun _=>none) (fun _=>none)
theorem Ah.Div.ev (N:Nat) (a b:Int):Bp Ah.Div.E N Tryz.f158 (Al Tryz.f158) [.int .u64 a,.int .u64 b]=bif (Ag a&&Ag b) then some (.int .u64 (Ew a b)) else none:=by kernel_rfl
abbrev _root_.Go.Proofs.S1.Ah.Div.Kn:=A5 Tryz.prog 158 Ah.Div.spec
theorem Ah.Div.Ac (hk:Ay Tryz.prog Ah.Div.A8) (h:∀ (a b:Int),Ah.Div.pre [.i a,.i b]=true→Ba Ah.Div.E Tryz.f158 [.int .u64 a,.int .u64 b] (Ah.Div.out [.i a,.i b])):Ah.Div.Kn :=
  Aj (A1 hk _ _ _) Tryz.func158 (by kernel_rfl) (by kernel_rfl) h
def Ah.Bq.hint:Nat→Option Bb
  | 0=>some { keep:=[3,6,7,8],objs:=[],boxes:=[] }
  | _=>none
def Ah.Bq.A8:List (Nat × Entry):=[(87,compare.H3.spec),(155,soft.Kind.spec)]
def Ah.Bq.E:Env:=A9 (A7 Ah.Bq.A8) (fun _=>false) Ah.Bq.hint (fun _=>none)
def Ah.Bq.L0 (N M:Nat) (x:List Int) (p3 p8:Int):Option DV:=Bv Ah.Bq.E N Tryz.f89 (Al Tryz.f89) [1,1,0,1,0] [] M ⟨Ft 21 [(3,.int .u64 p3),(6,.ints .arg .u64 x),(7,.int .i64 (List.length x:Int)),(8,.int .i64 p8)],[]⟩
theorem Ah.Bq.Au (N M:Nat) (x:List Int) (p3 p8:Int):Ah.Bq.L0 N (M+1) x p3 p8=bif (A6 p8 (List.length x:Int)) then bif ((decide (0≤p8))&&(decide (p8<(List.length x:Int)))) then bif (Ag (List.getD x (Int.toNat p8) 0)) then bif ((Be (List.getD x (Int.toNat p8) 0))==(4:Int)) then some (.int .u64 9221120237041090560) else bif (Ag (List.getD x (Int.toNat p8) 0)) then Ah.Bq.L0 N M x (max p3 (Jq (List.getD x (Int.toNat p8) 0))) (Ab (p8+1)) else none else none else none else some (.int .u64 p3):=by kernel_rfl
theorem Ah.Bq.ev (N:Nat) (x:List Int):Bp Ah.Bq.E N Tryz.f89 (Al Tryz.f89) [.ints .arg .u64 x] =
  Ah.Bq.L0 N N x 0 0:=by kernel_rfl
abbrev _root_.Go.Proofs.S1.Ah.Bq.Kn:=A5 Tryz.prog 89 Ah.Bq.spec
theorem Ah.Bq.Ac (hk:Ay Tryz.prog Ah.Bq.A8) (h:∀ (x:List Int),Ah.Bq.pre [.l x]=true→Ba Ah.Bq.E Tryz.f89 [.ints .arg .u64 x] (Ah.Bq.out [.l x])):Ah.Bq.Kn :=
  Aj (A1 hk _ _ _) Tryz.func89 (by kernel_rfl) (by kernel_rfl) h
def Ah.Finite.hint:Nat→Option Bb
  | 0=>some { keep:=[5,6,7],objs:=[],boxes:=[] }
  | _=>none
def Ah.Finite.A8:List (Nat × Entry):=[(148,soft.Finite.spec)]
def Ah.Finite.E:Env:=A9 (A7 Ah.Finite.A8) (fun _=>false) Ah.Finite.hint (fun _=>none)
def Ah.Finite.L0 (N M:Nat) (x:List Int) (p7:Int):Option DV:=Bv Ah.Finite.E N Tryz.f150 (Al Tryz.f150) [1,0,1,0] [] M ⟨Ft 15 [(5,.ints .arg .u64 x),(6,.int .i64 (List.length x:Int)),(7,.int .i64 p7)],[]⟩
theorem Ah.Finite.Au (N M:Nat) (x:List Int) (p7:Int):Ah.Finite.L0 N (M+1) x p7=bif (A6 p7 (List.length x:Int)) then bif ((decide (0≤p7))&&(decide (p7<(List.length x:Int)))) then bif (Ag (List.getD x (Int.toNat p7) 0)) then bif (!(Da (List.getD x (Int.toNat p7) 0))) then some (.bool false) else Ah.Finite.L0 N M x (Ab (p7+1)) else none else none else some (.bool true):=by kernel_rfl
theorem Ah.Finite.ev (N:Nat) (x:List Int):Bp Ah.Finite.E N Tryz.f150 (Al Tryz.f150) [.ints .arg .u64 x] =
  Ah.Finite.L0 N N x 0:=by kernel_rfl
abbrev _root_.Go.Proofs.S1.Ah.Finite.Kn:=A5 Tryz.prog 150 Ah.Finite.spec
theorem Ah.Finite.Ac (hk:Ay Tryz.prog Ah.Finite.A8) (h:∀ (x:List Int),Ah.Finite.pre [.l x]=true→Ba Ah.Finite.E Tryz.f150 [.ints .arg .u64 x] (Ah.Finite.out [.l x])):Ah.Finite.Kn :=
  Aj (A1 hk _ _ _) Tryz.func150 (by kernel_rfl) (by kernel_rfl) h
def Cv.Check.hint:Nat→Option Bb
  | 0=>some { keep:=[9,10,11],objs:=[],boxes:=[] }
  | _=>none
def Cv.Check.A8:List (Nat × Entry):=[(160,Aa.Check.spec),(148,soft.Finite.spec)]
def Cv.Check.E:Env:=A9 (A7 Cv.Check.A8) (fun _=>false) Cv.Check.hint (fun _=>none)
def Cv.Check.L0 (N M:Nat) (l:List Int) (p11:Int):Option DV:=Bv Cv.Check.E N Tryz.f86 (Al Tryz.f86) [1,1,0,1,0] [] M ⟨Ft 19 [(9,.ints .arg .u64 l),(10,.int .i64 (List.length l:Int)),(11,.int .i64 p11)],[]⟩
theorem Cv.Check.Au (N M:Nat) (l:List Int) (p11:Int):Cv.Check.L0 N (M+1) l p11=bif (A6 p11 (List.length l:Int)) then bif ((decide (0≤p11))&&(decide (p11<(List.length l:Int)))) then bif (Ag (List.getD l (Int.toNat p11) 0)) then bif (!(Da (List.getD l (Int.toNat p11) 0))) then some (.int .i64 4) else Cv.Check.L0 N M l (Ab (p11+1)) else none else none else some (.int .i64 0):=by kernel_rfl
theorem Cv.Check.ev (N:Nat) (r c:Int) (l:List Int):Bp Cv.Check.E N Tryz.f86 (Al Tryz.f86) [.agg [.int .i64 r,.int .i64 c,.ints .arg .u64 l]]=bif ((La r c l) !=(0:Int)) then some (.int .i64 1) else Cv.Check.L0 N N l 0:=by kernel_rfl
abbrev _root_.Go.Proofs.S1.Cv.Check.Kn:=A5 Tryz.prog 86 Cv.Check.spec
theorem Cv.Check.Ac (hk:Ay Tryz.prog Cv.Check.A8) (h:∀ (r c:Int) (l:List Int),Cv.Check.pre [.i r,.i c,.l l]=true→Ba Cv.Check.E Tryz.f86 [.agg [.int .i64 r,.int .i64 c,.ints .arg .u64 l]] (Cv.Check.out [.i r,.i c,.l l])):Cv.Check.Kn :=
  Aj (A1 hk _ _ _) Tryz.func86 (by kernel_rfl) (by kernel_rfl) h
end EqCmp
open EqCmp
theorem R1 {k j:Nat} (h:k≠j):(((k:Nat):Int)==((j:Nat):Int))=false:=by rw [beq_eq_false_iff_ne]; omega
theorem Ab0 (n:Nat):n%2^63<2^63:=Nat.mod_lt _ (by decide)
theorem Z0 {n:Nat} (h:n<2^64):G4 .u64 (n:Int) (9223372036854775808:Int)=((n%2^63:Nat):Int):=by
  have:=Qd (Bu n) (Ab0 n)
  rw [Mv h] at this
  exact this
theorem compare.H3.known:compare.H3.Kn:=compare.H3.Ac .nil fun a hp=>by
  obtain ⟨n,rfl,hn⟩:=Bl (show Ag a=true from hp)
  refine ⟨0,compare.H3.out [.i (n:Int)],[],?_,.int⟩
  show _=some (DV.int .u64 (((n:Int).toNat%2^63:Nat):Int))
  rw [compare.H3.ev,Z0 hn,Ay8]
theorem compare.Mj.known:compare.Mj.Kn:=compare.Mj.Ac (.cons soft.Sign.known .nil) fun b hp=>by
  have hp:Ag b=true:=hp
  obtain ⟨n,rfl,hn⟩:=Bl hp
  refine ⟨0,compare.Mj.out [.i (n:Int)],[],?_,.int⟩
  show _=some (DV.int .i64 (Ib (n:Int).toNat))
  have h63:=Ab0 n
  rw [compare.Mj.ev,hp,Ay6,Z0 hn,Ay8]
  unfold Ib Ih D0
  rw [Ay8]
  cases hs:Bu n with
  | true =>
    rw [Ay6,if_pos rfl,Am (x:=((n%2^63:Nat):Int)) (by omega) (by omega),Am (by omega) (by omega)]
    congr 2; omega
  | false =>
    have:n<2^63:=by
      unfold Bu at hs
      have:=of_decide_eq_false hs
      omega
    rw [Aza,if_neg (by decide),Azj this,Am (by omega) (by omega)]
theorem compare.Order.known:compare.Order.Kn:=compare.Order.Ac (.cons compare.Mj.known (.cons soft.Kind.known .nil)) fun a b hp=>by
  obtain ⟨ha,hb⟩:=Ad.1 (show (Ag a&&Ag b)=true from hp)
  refine ⟨0,compare.Order.out [.i a,.i b],[],?_,Wk.G6 (.cons .int (.cons .bool .nil))⟩
  show _=some (DV.tup [.int .i64 (Afa a.toNat b.toNat),.bool (Aae a.toNat b.toNat)])
  rw [compare.Order.ev,ha,hb,Ay6,Ay6,Ay6,Ay6,Ay6,Ay6,Aq,Aq]
  unfold Afa Aae Aa1 Be
  by_cases h1:An a.toNat=4
  · have e:(((An a.toNat:Nat):Int)==(4:Int))=true:=by rw [h1]; rfl
    rw [e,Ay6,if_pos (.inl h1),Ay7 (.inl h1)]; rfl
  · have e:(((An a.toNat:Nat):Int)==(4:Int))=false:=R1 h1
    rw [e,Aza]
    by_cases h2:An b.toNat=4
    · have e:(((An b.toNat:Nat):Int)==(4:Int))=true:=by rw [h2]; rfl
      rw [e,Ay6,if_pos (.inr h2),Ay7 (.inr h2)]; rfl
    · have e:(((An b.toNat:Nat):Int)==(4:Int))=false:=R1 h2
      have hn:¬ (An a.toNat=4∨An b.toNat=4):=fun h=>h.elim h1 h2
      rw [e,Aza,if_neg hn,Azb hn]
      by_cases h3:Ib a.toNat<Ib b.toNat
      · rw [Ay7 h3,if_pos h3]; rfl
      · rw [Azb h3,if_neg h3]
        by_cases h4:Ib b.toNat<Ib a.toNat
        · rw [Ay7 h4,if_pos h4]; rfl
        · rw [Azb h4,if_neg h4]; rfl
theorem compare.Ms.known:compare.Ms.Kn:=compare.Ms.Ac (.cons compare.Order.known .nil) fun a b hp=>by
  have hp:(Ag a&&Ag b)=true:=hp
  refine ⟨0,compare.Ms.out [.i a,.i b],[],?_,.bool⟩
  rw [compare.Ms.ev,hp,Aq]; rfl
theorem Ahj (N:Nat) {a:Int} (ha:Ag a=true):∀ (k F m:Nat) (e:Int) (b:Bool),e=-1130-(k:Int)→k<F→m<2^53→(m≠0∨b=true)→-9000<e →
    compare.Fm.L0 N F a (m:Int) e b=some (.tup [.int .u64 (((Bk (Bu a.toNat) 0,3):Nat × Nat).1:Nat),.int .u8 (((Bk (Bu a.toNat) 0,3):Nat × Nat).2:Nat)]):=by
  have pre1:Eo (0:Int) (-1074:Int) true=true:=Aw.2 (by omega)
  intro k
  induction k with
  | zero =>
    intro F m e b he hF hm h0 _
    obtain ⟨F,rfl⟩:∃ G,F=G+1:=⟨F-1,by omega⟩
    have hlt:A6 e (-1130:Int)=false:=by rw [Aq]; exact Azb (by omega)
    have Sj:Eo (m:Int) e b=true:=Aw.2 (by omega)
    rw [compare.Fm.Au,hlt,Bool.false_and,Aza,Aza,ha,Ay6,Sj,Ay6]
    unfold Fi Fh D0
    rw [Ay8,Alm _ hm h0 (by omega)]
  | succ k ih =>
    intro F m e b he hF hm h0 hb
    obtain ⟨F,rfl⟩:∃ G,F=G+1:=⟨F-1,by omega⟩
    have hlt:A6 e (-1130:Int)=true:=by rw [Aq]; exact Ay7 (by omega)
    rw [compare.Fm.Au,hlt,Bool.true_and,Ay6,Aq]
    by_cases h1:(1:Int)<(m:Int)
    · have em:Dp .u64 (m:Int) (1:Int)=((m / 2^1:Nat):Int):=H7 .u64 m 1 (by decide)
      rw [Ay7 h1,Ay6,em,Am (by omega) (by omega)]
      exact ih F (m / 2^1) (e+1) _ (by omega) (by omega) (by omega) (.inl (by omega)) (by omega)
    · rw [Azb h1,Aza,ha,Ay6,pre1,Ay6]
      unfold Fi Fh D0
      rw [show (0:Int).toNat=0 from rfl,Aom]
theorem compare.Fm.known:compare.Fm.Kn:=compare.Fm.Ac (.cons soft.Kind.known (.cons soft.Dn.known (.cons soft.Gp.known (.cons soft.Sign.known .nil)))) fun a n hp=>by
  obtain ⟨ha,hn⟩:=Ad.1 (show Dj a n=true from hp)
  have hn:=Aw.1 hn
  refine ⟨3000,compare.Fm.out [.i a,.i n],[],?_,Wk.G6 (.cons .int (.cons .int .nil))⟩
  show _=some (DV.tup [.int .u64 ((Gz a.toNat n).1:Nat),.int .u8 ((Gz a.toNat n).2:Nat)])
  have em:max (-2300:Int) (min (2300:Int) n)=n:=by omega
  have pE:=E2 a.toNat
  have pM:=Fs a.toNat
  have ee:Ab (Bh a+n)=A3 a.toNat+n:=by unfold Bh; exact Am (by omega) (by omega)
  rw [compare.Fm.ev,ha,Ay6,Ay6,em,ee]
  unfold Be
  by_cases h4:An a.toNat=4
  · have e:(((An a.toNat:Nat):Int)==(4:Int))=true:=by rw [h4]; rfl
    rw [e,Ay6]
    unfold Gz
    rw [if_pos h4]; rfl
  have e4:(((An a.toNat:Nat):Int)==(4:Int))=false:=R1 h4
  rw [e4,Aza]
  by_cases h3:An a.toNat=3
  · have e:(((An a.toNat:Nat):Int)==(3:Int))=true:=by rw [h3]; rfl
    obtain ⟨k,rfl,hk⟩:=Bl ha
    rw [e,Ay6,Ay6]
    unfold Gz
    rw [if_neg h4,if_pos (.inl h3),Ay8]; rfl
  have e3:(((An a.toNat:Nat):Int)==(3:Int))=false:=R1 h3
  rw [e3,Aza]
  by_cases h0:An a.toNat=0
  · have e:(((An a.toNat:Nat):Int)==(0:Int))=true:=by rw [h0]; rfl
    obtain ⟨k,rfl,hk⟩:=Bl ha
    rw [e,Ay6]
    unfold Gz
    rw [if_neg h4,if_pos (.inr h0),Ay8]; rfl
  have e0:(((An a.toNat:Nat):Int)==(0:Int))=false:=R1 h0
  have hk:¬ (An a.toNat=3∨An a.toNat=0):=fun h=>h.elim h3 h0
  have hm:Ax a.toNat≠0:=fun h=>h0 ((Hr h3 h4).1 h)
  rw [e0,Aza]
  show compare.Fm.L0 3000 3000 a (Ax a.toNat:Nat) (A3 a.toNat+n) false=_
  by_cases ht:A3 a.toNat+n≤-1130
  · rw [Ahi h4 hk ht]
    exact Ahj 3000 ha (-1130-(A3 a.toNat+n)).toNat 3000 _ _ false (by omega) (by omega) (by omega) (.inl hm) (by omega)
  · have hlt:A6 (A3 a.toNat+n) (-1130:Int)=false:=by rw [Aq]; exact Azb (by omega)
    have Sj:Eo ((Ax a.toNat:Nat):Int) (A3 a.toNat+n) false=true:=Aw.2 ⟨by omega,by omega,by omega,by omega,fun h=>by cases h⟩
    rw [Aky h4 hk,show (3000:Nat)=2999+1 from rfl,compare.Fm.Au,hlt,Bool.false_and,Aza,Aza,ha,Ay6,Sj,Ay6]
    unfold Fi Fh D0
    rw [Ay8,Wt]
theorem Ah.Bt.known:Ah.Bt.Kn:=Ah.Bt.Ac (.cons compare.Fm.known .nil) fun a n hp=>by
  have hp:Dj a n=true:=hp
  refine ⟨0,Ah.Bt.out [.i a,.i n],[],?_,.int⟩
  rw [Ah.Bt.ev,hp]; rfl
theorem Ah.Div.known:Ah.Div.Kn:=Ah.Div.Ac (.cons times.Div.known .nil) fun a b hp=>by
  have hp:(Ag a&&Ag b)=true:=hp
  refine ⟨0,Ah.Div.out [.i a,.i b],[],?_,.int⟩
  rw [Ah.Div.ev,hp]; rfl
theorem Hi {l:List Int} {i:Nat} (h:i<l.length):l.drop i=l.getD i 0::l.drop (i+1):=by
  rw [List.drop_eq_getElem_cons h,Azg,Azn h]; rfl
theorem Ii {l:List Int} (h:Cz l=true):l.length<4611686018427387904∧∀ j,j<l.length→Ag (l.getD j 0)=true:=by
  obtain ⟨h1,h2⟩:=Aw.1 h
  exact ⟨h1,fun j hj=>by rw [Azg,Azn hj]; exact h2 _ (List.getElem_mem hj)⟩
theorem I3 {l:List Int} (h:Ae l=true) (hl:l.length≤1000):Cz l=true:=Aw.2 ⟨by omega,Aw.1 h⟩
theorem Af7 (N:Nat) {x:List Int} (hx:Cz x=true):∀ (k i F:Nat),i+k=x.length→k<F→Ah.Finite.L0 N F x (i:Int)=some (.bool ((x.drop i).all Da)):=by
  obtain ⟨hl,hu⟩:=Ii hx
  intro k
  induction k with
  | zero =>
    intro i F hi hF
    obtain ⟨F,rfl⟩:∃ G,F=G+1:=⟨F-1,by omega⟩
    rw [Ah.Finite.Au,Aq,Azb (by omega),Aza,Azk (by omega)]; rfl
  | succ k ih =>
    intro i F hi hF
    obtain ⟨F,rfl⟩:∃ G,F=G+1:=⟨F-1,by omega⟩
    rw [Ah.Finite.Au,Aq,Ay7 (show (i:Int)<(x.length:Int) by omega),Ay6,Ay7 (show (0:Int)≤(i:Int) by omega),Azc,Ay6,Ay8,hu i (by omega),Ay6,Hi (by omega),List.all_cons]
    cases Da (x.getD i 0) with
    | false=>rfl
    | true =>
      rw [Bool.not_true,Aza,Am (by omega) (by omega),Bool.true_and]
      exact ih (i+1) F (by omega) (by omega)
theorem Ah.Finite.known:Ah.Finite.Kn:=Ah.Finite.Ac (.cons soft.Finite.known .nil) fun x hp=>by
  have hp:Cz x=true:=hp
  refine ⟨x.length+1,Ah.Finite.out [.l x],[],?_,.bool⟩
  show _=some (DV.bool (x.all Da))
  rw [Ah.Finite.ev]
  exact Af7 _ hp x.length 0 (x.length+1) (by omega) (by omega)
theorem Amr {x:List Int} {i:Nat} (h:i<x.length) (m:Nat):Zy (x.drop i) m=if An (x.getD i 0).toNat=4 then Ql else Zy (x.drop (i+1)) (max m (Hl (x.getD i 0).toNat)):=by
  rw [Hi h]; rfl
theorem Adt (N:Nat) {x:List Int} (hx:Cz x=true):∀ (k i F m:Nat),i+k=x.length→k<F→Ah.Bq.L0 N F x (m:Int) (i:Int)=some (.int .u64 ((Zy (x.drop i) m:Nat):Int)):=by
  obtain ⟨hl,hu⟩:=Ii hx
  intro k
  induction k with
  | zero =>
    intro i F m hi hF
    obtain ⟨F,rfl⟩:∃ G,F=G+1:=⟨F-1,by omega⟩
    rw [Ah.Bq.Au,Aq,Azb (by omega),Aza,Azk (by omega)]; rfl
  | succ k ih =>
    intro i F m hi hF
    obtain ⟨F,rfl⟩:∃ G,F=G+1:=⟨F-1,by omega⟩
    rw [Ah.Bq.Au,Aq,Ay7 (show (i:Int)<(x.length:Int) by omega),Ay6,Ay7 (show (0:Int)≤(i:Int) by omega),Azc,Ay6,Ay8,hu i (by omega),Ay6,Amr (by omega)]
    unfold Be
    by_cases h4:An (x.getD i 0).toNat=4
    · have e:(((An (x.getD i 0).toNat:Nat):Int)==(4:Int))=true:=by rw [h4]; rfl
      rw [e,Ay6,if_pos h4]; rfl
    · have e:(((An (x.getD i 0).toNat:Nat):Int)==(4:Int))=false:=R1 h4
      have em:max (m:Int) (Jq (x.getD i 0))=((max m (Hl (x.getD i 0).toNat):Nat):Int):=by unfold Jq; omega
      rw [e,Aza,Ay6,if_neg h4,em,Am (by omega) (by omega)]
      exact ih (i+1) F _ (by omega) (by omega)
theorem Ah.Bq.known:Ah.Bq.Kn:=Ah.Bq.Ac (.cons compare.H3.known (.cons soft.Kind.known .nil)) fun x hp=>by
  have hp:Cz x=true:=hp
  refine ⟨x.length+1,Ah.Bq.out [.l x],[],?_,.int⟩
  rw [Ah.Bq.ev]
  exact Adt _ hp x.length 0 (x.length+1) 0 (by omega) (by omega)
theorem Ads (N:Nat) {x:List Int} (hx:Cz x=true):∀ (k i F:Nat),i+k=x.length→k<F→Cv.Check.L0 N F x (i:Int)=some (.int .i64 (if (x.drop i).all Da=true then 0 else 4)):=by
  obtain ⟨hl,hu⟩:=Ii hx
  intro k
  induction k with
  | zero =>
    intro i F hi hF
    obtain ⟨F,rfl⟩:∃ G,F=G+1:=⟨F-1,by omega⟩
    rw [Cv.Check.Au,Aq,Azb (by omega),Aza,Azk (by omega)]; rfl
  | succ k ih =>
    intro i F hi hF
    obtain ⟨F,rfl⟩:∃ G,F=G+1:=⟨F-1,by omega⟩
    rw [Cv.Check.Au,Aq,Ay7 (show (i:Int)<(x.length:Int) by omega),Ay6,Ay7 (show (0:Int)≤(i:Int) by omega),Azc,Ay6,Ay8,hu i (by omega),Ay6,Hi (by omega),List.all_cons]
    cases Da (x.getD i 0) with
    | false=>rfl
    | true =>
      rw [Bool.not_true,Aza,Am (by omega) (by omega),Bool.true_and]
      exact ih (i+1) F (by omega) (by omega)
theorem Ov {r c:Int} {l:List Int} (h:Av r c l=true):l.length≤36:=by
  obtain ⟨R,C,rfl,rfl,r6,c6,hl⟩:=B8 h
  have:=Nat.mul_le_mul r6 c6
  omega
theorem Cv.Check.known:Cv.Check.Kn:=Cv.Check.Ac (.cons Aa.Check.known (.cons soft.Finite.known .nil)) fun r c l hp=>by
  have hp:Ae l=true:=hp
  refine ⟨l.length+1,Cv.Check.out [.i r,.i c,.l l],[],?_,.int⟩
  show _=some (DV.int .i64 (B1 r c l))
  rw [Cv.Check.ev]
  unfold La B1 Di
  by_cases h:Av r c l=true
  · have:=Ov h
    rw [if_pos h,if_pos h]
    have e:((0:Int) !=(0:Int))=false:=by decide
    rw [e,Aza]
    exact Ads _ (I3 hp (by omega)) l.length 0 (l.length+1) (by omega) (by omega)
  · rw [if_neg h,if_neg h]; rfl
open Go Go.Den Go.Rnd Go.Proofs Ieee
theorem An5 {m n:Nat} (hm:m≠0) (hn:n≠0) (lm:m<2^53) (ln:n<2^53) (i j:Int) :
    Cm (F0 m n (54+n.log2-m.log2)) (i-j-((54+n.log2-m.log2:Nat):Int)-1)=Cm (F0 m n 120) (i-j-121):=by
  have l1:=(Nat.log2_lt hm).2 lm
  have a1:=Nat.log2_self_le hm
  have a2:=Nat.lt_log2_self (n:=n)
  have g1:2^53≤m*2^(54+n.log2-m.log2) / n:=by
    rw [Nat.le_div_iff_mul_le (by omega)]
    have h1:2^m.log2*2^(54+n.log2-m.log2)≤m*2^(54+n.log2-m.log2):=Azi _ a1
    have h2:2^m.log2*2^(54+n.log2-m.log2)=2^53*2^(n.log2+1):=by
      rw [← Nat.pow_add,← Nat.pow_add]
      congr 1
      omega
    have h3:2^53*n≤2^53*2^(n.log2+1):=Nat.mul_le_mul_left _ (by omega)
    omega
  have g2:2^53≤m*2^120 / n:=An6 (t:=53) (by omega) (by omega) ln (by omega)
  exact (Xz (by omega) g1 g2 (by omega)).1
theorem Arr (s t:Bool) (m:Nat) (i:Int) (n:Nat) (j:Int) (hn:n≠0):(Datum.number s m i).quotient 54 (.number t n j) =
    some (.number (s ^^ t) (F0 m n (54+n.log2-m.log2)) (i-j-((54+n.log2-m.log2:Nat):Int)-1)):=by
  have e:(Datum.number s m i).quotient 54 (.number t n j)=some (.number (s ^^ t) (2*(m <<< (54+n.log2-m.log2) / n)+(m <<< (54+n.log2-m.log2)%n !=0).toNat) (i-j-((54+n.log2-m.log2:Nat):Int)-1)):=if_neg hn
  rw [e,Nat.shiftLeft_eq]
  unfold F0
  congr 3
  by_cases h:m*2^(54+n.log2-m.log2)%n=0
  · rw [if_pos h,h]; rfl
  · have:(m*2^(54+n.log2-m.log2)%n !=0)=true:=by simpa using h
    rw [if_neg h,this]; rfl
theorem Ap4 {a b:Nat} (ha:a<2^64) (hb:b<2^64) {d:Nat} (hd:An d=4):D4 ((Ieee.double.div a b).getD d)=(Ado a b).1:=by
  have cd:D4 d=Ql:=if_pos hd
  have ex:∀ s t:Bool,(s ^^ t)=(s !=t):=fun s t=>by cases s<;>cases t<;>rfl
  have e54:Ieee.double.fractionBits+2=54:=rfl
  unfold Format.div
  rw [Jf ha,Jf hb,e54]
  unfold Ado
  by_cases a4:An a=4
  · rw [if_pos (.inl a4),Hf a4]; exact cd
  · by_cases b4:An b=4
    · rw [if_pos (.inr b4),Hf b4]
      by_cases a3:An a=3
      · rw [Es a3]; exact cd
      · rw [Er a3 a4]; exact cd
    · rw [if_neg (fun h=>h.elim a4 b4)]
      by_cases a3:An a=3
      · rw [Es a3]
        by_cases b3:An b=3
        · rw [Es b3,if_pos ⟨by omega,.inl a3⟩]; exact cd
        · rw [Er b3 b4,if_neg (by omega),if_pos a3]
          show D4 (Bk (Bu a ^^ Bu b) Ee)=_
          rw [Go.Proofs.S1.Lb,ex]
      · rw [Er a3 a4]
        by_cases b3:An b=3
        · rw [Es b3,if_neg (by omega),if_neg a3,if_pos (.inl b3)]
          show D4 (Ieee.double.write (.number (Bu a ^^ Bu b) 0 0))=_
          rw [Mt,Ry,ex]
          exact G7 _ (Nat.zero_le _)
        · rw [Er b3 b4]
          have za:=Un a3 a4
          have zb:=Un b3 b4
          by_cases b0:An b=0
          · by_cases a0:An a=0
            · have e:(Datum.number (Bu a) (Ax a) (A3 a)).quotient 54 (.number (Bu b) (Ax b) (A3 b))=none:=by
                show (if Ax b=0 then (if Ax a=0 then none else _) else _)=_
                rw [if_pos (zb.2 b0),if_pos (za.2 a0)]
              rw [e,if_pos ⟨by omega,.inr a0⟩]; exact cd
            · have e:(Datum.number (Bu a) (Ax a) (A3 a)).quotient 54 (.number (Bu b) (Ax b) (A3 b))=some (.infinity (Bu a ^^ Bu b)):=by
                show (if Ax b=0 then (if Ax a=0 then none else _) else _)=_
                rw [if_pos (zb.2 b0),if_neg (fun k=>a0 (za.1 k))]
              rw [e,if_neg (by omega),if_neg a3,if_neg (by omega),if_pos b0]
              show D4 (Bk (Bu a ^^ Bu b) Ee)=_
              rw [Go.Proofs.S1.Lb,ex]
          · have hn:Ax b≠0:=fun k=>b0 (zb.1 k)
            rw [Arr _ _ _ _ _ _ hn,if_neg (by omega),if_neg a3]
            show D4 (Ieee.double.write (.number _ _ _))=_
            rw [Mt,G7 _ (Le _ _),ex]
            by_cases a0:An a=0
            · rw [if_pos (.inr a0),za.2 a0]
              have:F0 0 (Ax b) (54+(Ax b).log2-Nat.log2 0)=0:=by
                unfold F0
                rw [Nat.zero_mul,Nat.zero_div,Nat.zero_mod,if_pos rfl]
              rw [this,Ry]
            · have hm:Ax a≠0:=fun k=>a0 (za.1 k)
              have la:=Fs a
              have lb:=Fs b
              rw [if_neg (by omega),if_neg b0,An5 hm hn (by omega) (by omega)]
end Go.Proofs.S1
namespace Go.Rnd
open Go.Den
theorem Aij {P root rest two:Nat} (h1:P=root*root+rest) (h2:rest≤2*root) (h3:two<4) :
    (4*root+1≤4*rest+two→4*P+two=(2*root+1)*(2*root+1)+(4*rest+two-(4*root+1))∧4*rest+two-(4*root+1)≤2*(2*root+1)) ∧
    (4*rest+two<4*root+1→4*P+two=(2*root)*(2*root)+(4*rest+two)∧4*rest+two≤2*(2*root)):=by
  have e1:(2*root+1)*(2*root+1)=4*(root*root)+(4*root+1):=by
    rw [Nat.add_mul,Nat.mul_add,Nat.mul_add]
    have:2*root*(2*root)=4*(root*root):=by rw [Nat.mul_mul_mul_comm]
    omega
  have e2:(2*root)*(2*root)=4*(root*root):=by rw [Nat.mul_mul_mul_comm]
  constructor
  · intro h; rw [e1]; omega
  · intro h; rw [e2]; omega
theorem Ark {P root rest:Nat} (h1:P=root*root+rest) (h2:rest≤2*root):root=Ti P:=by
  refine Y9 (by omega) ?_
  have:(root+1)*(root+1)=root*root+2*root+1:=by rw [Nat.add_mul,Nat.mul_add]; omega
  omega
end Go.Rnd
namespace Go.Rnd
open Go.Den
theorem Jd:Ag (0:Int)=true:=Cb (n:=0) (by decide)
theorem Aod:Ag Auq=true:=Cb (n:=4607182418800017408) (by decide)
theorem Akz {b:Nat} {n:Int} (h:b<2^64):(Gz b n).1<2^64:=by
  unfold Gz
  by_cases h4:An b=4
  · rw [if_pos h4]; exact (by decide:Ql<2^64)
  rw [if_neg h4]
  by_cases h3:An b=3∨An b=0
  · rw [if_pos h3]; exact h
  rw [if_neg h3]
  exact T5 _ _ _
theorem H6 {b n:Int} (h:Ag b=true):Ag (By b n)=true:=by
  obtain ⟨x,rfl,hx⟩:=Bl h
  exact Cb (Akz (by rw [Ay8]; exact hx))
theorem Se (b:Nat):Hl b<2^63:=Nat.mod_lt _ (by decide)
theorem Zx:∀ (l:List Int) (m:Nat),m<2^64→Zy l m<2^64
  | [],m,h=>h
  | x::l,m,h=>by
    unfold Zy
    split
    · exact (by decide:Ql<2^64)
    · have h2:=Se x.toNat
      exact Zx l _ (by omega)
theorem Oi (l:List Int):Ag (Bf l)=true:=Cb (Zx l 0 (by decide))
theorem Th (x:Int):Ag (Jq x)=true:=Cb (Nat.lt_trans (Se x.toNat) (by decide))
theorem Aiv {a b:Int} (ha:Ag a=true) (hb:Ag b=true):Ag (J8 a b)=true:=by
  obtain ⟨x,rfl,hx⟩:=Bl ha
  obtain ⟨y,rfl,hy⟩:=Bl hb
  exact Cb (Vi (by rw [Ay8]; exact hx) (by rw [Ay8]; exact hy)).1
theorem Yu {a:Int} (ha:Ag a=true):Ag (Dd a)=true:=by
  obtain ⟨x,rfl,hx⟩:=Bl ha
  exact Cb (V4 (by rw [Ay8]; exact hx))
theorem Anr {b:Nat} (h:b<2^64):(Oq b).1<2^64:=by
  by_cases h4:An b=4
  · rw [X1 h4]; exact (by decide:Ql<2^64)
  by_cases h0:An b=0∨b=Ee
  · rw [Oo h4 h0]; exact h
  cases hn:Bu b with
  | true=>rw [T3 h4 h0 hn]; exact (by decide:Ql<2^64)
  | false =>
    unfold Oq
    rw [if_neg h4,if_neg h0,hn,if_neg (by decide)]
    exact Nat.lt_trans (Xf _ _) (by decide)
theorem Ace {a:Int} (ha:Ag a=true):Ag (F8 a)=true:=by
  obtain ⟨x,rfl,hx⟩:=Bl ha
  exact Cb (Anr (by rw [Ay8]; exact hx))
theorem Anq (k:Int):∀ (l:List Int) {s:Int},Ag s=true→Ag (Aem k s l)=true
  | [],_,h=>h
  | _::l,_,h=>Anq k l (Aiv h (Ia _ _))
theorem Xj (x:List Int):Ag (Dq x)=true:=by
  unfold Dq
  split
  · exact Oi x
  · exact H6 (Ace (Anq _ _ Jd))
theorem Awy (x:List Int):Ag (muI x)=true:=by
  unfold muI
  split
  · exact Xj _
  · exact Yu (Xj _)
theorem Atb (x:List Int):Ag (Fl x)=true:=H6 (Awy x)
theorem Ame (b:Nat):-1100≤Amf b∧Amf b≤1100:=by
  unfold Amf
  split
  · have h1:=E2 b
    have h2:=Fs b
    rename_i h
    have h3:(Ax b).log2<53:=by
      by_cases h0:Ax b=0
      · rw [h0]; decide
      · exact (Nat.log2_lt h0).2 h2
    omega
  · omega
theorem Zm (x:Int):-1100≤Bs x∧Bs x≤1100:=Ame x.toNat
theorem Ja {l:List Int} (h:Ae l=true) (j:Nat):Ag (l.getD j 0)=true:=U5 (Aw.1 h) j
theorem Sd {l:List Int} (h:∀ x∈l,Ag x=true):Ae l=true:=Aw.2 h
theorem Ek:Ae []=true:=Sd fun _ h=>by cases h
theorem Agr {α:Type} {l:List α} {f:α→Int} (h:∀ j,Ag (f j)=true):Ae (l.map f)=true:=Sd fun x hx=>by
  obtain ⟨j,_,rfl⟩:=List.mem_map.1 hx
  exact h j
theorem Amu {x:Int} {l:List Int} (h1:Ag x=true) (h2:Ae l=true):Ae (x::l)=true:=Sd fun y hy=>by
  rcases List.mem_cons.1 hy with rfl | hy
  · exact h1
  · exact Aw.1 h2 y hy
theorem N8 {c i k:Int} {l:List Int} (h:Ae l=true):Ag (Cj c l i k)=true:=Ja h _
theorem Aeu (c b i:Int) (n:Nat) (l:List Int):(Cu c l b i n).length=n:=by unfold Cu; rw [List.length_map,List.length_range]
theorem Pl {c b i:Int} {n:Nat} {l:List Int} (h:Ae l=true):Ae (Cu c l b i n)=true:=Agr fun _=>N8 h
theorem An0 (n:Nat) {f:Nat→Int} (h:∀ j,Ag (f j)=true):Ae (Jp n f)=true:=Amu Aod (Agr fun _=>h _)
theorem Po {n:Nat} (h:n≠0) (f:Nat→Int):(Jp n f).length=n:=by
  unfold Jp
  rw [List.length_cons,List.length_map,List.length_range]
  omega
theorem Uu {x:List Int} (h:Ae x=true):Ae (Ck x).1=true∧Ag (Ck x).2.1=true∧Ag (Ck x).2.2.1=true:=by
  have hz:Ae []=true∧Ag (0:Int)=true∧Ag (0:Int)=true:=⟨Ek,Jd,Jd⟩
  unfold Ck
  split
  · exact hz
  split
  · unfold Jz
    split
    · dsimp only
      exact ⟨An0 _ fun _=>Jd,Jd,Ja h 0⟩
    · split
      · dsimp only
        exact ⟨An0 _ fun _=>Adn _ _,Adn _ _,Atb x⟩
      · exact hz
  · exact hz
theorem Ut {x:List Int} (h:(Ck x).2.2.2=0):(Ck x).1.length=x.length:=by
  unfold Ck at h ⊢
  by_cases h1:x.length=0∨64<x.length
  · rw [if_pos h1] at h; exact absurd h (by decide)
  rw [if_neg h1] at h ⊢
  by_cases h2:Di x=true
  · rw [if_pos h2] at h ⊢
    unfold Jz at h ⊢
    by_cases h3:Eh (x.drop 1)=true
    · rw [if_pos h3]; dsimp only; exact Po (n:=x.length) (by omega) _
    · rw [if_neg h3] at h ⊢
      by_cases h4:Da (Fl x)=true
      · rw [if_pos h4]; dsimp only [Sk]; exact Po (n:=x.length) (by omega) _
      · rw [if_neg h4] at h; exact absurd h (by decide)
  · rw [if_neg h2] at h; exact absurd h (by decide)
theorem N4 (x y:List Int):Ag (G1 x y)=true:=Cb (Adk x y 0 (by decide))
theorem Amt {c i k t a b:Int} {l v:List Int} (h:Ae l=true):Ag (Qa c l i k v t a b)=true:=by
  unfold Qa
  split
  · exact Kz (N8 h) (Ia _ _)
  · exact N8 h
theorem Abw {r c:Nat} {l:List Int} (h:Ae l=true) (i k:Int) (v:List Int) (t:Int):Ae (Fo r c l i k v t)=true:=Ez fun _ _=>Amt h
theorem Lh (r c:Nat) (l:List Int) (i k:Int) (v:List Int) (t:Int):(Fo r c l i k v t).length=r*c:=Ca _ _ _
theorem Amm {r c:Nat} {l:List Int} (h:Ae l=true) (j:Nat) {x:Int} (hx:Ag x=true):Ae (Nk r c l j x)=true:=Ez fun a b=>by
  split
  · split
    · exact hx
    · exact Jd
  · exact N8 h
theorem Ny (r c:Nat) (l:List Int) (j:Nat):(Ys r c l j).length=r*c:=by unfold Ys Nk; exact Ca _ _ _
theorem Xk {r c:Nat} {l:List Int} (h:Ae l=true) (j:Nat):Ae (Ys r c l j)=true:=Amm (Abw h _ _ _ _) _ (Uu (Pl h)).2.2
def Aa9 (r:Nat):Nat→List (List Int × Int)→Prop
  | _,[]=>True
  | j,m::ms=>(Ae m.1=true∧Ag m.2=true∧m.1.length+j=r)∧Aa9 r (j+1) ms
theorem Zq (r c:Nat):∀ (n j:Nat) (l:List Int) (x:List Int × List (List Int × Int)),Ae l=true→l.length=r*c→j+n≤r→Nj r c n j l=some x→Ae x.1=true∧x.1.length=r*c∧x.2.length=n∧Aa9 r j x.2
  | 0,j,l,x,ha,hl,_,h=>by
    cases h
    exact ⟨ha,hl,rfl,trivial⟩
  | n+1,j,l,x,ha,hl,hj,h=>by
    unfold Nj at h
    by_cases h1:(Ck (Fk r c l j)).2.2.2=0
    · rw [if_pos h1,Option.map_eq_some_iff] at h
      obtain ⟨y,hy,rfl⟩:=h
      obtain ⟨a1,a2,a3,a4⟩:=Zq r c n (j+1) _ y (Xk ha j) (Ny r c l j) (by omega) hy
      have hm:=Uu (x:=Fk r c l j) (Pl ha)
      have hlen:=Ut h1
      refine ⟨a1,a2,by rw [List.length_cons,a3],⟨hm.1,hm.2.1,?_⟩,a4⟩
      show (Ck (Fk r c l j)).1.length+j=r
      rw [hlen]
      unfold Fk
      rw [Aeu]
      omega
    · rw [if_neg h1] at h; cases h
theorem Vb (n:Nat):Ae (Jj n)=true:=Ez fun i k=>by
  unfold Ns
  split
  · exact Aod
  · exact Jd
theorem Sc (n:Nat):∀ (ms:List (List Int × Int)) (j:Nat) (q:List Int),Ae q=true→q.length=n*n→Ae (Hq n j ms q)=true∧(Hq n j ms q).length=n*n
  | [],_,_,h1,h2=>⟨h1,h2⟩
  | m::ms,j,q,h1,h2=>by
    unfold Hq
    exact ⟨Abw (Sc n ms (j+1) q h1 h2).1 _ _ _ _,Lh _ _ _ _ _ _ _⟩
theorem Asy {r c:Nat} {l:List Int} (h:(Kq r c l).isSome=true):Ae (L8 r c l)=true∧(L8 r c l).length=r*r:=by
  unfold L8
  cases hd:Kq r c l with
  | none=>rw [hd] at h; cases h
  | some x=>exact Sc r x.2 0 _ (Vb r) (by unfold Jj; exact Ca _ _ _)
theorem Asx {r c:Nat} {l:List Int} (ha:Ae l=true) (hl:l.length=r*c) (h:(Kq r c l).isSome=true):Ae (Ix r c l)=true∧(Ix r c l).length=r*c:=by
  unfold Ix
  cases hd:Kq r c l with
  | none=>rw [hd] at h; cases h
  | some x =>
    have hn:Im r c≤r:=by unfold Im; omega
    have:=Zq r c (Im r c) 0 l x ha hl (by omega) hd
    exact ⟨this.1,this.2.1⟩
end Go.Rnd
namespace Go.Proofs.S1
open Go Go.Den Go.Rnd Go.Proofs
set_option maxRecDepth 100000
namespace EqRoot
def root.G9.hint:Nat→Option Bb
  | 0=>some { keep:=[0,4,5,6,14],objs:=[],boxes:=[] }
  | _=>none
def root.G9.A8:List (Nat × Entry):=[]
def root.G9.E:Env:=A9 (A7 root.G9.A8) (fun _=>false) root.G9.hint (fun _=>none)
def root.G9.L0 (N M:Nat) (m p4:Int) (p5 p6 p14:Int):Option DV:=Bv root.G9.E N Tryz.f265 (Al Tryz.f265) [1,1,0,1,0] [] M ⟨Ft 68 [(0,.int .u64 m),(4,.int .u64 p4),(5,.int .u64 p5),(6,.int .u64 p6),(14,.int .i64 p14)],[]⟩
theorem root.G9.Au (N M:Nat) (m p4:Int) (p5 p6 p14:Int):root.G9.L0 N (M+1) m p4 p5 p6 p14=bif (A6 p14 64) then bif (A6 p14 32) then bif (decide (0≤(Ab ((62:Int)-(Ab ((2:Int)*p14)))))) then bif (decide ((Hb (Io .u64 (B5 .u64 p6 2) (E9 .u64 (Dp .u64 m (Ab ((62:Int)-(Ab ((2:Int)*p14))))) 3)) (Io .u64 (B5 .u64 p4 2) 1) 0)≤1)) then bif ((Hb (Io .u64 (B5 .u64 p5 2) (Dp .u64 p6 62)) (Dp .u64 p4 62) (Hb (Io .u64 (B5 .u64 p6 2) (E9 .u64 (Dp .u64 m (Ab ((62:Int)-(Ab ((2:Int)*p14))))) 3)) (Io .u64 (B5 .u64 p4 2) 1) 0))==(0:Int)) then root.G9.L0 N M m (Io .u64 (B5 .u64 p4 1) 1) (Nv (Io .u64 (B5 .u64 p5 2) (Dp .u64 p6 62)) (Dp .u64 p4 62) (Hb (Io .u64 (B5 .u64 p6 2) (E9 .u64 (Dp .u64 m (Ab ((62:Int)-(Ab ((2:Int)*p14))))) 3)) (Io .u64 (B5 .u64 p4 2) 1) 0)) (Nv (Io .u64 (B5 .u64 p6 2) (E9 .u64 (Dp .u64 m (Ab ((62:Int)-(Ab ((2:Int)*p14))))) 3)) (Io .u64 (B5 .u64 p4 2) 1) 0) (Ab (p14+1)) else root.G9.L0 N M m (B5 .u64 p4 1) (Io .u64 (B5 .u64 p5 2) (Dp .u64 p6 62)) (Io .u64 (B5 .u64 p6 2) (E9 .u64 (Dp .u64 m (Ab ((62:Int)-(Ab ((2:Int)*p14))))) 3)) (Ab (p14+1)) else none else none else bif (decide ((Hb (Io .u64 (B5 .u64 p6 2) 0) (Io .u64 (B5 .u64 p4 2) 1) 0)≤1)) then bif ((Hb (Io .u64 (B5 .u64 p5 2) (Dp .u64 p6 62)) (Dp .u64 p4 62) (Hb (Io .u64 (B5 .u64 p6 2) 0) (Io .u64 (B5 .u64 p4 2) 1) 0))==(0:Int)) then root.G9.L0 N M m (Io .u64 (B5 .u64 p4 1) 1) (Nv (Io .u64 (B5 .u64 p5 2) (Dp .u64 p6 62)) (Dp .u64 p4 62) (Hb (Io .u64 (B5 .u64 p6 2) 0) (Io .u64 (B5 .u64 p4 2) 1) 0)) (Nv (Io .u64 (B5 .u64 p6 2) 0) (Io .u64 (B5 .u64 p4 2) 1) 0) (Ab (p14+1)) else root.G9.L0 N M m (B5 .u64 p4 1) (Io .u64 (B5 .u64 p5 2) (Dp .u64 p6 62)) (Io .u64 (B5 .u64 p6 2) 0) (Ab (p14+1)) else none else some (.tup [.int .u64 p4,.bool (bif (p5==(0:Int)) then (p6==(0:Int)) else false)]) :=
  Eq.trans (by kernel_rfl)
  (Ea rfl (Ar (On (p5==(0:Int))) (Ar (Mb (p5==(0:Int))) (Ar (Tw (p5==(0:Int))) rfl))))
theorem root.G9.ev (N:Nat) (m:Int):Bp root.G9.E N Tryz.f265 (Al Tryz.f265) [.int .u64 m] =
  root.G9.L0 N N m 0 0 0 0:=by kernel_rfl
abbrev _root_.Go.Proofs.S1.root.G9.Kn:=A5 Tryz.prog 265 root.G9.spec
theorem root.G9.Ac (hk:Ay Tryz.prog root.G9.A8) (h:∀ (m:Int),root.G9.pre [.i m]=true→Ba root.G9.E Tryz.f265 [.int .u64 m] (root.G9.out [.i m])):root.G9.Kn :=
  Aj (A1 hk _ _ _) Tryz.func265 (by kernel_rfl) (by kernel_rfl) h
def root.Sqrt.hint:Nat→Option Bb
  | 5=>some { keep:=[5,7,9],objs:=[],boxes:=[] }
  | _=>none
def root.Sqrt.A8:List (Nat × Entry):=[(250,C1.B6.spec),(265,root.G9.spec),(155,soft.Kind.spec),(212,soft.Dn.spec),(211,soft.Gp.spec),(213,soft.Sign.spec)]
def root.Sqrt.E:Env:=A9 (A7 root.Sqrt.A8) (fun _=>false) root.Sqrt.hint (fun _=>none)
def root.Sqrt.L0 (N M:Nat) (p5 p7:Int) (p9:Bool):Option DV:=Bv root.Sqrt.E N Tryz.f264 (Al Tryz.f264) [1,1,1,1,1,1,1,1,1,0,0] [] M ⟨Ft 73 [(5,.int .i64 p5),(7,.int .u64 p7),(9,.bool p9)],[]⟩
theorem root.Sqrt.Au (N M:Nat) (p5 p7:Int) (p9:Bool):root.Sqrt.L0 N (M+1) p5 p7 p9=bif (Ep 4611686018427387904 p7) then root.Sqrt.L0 N M (Ab (p5+2)) (Dp .u64 p7 1) (bif p9 then true else ((E9 .u64 p7 1)==(1:Int))) else bif (Eo p7 (Ab ((Ab (Int.tdiv p5 2))-32)) p9) then some (.tup [.int .u64 (Fi false p7 (Ab ((Ab (Int.tdiv p5 2))-32)) p9),.int .u8 (Fh false p7 (Ab ((Ab (Int.tdiv p5 2))-32)) p9)]) else none :=
  Eq.trans (by kernel_rfl)
  (Ea (Ar (Rs p9) (Ar (Pg p9) (Ar (Pg p9) (Ar (Xb p9) rfl)))) rfl)
theorem root.Sqrt.ev (N:Nat) (a:Int):Bp root.Sqrt.E N Tryz.f264 (Al Tryz.f264) [.int .u64 a]=bif (Ag a) then bif ((Be a)==(4:Int)) then some (.tup [.int .u64 9221120237041090560,.int .u8 0]) else bif (Ag a) then bif ((Be a)==(0:Int)) then some (.tup [.int .u64 a,.int .u8 0]) else bif (a==(9218868437227405312:Int)) then some (.tup [.int .u64 a,.int .u8 0]) else bif (Ag a) then bif (D0 a) then some (.tup [.int .u64 9221120237041090560,.int .u8 16]) else bif (Ag a) then bif (Ag (Bw a)) then bif ((Int.tmod (Ab ((Bh a)-(Ab ((64-Fj (Bw a))-2)))) 2) !=(0:Int)) then bif (decide (0≤(Ab ((Ab ((64-Fj (Bw a))-2))-1)))) then bif (Dh (0≤(B5 .u64 (Bw a) (Ab ((Ab ((64-Fj (Bw a))-2))-1)))∧(B5 .u64 (Bw a) (Ab ((Ab ((64-Fj (Bw a))-2))-1)))<9223372036854775808)) then root.Sqrt.L0 N N (Ab ((Bh a)-(Ab ((Ab ((64-Fj (Bw a))-2))-1)))) (Uw (B5 .u64 (Bw a) (Ab ((Ab ((64-Fj (Bw a))-2))-1)))) (!(Ux (B5 .u64 (Bw a) (Ab ((Ab ((64-Fj (Bw a))-2))-1))))) else none else none else bif (decide (0≤(Ab ((64-Fj (Bw a))-2)))) then bif (Dh (0≤(B5 .u64 (Bw a) (Ab ((64-Fj (Bw a))-2)))∧(B5 .u64 (Bw a) (Ab ((64-Fj (Bw a))-2)))<9223372036854775808)) then root.Sqrt.L0 N N (Ab ((Bh a)-(Ab ((64-Fj (Bw a))-2)))) (Uw (B5 .u64 (Bw a) (Ab ((64-Fj (Bw a))-2)))) (!(Ux (B5 .u64 (Bw a) (Ab ((64-Fj (Bw a))-2))))) else none else none else none else none else none else none else none:=by kernel_rfl
abbrev _root_.Go.Proofs.S1.root.Sqrt.Kn:=A5 Tryz.prog 264 root.Sqrt.spec
theorem root.Sqrt.Ac (hk:Ay Tryz.prog root.Sqrt.A8) (h:∀ (a:Int),root.Sqrt.pre [.i a]=true→Ba root.Sqrt.E Tryz.f264 [.int .u64 a] (root.Sqrt.out [.i a])):root.Sqrt.Kn :=
  Aj (A1 hk _ _ _) Tryz.func264 (by kernel_rfl) (by kernel_rfl) h
def Ah.Sqrt.A8:List (Nat × Entry):=[(264,root.Sqrt.spec)]
def Ah.Sqrt.E:Env:=A9 (A7 Ah.Sqrt.A8) (fun _=>false) (fun _=>none) (fun _=>none)
theorem Ah.Sqrt.ev (N:Nat) (a:Int):Bp Ah.Sqrt.E N Tryz.f262 (Al Tryz.f262) [.int .u64 a]=bif (Ag a) then some (.int .u64 (F8 a)) else none:=by kernel_rfl
abbrev _root_.Go.Proofs.S1.Ah.Sqrt.Kn:=A5 Tryz.prog 262 Ah.Sqrt.spec
theorem Ah.Sqrt.Ac (hk:Ay Tryz.prog Ah.Sqrt.A8) (h:∀ (a:Int),Ah.Sqrt.pre [.i a]=true→Ba Ah.Sqrt.E Tryz.f262 [.int .u64 a] (Ah.Sqrt.out [.i a])):Ah.Sqrt.Kn :=
  Aj (A1 hk _ _ _) Tryz.func262 (by kernel_rfl) (by kernel_rfl) h
def compare.L4.A8:List (Nat × Entry):=[(261,C1.Lx.spec),(148,soft.Finite.spec),(155,soft.Kind.spec),(211,soft.Gp.spec)]
def compare.L4.E:Env:=A9 (A7 compare.L4.A8) (fun _=>false) (fun _=>none) (fun _=>none)
theorem compare.L4.ev (N:Nat) (a:Int):Bp compare.L4.E N Tryz.f255 (Al Tryz.f255) [.int .u64 a]=bif (Ag a) then bif ((!(Da a))||(Ag a)) then bif ((!(Da a))||((Be a)==(0:Int))) then some (.int .i64 0) else bif (Ag a) then bif (Ag (Bw a)) then some (.int .i64 (Ab ((Ab ((Fj (Bw a))-1))+(Bh a)))) else none else none else none else none :=
  Eq.trans (by kernel_rfl)
  (Ea (Ar (Z6 (Da a)) (Cq (Anm (Da a) (Ag a)) (Ar (Qq (Da a)) (Ar (Ab7 (Da a)) (Cq (Aub (Da a) ((Be a)==(0:Int))) rfl rfl))) rfl)) rfl)
abbrev _root_.Go.Proofs.S1.compare.L4.Kn:=A5 Tryz.prog 255 compare.L4.spec
theorem compare.L4.Ac (hk:Ay Tryz.prog compare.L4.A8) (h:∀ (a:Int),compare.L4.pre [.i a]=true→Ba compare.L4.E Tryz.f255 [.int .u64 a] (compare.L4.out [.i a])):compare.L4.Kn :=
  Aj (A1 hk _ _ _) Tryz.func255 (by kernel_rfl) (by kernel_rfl) h
def Ah.Norm.hint:Nat→Option Bb
  | 0=>some { keep:=[5,6,25,26,27],objs:=[],boxes:=[] }
  | _=>none
def Ah.Norm.A8:List (Nat × Entry):=[(255,compare.L4.spec),(148,soft.Finite.spec),(226,Ah.Add.spec),(89,Ah.Bq.spec),(157,Ah.Mul.spec),(88,Ah.Bt.spec),(262,Ah.Sqrt.spec)]
def Ah.Norm.E:Env:=A9 (A7 Ah.Norm.A8) (fun _=>false) Ah.Norm.hint (fun _=>none)
def Ah.Norm.L0 (N M:Nat) (x:List Int) (p6 p27:Int):Option DV:=Bv Ah.Norm.E N Tryz.f257 (Al Tryz.f257) [1,1,1,1,1,1,0,1,0] [] M ⟨Ft 45 [(5,.int .i64 (Bs (Bf x))),(6,.int .u64 p6),(25,.ints .arg .u64 x),(26,.int .i64 (List.length x:Int)),(27,.int .i64 p27)],[]⟩
theorem Ah.Norm.Au (N M:Nat) (x:List Int) (p6 p27:Int):Ah.Norm.L0 N (M+1) x p6 p27=bif (A6 p27 (List.length x:Int)) then bif ((decide (0≤p27))&&(decide (p27<(List.length x:Int)))) then bif (Dj (List.getD x (Int.toNat p27) 0) (Ab (0-(Bs (Bf x))))) then bif (Ag (By (List.getD x (Int.toNat p27) 0) (Ab (0-(Bs (Bf x)))))&&Ag (By (List.getD x (Int.toNat p27) 0) (Ab (0-(Bs (Bf x)))))) then bif (Ag p6&&Ag (D1 (By (List.getD x (Int.toNat p27) 0) (Ab (0-(Bs (Bf x))))) (By (List.getD x (Int.toNat p27) 0) (Ab (0-(Bs (Bf x))))))) then Ah.Norm.L0 N M x (J8 p6 (D1 (By (List.getD x (Int.toNat p27) 0) (Ab (0-(Bs (Bf x))))) (By (List.getD x (Int.toNat p27) 0) (Ab (0-(Bs (Bf x))))))) (Ab (p27+1)) else none else none else none else none else bif (Ag p6) then bif (Dj (F8 p6) (Bs (Bf x))) then some (.tup [.int .u64 (By (F8 p6) (Bs (Bf x))),.int .i64 0]) else none else none:=by kernel_rfl
theorem Ah.Norm.ev (N:Nat) (x:List Int):Bp Ah.Norm.E N Tryz.f257 (Al Tryz.f257) [.ints .arg .u64 x]=bif (A6 64 (List.length x:Int)) then some (.tup [.int .u64 0,.int .i64 3]) else bif (Cz x) then bif (((Bf x)==(0:Int))||(Ag (Bf x))) then bif (((Bf x)==(0:Int))||(!(Da (Bf x)))) then some (.tup [.int .u64 (Bf x),.int .i64 0]) else bif (Ag (Bf x)) then Ah.Norm.L0 N N x 0 (0:Int) else none else none else none :=
  Eq.trans (by kernel_rfl)
  (Ea rfl (Ea (Ar (Rs ((Bf x)==(0:Int))) (Cq (Aq2 ((Bf x)==(0:Int)) (Ag (Bf x))) (Ar (Pg ((Bf x)==(0:Int))) (Ar (Xb ((Bf x)==(0:Int))) (Cq (Av6 ((Bf x)==(0:Int)) (Da (Bf x))) rfl rfl))) rfl)) rfl))
abbrev _root_.Go.Proofs.S1.Ah.Norm.Kn:=A5 Tryz.prog 257 Ah.Norm.spec
theorem Ah.Norm.Ac (hk:Ay Tryz.prog Ah.Norm.A8) (h:∀ (x:List Int),Ah.Norm.pre [.l x]=true→Ba Ah.Norm.E Tryz.f257 [.ints .arg .u64 x] (Ah.Norm.out [.l x])):Ah.Norm.Kn :=
  Aj (A1 hk _ _ _) Tryz.func257 (by kernel_rfl) (by kernel_rfl) h
end EqRoot
end Go.Proofs.S1
end
