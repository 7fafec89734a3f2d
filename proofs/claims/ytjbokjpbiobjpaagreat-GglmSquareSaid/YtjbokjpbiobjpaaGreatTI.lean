/- A verified evaluator of the program's form and its use for this seat: S1EqBits6, S1EqTimes, S1PTimes, S1PTimesA, S1EqVec, S1PVec, S1EqMat, S1PMat, S1EqCmp, S1PCmp, S1PDiv, RootM, HouL, S1EqRoot, S1PRoot. -/
import Derived.Test.YtjbokjpbiobjpaaGreatTE
import Derived.Test.YtjbokjpbiobjpaaGreatTF
import Derived.Test.YtjbokjpbiobjpaaGreatTH
import Derived.Test.YtjbokjpbiobjpaaGreatTG
set_option linter.unusedVariables false
set_option linter.unusedSimpArgs false
noncomputable section
namespace Go.Proofs.S1
open Go Go.Den Go.Rnd Go.Proofs
set_option maxRecDepth 100000
namespace EqBits6
def B9.Bk.Ba:List (Nat × Entry):=[(261,B9.Ja.spec)]
def B9.Bk.E:Env:=Bc (A9 B9.Bk.Ba) (fun _=>false) (fun _=>none) (fun _=>none)
theorem B9.Bk.ev (N:Nat) (x:Int):By B9.Bk.E N Tryz.f250 (Am Tryz.f250) [.int .u64 x]=bif (Ai x) then some (.int .i64 (Ab ((64:Int)-(D0 x)))) else none:=by kernel_rfl
abbrev _root_.Go.Proofs.S1.B9.Bk.Kn:=A7 Tryz.prog 250 B9.Bk.spec
theorem B9.Bk.Ad (hk:Ax Tryz.prog B9.Bk.Ba) (h:∀ (x:Int),B9.Bk.pre [.i x]=true→Bd B9.Bk.E Tryz.f250 [.int .u64 x] (B9.Bk.out [.i x])):B9.Bk.Kn :=
  Al (A0 hk _ _ _) Tryz.func250 (by kernel_rfl) (by kernel_rfl) h
def B9.Gi.Ba:List (Nat × Entry):=[]
def B9.Gi.E:Env:=Bc (A9 B9.Gi.Ba) (fun _=>false) (fun _=>none) (fun _=>none)
theorem B9.Gi.ev (N:Nat) (x y:Int):By B9.Gi.E N Tryz.f237 (Am Tryz.f237) [.int .u64 x,.int .u64 y]=some (.tup [.int .u64 (A3 ((A3 ((A3 ((Ct .u64 x 32)*(Ct .u64 y 32)))+(Ct .u64 (A3 ((A3 ((Ct .u64 x 32)*(E8 .u64 y 4294967295)))+(Ct .u64 (A3 ((E8 .u64 x 4294967295)*(E8 .u64 y 4294967295))) 32))) 32)))+(Ct .u64 (A3 ((E8 .u64 (A3 ((A3 ((Ct .u64 x 32)*(E8 .u64 y 4294967295)))+(Ct .u64 (A3 ((E8 .u64 x 4294967295)*(E8 .u64 y 4294967295))) 32))) 4294967295)+(A3 ((E8 .u64 x 4294967295)*(Ct .u64 y 32))))) 32))),.int .u64 (A3 (x*y))]):=by kernel_rfl
abbrev _root_.Go.Proofs.S1.B9.Gi.Kn:=A7 Tryz.prog 237 B9.Gi.spec
theorem B9.Gi.Ad (hk:Ax Tryz.prog B9.Gi.Ba) (h:∀ (x y:Int),B9.Gi.pre [.i x,.i y]=true→Bd B9.Gi.E Tryz.f237 [.int .u64 x,.int .u64 y] (B9.Gi.out [.i x,.i y])):B9.Gi.Kn :=
  Al (A0 hk _ _ _) Tryz.func237 (by kernel_rfl) (by kernel_rfl) h
abbrev _root_.Go.Proofs.S1.B9.Ja.Kn:Prop:=A7 Tryz.prog 261 B9.Ja.spec
theorem _root_.Go.Proofs.S1.B9.Ja.call:∀ (args:Array Value) (w:World),(callFunc 261 args).run Tryz.prog w=.ok (.enter 261 args) w:=Mk Tryz.func261 (by kernel_rfl) (show Tryz.f261.body=some (Am Tryz.f261) by kernel_rfl)
theorem _root_.Go.Proofs.S1.B9.Ja.run (x:Int) (w:World) (h0:0≤x) (h1:x≤18446744073709551615):Calls Tryz.prog 261 #[.int .u64 x] w fun e w'=>e=.returned (.int .i64 (Lib.bitLen x.toNat))∧w'=w:=Tryz.Acx x w h0 h1
end EqBits6
namespace EqTimes
def times.signed.Ba:List (Nat × Entry):=[(233,soft.Fe.spec)]
def times.signed.E:Env:=Bc (A9 times.signed.Ba) (fun _=>false) (fun _=>none) (fun _=>none)
theorem times.signed.ev (N:Nat) (b:Int) (n:Bool):By times.signed.E N Tryz.f235 (Am Tryz.f235) [.int .u64 b,.bool n]=bif n then bif (Ai b) then some (.int .u64 (Db b)) else none else some (.int .u64 b):=by kernel_rfl
abbrev _root_.Go.Proofs.S1.times.signed.Kn:=A7 Tryz.prog 235 times.signed.spec
theorem times.signed.Ad (hk:Ax Tryz.prog times.signed.Ba) (h:∀ (b:Int) (n:Bool),times.signed.pre [.i b,.b n]=true→Bd times.signed.E Tryz.f235 [.int .u64 b,.bool n] (times.signed.out [.i b,.b n])):times.signed.Kn :=
  Al (A0 hk _ _ _) Tryz.func235 (by kernel_rfl) (by kernel_rfl) h
def times.nan.Ba:List (Nat × Entry):=[(155,soft.Kind.spec)]
def times.nan.E:Env:=Bc (A9 times.nan.Ba) (fun _=>false) (fun _=>none) (fun _=>none)
theorem times.nan.ev (N:Nat) (a b:Int):By times.nan.E N Tryz.f234 (Am Tryz.f234) [.int .u64 a,.int .u64 b]=bif (Ai a) then bif ((A4 a)==(4:Int)) then some (.bool true) else bif (Ai b) then bif ((A4 b)==(4:Int)) then some (.bool true) else some (.bool false) else none else none:=by kernel_rfl
abbrev _root_.Go.Proofs.S1.times.nan.Kn:=A7 Tryz.prog 234 times.nan.spec
theorem times.nan.Ad (hk:Ax Tryz.prog times.nan.Ba) (h:∀ (a b:Int),times.nan.pre [.i a,.i b]=true→Bd times.nan.E Tryz.f234 [.int .u64 a,.int .u64 b] (times.nan.out [.i a,.i b])):times.nan.Kn :=
  Al (A0 hk _ _ _) Tryz.func234 (by kernel_rfl) (by kernel_rfl) h
def times.norm.Ba:List (Nat × Entry):=[(250,B9.Bk.spec),(211,soft.E2.spec)]
def times.norm.E:Env:=Bc (A9 times.norm.Ba) (fun _=>false) (fun _=>none) (fun _=>none)
theorem times.norm.ev (N:Nat) (b:Int):By times.norm.E N Tryz.f236 (Am Tryz.f236) [.int .u64 b]=bif (Ai b) then bif (Ai (Bf b)) then bif (decide (0≤(Ab ((64-D0 (Bf b))-11)))) then some (.tup [.int .u64 (Bm .u64 (Bf b) (Ab ((64-D0 (Bf b))-11))),.int .i64 (Ab ((Aw b)-(Ab ((64-D0 (Bf b))-11))))]) else none else none else none:=by kernel_rfl
abbrev _root_.Go.Proofs.S1.times.norm.Kn:=A7 Tryz.prog 236 times.norm.spec
theorem times.norm.Ad (hk:Ax Tryz.prog times.norm.Ba) (h:∀ (b:Int),times.norm.pre [.i b]=true→Bd times.norm.E Tryz.f236 [.int .u64 b] (times.norm.out [.i b])):times.norm.Kn :=
  Al (A0 hk _ _ _) Tryz.func236 (by kernel_rfl) (by kernel_rfl) h
def times.wide.hint:Nat→Option A6
  | 0=>some { keep:=[0,1,2,3],objs:=[],boxes:=[] }
  | _=>none
def times.wide.Ba:List (Nat × Entry):=[(212,soft.Cq.spec)]
def times.wide.E:Env:=Bc (A9 times.wide.Ba) (fun _=>false) times.wide.hint (fun _=>none)
def times.wide.L0 (N M:Nat) (n:Bool) (p1 p2:Int) (p3:Bool):Option DV:=B2 times.wide.E N Tryz.f238 (Am Tryz.f238) [1,0,0] [] M ⟨Fw 39 [(0,.bool n),(1,.int .u64 p1),(2,.int .i64 p2),(3,.bool p3)],[]⟩
theorem times.wide.At (N M:Nat) (n:Bool) (p1 p2:Int) (p3:Bool):times.wide.L0 N (M+1) n p1 p2 p3=bif ((A1 p2 (-1130:Int))&&(A1 1 p1)) then times.wide.L0 N M n (Ct .u64 p1 1) (Ab (p2+1)) (bif p3 then true else ((E8 .u64 p1 1)==(1:Int))) else bif (A1 p2 (-1130:Int)) then bif (Di 0 (-1074:Int) true) then some (.tup [.int .u64 (Dz n 0 (-1074:Int) true),.int .u8 (Dy n 0 (-1074:Int) true)]) else none else bif (Di p1 p2 p3) then some (.tup [.int .u64 (Dz n p1 p2 p3),.int .u8 (Dy n p1 p2 p3)]) else none :=
  Eq.trans (by kernel_rfl)
  (Au (N7 (A1 p2 (-1130:Int))) (Au (Kq (A1 p2 (-1130:Int))) (Au (Q9 (A1 p2 (-1130:Int))) (C0 (tt1 (A1 p2 (-1130:Int)) (A1 1 p1)) (Au (Vk p3) (Au (Tp p3) (Au (Tp p3) (Au (tt6 p3) rfl)))) rfl))))
theorem times.wide.ev (N:Nat) (n:Bool) (m e:Int) (r:Bool):By times.wide.E N Tryz.f238 (Am Tryz.f238) [.bool n,.int .u64 m,.int .i64 e,.bool r] =
  times.wide.L0 N N n m e r:=by kernel_rfl
abbrev _root_.Go.Proofs.S1.times.wide.Kn:=A7 Tryz.prog 238 times.wide.spec
theorem times.wide.Ad (hk:Ax Tryz.prog times.wide.Ba) (h:∀ (n:Bool) (m e:Int) (r:Bool),times.wide.pre [.b n,.i m,.i e,.b r]=true→Bd times.wide.E Tryz.f238 [.bool n,.int .u64 m,.int .i64 e,.bool r] (times.wide.out [.b n,.i m,.i e,.b r])):times.wide.Kn :=
  Al (A0 hk _ _ _) Tryz.func238 (by kernel_rfl) (by kernel_rfl) h
def times.Mul.Ba:List (Nat × Entry):=[(237,B9.Gi.spec),(155,soft.Kind.spec),(213,soft.Sign.spec),(234,times.nan.spec),(236,times.norm.spec),(235,times.signed.spec),(238,times.wide.spec)]
def times.Mul.E:Env:=Bc (A9 times.Mul.Ba) (fun _=>false) (fun _=>none) (fun _=>none)
theorem times.Mul.ev (N:Nat) (a b:Int):By times.Mul.E N Tryz.f208 (Am Tryz.f208) [.int .u64 a,.int .u64 b]=bif (Ai a) then bif (Ai b) then bif (Ai a) then bif (Ai b) then bif (Ai a&&Ai b) then bif (Ahk a b) then some (.tup [.int .u64 9221120237041090560,.int .u8 0]) else bif ((((A4 a)==(3:Int))&&((A4 b)==(0:Int)))||(((A4 a)==(0:Int))&&((A4 b)==(3:Int)))) then some (.tup [.int .u64 9221120237041090560,.int .u8 16]) else bif (((A4 a)==(3:Int))||((A4 b)==(3:Int))) then bif (Ai 9218868437227405312) then some (.tup [.int .u64 (Ov (!((Dd a)==(Dd b))) 9218868437227405312),.int .u8 0]) else none else bif (((A4 a)==(0:Int))||((A4 b)==(0:Int))) then bif (Ai 0) then some (.tup [.int .u64 (Ov (!((Dd a)==(Dd b))) 0),.int .u8 0]) else none else bif (Ai a&&Js a) then bif (Ai b&&Js b) then bif (Ai (Cb a)&&Ai (Cb b)) then bif (Lz (G6 .u64 (Bm .u64 (Oz (Cb a) (Cb b)) 20) (Ct .u64 (Ky (Cb a) (Cb b)) 44)) (Ab ((Ab ((F0 a)+(F0 b)))+44))) then some (.tup [.int .u64 (Dz (!((Dd a)==(Dd b))) (G6 .u64 (Bm .u64 (Oz (Cb a) (Cb b)) 20) (Ct .u64 (Ky (Cb a) (Cb b)) 44)) (Ab ((Ab ((F0 a)+(F0 b)))+44)) ((Bm .u64 (Ky (Cb a) (Cb b)) 20) !=(0:Int))),.int .u8 (Dy (!((Dd a)==(Dd b))) (G6 .u64 (Bm .u64 (Oz (Cb a) (Cb b)) 20) (Ct .u64 (Ky (Cb a) (Cb b)) 44)) (Ab ((Ab ((F0 a)+(F0 b)))+44)) ((Bm .u64 (Ky (Cb a) (Cb b)) 20) !=(0:Int)))]) else none else none else none else none else none else none else none else none else none :=
  Eq.trans (by kernel_rfl)
  (E3 (E3 (E3 (E3 (E3 (E3 rfl (Au (N7 ((A4 a)==(3:Int))) (Au (Kq ((A4 a)==(3:Int))) (Au (Q9 ((A4 a)==(3:Int))) (Au (Aps ((A4 a)==(3:Int)) ((A4 b)==(0:Int))) (Au (Aka ((A4 a)==(3:Int)) ((A4 b)==(0:Int))) (Au (Aka ((A4 a)==(3:Int)) ((A4 b)==(0:Int))) (Au (Apt ((A4 a)==(3:Int)) ((A4 b)==(0:Int)) ((A4 a)==(0:Int))) (Au (Apu ((A4 a)==(3:Int)) ((A4 b)==(0:Int)) ((A4 a)==(0:Int))) (Au (Apv ((A4 a)==(3:Int)) ((A4 b)==(0:Int)) ((A4 a)==(0:Int))) (Au (Apw ((A4 a)==(3:Int)) ((A4 b)==(0:Int))) (C0 (Apx ((A4 a)==(3:Int)) ((A4 b)==(0:Int)) ((A4 a)==(0:Int)) ((A4 b)==(3:Int))) rfl (Au (Vk ((A4 a)==(3:Int))) (Au (Tp ((A4 a)==(3:Int))) (Au (tt6 ((A4 a)==(3:Int))) (C0 (tt5 ((A4 a)==(3:Int)) ((A4 b)==(3:Int))) rfl (Au (Vk ((A4 a)==(0:Int))) (Au (Tp ((A4 a)==(0:Int))) (Au (tt6 ((A4 a)==(0:Int))) (C0 (tt5 ((A4 a)==(0:Int)) ((A4 b)==(0:Int))) rfl rfl)))))))))))))))))))) rfl) rfl) rfl) rfl) rfl)
abbrev _root_.Go.Proofs.S1.times.Mul.Kn:=A7 Tryz.prog 208 times.Mul.spec
theorem times.Mul.Ad (hk:Ax Tryz.prog times.Mul.Ba) (h:∀ (a b:Int),times.Mul.pre [.i a,.i b]=true→Bd times.Mul.E Tryz.f208 [.int .u64 a,.int .u64 b] (times.Mul.out [.i a,.i b])):times.Mul.Kn :=
  Al (A0 hk _ _ _) Tryz.func208 (by kernel_rfl) (by kernel_rfl) h
def times.Div.hint:Nat→Option A6
  | 1=>some { keep:=[6,10,11,12,13,14,78],objs:=[],boxes:=[] }
  | _=>none
def times.Div.Ba:List (Nat × Entry):=[(155,soft.Kind.spec),(213,soft.Sign.spec),(234,times.nan.spec),(236,times.norm.spec),(235,times.signed.spec),(238,times.wide.spec)]
def times.Div.E:Env:=Bc (A9 times.Div.Ba) (fun _=>false) times.Div.hint (fun _=>none)
def times.Div.L0 (N M:Nat) (a b:Int) (p13 p14 p78:Int):Option DV:=B2 times.Div.E N Tryz.f209 (Am Tryz.f209) [1,1,1,1,1,1,1,0,1,0] [] M ⟨Fw 104 [(6,.bool (!((Dd a)==(Dd b)))),(10,.int .i64 (F0 a)),(11,.int .u64 (Cb b)),(12,.int .i64 (F0 b)),(13,.int .u64 p13),(14,.int .u64 p14),(78,.int .i64 p78)],[]⟩
theorem times.Div.At (N M:Nat) (a b:Int) (p13 p14 p78:Int):times.Div.L0 N (M+1) a b p13 p14 p78=bif (A1 p78 61) then bif (Iw (Cb b) (Bm .u64 p14 1)) then times.Div.L0 N M a b (G6 .u64 (Bm .u64 p13 1) 1) (A3 ((Bm .u64 p14 1)-(Cb b))) (Ab (p78+1)) else times.Div.L0 N M a b (Bm .u64 p13 1) (Bm .u64 p14 1) (Ab (p78+1)) else bif (Lz p13 (Ab ((Ab ((F0 a)-(F0 b)))-61))) then some (.tup [.int .u64 (Dz (!((Dd a)==(Dd b))) p13 (Ab ((Ab ((F0 a)-(F0 b)))-61)) (p14 !=(0:Int))),.int .u8 (Dy (!((Dd a)==(Dd b))) p13 (Ab ((Ab ((F0 a)-(F0 b)))-61)) (p14 !=(0:Int)))]) else none:=by kernel_rfl
theorem times.Div.ev (N:Nat) (a b:Int):By times.Div.E N Tryz.f209 (Am Tryz.f209) [.int .u64 a,.int .u64 b]=bif (Ai a) then bif (Ai b) then bif (Ai a) then bif (Ai b) then bif (Ai a&&Ai b) then bif (Ahk a b) then some (.tup [.int .u64 9221120237041090560,.int .u8 0]) else bif ((((A4 a)==(3:Int))&&((A4 b)==(3:Int)))||(((A4 a)==(0:Int))&&((A4 b)==(0:Int)))) then some (.tup [.int .u64 9221120237041090560,.int .u8 16]) else bif ((A4 a)==(3:Int)) then bif (Ai 9218868437227405312) then some (.tup [.int .u64 (Ov (!((Dd a)==(Dd b))) 9218868437227405312),.int .u8 0]) else none else bif (((A4 b)==(3:Int))||((A4 a)==(0:Int))) then bif (Ai 0) then some (.tup [.int .u64 (Ov (!((Dd a)==(Dd b))) 0),.int .u8 0]) else none else bif ((A4 b)==(0:Int)) then bif (Ai 9218868437227405312) then some (.tup [.int .u64 (Ov (!((Dd a)==(Dd b))) 9218868437227405312),.int .u8 8]) else none else bif (Ai a&&Js a) then bif (Ai b&&Js b) then bif ((Cb b) !=0) then bif ((Cb b) !=0) then times.Div.L0 N N a b (A3 (Int.tdiv (Cb a) (Cb b))) (Int.tmod (Cb a) (Cb b)) (0:Int) else none else none else none else none else none else none else none else none else none :=
  Eq.trans (by kernel_rfl)
  (E3 (E3 (E3 (E3 (E3 (E3 rfl (Au (N7 ((A4 a)==(3:Int))) (Au (Kq ((A4 a)==(3:Int))) (Au (Q9 ((A4 a)==(3:Int))) (Au (Aps ((A4 a)==(3:Int)) ((A4 b)==(3:Int))) (Au (Aka ((A4 a)==(3:Int)) ((A4 b)==(3:Int))) (Au (Aka ((A4 a)==(3:Int)) ((A4 b)==(3:Int))) (Au (Apt ((A4 a)==(3:Int)) ((A4 b)==(3:Int)) ((A4 a)==(0:Int))) (Au (Apu ((A4 a)==(3:Int)) ((A4 b)==(3:Int)) ((A4 a)==(0:Int))) (Au (Apv ((A4 a)==(3:Int)) ((A4 b)==(3:Int)) ((A4 a)==(0:Int))) (Au (Apw ((A4 a)==(3:Int)) ((A4 b)==(3:Int))) (C0 (Apx ((A4 a)==(3:Int)) ((A4 b)==(3:Int)) ((A4 a)==(0:Int)) ((A4 b)==(0:Int))) rfl (E3 rfl (Au (Vk ((A4 b)==(3:Int))) (Au (Tp ((A4 b)==(3:Int))) (Au (tt6 ((A4 b)==(3:Int))) (C0 (tt5 ((A4 b)==(3:Int)) ((A4 a)==(0:Int))) rfl (E3 rfl (E3 (E3 (C0 (C3 ((Cb b) !=0)) (C0 (C3 ((Cb b) !=0)) rfl rfl) rfl) rfl) rfl))))))))))))))))))) rfl) rfl) rfl) rfl) rfl)
abbrev _root_.Go.Proofs.S1.times.Div.Kn:=A7 Tryz.prog 209 times.Div.spec
theorem times.Div.Ad (hk:Ax Tryz.prog times.Div.Ba) (h:∀ (a b:Int),times.Div.pre [.i a,.i b]=true→Bd times.Div.E Tryz.f209 [.int .u64 a,.int .u64 b] (times.Div.out [.i a,.i b])):times.Div.Kn :=
  Al (A0 hk _ _ _) Tryz.func209 (by kernel_rfl) (by kernel_rfl) h
end EqTimes
open EqBits6 EqTimes
theorem Aax {n:Nat} (h0:n≠0) (h:n<2^64):Go.Lib.bitLen n=n.log2+1:=by
  have h1:=Nat.log2_self_le h0
  have h2:=Nat.lt_log2_self (n:=n)
  have hp:=Cd n.log2
  have e:n / 2^n.log2=1:=by
    rw [Nat.pow_succ] at h2
    exact Nat.div_eq_of_lt_le (by omega) (by omega)
  have e1:Go.Lib.bitLen 1=1:=by decide
  rw [Go.Lib.bitLen_shift n.log2 n h1 h,e,e1]
theorem B9.Ja.known:B9.Ja.Kn:=by
  refine ⟨?_,B9.Ja.call⟩
  intro args ha
  simp only [B9.Ja.spec,entry] at ha ⊢
  cases hd:Kh [.i .u64] args with
  | none=>rw [hd] at ha; cases ha
  | some ats =>
    rw [hd] at ha
    simp only at ha ⊢
    obtain ⟨ds,h1,h2⟩:=K2 hd
    obtain ⟨x,_,_,rfl,rfl,he⟩:=h1.Aif
    obtain ⟨rfl,rfl⟩:=he.Xy
    obtain ⟨n,rfl,hn⟩:=Bt (x:=x) ha
    refine Mq.args ?_ h2
    intro w vals I hI hv
    obtain ⟨u,us,e1,e2,e3⟩:=hv
    simp only [Aj] at e2
    have e3:us=[]:=e3
    subst e2 e3
    have e4:vals=#[.int .u64 (n:Int)]:=Array.ext' e1
    subst e4
    refine (B9.Ja.run n w (by omega) (by omega)).mono ?_
    rintro e w' ⟨rfl,rfl⟩
    refine ⟨_,fun _=>none,rfl,Go.RowKit.Below.refl _ _,⟨fun i b h=>(by cases h),fun i j b h=>(by cases h)⟩,?_⟩
    show Aj _ _ (DV.int .i64 (D0 n)) _
    simp only [Aj]
    congr 1
    unfold D0
    rw [Aqy]
    by_cases h0:n=0
    · subst h0; rfl
    · rw [Aax h0 hn,if_neg (by omega)]; rfl
theorem Ah9 {n:Nat} (hn:n<2^64):0≤D0 n∧D0 n≤64:=by
  unfold D0
  rw [Aqy]
  by_cases h0:n=0
  · subst h0; decide
  · have:=(Nat.log2_lt h0).2 hn
    rw [if_neg (by omega)]; omega
theorem B9.Bk.known:B9.Bk.Kn:=B9.Bk.Ad (.cons B9.Ja.known .nil) fun x hp=>by
  obtain ⟨n,rfl,hn⟩:=Bt (x:=x) hp
  have:=Ah9 hn
  refine ⟨0,B9.Bk.out [.i n],[],?_,.int⟩
  rw [B9.Bk.ev,B0 hn,Aqw,An (by omega) (by omega)]
  rfl
theorem Hn {a b:Nat} (ha:a<4294967296) (hb:b<4294967296):a*b≤18446744065119617025 :=
  Nat.le_trans (Nat.mul_le_mul (show a≤4294967295 by omega) (show b≤4294967295 by omega)) (by decide)
theorem Aho (x y:Nat) (hx:x<2^64) (hy:y<2^64) :
    x*y / 18446744073709551616=(x / 2^32)*(y / 2^32)+((x / 2^32)*(y%2^32)+(x%2^32)*(y%2^32) / 2^32) / 2^32 +
      (((x / 2^32)*(y%2^32)+(x%2^32)*(y%2^32) / 2^32)%2^32+(x%2^32)*(y / 2^32)) / 2^32:=by
  have ex:x=x / 2^32*4294967296+x%2^32:=by omega
  have ey:y=y / 2^32*4294967296+y%2^32:=by omega
  have ha:x / 2^32<4294967296:=by omega
  have hc:y / 2^32<4294967296:=by omega
  have hb:x%2^32<4294967296:=by omega
  have hd:y%2^32<4294967296:=by omega
  generalize x / 2^32=a at *
  generalize x%2^32=b at *
  generalize y / 2^32=c at *
  generalize y%2^32=d at *
  have e:x*y=a*c*18446744073709551616+(a*d+b*c)*4294967296+b*d:=by
    rw [ex,ey,Nat.add_mul,Nat.mul_add,Nat.mul_add]
    have e1:a*4294967296*(c*4294967296)=a*c*18446744073709551616:=by
      rw [Nat.mul_mul_mul_comm]
    have e2:a*4294967296*d=a*d*4294967296:=Nat.mul_right_comm _ _ _
    have e3:b*(c*4294967296)=b*c*4294967296:=(Nat.mul_assoc _ _ _).symm
    rw [e1,e2,e3]
    omega
  have b1:=Hn ha hc
  have b2:=Hn ha hd
  have b3:=Hn hb hc
  have b4:=Hn hb hd
  rw [e]
  clear e ex ey
  generalize a*c=p at *
  generalize a*d=q at *
  generalize b*c=r at *
  generalize b*d=s at *
  omega
theorem B9.Gi.known:B9.Gi.Kn:=B9.Gi.Ad .nil fun x y hp=>by
  obtain ⟨h1,h2⟩:=Af.1 hp
  obtain ⟨x,rfl,hx⟩:=Bt h1
  obtain ⟨y,rfl,hy⟩:=Bt h2
  refine ⟨0,B9.Gi.out [.i x,.i y],[],?_,Wk.Gb (.cons .int (.cons .int .nil))⟩
  show _=some (DV.tup [.int .u64 (Oz x y),.int .u64 (Ky x y)])
  have s32:∀ n:Nat,Ct .u64 (n:Int) (32:Int)=((n / 2^32:Nat):Int):=fun n=>F8 .u64 n 32 (by decide)
  have m32:∀ n:Nat,n<2^64→E8 .u64 (n:Int) (4294967295:Int)=((n%2^32:Nat):Int):=fun n hn=>Gx 32 hn (by decide)
  have ha:x / 2^32<4294967296:=by omega
  have hc:y / 2^32<4294967296:=by omega
  have hb:x%2^32<4294967296:=by omega
  have hd:y%2^32<4294967296:=by omega
  have b1:=Hn ha hc
  have b2:=Hn ha hd
  have b3:=Hn hb hc
  have b4:=Hn hb hd
  have hhi:=Aho x y hx hy
  have wn:∀ n:Nat,n<2^64→A3 (n:Int)=n:=fun n hn=>Cg (by omega) (by omega)
  have hlt:x*y / 18446744073709551616<2^64:=by
    rw [Nat.div_lt_iff_lt_mul (by decide)]
    have:=Nat.mul_le_mul (show x≤18446744073709551615 by omega) (show y≤18446744073709551615 by omega)
    omega
  rw [B9.Gi.ev]
  simp only [s32,m32 x hx,m32 y hy]
  generalize hA:x / 2^32=a at *
  generalize hB:x%2^32=b at *
  generalize hC:y / 2^32=c at *
  generalize hD:y%2^32=d at *
  simp only [← Ari]
  rw [wn (a*c) (by omega),wn (a*d) (by omega),wn (b*c) (by omega),wn (b*d) (by omega),s32]
  simp only [← Int.natCast_add]
  rw [wn (a*d+b*d / 2^32) (by omega),s32,m32 _ (by omega)]
  simp only [← Int.natCast_add]
  rw [wn (a*c+(a*d+b*d / 2^32) / 2^32) (by omega),wn _ (by omega),s32]
  simp only [← Int.natCast_add]
  rw [← hhi,wn _ hlt]
  unfold Oz Ky
  rw [Aqy,Aqy,P0]
  congr 3
theorem times.signed.known:times.signed.Kn:=times.signed.Ad (.cons soft.Fe.known .nil) fun b n hp=>by
  have hp:Ai b=true:=hp
  refine ⟨0,times.signed.out [.i b,.b n],[],?_,.int⟩
  rw [times.signed.ev,hp]
  cases n<;>rfl
theorem times.nan.known:times.nan.Kn:=times.nan.Ad (.cons soft.Kind.known .nil) fun a b hp=>by
  obtain ⟨ha,hb⟩:=Af.1 hp
  refine ⟨0,times.nan.out [.i a,.i b],[],?_,.bool⟩
  rw [times.nan.ev,ha,hb,Aqw,Aqw]
  show _=some (DV.bool (decide (A4 a=4)||decide (A4 b=4)))
  by_cases h1:A4 a=4
  · rw [h1]; rfl
  · have e1:(A4 a==(4:Int))=false:=by simp; exact h1
    rw [e1,Aq1 h1,Aq0]
    by_cases h2:A4 b=4
    · rw [h2]; rfl
    · have e2:(A4 b==(4:Int))=false:=by simp; exact h2
      rw [e2,Aq1 h2]; rfl
theorem Lp {n:Nat} (h:Av n≠0):(Av n).log2≤52∧2^52≤Av n*2^Bs n∧Av n*2^Bs n<2^53∧Bs n≤52:=by
  have h1:=Ei n
  have h2:(Av n).log2<53:=(Nat.log2_lt h).2 (by omega)
  have hz:=Ul (Av n) (Bs n) h
  have hne:Av n*2^Bs n≠0:=Mb h
  have hl:(Av n*2^Bs n).log2=52:=by rw [hz]; unfold Bs; omega
  refine ⟨by omega,?_,?_,by unfold Bs; omega⟩
  · rw [← Nat.le_log2 hne]; omega
  · rw [← Nat.log2_lt hne]; omega
theorem times.norm.known:times.norm.Kn:=times.norm.Ad (.cons B9.Bk.known (.cons soft.E2.known .nil)) fun b hp=>by
  obtain ⟨h1,h2⟩:=Af.1 hp
  obtain ⟨n,rfl,hn⟩:=Bt h1
  have h2:Av n≠0:=Ao.1 h2
  obtain ⟨l1,l2,l3,l4⟩:=Lp h2
  have hM:=Ei n
  have hE:=Ea n
  refine ⟨0,times.norm.out [.i n],[],?_,Wk.Gb (.cons .int (.cons .int .nil))⟩
  show _=some (DV.tup [.int .u64 (Cb n),.int .i64 (F0 n)])
  have e1:Bf (n:Int)=(Av n:Int):=rfl
  have e2:Aw (n:Int)=Be n:=rfl
  have e3:D0 (Av n:Int)=((Av n).log2:Int)+1:=by
    unfold D0
    rw [if_neg (by omega),Aqy]
  have e4:Ab ((64-(((Av n).log2:Int)+1))-(11:Int))=((Bs n:Nat):Int):=by
    rw [An (by omega) (by omega)]; unfold Bs; omega
  rw [times.norm.ev,B0 hn,e1,e2,B0 (n:=Av n) (by omega),e3,e4,Ek _ _ (by omega),Aq9 (by omega),An (by omega) (by omega),Aqx (by omega)]
  rfl
theorem Ago {V t:Nat} {E:Int} (h0:V≠0) (h:V<2^t) (hE:E+t≤-1075):Ch V E=0∧flagsOf V E=3:=by
  have hl:V.log2<t:=(Nat.log2_lt h0).2 h
  have hL:Dn V E=-1074:=by unfold Dn; omega
  obtain ⟨k,hk⟩:∃ k:Nat,(-1074-E).toNat=t+1+k:=⟨(-1074-E).toNat-t-1,by omega⟩
  have hp:2^(t+1)≤2^(t+1+k):=Arb (by decide) (by omega)
  have ht:2^(t+1)=2*2^t:=by rw [Nat.pow_succ]; omega
  have e2:(-(-1074-E)).toNat=0:=by omega
  have hr:Lk V (-1074-E)=0:=by
    unfold Lk Qe
    rw [e2,hk,Nat.pow_zero,Nat.mul_one,Nat.div_eq_of_lt (by omega),Aq9 (by omega),if_neg (by omega)]
  have hru:Ch V E=0:=by
    unfold Ch kept
    rw [if_neg h0,hL,hr]
    simp
  refine ⟨hru,?_⟩
  unfold flagsOf exact K6
  rw [if_neg h0,hru,hL,e2,hk,Nat.pow_zero,Nat.mul_one,Aq9 (by omega),Aq1 h0]
  decide
theorem Ae0 (n:Bool) {m:Nat} {e:Int} (r:Bool) (hm:1<m) (he:e < -1130):Fb n (m / 2) (e+1) (r||decide (m%2=1))=Fb n m e r:=by
  have e1:(4*m+r.toNat) / 2^3=m / 2:=by cases r<;>simp<;>omega
  have e2:(r||decide (m%2=1))=decide ((4*m+r.toNat)%2^3≠0):=by
    rw [Arc]
    cases r
    · simp; omega
    · simp; omega
  have:=Qo n (V:=4*m+r.toNat) (k:=3) (E:=e-2) (e:=e+1) (s:=r||decide (m%2=1)) (by omega) e2 (by omega) (.inr (by omega))
  rw [e1] at this
  exact this
theorem Qn (n:Bool) {e:Int} (r:Bool) (he:e < -1130):Fb n 1 e r=Fb n 0 (-1074) true:=by
  have h1:r.toNat≤1:=by cases r<;>decide
  obtain ⟨a1,a2⟩:=Ago (V:=4*1+r.toNat) (t:=3) (E:=e-2) (by omega) (by omega) (by omega)
  obtain ⟨b1,b2⟩:=Ago (V:=4*0+true.toNat) (t:=1) (E:=-1074-2) (by decide) (by decide) (by decide)
  unfold Fb
  rw [a1,a2,b1,b2]
theorem Ad3 (N:Nat) (n:Bool):∀ (k m:Nat) (e:Int) (r:Bool),1≤m→m<2^62→m≤2^k→-7000≤e→e≤6000→(2^60≤m∨e≤-1130) →
    times.wide.L0 N (k+1) n (m:Int) e r=some (.tup [.int .u64 (((Fb n m e r).1:Nat):Int),.int .u8 (((Fb n m e r).2:Nat):Int)]):=by
  intro k
  induction k with
  | zero =>
    intro m e r h1 h2 h3 h4 h5 h6
    have hm:m=1:=by simp at h3; omega
    subst hm
    rw [times.wide.At,Aq,Aq]
    have c1:decide ((1:Int)<((1:Nat):Int))=false:=by decide
    rw [c1,Bool.and_false,Aq0]
    by_cases he:e < -1130
    · have hp:Di (0:Int) (-1074:Int) true=true:=Ao.2 (by omega)
      rw [Aqx he,Aqw,hp,Aqw,Qn n r he]
      rfl
    · have he:e=-1130:=by omega
      subst he
      have hp:Di ((1:Nat):Int) (-1130:Int) r=true:=Ao.2 (by omega)
      rw [Aq1 (by omega),Aq0,hp,Aqw]
      rfl
  | succ k ih =>
    intro m e r h1 h2 h3 h4 h5 h6
    rw [times.wide.At,Aq,Aq]
    by_cases he:e < -1130
    · by_cases hm:1<m
      · have c1:decide ((1:Int)<(m:Int))=true:=Aqx (by omega)
        have e1:Ct .u64 (m:Int) (1:Int)=((m / 2:Nat):Int):=F8 .u64 m 1 (by decide)
        have e2:E8 .u64 (m:Int) (1:Int)=((m%2:Nat):Int):=Gx (a:=m) 1 (by omega) (by decide)
        have e3:(bif r then true else (E8 .u64 (m:Int) (1:Int))==(1:Int))=(r||decide (m%2=1)):=by
          rw [e2]
          cases r
          · rw [Arc]; simp; omega
          · rfl
        rw [Aqx he,c1,Aq2,Aqw,e1,e3,An (by omega) (by omega)]
        have hk:m / 2≤2^k:=by rw [Nat.pow_succ] at h3; omega
        rw [ih (m / 2) (e+1) _ (by omega) (by omega) hk (by omega) (by omega) (.inr (by omega)),Ae0 n r hm he]
      · have hm:m=1:=by omega
        subst hm
        have c1:decide ((1:Int)<((1:Nat):Int))=false:=by decide
        have hp:Di (0:Int) (-1074:Int) true=true:=Ao.2 (by omega)
        rw [c1,Bool.and_false,Aq0,Aqx he,Aqw,hp,Aqw,Qn n r he]
        rfl
    · have hp:Di (m:Int) e r=true:=Ao.2 ⟨by omega,by omega,by omega,.inl (by omega),fun _=>by omega⟩
      rw [Aq1 he,Bool.false_and,Aq0,Aq0,hp,Aqw]
      rfl
theorem times.wide.known:times.wide.Kn:=times.wide.Ad (.cons soft.Cq.known .nil) fun n m e r hp=>by
  obtain ⟨h1,h2,h3,h4⟩:=Ao.1 (show Lz m e=true from hp)
  obtain ⟨m,rfl⟩:∃ k:Nat,m=k:=⟨m.toNat,by omega⟩
  refine ⟨63,times.wide.out [.b n,.i m,.i e,.b r],[],?_,Wk.Gb (.cons .int (.cons .int .nil))⟩
  rw [times.wide.ev,Ad3 63 n 62 m e r (by omega) (by omega) (by omega) (by omega) (by omega) (.inl (by omega))]
  rfl
open EqTimes
theorem Oa {b:Nat} (h0:As b≠0) (h3:As b≠3) (h4:As b≠4):Av b≠0:=by
  have:=It b
  unfold As at h0 h3 h4
  unfold Av
  by_cases h1:Gv b=2047
  · rw [if_pos h1] at h3 h4
    by_cases h2:Fc b=0
    · rw [if_pos h2] at h3; exact absurd rfl h3
    · rw [if_neg h2] at h4; exact absurd rfl h4
  · rw [if_neg h1] at h0
    by_cases h2:0<Gv b
    · rw [if_neg (by omega)]; omega
    · rw [if_neg h2] at h0
      by_cases h5:0<Fc b
      · rw [if_pos (by omega)]; omega
      · rw [if_neg h5] at h0; exact absurd rfl h0
theorem We {b:Nat} (h0:As b=0):Av b=0:=by
  unfold As at h0
  unfold Av
  by_cases h1:Gv b=2047
  · rw [if_pos h1] at h0; split at h0<;>omega
  · rw [if_neg h1] at h0
    by_cases h2:0<Gv b
    · rw [if_pos h2] at h0; omega
    · rw [if_neg h2] at h0
      by_cases h5:0<Fc b
      · rw [if_pos h5] at h0; omega
      · rw [if_pos (by omega)]; omega
theorem Ab2 {x y:Nat} (hx1:2^52≤x) (hx2:x<2^53) (hy1:2^52≤y) (hy2:y<2^53):2^104≤x*y∧x*y<2^106:=by
  have h1:=Nat.mul_le_mul hx1 hy1
  have h2:x*y<2^53*2^53:=Nat.mul_lt_mul'' hx2 hy2
  exact ⟨Nat.le_trans (by decide) h1,Nat.lt_of_lt_of_le h2 (by decide)⟩
theorem Ako {V:Nat} (h:V<2^106):G6 .u64 (Bm .u64 ((V / 18446744073709551616:Nat):Int) (20:Int)) (Ct .u64 ((V%18446744073709551616:Nat):Int) (44:Int))=((V / 2^44:Nat):Int):=by
  have e1:Bm .u64 ((V / 18446744073709551616:Nat):Int) (20:Int)=((V / 18446744073709551616*2^20%2^64:Nat):Int):=Ek _ 20 (by decide)
  have e2:Ct .u64 ((V%18446744073709551616:Nat):Int) (44:Int)=((V%18446744073709551616 / 2^44:Nat):Int):=F8 .u64 _ 44 (by decide)
  rw [e1,e2,Aq9 (by omega),Kj (k:=20) (by omega) (by omega)]
  congr 1
  omega
theorem Akn {V:Nat}:((Bm .u64 ((V%18446744073709551616:Nat):Int) (20:Int)) !=(0:Int))=decide (V%2^44≠0):=by
  have e1:Bm .u64 ((V%18446744073709551616:Nat):Int) (20:Int)=((V%18446744073709551616*2^20%2^64:Nat):Int):=Ek _ 20 (by decide)
  rw [e1,Arc]
  simp only [bne_iff_ne,ne_eq,Aq3]
  omega
theorem Xw (s t:Bool):(!(s==t))=(s !=t):=rfl
theorem w53 {x:Nat} (h:x<2^53):Ai (x:Int)=true:=B0 (by omega)
theorem Akw (n:Bool) {a b:Nat} (ha:Av a≠0) (hb:Av b≠0) :
    (bif (Ai (Cb a)&&Ai (Cb b)) then
      bif (Lz (G6 .u64 (Bm .u64 (Oz (Cb a) (Cb b)) (20:Int)) (Ct .u64 (Ky (Cb a) (Cb b)) (44:Int))) (Ab ((Ab ((F0 a)+(F0 b)))+(44:Int)))) then
        some (DV.tup [.int .u64 (Dz n (G6 .u64 (Bm .u64 (Oz (Cb a) (Cb b)) (20:Int)) (Ct .u64 (Ky (Cb a) (Cb b)) (44:Int))) (Ab ((Ab ((F0 a)+(F0 b)))+(44:Int))) ((Bm .u64 (Ky (Cb a) (Cb b)) (20:Int)) !=(0:Int))),.int .u8 (Dy n (G6 .u64 (Bm .u64 (Oz (Cb a) (Cb b)) (20:Int)) (Ct .u64 (Ky (Cb a) (Cb b)) (44:Int))) (Ab ((Ab ((F0 a)+(F0 b)))+(44:Int))) ((Bm .u64 (Ky (Cb a) (Cb b)) (20:Int)) !=(0:Int)))])
      else none
    else none)=some (.tup [.int .u64 ((Co n (Ch (Av a*Av b) (Be a+Be b)):Nat):Int),.int .u8 ((flagsOf (Av a*Av b) (Be a+Be b):Nat):Int)]):=by
  obtain ⟨a1,a2,a3,a4⟩:=Lp ha
  obtain ⟨b1,b2,b3,b4⟩:=Lp hb
  have ea:=Ea a
  have eb:=Ea b
  have ma:Cb (a:Int)=((Av a*2^Bs a:Nat):Int):=rfl
  have mb:Cb (b:Int)=((Av b*2^Bs b:Nat):Int):=rfl
  have na:F0 (a:Int)=Be a-Bs a:=rfl
  have nb:F0 (b:Int)=Be b-Bs b:=rfl
  have hi:Oz (Cb a) (Cb b)=((Av a*2^Bs a*(Av b*2^Bs b) / 18446744073709551616:Nat):Int):=rfl
  have lo:Ky (Cb a) (Cb b)=((Av a*2^Bs a*(Av b*2^Bs b)%18446744073709551616:Nat):Int):=rfl
  rw [hi,lo,ma,mb,na,nb,w53 a3,w53 b3,Aq2,Aqw]
  obtain ⟨v1,v2⟩:=Ab2 a2 a3 b2 b3
  have ev:Av a*2^Bs a*(Av b*2^Bs b)=Av a*Av b*2^(Bs a+Bs b):=by
    rw [Nat.mul_mul_mul_comm,← Nat.pow_add]
  obtain ⟨s1,s2⟩:=Eg (Av a*Av b) (Bs a+Bs b) (Be a+Be b)
  rw [← ev] at s1 s2
  generalize Av a*2^Bs a*(Av b*2^Bs b)=V at *
  rw [Ako v2,Akn,An (x:=_+_) (by rw [An (by omega) (by omega)]; omega) (by rw [An (by omega) (by omega)]; omega),An (by omega) (by omega)]
  have hw:Lz ((V / 2^44:Nat):Int) (Be a-Bs a+(Be b-Bs b)+44)=true:=Ao.2 ⟨by omega,by omega,by omega,by omega⟩
  rw [hw,Aqw]
  unfold Dz Dy
  rw [Aqy,Qo n (V:=V) (k:=44) (E:=Be a+Be b-((Bs a+Bs b:Nat):Int)) (e:=Be a-Bs a+(Be b-Bs b)+44) (s:=decide (V%2^44≠0)) (by omega) rfl (by omega) (.inl (by omega)),s1,s2]
theorem kq (b k:Nat):(((As b:Nat):Int)==((k:Nat):Int))=decide (As b=k):=by
  rw [Arc]; simp only [beq_iff_eq,Aq3]; omega
theorem V4 (n:Bool) {r:Nat} (h:r<2^63):Ov n (r:Int)=((Co n r:Nat):Int):=by
  unfold Ov Co Db
  cases n
  · rfl
  · simp only [if_true]
    rw [Aqy,Uh h]
theorem Aaf (n:Bool):Ov n (9218868437227405312:Int)=((Co n G5:Nat):Int):=V4 n (r:=G5) (by decide)
theorem Vx (n:Bool):Ov n (0:Int)=((Co n 0:Nat):Int):=V4 n (r:=0) (by decide)
theorem Og (b:Nat):A4 (b:Int)=((As b:Nat):Int):=rfl
theorem Adk (a b:Nat):Ahk (a:Int) (b:Int)=(decide (As a=4)||decide (As b=4)):=by
  unfold Ahk A4
  simp only [Aqy]
  rw [Arc]
  simp only [Bool.or_eq_true,Aq3]
  omega
theorem k3 (b:Nat):(((As b:Nat):Int)==(3:Int))=decide (As b=3):=kq b 3
theorem k0 (b:Nat):(((As b:Nat):Int)==(0:Int))=decide (As b=0):=kq b 0
theorem times.Mul.known:times.Mul.Kn:=times.Mul.Ad (.cons B9.Gi.known (.cons soft.Kind.known (.cons soft.Sign.known (.cons times.nan.known (.cons times.norm.known (.cons times.signed.known (.cons times.wide.known .nil))))))) fun a b hp=>by
  obtain ⟨ha,hb⟩:=Af.1 hp
  obtain ⟨a,rfl,hn⟩:=Bt ha
  obtain ⟨b,rfl,hm⟩:=Bt hb
  refine ⟨0,times.Mul.out [.i a,.i b],[],?_,Wk.Gb (.cons .int (.cons .int .nil))⟩
  have i1:Ai (9218868437227405312:Int)=true:=B0 (n:=9218868437227405312) (by decide)
  have i2:Ai (0:Int)=true:=B0 (n:=0) (by decide)
  rw [times.Mul.ev,ha,hb,Adk,Og,Og,k3,k3,k0,k0,i1,i2,Aaf,Vx,Xw]
  show _=some (DV.tup [.int .u64 (((Vo a b).1:Nat):Int),.int .u8 (((Vo a b).2:Nat):Int)])
  have ea:Dd (a:Int)=D3 a:=rfl
  have eb:Dd (b:Int)=D3 b:=rfl
  rw [ea,eb]
  unfold Vo
  simp only [Aq2,Aqw]
  by_cases h4:As a=4∨As b=4
  · have c4:(decide (As a=4)||decide (As b=4))=true:=by simp; exact h4
    rw [if_pos h4,c4,Aqw]; rfl
  · have c4:(decide (As a=4)||decide (As b=4))=false:=by simp; omega
    rw [if_neg h4,c4,Aq0]
    by_cases h3:As a=3∨As b=3
    · rw [if_pos h3]
      by_cases h0:As a=0∨As b=0
      · have c0:(decide (As a=3)&&decide (As b=0)||decide (As a=0)&&decide (As b=3))=true:=by simp; omega
        rw [if_pos h0,c0,Aqw]; rfl
      · have c0:(decide (As a=3)&&decide (As b=0)||decide (As a=0)&&decide (As b=3))=false:=by simp; omega
        have c3:(decide (As a=3)||decide (As b=3))=true:=by simp; omega
        rw [if_neg h0,c0,Aq0,c3,Aqw]; rfl
    · have c0:(decide (As a=3)&&decide (As b=0)||decide (As a=0)&&decide (As b=3))=false:=by simp; omega
      have c3:(decide (As a=3)||decide (As b=3))=false:=by simp; omega
      rw [if_neg h3,c0,Aq0,c3,Aq0]
      by_cases h0:As a=0∨As b=0
      · have c5:(decide (As a=0)||decide (As b=0))=true:=by simp; exact h0
        have hz:Av a*Av b=0:=by
          rcases h0 with h | h
          · rw [We h,Nat.zero_mul]
          · rw [We h,Nat.mul_zero]
        rw [c5,Aqw,hz,V6,Qy]; rfl
      · have c5:(decide (As a=0)||decide (As b=0))=false:=by simp; omega
        have pa:=Oa (b:=a) (by omega) (by omega) (by omega)
        have pb:=Oa (b:=b) (by omega) (by omega) (by omega)
        have na:Js (a:Int)=true:=Ao.2 pa
        have nb:Js (b:Int)=true:=Ao.2 pb
        rw [c5,Aq0,na,nb,Aq2,Aqw,Aqw]
        exact Akw _ pa pb
theorem Ai5 (N:Nat) {a b:Nat} {X Y:Nat} (hY:0<Y) (hY2:Y<2^53) (hX:X<2*Y) (em:Cb (b:Int)=(Y:Int)):∀ (k i:Nat),k+i=61 →
    times.Div.L0 N (k+1) a b ((X*2^i / Y:Nat):Int) ((X*2^i%Y:Nat):Int) (i:Int) =
      times.Div.L0 N 1 a b ((X*2^61 / Y:Nat):Int) ((X*2^61%Y:Nat):Int) (61:Int):=by
  intro k
  induction k with
  | zero =>
    intro i hi
    have:i=61:=by omega
    subst this
    rfl
  | succ k ih =>
    intro i hi
    have hq:X*2^i / Y<2^62:=by
      rw [Nat.div_lt_iff_lt_mul hY]
      have h1:X*2^i<2*Y*2^i:=(Nat.mul_lt_mul_right (Cd i)).2 hX
      have h2:2*2^i≤2^62:=by
        rw [Nat.mul_comm,← Nat.pow_succ]; exact Arb (by decide) (by omega)
      have h3:2*2^i*Y≤2^62*Y:=Aq8 _ h2
      rw [Nat.mul_right_comm] at h1
      omega
    have hr:X*2^i%Y<Y:=Nat.mod_lt _ hY
    have hd:=Nat.div_add_mod (X*2^i) Y
    have e2:X*2^(i+1)=X*2^i*2:=by rw [Nat.pow_succ,Nat.mul_assoc]
    rw [times.Div.At,Aq,Er,em,Aqx (by omega),Aqw]
    have s1:Bm .u64 ((X*2^i%Y:Nat):Int) (1:Int)=((X*2^i%Y*2:Nat):Int):=by
      have:=Ek (X*2^i%Y) 1 (by decide)
      rw [Aq9 (a:=X*2^i%Y*2^1) (by omega)] at this
      exact this
    have s2:Bm .u64 ((X*2^i / Y:Nat):Int) (1:Int)=((X*2^i / Y*2^1:Nat):Int):=by
      have:=Ek (X*2^i / Y) 1 (by decide)
      rw [Aq9 (a:=X*2^i / Y*2^1) (by omega)] at this
      exact this
    have s3:G6 .u64 ((X*2^i / Y*2^1:Nat):Int) (1:Int)=((X*2^i / Y*2^1+1:Nat):Int):=Kj (k:=1) (b:=1) (by decide) (by omega)
    have ei:Ab ((i:Int)+1)=((i+1:Nat):Int):=by rw [An (by omega) (by omega)]; rfl
    rw [s1,s2,s3,ei]
    generalize hq':X*2^i / Y=q at *
    generalize hr':X*2^i%Y=r at *
    have step:∀ c,X*2^i*2=Y*(2*q+c)+(2*r-c*Y)→c*Y≤2*r→2*r<c*Y+Y→X*2^(i+1) / Y=2*q+c∧X*2^(i+1)%Y=2*r-c*Y:=fun c h1 h2 h3=>by
      rw [e2,h1]
      constructor
      · rw [Nat.mul_add_div hY,Nat.div_eq_of_lt (by omega)]; omega
      · rw [Nat.mul_add_mod,Aq9 (by omega)]
    by_cases hc:Y≤r*2
    · obtain ⟨t1,t2⟩:=step 1 (by rw [Nat.mul_add,Nat.mul_one,Nat.mul_left_comm]; omega) (by omega) (by omega)
      have:=ih (i+1) (by omega)
      rw [t1,t2] at this
      rw [Aqx (by omega),Aqw,Cg (by omega) (by omega)]
      have e3:((r*2:Nat):Int)-(Y:Int)=((2*r-1*Y:Nat):Int):=by omega
      have e4:q*2^1+1=2*q+1:=by omega
      rw [e3,e4]
      exact this
    · obtain ⟨t1,t2⟩:=step 0 (by rw [Nat.add_zero,Nat.mul_left_comm]; omega) (by omega) (by omega)
      have:=ih (i+1) (by omega)
      rw [t1,t2] at this
      rw [Aq1 (by omega),Aq0]
      have e3:r*2=2*r-0*Y:=by omega
      have e4:q*2^1=2*q+0:=by omega
      rw [e3,e4]
      exact this
theorem Alp {a b:Nat} (ha:Av a≠0) (hb:Av b≠0) :
    times.Div.L0 62 62 a b (A3 (Int.tdiv (Cb a) (Cb b))) (Int.tmod (Cb a) (Cb b)) (0:Int) =
      some (.tup [.int .u64 ((Co (D3 a !=D3 b) (Ch (Fl (Av a) (Av b) 120) (Be a-Be b-121)):Nat):Int),.int .u8 ((flagsOf (Fl (Av a) (Av b) 120) (Be a-Be b-121):Nat):Int)]):=by
  obtain ⟨a1,a2,a3,a4⟩:=Lp ha
  obtain ⟨b1,b2,b3,b4⟩:=Lp hb
  have ea:=Ea a
  have eb:=Ea b
  have ma:Cb (a:Int)=((Av a*2^Bs a:Nat):Int):=rfl
  have mb:Cb (b:Int)=((Av b*2^Bs b:Nat):Int):=rfl
  have na:F0 (a:Int)=Be a-Bs a:=rfl
  have nb:F0 (b:Int)=Be b-Bs b:=rfl
  have sL:=Abh (Av a) (Av b*2^Bs b) (Bs a) 61
  have hpos:0<Av b*2^Bs b:=by omega
  have hq1:2^53≤Av a*2^Bs a*2^61 / (Av b*2^Bs b):=by
    rw [Nat.le_div_iff_mul_le hpos]; omega
  have hqq:2^60≤Av a*2^Bs a*2^61 / (Av b*2^Bs b):=by
    rw [Nat.le_div_iff_mul_le hpos]; omega
  have hq2:Av a*2^Bs a*2^61 / (Av b*2^Bs b)<2^62:=by
    rw [Nat.div_lt_iff_lt_mul hpos]; omega
  have hstick:Fl (Av a*2^Bs a) (Av b*2^Bs b) 61=Fl (Av a) (Av b) (61+Bs a-Bs b):=by
    rw [sL]
    have:61+Bs a=61+Bs a-Bs b+Bs b:=by omega
    conv=>lhs; rw [this]
    rw [Y6]
  have hge1:2^53≤Av a*2^(61+Bs a-Bs b) / Av b:=by
    have e1:Av a*2^Bs a*2^61=Av a*2^(61+Bs a-Bs b)*2^Bs b:=by
      rw [Nat.mul_assoc,← Nat.pow_add,Nat.mul_assoc,← Nat.pow_add]
      congr 2
      omega
    rw [e1,Nat.mul_div_mul_right _ _ (Cd _)] at hq1
    exact hq1
  have hge2:2^53≤Av a*2^120 / Av b:=Anj (t:=53) (by omega) (by omega) (by have:=Ei b; omega) (by omega)
  obtain ⟨s1,s2⟩:=Abg (X:=Av a) (Y:=Av b) (K:=61+Bs a-Bs b) (L:=120) (E:=Be a-Bs a-(Be b-Bs b)-61-1) (F:=Be a-Be b-121) (by omega) hge1 hge2 (by omega)
  have d1:A3 (Int.tdiv (Cb a) (Cb b))=((Av a*2^Bs a*2^0 / (Av b*2^Bs b):Nat):Int):=by
    rw [ma,mb,Hv,Nat.pow_zero,Nat.mul_one]
    have h1:=Nat.div_le_self (Av a*2^Bs a) (Av b*2^Bs b)
    have h2:Av a*2^Bs a / (Av b*2^Bs b)<2^64:=Nat.lt_of_le_of_lt h1 (Nat.lt_trans a3 (by decide))
    generalize Av a*2^Bs a / (Av b*2^Bs b)=q at h2 ⊢
    exact Cg (Int.natCast_nonneg q) (by omega)
  have d2:Int.tmod (Cb a) (Cb b)=((Av a*2^Bs a*2^0%(Av b*2^Bs b):Nat):Int):=by
    rw [ma,mb,G7,Nat.pow_zero,Nat.mul_one]
  rw [d1,d2]
  have lp:=Ai5 62 (a:=a) (b:=b) hpos b3 (X:=Av a*2^Bs a) (by omega) mb 61 0 (by omega)
  refine lp.trans ?_
  rw [times.Div.At,Aq,na,nb,Aq1 (by omega),Aq0]
  have we:Ab (Ab (Be a-Bs a-(Be b-Bs b))-61)=Be a-Bs a-(Be b-Bs b)-61:=by
    rw [An (x:=Be a-Bs a-(Be b-Bs b)) (by omega) (by omega),An (by omega) (by omega)]
  have hne:(((Av a*2^Bs a*2^61%(Av b*2^Bs b):Nat):Int) !=(0:Int))=decide (Av a*2^Bs a*2^61%(Av b*2^Bs b)≠0):=by
    rw [Arc]; simp only [bne_iff_ne,ne_eq,Aq3]; omega
  rw [we,hne]
  have hw:Lz ((Av a*2^Bs a*2^61 / (Av b*2^Bs b):Nat):Int) (Be a-Bs a-(Be b-Bs b)-61)=true:=Ao.2 ⟨by omega,by omega,by omega,by omega⟩
  have hn:Dd (a:Int)=D3 a:=rfl
  have hn':Dd (b:Int)=D3 b:=rfl
  rw [hw,Aqw,Xw,hn,hn']
  unfold Dz Dy
  rw [Aqy,Ae2 _ rfl rfl hq1,hstick,s1,s2]
theorem times.Div.known:times.Div.Kn:=times.Div.Ad (.cons soft.Kind.known (.cons soft.Sign.known (.cons times.nan.known (.cons times.norm.known (.cons times.signed.known (.cons times.wide.known .nil)))))) fun a b hp=>by
  obtain ⟨ha,hb⟩:=Af.1 hp
  obtain ⟨a,rfl,hn⟩:=Bt ha
  obtain ⟨b,rfl,hm⟩:=Bt hb
  refine ⟨62,times.Div.out [.i a,.i b],[],?_,Wk.Gb (.cons .int (.cons .int .nil))⟩
  have i1:Ai (9218868437227405312:Int)=true:=B0 (n:=9218868437227405312) (by decide)
  have i2:Ai (0:Int)=true:=B0 (n:=0) (by decide)
  rw [times.Div.ev,ha,hb,Adk,Og,Og,k3,k3,k0,k0,i1,i2,Aaf,Vx,Xw]
  show _=some (DV.tup [.int .u64 (((Aco a b).1:Nat):Int),.int .u8 (((Aco a b).2:Nat):Int)])
  have ea:Dd (a:Int)=D3 a:=rfl
  have eb:Dd (b:Int)=D3 b:=rfl
  rw [ea,eb]
  unfold Aco
  rw [Aq2,Aqw,Aqw,Aqw,Aqw,Aqw]
  by_cases h4:As a=4∨As b=4
  · have c4:(decide (As a=4)||decide (As b=4))=true:=by simp; exact h4
    rw [if_pos h4,c4,Aqw]; rfl
  · have c4:(decide (As a=4)||decide (As b=4))=false:=by simp; omega
    rw [if_neg h4,c4,Aq0]
    by_cases h1:As a=As b∧(As a=3∨As a=0)
    · have c1:(decide (As a=3)&&decide (As b=3)||decide (As a=0)&&decide (As b=0))=true:=by simp; omega
      rw [if_pos h1,c1,Aqw]; rfl
    · have c1:(decide (As a=3)&&decide (As b=3)||decide (As a=0)&&decide (As b=0))=false:=by simp; omega
      rw [if_neg h1,c1,Aq0]
      by_cases h2:As a=3
      · rw [if_pos h2,Aqx h2,Aqw]; rfl
      · rw [if_neg h2,Aq1 h2,Aq0]
        by_cases h3:As b=3∨As a=0
        · have c3:(decide (As b=3)||decide (As a=0))=true:=by simp; exact h3
          rw [if_pos h3,c3,Aqw]; rfl
        · have c3:(decide (As b=3)||decide (As a=0))=false:=by simp; omega
          rw [if_neg h3,c3,Aq0]
          by_cases h5:As b=0
          · rw [if_pos h5,Aqx h5,Aqw]; rfl
          · rw [if_neg h5,Aq1 h5,Aq0]
            have pa:=Oa (b:=a) (by omega) (by omega) (by omega)
            have pb:=Oa (b:=b) (by omega) (by omega) (by omega)
            have na:Js (a:Int)=true:=Ao.2 pa
            have nb:Js (b:Int)=true:=Ao.2 pb
            have hnb:(Cb (b:Int) !=0)=true:=by
              obtain ⟨_,l2,_,_⟩:=Lp pb
              have mb:Cb (b:Int)=((Av b*2^Bs b:Nat):Int):=rfl
              rw [mb]
              simp only [bne_iff_ne,ne_eq]
              omega
            rw [na,nb,hnb,Aq2,Aqw,Aqw,Aqw,Aqw,Alp pa pb]
namespace EqVec
def Ae.Add.Ba:List (Nat × Entry):=[(232,sum.Add.spec)]
def Ae.Add.E:Env:=Bc (A9 Ae.Add.Ba) (fun _=>false) (fun _=>none) (fun _=>none)
theorem Ae.Add.ev (N:Nat) (a b:Int):By Ae.Add.E N Tryz.f226 (Am Tryz.f226) [.int .u64 a,.int .u64 b]=bif (Ai a&&Ai b) then some (.int .u64 (Jm a b)) else none:=by kernel_rfl
abbrev _root_.Go.Proofs.S1.Ae.Add.Kn:=A7 Tryz.prog 226 Ae.Add.spec
theorem Ae.Add.Ad (hk:Ax Tryz.prog Ae.Add.Ba) (h:∀ (a b:Int),Ae.Add.pre [.i a,.i b]=true→Bd Ae.Add.E Tryz.f226 [.int .u64 a,.int .u64 b] (Ae.Add.out [.i a,.i b])):Ae.Add.Kn :=
  Al (A0 hk _ _ _) Tryz.func226 (by kernel_rfl) (by kernel_rfl) h
def Ae.Sub.Ba:List (Nat × Entry):=[(207,sum.Sub.spec)]
def Ae.Sub.E:Env:=Bc (A9 Ae.Sub.Ba) (fun _=>false) (fun _=>none) (fun _=>none)
theorem Ae.Sub.ev (N:Nat) (a b:Int):By Ae.Sub.E N Tryz.f156 (Am Tryz.f156) [.int .u64 a,.int .u64 b]=bif (Ai a&&Ai b) then some (.int .u64 (Dl a b)) else none:=by kernel_rfl
abbrev _root_.Go.Proofs.S1.Ae.Sub.Kn:=A7 Tryz.prog 156 Ae.Sub.spec
theorem Ae.Sub.Ad (hk:Ax Tryz.prog Ae.Sub.Ba) (h:∀ (a b:Int),Ae.Sub.pre [.i a,.i b]=true→Bd Ae.Sub.E Tryz.f156 [.int .u64 a,.int .u64 b] (Ae.Sub.out [.i a,.i b])):Ae.Sub.Kn :=
  Al (A0 hk _ _ _) Tryz.func156 (by kernel_rfl) (by kernel_rfl) h
def Ae.Mul.Ba:List (Nat × Entry):=[(208,times.Mul.spec)]
def Ae.Mul.E:Env:=Bc (A9 Ae.Mul.Ba) (fun _=>false) (fun _=>none) (fun _=>none)
theorem Ae.Mul.ev (N:Nat) (a b:Int):By Ae.Mul.E N Tryz.f157 (Am Tryz.f157) [.int .u64 a,.int .u64 b]=bif (Ai a&&Ai b) then some (.int .u64 (Ej a b)) else none:=by kernel_rfl
abbrev _root_.Go.Proofs.S1.Ae.Mul.Kn:=A7 Tryz.prog 157 Ae.Mul.spec
theorem Ae.Mul.Ad (hk:Ax Tryz.prog Ae.Mul.Ba) (h:∀ (a b:Int),Ae.Mul.pre [.i a,.i b]=true→Bd Ae.Mul.E Tryz.f157 [.int .u64 a,.int .u64 b] (Ae.Mul.out [.i a,.i b])):Ae.Mul.Kn :=
  Al (A0 hk _ _ _) Tryz.func157 (by kernel_rfl) (by kernel_rfl) h
def Ae.fit.Ba:List (Nat × Entry):=[]
def Ae.fit.E:Env:=Bc (A9 Ae.fit.Ba) (fun _=>false) (fun _=>none) (fun _=>none)
theorem Ae.fit.ev (N:Nat) (x y:List Int):By Ae.fit.E N Tryz.f225 (Am Tryz.f225) [.ints .arg .u64 x,.ints .arg .u64 y]=some (.bool (bif ((List.length x:Int)==(List.length y:Int)) then (Iw (List.length x:Int) 64) else false)) :=
  Eq.trans (by kernel_rfl)
  (Au (N7 ((List.length x:Int)==(List.length y:Int))) (Au (Kq ((List.length x:Int)==(List.length y:Int))) (Au (Kq ((List.length x:Int)==(List.length y:Int))) (Au (Q9 ((List.length x:Int)==(List.length y:Int))) rfl))))
abbrev _root_.Go.Proofs.S1.Ae.fit.Kn:=A7 Tryz.prog 225 Ae.fit.spec
theorem Ae.fit.Ad (hk:Ax Tryz.prog Ae.fit.Ba) (h:∀ (x y:List Int),Ae.fit.pre [.l x,.l y]=true→Bd Ae.fit.E Tryz.f225 [.ints .arg .u64 x,.ints .arg .u64 y] (Ae.fit.out [.l x,.l y])):Ae.fit.Kn :=
  Al (A0 hk _ _ _) Tryz.func225 (by kernel_rfl) (by kernel_rfl) h
def Ae.M5.hint:Nat→Option A6
  | 0=>some { keep:=[0,1,6,13,14],objs:=[],boxes:=[] }
  | _=>none
def Ae.M5.Ba:List (Nat × Entry):=[(226,Ae.Add.spec),(157,Ae.Mul.spec),(225,Ae.fit.spec)]
def Ae.M5.E:Env:=Bc (A9 Ae.M5.Ba) (fun _=>false) Ae.M5.hint (fun _=>none)
def Ae.M5.L0 (N M:Nat) (x y:List Int) (p6 p14:Int):Option DV:=B2 Ae.M5.E N Tryz.f189 (Am Tryz.f189) [1,1,1,0,1,0] [] M ⟨Fw 30 [(0,.ints .arg .u64 x),(1,.ints .arg .u64 y),(6,.int .u64 p6),(13,.int .i64 (List.length x:Int)),(14,.int .i64 p14)],[]⟩
theorem Ae.M5.At (N M:Nat) (x y:List Int) (p6 p14:Int):Ae.M5.L0 N (M+1) x y p6 p14=bif (A1 p14 (List.length x:Int)) then bif ((decide (0≤p14))&&(decide (p14<(List.length x:Int)))) then bif ((decide (0≤p14))&&(decide (p14<(List.length y:Int)))) then bif (Ai (List.getD x (Int.toNat p14) 0)&&Ai (List.getD y (Int.toNat p14) 0)) then bif (Ai p6&&Ai (Ej (List.getD x (Int.toNat p14) 0) (List.getD y (Int.toNat p14) 0))) then Ae.M5.L0 N M x y (Jm p6 (Ej (List.getD x (Int.toNat p14) 0) (List.getD y (Int.toNat p14) 0))) (Ab (p14+1)) else none else none else none else none else some (.tup [.int .u64 p6,.int .i64 0]) :=
  Eq.trans (by kernel_rfl)
  (E3 (C0 (Li (decide (0≤p14)) (decide (p14<(List.length x:Int)))) (C0 (Li (decide (0≤p14)) (decide (p14<(List.length y:Int)))) (C0 (C3 (Ai (List.getD x (Int.toNat p14) 0)&&Ai (List.getD y (Int.toNat p14) 0))) (C0 (C3 (Ai p6&&Ai (Ej (List.getD x (Int.toNat p14) 0) (List.getD y (Int.toNat p14) 0)))) rfl rfl) rfl) rfl) rfl) rfl)
theorem Ae.M5.ev (N:Nat) (x y:List Int):By Ae.M5.E N Tryz.f189 (Am Tryz.f189) [.ints .arg .u64 x,.ints .arg .u64 y]=bif (!(Rv x y)) then some (.tup [.int .u64 0,.int .i64 3]) else Ae.M5.L0 N N x y 0 0:=by kernel_rfl
abbrev _root_.Go.Proofs.S1.Ae.M5.Kn:=A7 Tryz.prog 189 Ae.M5.spec
theorem Ae.M5.Ad (hk:Ax Tryz.prog Ae.M5.Ba) (h:∀ (x y:List Int),Ae.M5.pre [.l x,.l y]=true→Bd Ae.M5.E Tryz.f189 [.ints .arg .u64 x,.ints .arg .u64 y] (Ae.M5.out [.l x,.l y])):Ae.M5.Kn :=
  Al (A0 hk _ _ _) Tryz.func189 (by kernel_rfl) (by kernel_rfl) h
end EqVec
open Go Go.Den Go.Rnd Go.Proofs Ieee
open EqVec
theorem Ae.Add.known:Ae.Add.Kn:=Ae.Add.Ad (.cons sum.Add.known .nil) fun a b hp=>by
  have hp:(Ai a&&Ai b)=true:=hp
  refine ⟨0,Ae.Add.out [.i a,.i b],[],?_,.int⟩
  rw [Ae.Add.ev,hp]; rfl
theorem Ae.Sub.known:Ae.Sub.Kn:=Ae.Sub.Ad (.cons sum.Sub.known .nil) fun a b hp=>by
  have hp:(Ai a&&Ai b)=true:=hp
  refine ⟨0,Ae.Sub.out [.i a,.i b],[],?_,.int⟩
  rw [Ae.Sub.ev,hp]; rfl
theorem Ae.Mul.known:Ae.Mul.Kn:=Ae.Mul.Ad (.cons times.Mul.known .nil) fun a b hp=>by
  have hp:(Ai a&&Ai b)=true:=hp
  refine ⟨0,Ae.Mul.out [.i a,.i b],[],?_,.int⟩
  rw [Ae.Mul.ev,hp]; rfl
theorem Aim (x y:List Int):(bif ((List.length x:Int)==(List.length y:Int)) then (Iw (List.length x:Int) (64:Int)) else false)=Rv x y:=by
  unfold Rv
  rw [Er,Arc]
  by_cases h:x.length=y.length
  · have:((x.length:Int)==(y.length:Int))=true:=by rw [beq_iff_eq]; omega
    rw [this,Aqw,Aqx h,Bool.true_and,Aq3,Aq3]; omega
  · have:((x.length:Int)==(y.length:Int))=false:=by rw [beq_eq_false_iff_ne]; omega
    rw [this,Aq0,Aq1 h,Bool.false_and]
theorem Ae.fit.known:Ae.fit.Kn:=Ae.fit.Ad .nil fun x y _=>by
  refine ⟨0,Ae.fit.out [.l x,.l y],[],?_,.bool⟩
  rw [Ae.fit.ev,Aim]; rfl
theorem Yc {x y:List Int}:Rv x y=true↔x.length=y.length∧x.length≤64:=by unfold Rv; simp
theorem Aas {l:List Int} {i:Nat} (h:i<l.length):l.drop i=l.getD i 0::l.drop (i+1):=by
  rw [List.drop_eq_getElem_cons h,Aq6,Ard h]; rfl
theorem Ai2 {x y:List Int} {i:Nat} (s:Nat) (hx:i<x.length) (hy:i<y.length) :
    Aau s (x.drop i) (y.drop i)=Aau (N1 s (Vo (x.getD i 0).toNat (y.getD i 0).toNat).1).1 (x.drop (i+1)) (y.drop (i+1)):=by
  rw [Aas hx,Aas hy]; rfl
theorem Ai3 (N:Nat) {x y:List Int} (hf:Rv x y=true) (hx:Ah x=true) (hy:Ah y=true):∀ (k i F s:Nat),i+k=x.length→k<F→s<2^64 →
    Ae.M5.L0 N F x y (s:Int) (i:Int)=some (.tup [.int .u64 ((Aau s (x.drop i) (y.drop i):Nat):Int),.int .i64 (0:Int)]):=by
  obtain ⟨h1,h2⟩:=Yc.1 hf
  intro k
  induction k with
  | zero =>
    intro i F s hi hF hs
    obtain ⟨F,rfl⟩:∃ G,F=G+1:=⟨F-1,by omega⟩
    rw [Ae.M5.At,Aq,Aq1 (by omega),Aq0,Ara (by omega)]
    rfl
  | succ k ih =>
    intro i F s hi hF hs
    obtain ⟨F,rfl⟩:∃ G,F=G+1:=⟨F-1,by omega⟩
    have c1:decide ((i:Int)<(x.length:Int))=true:=Aqx (by omega)
    have c2:decide ((i:Int)<(y.length:Int))=true:=Aqx (by omega)
    have c3:decide ((0:Int)≤(i:Int))=true:=Aqx (by omega)
    have g1:=Yt hx (show i<x.length by omega)
    have g2:=Yt hy (show i<y.length by omega)
    have em:Ej (x.getD i 0) (y.getD i 0)=(((Vo (x.getD i 0).toNat (y.getD i 0).toNat).1:Nat):Int):=rfl
    have ea:∀ t:Nat,Jm (s:Int) (t:Int)=(((N1 s t).1:Nat):Int):=fun t=>rfl
    rw [Ae.M5.At,Aq,c1,c2,c3,Aqy,g1,g2,em,ea,B0 hs,B0 Tb,Aq2,Aqw,Aqw,Aqw,Aqw,Aqw,An (by omega) (by omega),Ai2 s (by omega) (by omega)]
    exact ih (i+1) F _ (by omega) (by omega) (Ti hs Tb).1
theorem Ae.M5.known:Ae.M5.Kn:=Ae.M5.Ad (.cons Ae.Add.known (.cons Ae.Mul.known (.cons Ae.fit.known .nil))) fun x y hp=>by
  obtain ⟨h1,hy⟩:=Af.1 hp
  obtain ⟨hf,hx⟩:=Af.1 h1
  refine ⟨x.length+1,Ae.M5.out [.l x,.l y],[],?_,Wk.Gb (.cons .int (.cons .int .nil))⟩
  rw [Ae.M5.ev,hf,Bool.not_true,Aq0]
  exact Ai3 _ hf hx hy x.length 0 _ 0 (by omega) (by omega) (by decide)
namespace EqMat
def Aa.size.Ba:List (Nat × Entry):=[]
def Aa.size.E:Env:=Bc (A9 Aa.size.Ba) (fun _=>false) (fun _=>none) (fun _=>none)
theorem Aa.size.ev (N:Nat) (n:Int):By Aa.size.E N Tryz.f204 (Am Tryz.f204) [.int .i64 n]=some (.bool (bif (Iw 0 n) then (Iw n 6) else false)) :=
  Eq.trans (by kernel_rfl)
  (Au (N7 (Iw 0 n)) (Au (Kq (Iw 0 n)) (Au (Q9 (Iw 0 n)) rfl)))
abbrev _root_.Go.Proofs.S1.Aa.size.Kn:=A7 Tryz.prog 204 Aa.size.spec
theorem Aa.size.Ad (hk:Ax Tryz.prog Aa.size.Ba) (h:∀ (n:Int),Aa.size.pre [.i n]=true→Bd Aa.size.E Tryz.f204 [.int .i64 n] (Aa.size.out [.i n])):Aa.size.Kn :=
  Al (A0 hk _ _ _) Tryz.func204 (by kernel_rfl) (by kernel_rfl) h
def Aa.Check.Ba:List (Nat × Entry):=[(204,Aa.size.spec)]
def Aa.Check.E:Env:=Bc (A9 Aa.Check.Ba) (fun _=>false) (fun _=>none) (fun _=>none)
theorem Aa.Check.ev (N:Nat) (r c:Int) (l:List Int):By Aa.Check.E N Tryz.f160 (Am Tryz.f160) [.agg [.int .i64 r,.int .i64 c,.ints .arg .u64 l]]=bif (((!(Bn r))||(!(Bn c)))||((List.length l:Int) !=(Ab (r*c)))) then some (.int .i64 1) else some (.int .i64 0) :=
  Eq.trans (by kernel_rfl)
  (Au (Ad6 (Bn r)) (Au (Tq (Bn r)) (Au (Tq (Bn r)) (Au (Tq (Bn r)) (Au (Ad7 (Bn r)) (Au (Am5 (Bn r) (Bn c)) (Au (Aj9 (Bn r) (Bn c)) (Au (Aj9 (Bn r) (Bn c)) (Au (Am5 (Bn r) (Bn c)) (Au (Aj9 (Bn r) (Bn c)) (Au (Am5 (Bn r) (Bn c)) (Au (Aj9 (Bn r) (Bn c)) (Au (Apr (Bn r) (Bn c)) (Au (Apr (Bn r) (Bn c)) (Au (tt39 (Bn r) (Bn c)) (C0 (tt38 (Bn r) (Bn c) ((List.length l:Int) !=(Ab (r*c)))) rfl rfl))))))))))))))))
abbrev _root_.Go.Proofs.S1.Aa.Check.Kn:=A7 Tryz.prog 160 Aa.Check.spec
theorem Aa.Check.Ad (hk:Ax Tryz.prog Aa.Check.Ba) (h:∀ (r c:Int) (l:List Int),Aa.Check.pre [.i r,.i c,.l l]=true→Bd Aa.Check.E Tryz.f160 [.agg [.int .i64 r,.int .i64 c,.ints .arg .u64 l]] (Aa.Check.out [.i r,.i c,.l l])):Aa.Check.Kn :=
  Al (A0 hk _ _ _) Tryz.func160 (by kernel_rfl) (by kernel_rfl) h
def Aa.get.Ba:List (Nat × Entry):=[]
def Aa.get.E:Env:=Bc (A9 Aa.get.Ba) (fun _=>false) (fun _=>none) (fun _=>none)
theorem Aa.get.ev (N:Nat) (r c:Int) (l:List Int) (i k:Int):By Aa.get.E N Tryz.f193 (Am Tryz.f193) [.agg [.int .i64 r,.int .i64 c,.ints .arg .u64 l],.int .i64 i,.int .i64 k]=bif ((decide (0≤(Ab ((Ab (i*c))+k))))&&(decide ((Ab ((Ab (i*c))+k))<(List.length l:Int)))) then some (.int .u64 (List.getD l (Int.toNat (Ab ((Ab (i*c))+k))) 0)) else none:=by kernel_rfl
abbrev _root_.Go.Proofs.S1.Aa.get.Kn:=A7 Tryz.prog 193 Aa.get.spec
theorem Aa.get.Ad (hk:Ax Tryz.prog Aa.get.Ba) (h:∀ (r c:Int) (l:List Int) (i k:Int),Aa.get.pre [.i r,.i c,.l l,.i i,.i k]=true→Bd Aa.get.E Tryz.f193 [.agg [.int .i64 r,.int .i64 c,.ints .arg .u64 l],.int .i64 i,.int .i64 k] (Aa.get.out [.i r,.i c,.l l,.i i,.i k])):Aa.get.Kn :=
  Al (A0 hk _ _ _) Tryz.func193 (by kernel_rfl) (by kernel_rfl) h
def Aa.two.Ba:List (Nat × Entry):=[(160,Aa.Check.spec)]
def Aa.two.E:Env:=Bc (A9 Aa.two.Ba) (fun _=>false) (fun _=>none) (fun _=>none)
theorem Aa.two.ev (N:Nat) (r c:Int) (l:List Int) (p q:Int) (m:List Int):By Aa.two.E N Tryz.f186 (Am Tryz.f186) [.agg [.int .i64 r,.int .i64 c,.ints .arg .u64 l],.agg [.int .i64 p,.int .i64 q,.ints .arg .u64 m]]=bif (((Io r c l) !=(0:Int))||((Io p q m) !=(0:Int))) then some (.int .i64 1) else some (.int .i64 0) :=
  Eq.trans (by kernel_rfl)
  (Au (Vk ((Io r c l) !=(0:Int))) (Au (Tp ((Io r c l) !=(0:Int))) (Au (Tp ((Io r c l) !=(0:Int))) (Au (tt6 ((Io r c l) !=(0:Int))) (C0 (tt5 ((Io r c l) !=(0:Int)) ((Io p q m) !=(0:Int))) rfl rfl)))))
abbrev _root_.Go.Proofs.S1.Aa.two.Kn:=A7 Tryz.prog 186 Aa.two.spec
theorem Aa.two.Ad (hk:Ax Tryz.prog Aa.two.Ba) (h:∀ (r c:Int) (l:List Int) (p q:Int) (m:List Int),Aa.two.pre [.i r,.i c,.l l,.i p,.i q,.l m]=true→Bd Aa.two.E Tryz.f186 [.agg [.int .i64 r,.int .i64 c,.ints .arg .u64 l],.agg [.int .i64 p,.int .i64 q,.ints .arg .u64 m]] (Aa.two.out [.i r,.i c,.l l,.i p,.i q,.l m])):Aa.two.Kn :=
  Al (A0 hk _ _ _) Tryz.func186 (by kernel_rfl) (by kernel_rfl) h
def Aa.Row.Ba:List (Nat × Entry):=[]
def Aa.Row.E:Env:=Bc (A9 Aa.Row.Ba) (fun _=>false) (fun _=>none) (fun _=>none)
theorem Aa.Row.ev (N:Nat) (r c:Int) (l:List Int) (i f:Int):By Aa.Row.E N Tryz.f190 (Am Tryz.f190) [.agg [.int .i64 r,.int .i64 c,.ints .arg .u64 l],.int .i64 i,.int .i64 f]=bif (((decide ((0:Int)≤(Ab ((Ab (i*c))+f))))&&(decide ((Ab ((Ab (i*c))+f))≤(Ab ((Ab (i+1))*c)))))&&((decide ((0:Int)≤(Ab ((Ab (i+1))*c))))&&(decide ((Ab ((Ab (i+1))*c))≤(List.length l:Int))))) then bif (decide (0+(List.length (List.drop (Int.toNat (Ab ((Ab (i*c))+f))) (List.take (Int.toNat (Ab ((Ab (i+1))*c))) l)))≤Gq)) then some (.ints (.own 22 37) .u64 ([]++(List.drop (Int.toNat (Ab ((Ab (i*c))+f))) (List.take (Int.toNat (Ab ((Ab (i+1))*c))) l)))) else none else none :=
  Eq.trans (by kernel_rfl)
  (C0 (tt43 (decide ((0:Int)≤(Ab ((Ab (i*c))+f)))) (decide ((Ab ((Ab (i*c))+f))≤(Ab ((Ab (i+1))*c)))) (decide ((0:Int)≤(Ab ((Ab (i+1))*c)))) (decide ((Ab ((Ab (i+1))*c))≤(List.length l:Int)))) rfl rfl)
abbrev _root_.Go.Proofs.S1.Aa.Row.Kn:=A7 Tryz.prog 190 Aa.Row.spec
theorem Aa.Row.Ad (hk:Ax Tryz.prog Aa.Row.Ba) (h:∀ (r c:Int) (l:List Int) (i f:Int),Aa.Row.pre [.i r,.i c,.l l,.i i,.i f]=true→Bd Aa.Row.E Tryz.f190 [.agg [.int .i64 r,.int .i64 c,.ints .arg .u64 l],.int .i64 i,.int .i64 f] (Aa.Row.out [.i r,.i c,.l l,.i i,.i f])):Aa.Row.Kn :=
  Al (A0 hk _ _ _) Tryz.func190 (by kernel_rfl) (by kernel_rfl) h
def Aa.Cz.hint:Nat→Option A6
  | 0=>some { keep:=[1,3,7,8],objs:=[(0,7,100007,.ints 37 .u64 [])],boxes:=[3] }
  | _=>none
def Aa.Cz.Ba:List (Nat × Entry):=[(193,Aa.get.spec)]
def Aa.Cz.E:Env:=Bc (A9 Aa.Cz.Ba) (fun _=>false) Aa.Cz.hint (fun _=>none)
def Aa.Cz.L0 (N M:Nat) (r c:Int) (l:List Int) (k p8:Int) (p7:List Int):Option DV:=B2 Aa.Cz.E N Tryz.f191 (Am Tryz.f191) [1,1,0,1,0] [] M ⟨Fw 24 [(1,.int .i64 k),(3,.ptr 3 0 0),(7,.oref 100007),(8,.int .i64 p8)],[(3,false,.box [.int .i64 r,.int .i64 c,.ints .arg .u64 l]),(100007,false,.ints 37 .u64 p7)]⟩
theorem Aa.Cz.At (N M:Nat) (r c:Int) (l:List Int) (k p8:Int) (p7:List Int):Aa.Cz.L0 N (M+1) r c l k p8 p7=bif (A1 p8 r) then bif (D1 r c l p8 k) then bif (decide ((List.length p7)+1≤Gq)) then Aa.Cz.L0 N M r c l k (Ab (p8+1)) (p7++[(Ef c l p8 k)]) else none else none else some (.ints (.own 100007 37) .u64 p7):=by kernel_rfl
theorem Aa.Cz.ev (N:Nat) (r c:Int) (l:List Int) (k f:Int):By Aa.Cz.E N Tryz.f191 (Am Tryz.f191) [.agg [.int .i64 r,.int .i64 c,.ints .arg .u64 l],.int .i64 k,.int .i64 f] =
  Aa.Cz.L0 N N r c l k f []:=by kernel_rfl
abbrev _root_.Go.Proofs.S1.Aa.Cz.Kn:=A7 Tryz.prog 191 Aa.Cz.spec
theorem Aa.Cz.Ad (hk:Ax Tryz.prog Aa.Cz.Ba) (h:∀ (r c:Int) (l:List Int) (k f:Int),Aa.Cz.pre [.i r,.i c,.l l,.i k,.i f]=true→Bd Aa.Cz.E Tryz.f191 [.agg [.int .i64 r,.int .i64 c,.ints .arg .u64 l],.int .i64 k,.int .i64 f] (Aa.Cz.out [.i r,.i c,.l l,.i k,.i f])):Aa.Cz.Kn :=
  Al (A0 hk _ _ _) Tryz.func191 (by kernel_rfl) (by kernel_rfl) h
def Aa.Dk.Ba:List (Nat × Entry):=[]
def Aa.Dk.E:Env:=Bc (A9 Aa.Dk.Ba) (fun _=>false) (fun _=>none) (fun _=>none)
theorem Aa.Dk.ev (N:Nat) (i k:Int):By Aa.Dk.E N Tryz.f205 (Am Tryz.f205) [.int .i64 i,.int .i64 k]=some (.int .u64 0):=by kernel_rfl
abbrev _root_.Go.Proofs.S1.Aa.Dk.Kn:=A7 Tryz.prog 205 Aa.Dk.spec
theorem Aa.Dk.Ad (hk:Ax Tryz.prog Aa.Dk.Ba) (h:∀ (i k:Int),Aa.Dk.pre [.i i,.i k]=true→Bd Aa.Dk.E Tryz.f205 [.int .i64 i,.int .i64 k] (Aa.Dk.out [.i i,.i k])):Aa.Dk.Kn :=
  Al (A0 hk _ _ _) Tryz.func205 (by kernel_rfl) (by kernel_rfl) h
def Aa.Gk.Ba:List (Nat × Entry):=[]
def Aa.Gk.E:Env:=Bc (A9 Aa.Gk.Ba) (fun _=>false) (fun _=>none) (fun _=>none)
theorem Aa.Gk.ev (N:Nat) (i k:Int):By Aa.Gk.E N Tryz.f246 (Am Tryz.f246) [.int .i64 i,.int .i64 k]=bif (i==k) then some (.int .u64 4607182418800017408) else some (.int .u64 0):=by kernel_rfl
abbrev _root_.Go.Proofs.S1.Aa.Gk.Kn:=A7 Tryz.prog 246 Aa.Gk.spec
theorem Aa.Gk.Ad (hk:Ax Tryz.prog Aa.Gk.Ba) (h:∀ (i k:Int),Aa.Gk.pre [.i i,.i k]=true→Bd Aa.Gk.E Tryz.f246 [.int .i64 i,.int .i64 k] (Aa.Gk.out [.i i,.i k])):Aa.Gk.Kn :=
  Al (A0 hk _ _ _) Tryz.func246 (by kernel_rfl) (by kernel_rfl) h
def Aa.Es.Ba:List (Nat × Entry):=[(193,Aa.get.spec)]
def Aa.Es.E:Env:=Bc (A9 Aa.Es.Ba) (fun _=>false) (fun _=>none) (fun _=>none)
theorem Aa.Es.ev (N:Nat) (i k:Int) (r c:Int) (l:List Int):By Aa.Es.E N Tryz.f220 (Am Tryz.f220) [.int .i64 i,.int .i64 k,.cellp [.int .i64 r,.int .i64 c,.ints .arg .u64 l]]=bif (D1 r c l k i) then some (.int .u64 (Ef c l k i)) else none:=by kernel_rfl
abbrev _root_.Go.Proofs.S1.Aa.Es.Kn:=A7 Tryz.prog 220 Aa.Es.spec
theorem Aa.Es.Ad (hk:Ax Tryz.prog Aa.Es.Ba) (h:∀ (i k:Int) (r c:Int) (l:List Int),Aa.Es.pre [.i i,.i k,.i r,.i c,.l l]=true→Bd Aa.Es.E Tryz.f220 [.int .i64 i,.int .i64 k,.cellp [.int .i64 r,.int .i64 c,.ints .arg .u64 l]] (Aa.Es.out [.i i,.i k,.i r,.i c,.l l])):Aa.Es.Kn :=
  Al (A0 hk _ _ _) Tryz.func220 (by kernel_rfl) (by kernel_rfl) h
def Aa.Eu.Ba:List (Nat × Entry):=[(193,Aa.get.spec)]
def Aa.Eu.E:Env:=Bc (A9 Aa.Eu.Ba) (fun _=>false) (fun _=>none) (fun _=>none)
theorem Aa.Eu.ev (N:Nat) (i k:Int) (r c:Int) (l:List Int) (x y:Int):By Aa.Eu.E N Tryz.f192 (Am Tryz.f192) [.int .i64 i,.int .i64 k,.cellp [.int .i64 r,.int .i64 c,.ints .arg .u64 l],.cellp [.int .i64 x],.cellp [.int .i64 y]]=bif (D1 r c l (Ab (x+i)) (Ab (y+k))) then some (.int .u64 (Ef c l (Ab (x+i)) (Ab (y+k)))) else none:=by kernel_rfl
abbrev _root_.Go.Proofs.S1.Aa.Eu.Kn:=A7 Tryz.prog 192 Aa.Eu.spec
theorem Aa.Eu.Ad (hk:Ax Tryz.prog Aa.Eu.Ba) (h:∀ (i k:Int) (r c:Int) (l:List Int) (x y:Int),Aa.Eu.pre [.i i,.i k,.i r,.i c,.l l,.i x,.i y]=true→Bd Aa.Eu.E Tryz.f192 [.int .i64 i,.int .i64 k,.cellp [.int .i64 r,.int .i64 c,.ints .arg .u64 l],.cellp [.int .i64 x],.cellp [.int .i64 y]] (Aa.Eu.out [.i i,.i k,.i r,.i c,.l l,.i x,.i y])):Aa.Eu.Kn :=
  Al (A0 hk _ _ _) Tryz.func192 (by kernel_rfl) (by kernel_rfl) h
def Aa.Gg.Ba:List (Nat × Entry):=[(193,Aa.get.spec),(156,Ae.Sub.spec)]
def Aa.Gg.E:Env:=Bc (A9 Aa.Gg.Ba) (fun _=>false) (fun _=>none) (fun _=>none)
theorem Aa.Gg.ev (N:Nat) (i k:Int) (r c:Int) (l:List Int) (p q:Int) (m:List Int):By Aa.Gg.E N Tryz.f194 (Am Tryz.f194) [.int .i64 i,.int .i64 k,.cellp [.int .i64 r,.int .i64 c,.ints .arg .u64 l],.cellp [.int .i64 p,.int .i64 q,.ints .arg .u64 m]]=bif (D1 r c l i k) then bif (D1 p q m i k) then bif (Ai (Ef c l i k)&&Ai (Ef q m i k)) then some (.int .u64 (Dl (Ef c l i k) (Ef q m i k))) else none else none else none :=
  Eq.trans (by kernel_rfl)
  (C0 (C3 (D1 r c l i k)) (C0 (C3 (D1 p q m i k)) (C0 (C3 (Ai (Ef c l i k)&&Ai (Ef q m i k))) rfl rfl) rfl) rfl)
abbrev _root_.Go.Proofs.S1.Aa.Gg.Kn:=A7 Tryz.prog 194 Aa.Gg.spec
theorem Aa.Gg.Ad (hk:Ax Tryz.prog Aa.Gg.Ba) (h:∀ (i k:Int) (r c:Int) (l:List Int) (p q:Int) (m:List Int),Aa.Gg.pre [.i i,.i k,.i r,.i c,.l l,.i p,.i q,.l m]=true→Bd Aa.Gg.E Tryz.f194 [.int .i64 i,.int .i64 k,.cellp [.int .i64 r,.int .i64 c,.ints .arg .u64 l],.cellp [.int .i64 p,.int .i64 q,.ints .arg .u64 m]] (Aa.Gg.out [.i i,.i k,.i r,.i c,.l l,.i p,.i q,.l m])):Aa.Gg.Kn :=
  Al (A0 hk _ _ _) Tryz.func194 (by kernel_rfl) (by kernel_rfl) h
def Aa.Gh.Ba:List (Nat × Entry):=[(191,Aa.Cz.spec),(190,Aa.Row.spec),(189,Ae.M5.spec)]
def Aa.Gh.E:Env:=Bc (A9 Aa.Gh.Ba) (fun _=>false) (fun _=>none) (fun _=>none)
theorem Aa.Gh.ev (N:Nat) (i k:Int) (r c:Int) (l:List Int) (p q:Int) (m:List Int):By Aa.Gh.E N Tryz.f188 (Am Tryz.f188) [.int .i64 i,.int .i64 k,.cellp [.int .i64 r,.int .i64 c,.ints .arg .u64 l],.cellp [.int .i64 p,.int .i64 q,.ints .arg .u64 m]]=bif (Xn r c l i&&decide ((0:Int)=0)) then bif (Ki p q m k&&Cn (0≤(0:Int)∧(0:Int)≤p)) then bif ((Rv (Ko c l i) (Dg q m k 0 (Int.toNat (p-0)))&&Ah (Ko c l i))&&Ah (Dg q m k 0 (Int.toNat (p-0)))) then some (.int .u64 (M3 (Ko c l i) (Dg q m k 0 (Int.toNat (p-0))))) else none else none else none :=
  Eq.trans (by kernel_rfl)
  (C0 (C3 (Xn r c l i&&decide ((0:Int)=0))) (C0 (C3 (Ki p q m k&&Cn (0≤(0:Int)∧(0:Int)≤p))) (C0 (C3 ((Rv (Ko c l i) (Dg q m k 0 (Int.toNat (p-0)))&&Ah (Ko c l i))&&Ah (Dg q m k 0 (Int.toNat (p-0))))) rfl rfl) rfl) rfl)
abbrev _root_.Go.Proofs.S1.Aa.Gh.Kn:=A7 Tryz.prog 188 Aa.Gh.spec
theorem Aa.Gh.Ad (hk:Ax Tryz.prog Aa.Gh.Ba) (h:∀ (i k:Int) (r c:Int) (l:List Int) (p q:Int) (m:List Int),Aa.Gh.pre [.i i,.i k,.i r,.i c,.l l,.i p,.i q,.l m]=true→Bd Aa.Gh.E Tryz.f188 [.int .i64 i,.int .i64 k,.cellp [.int .i64 r,.int .i64 c,.ints .arg .u64 l],.cellp [.int .i64 p,.int .i64 q,.ints .arg .u64 m]] (Aa.Gh.out [.i i,.i k,.i r,.i c,.l l,.i p,.i q,.l m])):Aa.Gh.Kn :=
  Al (A0 hk _ _ _) Tryz.func188 (by kernel_rfl) (by kernel_rfl) h
end EqMat
open EqMat
theorem Lj {a b:Int} (h1:0≤a) (h2:a<20) (h3:0≤b) (h4:b<20):0≤a*b∧a*b<400:=by
  have:=Int.mul_nonneg h1 h3
  have h5:a*b≤19*19:=Int.mul_le_mul (by omega) (by omega) h3 (by omega)
  omega
theorem Aa.size.known:Aa.size.Kn:=Aa.size.Ad .nil fun n _=>by
  refine ⟨0,Aa.size.out [.i n],[],?_,.bool⟩
  have e:(bif (Iw (0:Int) n) then (Iw n (6:Int)) else false)=Bn n:=by
    unfold Bn
    rw [Er,Er]
    cases decide (0≤n)<;>rfl
  rw [Aa.size.ev,e]; rfl
theorem Aja (r c:Int) (l:List Int):(((!(Bn r))||(!(Bn c)))||((List.length l:Int) !=(Ab (r*c))))=!(Bh r c l):=by
  unfold Bh
  cases h1:Bn r with
  | false=>rfl
  | true =>
    cases h2:Bn c with
    | false=>rfl
    | true =>
      obtain ⟨r1,r2⟩:=G8.1 h1
      obtain ⟨c1,c2⟩:=G8.1 h2
      have:=Lj (a:=r) (b:=c) r1 (by omega) c1 (by omega)
      rw [An (by omega) (by omega),Arc]
      simp
theorem Aa.Check.known:Aa.Check.Kn:=Aa.Check.Ad (.cons Aa.size.known .nil) fun r c l _=>by
  refine ⟨0,Aa.Check.out [.i r,.i c,.l l],[],?_,.int⟩
  rw [Aa.Check.ev,Aja]
  show _=some (DV.int .i64 (Io r c l))
  unfold Io
  cases Bh r c l<;>rfl
theorem Gy {c i k:Int} {l:List Int} {R:Int} (h:D1 R c l i k=true):Ab (Ab (i*c)+k)=i*c+k∧0≤i*c+k∧i*c+k<l.length:=by
  obtain ⟨h1,h2,h3,h4,h5,h6,h7,_⟩:=Ao.1 h
  have:=Lj h1 (by omega) h5 (by omega)
  rw [An (x:=i*c) (by omega) (by omega),An (by omega) (by omega)]
  omega
theorem Aa.get.known:Aa.get.Kn:=Aa.get.Ad .nil fun r c l i k hp=>by
  obtain ⟨e,h1,h2⟩:=Gy (R:=r) (show D1 r c l i k=true from hp)
  refine ⟨0,Aa.get.out [.i r,.i c,.l l,.i i,.i k],[],?_,.int⟩
  rw [Aa.get.ev,e,Aqx h1,Aqx h2]
  rfl
theorem Ps (r c:Int) (l:List Int):((Io r c l) !=(0:Int))=!(Bh r c l):=by
  unfold Io
  cases Bh r c l<;>rfl
theorem Aa.two.known:Aa.two.Kn:=Aa.two.Ad (.cons Aa.Check.known .nil) fun r c l p q m _=>by
  refine ⟨0,Aa.two.out [.i r,.i c,.l l,.i p,.i q,.l m],[],?_,.int⟩
  rw [Aa.two.ev,Ps,Ps]
  show _=some (DV.int .i64 (Tn r c l p q m))
  unfold Tn
  cases Bh r c l<;>cases Bh p q m<;>rfl
theorem Aa.Row.known:Aa.Row.Kn:=Aa.Row.Ad .nil fun r c l i f hp=>by
  obtain ⟨h0,hf⟩:=Af.1 hp
  obtain rfl:=of_decide_eq_true hf
  obtain ⟨hr,hi⟩:=Af.1 h0
  have hi:=Ao.1 hi
  obtain ⟨R,C,rfl,rfl,r6,c6,hl⟩:=C1 hr
  obtain ⟨I,rfl⟩:∃ k:Nat,i=k:=⟨i.toNat,by omega⟩
  have hm:=Lj (a:=(I:Int)) (b:=(C:Int)) (by omega) (by omega) (by omega) (by omega)
  have hm2:=Lj (a:=(I:Int)+1) (b:=(C:Int)) (by omega) (by omega) (by omega) (by omega)
  have hle:(I+1)*C≤R*C:=Aq8 C (by omega)
  have hle2:I*C≤(I+1)*C:=Aq8 C (by omega)
  have e1:(I:Int)*(C:Int)=((I*C:Nat):Int):=(Ari _ _).symm
  have e2:((I:Int)+1)*(C:Int)=(((I+1)*C:Nat):Int):=by rw [Ari]; rfl
  refine ⟨0,.ints (.own 22 tB) .u64 (Ko (C:Int) l (I:Int)),[22],?_,.drop _ _ _ _ (List.mem_singleton.2 rfl)⟩
  rw [Aa.Row.ev,An (x:=(I:Int)+1) (by omega) (by omega),An (x:=(I:Int)*(C:Int)) (by omega) (by omega),Int.add_zero,An (x:=(I:Int)*(C:Int)) (by omega) (by omega),An (x:=((I:Int)+1)*(C:Int)) (by omega) (by omega)]
  unfold Ko
  have d1:decide ((0:Int)≤(I:Int)*(C:Int))=true:=Aqx (by omega)
  have d2:decide ((I:Int)*(C:Int)≤((I:Int)+1)*(C:Int))=true:=Aqx (by rw [e1,e2]; omega)
  have d3:decide ((0:Int)≤((I:Int)+1)*(C:Int))=true:=Aqx (by omega)
  have d4:decide (((I:Int)+1)*(C:Int)≤(l.length:Int))=true:=Aqx (by rw [e2]; omega)
  have d5:decide (0+(List.drop ((I:Int)*(C:Int)).toNat (List.take (((I:Int)+1)*(C:Int)).toNat l)).length≤Gq)=true:=by
    refine Aqx ?_
    rw [List.length_drop,List.length_take]
    unfold Gq
    omega
  rw [d1,d2,d3,d4,d5]
  rfl
theorem Ic (c b i:Int) (n:Nat) (l:List Int):(Dg c l b i n).length=n:=by unfold Dg; rw [List.length_map,List.length_range]
theorem Als (r c:Int) (l:List Int) (k:Int):Dg c l k 0 (Int.toNat (r-0))=Oq r c l k:=by
  unfold Dg Oq
  rw [Int.sub_zero]
  refine List.map_congr_left fun j _=>?_
  rw [Int.zero_add]
theorem Aa8 {r:Int} (h:0≤r):Cn (0≤(0:Int)∧0≤r)=true:=Ao.2 ⟨Int.le_refl _,h⟩
theorem Ai9 (N:Nat) {R C K f:Nat} {l:List Int} (r6:R≤6) (c6:C≤6) (hl:l.length=R*C) (hk:K<C):∀ (k i F:Nat),f+i+k=R→k<F →
    Aa.Cz.L0 N F (R:Int) (C:Int) l (K:Int) ((f+i:Nat):Int) (Dg (C:Int) l (K:Int) (f:Int) i)=some (.ints (.own 100007 tB) .u64 (Dg (C:Int) l (K:Int) (f:Int) (R-f))):=by
  intro k
  induction k with
  | zero =>
    intro i F hi hF
    obtain ⟨F,rfl⟩:∃ G,F=G+1:=⟨F-1,by omega⟩
    rw [Aa.Cz.At,Aq,Aq1 (by omega),Aq0,show R-f=i by omega]
  | succ k ih =>
    intro i F hi hF
    obtain ⟨F,rfl⟩:∃ G,F=G+1:=⟨F-1,by omega⟩
    have d:decide ((Dg (C:Int) l (K:Int) (f:Int) i).length+1≤Gq)=true:=Aqx (by rw [Ic]; unfold Gq; omega)
    rw [Aa.Cz.At,Aq,Aqx (by omega),Aqw,Fi r6 c6 hl (show f+i<R by omega) hk,Aqw,d,Aqw,An (by omega) (by omega)]
    have:=ih (i+1) F (by omega) (by omega)
    unfold Dg at this ⊢
    rw [List.range_succ,List.map_append] at this
    exact this
theorem Aa.Cz.known:Aa.Cz.Kn:=Aa.Cz.Ad (.cons Aa.get.known .nil) fun r c l k f hp=>by
  obtain ⟨h0,hf⟩:=Af.1 (show (Ki r c l k&&Cn (0≤f∧f≤r))=true from hp)
  have hf:=Ao.1 hf
  obtain ⟨hr,hi⟩:=Af.1 h0
  have hi:=Ao.1 hi
  obtain ⟨R,C,rfl,rfl,r6,c6,hl⟩:=C1 hr
  obtain ⟨K,rfl⟩:∃ j:Nat,k=j:=⟨k.toNat,by omega⟩
  obtain ⟨f,rfl⟩:∃ j:Nat,f=j:=⟨f.toNat,by omega⟩
  refine ⟨8,.ints (.own 100007 tB) .u64 (Dg (C:Int) l (K:Int) (f:Int) (R-f)),[100007],?_,?_⟩
  · rw [Aa.Cz.ev]
    exact Ai9 8 r6 c6 hl (by omega) (R-f) 0 8 (by omega) (by omega)
  · show Wk _ _ (DV.ints .fresh .u64 (Dg (C:Int) l (K:Int) (f:Int) (Int.toNat ((R:Int)-(f:Int)))))
    rw [show Int.toNat ((R:Int)-(f:Int))=R-f by omega]
    exact .drop _ _ _ _ (List.mem_singleton.2 rfl)
theorem K3 {r c i k:Int} {l:List Int} (h:Bh r c l=true) (h1:0≤i) (h2:i<r) (h3:0≤k) (h4:k<c) (R:Int):D1 R c l i k=true:=by
  obtain ⟨R',C,rfl,rfl,r6,c6,hl⟩:=C1 h
  obtain ⟨I,rfl⟩:∃ j:Nat,i=j:=⟨i.toNat,by omega⟩
  obtain ⟨K,rfl⟩:∃ j:Nat,k=j:=⟨k.toNat,by omega⟩
  exact Fi r6 c6 hl (by omega) (by omega)
theorem Aa.Dk.known:Aa.Dk.Kn:=Aa.Dk.Ad .nil fun i k _=>by
  refine ⟨0,Aa.Dk.out [.i i,.i k],[],?_,.int⟩
  rw [Aa.Dk.ev]; rfl
theorem Aa.Gk.known:Aa.Gk.Kn:=Aa.Gk.Ad .nil fun i k _=>by
  refine ⟨0,Aa.Gk.out [.i i,.i k],[],?_,.int⟩
  rw [Aa.Gk.ev]
  show _=some (DV.int .u64 (Ry i k))
  unfold Ry
  by_cases h:i=k
  · have:(i==k)=true:=by rw [h]; simp
    rw [this,if_pos h]; rfl
  · have:(i==k)=false:=by simpa using h
    rw [this,if_neg h]; rfl
theorem Aa.Es.known:Aa.Es.Kn:=Aa.Es.Ad (.cons Aa.get.known .nil) fun i k r c l hp=>by
  have hp:D1 r c l k i=true:=hp
  refine ⟨0,Aa.Es.out [.i i,.i k,.i r,.i c,.l l],[],?_,.int⟩
  rw [Aa.Es.ev,hp]; rfl
theorem Aa.Eu.known:Aa.Eu.Kn:=Aa.Eu.Ad (.cons Aa.get.known .nil) fun i k r c l x y hp=>by
  obtain ⟨h1,h2⟩:=Af.1 hp
  have h2:=Ao.1 h2
  refine ⟨0,Aa.Eu.out [.i i,.i k,.i r,.i c,.l l,.i x,.i y],[],?_,.int⟩
  rw [Aa.Eu.ev,An (x:=x+i) (by omega) (by omega),An (x:=y+k) (by omega) (by omega),h1]; rfl
theorem T1 {R C:Nat} {l:List Int} (hl:l.length=R*C) {I:Nat} (hi:I<R):(Ko (C:Int) l (I:Int)).length=C:=by
  have hle:(I+1)*C≤R*C:=Aq8 C (by omega)
  have e1:((I:Int)*(C:Int)).toNat=I*C:=by rw [← Ari,Aqy]
  have e2:(((I:Int)+1)*(C:Int)).toNat=(I+1)*C:=by
    have:((I:Int)+1)*(C:Int)=(((I+1)*C:Nat):Int):=by rw [Ari]; rfl
    rw [this,Aqy]
  unfold Ko
  rw [List.length_drop,List.length_take,e1,e2]
  rw [Nat.add_mul,Nat.one_mul] at hle ⊢
  omega
theorem Acr (R:Nat) (C:Int) (l:List Int) (K:Int):(Oq (R:Int) C l K).length=R:=by
  unfold Oq
  rw [List.length_map,List.length_range,Aqy]
theorem Akj {c i:Int} {l:List Int} (h:Ah l=true):Ah (Ko c l i)=true:=by
  have h:=Ao.1 h
  exact Ao.2 fun x hx=>h x (List.mem_of_mem_take (List.mem_of_mem_drop hx))
theorem Gt {c i k:Int} {l:List Int} (h:Ah l=true):Ai (Ef c l i k)=true:=by
  unfold Ef
  by_cases hj:(i*c+k).toNat<l.length
  · exact Yt h hj
  · rw [Aq6,List.getElem?_eq_none (by omega)]
    exact B0 (n:=0) (by decide)
theorem Alu {r c k:Int} {l:List Int} (h:Ah l=true):Ah (Oq r c l k)=true:=by
  refine Ao.2 fun x hx=>?_
  obtain ⟨j,_,rfl⟩:=List.mem_map.1 hx
  exact Gt h
theorem Aa.Gh.known:Aa.Gh.Kn:=Aa.Gh.Ad (.cons Aa.Cz.known (.cons Aa.Row.known (.cons Ae.M5.known .nil))) fun i k r c l p q m hp=>by
  obtain ⟨h1,h2⟩:=Af.1 (show Pk r c l p q m i k=true from hp)
  obtain ⟨h3,h4⟩:=Af.1 h1
  obtain ⟨h5,h6⟩:=Af.1 h2
  obtain ⟨hl,hm⟩:=Af.1 h5
  obtain rfl:=Ao.1 h6
  obtain ⟨hr,hi⟩:=Af.1 h3
  have hi:=Ao.1 hi
  obtain ⟨R,C,rfl,rfl,r6,c6,ll⟩:=C1 hr
  obtain ⟨I,rfl⟩:∃ j:Nat,i=j:=⟨i.toNat,by omega⟩
  refine ⟨0,Aa.Gh.out [.i I,.i k,.i R,.i C,.l l,.i C,.i q,.l m],[],?_,.int⟩
  have hf:Rv (Ko (C:Int) l (I:Int)) (Oq (C:Int) q m k)=true:=Yc.2 ⟨by rw [T1 ll (by omega),Acr],by rw [T1 ll (by omega)]; omega⟩
  rw [Aa.Gh.ev,Als,h3,h4,hf,Akj hl,Alu hm,Aa8 (by omega)]
  rfl
namespace EqCmp
def compare.Jq.Ba:List (Nat × Entry):=[(213,soft.Sign.spec)]
def compare.Jq.E:Env:=Bc (A9 compare.Jq.Ba) (fun _=>false) (fun _=>none) (fun _=>none)
theorem compare.Jq.ev (N:Nat) (b:Int):By compare.Jq.E N Tryz.f214 (Am Tryz.f214) [.int .u64 b]=bif (Ai b) then bif (Dd b) then some (.int .i64 (Ab (0-(Ab (Mm .u64 b 9223372036854775808))))) else some (.int .i64 (Ab b)) else none:=by kernel_rfl
abbrev _root_.Go.Proofs.S1.compare.Jq.Kn:=A7 Tryz.prog 214 compare.Jq.spec
theorem compare.Jq.Ad (hk:Ax Tryz.prog compare.Jq.Ba) (h:∀ (b:Int),compare.Jq.pre [.i b]=true→Bd compare.Jq.E Tryz.f214 [.int .u64 b] (compare.Jq.out [.i b])):compare.Jq.Kn :=
  Al (A0 hk _ _ _) Tryz.func214 (by kernel_rfl) (by kernel_rfl) h
def compare.Order.Ba:List (Nat × Entry):=[(214,compare.Jq.spec),(155,soft.Kind.spec)]
def compare.Order.E:Env:=Bc (A9 compare.Order.Ba) (fun _=>false) (fun _=>none) (fun _=>none)
theorem compare.Order.ev (N:Nat) (a b:Int):By compare.Order.E N Tryz.f162 (Am Tryz.f162) [.int .u64 a,.int .u64 b]=bif (Ai a) then bif ((A4 a)==(4:Int)) then some (.tup [.int .i64 0,.bool false]) else bif (Ai b) then bif ((A4 b)==(4:Int)) then some (.tup [.int .i64 0,.bool false]) else bif (Ai a) then bif (Ai b) then bif (A1 (Wa a) (Wa b)) then some (.tup [.int .i64 (-1:Int),.bool true]) else bif (Ai a) then bif (Ai b) then bif (A1 (Wa b) (Wa a)) then some (.tup [.int .i64 1,.bool true]) else some (.tup [.int .i64 0,.bool true]) else none else none else none else none else none else none:=by kernel_rfl
abbrev _root_.Go.Proofs.S1.compare.Order.Kn:=A7 Tryz.prog 162 compare.Order.spec
theorem compare.Order.Ad (hk:Ax Tryz.prog compare.Order.Ba) (h:∀ (a b:Int),compare.Order.pre [.i a,.i b]=true→Bd compare.Order.E Tryz.f162 [.int .u64 a,.int .u64 b] (compare.Order.out [.i a,.i b])):compare.Order.Kn :=
  Al (A0 hk _ _ _) Tryz.func162 (by kernel_rfl) (by kernel_rfl) h
def compare.Jx.Ba:List (Nat × Entry):=[(162,compare.Order.spec)]
def compare.Jx.E:Env:=Bc (A9 compare.Jx.Ba) (fun _=>false) (fun _=>none) (fun _=>none)
theorem compare.Jx.ev (N:Nat) (a b:Int):By compare.Jx.E N Tryz.f90 (Am Tryz.f90) [.int .u64 a,.int .u64 b]=bif (Ai a&&Ai b) then some (.bool (A1 (Abx a b) 0)) else none:=by kernel_rfl
abbrev _root_.Go.Proofs.S1.compare.Jx.Kn:=A7 Tryz.prog 90 compare.Jx.spec
theorem compare.Jx.Ad (hk:Ax Tryz.prog compare.Jx.Ba) (h:∀ (a b:Int),compare.Jx.pre [.i a,.i b]=true→Bd compare.Jx.E Tryz.f90 [.int .u64 a,.int .u64 b] (compare.Jx.out [.i a,.i b])):compare.Jx.Kn :=
  Al (A0 hk _ _ _) Tryz.func90 (by kernel_rfl) (by kernel_rfl) h
def compare.Sx.Ba:List (Nat × Entry):=[]
def compare.Sx.E:Env:=Bc (A9 compare.Sx.Ba) (fun _=>false) (fun _=>none) (fun _=>none)
theorem compare.Sx.ev (N:Nat) (a:Int):By compare.Sx.E N Tryz.f87 (Am Tryz.f87) [.int .u64 a]=some (.int .u64 (Mm .u64 a 9223372036854775808)):=by kernel_rfl
abbrev _root_.Go.Proofs.S1.compare.Sx.Kn:=A7 Tryz.prog 87 compare.Sx.spec
theorem compare.Sx.Ad (hk:Ax Tryz.prog compare.Sx.Ba) (h:∀ (a:Int),compare.Sx.pre [.i a]=true→Bd compare.Sx.E Tryz.f87 [.int .u64 a] (compare.Sx.out [.i a])):compare.Sx.Kn :=
  Al (A0 hk _ _ _) Tryz.func87 (by kernel_rfl) (by kernel_rfl) h
def compare.D5.hint:Nat→Option A6
  | 1=>some { keep:=[0,6,7,8],objs:=[],boxes:=[] }
  | _=>none
def compare.D5.Ba:List (Nat × Entry):=[(155,soft.Kind.spec),(212,soft.Cq.spec),(211,soft.E2.spec),(213,soft.Sign.spec)]
def compare.D5.E:Env:=Bc (A9 compare.D5.Ba) (fun _=>false) compare.D5.hint (fun _=>none)
def compare.D5.L0 (N M:Nat) (a p6 p7:Int) (p8:Bool):Option DV:=B2 compare.D5.E N Tryz.f161 (Am Tryz.f161) [1,1,1,1,1,1,0,0] [] M ⟨Fw 59 [(0,.int .u64 a),(6,.int .u64 p6),(7,.int .i64 p7),(8,.bool p8)],[]⟩
theorem compare.D5.At (N M:Nat) (a p6 p7:Int) (p8:Bool):compare.D5.L0 N (M+1) a p6 p7 p8=bif ((A1 p7 (-1130:Int))&&(A1 1 p6)) then compare.D5.L0 N M a (Ct .u64 p6 1) (Ab (p7+1)) (bif p8 then true else ((E8 .u64 p6 1)==(1:Int))) else bif (A1 p7 (-1130:Int)) then bif (Ai a) then bif (Di 0 (-1074:Int) true) then some (.tup [.int .u64 (Dz (Dd a) 0 (-1074:Int) true),.int .u8 (Dy (Dd a) 0 (-1074:Int) true)]) else none else none else bif (Ai a) then bif (Di p6 p7 p8) then some (.tup [.int .u64 (Dz (Dd a) p6 p7 p8),.int .u8 (Dy (Dd a) p6 p7 p8)]) else none else none :=
  Eq.trans (by kernel_rfl)
  (Au (N7 (A1 p7 (-1130:Int))) (Au (Kq (A1 p7 (-1130:Int))) (Au (Q9 (A1 p7 (-1130:Int))) (C0 (tt1 (A1 p7 (-1130:Int)) (A1 1 p6)) (Au (Vk p8) (Au (Tp p8) (Au (Tp p8) (Au (tt6 p8) rfl)))) rfl))))
theorem compare.D5.ev (N:Nat) (a n:Int):By compare.D5.E N Tryz.f161 (Am Tryz.f161) [.int .u64 a,.int .i64 n]=bif (Ai a) then bif ((A4 a)==(4:Int)) then some (.tup [.int .u64 9221120237041090560,.int .u8 0]) else bif ((A4 a)==(3:Int)) then bif ((A4 a)==(3:Int)) then some (.tup [.int .u64 a,.int .u8 0]) else bif (Ai a) then compare.D5.L0 N N a (Bf a) (Ab ((Aw a)+(max (-2300:Int) (min 2300 n)))) false else none else bif ((A4 a)==(0:Int)) then some (.tup [.int .u64 a,.int .u8 0]) else bif (Ai a) then compare.D5.L0 N N a (Bf a) (Ab ((Aw a)+(max (-2300:Int) (min 2300 n)))) false else none else none:=by kernel_rfl
abbrev _root_.Go.Proofs.S1.compare.D5.Kn:=A7 Tryz.prog 161 compare.D5.spec
theorem compare.D5.Ad (hk:Ax Tryz.prog compare.D5.Ba) (h:∀ (a n:Int),compare.D5.pre [.i a,.i n]=true→Bd compare.D5.E Tryz.f161 [.int .u64 a,.int .i64 n] (compare.D5.out [.i a,.i n])):compare.D5.Kn :=
  Al (A0 hk _ _ _) Tryz.func161 (by kernel_rfl) (by kernel_rfl) h
def Ae.Bp.Ba:List (Nat × Entry):=[(161,compare.D5.spec)]
def Ae.Bp.E:Env:=Bc (A9 Ae.Bp.Ba) (fun _=>false) (fun _=>none) (fun _=>none)
theorem Ae.Bp.ev (N:Nat) (a n:Int):By Ae.Bp.E N Tryz.f88 (Am Tryz.f88) [.int .u64 a,.int .i64 n]=bif (Eh a n) then some (.int .u64 (B8 a n)) else none:=by kernel_rfl
abbrev _root_.Go.Proofs.S1.Ae.Bp.Kn:=A7 Tryz.prog 88 Ae.Bp.spec
theorem Ae.Bp.Ad (hk:Ax Tryz.prog Ae.Bp.Ba) (h:∀ (a n:Int),Ae.Bp.pre [.i a,.i n]=true→Bd Ae.Bp.E Tryz.f88 [.int .u64 a,.int .i64 n] (Ae.Bp.out [.i a,.i n])):Ae.Bp.Kn :=
  Al (A0 hk _ _ _) Tryz.func88 (by kernel_rfl) (by kernel_rfl) h
def Ae.Div.Ba:List (Nat × Entry):=[(209,times.Div.spec)]
def Ae.Div.E:Env:=Bc (A9 Ae.Div.Ba) (fun _=>false) (fun _=>none) (fun _=>none)
theorem Ae.Div.ev (N:Nat) (a b:Int):By Ae.Div.E N Tryz.f158 (Am Tryz.f158) [.int .u64 a,.int .u64 b]=bif (Ai a&&Ai b) then some (.int .u64 (E7 a b)) else none:=by kernel_rfl
abbrev _root_.Go.Proofs.S1.Ae.Div.Kn:=A7 Tryz.prog 158 Ae.Div.spec
theorem Ae.Div.Ad (hk:Ax Tryz.prog Ae.Div.Ba) (h:∀ (a b:Int),Ae.Div.pre [.i a,.i b]=true→Bd Ae.Div.E Tryz.f158 [.int .u64 a,.int .u64 b] (Ae.Div.out [.i a,.i b])):Ae.Div.Kn :=
  Al (A0 hk _ _ _) Tryz.func158 (by kernel_rfl) (by kernel_rfl) h
def Ae.Cf.hint:Nat→Option A6
  | 0=>some { keep:=[3,6,7,8],objs:=[],boxes:=[] }
  | _=>none
def Ae.Cf.Ba:List (Nat × Entry):=[(87,compare.Sx.spec),(155,soft.Kind.spec)]
def Ae.Cf.E:Env:=Bc (A9 Ae.Cf.Ba) (fun _=>false) Ae.Cf.hint (fun _=>none)
def Ae.Cf.L0 (N M:Nat) (x:List Int) (p3 p8:Int):Option DV:=B2 Ae.Cf.E N Tryz.f89 (Am Tryz.f89) [1,1,0,1,0] [] M ⟨Fw 21 [(3,.int .u64 p3),(6,.ints .arg .u64 x),(7,.int .i64 (List.length x:Int)),(8,.int .i64 p8)],[]⟩
theorem Ae.Cf.At (N M:Nat) (x:List Int) (p3 p8:Int):Ae.Cf.L0 N (M+1) x p3 p8=bif (A1 p8 (List.length x:Int)) then bif ((decide (0≤p8))&&(decide (p8<(List.length x:Int)))) then bif (Ai (List.getD x (Int.toNat p8) 0)) then bif ((A4 (List.getD x (Int.toNat p8) 0))==(4:Int)) then some (.int .u64 9221120237041090560) else bif (Ai (List.getD x (Int.toNat p8) 0)) then Ae.Cf.L0 N M x (max p3 (Z4 (List.getD x (Int.toNat p8) 0))) (Ab (p8+1)) else none else none else none else some (.int .u64 p3):=by kernel_rfl
theorem Ae.Cf.ev (N:Nat) (x:List Int):By Ae.Cf.E N Tryz.f89 (Am Tryz.f89) [.ints .arg .u64 x] =
  Ae.Cf.L0 N N x 0 0:=by kernel_rfl
abbrev _root_.Go.Proofs.S1.Ae.Cf.Kn:=A7 Tryz.prog 89 Ae.Cf.spec
theorem Ae.Cf.Ad (hk:Ax Tryz.prog Ae.Cf.Ba) (h:∀ (x:List Int),Ae.Cf.pre [.l x]=true→Bd Ae.Cf.E Tryz.f89 [.ints .arg .u64 x] (Ae.Cf.out [.l x])):Ae.Cf.Kn :=
  Al (A0 hk _ _ _) Tryz.func89 (by kernel_rfl) (by kernel_rfl) h
def Ae.Finite.hint:Nat→Option A6
  | 0=>some { keep:=[5,6,7],objs:=[],boxes:=[] }
  | _=>none
def Ae.Finite.Ba:List (Nat × Entry):=[(148,soft.Finite.spec)]
def Ae.Finite.E:Env:=Bc (A9 Ae.Finite.Ba) (fun _=>false) Ae.Finite.hint (fun _=>none)
def Ae.Finite.L0 (N M:Nat) (x:List Int) (p7:Int):Option DV:=B2 Ae.Finite.E N Tryz.f150 (Am Tryz.f150) [1,0,1,0] [] M ⟨Fw 15 [(5,.ints .arg .u64 x),(6,.int .i64 (List.length x:Int)),(7,.int .i64 p7)],[]⟩
theorem Ae.Finite.At (N M:Nat) (x:List Int) (p7:Int):Ae.Finite.L0 N (M+1) x p7=bif (A1 p7 (List.length x:Int)) then bif ((decide (0≤p7))&&(decide (p7<(List.length x:Int)))) then bif (Ai (List.getD x (Int.toNat p7) 0)) then bif (!(Df (List.getD x (Int.toNat p7) 0))) then some (.bool false) else Ae.Finite.L0 N M x (Ab (p7+1)) else none else none else some (.bool true):=by kernel_rfl
theorem Ae.Finite.ev (N:Nat) (x:List Int):By Ae.Finite.E N Tryz.f150 (Am Tryz.f150) [.ints .arg .u64 x] =
  Ae.Finite.L0 N N x 0:=by kernel_rfl
abbrev _root_.Go.Proofs.S1.Ae.Finite.Kn:=A7 Tryz.prog 150 Ae.Finite.spec
theorem Ae.Finite.Ad (hk:Ax Tryz.prog Ae.Finite.Ba) (h:∀ (x:List Int),Ae.Finite.pre [.l x]=true→Bd Ae.Finite.E Tryz.f150 [.ints .arg .u64 x] (Ae.Finite.out [.l x])):Ae.Finite.Kn :=
  Al (A0 hk _ _ _) Tryz.func150 (by kernel_rfl) (by kernel_rfl) h
def B4.Check.hint:Nat→Option A6
  | 0=>some { keep:=[9,10,11],objs:=[],boxes:=[] }
  | _=>none
def B4.Check.Ba:List (Nat × Entry):=[(160,Aa.Check.spec),(148,soft.Finite.spec)]
def B4.Check.E:Env:=Bc (A9 B4.Check.Ba) (fun _=>false) B4.Check.hint (fun _=>none)
def B4.Check.L0 (N M:Nat) (l:List Int) (p11:Int):Option DV:=B2 B4.Check.E N Tryz.f86 (Am Tryz.f86) [1,1,0,1,0] [] M ⟨Fw 19 [(9,.ints .arg .u64 l),(10,.int .i64 (List.length l:Int)),(11,.int .i64 p11)],[]⟩
theorem B4.Check.At (N M:Nat) (l:List Int) (p11:Int):B4.Check.L0 N (M+1) l p11=bif (A1 p11 (List.length l:Int)) then bif ((decide (0≤p11))&&(decide (p11<(List.length l:Int)))) then bif (Ai (List.getD l (Int.toNat p11) 0)) then bif (!(Df (List.getD l (Int.toNat p11) 0))) then some (.int .i64 4) else B4.Check.L0 N M l (Ab (p11+1)) else none else none else some (.int .i64 0):=by kernel_rfl
theorem B4.Check.ev (N:Nat) (r c:Int) (l:List Int):By B4.Check.E N Tryz.f86 (Am Tryz.f86) [.agg [.int .i64 r,.int .i64 c,.ints .arg .u64 l]]=bif ((Io r c l) !=(0:Int)) then some (.int .i64 1) else B4.Check.L0 N N l 0:=by kernel_rfl
abbrev _root_.Go.Proofs.S1.B4.Check.Kn:=A7 Tryz.prog 86 B4.Check.spec
theorem B4.Check.Ad (hk:Ax Tryz.prog B4.Check.Ba) (h:∀ (r c:Int) (l:List Int),B4.Check.pre [.i r,.i c,.l l]=true→Bd B4.Check.E Tryz.f86 [.agg [.int .i64 r,.int .i64 c,.ints .arg .u64 l]] (B4.Check.out [.i r,.i c,.l l])):B4.Check.Kn :=
  Al (A0 hk _ _ _) Tryz.func86 (by kernel_rfl) (by kernel_rfl) h
end EqCmp
open EqCmp
theorem Oc {k j:Nat} (h:k≠j):(((k:Nat):Int)==((j:Nat):Int))=false:=by rw [beq_eq_false_iff_ne]; omega
theorem W7 (n:Nat):n%2^63<2^63:=Nat.mod_lt _ (by decide)
theorem Aay {n:Nat} (h:n<2^64):Mm .u64 (n:Int) (9223372036854775808:Int)=((n%2^63:Nat):Int):=by
  have:=Mp (D3 n) (W7 n)
  rw [Aec h] at this
  exact this
theorem compare.Sx.known:compare.Sx.Kn:=compare.Sx.Ad .nil fun a hp=>by
  obtain ⟨n,rfl,hn⟩:=Bt (show Ai a=true from hp)
  refine ⟨0,compare.Sx.out [.i (n:Int)],[],?_,.int⟩
  show _=some (DV.int .u64 (((n:Int).toNat%2^63:Nat):Int))
  rw [compare.Sx.ev,Aay hn,Aqy]
theorem compare.Jq.known:compare.Jq.Kn:=compare.Jq.Ad (.cons soft.Sign.known .nil) fun b hp=>by
  have hp:Ai b=true:=hp
  obtain ⟨n,rfl,hn⟩:=Bt hp
  refine ⟨0,compare.Jq.out [.i (n:Int)],[],?_,.int⟩
  show _=some (DV.int .i64 (Uw (n:Int).toNat))
  have h63:=W7 n
  rw [compare.Jq.ev,hp,Aqw,Aay hn,Aqy]
  unfold Uw H9 Dd
  rw [Aqy]
  cases hs:D3 n with
  | true =>
    rw [Aqw,if_pos rfl,An (x:=((n%2^63:Nat):Int)) (by omega) (by omega),An (by omega) (by omega)]
    congr 2; omega
  | false =>
    have:n<2^63:=by
      unfold D3 at hs
      have:=of_decide_eq_false hs
      omega
    rw [Aq0,if_neg (by decide),Aq9 this,An (by omega) (by omega)]
theorem compare.Order.known:compare.Order.Kn:=compare.Order.Ad (.cons compare.Jq.known (.cons soft.Kind.known .nil)) fun a b hp=>by
  obtain ⟨ha,hb⟩:=Af.1 (show (Ai a&&Ai b)=true from hp)
  refine ⟨0,compare.Order.out [.i a,.i b],[],?_,Wk.Gb (.cons .int (.cons .bool .nil))⟩
  show _=some (DV.tup [.int .i64 (Anl a.toNat b.toNat),.bool (Anm a.toNat b.toNat)])
  rw [compare.Order.ev,ha,hb,Aqw,Aqw,Aqw,Aqw,Aqw,Aqw,Aq,Aq]
  unfold Anl Anm Wa A4
  by_cases h1:As a.toNat=4
  · have e:(((As a.toNat:Nat):Int)==(4:Int))=true:=by rw [h1]; rfl
    rw [e,Aqw,if_pos (.inl h1),Aqx (.inl h1)]; rfl
  · have e:(((As a.toNat:Nat):Int)==(4:Int))=false:=Oc h1
    rw [e,Aq0]
    by_cases h2:As b.toNat=4
    · have e:(((As b.toNat:Nat):Int)==(4:Int))=true:=by rw [h2]; rfl
      rw [e,Aqw,if_pos (.inr h2),Aqx (.inr h2)]; rfl
    · have e:(((As b.toNat:Nat):Int)==(4:Int))=false:=Oc h2
      have hn:¬ (As a.toNat=4∨As b.toNat=4):=fun h=>h.elim h1 h2
      rw [e,Aq0,if_neg hn,Aq1 hn]
      by_cases h3:Uw a.toNat<Uw b.toNat
      · rw [Aqx h3,if_pos h3]; rfl
      · rw [Aq1 h3,if_neg h3]
        by_cases h4:Uw b.toNat<Uw a.toNat
        · rw [Aqx h4,if_pos h4]; rfl
        · rw [Aq1 h4,if_neg h4]; rfl
theorem compare.Jx.known:compare.Jx.Kn:=compare.Jx.Ad (.cons compare.Order.known .nil) fun a b hp=>by
  have hp:(Ai a&&Ai b)=true:=hp
  refine ⟨0,compare.Jx.out [.i a,.i b],[],?_,.bool⟩
  rw [compare.Jx.ev,hp,Aq]; rfl
theorem Abn (N:Nat) {a:Int} (ha:Ai a=true):∀ (k F m:Nat) (e:Int) (b:Bool),e=-1130-(k:Int)→k<F→m<2^53→(m≠0∨b=true)→-9000<e →
    compare.D5.L0 N F a (m:Int) e b=some (.tup [.int .u64 (((Co (D3 a.toNat) 0,3):Nat × Nat).1:Nat),.int .u8 (((Co (D3 a.toNat) 0,3):Nat × Nat).2:Nat)]):=by
  have pre1:Di (0:Int) (-1074:Int) true=true:=Ao.2 (by omega)
  intro k
  induction k with
  | zero =>
    intro F m e b he hF hm h0 _
    obtain ⟨F,rfl⟩:∃ G,F=G+1:=⟨F-1,by omega⟩
    have hlt:A1 e (-1130:Int)=false:=by rw [Aq]; exact Aq1 (by omega)
    have On:Di (m:Int) e b=true:=Ao.2 (by omega)
    rw [compare.D5.At,hlt,Bool.false_and,Aq0,Aq0,ha,Aqw,On,Aqw]
    unfold Dz Dy Dd
    rw [Aqy,Aex _ hm h0 (by omega)]
  | succ k ih =>
    intro F m e b he hF hm h0 hb
    obtain ⟨F,rfl⟩:∃ G,F=G+1:=⟨F-1,by omega⟩
    have hlt:A1 e (-1130:Int)=true:=by rw [Aq]; exact Aqx (by omega)
    rw [compare.D5.At,hlt,Bool.true_and,Aqw,Aq]
    by_cases h1:(1:Int)<(m:Int)
    · have em:Ct .u64 (m:Int) (1:Int)=((m / 2^1:Nat):Int):=F8 .u64 m 1 (by decide)
      rw [Aqx h1,Aqw,em,An (by omega) (by omega)]
      exact ih F (m / 2^1) (e+1) _ (by omega) (by omega) (by omega) (.inl (by omega)) (by omega)
    · rw [Aq1 h1,Aq0,ha,Aqw,pre1,Aqw]
      unfold Dz Dy Dd
      rw [show (0:Int).toNat=0 from rfl,Ahi]
theorem compare.D5.known:compare.D5.Kn:=compare.D5.Ad (.cons soft.Kind.known (.cons soft.Cq.known (.cons soft.E2.known (.cons soft.Sign.known .nil)))) fun a n hp=>by
  obtain ⟨ha,hn⟩:=Af.1 (show Eh a n=true from hp)
  have hn:=Ao.1 hn
  refine ⟨3000,compare.D5.out [.i a,.i n],[],?_,Wk.Gb (.cons .int (.cons .int .nil))⟩
  show _=some (DV.tup [.int .u64 ((Hd a.toNat n).1:Nat),.int .u8 ((Hd a.toNat n).2:Nat)])
  have em:max (-2300:Int) (min (2300:Int) n)=n:=by omega
  have pE:=Ea a.toNat
  have pM:=Ei a.toNat
  have ee:Ab (Aw a+n)=Be a.toNat+n:=by unfold Aw; exact An (by omega) (by omega)
  rw [compare.D5.ev,ha,Aqw,Aqw,em,ee]
  unfold A4
  by_cases h4:As a.toNat=4
  · have e:(((As a.toNat:Nat):Int)==(4:Int))=true:=by rw [h4]; rfl
    rw [e,Aqw]
    unfold Hd
    rw [if_pos h4]; rfl
  have e4:(((As a.toNat:Nat):Int)==(4:Int))=false:=Oc h4
  rw [e4,Aq0]
  by_cases h3:As a.toNat=3
  · have e:(((As a.toNat:Nat):Int)==(3:Int))=true:=by rw [h3]; rfl
    obtain ⟨k,rfl,hk⟩:=Bt ha
    rw [e,Aqw,Aqw]
    unfold Hd
    rw [if_neg h4,if_pos (.inl h3),Aqy]; rfl
  have e3:(((As a.toNat:Nat):Int)==(3:Int))=false:=Oc h3
  rw [e3,Aq0]
  by_cases h0:As a.toNat=0
  · have e:(((As a.toNat:Nat):Int)==(0:Int))=true:=by rw [h0]; rfl
    obtain ⟨k,rfl,hk⟩:=Bt ha
    rw [e,Aqw]
    unfold Hd
    rw [if_neg h4,if_pos (.inr h0),Aqy]; rfl
  have e0:(((As a.toNat:Nat):Int)==(0:Int))=false:=Oc h0
  have hk:¬ (As a.toNat=3∨As a.toNat=0):=fun h=>h.elim h3 h0
  have hm:Av a.toNat≠0:=fun h=>h0 ((Kc h3 h4).1 h)
  rw [e0,Aq0]
  show compare.D5.L0 3000 3000 a (Av a.toNat:Nat) (Be a.toNat+n) false=_
  by_cases ht:Be a.toNat+n≤-1130
  · rw [Abm h4 hk ht]
    exact Abn 3000 ha (-1130-(Be a.toNat+n)).toNat 3000 _ _ false (by omega) (by omega) (by omega) (.inl hm) (by omega)
  · have hlt:A1 (Be a.toNat+n) (-1130:Int)=false:=by rw [Aq]; exact Aq1 (by omega)
    have On:Di ((Av a.toNat:Nat):Int) (Be a.toNat+n) false=true:=Ao.2 ⟨by omega,by omega,by omega,by omega,fun h=>by cases h⟩
    rw [Aef h4 hk,show (3000:Nat)=2999+1 from rfl,compare.D5.At,hlt,Bool.false_and,Aq0,Aq0,ha,Aqw,On,Aqw]
    unfold Dz Dy Dd
    rw [Aqy,Sh]
theorem Ae.Bp.known:Ae.Bp.Kn:=Ae.Bp.Ad (.cons compare.D5.known .nil) fun a n hp=>by
  have hp:Eh a n=true:=hp
  refine ⟨0,Ae.Bp.out [.i a,.i n],[],?_,.int⟩
  rw [Ae.Bp.ev,hp]; rfl
theorem Ae.Div.known:Ae.Div.Kn:=Ae.Div.Ad (.cons times.Div.known .nil) fun a b hp=>by
  have hp:(Ai a&&Ai b)=true:=hp
  refine ⟨0,Ae.Div.out [.i a,.i b],[],?_,.int⟩
  rw [Ae.Div.ev,hp]; rfl
theorem Im {l:List Int} {i:Nat} (h:i<l.length):l.drop i=l.getD i 0::l.drop (i+1):=by
  rw [List.drop_eq_getElem_cons h,Aq6,Ard h]; rfl
theorem Kw {l:List Int} (h:C4 l=true):l.length<4611686018427387904∧∀ j,j<l.length→Ai (l.getD j 0)=true:=by
  obtain ⟨h1,h2⟩:=Ao.1 h
  exact ⟨h1,fun j hj=>by rw [Aq6,Ard hj]; exact h2 _ (List.getElem_mem hj)⟩
theorem K9 {l:List Int} (h:Ah l=true) (hl:l.length≤1000):C4 l=true:=Ao.2 ⟨by omega,Ao.1 h⟩
theorem Aam (N:Nat) {x:List Int} (hx:C4 x=true):∀ (k i F:Nat),i+k=x.length→k<F→Ae.Finite.L0 N F x (i:Int)=some (.bool ((x.drop i).all Df)):=by
  obtain ⟨hl,hu⟩:=Kw hx
  intro k
  induction k with
  | zero =>
    intro i F hi hF
    obtain ⟨F,rfl⟩:∃ G,F=G+1:=⟨F-1,by omega⟩
    rw [Ae.Finite.At,Aq,Aq1 (by omega),Aq0,Ara (by omega)]; rfl
  | succ k ih =>
    intro i F hi hF
    obtain ⟨F,rfl⟩:∃ G,F=G+1:=⟨F-1,by omega⟩
    rw [Ae.Finite.At,Aq,Aqx (show (i:Int)<(x.length:Int) by omega),Aqw,Aqx (show (0:Int)≤(i:Int) by omega),Aq2,Aqw,Aqy,hu i (by omega),Aqw,Im (by omega),List.all_cons]
    cases Df (x.getD i 0) with
    | false=>rfl
    | true =>
      rw [Bool.not_true,Aq0,An (by omega) (by omega),Bool.true_and]
      exact ih (i+1) F (by omega) (by omega)
theorem Ae.Finite.known:Ae.Finite.Kn:=Ae.Finite.Ad (.cons soft.Finite.known .nil) fun x hp=>by
  have hp:C4 x=true:=hp
  refine ⟨x.length+1,Ae.Finite.out [.l x],[],?_,.bool⟩
  show _=some (DV.bool (x.all Df))
  rw [Ae.Finite.ev]
  exact Aam _ hp x.length 0 (x.length+1) (by omega) (by omega)
theorem Aft {x:List Int} {i:Nat} (h:i<x.length) (m:Nat):Yn (x.drop i) m=if As (x.getD i 0).toNat=4 then Vw else Yn (x.drop (i+1)) (max m (Af0 (x.getD i 0).toNat)):=by
  rw [Im h]; rfl
theorem Ym (N:Nat) {x:List Int} (hx:C4 x=true):∀ (k i F m:Nat),i+k=x.length→k<F→Ae.Cf.L0 N F x (m:Int) (i:Int)=some (.int .u64 ((Yn (x.drop i) m:Nat):Int)):=by
  obtain ⟨hl,hu⟩:=Kw hx
  intro k
  induction k with
  | zero =>
    intro i F m hi hF
    obtain ⟨F,rfl⟩:∃ G,F=G+1:=⟨F-1,by omega⟩
    rw [Ae.Cf.At,Aq,Aq1 (by omega),Aq0,Ara (by omega)]; rfl
  | succ k ih =>
    intro i F m hi hF
    obtain ⟨F,rfl⟩:∃ G,F=G+1:=⟨F-1,by omega⟩
    rw [Ae.Cf.At,Aq,Aqx (show (i:Int)<(x.length:Int) by omega),Aqw,Aqx (show (0:Int)≤(i:Int) by omega),Aq2,Aqw,Aqy,hu i (by omega),Aqw,Aft (by omega)]
    unfold A4
    by_cases h4:As (x.getD i 0).toNat=4
    · have e:(((As (x.getD i 0).toNat:Nat):Int)==(4:Int))=true:=by rw [h4]; rfl
      rw [e,Aqw,if_pos h4]; rfl
    · have e:(((As (x.getD i 0).toNat:Nat):Int)==(4:Int))=false:=Oc h4
      have em:max (m:Int) (Z4 (x.getD i 0))=((max m (Af0 (x.getD i 0).toNat):Nat):Int):=by unfold Z4; omega
      rw [e,Aq0,Aqw,if_neg h4,em,An (by omega) (by omega)]
      exact ih (i+1) F _ (by omega) (by omega)
theorem Ae.Cf.known:Ae.Cf.Kn:=Ae.Cf.Ad (.cons compare.Sx.known (.cons soft.Kind.known .nil)) fun x hp=>by
  have hp:C4 x=true:=hp
  refine ⟨x.length+1,Ae.Cf.out [.l x],[],?_,.int⟩
  rw [Ae.Cf.ev]
  exact Ym _ hp x.length 0 (x.length+1) 0 (by omega) (by omega)
theorem Yl (N:Nat) {x:List Int} (hx:C4 x=true):∀ (k i F:Nat),i+k=x.length→k<F→B4.Check.L0 N F x (i:Int)=some (.int .i64 (if (x.drop i).all Df=true then 0 else 4)):=by
  obtain ⟨hl,hu⟩:=Kw hx
  intro k
  induction k with
  | zero =>
    intro i F hi hF
    obtain ⟨F,rfl⟩:∃ G,F=G+1:=⟨F-1,by omega⟩
    rw [B4.Check.At,Aq,Aq1 (by omega),Aq0,Ara (by omega)]; rfl
  | succ k ih =>
    intro i F hi hF
    obtain ⟨F,rfl⟩:∃ G,F=G+1:=⟨F-1,by omega⟩
    rw [B4.Check.At,Aq,Aqx (show (i:Int)<(x.length:Int) by omega),Aqw,Aqx (show (0:Int)≤(i:Int) by omega),Aq2,Aqw,Aqy,hu i (by omega),Aqw,Im (by omega),List.all_cons]
    cases Df (x.getD i 0) with
    | false=>rfl
    | true =>
      rw [Bool.not_true,Aq0,An (by omega) (by omega),Bool.true_and]
      exact ih (i+1) F (by omega) (by omega)
theorem Rj {r c:Int} {l:List Int} (h:Bh r c l=true):l.length≤36:=by
  obtain ⟨R,C,rfl,rfl,r6,c6,hl⟩:=C1 h
  have:=Nat.mul_le_mul r6 c6
  omega
theorem B4.Check.known:B4.Check.Kn:=B4.Check.Ad (.cons Aa.Check.known (.cons soft.Finite.known .nil)) fun r c l hp=>by
  have hp:Ah l=true:=hp
  refine ⟨l.length+1,B4.Check.out [.i r,.i c,.l l],[],?_,.int⟩
  show _=some (DV.int .i64 (B5 r c l))
  rw [B4.Check.ev]
  unfold Io B5 D9
  by_cases h:Bh r c l=true
  · have:=Rj h
    rw [if_pos h,if_pos h]
    have e:((0:Int) !=(0:Int))=false:=by decide
    rw [e,Aq0]
    exact Yl _ (K9 hp (by omega)) l.length 0 (l.length+1) (by omega) (by omega)
  · rw [if_neg h,if_neg h]; rfl
open Go Go.Den Go.Rnd Go.Proofs Ieee
end Go.Proofs.S1
namespace Go.Rnd
open Go.Den
theorem Acp {P root rest two:Nat} (h1:P=root*root+rest) (h2:rest≤2*root) (h3:two<4) :
    (4*root+1≤4*rest+two→4*P+two=(2*root+1)*(2*root+1)+(4*rest+two-(4*root+1))∧4*rest+two-(4*root+1)≤2*(2*root+1)) ∧
    (4*rest+two<4*root+1→4*P+two=(2*root)*(2*root)+(4*rest+two)∧4*rest+two≤2*(2*root)):=by
  have e1:(2*root+1)*(2*root+1)=4*(root*root)+(4*root+1):=by
    rw [Nat.add_mul,Nat.mul_add,Nat.mul_add]
    have:2*root*(2*root)=4*(root*root):=by rw [Nat.mul_mul_mul_comm]
    omega
  have e2:(2*root)*(2*root)=4*(root*root):=by rw [Nat.mul_mul_mul_comm]
  constructor
  · intro h; rw [e1]; omega
  · intro h; rw [e2]; omega
theorem Akk {P root rest:Nat} (h1:P=root*root+rest) (h2:rest≤2*root):root=Pz P:=by
  refine Uy (by omega) ?_
  have:(root+1)*(root+1)=root*root+2*root+1:=by rw [Nat.add_mul,Nat.mul_add]; omega
  omega
end Go.Rnd
namespace Go.Rnd
open Go.Den
theorem Ir:Ai (0:Int)=true:=B0 (n:=0) (by decide)
theorem Ahb:Ai Ano=true:=B0 (n:=4607182418800017408) (by decide)
theorem Aeg {b:Nat} {n:Int} (h:b<2^64):(Hd b n).1<2^64:=by
  unfold Hd
  by_cases h4:As b=4
  · rw [if_pos h4]; exact (by decide:Vw<2^64)
  rw [if_neg h4]
  by_cases h3:As b=3∨As b=0
  · rw [if_pos h3]; exact h
  rw [if_neg h3]
  exact P3 _ _ _
theorem Iy {b n:Int} (h:Ai b=true):Ai (B8 b n)=true:=by
  obtain ⟨x,rfl,hx⟩:=Bt h
  exact B0 (Aeg (by rw [Aqy]; exact hx))
theorem Ad2 (b:Nat):Af0 b<2^63:=Nat.mod_lt _ (by decide)
theorem Ve:∀ (l:List Int) (m:Nat),m<2^64→Yn l m<2^64
  | [],m,h=>h
  | x::l,m,h=>by
    unfold Yn
    split
    · exact (by decide:Vw<2^64)
    · have h2:=Ad2 x.toNat
      exact Ve l _ (by omega)
theorem Pw (l:List Int):Ai (Bl l)=true:=B0 (Ve l 0 (by decide))
theorem Ahr (x:Int):Ai (Z4 x)=true:=B0 (Nat.lt_trans (Ad2 x.toNat) (by decide))
theorem Ajm {a b:Int} (ha:Ai a=true) (hb:Ai b=true):Ai (Jm a b)=true:=by
  obtain ⟨x,rfl,hx⟩:=Bt ha
  obtain ⟨y,rfl,hy⟩:=Bt hb
  exact B0 (Ti (by rw [Aqy]; exact hx) (by rw [Aqy]; exact hy)).1
theorem Z0 {a:Int} (ha:Ai a=true):Ai (Db a)=true:=by
  obtain ⟨x,rfl,hx⟩:=Bt ha
  exact B0 (Rr (by rw [Aqy]; exact hx))
theorem Agt {b:Nat} (h:b<2^64):(Mr b).1<2^64:=by
  by_cases h4:As b=4
  · rw [Zd h4]; exact (by decide:Vw<2^64)
  by_cases h0:As b=0∨b=G5
  · rw [Rd h4 h0]; exact h
  cases hn:D3 b with
  | true=>rw [Zc h4 h0 hn]; exact (by decide:Vw<2^64)
  | false =>
    unfold Mr
    rw [if_neg h4,if_neg h0,hn,if_neg (by decide)]
    exact Nat.lt_trans (S4 _ _) (by decide)
theorem Ac8 {a:Int} (ha:Ai a=true):Ai (G4 a)=true:=by
  obtain ⟨x,rfl,hx⟩:=Bt ha
  exact B0 (Agt (by rw [Aqy]; exact hx))
theorem Agq (k:Int):∀ (l:List Int) {s:Int},Ai s=true→Ai (Abi k s l)=true
  | [],_,h=>h
  | _::l,_,h=>Agq k l (Ajm h (La _ _))
theorem Xx (x:List Int):Ai (D7 x)=true:=by
  unfold D7
  split
  · exact Pw x
  · exact Iy (Ac8 (Agq _ _ Ir))
theorem Aqg (x:List Int):Ai (muI x)=true:=by
  unfold muI
  split
  · exact Xx _
  · exact Z0 (Xx _)
theorem Al2 (x:List Int):Ai (G9 x)=true:=Iy (Aqg x)
theorem Afn (b:Nat):-1100≤Aiu b∧Aiu b≤1100:=by
  unfold Aiu
  split
  · have h1:=Ea b
    have h2:=Ei b
    rename_i h
    have h3:(Av b).log2<53:=by
      by_cases h0:Av b=0
      · rw [h0]; decide
      · exact (Nat.log2_lt h0).2 h2
    omega
  · omega
theorem Ait (x:Int):-1100≤Bz x∧Bz x≤1100:=Afn x.toNat
theorem Lw {l:List Int} (h:Ah l=true) (j:Nat):Ai (l.getD j 0)=true:=Qw (Ao.1 h) j
theorem Oj {l:List Int} (h:∀ x∈l,Ai x=true):Ah l=true:=Ao.2 h
theorem El:Ah []=true:=Oj fun _ h=>by cases h
theorem Aaz {α:Type} {l:List α} {f:α→Int} (h:∀ j,Ai (f j)=true):Ah (l.map f)=true:=Oj fun x hx=>by
  obtain ⟨j,_,rfl⟩:=List.mem_map.1 hx
  exact h j
theorem Afx {x:Int} {l:List Int} (h1:Ai x=true) (h2:Ah l=true):Ah (x::l)=true:=Oj fun y hy=>by
  rcases List.mem_cons.1 hy with rfl | hy
  · exact h1
  · exact Ao.1 h2 y hy
theorem Ok {c i k:Int} {l:List Int} (h:Ah l=true):Ai (Ef c l i k)=true:=Lw h _
theorem Zj (c b i:Int) (n:Nat) (l:List Int):(Dg c l b i n).length=n:=by unfold Dg; rw [List.length_map,List.length_range]
theorem Rg {c b i:Int} {n:Nat} {l:List Int} (h:Ah l=true):Ah (Dg c l b i n)=true:=Aaz fun _=>Ok h
theorem Ag2 (n:Nat) {f:Nat→Int} (h:∀ j,Ai (f j)=true):Ah (Ie n f)=true:=Afx Ahb (Aaz fun _=>h _)
theorem Qc {n:Nat} (h:n≠0) (f:Nat→Int):(Ie n f).length=n:=by
  unfold Ie
  rw [List.length_cons,List.length_map,List.length_range]
  omega
theorem Tc {x:List Int} (h:Ah x=true):Ah (B7 x).1=true∧Ai (B7 x).2.1=true∧Ai (B7 x).2.2.1=true:=by
  have hz:Ah []=true∧Ai (0:Int)=true∧Ai (0:Int)=true:=⟨El,Ir,Ir⟩
  unfold B7
  split
  · exact hz
  split
  · unfold Akx
    split
    · dsimp only
      exact ⟨Ag2 _ fun _=>Ir,Ir,Lw h 0⟩
    · split
      · dsimp only
        exact ⟨Ag2 _ fun _=>Yi _ _,Yi _ _,Al2 x⟩
      · exact hz
  · exact hz
theorem Ui {x:List Int} (h:(B7 x).2.2.2=0):(B7 x).1.length=x.length:=by
  unfold B7 at h ⊢
  by_cases h1:x.length=0∨64<x.length
  · rw [if_pos h1] at h; exact absurd h (by decide)
  rw [if_neg h1] at h ⊢
  by_cases h2:D9 x=true
  · rw [if_pos h2] at h ⊢
    unfold Akx at h ⊢
    by_cases h3:I2 (x.drop 1)=true
    · rw [if_pos h3]; dsimp only; exact Qc (n:=x.length) (by omega) _
    · rw [if_neg h3] at h ⊢
      by_cases h4:Df (G9 x)=true
      · rw [if_pos h4]; dsimp only [Zx]; exact Qc (n:=x.length) (by omega) _
      · rw [if_neg h4] at h; exact absurd h (by decide)
  · rw [if_neg h2] at h; exact absurd h (by decide)
theorem Tf (x y:List Int):Ai (M3 x y)=true:=B0 (Yh x y 0 (by decide))
theorem Afw {c i k t a b:Int} {l v:List Int} (h:Ah l=true):Ai (Ny c l i k v t a b)=true:=by
  unfold Ny
  split
  · exact L5 (Ok h) (La _ _)
  · exact Ok h
theorem W3 {r c:Nat} {l:List Int} (h:Ah l=true) (i k:Int) (v:List Int) (t:Int):Ah (Fu r c l i k v t)=true:=F5 fun _ _=>Afw h
theorem Le (r c:Nat) (l:List Int) (i k:Int) (v:List Int) (t:Int):(Fu r c l i k v t).length=r*c:=Bw _ _ _
theorem Afp {r c:Nat} {l:List Int} (h:Ah l=true) (j:Nat) {x:Int} (hx:Ai x=true):Ah (R3 r c l j x)=true:=F5 fun a b=>by
  split
  · split
    · exact hx
    · exact Ir
  · exact Ok h
theorem Ni (r c:Nat) (l:List Int) (j:Nat):(Vp r c l j).length=r*c:=by unfold Vp R3; exact Bw _ _ _
theorem X1 {r c:Nat} {l:List Int} (h:Ah l=true) (j:Nat):Ah (Vp r c l j)=true:=Afp (W3 h _ _ _ _) _ (Tc (Rg h)).2.2
def Zz (r:Nat):Nat→List (List Int × Int)→Prop
  | _,[]=>True
  | j,m::ms=>(Ah m.1=true∧Ai m.2=true∧m.1.length+j=r)∧Zz r (j+1) ms
theorem U9 (r c:Nat):∀ (n j:Nat) (l:List Int) (x:List Int × List (List Int × Int)),Ah l=true→l.length=r*c→j+n≤r→Mz r c n j l=some x→Ah x.1=true∧x.1.length=r*c∧x.2.length=n∧Zz r j x.2
  | 0,j,l,x,ha,hl,_,h=>by
    cases h
    exact ⟨ha,hl,rfl,trivial⟩
  | n+1,j,l,x,ha,hl,hj,h=>by
    unfold Mz at h
    by_cases h1:(B7 (Fx r c l j)).2.2.2=0
    · rw [if_pos h1,Option.map_eq_some_iff] at h
      obtain ⟨y,hy,rfl⟩:=h
      obtain ⟨a1,a2,a3,a4⟩:=U9 r c n (j+1) _ y (X1 ha j) (Ni r c l j) (by omega) hy
      have hm:=Tc (x:=Fx r c l j) (Rg ha)
      have hlen:=Ui h1
      refine ⟨a1,a2,by rw [List.length_cons,a3],⟨hm.1,hm.2.1,?_⟩,a4⟩
      show (B7 (Fx r c l j)).1.length+j=r
      rw [hlen]
      unfold Fx
      rw [Zj]
      omega
    · rw [if_neg h1] at h; cases h
theorem Yf (n:Nat):Ah (Nt n)=true:=F5 fun i k=>by
  unfold Ry
  split
  · exact Ahb
  · exact Ir
theorem Th (n:Nat):∀ (ms:List (List Int × Int)) (j:Nat) (q:List Int),Ah q=true→q.length=n*n→Ah (Jl n j ms q)=true∧(Jl n j ms q).length=n*n
  | [],_,_,h1,h2=>⟨h1,h2⟩
  | m::ms,j,q,h1,h2=>by
    unfold Jl
    exact ⟨W3 (Th n ms (j+1) q h1 h2).1 _ _ _ _,Le _ _ _ _ _ _ _⟩
theorem Alj {r c:Nat} {l:List Int} (h:(Ia r c l).isSome=true):Ah (Rx r c l)=true∧(Rx r c l).length=r*r:=by
  unfold Rx
  cases hd:Ia r c l with
  | none=>rw [hd] at h; cases h
  | some x=>exact Th r x.2 0 _ (Yf r) (by unfold Nt; exact Bw _ _ _)
theorem Ali {r c:Nat} {l:List Int} (ha:Ah l=true) (hl:l.length=r*c) (h:(Ia r c l).isSome=true):Ah (Ns r c l)=true∧(Ns r c l).length=r*c:=by
  unfold Ns
  cases hd:Ia r c l with
  | none=>rw [hd] at h; cases h
  | some x =>
    have hn:Ib r c≤r:=by unfold Ib; omega
    have:=U9 r c (Ib r c) 0 l x ha hl (by omega) hd
    exact ⟨this.1,this.2.1⟩
end Go.Rnd
namespace Go.Proofs.S1
open Go Go.Den Go.Rnd Go.Proofs
set_option maxRecDepth 100000
namespace EqRoot
def root.Fm.hint:Nat→Option A6
  | 0=>some { keep:=[0,4,5,6,14],objs:=[],boxes:=[] }
  | _=>none
def root.Fm.Ba:List (Nat × Entry):=[]
def root.Fm.E:Env:=Bc (A9 root.Fm.Ba) (fun _=>false) root.Fm.hint (fun _=>none)
def root.Fm.L0 (N M:Nat) (m p4:Int) (p5 p6 p14:Int):Option DV:=B2 root.Fm.E N Tryz.f265 (Am Tryz.f265) [1,1,0,1,0] [] M ⟨Fw 68 [(0,.int .u64 m),(4,.int .u64 p4),(5,.int .u64 p5),(6,.int .u64 p6),(14,.int .i64 p14)],[]⟩
theorem root.Fm.At (N M:Nat) (m p4:Int) (p5 p6 p14:Int):root.Fm.L0 N (M+1) m p4 p5 p6 p14=bif (A1 p14 64) then bif (A1 p14 32) then bif (decide (0≤(Ab ((62:Int)-(Ab ((2:Int)*p14)))))) then bif (decide ((Fp (G6 .u64 (Bm .u64 p6 2) (E8 .u64 (Ct .u64 m (Ab ((62:Int)-(Ab ((2:Int)*p14))))) 3)) (G6 .u64 (Bm .u64 p4 2) 1) 0)≤1)) then bif ((Fp (G6 .u64 (Bm .u64 p5 2) (Ct .u64 p6 62)) (Ct .u64 p4 62) (Fp (G6 .u64 (Bm .u64 p6 2) (E8 .u64 (Ct .u64 m (Ab ((62:Int)-(Ab ((2:Int)*p14))))) 3)) (G6 .u64 (Bm .u64 p4 2) 1) 0))==(0:Int)) then root.Fm.L0 N M m (G6 .u64 (Bm .u64 p4 1) 1) (Ks (G6 .u64 (Bm .u64 p5 2) (Ct .u64 p6 62)) (Ct .u64 p4 62) (Fp (G6 .u64 (Bm .u64 p6 2) (E8 .u64 (Ct .u64 m (Ab ((62:Int)-(Ab ((2:Int)*p14))))) 3)) (G6 .u64 (Bm .u64 p4 2) 1) 0)) (Ks (G6 .u64 (Bm .u64 p6 2) (E8 .u64 (Ct .u64 m (Ab ((62:Int)-(Ab ((2:Int)*p14))))) 3)) (G6 .u64 (Bm .u64 p4 2) 1) 0) (Ab (p14+1)) else root.Fm.L0 N M m (Bm .u64 p4 1) (G6 .u64 (Bm .u64 p5 2) (Ct .u64 p6 62)) (G6 .u64 (Bm .u64 p6 2) (E8 .u64 (Ct .u64 m (Ab ((62:Int)-(Ab ((2:Int)*p14))))) 3)) (Ab (p14+1)) else none else none else bif (decide ((Fp (G6 .u64 (Bm .u64 p6 2) 0) (G6 .u64 (Bm .u64 p4 2) 1) 0)≤1)) then bif ((Fp (G6 .u64 (Bm .u64 p5 2) (Ct .u64 p6 62)) (Ct .u64 p4 62) (Fp (G6 .u64 (Bm .u64 p6 2) 0) (G6 .u64 (Bm .u64 p4 2) 1) 0))==(0:Int)) then root.Fm.L0 N M m (G6 .u64 (Bm .u64 p4 1) 1) (Ks (G6 .u64 (Bm .u64 p5 2) (Ct .u64 p6 62)) (Ct .u64 p4 62) (Fp (G6 .u64 (Bm .u64 p6 2) 0) (G6 .u64 (Bm .u64 p4 2) 1) 0)) (Ks (G6 .u64 (Bm .u64 p6 2) 0) (G6 .u64 (Bm .u64 p4 2) 1) 0) (Ab (p14+1)) else root.Fm.L0 N M m (Bm .u64 p4 1) (G6 .u64 (Bm .u64 p5 2) (Ct .u64 p6 62)) (G6 .u64 (Bm .u64 p6 2) 0) (Ab (p14+1)) else none else some (.tup [.int .u64 p4,.bool (bif (p5==(0:Int)) then (p6==(0:Int)) else false)]) :=
  Eq.trans (by kernel_rfl)
  (E3 rfl (Au (N7 (p5==(0:Int))) (Au (Kq (p5==(0:Int))) (Au (Q9 (p5==(0:Int))) rfl))))
theorem root.Fm.ev (N:Nat) (m:Int):By root.Fm.E N Tryz.f265 (Am Tryz.f265) [.int .u64 m] =
  root.Fm.L0 N N m 0 0 0 0:=by kernel_rfl
abbrev _root_.Go.Proofs.S1.root.Fm.Kn:=A7 Tryz.prog 265 root.Fm.spec
theorem root.Fm.Ad (hk:Ax Tryz.prog root.Fm.Ba) (h:∀ (m:Int),root.Fm.pre [.i m]=true→Bd root.Fm.E Tryz.f265 [.int .u64 m] (root.Fm.out [.i m])):root.Fm.Kn :=
  Al (A0 hk _ _ _) Tryz.func265 (by kernel_rfl) (by kernel_rfl) h
def root.Sqrt.hint:Nat→Option A6
  | 5=>some { keep:=[5,7,9],objs:=[],boxes:=[] }
  | _=>none
def root.Sqrt.Ba:List (Nat × Entry):=[(250,B9.Bk.spec),(265,root.Fm.spec),(155,soft.Kind.spec),(212,soft.Cq.spec),(211,soft.E2.spec),(213,soft.Sign.spec)]
def root.Sqrt.E:Env:=Bc (A9 root.Sqrt.Ba) (fun _=>false) root.Sqrt.hint (fun _=>none)
def root.Sqrt.L0 (N M:Nat) (p5 p7:Int) (p9:Bool):Option DV:=B2 root.Sqrt.E N Tryz.f264 (Am Tryz.f264) [1,1,1,1,1,1,1,1,1,0,0] [] M ⟨Fw 73 [(5,.int .i64 p5),(7,.int .u64 p7),(9,.bool p9)],[]⟩
theorem root.Sqrt.At (N M:Nat) (p5 p7:Int) (p9:Bool):root.Sqrt.L0 N (M+1) p5 p7 p9=bif (Iw 4611686018427387904 p7) then root.Sqrt.L0 N M (Ab (p5+2)) (Ct .u64 p7 1) (bif p9 then true else ((E8 .u64 p7 1)==(1:Int))) else bif (Di p7 (Ab ((Ab (Int.tdiv p5 2))-32)) p9) then some (.tup [.int .u64 (Dz false p7 (Ab ((Ab (Int.tdiv p5 2))-32)) p9),.int .u8 (Dy false p7 (Ab ((Ab (Int.tdiv p5 2))-32)) p9)]) else none :=
  Eq.trans (by kernel_rfl)
  (E3 (Au (Vk p9) (Au (Tp p9) (Au (Tp p9) (Au (tt6 p9) rfl)))) rfl)
theorem root.Sqrt.ev (N:Nat) (a:Int):By root.Sqrt.E N Tryz.f264 (Am Tryz.f264) [.int .u64 a]=bif (Ai a) then bif ((A4 a)==(4:Int)) then some (.tup [.int .u64 9221120237041090560,.int .u8 0]) else bif (Ai a) then bif ((A4 a)==(0:Int)) then some (.tup [.int .u64 a,.int .u8 0]) else bif (a==(9218868437227405312:Int)) then some (.tup [.int .u64 a,.int .u8 0]) else bif (Ai a) then bif (Dd a) then some (.tup [.int .u64 9221120237041090560,.int .u8 16]) else bif (Ai a) then bif (Ai (Bf a)) then bif ((Int.tmod (Ab ((Aw a)-(Ab ((64-D0 (Bf a))-2)))) 2) !=(0:Int)) then bif (decide (0≤(Ab ((Ab ((64-D0 (Bf a))-2))-1)))) then bif (Cn (0≤(Bm .u64 (Bf a) (Ab ((Ab ((64-D0 (Bf a))-2))-1)))∧(Bm .u64 (Bf a) (Ab ((Ab ((64-D0 (Bf a))-2))-1)))<9223372036854775808)) then root.Sqrt.L0 N N (Ab ((Aw a)-(Ab ((Ab ((64-D0 (Bf a))-2))-1)))) (Qp (Bm .u64 (Bf a) (Ab ((Ab ((64-D0 (Bf a))-2))-1)))) (!(Qq (Bm .u64 (Bf a) (Ab ((Ab ((64-D0 (Bf a))-2))-1))))) else none else none else bif (decide (0≤(Ab ((64-D0 (Bf a))-2)))) then bif (Cn (0≤(Bm .u64 (Bf a) (Ab ((64-D0 (Bf a))-2)))∧(Bm .u64 (Bf a) (Ab ((64-D0 (Bf a))-2)))<9223372036854775808)) then root.Sqrt.L0 N N (Ab ((Aw a)-(Ab ((64-D0 (Bf a))-2)))) (Qp (Bm .u64 (Bf a) (Ab ((64-D0 (Bf a))-2)))) (!(Qq (Bm .u64 (Bf a) (Ab ((64-D0 (Bf a))-2))))) else none else none else none else none else none else none else none:=by kernel_rfl
abbrev _root_.Go.Proofs.S1.root.Sqrt.Kn:=A7 Tryz.prog 264 root.Sqrt.spec
theorem root.Sqrt.Ad (hk:Ax Tryz.prog root.Sqrt.Ba) (h:∀ (a:Int),root.Sqrt.pre [.i a]=true→Bd root.Sqrt.E Tryz.f264 [.int .u64 a] (root.Sqrt.out [.i a])):root.Sqrt.Kn :=
  Al (A0 hk _ _ _) Tryz.func264 (by kernel_rfl) (by kernel_rfl) h
def Ae.Sqrt.Ba:List (Nat × Entry):=[(264,root.Sqrt.spec)]
def Ae.Sqrt.E:Env:=Bc (A9 Ae.Sqrt.Ba) (fun _=>false) (fun _=>none) (fun _=>none)
theorem Ae.Sqrt.ev (N:Nat) (a:Int):By Ae.Sqrt.E N Tryz.f262 (Am Tryz.f262) [.int .u64 a]=bif (Ai a) then some (.int .u64 (G4 a)) else none:=by kernel_rfl
abbrev _root_.Go.Proofs.S1.Ae.Sqrt.Kn:=A7 Tryz.prog 262 Ae.Sqrt.spec
theorem Ae.Sqrt.Ad (hk:Ax Tryz.prog Ae.Sqrt.Ba) (h:∀ (a:Int),Ae.Sqrt.pre [.i a]=true→Bd Ae.Sqrt.E Tryz.f262 [.int .u64 a] (Ae.Sqrt.out [.i a])):Ae.Sqrt.Kn :=
  Al (A0 hk _ _ _) Tryz.func262 (by kernel_rfl) (by kernel_rfl) h
def compare.Sw.Ba:List (Nat × Entry):=[(261,B9.Ja.spec),(148,soft.Finite.spec),(155,soft.Kind.spec),(211,soft.E2.spec)]
def compare.Sw.E:Env:=Bc (A9 compare.Sw.Ba) (fun _=>false) (fun _=>none) (fun _=>none)
theorem compare.Sw.ev (N:Nat) (a:Int):By compare.Sw.E N Tryz.f255 (Am Tryz.f255) [.int .u64 a]=bif (Ai a) then bif ((!(Df a))||(Ai a)) then bif ((!(Df a))||((A4 a)==(0:Int))) then some (.int .i64 0) else bif (Ai a) then bif (Ai (Bf a)) then some (.int .i64 (Ab ((Ab ((D0 (Bf a))-1))+(Aw a)))) else none else none else none else none :=
  Eq.trans (by kernel_rfl)
  (E3 (Au (Ad6 (Df a)) (C0 (Am6 (Df a) (Ai a)) (Au (Tq (Df a)) (Au (Ad7 (Df a)) (C0 (Apy (Df a) ((A4 a)==(0:Int))) rfl rfl))) rfl)) rfl)
abbrev _root_.Go.Proofs.S1.compare.Sw.Kn:=A7 Tryz.prog 255 compare.Sw.spec
theorem compare.Sw.Ad (hk:Ax Tryz.prog compare.Sw.Ba) (h:∀ (a:Int),compare.Sw.pre [.i a]=true→Bd compare.Sw.E Tryz.f255 [.int .u64 a] (compare.Sw.out [.i a])):compare.Sw.Kn :=
  Al (A0 hk _ _ _) Tryz.func255 (by kernel_rfl) (by kernel_rfl) h
def Ae.Norm.hint:Nat→Option A6
  | 0=>some { keep:=[5,6,25,26,27],objs:=[],boxes:=[] }
  | _=>none
def Ae.Norm.Ba:List (Nat × Entry):=[(255,compare.Sw.spec),(148,soft.Finite.spec),(226,Ae.Add.spec),(89,Ae.Cf.spec),(157,Ae.Mul.spec),(88,Ae.Bp.spec),(262,Ae.Sqrt.spec)]
def Ae.Norm.E:Env:=Bc (A9 Ae.Norm.Ba) (fun _=>false) Ae.Norm.hint (fun _=>none)
def Ae.Norm.L0 (N M:Nat) (x:List Int) (p6 p27:Int):Option DV:=B2 Ae.Norm.E N Tryz.f257 (Am Tryz.f257) [1,1,1,1,1,1,0,1,0] [] M ⟨Fw 45 [(5,.int .i64 (Bz (Bl x))),(6,.int .u64 p6),(25,.ints .arg .u64 x),(26,.int .i64 (List.length x:Int)),(27,.int .i64 p27)],[]⟩
theorem Ae.Norm.At (N M:Nat) (x:List Int) (p6 p27:Int):Ae.Norm.L0 N (M+1) x p6 p27=bif (A1 p27 (List.length x:Int)) then bif ((decide (0≤p27))&&(decide (p27<(List.length x:Int)))) then bif (Eh (List.getD x (Int.toNat p27) 0) (Ab (0-(Bz (Bl x))))) then bif (Ai (B8 (List.getD x (Int.toNat p27) 0) (Ab (0-(Bz (Bl x)))))&&Ai (B8 (List.getD x (Int.toNat p27) 0) (Ab (0-(Bz (Bl x)))))) then bif (Ai p6&&Ai (Ej (B8 (List.getD x (Int.toNat p27) 0) (Ab (0-(Bz (Bl x))))) (B8 (List.getD x (Int.toNat p27) 0) (Ab (0-(Bz (Bl x))))))) then Ae.Norm.L0 N M x (Jm p6 (Ej (B8 (List.getD x (Int.toNat p27) 0) (Ab (0-(Bz (Bl x))))) (B8 (List.getD x (Int.toNat p27) 0) (Ab (0-(Bz (Bl x))))))) (Ab (p27+1)) else none else none else none else none else bif (Ai p6) then bif (Eh (G4 p6) (Bz (Bl x))) then some (.tup [.int .u64 (B8 (G4 p6) (Bz (Bl x))),.int .i64 0]) else none else none:=by kernel_rfl
theorem Ae.Norm.ev (N:Nat) (x:List Int):By Ae.Norm.E N Tryz.f257 (Am Tryz.f257) [.ints .arg .u64 x]=bif (A1 64 (List.length x:Int)) then some (.tup [.int .u64 0,.int .i64 3]) else bif (C4 x) then bif (((Bl x)==(0:Int))||(Ai (Bl x))) then bif (((Bl x)==(0:Int))||(!(Df (Bl x)))) then some (.tup [.int .u64 (Bl x),.int .i64 0]) else bif (Ai (Bl x)) then Ae.Norm.L0 N N x 0 (0:Int) else none else none else none :=
  Eq.trans (by kernel_rfl)
  (E3 rfl (E3 (Au (Vk ((Bl x)==(0:Int))) (C0 (Aph ((Bl x)==(0:Int)) (Ai (Bl x))) (Au (Tp ((Bl x)==(0:Int))) (Au (tt6 ((Bl x)==(0:Int))) (C0 (tt89 ((Bl x)==(0:Int)) (Df (Bl x))) rfl rfl))) rfl)) rfl))
abbrev _root_.Go.Proofs.S1.Ae.Norm.Kn:=A7 Tryz.prog 257 Ae.Norm.spec
theorem Ae.Norm.Ad (hk:Ax Tryz.prog Ae.Norm.Ba) (h:∀ (x:List Int),Ae.Norm.pre [.l x]=true→Bd Ae.Norm.E Tryz.f257 [.ints .arg .u64 x] (Ae.Norm.out [.l x])):Ae.Norm.Kn :=
  Al (A0 hk _ _ _) Tryz.func257 (by kernel_rfl) (by kernel_rfl) h
end EqRoot
open EqRoot
theorem Q3 (n s:Nat) (h:s≤64):Ct .u64 (n:Int) (s:Int)=((n / 2^s:Nat):Int):=F8 .u64 n s h
theorem sh2 {n t:Nat} (ht:t<4):G6 .u64 (Bm .u64 (n:Int) (2:Int)) (t:Int)=((n%2^62*4+t:Nat):Int):=by
  rw [show (2:Int)=((2:Nat):Int) from rfl,Ek n 2 (by decide),show n*2^2%2^64=(n%2^62)*2^2 by omega]
  exact Kj ht (by omega)
theorem sh1 {n:Nat} (h:n<2^63):Bm .u64 (n:Int) (1:Int)=((2*n:Nat):Int):=by
  rw [show (1:Int)=((1:Nat):Int) from rfl,Ek n 1 (by decide)]
  congr 1; omega
theorem sh1o {n:Nat} (h:n<2^63):G6 .u64 (Bm .u64 (n:Int) (1:Int)) (1:Int)=((2*n+1:Nat):Int):=by
  rw [show (1:Int)=((1:Nat):Int) from rfl,Ek n 1 (by decide),show n*2^1%2^64=n*2^1 by omega,Nat.mul_comm 2 n]
  exact Kj (k:=1) (by decide) (by omega)
theorem Agk {m i:Nat} (hi:i<32):E8 .u64 (Ct .u64 (m:Int) (Ab ((62:Int)-(Ab ((2:Int)*(i:Int)))))) (3:Int)=((m / 2^(62-2*i)%2^64%4:Nat):Int)∨2^64≤m:=by
  by_cases hm:m<2^64
  · left
    rw [An (x:=(2:Int)*(i:Int)) (by omega) (by omega),An (x:=(62:Int)-2*(i:Int)) (by omega) (by omega),show (62:Int)-2*(i:Int)=((62-2*i:Nat):Int) by omega,Q3 _ _ (by omega)]
    have hd:m / 2^(62-2*i)<2^64:=Nat.lt_of_le_of_lt (Nat.div_le_self _ _) hm
    rw [show (3:Int)=((2^2-1:Nat):Int) from rfl,Gx 2 hd (by decide)]
    congr 1
    omega
  · right; omega
def On (m i:Nat):Nat:=m*2^64 / 2^(128-2*i)
theorem Ag9 {m i:Nat} (hi:i<32):On m (i+1)=4*On m i+m / 2^(62-2*i)%4:=by
  unfold On
  have e1:128-2*i=64+(64-2*i):=by omega
  have e2:128-2*(i+1)=64+(62-2*i):=by omega
  rw [e1,e2,Nat.pow_add,Nat.pow_add,Nat.mul_comm (2^64),Nat.mul_comm (2^64),Nat.mul_div_mul_right _ _ (by decide),Nat.mul_div_mul_right _ _ (by decide),show 64-2*i=(62-2*i)+2 by omega,Nat.pow_add,← Nat.div_div_eq_div_mul]
  omega
theorem Aep {m i:Nat} (hi:32≤i) (h:i<64):On m (i+1)=4*On m i:=by
  unfold On
  have e1:(2:Nat)^64=2^(2*i-64)*2^(128-2*i):=by rw [← Nat.pow_add]; congr 1; omega
  have e2:(2:Nat)^64=2^(2*i-64)*4*2^(128-2*(i+1)):=by
    rw [show (4:Nat)=2^2 from rfl,← Nat.pow_add,← Nat.pow_add]; congr 1; omega
  have a1:m*2^64 / 2^(128-2*i)=m*2^(2*i-64):=by rw [e1,← Nat.mul_assoc,Nat.mul_div_cancel _ (Cd _)]
  have a2:m*2^64 / 2^(128-2*(i+1))=m*(2^(2*i-64)*4):=by rw [e2,← Nat.mul_assoc,Nat.mul_div_cancel _ (Cd _)]
  rw [a1,a2,← Nat.mul_assoc,Nat.mul_comm 4]
theorem Akb {A B tl th:Nat} (hA:A<2^64) (htl:tl<2^64) (hB:B<2^64) (hth:th<4) :
    (Fp (A:Int) (tl:Int) (0:Int)=0∨Fp (A:Int) (tl:Int) (0:Int)=1) ∧
    (th*2^64+tl≤B*2^64+A→(Fp (B:Int) (th:Int) (Fp (A:Int) (tl:Int) (0:Int))==(0:Int))=true ∧
      ∃ h l:Nat,Ks (B:Int) (th:Int) (Fp (A:Int) (tl:Int) (0:Int))=(h:Int)∧Ks (A:Int) (tl:Int) (0:Int)=(l:Int)∧l<2^64∧h*2^64+l=B*2^64+A-(th*2^64+tl)) ∧
    (B*2^64+A<th*2^64+tl→(Fp (B:Int) (th:Int) (Fp (A:Int) (tl:Int) (0:Int))==(0:Int))=false):=by
  have e1:Fp (A:Int) (tl:Int) (0:Int)=((if A<tl then 1 else 0:Nat):Int):=by
    unfold Fp
    rw [Aqy,Aqy]
    rfl
  by_cases h:A<tl
  · rw [if_pos h] at e1
    rw [e1]
    have e2:Fp (B:Int) (th:Int) ((1:Nat):Int)=((if B<th+1 then 1 else 0:Nat):Int):=by
      unfold Fp
      rw [Aqy,Aqy]
      rfl
    refine ⟨.inr rfl,fun hle=>?_,fun hlt=>?_⟩
    · rw [if_neg (by omega)] at e2
      rw [e2]
      refine ⟨rfl,B-th-1,A+2^64-tl,?_,?_,by omega,by omega⟩
      · unfold Ks
        rw [Aqy,Aqy,Aqy]
        congr 1; omega
      · unfold Ks
        rw [Aqy,Aqy]
        show ((_:Nat):Int)=_
        congr 1
        show (A+18446744073709551616-tl-0)%18446744073709551616=_
        omega
    · rw [if_pos (by omega)] at e2
      rw [e2]; rfl
  · rw [if_neg h] at e1
    rw [e1]
    have e2:Fp (B:Int) (th:Int) ((0:Nat):Int)=((if B<th then 1 else 0:Nat):Int):=by
      unfold Fp
      rw [Aqy,Aqy]
      rfl
    refine ⟨.inl rfl,fun hle=>?_,fun hlt=>?_⟩
    · rw [if_neg (by omega)] at e2
      rw [e2]
      refine ⟨rfl,B-th,A-tl,?_,?_,by omega,by omega⟩
      · unfold Ks
        rw [Aqy,Aqy,Aqy]
        congr 1; omega
      · unfold Ks
        rw [Aqy,Aqy]
        show ((_:Nat):Int)=_
        congr 1
        show (A+18446744073709551616-tl-0)%18446744073709551616=_
        omega
    · rw [if_pos (by omega)] at e2
      rw [e2]; rfl
theorem glue (n t:Nat):n / 2^62*2^64+(n%2^62*4+t)=4*n+t:=by omega
theorem Ae8 (N:Nat) {m:Nat} (hm:m<2^63):∀ (k i F rt rest:Nat),i+k=64→k<F→On m i=rt*rt+rest→rest≤2*rt→rt<2^i→∀ hi lo:Nat,hi*2^64+lo=rest→lo<2^64 →
    root.Fm.L0 N F (m:Int) (rt:Int) (hi:Int) (lo:Int) (i:Int)=some (.tup [.int .u64 (Qp m),.bool (Qq m)]):=by
  intro k
  induction k with
  | zero =>
    intro i F rt rest hi hF hP hr hb h l e hl
    obtain ⟨F,rfl⟩:∃ G,F=G+1:=⟨F-1,by omega⟩
    obtain rfl:i=64:=by omega
    have hP':m*2^64=rt*rt+rest:=by
      rw [← hP]; unfold On
      rw [show 128-2*64=0 from rfl,Nat.pow_zero,Nat.div_one]
    have hroot:=Akk hP' hr
    rw [root.Fm.At,Aq,Aq1 (by omega),Aq0]
    have e1:Qp (m:Int)=(rt:Int):=by unfold Qp; rw [Aqy,← hroot]
    have e2:Qq (m:Int)=(bif ((h:Int)==(0:Int)) then ((l:Int)==(0:Int)) else false):=by
      unfold Qq
      rw [Aqy,← hroot,hP']
      by_cases h0:h=0
      · subst h0
        rw [show (((0:Nat):Int)==(0:Int))=true from rfl,Aqw,Arc,Aq3,beq_iff_eq]
        omega
      · rw [show ((h:Int)==(0:Int))=false by rw [beq_eq_false_iff_ne]; omega,Aq0,Aq1]
        omega
    rw [e1,e2]
  | succ k ih =>
    intro i F rt rest hi hF hP hr hb h l e hl
    obtain ⟨F,rfl⟩:∃ G,F=G+1:=⟨F-1,by omega⟩
    have hp:2^i≤2^63:=Arb (by decide) (by omega)
    have hi63:2^(i+1)=2*2^i:=by rw [Nat.pow_succ,Nat.mul_comm]
    have f1:2*rt+1<2^(i+1):=by rw [hi63]; omega
    have f2:2*rt<2^(i+1):=by omega
    have hh:h=0:=by omega
    subst hh
    have hrest:rest=l:=by omega
    subst hrest
    obtain ⟨two,t4,hP',hcode⟩:∃ two:Nat,two<4∧On m (i+1)=4*On m i+two ∧
        root.Fm.L0 N (F+1) (m:Int) (rt:Int) ((0:Nat):Int) (rest:Int) (i:Int) =
        (bif (decide ((Fp (G6 .u64 (Bm .u64 (rest:Int) (2:Int)) (two:Int)) (G6 .u64 (Bm .u64 (rt:Int) (2:Int)) (1:Int)) (0:Int))≤1)) then
          bif ((Fp (G6 .u64 (Bm .u64 ((0:Nat):Int) (2:Int)) (Ct .u64 (rest:Int) (62:Int))) (Ct .u64 (rt:Int) (62:Int)) (Fp (G6 .u64 (Bm .u64 (rest:Int) (2:Int)) (two:Int)) (G6 .u64 (Bm .u64 (rt:Int) (2:Int)) (1:Int)) (0:Int)))==(0:Int)) then
            root.Fm.L0 N F (m:Int) (G6 .u64 (Bm .u64 (rt:Int) (1:Int)) (1:Int)) (Ks (G6 .u64 (Bm .u64 ((0:Nat):Int) (2:Int)) (Ct .u64 (rest:Int) (62:Int))) (Ct .u64 (rt:Int) (62:Int)) (Fp (G6 .u64 (Bm .u64 (rest:Int) (2:Int)) (two:Int)) (G6 .u64 (Bm .u64 (rt:Int) (2:Int)) (1:Int)) (0:Int))) (Ks (G6 .u64 (Bm .u64 (rest:Int) (2:Int)) (two:Int)) (G6 .u64 (Bm .u64 (rt:Int) (2:Int)) (1:Int)) (0:Int)) (Ab ((i:Int)+(1:Int)))
          else root.Fm.L0 N F (m:Int) (Bm .u64 (rt:Int) (1:Int)) (G6 .u64 (Bm .u64 ((0:Nat):Int) (2:Int)) (Ct .u64 (rest:Int) (62:Int))) (G6 .u64 (Bm .u64 (rest:Int) (2:Int)) (two:Int)) (Ab ((i:Int)+(1:Int)))
        else none):=by
      by_cases h32:i<32
      · refine ⟨m / 2^(62-2*i)%4,Nat.mod_lt _ (by decide),Ag9 h32,?_⟩
        have ht:=(Agk (m:=m) h32).resolve_right (by omega)
        have hq:m / 2^(62-2*i)%2^64%4=m / 2^(62-2*i)%4:=by omega
        rw [hq] at ht
        rw [root.Fm.At,Aq,Aqx (show (i:Int)<64 by omega),Aqw,Aq,Aqx (show (i:Int)<32 by omega),Aqw,ht,An (x:=(2:Int)*(i:Int)) (by omega) (by omega),An (x:=(62:Int)-2*(i:Int)) (by omega) (by omega),Aqx (show (0:Int)≤62-2*(i:Int) by omega),Aqw]
      · refine ⟨0,by decide,by rw [Aep (by omega) (by omega),Nat.add_zero],?_⟩
        rw [root.Fm.At,Aq,Aqx (show (i:Int)<64 by omega),Aqw,Aq,Aq1 (show ¬ (i:Int)<32 by omega),Aq0]
        rfl
    obtain ⟨s1,s2⟩:=Acp hP hr t4
    have eA:=sh2 (n:=rest) t4
    have eT:=sh2 (n:=rt) (t:=1) (by decide)
    have eB:G6 .u64 (Bm .u64 ((0:Nat):Int) (2:Int)) (Ct .u64 (rest:Int) (62:Int))=((rest / 2^62:Nat):Int):=by
      rw [show (62:Int)=((62:Nat):Int) from rfl,Q3 _ _ (by decide),sh2 (n:=0) (t:=rest / 2^62) (by omega)]
      congr 1; omega
    have eH:Ct .u64 (rt:Int) (62:Int)=((rt / 2^62:Nat):Int):=by rw [show (62:Int)=((62:Nat):Int) from rfl,Q3 _ _ (by decide)]
    have eT':G6 .u64 (Bm .u64 (rt:Int) (2:Int)) (1:Int)=((rt%2^62*4+1:Nat):Int):=eT
    obtain ⟨b1,b2,b3⟩:=Akb (A:=rest%2^62*4+two) (B:=rest / 2^62) (tl:=rt%2^62*4+1) (th:=rt / 2^62) (by omega) (by omega) (by omega) (by omega)
    rw [hcode,eA,eT',eB,eH,Aqx (by rcases b1 with b | b<;>rw [b]<;>decide),Aqw,An (by omega) (by omega)]
    by_cases hc:4*rt+1≤4*rest+two
    · obtain ⟨c1,hh,ll,c2,c3,c4,c5⟩:=b2 (by rw [glue,glue]; exact hc)
      obtain ⟨d1,d2⟩:=s1 hc
      rw [c1,Aqw,c2,c3,sh1o (by omega)]
      refine ih (i+1) F (2*rt+1) (4*rest+two-(4*rt+1)) (by omega) (by omega) (hP'.trans d1) d2 f1 hh ll ?_ c4
      rw [c5,glue,glue]
    · rw [b3 (by rw [glue,glue]; omega),Aq0,sh1 (by omega)]
      obtain ⟨d1,d2⟩:=s2 (by omega)
      refine ih (i+1) F (2*rt) (4*rest+two) (by omega) (by omega) (hP'.trans d1) d2 f2 _ _ (glue _ _) ?_
      clear hcode
      omega
theorem root.Fm.known:root.Fm.Kn:=root.Fm.Ad .nil fun m hp=>by
  have hp:=Ao.1 hp
  obtain ⟨n,rfl⟩:∃ n:Nat,m=n:=⟨m.toNat,by omega⟩
  refine ⟨65,root.Fm.out [.i n],[],?_,Wk.Gb (.cons .int (.cons .bool .nil))⟩
  rw [root.Fm.ev]
  have h0:On n 0=0*0+0:=by
    unfold On
    rw [Nat.div_eq_of_lt]
    show n*18446744073709551616<340282366920938463463374607431768211456
    omega
  exact Ae8 65 (by omega) 64 0 65 0 0 rfl (by omega) h0 (Nat.le_refl 0) Nat.one_pos 0 0 rfl (Nat.pow_pos (by decide))
end Go.Proofs.S1
end
