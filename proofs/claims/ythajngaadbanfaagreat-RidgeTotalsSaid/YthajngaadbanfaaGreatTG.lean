/- A verified evaluator of the program's form and its use for this seat: S1EqSoft, S1PSoft, S1PPack, S1PNear, S1EqSum, S1PSum. -/
import Derived.Test.YthajngaadbanfaaGreatTE
import Derived.Test.YthajngaadbanfaaGreatTF
set_option linter.unusedVariables false
set_option linter.unusedSimpArgs false
noncomputable section
open Int (toNat)
open List (length getD)
open Go.Proofs.Tryz
namespace Go.Proofs.S1
open Go Go.Den Go.Rnd Go.Proofs
set_option maxRecDepth 100000
namespace EqSoft
def soft.Split.Ba:List (Nat × Entry):=[]
def soft.Split.E:Env:=Bg (Bb soft.Split.Ba) (fun _=>false) (fun _=>none) (fun _=>none)
theorem soft.Split.ev (N:Nat) (x:Int):B0 soft.Split.E N f202 (Ak f202) [.int .u64 x]=some (.agg [.bool ((Ed .u64 x 63)==(1:Int)),.int .i64 (Ab (Fy .u64 (Ed .u64 x 52) 2047)),.int .u64 (Fy .u64 x 4503599627370495)]):=by kernel_rfl
abbrev _root_.Go.Proofs.S1.soft.Split.Kn:=A8 prog 202 soft.Split.spec
theorem soft.Split.Ad (hk:A1 prog soft.Split.Ba) (h:Hyp soft.Split.E f202 soft.Split.ts soft.Split.pre soft.Split.out):soft.Split.Kn :=
 Al (A4 hk _ _ _) func202 (by kernel_rfl) (by kernel_rfl) h
def soft.Kind.Ba:List (Nat × Entry):=[(202,soft.Split.spec)]
def soft.Kind.E:Env:=Bg (Bb soft.Kind.Ba) (fun _=>false) (fun _=>none) (fun _=>none)
theorem soft.Kind.ev (N:Nat) (x:Int):B0 soft.Kind.E N f165 (Ak f165) [.int .u64 x]=bif (Af x) then bif (((N0 x)==(2047:Int))&&((Dq x)==(0:Int))) then some (.int .i64 3) else bif ((N0 x)==(2047:Int)) then some (.int .i64 4) else bif (Bi 0 (N0 x)) then some (.int .i64 2) else bif (Bi 0 (Dq x)) then some (.int .i64 1) else some (.int .i64 0) else none :=
 Eq.trans (by kernel_rfl)
 (E1 (Cw (tt0 (Eb x) _ _) rfl rfl) rfl)
abbrev _root_.Go.Proofs.S1.soft.Kind.Kn:=A8 prog 165 soft.Kind.spec
theorem soft.Kind.Ad (hk:A1 prog soft.Kind.Ba) (h:Hyp soft.Kind.E f165 soft.Kind.ts soft.Kind.pre soft.Kind.out):soft.Kind.Kn :=
 Al (A4 hk _ _ _) func165 (by kernel_rfl) (by kernel_rfl) h
def soft.Sign.Ba:List (Nat × Entry):=[]
def soft.Sign.E:Env:=Bg (Bb soft.Sign.Ba) (fun _=>false) (fun _=>none) (fun _=>none)
theorem soft.Sign.ev (N:Nat) (x:Int):B0 soft.Sign.E N f181 (Ak f181) [.int .u64 x]=some (.bool ((Ed .u64 x 63)==(1:Int))):=by kernel_rfl
abbrev _root_.Go.Proofs.S1.soft.Sign.Kn:=A8 prog 181 soft.Sign.spec
theorem soft.Sign.Ad (hk:A1 prog soft.Sign.Ba) (h:Hyp soft.Sign.E f181 soft.Sign.ts soft.Sign.pre soft.Sign.out):soft.Sign.Kn :=
 Al (A4 hk _ _ _) func181 (by kernel_rfl) (by kernel_rfl) h
def soft.Finite.Ba:List (Nat × Entry):=[(165,soft.Kind.spec)]
def soft.Finite.E:Env:=Bg (Bb soft.Finite.Ba) (fun _=>false) (fun _=>none) (fun _=>none)
theorem soft.Finite.ev (N:Nat) (x:Int):B0 soft.Finite.E N f136 (Ak f136) [.int .u64 x]=bif (Af x) then bif ((Bz x)==(3:Int)) then some (.bool false) else bif ((Bz x)==(4:Int)) then some (.bool false) else some (.bool true) else none:=by kernel_rfl
abbrev _root_.Go.Proofs.S1.soft.Finite.Kn:=A8 prog 136 soft.Finite.spec
theorem soft.Finite.Ad (hk:A1 prog soft.Finite.Ba) (h:Hyp soft.Finite.E f136 soft.Finite.ts soft.Finite.pre soft.Finite.out):soft.Finite.Kn :=
 Al (A4 hk _ _ _) func136 (by kernel_rfl) (by kernel_rfl) h
def soft.Dn.Ba:List (Nat × Entry):=[]
def soft.Dn.E:Env:=Bg (Bb soft.Dn.Ba) (fun _=>false) (fun _=>none) (fun _=>none)
theorem soft.Dn.ev (N:Nat) (x:Int):B0 soft.Dn.E N f81 (Ak f81) [.int .u64 x]=some (.int .u64 (Axj .u64 x 9223372036854775808)):=by kernel_rfl
abbrev _root_.Go.Proofs.S1.soft.Dn.Kn:=A8 prog 81 soft.Dn.spec
theorem soft.Dn.Ad (hk:A1 prog soft.Dn.Ba) (h:Hyp soft.Dn.E f81 soft.Dn.ts soft.Dn.pre soft.Dn.out):soft.Dn.Kn :=
 Al (A4 hk _ _ _) func81 (by kernel_rfl) (by kernel_rfl) h
def soft.Gy.Ba:List (Nat × Entry):=[(202,soft.Split.spec)]
def soft.Gy.E:Env:=Bg (Bb soft.Gy.Ba) (fun _=>false) (fun _=>none) (fun _=>none)
theorem soft.Gy.ev (N:Nat) (x:Int):B0 soft.Gy.E N f166 (Ak f166) [.int .u64 x]=bif (Af x) then bif ((N0 x)==(0:Int)) then some (.tup [.int .u64 (Dq x),.int .i64 (-1074:Int)]) else some (.tup [.int .u64 (Jl .u64 (Dq x) 4503599627370496),.int .i64 (Ab ((N0 x)-1075))]) else none:=by kernel_rfl
abbrev _root_.Go.Proofs.S1.soft.Gy.Kn:=A8 prog 166 soft.Gy.spec
theorem soft.Gy.Ad (hk:A1 prog soft.Gy.Ba) (h:Hyp soft.Gy.E f166 soft.Gy.ts soft.Gy.pre soft.Gy.out):soft.Gy.Kn :=
 Al (A4 hk _ _ _) func166 (by kernel_rfl) (by kernel_rfl) h
def soft.Pack.Ba:List (Nat × Entry):=[(81,soft.Dn.spec)]
def soft.Pack.E (rk:Nat):Env:=Bg (Bb ((214,Aoe [.b,.i .u64,.i .i64] soft.Pack.pre soft.Pack.out soft.Pack.mu rk)::soft.Pack.Ba)) (fun _=>false) (fun _=>none) (fun _=>none)
theorem soft.Pack.ev (N rk:Nat) (n:Bool) (m e:Int):B0 (soft.Pack.E rk) N f214 (Ak f214) [.bool n,.int .u64 m,.int .i64 e]=bif (m==(0:Int)) then bif n then bif (Af 0) then some (.int .u64 (Da 0)) else none else some (.int .u64 0) else bif (Ex 9007199254740992 m) then bif ((Mn (Ed .u64 m 1) (Ab (e+1)))&&(B3 ((Q8 (Ed .u64 m 1) (Ab (e+1)))<rk))) then some (.int .u64 (V3 n (Ed .u64 m 1) (Ab (e+1)))) else none else bif ((Bi m 4503599627370496)&&(Bi (-1074:Int) e)) then bif ((Mn (Cg .u64 m 1) (Ab (e-1)))&&(B3 ((Q8 (Cg .u64 m 1) (Ab (e-1)))<rk))) then some (.int .u64 (V3 n (Cg .u64 m 1) (Ab (e-1)))) else none else bif (Bi m 4503599627370496) then bif n then bif (Af m) then some (.int .u64 (Da m)) else none else some (.int .u64 m) else bif (Ex 2047 (Ab (e+1075))) then bif n then bif (Af 9218868437227405312) then some (.int .u64 (Da 9218868437227405312)) else none else some (.int .u64 9218868437227405312) else bif n then bif (Af (Jl .u64 (Cg .u64 (Bs (Ab (e+1075))) 52) (Fy .u64 m 4503599627370495))) then some (.int .u64 (Da (Jl .u64 (Cg .u64 (Bs (Ab (e+1075))) 52) (Fy .u64 m 4503599627370495)))) else none else some (.int .u64 (Jl .u64 (Cg .u64 (Bs (Ab (e+1075))) 52) (Fy .u64 m 4503599627370495))) :=
 Eq.trans (by kernel_rfl)
 (E1 rfl (E1 rfl (Ay (R5 (Bi m 4503599627370496)) (Ay (Oo (Bi m 4503599627370496)) (Ay (W8 (Bi m 4503599627370496)) (Cw (tt1 _ _) rfl rfl))))))
theorem soft.Pack.Ad (hk:A1 prog soft.Pack.Ba) (h:∀ (rk:Nat) (n:Bool) (m e:Int),soft.Pack.pre [.b n,.i m,.i e]=true→soft.Pack.mu [.b n,.i m,.i e]<rk+1→∃ N dv drops,B0 (soft.Pack.E rk) N f214 (Ak f214) [.bool n,.int .u64 m,.int .i64 e]=some dv∧Wk drops dv (soft.Pack.out [.b n,.i m,.i e])):A8 prog 214 soft.Pack.spec:=by
 have call:=Mi (f:=214) func214 (by kernel_rfl) (show f214.body=some (Ak f214) by kernel_rfl)
 refine ⟨Akp (E:=soft.Pack.E) func214 (show f214.body=some (Ak f214) by kernel_rfl) soft.Pack.mu (fun rk hm=>A4 (.cons ⟨hm,call⟩ hk) _ _ _) fun rk ats dvs he hp hr=>?_,call⟩
 obtain ⟨n,_,_,rfl,rfl,he0⟩:=he.A19
 obtain ⟨m,_,_,rfl,rfl,he1⟩:=he0.Ads
 obtain ⟨e,_,_,rfl,rfl,he2⟩:=he1.Ads
 obtain ⟨rfl,rfl⟩:=he2.Kt
 exact h rk n m e hp hr
abbrev _root_.Go.Proofs.S1.soft.Pack.Kn:Prop:=A8 prog 214 soft.Pack.spec
def soft.D5.hint:Nat→Option Bc
 | 0=>some { keep:=[0,1,2,3,10],objs:=[],boxes:=[] }
 | _=>none
def soft.D5.Ba:List (Nat × Entry):=[(165,soft.Kind.spec),(214,soft.Pack.spec)]
def soft.D5.live:Nat→Option (List Nat)
 | 7=>some [0,1,2,3,10]
 | 12=>some [0,2,3,10,11,12,13,14]
 | 14=>some [0,2,10,11,14]
 | 16=>some [0,2,10,11,14]
 | 18=>some [14,15,16]
 | _=>none
def soft.D5.E:Env:=Bg (Bb soft.D5.Ba) (fun _=>false) soft.D5.hint soft.D5.live
section
variable (N:Nat) (p14_3:Bool) (p15:Int) (M:Nat) (n:Bool) (m e p11 p10_4:Int) (p14_2:Bool) (p10_3 p11_2:Int) (p14_1 r:Bool) (p10_2 p11_1 p12 p13:Int) (p14:Bool) (p10_1 p10:Int)
def soft.D5.L0:Option DV:=Cb soft.D5.E N f180 (Ak f180) [1,1,1,0,0] [] M ⟨Fo 111 [(0,.bool n),(1,.int .u64 m),(2,.int .i64 e),(3,.bool r),(10,.int .i64 p10)],[]⟩
def soft.D5.C7:Option DV:=cutAt soft.D5.E N f180 (Ak f180) [1,1,1,1] [] ⟨Fo 111 [(0,.bool n),(1,.int .u64 m),(2,.int .i64 e),(3,.bool r),(10,.int .i64 p10_1)],[]⟩
def soft.D5.C12:Option DV:=cutAt soft.D5.E N f180 (Ak f180) [1,1,1,1,1,1,1,1,0] [] ⟨Fo 111 [(0,.bool n),(2,.int .i64 e),(3,.bool r),(10,.int .i64 p10_2),(11,.int .u64 p11_1),(12,.int .u64 p12),(13,.int .u64 p13),(14,.bool p14)],[]⟩
def soft.D5.C14:Option DV:=cutAt soft.D5.E N f180 (Ak f180) [1,1,1,1,1,1,1,1,1,0] [] ⟨Fo 111 [(0,.bool n),(2,.int .i64 e),(10,.int .i64 p10_3),(11,.int .u64 p11_2),(14,.bool p14_1)],[]⟩
def soft.D5.C16:Option DV:=cutAt soft.D5.E N f180 (Ak f180) [1,1,1,1,1,1,1,1,1,1] [] ⟨Fo 111 [(0,.bool n),(2,.int .i64 e),(10,.int .i64 p10_4),(11,.int .u64 p11),(14,.bool p14_2)],[]⟩
def soft.D5.C18:Option DV:=cutAt soft.D5.E N f180 (Ak f180) [1,1,1,1,1,1,1,1,1,1,1,1,0] [] ⟨Fo 111 [(14,.bool p14_3),(15,.int .u64 p15),(16,.int .u8 0)],[]⟩
theorem soft.D5.Au:soft.D5.L0 N (M+1) n m e r p10=bif (decide (0≤p10)) then bif ((Ex 9007199254740992 (Ed .u64 m p10))||(Bi (Ab (e+p10)) (-1074:Int))) then bif ((Ab (p10+1))==(63:Int)) then soft.D5.C7 N n m e r (Ab (p10+1)) else soft.D5.L0 N M n m e r (Ab (p10+1)) else soft.D5.C7 N n m e r p10 else none :=
 Eq.trans (by kernel_rfl)
 (E1 (Ay (T3 (Ex 9007199254740992 (Ed .u64 m p10))) (Ay (T3 (Ex 9007199254740992 (Ed .u64 m p10))) (Ay (tt8 (Ex 9007199254740992 (Ed .u64 m p10))) (Ay (Rv (Ex 9007199254740992 (Ed .u64 m p10))) (Ay (Y5 (Ex 9007199254740992 (Ed .u64 m p10))) (Cw (tt5 _ _) rfl rfl)))))) rfl)
theorem soft.D5.Y4:soft.D5.C7 N n m e r p10_1=bif (decide (0≤p10_1)) then bif (decide (0≤p10_1)) then bif (Bi 0 p10_1) then bif (decide (0≤(Ab (p10_1-1)))) then soft.D5.C12 N n e r p10_1 (Ed .u64 m p10_1) (Fy .u64 m (Bs ((Cg .u64 1 p10_1)-1))) (Cg .u64 1 (Ab (p10_1-1))) (bif ((Fy .u64 m (Bs ((Cg .u64 1 p10_1)-1)))==(0:Int)) then (!r) else false) else none else soft.D5.C12 N n e r p10_1 (Ed .u64 m p10_1) (Fy .u64 m (Bs ((Cg .u64 1 p10_1)-1))) 0 (bif ((Fy .u64 m (Bs ((Cg .u64 1 p10_1)-1)))==(0:Int)) then (!r) else false) else none else none :=
 Eq.trans ((Dk _ _ _ _ _ _ _).trans (by kernel_rfl))
 (Cw (Ct _) (Cw (Ct _) (E1 (E1 (Ay (R5 ((Fy .u64 m (Bs ((Cg .u64 1 p10_1)-1)))==(0:Int))) (Ay (Oo ((Fy .u64 m (Bs ((Cg .u64 1 p10_1)-1)))==(0:Int))) (Ay (W8 ((Fy .u64 m (Bs ((Cg .u64 1 p10_1)-1)))==(0:Int))) rfl))) rfl) (Ay (R5 ((Fy .u64 m (Bs ((Cg .u64 1 p10_1)-1)))==(0:Int))) (Ay (Oo ((Fy .u64 m (Bs ((Cg .u64 1 p10_1)-1)))==(0:Int))) (Ay (W8 ((Fy .u64 m (Bs ((Cg .u64 1 p10_1)-1)))==(0:Int))) rfl)))) rfl) rfl)
theorem soft.D5.Ab8:soft.D5.C12 N n e r p10_2 p11_1 p12 p13 p14=bif ((Bi 0 p10_2)&&((Bi p13 p12)||((p12==p13)&&(r||((Fy .u64 p11_1 1)==(1:Int)))))) then soft.D5.C14 N n e p10_2 (Bs (p11_1+1)) p14 else soft.D5.C14 N n e p10_2 p11_1 p14 :=
 Eq.trans ((Dk _ _ _ _ _ _ _).trans (by kernel_rfl))
 (Ay (R5 (Bi 0 p10_2)) (Ay (R5 (Bi 0 p10_2)) (Ay (Ani (Bi 0 p10_2)) (Ay (Oo (Bi 0 p10_2)) (Ay (A1k (Bi 0 p10_2) (Bi p13 p12)) (Ay (A1k (Bi 0 p10_2) (Bi p13 p12)) (Ay (A3s (Bi 0 p10_2) (Bi p13 p12)) (Ay (A3t (Bi 0 p10_2) (Bi p13 p12)) (Ay (A3u (Bi 0 p10_2) (Bi p13 p12) (p12==p13)) (Ay (A3v (Bi 0 p10_2) (Bi p13 p12) (p12==p13)) (Ay (A3w (Bi 0 p10_2) (Bi p13 p12) (p12==p13) r) (Ay (A1l (Bi 0 p10_2) (Bi p13 p12) (p12==p13) r) (Ay (A1l (Bi 0 p10_2) (Bi p13 p12) (p12==p13) r) (Ay (A3x (Bi 0 p10_2) (Bi p13 p12) (p12==p13) r) (Ay (A3y (Bi 0 p10_2) (Bi p13 p12) (p12==p13)) (Ay (A3z (Bi 0 p10_2) (Bi p13 p12)) (Ay (W8 (Bi 0 p10_2)) (Cw (A30 _ _ _ _ _) rfl rfl))))))))))))))))))
theorem soft.D5.Az8:soft.D5.C14 N n e p10_3 p11_2 p14_1=bif (Bi (Ab (e+p10_3)) (-1074:Int)) then soft.D5.C16 N n e 0 p10_3 p14_1 else soft.D5.C16 N n e p11_2 p10_3 p14_1:=(Dk _ _ _ _ _ _ _).trans (by kernel_rfl)
theorem soft.D5.Az7:soft.D5.C16 N n e p11 p10_4 p14_2=bif (Mn p11 (max (Ab (e+p10_4)) (-1074:Int))) then soft.D5.C18 N p14_2 (V3 n p11 (max (Ab (e+p10_4)) (-1074:Int))) else none:=(Dk _ _ _ _ _ _ _).trans (by kernel_rfl)
theorem soft.D5.Ab7:soft.D5.C18 N p14_3 p15=bif ((!p14_3)||((H8 .u64 p15 9223372036854775808)==(9218868437227405312:Int))) then bif (Af p15) then bif ((Bz p15)==(3:Int)) then some (.tup [.int .u64 p15,.int .u8 5]) else bif ((Bz p15)==(0:Int)) then bif ((Bz p15)==(0:Int)) then some (.tup [.int .u64 p15,.int .u8 3]) else some (.tup [.int .u64 p15,.int .u8 1]) else bif ((Bz p15)==(1:Int)) then some (.tup [.int .u64 p15,.int .u8 3]) else some (.tup [.int .u64 p15,.int .u8 1]) else none else some (.tup [.int .u64 p15,.int .u8 0]) :=
 Eq.trans ((Dk _ _ _ _ _ _ _).trans (by kernel_rfl))
 (Ay (Un p14_3) (Ay (Pz p14_3) (Ay (Pz p14_3) (Ay (Xc p14_3) (Cw (Ava _ _) rfl rfl)))))
theorem soft.D5.ev:B0 soft.D5.E N f180 (Ak f180) [.bool n,.int .u64 m,.int .i64 e,.bool r]=bif ((m==(0:Int))&&(!r)) then bif (Mn 0 (-1074:Int)) then some (.tup [.int .u64 (V3 n 0 (-1074:Int)),.int .u8 0]) else none else soft.D5.L0 N N n m e r 0 :=
 Eq.trans (by kernel_rfl)
 (Ay (R5 (m==(0:Int))) (Ay (Oo (m==(0:Int))) (Ay (W8 (m==(0:Int))) (Cw (A1j _ _) rfl rfl))))
end
abbrev _root_.Go.Proofs.S1.soft.D5.Kn:=A8 prog 180 soft.D5.spec
theorem soft.D5.Ad (hk:A1 prog soft.D5.Ba) (h:Hyp soft.D5.E f180 soft.D5.ts soft.D5.pre soft.D5.out):soft.D5.Kn :=
 Al (A4 hk _ _ _) func180 (by kernel_rfl) (by kernel_rfl) h
end EqSoft
theorem Ac {a b:Bool}:(a&&b)=true↔a=true∧b=true:=by simp
theorem Ama {n:Nat} (hn:n<2^64):((Ed .u64 (n:Int) (63:Int))==(1:Int))=Eb n:=by
 rw [show (63:Int)=((63:Nat):Int) from rfl,Je .u64 n 63 (by decide)]
 unfold Eb Bx
 rw [A4s,A46]
 simp only [beq_iff_eq,A4x]
 omega
theorem Avv {n:Nat} (hn:n<2^64):Ab (Fy .u64 (Ed .u64 (n:Int) (52:Int)) (2047:Int))=N0 n:=by
 rw [show (52:Int)=((52:Nat):Int) from rfl,Je .u64 n 52 (by decide),show (2047:Int)=((2^11-1:Nat):Int) from rfl,J9 11 (by omega) (by decide)]
 unfold N0 D7
 rw [A4s,An (by omega) (by omega)]
theorem Atb {n:Nat} (hn:n<2^64):Fy .u64 (n:Int) (4503599627370495:Int)=Dq n:=by
 rw [show (4503599627370495:Int)=((2^52-1:Nat):Int) from rfl,J9 52 hn (by decide)]
 unfold Dq Dj
 rw [A4s]
theorem soft.Split.known:soft.Split.Kn:=EqSoft.soft.Split.Ad .nil fun x hp=>by
 obtain ⟨n,rfl,hn⟩:=By (x:=x) hp
 refine ⟨0,soft.Split.out [.i n],[],?_,Wk.Hc (.cons .bool (.cons .int (.cons .int .nil)))⟩
 rw [EqSoft.soft.Split.ev,Ama hn,Avv hn,Atb hn]
 rfl
theorem soft.Kind.known:soft.Kind.Kn:=EqSoft.soft.Kind.Ad (.cons soft.Split.known .nil) fun x hp=>by
 obtain ⟨n,rfl,hn⟩:=By (x:=x) hp
 refine ⟨0,soft.Kind.out [.i n],[],?_,.int⟩
 rw [EqSoft.soft.Kind.ev,Cm hn]
 show _=some (DV.int .i64 (Bz n))
 unfold Bz Ai N0 Dq
 simp only [A4s,A4q,Av]
 have:=J4 n
 by_cases h1:D7 n=2047
 ·by_cases h2:Dj n=0
  ·simp [h1,h2]
  ·have:((Dj n:Int)==0)=false:=by simp; exact h2
   simp [h1,this,h2]
 ·have h1':((D7 n:Int)==2047)=false:=by simp; omega
  rw [h1']
  by_cases h3:0<D7 n
  ·simp [h1,h3]
  ·by_cases h4:0<Dj n
   ·simp [h1,h3,h4]
   ·simp [h1,h3,h4]
theorem soft.Sign.known:soft.Sign.Kn:=EqSoft.soft.Sign.Ad .nil fun x hp=>by
 obtain ⟨n,rfl,hn⟩:=By (x:=x) hp
 refine ⟨0,soft.Sign.out [.i n],[],?_,.bool⟩
 rw [EqSoft.soft.Sign.ev,Ama hn]
 rfl
theorem Aa8 (n:Nat):J1 n=!(decide (Ai n=3)||decide (Ai n=4)):=by
 have:=J4 n
 unfold J1 Ai
 by_cases h1:D7 n=2047
 ·by_cases h2:Dj n=0<;>simp [h1,h2]
 ·have:D7 n<2047:=by omega
  by_cases h3:0<D7 n
  ·simp [h1,h3,this]
  ·by_cases h4:0<Dj n<;>simp [h1,h3,h4,this]
theorem soft.Finite.known:soft.Finite.Kn:=EqSoft.soft.Finite.Ad (.cons soft.Kind.known .nil) fun x hp=>by
 obtain ⟨n,rfl,hn⟩:=By (x:=x) hp
 refine ⟨0,soft.Finite.out [.i n],[],?_,.bool⟩
 rw [EqSoft.soft.Finite.ev,Cm hn]
 show _=some (DV.bool (Dw n))
 unfold Dw Bz
 rw [A4s,Aa8]
 by_cases h3:Ai n=3
 ·simp [h3]
 ·by_cases h4:Ai n=4
  ·simp [h4]
  ·have e3:((Ai n:Int)==3)=false:=by simp; omega
   have e4:((Ai n:Int)==4)=false:=by simp; omega
   simp [h3,h4,e3,e4]
theorem Ao0 {n:Nat} (hn:n<2^64):Axj .u64 (n:Int) (9223372036854775808:Int)=Da n:=by
 rw [show (9223372036854775808:Int)=((2^63:Nat):Int) from rfl,At8 hn (by decide),Auq hn]
 unfold Da I5
 rw [A4s]
theorem soft.Dn.known:soft.Dn.Kn:=EqSoft.soft.Dn.Ad .nil fun x hp=>by
 obtain ⟨n,rfl,hn⟩:=By (x:=x) hp
 refine ⟨0,soft.Dn.out [.i n],[],?_,.int⟩
 rw [EqSoft.soft.Dn.ev,Ao0 hn]
 rfl
theorem soft.Gy.known:soft.Gy.Kn:=EqSoft.soft.Gy.Ad (.cons soft.Split.known .nil) fun x hp=>by
 obtain ⟨n,rfl,hn⟩:=By (x:=x) hp
 refine ⟨0,soft.Gy.out [.i n],[],?_,Wk.Hs (.cons .int (.cons .int .nil))⟩
 rw [EqSoft.soft.Gy.ev,Cm hn]
 show _=some (DV.tup [.int .u64 (B7 n),.int .i64 (Bo n)])
 have hf:=Kh n
 have hp:=J4 n
 unfold B7 Bo N0 Dq Ax A2
 rw [A4s]
 by_cases h:D7 n=0
 ·simp [h]
 ·have e:((D7 n:Int)==0)=false:=by simp; omega
  have e2:Jl .u64 ((Dj n:Nat):Int) (4503599627370496:Int)=((Dj n+2^52:Nat):Int):=by
   rw [show (4503599627370496:Int)=((1*2^52:Nat):Int) from rfl,Ap6 (by omega) (by omega)]
   congr 1; omega
  rw [e,e2,An (by omega) (by omega)]
  simp [h]
theorem Afj {r:Nat} (h:r<2^63):Da r=((2^63+r:Nat):Int):=by
 unfold Da; rw [A4s,Aax h]
theorem Pj {r:Nat} (h:r<2^63) (n:Bool):(bif n then (bif (Af (r:Int)) then some (DV.int .u64 (Da r)) else none) else some (DV.int .u64 r))=some (DV.int .u64 ((Bl n r:Nat):Int)):=by
 cases n
 ·rfl
 ·rw [Cm (by omega),Afj h]; rfl
theorem Qj (n:Bool) (m:Nat) (e:Int):V3 n m e=((Bl n (Cl m e):Nat):Int):=by
 unfold V3; rw [A4s]
theorem Aka {E M:Nat} (h1:1≤E) (h2:E≤2046) (h3:4503599627370496≤M) (h4:M<9007199254740992):E*2^52+M%2^52=min ((E-1)*2^52+M) Eh:=by
 obtain ⟨k,rfl⟩:∃ k,E=k+1:=⟨E-1,by omega⟩
 obtain ⟨r,rfl⟩:∃ r,M=2^52+r:=⟨M-2^52,by omega⟩
 have hr:r<2^52:=by omega
 have hm:(2^52+r)%2^52=r:=by rw [Nat.add_mod_left,A43 hr]
 have hk:k*2^52≤2045*2^52:=A42 _ (by omega)
 have hi:Eh=2045*2^52+2^52+2^52:=by unfold Eh; rfl
 rw [hm,Nat.add_sub_cancel,Nat.succ_mul,hi]
 generalize 2^52=c at *
 omega
theorem soft.Pack.known:soft.Pack.Kn:=EqSoft.soft.Pack.Ad (.cons soft.Dn.known .nil) fun rk n m e hp hr=>by
 have hp:=Aq.1 (show Mn m e=true from hp)
 have hr:Q8 m e<rk+1:=hr
 obtain ⟨m0,m1,e0,e1⟩:=hp
 obtain ⟨M,rfl⟩:∃ M:Nat,m=M:=⟨m.toNat,by omega⟩
 refine ⟨0,soft.Pack.out [.b n,.i M,.i e],[],?_,.int⟩
 rw [EqSoft.soft.Pack.ev]
 show _=some (DV.int .u64 (V3 n M e))
 rw [Qj]
 unfold Q8 at hr
 by_cases h0:M=0
 ·subst h0
  have:=Pj (r:=0) (by decide) n
  have e0:Cl 0 e=0:=rfl
  rw [e0]
  simpa using this
 ·have b0:((M:Int)==0)=false:=by simp; omega
  rw [b0,A4u]
  by_cases h1:M=9007199254740992
  ·have b1:Ex (9007199254740992:Int) (M:Int)=true:=by rw [Fb]; simp; omega
   have s1:Ed .u64 (M:Int) (1:Int)=((2^52:Nat):Int):=by
    rw [show (1:Int)=((1:Nat):Int) from rfl,Je .u64 M 1 (by decide),h1]
   have w1:Ab (e+1)=e+1:=An (by omega) (by omega)
   rw [A5d (by omega)] at hr
   have p1:Mn ((2^52:Nat):Int) (e+1)=true:=Aq.2 (by omega)
   have p2:B3 (Q8 ((2^52:Nat):Int) (e+1)<rk)=true:=Aq.2 (by
    unfold Q8
    rw [A5c (by omega),A5c (by omega)]; omega)
   rw [b1,s1,w1,p1,p2,Qj,h1]
   have:=(Dv (2^52) 1 (e+1)).1
   have e2:e+1-((1:Nat):Int)=e:=by omega
   rw [e2] at this
   rw [← this]; rfl
  ·have b1:Ex (9007199254740992:Int) (M:Int)=false:=by rw [Fb]; simp; omega
   rw [b1,A4u]
   rw [A5c (by omega)] at hr
   by_cases h2:M<4503599627370496
   ·have b2:Bi (M:Int) (4503599627370496:Int)=true:=by rw [Av]; simp; omega
    rw [A5d (by omega)] at hr
    by_cases h3:e=-1074
    ·subst h3
     have b3:Bi (-1074:Int) (-1074)=false:=by decide
     rw [b2,b3,A53,A4u,A4q,Aab h2]
     exact Pj (by omega) n
    ·have b3:Bi (-1074:Int) e=true:=by rw [Av]; simp; omega
     have s1:Cg .u64 (M:Int) (1:Int)=((M*2^1:Nat):Int):=by
      rw [show (1:Int)=((1:Nat):Int) from rfl,Gw M 1 (by decide),A43 (by omega)]
     have w1:Ab (e-1)=e-1:=An (by omega) (by omega)
     have p1:Mn ((M*2^1:Nat):Int) (e-1)=true:=Aq.2 (by omega)
     have p2:B3 (Q8 ((M*2^1:Nat):Int) (e-1)<rk)=true:=Aq.2 (by
      unfold Q8
      rw [A5c (by omega)]
      split<;>omega)
     rw [b2,b3,s1,w1,p1,p2,Qj]
     have:=(Dv M 1 e).1
     have e2:e-((1:Nat):Int)=e-1:=by omega
     rw [e2] at this
     rw [this]; rfl
   ·have b2:Bi (M:Int) (4503599627370496:Int)=false:=by rw [Av]; simp; omega
    have w1:Ab (e+1075)=e+1075:=An (by omega) (by omega)
    rw [b2,w1,Bool.false_and,A4u,A4u]
    have hr:=Od (m:=M) (e:=e) (by omega) (by omega) e0
    by_cases h4:2047≤e+1075
    ·have b4:Ex (2047:Int) (e+1075)=true:=by rw [Fb]; simp; omega
     have:Cl M e=9218868437227405312:=by rw [hr,F6]; omega
     rw [b4,this,A4q]
     exact Pj (r:=9218868437227405312) (by decide) n
    ·have b4:Ex (2047:Int) (e+1075)=false:=by rw [Fb]; simp; omega
     obtain ⟨E,hE⟩:∃ E:Nat,e+1075=E:=⟨(e+1075).toNat,by omega⟩
     have s1:Jl .u64 (Cg .u64 (Bs (e+1075)) (52:Int)) (Fy .u64 (M:Int) (4503599627370495:Int))=((Cl M e:Nat):Int):=by
      rw [hE,Ef (by omega) (by omega),show (52:Int)=((52:Nat):Int) from rfl,Gw E 52 (by decide),A43 (by omega),
       show (4503599627370495:Int)=((2^52-1:Nat):Int) from rfl,J9 52 (by omega) (by decide),O8 (by omega) (by omega)]
      have hE2:(e+1074).toNat=E-1:=by omega
      have hE3:1≤E∧E≤2046:=by omega
      have hM:4503599627370496≤M∧M<9007199254740992:=by omega
      rw [hr,hE2]
      exact congrArg (fun (x:Nat)=>(x:Int)) (Aka hE3.1 hE3.2 hM.1 hM.2)
     rw [b4,s1,A4u]
     exact Pj (Q5 M e) n
open EqSoft
theorem Aqt {D:Nat} (h:D≤63):2^D<2^64:=Nat.pow_lt_pow_right (by decide) (by omega)
theorem Rt (n:Bool) {r:Nat} (h:r<2^63):H8 .u64 ((Bl n r:Nat):Int) (9223372036854775808:Int)=(r:Int):=by
 have hs:Bl n r<2^64:=by unfold Bl; split<;>omega
 unfold H8
 rw [show (9223372036854775808:Int)=((2^63:Nat):Int) from rfl,BitVec.toNat_and,BitVec.toNat_not,J6,J6,show IntKind.u64.bits=64 from rfl,A43 hs,
  show 2^64-1-2^63%2^64=2^63-1 by decide,Nat.and_two_pow_sub_one_eq_mod]
 have:Bl n r%2^63=r:=by unfold Bl; cases n<;>simp<;>omega
 rw [this]
 exact Vj (by omega)
theorem Akj (N:Nat) (ex n:Bool) {r:Nat} (h:r≤Eh):soft.D5.C18 N ex ((Bl n r:Nat):Int)=some (.tup [.int .u64 ((Bl n r:Nat):Int),.int .u8 ((flags r ex:Nat):Int)]):=by
 have h63:r<2^63:=by rw [F6] at h; omega
 have hs:Bl n r<2^64:=by unfold Bl; split<;>omega
 rw [soft.D5.Ab7,Rt n h63,Cm hs]
 unfold Bz flags
 rw [A4s,X0 n h]
 have hinf:(((r:Nat):Int)==(9218868437227405312:Int))=decide (r=Eh):=by
  rw [F6,A46]; simp; omega
 rw [hinf]
 by_cases h1:r=Eh
 ·simp [h1]
 ·by_cases h2:2^52≤r
  ·cases ex<;>simp [h1]<;>simp [show 4503599627370496≤r by omega]
  ·by_cases h3:0<r
   ·cases ex<;>simp [h1,h3]<;>simp [show ¬ 4503599627370496≤r by omega]
   ·cases ex<;>simp [h1,h3]<;>simp [show ¬ 4503599627370496≤r by omega]
theorem Aou (N:Nat) (n:Bool) {m:Nat} {e:Int} (he:-1140≤e∧e≤50000) (r:Bool):∀ (k d F:Nat),d+k=62→k<F→(∀ d',d'<d→2^53≤m / 2^d'∨e+d' < -1074) →
 ∃ D:Nat,soft.D5.L0 N F n m e r (d:Int)=soft.D5.C7 N n m e r (D:Int)∧Drop m e D:=by
 intro k
 induction k with
 | zero =>
   intro d F hd hF hl
   obtain ⟨F,rfl⟩:∃ G,F=G+1:=⟨F-1,by omega⟩
   obtain rfl:d=62:=by omega
   rw [soft.D5.Au,Je .u64 m 62 (by decide),An (by omega) (by omega),An (by omega) (by omega),Fb,Av]
   have a0:decide ((0:Int)≤((62:Nat):Int))=true:=by decide
   have a1:((((62:Nat):Int)+1)==63)=true:=by decide
   rw [a0,A4q,a1,A4q]
   by_cases h:2^53≤m / 2^62∨e+(62:Nat) < -1074
   ·refine ⟨63,?_,by omega,by omega,fun d' hd'=>?_⟩
    ·have:(decide ((9007199254740992:Int)≤((m / 2^62:Nat):Int))||decide (e+((62:Nat):Int) < -1074))=true:=by
      simp only [Bool.or_eq_true,A4x]; omega
     rw [this]; rfl
    ·rcases A5n d' 62 with h' | h'
     ·exact hl d' h'
     ·obtain rfl:d'=62:=by omega
      exact h
   ·refine ⟨62,?_,by omega,fun _=>by omega,hl⟩
    have:(decide ((9007199254740992:Int)≤((m / 2^62:Nat):Int))||decide (e+((62:Nat):Int) < -1074))=false:=by
     simp only [Bool.or_eq_false_iff,A49]; omega
    rw [this]; rfl
 | succ k ih =>
   intro d F hd hF hl
   obtain ⟨F,rfl⟩:∃ G,F=G+1:=⟨F-1,by omega⟩
   rw [soft.D5.Au,Je .u64 m d (by show d≤64; omega),An (by omega) (by omega),An (by omega) (by omega),Fb,Av]
   have a0:decide ((0:Int)≤(d:Int))=true:=by simp
   have a1:(((d:Int)+1)==63)=false:=by simp; omega
   rw [a0,A4q,a1,A4u]
   by_cases h:2^53≤m / 2^d∨e+d < -1074
   ·have:(decide ((9007199254740992:Int)≤((m / 2^d:Nat):Int))||decide (e+(d:Int) < -1074))=true:=by
     simp only [Bool.or_eq_true,A4x]; omega
    rw [this,A4q,show (d:Int)+1=((d+1:Nat):Int) by omega]
    refine ih (d+1) F (by omega) (by omega) fun d' hd'=>?_
    rcases A5n d' d with h' | h'
    ·exact hl d' h'
    ·obtain rfl:d'=d:=by omega
     exact h
   ·refine ⟨d,?_,by omega,fun _=>by omega,hl⟩
    have:(decide ((9007199254740992:Int)≤((m / 2^d:Nat):Int))||decide (e+(d:Int) < -1074))=false:=by
     simp only [Bool.or_eq_false_iff,A49]; omega
    rw [this]; rfl
theorem Aot (N:Nat) (n:Bool) {m D:Nat} (hm:m<2^64) {e:Int} (he:-1140≤e∧e≤50000) (r:Bool) (hD:D≤63) (hq:(if e+D < -1074 then 0 else qOf m D r.toNat)≤2^53) :
 soft.D5.C7 N n m e r (D:Int)=soft.D5.C18 N (decide (m%2^D=0∧r.toNat=0)) ((Bl n (Cl (if e+D < -1074 then 0 else qOf m D r.toNat) (max (e+D) (-1074))):Nat):Int):=by
 have hA:=Co D
 have h2D:=Aqt hD
 have hr:=Nat.mod_lt m hA
 have hqm:m / 2^D≤m:=Nat.div_le_self _ _
 rw [soft.D5.Y4]
 have a0:decide ((0:Int)≤(D:Int))=true:=by simp
 have e1:Ed .u64 (m:Int) (D:Int)=((m / 2^D:Nat):Int):=Je .u64 m D (by show D≤64; omega)
 have e2:Cg .u64 (1:Int) (D:Int)=((2^D:Nat):Int):=by
  rw [show (1:Int)=((1:Nat):Int) from rfl,Gw 1 D (by omega),Nat.one_mul,A43 h2D]
 have e3:Fy .u64 (m:Int) (Bs (Cg .u64 (1:Int) (D:Int)-(1:Int)))=((m%2^D:Nat):Int):=by
  rw [e2,Ef (by omega) (by omega),show ((2^D:Nat):Int)-1=((2^D-1:Nat):Int) by omega,J9 D hm (by omega)]
 have e5:(bif (((m%2^D:Nat):Int)==(0:Int)) then (!r) else false)=decide (m%2^D=0∧r.toNat=0):=by
  by_cases h:m%2^D=0
  ·cases r<;>simp [h]
  ·have:(((m%2^D:Nat):Int)==(0:Int))=false:=by simp only [A5l,ne_eq]; omega
   rw [this]; simp [h]
 rw [a0,A4q,A4q,e1,e3,e5,Av]
 have last:∀ (p:Bool) (q:Nat),q≤2^64-1→(if e+D < -1074 then 0 else q)≤2^53→soft.D5.C14 N n e (D:Int) ((q:Nat):Int) p=soft.D5.C18 N p ((Bl n (Cl (if e+D < -1074 then 0 else q) (max (e+D) (-1074))):Nat):Int):=by
  intro p q hq hq2
  rw [soft.D5.Az8,An (by omega) (by omega),Av]
  have c16:∀ q':Nat,q'≤2^53→soft.D5.C16 N n e (q':Int) (D:Int) p=soft.D5.C18 N p ((Bl n (Cl q' (max (e+D) (-1074))):Nat):Int):=by
   intro q' hq'
   rw [soft.D5.Az7,An (by omega) (by omega)]
   have:Mn (q':Int) (max (e+(D:Int)) (-1074))=true:=Aq.2 (by omega)
   rw [this,Qj]; rfl
  by_cases h:e+D < -1074
  ·rw [A5d h] at hq2 ⊢
   have:decide (e+(D:Int) < -1074)=true:=by simpa using h
   rw [this]
   exact c16 0 hq2
  ·rw [A5c h] at hq2 ⊢
   have:decide (e+(D:Int) < -1074)=false:=by simpa using h
   rw [this]
   exact c16 q hq2
 have up:∀ (half:Nat) (hh:0<D→half=2^(D-1)) (p:Bool),soft.D5.C12 N n e r (D:Int) ((m / 2^D:Nat):Int) ((m%2^D:Nat):Int) (half:Int) p=soft.D5.C18 N p ((Bl n (Cl (if e+D < -1074 then 0 else qOf m D r.toNat) (max (e+D) (-1074))):Nat):Int):=by
  intro half hh p
  rw [soft.D5.Ab8,Av,Av]
  have odd:(Fy .u64 ((m / 2^D:Nat):Int) (1:Int)==(1:Int))=decide (m / 2^D%2=1):=by
   rw [show (1:Int)=((2^1-1:Nat):Int) from rfl,J9 1 (by omega) (by decide),A46]
   simp only [beq_iff_eq,A4x]
   omega
  rw [odd]
  have test:(decide ((0:Int)<(D:Int))&&(decide ((half:Int)<((m%2^D:Nat):Int))||((((m%2^D:Nat):Int)==(half:Int))&&(r||decide (m / 2^D%2=1))))) =
   decide (0<D∧(2^(D-1)<m%2^D∨(m%2^D=2^(D-1)∧(r.toNat=1∨m / 2^D%2=1)))):=by
   rw [A46]
   generalize m%2^D=rr
   generalize m / 2^D=qq
   generalize hg:2^(D-1)=gg at hh
   by_cases h0:0<D
   ·have:=hh h0
    subst this
    cases r<;>simp [h0]<;>omega
   ·simp [h0]
  rw [test]
  by_cases ht:0<D∧(2^(D-1)<m%2^D∨(m%2^D=2^(D-1)∧(r.toNat=1∨m / 2^D%2=1)))
  ·have hq1:qOf m D r.toNat=m / 2^D+1:=by unfold qOf; rw [A5d ht]
   have hlt:m / 2^D+1<2^64:=by
    obtain ⟨d,rfl⟩:∃ d,D=d+1:=⟨D-1,by omega⟩
    have h1:m / 2^(d+1)≤m / 2:=Nat.div_le_div_left (by rw [Nat.pow_succ]; have:=Co d; omega) (by decide)
    omega
   rw [hq1] at hq ⊢
   rw [A4r ht,A4q,Ef (by omega) (by omega),show ((m / 2^D:Nat):Int)+1=((m / 2^D+1:Nat):Int) by omega]
   exact last p _ (by omega) hq
  ·have hq1:qOf m D r.toNat=m / 2^D:=by unfold qOf; rw [A5c ht]; rfl
   rw [hq1] at hq ⊢
   rw [A4v ht,A4u]
   exact last p _ (by omega) hq
 rcases Nat.eq_zero_or_pos D with rfl | hpos
 ·have:decide ((0:Int)<((0:Nat):Int))=false:=by decide
  rw [this,A4u]
  exact up 0 (fun h=>absurd h (by omega)) _
 ·have h1:decide ((0:Int)<(D:Int))=true:=by simpa using hpos
  have h2:Ab ((D:Int)-1)=((D-1:Nat):Int):=by rw [An (by omega) (by omega)]; omega
  have h3:decide ((0:Int)≤((D-1:Nat):Int))=true:=by simp
  have h4:Cg .u64 (1:Int) ((D-1:Nat):Int)=((2^(D-1):Nat):Int):=by
   rw [show (1:Int)=((1:Nat):Int) from rfl,Gw 1 (D-1) (by omega),Nat.one_mul,A43 (Aqt (by omega))]
  rw [h1,A4q,h2,h3,A4q,h4]
  exact up _ (fun _=>rfl) _
theorem soft.D5.known:soft.D5.Kn:=soft.D5.Ad (.cons soft.Kind.known (.cons soft.Pack.known .nil)) fun n m e r hp=>by
 obtain ⟨m0,m1,e1,e2,hr⟩:=Aq.1 (show Fe m e r=true from hp)
 obtain ⟨M,rfl⟩:∃ M:Nat,m=M:=⟨m.toNat,by omega⟩
 refine ⟨63,soft.D5.out [.b n,.i M,.i e,.b r],[],?_,Wk.Hs (.cons .int (.cons .int .nil))⟩
 show _=some (DV.tup [.int .u64 (F1 n M e r),.int .u8 (F0 n M e r)])
 unfold F1 F0 Ht
 rw [A4s,soft.D5.ev]
 dsimp only
 by_cases h0:M=0∧r=false
 ·obtain ⟨rfl,rfl⟩:=h0
  have:Mn (0:Int) (-1074)=true:=Aq.2 (by omega)
  have hp0:=Qj n 0 (-1074)
  rw [this]
  simp only [A59,Bool.and_true,A4q,Bool.toNat_false]
  have hz:(((0:Nat):Int)==0)=true:=rfl
  rw [hz,A4q]
  have hp0:V3 n (0:Int) (-1074)=((Bl n (Cl 0 (-1074)):Nat):Int):=hp0
  have z:∀ E,Cl 0 E=0:=fun E=>A5d rfl
  have z3:∀ E,flagsOf 0 E=0:=fun E=>A5d rfl
  rw [hp0,z,show 4*0+0=0 from rfl,z,z3]
  rfl
 ·have hc:((((M:Nat):Int)==(0:Int))&&!r)=false:=by
   cases r
   ·have:M≠0:=fun h=>h0 ⟨h,rfl⟩
    simp; omega
   ·simp
  rw [hc,A4u]
  have he:-1140≤e∧e≤50000:=by omega
  obtain ⟨D,hl,hD⟩:=Aou 63 n (m:=M) he r 62 0 63 (by omega) (by omega) (fun d' h=>by omega)
  have hs:r.toNat≤1:=by cases r<;>decide
  have hV:4*M+r.toNat≠0:=by
   intro h
   refine h0 ⟨by omega,?_⟩
   cases r
   ·rfl
   ·simp at h
  obtain ⟨t1,t2,t3⟩:=Aow hD hs hV (by omega) (by omega) (fun h=>by
   have:r=true:=by cases r<;>simp_all
   have:=hr this
   omega)
  have hl:soft.D5.L0 63 63 n (M:Int) e r (0:Int)=soft.D5.C7 63 n (M:Int) e r (D:Int):=hl
  rw [hl,Aot 63 n (by omega) he r hD.le t3,← t1,Akj 63 _ n (Kp _ _),t2]
namespace EqSum
def sum.right.Ba:List (Nat × Entry):=[]
def sum.right.E:Env:=Bg (Bb sum.right.Ba) (fun _=>false) (fun _=>none) (fun _=>none)
theorem sum.right.ev (N:Nat) (m d:Int):B0 sum.right.E N f208 (Ak f208) [.int .u64 m,.int .i64 d]=bif (Bi 63 d) then bif ((Cg .u64 (Ed .u64 m 63) 63) !=m) then some (.int .u64 (Jl .u64 (Ed .u64 m 63) 1)) else some (.int .u64 (Ed .u64 m 63)) else bif (decide (0≤d)) then bif (decide (0≤d)) then bif ((Cg .u64 (Ed .u64 m d) d) !=m) then some (.int .u64 (Jl .u64 (Ed .u64 m d) 1)) else some (.int .u64 (Ed .u64 m d)) else none else none:=by kernel_rfl
abbrev _root_.Go.Proofs.S1.sum.right.Kn:=A8 prog 208 sum.right.spec
theorem sum.right.Ad (hk:A1 prog sum.right.Ba) (h:Hyp sum.right.E f208 sum.right.ts sum.right.pre sum.right.out):sum.right.Kn :=
 Al (A4 hk _ _ _) func208 (by kernel_rfl) (by kernel_rfl) h
def sum.E4.Ba:List (Nat × Entry):=[(136,soft.Finite.spec),(165,soft.Kind.spec)]
def sum.E4.E:Env:=Bg (Bb sum.E4.Ba) (fun _=>false) (fun _=>none) (fun _=>none)
theorem sum.E4.ev (N:Nat) (a b:Int):B0 sum.E4.E N f207 (Ak f207) [.int .u64 a,.int .u64 b]=bif (Af a) then bif ((Bz a)==(4:Int)) then some (.tup [.int .u64 9221120237041090560,.int .u8 0]) else bif (Af b) then bif ((Bz b)==(4:Int)) then some (.tup [.int .u64 9221120237041090560,.int .u8 0]) else bif (Af a) then bif (Dw a) then some (.tup [.int .u64 b,.int .u8 0]) else bif (Af b) then bif ((Dw b)||(a==b)) then some (.tup [.int .u64 a,.int .u8 0]) else some (.tup [.int .u64 9221120237041090560,.int .u8 16]) else none else none else none else none :=
 Eq.trans (by kernel_rfl)
 (E1 (E1 rfl (E1 (E1 rfl (E1 (E1 rfl (E1 (Ay (T3 (Dw b)) (Ay (T3 (Dw b)) (Ay (tt8 (Dw b)) (Ay (Y5 (Dw b)) (Cw (tt5 _ _) rfl rfl))))) rfl)) rfl)) rfl)) rfl)
abbrev _root_.Go.Proofs.S1.sum.E4.Kn:=A8 prog 207 sum.E4.spec
theorem sum.E4.Ad (hk:A1 prog sum.E4.Ba) (h:Hyp sum.E4.E f207 sum.E4.ts sum.E4.pre sum.E4.out):sum.E4.Kn :=
 Al (A4 hk _ _ _) func207 (by kernel_rfl) (by kernel_rfl) h
def sum.Add.Ba:List (Nat × Entry):=[(136,soft.Finite.spec),(180,soft.D5.spec),(166,soft.Gy.spec),(181,soft.Sign.spec),(208,sum.right.spec),(207,sum.E4.spec)]
def sum.Add.E:Env:=Bg (Bb sum.Add.Ba) (fun _=>false) (fun _=>none) (fun _=>none)
theorem sum.Add.ev (N:Nat) (a b:Int):B0 sum.Add.E N f174 (Ak f174) [.int .u64 a,.int .u64 b]=bif (Af a) then bif ((!(Dw a))||(Af b)) then bif ((!(Dw a))||(!(Dw b))) then bif ((Af a&&Af b)&&(!(Dw a)||!(Dw b))) then some (.tup [.int .u64 (Dm a b),.int .u8 (Y3 a b)]) else none else bif (Af a) then bif (Af b) then bif (Af a) then bif (Af b) then bif (Bi (Bo a) (Bo b)) then bif (Af (Cg .u64 (B7 a) 9)&&B3 (0≤(Ab ((Bo b)-(Bo a)))∧(Ab ((Bo b)-(Bo a)))<1000000)) then bif ((Eb b)==(Eb a)) then bif (Fe (Bs ((Cg .u64 (B7 b) 9)+(Gh (Cg .u64 (B7 a) 9) (Ab ((Bo b)-(Bo a)))))) (Ab ((Bo b)-9)) false) then some (.tup [.int .u64 (F1 (Eb b) (Bs ((Cg .u64 (B7 b) 9)+(Gh (Cg .u64 (B7 a) 9) (Ab ((Bo b)-(Bo a)))))) (Ab ((Bo b)-9)) false),.int .u8 (F0 (Eb b) (Bs ((Cg .u64 (B7 b) 9)+(Gh (Cg .u64 (B7 a) 9) (Ab ((Bo b)-(Bo a)))))) (Ab ((Bo b)-9)) false)]) else none else bif (Bi (Gh (Cg .u64 (B7 a) 9) (Ab ((Bo b)-(Bo a)))) (Cg .u64 (B7 b) 9)) then bif (Fe (Bs ((Cg .u64 (B7 b) 9)-(Gh (Cg .u64 (B7 a) 9) (Ab ((Bo b)-(Bo a)))))) (Ab ((Bo b)-9)) false) then some (.tup [.int .u64 (F1 (Eb b) (Bs ((Cg .u64 (B7 b) 9)-(Gh (Cg .u64 (B7 a) 9) (Ab ((Bo b)-(Bo a)))))) (Ab ((Bo b)-9)) false),.int .u8 (F0 (Eb b) (Bs ((Cg .u64 (B7 b) 9)-(Gh (Cg .u64 (B7 a) 9) (Ab ((Bo b)-(Bo a)))))) (Ab ((Bo b)-9)) false)]) else none else bif (Bi (Cg .u64 (B7 b) 9) (Gh (Cg .u64 (B7 a) 9) (Ab ((Bo b)-(Bo a))))) then bif (Fe (Bs ((Gh (Cg .u64 (B7 a) 9) (Ab ((Bo b)-(Bo a))))-(Cg .u64 (B7 b) 9))) (Ab ((Bo b)-9)) false) then some (.tup [.int .u64 (F1 (Eb a) (Bs ((Gh (Cg .u64 (B7 a) 9) (Ab ((Bo b)-(Bo a))))-(Cg .u64 (B7 b) 9))) (Ab ((Bo b)-9)) false),.int .u8 (F0 (Eb a) (Bs ((Gh (Cg .u64 (B7 a) 9) (Ab ((Bo b)-(Bo a))))-(Cg .u64 (B7 b) 9))) (Ab ((Bo b)-9)) false)]) else none else some (.tup [.int .u64 0,.int .u8 0]) else none else bif (Af (Cg .u64 (B7 b) 9)&&B3 (0≤(Ab ((Bo a)-(Bo b)))∧(Ab ((Bo a)-(Bo b)))<1000000)) then bif ((Eb a)==(Eb b)) then bif (Fe (Bs ((Cg .u64 (B7 a) 9)+(Gh (Cg .u64 (B7 b) 9) (Ab ((Bo a)-(Bo b)))))) (Ab ((Bo a)-9)) false) then some (.tup [.int .u64 (F1 (Eb a) (Bs ((Cg .u64 (B7 a) 9)+(Gh (Cg .u64 (B7 b) 9) (Ab ((Bo a)-(Bo b)))))) (Ab ((Bo a)-9)) false),.int .u8 (F0 (Eb a) (Bs ((Cg .u64 (B7 a) 9)+(Gh (Cg .u64 (B7 b) 9) (Ab ((Bo a)-(Bo b)))))) (Ab ((Bo a)-9)) false)]) else none else bif (Bi (Gh (Cg .u64 (B7 b) 9) (Ab ((Bo a)-(Bo b)))) (Cg .u64 (B7 a) 9)) then bif (Fe (Bs ((Cg .u64 (B7 a) 9)-(Gh (Cg .u64 (B7 b) 9) (Ab ((Bo a)-(Bo b)))))) (Ab ((Bo a)-9)) false) then some (.tup [.int .u64 (F1 (Eb a) (Bs ((Cg .u64 (B7 a) 9)-(Gh (Cg .u64 (B7 b) 9) (Ab ((Bo a)-(Bo b)))))) (Ab ((Bo a)-9)) false),.int .u8 (F0 (Eb a) (Bs ((Cg .u64 (B7 a) 9)-(Gh (Cg .u64 (B7 b) 9) (Ab ((Bo a)-(Bo b)))))) (Ab ((Bo a)-9)) false)]) else none else bif (Bi (Cg .u64 (B7 a) 9) (Gh (Cg .u64 (B7 b) 9) (Ab ((Bo a)-(Bo b))))) then bif (Fe (Bs ((Gh (Cg .u64 (B7 b) 9) (Ab ((Bo a)-(Bo b))))-(Cg .u64 (B7 a) 9))) (Ab ((Bo a)-9)) false) then some (.tup [.int .u64 (F1 (Eb b) (Bs ((Gh (Cg .u64 (B7 b) 9) (Ab ((Bo a)-(Bo b))))-(Cg .u64 (B7 a) 9))) (Ab ((Bo a)-9)) false),.int .u8 (F0 (Eb b) (Bs ((Gh (Cg .u64 (B7 b) 9) (Ab ((Bo a)-(Bo b))))-(Cg .u64 (B7 a) 9))) (Ab ((Bo a)-9)) false)]) else none else some (.tup [.int .u64 0,.int .u8 0]) else none else none else none else none else none else none else none :=
 Eq.trans (by kernel_rfl)
 (E1 (Ay (Un (Dw a)) (Cw (Ang _ _) (Ay (Pz (Dw a)) (Ay (Xc (Dw a)) (Cw (Anh _ _) rfl rfl))) rfl)) rfl)
abbrev _root_.Go.Proofs.S1.sum.Add.Kn:=A8 prog 174 sum.Add.spec
theorem sum.Add.Ad (hk:A1 prog sum.Add.Ba) (h:Hyp sum.Add.E f174 sum.Add.ts sum.Add.pre sum.Add.out):sum.Add.Kn :=
 Al (A4 hk _ _ _) func174 (by kernel_rfl) (by kernel_rfl) h
def sum.Sub.Ba:List (Nat × Entry):=[(81,soft.Dn.spec),(174,sum.Add.spec)]
def sum.Sub.E:Env:=Bg (Bb sum.Sub.Ba) (fun _=>false) (fun _=>none) (fun _=>none)
theorem sum.Sub.ev (N:Nat) (a b:Int):B0 sum.Sub.E N f231 (Ak f231) [.int .u64 a,.int .u64 b]=bif (Af b) then bif (Af a&&Af (Da b)) then some (.tup [.int .u64 (Dm a (Da b)),.int .u8 (Y3 a (Da b))]) else none else none:=by kernel_rfl
abbrev _root_.Go.Proofs.S1.sum.Sub.Kn:=A8 prog 231 sum.Sub.spec
theorem sum.Sub.Ad (hk:A1 prog sum.Sub.Ba) (h:Hyp sum.Sub.E f231 sum.Sub.ts sum.Sub.pre sum.Sub.out):sum.Sub.Kn :=
 Al (A4 hk _ _ _) func231 (by kernel_rfl) (by kernel_rfl) h
end EqSum
open EqSum
theorem Azc (q:Nat):q ||| 1=2*(q / 2)+1:=by
 have e:q%2 ||| (q / 2*2^1)=q / 2*2^1+q%2:=Oy (Nat.mod_lt _ (by decide))
 have e1:1 ||| (q / 2*2^1)=q / 2*2^1+1:=Oy (k:=1) (by decide)
 have hq:q / 2*2^1+q%2=q:=by omega
 rw [hq] at e
 rcases Nat.mod_two_eq_zero_or_one q with h | h
 ·rw [h,Nat.zero_or] at e
  rw [e,Nat.or_comm] at e1
  omega
 ·rw [h] at e
  have:q ||| 1=q:=by
   conv=>lhs; rw [← e]
   rw [Nat.or_comm 1,Nat.or_assoc,Nat.or_self,Nat.or_comm,e]
  omega
theorem Aag {n s:Nat} (hn:n<2^64) (hs:s≤63) :
 (bif ((Cg .u64 (Ed .u64 (n:Int) (s:Int)) (s:Int)) !=(n:Int)) then
  some (DV.int .u64 (Jl .u64 (Ed .u64 (n:Int) (s:Int)) (1:Int)))
 else some (.int .u64 (Ed .u64 (n:Int) (s:Int))))=some (.int .u64 ((Hf n s:Nat):Int)):=by
 have hq:n / 2^s≤n:=Nat.div_le_self _ _
 have hm:n / 2^s*2^s≤n:=Nat.div_mul_le_self _ _
 have hd:=Nat.div_add_mod n (2^s)
 rw [A5e] at hd
 rw [Je .u64 n s (by show s≤64; omega),Gw _ s (by omega),A43 (by omega)]
 have h1:Jl .u64 ((n / 2^s:Nat):Int) (1:Int)=((n / 2^s ||| 1:Nat):Int):=W0 (by omega) (by decide)
 rw [h1,Azc]
 unfold Hf
 by_cases h:n%2^s=0
 ·have:((((n / 2^s*2^s:Nat):Int)) !=(n:Int))=false:=by
   simp only [bne_eq_false_iff_eq]; omega
  rw [this,A5d h,A4u]
 ·have:((((n / 2^s*2^s:Nat):Int)) !=(n:Int))=true:=by
   simp only [bne_iff_ne,ne_eq]; omega
  rw [this,A5c h,A4q]
theorem sum.right.known:sum.right.Kn:=sum.right.Ad .nil fun m d hp=>by
 obtain ⟨h1,h2⟩:=Ac.1 hp
 obtain ⟨n,rfl,hn⟩:=By h1
 have h2:=Aq.1 h2
 obtain ⟨d,rfl⟩:∃ k:Nat,d=k:=⟨d.toNat,by omega⟩
 refine ⟨0,sum.right.out [.i n,.i d],[],?_,.int⟩
 rw [sum.right.ev,Av]
 show _=some (DV.int .u64 (Gh n d))
 unfold Gh
 rw [A4s,A4s]
 by_cases h:63<d
 ·have:decide ((63:Int)<(d:Int))=true:=by simp; omega
  rw [this,A4q,Nat.min_eq_right (by omega)]
  exact Aag hn (A5k 63)
 ·have:decide ((63:Int)<(d:Int))=false:=by simp; omega
  have h0:decide ((0:Int)≤(d:Int))=true:=by simp
  rw [this,A4u,h0,A4q,A4q,Nat.min_eq_left (by omega)]
  exact Aag hn (by omega)
theorem Alf:((Ok:Nat):Int)=9221120237041090560:=rfl
theorem sum.E4.known:sum.E4.Kn:=sum.E4.Ad (.cons soft.Finite.known (.cons soft.Kind.known .nil)) fun a b hp=>by
 obtain ⟨h1,h2⟩:=Ac.1 hp
 obtain ⟨ha,hb⟩:=Ac.1 h1
 obtain ⟨a,rfl,hn⟩:=By ha
 obtain ⟨b,rfl,hm⟩:=By hb
 refine ⟨0,sum.E4.out [.i a,.i b],[],?_,Wk.Hs (.cons .int (.cons .int .nil))⟩
 rw [sum.E4.ev,ha,hb]
 show _=some (DV.tup [.int .u64 (Dm a b),.int .u8 (Y3 a b)])
 unfold Dm Y3 Hz Bz Dw
 simp only [A4s,A4q]
 unfold Dw at h2
 simp only [A4s] at h2
 by_cases a4:Ai a=4
 ·simp [a4,Alf]
 ·have e4:((Ai a:Int)==4)=false:=by simp; omega
  rw [e4,A4u]
  by_cases b4:Ai b=4
  ·simp [b4,Alf]
  ·have f4:((Ai b:Int)==4)=false:=by simp; omega
   rw [f4,A4u]
   have ka:=Aa8 a
   have kb:=Aa8 b
   by_cases a3:Ai a=3
   ·have fa:J1 a=false:=by rw [ka]; simp [a3]
    rw [fa,A4u]
    by_cases b3:Ai b=3
    ·have fb:J1 b=false:=by rw [kb]; simp [b3]
     rw [fb]
     by_cases hab:a=b
     ·subst hab; simp [a3]
     ·have hab':((a:Int)==(b:Int))=false:=by simp; omega
      rw [hab']
      simp [a3,b3,hab,Alf]
    ·have fb:J1 b=true:=by rw [kb]; simp [b3,b4]
     rw [fb]
     simp [a3,b3,b4]
   ·have fa:J1 a=true:=by rw [ka]; simp [a3,a4]
    have b3:Ai b=3:=by
     rw [fa,kb] at h2
     simp [b4] at h2
     exact h2
    rw [fa,A4q]
    simp [a3,b3,a4]
def Alr (na nb:Bool) (X r:Nat) (e:Int):Nat × Nat :=
 if na=nb then Ht na (X+r) e false else if r<X then Ht na (X-r) e false else if X<r then Ht nb (r-X) e false else (0,0)
theorem Xu {na:Bool} {m:Int} {n:Nat} {e e':Int} (h:m=n) (he:e'=e) (hn:n<2^64) (h1:-1100≤e) (h2:e≤1000) :
 (bif Fe m e' false then some (DV.tup [.int .u64 (F1 na m e' false),.int .u8 (F0 na m e' false)]) else none)
  = some (.tup [.int .u64 (((Ht na n e false).1:Nat):Int),.int .u8 (((Ht na n e false).2:Nat):Int)]):=by
 subst h; subst he
 have hp:Fe (n:Int) e' false=true:=Aq.2 ⟨by omega,by omega,by omega,.inl (by omega),fun h=>by cases h⟩
 rw [hp,A4q]
 unfold F1 F0
 rw [A4s]
theorem Ai7 (na nb:Bool) {X r:Nat} {e e':Int} (hX:X<2^62) (hr:r≤2^62) (h:e'=e) (h1:-1100≤e) (h2:e≤1000) :
 (bif (na==nb) then
  bif Fe (Bs ((X:Int)+(r:Int))) e' false then some (DV.tup [.int .u64 (F1 na (Bs ((X:Int)+(r:Int))) e' false),.int .u8 (F0 na (Bs ((X:Int)+(r:Int))) e' false)]) else none
 else bif Bi (r:Int) (X:Int) then
  bif Fe (Bs ((X:Int)-(r:Int))) e' false then some (DV.tup [.int .u64 (F1 na (Bs ((X:Int)-(r:Int))) e' false),.int .u8 (F0 na (Bs ((X:Int)-(r:Int))) e' false)]) else none
 else bif Bi (X:Int) (r:Int) then
  bif Fe (Bs ((r:Int)-(X:Int))) e' false then some (DV.tup [.int .u64 (F1 nb (Bs ((r:Int)-(X:Int))) e' false),.int .u8 (F0 nb (Bs ((r:Int)-(X:Int))) e' false)]) else none
 else some (.tup [.int .u64 (0:Int),.int .u8 (0:Int)])) =
  some (.tup [.int .u64 (((Alr na nb X r e).1:Nat):Int),.int .u8 (((Alr na nb X r e).2:Nat):Int)]):=by
 unfold Alr
 rw [Av,Av]
 by_cases hs:na=nb
 ·have:(na==nb)=true:=by simp [hs]
  rw [this,A4q,A5d hs]
  exact Xu (by rw [Ef (by omega) (by omega)]; omega) h (by omega) h1 h2
 ·have:(na==nb)=false:=by simp [hs]
  rw [this,A4u,A5c hs]
  by_cases hl:r<X
  ·have:decide ((r:Int)<(X:Int))=true:=by simp; omega
   rw [this,A4q,A5d hl]
   exact Xu (by rw [Ef (by omega) (by omega)]; omega) h (by omega) h1 h2
  ·have:decide ((r:Int)<(X:Int))=false:=by simp; omega
   rw [this,A4u,A5c hl]
   by_cases hg:X<r
   ·have:decide ((X:Int)<(r:Int))=true:=by simp; omega
    rw [this,A4q,A5d hg]
    exact Xu (by rw [Ef (by omega) (by omega)]; omega) h (by omega) h1 h2
   ·have:decide ((X:Int)<(r:Int))=false:=by simp; omega
    rw [this,A4u,A5c hg]
    rfl
theorem Amz {a b:Nat} (ha:J1 a=true) (hb:J1 b=true) (hle:A2 b≤A2 a) :
 ∃ X r:Nat,X<2^62∧r≤2^62∧Cg .u64 (B7 a) (9:Int)=(X:Int)∧Gh (Cg .u64 (B7 b) (9:Int)) (Ab (Bo a-Bo b))=(r:Int)
  ∧ Ab (Bo a-9)=A2 a-9
  ∧ (Af (Cg .u64 (B7 b) (9:Int))&&B3 (0≤(Ab ((Bo a)-(Bo b)))∧(Ab ((Bo a)-(Bo b)))<1000000))=true
  ∧ Alr (Eb a) (Eb b) X r (A2 a-9)=Hz a b:=by
 obtain ⟨d,hd⟩:∃ d:Nat,A2 a=A2 b+d:=⟨(A2 a-A2 b).toNat,by omega⟩
 have hx:=Gc a
 have hy:=Gc b
 have ea:=Dt a
 have eb:=Dt b
 have C:=Ai6 (Mx:=Ax a) (My:=Ax b) hd hx hy (fun h=>Adb (by omega))
 have sh:∀ m:Nat,m<2^53→Cg .u64 (m:Int) (9:Int)=((m*2^9:Nat):Int):=fun m hm=>by
  have:=Gw m 9 (by decide)
  rw [A43 (by omega)] at this
  exact this
 have h2:Ab (Bo a-Bo b)=(d:Int):=by
  unfold Bo
  rw [A4s,A4s,An (by omega) (by omega)]; omega
 have s1:Cg .u64 (B7 a) (9:Int)=((Ax a*2^9:Nat):Int):=by
  unfold B7; rw [A4s]; exact sh _ hx
 have s2:Cg .u64 (B7 b) (9:Int)=((Ax b*2^9:Nat):Int):=by
  unfold B7; rw [A4s]; exact sh _ hy
 refine ⟨Ax a*2^9,Hf (Ax b*2^9) (min d 63),by omega,C.small,s1,?_,?_,?_,?_⟩
 ·rw [s2,h2]; unfold Gh; rw [A4s,A4s]
 ·unfold Bo; rw [A4s,An (by omega) (by omega)]
 ·rw [s2,h2,Cm (by omega),A53]
  exact Aq.2 ⟨by omega,by omega⟩
 ·unfold Eb
  rw [A4s,A4s,Ai5 ha hb hd]
  rfl
theorem sum.Add.known:sum.Add.Kn:=sum.Add.Ad (.cons soft.Finite.known (.cons soft.D5.known (.cons soft.Gy.known (.cons soft.Sign.known (.cons sum.right.known (.cons sum.E4.known .nil)))))) fun a b hp=>by
 obtain ⟨ha,hb⟩:=Ac.1 hp
 obtain ⟨a,rfl,hn⟩:=By ha
 obtain ⟨b,rfl,hm⟩:=By hb
 refine ⟨0,sum.Add.out [.i a,.i b],[],?_,Wk.Hs (.cons .int (.cons .int .nil))⟩
 rw [sum.Add.ev,ha,hb]
 show _=some (DV.tup [.int .u64 (Dm a b),.int .u8 (Y3 a b)])
 rw [A52,A4q,A4q]
 by_cases hf:(!(Dw a)||!(Dw b))=true
 ·rw [hf]; rfl
 ·have hf:(!(Dw a)||!(Dw b))=false:=by simpa using hf
  rw [hf,A4u,A4q,A4q,A4q,A4q]
  have fa:J1 a=true:=by
   have:=(Bool.or_eq_false_iff.1 hf).1
   unfold Dw at this
   simpa using this
  have fb:J1 b=true:=by
   have:=(Bool.or_eq_false_iff.1 hf).2
   unfold Dw at this
   simpa using this
  have xa:=Dt a
  have xb:=Dt b
  rw [Av]
  by_cases hl:A2 a<A2 b
  ·obtain ⟨X,r,hX,hr,e1,e2,e3,e4,e5⟩:=Amz fb fa (by omega)
   have:decide (Bo a<Bo b)=true:=by unfold Bo; simpa using hl
   rw [this,A4q,e4,A4q,e1,e2,Ai7 _ _ hX hr e3 (by omega) (by omega),e5,Aqa]
   rfl
  ·obtain ⟨X,r,hX,hr,e1,e2,e3,e4,e5⟩:=Amz fa fb (by omega)
   have:decide (Bo a<Bo b)=false:=by unfold Bo; simpa using hl
   rw [this,A4u,e4,A4q,e1,e2,Ai7 _ _ hX hr e3 (by omega) (by omega),e5]
   rfl
theorem sum.Sub.known:sum.Sub.Kn:=sum.Sub.Ad (.cons soft.Dn.known (.cons sum.Add.known .nil)) fun a b hp=>by
 obtain ⟨ha,hb⟩:=Ac.1 hp
 obtain ⟨b,rfl,hm⟩:=By hb
 refine ⟨0,sum.Sub.out [.i a,.i b],[],?_,Wk.Hs (.cons .int (.cons .int .nil))⟩
 have:Af (Da (b:Int))=true:=by unfold Da; rw [A4s]; exact Cm (Xx hm)
 rw [sum.Sub.ev,ha,hb,this]
 unfold Dm Y3 Da
 rw [A4s]
 rfl
end Go.Proofs.S1
end
