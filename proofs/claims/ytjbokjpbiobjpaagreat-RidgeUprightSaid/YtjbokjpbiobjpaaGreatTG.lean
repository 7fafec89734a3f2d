/- A verified evaluator of the program's form and its use for this seat: S1EqSoft, S1PSoft, S1EqRefD, S1PRefD, S1EqRefA, S1PRefA, S1PRefAa, S1EqRefB, S1PRefB, S1PRefBa, S1EqRefC, S1PRefC, S1PRefCa, S1EqRefE, S1PRefV, S1PPack, S1PNear, S1EqSum. -/
import Derived.Test.YtjbokjpbiobjpaaGreatTE
import Derived.Test.YtjbokjpbiobjpaaGreatTF
set_option linter.unusedVariables false
set_option linter.unusedSimpArgs false
noncomputable section
open Int (toNat)
open List (length getD)
open Go.Proofs.Tryz
namespace Go.Proofs.S1
open Go Go.Den Go.Cv Go.Proofs
set_option maxRecDepth 100000
namespace EqSoft
def soft.Split.Bf:List (Nat × Entry):=[]
def soft.Split.E:Env:=Bk (Be soft.Split.Bf) (fun _=>false) (fun _=>none) (fun _=>none)
theorem soft.Split.ev (N:Nat) (x:Int):B6 soft.Split.E N f206 (As f206) [.int .u64 x]=some (.agg [.bool ((Eb .u64 x 63)==(1:Int)),.int .i64 (Ad (Hd .u64 (Eb .u64 x 52) 2047)),.int .u64 (Hd .u64 x 4503599627370495)]):=by kernel_rfl
abbrev _root_.Go.Proofs.S1.soft.Split.Kn:=A9 prog 206 soft.Split.spec
theorem soft.Split.Ae (hk:A3 prog soft.Split.Bf) (h:Hyp soft.Split.E f206 soft.Split.ts soft.Split.pre soft.Split.out):soft.Split.Kn :=
 Am (A5 hk _ _ _) func206 (by kernel_rfl) (by kernel_rfl) h
def soft.Kind.Bf:List (Nat × Entry):=[(206,soft.Split.spec)]
def soft.Kind.E:Env:=Bk (Be soft.Kind.Bf) (fun _=>false) (fun _=>none) (fun _=>none)
theorem soft.Kind.ev (N:Nat) (x:Int):B6 soft.Kind.E N f155 (As f155) [.int .u64 x]=bif (Al x) then bif (((Og x)==(2047:Int))&&((Db x)==(0:Int))) then some (.int .i64 3) else bif ((Og x)==(2047:Int)) then some (.int .i64 4) else bif (Bc 0 (Og x)) then some (.int .i64 2) else bif (Bc 0 (Db x)) then some (.int .i64 1) else some (.int .i64 0) else none :=
 Eq.trans (by kernel_rfl)
 (Fg (C5 (tt0 (Em x) _ _) rfl rfl) rfl)
abbrev _root_.Go.Proofs.S1.soft.Kind.Kn:=A9 prog 155 soft.Kind.spec
theorem soft.Kind.Ae (hk:A3 prog soft.Kind.Bf) (h:Hyp soft.Kind.E f155 soft.Kind.ts soft.Kind.pre soft.Kind.out):soft.Kind.Kn :=
 Am (A5 hk _ _ _) func155 (by kernel_rfl) (by kernel_rfl) h
def soft.Sign.Bf:List (Nat × Entry):=[]
def soft.Sign.E:Env:=Bk (Be soft.Sign.Bf) (fun _=>false) (fun _=>none) (fun _=>none)
theorem soft.Sign.ev (N:Nat) (x:Int):B6 soft.Sign.E N f213 (As f213) [.int .u64 x]=some (.bool ((Eb .u64 x 63)==(1:Int))):=by kernel_rfl
abbrev _root_.Go.Proofs.S1.soft.Sign.Kn:=A9 prog 213 soft.Sign.spec
theorem soft.Sign.Ae (hk:A3 prog soft.Sign.Bf) (h:Hyp soft.Sign.E f213 soft.Sign.ts soft.Sign.pre soft.Sign.out):soft.Sign.Kn :=
 Am (A5 hk _ _ _) func213 (by kernel_rfl) (by kernel_rfl) h
def soft.Finite.Bf:List (Nat × Entry):=[(155,soft.Kind.spec)]
def soft.Finite.E:Env:=Bk (Be soft.Finite.Bf) (fun _=>false) (fun _=>none) (fun _=>none)
theorem soft.Finite.ev (N:Nat) (x:Int):B6 soft.Finite.E N f148 (As f148) [.int .u64 x]=bif (Al x) then bif ((A7 x)==(3:Int)) then some (.bool false) else bif ((A7 x)==(4:Int)) then some (.bool false) else some (.bool true) else none:=by kernel_rfl
abbrev _root_.Go.Proofs.S1.soft.Finite.Kn:=A9 prog 148 soft.Finite.spec
theorem soft.Finite.Ae (hk:A3 prog soft.Finite.Bf) (h:Hyp soft.Finite.E f148 soft.Finite.ts soft.Finite.pre soft.Finite.out):soft.Finite.Kn :=
 Am (A5 hk _ _ _) func148 (by kernel_rfl) (by kernel_rfl) h
def soft.Gw.Bf:List (Nat × Entry):=[]
def soft.Gw.E:Env:=Bk (Be soft.Gw.Bf) (fun _=>false) (fun _=>none) (fun _=>none)
theorem soft.Gw.ev (N:Nat) (x:Int):B6 soft.Gw.E N f233 (As f233) [.int .u64 x]=some (.int .u64 (Az3 .u64 x 9223372036854775808)):=by kernel_rfl
abbrev _root_.Go.Proofs.S1.soft.Gw.Kn:=A9 prog 233 soft.Gw.spec
theorem soft.Gw.Ae (hk:A3 prog soft.Gw.Bf) (h:Hyp soft.Gw.E f233 soft.Gw.ts soft.Gw.pre soft.Gw.out):soft.Gw.Kn :=
 Am (A5 hk _ _ _) func233 (by kernel_rfl) (by kernel_rfl) h
def soft.Gh.Bf:List (Nat × Entry):=[(206,soft.Split.spec)]
def soft.Gh.E:Env:=Bk (Be soft.Gh.Bf) (fun _=>false) (fun _=>none) (fun _=>none)
theorem soft.Gh.ev (N:Nat) (x:Int):B6 soft.Gh.E N f211 (As f211) [.int .u64 x]=bif (Al x) then bif ((Og x)==(0:Int)) then some (.tup [.int .u64 (Db x),.int .i64 (-1074:Int)]) else some (.tup [.int .u64 (J8 .u64 (Db x) 4503599627370496),.int .i64 (Ad ((Og x)-1075))]) else none:=by kernel_rfl
abbrev _root_.Go.Proofs.S1.soft.Gh.Kn:=A9 prog 211 soft.Gh.spec
theorem soft.Gh.Ae (hk:A3 prog soft.Gh.Bf) (h:Hyp soft.Gh.E f211 soft.Gh.ts soft.Gh.pre soft.Gh.out):soft.Gh.Kn :=
 Am (A5 hk _ _ _) func211 (by kernel_rfl) (by kernel_rfl) h
def soft.Pack.Bf:List (Nat × Entry):=[(233,soft.Gw.spec)]
def soft.Pack.E (rk:Nat):Env:=Bk (Be ((239,Ap6 [.b,.i .u64,.i .i64] soft.Pack.pre soft.Pack.out soft.Pack.mu rk)::soft.Pack.Bf)) (fun _=>false) (fun _=>none) (fun _=>none)
theorem soft.Pack.ev (N rk:Nat) (n:Bool) (m e:Int):B6 (soft.Pack.E rk) N f239 (As f239) [.bool n,.int .u64 m,.int .i64 e]=bif (m==(0:Int)) then bif n then bif (Al 0) then some (.int .u64 (Eh 0)) else none else some (.int .u64 0) else bif (E8 9007199254740992 m) then bif ((Na (Eb .u64 m 1) (Ad (e+1)))&&(Cr ((Rm (Eb .u64 m 1) (Ad (e+1)))<rk))) then some (.int .u64 (Wu n (Eb .u64 m 1) (Ad (e+1)))) else none else bif ((Bc m 4503599627370496)&&(Bc (-1074:Int) e)) then bif ((Na (B7 .u64 m 1) (Ad (e-1)))&&(Cr ((Rm (B7 .u64 m 1) (Ad (e-1)))<rk))) then some (.int .u64 (Wu n (B7 .u64 m 1) (Ad (e-1)))) else none else bif (Bc m 4503599627370496) then bif n then bif (Al m) then some (.int .u64 (Eh m)) else none else some (.int .u64 m) else bif (E8 2047 (Ad (e+1075))) then bif n then bif (Al 9218868437227405312) then some (.int .u64 (Eh 9218868437227405312)) else none else some (.int .u64 9218868437227405312) else bif n then bif (Al (J8 .u64 (B7 .u64 (Bj (Ad (e+1075))) 52) (Hd .u64 m 4503599627370495))) then some (.int .u64 (Eh (J8 .u64 (B7 .u64 (Bj (Ad (e+1075))) 52) (Hd .u64 m 4503599627370495)))) else none else some (.int .u64 (J8 .u64 (B7 .u64 (Bj (Ad (e+1075))) 52) (Hd .u64 m 4503599627370495))) :=
 Eq.trans (by kernel_rfl)
 (Fg rfl (Fg rfl (Ay (Sy (Bc m 4503599627370496)) (Ay (O4 (Bc m 4503599627370496)) (Ay (Zb (Bc m 4503599627370496)) (C5 (tt1 _ _) rfl rfl))))))
theorem soft.Pack.Ae (hk:A3 prog soft.Pack.Bf) (h:∀ (rk:Nat) (n:Bool) (m e:Int),soft.Pack.pre [.b n,.i m,.i e]=true→soft.Pack.mu [.b n,.i m,.i e]<rk+1→∃ N dv drops,B6 (soft.Pack.E rk) N f239 (As f239) [.bool n,.int .u64 m,.int .i64 e]=some dv∧Wk drops dv (soft.Pack.out [.b n,.i m,.i e])):A9 prog 239 soft.Pack.spec:=by
 have call:=R7 (f:=239) func239 (by kernel_rfl) (show f239.body=some (As f239) by kernel_rfl)
 refine ⟨Al5 (E:=soft.Pack.E) func239 (show f239.body=some (As f239) by kernel_rfl) soft.Pack.mu (fun rk hm=>A5 (.cons ⟨hm,call⟩ hk) _ _ _) fun rk ats dvs he hp hr=>?_,call⟩
 obtain ⟨n,_,_,rfl,rfl,he0⟩:=he.A5m
 obtain ⟨m,_,_,rfl,rfl,he1⟩:=he0.Avf
 obtain ⟨e,_,_,rfl,rfl,he2⟩:=he1.Avf
 obtain ⟨rfl,rfl⟩:=he2.Aas
 exact h rk n m e hp hr
abbrev _root_.Go.Proofs.S1.soft.Pack.Kn:Prop:=A9 prog 239 soft.Pack.spec
def soft.Dn.hint:Nat→Option Bh
 | 0=>some { keep:=[0,1,2,3,10],objs:=[],boxes:=[] }
 | _=>none
def soft.Dn.Bf:List (Nat × Entry):=[(155,soft.Kind.spec),(239,soft.Pack.spec)]
def soft.Dn.live:Nat→Option (List Nat)
 | 7=>some [0,1,2,3,10]
 | 12=>some [0,2,3,10,11,12,13,14]
 | 14=>some [0,2,10,11,14]
 | 16=>some [0,2,10,11,14]
 | 18=>some [14,15,16]
 | _=>none
def soft.Dn.E:Env:=Bk (Be soft.Dn.Bf) (fun _=>false) soft.Dn.hint soft.Dn.live
section
variable (N:Nat) (p14_3:Bool) (p15:Int) (M:Nat) (n:Bool) (m e p11 p10_4:Int) (p14_2:Bool) (p10_3 p11_2:Int) (p14_1 r:Bool) (p10_2 p11_1 p12 p13:Int) (p14:Bool) (p10_1 p10:Int)
def soft.Dn.L0:Option DV:=Cd soft.Dn.E N f212 (As f212) [1,1,1,0,0] [] M ⟨Il 111 [(0,.bool n),(1,.int .u64 m),(2,.int .i64 e),(3,.bool r),(10,.int .i64 p10)],[]⟩
def soft.Dn.C7:Option DV:=cutAt soft.Dn.E N f212 (As f212) [1,1,1,1] [] ⟨Il 111 [(0,.bool n),(1,.int .u64 m),(2,.int .i64 e),(3,.bool r),(10,.int .i64 p10_1)],[]⟩
def soft.Dn.C12:Option DV:=cutAt soft.Dn.E N f212 (As f212) [1,1,1,1,1,1,1,1,0] [] ⟨Il 111 [(0,.bool n),(2,.int .i64 e),(3,.bool r),(10,.int .i64 p10_2),(11,.int .u64 p11_1),(12,.int .u64 p12),(13,.int .u64 p13),(14,.bool p14)],[]⟩
def soft.Dn.C14:Option DV:=cutAt soft.Dn.E N f212 (As f212) [1,1,1,1,1,1,1,1,1,0] [] ⟨Il 111 [(0,.bool n),(2,.int .i64 e),(10,.int .i64 p10_3),(11,.int .u64 p11_2),(14,.bool p14_1)],[]⟩
def soft.Dn.C16:Option DV:=cutAt soft.Dn.E N f212 (As f212) [1,1,1,1,1,1,1,1,1,1] [] ⟨Il 111 [(0,.bool n),(2,.int .i64 e),(10,.int .i64 p10_4),(11,.int .u64 p11),(14,.bool p14_2)],[]⟩
def soft.Dn.C18:Option DV:=cutAt soft.Dn.E N f212 (As f212) [1,1,1,1,1,1,1,1,1,1,1,1,0] [] ⟨Il 111 [(14,.bool p14_3),(15,.int .u64 p15),(16,.int .u8 0)],[]⟩
theorem soft.Dn.A1:soft.Dn.L0 N (M+1) n m e r p10=bif (decide (0≤p10)) then bif ((E8 9007199254740992 (Eb .u64 m p10))||(Bc (Ad (e+p10)) (-1074:Int))) then bif ((Ad (p10+1))==(63:Int)) then soft.Dn.C7 N n m e r (Ad (p10+1)) else soft.Dn.L0 N M n m e r (Ad (p10+1)) else soft.Dn.C7 N n m e r p10 else none :=
 Eq.trans (by kernel_rfl)
 (Fg (Ay (Za (E8 9007199254740992 (Eb .u64 m p10))) (Ay (Za (E8 9007199254740992 (Eb .u64 m p10))) (Ay (tt8 (E8 9007199254740992 (Eb .u64 m p10))) (Ay (Vh (E8 9007199254740992 (Eb .u64 m p10))) (Ay (tt6 (E8 9007199254740992 (Eb .u64 m p10))) (C5 (tt5 _ _) rfl rfl)))))) rfl)
theorem soft.Dn.A5q:soft.Dn.C7 N n m e r p10_1=bif (decide (0≤p10_1)) then bif (decide (0≤p10_1)) then bif (Bc 0 p10_1) then bif (decide (0≤(Ad (p10_1-1)))) then soft.Dn.C12 N n e r p10_1 (Eb .u64 m p10_1) (Hd .u64 m (Bj ((B7 .u64 1 p10_1)-1))) (B7 .u64 1 (Ad (p10_1-1))) (bif ((Hd .u64 m (Bj ((B7 .u64 1 p10_1)-1)))==(0:Int)) then (!r) else false) else none else soft.Dn.C12 N n e r p10_1 (Eb .u64 m p10_1) (Hd .u64 m (Bj ((B7 .u64 1 p10_1)-1))) 0 (bif ((Hd .u64 m (Bj ((B7 .u64 1 p10_1)-1)))==(0:Int)) then (!r) else false) else none else none :=
 Eq.trans ((Ts _ _ _ _ _ _ _).trans (by kernel_rfl))
 (C5 (Cn _) (C5 (Cn _) (Fg (Fg (Ay (Sy ((Hd .u64 m (Bj ((B7 .u64 1 p10_1)-1)))==(0:Int))) (Ay (O4 ((Hd .u64 m (Bj ((B7 .u64 1 p10_1)-1)))==(0:Int))) (Ay (Zb ((Hd .u64 m (Bj ((B7 .u64 1 p10_1)-1)))==(0:Int))) rfl))) rfl) (Ay (Sy ((Hd .u64 m (Bj ((B7 .u64 1 p10_1)-1)))==(0:Int))) (Ay (O4 ((Hd .u64 m (Bj ((B7 .u64 1 p10_1)-1)))==(0:Int))) (Ay (Zb ((Hd .u64 m (Bj ((B7 .u64 1 p10_1)-1)))==(0:Int))) rfl)))) rfl) rfl)
theorem soft.Dn.A2z:soft.Dn.C12 N n e r p10_2 p11_1 p12 p13 p14=bif ((Bc 0 p10_2)&&((Bc p13 p12)||((p12==p13)&&(r||((Hd .u64 p11_1 1)==(1:Int)))))) then soft.Dn.C14 N n e p10_2 (Bj (p11_1+1)) p14 else soft.Dn.C14 N n e p10_2 p11_1 p14 :=
 Eq.trans ((Ts _ _ _ _ _ _ _).trans (by kernel_rfl))
 (Ay (Sy (Bc 0 p10_2)) (Ay (Sy (Bc 0 p10_2)) (Ay (Apf (Bc 0 p10_2)) (Ay (O4 (Bc 0 p10_2)) (Ay (As0 (Bc 0 p10_2) (Bc p13 p12)) (Ay (As0 (Bc 0 p10_2) (Bc p13 p12)) (Ay (A4g (Bc 0 p10_2) (Bc p13 p12)) (Ay (A4h (Bc 0 p10_2) (Bc p13 p12)) (Ay (A63 (Bc 0 p10_2) (Bc p13 p12) (p12==p13)) (Ay (A64 (Bc 0 p10_2) (Bc p13 p12) (p12==p13)) (Ay (A65 (Bc 0 p10_2) (Bc p13 p12) (p12==p13) r) (Ay (A4n (Bc 0 p10_2) (Bc p13 p12) (p12==p13) r) (Ay (A4n (Bc 0 p10_2) (Bc p13 p12) (p12==p13) r) (Ay (A66 (Bc 0 p10_2) (Bc p13 p12) (p12==p13) r) (Ay (A67 (Bc 0 p10_2) (Bc p13 p12) (p12==p13)) (Ay (A4r (Bc 0 p10_2) (Bc p13 p12)) (Ay (Zb (Bc 0 p10_2)) (C5 (A68 _ _ _ _ _) rfl rfl))))))))))))))))))
theorem soft.Dn.A2y:soft.Dn.C14 N n e p10_3 p11_2 p14_1=bif (Bc (Ad (e+p10_3)) (-1074:Int)) then soft.Dn.C16 N n e 0 p10_3 p14_1 else soft.Dn.C16 N n e p11_2 p10_3 p14_1:=(Ts _ _ _ _ _ _ _).trans (by kernel_rfl)
theorem soft.Dn.A2x:soft.Dn.C16 N n e p11 p10_4 p14_2=bif (Na p11 (max (Ad (e+p10_4)) (-1074:Int))) then soft.Dn.C18 N p14_2 (Wu n p11 (max (Ad (e+p10_4)) (-1074:Int))) else none:=(Ts _ _ _ _ _ _ _).trans (by kernel_rfl)
theorem soft.Dn.A2v:soft.Dn.C18 N p14_3 p15=bif ((!p14_3)||((Us .u64 p15 9223372036854775808)==(9218868437227405312:Int))) then bif (Al p15) then bif ((A7 p15)==(3:Int)) then some (.tup [.int .u64 p15,.int .u8 5]) else bif ((A7 p15)==(0:Int)) then bif ((A7 p15)==(0:Int)) then some (.tup [.int .u64 p15,.int .u8 3]) else some (.tup [.int .u64 p15,.int .u8 1]) else bif ((A7 p15)==(1:Int)) then some (.tup [.int .u64 p15,.int .u8 3]) else some (.tup [.int .u64 p15,.int .u8 1]) else none else some (.tup [.int .u64 p15,.int .u8 0]) :=
 Eq.trans ((Ts _ _ _ _ _ _ _).trans (by kernel_rfl))
 (Ay (Af4 p14_3) (Ay (Ux p14_3) (Ay (Ux p14_3) (Ay (Af5 p14_3) (C5 (A07 _ _) rfl rfl)))))
theorem soft.Dn.ev:B6 soft.Dn.E N f212 (As f212) [.bool n,.int .u64 m,.int .i64 e,.bool r]=bif ((m==(0:Int))&&(!r)) then bif (Na 0 (-1074:Int)) then some (.tup [.int .u64 (Wu n 0 (-1074:Int)),.int .u8 0]) else none else soft.Dn.L0 N N n m e r 0 :=
 Eq.trans (by kernel_rfl)
 (Ay (Sy (m==(0:Int))) (Ay (O4 (m==(0:Int))) (Ay (Zb (m==(0:Int))) (C5 (A62 _ _) rfl rfl))))
end
abbrev _root_.Go.Proofs.S1.soft.Dn.Kn:=A9 prog 212 soft.Dn.spec
theorem soft.Dn.Ae (hk:A3 prog soft.Dn.Bf) (h:Hyp soft.Dn.E f212 soft.Dn.ts soft.Dn.pre soft.Dn.out):soft.Dn.Kn :=
 Am (A5 hk _ _ _) func212 (by kernel_rfl) (by kernel_rfl) h
end EqSoft
open Go Go.Den Go.Cv Go.Proofs
theorem Af {a b:Bool}:(a&&b)=true↔a=true∧b=true:=by simp
theorem An7 {n:Nat} (hn:n<2^64):((Eb .u64 (n:Int) (63:Int))==(1:Int))=Em n:=by
 rw [show (63:Int)=((63:Nat):Int) from rfl,Ir .u64 n 63 (by decide)]
 unfold Em Bp
 rw [A79,A8n]
 simp only [beq_iff_eq,A8e]
 omega
theorem Ayg {n:Nat} (hn:n<2^64):Ad (Hd .u64 (Eb .u64 (n:Int) (52:Int)) (2047:Int))=Og n:=by
 rw [show (52:Int)=((52:Nat):Int) from rfl,Ir .u64 n 52 (by decide),show (2047:Int)=((2^11-1:Nat):Int) from rfl,Jz 11 (by omega) (by decide)]
 unfold Og D5
 rw [A79,Ar (by omega) (by omega)]
theorem Avo {n:Nat} (hn:n<2^64):Hd .u64 (n:Int) (4503599627370495:Int)=Db n:=by
 rw [show (4503599627370495:Int)=((2^52-1:Nat):Int) from rfl,Jz 52 hn (by decide)]
 unfold Db C9
 rw [A79]
theorem soft.Split.known:soft.Split.Kn:=EqSoft.soft.Split.Ae .nil fun x hp=>by
 obtain ⟨n,rfl,hn⟩:=Ca (x:=x) hp
 refine ⟨0,soft.Split.out [.i n],[],?_,Wk.Mk (.cons .bool (.cons .int (.cons .int .nil)))⟩
 rw [EqSoft.soft.Split.ev,An7 hn,Ayg hn,Avo hn]
 rfl
theorem soft.Kind.known:soft.Kind.Kn:=EqSoft.soft.Kind.Ae (.cons soft.Split.known .nil) fun x hp=>by
 obtain ⟨n,rfl,hn⟩:=Ca (x:=x) hp
 refine ⟨0,soft.Kind.out [.i n],[],?_,.int⟩
 rw [EqSoft.soft.Kind.ev,Co hn]
 show _=some (DV.int .i64 (A7 n))
 unfold A7 Aj Og Db
 simp only [A79,A77,Aw]
 have:=Lv n
 by_cases h1:D5 n=2047
 ·by_cases h2:C9 n=0
  ·simp [h1,h2]
  ·have:((C9 n:Int)==0)=false:=by simp; exact h2
   simp [h1,this,h2]
 ·have h1':((D5 n:Int)==2047)=false:=by simp; omega
  rw [h1']
  by_cases h3:0<D5 n
  ·simp [h1,h3]
  ·by_cases h4:0<C9 n
   ·simp [h1,h3,h4]
   ·simp [h1,h3,h4]
theorem soft.Sign.known:soft.Sign.Kn:=EqSoft.soft.Sign.Ae .nil fun x hp=>by
 obtain ⟨n,rfl,hn⟩:=Ca (x:=x) hp
 refine ⟨0,soft.Sign.out [.i n],[],?_,.bool⟩
 rw [EqSoft.soft.Sign.ev,An7 hn]
 rfl
theorem Acu (n:Nat):Ii n=!(decide (Aj n=3)||decide (Aj n=4)):=by
 have:=Lv n
 unfold Ii Aj
 by_cases h1:D5 n=2047
 ·by_cases h2:C9 n=0<;>simp [h1,h2]
 ·have:D5 n<2047:=by omega
  by_cases h3:0<D5 n
  ·simp [h1,h3,this]
  ·by_cases h4:0<C9 n<;>simp [h1,h3,h4,this]
theorem soft.Finite.known:soft.Finite.Kn:=EqSoft.soft.Finite.Ae (.cons soft.Kind.known .nil) fun x hp=>by
 obtain ⟨n,rfl,hn⟩:=Ca (x:=x) hp
 refine ⟨0,soft.Finite.out [.i n],[],?_,.bool⟩
 rw [EqSoft.soft.Finite.ev,Co hn]
 show _=some (DV.bool (Dk n))
 unfold Dk A7
 rw [A79,Acu]
 by_cases h3:Aj n=3
 ·simp [h3]
 ·by_cases h4:Aj n=4
  ·simp [h4]
  ·have e3:((Aj n:Int)==3)=false:=by simp; omega
   have e4:((Aj n:Int)==4)=false:=by simp; omega
   simp [h3,h4,e3,e4]
theorem Aqr {n:Nat} (hn:n<2^64):Az3 .u64 (n:Int) (9223372036854775808:Int)=Eh n:=by
 rw [show (9223372036854775808:Int)=((2^63:Nat):Int) from rfl,Awo hn (by decide),Aw8 hn]
 unfold Eh Eg
 rw [A79]
theorem soft.Gw.known:soft.Gw.Kn:=EqSoft.soft.Gw.Ae .nil fun x hp=>by
 obtain ⟨n,rfl,hn⟩:=Ca (x:=x) hp
 refine ⟨0,soft.Gw.out [.i n],[],?_,.int⟩
 rw [EqSoft.soft.Gw.ev,Aqr hn]
 rfl
theorem soft.Gh.known:soft.Gh.Kn:=EqSoft.soft.Gh.Ae (.cons soft.Split.known .nil) fun x hp=>by
 obtain ⟨n,rfl,hn⟩:=Ca (x:=x) hp
 refine ⟨0,soft.Gh.out [.i n],[],?_,Wk.Jp (.cons .int (.cons .int .nil))⟩
 rw [EqSoft.soft.Gh.ev,Co hn]
 show _=some (DV.tup [.int .u64 (Bu n),.int .i64 (Bi n)])
 have hf:=L8 n
 have hp:=Lv n
 unfold Bu Bi Og Db An Av
 rw [A79]
 by_cases h:D5 n=0
 ·simp [h]
 ·have e:((D5 n:Int)==0)=false:=by simp; omega
  have e2:J8 .u64 ((C9 n:Nat):Int) (4503599627370496:Int)=((C9 n+2^52:Nat):Int):=by
   rw [show (4503599627370496:Int)=((1*2^52:Nat):Int) from rfl,Aru (by omega) (by omega)]
   congr 1; omega
  rw [e,e2,Ar (by omega) (by omega)]
  simp [h]
open Go Go.Den Go.Cv Go.Proofs
set_option maxRecDepth 100000
namespace EqRefD
def A4.Neg.Bf:List (Nat × Entry):=[]
def A4.Neg.E:Env:=Bk (Be A4.Neg.Bf) (fun _=>false) (fun _=>none) (fun _=>none)
theorem A4.Neg.ev (N:Nat) (x:Int):B6 A4.Neg.E N f142 (As f142) [.int .u64 x]=some (.bool ((Bj (Int.tdiv x 9223372036854775808))==(1:Int))):=by kernel_rfl
abbrev _root_.Go.Proofs.S1.A4.Neg.Kn:=A9 prog 142 A4.Neg.spec
theorem A4.Neg.Ae (hk:A3 prog A4.Neg.Bf) (h:Hyp A4.Neg.E f142 A4.Neg.ts A4.Neg.pre A4.Neg.out):A4.Neg.Kn :=
 Am (A5 hk _ _ _) func142 (by kernel_rfl) (by kernel_rfl) h
def A4.Power.Bf:List (Nat × Entry):=[]
def A4.Power.E:Env:=Bk (Be A4.Power.Bf) (fun _=>false) (fun _=>none) (fun _=>none)
theorem A4.Power.ev (N:Nat) (x:Int):B6 A4.Power.E N f140 (As f140) [.int .u64 x]=some (.int .i64 (Ad (Bj (Int.tdiv (Int.tmod x 9223372036854775808) 4503599627370496)))):=by kernel_rfl
abbrev _root_.Go.Proofs.S1.A4.Power.Kn:=A9 prog 140 A4.Power.spec
theorem A4.Power.Ae (hk:A3 prog A4.Power.Bf) (h:Hyp A4.Power.E f140 A4.Power.ts A4.Power.pre A4.Power.out):A4.Power.Kn :=
 Am (A5 hk _ _ _) func140 (by kernel_rfl) (by kernel_rfl) h
def A4.Mh.Bf:List (Nat × Entry):=[]
def A4.Mh.E:Env:=Bk (Be A4.Mh.Bf) (fun _=>false) (fun _=>none) (fun _=>none)
theorem A4.Mh.ev (N:Nat) (x:Int):B6 A4.Mh.E N f141 (As f141) [.int .u64 x]=some (.int .u64 (Int.tmod x 4503599627370496)):=by kernel_rfl
abbrev _root_.Go.Proofs.S1.A4.Mh.Kn:=A9 prog 141 A4.Mh.spec
theorem A4.Mh.Ae (hk:A3 prog A4.Mh.Bf) (h:Hyp A4.Mh.E f141 A4.Mh.ts A4.Mh.pre A4.Mh.out):A4.Mh.Kn :=
 Am (A5 hk _ _ _) func141 (by kernel_rfl) (by kernel_rfl) h
def A4.Kind.Bf:List (Nat × Entry):=[(141,A4.Mh.spec),(140,A4.Power.spec)]
def A4.Kind.E:Env:=Bk (Be A4.Kind.Bf) (fun _=>false) (fun _=>none) (fun _=>none)
theorem A4.Kind.ev (N:Nat) (x:Int):B6 A4.Kind.E N f62 (As f62) [.int .u64 x]=bif (Rt x) then bif ((Og x)==(2047:Int)) then bif (Rt x) then bif ((Db x)==(0:Int)) then some (.int .i64 3) else some (.int .i64 4) else none else bif (Rt x) then bif (Bc 0 (Og x)) then some (.int .i64 2) else bif (Rt x) then bif (Bc 0 (Db x)) then some (.int .i64 1) else some (.int .i64 0) else none else none else none:=by kernel_rfl
abbrev _root_.Go.Proofs.S1.A4.Kind.Kn:=A9 prog 62 A4.Kind.spec
theorem A4.Kind.Ae (hk:A3 prog A4.Kind.Bf) (h:Hyp A4.Kind.E f62 A4.Kind.ts A4.Kind.pre A4.Kind.out):A4.Kind.Kn :=
 Am (A5 hk _ _ _) func62 (by kernel_rfl) (by kernel_rfl) h
def A4.Finite.Bf:List (Nat × Entry):=[(140,A4.Power.spec)]
def A4.Finite.E:Env:=Bk (Be A4.Finite.Bf) (fun _=>false) (fun _=>none) (fun _=>none)
theorem A4.Finite.ev (N:Nat) (x:Int):B6 A4.Finite.E N f131 (As f131) [.int .u64 x]=bif (Rt x) then some (.bool (Bc (Og x) 2047)) else none:=by kernel_rfl
abbrev _root_.Go.Proofs.S1.A4.Finite.Kn:=A9 prog 131 A4.Finite.spec
theorem A4.Finite.Ae (hk:A3 prog A4.Finite.Bf) (h:Hyp A4.Finite.E f131 A4.Finite.ts A4.Finite.pre A4.Finite.out):A4.Finite.Kn :=
 Am (A5 hk _ _ _) func131 (by kernel_rfl) (by kernel_rfl) h
def Ez.Canon.Bf:List (Nat × Entry):=[(62,A4.Kind.spec)]
def Ez.Canon.E:Env:=Bk (Be Ez.Canon.Bf) (fun _=>false) (fun _=>none) (fun _=>none)
theorem Ez.Canon.ev (N:Nat) (x:Int):B6 Ez.Canon.E N f168 (As f168) [.int .u64 x]=bif (Rt x) then bif ((A7 x)==(4:Int)) then some (.int .u64 9221120237041090560) else some (.int .u64 x) else none:=by kernel_rfl
abbrev _root_.Go.Proofs.S1.Ez.Canon.Kn:=A9 prog 168 Ez.Canon.spec
theorem Ez.Canon.Ae (hk:A3 prog Ez.Canon.Bf) (h:Hyp Ez.Canon.E f168 Ez.Canon.ts Ez.Canon.pre Ez.Canon.out):Ez.Canon.Kn :=
 Am (A5 hk _ _ _) func168 (by kernel_rfl) (by kernel_rfl) h
abbrev _root_.Go.Proofs.S1.Ez.Canon.nb.Kn:Prop:=A9 prog 168 Ez.Canon.nb.spec
end EqRefD
open Go Go.Den Go.Cv Go.Proofs
open EqRefD
theorem Kd (n m:Nat):Int.tdiv (n:Int) (m:Int)=((n / m:Nat):Int):=rfl
theorem Kc (n m:Nat):Int.tmod (n:Int) (m:Int)=((n%m:Nat):Int):=rfl
theorem A0n:(9223372036854775808:Int)=((2^63:Nat):Int):=rfl
theorem A0o:(4503599627370496:Int)=((2^52:Nat):Int):=rfl
theorem A4.Neg.known:A4.Neg.Kn:=A4.Neg.Ae .nil fun x hp=>by
 obtain ⟨n,rfl,hn⟩:=Ca (x:=x) hp
 refine ⟨0,A4.Neg.out [.i n],[],?_,.bool⟩
 rw [A4.Neg.ev,A0n,Kd,Dd (by omega) (by omega)]
 show _=some (DV.bool (Em n))
 unfold Em Bp
 rw [A79]
 congr 2
 rw [A8n]
 simp only [beq_iff_eq,A8e]
 omega
theorem A4.Power.known:A4.Power.Kn:=A4.Power.Ae .nil fun x hp=>by
 obtain ⟨n,rfl⟩:=W3 (x:=x) hp
 refine ⟨0,A4.Power.out [.i n],[],?_,.int⟩
 rw [A4.Power.ev,A0n,A0o,Kc,Kd,Dd (by omega) (by omega),Ar (by omega) (by omega)]
 show _=some (DV.int .i64 (Og n))
 unfold Og D5
 rw [A79]
 congr 2
 have:n%2^63 / 2^52=n / 2^52%2048:=by omega
 rw [this]
theorem A4.Mh.known:A4.Mh.Kn:=A4.Mh.Ae .nil fun x hp=>by
 obtain ⟨n,rfl⟩:=W3 (x:=x) hp
 refine ⟨0,A4.Mh.out [.i n],[],?_,.int⟩
 rw [A4.Mh.ev,A0o,Kc]
 rfl
theorem A4.Kind.known:A4.Kind.Kn:=A4.Kind.Ae (.cons A4.Mh.known (.cons A4.Power.known .nil)) fun x hp=>by
 obtain ⟨n,rfl⟩:=W3 (x:=x) hp
 refine ⟨0,A4.Kind.out [.i n],[],?_,.int⟩
 rw [A4.Kind.ev,Pd]
 show _=some (DV.int .i64 (A7 n))
 unfold A7 Aj Og Db
 simp only [A79,A77,Aw]
 have:=Lv n
 by_cases h1:D5 n=2047
 ·by_cases h2:C9 n=0
  ·simp [h1,h2]
  ·have:((C9 n:Int)==0)=false:=by simp; exact h2
   simp [h1,this,h2]
 ·have h1':((D5 n:Int)==2047)=false:=by simp; omega
  rw [h1']
  by_cases h3:0<D5 n
  ·simp [h1,h3]
  ·by_cases h4:0<C9 n
   ·simp [h1,h3,h4]
   ·simp [h1,h3,h4]
theorem A4.Finite.known:A4.Finite.Kn:=A4.Finite.Ae (.cons A4.Power.known .nil) fun x hp=>by
 obtain ⟨n,rfl,hn⟩:=Ca (x:=x) hp
 refine ⟨0,A4.Finite.out [.i n],[],?_,.bool⟩
 rw [A4.Finite.ev,Pd,A77,Aw]
 show _=some (DV.bool (Dk n))
 unfold Dk Ii Og
 rw [A79]
 have:decide ((D5 n:Int)<2047)=decide (D5 n<2047):=decide_eq_decide.2 (by omega)
 rw [this]
theorem Ez.Canon.known:Ez.Canon.Kn:=Ez.Canon.Ae (.cons A4.Kind.known .nil) fun x hp=>by
 obtain ⟨n,rfl⟩:=W3 (x:=x) hp
 refine ⟨0,Ez.Canon.out [.i n],[],?_,.int⟩
 rw [Ez.Canon.ev,Pd,A77]
 show _=some (DV.int .u64 (Adg n))
 unfold Adg J7 A7
 rw [A79]
 by_cases h:Aj n=4
 ·have:((Aj n:Int)==4)=true:=by simp; omega
  rw [this,A8u h]; rfl
 ·have:((Aj n:Int)==4)=false:=by simp; omega
  rw [this,A8t h]; rfl
theorem Arc {n m:Nat} (h:Sr n m):J7 n=J7 m:=by
 rcases h with rfl | ⟨h1,h2⟩
 ·rfl
 ·unfold Jw at h1 h2
  rw [Ai6 n] at h1
  rw [Ai6 m] at h2
  unfold J7
  rw [A8u (A8x h1),A8u (A8x h2)]
theorem Aym {c:Ctx} {w:World} {d:DV} {vs:List Value} (h:Ba c w [d] vs):∃ v,vs=[v]∧Ap c w d v:=by
 simp only [Ba] at h
 obtain ⟨u,us,rfl,hv,rfl⟩:=h
 exact ⟨u,rfl,hv⟩
theorem Ez.Canon.Aui:Ez.Canon.nb.Kn:=by
 refine ⟨fun args ha=>?_,Ez.Canon.known.call⟩
 unfold Ez.Canon.nb.spec entry at ha ⊢
 simp only at ha ⊢
 cases hd:Oo [.nb] args with
 | none=>rw [hd] at ha; cases ha
 | some bs =>
   rw [hd] at ha
   obtain ⟨ds,h1,h2⟩:=On hd
   obtain ⟨x,_,_,rfl,rfl,he⟩:=h1.A10
   obtain ⟨rfl,rfl⟩:=he.Aas
   refine Qs.args (args:=[.nb x]) ?_ h2
   intro w vals I hI hl
   obtain ⟨v,hv,hr⟩:=Aym hl
   simp only [Ap] at hr
   obtain ⟨m,rfl,hm⟩:=hr
   have e:Ez.Canon.nb.out [.f x]=Ez.Canon.spec.out [.int .u64 (m:Int)]:=by
    show DV.int .u64 (R6 x)=DV.int .u64 (Adg (m:Int))
    unfold R6 Adg
    rw [A79,Arc hm]
   show Calls _ _ _ _ fun e' w'=>∃ v own,e'=.returned v∧Go.RowKit.Below w.heap.size w w'∧Ao4 own w w'∧Ap (D8 I own w w') w' (Ez.Canon.nb.out [.f x]) v
   rw [e]
   exact Ez.Canon.known.meets [.int .u64 (m:Int)] (Pd m) w vals I hI (by rw [hv]; exact ⟨_,_,rfl,rfl,rfl⟩)
open Go Go.Den Go.Cv Go.Proofs
set_option maxRecDepth 100000
namespace EqRefA
def Ag.Jv.Bf:List (Nat × Entry):=[]
def Ag.Jv.E:Env:=Bk (Be Ag.Jv.Bf) (fun _=>false) (fun _=>none) (fun _=>none)
theorem Ag.Jv.ev (N:Nat) (l:List Int) (i:Int):B6 Ag.Jv.E N f221 (As f221) [.ints .arg .u32 l,.int .i64 i]=bif ((E8 0 i)&&(Bc i (length l:Int))) then bif ((decide (0≤i))&&(decide (i<(length l:Int)))) then some (.int .u64 (Bj (getD l (toNat i) 0))) else none else some (.int .u64 0) :=
 Eq.trans (by kernel_rfl)
 (Ay (Sy (E8 0 i)) (Ay (Sy (E8 0 i)) (Ay (O4 (E8 0 i)) (Ay (Apf (E8 0 i)) (Ay (Zb (E8 0 i)) (C5 (tt1 _ _) rfl rfl))))))
abbrev _root_.Go.Proofs.S1.Ag.Jv.Kn:=A9 prog 221 Ag.Jv.spec
theorem Ag.Jv.Ae (hk:A3 prog Ag.Jv.Bf) (h:Hyp Ag.Jv.E f221 Ag.Jv.ts Ag.Jv.pre Ag.Jv.out):Ag.Jv.Kn :=
 Am (A5 hk _ _ _) func221 (by kernel_rfl) (by kernel_rfl) h
def Ag.Made.hint:Nat→Option Bh
 | 0=>some { keep:=[0,1,4,5],objs:=[],boxes:=[4] }
 | _=>none
def Ag.Made.Bf:List (Nat × Entry):=[]
def Ag.Made.E:Env:=Bk (Be Ag.Made.Bf) (fun _=>false) Ag.Made.hint (fun _=>none)
section
variable (N M:Nat) (n:Bool) (l:List Int) (p5:Int)
def Ag.Made.L0:Option DV:=Cd Ag.Made.E N f171 (As f171) [1,1,0,0] [] M ⟨Il 28 [(0,.bool n),(1,.ints .arg .u32 l),(4,.ptr 4 0 0),(5,.int .i64 p5)],[(4,false,.box [.bool false,.nil])]⟩
theorem Ag.Made.A1:Ag.Made.L0 N (M+1) n l p5=bif ((!(Bc 0 p5))||((decide (0≤(Ad (p5-1))))&&(decide ((Ad (p5-1))<(length l:Int))))) then bif ((Bc 0 p5)&&((getD l (toNat (Ad (p5-1))) 0)==(0:Int))) then Ag.Made.L0 N M n l (Ad (p5-1)) else bif (p5==(0:Int)) then some (.agg [.bool false,.nil]) else bif ((decide ((0:Int)≤p5))&&(decide (p5≤(length l:Int)))) then some (.agg [.bool n,.ints .arg .u32 (List.take (toNat p5) l)]) else none else none :=
 Eq.trans (by kernel_rfl)
 (Ay (Sy (Bc 0 p5)) (Ay (Sy (Bc 0 p5)) (Ay (O4 (Bc 0 p5)) (C5 (A3w _ _ _) (Ay (O4 (Bc 0 p5)) (Ay (O4 (Bc 0 p5)) (Ay (Zb (Bc 0 p5)) (C5 (tt1 _ _) rfl (Fg rfl (C5 (Rg _ _) rfl rfl)))))) rfl))))
theorem Ag.Made.ev:B6 Ag.Made.E N f171 (As f171) [.bool n,.ints .arg .u32 l] =
 Ag.Made.L0 N N n l (length l:Int):=by kernel_rfl
end
abbrev _root_.Go.Proofs.S1.Ag.Made.Kn:=A9 prog 171 Ag.Made.spec
theorem Ag.Made.Ae (hk:A3 prog Ag.Made.Bf) (h:Hyp Ag.Made.E f171 Ag.Made.ts Ag.Made.pre Ag.Made.out):Ag.Made.Kn :=
 Am (A5 hk _ _ _) func171 (by kernel_rfl) (by kernel_rfl) h
def Ag.Of.Bf:List (Nat × Entry):=[(171,Ag.Made.spec)]
def Ag.Of.E:Env:=Bk (Be Ag.Of.Bf) (fun _=>false) (fun _=>none) (fun _=>none)
theorem Ag.Of.ev (N:Nat) (n:Int):B6 Ag.Of.E N f115 (As f115) [.int .i64 n]=bif (Bc n 0) then bif (Iy [(Ka (Int.tmod (Bj ((Bj (Ad (0-(Ad (n+1)))))+1)) 4294967296)),(Ka (Bj (Int.tdiv (Bj ((Bj (Ad (0-(Ad (n+1)))))+1)) 4294967296)))]) then some (.agg [.bool (A2 (wv true [(Ka (Int.tmod (Bj ((Bj (Ad (0-(Ad (n+1)))))+1)) 4294967296)),(Ka (Bj (Int.tdiv (Bj ((Bj (Ad (0-(Ad (n+1)))))+1)) 4294967296)))])),.ints .arg .u32 (Ah (wv true [(Ka (Int.tmod (Bj ((Bj (Ad (0-(Ad (n+1)))))+1)) 4294967296)),(Ka (Bj (Int.tdiv (Bj ((Bj (Ad (0-(Ad (n+1)))))+1)) 4294967296)))]))]) else none else bif (Iy [(Ka (Int.tmod n 4294967296)),(Ka (Ad (Int.tdiv n 4294967296)))]) then some (.agg [.bool (A2 (wv false [(Ka (Int.tmod n 4294967296)),(Ka (Ad (Int.tdiv n 4294967296)))])),.ints .arg .u32 (Ah (wv false [(Ka (Int.tmod n 4294967296)),(Ka (Ad (Int.tdiv n 4294967296)))]))]) else none:=by kernel_rfl
abbrev _root_.Go.Proofs.S1.Ag.Of.Kn:=A9 prog 115 Ag.Of.spec
theorem Ag.Of.Ae (hk:A3 prog Ag.Of.Bf) (h:Hyp Ag.Of.E f115 Ag.Of.ts Ag.Of.pre Ag.Of.out):Ag.Of.Kn :=
 Am (A5 hk _ _ _) func115 (by kernel_rfl) (by kernel_rfl) h
def Ag.Is.hint:Nat→Option Bh
 | 0=>some { keep:=[0,1,5],objs:=[],boxes:=[] }
 | _=>none
def Ag.Is.Bf:List (Nat × Entry):=[(221,Ag.Jv.spec)]
def Ag.Is.E:Env:=Bk (Be Ag.Is.Bf) (fun _=>false) Ag.Is.hint (fun _=>none)
section
variable (N M:Nat) (a b:List Int) (p5:Int)
def Ag.Is.L0:Option DV:=Cd Ag.Is.E N f176 (As f176) [1,0,1,0] [] M ⟨Il 29 [(0,.ints .arg .u32 a),(1,.ints .arg .u32 b),(5,.int .i64 p5)],[]⟩
theorem Ag.Is.A1:Ag.Is.L0 N (M+1) a b p5=bif (E8 0 p5) then bif (Iy a) then bif (Iy b) then bif (Bc (Hx a p5) (Hx b p5)) then some (.int .i64 (-1:Int)) else bif (Iy a) then bif (Iy b) then bif (Bc (Hx b p5) (Hx a p5)) then some (.int .i64 1) else Ag.Is.L0 N M a b (Ad (p5-1)) else none else none else none else none else some (.int .i64 0):=by kernel_rfl
theorem Ag.Is.ev:B6 Ag.Is.E N f176 (As f176) [.ints .arg .u32 a,.ints .arg .u32 b] =
 Ag.Is.L0 N N a b (max (length a:Int) (length b:Int)):=by kernel_rfl
end
abbrev _root_.Go.Proofs.S1.Ag.Is.Kn:=A9 prog 176 Ag.Is.spec
theorem Ag.Is.Ae (hk:A3 prog Ag.Is.Bf) (h:Hyp Ag.Is.E f176 Ag.Is.ts Ag.Is.pre Ag.Is.out):Ag.Is.Kn :=
 Am (A5 hk _ _ _) func176 (by kernel_rfl) (by kernel_rfl) h
def Ag.plus.hint:Nat→Option Bh
 | 0=>some { keep:=[0,1,5,6,7],objs:=[(0,5,100005,.ints 173 .u32 [])],boxes:=[] }
 | _=>none
def Ag.plus.Bf:List (Nat × Entry):=[(221,Ag.Jv.spec)]
def Ag.plus.E:Env:=Bk (Be Ag.plus.Bf) (fun _=>false) Ag.plus.hint (fun _=>none)
section
variable (N M:Nat) (a b:List Int) (p6 p7:Int) (p5:List Int)
def Ag.plus.L0:Option DV:=Cd Ag.plus.E N f174 (As f174) [1,1,1,0,1,0] [] M ⟨Il 37 [(0,.ints .arg .u32 a),(1,.ints .arg .u32 b),(5,.oref 100005),(6,.int .u64 p6),(7,.int .i64 p7)],[(100005,false,.ints 173 .u32 p5)]⟩
theorem Ag.plus.A1:Ag.plus.L0 N (M+1) a b p6 p7 p5=bif (E8 p7 (max (length a:Int) (length b:Int))) then bif (Iy a) then bif (Iy b) then bif (decide ((length p5)+1≤Im)) then Ag.plus.L0 N M a b (Bj (Int.tdiv (Bj ((Bj ((Hx a p7)+(Hx b p7)))+p6)) 4294967296)) (Ad (p7+1)) (p5++[(Ka (Int.tmod (Bj ((Bj ((Hx a p7)+(Hx b p7)))+p6)) 4294967296))]) else none else none else none else some (.ints (.own 100005 173) .u32 p5):=by kernel_rfl
theorem Ag.plus.ev:B6 Ag.plus.E N f174 (As f174) [.ints .arg .u32 a,.ints .arg .u32 b] =
 Ag.plus.L0 N N a b 0 0 []:=by kernel_rfl
end
abbrev _root_.Go.Proofs.S1.Ag.plus.Kn:=A9 prog 174 Ag.plus.spec
theorem Ag.plus.Ae (hk:A3 prog Ag.plus.Bf) (h:Hyp Ag.plus.E f174 Ag.plus.ts Ag.plus.pre Ag.plus.out):Ag.plus.Kn :=
 Am (A5 hk _ _ _) func174 (by kernel_rfl) (by kernel_rfl) h
def Ag.minus.hint:Nat→Option Bh
 | 0=>some { keep:=[0,1,5,6,7],objs:=[(0,5,100005,.ints 173 .u32 [])],boxes:=[] }
 | _=>none
def Ag.minus.Bf:List (Nat × Entry):=[(221,Ag.Jv.spec)]
def Ag.minus.E:Env:=Bk (Be Ag.minus.Bf) (fun _=>false) Ag.minus.hint (fun _=>none)
section
variable (N M:Nat) (a b:List Int) (p6 p7:Int) (p5:List Int)
def Ag.minus.L0:Option DV:=Cd Ag.minus.E N f177 (As f177) [1,1,1,0,1,0] [] M ⟨Il 36 [(0,.ints .arg .u32 a),(1,.ints .arg .u32 b),(5,.oref 100005),(6,.int .u64 p6),(7,.int .i64 p7)],[(100005,false,.ints 173 .u32 p5)]⟩
theorem Ag.minus.A1:Ag.minus.L0 N (M+1) a b p6 p7 p5=bif (Bc p7 (length a:Int)) then bif (Iy a) then bif (Iy b) then bif (decide ((length p5)+1≤Im)) then Ag.minus.L0 N M a b (Bj ((1:Int)-(Bj (Int.tdiv (Bj ((Bj ((Bj ((4294967296:Int)+(Hx a p7)))-(Hx b p7)))-p6)) 4294967296)))) (Ad (p7+1)) (p5++[(Ka (Int.tmod (Bj ((Bj ((Bj ((4294967296:Int)+(Hx a p7)))-(Hx b p7)))-p6)) 4294967296))]) else none else none else none else some (.ints (.own 100005 173) .u32 p5):=by kernel_rfl
theorem Ag.minus.ev:B6 Ag.minus.E N f177 (As f177) [.ints .arg .u32 a,.ints .arg .u32 b] =
 Ag.minus.L0 N N a b 0 0 []:=by kernel_rfl
end
abbrev _root_.Go.Proofs.S1.Ag.minus.Kn:=A9 prog 177 Ag.minus.spec
theorem Ag.minus.Ae (hk:A3 prog Ag.minus.Bf) (h:Hyp Ag.minus.E f177 Ag.minus.ts Ag.minus.pre Ag.minus.out):Ag.minus.Kn :=
 Am (A5 hk _ _ _) func177 (by kernel_rfl) (by kernel_rfl) h
def Ag.Add.Bf:List (Nat × Entry):=[(171,Ag.Made.spec),(176,Ag.Is.spec),(177,Ag.minus.spec),(174,Ag.plus.spec)]
def Ag.Add.E:Env:=Bk (Be Ag.Add.Bf) (fun _=>false) (fun _=>none) (fun _=>none)
theorem Ag.Add.ev (N:Nat) (n:Bool) (a:List Int) (m:Bool) (b:List Int):B6 Ag.Add.E N f112 (As f112) [.agg [.bool n,.ints .arg .u32 a],.agg [.bool m,.ints .arg .u32 b]]=bif (n==m) then bif (Iy a&&Iy b) then bif (Iy (K5 a b)) then some (.agg [.bool (A2 (wv n (K5 a b))),.ints .arg .u32 (Ah (wv n (K5 a b)))]) else none else none else bif (Iy a&&Iy b) then bif (Bc (Y0 (Ce a) (Ce b)) 0) then bif ((Iy b&&Iy a)&&leL a b) then bif (Iy (Jg b a)) then some (.agg [.bool (A2 (wv m (Jg b a))),.ints .arg .u32 (Ah (wv m (Jg b a)))]) else none else none else bif ((Iy a&&Iy b)&&leL b a) then bif (Iy (Jg a b)) then some (.agg [.bool (A2 (wv n (Jg a b))),.ints .arg .u32 (Ah (wv n (Jg a b)))]) else none else none else none :=
 Eq.trans (by kernel_rfl)
 (Fg (C5 (Cn _) (C5 (Cn _) rfl rfl) rfl) (Fg (Fg (C5 (Cn _) (C5 (Cn _) rfl rfl) rfl) (C5 (Cn _) (C5 (Cn _) rfl rfl) rfl)) rfl))
abbrev _root_.Go.Proofs.S1.Ag.Add.Kn:=A9 prog 112 Ag.Add.spec
theorem Ag.Add.Ae (hk:A3 prog Ag.Add.Bf) (h:Hyp Ag.Add.E f112 Ag.Add.ts Ag.Add.pre Ag.Add.out):Ag.Add.Kn :=
 Am (A5 hk _ _ _) func112 (by kernel_rfl) (by kernel_rfl) h
def Ag.Neg.Bf:List (Nat × Entry):=[(171,Ag.Made.spec)]
def Ag.Neg.E:Env:=Bk (Be Ag.Neg.Bf) (fun _=>false) (fun _=>none) (fun _=>none)
theorem Ag.Neg.ev (N:Nat) (n:Bool) (a:List Int):B6 Ag.Neg.E N f143 (As f143) [.agg [.bool n,.ints .arg .u32 a]]=bif (Iy a) then some (.agg [.bool (A2 (wv (!n) a)),.ints .arg .u32 (Ah (wv (!n) a))]) else none:=by kernel_rfl
abbrev _root_.Go.Proofs.S1.Ag.Neg.Kn:=A9 prog 143 Ag.Neg.spec
theorem Ag.Neg.Ae (hk:A3 prog Ag.Neg.Bf) (h:Hyp Ag.Neg.E f143 Ag.Neg.ts Ag.Neg.pre Ag.Neg.out):Ag.Neg.Kn :=
 Am (A5 hk _ _ _) func143 (by kernel_rfl) (by kernel_rfl) h
end EqRefA
open Go Go.Den Go.Cv Go.Proofs
open EqRefA
theorem Ag.Jv.known:Ag.Jv.Kn:=Ag.Jv.Ae .nil fun l i hp=>by
 obtain ⟨hl,hi⟩:=Lx hp
 refine ⟨0,Ag.Jv.out [.l l,.i i],[],?_,.int⟩
 rw [Ag.Jv.ev,Fe,Aw]
 show _=some (DV.int .u64 (Hx l i))
 by_cases h0:0≤i
 ·obtain ⟨k,rfl⟩:∃ k:Nat,i=k:=⟨i.toNat,by omega⟩
  have hv:=Ih hi k
  have hg:=P8 hi k
  rw [hv,A79,hg,A78 h0,A9k]
  by_cases h1:(k:Int)<(l.length:Int)
  ·rw [A78 h1,A77,A77,Dd (by omega) (by omega)]
  ·have h2:l.getD k 0=0:=by
    rw [A8h,A9p (by omega)]; rfl
   rw [h2] at hg
   rw [A8c h1,A8b,← hg]
 ·have:Hx l i=0:=by unfold Hx; rw [A8t h0]
  rw [A8c h0,Bool.false_and,A8b,this]
theorem Afv {drops:List Nat} {b:Bool} {l:List Int}:Wk drops (.agg [.bool b,.ints .arg .u32 l]) (.agg [.bool b,.ints .arg .u32 l]):=Wk.Mk (.cons .bool (.cons .Awq .nil))
theorem Aqh:A2 0=false:=rfl
theorem Ajn:Ah 0=[]:=rfl
theorem Aqs (N:Nat) (n:Bool) {l:List Int} (hl:l.length<1073741824) (hi:Xf l):∀ (p F:Nat),p≤l.length→p<F→Ce l<2^(32*p) →
 ∃ dv,Ag.Made.L0 N F n l (p:Int)=some dv∧Wk [] dv (.agg [.bool (A2 (wv n l)),.ints .arg .u32 (Ah (wv n l))]):=by
 have hlast:∀ p,p≤l.length→Du (Ce l)=p→p≠0→some (DV.agg [.bool n,.ints .arg .u32 (l.take p)])=some (DV.agg [.bool (A2 (wv n l)),.ints .arg .u32 (Ah (wv n l))]):=by
  intro p hp hq h0
  have h1:=Ama hi
  rw [hq] at h1
  have h2:Ce l≠0:=fun h=>by rw [h] at hq; exact h0 hq.symm
  have e:(wv n l).natAbs=Ce l:=by unfold wv Ik; split<;>omega
  have e1:Ah (wv n l)=Sh (Ce l):=by unfold Ah; rw [e]
  have e2:A2 (wv n l)=n:=by unfold A2 wv Ik; cases n<;>simp<;>omega
  rw [h1,e1,e2]
 intro p
 induction p with
 | zero =>
   intro F hp hF hv
   obtain ⟨F,rfl⟩:∃ G,F=G+1:=⟨F-1,by omega⟩
   have hz:wv n l=0:=by
    have:Ce l=0:=by rw [Nat.mul_zero,A85] at hv; omega
    unfold wv Ik; rw [this]; cases n<;>rfl
   refine ⟨.agg [.bool false,.nil],?_,?_⟩
   ·rw [Ag.Made.A1,Aw]; rfl
   ·rw [hz,Aqh,Ajn]
    exact Wk.Mk (.cons .bool (.cons (.nil _ _) .nil))
 | succ p ih =>
   intro F hp hF hv
   obtain ⟨F,rfl⟩:∃ G,F=G+1:=⟨F-1,by omega⟩
   rw [Ag.Made.A1,Aw,Ar (by omega) (by omega)]
   have e0:((p+1:Nat):Int)-1=(p:Int):=by omega
   have t0:decide ((0:Int)<((p+1:Nat):Int))=true:=A78 (by omega)
   have t1:decide ((0:Int)≤(p:Int))=true:=by simp
   have t2:decide ((p:Int)<(l.length:Int))=true:=by simp; omega
   have hg:=P8 hi p
   have hq:Ce l / 2^(32*p)<4294967296:=by
    rw [Nat.div_lt_iff_lt_mul (B5 _),← N8]; exact hv
   rw [A8k hq] at hg
   rw [e0,t0,t1,t2,A79,hg]
   simp only [A86,A8d,Bool.false_or,A77,A9k]
   by_cases hz:Ce l / 2^(32*p)=0
   ·have:(((Ce l / 2^(32*p):Nat):Int)==0)=true:=by rw [hz]; rfl
    rw [this,A77]
    refine ih F (by omega) (by omega) ?_
    rcases A84 (Ce l) (2^(32*p)) with h | h
    ·exact h
    ·have:=Nat.div_pos h (B5 _); omega
   ·have:(((Ce l / 2^(32*p):Nat):Int)==0)=false:=by simp only [A82,ne_eq]; omega
    have t3:(((p+1:Nat):Int)==0)=false:=by simp only [A82,ne_eq]; omega
    have t4:decide (((p+1:Nat):Int)≤(l.length:Int))=true:=by simp; omega
    have t5:decide ((0:Int)≤((p+1:Nat):Int))=true:=A78 (by omega)
    rw [this,A8b,t3,A8b,t4,t5,A8d,A77,A79]
    have hlen:Du (Ce l)=p+1:=by
     have a1:=Nb hv
     have a2:=Ayz (n:=Ce l) (k:=p) (by
      rcases A84 (Ce l) (2^(32*p)) with h | h
      ·exact absurd (Nat.div_eq_of_lt h) hz
      ·exact h)
     omega
    exact ⟨_,hlast (p+1) hp hlen (by omega),Afv⟩
theorem Ag.Made.known:Ag.Made.Kn:=Ag.Made.Ae .nil fun n l hp=>by
 obtain ⟨hl,hi⟩:=Lx hp
 obtain ⟨dv,h1,h2⟩:=Aqs (l.length+1) n hl hi l.length (l.length+1) (A81 _) (by omega) (Lr hi)
 exact ⟨l.length+1,dv,[],by rw [Ag.Made.ev]; exact h1,h2⟩
theorem Ad9 {a b:Int} (ha:0≤a∧a<4294967296) (hb:0≤b∧b<4294967296):Iy [a,b]=true :=
 Lw (show 2<1073741824 by decide) fun x hx=>by
  rcases List.mem_cons.1 hx with rfl | hx
  ·exact ha
  ·rcases List.mem_cons.1 hx with rfl | hx
   ·exact hb
   ·cases hx
theorem Ajl:(4294967296:Int)=((4294967296:Nat):Int):=rfl
theorem Ag.Of.known:Ag.Of.Kn:=Ag.Of.Ae (.cons Ag.Made.known .nil) fun n hp=>by
 have hp:=Ao.1 hp
 refine ⟨0,Ag.Of.out [.i n],[],?_,Afv⟩
 rw [Ag.Of.ev,Aw]
 show _=some (DV.agg [.bool (A2 n),.ints .arg .u32 (Ah n)])
 by_cases h:n<0
 ·obtain ⟨k,rfl⟩:∃ k:Nat,n=-(k:Int):=⟨(-n).toNat,by omega⟩
  have e1:Bj (Bj (Ad (0-Ad (-(k:Int)+1)))+1)=(k:Int):=by
   rw [Ar (x:=-(k:Int)+1) (by omega) (by omega),Ar (by omega) (by omega),Dd (x:=0-(-(k:Int)+1)) (by omega) (by omega),Dd (by omega) (by omega)]; omega
  rw [A78 h,A77,e1,Ajl,Kc,Kd,J9 (by omega) (by omega),Dd (by omega) (by omega),J9 (by omega) (by omega),
   Ad9 (by omega) (by omega),A77]
  have e2:wv true [((k%4294967296:Nat):Int),((k / 4294967296:Nat):Int)]=-(k:Int):=by
   unfold wv Ik Ce Ce Ce
   rw [A8u rfl,A79,A79]
   omega
  rw [e2]
 ·obtain ⟨k,rfl⟩:∃ k:Nat,n=(k:Int):=⟨n.toNat,by omega⟩
  rw [A8c h,A8b,Ajl,Kc,Kd,J9 (by omega) (by omega),Ar (by omega) (by omega),J9 (by omega) (by omega),
   Ad9 (by omega) (by omega),A77]
  have e2:wv false [((k%4294967296:Nat):Int),((k / 4294967296:Nat):Int)]=(k:Int):=by
   unfold wv Ik Ce Ce Ce
   rw [A8t (by decide),A79,A79]
   omega
  rw [e2]
theorem Ag.Neg.known:Ag.Neg.Kn:=Ag.Neg.Ae (.cons Ag.Made.known .nil) fun n a hp=>by
 obtain ⟨v,rfl,rfl,hv⟩:=Km hp
 refine ⟨0,Ag.Neg.out [.b (A2 v),.l (Ah v)],[],?_,Afv⟩
 rw [Ag.Neg.ev,Q1 (by omega),A77,A0q]
 rfl
open Go Go.Den Go.Cv Go.Proofs
open EqRefA
theorem Aqo (N:Nat) {a b:List Int} (ha:Iy a=true) (hb:Iy b=true):∀ (j F:Nat),j<4000000000→j<F→Ce a / 2^(32*j)=Ce b / 2^(32*j) →
 Ag.Is.L0 N F a b ((j:Int)-1)=some (.int .i64 (Y0 (Ce a) (Ce b))):=by
 have ia:=(Lx ha).2
 have ib:=(Lx hb).2
 intro j
 induction j with
 | zero =>
   intro F hj hF h
   obtain ⟨F,rfl⟩:∃ G,F=G+1:=⟨F-1,by omega⟩
   rw [Nat.mul_zero,A85,Nat.div_one,Nat.div_one] at h
   have e:Y0 (Ce a) (Ce b)=0:=by unfold Y0; rw [A8t (by omega),A8t (by omega)]
   rw [Ag.Is.A1,Fe,e]
   rfl
 | succ j ih =>
   intro F hj hF h
   obtain ⟨F,rfl⟩:∃ G,F=G+1:=⟨F-1,by omega⟩
   have e0:((j+1:Nat):Int)-1=(j:Int):=by omega
   have t0:decide ((0:Int)≤(j:Int))=true:=A78 (by omega)
   rw [N8,A8v,← A80,← A80] at h
   have up:Ce a / 2^(32*j)<Ce b / 2^(32*j)→Ce a<Ce b:=fun k=>by
    rcases A84 (Ce a) (Ce b) with h1 | h1
    ·exact h1
    ·have:=Nat.div_le_div_right (c:=2^(32*j)) h1; omega
   have down:Ce b / 2^(32*j)<Ce a / 2^(32*j)→Ce b<Ce a:=fun k=>by
    rcases A84 (Ce b) (Ce a) with h1 | h1
    ·exact h1
    ·have:=Nat.div_le_div_right (c:=2^(32*j)) h1; omega
   rw [Ag.Is.A1,e0,Fe,t0,A77,ha,hb,A77,A77,Aw,Aw,Ih ia,Ih ib,Ar (by omega) (by omega)]
   have ih:=ih F (by omega) (by omega)
   generalize Ce a / 2^(32*j)=x at *
   generalize Ce b / 2^(32*j)=y at *
   by_cases h1:x%4294967296<y%4294967296
   ·have e:Y0 (Ce a) (Ce b)=-1:=by unfold Y0; rw [A8u (up (by omega))]
    rw [A78 (by omega),A77,e]
   ·rw [A8c (by omega),A8b]
    by_cases h2:y%4294967296<x%4294967296
    ·have:=down (by omega)
     have e:Y0 (Ce a) (Ce b)=1:=by unfold Y0; rw [A8t (by omega),A8u this]
     rw [A78 (by omega),A77,e]
     rfl
    ·rw [A8c (by omega),A8b]
     exact ih (by omega)
theorem Aov {l:List Int} (h:Xf l) {j:Nat} (hj:l.length≤j):Ce l / 2^(32*j)=0 :=
 Nat.div_eq_of_lt (A9i (Lr h) (A8m (by decide) (by omega)))
theorem Ag.Is.known:Ag.Is.Kn:=Ag.Is.Ae (.cons Ag.Jv.known .nil) fun a b hp=>by
 obtain ⟨ha,hb⟩:=Af.1 hp
 obtain ⟨la,ia⟩:=Lx ha
 obtain ⟨lb,ib⟩:=Lx hb
 refine ⟨max a.length b.length+2,Ag.Is.out [.l a,.l b],[],?_,.int⟩
 rw [Ag.Is.ev]
 have e:max (a.length:Int) (b.length:Int)=((max a.length b.length+1:Nat):Int)-1:=by omega
 rw [e]
 exact Aqo _ ha hb _ _ (by omega) (by omega) (by rw [Aov ia (by omega),Aov ib (by omega)])
theorem Aeu (N:Nat) {a b:List Int} (ha:Iy a=true) (hb:Iy b=true):∀ (k i c F:Nat),i+k=max a.length b.length+1→k<F→c≤1 →
 Ce a / 2^(32*i)+Ce b / 2^(32*i)+c=(Ce a+Ce b) / 2^(32*i) →
 Ag.plus.L0 N F a b (c:Int) (i:Int) (digits i (Ce a+Ce b))=some (.ints (.own 100005 tW) .u32 (K5 a b)):=by
 obtain ⟨la,ia⟩:=Lx ha
 obtain ⟨lb,ib⟩:=Lx hb
 intro k
 induction k with
 | zero =>
   intro i c F hi hF hc h
   obtain ⟨F,rfl⟩:∃ G,F=G+1:=⟨F-1,by omega⟩
   have t0:decide ((i:Int)≤max (a.length:Int) (b.length:Int))=false:=A8c (by omega)
   rw [Ag.plus.A1,Fe,t0,A8b]
   unfold K5
   rw [show i=max a.length b.length+1 by omega]
 | succ k ih =>
   intro i c F hi hF hc h
   obtain ⟨F,rfl⟩:∃ G,F=G+1:=⟨F-1,by omega⟩
   have t0:decide ((i:Int)≤max (a.length:Int) (b.length:Int))=true:=A78 (by omega)
   have t1:decide ((digits i (Ce a+Ce b)).length+1≤Im)=true:=A78 (by rw [En]; unfold Im; omega)
   rw [Ag.plus.A1,Fe,t0,ha,hb,t1]
   simp only [A77]
   rw [Ih ia,Ih ib]
   have ih:=ih (i+1)
   rw [N8,A8v 4294967296,← A80,← A80,← A80,Lf] at ih
   generalize Ce a / 2^(32*i)=x at *
   generalize Ce b / 2^(32*i)=y at *
   generalize (Ce a+Ce b) / 2^(32*i)=z at *
   have e1:Bj (Bj (((x%4294967296:Nat):Int)+((y%4294967296:Nat):Int))+(c:Int))=((x%4294967296+y%4294967296+c:Nat):Int):=by
    rw [Dd (x:=((x%4294967296:Nat):Int)+((y%4294967296:Nat):Int)) (by omega) (by omega),Dd (by omega) (by omega)]; omega
   rw [e1,Ajl,Kc,Kd,J9 (by omega) (by omega),Dd (by omega) (by omega),Ar (by omega) (by omega)]
   have e2:(x%4294967296+y%4294967296+c)%4294967296=z%4294967296:=by omega
   rw [e2]
   exact ih ((x%4294967296+y%4294967296+c) / 4294967296) F (by omega) (by omega) (by omega) (by omega)
theorem Agr {i:Nat} {e:TypeId} {k:IntKind} {l:List Int}:Wk [i] (.ints (.own i e) k l) (.ints .arg k l):=.dropA i e k l (List.mem_singleton.2 rfl)
theorem Ag.plus.known:Ag.plus.Kn:=Ag.plus.Ae (.cons Ag.Jv.known .nil) fun a b hp=>by
 obtain ⟨ha,hb⟩:=Af.1 hp
 refine ⟨max a.length b.length+2,.ints (.own 100005 tW) .u32 (K5 a b),[100005],?_,Agr⟩
 rw [Ag.plus.ev]
 exact Aeu _ ha hb (max a.length b.length+1) 0 0 _ (by omega) (by omega) (by omega) (by simp)
theorem Al2 (N:Nat) {a b:List Int} (ha:Iy a=true) (hb:Iy b=true):∀ (k i w F:Nat),i+k=a.length→k<F→w≤1 →
 Ce a / 2^(32*i)=Ce b / 2^(32*i)+(Ce a-Ce b) / 2^(32*i)+w →
 Ag.minus.L0 N F a b (w:Int) (i:Int) (digits i (Ce a-Ce b))=some (.ints (.own 100005 tW) .u32 (Jg a b)):=by
 obtain ⟨la,ia⟩:=Lx ha
 obtain ⟨lb,ib⟩:=Lx hb
 intro k
 induction k with
 | zero =>
   intro i c F hi hF hc h
   obtain ⟨F,rfl⟩:∃ G,F=G+1:=⟨F-1,by omega⟩
   have t0:decide ((i:Int)<(a.length:Int))=false:=A8c (by omega)
   rw [Ag.minus.A1,Aw,t0,A8b]
   unfold Jg
   rw [show i=a.length by omega]
 | succ k ih =>
   intro i w F hi hF hc h
   obtain ⟨F,rfl⟩:∃ G,F=G+1:=⟨F-1,by omega⟩
   have t0:decide ((i:Int)<(a.length:Int))=true:=A78 (by omega)
   have t1:decide ((digits i (Ce a-Ce b)).length+1≤Im)=true:=A78 (by rw [En]; unfold Im; omega)
   rw [Ag.minus.A1,Aw,t0,ha,hb,t1]
   simp only [A77]
   rw [Ih ia,Ih ib]
   have ih:=ih (i+1)
   rw [N8,A8v 4294967296,← A80,← A80,← A80,Lf] at ih
   generalize Ce a / 2^(32*i)=x at *
   generalize Ce b / 2^(32*i)=y at *
   generalize (Ce a-Ce b) / 2^(32*i)=z at *
   have e1:Bj (Bj (Bj ((4294967296:Int)+((x%4294967296:Nat):Int))-((y%4294967296:Nat):Int))-(w:Int))=((4294967296+x%4294967296-y%4294967296-w:Nat):Int):=by
    rw [Dd (x:=(4294967296:Int)+((x%4294967296:Nat):Int)) (by omega) (by omega),Dd (x:=(4294967296:Int)+((x%4294967296:Nat):Int)-((y%4294967296:Nat):Int)) (by omega) (by omega),Dd (by omega) (by omega)]; omega
   have e2:(4294967296+x%4294967296-y%4294967296-w)%4294967296=z%4294967296:=by omega
   have e3:Bj ((1:Int)-(((4294967296+x%4294967296-y%4294967296-w) / 4294967296:Nat):Int))=((1-(4294967296+x%4294967296-y%4294967296-w) / 4294967296:Nat):Int):=by
    rw [Dd (by omega) (by omega)]; omega
   rw [e1,Ajl,Kc,Kd,J9 (by omega) (by omega),Dd (x:=(((4294967296+x%4294967296-y%4294967296-w) / 4294967296:Nat):Int)) (by omega) (by omega),Ar (by omega) (by omega),e2,e3]
   exact ih (1-(4294967296+x%4294967296-y%4294967296-w) / 4294967296) F (by omega) (by omega) (by omega) (by omega)
theorem Ag.minus.known:Ag.minus.Kn:=Ag.minus.Ae (.cons Ag.Jv.known .nil) fun a b hp=>by
 obtain ⟨h1,hle⟩:=Af.1 hp
 obtain ⟨ha,hb⟩:=Af.1 h1
 have hle:=Ao.1 hle
 refine ⟨a.length+1,.ints (.own 100005 tW) .u32 (Jg a b),[100005],?_,Agr⟩
 rw [Ag.minus.ev]
 exact Al2 _ ha hb a.length 0 0 _ (by omega) (by omega) (by omega) (by simp; omega)
theorem G4 (v:Int):Xf (Ah v):=Ajm _
theorem Ar5 {v w:Int} (h:A2 v=A2 w):wv (A2 v) (K5 (Ah v) (Ah w))=v+w:=by
 unfold wv
 rw [Aev (G4 _) (G4 _),Ef,Ef]
 unfold A2 at h ⊢
 unfold Ik
 rw [decide_eq_decide] at h
 by_cases hv:v<0
 ·have hw:=h.1 hv
  rw [A78 hv,A8u rfl]; omega
 ·have hw:¬ w<0:=fun k=>hv (h.2 k)
  rw [A8c hv,A8t (by decide)]; omega
theorem Anb {v w:Int} (h:A2 v≠A2 w) (hl:w.natAbs≤v.natAbs):wv (A2 v) (Jg (Ah v) (Ah w))=v+w:=by
 unfold wv
 rw [Al4 _ (G4 _),Ef,Ef]
 unfold A2 at h ⊢
 unfold Ik
 rw [ne_eq,decide_eq_decide] at h
 by_cases hv:v<0
 ·have hw:¬ w<0:=fun k=>h ⟨fun _=>k,fun _=>hv⟩
  rw [A78 hv,A8u rfl]; omega
 ·have hw:w<0:=by
   rcases Int.lt_or_le w 0 with k | k
   ·exact k
   ·exact absurd ⟨fun k'=>absurd k' hv,fun k'=>by omega⟩ h
  rw [A8c hv,A8t (by decide)]; omega
theorem Ag.Add.known:Ag.Add.Kn:=Ag.Add.Ae (.cons Ag.Made.known (.cons Ag.Is.known (.cons Ag.minus.known (.cons Ag.plus.known .nil)))) fun n a m b hp=>by
 obtain ⟨h1,h2⟩:=Af.1 hp
 obtain ⟨v,rfl,rfl,hv⟩:=Km h1
 obtain ⟨w,rfl,rfl,hw⟩:=Km h2
 refine ⟨0,Ag.Add.out [.b (A2 v),.l (Ah v),.b (A2 w),.l (Ah w)],[],?_,Afv⟩
 have o1:Iy (Ah v)=true:=Q1 (by omega)
 have o2:Iy (Ah w)=true:=Q1 (by omega)
 rw [Ag.Add.ev,o1,o2,A8d,A77]
 show _=some (DV.agg [.bool (A2 (wv (A2 v) (Ah v)+wv (A2 w) (Ah w))),.ints .arg .u32 (Ah (wv (A2 v) (Ah v)+wv (A2 w) (Ah w)))])
 rw [Ft,Ft]
 by_cases hs:A2 v=A2 w
 ·have:(A2 v==A2 w)=true:=by simp [hs]
  have o3:Iy (K5 (Ah v) (Ah w))=true:=Lw (by rw [Rl,Cm,Cm]; omega) (Ab2 _ _)
  rw [this,A77,o3,A77,Ar5 hs]
 ·have:(A2 v==A2 w)=false:=by simp [hs]
  rw [this,A8b,A77,Aw,Ef,Ef,A9k,A9k]
  by_cases hl:v.natAbs<w.natAbs
  ·have e:decide (Y0 v.natAbs w.natAbs<0)=true:=A78 (by unfold Y0; rw [A8u hl]; decide)
   have o3:Iy (Jg (Ah w) (Ah v))=true:=Lw (by rw [U7,Cm]; omega) (Ae4 _ _)
   have o4:leL (Ah v) (Ah w)=true:=Ao.2 (by rw [Ef,Ef]; omega)
   rw [e,A77,o4,A77,o3,A77,Anb (fun k=>hs k.symm) (by omega),Int.add_comm]
  ·have e:decide (Y0 v.natAbs w.natAbs<0)=false:=A8c (by unfold Y0; rw [A8t hl]; split<;>decide)
   have o3:Iy (Jg (Ah v) (Ah w))=true:=Lw (by rw [U7,Cm]; omega) (Ae4 _ _)
   have o4:leL (Ah w) (Ah v)=true:=Ao.2 (by rw [Ef,Ef]; omega)
   rw [e,A8b,o4,A77,o3,A77,Anb hs (by omega)]
open Go Go.Den Go.Cv Go.Proofs
set_option maxRecDepth 100000
namespace EqRefB
def Ag.F9.Bf:List (Nat × Entry):=[(171,Ag.Made.spec),(174,Ag.plus.spec)]
def Ag.F9.E:Env:=Bk (Be Ag.F9.Bf) (fun _=>false) (fun _=>none) (fun _=>none)
theorem Ag.F9.ev (N:Nat) (n:Bool) (a:List Int):B6 Ag.F9.E N f222 (As f222) [.agg [.bool n,.ints .arg .u32 a]]=bif (Iy a&&Iy a) then bif (Iy (K5 a a)) then some (.agg [.bool (A2 (wv n (K5 a a))),.ints .arg .u32 (Ah (wv n (K5 a a)))]) else none else none :=
 Eq.trans (by kernel_rfl)
 (C5 (Cn _) (C5 (Cn _) rfl rfl) rfl)
abbrev _root_.Go.Proofs.S1.Ag.F9.Kn:=A9 prog 222 Ag.F9.spec
theorem Ag.F9.Ae (hk:A3 prog Ag.F9.Bf) (h:Hyp Ag.F9.E f222 Ag.F9.ts Ag.F9.pre Ag.F9.out):Ag.F9.Kn :=
 Am (A5 hk _ _ _) func222 (by kernel_rfl) (by kernel_rfl) h
def Ag.H7.hint:Nat→Option Bh
 | 0=>some { keep:=[1,2,3,4],objs:=[(0,3,100003,.ints 173 .u32 [])],boxes:=[1,2] }
 | _=>none
def Ag.H7.Bf:List (Nat × Entry):=[(171,Ag.Made.spec),(221,Ag.Jv.spec)]
def Ag.H7.E:Env:=Bk (Be Ag.H7.Bf) (fun _=>false) Ag.H7.hint (fun _=>none)
section
variable (N M:Nat) (n:Bool) (a:List Int) (p4:Int) (p3:List Int)
def Ag.H7.L0:Option DV:=Cd Ag.H7.E N f173 (As f173) [1,1,0,1,0] [] M ⟨Il 37 [(1,.ptr 1 0 0),(2,.ptr 2 0 0),(3,.oref 100003),(4,.int .i64 p4)],[(1,false,.box [.bool n,.ints .arg .u32 a]),(2,false,.box [.bool false,.nil]),(100003,false,.ints 173 .u32 p3)]⟩
theorem Ag.H7.A1:Ag.H7.L0 N (M+1) n a p4 p3=bif (Bc p4 (length a:Int)) then bif (Iy a) then bif (Iy a) then bif ((decide (0≤p4))&&(decide (p4<(length p3:Int)))) then bif (decide ((toNat p4)<(length p3))) then Ag.H7.L0 N M n a (Ad (p4+1)) (List.set p3 (toNat p4) (Ka (Bj (Int.tdiv (Bj ((Bj ((Int.tmod (Hx a (Ad (p4+1))) 2)*4294967296))+(Hx a p4))) 2)))) else none else none else none else none else bif (Iy p3) then some (.agg [.bool (A2 (wv n p3)),.ints .arg .u32 (Ah (wv n p3))]) else none :=
 Eq.trans (by kernel_rfl)
 (Fg (C5 (Cn _) (C5 (Cn _) (C5 (Rg _ _) (C5 (Cn _) rfl rfl) rfl) rfl) rfl) rfl)
theorem Ag.H7.ev:B6 Ag.H7.E N f173 (As f173) [.agg [.bool n,.ints .arg .u32 a]]=bif (((decide ((0:Int)≤(length a:Int)))&&(decide ((length a:Int)≤(length a:Int))))&&(decide ((length a:Int)≤Im))) then Ag.H7.L0 N N n a 0 (List.replicate (toNat (length a:Int)) 0) else none:=by kernel_rfl
end
abbrev _root_.Go.Proofs.S1.Ag.H7.Kn:=A9 prog 173 Ag.H7.spec
theorem Ag.H7.Ae (hk:A3 prog Ag.H7.Bf) (h:Hyp Ag.H7.E f173 Ag.H7.ts Ag.H7.pre Ag.H7.out):Ag.H7.Kn :=
 Am (A5 hk _ _ _) func173 (by kernel_rfl) (by kernel_rfl) h
def Ag.B9.hint:Nat→Option Bh
 | 0=>some { keep:=[1,2,4],objs:=[],boxes:=[2,4] }
 | 2=>some { keep:=[1,2,4],objs:=[],boxes:=[2,4] }
 | 4=>some { keep:=[1,2,4],objs:=[],boxes:=[2,4] }
 | 6=>some { keep:=[1,2,4],objs:=[],boxes:=[2,4] }
 | _=>none
def Ag.B9.Bf:List (Nat × Entry):=[(222,Ag.F9.spec),(173,Ag.H7.spec),(171,Ag.Made.spec)]
def Ag.B9.E:Env:=Bk (Be Ag.B9.Bf) (fun _=>false) Ag.B9.hint (fun _=>none)
section
variable (N:Nat) (n:Bool) (a:List Int) (k:Int) (M:Nat) (p1_3:Int) (p2_6:Bool) (p2_7:List Int) (p1_2:Int) (p2_4:Bool) (p2_5:List Int) (p1_1:Int) (p2_2:Bool) (p2_3:List Int) (p1:Int) (p2:Bool) (p2_1:List Int)
def Ag.B9.L0:Option DV:=Cd Ag.B9.E N f178 (As f178) [1,0,0] [] M ⟨Il 63 [(1,.int .i64 p1),(2,.ptr 2 0 0),(4,.ptr 4 0 0)],[(2,false,.box [.bool p2,.ints .arg .u32 p2_1]),(4,false,.box [.bool false,.nil])]⟩
def Ag.B9.L1:Option DV:=Cd Ag.B9.E N f178 (As f178) [1,1,0,0] [] M ⟨Il 63 [(1,.int .i64 p1_1),(2,.ptr 2 0 0),(4,.ptr 4 0 0)],[(2,false,.box [.bool p2_2,.ints .arg .u32 p2_3]),(4,false,.box [.bool false,.nil])]⟩
def Ag.B9.L2:Option DV:=Cd Ag.B9.E N f178 (As f178) [1,1,1,0,0] [] M ⟨Il 63 [(1,.int .i64 p1_2),(2,.ptr 2 0 0),(4,.ptr 4 0 0)],[(2,false,.box [.bool p2_4,.ints .arg .u32 p2_5]),(4,false,.box [.bool false,.nil])]⟩
def Ag.B9.L3:Option DV:=Cd Ag.B9.E N f178 (As f178) [1,1,1,1,0,0] [] M ⟨Il 63 [(1,.int .i64 p1_3),(2,.ptr 2 0 0),(4,.ptr 4 0 0)],[(2,false,.box [.bool p2_6,.ints .arg .u32 p2_7]),(4,false,.box [.bool false,.nil])]⟩
theorem Ag.B9.A1:Ag.B9.L0 N (M+1) p1 p2 p2_1=bif ((E8 32 p1)&&(Bc 0 (length p2_1:Int))) then bif (decide (1+(length p2_1)≤Im)) then bif (Iy ([(0:Int)]++p2_1)) then Ag.B9.L0 N M (Ad (p1-32)) (A2 (wv p2 ([(0:Int)]++p2_1))) (Ah (wv p2 ([(0:Int)]++p2_1))) else none else none else Ag.B9.L1 N N p1 p2 p2_1 :=
 Eq.trans (by kernel_rfl)
 (Ay (Sy (E8 32 p1)) (Ay (O4 (E8 32 p1)) (Ay (O4 (E8 32 p1)) (Ay (O4 (E8 32 p1)) (Ay (Zb (E8 32 p1)) (C5 (tt1 _ _) (C5 (Cn _) (C5 (Cn _) rfl rfl) rfl) rfl))))))
theorem Ag.B9.Cy:Ag.B9.L1 N (M+1) p1_1 p2_2 p2_3=bif ((Bc 0 p1_1)&&(Bc 0 (length p2_3:Int))) then bif (Ll p2_2 p2_3) then Ag.B9.L1 N M (Ad (p1_1-1)) (A2 (2*wv p2_2 p2_3)) (Ah (2*wv p2_2 p2_3)) else none else Ag.B9.L2 N N p1_1 p2_2 p2_3 :=
 Eq.trans (by kernel_rfl)
 (Ay (Sy (Bc 0 p1_1)) (Ay (O4 (Bc 0 p1_1)) (Ay (O4 (Bc 0 p1_1)) (Ay (O4 (Bc 0 p1_1)) (Ay (Zb (Bc 0 p1_1)) (C5 (tt1 _ _) rfl rfl))))))
theorem Ag.B9.Kp:Ag.B9.L2 N (M+1) p1_2 p2_4 p2_5=bif ((E8 p1_2 (-32:Int))&&(Bc 0 (length p2_5:Int))) then bif (decide ((1:Int)≤(length p2_5:Int))) then bif (Iy (List.drop 1 p2_5)) then Ag.B9.L2 N M (Ad (p1_2+32)) (A2 (wv p2_4 (List.drop 1 p2_5))) (Ah (wv p2_4 (List.drop 1 p2_5))) else none else none else Ag.B9.L3 N N p1_2 p2_4 p2_5 :=
 Eq.trans (by kernel_rfl)
 (Ay (Sy (E8 p1_2 (-32:Int))) (Ay (O4 (E8 p1_2 (-32:Int))) (Ay (O4 (E8 p1_2 (-32:Int))) (Ay (O4 (E8 p1_2 (-32:Int))) (Ay (Zb (E8 p1_2 (-32:Int))) (C5 (tt1 _ _) (C5 (A3v _) (C5 (Cn _) rfl rfl) rfl) rfl))))))
theorem Ag.B9.X5:Ag.B9.L3 N (M+1) p1_3 p2_6 p2_7=bif ((Bc p1_3 0)&&(Bc 0 (length p2_7:Int))) then bif (Ll p2_6 p2_7) then Ag.B9.L3 N M (Ad (p1_3+1)) (A2 (Mn (wv p2_6 p2_7) 1)) (Ah (Mn (wv p2_6 p2_7) 1)) else none else some (.agg [.bool p2_6,.ints .arg .u32 p2_7]) :=
 Eq.trans (by kernel_rfl)
 (Ay (Sy (Bc p1_3 0)) (Ay (O4 (Bc p1_3 0)) (Ay (O4 (Bc p1_3 0)) (Ay (O4 (Bc p1_3 0)) (Ay (Zb (Bc p1_3 0)) (C5 (tt1 _ _) rfl rfl))))))
theorem Ag.B9.ev:B6 Ag.B9.E N f178 (As f178) [.agg [.bool n,.ints .arg .u32 a],.int .i64 k] =
 Ag.B9.L0 N N k n a:=by kernel_rfl
end
abbrev _root_.Go.Proofs.S1.Ag.B9.Kn:=A9 prog 178 Ag.B9.spec
theorem Ag.B9.Ae (hk:A3 prog Ag.B9.Bf) (h:Hyp Ag.B9.E f178 Ag.B9.ts Ag.B9.pre Ag.B9.out):Ag.B9.Kn :=
 Am (A5 hk _ _ _) func178 (by kernel_rfl) (by kernel_rfl) h
def Ag.Sk.hint:Nat→Option Bh
 | 0=>some { keep:=[3,4],objs:=[],boxes:=[] }
 | _=>none
def Ag.Sk.Bf:List (Nat × Entry):=[]
def Ag.Sk.E:Env:=Bk (Be Ag.Sk.Bf) (fun _=>false) Ag.Sk.hint (fun _=>none)
def Ag.Sk.L0 (N M:Nat) (p3 p4:Int):Option DV:=Cd Ag.Sk.E N f223 (As f223) [1,1,1,0,1,0] [] M ⟨Il 29 [(3,.int .i64 p3),(4,.int .u32 p4)],[]⟩
theorem Ag.Sk.A1 (N M:Nat) (p3 p4:Int):Ag.Sk.L0 N (M+1) p3 p4=bif (Bc 0 p4) then Ag.Sk.L0 N M (Ad (p3+1)) (Ka (Int.tdiv p4 2)) else some (.int .i64 p3):=by kernel_rfl
theorem Ag.Sk.ev (N:Nat) (n:Bool) (a:List Int):B6 Ag.Sk.E N f223 (As f223) [.agg [.bool n,.ints .arg .u32 a]]=bif ((length a:Int)==(0:Int)) then some (.int .i64 0) else bif ((decide (0≤(Ad ((length a:Int)-1))))&&(decide ((Ad ((length a:Int)-1))<(length a:Int)))) then Ag.Sk.L0 N N (Ad ((32:Int)*(Ad ((length a:Int)-1)))) (getD a (toNat (Ad ((length a:Int)-1))) 0) else none:=by kernel_rfl
abbrev _root_.Go.Proofs.S1.Ag.Sk.Kn:=A9 prog 223 Ag.Sk.spec
theorem Ag.Sk.Ae (hk:A3 prog Ag.Sk.Bf) (h:Hyp Ag.Sk.E f223 Ag.Sk.ts Ag.Sk.pre Ag.Sk.out):Ag.Sk.Kn :=
 Am (A5 hk _ _ _) func223 (by kernel_rfl) (by kernel_rfl) h
def Ag.Y6.Bf:List (Nat × Entry):=[]
def Ag.Y6.E:Env:=Bk (Be Ag.Y6.Bf) (fun _=>false) (fun _=>none) (fun _=>none)
theorem Ag.Y6.ev (N:Nat) (n:Bool) (a:List Int):B6 Ag.Y6.E N f172 (As f172) [.agg [.bool n,.ints .arg .u32 a]]=bif ((!(Bc 0 (length a:Int)))||(decide ((0:Int)<(length a:Int)))) then some (.bool (bif (Bc 0 (length a:Int)) then ((Int.tmod (getD a 0 0) 2)==(1:Int)) else false)) else none :=
 Eq.trans (by kernel_rfl)
 (Ay (Sy (Bc 0 (length a:Int))) (Ay (O4 (Bc 0 (length a:Int))) (C5 (A3u _ _) (Ay (O4 (Bc 0 (length a:Int))) (Ay (O4 (Bc 0 (length a:Int))) (Ay (O4 (Bc 0 (length a:Int))) (Ay (Zb (Bc 0 (length a:Int))) rfl)))) rfl)))
abbrev _root_.Go.Proofs.S1.Ag.Y6.Kn:=A9 prog 172 Ag.Y6.spec
theorem Ag.Y6.Ae (hk:A3 prog Ag.Y6.Bf) (h:Hyp Ag.Y6.E f172 Ag.Y6.ts Ag.Y6.pre Ag.Y6.out):Ag.Y6.Kn :=
 Am (A5 hk _ _ _) func172 (by kernel_rfl) (by kernel_rfl) h
end EqRefB
open Go Go.Den Go.Cv Go.Proofs
open EqRefB
theorem Ag.F9.known:Ag.F9.Kn:=Ag.F9.Ae (.cons Ag.Made.known (.cons Ag.plus.known .nil)) fun n a hp=>by
 obtain ⟨v,rfl,rfl,hv⟩:=Km hp
 refine ⟨0,Ag.F9.out [.b (A2 v),.l (Ah v)],[],?_,Afv⟩
 have o1:Iy (Ah v)=true:=Q1 (by omega)
 have o3:Iy (K5 (Ah v) (Ah v))=true:=Lw (by rw [Rl,Cm]; omega) (Ab2 _ _)
 rw [Ag.F9.ev,o1,o3,A8d,A77,A77,Ar5 rfl]
 show _=some (DV.agg [.bool (A2 (2*wv (A2 v) (Ah v))),.ints .arg .u32 (Ah (2*wv (A2 v) (Ah v)))])
 rw [Ft,Int.two_mul]
theorem A1i (l:List Int) (y x:Int) (r:List Int):∀ i,i=l.length→(l++y::r).set i x=l++x::r:=by
 induction l with
 | nil=>intro i h; subst h; rfl
 | cons z l ih =>
   intro i h
   obtain ⟨j,rfl⟩:∃ j,i=j+1:=⟨i-1,by rw [List.length_cons] at h; omega⟩
   show z::(l++y::r).set j x=z::(l++x::r)
   rw [ih j (by rw [List.length_cons] at h; omega)]
theorem Aq6 (N:Nat) {v:Int} (hv:Du v.natAbs<268435456):∀ (k i F:Nat),i+k=Du v.natAbs→k<F →
 Ag.H7.L0 N F (A2 v) (Ah v) (i:Int) (digits i (v.natAbs / 2)++List.replicate k 0)=some (.agg [.bool (A2 (Mn v 1)),.ints .arg .u32 (Ah (Mn v 1))]):=by
 have o1:Iy (Ah v)=true:=Q1 (by omega)
 have ia:=G4 v
 intro k
 induction k with
 | zero =>
   intro i F hi hF
   obtain ⟨F,rfl⟩:∃ G,F=G+1:=⟨F-1,by omega⟩
   have t0:decide ((i:Int)<((Ah v).length:Int))=false:=A8c (by rw [Cm]; omega)
   rw [List.replicate_zero,List.append_nil,Ag.H7.A1,Aw,t0,A8b]
   have o3:Iy (digits i (v.natAbs / 2))=true:=Lw (by rw [En]; omega) (O1 _ _)
   have e:wv (A2 v) (digits i (v.natAbs / 2))=Mn v 1:=by
    unfold wv Mn
    rw [Kz,A8k,Nat.pow_one]
    have:=L7 v.natAbs
    rw [show i=Du v.natAbs by omega]
    exact A89 (Nat.div_le_self _ _) this
   rw [o3,A77,e]
 | succ k ih =>
   intro i F hi hF
   obtain ⟨F,rfl⟩:∃ G,F=G+1:=⟨F-1,by omega⟩
   have hlen:(digits i (v.natAbs / 2)++List.replicate (k+1) (0:Int)).length=i+(k+1):=by rw [A8z,En,List.length_replicate]
   have t0:decide ((i:Int)<((Ah v).length:Int))=true:=A78 (by rw [Cm]; omega)
   have t1:decide ((0:Int)≤(i:Int))=true:=A78 (by omega)
   have t2:decide ((i:Int)<((digits i (v.natAbs / 2)++List.replicate (k+1) (0:Int)).length:Int))=true:=A78 (by rw [hlen]; omega)
   have t3:decide (i<(digits i (v.natAbs / 2)++List.replicate (k+1) (0:Int)).length)=true:=A78 (by rw [hlen]; omega)
   have e0:Ad ((i:Int)+1)=((i+1:Nat):Int):=by rw [Ar (by omega) (by omega)]; omega
   rw [Ag.H7.A1,Aw,t0,o1,A79,t1,t2,t3,A8d]
   simp only [A77]
   rw [e0,Ih ia,Ih ia,Ef]
   have ih:=ih (i+1) F (by omega) (by omega)
   rw [Lf,A80,A8v 2,← A80] at ih
   rw [N8,A8v 4294967296,← A80,List.replicate_succ,A1i _ _ _ _ i (En _ _).symm]
   rw [List.append_assoc] at ih
   generalize v.natAbs / 2^(32*i)=x at *
   have e1:Int.tmod ((x / 4294967296%4294967296:Nat):Int) 2=((x / 4294967296%4294967296%2:Nat):Int):=Kc _ 2
   have e2:Bj (Bj (((x / 4294967296%4294967296%2:Nat):Int)*4294967296)+((x%4294967296:Nat):Int))=((x / 4294967296%4294967296%2*4294967296+x%4294967296:Nat):Int):=by
    rw [Dd (x:=((x / 4294967296%4294967296%2:Nat):Int)*4294967296) (by omega) (by omega),Dd (by omega) (by omega)]; omega
   have e3:Int.tdiv ((x / 4294967296%4294967296%2*4294967296+x%4294967296:Nat):Int) 2=(((x / 4294967296%4294967296%2*4294967296+x%4294967296) / 2:Nat):Int):=Kd _ 2
   have e4:(x / 4294967296%4294967296%2*4294967296+x%4294967296) / 2=x / 2%4294967296:=by omega
   rw [e1,e2,e3,e4,Dd (by omega) (by omega),J9 (by omega) (by omega)]
   exact ih
theorem Ag.H7.known:Ag.H7.Kn:=Ag.H7.Ae (.cons Ag.Made.known (.cons Ag.Jv.known .nil)) fun n a hp=>by
 obtain ⟨v,rfl,rfl,hv⟩:=Km hp
 refine ⟨Du v.natAbs+1,Ag.H7.out [.b (A2 v),.l (Ah v)],[],?_,Afv⟩
 show _=some (DV.agg [.bool (A2 (Mn (wv (A2 v) (Ah v)) 1)),.ints .arg .u32 (Ah (Mn (wv (A2 v) (Ah v)) 1))])
 rw [Ag.H7.ev,Ft,Cm,A78 (by omega),A78 (by omega),A78 (by unfold Im; omega),A8d,A8d,A77,A79]
 have h:=Aq6 (Du v.natAbs+1) hv (Du v.natAbs) 0 (Du v.natAbs+1) (by omega) (by omega)
 rw [digits,List.nil_append] at h
 exact h
def Akq (v:Int):Option DV:=some (.agg [.bool (A2 v),.ints .arg .u32 (Ah v)])
theorem Xc (v:Int):Bc (0:Int) ((Ah v).length:Int)=decide (v≠0):=by
 rw [Aw,Cm,decide_eq_decide]
 constructor
 ·intro h e
  rw [e] at h
  exact absurd h (by decide)
 ·intro h
  have:=Kh (n:=v.natAbs) (by omega)
  omega
theorem A1c (N:Nat):∀ (j F:Nat) (v:Int),j<F→j<2000000→Du v.natAbs<268435456→Ag.B9.L3 N F (-(j:Int)) (A2 v) (Ah v)=Akq (Mn v j):=by
 intro j
 induction j with
 | zero =>
   intro F v hF _ hv
   obtain ⟨F,rfl⟩:∃ G,F=G+1:=⟨F-1,by omega⟩
   rw [Ag.B9.X5,Aw,A8c (by omega),Bool.false_and,A8b,Aip]
   rfl
 | succ j ih =>
   intro F v hF hj hv
   obtain ⟨F,rfl⟩:∃ G,F=G+1:=⟨F-1,by omega⟩
   rw [Ag.B9.X5,Aw,A78 (by omega),A9k,Xc]
   by_cases h0:v=0
   ·rw [A8c (by omega),A8b,h0,T6]
    rfl
   ·rw [A78 h0,A77,Ix hv,A77,Ft,Ar (by omega) (by omega)]
    have e:-((j+1:Nat):Int)+1=-(j:Int):=by omega
    have hl:Du (Mn v 1).natAbs<268435456:=by
     rw [Od]
     exact A89 (Oz (Nat.div_le_self _ _)) hv
    rw [e,ih F (Mn v 1) (by omega) (by omega) hl,Agi,Nat.add_comm]
theorem Ana (v:Int):wv (A2 v) ((Ah v).drop 1)=Mn v 32:=by
 unfold wv Mn
 rw [Apa (G4 v),Ef,two32]
theorem A1d (N:Nat):∀ (F j:Nat) (v:Int),j<F→j<N→j<2000000→Du v.natAbs<268435456→Ag.B9.L2 N F (-(j:Int)) (A2 v) (Ah v)=Akq (Mn v j):=by
 intro F
 induction F with
 | zero=>intro j v h; omega
 | succ F ih =>
   intro j v hF hN hj hv
   rw [Ag.B9.Kp,Fe,Xc]
   by_cases hc:32≤j∧v≠0
   ·have o3:Iy ((Ah v).drop 1)=true:=Lw (by rw [List.length_drop,Cm]; omega) (Ajx (G4 v))
    have t1:decide ((1:Int)≤((Ah v).length:Int))=true:=A78 (by
     rw [Cm]
     have:=Kh (n:=v.natAbs) (by omega)
     omega)
    have hl:Du (Mn v 32).natAbs<268435456:=by
     rw [Od]
     exact A89 (Oz (Nat.div_le_self _ _)) hv
    rw [A78 (by omega),A78 hc.2,A8d,A77,t1,A77,o3,A77,Ana,Ar (by omega) (by omega)]
    have e:-(j:Int)+32=-((j-32:Nat):Int):=by omega
    rw [e,ih (j-32) (Mn v 32) (by omega) (by omega) (by omega) hl,Agi]
    congr 2
    omega
   ·have:(decide (-(j:Int)≤-32)&&decide (v≠0))=false:=by
     rw [Bool.and_eq_false_iff,A8q,A8q]
     omega
    rw [this,A8b]
    exact A1c N j N v hN hj hv
theorem Zf (N F:Nat) {k:Int} (hk:0≤k) (hN:0<N) (v:Int):Ag.B9.L2 N (F+1) k (A2 v) (Ah v)=Akq v:=by
 obtain ⟨M,rfl⟩:∃ M,N=M+1:=⟨N-1,by omega⟩
 rw [Ag.B9.Kp,Fe,A8c (by omega),Bool.false_and,A8b,Ag.B9.X5,Aw,A8c (by omega),Bool.false_and,A8b]
 rfl
theorem A1e (N:Nat) (hN:0<N):∀ (j F:Nat) (v:Int),j<F→j<2000000→Du v.natAbs+j<268435456→Ag.B9.L1 N F (j:Int) (A2 v) (Ah v)=Akq (v*((2^j:Nat):Int)):=by
 obtain ⟨M,rfl⟩:∃ M,N=M+1:=⟨N-1,by omega⟩
 intro j
 induction j with
 | zero =>
   intro F v hF _ hv
   obtain ⟨F,rfl⟩:∃ G,F=G+1:=⟨F-1,by omega⟩
   rw [Ag.B9.Cy,Aw,A8c (by omega),Bool.false_and,A8b,Zf _ _ (by omega) (by omega),A85]
   congr 1
   omega
 | succ j ih =>
   intro F v hF hj hv
   obtain ⟨F,rfl⟩:∃ G,F=G+1:=⟨F-1,by omega⟩
   rw [Ag.B9.Cy,Aw,A78 (by omega),A9k,Xc]
   by_cases h0:v=0
   ·rw [A8c (by omega),A8b,h0,Int.zero_mul,Zf _ _ (by omega) (by omega)]
   ·have hl:=Au2 v.natAbs
    have e2:(2*v).natAbs=2*v.natAbs:=by omega
    have e:((j+1:Nat):Int)-1=(j:Int):=by omega
    rw [A78 h0,A77,Ix (by omega),A77,Ft,Ar (by omega) (by omega),e,ih F (2*v) (by omega) (by omega) (by rw [e2]; omega)]
    congr 1
    rw [Nat.pow_succ,A8s,Int.mul_comm 2 v,Int.mul_assoc,Int.mul_comm ((2^j:Nat):Int)]
    rfl
theorem A23 (v:Int):wv (A2 v) ([(0:Int)]++Ah v)=v*((2^32:Nat):Int):=by
 have e:Ce ([(0:Int)]++Ah v)=4294967296*v.natAbs:=by
  show Ce (0::Ah v)=_
  rw [Ce,Ef]
  exact A9h _
 unfold wv
 rw [e,two32]
 by_cases h:v<0
 ·rw [T8 h]; omega
 ·rw [T7 h]; omega
theorem A1f (N:Nat):∀ (F j:Nat) (v:Int),j<F→j<N→j<2000000→Du v.natAbs+j<268435456→Ag.B9.L0 N F (j:Int) (A2 v) (Ah v)=Akq (v*((2^j:Nat):Int)):=by
 intro F
 induction F with
 | zero=>intro j v h; omega
 | succ F ih =>
   intro j v hF hN hj hv
   rw [Ag.B9.A1,Fe,Xc]
   by_cases hc:32≤j∧v≠0
   ·have o3:Iy ([(0:Int)]++Ah v)=true:=Lw (by rw [A8z,Cm]; show 1+_<_; omega) (Ajw (G4 v))
    have t1:decide (1+(Ah v).length≤Im)=true:=A78 (by rw [Cm]; unfold Im; omega)
    have e2:(v*((2^32:Nat):Int)).natAbs=v.natAbs*4294967296:=by rw [Int.natAbs_mul,Int.natAbs_natCast,two32]
    have hl:=Ayy v.natAbs
    rw [A78 (by omega),A78 hc.2,A8d,A77,t1,A77,o3,A77,A23,Ar (by omega) (by omega)]
    have e:(j:Int)-32=((j-32:Nat):Int):=by omega
    rw [e,ih (j-32) _ (by omega) (by omega) (by omega) (by rw [e2]; omega)]
    have e3:2^j=2^32*2^(j-32):=by rw [← A8w]; congr 1; omega
    rw [e3,A8s,Int.mul_assoc]
   ·have:(decide ((32:Int)≤(j:Int))&&decide (v≠0))=false:=by
     rw [Bool.and_eq_false_iff,A8q,A8q]
     omega
    rw [this,A8b]
    exact A1e N (by omega) j N v hN hj hv
theorem Ala (N j:Nat) (v:Int) (hj:0<j) (hN:j<N) (hj2:j<2000000) (hv:Du v.natAbs<268435456):Ag.B9.L0 N N (-(j:Int)) (A2 v) (Ah v)=Akq (Mn v j):=by
 obtain ⟨M,rfl⟩:∃ M,N=M+1:=⟨N-1,by omega⟩
 rw [Ag.B9.A1,Fe,A8c (by omega),Bool.false_and,A8b,Ag.B9.Cy,Aw,A8c (by omega),Bool.false_and,A8b]
 exact A1d _ _ j v hN hN hj2 hv
theorem Ag.B9.known:Ag.B9.Kn:=Ag.B9.Ae (.cons Ag.F9.known (.cons Ag.H7.known (.cons Ag.Made.known .nil))) fun n a k hp=>by
 obtain ⟨h1,h2⟩:=Af.1 hp
 obtain ⟨v,rfl,rfl,hv⟩:=Rq h1
 have h2:=Ao.1 h2
 refine ⟨k.natAbs+1,Ag.B9.out [.b (A2 v),.l (Ah v),.i k],[],?_,Afv⟩
 show _=some (DV.agg [.bool (A2 (Ja (wv (A2 v) (Ah v)) k)),.ints .arg .u32 (Ah (Ja (wv (A2 v) (Ah v)) k))])
 rw [Ag.B9.ev,Ft]
 unfold Ja
 by_cases h:0≤k
 ·obtain ⟨j,rfl⟩:∃ j:Nat,k=j:=⟨k.toNat,by omega⟩
  rw [A8u h,A79,Int.natAbs_natCast]
  exact A1f _ _ j v (by omega) (by omega) (by omega) (by omega)
 ·obtain ⟨j,rfl⟩:∃ j:Nat,k=-(j:Int):=⟨(-k).toNat,by omega⟩
  have e:(-(-(j:Int))).toNat=j:=by omega
  rw [A8t h,e,Int.natAbs_neg,Int.natAbs_natCast]
  exact Ala _ j v (by omega) (by omega) (by omega) (by omega)
open Go Go.Den Go.Cv Go.Proofs
open EqRefB
theorem Aqy {t:Nat} (h:2≤t):(t / 2).log2+1=t.log2:=by
 have:=Ajj (n:=t) (m:=1) (by omega)
 rw [Nat.pow_one] at this
 exact this
theorem Au1 (N:Nat):∀ (F:Nat) (t:Nat) (p:Int),t<2^32→0<t→t.log2+1<F→-1000≤p→p+t.log2<4611686018427387904 →
 Ag.Sk.L0 N F p (t:Int)=some (.int .i64 (p+t.log2+1)):=by
 intro F
 induction F with
 | zero=>intro t p _ _ h; omega
 | succ F ih =>
   intro t p ht h0 hF hp1 hp2
   have e2:Int.tdiv (t:Int) 2=((t / 2:Nat):Int):=Kd t 2
   rw [two32] at ht
   rw [Ag.Sk.A1,Aw,A78 (by omega),A77,e2,J9 (by omega) (by omega),Ar (by omega) (by omega)]
   by_cases h1:t=1
   ·subst h1
    obtain ⟨G,rfl⟩:∃ G,F=G+1:=⟨F-1,by omega⟩
    rw [Ag.Sk.A1,Aw,A8c (by decide),A8b]
    have:(1:Nat).log2=0:=by decide
    rw [this]
    congr 2
    omega
   ·have hl:=Aqy (t:=t) (by omega)
    rw [ih (t / 2) (p+1) (by rw [two32]; omega) (by omega) (by omega) (by omega) (by omega)]
    congr 2
    omega
theorem Ag.Sk.known:Ag.Sk.Kn:=Ag.Sk.Ae .nil fun n a hp=>by
 obtain ⟨v,rfl,rfl,hv⟩:=Km hp
 refine ⟨40,Ag.Sk.out [.b (A2 v),.l (Ah v)],[],?_,.int⟩
 show _=some (DV.int .i64 (Acp (wv (A2 v) (Ah v))))
 rw [Ag.Sk.ev,Ft,Cm]
 unfold Acp
 by_cases h0:v=0
 ·rw [A8u h0,h0]; rfl
 ·have hn:v.natAbs≠0:=by omega
  have hl:=Kh hn
  have e0:((Du v.natAbs:Int)==0)=false:=by simp only [A82,ne_eq]; omega
  have e1:(Du v.natAbs:Int)-1=((Du v.natAbs-1:Nat):Int):=by omega
  have hlen:Du v.natAbs=v.natAbs.log2 / 32+1:=by unfold Du; rw [A8t hn]
  have hge:2^(32*(Du v.natAbs-1))≤v.natAbs:=A9e (A8m (by decide) (by omega)) (Nat.log2_self_le hn)
  have hq:v.natAbs / 2^(32*(Du v.natAbs-1))<2^32:=by
   rw [Nat.div_lt_iff_lt_mul (B5 _),← A8w]
   have:=L7 v.natAbs
   have e:32+32*(Du v.natAbs-1)=32*Du v.natAbs:=by omega
   rw [e]; exact this
  have hlog:=Ajj hge
  have hg:=P8 (G4 v) (Du v.natAbs-1)
  have hq':=hq
  rw [two32] at hq'
  rw [Ef,A8k hq'] at hg
  have hpos:=Nat.div_pos hge (B5 _)
  have h32:(v.natAbs / 2^(32*(Du v.natAbs-1))).log2<32:=(A9n (by omega)).2 hq
  rw [A8t h0,e0,A8b,Ar (by omega) (by omega),e1,A78 (by omega),A78 (by omega),A8d,A77,A79,hg,Ar (by omega) (by omega)]
  rw [Au1 40 40 _ _ hq hpos (by omega) (by omega) (by omega)]
  congr 2
  omega
theorem Ag.Y6.known:Ag.Y6.Kn:=Ag.Y6.Ae .nil fun n a hp=>by
 obtain ⟨v,rfl,rfl,hv⟩:=Km hp
 refine ⟨0,Ag.Y6.out [.b (A2 v),.l (Ah v)],[],?_,.bool⟩
 show _=some (DV.bool (Aqe (wv (A2 v) (Ah v))))
 rw [Ag.Y6.ev,Ft,Xc]
 have hg:=P8 (G4 v) 0
 rw [Ef,Nat.mul_zero,A85,Nat.div_one] at hg
 have e2:Int.tmod ((v.natAbs%4294967296:Nat):Int) 2=((v.natAbs%4294967296%2:Nat):Int):=Kc _ 2
 unfold Aqe
 by_cases h0:v=0
 ·rw [h0]; rfl
 ·have hl:=Kh (n:=v.natAbs) (by omega)
  rw [hg,e2,A78 h0,Cm,A78 (by omega),A9j,A77,A77]
  congr 2
  rw [A8n]
  simp only [beq_iff_eq,A8e]
  omega
open Go Go.Den Go.Cv Go.Proofs
set_option maxRecDepth 100000
namespace EqRefC
def Ai.Of.hint:Nat→Option Bh
 | 0=>some { keep:=[1,2,4],objs:=[],boxes:=[2,4] }
 | 2=>some { keep:=[1,2,4],objs:=[],boxes:=[2,4] }
 | _=>none
def Ai.Of.Bf:List (Nat × Entry):=[(173,Ag.H7.spec),(171,Ag.Made.spec),(172,Ag.Y6.spec)]
def Ai.Of.E:Env:=Bk (Be Ai.Of.Bf) (fun _=>false) Ai.Of.hint (fun _=>none)
section
variable (N:Nat) (n:Bool) (a:List Int) (e:Int) (M:Nat) (p1_1:Int) (p2_2:Bool) (p2_3:List Int) (p1:Int) (p2:Bool) (p2_1:List Int)
def Ai.Of.L0:Option DV:=Cd Ai.Of.E N f109 (As f109) [1,1,0,0] [] M ⟨Il 33 [(1,.int .i64 p1),(2,.ptr 2 0 0),(4,.ptr 4 0 0)],[(2,false,.box [.bool p2,.ints .arg .u32 p2_1]),(4,false,.box [.bool false,.nil,.int .i64 0])]⟩
def Ai.Of.L1:Option DV:=Cd Ai.Of.E N f109 (As f109) [1,1,1,0,0] [] M ⟨Il 33 [(1,.int .i64 p1_1),(2,.ptr 2 0 0),(4,.ptr 4 0 0)],[(2,false,.box [.bool p2_2,.ints .arg .u32 p2_3]),(4,false,.box [.bool false,.nil,.int .i64 0])]⟩
theorem Ai.Of.A1:Ai.Of.L0 N (M+1) p1 p2 p2_1=bif (decide ((0:Int)<(length p2_1:Int))) then bif ((getD p2_1 0 0)==(0:Int)) then bif (decide ((1:Int)≤(length p2_1:Int))) then bif (Iy (List.drop 1 p2_1)) then Ai.Of.L0 N M (Ad (p1+32)) (A2 (wv p2 (List.drop 1 p2_1))) (Ah (wv p2 (List.drop 1 p2_1))) else none else none else Ai.Of.L1 N N p1 p2 p2_1 else none :=
 Eq.trans (by kernel_rfl)
 (Fg (Fg (C5 (A3v _) (C5 (Cn _) rfl rfl) rfl) rfl) rfl)
theorem Ai.Of.Cy:Ai.Of.L1 N (M+1) p1_1 p2_2 p2_3=bif (Ll p2_2 p2_3) then bif (!(Aqe (wv p2_2 p2_3))) then bif (Ll p2_2 p2_3) then Ai.Of.L1 N M (Ad (p1_1+1)) (A2 (Mn (wv p2_2 p2_3) 1)) (Ah (Mn (wv p2_2 p2_3) 1)) else none else some (.agg [.bool p2_2,.ints .arg .u32 p2_3,.int .i64 p1_1]) else none:=by kernel_rfl
theorem Ai.Of.ev:B6 Ai.Of.E N f109 (As f109) [.agg [.bool n,.ints .arg .u32 a],.int .i64 e]=bif ((length a:Int)==(0:Int)) then some (.agg [.bool false,.nil,.int .i64 0]) else Ai.Of.L0 N N e n a:=by kernel_rfl
end
abbrev _root_.Go.Proofs.S1.Ai.Of.Kn:=A9 prog 109 Ai.Of.spec
theorem Ai.Of.Ae (hk:A3 prog Ai.Of.Bf) (h:Hyp Ai.Of.E f109 Ai.Of.ts Ai.Of.pre Ai.Of.out):Ai.Of.Kn :=
 Am (A5 hk _ _ _) func109 (by kernel_rfl) (by kernel_rfl) h
def Ai.Neg.Bf:List (Nat × Entry):=[(143,Ag.Neg.spec)]
def Ai.Neg.E:Env:=Bk (Be Ai.Neg.Bf) (fun _=>false) (fun _=>none) (fun _=>none)
theorem Ai.Neg.ev (N:Nat) (n:Bool) (a:List Int) (e:Int):B6 Ai.Neg.E N f170 (As f170) [.agg [.bool n,.ints .arg .u32 a,.int .i64 e]]=bif (Ll n a) then some (.agg [.bool (A2 (- wv n a)),.ints .arg .u32 (Ah (- wv n a)),.int .i64 e]) else none :=
 Eq.trans (by kernel_rfl)
 (C5 (Cn _) rfl rfl)
abbrev _root_.Go.Proofs.S1.Ai.Neg.Kn:=A9 prog 170 Ai.Neg.spec
theorem Ai.Neg.Ae (hk:A3 prog Ai.Neg.Bf) (h:Hyp Ai.Neg.E f170 Ai.Neg.ts Ai.Neg.pre Ai.Neg.out):Ai.Neg.Kn :=
 Am (A5 hk _ _ _) func170 (by kernel_rfl) (by kernel_rfl) h
def Ai.Y7.Bf:List (Nat × Entry):=[]
def Ai.Y7.E:Env:=Bk (Be Ai.Y7.Bf) (fun _=>false) (fun _=>none) (fun _=>none)
theorem Ai.Y7.ev (N:Nat) (n:Bool) (a:List Int) (e:Int) (m:Bool) (b:List Int) (f:Int):B6 Ai.Y7.E N f111 (As f111) [.agg [.bool n,.ints .arg .u32 a,.int .i64 e],.agg [.bool m,.ints .arg .u32 b,.int .i64 f]]=bif ((length a:Int)==(0:Int)) then some (.int .i64 f) else bif ((length b:Int)==(0:Int)) then some (.int .i64 e) else some (.int .i64 (min e f)):=by kernel_rfl
abbrev _root_.Go.Proofs.S1.Ai.Y7.Kn:=A9 prog 111 Ai.Y7.spec
theorem Ai.Y7.Ae (hk:A3 prog Ai.Y7.Bf) (h:Hyp Ai.Y7.E f111 Ai.Y7.ts Ai.Y7.pre Ai.Y7.out):Ai.Y7.Kn :=
 Am (A5 hk _ _ _) func111 (by kernel_rfl) (by kernel_rfl) h
def Ai.Level.Bf:List (Nat × Entry):=[(178,Ag.B9.spec)]
def Ai.Level.E:Env:=Bk (Be Ai.Level.Bf) (fun _=>false) (fun _=>none) (fun _=>none)
theorem Ai.Level.ev (N:Nat) (n:Bool) (a:List Int) (e f:Int):B6 Ai.Level.E N f113 (As f113) [.agg [.bool n,.ints .arg .u32 a,.int .i64 e],.int .i64 f]=bif ((length a:Int)==(0:Int)) then some (.agg [.bool n,.ints .arg .u32 a]) else bif (Zk n a&&A1v (Ad (e-f))) then some (.agg [.bool (A2 (Ja (wv n a) (Ad (e-f)))),.ints .arg .u32 (Ah (Ja (wv n a) (Ad (e-f))))]) else none:=by kernel_rfl
abbrev _root_.Go.Proofs.S1.Ai.Level.Kn:=A9 prog 113 Ai.Level.spec
theorem Ai.Level.Ae (hk:A3 prog Ai.Level.Bf) (h:Hyp Ai.Level.E f113 Ai.Level.ts Ai.Level.pre Ai.Level.out):Ai.Level.Kn :=
 Am (A5 hk _ _ _) func113 (by kernel_rfl) (by kernel_rfl) h
def Ai.Add.Bf:List (Nat × Entry):=[(112,Ag.Add.spec),(113,Ai.Level.spec),(111,Ai.Y7.spec),(109,Ai.Of.spec)]
def Ai.Add.E:Env:=Bk (Be Ai.Add.Bf) (fun _=>false) (fun _=>none) (fun _=>none)
theorem Ai.Add.ev (N:Nat) (n:Bool) (a:List Int) (e:Int) (m:Bool) (b:List Int) (f:Int):B6 Ai.Add.E N f42 (As f42) [.agg [.bool n,.ints .arg .u32 a,.int .i64 e],.agg [.bool m,.ints .arg .u32 b,.int .i64 f]]=bif (Ll n a&&Ll m b) then bif (Zk n a&&Aqd (wv n a) e (Dt (wv n a) e (wv m b) f)) then bif (Zk m b&&Aqd (wv m b) f (Dt (wv n a) e (wv m b) f)) then bif (Ll (A2 (Ja (wv n a) (e-(Dt (wv n a) e (wv m b) f)))) (Ah (Ja (wv n a) (e-(Dt (wv n a) e (wv m b) f))))&&Ll (A2 (Ja (wv m b) (f-(Dt (wv n a) e (wv m b) f)))) (Ah (Ja (wv m b) (f-(Dt (wv n a) e (wv m b) f))))) then bif (Ll (A2 (wv (A2 (Ja (wv n a) (e-(Dt (wv n a) e (wv m b) f)))) (Ah (Ja (wv n a) (e-(Dt (wv n a) e (wv m b) f))))+wv (A2 (Ja (wv m b) (f-(Dt (wv n a) e (wv m b) f)))) (Ah (Ja (wv m b) (f-(Dt (wv n a) e (wv m b) f)))))) (Ah (wv (A2 (Ja (wv n a) (e-(Dt (wv n a) e (wv m b) f)))) (Ah (Ja (wv n a) (e-(Dt (wv n a) e (wv m b) f))))+wv (A2 (Ja (wv m b) (f-(Dt (wv n a) e (wv m b) f)))) (Ah (Ja (wv m b) (f-(Dt (wv n a) e (wv m b) f))))))&&Vq (Dt (wv n a) e (wv m b) f)) then some (.agg [.bool (A2 (mD (wv (A2 (wv (A2 (Ja (wv n a) (e-(Dt (wv n a) e (wv m b) f)))) (Ah (Ja (wv n a) (e-(Dt (wv n a) e (wv m b) f))))+wv (A2 (Ja (wv m b) (f-(Dt (wv n a) e (wv m b) f)))) (Ah (Ja (wv m b) (f-(Dt (wv n a) e (wv m b) f)))))) (Ah (wv (A2 (Ja (wv n a) (e-(Dt (wv n a) e (wv m b) f)))) (Ah (Ja (wv n a) (e-(Dt (wv n a) e (wv m b) f))))+wv (A2 (Ja (wv m b) (f-(Dt (wv n a) e (wv m b) f)))) (Ah (Ja (wv m b) (f-(Dt (wv n a) e (wv m b) f))))))))),.ints .arg .u32 (Ah (mD (wv (A2 (wv (A2 (Ja (wv n a) (e-(Dt (wv n a) e (wv m b) f)))) (Ah (Ja (wv n a) (e-(Dt (wv n a) e (wv m b) f))))+wv (A2 (Ja (wv m b) (f-(Dt (wv n a) e (wv m b) f)))) (Ah (Ja (wv m b) (f-(Dt (wv n a) e (wv m b) f)))))) (Ah (wv (A2 (Ja (wv n a) (e-(Dt (wv n a) e (wv m b) f)))) (Ah (Ja (wv n a) (e-(Dt (wv n a) e (wv m b) f))))+wv (A2 (Ja (wv m b) (f-(Dt (wv n a) e (wv m b) f)))) (Ah (Ja (wv m b) (f-(Dt (wv n a) e (wv m b) f))))))))),.int .i64 (eD (wv (A2 (wv (A2 (Ja (wv n a) (e-(Dt (wv n a) e (wv m b) f)))) (Ah (Ja (wv n a) (e-(Dt (wv n a) e (wv m b) f))))+wv (A2 (Ja (wv m b) (f-(Dt (wv n a) e (wv m b) f)))) (Ah (Ja (wv m b) (f-(Dt (wv n a) e (wv m b) f)))))) (Ah (wv (A2 (Ja (wv n a) (e-(Dt (wv n a) e (wv m b) f)))) (Ah (Ja (wv n a) (e-(Dt (wv n a) e (wv m b) f))))+wv (A2 (Ja (wv m b) (f-(Dt (wv n a) e (wv m b) f)))) (Ah (Ja (wv m b) (f-(Dt (wv n a) e (wv m b) f))))))) (Dt (wv n a) e (wv m b) f))]) else none else none else none else none else none :=
 Eq.trans (by kernel_rfl)
 (Fg (C5 (Cn _) (C5 (Cn _) (C5 (Cn _) (C5 (Cn _) rfl rfl) rfl) rfl) rfl) rfl)
abbrev _root_.Go.Proofs.S1.Ai.Add.Kn:=A9 prog 42 Ai.Add.spec
theorem Ai.Add.Ae (hk:A3 prog Ai.Add.Bf) (h:Hyp Ai.Add.E f42 Ai.Add.ts Ai.Add.pre Ai.Add.out):Ai.Add.Kn :=
 Am (A5 hk _ _ _) func42 (by kernel_rfl) (by kernel_rfl) h
def Ai.Sub.Bf:List (Nat × Entry):=[(42,Ai.Add.spec),(170,Ai.Neg.spec)]
def Ai.Sub.E:Env:=Bk (Be Ai.Sub.Bf) (fun _=>false) (fun _=>none) (fun _=>none)
theorem Ai.Sub.ev (N:Nat) (n:Bool) (a:List Int) (e:Int) (m:Bool) (b:List Int) (f:Int):B6 Ai.Sub.E N f105 (As f105) [.agg [.bool n,.ints .arg .u32 a,.int .i64 e],.agg [.bool m,.ints .arg .u32 b,.int .i64 f]]=bif (Ll m b) then bif (((Zk n a&&Zk (A2 (- wv m b)) (Ah (- wv m b)))&&Sl e)&&Sl f) then some (.agg [.bool (A2 (Pu (wv n a) e (wv (A2 (- wv m b)) (Ah (- wv m b))) f)),.ints .arg .u32 (Ah (Pu (wv n a) e (wv (A2 (- wv m b)) (Ah (- wv m b))) f)),.int .i64 (Akl (wv n a) e (wv (A2 (- wv m b)) (Ah (- wv m b))) f)]) else none else none :=
 Eq.trans (by kernel_rfl)
 (C5 (Cn _) (C5 (Cn _) rfl rfl) rfl)
abbrev _root_.Go.Proofs.S1.Ai.Sub.Kn:=A9 prog 105 Ai.Sub.spec
theorem Ai.Sub.Ae (hk:A3 prog Ai.Sub.Bf) (h:Hyp Ai.Sub.E f105 Ai.Sub.ts Ai.Sub.pre Ai.Sub.out):Ai.Sub.Kn :=
 Am (A5 hk _ _ _) func105 (by kernel_rfl) (by kernel_rfl) h
def Ai.Cq.Bf:List (Nat × Entry):=[(109,Ai.Of.spec)]
def Ai.Cq.E:Env:=Bk (Be Ai.Cq.Bf) (fun _=>false) (fun _=>none) (fun _=>none)
theorem Ai.Cq.ev (N:Nat) (n:Bool) (a:List Int) (e k:Int):B6 Ai.Cq.E N f114 (As f114) [.agg [.bool n,.ints .arg .u32 a,.int .i64 e],.int .i64 k]=bif (Ll n a&&Vq (Ad (e+k))) then some (.agg [.bool (A2 (mD (wv n a))),.ints .arg .u32 (Ah (mD (wv n a))),.int .i64 (eD (wv n a) (Ad (e+k)))]) else none:=by kernel_rfl
abbrev _root_.Go.Proofs.S1.Ai.Cq.Kn:=A9 prog 114 Ai.Cq.spec
theorem Ai.Cq.Ae (hk:A3 prog Ai.Cq.Bf) (h:Hyp Ai.Cq.E f114 Ai.Cq.ts Ai.Cq.pre Ai.Cq.out):Ai.Cq.Kn :=
 Am (A5 hk _ _ _) func114 (by kernel_rfl) (by kernel_rfl) h
def Ai.X4.Bf:List (Nat × Entry):=[(223,Ag.Sk.spec)]
def Ai.X4.E:Env:=Bk (Be Ai.X4.Bf) (fun _=>false) (fun _=>none) (fun _=>none)
theorem Ai.X4.ev (N:Nat) (n:Bool) (a:List Int) (e:Int):B6 Ai.X4.E N f180 (As f180) [.agg [.bool n,.ints .arg .u32 a,.int .i64 e]]=bif ((length a:Int)==(0:Int)) then some (.int .i64 0) else bif (Ll n a) then some (.int .i64 (Ad ((Acp (wv n a))+e))) else none :=
 Eq.trans (by kernel_rfl)
 (Fg rfl (C5 (Cn _) rfl rfl))
abbrev _root_.Go.Proofs.S1.Ai.X4.Kn:=A9 prog 180 Ai.X4.spec
theorem Ai.X4.Ae (hk:A3 prog Ai.X4.Bf) (h:Hyp Ai.X4.E f180 Ai.X4.ts Ai.X4.pre Ai.X4.out):Ai.X4.Kn :=
 Am (A5 hk _ _ _) func180 (by kernel_rfl) (by kernel_rfl) h
def Ai.Sign.Bf:List (Nat × Entry):=[]
def Ai.Sign.E:Env:=Bk (Be Ai.Sign.Bf) (fun _=>false) (fun _=>none) (fun _=>none)
theorem Ai.Sign.ev (N:Nat) (n:Bool) (a:List Int) (e:Int):B6 Ai.Sign.E N f179 (As f179) [.agg [.bool n,.ints .arg .u32 a,.int .i64 e]]=bif n then some (.int .i64 (-1:Int)) else some (.int .i64 (min (length a:Int) 1)):=by kernel_rfl
abbrev _root_.Go.Proofs.S1.Ai.Sign.Kn:=A9 prog 179 Ai.Sign.spec
theorem Ai.Sign.Ae (hk:A3 prog Ai.Sign.Bf) (h:Hyp Ai.Sign.E f179 Ai.Sign.ts Ai.Sign.pre Ai.Sign.out):Ai.Sign.Kn :=
 Am (A5 hk _ _ _) func179 (by kernel_rfl) (by kernel_rfl) h
def Ai.Compare.Bf:List (Nat × Entry):=[(179,Ai.Sign.spec),(105,Ai.Sub.spec),(180,Ai.X4.spec)]
def Ai.Compare.E:Env:=Bk (Be Ai.Compare.Bf) (fun _=>false) (fun _=>none) (fun _=>none)
theorem Ai.Compare.ev (N:Nat) (n:Bool) (a:List Int) (e:Int) (m:Bool) (b:List Int) (f:Int):B6 Ai.Compare.E N f116 (As f116) [.agg [.bool n,.ints .arg .u32 a,.int .i64 e],.agg [.bool m,.ints .arg .u32 b,.int .i64 f]]=bif (Ll n a) then bif (Ll m b) then bif ((Pr (wv n a)) !=(Pr (wv m b))) then bif (Ll n a) then bif (Ll m b) then some (.int .i64 (min 1 (max (-1:Int) (Ad ((Pr (wv n a))-(Pr (wv m b))))))) else none else none else bif (Ll n a&&Sl e) then bif (Ll m b&&Sl f) then bif ((Jb (wv n a) e) !=(Jb (wv m b) f)) then bif (Ll n a&&Sl e) then bif (Ll m b&&Sl f) then bif (Ll n a) then bif ((Bc (Jb (wv m b) f) (Jb (wv n a) e))==(Bc 0 (Pr (wv n a)))) then some (.int .i64 1) else some (.int .i64 (-1:Int)) else none else none else none else bif (((Zk n a&&Zk m b)&&Sl e)&&Sl f) then bif (Ll (A2 (Pu (wv n a) e (- wv m b) f)) (Ah (Pu (wv n a) e (- wv m b) f))) then some (.int .i64 (Pr (wv (A2 (Pu (wv n a) e (- wv m b) f)) (Ah (Pu (wv n a) e (- wv m b) f))))) else none else none else none else none else none else none :=
 Eq.trans (by kernel_rfl)
 (C5 (Cn _) (C5 (Cn _) (Fg (C5 (Cn _) (C5 (Cn _) rfl rfl) rfl) (C5 (Cn _) (C5 (Cn _) (Fg (C5 (Cn _) (C5 (Cn _) (C5 (Cn _) rfl rfl) rfl) rfl) rfl) rfl) rfl)) rfl) rfl)
abbrev _root_.Go.Proofs.S1.Ai.Compare.Kn:=A9 prog 116 Ai.Compare.spec
theorem Ai.Compare.Ae (hk:A3 prog Ai.Compare.Bf) (h:Hyp Ai.Compare.E f116 Ai.Compare.ts Ai.Compare.pre Ai.Compare.out):Ai.Compare.Kn :=
 Am (A5 hk _ _ _) func116 (by kernel_rfl) (by kernel_rfl) h
abbrev _root_.Go.Proofs.S1.Ai.Add.q.Kn:Prop:=A9 prog 42 Ai.Add.q.spec
abbrev _root_.Go.Proofs.S1.Ai.Sub.q.Kn:Prop:=A9 prog 105 Ai.Sub.q.spec
abbrev _root_.Go.Proofs.S1.Ai.Cq.q.Kn:Prop:=A9 prog 114 Ai.Cq.q.spec
abbrev _root_.Go.Proofs.S1.Ai.Compare.q.Kn:Prop:=A9 prog 116 Ai.Compare.q.spec
abbrev _root_.Go.Proofs.S1.Ai.Of.q.Kn:Prop:=A9 prog 109 Ai.Of.q.spec
end EqRefC
open Go Go.Den Go.Cv Go.Proofs
open EqRefC
def Arf (v e:Int):Option DV:=some (.agg [.bool (A2 v),.ints .arg .u32 (Ah v),.int .i64 e])
theorem wdy {drops:List Nat} {b:Bool} {l:List Int} {e:Int}:Wk drops (.agg [.bool b,.ints .arg .u32 l,.int .i64 e]) (.agg [.bool b,.ints .arg .u32 l,.int .i64 e]):=Wk.Mk (.cons .bool (.cons .Awq (.cons .int .nil)))
theorem Avh (v:Int):(Ah v).getD 0 0=((v.natAbs%4294967296:Nat):Int):=by
 have hg:=P8 (G4 v) 0
 rw [Ef,Nat.mul_zero,A85,Nat.div_one] at hg
 exact hg
theorem Anq {v:Int} {k:Nat} (h:Du v.natAbs<268435456):Du (Mn v k).natAbs<268435456:=by
 rw [Od]
 exact A89 (Oz (Nat.div_le_self _ _)) h
theorem Atg {v:Int} {k:Nat} (h0:v≠0) (h:v.natAbs%2^k=0):Mn v k≠0∧T1 (Mn v k).natAbs+k=T1 v.natAbs:=by
 have hv:=Nat.div_add_mod v.natAbs (2^k)
 rw [h,A9f,A8v] at hv
 have hq:v.natAbs / 2^k≠0:=by
  intro e; rw [e] at hv; omega
 have ht:=Af2 hq k
 rw [hv] at ht
 have ha:=Od v k
 refine ⟨by omega,?_⟩
 rw [ha]
 omega
theorem At8 (N:Nat):∀ (F:Nat) (v e:Int),v≠0→T1 v.natAbs<F→Du v.natAbs<268435456→-4000000000000≤e→e+T1 v.natAbs≤400000000000000 →
 Ai.Of.L1 N F e (A2 v) (Ah v)=Arf (mD v) (eD v e):=by
 intro F
 induction F with
 | zero=>intro v e _ h; omega
 | succ F ih =>
   intro v e h0 hF hv h1 h2
   rw [Ai.Of.Cy,Ix hv,A77,Ft]
   by_cases ho:v%2=1
   ·have:Aqe v=true:=A78 ho
    rw [this,A86,A8b,A14 ho,A2f ho]
    rfl
   ·have:Aqe v=false:=A8c ho
    have hm:v.natAbs%2^1=0:=by rw [Nat.pow_one]; omega
    obtain ⟨n1,n2⟩:=Atg h0 hm
    rw [this,A9q,A77,A77,Ar (by omega) (by omega),ih (Mn v 1) (e+1) n1 (by omega) (Anq hv) (by omega) (by omega),Al6 hm]
    have:=Amo (e:=e) hm h0
    rw [← this]
    rfl
theorem At9 (N:Nat):∀ (F:Nat) (v e:Int),v≠0→T1 v.natAbs<F→T1 v.natAbs<N→Du v.natAbs<268435456→-4000000000000≤e→e+T1 v.natAbs≤400000000000000 →
 Ai.Of.L0 N F e (A2 v) (Ah v)=Arf (mD v) (eD v e):=by
 intro F
 induction F with
 | zero=>intro v e _ h; omega
 | succ F ih =>
   intro v e h0 hF hN hv h1 h2
   have hl:=Kh (n:=v.natAbs) (by omega)
   rw [Ai.Of.A1,Cm,A78 (by omega),A77,Avh]
   by_cases hz:v.natAbs%4294967296=0
   ·have e0:(((v.natAbs%4294967296:Nat):Int)==0)=true:=by rw [hz]; rfl
    have o3:Iy ((Ah v).drop 1)=true:=Lw (by rw [List.length_drop,Cm]; omega) (Ajx (G4 v))
    have hm:v.natAbs%2^32=0:=by rw [two32]; exact hz
    obtain ⟨n1,n2⟩:=Atg h0 hm
    rw [e0,A77,A78 (by omega),A77,o3,A77,Ana,Ar (by omega) (by omega),ih (Mn v 32) (e+32) n1 (by omega) (by omega) (Anq hv) (by omega) (by omega),Al6 hm]
    have:=Amo (e:=e) hm h0
    rw [← this]
    rfl
   ·have e0:(((v.natAbs%4294967296:Nat):Int)==0)=false:=by simp only [A82,ne_eq]; omega
    rw [e0,A8b]
    exact At8 N N v e h0 hN hv h1 h2
theorem Asp {v:Int} (h0:v≠0) (h:Du v.natAbs<268435456):T1 v.natAbs<8589934592:=by
 have h1:=Asq (n:=v.natAbs) (by omega)
 have h2:=Ae6 (n:=v.natAbs)
 omega
theorem Ai.Of.known:Ai.Of.Kn:=Ai.Of.Ae (.cons Ag.H7.known (.cons Ag.Made.known (.cons Ag.Y6.known .nil))) fun n a e hp=>by
 obtain ⟨h1,h2⟩:=Af.1 hp
 obtain ⟨v,rfl,rfl,hv⟩:=Km h1
 have h2:=Ao.1 h2
 by_cases h0:v=0
 ·subst h0
  refine ⟨0,.agg [.bool false,.nil,.int .i64 (0:Int)],[],?_,?_⟩
  ·rw [Ai.Of.ev]; rfl
  ·show Wk [] _ (.agg [.bool (A2 (mD (wv (A2 0) (Ah 0)))),.ints .arg .u32 (Ah (mD (wv (A2 0) (Ah 0)))),.int .i64 (eD (wv (A2 0) (Ah 0)) e)])
   rw [Ft,P4.2 rfl]
   exact Wk.Mk (.cons .bool (.cons (.nil _ _) (.cons .int .nil)))
 ·refine ⟨T1 v.natAbs+1,Ai.Of.out [.b (A2 v),.l (Ah v),.i e],[],?_,wdy⟩
  have ht:=Asp h0 hv
  have hl:=Kh (n:=v.natAbs) (by omega)
  have e0:(((Ah v).length:Int)==0)=false:=by rw [Cm]; simp only [A82,ne_eq]; omega
  show _=Arf (mD (wv (A2 v) (Ah v))) (eD (wv (A2 v) (Ah v)) e)
  rw [Ai.Of.ev,e0,A8b,Ft]
  exact At9 _ _ v e h0 (by omega) (by omega) hv (by omega) (by omega)
theorem Ai.Neg.known:Ai.Neg.Kn:=Ai.Neg.Ae (.cons Ag.Neg.known .nil) fun n a e hp=>by
 refine ⟨0,Ai.Neg.out [.b n,.l a,.i e],[],?_,wdy⟩
 have hp:Ll n a=true:=hp
 rw [Ai.Neg.ev,hp,A77]
 rfl
theorem Xb (v:Int):(((Ah v).length:Int)==0)=decide (v=0):=by
 rw [Cm,A8n]
 simp only [beq_iff_eq,A8e]
 constructor
 ·intro h
  rcases Int.lt_trichotomy v 0 with k | k | k
  ·have:=Kh (n:=v.natAbs) (by omega); omega
  ·exact k
  ·have:=Kh (n:=v.natAbs) (by omega); omega
 ·intro h; rw [h]; rfl
theorem Ai.Y7.known:Ai.Y7.Kn:=Ai.Y7.Ae .nil fun n a e m b f hp=>by
 obtain ⟨h1,h2⟩:=Af.1 hp
 obtain ⟨v,rfl,rfl,hv⟩:=Km h1
 obtain ⟨w,rfl,rfl,hw⟩:=Km h2
 refine ⟨0,Ai.Y7.out [.b (A2 v),.l (Ah v),.i e,.b (A2 w),.l (Ah w),.i f],[],?_,.int⟩
 show _=some (DV.int .i64 (Dt (wv (A2 v) (Ah v)) e (wv (A2 w) (Ah w)) f))
 rw [Ai.Y7.ev,Ft,Ft,Xb,Xb]
 unfold Dt
 by_cases h:v=0
 ·rw [A78 h,A77,A8u h]
 ·rw [A8c h,A8b,A8t h]
  by_cases h':w=0
  ·rw [A78 h',A77,A8u h']
  ·rw [A8c h',A8b,A8t h']
theorem Abm (k:Int):Ja 0 k=0:=by
 unfold Ja
 split
 ·exact Int.zero_mul _
 ·exact T6 _
theorem Ai.Level.known:Ai.Level.Kn:=Ai.Level.Ae (.cons Ag.B9.known .nil) fun n a e f hp=>by
 obtain ⟨h1,h2⟩:=Af.1 hp
 obtain ⟨v,rfl,rfl,hv⟩:=Rq h1
 refine ⟨0,Ai.Level.out [.b (A2 v),.l (Ah v),.i e,.i f],[],?_,Afv⟩
 show _=Akq (Ja (wv (A2 v) (Ah v)) (e-f))
 unfold Aqd at h2
 rw [Ft] at h2
 obtain ⟨h3,h4⟩:=Af.1 h2
 have h3:=Ao.1 h3
 have h4:=Ao.1 h4
 rw [Ai.Level.ev,Ft,Xb]
 by_cases h:v=0
 ·rw [A78 h,A77,h,Abm]; rfl
 ·have o:A1v (Ad (e-f))=true:=by rw [Ar (by omega) (by omega)]; exact Ao.2 (by omega)
  rw [A8c h,A8b,h1,o,A8d,A77,Ar (by omega) (by omega)]
  rfl
theorem Au3 (n k:Nat):Du (n*2^k)≤Du n+k:=by
 refine Nb ?_
 have h1:=L7 n
 have h2:n*2^k<2^(32*Du n)*2^k:=(Nat.mul_lt_mul_right (B5 k)).2 h1
 rw [← A8w] at h2
 exact A9i h2 (A8m (by decide) (by omega))
theorem Au4 (v k:Int):Du (Ja v k).natAbs≤Du v.natAbs+k.toNat:=by
 unfold Ja
 by_cases h:0≤k
 ·rw [A8u h,Int.natAbs_mul,Int.natAbs_natCast]
  exact Au3 _ _
 ·rw [A8t h,Od]
  exact A9e (Oz (Nat.div_le_self _ _)) (Nat.le_add_right _ _)
theorem Ajq (v w:Int):Du (v+w).natAbs≤max (Du v.natAbs) (Du w.natAbs)+1:=by
 refine Nb ?_
 have h1:=L7 v.natAbs
 have h2:=L7 w.natAbs
 have h3:2^(32*Du v.natAbs)≤2^(32*max (Du v.natAbs) (Du w.natAbs)):=A8m (by decide) (by omega)
 have h4:2^(32*Du w.natAbs)≤2^(32*max (Du v.natAbs) (Du w.natAbs)):=A8m (by decide) (by omega)
 rw [N8]
 omega
theorem Aci {v e w f:Int} (he:-400000≤e∧e≤400000) (hf:-400000≤f∧f≤400000):-400000≤Dt v e w f∧Dt v e w f≤400000:=by
 unfold Dt
 split
 ·exact hf
 ·split
  ·exact he
  ·omega
theorem Aai {v e l:Int} (hv:Du v.natAbs<134217728) (h:e-l≤800000):Du (Ja v (e-l)).natAbs<140000000:=by
 have:=Au4 v (e-l)
 omega
theorem Ai.Add.known:Ai.Add.Kn:=Ai.Add.Ae (.cons Ag.Add.known (.cons Ai.Level.known (.cons Ai.Y7.known (.cons Ai.Of.known .nil)))) fun n a e m b f hp=>by
 obtain ⟨h1,hf⟩:=Af.1 hp
 obtain ⟨h2,he⟩:=Af.1 h1
 obtain ⟨h3,h4⟩:=Af.1 h2
 obtain ⟨v,rfl,rfl,hv⟩:=Rq h3
 obtain ⟨w,rfl,rfl,hw⟩:=Rq h4
 have he:=Ao.1 he
 have hf:=Ao.1 hf
 refine ⟨0,Ai.Add.out [.b (A2 v),.l (Ah v),.i e,.b (A2 w),.l (Ah w),.i f],[],?_,wdy⟩
 show _=Arf (Pu (wv (A2 v) (Ah v)) e (wv (A2 w) (Ah w)) f) (Akl (wv (A2 v) (Ah v)) e (wv (A2 w) (Ah w)) f)
 have hlo:=Aci (v:=v) (w:=w) he hf
 have l1:=Aai (l:=Dt v e w f) hv (show e-Dt v e w f≤800000 by omega)
 have l2:=Aai (l:=Dt v e w f) hw (show f-Dt v e w f≤800000 by omega)
 have l3:=Ajq (Ja v (e-Dt v e w f)) (Ja w (f-Dt v e w f))
 have o1:Aqd v e (Dt v e w f)=true:=Af.2 ⟨Ao.2 (by omega),Ao.2 (by omega)⟩
 have o2:Aqd w f (Dt v e w f)=true:=Af.2 ⟨Ao.2 (by omega),Ao.2 (by omega)⟩
 have o3:Vq (Dt v e w f)=true:=Ao.2 (by omega)
 rw [Ai.Add.ev]
 simp only [Ft]
 rw [Ix (v:=v) (by omega),Ix (v:=w) (by omega),h3,h4,o1,o2,Ix (v:=Ja v (e-Dt v e w f)) (by omega),Ix (v:=Ja w (f-Dt v e w f)) (by omega),Ix (v:=Ja v (e-Dt v e w f)+Ja w (f-Dt v e w f)) (by omega),o3]
 simp only [A8d,A77]
 rfl
theorem Ai.Sub.known:Ai.Sub.Kn:=Ai.Sub.Ae (.cons Ai.Add.known (.cons Ai.Neg.known .nil)) fun n a e m b f hp=>by
 obtain ⟨h1,hf⟩:=Af.1 hp
 obtain ⟨h2,he⟩:=Af.1 h1
 obtain ⟨h3,h4⟩:=Af.1 h2
 obtain ⟨w,rfl,rfl,hw⟩:=Rq h4
 refine ⟨0,Ai.Sub.out [.b n,.l a,.i e,.b (A2 w),.l (Ah w),.i f],[],?_,wdy⟩
 show _=Arf (Pu (wv n a) e (- wv (A2 w) (Ah w)) f) (Akl (wv n a) e (- wv (A2 w) (Ah w)) f)
 rw [Ai.Sub.ev]
 simp only [Ft]
 rw [Ix (v:=w) (by omega),h3,Als (v:=-w) (by rw [Int.natAbs_neg]; exact hw),he,hf]
 rfl
theorem Ai.Cq.known:Ai.Cq.Kn:=Ai.Cq.Ae (.cons Ai.Of.known .nil) fun n a e k hp=>by
 obtain ⟨h1,hk⟩:=Af.1 hp
 obtain ⟨h2,he⟩:=Af.1 h1
 have he:=Ao.1 he
 have hk:=Ao.1 hk
 refine ⟨0,Ai.Cq.out [.b n,.l a,.i e,.i k],[],?_,wdy⟩
 have o:Vq (e+k)=true:=Ao.2 (by omega)
 rw [Ai.Cq.ev,Ar (by omega) (by omega),h2,o]
 rfl
theorem Ajr {v:Int} (h:Du v.natAbs<268435456):0≤Acp v∧Acp v≤8589934593:=by
 have h2:=Ae6 (n:=v.natAbs)
 unfold Acp
 split
 ·omega
 ·constructor<;>omega
theorem Ai.X4.known:Ai.X4.Kn:=Ai.X4.Ae (.cons Ag.Sk.known .nil) fun n a e hp=>by
 obtain ⟨h1,he⟩:=Af.1 hp
 obtain ⟨v,rfl,rfl,hv⟩:=Km h1
 have he:=Ao.1 he
 refine ⟨0,Ai.X4.out [.b (A2 v),.l (Ah v),.i e],[],?_,.int⟩
 show _=some (DV.int .i64 (Jb (wv (A2 v) (Ah v)) e))
 have hb:=Ajr hv
 rw [Ai.X4.ev,Ft,Xb,h1]
 unfold Jb
 by_cases h:v=0
 ·rw [A78 h,A77,A8u h]
 ·rw [A8c h,A8b,A77,A8t h,Ar (by omega) (by omega)]
theorem Ai.Sign.known:Ai.Sign.Kn:=Ai.Sign.Ae .nil fun n a e hp=>by
 obtain ⟨v,rfl,rfl,hv⟩:=Km hp
 refine ⟨0,Ai.Sign.out [.b (A2 v),.l (Ah v),.i e],[],?_,.int⟩
 show _=some (DV.int .i64 (Pr (wv (A2 v) (Ah v))))
 rw [Ai.Sign.ev,Ft,Cm]
 unfold Pr A2
 by_cases h:v<0
 ·rw [A78 h,A77,A8u h]
 ·rw [A8c h,A8b,A8t h]
  by_cases h':v=0
  ·rw [A8u h',h']; rfl
  ·have:=Kh (n:=v.natAbs) (by omega)
   rw [A8t h']
   congr 2
   omega
open Go Go.Den Go.Cv Go.Proofs
open EqRefC
theorem Al7 {v e w f:Int}:(v≠0→0≤e-Dt v e w f)∧(w≠0→0≤f-Dt v e w f):=by
 unfold Dt
 constructor
 ·intro h
  rw [A8t h]
  split<;>omega
 ·intro h
  split
  ·omega
  ·omega
theorem Abn {v k:Int} (h:v≠0→0≤k):∃ j:Nat,Ja v k=v*((2^j:Nat):Int)∧(v≠0→(j:Int)=k):=by
 by_cases h0:v=0
 ·exact ⟨0,by rw [h0,Abm,Int.zero_mul],fun k=>absurd h0 k⟩
 ·have hk:=h h0
  refine ⟨k.toNat,?_,fun _=>by omega⟩
  unfold Ja
  rw [A8u hk]
theorem Aca (v:Int) (j:Nat):(v*((2^j:Nat):Int)<0↔v<0)∧(v*((2^j:Nat):Int)=0↔v=0):=by
 have hp:=B5 j
 constructor
 ·constructor
  ·intro h
   rcases Int.lt_or_le v 0 with h1 | h1
   ·exact h1
   ·have:=Int.mul_nonneg h1 (Int.natCast_nonneg (2^j)); omega
  ·intro h
   exact Int.mul_neg_of_neg_of_pos h (by omega)
 ·constructor
  ·intro h
   rcases Int.mul_eq_zero.1 h with h | h
   ·exact h
   ·omega
  ·intro h; rw [h,Int.zero_mul]
theorem Agl (v:Int) (j:Nat):Pr (v*((2^j:Nat):Int))=Pr v:=by
 obtain ⟨h1,h2⟩:=Aca v j
 unfold Pr
 simp only [h1,h2]
theorem A1h (v:Int):Pr (mD v)=Pr v:=by
 have:=Agl (mD v) (T1 v.natAbs)
 rw [← Aav] at this
 exact this.symm
theorem Azs (x y:Int):Pr (x+-y)=Z6 x y:=by
 unfold Pr Z6
 by_cases h:x<y
 ·rw [A8u (by omega),A8u h]
 ·rw [A8t (by omega),A8t h]
  by_cases h':y<x
  ·rw [A8t (by omega),A8u h']
  ·rw [A8u (by omega),A8t h']
theorem Ayw (v e w f:Int):Dt v e (-w) f=Dt v e w f:=by
 unfold Dt
 have:(-w=0)=(w=0):=propext ⟨fun h=>by omega,fun h=>by omega⟩
 simp only [this]
theorem Awg {x y:Int} (h:Pr x≠Pr y):Z6 x y=min 1 (max (-1) (Pr x-Pr y)):=by
 unfold Pr at h ⊢
 unfold Z6
 rcases Int.lt_trichotomy x 0 with h1 | h1 | h1<;>rcases Int.lt_trichotomy y 0 with h2 | h2 | h2
 all_goals
  first
  | (exfalso; apply h; simp [show x<0 by omega,show y<0 by omega]; done)
  | (exfalso; apply h; subst h1; subst h2; rfl)
  | (exfalso; apply h; rw [A8t (by omega),A8t (by omega),A8t (by omega),A8t (by omega)]; done)
  | skip
 ·rw [A8u (by omega),A8u (by omega),A8t (by omega),A8u (by omega)]; decide
 ·rw [A8u (by omega),A8u (by omega),A8t (by omega),A8t (by omega)]; decide
 ·rw [A8t (by omega),A8u (by omega),A8t (by omega),A8u (by omega),A8u (by omega)]; decide
 ·rw [A8u (by omega),A8t (by omega),A8u (by omega),A8t (by omega),A8t (by omega)]; decide
 ·rw [A8t (by omega),A8u (by omega),A8t (by omega),A8t (by omega),A8u (by omega)]; decide
 ·rw [A8t (by omega),A8u (by omega),A8t (by omega),A8t (by omega),A8t (by omega),A8u (by omega)]; decide
theorem Ack {a b:Nat} (ha:a≠0) (h:a.log2<b.log2):a<b:=by
 rcases A84 a b with k | k
 ·exact k
 ·have hb:b≠0:=by
   intro e; rw [e] at h
   exact absurd h (by rw [show (0:Nat).log2=0 by decide]; omega)
  have:=(Nat.le_log2 ha).2 (A9e (Nat.log2_self_le hb) k)
  omega
theorem Azr {v e w f:Int} (hs:Pr v=Pr w) (ht:Jb v e≠Jb w f) :
 Z7 v e w f=if (decide (Jb w f<Jb v e)==decide (0<Pr v))=true then 1 else -1:=by
 obtain ⟨u1,u2⟩:=Al7 (v:=v) (e:=e) (w:=w) (f:=f)
 obtain ⟨j,hx,hj⟩:=Abn u1
 obtain ⟨k,hy,hk⟩:=Abn u2
 unfold Z7
 rw [hx,hy]
 have z:v=0↔w=0:=by
  unfold Pr at hs
  constructor
  ·intro h; subst h
   revert hs
   simp
   split<;>simp_all
  ·intro h; subst h
   revert hs
   simp
   split<;>simp_all
 by_cases v0:v=0
 ·exfalso
  apply ht
  unfold Jb
  rw [A8u v0,A8u (z.1 v0)]
 ·have w0:w≠0:=fun h=>v0 (z.2 h)
  have hj:=hj v0
  have hk:=hk w0
  have nv:v.natAbs≠0:=by omega
  have nw:w.natAbs≠0:=by omega
  have l1:=Pe v.natAbs j nv
  have l2:=Pe w.natAbs k nw
  have ax:(v*((2^j:Nat):Int)).natAbs=v.natAbs*2^j:=by rw [Int.natAbs_mul,Int.natAbs_natCast]
  have ay:(w*((2^k:Nat):Int)).natAbs=w.natAbs*2^k:=by rw [Int.natAbs_mul,Int.natAbs_natCast]
  have sx:=(Aca v j).1
  have sy:=(Aca w k).1
  have zx:=Al0 v0 j
  have zy:=Al0 w0 k
  have tv:Jb v e=(v.natAbs.log2:Int)+1+e:=by unfold Jb Acp; rw [A8t v0,A8t v0]
  have tw:Jb w f=(w.natAbs.log2:Int)+1+f:=by unfold Jb Acp; rw [A8t w0,A8t w0]
  have big:Jb w f<Jb v e→w.natAbs*2^k<v.natAbs*2^j:=fun h=>Ack (Kt nw) (by omega)
  have lit:Jb v e<Jb w f→v.natAbs*2^j<w.natAbs*2^k:=fun h=>Ack (Kt nv) (by omega)
  generalize v*((2^j:Nat):Int)=x at *
  generalize w*((2^k:Nat):Int)=y at *
  by_cases hv:v<0
  ·have sv:Pr v=-1:=by unfold Pr; rw [A8u hv]
   have hw:w<0:=by
    rw [sv] at hs
    unfold Pr at hs
    rcases Int.lt_or_le w 0 with q | q
    ·exact q
    ·rw [A8t (by omega),A8t w0] at hs; omega
   rw [sv]
   unfold Z6
   by_cases h:Jb w f<Jb v e
   ·have:=big h
    rw [A78 h,A8u (by omega)]; rfl
   ·have:=lit (by omega)
    rw [A8c h,A8t (by omega),A8u (by omega)]; rfl
  ·have sv:Pr v=1:=by unfold Pr; rw [A8t hv,A8t v0]
   have hw:¬ w<0:=by
    intro q
    rw [sv] at hs
    unfold Pr at hs
    rw [A8u q] at hs; omega
   rw [sv]
   unfold Z6
   by_cases h:Jb w f<Jb v e
   ·have:=big h
    rw [A78 h,A8t (by omega),A8u (by omega)]; rfl
   ·have:=lit (by omega)
    rw [A8c h,A8u (by omega)]; rfl
theorem Axx (v e w f:Int):Pr (Pu v e (-w) f)=Z7 v e w f:=by
 obtain ⟨u1,u2⟩:=Al7 (v:=v) (e:=e) (w:=w) (f:=f)
 obtain ⟨k,hy,hk⟩:=Abn u2
 have hy':Ja (-w) (f-Dt v e w f)=-(Ja w (f-Dt v e w f)):=by
  by_cases w0:w=0
  ·rw [w0]; show Ja 0 _=_; rw [Abm]; rfl
  ·unfold Ja
   rw [A8u (u2 w0),A8u (u2 w0),Int.neg_mul]
 unfold Pu Am8 Z7
 rw [A1h,Ayw,hy',Azs]
theorem Arj {v e w f:Int} (h:Pr v≠Pr w):Z7 v e w f=min 1 (max (-1) (Pr v-Pr w)):=by
 obtain ⟨u1,u2⟩:=Al7 (v:=v) (e:=e) (w:=w) (f:=f)
 obtain ⟨j,hx,hj⟩:=Abn u1
 obtain ⟨k,hy,hk⟩:=Abn u2
 have e1:=Agl v j
 have e2:=Agl w k
 unfold Z7
 rw [hx,hy,← e1,← e2]
 exact Awg (by rw [e1,e2]; exact h)
theorem Abo (v:Int):-1≤Pr v∧Pr v≤1:=by unfold Pr; split<;>(try split)<;>omega
theorem Aw0 {v e w f:Int} (hv:Du v.natAbs<134217728) (hw:Du w.natAbs<134217728) (he:-400000≤e∧e≤400000) (hf:-400000≤f∧f≤400000):Du (Pu v e w f).natAbs<140000001:=by
 have hlo:=Aci (v:=v) (w:=w) he hf
 have l1:=Aai (l:=Dt v e w f) hv (show e-Dt v e w f≤800000 by omega)
 have l2:=Aai (l:=Dt v e w f) hw (show f-Dt v e w f≤800000 by omega)
 have l3:=Ajq (Ja v (e-Dt v e w f)) (Ja w (f-Dt v e w f))
 have l4:=Oz (Yp (Am8 v e w f))
 unfold Pu
 unfold Am8 at l4 ⊢
 omega
theorem Ai.Compare.known:Ai.Compare.Kn:=Ai.Compare.Ae (.cons Ai.Sign.known (.cons Ai.Sub.known (.cons Ai.X4.known .nil))) fun n a e m b f hp=>by
 obtain ⟨h1,hf⟩:=Af.1 hp
 obtain ⟨h2,he⟩:=Af.1 h1
 obtain ⟨h3,h4⟩:=Af.1 h2
 obtain ⟨v,rfl,rfl,hv⟩:=Rq h3
 obtain ⟨w,rfl,rfl,hw⟩:=Rq h4
 refine ⟨0,Ai.Compare.out [.b (A2 v),.l (Ah v),.i e,.b (A2 w),.l (Ah w),.i f],[],?_,.int⟩
 show _=some (DV.int .i64 (Z7 (wv (A2 v) (Ah v)) e (wv (A2 w) (Ah w)) f))
 have bv:=Abo v
 have bw:=Abo w
 have hm:=Aw0 (v:=v) (w:=-w) hv (by rw [Int.natAbs_neg]; exact hw) (Ao.1 he) (Ao.1 hf)
 rw [Ai.Compare.ev]
 simp only [Ft]
 rw [Ix (v:=v) (by omega),Ix (v:=w) (by omega),Ix (v:=Pu v e (-w) f) (by omega),h3,h4,he,hf,Aw,Aw]
 simp only [A8d,A77]
 by_cases hs:Pr v=Pr w
 ·have e0:(Pr v !=Pr w)=false:=by simp [hs]
  rw [e0,A8b]
  by_cases ht:Jb v e=Jb w f
  ·have e1:(Jb v e !=Jb w f)=false:=by simp [ht]
   rw [e1,A8b,Axx]
  ·have e1:(Jb v e !=Jb w f)=true:=by simp [ht]
   rw [e1,A77,Azr hs ht]
   cases (decide (Jb w f<Jb v e)==decide (0<Pr v))<;>rfl
 ·have e0:(Pr v !=Pr w)=true:=by simp [hs]
  rw [e0,A77,Arj hs,Ar (by omega) (by omega)]
open Go Go.Den Go.Cv Go.Proofs
set_option maxRecDepth 100000
namespace EqRefE
def A4.Value.Bf:List (Nat × Entry):=[(143,Ag.Neg.spec),(115,Ag.Of.spec),(109,Ai.Of.spec),(141,A4.Mh.spec),(142,A4.Neg.spec),(140,A4.Power.spec)]
def A4.Value.E:Env:=Bk (Be A4.Value.Bf) (fun _=>false) (fun _=>none) (fun _=>none)
theorem A4.Value.ev (N:Nat) (x:Int):B6 A4.Value.E N f63 (As f63) [.int .u64 x]=bif (Rt x) then bif (Afa (Ad (Db x))) then bif (Rt x) then bif (Bc 0 (Og x)) then bif (Rt x) then bif (Afa (Ad (Bj ((Db x)+4503599627370496)))) then bif (Rt x) then bif (Al x) then bif (Em x) then bif (Ll (A2 ((Ad (Bj ((Db x)+4503599627370496))))) (Ah ((Ad (Bj ((Db x)+4503599627370496)))))) then bif (Ll (A2 (- wv (A2 ((Ad (Bj ((Db x)+4503599627370496))))) (Ah ((Ad (Bj ((Db x)+4503599627370496))))))) (Ah (- wv (A2 ((Ad (Bj ((Db x)+4503599627370496))))) (Ah ((Ad (Bj ((Db x)+4503599627370496)))))))&&Vq (Ad ((Og x)-1075))) then some (.agg [.bool (A2 (mD (wv (A2 (- wv (A2 ((Ad (Bj ((Db x)+4503599627370496))))) (Ah ((Ad (Bj ((Db x)+4503599627370496))))))) (Ah (- wv (A2 ((Ad (Bj ((Db x)+4503599627370496))))) (Ah ((Ad (Bj ((Db x)+4503599627370496)))))))))),.ints .arg .u32 (Ah (mD (wv (A2 (- wv (A2 ((Ad (Bj ((Db x)+4503599627370496))))) (Ah ((Ad (Bj ((Db x)+4503599627370496))))))) (Ah (- wv (A2 ((Ad (Bj ((Db x)+4503599627370496))))) (Ah ((Ad (Bj ((Db x)+4503599627370496)))))))))),.int .i64 (eD (wv (A2 (- wv (A2 ((Ad (Bj ((Db x)+4503599627370496))))) (Ah ((Ad (Bj ((Db x)+4503599627370496))))))) (Ah (- wv (A2 ((Ad (Bj ((Db x)+4503599627370496))))) (Ah ((Ad (Bj ((Db x)+4503599627370496)))))))) (Ad ((Og x)-1075)))]) else none else none else bif (Ll (A2 ((Ad (Bj ((Db x)+4503599627370496))))) (Ah ((Ad (Bj ((Db x)+4503599627370496)))))&&Vq (Ad ((Og x)-1075))) then some (.agg [.bool (A2 (mD (wv (A2 ((Ad (Bj ((Db x)+4503599627370496))))) (Ah ((Ad (Bj ((Db x)+4503599627370496)))))))),.ints .arg .u32 (Ah (mD (wv (A2 ((Ad (Bj ((Db x)+4503599627370496))))) (Ah ((Ad (Bj ((Db x)+4503599627370496)))))))),.int .i64 (eD (wv (A2 ((Ad (Bj ((Db x)+4503599627370496))))) (Ah ((Ad (Bj ((Db x)+4503599627370496)))))) (Ad ((Og x)-1075)))]) else none else none else none else none else none else bif (Al x) then bif (Em x) then bif (Ll (A2 ((Ad (Db x)))) (Ah ((Ad (Db x))))) then bif (Ll (A2 (- wv (A2 ((Ad (Db x)))) (Ah ((Ad (Db x)))))) (Ah (- wv (A2 ((Ad (Db x)))) (Ah ((Ad (Db x))))))&&Vq (-1074:Int)) then some (.agg [.bool (A2 (mD (wv (A2 (- wv (A2 ((Ad (Db x)))) (Ah ((Ad (Db x)))))) (Ah (- wv (A2 ((Ad (Db x)))) (Ah ((Ad (Db x))))))))),.ints .arg .u32 (Ah (mD (wv (A2 (- wv (A2 ((Ad (Db x)))) (Ah ((Ad (Db x)))))) (Ah (- wv (A2 ((Ad (Db x)))) (Ah ((Ad (Db x))))))))),.int .i64 (eD (wv (A2 (- wv (A2 ((Ad (Db x)))) (Ah ((Ad (Db x)))))) (Ah (- wv (A2 ((Ad (Db x)))) (Ah ((Ad (Db x))))))) (-1074:Int))]) else none else none else bif (Ll (A2 ((Ad (Db x)))) (Ah ((Ad (Db x))))&&Vq (-1074:Int)) then some (.agg [.bool (A2 (mD (wv (A2 ((Ad (Db x)))) (Ah ((Ad (Db x))))))),.ints .arg .u32 (Ah (mD (wv (A2 ((Ad (Db x)))) (Ah ((Ad (Db x))))))),.int .i64 (eD (wv (A2 ((Ad (Db x)))) (Ah ((Ad (Db x))))) (-1074:Int))]) else none else none else none else none else none:=by kernel_rfl
abbrev _root_.Go.Proofs.S1.A4.Value.Kn:=A9 prog 63 A4.Value.spec
theorem A4.Value.Ae (hk:A3 prog A4.Value.Bf) (h:Hyp A4.Value.E f63 A4.Value.ts A4.Value.pre A4.Value.out):A4.Value.Kn :=
 Am (A5 hk _ _ _) func63 (by kernel_rfl) (by kernel_rfl) h
abbrev _root_.Go.Proofs.S1.A4.Value.q.Kn:Prop:=A9 prog 63 A4.Value.q.spec
end EqRefE
open Go Go.Den Go.Cv Go.Proofs
open EqRefE
theorem Aoc {n k:Nat} (h:n<2^(32*k)) {m:Nat} (hk:k<m):Du n<m:=A89 (Nb h) hk
theorem Wn (m:Nat):Ik false m=(m:Int):=rfl
theorem Aiq (m:Nat):Ik true m=-(m:Int):=rfl
theorem A4.Value.known:A4.Value.Kn:=A4.Value.Ae (.cons Ag.Neg.known (.cons Ag.Of.known (.cons Ai.Of.known (.cons A4.Mh.known (.cons A4.Neg.known (.cons A4.Power.known .nil)))))) fun x hp=>by
 obtain ⟨n,rfl,hn⟩:=Ca (x:=x) hp
 refine ⟨0,A4.Value.out [.i n],[],?_,wdy⟩
 show _=Arf (mD (H5 n)) (eD (H5 n) (Bi n))
 have hf:=L8 n
 have hw:=Lv n
 have small:∀ k:Nat,k<2^54→Du k<268435456:=fun k hk=>Aoc (k:=2) (Nat.lt_trans hk (by decide)) (by omega)
 have o1:∀ k:Nat,k<2^54→Ll (A2 (k:Int)) (Ah (k:Int))=true:=fun k hk=>Ix (by rw [Int.natAbs_natCast]; exact small k hk)
 have o2:∀ k:Nat,k<2^54→Ll (A2 (-(k:Int))) (Ah (-(k:Int)))=true:=fun k hk=>Ix (by rw [Int.natAbs_neg,Int.natAbs_natCast]; exact small k hk)
 rw [A4.Value.ev]
 unfold Db Og Em H5 Bi
 simp only [Ft,A79]
 have e1:Ad ((C9 n:Nat):Int)=((C9 n:Nat):Int):=Ar (by omega) (by omega)
 have e2:Ad (Bj (((C9 n:Nat):Int)+4503599627370496))=((C9 n+2^52:Nat):Int):=by
  rw [Dd (by omega) (by omega),Ar (by omega) (by omega)]; omega
 have i1:∀ k:Nat,k<2^54→Afa (k:Int)=true:=fun k hk=>Ao.2 (by omega)
 rw [Pd,Co hn,e1,e2,i1 _ (by omega),i1 _ (by omega),Aw,Ar (by omega) (by omega)]
 simp only [A77]
 unfold An Av
 by_cases h:D5 n=0
 ·have o3:Vq (-1074)=true:=Ao.2 (by omega)
  rw [A8u h,A8u h,A8c (by omega),A8b,o1 _ (by omega),o2 _ (by omega),o3]
  cases Bp n
  ·rw [A8b,Wn]; rfl
  ·rw [A77,Aiq]; rfl
 ·have o3:Vq ((D5 n:Int)-1075)=true:=Ao.2 (by omega)
  rw [A8t h,A8t h,A78 (by omega),A77,o1 _ (by omega),o2 _ (by omega),o3]
  cases Bp n
  ·rw [A8b,Wn]; rfl
  ·rw [A77,Aiq]; rfl
theorem Asr {m t:Nat} (h:m<2^t) (h0:m≠0):T1 m<t:=A89 (Asq h0) ((A9n h0).2 h)
theorem Afx (b:Nat):(H5 (b:Int)).natAbs=An b:=by
 unfold H5 Ik
 rw [A79]
 split<;>omega
theorem A0r (b:Nat):Du (H5 (b:Int)).natAbs<3∧-400000≤eD (H5 (b:Int)) (Av b)∧eD (H5 (b:Int)) (Av b)≤400000:=by
 have hm:=Fx b
 have he:=Cu b
 have ha:=Afx b
 refine ⟨Aoc (k:=2) (by rw [ha]; exact Nat.lt_trans hm (by decide)) (by omega),?_⟩
 unfold eD
 by_cases h:H5 (b:Int)=0
 ·rw [A8u h]; omega
 ·rw [A8t h]
  have:=Asr (m:=(H5 (b:Int)).natAbs) (t:=53) (by rw [ha]; exact hm) (by omega)
  omega
open Go Go.Den Go.Cv Go.Proofs
theorem Ag0 {r:Nat} (h:r<2^63):Eh r=((2^63+r:Nat):Int):=by
 unfold Eh; rw [A79,Vt h]
theorem Py {r:Nat} (h:r<2^63) (n:Bool):(bif n then (bif (Al (r:Int)) then some (DV.int .u64 (Eh r)) else none) else some (DV.int .u64 r))=some (DV.int .u64 ((Bx n r:Nat):Int)):=by
 cases n
 ·rfl
 ·rw [Co (by omega),Ag0 h]; rfl
theorem Qz (n:Bool) (m:Nat) (e:Int):Wu n m e=((Bx n (B1 m e):Nat):Int):=by
 unfold Wu; rw [A79]
theorem Alq {E M:Nat} (h1:1≤E) (h2:E≤2046) (h3:4503599627370496≤M) (h4:M<9007199254740992):E*2^52+M%2^52=min ((E-1)*2^52+M) Ei:=by
 obtain ⟨k,rfl⟩:∃ k,E=k+1:=⟨E-1,by omega⟩
 obtain ⟨r,rfl⟩:∃ r,M=2^52+r:=⟨M-2^52,by omega⟩
 have hr:r<2^52:=by omega
 have hm:(2^52+r)%2^52=r:=by rw [Nat.add_mod_left,A8k hr]
 have hk:k*2^52≤2045*2^52:=A8j _ (by omega)
 have hi:Ei=2045*2^52+2^52+2^52:=by unfold Ei; rfl
 rw [hm,Nat.add_sub_cancel,Nat.succ_mul,hi]
 generalize 2^52=c at *
 omega
theorem soft.Pack.known:soft.Pack.Kn:=EqSoft.soft.Pack.Ae (.cons soft.Gw.known .nil) fun rk n m e hp hr=>by
 have hp:=Ao.1 (show Na m e=true from hp)
 have hr:Rm m e<rk+1:=hr
 obtain ⟨m0,m1,e0,e1⟩:=hp
 obtain ⟨M,rfl⟩:∃ M:Nat,m=M:=⟨m.toNat,by omega⟩
 refine ⟨0,soft.Pack.out [.b n,.i M,.i e],[],?_,.int⟩
 rw [EqSoft.soft.Pack.ev]
 show _=some (DV.int .u64 (Wu n M e))
 rw [Qz]
 unfold Rm at hr
 by_cases h0:M=0
 ·subst h0
  have:=Py (r:=0) (by decide) n
  have e0:B1 0 e=0:=rfl
  rw [e0]
  simpa using this
 ·have b0:((M:Int)==0)=false:=by simp; omega
  rw [b0,A8b]
  by_cases h1:M=9007199254740992
  ·have b1:E8 (9007199254740992:Int) (M:Int)=true:=by rw [Fe]; simp; omega
   have s1:Eb .u64 (M:Int) (1:Int)=((2^52:Nat):Int):=by
    rw [show (1:Int)=((1:Nat):Int) from rfl,Ir .u64 M 1 (by decide),h1]
   have w1:Ad (e+1)=e+1:=Ar (by omega) (by omega)
   rw [A8u (by omega)] at hr
   have p1:Na ((2^52:Nat):Int) (e+1)=true:=Ao.2 (by omega)
   have p2:Cr (Rm ((2^52:Nat):Int) (e+1)<rk)=true:=Ao.2 (by
    unfold Rm
    rw [A8t (by omega),A8t (by omega)]; omega)
   rw [b1,s1,w1,p1,p2,Qz,h1]
   have:=(Di (2^52) 1 (e+1)).1
   have e2:e+1-((1:Nat):Int)=e:=by omega
   rw [e2] at this
   rw [← this]; rfl
  ·have b1:E8 (9007199254740992:Int) (M:Int)=false:=by rw [Fe]; simp; omega
   rw [b1,A8b]
   rw [A8t (by omega)] at hr
   by_cases h2:M<4503599627370496
   ·have b2:Bc (M:Int) (4503599627370496:Int)=true:=by rw [Aw]; simp; omega
    rw [A8u (by omega)] at hr
    by_cases h3:e=-1074
    ·subst h3
     have b3:Bc (-1074:Int) (-1074)=false:=by decide
     rw [b2,b3,A9k,A8b,A77,Abt h2]
     exact Py (by omega) n
    ·have b3:Bc (-1074:Int) e=true:=by rw [Aw]; simp; omega
     have s1:B7 .u64 (M:Int) (1:Int)=((M*2^1:Nat):Int):=by
      rw [show (1:Int)=((1:Nat):Int) from rfl,Gv M 1 (by decide),A8k (by omega)]
     have w1:Ad (e-1)=e-1:=Ar (by omega) (by omega)
     have p1:Na ((M*2^1:Nat):Int) (e-1)=true:=Ao.2 (by omega)
     have p2:Cr (Rm ((M*2^1:Nat):Int) (e-1)<rk)=true:=Ao.2 (by
      unfold Rm
      rw [A8t (by omega)]
      split<;>omega)
     rw [b2,b3,s1,w1,p1,p2,Qz]
     have:=(Di M 1 e).1
     have e2:e-((1:Nat):Int)=e-1:=by omega
     rw [e2] at this
     rw [this]; rfl
   ·have b2:Bc (M:Int) (4503599627370496:Int)=false:=by rw [Aw]; simp; omega
    have w1:Ad (e+1075)=e+1075:=Ar (by omega) (by omega)
    rw [b2,w1,Bool.false_and,A8b,A8b]
    have hr:=Ub (m:=M) (e:=e) (by omega) (by omega) e0
    by_cases h4:2047≤e+1075
    ·have b4:E8 (2047:Int) (e+1075)=true:=by rw [Fe]; simp; omega
     have:B1 M e=9218868437227405312:=by rw [hr,Fl]; omega
     rw [b4,this,A77]
     exact Py (r:=9218868437227405312) (by decide) n
    ·have b4:E8 (2047:Int) (e+1075)=false:=by rw [Fe]; simp; omega
     obtain ⟨E,hE⟩:∃ E:Nat,e+1075=E:=⟨(e+1075).toNat,by omega⟩
     have s1:J8 .u64 (B7 .u64 (Bj (e+1075)) (52:Int)) (Hd .u64 (M:Int) (4503599627370495:Int))=((B1 M e:Nat):Int):=by
      rw [hE,Dd (by omega) (by omega),show (52:Int)=((52:Nat):Int) from rfl,Gv E 52 (by decide),A8k (by omega),
       show (4503599627370495:Int)=((2^52-1:Nat):Int) from rfl,Jz 52 (by omega) (by decide),Pn (by omega) (by omega)]
      have hE2:(e+1074).toNat=E-1:=by omega
      have hE3:1≤E∧E≤2046:=by omega
      have hM:4503599627370496≤M∧M<9007199254740992:=by omega
      rw [hr,hE2]
      exact congrArg (fun (x:Nat)=>(x:Int)) (Alq hE3.1 hE3.2 hM.1 hM.2)
     rw [b4,s1,A8b]
     exact Py (Jr M e) n
open Go Go.Den Go.Cv Go.Proofs
open EqSoft
theorem Asu {D:Nat} (h:D≤63):2^D<2^64:=Nat.pow_lt_pow_right (by decide) (by omega)
theorem Se (n:Bool) {r:Nat} (h:r<2^63):Us .u64 ((Bx n r:Nat):Int) (9223372036854775808:Int)=(r:Int):=by
 have hs:Bx n r<2^64:=by unfold Bx; split<;>omega
 unfold Us
 rw [show (9223372036854775808:Int)=((2^63:Nat):Int) from rfl,BitVec.toNat_and,BitVec.toNat_not,K7,K7,show IntKind.u64.bits=64 from rfl,A8k hs,
  show 2^64-1-2^63%2^64=2^63-1 by decide,Nat.and_two_pow_sub_one_eq_mod]
 have:Bx n r%2^63=r:=by unfold Bx; cases n<;>simp<;>omega
 rw [this]
 exact Aab (by omega)
theorem Alz (N:Nat) (ex n:Bool) {r:Nat} (h:r≤Ei):soft.Dn.C18 N ex ((Bx n r:Nat):Int)=some (.tup [.int .u64 ((Bx n r:Nat):Int),.int .u8 ((flags r ex:Nat):Int)]):=by
 have h63:r<2^63:=by rw [Fl] at h; omega
 have hs:Bx n r<2^64:=by unfold Bx; split<;>omega
 rw [soft.Dn.A2v,Se n h63,Co hs]
 unfold A7 flags
 rw [A79,Yt n h]
 have hinf:(((r:Nat):Int)==(9218868437227405312:Int))=decide (r=Ei):=by
  rw [Fl,A8n]; simp; omega
 rw [hinf]
 by_cases h1:r=Ei
 ·simp [h1]
 ·by_cases h2:2^52≤r
  ·cases ex<;>simp [h1]<;>simp [show 4503599627370496≤r by omega]
  ·by_cases h3:0<r
   ·cases ex<;>simp [h1,h3]<;>simp [show ¬ 4503599627370496≤r by omega]
   ·cases ex<;>simp [h1,h3]<;>simp [show ¬ 4503599627370496≤r by omega]
theorem Aqk (N:Nat) (n:Bool) {m:Nat} {e:Int} (he:-1140≤e∧e≤50000) (r:Bool):∀ (k d F:Nat),d+k=62→k<F→(∀ d',d'<d→2^53≤m / 2^d'∨e+d' < -1074) →
 ∃ D:Nat,soft.Dn.L0 N F n m e r (d:Int)=soft.Dn.C7 N n m e r (D:Int)∧Drop m e D:=by
 intro k
 induction k with
 | zero =>
   intro d F hd hF hl
   obtain ⟨F,rfl⟩:∃ G,F=G+1:=⟨F-1,by omega⟩
   obtain rfl:d=62:=by omega
   rw [soft.Dn.A1,Ir .u64 m 62 (by decide),Ar (by omega) (by omega),Ar (by omega) (by omega),Fe,Aw]
   have a0:decide ((0:Int)≤((62:Nat):Int))=true:=by decide
   have a1:((((62:Nat):Int)+1)==63)=true:=by decide
   rw [a0,A77,a1,A77]
   by_cases h:2^53≤m / 2^62∨e+(62:Nat) < -1074
   ·refine ⟨63,?_,by omega,by omega,fun d' hd'=>?_⟩
    ·have:(decide ((9007199254740992:Int)≤((m / 2^62:Nat):Int))||decide (e+((62:Nat):Int) < -1074))=true:=by
      simp only [Bool.or_eq_true,A8e]; omega
     rw [this]; rfl
    ·rcases A84 d' 62 with h' | h'
     ·exact hl d' h'
     ·obtain rfl:d'=62:=by omega
      exact h
   ·refine ⟨62,?_,by omega,fun _=>by omega,hl⟩
    have:(decide ((9007199254740992:Int)≤((m / 2^62:Nat):Int))||decide (e+((62:Nat):Int) < -1074))=false:=by
     simp only [Bool.or_eq_false_iff,A8q]; omega
    rw [this]; rfl
 | succ k ih =>
   intro d F hd hF hl
   obtain ⟨F,rfl⟩:∃ G,F=G+1:=⟨F-1,by omega⟩
   rw [soft.Dn.A1,Ir .u64 m d (by show d≤64; omega),Ar (by omega) (by omega),Ar (by omega) (by omega),Fe,Aw]
   have a0:decide ((0:Int)≤(d:Int))=true:=by simp
   have a1:(((d:Int)+1)==63)=false:=by simp; omega
   rw [a0,A77,a1,A8b]
   by_cases h:2^53≤m / 2^d∨e+d < -1074
   ·have:(decide ((9007199254740992:Int)≤((m / 2^d:Nat):Int))||decide (e+(d:Int) < -1074))=true:=by
     simp only [Bool.or_eq_true,A8e]; omega
    rw [this,A77,show (d:Int)+1=((d+1:Nat):Int) by omega]
    refine ih (d+1) F (by omega) (by omega) fun d' hd'=>?_
    rcases A84 d' d with h' | h'
    ·exact hl d' h'
    ·obtain rfl:d'=d:=by omega
     exact h
   ·refine ⟨d,?_,by omega,fun _=>by omega,hl⟩
    have:(decide ((9007199254740992:Int)≤((m / 2^d:Nat):Int))||decide (e+(d:Int) < -1074))=false:=by
     simp only [Bool.or_eq_false_iff,A8q]; omega
    rw [this]; rfl
theorem Aqj (N:Nat) (n:Bool) {m D:Nat} (hm:m<2^64) {e:Int} (he:-1140≤e∧e≤50000) (r:Bool) (hD:D≤63) (hq:(if e+D < -1074 then 0 else qOf m D r.toNat)≤2^53) :
 soft.Dn.C7 N n m e r (D:Int)=soft.Dn.C18 N (decide (m%2^D=0∧r.toNat=0)) ((Bx n (B1 (if e+D < -1074 then 0 else qOf m D r.toNat) (max (e+D) (-1074))):Nat):Int):=by
 have hA:=B5 D
 have h2D:=Asu hD
 have hr:=Nat.mod_lt m hA
 have hqm:m / 2^D≤m:=Nat.div_le_self _ _
 rw [soft.Dn.A5q]
 have a0:decide ((0:Int)≤(D:Int))=true:=by simp
 have e1:Eb .u64 (m:Int) (D:Int)=((m / 2^D:Nat):Int):=Ir .u64 m D (by show D≤64; omega)
 have e2:B7 .u64 (1:Int) (D:Int)=((2^D:Nat):Int):=by
  rw [show (1:Int)=((1:Nat):Int) from rfl,Gv 1 D (by omega),Nat.one_mul,A8k h2D]
 have e3:Hd .u64 (m:Int) (Bj (B7 .u64 (1:Int) (D:Int)-(1:Int)))=((m%2^D:Nat):Int):=by
  rw [e2,Dd (by omega) (by omega),show ((2^D:Nat):Int)-1=((2^D-1:Nat):Int) by omega,Jz D hm (by omega)]
 have e5:(bif (((m%2^D:Nat):Int)==(0:Int)) then (!r) else false)=decide (m%2^D=0∧r.toNat=0):=by
  by_cases h:m%2^D=0
  ·cases r<;>simp [h]
  ·have:(((m%2^D:Nat):Int)==(0:Int))=false:=by simp only [A82,ne_eq]; omega
   rw [this]; simp [h]
 rw [a0,A77,A77,e1,e3,e5,Aw]
 have last:∀ (p:Bool) (q:Nat),q≤2^64-1→(if e+D < -1074 then 0 else q)≤2^53→soft.Dn.C14 N n e (D:Int) ((q:Nat):Int) p=soft.Dn.C18 N p ((Bx n (B1 (if e+D < -1074 then 0 else q) (max (e+D) (-1074))):Nat):Int):=by
  intro p q hq hq2
  rw [soft.Dn.A2y,Ar (by omega) (by omega),Aw]
  have c16:∀ q':Nat,q'≤2^53→soft.Dn.C16 N n e (q':Int) (D:Int) p=soft.Dn.C18 N p ((Bx n (B1 q' (max (e+D) (-1074))):Nat):Int):=by
   intro q' hq'
   rw [soft.Dn.A2x,Ar (by omega) (by omega)]
   have:Na (q':Int) (max (e+(D:Int)) (-1074))=true:=Ao.2 (by omega)
   rw [this,Qz]; rfl
  by_cases h:e+D < -1074
  ·rw [A8u h] at hq2 ⊢
   have:decide (e+(D:Int) < -1074)=true:=by simpa using h
   rw [this]
   exact c16 0 hq2
  ·rw [A8t h] at hq2 ⊢
   have:decide (e+(D:Int) < -1074)=false:=by simpa using h
   rw [this]
   exact c16 q hq2
 have up:∀ (half:Nat) (hh:0<D→half=2^(D-1)) (p:Bool),soft.Dn.C12 N n e r (D:Int) ((m / 2^D:Nat):Int) ((m%2^D:Nat):Int) (half:Int) p=soft.Dn.C18 N p ((Bx n (B1 (if e+D < -1074 then 0 else qOf m D r.toNat) (max (e+D) (-1074))):Nat):Int):=by
  intro half hh p
  rw [soft.Dn.A2z,Aw,Aw]
  have odd:(Hd .u64 ((m / 2^D:Nat):Int) (1:Int)==(1:Int))=decide (m / 2^D%2=1):=by
   rw [show (1:Int)=((2^1-1:Nat):Int) from rfl,Jz 1 (by omega) (by decide),A8n]
   simp only [beq_iff_eq,A8e]
   omega
  rw [odd]
  have test:(decide ((0:Int)<(D:Int))&&(decide ((half:Int)<((m%2^D:Nat):Int))||((((m%2^D:Nat):Int)==(half:Int))&&(r||decide (m / 2^D%2=1))))) =
   decide (0<D∧(2^(D-1)<m%2^D∨(m%2^D=2^(D-1)∧(r.toNat=1∨m / 2^D%2=1)))):=by
   rw [A8n]
   generalize m%2^D=rr
   generalize m / 2^D=qq
   generalize hg:2^(D-1)=gg at hh
   by_cases h0:0<D
   ·have:=hh h0
    subst this
    cases r<;>simp [h0]<;>omega
   ·simp [h0]
  rw [test]
  by_cases ht:0<D∧(2^(D-1)<m%2^D∨(m%2^D=2^(D-1)∧(r.toNat=1∨m / 2^D%2=1)))
  ·have hq1:qOf m D r.toNat=m / 2^D+1:=by unfold qOf; rw [A8u ht]
   have hlt:m / 2^D+1<2^64:=by
    obtain ⟨d,rfl⟩:∃ d,D=d+1:=⟨D-1,by omega⟩
    have h1:m / 2^(d+1)≤m / 2:=Nat.div_le_div_left (by rw [Nat.pow_succ]; have:=B5 d; omega) (by decide)
    omega
   rw [hq1] at hq ⊢
   rw [A78 ht,A77,Dd (by omega) (by omega),show ((m / 2^D:Nat):Int)+1=((m / 2^D+1:Nat):Int) by omega]
   exact last p _ (by omega) hq
  ·have hq1:qOf m D r.toNat=m / 2^D:=by unfold qOf; rw [A8t ht]; rfl
   rw [hq1] at hq ⊢
   rw [A8c ht,A8b]
   exact last p _ (by omega) hq
 rcases Nat.eq_zero_or_pos D with rfl | hpos
 ·have:decide ((0:Int)<((0:Nat):Int))=false:=by decide
  rw [this,A8b]
  exact up 0 (fun h=>absurd h (by omega)) _
 ·have h1:decide ((0:Int)<(D:Int))=true:=by simpa using hpos
  have h2:Ad ((D:Int)-1)=((D-1:Nat):Int):=by rw [Ar (by omega) (by omega)]; omega
  have h3:decide ((0:Int)≤((D-1:Nat):Int))=true:=by simp
  have h4:B7 .u64 (1:Int) ((D-1:Nat):Int)=((2^(D-1):Nat):Int):=by
   rw [show (1:Int)=((1:Nat):Int) from rfl,Gv 1 (D-1) (by omega),Nat.one_mul,A8k (Asu (by omega))]
  rw [h1,A77,h2,h3,A77,h4]
  exact up _ (fun _=>rfl) _
theorem soft.Dn.known:soft.Dn.Kn:=soft.Dn.Ae (.cons soft.Kind.known (.cons soft.Pack.known .nil)) fun n m e r hp=>by
 obtain ⟨m0,m1,e1,e2,hr⟩:=Ao.1 (show E0 m e r=true from hp)
 obtain ⟨M,rfl⟩:∃ M:Nat,m=M:=⟨m.toNat,by omega⟩
 refine ⟨63,soft.Dn.out [.b n,.i M,.i e,.b r],[],?_,Wk.Jp (.cons .int (.cons .int .nil))⟩
 show _=some (DV.tup [.int .u64 (Fj n M e r),.int .u8 (Fi n M e r)])
 unfold Fj Fi He
 rw [A79,soft.Dn.ev]
 dsimp only
 by_cases h0:M=0∧r=false
 ·obtain ⟨rfl,rfl⟩:=h0
  have:Na (0:Int) (-1074)=true:=Ao.2 (by omega)
  have hp0:=Qz n 0 (-1074)
  rw [this]
  simp only [A9q,Bool.and_true,A77,Bool.toNat_false]
  have hz:(((0:Nat):Int)==0)=true:=rfl
  rw [hz,A77]
  have hp0:Wu n (0:Int) (-1074)=((Bx n (B1 0 (-1074)):Nat):Int):=hp0
  have z:∀ E,B1 0 E=0:=fun E=>A8u rfl
  have z3:∀ E,flagsOf 0 E=0:=fun E=>A8u rfl
  rw [hp0,z,show 4*0+0=0 from rfl,z,z3]
  rfl
 ·have hc:((((M:Nat):Int)==(0:Int))&&!r)=false:=by
   cases r
   ·have:M≠0:=fun h=>h0 ⟨h,rfl⟩
    simp; omega
   ·simp
  rw [hc,A8b]
  have he:-1140≤e∧e≤50000:=by omega
  obtain ⟨D,hl,hD⟩:=Aqk 63 n (m:=M) he r 62 0 63 (by omega) (by omega) (fun d' h=>by omega)
  have hs:r.toNat≤1:=by cases r<;>decide
  have hV:4*M+r.toNat≠0:=by
   intro h
   refine h0 ⟨by omega,?_⟩
   cases r
   ·rfl
   ·simp at h
  obtain ⟨t1,t2,t3⟩:=Aqm hD hs hV (by omega) (by omega) (fun h=>by
   have:r=true:=by cases r<;>simp_all
   have:=hr this
   omega)
  have hl:soft.Dn.L0 63 63 n (M:Int) e r (0:Int)=soft.Dn.C7 63 n (M:Int) e r (D:Int):=hl
  rw [hl,Aqj 63 n (by omega) he r hD.le t3,← t1,Alz 63 _ n (Rj _ _),t2]
open Go Go.Den Go.Cv Go.Proofs
set_option maxRecDepth 100000
namespace EqSum
def sum.right.Bf:List (Nat × Entry):=[]
def sum.right.E:Env:=Bk (Be sum.right.Bf) (fun _=>false) (fun _=>none) (fun _=>none)
theorem sum.right.ev (N:Nat) (m d:Int):B6 sum.right.E N f249 (As f249) [.int .u64 m,.int .i64 d]=bif (Bc 63 d) then bif ((B7 .u64 (Eb .u64 m 63) 63) !=m) then some (.int .u64 (J8 .u64 (Eb .u64 m 63) 1)) else some (.int .u64 (Eb .u64 m 63)) else bif (decide (0≤d)) then bif (decide (0≤d)) then bif ((B7 .u64 (Eb .u64 m d) d) !=m) then some (.int .u64 (J8 .u64 (Eb .u64 m d) 1)) else some (.int .u64 (Eb .u64 m d)) else none else none:=by kernel_rfl
abbrev _root_.Go.Proofs.S1.sum.right.Kn:=A9 prog 249 sum.right.spec
theorem sum.right.Ae (hk:A3 prog sum.right.Bf) (h:Hyp sum.right.E f249 sum.right.ts sum.right.pre sum.right.out):sum.right.Kn :=
 Am (A5 hk _ _ _) func249 (by kernel_rfl) (by kernel_rfl) h
def sum.Ep.Bf:List (Nat × Entry):=[(148,soft.Finite.spec),(155,soft.Kind.spec)]
def sum.Ep.E:Env:=Bk (Be sum.Ep.Bf) (fun _=>false) (fun _=>none) (fun _=>none)
theorem sum.Ep.ev (N:Nat) (a b:Int):B6 sum.Ep.E N f248 (As f248) [.int .u64 a,.int .u64 b]=bif (Al a) then bif ((A7 a)==(4:Int)) then some (.tup [.int .u64 9221120237041090560,.int .u8 0]) else bif (Al b) then bif ((A7 b)==(4:Int)) then some (.tup [.int .u64 9221120237041090560,.int .u8 0]) else bif (Al a) then bif (Dk a) then some (.tup [.int .u64 b,.int .u8 0]) else bif (Al b) then bif ((Dk b)||(a==b)) then some (.tup [.int .u64 a,.int .u8 0]) else some (.tup [.int .u64 9221120237041090560,.int .u8 16]) else none else none else none else none :=
 Eq.trans (by kernel_rfl)
 (Fg (Fg rfl (Fg (Fg rfl (Fg (Fg rfl (Fg (Ay (Za (Dk b)) (Ay (Za (Dk b)) (Ay (tt8 (Dk b)) (Ay (tt6 (Dk b)) (C5 (tt5 _ _) rfl rfl))))) rfl)) rfl)) rfl)) rfl)
abbrev _root_.Go.Proofs.S1.sum.Ep.Kn:=A9 prog 248 sum.Ep.spec
theorem sum.Ep.Ae (hk:A3 prog sum.Ep.Bf) (h:Hyp sum.Ep.E f248 sum.Ep.ts sum.Ep.pre sum.Ep.out):sum.Ep.Kn :=
 Am (A5 hk _ _ _) func248 (by kernel_rfl) (by kernel_rfl) h
def sum.Add.Bf:List (Nat × Entry):=[(148,soft.Finite.spec),(212,soft.Dn.spec),(211,soft.Gh.spec),(213,soft.Sign.spec),(249,sum.right.spec),(248,sum.Ep.spec)]
def sum.Add.E:Env:=Bk (Be sum.Add.Bf) (fun _=>false) (fun _=>none) (fun _=>none)
theorem sum.Add.ev (N:Nat) (a b:Int):B6 sum.Add.E N f232 (As f232) [.int .u64 a,.int .u64 b]=bif (Al a) then bif ((!(Dk a))||(Al b)) then bif ((!(Dk a))||(!(Dk b))) then bif ((Al a&&Al b)&&(!(Dk a)||!(Dk b))) then some (.tup [.int .u64 (Md a b),.int .u8 (Zy a b)]) else none else bif (Al a) then bif (Al b) then bif (Al a) then bif (Al b) then bif (Bc (Bi a) (Bi b)) then bif (Al (B7 .u64 (Bu a) 9)&&Cr (0≤(Ad ((Bi b)-(Bi a)))∧(Ad ((Bi b)-(Bi a)))<1000000)) then bif ((Em b)==(Em a)) then bif (E0 (Bj ((B7 .u64 (Bu b) 9)+(Fz (B7 .u64 (Bu a) 9) (Ad ((Bi b)-(Bi a)))))) (Ad ((Bi b)-9)) false) then some (.tup [.int .u64 (Fj (Em b) (Bj ((B7 .u64 (Bu b) 9)+(Fz (B7 .u64 (Bu a) 9) (Ad ((Bi b)-(Bi a)))))) (Ad ((Bi b)-9)) false),.int .u8 (Fi (Em b) (Bj ((B7 .u64 (Bu b) 9)+(Fz (B7 .u64 (Bu a) 9) (Ad ((Bi b)-(Bi a)))))) (Ad ((Bi b)-9)) false)]) else none else bif (Bc (Fz (B7 .u64 (Bu a) 9) (Ad ((Bi b)-(Bi a)))) (B7 .u64 (Bu b) 9)) then bif (E0 (Bj ((B7 .u64 (Bu b) 9)-(Fz (B7 .u64 (Bu a) 9) (Ad ((Bi b)-(Bi a)))))) (Ad ((Bi b)-9)) false) then some (.tup [.int .u64 (Fj (Em b) (Bj ((B7 .u64 (Bu b) 9)-(Fz (B7 .u64 (Bu a) 9) (Ad ((Bi b)-(Bi a)))))) (Ad ((Bi b)-9)) false),.int .u8 (Fi (Em b) (Bj ((B7 .u64 (Bu b) 9)-(Fz (B7 .u64 (Bu a) 9) (Ad ((Bi b)-(Bi a)))))) (Ad ((Bi b)-9)) false)]) else none else bif (Bc (B7 .u64 (Bu b) 9) (Fz (B7 .u64 (Bu a) 9) (Ad ((Bi b)-(Bi a))))) then bif (E0 (Bj ((Fz (B7 .u64 (Bu a) 9) (Ad ((Bi b)-(Bi a))))-(B7 .u64 (Bu b) 9))) (Ad ((Bi b)-9)) false) then some (.tup [.int .u64 (Fj (Em a) (Bj ((Fz (B7 .u64 (Bu a) 9) (Ad ((Bi b)-(Bi a))))-(B7 .u64 (Bu b) 9))) (Ad ((Bi b)-9)) false),.int .u8 (Fi (Em a) (Bj ((Fz (B7 .u64 (Bu a) 9) (Ad ((Bi b)-(Bi a))))-(B7 .u64 (Bu b) 9))) (Ad ((Bi b)-9)) false)]) else none else some (.tup [.int .u64 0,.int .u8 0]) else none else bif (Al (B7 .u64 (Bu b) 9)&&Cr (0≤(Ad ((Bi a)-(Bi b)))∧(Ad ((Bi a)-(Bi b)))<1000000)) then bif ((Em a)==(Em b)) then bif (E0 (Bj ((B7 .u64 (Bu a) 9)+(Fz (B7 .u64 (Bu b) 9) (Ad ((Bi a)-(Bi b)))))) (Ad ((Bi a)-9)) false) then some (.tup [.int .u64 (Fj (Em a) (Bj ((B7 .u64 (Bu a) 9)+(Fz (B7 .u64 (Bu b) 9) (Ad ((Bi a)-(Bi b)))))) (Ad ((Bi a)-9)) false),.int .u8 (Fi (Em a) (Bj ((B7 .u64 (Bu a) 9)+(Fz (B7 .u64 (Bu b) 9) (Ad ((Bi a)-(Bi b)))))) (Ad ((Bi a)-9)) false)]) else none else bif (Bc (Fz (B7 .u64 (Bu b) 9) (Ad ((Bi a)-(Bi b)))) (B7 .u64 (Bu a) 9)) then bif (E0 (Bj ((B7 .u64 (Bu a) 9)-(Fz (B7 .u64 (Bu b) 9) (Ad ((Bi a)-(Bi b)))))) (Ad ((Bi a)-9)) false) then some (.tup [.int .u64 (Fj (Em a) (Bj ((B7 .u64 (Bu a) 9)-(Fz (B7 .u64 (Bu b) 9) (Ad ((Bi a)-(Bi b)))))) (Ad ((Bi a)-9)) false),.int .u8 (Fi (Em a) (Bj ((B7 .u64 (Bu a) 9)-(Fz (B7 .u64 (Bu b) 9) (Ad ((Bi a)-(Bi b)))))) (Ad ((Bi a)-9)) false)]) else none else bif (Bc (B7 .u64 (Bu a) 9) (Fz (B7 .u64 (Bu b) 9) (Ad ((Bi a)-(Bi b))))) then bif (E0 (Bj ((Fz (B7 .u64 (Bu b) 9) (Ad ((Bi a)-(Bi b))))-(B7 .u64 (Bu a) 9))) (Ad ((Bi a)-9)) false) then some (.tup [.int .u64 (Fj (Em b) (Bj ((Fz (B7 .u64 (Bu b) 9) (Ad ((Bi a)-(Bi b))))-(B7 .u64 (Bu a) 9))) (Ad ((Bi a)-9)) false),.int .u8 (Fi (Em b) (Bj ((Fz (B7 .u64 (Bu b) 9) (Ad ((Bi a)-(Bi b))))-(B7 .u64 (Bu a) 9))) (Ad ((Bi a)-9)) false)]) else none else some (.tup [.int .u64 0,.int .u8 0]) else none else none else none else none else none else none else none :=
 Eq.trans (by kernel_rfl)
 (Fg (Ay (Af4 (Dk a)) (C5 (Asz _ _) (Ay (Ux (Dk a)) (Ay (Af5 (Dk a)) (C5 (Axq _ _) rfl rfl))) rfl)) rfl)
abbrev _root_.Go.Proofs.S1.sum.Add.Kn:=A9 prog 232 sum.Add.spec
theorem sum.Add.Ae (hk:A3 prog sum.Add.Bf) (h:Hyp sum.Add.E f232 sum.Add.ts sum.Add.pre sum.Add.out):sum.Add.Kn :=
 Am (A5 hk _ _ _) func232 (by kernel_rfl) (by kernel_rfl) h
def sum.Sub.Bf:List (Nat × Entry):=[(233,soft.Gw.spec),(232,sum.Add.spec)]
def sum.Sub.E:Env:=Bk (Be sum.Sub.Bf) (fun _=>false) (fun _=>none) (fun _=>none)
theorem sum.Sub.ev (N:Nat) (a b:Int):B6 sum.Sub.E N f207 (As f207) [.int .u64 a,.int .u64 b]=bif (Al b) then bif (Al a&&Al (Eh b)) then some (.tup [.int .u64 (Md a (Eh b)),.int .u8 (Zy a (Eh b))]) else none else none:=by kernel_rfl
abbrev _root_.Go.Proofs.S1.sum.Sub.Kn:=A9 prog 207 sum.Sub.spec
theorem sum.Sub.Ae (hk:A3 prog sum.Sub.Bf) (h:Hyp sum.Sub.E f207 sum.Sub.ts sum.Sub.pre sum.Sub.out):sum.Sub.Kn :=
 Am (A5 hk _ _ _) func207 (by kernel_rfl) (by kernel_rfl) h
end EqSum
end Go.Proofs.S1
end
