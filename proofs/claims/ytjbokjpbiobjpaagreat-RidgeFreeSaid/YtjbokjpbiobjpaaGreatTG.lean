/- A verified evaluator of the program's form and its use for this seat: S1PRefD, S1EqRefA, S1PRefA, S1PRefAa, S1EqRefB, S1PRefB, S1PRefBa, S1EqRefC, S1PRefC, S1PRefCa, S1EqRefE, S1PRefV, S1PPack, S1PNear, S1EqSum, S1PSum. -/
import Derived.Test.YtjbokjpbiobjpaaGreatTF
import Derived.Test.YtjbokjpbiobjpaaGreatTD
set_option linter.unusedVariables false
set_option linter.unusedSimpArgs false
noncomputable section
open Int (toNat)
open List (length getD)
open Go.Proofs.Tryz
namespace Go.Proofs.S1
open Go Go.Den Go.Rnd Go.Proofs
open EqRefD
theorem Kb (n m:Nat):Int.tdiv (n:Int) (m:Int)=((n / m:Nat):Int):=rfl
theorem Ka (n m:Nat):Int.tmod (n:Int) (m:Int)=((n%m:Nat):Int):=rfl
theorem Avf:(9223372036854775808:Int)=((2^63:Nat):Int):=rfl
theorem Avg:(4503599627370496:Int)=((2^52:Nat):Int):=rfl
theorem A1.Neg.known:A1.Neg.Kn:=A1.Neg.Ac .nil fun x hp=>by
 obtain ⟨n,rfl,hn⟩:=Bm (x:=x) hp
 refine ⟨0,A1.Neg.out [.i n],[],?_,.bool⟩
 rw [A1.Neg.ev,Avf,Kb,Dp (by omega) (by omega)]
 show _=some (DV.bool (D0 n))
 unfold D0 Bk
 rw [A1j]
 congr 2
 rw [A1x]
 simp only [beq_iff_eq,A1o]
 omega
theorem A1.Power.known:A1.Power.Kn:=A1.Power.Ac .nil fun x hp=>by
 obtain ⟨n,rfl⟩:=U8 (x:=x) hp
 refine ⟨0,A1.Power.out [.i n],[],?_,.int⟩
 rw [A1.Power.ev,Avf,Avg,Ka,Kb,Dp (by omega) (by omega),Am (by omega) (by omega)]
 show _=some (DV.int .i64 (Mb n))
 unfold Mb Db
 rw [A1j]
 congr 2
 have:n%2^63 / 2^52=n / 2^52%2048:=by omega
 rw [this]
theorem A1.Ks.known:A1.Ks.Kn:=A1.Ks.Ac .nil fun x hp=>by
 obtain ⟨n,rfl⟩:=U8 (x:=x) hp
 refine ⟨0,A1.Ks.out [.i n],[],?_,.int⟩
 rw [A1.Ks.ev,Avg,Ka]
 rfl
theorem A1.Kind.known:A1.Kind.Kn:=A1.Kind.Ac (.cons A1.Ks.known (.cons A1.Power.known .nil)) fun x hp=>by
 obtain ⟨n,rfl⟩:=U8 (x:=x) hp
 refine ⟨0,A1.Kind.out [.i n],[],?_,.int⟩
 rw [A1.Kind.ev,I1]
 show _=some (DV.int .i64 (A5 n))
 unfold A5 Ah Mb C3
 simp only [A1j,A1h,Au]
 have:=I9 n
 by_cases h1:Db n=2047
 ·by_cases h2:Cm n=0
  ·simp [h1,h2]
  ·have:((Cm n:Int)==0)=false:=by simp; exact h2
   simp [h1,this,h2]
 ·have h1':((Db n:Int)==2047)=false:=by simp; omega
  rw [h1']
  by_cases h3:0<Db n
  ·simp [h1,h3]
  ·by_cases h4:0<Cm n
   ·simp [h1,h3,h4]
   ·simp [h1,h3,h4]
theorem A1.Finite.known:A1.Finite.Kn:=A1.Finite.Ac (.cons A1.Power.known .nil) fun x hp=>by
 obtain ⟨n,rfl,hn⟩:=Bm (x:=x) hp
 refine ⟨0,A1.Finite.out [.i n],[],?_,.bool⟩
 rw [A1.Finite.ev,I1,A1h,Au]
 show _=some (DV.bool (Ck n))
 unfold Ck Ig Mb
 rw [A1j]
 have:decide ((Db n:Int)<2047)=decide (Db n<2047):=decide_eq_decide.2 (by omega)
 rw [this]
theorem A1.De.known:A1.De.Kn:=A1.De.Ac (.cons A1.Neg.known .nil) fun x hp=>by
 obtain ⟨n,rfl,hn⟩:=Bm (x:=x) hp
 refine ⟨0,A1.De.out [.i n],[],?_,.int⟩
 rw [A1.De.ev,B5 hn,A1h]
 show _=some (DV.int .u64 (Cr n))
 unfold Cr Gb D0 Bk
 rw [A1j,O2,O2]
 by_cases h:2^63≤n
 ·have e:((n:Int)-9223372036854775808)%18446744073709551616=((n-2^63:Nat):Int):=by omega
  rw [A14 h,A1i h,A1h,e]
 ·have e:((n:Int)+9223372036854775808)%18446744073709551616=((n+2^63:Nat):Int):=by omega
  rw [A13 h,A1m h,A1l,e]
theorem Ek.Canon.known:Ek.Canon.Kn:=Ek.Canon.Ac (.cons A1.Kind.known .nil) fun x hp=>by
 obtain ⟨n,rfl⟩:=U8 (x:=x) hp
 refine ⟨0,Ek.Canon.out [.i n],[],?_,.int⟩
 rw [Ek.Canon.ev,I1,A1h]
 show _=some (DV.int .u64 (Aav n))
 unfold Aav D3 A5
 rw [A1j]
 by_cases h:Ah n=4
 ·have:((Ah n:Int)==4)=true:=by simp; omega
  rw [this,A14 h]; rfl
 ·have:((Ah n:Int)==4)=false:=by simp; omega
  rw [this,A13 h]; rfl
theorem Anu {n m:Nat} (h:Qw n m):D3 n=D3 m:=by
 rcases h with rfl | ⟨h1,h2⟩
 ·rfl
 ·unfold F1 at h1 h2
  rw [Zp n] at h1
  rw [Zp m] at h2
  unfold D3
  rw [A14 (A17 h1),A14 (A17 h2)]
theorem Atn {c:Ctx} {w:World} {d:DV} {vs:List Value} (h:Bf c w [d] vs):∃ v,vs=[v]∧Ap c w d v:=by
 simp only [Bf] at h
 obtain ⟨u,us,rfl,hv,rfl⟩:=h
 exact ⟨u,rfl,hv⟩
theorem Ek.Canon.Aqc:Ek.Canon.nb.Kn:=by
 refine ⟨fun args ha=>?_,Ek.Canon.known.call⟩
 unfold Ek.Canon.nb.spec entry at ha ⊢
 simp only at ha ⊢
 cases hd:M3 [.nb] args with
 | none=>rw [hd] at ha; cases ha
 | some bs =>
   rw [hd] at ha
   obtain ⟨ds,h1,h2⟩:=Mz hd
   obtain ⟨x,_,_,rfl,rfl,he⟩:=h1.Awm
   obtain ⟨rfl,rfl⟩:=he.Aea
   refine O0.args (args:=[.nb x]) ?_ h2
   intro w vals I hI hl
   obtain ⟨v,hv,hr⟩:=Atn hl
   simp only [Ap] at hr
   obtain ⟨m,rfl,hm⟩:=hr
   have e:Ek.Canon.nb.out [.f x]=Ek.Canon.spec.out [.int .u64 (m:Int)]:=by
    show DV.int .u64 (Gc x)=DV.int .u64 (Aav (m:Int))
    unfold Gc Aav
    rw [A1j,Anu hm]
   show Calls _ _ _ _ fun e' w'=>∃ v own,e'=.returned v∧Go.RowKit.Below w.heap.size w w'∧Al0 own w w'∧Ap (D2 I own w w') w' (Ek.Canon.nb.out [.f x]) v
   rw [e]
   exact Ek.Canon.known.meets [.int .u64 (m:Int)] (I1 m) w vals I hI (by rw [hv]; exact ⟨_,_,rfl,rfl,rfl⟩)
set_option maxRecDepth 100000
namespace EqRefA
def Ag.Jl.A9:List (Nat × Entry):=[]
def Ag.Jl.E:Env:=Ba (A8 Ag.Jl.A9) (fun _=>false) (fun _=>none) (fun _=>none)
theorem Ag.Jl.ev (N:Nat) (l:List Int) (i:Int):Bw Ag.Jl.E N f221 (An f221) [.ints .arg .u32 l,.int .i64 i]=bif ((Em 0 i)&&(A6 i (length l:Int))) then bif ((decide (0≤i))&&(decide (i<(length l:Int)))) then some (.int .u64 (Bl (getD l (toNat i) 0))) else none else some (.int .u64 0) :=
 Eq.trans (by kernel_rfl)
 (Ax (Qq (Em 0 i)) (Ax (Qq (Em 0 i)) (Ax (Ma (Em 0 i)) (Ax (Afi (Em 0 i)) (Ax (Uf (Em 0 i)) (C9 (tt1 (Em 0 i) (A6 i (length l:Int))) rfl rfl))))))
abbrev _root_.Go.Proofs.S1.Ag.Jl.Kn:=A4 prog 221 Ag.Jl.spec
theorem Ag.Jl.Ac (hk:Az prog Ag.Jl.A9) (h:Hyp Ag.Jl.E f221 Ag.Jl.ts Ag.Jl.pre Ag.Jl.out):Ag.Jl.Kn :=
 Al (A0 hk _ _ _) func221 (by kernel_rfl) (by kernel_rfl) h
def Ag.Made.hint:Nat→Option Be
 | 0=>some { keep:=[0,1,4,5],objs:=[],boxes:=[4] }
 | _=>none
def Ag.Made.A9:List (Nat × Entry):=[]
def Ag.Made.E:Env:=Ba (A8 Ag.Made.A9) (fun _=>false) Ag.Made.hint (fun _=>none)
section
variable (N M:Nat) (n:Bool) (l:List Int) (p5:Int)
def Ag.Made.L0:Option DV:=B2 Ag.Made.E N f171 (An f171) [1,1,0,0] [] M ⟨Gz 28 [(0,.bool n),(1,.ints .arg .u32 l),(4,.ptr 4 0 0),(5,.int .i64 p5)],[(4,false,.box [.bool false,.nil])]⟩
theorem Ag.Made.Av:Ag.Made.L0 N (M+1) n l p5=bif ((!(A6 0 p5))||((decide (0≤(Ab (p5-1))))&&(decide ((Ab (p5-1))<(length l:Int))))) then bif ((A6 0 p5)&&((getD l (toNat (Ab (p5-1))) 0)==(0:Int))) then Ag.Made.L0 N M n l (Ab (p5-1)) else bif (p5==(0:Int)) then some (.agg [.bool false,.nil]) else bif ((decide ((0:Int)≤p5))&&(decide (p5≤(length l:Int)))) then some (.agg [.bool n,.ints .arg .u32 (List.take (toNat p5) l)]) else none else none :=
 Eq.trans (by kernel_rfl)
 (Ax (Qq (A6 0 p5)) (Ax (Qq (A6 0 p5)) (Ax (Ma (A6 0 p5)) (C9 (Az8 (A6 0 p5) (decide (0≤(Ab (p5-1)))) (decide ((Ab (p5-1))<(length l:Int)))) (Ax (Ma (A6 0 p5)) (Ax (Ma (A6 0 p5)) (Ax (Uf (A6 0 p5)) (C9 (tt1 (A6 0 p5) ((getD l (toNat (Ab (p5-1))) 0)==(0:Int))) rfl (Et rfl (C9 (Nh (decide ((0:Int)≤p5)) (decide (p5≤(length l:Int)))) rfl rfl)))))) rfl))))
theorem Ag.Made.ev:Bw Ag.Made.E N f171 (An f171) [.bool n,.ints .arg .u32 l] =
 Ag.Made.L0 N N n l (length l:Int):=by kernel_rfl
end
abbrev _root_.Go.Proofs.S1.Ag.Made.Kn:=A4 prog 171 Ag.Made.spec
theorem Ag.Made.Ac (hk:Az prog Ag.Made.A9) (h:Hyp Ag.Made.E f171 Ag.Made.ts Ag.Made.pre Ag.Made.out):Ag.Made.Kn :=
 Al (A0 hk _ _ _) func171 (by kernel_rfl) (by kernel_rfl) h
def Ag.Of.A9:List (Nat × Entry):=[(171,Ag.Made.spec)]
def Ag.Of.E:Env:=Ba (A8 Ag.Of.A9) (fun _=>false) (fun _=>none) (fun _=>none)
theorem Ag.Of.ev (N:Nat) (n:Int):Bw Ag.Of.E N f115 (An f115) [.int .i64 n]=bif (A6 n 0) then bif (Ia [(J9 (Int.tmod (Bl ((Bl (Ab (0-(Ab (n+1)))))+1)) 4294967296)),(J9 (Bl (Int.tdiv (Bl ((Bl (Ab (0-(Ab (n+1)))))+1)) 4294967296)))]) then some (.agg [.bool (Bj (wv true [(J9 (Int.tmod (Bl ((Bl (Ab (0-(Ab (n+1)))))+1)) 4294967296)),(J9 (Bl (Int.tdiv (Bl ((Bl (Ab (0-(Ab (n+1)))))+1)) 4294967296)))])),.ints .arg .u32 (Aq (wv true [(J9 (Int.tmod (Bl ((Bl (Ab (0-(Ab (n+1)))))+1)) 4294967296)),(J9 (Bl (Int.tdiv (Bl ((Bl (Ab (0-(Ab (n+1)))))+1)) 4294967296)))]))]) else none else bif (Ia [(J9 (Int.tmod n 4294967296)),(J9 (Ab (Int.tdiv n 4294967296)))]) then some (.agg [.bool (Bj (wv false [(J9 (Int.tmod n 4294967296)),(J9 (Ab (Int.tdiv n 4294967296)))])),.ints .arg .u32 (Aq (wv false [(J9 (Int.tmod n 4294967296)),(J9 (Ab (Int.tdiv n 4294967296)))]))]) else none:=by kernel_rfl
abbrev _root_.Go.Proofs.S1.Ag.Of.Kn:=A4 prog 115 Ag.Of.spec
theorem Ag.Of.Ac (hk:Az prog Ag.Of.A9) (h:Hyp Ag.Of.E f115 Ag.Of.ts Ag.Of.pre Ag.Of.out):Ag.Of.Kn :=
 Al (A0 hk _ _ _) func115 (by kernel_rfl) (by kernel_rfl) h
def Ag.Ik.hint:Nat→Option Be
 | 0=>some { keep:=[0,1,5],objs:=[],boxes:=[] }
 | _=>none
def Ag.Ik.A9:List (Nat × Entry):=[(221,Ag.Jl.spec)]
def Ag.Ik.E:Env:=Ba (A8 Ag.Ik.A9) (fun _=>false) Ag.Ik.hint (fun _=>none)
section
variable (N M:Nat) (a b:List Int) (p5:Int)
def Ag.Ik.L0:Option DV:=B2 Ag.Ik.E N f176 (An f176) [1,0,1,0] [] M ⟨Gz 29 [(0,.ints .arg .u32 a),(1,.ints .arg .u32 b),(5,.int .i64 p5)],[]⟩
theorem Ag.Ik.Av:Ag.Ik.L0 N (M+1) a b p5=bif (Em 0 p5) then bif (Ia a) then bif (Ia b) then bif (A6 (Hh a p5) (Hh b p5)) then some (.int .i64 (-1:Int)) else bif (Ia a) then bif (Ia b) then bif (A6 (Hh b p5) (Hh a p5)) then some (.int .i64 1) else Ag.Ik.L0 N M a b (Ab (p5-1)) else none else none else none else none else some (.int .i64 0):=by kernel_rfl
theorem Ag.Ik.ev:Bw Ag.Ik.E N f176 (An f176) [.ints .arg .u32 a,.ints .arg .u32 b] =
 Ag.Ik.L0 N N a b (max (length a:Int) (length b:Int)):=by kernel_rfl
end
abbrev _root_.Go.Proofs.S1.Ag.Ik.Kn:=A4 prog 176 Ag.Ik.spec
theorem Ag.Ik.Ac (hk:Az prog Ag.Ik.A9) (h:Hyp Ag.Ik.E f176 Ag.Ik.ts Ag.Ik.pre Ag.Ik.out):Ag.Ik.Kn :=
 Al (A0 hk _ _ _) func176 (by kernel_rfl) (by kernel_rfl) h
def Ag.plus.hint:Nat→Option Be
 | 0=>some { keep:=[0,1,5,6,7],objs:=[(0,5,100005,.ints 173 .u32 [])],boxes:=[] }
 | _=>none
def Ag.plus.A9:List (Nat × Entry):=[(221,Ag.Jl.spec)]
def Ag.plus.E:Env:=Ba (A8 Ag.plus.A9) (fun _=>false) Ag.plus.hint (fun _=>none)
section
variable (N M:Nat) (a b:List Int) (p6 p7:Int) (p5:List Int)
def Ag.plus.L0:Option DV:=B2 Ag.plus.E N f174 (An f174) [1,1,1,0,1,0] [] M ⟨Gz 37 [(0,.ints .arg .u32 a),(1,.ints .arg .u32 b),(5,.oref 100005),(6,.int .u64 p6),(7,.int .i64 p7)],[(100005,false,.ints 173 .u32 p5)]⟩
theorem Ag.plus.Av:Ag.plus.L0 N (M+1) a b p6 p7 p5=bif (Em p7 (max (length a:Int) (length b:Int))) then bif (Ia a) then bif (Ia b) then bif (decide ((length p5)+1≤G0)) then Ag.plus.L0 N M a b (Bl (Int.tdiv (Bl ((Bl ((Hh a p7)+(Hh b p7)))+p6)) 4294967296)) (Ab (p7+1)) (p5++[(J9 (Int.tmod (Bl ((Bl ((Hh a p7)+(Hh b p7)))+p6)) 4294967296))]) else none else none else none else some (.ints (.own 100005 173) .u32 p5):=by kernel_rfl
theorem Ag.plus.ev:Bw Ag.plus.E N f174 (An f174) [.ints .arg .u32 a,.ints .arg .u32 b] =
 Ag.plus.L0 N N a b 0 0 []:=by kernel_rfl
end
abbrev _root_.Go.Proofs.S1.Ag.plus.Kn:=A4 prog 174 Ag.plus.spec
theorem Ag.plus.Ac (hk:Az prog Ag.plus.A9) (h:Hyp Ag.plus.E f174 Ag.plus.ts Ag.plus.pre Ag.plus.out):Ag.plus.Kn :=
 Al (A0 hk _ _ _) func174 (by kernel_rfl) (by kernel_rfl) h
def Ag.minus.hint:Nat→Option Be
 | 0=>some { keep:=[0,1,5,6,7],objs:=[(0,5,100005,.ints 173 .u32 [])],boxes:=[] }
 | _=>none
def Ag.minus.A9:List (Nat × Entry):=[(221,Ag.Jl.spec)]
def Ag.minus.E:Env:=Ba (A8 Ag.minus.A9) (fun _=>false) Ag.minus.hint (fun _=>none)
section
variable (N M:Nat) (a b:List Int) (p6 p7:Int) (p5:List Int)
def Ag.minus.L0:Option DV:=B2 Ag.minus.E N f177 (An f177) [1,1,1,0,1,0] [] M ⟨Gz 36 [(0,.ints .arg .u32 a),(1,.ints .arg .u32 b),(5,.oref 100005),(6,.int .u64 p6),(7,.int .i64 p7)],[(100005,false,.ints 173 .u32 p5)]⟩
theorem Ag.minus.Av:Ag.minus.L0 N (M+1) a b p6 p7 p5=bif (A6 p7 (length a:Int)) then bif (Ia a) then bif (Ia b) then bif (decide ((length p5)+1≤G0)) then Ag.minus.L0 N M a b (Bl ((1:Int)-(Bl (Int.tdiv (Bl ((Bl ((Bl ((4294967296:Int)+(Hh a p7)))-(Hh b p7)))-p6)) 4294967296)))) (Ab (p7+1)) (p5++[(J9 (Int.tmod (Bl ((Bl ((Bl ((4294967296:Int)+(Hh a p7)))-(Hh b p7)))-p6)) 4294967296))]) else none else none else none else some (.ints (.own 100005 173) .u32 p5):=by kernel_rfl
theorem Ag.minus.ev:Bw Ag.minus.E N f177 (An f177) [.ints .arg .u32 a,.ints .arg .u32 b] =
 Ag.minus.L0 N N a b 0 0 []:=by kernel_rfl
end
abbrev _root_.Go.Proofs.S1.Ag.minus.Kn:=A4 prog 177 Ag.minus.spec
theorem Ag.minus.Ac (hk:Az prog Ag.minus.A9) (h:Hyp Ag.minus.E f177 Ag.minus.ts Ag.minus.pre Ag.minus.out):Ag.minus.Kn :=
 Al (A0 hk _ _ _) func177 (by kernel_rfl) (by kernel_rfl) h
def Ag.Add.A9:List (Nat × Entry):=[(171,Ag.Made.spec),(176,Ag.Ik.spec),(177,Ag.minus.spec),(174,Ag.plus.spec)]
def Ag.Add.E:Env:=Ba (A8 Ag.Add.A9) (fun _=>false) (fun _=>none) (fun _=>none)
theorem Ag.Add.ev (N:Nat) (n:Bool) (a:List Int) (m:Bool) (b:List Int):Bw Ag.Add.E N f112 (An f112) [.agg [.bool n,.ints .arg .u32 a],.agg [.bool m,.ints .arg .u32 b]]=bif (n==m) then bif (Ia a&&Ia b) then bif (Ia (Kf a b)) then some (.agg [.bool (Bj (wv n (Kf a b))),.ints .arg .u32 (Aq (wv n (Kf a b)))]) else none else none else bif (Ia a&&Ia b) then bif (A6 (Ww (Co a) (Co b)) 0) then bif ((Ia b&&Ia a)&&leL a b) then bif (Ia (Hz b a)) then some (.agg [.bool (Bj (wv m (Hz b a))),.ints .arg .u32 (Aq (wv m (Hz b a)))]) else none else none else bif ((Ia a&&Ia b)&&leL b a) then bif (Ia (Hz a b)) then some (.agg [.bool (Bj (wv n (Hz a b))),.ints .arg .u32 (Aq (wv n (Hz a b)))]) else none else none else none :=
 Eq.trans (by kernel_rfl)
 (Et (C9 (Cy (Ia a&&Ia b)) (C9 (Cy (Ia (Kf a b))) rfl rfl) rfl) (Et (Et (C9 (Cy ((Ia b&&Ia a)&&leL a b)) (C9 (Cy (Ia (Hz b a))) rfl rfl) rfl) (C9 (Cy ((Ia a&&Ia b)&&leL b a)) (C9 (Cy (Ia (Hz a b))) rfl rfl) rfl)) rfl))
abbrev _root_.Go.Proofs.S1.Ag.Add.Kn:=A4 prog 112 Ag.Add.spec
theorem Ag.Add.Ac (hk:Az prog Ag.Add.A9) (h:Hyp Ag.Add.E f112 Ag.Add.ts Ag.Add.pre Ag.Add.out):Ag.Add.Kn :=
 Al (A0 hk _ _ _) func112 (by kernel_rfl) (by kernel_rfl) h
def Ag.Neg.A9:List (Nat × Entry):=[(171,Ag.Made.spec)]
def Ag.Neg.E:Env:=Ba (A8 Ag.Neg.A9) (fun _=>false) (fun _=>none) (fun _=>none)
theorem Ag.Neg.ev (N:Nat) (n:Bool) (a:List Int):Bw Ag.Neg.E N f143 (An f143) [.agg [.bool n,.ints .arg .u32 a]]=bif (Ia a) then some (.agg [.bool (Bj (wv (!n) a)),.ints .arg .u32 (Aq (wv (!n) a))]) else none:=by kernel_rfl
abbrev _root_.Go.Proofs.S1.Ag.Neg.Kn:=A4 prog 143 Ag.Neg.spec
theorem Ag.Neg.Ac (hk:Az prog Ag.Neg.A9) (h:Hyp Ag.Neg.E f143 Ag.Neg.ts Ag.Neg.pre Ag.Neg.out):Ag.Neg.Kn :=
 Al (A0 hk _ _ _) func143 (by kernel_rfl) (by kernel_rfl) h
end EqRefA
open EqRefA
theorem Ag.Jl.known:Ag.Jl.Kn:=Ag.Jl.Ac .nil fun l i hp=>by
 obtain ⟨hl,hi⟩:=Li hp
 refine ⟨0,Ag.Jl.out [.l l,.i i],[],?_,.int⟩
 rw [Ag.Jl.ev,Es,Au]
 show _=some (DV.int .u64 (Hh l i))
 by_cases h0:0≤i
 ·obtain ⟨k,rfl⟩:∃ k:Nat,i=k:=⟨i.toNat,by omega⟩
  have hv:=H3 hi k
  have hg:=Si hi k
  rw [hv,A1j,hg,A1i h0,A2u]
  by_cases h1:(k:Int)<(l.length:Int)
  ·rw [A1i h1,A1h,A1h,Dp (by omega) (by omega)]
  ·have h2:l.getD k 0=0:=by
    rw [A1r,A2z (by omega)]; rfl
   rw [h2] at hg
   rw [A1m h1,A1l,← hg]
 ·have:Hh l i=0:=by unfold Hh; rw [A13 h0]
  rw [A1m h0,Bool.false_and,A1l,this]
theorem Ae9 {drops:List Nat} {b:Bool} {l:List Int}:Wk drops (.agg [.bool b,.ints .arg .u32 l]) (.agg [.bool b,.ints .arg .u32 l]):=Wk.Hk (.cons .bool (.cons .X0 .nil))
theorem Am0:Bj 0=false:=rfl
theorem Agt:Aq 0=[]:=rfl
theorem Anb (N:Nat) (n:Bool) {l:List Int} (hl:l.length<1073741824) (hi:inL l):∀ (p F:Nat),p≤l.length→p<F→Co l<2^(32*p) →
 ∃ dv,Ag.Made.L0 N F n l (p:Int)=some dv∧Wk [] dv (.agg [.bool (Bj (wv n l)),.ints .arg .u32 (Aq (wv n l))]):=by
 have hlast:∀ p,p≤l.length→Dy (Co l)=p→p≠0→some (DV.agg [.bool n,.ints .arg .u32 (l.take p)])=some (DV.agg [.bool (Bj (wv n l)),.ints .arg .u32 (Aq (wv n l))]):=by
  intro p hp hq h0
  have h1:=Ajd hi
  rw [hq] at h1
  have h2:Co l≠0:=fun h=>by rw [h] at hq; exact h0 hq.symm
  have e:(wv n l).natAbs=Co l:=by unfold wv H9; split<;>omega
  have e1:Aq (wv n l)=Ra (Co l):=by unfold Aq; rw [e]
  have e2:Bj (wv n l)=n:=by unfold Bj wv H9; cases n<;>simp<;>omega
  rw [h1,e1,e2]
 intro p
 induction p with
 | zero =>
   intro F hp hF hv
   obtain ⟨F,rfl⟩:∃ G,F=G+1:=⟨F-1,by omega⟩
   have hz:wv n l=0:=by
    have:Co l=0:=by rw [Nat.mul_zero,A2f] at hv; omega
    unfold wv H9; rw [this]; cases n<;>rfl
   refine ⟨.agg [.bool false,.nil],?_,?_⟩
   ·rw [Ag.Made.Av,Au]; rfl
   ·rw [hz,Am0,Agt]
    exact Wk.Hk (.cons .bool (.cons (.nil _ _) .nil))
 | succ p ih =>
   intro F hp hF hv
   obtain ⟨F,rfl⟩:∃ G,F=G+1:=⟨F-1,by omega⟩
   rw [Ag.Made.Av,Au,Am (by omega) (by omega)]
   have e0:((p+1:Nat):Int)-1=(p:Int):=by omega
   have t0:decide ((0:Int)<((p+1:Nat):Int))=true:=A1i (by omega)
   have t1:decide ((0:Int)≤(p:Int))=true:=by simp
   have t2:decide ((p:Int)<(l.length:Int))=true:=by simp; omega
   have hg:=Si hi p
   have hq:Co l / 2^(32*p)<4294967296:=by
    rw [Nat.div_lt_iff_lt_mul (Cg _),← O7]; exact hv
   rw [A1u hq] at hg
   rw [e0,t0,t1,t2,A1j,hg]
   simp only [A2g,A1n,Bool.false_or,A1h,A2u]
   by_cases hz:Co l / 2^(32*p)=0
   ·have:(((Co l / 2^(32*p):Nat):Int)==0)=true:=by rw [hz]; rfl
    rw [this,A1h]
    refine ih F (by omega) (by omega) ?_
    rcases A2e (Co l) (2^(32*p)) with h | h
    ·exact h
    ·have:=Nat.div_pos h (Cg _); omega
   ·have:(((Co l / 2^(32*p):Nat):Int)==0)=false:=by simp only [A2c,ne_eq]; omega
    have t3:(((p+1:Nat):Int)==0)=false:=by simp only [A2c,ne_eq]; omega
    have t4:decide (((p+1:Nat):Int)≤(l.length:Int))=true:=by simp; omega
    have t5:decide ((0:Int)≤((p+1:Nat):Int))=true:=A1i (by omega)
    rw [this,A1l,t3,A1l,t4,t5,A1n,A1h,A1j]
    have hlen:Dy (Co l)=p+1:=by
     have a1:=Og hv
     have a2:=At3 (n:=Co l) (k:=p) (by
      rcases A2e (Co l) (2^(32*p)) with h | h
      ·exact absurd (Nat.div_eq_of_lt h) hz
      ·exact h)
     omega
    exact ⟨_,hlast (p+1) hp hlen (by omega),Ae9⟩
theorem Ag.Made.known:Ag.Made.Kn:=Ag.Made.Ac .nil fun n l hp=>by
 obtain ⟨hl,hi⟩:=Li hp
 obtain ⟨dv,h1,h2⟩:=Anb (l.length+1) n hl hi l.length (l.length+1) (A2b _) (by omega) (N5 hi)
 exact ⟨l.length+1,dv,[],by rw [Ag.Made.ev]; exact h1,h2⟩
theorem Abk {a b:Int} (ha:0≤a∧a<4294967296) (hb:0≤b∧b<4294967296):Ia [a,b]=true :=
 Ot (show 2<1073741824 by decide) fun x hx=>by
  rcases List.mem_cons.1 hx with rfl | hx
  ·exact ha
  ·rcases List.mem_cons.1 hx with rfl | hx
   ·exact hb
   ·cases hx
theorem Ak5:(4294967296:Int)=((4294967296:Nat):Int):=rfl
theorem Ag.Of.known:Ag.Of.Kn:=Ag.Of.Ac (.cons Ag.Made.known .nil) fun n hp=>by
 have hp:=Ar.1 hp
 refine ⟨0,Ag.Of.out [.i n],[],?_,Ae9⟩
 rw [Ag.Of.ev,Au]
 show _=some (DV.agg [.bool (Bj n),.ints .arg .u32 (Aq n)])
 by_cases h:n<0
 ·obtain ⟨k,rfl⟩:∃ k:Nat,n=-(k:Int):=⟨(-n).toNat,by omega⟩
  have e1:Bl (Bl (Ab (0-Ab (-(k:Int)+1)))+1)=(k:Int):=by
   rw [Am (x:=-(k:Int)+1) (by omega) (by omega),Am (by omega) (by omega),Dp (x:=0-(-(k:Int)+1)) (by omega) (by omega),Dp (by omega) (by omega)]; omega
  rw [A1i h,A1h,e1,Ak5,Ka,Kb,Lm (by omega) (by omega),Dp (by omega) (by omega),Lm (by omega) (by omega),
   Abk (by omega) (by omega),A1h]
  have e2:wv true [((k%4294967296:Nat):Int),((k / 4294967296:Nat):Int)]=-(k:Int):=by
   unfold wv H9 Co Co Co
   rw [A14 rfl,A1j,A1j]
   omega
  rw [e2]
 ·obtain ⟨k,rfl⟩:∃ k:Nat,n=(k:Int):=⟨n.toNat,by omega⟩
  rw [A1m h,A1l,Ak5,Ka,Kb,Lm (by omega) (by omega),Am (by omega) (by omega),Lm (by omega) (by omega),
   Abk (by omega) (by omega),A1h]
  have e2:wv false [((k%4294967296:Nat):Int),((k / 4294967296:Nat):Int)]=(k:Int):=by
   unfold wv H9 Co Co Co
   rw [A13 (by decide),A1j,A1j]
   omega
  rw [e2]
theorem Ag.Neg.known:Ag.Neg.Kn:=Ag.Neg.Ac (.cons Ag.Made.known .nil) fun n a hp=>by
 obtain ⟨v,rfl,rfl,hv⟩:=Jr hp
 refine ⟨0,Ag.Neg.out [.b (Bj v),.l (Aq v)],[],?_,Ae9⟩
 rw [Ag.Neg.ev,Pc (by omega),A1h,Avk]
 rfl
open EqRefA
theorem Am8 (N:Nat) {a b:List Int} (ha:Ia a=true) (hb:Ia b=true):∀ (j F:Nat),j<4000000000→j<F→Co a / 2^(32*j)=Co b / 2^(32*j) →
 Ag.Ik.L0 N F a b ((j:Int)-1)=some (.int .i64 (Ww (Co a) (Co b))):=by
 have ia:=(Li ha).2
 have ib:=(Li hb).2
 intro j
 induction j with
 | zero =>
   intro F hj hF h
   obtain ⟨F,rfl⟩:∃ G,F=G+1:=⟨F-1,by omega⟩
   rw [Nat.mul_zero,A2f,Nat.div_one,Nat.div_one] at h
   have e:Ww (Co a) (Co b)=0:=by unfold Ww; rw [A13 (by omega),A13 (by omega)]
   rw [Ag.Ik.Av,Es,e]
   rfl
 | succ j ih =>
   intro F hj hF h
   obtain ⟨F,rfl⟩:∃ G,F=G+1:=⟨F-1,by omega⟩
   have e0:((j+1:Nat):Int)-1=(j:Int):=by omega
   have t0:decide ((0:Int)≤(j:Int))=true:=A1i (by omega)
   rw [O7,A15,← A2a,← A2a] at h
   have up:Co a / 2^(32*j)<Co b / 2^(32*j)→Co a<Co b:=fun k=>by
    rcases A2e (Co a) (Co b) with h1 | h1
    ·exact h1
    ·have:=Nat.div_le_div_right (c:=2^(32*j)) h1; omega
   have down:Co b / 2^(32*j)<Co a / 2^(32*j)→Co b<Co a:=fun k=>by
    rcases A2e (Co b) (Co a) with h1 | h1
    ·exact h1
    ·have:=Nat.div_le_div_right (c:=2^(32*j)) h1; omega
   rw [Ag.Ik.Av,e0,Es,t0,A1h,ha,hb,A1h,A1h,Au,Au,H3 ia,H3 ib,Am (by omega) (by omega)]
   have ih:=ih F (by omega) (by omega)
   generalize Co a / 2^(32*j)=x at *
   generalize Co b / 2^(32*j)=y at *
   by_cases h1:x%4294967296<y%4294967296
   ·have e:Ww (Co a) (Co b)=-1:=by unfold Ww; rw [A14 (up (by omega))]
    rw [A1i (by omega),A1h,e]
   ·rw [A1m (by omega),A1l]
    by_cases h2:y%4294967296<x%4294967296
    ·have:=down (by omega)
     have e:Ww (Co a) (Co b)=1:=by unfold Ww; rw [A13 (by omega),A14 this]
     rw [A1i (by omega),A1h,e]
     rfl
    ·rw [A1m (by omega),A1l]
     exact ih (by omega)
theorem Alh {l:List Int} (h:inL l) {j:Nat} (hj:l.length≤j):Co l / 2^(32*j)=0 :=
 Nat.div_eq_of_lt (A2s (N5 h) (A1w (by decide) (by omega)))
theorem Ag.Ik.known:Ag.Ik.Kn:=Ag.Ik.Ac (.cons Ag.Jl.known .nil) fun a b hp=>by
 obtain ⟨ha,hb⟩:=Ae.1 hp
 obtain ⟨la,ia⟩:=Li ha
 obtain ⟨lb,ib⟩:=Li hb
 refine ⟨max a.length b.length+2,Ag.Ik.out [.l a,.l b],[],?_,.int⟩
 rw [Ag.Ik.ev]
 have e:max (a.length:Int) (b.length:Int)=((max a.length b.length+1:Nat):Int)-1:=by omega
 rw [e]
 exact Am8 _ ha hb _ _ (by omega) (by omega) (by rw [Alh ia (by omega),Alh ib (by omega)])
theorem Amq (N:Nat) {a b:List Int} (ha:Ia a=true) (hb:Ia b=true):∀ (k i c F:Nat),i+k=max a.length b.length+1→k<F→c≤1 →
 Co a / 2^(32*i)+Co b / 2^(32*i)+c=(Co a+Co b) / 2^(32*i) →
 Ag.plus.L0 N F a b (c:Int) (i:Int) (digits i (Co a+Co b))=some (.ints (.own 100005 tW) .u32 (Kf a b)):=by
 obtain ⟨la,ia⟩:=Li ha
 obtain ⟨lb,ib⟩:=Li hb
 intro k
 induction k with
 | zero =>
   intro i c F hi hF hc h
   obtain ⟨F,rfl⟩:∃ G,F=G+1:=⟨F-1,by omega⟩
   have t0:decide ((i:Int)≤max (a.length:Int) (b.length:Int))=false:=A1m (by omega)
   rw [Ag.plus.Av,Es,t0,A1l]
   unfold Kf
   rw [show i=max a.length b.length+1 by omega]
 | succ k ih =>
   intro i c F hi hF hc h
   obtain ⟨F,rfl⟩:∃ G,F=G+1:=⟨F-1,by omega⟩
   have t0:decide ((i:Int)≤max (a.length:Int) (b.length:Int))=true:=A1i (by omega)
   have t1:decide ((digits i (Co a+Co b)).length+1≤G0)=true:=A1i (by rw [Fp]; unfold G0; omega)
   rw [Ag.plus.Av,Es,t0,ha,hb,t1]
   simp only [A1h]
   rw [H3 ia,H3 ib]
   have ih:=ih (i+1)
   rw [O7,A15 4294967296,← A2a,← A2a,← A2a,Oj] at ih
   generalize Co a / 2^(32*i)=x at *
   generalize Co b / 2^(32*i)=y at *
   generalize (Co a+Co b) / 2^(32*i)=z at *
   have e1:Bl (Bl (((x%4294967296:Nat):Int)+((y%4294967296:Nat):Int))+(c:Int))=((x%4294967296+y%4294967296+c:Nat):Int):=by
    rw [Dp (x:=((x%4294967296:Nat):Int)+((y%4294967296:Nat):Int)) (by omega) (by omega),Dp (by omega) (by omega)]; omega
   rw [e1,Ak5,Ka,Kb,Lm (by omega) (by omega),Dp (by omega) (by omega),Am (by omega) (by omega)]
   have e2:(x%4294967296+y%4294967296+c)%4294967296=z%4294967296:=by omega
   rw [e2]
   exact ih ((x%4294967296+y%4294967296+c) / 4294967296) F (by omega) (by omega) (by omega) (by omega)
theorem Akv {i:Nat} {e:TypeId} {k:IntKind} {l:List Int}:Wk [i] (.ints (.own i e) k l) (.ints .arg k l):=.dropA i e k l (List.mem_singleton.2 rfl)
theorem Ag.plus.known:Ag.plus.Kn:=Ag.plus.Ac (.cons Ag.Jl.known .nil) fun a b hp=>by
 obtain ⟨ha,hb⟩:=Ae.1 hp
 refine ⟨max a.length b.length+2,.ints (.own 100005 tW) .u32 (Kf a b),[100005],?_,Akv⟩
 rw [Ag.plus.ev]
 exact Amq _ ha hb (max a.length b.length+1) 0 0 _ (by omega) (by omega) (by omega) (by simp)
theorem Ai4 (N:Nat) {a b:List Int} (ha:Ia a=true) (hb:Ia b=true):∀ (k i w F:Nat),i+k=a.length→k<F→w≤1 →
 Co a / 2^(32*i)=Co b / 2^(32*i)+(Co a-Co b) / 2^(32*i)+w →
 Ag.minus.L0 N F a b (w:Int) (i:Int) (digits i (Co a-Co b))=some (.ints (.own 100005 tW) .u32 (Hz a b)):=by
 obtain ⟨la,ia⟩:=Li ha
 obtain ⟨lb,ib⟩:=Li hb
 intro k
 induction k with
 | zero =>
   intro i c F hi hF hc h
   obtain ⟨F,rfl⟩:∃ G,F=G+1:=⟨F-1,by omega⟩
   have t0:decide ((i:Int)<(a.length:Int))=false:=A1m (by omega)
   rw [Ag.minus.Av,Au,t0,A1l]
   unfold Hz
   rw [show i=a.length by omega]
 | succ k ih =>
   intro i w F hi hF hc h
   obtain ⟨F,rfl⟩:∃ G,F=G+1:=⟨F-1,by omega⟩
   have t0:decide ((i:Int)<(a.length:Int))=true:=A1i (by omega)
   have t1:decide ((digits i (Co a-Co b)).length+1≤G0)=true:=A1i (by rw [Fp]; unfold G0; omega)
   rw [Ag.minus.Av,Au,t0,ha,hb,t1]
   simp only [A1h]
   rw [H3 ia,H3 ib]
   have ih:=ih (i+1)
   rw [O7,A15 4294967296,← A2a,← A2a,← A2a,Oj] at ih
   generalize Co a / 2^(32*i)=x at *
   generalize Co b / 2^(32*i)=y at *
   generalize (Co a-Co b) / 2^(32*i)=z at *
   have e1:Bl (Bl (Bl ((4294967296:Int)+((x%4294967296:Nat):Int))-((y%4294967296:Nat):Int))-(w:Int))=((4294967296+x%4294967296-y%4294967296-w:Nat):Int):=by
    rw [Dp (x:=(4294967296:Int)+((x%4294967296:Nat):Int)) (by omega) (by omega),Dp (x:=(4294967296:Int)+((x%4294967296:Nat):Int)-((y%4294967296:Nat):Int)) (by omega) (by omega),Dp (by omega) (by omega)]; omega
   have e2:(4294967296+x%4294967296-y%4294967296-w)%4294967296=z%4294967296:=by omega
   have e3:Bl ((1:Int)-(((4294967296+x%4294967296-y%4294967296-w) / 4294967296:Nat):Int))=((1-(4294967296+x%4294967296-y%4294967296-w) / 4294967296:Nat):Int):=by
    rw [Dp (by omega) (by omega)]; omega
   rw [e1,Ak5,Ka,Kb,Lm (by omega) (by omega),Dp (x:=(((4294967296+x%4294967296-y%4294967296-w) / 4294967296:Nat):Int)) (by omega) (by omega),Am (by omega) (by omega),e2,e3]
   exact ih (1-(4294967296+x%4294967296-y%4294967296-w) / 4294967296) F (by omega) (by omega) (by omega) (by omega)
theorem Ag.minus.known:Ag.minus.Kn:=Ag.minus.Ac (.cons Ag.Jl.known .nil) fun a b hp=>by
 obtain ⟨h1,hle⟩:=Ae.1 hp
 obtain ⟨ha,hb⟩:=Ae.1 h1
 have hle:=Ar.1 hle
 refine ⟨a.length+1,.ints (.own 100005 tW) .u32 (Hz a b),[100005],?_,Akv⟩
 rw [Ag.minus.ev]
 exact Ai4 _ ha hb a.length 0 0 _ (by omega) (by omega) (by omega) (by simp; omega)
theorem Hg (v:Int):inL (Aq v):=Ags _
theorem Aoj {v w:Int} (h:Bj v=Bj w):wv (Bj v) (Kf (Aq v) (Aq w))=v+w:=by
 unfold wv
 rw [Amr (Hg _) (Hg _),D7,D7]
 unfold Bj at h ⊢
 unfold H9
 rw [decide_eq_decide] at h
 by_cases hv:v<0
 ·have hw:=h.1 hv
  rw [A1i hv,A14 rfl]; omega
 ·have hw:¬ w<0:=fun k=>hv (h.2 k)
  rw [A1m hv,A13 (by decide)]; omega
theorem Aj7 {v w:Int} (h:Bj v≠Bj w) (hl:w.natAbs≤v.natAbs):wv (Bj v) (Hz (Aq v) (Aq w))=v+w:=by
 unfold wv
 rw [Ai6 _ (Hg _),D7,D7]
 unfold Bj at h ⊢
 unfold H9
 rw [ne_eq,decide_eq_decide] at h
 by_cases hv:v<0
 ·have hw:¬ w<0:=fun k=>h ⟨fun _=>k,fun _=>hv⟩
  rw [A1i hv,A14 rfl]; omega
 ·have hw:w<0:=by
   rcases Int.lt_or_le w 0 with k | k
   ·exact k
   ·exact absurd ⟨fun k'=>absurd k' hv,fun k'=>by omega⟩ h
  rw [A1m hv,A13 (by decide)]; omega
theorem Ag.Add.known:Ag.Add.Kn:=Ag.Add.Ac (.cons Ag.Made.known (.cons Ag.Ik.known (.cons Ag.minus.known (.cons Ag.plus.known .nil)))) fun n a m b hp=>by
 obtain ⟨h1,h2⟩:=Ae.1 hp
 obtain ⟨v,rfl,rfl,hv⟩:=Jr h1
 obtain ⟨w,rfl,rfl,hw⟩:=Jr h2
 refine ⟨0,Ag.Add.out [.b (Bj v),.l (Aq v),.b (Bj w),.l (Aq w)],[],?_,Ae9⟩
 have o1:Ia (Aq v)=true:=Pc (by omega)
 have o2:Ia (Aq w)=true:=Pc (by omega)
 rw [Ag.Add.ev,o1,o2,A1n,A1h]
 show _=some (DV.agg [.bool (Bj (wv (Bj v) (Aq v)+wv (Bj w) (Aq w))),.ints .arg .u32 (Aq (wv (Bj v) (Aq v)+wv (Bj w) (Aq w)))])
 rw [Ib,Ib]
 by_cases hs:Bj v=Bj w
 ·have:(Bj v==Bj w)=true:=by simp [hs]
  have o3:Ia (Kf (Aq v) (Aq w))=true:=Ot (by rw [Ux,Cv,Cv]; omega) (Af9 _ _)
  rw [this,A1h,o3,A1h,Aoj hs]
 ·have:(Bj v==Bj w)=false:=by simp [hs]
  rw [this,A1l,A1h,Au,D7,D7,A2u,A2u]
  by_cases hl:v.natAbs<w.natAbs
  ·have e:decide (Ww v.natAbs w.natAbs<0)=true:=A1i (by unfold Ww; rw [A14 hl]; decide)
   have o3:Ia (Hz (Aq w) (Aq v))=true:=Ot (by rw [Td,Cv]; omega) (Ab8 _ _)
   have o4:leL (Aq v) (Aq w)=true:=Ar.2 (by rw [D7,D7]; omega)
   rw [e,A1h,o4,A1h,o3,A1h,Aj7 (fun k=>hs k.symm) (by omega),Int.add_comm]
  ·have e:decide (Ww v.natAbs w.natAbs<0)=false:=A1m (by unfold Ww; rw [A13 hl]; split<;>decide)
   have o3:Ia (Hz (Aq v) (Aq w))=true:=Ot (by rw [Td,Cv]; omega) (Ab8 _ _)
   have o4:leL (Aq w) (Aq v)=true:=Ar.2 (by rw [D7,D7]; omega)
   rw [e,A1l,o4,A1h,o3,A1h,Aj7 hs (by omega)]
namespace EqRefB
def Ag.Fo.A9:List (Nat × Entry):=[(171,Ag.Made.spec),(174,Ag.plus.spec)]
def Ag.Fo.E:Env:=Ba (A8 Ag.Fo.A9) (fun _=>false) (fun _=>none) (fun _=>none)
theorem Ag.Fo.ev (N:Nat) (n:Bool) (a:List Int):Bw Ag.Fo.E N f222 (An f222) [.agg [.bool n,.ints .arg .u32 a]]=bif (Ia a&&Ia a) then bif (Ia (Kf a a)) then some (.agg [.bool (Bj (wv n (Kf a a))),.ints .arg .u32 (Aq (wv n (Kf a a)))]) else none else none :=
 Eq.trans (by kernel_rfl)
 (C9 (Cy (Ia a&&Ia a)) (C9 (Cy (Ia (Kf a a))) rfl rfl) rfl)
abbrev _root_.Go.Proofs.S1.Ag.Fo.Kn:=A4 prog 222 Ag.Fo.spec
theorem Ag.Fo.Ac (hk:Az prog Ag.Fo.A9) (h:Hyp Ag.Fo.E f222 Ag.Fo.ts Ag.Fo.pre Ag.Fo.out):Ag.Fo.Kn :=
 Al (A0 hk _ _ _) func222 (by kernel_rfl) (by kernel_rfl) h
def Ag.Hs.hint:Nat→Option Be
 | 0=>some { keep:=[1,2,3,4],objs:=[(0,3,100003,.ints 173 .u32 [])],boxes:=[1,2] }
 | _=>none
def Ag.Hs.A9:List (Nat × Entry):=[(171,Ag.Made.spec),(221,Ag.Jl.spec)]
def Ag.Hs.E:Env:=Ba (A8 Ag.Hs.A9) (fun _=>false) Ag.Hs.hint (fun _=>none)
section
variable (N M:Nat) (n:Bool) (a:List Int) (p4:Int) (p3:List Int)
def Ag.Hs.L0:Option DV:=B2 Ag.Hs.E N f173 (An f173) [1,1,0,1,0] [] M ⟨Gz 37 [(1,.ptr 1 0 0),(2,.ptr 2 0 0),(3,.oref 100003),(4,.int .i64 p4)],[(1,false,.box [.bool n,.ints .arg .u32 a]),(2,false,.box [.bool false,.nil]),(100003,false,.ints 173 .u32 p3)]⟩
theorem Ag.Hs.Av:Ag.Hs.L0 N (M+1) n a p4 p3=bif (A6 p4 (length a:Int)) then bif (Ia a) then bif (Ia a) then bif ((decide (0≤p4))&&(decide (p4<(length p3:Int)))) then bif (decide ((toNat p4)<(length p3))) then Ag.Hs.L0 N M n a (Ab (p4+1)) (List.set p3 (toNat p4) (J9 (Bl (Int.tdiv (Bl ((Bl ((Int.tmod (Hh a (Ab (p4+1))) 2)*4294967296))+(Hh a p4))) 2)))) else none else none else none else none else bif (Ia p3) then some (.agg [.bool (Bj (wv n p3)),.ints .arg .u32 (Aq (wv n p3))]) else none :=
 Eq.trans (by kernel_rfl)
 (Et (C9 (Cy (Ia a)) (C9 (Cy (Ia a)) (C9 (Nh (decide (0≤p4)) (decide (p4<(length p3:Int)))) (C9 (Cy (decide ((toNat p4)<(length p3)))) rfl rfl) rfl) rfl) rfl) rfl)
theorem Ag.Hs.ev:Bw Ag.Hs.E N f173 (An f173) [.agg [.bool n,.ints .arg .u32 a]]=bif (((decide ((0:Int)≤(length a:Int)))&&(decide ((length a:Int)≤(length a:Int))))&&(decide ((length a:Int)≤G0))) then Ag.Hs.L0 N N n a 0 (List.replicate (toNat (length a:Int)) 0) else none:=by kernel_rfl
end
abbrev _root_.Go.Proofs.S1.Ag.Hs.Kn:=A4 prog 173 Ag.Hs.spec
theorem Ag.Hs.Ac (hk:Az prog Ag.Hs.A9) (h:Hyp Ag.Hs.E f173 Ag.Hs.ts Ag.Hs.pre Ag.Hs.out):Ag.Hs.Kn :=
 Al (A0 hk _ _ _) func173 (by kernel_rfl) (by kernel_rfl) h
def Ag.Br.hint:Nat→Option Be
 | 0=>some { keep:=[1,2,4],objs:=[],boxes:=[2,4] }
 | 2=>some { keep:=[1,2,4],objs:=[],boxes:=[2,4] }
 | 4=>some { keep:=[1,2,4],objs:=[],boxes:=[2,4] }
 | 6=>some { keep:=[1,2,4],objs:=[],boxes:=[2,4] }
 | _=>none
def Ag.Br.A9:List (Nat × Entry):=[(222,Ag.Fo.spec),(173,Ag.Hs.spec),(171,Ag.Made.spec)]
def Ag.Br.E:Env:=Ba (A8 Ag.Br.A9) (fun _=>false) Ag.Br.hint (fun _=>none)
section
variable (N:Nat) (n:Bool) (a:List Int) (k:Int) (M:Nat) (p1_3:Int) (p2_6:Bool) (p2_7:List Int) (p1_2:Int) (p2_4:Bool) (p2_5:List Int) (p1_1:Int) (p2_2:Bool) (p2_3:List Int) (p1:Int) (p2:Bool) (p2_1:List Int)
def Ag.Br.L0:Option DV:=B2 Ag.Br.E N f178 (An f178) [1,0,0] [] M ⟨Gz 63 [(1,.int .i64 p1),(2,.ptr 2 0 0),(4,.ptr 4 0 0)],[(2,false,.box [.bool p2,.ints .arg .u32 p2_1]),(4,false,.box [.bool false,.nil])]⟩
def Ag.Br.L1:Option DV:=B2 Ag.Br.E N f178 (An f178) [1,1,0,0] [] M ⟨Gz 63 [(1,.int .i64 p1_1),(2,.ptr 2 0 0),(4,.ptr 4 0 0)],[(2,false,.box [.bool p2_2,.ints .arg .u32 p2_3]),(4,false,.box [.bool false,.nil])]⟩
def Ag.Br.L2:Option DV:=B2 Ag.Br.E N f178 (An f178) [1,1,1,0,0] [] M ⟨Gz 63 [(1,.int .i64 p1_2),(2,.ptr 2 0 0),(4,.ptr 4 0 0)],[(2,false,.box [.bool p2_4,.ints .arg .u32 p2_5]),(4,false,.box [.bool false,.nil])]⟩
def Ag.Br.L3:Option DV:=B2 Ag.Br.E N f178 (An f178) [1,1,1,1,0,0] [] M ⟨Gz 63 [(1,.int .i64 p1_3),(2,.ptr 2 0 0),(4,.ptr 4 0 0)],[(2,false,.box [.bool p2_6,.ints .arg .u32 p2_7]),(4,false,.box [.bool false,.nil])]⟩
theorem Ag.Br.Av:Ag.Br.L0 N (M+1) p1 p2 p2_1=bif ((Em 32 p1)&&(A6 0 (length p2_1:Int))) then bif (decide (1+(length p2_1)≤G0)) then bif (Ia ([(0:Int)]++p2_1)) then Ag.Br.L0 N M (Ab (p1-32)) (Bj (wv p2 ([(0:Int)]++p2_1))) (Aq (wv p2 ([(0:Int)]++p2_1))) else none else none else Ag.Br.L1 N N p1 p2 p2_1 :=
 Eq.trans (by kernel_rfl)
 (Ax (Qq (Em 32 p1)) (Ax (Ma (Em 32 p1)) (Ax (Ma (Em 32 p1)) (Ax (Ma (Em 32 p1)) (Ax (Uf (Em 32 p1)) (C9 (tt1 (Em 32 p1) (A6 0 (length p2_1:Int))) (C9 (Cy (decide (1+(length p2_1)≤G0))) (C9 (Cy (Ia ([(0:Int)]++p2_1))) rfl rfl) rfl) rfl))))))
theorem Ag.Br.B8:Ag.Br.L1 N (M+1) p1_1 p2_2 p2_3=bif ((A6 0 p1_1)&&(A6 0 (length p2_3:Int))) then bif (Ju p2_2 p2_3) then Ag.Br.L1 N M (Ab (p1_1-1)) (Bj (2*wv p2_2 p2_3)) (Aq (2*wv p2_2 p2_3)) else none else Ag.Br.L2 N N p1_1 p2_2 p2_3 :=
 Eq.trans (by kernel_rfl)
 (Ax (Qq (A6 0 p1_1)) (Ax (Ma (A6 0 p1_1)) (Ax (Ma (A6 0 p1_1)) (Ax (Ma (A6 0 p1_1)) (Ax (Uf (A6 0 p1_1)) (C9 (tt1 (A6 0 p1_1) (A6 0 (length p2_3:Int))) rfl rfl))))))
theorem Ag.Br.H7:Ag.Br.L2 N (M+1) p1_2 p2_4 p2_5=bif ((Em p1_2 (-32:Int))&&(A6 0 (length p2_5:Int))) then bif (decide ((1:Int)≤(length p2_5:Int))) then bif (Ia (List.drop 1 p2_5)) then Ag.Br.L2 N M (Ab (p1_2+32)) (Bj (wv p2_4 (List.drop 1 p2_5))) (Aq (wv p2_4 (List.drop 1 p2_5))) else none else none else Ag.Br.L3 N N p1_2 p2_4 p2_5 :=
 Eq.trans (by kernel_rfl)
 (Ax (Qq (Em p1_2 (-32:Int))) (Ax (Ma (Em p1_2 (-32:Int))) (Ax (Ma (Em p1_2 (-32:Int))) (Ax (Ma (Em p1_2 (-32:Int))) (Ax (Uf (Em p1_2 (-32:Int))) (C9 (tt1 (Em p1_2 (-32:Int)) (A6 0 (length p2_5:Int))) (C9 (Ax5 (decide ((1:Int)≤(length p2_5:Int)))) (C9 (Cy (Ia (List.drop 1 p2_5))) rfl rfl) rfl) rfl))))))
theorem Ag.Br.Ae3:Ag.Br.L3 N (M+1) p1_3 p2_6 p2_7=bif ((A6 p1_3 0)&&(A6 0 (length p2_7:Int))) then bif (Ju p2_6 p2_7) then Ag.Br.L3 N M (Ab (p1_3+1)) (Bj (Lg (wv p2_6 p2_7) 1)) (Aq (Lg (wv p2_6 p2_7) 1)) else none else some (.agg [.bool p2_6,.ints .arg .u32 p2_7]) :=
 Eq.trans (by kernel_rfl)
 (Ax (Qq (A6 p1_3 0)) (Ax (Ma (A6 p1_3 0)) (Ax (Ma (A6 p1_3 0)) (Ax (Ma (A6 p1_3 0)) (Ax (Uf (A6 p1_3 0)) (C9 (tt1 (A6 p1_3 0) (A6 0 (length p2_7:Int))) rfl rfl))))))
theorem Ag.Br.ev:Bw Ag.Br.E N f178 (An f178) [.agg [.bool n,.ints .arg .u32 a],.int .i64 k] =
 Ag.Br.L0 N N k n a:=by kernel_rfl
end
abbrev _root_.Go.Proofs.S1.Ag.Br.Kn:=A4 prog 178 Ag.Br.spec
theorem Ag.Br.Ac (hk:Az prog Ag.Br.A9) (h:Hyp Ag.Br.E f178 Ag.Br.ts Ag.Br.pre Ag.Br.out):Ag.Br.Kn :=
 Al (A0 hk _ _ _) func178 (by kernel_rfl) (by kernel_rfl) h
def Ag.Qu.hint:Nat→Option Be
 | 0=>some { keep:=[3,4],objs:=[],boxes:=[] }
 | _=>none
def Ag.Qu.A9:List (Nat × Entry):=[]
def Ag.Qu.E:Env:=Ba (A8 Ag.Qu.A9) (fun _=>false) Ag.Qu.hint (fun _=>none)
def Ag.Qu.L0 (N M:Nat) (p3 p4:Int):Option DV:=B2 Ag.Qu.E N f223 (An f223) [1,1,1,0,1,0] [] M ⟨Gz 29 [(3,.int .i64 p3),(4,.int .u32 p4)],[]⟩
theorem Ag.Qu.Av (N M:Nat) (p3 p4:Int):Ag.Qu.L0 N (M+1) p3 p4=bif (A6 0 p4) then Ag.Qu.L0 N M (Ab (p3+1)) (J9 (Int.tdiv p4 2)) else some (.int .i64 p3):=by kernel_rfl
theorem Ag.Qu.ev (N:Nat) (n:Bool) (a:List Int):Bw Ag.Qu.E N f223 (An f223) [.agg [.bool n,.ints .arg .u32 a]]=bif ((length a:Int)==(0:Int)) then some (.int .i64 0) else bif ((decide (0≤(Ab ((length a:Int)-1))))&&(decide ((Ab ((length a:Int)-1))<(length a:Int)))) then Ag.Qu.L0 N N (Ab ((32:Int)*(Ab ((length a:Int)-1)))) (getD a (toNat (Ab ((length a:Int)-1))) 0) else none:=by kernel_rfl
abbrev _root_.Go.Proofs.S1.Ag.Qu.Kn:=A4 prog 223 Ag.Qu.spec
theorem Ag.Qu.Ac (hk:Az prog Ag.Qu.A9) (h:Hyp Ag.Qu.E f223 Ag.Qu.ts Ag.Qu.pre Ag.Qu.out):Ag.Qu.Kn :=
 Al (A0 hk _ _ _) func223 (by kernel_rfl) (by kernel_rfl) h
def Ag.W4.A9:List (Nat × Entry):=[]
def Ag.W4.E:Env:=Ba (A8 Ag.W4.A9) (fun _=>false) (fun _=>none) (fun _=>none)
theorem Ag.W4.ev (N:Nat) (n:Bool) (a:List Int):Bw Ag.W4.E N f172 (An f172) [.agg [.bool n,.ints .arg .u32 a]]=bif ((!(A6 0 (length a:Int)))||(decide ((0:Int)<(length a:Int)))) then some (.bool (bif (A6 0 (length a:Int)) then ((Int.tmod (getD a 0 0) 2)==(1:Int)) else false)) else none :=
 Eq.trans (by kernel_rfl)
 (Ax (Qq (A6 0 (length a:Int))) (Ax (Ma (A6 0 (length a:Int))) (C9 (Az7 (A6 0 (length a:Int)) (decide ((0:Int)<(length a:Int)))) (Ax (Ma (A6 0 (length a:Int))) (Ax (Ma (A6 0 (length a:Int))) (Ax (Ma (A6 0 (length a:Int))) (Ax (Uf (A6 0 (length a:Int))) rfl)))) rfl)))
abbrev _root_.Go.Proofs.S1.Ag.W4.Kn:=A4 prog 172 Ag.W4.spec
theorem Ag.W4.Ac (hk:Az prog Ag.W4.A9) (h:Hyp Ag.W4.E f172 Ag.W4.ts Ag.W4.pre Ag.W4.out):Ag.W4.Kn :=
 Al (A0 hk _ _ _) func172 (by kernel_rfl) (by kernel_rfl) h
end EqRefB
open EqRefB
theorem Ag.Fo.known:Ag.Fo.Kn:=Ag.Fo.Ac (.cons Ag.Made.known (.cons Ag.plus.known .nil)) fun n a hp=>by
 obtain ⟨v,rfl,rfl,hv⟩:=Jr hp
 refine ⟨0,Ag.Fo.out [.b (Bj v),.l (Aq v)],[],?_,Ae9⟩
 have o1:Ia (Aq v)=true:=Pc (by omega)
 have o3:Ia (Kf (Aq v) (Aq v))=true:=Ot (by rw [Ux,Cv]; omega) (Af9 _ _)
 rw [Ag.Fo.ev,o1,o3,A1n,A1h,A1h,Aoj rfl]
 show _=some (DV.agg [.bool (Bj (2*wv (Bj v) (Aq v))),.ints .arg .u32 (Aq (2*wv (Bj v) (Aq v)))])
 rw [Ib,Int.two_mul]
theorem Awc (l:List Int) (y x:Int) (r:List Int):∀ i,i=l.length→(l++y::r).set i x=l++x::r:=by
 induction l with
 | nil=>intro i h; subst h; rfl
 | cons z l ih =>
   intro i h
   obtain ⟨j,rfl⟩:∃ j,i=j+1:=⟨i-1,by rw [List.length_cons] at h; omega⟩
   show z::(l++y::r).set j x=z::(l++x::r)
   rw [ih j (by rw [List.length_cons] at h; omega)]
theorem Ann (N:Nat) {v:Int} (hv:Dy v.natAbs<268435456):∀ (k i F:Nat),i+k=Dy v.natAbs→k<F →
 Ag.Hs.L0 N F (Bj v) (Aq v) (i:Int) (digits i (v.natAbs / 2)++List.replicate k 0)=some (.agg [.bool (Bj (Lg v 1)),.ints .arg .u32 (Aq (Lg v 1))]):=by
 have o1:Ia (Aq v)=true:=Pc (by omega)
 have ia:=Hg v
 intro k
 induction k with
 | zero =>
   intro i F hi hF
   obtain ⟨F,rfl⟩:∃ G,F=G+1:=⟨F-1,by omega⟩
   have t0:decide ((i:Int)<((Aq v).length:Int))=false:=A1m (by rw [Cv]; omega)
   rw [List.replicate_zero,List.append_nil,Ag.Hs.Av,Au,t0,A1l]
   have o3:Ia (digits i (v.natAbs / 2))=true:=Ot (by rw [Fp]; omega) (Pl _ _)
   have e:wv (Bj v) (digits i (v.natAbs / 2))=Lg v 1:=by
    unfold wv Lg
    rw [Ln,A1u,Nat.pow_one]
    have:=Mv v.natAbs
    rw [show i=Dy v.natAbs by omega]
    exact A2j (Nat.div_le_self _ _) this
   rw [o3,A1h,e]
 | succ k ih =>
   intro i F hi hF
   obtain ⟨F,rfl⟩:∃ G,F=G+1:=⟨F-1,by omega⟩
   have hlen:(digits i (v.natAbs / 2)++List.replicate (k+1) (0:Int)).length=i+(k+1):=by rw [A19,Fp,List.length_replicate]
   have t0:decide ((i:Int)<((Aq v).length:Int))=true:=A1i (by rw [Cv]; omega)
   have t1:decide ((0:Int)≤(i:Int))=true:=A1i (by omega)
   have t2:decide ((i:Int)<((digits i (v.natAbs / 2)++List.replicate (k+1) (0:Int)).length:Int))=true:=A1i (by rw [hlen]; omega)
   have t3:decide (i<(digits i (v.natAbs / 2)++List.replicate (k+1) (0:Int)).length)=true:=A1i (by rw [hlen]; omega)
   have e0:Ab ((i:Int)+1)=((i+1:Nat):Int):=by rw [Am (by omega) (by omega)]; omega
   rw [Ag.Hs.Av,Au,t0,o1,A1j,t1,t2,t3,A1n]
   simp only [A1h]
   rw [e0,H3 ia,H3 ia,D7]
   have ih:=ih (i+1) F (by omega) (by omega)
   rw [Oj,A2a,A15 2,← A2a] at ih
   rw [O7,A15 4294967296,← A2a,List.replicate_succ,Awc _ _ _ _ i (Fp _ _).symm]
   rw [List.append_assoc] at ih
   generalize v.natAbs / 2^(32*i)=x at *
   have e1:Int.tmod ((x / 4294967296%4294967296:Nat):Int) 2=((x / 4294967296%4294967296%2:Nat):Int):=Ka _ 2
   have e2:Bl (Bl (((x / 4294967296%4294967296%2:Nat):Int)*4294967296)+((x%4294967296:Nat):Int))=((x / 4294967296%4294967296%2*4294967296+x%4294967296:Nat):Int):=by
    rw [Dp (x:=((x / 4294967296%4294967296%2:Nat):Int)*4294967296) (by omega) (by omega),Dp (by omega) (by omega)]; omega
   have e3:Int.tdiv ((x / 4294967296%4294967296%2*4294967296+x%4294967296:Nat):Int) 2=(((x / 4294967296%4294967296%2*4294967296+x%4294967296) / 2:Nat):Int):=Kb _ 2
   have e4:(x / 4294967296%4294967296%2*4294967296+x%4294967296) / 2=x / 2%4294967296:=by omega
   rw [e1,e2,e3,e4,Dp (by omega) (by omega),Lm (by omega) (by omega)]
   exact ih
theorem Ag.Hs.known:Ag.Hs.Kn:=Ag.Hs.Ac (.cons Ag.Made.known (.cons Ag.Jl.known .nil)) fun n a hp=>by
 obtain ⟨v,rfl,rfl,hv⟩:=Jr hp
 refine ⟨Dy v.natAbs+1,Ag.Hs.out [.b (Bj v),.l (Aq v)],[],?_,Ae9⟩
 show _=some (DV.agg [.bool (Bj (Lg (wv (Bj v) (Aq v)) 1)),.ints .arg .u32 (Aq (Lg (wv (Bj v) (Aq v)) 1))])
 rw [Ag.Hs.ev,Ib,Cv,A1i (by omega),A1i (by omega),A1i (by unfold G0; omega),A1n,A1n,A1h,A1j]
 have h:=Ann (Dy v.natAbs+1) hv (Dy v.natAbs) 0 (Dy v.natAbs+1) (by omega) (by omega)
 rw [digits,List.nil_append] at h
 exact h
def Ah4 (v:Int):Option DV:=some (.agg [.bool (Bj v),.ints .arg .u32 (Aq v)])
theorem Vi (v:Int):A6 (0:Int) ((Aq v).length:Int)=decide (v≠0):=by
 rw [Au,Cv,decide_eq_decide]
 constructor
 ·intro h e
  rw [e] at h
  exact absurd h (by decide)
 ·intro h
  have:=Jn (n:=v.natAbs) (by omega)
  omega
theorem Av6 (N:Nat):∀ (j F:Nat) (v:Int),j<F→j<2000000→Dy v.natAbs<268435456→Ag.Br.L3 N F (-(j:Int)) (Bj v) (Aq v)=Ah4 (Lg v j):=by
 intro j
 induction j with
 | zero =>
   intro F v hF _ hv
   obtain ⟨F,rfl⟩:∃ G,F=G+1:=⟨F-1,by omega⟩
   rw [Ag.Br.Ae3,Au,A1m (by omega),Bool.false_and,A1l,Afu]
   rfl
 | succ j ih =>
   intro F v hF hj hv
   obtain ⟨F,rfl⟩:∃ G,F=G+1:=⟨F-1,by omega⟩
   rw [Ag.Br.Ae3,Au,A1i (by omega),A2u,Vi]
   by_cases h0:v=0
   ·rw [A1m (by omega),A1l,h0,R6]
    rfl
   ·rw [A1i h0,A1h,Jt hv,A1h,Ib,Am (by omega) (by omega)]
    have e:-((j+1:Nat):Int)+1=-(j:Int):=by omega
    have hl:Dy (Lg v 1).natAbs<268435456:=by
     rw [Mo]
     exact A2j (Nb (Nat.div_le_self _ _)) hv
    rw [e,ih F (Lg v 1) (by omega) (by omega) hl,Adq,Nat.add_comm]
theorem Aj6 (v:Int):wv (Bj v) ((Aq v).drop 1)=Lg v 32:=by
 unfold wv Lg
 rw [Al3 (Hg v),D7,two32]
theorem Av7 (N:Nat):∀ (F j:Nat) (v:Int),j<F→j<N→j<2000000→Dy v.natAbs<268435456→Ag.Br.L2 N F (-(j:Int)) (Bj v) (Aq v)=Ah4 (Lg v j):=by
 intro F
 induction F with
 | zero=>intro j v h; omega
 | succ F ih =>
   intro j v hF hN hj hv
   rw [Ag.Br.H7,Es,Vi]
   by_cases hc:32≤j∧v≠0
   ·have o3:Ia ((Aq v).drop 1)=true:=Ot (by rw [List.length_drop,Cv]; omega) (Ag1 (Hg v))
    have t1:decide ((1:Int)≤((Aq v).length:Int))=true:=A1i (by
     rw [Cv]
     have:=Jn (n:=v.natAbs) (by omega)
     omega)
    have hl:Dy (Lg v 32).natAbs<268435456:=by
     rw [Mo]
     exact A2j (Nb (Nat.div_le_self _ _)) hv
    rw [A1i (by omega),A1i hc.2,A1n,A1h,t1,A1h,o3,A1h,Aj6,Am (by omega) (by omega)]
    have e:-(j:Int)+32=-((j-32:Nat):Int):=by omega
    rw [e,ih (j-32) (Lg v 32) (by omega) (by omega) (by omega) hl,Adq]
    congr 2
    omega
   ·have:(decide (-(j:Int)≤-32)&&decide (v≠0))=false:=by
     rw [Bool.and_eq_false_iff,A10,A10]
     omega
    rw [this,A1l]
    exact Av6 N j N v hN hj hv
theorem Xb (N F:Nat) {k:Int} (hk:0≤k) (hN:0<N) (v:Int):Ag.Br.L2 N (F+1) k (Bj v) (Aq v)=Ah4 v:=by
 obtain ⟨M,rfl⟩:∃ M,N=M+1:=⟨N-1,by omega⟩
 rw [Ag.Br.H7,Es,A1m (by omega),Bool.false_and,A1l,Ag.Br.Ae3,Au,A1m (by omega),Bool.false_and,A1l]
 rfl
theorem Av8 (N:Nat) (hN:0<N):∀ (j F:Nat) (v:Int),j<F→j<2000000→Dy v.natAbs+j<268435456→Ag.Br.L1 N F (j:Int) (Bj v) (Aq v)=Ah4 (v*((2^j:Nat):Int)):=by
 obtain ⟨M,rfl⟩:∃ M,N=M+1:=⟨N-1,by omega⟩
 intro j
 induction j with
 | zero =>
   intro F v hF _ hv
   obtain ⟨F,rfl⟩:∃ G,F=G+1:=⟨F-1,by omega⟩
   rw [Ag.Br.B8,Au,A1m (by omega),Bool.false_and,A1l,Xb _ _ (by omega) (by omega),A2f]
   congr 1
   omega
 | succ j ih =>
   intro F v hF hj hv
   obtain ⟨F,rfl⟩:∃ G,F=G+1:=⟨F-1,by omega⟩
   rw [Ag.Br.B8,Au,A1i (by omega),A2u,Vi]
   by_cases h0:v=0
   ·rw [A1m (by omega),A1l,h0,Int.zero_mul,Xb _ _ (by omega) (by omega)]
   ·have hl:=Aqx v.natAbs
    have e2:(2*v).natAbs=2*v.natAbs:=by omega
    have e:((j+1:Nat):Int)-1=(j:Int):=by omega
    rw [A1i h0,A1h,Jt (by omega),A1h,Ib,Am (by omega) (by omega),e,ih F (2*v) (by omega) (by omega) (by rw [e2]; omega)]
    congr 1
    rw [Nat.pow_succ,A12,Int.mul_comm 2 v,Int.mul_assoc,Int.mul_comm ((2^j:Nat):Int)]
    rfl
theorem Axf (v:Int):wv (Bj v) ([(0:Int)]++Aq v)=v*((2^32:Nat):Int):=by
 have e:Co ([(0:Int)]++Aq v)=4294967296*v.natAbs:=by
  show Co (0::Aq v)=_
  rw [Co,D7]
  exact A2r _
 unfold wv
 rw [e,two32]
 by_cases h:v<0
 ·rw [Uo h]; omega
 ·rw [Un h]; omega
theorem Av9 (N:Nat):∀ (F j:Nat) (v:Int),j<F→j<N→j<2000000→Dy v.natAbs+j<268435456→Ag.Br.L0 N F (j:Int) (Bj v) (Aq v)=Ah4 (v*((2^j:Nat):Int)):=by
 intro F
 induction F with
 | zero=>intro j v h; omega
 | succ F ih =>
   intro j v hF hN hj hv
   rw [Ag.Br.Av,Es,Vi]
   by_cases hc:32≤j∧v≠0
   ·have o3:Ia ([(0:Int)]++Aq v)=true:=Ot (by rw [A19,Cv]; show 1+_<_; omega) (Aq7 (Hg v))
    have t1:decide (1+(Aq v).length≤G0)=true:=A1i (by rw [Cv]; unfold G0; omega)
    have e2:(v*((2^32:Nat):Int)).natAbs=v.natAbs*4294967296:=by rw [Int.natAbs_mul,Int.natAbs_natCast,two32]
    have hl:=At2 v.natAbs
    rw [A1i (by omega),A1i hc.2,A1n,A1h,t1,A1h,o3,A1h,Axf,Am (by omega) (by omega)]
    have e:(j:Int)-32=((j-32:Nat):Int):=by omega
    rw [e,ih (j-32) _ (by omega) (by omega) (by omega) (by rw [e2]; omega)]
    have e3:2^j=2^32*2^(j-32):=by rw [← A16]; congr 1; omega
    rw [e3,A12,Int.mul_assoc]
   ·have:(decide ((32:Int)≤(j:Int))&&decide (v≠0))=false:=by
     rw [Bool.and_eq_false_iff,A10,A10]
     omega
    rw [this,A1l]
    exact Av8 N (by omega) j N v hN hj hv
theorem Aig (N j:Nat) (v:Int) (hj:0<j) (hN:j<N) (hj2:j<2000000) (hv:Dy v.natAbs<268435456):Ag.Br.L0 N N (-(j:Int)) (Bj v) (Aq v)=Ah4 (Lg v j):=by
 obtain ⟨M,rfl⟩:∃ M,N=M+1:=⟨N-1,by omega⟩
 rw [Ag.Br.Av,Es,A1m (by omega),Bool.false_and,A1l,Ag.Br.B8,Au,A1m (by omega),Bool.false_and,A1l]
 exact Av7 _ _ j v hN hN hj2 hv
theorem Ag.Br.known:Ag.Br.Kn:=Ag.Br.Ac (.cons Ag.Fo.known (.cons Ag.Hs.known (.cons Ag.Made.known .nil))) fun n a k hp=>by
 obtain ⟨h1,h2⟩:=Ae.1 hp
 obtain ⟨v,rfl,rfl,hv⟩:=P4 h1
 have h2:=Ar.1 h2
 refine ⟨k.natAbs+1,Ag.Br.out [.b (Bj v),.l (Aq v),.i k],[],?_,Ae9⟩
 show _=some (DV.agg [.bool (Bj (G8 (wv (Bj v) (Aq v)) k)),.ints .arg .u32 (Aq (G8 (wv (Bj v) (Aq v)) k))])
 rw [Ag.Br.ev,Ib]
 unfold G8
 by_cases h:0≤k
 ·obtain ⟨j,rfl⟩:∃ j:Nat,k=j:=⟨k.toNat,by omega⟩
  rw [A14 h,A1j,Int.natAbs_natCast]
  exact Av9 _ _ j v (by omega) (by omega) (by omega) (by omega)
 ·obtain ⟨j,rfl⟩:∃ j:Nat,k=-(j:Int):=⟨(-k).toNat,by omega⟩
  have e:(-(-(j:Int))).toNat=j:=by omega
  rw [A13 h,e,Int.natAbs_neg,Int.natAbs_natCast]
  exact Aig _ j v (by omega) (by omega) (by omega) (by omega)
open EqRefB
theorem Anh {t:Nat} (h:2≤t):(t / 2).log2+1=t.log2:=by
 have:=Agq (n:=t) (m:=1) (by omega)
 rw [Nat.pow_one] at this
 exact this
theorem Aqw (N:Nat):∀ (F:Nat) (t:Nat) (p:Int),t<2^32→0<t→t.log2+1<F→-1000≤p→p+t.log2<4611686018427387904 →
 Ag.Qu.L0 N F p (t:Int)=some (.int .i64 (p+t.log2+1)):=by
 intro F
 induction F with
 | zero=>intro t p _ _ h; omega
 | succ F ih =>
   intro t p ht h0 hF hp1 hp2
   have e2:Int.tdiv (t:Int) 2=((t / 2:Nat):Int):=Kb t 2
   rw [two32] at ht
   rw [Ag.Qu.Av,Au,A1i (by omega),A1h,e2,Lm (by omega) (by omega),Am (by omega) (by omega)]
   by_cases h1:t=1
   ·subst h1
    obtain ⟨G,rfl⟩:∃ G,F=G+1:=⟨F-1,by omega⟩
    rw [Ag.Qu.Av,Au,A1m (by decide),A1l]
    have:(1:Nat).log2=0:=by decide
    rw [this]
    congr 2
    omega
   ·have hl:=Anh (t:=t) (by omega)
    rw [ih (t / 2) (p+1) (by rw [two32]; omega) (by omega) (by omega) (by omega) (by omega)]
    congr 2
    omega
theorem Ag.Qu.known:Ag.Qu.Kn:=Ag.Qu.Ac .nil fun n a hp=>by
 obtain ⟨v,rfl,rfl,hv⟩:=Jr hp
 refine ⟨40,Ag.Qu.out [.b (Bj v),.l (Aq v)],[],?_,.int⟩
 show _=some (DV.int .i64 (Z3 (wv (Bj v) (Aq v))))
 rw [Ag.Qu.ev,Ib,Cv]
 unfold Z3
 by_cases h0:v=0
 ·rw [A14 h0,h0]; rfl
 ·have hn:v.natAbs≠0:=by omega
  have hl:=Jn hn
  have e0:((Dy v.natAbs:Int)==0)=false:=by simp only [A2c,ne_eq]; omega
  have e1:(Dy v.natAbs:Int)-1=((Dy v.natAbs-1:Nat):Int):=by omega
  have hlen:Dy v.natAbs=v.natAbs.log2 / 32+1:=by unfold Dy; rw [A13 hn]
  have hge:2^(32*(Dy v.natAbs-1))≤v.natAbs:=A2o (A1w (by decide) (by omega)) (Nat.log2_self_le hn)
  have hq:v.natAbs / 2^(32*(Dy v.natAbs-1))<2^32:=by
   rw [Nat.div_lt_iff_lt_mul (Cg _),← A16]
   have:=Mv v.natAbs
   have e:32+32*(Dy v.natAbs-1)=32*Dy v.natAbs:=by omega
   rw [e]; exact this
  have hlog:=Agq hge
  have hg:=Si (Hg v) (Dy v.natAbs-1)
  have hq':=hq
  rw [two32] at hq'
  rw [D7,A1u hq'] at hg
  have hpos:=Nat.div_pos hge (Cg _)
  have h32:(v.natAbs / 2^(32*(Dy v.natAbs-1))).log2<32:=(A2x (by omega)).2 hq
  rw [A13 h0,e0,A1l,Am (by omega) (by omega),e1,A1i (by omega),A1i (by omega),A1n,A1h,A1j,hg,Am (by omega) (by omega)]
  rw [Aqw 40 40 _ _ hq hpos (by omega) (by omega) (by omega)]
  congr 2
  omega
theorem Ag.W4.known:Ag.W4.Kn:=Ag.W4.Ac .nil fun n a hp=>by
 obtain ⟨v,rfl,rfl,hv⟩:=Jr hp
 refine ⟨0,Ag.W4.out [.b (Bj v),.l (Aq v)],[],?_,.bool⟩
 show _=some (DV.bool (Amu (wv (Bj v) (Aq v))))
 rw [Ag.W4.ev,Ib,Vi]
 have hg:=Si (Hg v) 0
 rw [D7,Nat.mul_zero,A2f,Nat.div_one] at hg
 have e2:Int.tmod ((v.natAbs%4294967296:Nat):Int) 2=((v.natAbs%4294967296%2:Nat):Int):=Ka _ 2
 unfold Amu
 by_cases h0:v=0
 ·rw [h0]; rfl
 ·have hl:=Jn (n:=v.natAbs) (by omega)
  rw [hg,e2,A1i h0,Cv,A1i (by omega),A2t,A1h,A1h]
  congr 2
  rw [A1x]
  simp only [beq_iff_eq,A1o]
  omega
namespace EqRefC
def Aw.Of.hint:Nat→Option Be
 | 0=>some { keep:=[1,2,4],objs:=[],boxes:=[2,4] }
 | 2=>some { keep:=[1,2,4],objs:=[],boxes:=[2,4] }
 | _=>none
def Aw.Of.A9:List (Nat × Entry):=[(173,Ag.Hs.spec),(171,Ag.Made.spec),(172,Ag.W4.spec)]
def Aw.Of.E:Env:=Ba (A8 Aw.Of.A9) (fun _=>false) Aw.Of.hint (fun _=>none)
section
variable (N:Nat) (n:Bool) (a:List Int) (e:Int) (M:Nat) (p1_1:Int) (p2_2:Bool) (p2_3:List Int) (p1:Int) (p2:Bool) (p2_1:List Int)
def Aw.Of.L0:Option DV:=B2 Aw.Of.E N f109 (An f109) [1,1,0,0] [] M ⟨Gz 33 [(1,.int .i64 p1),(2,.ptr 2 0 0),(4,.ptr 4 0 0)],[(2,false,.box [.bool p2,.ints .arg .u32 p2_1]),(4,false,.box [.bool false,.nil,.int .i64 0])]⟩
def Aw.Of.L1:Option DV:=B2 Aw.Of.E N f109 (An f109) [1,1,1,0,0] [] M ⟨Gz 33 [(1,.int .i64 p1_1),(2,.ptr 2 0 0),(4,.ptr 4 0 0)],[(2,false,.box [.bool p2_2,.ints .arg .u32 p2_3]),(4,false,.box [.bool false,.nil,.int .i64 0])]⟩
theorem Aw.Of.Av:Aw.Of.L0 N (M+1) p1 p2 p2_1=bif (decide ((0:Int)<(length p2_1:Int))) then bif ((getD p2_1 0 0)==(0:Int)) then bif (decide ((1:Int)≤(length p2_1:Int))) then bif (Ia (List.drop 1 p2_1)) then Aw.Of.L0 N M (Ab (p1+32)) (Bj (wv p2 (List.drop 1 p2_1))) (Aq (wv p2 (List.drop 1 p2_1))) else none else none else Aw.Of.L1 N N p1 p2 p2_1 else none :=
 Eq.trans (by kernel_rfl)
 (Et (Et (C9 (Ax5 (decide ((1:Int)≤(length p2_1:Int)))) (C9 (Cy (Ia (List.drop 1 p2_1))) rfl rfl) rfl) rfl) rfl)
theorem Aw.Of.B8:Aw.Of.L1 N (M+1) p1_1 p2_2 p2_3=bif (Ju p2_2 p2_3) then bif (!(Amu (wv p2_2 p2_3))) then bif (Ju p2_2 p2_3) then Aw.Of.L1 N M (Ab (p1_1+1)) (Bj (Lg (wv p2_2 p2_3) 1)) (Aq (Lg (wv p2_2 p2_3) 1)) else none else some (.agg [.bool p2_2,.ints .arg .u32 p2_3,.int .i64 p1_1]) else none:=by kernel_rfl
theorem Aw.Of.ev:Bw Aw.Of.E N f109 (An f109) [.agg [.bool n,.ints .arg .u32 a],.int .i64 e]=bif ((length a:Int)==(0:Int)) then some (.agg [.bool false,.nil,.int .i64 0]) else Aw.Of.L0 N N e n a:=by kernel_rfl
end
abbrev _root_.Go.Proofs.S1.Aw.Of.Kn:=A4 prog 109 Aw.Of.spec
theorem Aw.Of.Ac (hk:Az prog Aw.Of.A9) (h:Hyp Aw.Of.E f109 Aw.Of.ts Aw.Of.pre Aw.Of.out):Aw.Of.Kn :=
 Al (A0 hk _ _ _) func109 (by kernel_rfl) (by kernel_rfl) h
def Aw.Neg.A9:List (Nat × Entry):=[(143,Ag.Neg.spec)]
def Aw.Neg.E:Env:=Ba (A8 Aw.Neg.A9) (fun _=>false) (fun _=>none) (fun _=>none)
theorem Aw.Neg.ev (N:Nat) (n:Bool) (a:List Int) (e:Int):Bw Aw.Neg.E N f170 (An f170) [.agg [.bool n,.ints .arg .u32 a,.int .i64 e]]=bif (Ju n a) then some (.agg [.bool (Bj (- wv n a)),.ints .arg .u32 (Aq (- wv n a)),.int .i64 e]) else none :=
 Eq.trans (by kernel_rfl)
 (C9 (Cy (Ju n a)) rfl rfl)
abbrev _root_.Go.Proofs.S1.Aw.Neg.Kn:=A4 prog 170 Aw.Neg.spec
theorem Aw.Neg.Ac (hk:Az prog Aw.Neg.A9) (h:Hyp Aw.Neg.E f170 Aw.Neg.ts Aw.Neg.pre Aw.Neg.out):Aw.Neg.Kn :=
 Al (A0 hk _ _ _) func170 (by kernel_rfl) (by kernel_rfl) h
def Aw.W6.A9:List (Nat × Entry):=[]
def Aw.W6.E:Env:=Ba (A8 Aw.W6.A9) (fun _=>false) (fun _=>none) (fun _=>none)
theorem Aw.W6.ev (N:Nat) (n:Bool) (a:List Int) (e:Int) (m:Bool) (b:List Int) (f:Int):Bw Aw.W6.E N f111 (An f111) [.agg [.bool n,.ints .arg .u32 a,.int .i64 e],.agg [.bool m,.ints .arg .u32 b,.int .i64 f]]=bif ((length a:Int)==(0:Int)) then some (.int .i64 f) else bif ((length b:Int)==(0:Int)) then some (.int .i64 e) else some (.int .i64 (min e f)):=by kernel_rfl
abbrev _root_.Go.Proofs.S1.Aw.W6.Kn:=A4 prog 111 Aw.W6.spec
theorem Aw.W6.Ac (hk:Az prog Aw.W6.A9) (h:Hyp Aw.W6.E f111 Aw.W6.ts Aw.W6.pre Aw.W6.out):Aw.W6.Kn :=
 Al (A0 hk _ _ _) func111 (by kernel_rfl) (by kernel_rfl) h
def Aw.Level.A9:List (Nat × Entry):=[(178,Ag.Br.spec)]
def Aw.Level.E:Env:=Ba (A8 Aw.Level.A9) (fun _=>false) (fun _=>none) (fun _=>none)
theorem Aw.Level.ev (N:Nat) (n:Bool) (a:List Int) (e f:Int):Bw Aw.Level.E N f113 (An f113) [.agg [.bool n,.ints .arg .u32 a,.int .i64 e],.int .i64 f]=bif ((length a:Int)==(0:Int)) then some (.agg [.bool n,.ints .arg .u32 a]) else bif (Ya n a&&Awj (Ab (e-f))) then some (.agg [.bool (Bj (G8 (wv n a) (Ab (e-f)))),.ints .arg .u32 (Aq (G8 (wv n a) (Ab (e-f))))]) else none:=by kernel_rfl
abbrev _root_.Go.Proofs.S1.Aw.Level.Kn:=A4 prog 113 Aw.Level.spec
theorem Aw.Level.Ac (hk:Az prog Aw.Level.A9) (h:Hyp Aw.Level.E f113 Aw.Level.ts Aw.Level.pre Aw.Level.out):Aw.Level.Kn :=
 Al (A0 hk _ _ _) func113 (by kernel_rfl) (by kernel_rfl) h
def Aw.Add.A9:List (Nat × Entry):=[(112,Ag.Add.spec),(113,Aw.Level.spec),(111,Aw.W6.spec),(109,Aw.Of.spec)]
def Aw.Add.E:Env:=Ba (A8 Aw.Add.A9) (fun _=>false) (fun _=>none) (fun _=>none)
theorem Aw.Add.ev (N:Nat) (n:Bool) (a:List Int) (e:Int) (m:Bool) (b:List Int) (f:Int):Bw Aw.Add.E N f42 (An f42) [.agg [.bool n,.ints .arg .u32 a,.int .i64 e],.agg [.bool m,.ints .arg .u32 b,.int .i64 f]]=bif (Ju n a&&Ju m b) then bif (Ya n a&&Age (wv n a) e (C6 (wv n a) e (wv m b) f)) then bif (Ya m b&&Age (wv m b) f (C6 (wv n a) e (wv m b) f)) then bif (Ju (Bj (G8 (wv n a) (e-(C6 (wv n a) e (wv m b) f)))) (Aq (G8 (wv n a) (e-(C6 (wv n a) e (wv m b) f))))&&Ju (Bj (G8 (wv m b) (f-(C6 (wv n a) e (wv m b) f)))) (Aq (G8 (wv m b) (f-(C6 (wv n a) e (wv m b) f))))) then bif (Ju (Bj (wv (Bj (G8 (wv n a) (e-(C6 (wv n a) e (wv m b) f)))) (Aq (G8 (wv n a) (e-(C6 (wv n a) e (wv m b) f))))+wv (Bj (G8 (wv m b) (f-(C6 (wv n a) e (wv m b) f)))) (Aq (G8 (wv m b) (f-(C6 (wv n a) e (wv m b) f)))))) (Aq (wv (Bj (G8 (wv n a) (e-(C6 (wv n a) e (wv m b) f)))) (Aq (G8 (wv n a) (e-(C6 (wv n a) e (wv m b) f))))+wv (Bj (G8 (wv m b) (f-(C6 (wv n a) e (wv m b) f)))) (Aq (G8 (wv m b) (f-(C6 (wv n a) e (wv m b) f))))))&&Abb (C6 (wv n a) e (wv m b) f)) then some (.agg [.bool (Bj (mD (wv (Bj (wv (Bj (G8 (wv n a) (e-(C6 (wv n a) e (wv m b) f)))) (Aq (G8 (wv n a) (e-(C6 (wv n a) e (wv m b) f))))+wv (Bj (G8 (wv m b) (f-(C6 (wv n a) e (wv m b) f)))) (Aq (G8 (wv m b) (f-(C6 (wv n a) e (wv m b) f)))))) (Aq (wv (Bj (G8 (wv n a) (e-(C6 (wv n a) e (wv m b) f)))) (Aq (G8 (wv n a) (e-(C6 (wv n a) e (wv m b) f))))+wv (Bj (G8 (wv m b) (f-(C6 (wv n a) e (wv m b) f)))) (Aq (G8 (wv m b) (f-(C6 (wv n a) e (wv m b) f))))))))),.ints .arg .u32 (Aq (mD (wv (Bj (wv (Bj (G8 (wv n a) (e-(C6 (wv n a) e (wv m b) f)))) (Aq (G8 (wv n a) (e-(C6 (wv n a) e (wv m b) f))))+wv (Bj (G8 (wv m b) (f-(C6 (wv n a) e (wv m b) f)))) (Aq (G8 (wv m b) (f-(C6 (wv n a) e (wv m b) f)))))) (Aq (wv (Bj (G8 (wv n a) (e-(C6 (wv n a) e (wv m b) f)))) (Aq (G8 (wv n a) (e-(C6 (wv n a) e (wv m b) f))))+wv (Bj (G8 (wv m b) (f-(C6 (wv n a) e (wv m b) f)))) (Aq (G8 (wv m b) (f-(C6 (wv n a) e (wv m b) f))))))))),.int .i64 (eD (wv (Bj (wv (Bj (G8 (wv n a) (e-(C6 (wv n a) e (wv m b) f)))) (Aq (G8 (wv n a) (e-(C6 (wv n a) e (wv m b) f))))+wv (Bj (G8 (wv m b) (f-(C6 (wv n a) e (wv m b) f)))) (Aq (G8 (wv m b) (f-(C6 (wv n a) e (wv m b) f)))))) (Aq (wv (Bj (G8 (wv n a) (e-(C6 (wv n a) e (wv m b) f)))) (Aq (G8 (wv n a) (e-(C6 (wv n a) e (wv m b) f))))+wv (Bj (G8 (wv m b) (f-(C6 (wv n a) e (wv m b) f)))) (Aq (G8 (wv m b) (f-(C6 (wv n a) e (wv m b) f))))))) (C6 (wv n a) e (wv m b) f))]) else none else none else none else none else none :=
 Eq.trans (by kernel_rfl)
 (Et (C9 (Cy (Ya n a&&Age (wv n a) e (C6 (wv n a) e (wv m b) f))) (C9 (Cy (Ya m b&&Age (wv m b) f (C6 (wv n a) e (wv m b) f))) (C9 (Cy (Ju (Bj (G8 (wv n a) (e-(C6 (wv n a) e (wv m b) f)))) (Aq (G8 (wv n a) (e-(C6 (wv n a) e (wv m b) f))))&&Ju (Bj (G8 (wv m b) (f-(C6 (wv n a) e (wv m b) f)))) (Aq (G8 (wv m b) (f-(C6 (wv n a) e (wv m b) f)))))) (C9 (Cy (Ju (Bj (wv (Bj (G8 (wv n a) (e-(C6 (wv n a) e (wv m b) f)))) (Aq (G8 (wv n a) (e-(C6 (wv n a) e (wv m b) f))))+wv (Bj (G8 (wv m b) (f-(C6 (wv n a) e (wv m b) f)))) (Aq (G8 (wv m b) (f-(C6 (wv n a) e (wv m b) f)))))) (Aq (wv (Bj (G8 (wv n a) (e-(C6 (wv n a) e (wv m b) f)))) (Aq (G8 (wv n a) (e-(C6 (wv n a) e (wv m b) f))))+wv (Bj (G8 (wv m b) (f-(C6 (wv n a) e (wv m b) f)))) (Aq (G8 (wv m b) (f-(C6 (wv n a) e (wv m b) f))))))&&Abb (C6 (wv n a) e (wv m b) f))) rfl rfl) rfl) rfl) rfl) rfl)
abbrev _root_.Go.Proofs.S1.Aw.Add.Kn:=A4 prog 42 Aw.Add.spec
theorem Aw.Add.Ac (hk:Az prog Aw.Add.A9) (h:Hyp Aw.Add.E f42 Aw.Add.ts Aw.Add.pre Aw.Add.out):Aw.Add.Kn :=
 Al (A0 hk _ _ _) func42 (by kernel_rfl) (by kernel_rfl) h
def Aw.Sub.A9:List (Nat × Entry):=[(42,Aw.Add.spec),(170,Aw.Neg.spec)]
def Aw.Sub.E:Env:=Ba (A8 Aw.Sub.A9) (fun _=>false) (fun _=>none) (fun _=>none)
theorem Aw.Sub.ev (N:Nat) (n:Bool) (a:List Int) (e:Int) (m:Bool) (b:List Int) (f:Int):Bw Aw.Sub.E N f105 (An f105) [.agg [.bool n,.ints .arg .u32 a,.int .i64 e],.agg [.bool m,.ints .arg .u32 b,.int .i64 f]]=bif (Ju m b) then bif (((Ya n a&&Ya (Bj (- wv m b)) (Aq (- wv m b)))&&Xu e)&&Xu f) then some (.agg [.bool (Bj (Ru (wv n a) e (wv (Bj (- wv m b)) (Aq (- wv m b))) f)),.ints .arg .u32 (Aq (Ru (wv n a) e (wv (Bj (- wv m b)) (Aq (- wv m b))) f)),.int .i64 (Asf (wv n a) e (wv (Bj (- wv m b)) (Aq (- wv m b))) f)]) else none else none :=
 Eq.trans (by kernel_rfl)
 (C9 (Cy (Ju m b)) (C9 (Cy (((Ya n a&&Ya (Bj (- wv m b)) (Aq (- wv m b)))&&Xu e)&&Xu f)) rfl rfl) rfl)
abbrev _root_.Go.Proofs.S1.Aw.Sub.Kn:=A4 prog 105 Aw.Sub.spec
theorem Aw.Sub.Ac (hk:Az prog Aw.Sub.A9) (h:Hyp Aw.Sub.E f105 Aw.Sub.ts Aw.Sub.pre Aw.Sub.out):Aw.Sub.Kn :=
 Al (A0 hk _ _ _) func105 (by kernel_rfl) (by kernel_rfl) h
def Aw.Vv.A9:List (Nat × Entry):=[(223,Ag.Qu.spec)]
def Aw.Vv.E:Env:=Ba (A8 Aw.Vv.A9) (fun _=>false) (fun _=>none) (fun _=>none)
theorem Aw.Vv.ev (N:Nat) (n:Bool) (a:List Int) (e:Int):Bw Aw.Vv.E N f180 (An f180) [.agg [.bool n,.ints .arg .u32 a,.int .i64 e]]=bif ((length a:Int)==(0:Int)) then some (.int .i64 0) else bif (Ju n a) then some (.int .i64 (Ab ((Z3 (wv n a))+e))) else none :=
 Eq.trans (by kernel_rfl)
 (Et rfl (C9 (Cy (Ju n a)) rfl rfl))
abbrev _root_.Go.Proofs.S1.Aw.Vv.Kn:=A4 prog 180 Aw.Vv.spec
theorem Aw.Vv.Ac (hk:Az prog Aw.Vv.A9) (h:Hyp Aw.Vv.E f180 Aw.Vv.ts Aw.Vv.pre Aw.Vv.out):Aw.Vv.Kn :=
 Al (A0 hk _ _ _) func180 (by kernel_rfl) (by kernel_rfl) h
def Aw.Sign.A9:List (Nat × Entry):=[]
def Aw.Sign.E:Env:=Ba (A8 Aw.Sign.A9) (fun _=>false) (fun _=>none) (fun _=>none)
theorem Aw.Sign.ev (N:Nat) (n:Bool) (a:List Int) (e:Int):Bw Aw.Sign.E N f179 (An f179) [.agg [.bool n,.ints .arg .u32 a,.int .i64 e]]=bif n then some (.int .i64 (-1:Int)) else some (.int .i64 (min (length a:Int) 1)):=by kernel_rfl
abbrev _root_.Go.Proofs.S1.Aw.Sign.Kn:=A4 prog 179 Aw.Sign.spec
theorem Aw.Sign.Ac (hk:Az prog Aw.Sign.A9) (h:Hyp Aw.Sign.E f179 Aw.Sign.ts Aw.Sign.pre Aw.Sign.out):Aw.Sign.Kn :=
 Al (A0 hk _ _ _) func179 (by kernel_rfl) (by kernel_rfl) h
def Aw.Compare.A9:List (Nat × Entry):=[(179,Aw.Sign.spec),(105,Aw.Sub.spec),(180,Aw.Vv.spec)]
def Aw.Compare.E:Env:=Ba (A8 Aw.Compare.A9) (fun _=>false) (fun _=>none) (fun _=>none)
theorem Aw.Compare.ev (N:Nat) (n:Bool) (a:List Int) (e:Int) (m:Bool) (b:List Int) (f:Int):Bw Aw.Compare.E N f116 (An f116) [.agg [.bool n,.ints .arg .u32 a,.int .i64 e],.agg [.bool m,.ints .arg .u32 b,.int .i64 f]]=bif (Ju n a) then bif (Ju m b) then bif ((N1 (wv n a)) !=(N1 (wv m b))) then bif (Ju n a) then bif (Ju m b) then some (.int .i64 (min 1 (max (-1:Int) (Ab ((N1 (wv n a))-(N1 (wv m b))))))) else none else none else bif (Ju n a&&Xu e) then bif (Ju m b&&Xu f) then bif ((Iv (wv n a) e) !=(Iv (wv m b) f)) then bif (Ju n a&&Xu e) then bif (Ju m b&&Xu f) then bif (Ju n a) then bif ((A6 (Iv (wv m b) f) (Iv (wv n a) e))==(A6 0 (N1 (wv n a)))) then some (.int .i64 1) else some (.int .i64 (-1:Int)) else none else none else none else bif (((Ya n a&&Ya m b)&&Xu e)&&Xu f) then bif (Ju (Bj (Ru (wv n a) e (- wv m b) f)) (Aq (Ru (wv n a) e (- wv m b) f))) then some (.int .i64 (N1 (wv (Bj (Ru (wv n a) e (- wv m b) f)) (Aq (Ru (wv n a) e (- wv m b) f))))) else none else none else none else none else none else none :=
 Eq.trans (by kernel_rfl)
 (C9 (Cy (Ju n a)) (C9 (Cy (Ju m b)) (Et (C9 (Cy (Ju n a)) (C9 (Cy (Ju m b)) rfl rfl) rfl) (C9 (Cy (Ju n a&&Xu e)) (C9 (Cy (Ju m b&&Xu f)) (Et (C9 (Cy (Ju n a&&Xu e)) (C9 (Cy (Ju m b&&Xu f)) (C9 (Cy (Ju n a)) rfl rfl) rfl) rfl) rfl) rfl) rfl)) rfl) rfl)
abbrev _root_.Go.Proofs.S1.Aw.Compare.Kn:=A4 prog 116 Aw.Compare.spec
theorem Aw.Compare.Ac (hk:Az prog Aw.Compare.A9) (h:Hyp Aw.Compare.E f116 Aw.Compare.ts Aw.Compare.pre Aw.Compare.out):Aw.Compare.Kn :=
 Al (A0 hk _ _ _) func116 (by kernel_rfl) (by kernel_rfl) h
end EqRefC
open EqRefC
def Anx (v e:Int):Option DV:=some (.agg [.bool (Bj v),.ints .arg .u32 (Aq v),.int .i64 e])
theorem wdy {drops:List Nat} {b:Bool} {l:List Int} {e:Int}:Wk drops (.agg [.bool b,.ints .arg .u32 l,.int .i64 e]) (.agg [.bool b,.ints .arg .u32 l,.int .i64 e]):=Wk.Hk (.cons .bool (.cons .X0 (.cons .int .nil)))
theorem Ara (v:Int):(Aq v).getD 0 0=((v.natAbs%4294967296:Nat):Int):=by
 have hg:=Si (Hg v) 0
 rw [D7,Nat.mul_zero,A2f,Nat.div_one] at hg
 exact hg
theorem Akh {v:Int} {k:Nat} (h:Dy v.natAbs<268435456):Dy (Lg v k).natAbs<268435456:=by
 rw [Mo]
 exact A2j (Nb (Nat.div_le_self _ _)) h
theorem Apb {v:Int} {k:Nat} (h0:v≠0) (h:v.natAbs%2^k=0):Lg v k≠0∧S2 (Lg v k).natAbs+k=S2 v.natAbs:=by
 have hv:=Nat.div_add_mod v.natAbs (2^k)
 rw [h,A2p,A15] at hv
 have hq:v.natAbs / 2^k≠0:=by
  intro e; rw [e] at hv; omega
 have ht:=Adc hq k
 rw [hv] at ht
 have ha:=Mo v k
 refine ⟨by omega,?_⟩
 rw [ha]
 omega
theorem Ap3 (N:Nat):∀ (F:Nat) (v e:Int),v≠0→S2 v.natAbs<F→Dy v.natAbs<268435456→-4000000000000≤e→e+S2 v.natAbs≤400000000000000 →
 Aw.Of.L1 N F e (Bj v) (Aq v)=Anx (mD v) (eD v e):=by
 intro F
 induction F with
 | zero=>intro v e _ h; omega
 | succ F ih =>
   intro v e h0 hF hv h1 h2
   rw [Aw.Of.B8,Jt hv,A1h,Ib]
   by_cases ho:v%2=1
   ·have:Amu v=true:=A1i ho
    rw [this,A2g,A1l,Awo ho,Awz ho]
    rfl
   ·have:Amu v=false:=A1m ho
    have hm:v.natAbs%2^1=0:=by rw [Nat.pow_one]; omega
    obtain ⟨n1,n2⟩:=Apb h0 hm
    rw [this,A20,A1h,A1h,Am (by omega) (by omega),ih (Lg v 1) (e+1) n1 (by omega) (Akh hv) (by omega) (by omega),Aqp hm]
    have:=Arm (e:=e) hm h0
    rw [← this]
    rfl
theorem Ap4 (N:Nat):∀ (F:Nat) (v e:Int),v≠0→S2 v.natAbs<F→S2 v.natAbs<N→Dy v.natAbs<268435456→-4000000000000≤e→e+S2 v.natAbs≤400000000000000 →
 Aw.Of.L0 N F e (Bj v) (Aq v)=Anx (mD v) (eD v e):=by
 intro F
 induction F with
 | zero=>intro v e _ h; omega
 | succ F ih =>
   intro v e h0 hF hN hv h1 h2
   have hl:=Jn (n:=v.natAbs) (by omega)
   rw [Aw.Of.Av,Cv,A1i (by omega),A1h,Ara]
   by_cases hz:v.natAbs%4294967296=0
   ·have e0:(((v.natAbs%4294967296:Nat):Int)==0)=true:=by rw [hz]; rfl
    have o3:Ia ((Aq v).drop 1)=true:=Ot (by rw [List.length_drop,Cv]; omega) (Ag1 (Hg v))
    have hm:v.natAbs%2^32=0:=by rw [two32]; exact hz
    obtain ⟨n1,n2⟩:=Apb h0 hm
    rw [e0,A1h,A1i (by omega),A1h,o3,A1h,Aj6,Am (by omega) (by omega),ih (Lg v 32) (e+32) n1 (by omega) (by omega) (Akh hv) (by omega) (by omega),Aqp hm]
    have:=Arm (e:=e) hm h0
    rw [← this]
    rfl
   ·have e0:(((v.natAbs%4294967296:Nat):Int)==0)=false:=by simp only [A2c,ne_eq]; omega
    rw [e0,A1l]
    exact Ap3 N N v e h0 hN hv h1 h2
theorem Aot {v:Int} (h0:v≠0) (h:Dy v.natAbs<268435456):S2 v.natAbs<8589934592:=by
 have h1:=Au7 (n:=v.natAbs) (by omega)
 have h2:=Acb (n:=v.natAbs)
 omega
theorem Aw.Of.known:Aw.Of.Kn:=Aw.Of.Ac (.cons Ag.Hs.known (.cons Ag.Made.known (.cons Ag.W4.known .nil))) fun n a e hp=>by
 obtain ⟨h1,h2⟩:=Ae.1 hp
 obtain ⟨v,rfl,rfl,hv⟩:=Jr h1
 have h2:=Ar.1 h2
 by_cases h0:v=0
 ·subst h0
  refine ⟨0,.agg [.bool false,.nil,.int .i64 (0:Int)],[],?_,?_⟩
  ·rw [Aw.Of.ev]; rfl
  ·show Wk [] _ (.agg [.bool (Bj (mD (wv (Bj 0) (Aq 0)))),.ints .arg .u32 (Aq (mD (wv (Bj 0) (Aq 0)))),.int .i64 (eD (wv (Bj 0) (Aq 0)) e)])
   rw [Ib,P8.2 rfl]
   exact Wk.Hk (.cons .bool (.cons (.nil _ _) (.cons .int .nil)))
 ·refine ⟨S2 v.natAbs+1,Aw.Of.out [.b (Bj v),.l (Aq v),.i e],[],?_,wdy⟩
  have ht:=Aot h0 hv
  have hl:=Jn (n:=v.natAbs) (by omega)
  have e0:(((Aq v).length:Int)==0)=false:=by rw [Cv]; simp only [A2c,ne_eq]; omega
  show _=Anx (mD (wv (Bj v) (Aq v))) (eD (wv (Bj v) (Aq v)) e)
  rw [Aw.Of.ev,e0,A1l,Ib]
  exact Ap4 _ _ v e h0 (by omega) (by omega) hv (by omega) (by omega)
theorem Aw.Neg.known:Aw.Neg.Kn:=Aw.Neg.Ac (.cons Ag.Neg.known .nil) fun n a e hp=>by
 refine ⟨0,Aw.Neg.out [.b n,.l a,.i e],[],?_,wdy⟩
 have hp:Ju n a=true:=hp
 rw [Aw.Neg.ev,hp,A1h]
 rfl
theorem Vh (v:Int):(((Aq v).length:Int)==0)=decide (v=0):=by
 rw [Cv,A1x]
 simp only [beq_iff_eq,A1o]
 constructor
 ·intro h
  rcases Int.lt_trichotomy v 0 with k | k | k
  ·have:=Jn (n:=v.natAbs) (by omega); omega
  ·exact k
  ·have:=Jn (n:=v.natAbs) (by omega); omega
 ·intro h; rw [h]; rfl
theorem Aw.W6.known:Aw.W6.Kn:=Aw.W6.Ac .nil fun n a e m b f hp=>by
 obtain ⟨h1,h2⟩:=Ae.1 hp
 obtain ⟨v,rfl,rfl,hv⟩:=Jr h1
 obtain ⟨w,rfl,rfl,hw⟩:=Jr h2
 refine ⟨0,Aw.W6.out [.b (Bj v),.l (Aq v),.i e,.b (Bj w),.l (Aq w),.i f],[],?_,.int⟩
 show _=some (DV.int .i64 (C6 (wv (Bj v) (Aq v)) e (wv (Bj w) (Aq w)) f))
 rw [Aw.W6.ev,Ib,Ib,Vh,Vh]
 unfold C6
 by_cases h:v=0
 ·rw [A1i h,A1h,A14 h]
 ·rw [A1m h,A1l,A13 h]
  by_cases h':w=0
  ·rw [A1i h',A1h,A14 h']
  ·rw [A1m h',A1l,A13 h']
theorem Yz (k:Int):G8 0 k=0:=by
 unfold G8
 split
 ·exact Int.zero_mul _
 ·exact R6 _
theorem Aw.Level.known:Aw.Level.Kn:=Aw.Level.Ac (.cons Ag.Br.known .nil) fun n a e f hp=>by
 obtain ⟨h1,h2⟩:=Ae.1 hp
 obtain ⟨v,rfl,rfl,hv⟩:=P4 h1
 refine ⟨0,Aw.Level.out [.b (Bj v),.l (Aq v),.i e,.i f],[],?_,Ae9⟩
 show _=Ah4 (G8 (wv (Bj v) (Aq v)) (e-f))
 unfold Age at h2
 rw [Ib] at h2
 obtain ⟨h3,h4⟩:=Ae.1 h2
 have h3:=Ar.1 h3
 have h4:=Ar.1 h4
 rw [Aw.Level.ev,Ib,Vh]
 by_cases h:v=0
 ·rw [A1i h,A1h,h,Yz]; rfl
 ·have o:Awj (Ab (e-f))=true:=by rw [Am (by omega) (by omega)]; exact Ar.2 (by omega)
  rw [A1m h,A1l,h1,o,A1n,A1h,Am (by omega) (by omega)]
  rfl
theorem Aqy (n k:Nat):Dy (n*2^k)≤Dy n+k:=by
 refine Og ?_
 have h1:=Mv n
 have h2:n*2^k<2^(32*Dy n)*2^k:=(Nat.mul_lt_mul_right (Cg k)).2 h1
 rw [← A16] at h2
 exact A2s h2 (A1w (by decide) (by omega))
theorem Aqz (v k:Int):Dy (G8 v k).natAbs≤Dy v.natAbs+k.toNat:=by
 unfold G8
 by_cases h:0≤k
 ·rw [A14 h,Int.natAbs_mul,Int.natAbs_natCast]
  exact Aqy _ _
 ·rw [A13 h,Mo]
  exact A2o (Nb (Nat.div_le_self _ _)) (Nat.le_add_right _ _)
theorem Agv (v w:Int):Dy (v+w).natAbs≤max (Dy v.natAbs) (Dy w.natAbs)+1:=by
 refine Og ?_
 have h1:=Mv v.natAbs
 have h2:=Mv w.natAbs
 have h3:2^(32*Dy v.natAbs)≤2^(32*max (Dy v.natAbs) (Dy w.natAbs)):=A1w (by decide) (by omega)
 have h4:2^(32*Dy w.natAbs)≤2^(32*max (Dy v.natAbs) (Dy w.natAbs)):=A1w (by decide) (by omega)
 rw [O7]
 omega
theorem Zy {v e w f:Int} (he:-400000≤e∧e≤400000) (hf:-400000≤f∧f≤400000):-400000≤C6 v e w f∧C6 v e w f≤400000:=by
 unfold C6
 split
 ·exact hf
 ·split
  ·exact he
  ·omega
theorem X5 {v e l:Int} (hv:Dy v.natAbs<134217728) (h:e-l≤800000):Dy (G8 v (e-l)).natAbs<140000000:=by
 have:=Aqz v (e-l)
 omega
theorem Aw.Add.known:Aw.Add.Kn:=Aw.Add.Ac (.cons Ag.Add.known (.cons Aw.Level.known (.cons Aw.W6.known (.cons Aw.Of.known .nil)))) fun n a e m b f hp=>by
 obtain ⟨h1,hf⟩:=Ae.1 hp
 obtain ⟨h2,he⟩:=Ae.1 h1
 obtain ⟨h3,h4⟩:=Ae.1 h2
 obtain ⟨v,rfl,rfl,hv⟩:=P4 h3
 obtain ⟨w,rfl,rfl,hw⟩:=P4 h4
 have he:=Ar.1 he
 have hf:=Ar.1 hf
 refine ⟨0,Aw.Add.out [.b (Bj v),.l (Aq v),.i e,.b (Bj w),.l (Aq w),.i f],[],?_,wdy⟩
 show _=Anx (Ru (wv (Bj v) (Aq v)) e (wv (Bj w) (Aq w)) f) (Asf (wv (Bj v) (Aq v)) e (wv (Bj w) (Aq w)) f)
 have hlo:=Zy (v:=v) (w:=w) he hf
 have l1:=X5 (l:=C6 v e w f) hv (show e-C6 v e w f≤800000 by omega)
 have l2:=X5 (l:=C6 v e w f) hw (show f-C6 v e w f≤800000 by omega)
 have l3:=Agv (G8 v (e-C6 v e w f)) (G8 w (f-C6 v e w f))
 have o1:Age v e (C6 v e w f)=true:=Ae.2 ⟨Ar.2 (by omega),Ar.2 (by omega)⟩
 have o2:Age w f (C6 v e w f)=true:=Ae.2 ⟨Ar.2 (by omega),Ar.2 (by omega)⟩
 have o3:Abb (C6 v e w f)=true:=Ar.2 (by omega)
 rw [Aw.Add.ev]
 simp only [Ib]
 rw [Jt (v:=v) (by omega),Jt (v:=w) (by omega),h3,h4,o1,o2,Jt (v:=G8 v (e-C6 v e w f)) (by omega),Jt (v:=G8 w (f-C6 v e w f)) (by omega),Jt (v:=G8 v (e-C6 v e w f)+G8 w (f-C6 v e w f)) (by omega),o3]
 simp only [A1n,A1h]
 rfl
theorem Aw.Sub.known:Aw.Sub.Kn:=Aw.Sub.Ac (.cons Aw.Add.known (.cons Aw.Neg.known .nil)) fun n a e m b f hp=>by
 obtain ⟨h1,hf⟩:=Ae.1 hp
 obtain ⟨h2,he⟩:=Ae.1 h1
 obtain ⟨h3,h4⟩:=Ae.1 h2
 obtain ⟨w,rfl,rfl,hw⟩:=P4 h4
 refine ⟨0,Aw.Sub.out [.b n,.l a,.i e,.b (Bj w),.l (Aq w),.i f],[],?_,wdy⟩
 show _=Anx (Ru (wv n a) e (- wv (Bj w) (Aq w)) f) (Asf (wv n a) e (- wv (Bj w) (Aq w)) f)
 rw [Aw.Sub.ev]
 simp only [Ib]
 rw [Jt (v:=w) (by omega),h3,Ap2 (v:=-w) (by rw [Int.natAbs_neg]; exact hw),he,hf]
 rfl
theorem Agw {v:Int} (h:Dy v.natAbs<268435456):0≤Z3 v∧Z3 v≤8589934593:=by
 have h2:=Acb (n:=v.natAbs)
 unfold Z3
 split
 ·omega
 ·constructor<;>omega
theorem Aw.Vv.known:Aw.Vv.Kn:=Aw.Vv.Ac (.cons Ag.Qu.known .nil) fun n a e hp=>by
 obtain ⟨h1,he⟩:=Ae.1 hp
 obtain ⟨v,rfl,rfl,hv⟩:=Jr h1
 have he:=Ar.1 he
 refine ⟨0,Aw.Vv.out [.b (Bj v),.l (Aq v),.i e],[],?_,.int⟩
 show _=some (DV.int .i64 (Iv (wv (Bj v) (Aq v)) e))
 have hb:=Agw hv
 rw [Aw.Vv.ev,Ib,Vh,h1]
 unfold Iv
 by_cases h:v=0
 ·rw [A1i h,A1h,A14 h]
 ·rw [A1m h,A1l,A1h,A13 h,Am (by omega) (by omega)]
theorem Aw.Sign.known:Aw.Sign.Kn:=Aw.Sign.Ac .nil fun n a e hp=>by
 obtain ⟨v,rfl,rfl,hv⟩:=Jr hp
 refine ⟨0,Aw.Sign.out [.b (Bj v),.l (Aq v),.i e],[],?_,.int⟩
 show _=some (DV.int .i64 (N1 (wv (Bj v) (Aq v))))
 rw [Aw.Sign.ev,Ib,Cv]
 unfold N1 Bj
 by_cases h:v<0
 ·rw [A1i h,A1h,A14 h]
 ·rw [A1m h,A1l,A13 h]
  by_cases h':v=0
  ·rw [A14 h',h']; rfl
  ·have:=Jn (n:=v.natAbs) (by omega)
   rw [A13 h']
   congr 2
   omega
open EqRefC
theorem Aja {v e w f:Int}:(v≠0→0≤e-C6 v e w f)∧(w≠0→0≤f-C6 v e w f):=by
 unfold C6
 constructor
 ·intro h
  rw [A13 h]
  split<;>omega
 ·intro h
  split
  ·omega
  ·omega
theorem Y0 {v k:Int} (h:v≠0→0≤k):∃ j:Nat,G8 v k=v*((2^j:Nat):Int)∧(v≠0→(j:Int)=k):=by
 by_cases h0:v=0
 ·exact ⟨0,by rw [h0,Yz,Int.zero_mul],fun k=>absurd h0 k⟩
 ·have hk:=h h0
  refine ⟨k.toNat,?_,fun _=>by omega⟩
  unfold G8
  rw [A14 hk]
theorem Zq (v:Int) (j:Nat):(v*((2^j:Nat):Int)<0↔v<0)∧(v*((2^j:Nat):Int)=0↔v=0):=by
 have hp:=Cg j
 constructor
 ·constructor
  ·intro h
   rcases Int.lt_or_le v 0 with h1 | h1
   ·exact h1
   ·have:=Int.mul_nonneg h1 (Int.natCast_nonneg (2^j)); omega
  ·intro h
   exact Int.mul_neg_of_neg_of_pos h (by omega)
 ·constructor
  ·intro h
   rcases Int.mul_eq_zero.1 h with h | h
   ·exact h
   ·omega
  ·intro h; rw [h,Int.zero_mul]
theorem Adr (v:Int) (j:Nat):N1 (v*((2^j:Nat):Int))=N1 v:=by
 obtain ⟨h1,h2⟩:=Zq v j
 unfold N1
 simp only [h1,h2]
theorem Awb (v:Int):N1 (mD v)=N1 v:=by
 have:=Adr (mD v) (S2 v.natAbs)
 rw [← Yd] at this
 exact this.symm
theorem Aur (x y:Int):N1 (x+-y)=Xx x y:=by
 unfold N1 Xx
 by_cases h:x<y
 ·rw [A14 (by omega),A14 h]
 ·rw [A13 (by omega),A13 h]
  by_cases h':y<x
  ·rw [A13 (by omega),A14 h']
  ·rw [A14 (by omega),A13 h']
theorem Atz (v e w f:Int):C6 v e (-w) f=C6 v e w f:=by
 unfold C6
 have:(-w=0)=(w=0):=propext ⟨fun h=>by omega,fun h=>by omega⟩
 simp only [this]
theorem Arw {x y:Int} (h:N1 x≠N1 y):Xx x y=min 1 (max (-1) (N1 x-N1 y)):=by
 unfold N1 at h ⊢
 unfold Xx
 rcases Int.lt_trichotomy x 0 with h1 | h1 | h1<;>rcases Int.lt_trichotomy y 0 with h2 | h2 | h2
 all_goals
  first
  | (exfalso; apply h; simp [show x<0 by omega,show y<0 by omega]; done)
  | (exfalso; apply h; subst h1; subst h2; rfl)
  | (exfalso; apply h; rw [A13 (by omega),A13 (by omega),A13 (by omega),A13 (by omega)]; done)
  | skip
 ·rw [A14 (by omega),A14 (by omega),A13 (by omega),A14 (by omega)]; decide
 ·rw [A14 (by omega),A14 (by omega),A13 (by omega),A13 (by omega)]; decide
 ·rw [A13 (by omega),A14 (by omega),A13 (by omega),A14 (by omega),A14 (by omega)]; decide
 ·rw [A14 (by omega),A13 (by omega),A14 (by omega),A13 (by omega),A13 (by omega)]; decide
 ·rw [A13 (by omega),A14 (by omega),A13 (by omega),A13 (by omega),A14 (by omega)]; decide
 ·rw [A13 (by omega),A14 (by omega),A13 (by omega),A13 (by omega),A13 (by omega),A14 (by omega)]; decide
theorem Z0 {a b:Nat} (ha:a≠0) (h:a.log2<b.log2):a<b:=by
 rcases A2e a b with k | k
 ·exact k
 ·have hb:b≠0:=by
   intro e; rw [e] at h
   exact absurd h (by rw [show (0:Nat).log2=0 by decide]; omega)
  have:=(Nat.le_log2 ha).2 (A2o (Nat.log2_self_le hb) k)
  omega
theorem Auq {v e w f:Int} (hs:N1 v=N1 w) (ht:Iv v e≠Iv w f) :
 Xy v e w f=if (decide (Iv w f<Iv v e)==decide (0<N1 v))=true then 1 else -1:=by
 obtain ⟨u1,u2⟩:=Aja (v:=v) (e:=e) (w:=w) (f:=f)
 obtain ⟨j,hx,hj⟩:=Y0 u1
 obtain ⟨k,hy,hk⟩:=Y0 u2
 unfold Xy
 rw [hx,hy]
 have z:v=0↔w=0:=by
  unfold N1 at hs
  constructor
  ·intro h; subst h
   revert hs
   simp
   split<;>simp_all
  ·intro h; subst h
   revert hs
   simp
   split<;>simp_all
 by_cases v0:v=0
 ·exfalso
  apply ht
  unfold Iv
  rw [A14 v0,A14 (z.1 v0)]
 ·have w0:w≠0:=fun h=>v0 (z.2 h)
  have hj:=hj v0
  have hk:=hk w0
  have nv:v.natAbs≠0:=by omega
  have nw:w.natAbs≠0:=by omega
  have l1:=Lw v.natAbs j nv
  have l2:=Lw w.natAbs k nw
  have ax:(v*((2^j:Nat):Int)).natAbs=v.natAbs*2^j:=by rw [Int.natAbs_mul,Int.natAbs_natCast]
  have ay:(w*((2^k:Nat):Int)).natAbs=w.natAbs*2^k:=by rw [Int.natAbs_mul,Int.natAbs_natCast]
  have sx:=(Zq v j).1
  have sy:=(Zq w k).1
  have zx:=Aqh v0 j
  have zy:=Aqh w0 k
  have tv:Iv v e=(v.natAbs.log2:Int)+1+e:=by unfold Iv Z3; rw [A13 v0,A13 v0]
  have tw:Iv w f=(w.natAbs.log2:Int)+1+f:=by unfold Iv Z3; rw [A13 w0,A13 w0]
  have big:Iv w f<Iv v e→w.natAbs*2^k<v.natAbs*2^j:=fun h=>Z0 (Hy nw) (by omega)
  have lit:Iv v e<Iv w f→v.natAbs*2^j<w.natAbs*2^k:=fun h=>Z0 (Hy nv) (by omega)
  generalize v*((2^j:Nat):Int)=x at *
  generalize w*((2^k:Nat):Int)=y at *
  by_cases hv:v<0
  ·have sv:N1 v=-1:=by unfold N1; rw [A14 hv]
   have hw:w<0:=by
    rw [sv] at hs
    unfold N1 at hs
    rcases Int.lt_or_le w 0 with q | q
    ·exact q
    ·rw [A13 (by omega),A13 w0] at hs; omega
   rw [sv]
   unfold Xx
   by_cases h:Iv w f<Iv v e
   ·have:=big h
    rw [A1i h,A14 (by omega)]; rfl
   ·have:=lit (by omega)
    rw [A1m h,A13 (by omega),A14 (by omega)]; rfl
  ·have sv:N1 v=1:=by unfold N1; rw [A13 hv,A13 v0]
   have hw:¬ w<0:=by
    intro q
    rw [sv] at hs
    unfold N1 at hs
    rw [A14 q] at hs; omega
   rw [sv]
   unfold Xx
   by_cases h:Iv w f<Iv v e
   ·have:=big h
    rw [A1i h,A13 (by omega),A14 (by omega)]; rfl
   ·have:=lit (by omega)
    rw [A1m h,A14 (by omega)]; rfl
theorem As4 (v e w f:Int):N1 (Ru v e (-w) f)=Xy v e w f:=by
 obtain ⟨u1,u2⟩:=Aja (v:=v) (e:=e) (w:=w) (f:=f)
 obtain ⟨k,hy,hk⟩:=Y0 u2
 have hy':G8 (-w) (f-C6 v e w f)=-(G8 w (f-C6 v e w f)):=by
  by_cases w0:w=0
  ·rw [w0]; show G8 0 _=_; rw [Yz]; rfl
  ·unfold G8
   rw [A14 (u2 w0),A14 (u2 w0),Int.neg_mul]
 unfold Ru Asb Xy
 rw [Awb,Atz,hy',Aur]
theorem An0 {v e w f:Int} (h:N1 v≠N1 w):Xy v e w f=min 1 (max (-1) (N1 v-N1 w)):=by
 obtain ⟨u1,u2⟩:=Aja (v:=v) (e:=e) (w:=w) (f:=f)
 obtain ⟨j,hx,hj⟩:=Y0 u1
 obtain ⟨k,hy,hk⟩:=Y0 u2
 have e1:=Adr v j
 have e2:=Adr w k
 unfold Xy
 rw [hx,hy,← e1,← e2]
 exact Arw (by rw [e1,e2]; exact h)
theorem Y1 (v:Int):-1≤N1 v∧N1 v≤1:=by unfold N1; split<;>(try split)<;>omega
theorem Ase {v e w f:Int} (hv:Dy v.natAbs<134217728) (hw:Dy w.natAbs<134217728) (he:-400000≤e∧e≤400000) (hf:-400000≤f∧f≤400000):Dy (Ru v e w f).natAbs<140000001:=by
 have hlo:=Zy (v:=v) (w:=w) he hf
 have l1:=X5 (l:=C6 v e w f) hv (show e-C6 v e w f≤800000 by omega)
 have l2:=X5 (l:=C6 v e w f) hw (show f-C6 v e w f≤800000 by omega)
 have l3:=Agv (G8 v (e-C6 v e w f)) (G8 w (f-C6 v e w f))
 have l4:=Nb (Aca (Asb v e w f))
 unfold Ru
 unfold Asb at l4 ⊢
 omega
theorem Aw.Compare.known:Aw.Compare.Kn:=Aw.Compare.Ac (.cons Aw.Sign.known (.cons Aw.Sub.known (.cons Aw.Vv.known .nil))) fun n a e m b f hp=>by
 obtain ⟨h1,hf⟩:=Ae.1 hp
 obtain ⟨h2,he⟩:=Ae.1 h1
 obtain ⟨h3,h4⟩:=Ae.1 h2
 obtain ⟨v,rfl,rfl,hv⟩:=P4 h3
 obtain ⟨w,rfl,rfl,hw⟩:=P4 h4
 refine ⟨0,Aw.Compare.out [.b (Bj v),.l (Aq v),.i e,.b (Bj w),.l (Aq w),.i f],[],?_,.int⟩
 show _=some (DV.int .i64 (Xy (wv (Bj v) (Aq v)) e (wv (Bj w) (Aq w)) f))
 have bv:=Y1 v
 have bw:=Y1 w
 have hm:=Ase (v:=v) (w:=-w) hv (by rw [Int.natAbs_neg]; exact hw) (Ar.1 he) (Ar.1 hf)
 rw [Aw.Compare.ev]
 simp only [Ib]
 rw [Jt (v:=v) (by omega),Jt (v:=w) (by omega),Jt (v:=Ru v e (-w) f) (by omega),h3,h4,he,hf,Au,Au]
 simp only [A1n,A1h]
 by_cases hs:N1 v=N1 w
 ·have e0:(N1 v !=N1 w)=false:=by simp [hs]
  rw [e0,A1l]
  by_cases ht:Iv v e=Iv w f
  ·have e1:(Iv v e !=Iv w f)=false:=by simp [ht]
   rw [e1,A1l,As4]
  ·have e1:(Iv v e !=Iv w f)=true:=by simp [ht]
   rw [e1,A1h,Auq hs ht]
   cases (decide (Iv w f<Iv v e)==decide (0<N1 v))<;>rfl
 ·have e0:(N1 v !=N1 w)=true:=by simp [hs]
  rw [e0,A1h,An0 hs,Am (by omega) (by omega)]
namespace EqRefE
def A1.Value.A9:List (Nat × Entry):=[(143,Ag.Neg.spec),(115,Ag.Of.spec),(109,Aw.Of.spec),(141,A1.Ks.spec),(142,A1.Neg.spec),(140,A1.Power.spec)]
def A1.Value.E:Env:=Ba (A8 A1.Value.A9) (fun _=>false) (fun _=>none) (fun _=>none)
theorem A1.Value.ev (N:Nat) (x:Int):Bw A1.Value.E N f63 (An f63) [.int .u64 x]=bif (K4 x) then bif (Alb (Ab (C3 x))) then bif (K4 x) then bif (A6 0 (Mb x)) then bif (K4 x) then bif (Alb (Ab (Bl ((C3 x)+4503599627370496)))) then bif (K4 x) then bif (Af x) then bif (D0 x) then bif (Ju (Bj ((Ab (Bl ((C3 x)+4503599627370496))))) (Aq ((Ab (Bl ((C3 x)+4503599627370496)))))) then bif (Ju (Bj (- wv (Bj ((Ab (Bl ((C3 x)+4503599627370496))))) (Aq ((Ab (Bl ((C3 x)+4503599627370496))))))) (Aq (- wv (Bj ((Ab (Bl ((C3 x)+4503599627370496))))) (Aq ((Ab (Bl ((C3 x)+4503599627370496)))))))&&Abb (Ab ((Mb x)-1075))) then some (.agg [.bool (Bj (mD (wv (Bj (- wv (Bj ((Ab (Bl ((C3 x)+4503599627370496))))) (Aq ((Ab (Bl ((C3 x)+4503599627370496))))))) (Aq (- wv (Bj ((Ab (Bl ((C3 x)+4503599627370496))))) (Aq ((Ab (Bl ((C3 x)+4503599627370496)))))))))),.ints .arg .u32 (Aq (mD (wv (Bj (- wv (Bj ((Ab (Bl ((C3 x)+4503599627370496))))) (Aq ((Ab (Bl ((C3 x)+4503599627370496))))))) (Aq (- wv (Bj ((Ab (Bl ((C3 x)+4503599627370496))))) (Aq ((Ab (Bl ((C3 x)+4503599627370496)))))))))),.int .i64 (eD (wv (Bj (- wv (Bj ((Ab (Bl ((C3 x)+4503599627370496))))) (Aq ((Ab (Bl ((C3 x)+4503599627370496))))))) (Aq (- wv (Bj ((Ab (Bl ((C3 x)+4503599627370496))))) (Aq ((Ab (Bl ((C3 x)+4503599627370496)))))))) (Ab ((Mb x)-1075)))]) else none else none else bif (Ju (Bj ((Ab (Bl ((C3 x)+4503599627370496))))) (Aq ((Ab (Bl ((C3 x)+4503599627370496)))))&&Abb (Ab ((Mb x)-1075))) then some (.agg [.bool (Bj (mD (wv (Bj ((Ab (Bl ((C3 x)+4503599627370496))))) (Aq ((Ab (Bl ((C3 x)+4503599627370496)))))))),.ints .arg .u32 (Aq (mD (wv (Bj ((Ab (Bl ((C3 x)+4503599627370496))))) (Aq ((Ab (Bl ((C3 x)+4503599627370496)))))))),.int .i64 (eD (wv (Bj ((Ab (Bl ((C3 x)+4503599627370496))))) (Aq ((Ab (Bl ((C3 x)+4503599627370496)))))) (Ab ((Mb x)-1075)))]) else none else none else none else none else none else bif (Af x) then bif (D0 x) then bif (Ju (Bj ((Ab (C3 x)))) (Aq ((Ab (C3 x))))) then bif (Ju (Bj (- wv (Bj ((Ab (C3 x)))) (Aq ((Ab (C3 x)))))) (Aq (- wv (Bj ((Ab (C3 x)))) (Aq ((Ab (C3 x))))))&&Abb (-1074:Int)) then some (.agg [.bool (Bj (mD (wv (Bj (- wv (Bj ((Ab (C3 x)))) (Aq ((Ab (C3 x)))))) (Aq (- wv (Bj ((Ab (C3 x)))) (Aq ((Ab (C3 x))))))))),.ints .arg .u32 (Aq (mD (wv (Bj (- wv (Bj ((Ab (C3 x)))) (Aq ((Ab (C3 x)))))) (Aq (- wv (Bj ((Ab (C3 x)))) (Aq ((Ab (C3 x))))))))),.int .i64 (eD (wv (Bj (- wv (Bj ((Ab (C3 x)))) (Aq ((Ab (C3 x)))))) (Aq (- wv (Bj ((Ab (C3 x)))) (Aq ((Ab (C3 x))))))) (-1074:Int))]) else none else none else bif (Ju (Bj ((Ab (C3 x)))) (Aq ((Ab (C3 x))))&&Abb (-1074:Int)) then some (.agg [.bool (Bj (mD (wv (Bj ((Ab (C3 x)))) (Aq ((Ab (C3 x))))))),.ints .arg .u32 (Aq (mD (wv (Bj ((Ab (C3 x)))) (Aq ((Ab (C3 x))))))),.int .i64 (eD (wv (Bj ((Ab (C3 x)))) (Aq ((Ab (C3 x))))) (-1074:Int))]) else none else none else none else none else none:=by kernel_rfl
abbrev _root_.Go.Proofs.S1.A1.Value.Kn:=A4 prog 63 A1.Value.spec
theorem A1.Value.Ac (hk:Az prog A1.Value.A9) (h:Hyp A1.Value.E f63 A1.Value.ts A1.Value.pre A1.Value.out):A1.Value.Kn :=
 Al (A0 hk _ _ _) func63 (by kernel_rfl) (by kernel_rfl) h
end EqRefE
open EqRefE
theorem Ak6 {n k:Nat} (h:n<2^(32*k)) {m:Nat} (hk:k<m):Dy n<m:=A2j (Og h) hk
theorem Um (m:Nat):H9 false m=(m:Int):=rfl
theorem Afv (m:Nat):H9 true m=-(m:Int):=rfl
theorem A1.Value.known:A1.Value.Kn:=A1.Value.Ac (.cons Ag.Neg.known (.cons Ag.Of.known (.cons Aw.Of.known (.cons A1.Ks.known (.cons A1.Neg.known (.cons A1.Power.known .nil)))))) fun x hp=>by
 obtain ⟨n,rfl,hn⟩:=Bm (x:=x) hp
 refine ⟨0,A1.Value.out [.i n],[],?_,wdy⟩
 show _=Anx (mD (Fc n)) (eD (Fc n) (Bi n))
 have hf:=Kh n
 have hw:=I9 n
 have small:∀ k:Nat,k<2^54→Dy k<268435456:=fun k hk=>Ak6 (k:=2) (Nat.lt_trans hk (by decide)) (by omega)
 have o1:∀ k:Nat,k<2^54→Ju (Bj (k:Int)) (Aq (k:Int))=true:=fun k hk=>Jt (by rw [Int.natAbs_natCast]; exact small k hk)
 have o2:∀ k:Nat,k<2^54→Ju (Bj (-(k:Int))) (Aq (-(k:Int)))=true:=fun k hk=>Jt (by rw [Int.natAbs_neg,Int.natAbs_natCast]; exact small k hk)
 rw [A1.Value.ev]
 unfold C3 Mb D0 Fc Bi
 simp only [Ib,A1j]
 have e1:Ab ((Cm n:Nat):Int)=((Cm n:Nat):Int):=Am (by omega) (by omega)
 have e2:Ab (Bl (((Cm n:Nat):Int)+4503599627370496))=((Cm n+2^52:Nat):Int):=by
  rw [Dp (by omega) (by omega),Am (by omega) (by omega)]; omega
 have i1:∀ k:Nat,k<2^54→Alb (k:Int)=true:=fun k hk=>Ar.2 (by omega)
 rw [I1,B5 hn,e1,e2,i1 _ (by omega),i1 _ (by omega),Au,Am (by omega) (by omega)]
 simp only [A1h]
 unfold As Ay
 by_cases h:Db n=0
 ·have o3:Abb (-1074)=true:=Ar.2 (by omega)
  rw [A14 h,A14 h,A1m (by omega),A1l,o1 _ (by omega),o2 _ (by omega),o3]
  cases Bk n
  ·rw [A1l,Um]; rfl
  ·rw [A1h,Afv]; rfl
 ·have o3:Abb ((Db n:Int)-1075)=true:=Ar.2 (by omega)
  rw [A13 h,A13 h,A1i (by omega),A1h,o1 _ (by omega),o2 _ (by omega),o3]
  cases Bk n
  ·rw [A1l,Um]; rfl
  ·rw [A1h,Afv]; rfl
theorem Aou {m t:Nat} (h:m<2^t) (h0:m≠0):S2 m<t:=A2j (Au7 h0) ((A2x h0).2 h)
theorem Aom (b:Nat) (g:Int):Fs b g=vAt (Fc (b:Int)) (Ay b) g:=by
 unfold Fs vAt Fc
 rw [A1j]
 generalize 2^(Ay b-g).toNat=p
 unfold H9
 cases Bk b
 ·exact A12 _ _
 ·show -((As b*p:Nat):Int)=-(As b:Int)*(p:Int)
  rw [A12,Int.neg_mul]
theorem Ada (b:Nat):(Fc (b:Int)).natAbs=As b:=by
 unfold Fc H9
 rw [A1j]
 split<;>omega
theorem Avm (b:Nat):Dy (Fc (b:Int)).natAbs<3∧-400000≤eD (Fc (b:Int)) (Ay b)∧eD (Fc (b:Int)) (Ay b)≤400000:=by
 have hm:=Ff b
 have he:=D6 b
 have ha:=Ada b
 refine ⟨Ak6 (k:=2) (by rw [ha]; exact Nat.lt_trans hm (by decide)) (by omega),?_⟩
 unfold eD
 by_cases h:Fc (b:Int)=0
 ·rw [A14 h]; omega
 ·rw [A13 h]
  have:=Aou (m:=(Fc (b:Int)).natAbs) (t:=53) (by rw [ha]; exact hm) (by omega)
  omega
theorem Aee {r:Nat} (h:r<2^63):Cr r=((2^63+r:Nat):Int):=by
 unfold Cr; rw [A1j,Zv h]
theorem N8 {r:Nat} (h:r<2^63) (n:Bool):(bif n then (bif (Af (r:Int)) then some (DV.int .u64 (Cr r)) else none) else some (DV.int .u64 r))=some (DV.int .u64 ((Bc n r:Nat):Int)):=by
 cases n
 ·rfl
 ·rw [B5 (by omega),Aee h]; rfl
theorem O9 (n:Bool) (m:Nat) (e:Int):Uz n m e=((Bc n (Ca m e):Nat):Int):=by
 unfold Uz; rw [A1j]
theorem Aix {E M:Nat} (h1:1≤E) (h2:E≤2046) (h3:4503599627370496≤M) (h4:M<9007199254740992):E*2^52+M%2^52=min ((E-1)*2^52+M) Dz:=by
 obtain ⟨k,rfl⟩:∃ k,E=k+1:=⟨E-1,by omega⟩
 obtain ⟨r,rfl⟩:∃ r,M=2^52+r:=⟨M-2^52,by omega⟩
 have hr:r<2^52:=by omega
 have hm:(2^52+r)%2^52=r:=by rw [Nat.add_mod_left,A1u hr]
 have hk:k*2^52≤2045*2^52:=A1t _ (by omega)
 have hi:Dz=2045*2^52+2^52+2^52:=by unfold Dz; rfl
 rw [hm,Nat.add_sub_cancel,Nat.succ_mul,hi]
 generalize 2^52=c at *
 omega
theorem soft.Pack.known:soft.Pack.Kn:=EqSoft.soft.Pack.Ac (.cons soft.De.known .nil) fun rk n m e hp hr=>by
 have hp:=Ar.1 (show Lh m e=true from hp)
 have hr:Pz m e<rk+1:=hr
 obtain ⟨m0,m1,e0,e1⟩:=hp
 obtain ⟨M,rfl⟩:∃ M:Nat,m=M:=⟨m.toNat,by omega⟩
 refine ⟨0,soft.Pack.out [.b n,.i M,.i e],[],?_,.int⟩
 rw [EqSoft.soft.Pack.ev]
 show _=some (DV.int .u64 (Uz n M e))
 rw [O9]
 unfold Pz at hr
 by_cases h0:M=0
 ·subst h0
  have:=N8 (r:=0) (by decide) n
  have e0:Ca 0 e=0:=rfl
  rw [e0]
  simpa using this
 ·have b0:((M:Int)==0)=false:=by simp; omega
  rw [b0,A1l]
  by_cases h1:M=9007199254740992
  ·have b1:Em (9007199254740992:Int) (M:Int)=true:=by rw [Es]; simp; omega
   have s1:Dm .u64 (M:Int) (1:Int)=((2^52:Nat):Int):=by
    rw [show (1:Int)=((1:Nat):Int) from rfl,Ii .u64 M 1 (by decide),h1]
   have w1:Ab (e+1)=e+1:=Am (by omega) (by omega)
   rw [A14 (by omega)] at hr
   have p1:Lh ((2^52:Nat):Int) (e+1)=true:=Ar.2 (by omega)
   have p2:Cz (Pz ((2^52:Nat):Int) (e+1)<rk)=true:=Ar.2 (by
    unfold Pz
    rw [A13 (by omega),A13 (by omega)]; omega)
   rw [b1,s1,w1,p1,p2,O9,h1]
   have:=(Du (2^52) 1 (e+1)).1
   have e2:e+1-((1:Nat):Int)=e:=by omega
   rw [e2] at this
   rw [← this]; rfl
  ·have b1:Em (9007199254740992:Int) (M:Int)=false:=by rw [Es]; simp; omega
   rw [b1,A1l]
   rw [A13 (by omega)] at hr
   by_cases h2:M<4503599627370496
   ·have b2:A6 (M:Int) (4503599627370496:Int)=true:=by rw [Au]; simp; omega
    rw [A14 (by omega)] at hr
    by_cases h3:e=-1074
    ·subst h3
     have b3:A6 (-1074:Int) (-1074)=false:=by decide
     rw [b2,b3,A2u,A1l,A1h,Y3 h2]
     exact N8 (by omega) n
    ·have b3:A6 (-1074:Int) e=true:=by rw [Au]; simp; omega
     have s1:B4 .u64 (M:Int) (1:Int)=((M*2^1:Nat):Int):=by
      rw [show (1:Int)=((1:Nat):Int) from rfl,Fu M 1 (by decide),A1u (by omega)]
     have w1:Ab (e-1)=e-1:=Am (by omega) (by omega)
     have p1:Lh ((M*2^1:Nat):Int) (e-1)=true:=Ar.2 (by omega)
     have p2:Cz (Pz ((M*2^1:Nat):Int) (e-1)<rk)=true:=Ar.2 (by
      unfold Pz
      rw [A13 (by omega)]
      split<;>omega)
     rw [b2,b3,s1,w1,p1,p2,O9]
     have:=(Du M 1 e).1
     have e2:e-((1:Nat):Int)=e-1:=by omega
     rw [e2] at this
     rw [this]; rfl
   ·have b2:A6 (M:Int) (4503599627370496:Int)=false:=by rw [Au]; simp; omega
    have w1:Ab (e+1075)=e+1075:=Am (by omega) (by omega)
    rw [b2,w1,Bool.false_and,A1l,A1l]
    have hr:=M8 (m:=M) (e:=e) (by omega) (by omega) e0
    by_cases h4:2047≤e+1075
    ·have b4:Em (2047:Int) (e+1075)=true:=by rw [Es]; simp; omega
     have:Ca M e=9218868437227405312:=by rw [hr,Fb]; omega
     rw [b4,this,A1h]
     exact N8 (r:=9218868437227405312) (by decide) n
    ·have b4:Em (2047:Int) (e+1075)=false:=by rw [Es]; simp; omega
     obtain ⟨E,hE⟩:∃ E:Nat,e+1075=E:=⟨(e+1075).toNat,by omega⟩
     have s1:Is .u64 (B4 .u64 (Bl (e+1075)) (52:Int)) (E1 .u64 (M:Int) (4503599627370495:Int))=((Ca M e:Nat):Int):=by
      rw [hE,Dp (by omega) (by omega),show (52:Int)=((52:Nat):Int) from rfl,Fu E 52 (by decide),A1u (by omega),
       show (4503599627370495:Int)=((2^52-1:Nat):Int) from rfl,Jf 52 (by omega) (by decide),Nx (by omega) (by omega)]
      have hE2:(e+1074).toNat=E-1:=by omega
      have hE3:1≤E∧E≤2046:=by omega
      have hM:4503599627370496≤M∧M<9007199254740992:=by omega
      rw [hr,hE2]
      exact congrArg (fun (x:Nat)=>(x:Int)) (Aix hE3.1 hE3.2 hM.1 hM.2)
     rw [b4,s1,A1l]
     exact N8 (Ps M e) n
open EqSoft
theorem Aox {D:Nat} (h:D≤63):2^D<2^64:=Nat.pow_lt_pow_right (by decide) (by omega)
theorem Ql (n:Bool) {r:Nat} (h:r<2^63):Gx .u64 ((Bc n r:Nat):Int) (9223372036854775808:Int)=(r:Int):=by
 have hs:Bc n r<2^64:=by unfold Bc; split<;>omega
 unfold Gx
 rw [show (9223372036854775808:Int)=((2^63:Nat):Int) from rfl,BitVec.toNat_and,BitVec.toNat_not,Jb,Jb,show IntKind.u64.bits=64 from rfl,A1u hs,
  show 2^64-1-2^63%2^64=2^63-1 by decide,Nat.and_two_pow_sub_one_eq_mod]
 have:Bc n r%2^63=r:=by unfold Bc; cases n<;>simp<;>omega
 rw [this]
 exact Ue (by omega)
theorem Ai1 (N:Nat) (ex n:Bool) {r:Nat} (h:r≤Dz):soft.Dj.C18 N ex ((Bc n r:Nat):Int)=some (.tup [.int .u64 ((Bc n r:Nat):Int),.int .u8 ((flags r ex:Nat):Int)]):=by
 have h63:r<2^63:=by rw [Fb] at h; omega
 have hs:Bc n r<2^64:=by unfold Bc; split<;>omega
 rw [soft.Dj.Aw9,Ql n h63,B5 hs]
 unfold A5 flags
 rw [A1j,Wo n h]
 have hinf:(((r:Nat):Int)==(9218868437227405312:Int))=decide (r=Dz):=by
  rw [Fb,A1x]; simp; omega
 rw [hinf]
 by_cases h1:r=Dz
 ·simp [h1]
 ·by_cases h2:2^52≤r
  ·cases ex<;>simp [h1]<;>simp [show 4503599627370496≤r by omega]
  ·by_cases h3:0<r
   ·cases ex<;>simp [h1,h3]<;>simp [show ¬ 4503599627370496≤r by omega]
   ·cases ex<;>simp [h1,h3]<;>simp [show ¬ 4503599627370496≤r by omega]
theorem Am3 (N:Nat) (n:Bool) {m:Nat} {e:Int} (he:-1140≤e∧e≤50000) (r:Bool):∀ (k d F:Nat),d+k=62→k<F→(∀ d',d'<d→2^53≤m / 2^d'∨e+d' < -1074) →
 ∃ D:Nat,soft.Dj.L0 N F n m e r (d:Int)=soft.Dj.C7 N n m e r (D:Int)∧Drop m e D:=by
 intro k
 induction k with
 | zero =>
   intro d F hd hF hl
   obtain ⟨F,rfl⟩:∃ G,F=G+1:=⟨F-1,by omega⟩
   obtain rfl:d=62:=by omega
   rw [soft.Dj.Av,Ii .u64 m 62 (by decide),Am (by omega) (by omega),Am (by omega) (by omega),Es,Au]
   have a0:decide ((0:Int)≤((62:Nat):Int))=true:=by decide
   have a1:((((62:Nat):Int)+1)==63)=true:=by decide
   rw [a0,A1h,a1,A1h]
   by_cases h:2^53≤m / 2^62∨e+(62:Nat) < -1074
   ·refine ⟨63,?_,by omega,by omega,fun d' hd'=>?_⟩
    ·have:(decide ((9007199254740992:Int)≤((m / 2^62:Nat):Int))||decide (e+((62:Nat):Int) < -1074))=true:=by
      simp only [Bool.or_eq_true,A1o]; omega
     rw [this]; rfl
    ·rcases A2e d' 62 with h' | h'
     ·exact hl d' h'
     ·obtain rfl:d'=62:=by omega
      exact h
   ·refine ⟨62,?_,by omega,fun _=>by omega,hl⟩
    have:(decide ((9007199254740992:Int)≤((m / 2^62:Nat):Int))||decide (e+((62:Nat):Int) < -1074))=false:=by
     simp only [Bool.or_eq_false_iff,A10]; omega
    rw [this]; rfl
 | succ k ih =>
   intro d F hd hF hl
   obtain ⟨F,rfl⟩:∃ G,F=G+1:=⟨F-1,by omega⟩
   rw [soft.Dj.Av,Ii .u64 m d (by show d≤64; omega),Am (by omega) (by omega),Am (by omega) (by omega),Es,Au]
   have a0:decide ((0:Int)≤(d:Int))=true:=by simp
   have a1:(((d:Int)+1)==63)=false:=by simp; omega
   rw [a0,A1h,a1,A1l]
   by_cases h:2^53≤m / 2^d∨e+d < -1074
   ·have:(decide ((9007199254740992:Int)≤((m / 2^d:Nat):Int))||decide (e+(d:Int) < -1074))=true:=by
     simp only [Bool.or_eq_true,A1o]; omega
    rw [this,A1h,show (d:Int)+1=((d+1:Nat):Int) by omega]
    refine ih (d+1) F (by omega) (by omega) fun d' hd'=>?_
    rcases A2e d' d with h' | h'
    ·exact hl d' h'
    ·obtain rfl:d'=d:=by omega
     exact h
   ·refine ⟨d,?_,by omega,fun _=>by omega,hl⟩
    have:(decide ((9007199254740992:Int)≤((m / 2^d:Nat):Int))||decide (e+(d:Int) < -1074))=false:=by
     simp only [Bool.or_eq_false_iff,A10]; omega
    rw [this]; rfl
theorem Am2 (N:Nat) (n:Bool) {m D:Nat} (hm:m<2^64) {e:Int} (he:-1140≤e∧e≤50000) (r:Bool) (hD:D≤63) (hq:(if e+D < -1074 then 0 else qOf m D r.toNat)≤2^53) :
 soft.Dj.C7 N n m e r (D:Int)=soft.Dj.C18 N (decide (m%2^D=0∧r.toNat=0)) ((Bc n (Ca (if e+D < -1074 then 0 else qOf m D r.toNat) (max (e+D) (-1074))):Nat):Int):=by
 have hA:=Cg D
 have h2D:=Aox hD
 have hr:=Nat.mod_lt m hA
 have hqm:m / 2^D≤m:=Nat.div_le_self _ _
 rw [soft.Dj.Azc]
 have a0:decide ((0:Int)≤(D:Int))=true:=by simp
 have e1:Dm .u64 (m:Int) (D:Int)=((m / 2^D:Nat):Int):=Ii .u64 m D (by show D≤64; omega)
 have e2:B4 .u64 (1:Int) (D:Int)=((2^D:Nat):Int):=by
  rw [show (1:Int)=((1:Nat):Int) from rfl,Fu 1 D (by omega),Nat.one_mul,A1u h2D]
 have e3:E1 .u64 (m:Int) (Bl (B4 .u64 (1:Int) (D:Int)-(1:Int)))=((m%2^D:Nat):Int):=by
  rw [e2,Dp (by omega) (by omega),show ((2^D:Nat):Int)-1=((2^D-1:Nat):Int) by omega,Jf D hm (by omega)]
 have e5:(bif (((m%2^D:Nat):Int)==(0:Int)) then (!r) else false)=decide (m%2^D=0∧r.toNat=0):=by
  by_cases h:m%2^D=0
  ·cases r<;>simp [h]
  ·have:(((m%2^D:Nat):Int)==(0:Int))=false:=by simp only [A2c,ne_eq]; omega
   rw [this]; simp [h]
 rw [a0,A1h,A1h,e1,e3,e5,Au]
 have last:∀ (p:Bool) (q:Nat),q≤2^64-1→(if e+D < -1074 then 0 else q)≤2^53→soft.Dj.C14 N n e (D:Int) ((q:Nat):Int) p=soft.Dj.C18 N p ((Bc n (Ca (if e+D < -1074 then 0 else q) (max (e+D) (-1074))):Nat):Int):=by
  intro p q hq hq2
  rw [soft.Dj.Axc,Am (by omega) (by omega),Au]
  have c16:∀ q':Nat,q'≤2^53→soft.Dj.C16 N n e (q':Int) (D:Int) p=soft.Dj.C18 N p ((Bc n (Ca q' (max (e+D) (-1074))):Nat):Int):=by
   intro q' hq'
   rw [soft.Dj.Axb,Am (by omega) (by omega)]
   have:Lh (q':Int) (max (e+(D:Int)) (-1074))=true:=Ar.2 (by omega)
   rw [this,O9]; rfl
  by_cases h:e+D < -1074
  ·rw [A14 h] at hq2 ⊢
   have:decide (e+(D:Int) < -1074)=true:=by simpa using h
   rw [this]
   exact c16 0 hq2
  ·rw [A13 h] at hq2 ⊢
   have:decide (e+(D:Int) < -1074)=false:=by simpa using h
   rw [this]
   exact c16 q hq2
 have up:∀ (half:Nat) (hh:0<D→half=2^(D-1)) (p:Bool),soft.Dj.C12 N n e r (D:Int) ((m / 2^D:Nat):Int) ((m%2^D:Nat):Int) (half:Int) p=soft.Dj.C18 N p ((Bc n (Ca (if e+D < -1074 then 0 else qOf m D r.toNat) (max (e+D) (-1074))):Nat):Int):=by
  intro half hh p
  rw [soft.Dj.Axd,Au,Au]
  have odd:(E1 .u64 ((m / 2^D:Nat):Int) (1:Int)==(1:Int))=decide (m / 2^D%2=1):=by
   rw [show (1:Int)=((2^1-1:Nat):Int) from rfl,Jf 1 (by omega) (by decide),A1x]
   simp only [beq_iff_eq,A1o]
   omega
  rw [odd]
  have test:(decide ((0:Int)<(D:Int))&&(decide ((half:Int)<((m%2^D:Nat):Int))||((((m%2^D:Nat):Int)==(half:Int))&&(r||decide (m / 2^D%2=1))))) =
   decide (0<D∧(2^(D-1)<m%2^D∨(m%2^D=2^(D-1)∧(r.toNat=1∨m / 2^D%2=1)))):=by
   rw [A1x]
   generalize m%2^D=rr
   generalize m / 2^D=qq
   generalize hg:2^(D-1)=gg at hh
   by_cases h0:0<D
   ·have:=hh h0
    subst this
    cases r<;>simp [h0]<;>omega
   ·simp [h0]
  rw [test]
  by_cases ht:0<D∧(2^(D-1)<m%2^D∨(m%2^D=2^(D-1)∧(r.toNat=1∨m / 2^D%2=1)))
  ·have hq1:qOf m D r.toNat=m / 2^D+1:=by unfold qOf; rw [A14 ht]
   have hlt:m / 2^D+1<2^64:=by
    obtain ⟨d,rfl⟩:∃ d,D=d+1:=⟨D-1,by omega⟩
    have h1:m / 2^(d+1)≤m / 2:=Nat.div_le_div_left (by rw [Nat.pow_succ]; have:=Cg d; omega) (by decide)
    omega
   rw [hq1] at hq ⊢
   rw [A1i ht,A1h,Dp (by omega) (by omega),show ((m / 2^D:Nat):Int)+1=((m / 2^D+1:Nat):Int) by omega]
   exact last p _ (by omega) hq
  ·have hq1:qOf m D r.toNat=m / 2^D:=by unfold qOf; rw [A13 ht]; rfl
   rw [hq1] at hq ⊢
   rw [A1m ht,A1l]
   exact last p _ (by omega) hq
 rcases Nat.eq_zero_or_pos D with rfl | hpos
 ·have:decide ((0:Int)<((0:Nat):Int))=false:=by decide
  rw [this,A1l]
  exact up 0 (fun h=>absurd h (by omega)) _
 ·have h1:decide ((0:Int)<(D:Int))=true:=by simpa using hpos
  have h2:Ab ((D:Int)-1)=((D-1:Nat):Int):=by rw [Am (by omega) (by omega)]; omega
  have h3:decide ((0:Int)≤((D-1:Nat):Int))=true:=by simp
  have h4:B4 .u64 (1:Int) ((D-1:Nat):Int)=((2^(D-1):Nat):Int):=by
   rw [show (1:Int)=((1:Nat):Int) from rfl,Fu 1 (D-1) (by omega),Nat.one_mul,A1u (Aox (by omega))]
  rw [h1,A1h,h2,h3,A1h,h4]
  exact up _ (fun _=>rfl) _
theorem soft.Dj.known:soft.Dj.Kn:=soft.Dj.Ac (.cons soft.Kind.known (.cons soft.Pack.known .nil)) fun n m e r hp=>by
 obtain ⟨m0,m1,e1,e2,hr⟩:=Ar.1 (show El m e r=true from hp)
 obtain ⟨M,rfl⟩:∃ M:Nat,m=M:=⟨m.toNat,by omega⟩
 refine ⟨63,soft.Dj.out [.b n,.i M,.i e,.b r],[],?_,Wk.Ha (.cons .int (.cons .int .nil))⟩
 show _=some (DV.tup [.int .u64 (E9 n M e r),.int .u8 (E8 n M e r)])
 unfold E9 E8 Gr
 rw [A1j,soft.Dj.ev]
 dsimp only
 by_cases h0:M=0∧r=false
 ·obtain ⟨rfl,rfl⟩:=h0
  have:Lh (0:Int) (-1074)=true:=Ar.2 (by omega)
  have hp0:=O9 n 0 (-1074)
  rw [this]
  simp only [A20,Bool.and_true,A1h,Bool.toNat_false]
  have hz:(((0:Nat):Int)==0)=true:=rfl
  rw [hz,A1h]
  have hp0:Uz n (0:Int) (-1074)=((Bc n (Ca 0 (-1074)):Nat):Int):=hp0
  have z:∀ E,Ca 0 E=0:=fun E=>A14 rfl
  have z3:∀ E,flagsOf 0 E=0:=fun E=>A14 rfl
  rw [hp0,z,show 4*0+0=0 from rfl,z,z3]
  rfl
 ·have hc:((((M:Nat):Int)==(0:Int))&&!r)=false:=by
   cases r
   ·have:M≠0:=fun h=>h0 ⟨h,rfl⟩
    simp; omega
   ·simp
  rw [hc,A1l]
  have he:-1140≤e∧e≤50000:=by omega
  obtain ⟨D,hl,hD⟩:=Am3 63 n (m:=M) he r 62 0 63 (by omega) (by omega) (fun d' h=>by omega)
  have hs:r.toNat≤1:=by cases r<;>decide
  have hV:4*M+r.toNat≠0:=by
   intro h
   refine h0 ⟨by omega,?_⟩
   cases r
   ·rfl
   ·simp at h
  obtain ⟨t1,t2,t3⟩:=Am5 hD hs hV (by omega) (by omega) (fun h=>by
   have:r=true:=by cases r<;>simp_all
   have:=hr this
   omega)
  have hl:soft.Dj.L0 63 63 n (M:Int) e r (0:Int)=soft.Dj.C7 63 n (M:Int) e r (D:Int):=hl
  rw [hl,Am2 63 n (by omega) he r hD.le t3,← t1,Ai1 63 _ n (Jq _ _),t2]
namespace EqSum
def sum.right.A9:List (Nat × Entry):=[]
def sum.right.E:Env:=Ba (A8 sum.right.A9) (fun _=>false) (fun _=>none) (fun _=>none)
theorem sum.right.ev (N:Nat) (m d:Int):Bw sum.right.E N f249 (An f249) [.int .u64 m,.int .i64 d]=bif (A6 63 d) then bif ((B4 .u64 (Dm .u64 m 63) 63) !=m) then some (.int .u64 (Is .u64 (Dm .u64 m 63) 1)) else some (.int .u64 (Dm .u64 m 63)) else bif (decide (0≤d)) then bif (decide (0≤d)) then bif ((B4 .u64 (Dm .u64 m d) d) !=m) then some (.int .u64 (Is .u64 (Dm .u64 m d) 1)) else some (.int .u64 (Dm .u64 m d)) else none else none:=by kernel_rfl
abbrev _root_.Go.Proofs.S1.sum.right.Kn:=A4 prog 249 sum.right.spec
theorem sum.right.Ac (hk:Az prog sum.right.A9) (h:Hyp sum.right.E f249 sum.right.ts sum.right.pre sum.right.out):sum.right.Kn :=
 Al (A0 hk _ _ _) func249 (by kernel_rfl) (by kernel_rfl) h
def sum.Ee.A9:List (Nat × Entry):=[(148,soft.Finite.spec),(155,soft.Kind.spec)]
def sum.Ee.E:Env:=Ba (A8 sum.Ee.A9) (fun _=>false) (fun _=>none) (fun _=>none)
theorem sum.Ee.ev (N:Nat) (a b:Int):Bw sum.Ee.E N f248 (An f248) [.int .u64 a,.int .u64 b]=bif (Af a) then bif ((A5 a)==(4:Int)) then some (.tup [.int .u64 9221120237041090560,.int .u8 0]) else bif (Af b) then bif ((A5 b)==(4:Int)) then some (.tup [.int .u64 9221120237041090560,.int .u8 0]) else bif (Af a) then bif (Ck a) then some (.tup [.int .u64 b,.int .u8 0]) else bif (Af b) then bif ((Ck b)||(a==b)) then some (.tup [.int .u64 a,.int .u8 0]) else some (.tup [.int .u64 9221120237041090560,.int .u8 16]) else none else none else none else none :=
 Eq.trans (by kernel_rfl)
 (Et (Et rfl (Et (Et rfl (Et (Et rfl (Et (Ax (S8 (Ck b)) (Ax (S8 (Ck b)) (Ax (tt8 (Ck b)) (Ax (X2 (Ck b)) (C9 (tt5 (Ck b) (a==b)) rfl rfl))))) rfl)) rfl)) rfl)) rfl)
abbrev _root_.Go.Proofs.S1.sum.Ee.Kn:=A4 prog 248 sum.Ee.spec
theorem sum.Ee.Ac (hk:Az prog sum.Ee.A9) (h:Hyp sum.Ee.E f248 sum.Ee.ts sum.Ee.pre sum.Ee.out):sum.Ee.Kn :=
 Al (A0 hk _ _ _) func248 (by kernel_rfl) (by kernel_rfl) h
def sum.Add.A9:List (Nat × Entry):=[(148,soft.Finite.spec),(212,soft.Dj.spec),(211,soft.Fy.spec),(213,soft.Sign.spec),(249,sum.right.spec),(248,sum.Ee.spec)]
def sum.Add.E:Env:=Ba (A8 sum.Add.A9) (fun _=>false) (fun _=>none) (fun _=>none)
theorem sum.Add.ev (N:Nat) (a b:Int):Bw sum.Add.E N f232 (An f232) [.int .u64 a,.int .u64 b]=bif (Af a) then bif ((!(Ck a))||(Af b)) then bif ((!(Ck a))||(!(Ck b))) then bif ((Af a&&Af b)&&(!(Ck a)||!(Ck b))) then some (.tup [.int .u64 (Fg a b),.int .u8 (Xs a b)]) else none else bif (Af a) then bif (Af b) then bif (Af a) then bif (Af b) then bif (A6 (Bi a) (Bi b)) then bif (Af (B4 .u64 (Bx a) 9)&&Cz (0≤(Ab ((Bi b)-(Bi a)))∧(Ab ((Bi b)-(Bi a)))<1000000)) then bif ((D0 b)==(D0 a)) then bif (El (Bl ((B4 .u64 (Bx b) 9)+(Fh (B4 .u64 (Bx a) 9) (Ab ((Bi b)-(Bi a)))))) (Ab ((Bi b)-9)) false) then some (.tup [.int .u64 (E9 (D0 b) (Bl ((B4 .u64 (Bx b) 9)+(Fh (B4 .u64 (Bx a) 9) (Ab ((Bi b)-(Bi a)))))) (Ab ((Bi b)-9)) false),.int .u8 (E8 (D0 b) (Bl ((B4 .u64 (Bx b) 9)+(Fh (B4 .u64 (Bx a) 9) (Ab ((Bi b)-(Bi a)))))) (Ab ((Bi b)-9)) false)]) else none else bif (A6 (Fh (B4 .u64 (Bx a) 9) (Ab ((Bi b)-(Bi a)))) (B4 .u64 (Bx b) 9)) then bif (El (Bl ((B4 .u64 (Bx b) 9)-(Fh (B4 .u64 (Bx a) 9) (Ab ((Bi b)-(Bi a)))))) (Ab ((Bi b)-9)) false) then some (.tup [.int .u64 (E9 (D0 b) (Bl ((B4 .u64 (Bx b) 9)-(Fh (B4 .u64 (Bx a) 9) (Ab ((Bi b)-(Bi a)))))) (Ab ((Bi b)-9)) false),.int .u8 (E8 (D0 b) (Bl ((B4 .u64 (Bx b) 9)-(Fh (B4 .u64 (Bx a) 9) (Ab ((Bi b)-(Bi a)))))) (Ab ((Bi b)-9)) false)]) else none else bif (A6 (B4 .u64 (Bx b) 9) (Fh (B4 .u64 (Bx a) 9) (Ab ((Bi b)-(Bi a))))) then bif (El (Bl ((Fh (B4 .u64 (Bx a) 9) (Ab ((Bi b)-(Bi a))))-(B4 .u64 (Bx b) 9))) (Ab ((Bi b)-9)) false) then some (.tup [.int .u64 (E9 (D0 a) (Bl ((Fh (B4 .u64 (Bx a) 9) (Ab ((Bi b)-(Bi a))))-(B4 .u64 (Bx b) 9))) (Ab ((Bi b)-9)) false),.int .u8 (E8 (D0 a) (Bl ((Fh (B4 .u64 (Bx a) 9) (Ab ((Bi b)-(Bi a))))-(B4 .u64 (Bx b) 9))) (Ab ((Bi b)-9)) false)]) else none else some (.tup [.int .u64 0,.int .u8 0]) else none else bif (Af (B4 .u64 (Bx b) 9)&&Cz (0≤(Ab ((Bi a)-(Bi b)))∧(Ab ((Bi a)-(Bi b)))<1000000)) then bif ((D0 a)==(D0 b)) then bif (El (Bl ((B4 .u64 (Bx a) 9)+(Fh (B4 .u64 (Bx b) 9) (Ab ((Bi a)-(Bi b)))))) (Ab ((Bi a)-9)) false) then some (.tup [.int .u64 (E9 (D0 a) (Bl ((B4 .u64 (Bx a) 9)+(Fh (B4 .u64 (Bx b) 9) (Ab ((Bi a)-(Bi b)))))) (Ab ((Bi a)-9)) false),.int .u8 (E8 (D0 a) (Bl ((B4 .u64 (Bx a) 9)+(Fh (B4 .u64 (Bx b) 9) (Ab ((Bi a)-(Bi b)))))) (Ab ((Bi a)-9)) false)]) else none else bif (A6 (Fh (B4 .u64 (Bx b) 9) (Ab ((Bi a)-(Bi b)))) (B4 .u64 (Bx a) 9)) then bif (El (Bl ((B4 .u64 (Bx a) 9)-(Fh (B4 .u64 (Bx b) 9) (Ab ((Bi a)-(Bi b)))))) (Ab ((Bi a)-9)) false) then some (.tup [.int .u64 (E9 (D0 a) (Bl ((B4 .u64 (Bx a) 9)-(Fh (B4 .u64 (Bx b) 9) (Ab ((Bi a)-(Bi b)))))) (Ab ((Bi a)-9)) false),.int .u8 (E8 (D0 a) (Bl ((B4 .u64 (Bx a) 9)-(Fh (B4 .u64 (Bx b) 9) (Ab ((Bi a)-(Bi b)))))) (Ab ((Bi a)-9)) false)]) else none else bif (A6 (B4 .u64 (Bx a) 9) (Fh (B4 .u64 (Bx b) 9) (Ab ((Bi a)-(Bi b))))) then bif (El (Bl ((Fh (B4 .u64 (Bx b) 9) (Ab ((Bi a)-(Bi b))))-(B4 .u64 (Bx a) 9))) (Ab ((Bi a)-9)) false) then some (.tup [.int .u64 (E9 (D0 b) (Bl ((Fh (B4 .u64 (Bx b) 9) (Ab ((Bi a)-(Bi b))))-(B4 .u64 (Bx a) 9))) (Ab ((Bi a)-9)) false),.int .u8 (E8 (D0 b) (Bl ((Fh (B4 .u64 (Bx b) 9) (Ab ((Bi a)-(Bi b))))-(B4 .u64 (Bx a) 9))) (Ab ((Bi a)-9)) false)]) else none else some (.tup [.int .u64 0,.int .u8 0]) else none else none else none else none else none else none else none :=
 Eq.trans (by kernel_rfl)
 (Et (Ax (Ade (Ck a)) (C9 (Ao0 (Ck a) (Af b)) (Ax (S3 (Ck a)) (Ax (Adf (Ck a)) (C9 (Ao1 (Ck a) (Ck b)) rfl rfl))) rfl)) rfl)
abbrev _root_.Go.Proofs.S1.sum.Add.Kn:=A4 prog 232 sum.Add.spec
theorem sum.Add.Ac (hk:Az prog sum.Add.A9) (h:Hyp sum.Add.E f232 sum.Add.ts sum.Add.pre sum.Add.out):sum.Add.Kn :=
 Al (A0 hk _ _ _) func232 (by kernel_rfl) (by kernel_rfl) h
def sum.Sub.A9:List (Nat × Entry):=[(233,soft.De.spec),(232,sum.Add.spec)]
def sum.Sub.E:Env:=Ba (A8 sum.Sub.A9) (fun _=>false) (fun _=>none) (fun _=>none)
theorem sum.Sub.ev (N:Nat) (a b:Int):Bw sum.Sub.E N f207 (An f207) [.int .u64 a,.int .u64 b]=bif (Af b) then bif (Af a&&Af (Cr b)) then some (.tup [.int .u64 (Fg a (Cr b)),.int .u8 (Xs a (Cr b))]) else none else none:=by kernel_rfl
abbrev _root_.Go.Proofs.S1.sum.Sub.Kn:=A4 prog 207 sum.Sub.spec
theorem sum.Sub.Ac (hk:Az prog sum.Sub.A9) (h:Hyp sum.Sub.E f207 sum.Sub.ts sum.Sub.pre sum.Sub.out):sum.Sub.Kn :=
 Al (A0 hk _ _ _) func207 (by kernel_rfl) (by kernel_rfl) h
end EqSum
open EqSum
theorem Awg (q:Nat):q ||| 1=2*(q / 2)+1:=by
 have e:q%2 ||| (q / 2*2^1)=q / 2*2^1+q%2:=Np (Nat.mod_lt _ (by decide))
 have e1:1 ||| (q / 2*2^1)=q / 2*2^1+1:=Np (k:=1) (by decide)
 have hq:q / 2*2^1+q%2=q:=by omega
 rw [hq] at e
 rcases Nat.mod_two_eq_zero_or_one q with h | h
 ·rw [h,Nat.zero_or] at e
  rw [e,Nat.or_comm] at e1
  omega
 ·rw [h] at e
  have:q ||| 1=q:=by
   conv=>lhs; rw [← e]
   rw [Nat.or_comm 1,Nat.or_assoc,Nat.or_self,Nat.or_comm,e]
  omega
theorem Y7 {n s:Nat} (hn:n<2^64) (hs:s≤63) :
 (bif ((B4 .u64 (Dm .u64 (n:Int) (s:Int)) (s:Int)) !=(n:Int)) then
  some (DV.int .u64 (Is .u64 (Dm .u64 (n:Int) (s:Int)) (1:Int)))
 else some (.int .u64 (Dm .u64 (n:Int) (s:Int))))=some (.int .u64 ((F9 n s:Nat):Int)):=by
 have hq:n / 2^s≤n:=Nat.div_le_self _ _
 have hm:n / 2^s*2^s≤n:=Nat.div_mul_le_self _ _
 have hd:=Nat.div_add_mod n (2^s)
 rw [A15] at hd
 rw [Ii .u64 n s (by show s≤64; omega),Fu _ s (by omega),A1u (by omega)]
 have h1:Is .u64 ((n / 2^s:Nat):Int) (1:Int)=((n / 2^s ||| 1:Nat):Int):=Vs (by omega) (by decide)
 rw [h1,Awg]
 unfold F9
 by_cases h:n%2^s=0
 ·have:((((n / 2^s*2^s:Nat):Int)) !=(n:Int))=false:=by
   simp only [bne_eq_false_iff_eq]; omega
  rw [this,A14 h,A1l]
 ·have:((((n / 2^s*2^s:Nat):Int)) !=(n:Int))=true:=by
   simp only [bne_iff_ne,ne_eq]; omega
  rw [this,A13 h,A1h]
theorem sum.right.known:sum.right.Kn:=sum.right.Ac .nil fun m d hp=>by
 obtain ⟨h1,h2⟩:=Ae.1 hp
 obtain ⟨n,rfl,hn⟩:=Bm h1
 have h2:=Ar.1 h2
 obtain ⟨d,rfl⟩:∃ k:Nat,d=k:=⟨d.toNat,by omega⟩
 refine ⟨0,sum.right.out [.i n,.i d],[],?_,.int⟩
 rw [sum.right.ev,Au]
 show _=some (DV.int .u64 (Fh n d))
 unfold Fh
 rw [A1j,A1j]
 by_cases h:63<d
 ·have:decide ((63:Int)<(d:Int))=true:=by simp; omega
  rw [this,A1h,Nat.min_eq_right (by omega)]
  exact Y7 hn (A2b 63)
 ·have:decide ((63:Int)<(d:Int))=false:=by simp; omega
  have h0:decide ((0:Int)≤(d:Int))=true:=by simp
  rw [this,A1l,h0,A1h,A1h,Nat.min_eq_left (by omega)]
  exact Y7 hn (by omega)
theorem Aj5:((Le:Nat):Int)=9221120237041090560:=rfl
theorem sum.Ee.known:sum.Ee.Kn:=sum.Ee.Ac (.cons soft.Finite.known (.cons soft.Kind.known .nil)) fun a b hp=>by
 obtain ⟨h1,h2⟩:=Ae.1 hp
 obtain ⟨ha,hb⟩:=Ae.1 h1
 obtain ⟨a,rfl,hn⟩:=Bm ha
 obtain ⟨b,rfl,hm⟩:=Bm hb
 refine ⟨0,sum.Ee.out [.i a,.i b],[],?_,Wk.Ha (.cons .int (.cons .int .nil))⟩
 rw [sum.Ee.ev,ha,hb]
 show _=some (DV.tup [.int .u64 (Fg a b),.int .u8 (Xs a b)])
 unfold Fg Xs Gd A5 Ck
 simp only [A1j,A1h]
 unfold Ck at h2
 simp only [A1j] at h2
 by_cases a4:Ah a=4
 ·simp [a4,Aj5]
 ·have e4:((Ah a:Int)==4)=false:=by simp; omega
  rw [e4,A1l]
  by_cases b4:Ah b=4
  ·simp [b4,Aj5]
  ·have f4:((Ah b:Int)==4)=false:=by simp; omega
   rw [f4,A1l]
   have ka:=Z6 a
   have kb:=Z6 b
   by_cases a3:Ah a=3
   ·have fa:Ig a=false:=by rw [ka]; simp [a3]
    rw [fa,A1l]
    by_cases b3:Ah b=3
    ·have fb:Ig b=false:=by rw [kb]; simp [b3]
     rw [fb]
     by_cases hab:a=b
     ·subst hab; simp [a3]
     ·have hab':((a:Int)==(b:Int))=false:=by simp; omega
      rw [hab']
      simp [a3,b3,hab,Aj5]
    ·have fb:Ig b=true:=by rw [kb]; simp [b3,b4]
     rw [fb]
     simp [a3,b3,b4]
   ·have fa:Ig a=true:=by rw [ka]; simp [a3,a4]
    have b3:Ah b=3:=by
     rw [fa,kb] at h2
     simp [b4] at h2
     exact h2
    rw [fa,A1h]
    simp [a3,b3,a4]
def Akf (na nb:Bool) (X r:Nat) (e:Int):Nat × Nat :=
 if na=nb then Gr na (X+r) e false else if r<X then Gr na (X-r) e false else if X<r then Gr nb (r-X) e false else (0,0)
theorem Wg {na:Bool} {m:Int} {n:Nat} {e e':Int} (h:m=n) (he:e'=e) (hn:n<2^64) (h1:-1100≤e) (h2:e≤1000) :
 (bif El m e' false then some (DV.tup [.int .u64 (E9 na m e' false),.int .u8 (E8 na m e' false)]) else none)
  = some (.tup [.int .u64 (((Gr na n e false).1:Nat):Int),.int .u8 (((Gr na n e false).2:Nat):Int)]):=by
 subst h; subst he
 have hp:El (n:Int) e' false=true:=Ar.2 ⟨by omega,by omega,by omega,.inl (by omega),fun h=>by cases h⟩
 rw [hp,A1h]
 unfold E9 E8
 rw [A1j]
theorem Ah0 (na nb:Bool) {X r:Nat} {e e':Int} (hX:X<2^62) (hr:r≤2^62) (h:e'=e) (h1:-1100≤e) (h2:e≤1000) :
 (bif (na==nb) then
  bif El (Bl ((X:Int)+(r:Int))) e' false then some (DV.tup [.int .u64 (E9 na (Bl ((X:Int)+(r:Int))) e' false),.int .u8 (E8 na (Bl ((X:Int)+(r:Int))) e' false)]) else none
 else bif A6 (r:Int) (X:Int) then
  bif El (Bl ((X:Int)-(r:Int))) e' false then some (DV.tup [.int .u64 (E9 na (Bl ((X:Int)-(r:Int))) e' false),.int .u8 (E8 na (Bl ((X:Int)-(r:Int))) e' false)]) else none
 else bif A6 (X:Int) (r:Int) then
  bif El (Bl ((r:Int)-(X:Int))) e' false then some (DV.tup [.int .u64 (E9 nb (Bl ((r:Int)-(X:Int))) e' false),.int .u8 (E8 nb (Bl ((r:Int)-(X:Int))) e' false)]) else none
 else some (.tup [.int .u64 (0:Int),.int .u8 (0:Int)])) =
  some (.tup [.int .u64 (((Akf na nb X r e).1:Nat):Int),.int .u8 (((Akf na nb X r e).2:Nat):Int)]):=by
 unfold Akf
 rw [Au,Au]
 by_cases hs:na=nb
 ·have:(na==nb)=true:=by simp [hs]
  rw [this,A1h,A14 hs]
  exact Wg (by rw [Dp (by omega) (by omega)]; omega) h (by omega) h1 h2
 ·have:(na==nb)=false:=by simp [hs]
  rw [this,A1l,A13 hs]
  by_cases hl:r<X
  ·have:decide ((r:Int)<(X:Int))=true:=by simp; omega
   rw [this,A1h,A14 hl]
   exact Wg (by rw [Dp (by omega) (by omega)]; omega) h (by omega) h1 h2
  ·have:decide ((r:Int)<(X:Int))=false:=by simp; omega
   rw [this,A1l,A13 hl]
   by_cases hg:X<r
   ·have:decide ((X:Int)<(r:Int))=true:=by simp; omega
    rw [this,A1h,A14 hg]
    exact Wg (by rw [Dp (by omega) (by omega)]; omega) h (by omega) h1 h2
   ·have:decide ((X:Int)<(r:Int))=false:=by simp; omega
    rw [this,A1l,A13 hg]
    rfl
theorem Aly {a b:Nat} (ha:Ig a=true) (hb:Ig b=true) (hle:Ay b≤Ay a) :
 ∃ X r:Nat,X<2^62∧r≤2^62∧B4 .u64 (Bx a) (9:Int)=(X:Int)∧Fh (B4 .u64 (Bx b) (9:Int)) (Ab (Bi a-Bi b))=(r:Int)
  ∧ Ab (Bi a-9)=Ay a-9
  ∧ (Af (B4 .u64 (Bx b) (9:Int))&&Cz (0≤(Ab ((Bi a)-(Bi b)))∧(Ab ((Bi a)-(Bi b)))<1000000))=true
  ∧ Akf (D0 a) (D0 b) X r (Ay a-9)=Gd a b:=by
 obtain ⟨d,hd⟩:∃ d:Nat,Ay a=Ay b+d:=⟨(Ay a-Ay b).toNat,by omega⟩
 have hx:=Ff a
 have hy:=Ff b
 have ea:=D6 a
 have eb:=D6 b
 have C:=Ahz (Mx:=As a) (My:=As b) hd hx hy (fun h=>Ab1 (by omega))
 have sh:∀ m:Nat,m<2^53→B4 .u64 (m:Int) (9:Int)=((m*2^9:Nat):Int):=fun m hm=>by
  have:=Fu m 9 (by decide)
  rw [A1u (by omega)] at this
  exact this
 have h2:Ab (Bi a-Bi b)=(d:Int):=by
  unfold Bi
  rw [A1j,A1j,Am (by omega) (by omega)]; omega
 have s1:B4 .u64 (Bx a) (9:Int)=((As a*2^9:Nat):Int):=by
  unfold Bx; rw [A1j]; exact sh _ hx
 have s2:B4 .u64 (Bx b) (9:Int)=((As b*2^9:Nat):Int):=by
  unfold Bx; rw [A1j]; exact sh _ hy
 refine ⟨As a*2^9,F9 (As b*2^9) (min d 63),by omega,C.small,s1,?_,?_,?_,?_⟩
 ·rw [s2,h2]; unfold Fh; rw [A1j,A1j]
 ·unfold Bi; rw [A1j,Am (by omega) (by omega)]
 ·rw [s2,h2,B5 (by omega),A2u]
  exact Ar.2 ⟨by omega,by omega⟩
 ·unfold D0
  rw [A1j,A1j,Ahy ha hb hd]
  rfl
theorem sum.Add.known:sum.Add.Kn:=sum.Add.Ac (.cons soft.Finite.known (.cons soft.Dj.known (.cons soft.Fy.known (.cons soft.Sign.known (.cons sum.right.known (.cons sum.Ee.known .nil)))))) fun a b hp=>by
 obtain ⟨ha,hb⟩:=Ae.1 hp
 obtain ⟨a,rfl,hn⟩:=Bm ha
 obtain ⟨b,rfl,hm⟩:=Bm hb
 refine ⟨0,sum.Add.out [.i a,.i b],[],?_,Wk.Ha (.cons .int (.cons .int .nil))⟩
 rw [sum.Add.ev,ha,hb]
 show _=some (DV.tup [.int .u64 (Fg a b),.int .u8 (Xs a b)])
 rw [A2t,A1h,A1h]
 by_cases hf:(!(Ck a)||!(Ck b))=true
 ·rw [hf]; rfl
 ·have hf:(!(Ck a)||!(Ck b))=false:=by simpa using hf
  rw [hf,A1l,A1h,A1h,A1h,A1h]
  have fa:Ig a=true:=by
   have:=(Bool.or_eq_false_iff.1 hf).1
   unfold Ck at this
   simpa using this
  have fb:Ig b=true:=by
   have:=(Bool.or_eq_false_iff.1 hf).2
   unfold Ck at this
   simpa using this
  have xa:=D6 a
  have xb:=D6 b
  rw [Au]
  by_cases hl:Ay a<Ay b
  ·obtain ⟨X,r,hX,hr,e1,e2,e3,e4,e5⟩:=Aly fb fa (by omega)
   have:decide (Bi a<Bi b)=true:=by unfold Bi; simpa using hl
   rw [this,A1h,e4,A1h,e1,e2,Ah0 _ _ hX hr e3 (by omega) (by omega),e5,Ac3]
   rfl
  ·obtain ⟨X,r,hX,hr,e1,e2,e3,e4,e5⟩:=Aly fa fb (by omega)
   have:decide (Bi a<Bi b)=false:=by unfold Bi; simpa using hl
   rw [this,A1l,e4,A1h,e1,e2,Ah0 _ _ hX hr e3 (by omega) (by omega),e5]
   rfl
theorem sum.Sub.known:sum.Sub.Kn:=sum.Sub.Ac (.cons soft.De.known (.cons sum.Add.known .nil)) fun a b hp=>by
 obtain ⟨ha,hb⟩:=Ae.1 hp
 obtain ⟨b,rfl,hm⟩:=Bm hb
 refine ⟨0,sum.Sub.out [.i a,.i b],[],?_,Wk.Ha (.cons .int (.cons .int .nil))⟩
 have:Af (Cr (b:Int))=true:=by unfold Cr; rw [A1j]; exact B5 (Sa hm)
 rw [sum.Sub.ev,ha,hb,this]
 unfold Fg Xs Cr
 rw [A1j]
 rfl
end Go.Proofs.S1
end
