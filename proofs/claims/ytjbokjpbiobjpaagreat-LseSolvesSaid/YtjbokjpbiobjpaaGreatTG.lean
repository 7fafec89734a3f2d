/- A verified evaluator of the program's form and its use for this seat: S1EqRefA, S1PRefA, S1PRefAa, S1EqRefB, S1PRefB, S1PRefBa, S1EqRefC, S1PRefC, S1PRefCa, S1EqRefE, S1PRefV, S1PPack, S1PNear, S1EqSum, S1PSum. -/
import Derived.Test.YtjbokjpbiobjpaaGreatTE
import Derived.Test.YtjbokjpbiobjpaaGreatTF
set_option linter.unusedVariables false
set_option linter.unusedSimpArgs false
noncomputable section
namespace Go.Proofs.S1
open Go Go.Den Go.Rnd Go.Proofs
set_option maxRecDepth 100000
namespace EqRefA
def Ai.J9.A8:List (Nat × Entry):=[]
def Ai.J9.E:Env:=A9 (A7 Ai.J9.A8) (fun _=>false) (fun _=>none) (fun _=>none)
theorem Ai.J9.ev (N:Nat) (l:List Int) (i:Int):Bp Ai.J9.E N Tryz.f221 (Al Tryz.f221) [.ints .arg .u32 l,.int .i64 i]=bif ((Ep 0 i)&&(A6 i (List.length l:Int))) then bif ((decide (0≤i))&&(decide (i<(List.length l:Int)))) then some (.int .u64 (Bj (List.getD l (Int.toNat i) 0))) else none else some (.int .u64 0) :=
  Eq.trans (by kernel_rfl)
  (Ar (On (Ep 0 i)) (Ar (On (Ep 0 i)) (Ar (Mb (Ep 0 i)) (Ar (Ab8 (Ep 0 i)) (Ar (Tw (Ep 0 i)) (Cq (tt1 (Ep 0 i) (A6 i (List.length l:Int))) rfl rfl))))))
abbrev _root_.Go.Proofs.S1.Ai.J9.Kn:=A5 Tryz.prog 221 Ai.J9.spec
theorem Ai.J9.Ac (hk:Ay Tryz.prog Ai.J9.A8) (h:∀ (l:List Int) (i:Int),Ai.J9.pre [.l l,.i i]=true→Ba Ai.J9.E Tryz.f221 [.ints .arg .u32 l,.int .i64 i] (Ai.J9.out [.l l,.i i])):Ai.J9.Kn :=
  Aj (A1 hk _ _ _) Tryz.func221 (by kernel_rfl) (by kernel_rfl) h
def Ai.Made.hint:Nat→Option Bb
  | 0=>some { keep:=[0,1,4,5],objs:=[],boxes:=[4] }
  | _=>none
def Ai.Made.A8:List (Nat × Entry):=[]
def Ai.Made.E:Env:=A9 (A7 Ai.Made.A8) (fun _=>false) Ai.Made.hint (fun _=>none)
def Ai.Made.L0 (N M:Nat) (n:Bool) (l:List Int) (p5:Int):Option DV:=Bv Ai.Made.E N Tryz.f171 (Al Tryz.f171) [1,1,0,0] [] M ⟨Ft 28 [(0,.bool n),(1,.ints .arg .u32 l),(4,.ptr 4 0 0),(5,.int .i64 p5)],[(4,false,.box [.bool false,.nil])]⟩
theorem Ai.Made.Au (N M:Nat) (n:Bool) (l:List Int) (p5:Int):Ai.Made.L0 N (M+1) n l p5=bif ((!(A6 0 p5))||((decide (0≤(Ab (p5-1))))&&(decide ((Ab (p5-1))<(List.length l:Int))))) then bif ((A6 0 p5)&&((List.getD l (Int.toNat (Ab (p5-1))) 0)==(0:Int))) then Ai.Made.L0 N M n l (Ab (p5-1)) else bif (p5==(0:Int)) then some (.agg [.bool false,.nil]) else bif ((decide ((0:Int)≤p5))&&(decide (p5≤(List.length l:Int)))) then some (.agg [.bool n,.ints .arg .u32 (List.take (Int.toNat p5) l)]) else none else none :=
  Eq.trans (by kernel_rfl)
  (Ar (On (A6 0 p5)) (Ar (On (A6 0 p5)) (Ar (Mb (A6 0 p5)) (Cq (Ax6 (A6 0 p5) (decide (0≤(Ab (p5-1)))) (decide ((Ab (p5-1))<(List.length l:Int)))) (Ar (Mb (A6 0 p5)) (Ar (Mb (A6 0 p5)) (Ar (Tw (A6 0 p5)) (Cq (tt1 (A6 0 p5) ((List.getD l (Int.toNat (Ab (p5-1))) 0)==(0:Int))) rfl (Ea rfl (Cq (Jw (decide ((0:Int)≤p5)) (decide (p5≤(List.length l:Int)))) rfl rfl)))))) rfl))))
theorem Ai.Made.ev (N:Nat) (n:Bool) (l:List Int):Bp Ai.Made.E N Tryz.f171 (Al Tryz.f171) [.bool n,.ints .arg .u32 l] =
  Ai.Made.L0 N N n l (List.length l:Int):=by kernel_rfl
abbrev _root_.Go.Proofs.S1.Ai.Made.Kn:=A5 Tryz.prog 171 Ai.Made.spec
theorem Ai.Made.Ac (hk:Ay Tryz.prog Ai.Made.A8) (h:∀ (n:Bool) (l:List Int),Ai.Made.pre [.b n,.l l]=true→Ba Ai.Made.E Tryz.f171 [.bool n,.ints .arg .u32 l] (Ai.Made.out [.b n,.l l])):Ai.Made.Kn :=
  Aj (A1 hk _ _ _) Tryz.func171 (by kernel_rfl) (by kernel_rfl) h
def Ai.Of.A8:List (Nat × Entry):=[(171,Ai.Made.spec)]
def Ai.Of.E:Env:=A9 (A7 Ai.Of.A8) (fun _=>false) (fun _=>none) (fun _=>none)
theorem Ai.Of.ev (N:Nat) (n:Int):Bp Ai.Of.E N Tryz.f115 (Al Tryz.f115) [.int .i64 n]=bif (A6 n 0) then bif (H4 [(Kb (Int.tmod (Bj ((Bj (Ab (0-(Ab (n+1)))))+1)) 4294967296)),(Kb (Bj (Int.tdiv (Bj ((Bj (Ab (0-(Ab (n+1)))))+1)) 4294967296)))]) then some (.agg [.bool (Bi (wv true [(Kb (Int.tmod (Bj ((Bj (Ab (0-(Ab (n+1)))))+1)) 4294967296)),(Kb (Bj (Int.tdiv (Bj ((Bj (Ab (0-(Ab (n+1)))))+1)) 4294967296)))])),.ints .arg .u32 (Ap (wv true [(Kb (Int.tmod (Bj ((Bj (Ab (0-(Ab (n+1)))))+1)) 4294967296)),(Kb (Bj (Int.tdiv (Bj ((Bj (Ab (0-(Ab (n+1)))))+1)) 4294967296)))]))]) else none else bif (H4 [(Kb (Int.tmod n 4294967296)),(Kb (Ab (Int.tdiv n 4294967296)))]) then some (.agg [.bool (Bi (wv false [(Kb (Int.tmod n 4294967296)),(Kb (Ab (Int.tdiv n 4294967296)))])),.ints .arg .u32 (Ap (wv false [(Kb (Int.tmod n 4294967296)),(Kb (Ab (Int.tdiv n 4294967296)))]))]) else none:=by kernel_rfl
abbrev _root_.Go.Proofs.S1.Ai.Of.Kn:=A5 Tryz.prog 115 Ai.Of.spec
theorem Ai.Of.Ac (hk:Ay Tryz.prog Ai.Of.A8) (h:∀ (n:Int),Ai.Of.pre [.i n]=true→Ba Ai.Of.E Tryz.f115 [.int .i64 n] (Ai.Of.out [.i n])):Ai.Of.Kn :=
  Aj (A1 hk _ _ _) Tryz.func115 (by kernel_rfl) (by kernel_rfl) h
def Ai.Jb.hint:Nat→Option Bb
  | 0=>some { keep:=[0,1,5],objs:=[],boxes:=[] }
  | _=>none
def Ai.Jb.A8:List (Nat × Entry):=[(221,Ai.J9.spec)]
def Ai.Jb.E:Env:=A9 (A7 Ai.Jb.A8) (fun _=>false) Ai.Jb.hint (fun _=>none)
def Ai.Jb.L0 (N M:Nat) (a b:List Int) (p5:Int):Option DV:=Bv Ai.Jb.E N Tryz.f176 (Al Tryz.f176) [1,0,1,0] [] M ⟨Ft 29 [(0,.ints .arg .u32 a),(1,.ints .arg .u32 b),(5,.int .i64 p5)],[]⟩
theorem Ai.Jb.Au (N M:Nat) (a b:List Int) (p5:Int):Ai.Jb.L0 N (M+1) a b p5=bif (Ep 0 p5) then bif (H4 a) then bif (H4 b) then bif (A6 (Hh a p5) (Hh b p5)) then some (.int .i64 (-1:Int)) else bif (H4 a) then bif (H4 b) then bif (A6 (Hh b p5) (Hh a p5)) then some (.int .i64 1) else Ai.Jb.L0 N M a b (Ab (p5-1)) else none else none else none else none else some (.int .i64 0):=by kernel_rfl
theorem Ai.Jb.ev (N:Nat) (a b:List Int):Bp Ai.Jb.E N Tryz.f176 (Al Tryz.f176) [.ints .arg .u32 a,.ints .arg .u32 b] =
  Ai.Jb.L0 N N a b (max (List.length a:Int) (List.length b:Int)):=by kernel_rfl
abbrev _root_.Go.Proofs.S1.Ai.Jb.Kn:=A5 Tryz.prog 176 Ai.Jb.spec
theorem Ai.Jb.Ac (hk:Ay Tryz.prog Ai.Jb.A8) (h:∀ (a b:List Int),Ai.Jb.pre [.l a,.l b]=true→Ba Ai.Jb.E Tryz.f176 [.ints .arg .u32 a,.ints .arg .u32 b] (Ai.Jb.out [.l a,.l b])):Ai.Jb.Kn :=
  Aj (A1 hk _ _ _) Tryz.func176 (by kernel_rfl) (by kernel_rfl) h
def Ai.plus.hint:Nat→Option Bb
  | 0=>some { keep:=[0,1,5,6,7],objs:=[(0,5,100005,.ints 173 .u32 [])],boxes:=[] }
  | _=>none
def Ai.plus.A8:List (Nat × Entry):=[(221,Ai.J9.spec)]
def Ai.plus.E:Env:=A9 (A7 Ai.plus.A8) (fun _=>false) Ai.plus.hint (fun _=>none)
def Ai.plus.L0 (N M:Nat) (a b:List Int) (p6 p7:Int) (p5:List Int):Option DV:=Bv Ai.plus.E N Tryz.f174 (Al Tryz.f174) [1,1,1,0,1,0] [] M ⟨Ft 37 [(0,.ints .arg .u32 a),(1,.ints .arg .u32 b),(5,.oref 100005),(6,.int .u64 p6),(7,.int .i64 p7)],[(100005,false,.ints 173 .u32 p5)]⟩
theorem Ai.plus.Au (N M:Nat) (a b:List Int) (p6 p7:Int) (p5:List Int):Ai.plus.L0 N (M+1) a b p6 p7 p5=bif (Ep p7 (max (List.length a:Int) (List.length b:Int))) then bif (H4 a) then bif (H4 b) then bif (decide ((List.length p5)+1≤Gu)) then Ai.plus.L0 N M a b (Bj (Int.tdiv (Bj ((Bj ((Hh a p7)+(Hh b p7)))+p6)) 4294967296)) (Ab (p7+1)) (p5++[(Kb (Int.tmod (Bj ((Bj ((Hh a p7)+(Hh b p7)))+p6)) 4294967296))]) else none else none else none else some (.ints (.own 100005 173) .u32 p5):=by kernel_rfl
theorem Ai.plus.ev (N:Nat) (a b:List Int):Bp Ai.plus.E N Tryz.f174 (Al Tryz.f174) [.ints .arg .u32 a,.ints .arg .u32 b] =
  Ai.plus.L0 N N a b 0 0 []:=by kernel_rfl
abbrev _root_.Go.Proofs.S1.Ai.plus.Kn:=A5 Tryz.prog 174 Ai.plus.spec
theorem Ai.plus.Ac (hk:Ay Tryz.prog Ai.plus.A8) (h:∀ (a b:List Int),Ai.plus.pre [.l a,.l b]=true→Ba Ai.plus.E Tryz.f174 [.ints .arg .u32 a,.ints .arg .u32 b] (Ai.plus.out [.l a,.l b])):Ai.plus.Kn :=
  Aj (A1 hk _ _ _) Tryz.func174 (by kernel_rfl) (by kernel_rfl) h
def Ai.minus.hint:Nat→Option Bb
  | 0=>some { keep:=[0,1,5,6,7],objs:=[(0,5,100005,.ints 173 .u32 [])],boxes:=[] }
  | _=>none
def Ai.minus.A8:List (Nat × Entry):=[(221,Ai.J9.spec)]
def Ai.minus.E:Env:=A9 (A7 Ai.minus.A8) (fun _=>false) Ai.minus.hint (fun _=>none)
def Ai.minus.L0 (N M:Nat) (a b:List Int) (p6 p7:Int) (p5:List Int):Option DV:=Bv Ai.minus.E N Tryz.f177 (Al Tryz.f177) [1,1,1,0,1,0] [] M ⟨Ft 36 [(0,.ints .arg .u32 a),(1,.ints .arg .u32 b),(5,.oref 100005),(6,.int .u64 p6),(7,.int .i64 p7)],[(100005,false,.ints 173 .u32 p5)]⟩
theorem Ai.minus.Au (N M:Nat) (a b:List Int) (p6 p7:Int) (p5:List Int):Ai.minus.L0 N (M+1) a b p6 p7 p5=bif (A6 p7 (List.length a:Int)) then bif (H4 a) then bif (H4 b) then bif (decide ((List.length p5)+1≤Gu)) then Ai.minus.L0 N M a b (Bj ((1:Int)-(Bj (Int.tdiv (Bj ((Bj ((Bj ((4294967296:Int)+(Hh a p7)))-(Hh b p7)))-p6)) 4294967296)))) (Ab (p7+1)) (p5++[(Kb (Int.tmod (Bj ((Bj ((Bj ((4294967296:Int)+(Hh a p7)))-(Hh b p7)))-p6)) 4294967296))]) else none else none else none else some (.ints (.own 100005 173) .u32 p5):=by kernel_rfl
theorem Ai.minus.ev (N:Nat) (a b:List Int):Bp Ai.minus.E N Tryz.f177 (Al Tryz.f177) [.ints .arg .u32 a,.ints .arg .u32 b] =
  Ai.minus.L0 N N a b 0 0 []:=by kernel_rfl
abbrev _root_.Go.Proofs.S1.Ai.minus.Kn:=A5 Tryz.prog 177 Ai.minus.spec
theorem Ai.minus.Ac (hk:Ay Tryz.prog Ai.minus.A8) (h:∀ (a b:List Int),Ai.minus.pre [.l a,.l b]=true→Ba Ai.minus.E Tryz.f177 [.ints .arg .u32 a,.ints .arg .u32 b] (Ai.minus.out [.l a,.l b])):Ai.minus.Kn :=
  Aj (A1 hk _ _ _) Tryz.func177 (by kernel_rfl) (by kernel_rfl) h
def Ai.Add.A8:List (Nat × Entry):=[(171,Ai.Made.spec),(176,Ai.Jb.spec),(177,Ai.minus.spec),(174,Ai.plus.spec)]
def Ai.Add.E:Env:=A9 (A7 Ai.Add.A8) (fun _=>false) (fun _=>none) (fun _=>none)
theorem Ai.Add.ev (N:Nat) (n:Bool) (a:List Int) (m:Bool) (b:List Int):Bp Ai.Add.E N Tryz.f112 (Al Tryz.f112) [.agg [.bool n,.ints .arg .u32 a],.agg [.bool m,.ints .arg .u32 b]]=bif (n==m) then bif (H4 a&&H4 b) then bif (H4 (Ki a b)) then some (.agg [.bool (Bi (wv n (Ki a b))),.ints .arg .u32 (Ap (wv n (Ki a b)))]) else none else none else bif (H4 a&&H4 b) then bif (A6 (Wf (Cr a) (Cr b)) 0) then bif ((H4 b&&H4 a)&&leL a b) then bif (H4 (Ht b a)) then some (.agg [.bool (Bi (wv m (Ht b a))),.ints .arg .u32 (Ap (wv m (Ht b a)))]) else none else none else bif ((H4 a&&H4 b)&&leL b a) then bif (H4 (Ht a b)) then some (.agg [.bool (Bi (wv n (Ht a b))),.ints .arg .u32 (Ap (wv n (Ht a b)))]) else none else none else none :=
  Eq.trans (by kernel_rfl)
  (Ea (Cq (Ci (H4 a&&H4 b)) (Cq (Ci (H4 (Ki a b))) rfl rfl) rfl) (Ea (Ea (Cq (Ci ((H4 b&&H4 a)&&leL a b)) (Cq (Ci (H4 (Ht b a))) rfl rfl) rfl) (Cq (Ci ((H4 a&&H4 b)&&leL b a)) (Cq (Ci (H4 (Ht a b))) rfl rfl) rfl)) rfl))
abbrev _root_.Go.Proofs.S1.Ai.Add.Kn:=A5 Tryz.prog 112 Ai.Add.spec
theorem Ai.Add.Ac (hk:Ay Tryz.prog Ai.Add.A8) (h:∀ (n:Bool) (a:List Int) (m:Bool) (b:List Int),Ai.Add.pre [.b n,.l a,.b m,.l b]=true→Ba Ai.Add.E Tryz.f112 [.agg [.bool n,.ints .arg .u32 a],.agg [.bool m,.ints .arg .u32 b]] (Ai.Add.out [.b n,.l a,.b m,.l b])):Ai.Add.Kn :=
  Aj (A1 hk _ _ _) Tryz.func112 (by kernel_rfl) (by kernel_rfl) h
def Ai.Neg.A8:List (Nat × Entry):=[(171,Ai.Made.spec)]
def Ai.Neg.E:Env:=A9 (A7 Ai.Neg.A8) (fun _=>false) (fun _=>none) (fun _=>none)
theorem Ai.Neg.ev (N:Nat) (n:Bool) (a:List Int):Bp Ai.Neg.E N Tryz.f143 (Al Tryz.f143) [.agg [.bool n,.ints .arg .u32 a]]=bif (H4 a) then some (.agg [.bool (Bi (wv (!n) a)),.ints .arg .u32 (Ap (wv (!n) a))]) else none:=by kernel_rfl
abbrev _root_.Go.Proofs.S1.Ai.Neg.Kn:=A5 Tryz.prog 143 Ai.Neg.spec
theorem Ai.Neg.Ac (hk:Ay Tryz.prog Ai.Neg.A8) (h:∀ (n:Bool) (a:List Int),Ai.Neg.pre [.b n,.l a]=true→Ba Ai.Neg.E Tryz.f143 [.agg [.bool n,.ints .arg .u32 a]] (Ai.Neg.out [.b n,.l a])):Ai.Neg.Kn :=
  Aj (A1 hk _ _ _) Tryz.func143 (by kernel_rfl) (by kernel_rfl) h
end EqRefA
open EqRefA
theorem Ai.J9.known:Ai.J9.Kn:=Ai.J9.Ac .nil fun l i hp=>by
  obtain ⟨hl,hi⟩:=Lg hp
  refine ⟨0,Ai.J9.out [.l l,.i i],[],?_,.int⟩
  rw [Ai.J9.ev,Ev,Aq]
  show _=some (DV.int .u64 (Hh l i))
  by_cases h0:0≤i
  · obtain ⟨k,rfl⟩:∃ k:Nat,i=k:=⟨i.toNat,by omega⟩
    have hv:=Hw hi k
    have hg:=R9 hi k
    rw [hv,Ay8,hg,Ay7 h0,Bool.true_and]
    by_cases h1:(k:Int)<(l.length:Int)
    · rw [Ay7 h1,Ay6,Ay6,Dt (by omega) (by omega)]
    · have h2:l.getD k 0=0:=by
        rw [Azg,List.getElem?_eq_none (by omega)]; rfl
      rw [h2] at hg
      rw [Azb h1,Aza,← hg]
  · have:Hh l i=0:=by unfold Hh; rw [if_neg h0]
    rw [Azb h0,Bool.false_and,Aza,this]
theorem Ad5 {drops:List Nat} {b:Bool} {l:List Int}:Wk drops (.agg [.bool b,.ints .arg .u32 l]) (.agg [.bool b,.ints .arg .u32 l]):=Wk.G2 (.cons .bool (.cons .Rh .nil))
theorem All:Bi 0=false:=rfl
theorem Aft:Ap 0=[]:=rfl
theorem Alw (N:Nat) (n:Bool) {l:List Int} (hl:l.length<1073741824) (hi:Zd l):∀ (p F:Nat),p≤l.length→p<F→Cr l<2^(32*p) →
    ∃ dv,Ai.Made.L0 N F n l (p:Int)=some dv∧Wk [] dv (.agg [.bool (Bi (wv n l)),.ints .arg .u32 (Ap (wv n l))]):=by
  have hlast:∀ p,p≤l.length→Dz (Cr l)=p→p≠0→some (DV.agg [.bool n,.ints .arg .u32 (l.take p)])=some (DV.agg [.bool (Bi (wv n l)),.ints .arg .u32 (Ap (wv n l))]):=by
    intro p hp hq h0
    have h1:=Ah9 hi
    rw [hq] at h1
    have h2:Cr l≠0:=fun h=>by rw [h] at hq; exact h0 hq.symm
    have e:(wv n l).natAbs=Cr l:=by unfold wv Ih; split<;>omega
    have e1:Ap (wv n l)=Q2 (Cr l):=by unfold Ap; rw [e]
    have e2:Bi (wv n l)=n:=by unfold Bi wv Ih; cases n<;>simp<;>omega
    rw [h1,e1,e2]
  intro p
  induction p with
  | zero =>
    intro F hp hF hv
    obtain ⟨F,rfl⟩:∃ G,F=G+1:=⟨F-1,by omega⟩
    have hz:wv n l=0:=by
      have:Cr l=0:=by rw [Nat.mul_zero,Nat.pow_zero] at hv; omega
      unfold wv Ih; rw [this]; cases n<;>rfl
    refine ⟨.agg [.bool false,.nil],?_,?_⟩
    · rw [Ai.Made.Au,Aq]; rfl
    · rw [hz,All,Aft]
      exact Wk.G2 (.cons .bool (.cons (.nil _ _) .nil))
  | succ p ih =>
    intro F hp hF hv
    obtain ⟨F,rfl⟩:∃ G,F=G+1:=⟨F-1,by omega⟩
    rw [Ai.Made.Au,Aq,Am (by omega) (by omega)]
    have e0:((p+1:Nat):Int)-1=(p:Int):=by omega
    have t0:decide ((0:Int)<((p+1:Nat):Int))=true:=Ay7 (by omega)
    have t1:decide ((0:Int)≤(p:Int))=true:=by simp
    have t2:decide ((p:Int)<(l.length:Int))=true:=by simp; omega
    have hg:=R9 hi p
    have hq:Cr l / 2^(32*p)<4294967296:=by
      rw [Nat.div_lt_iff_lt_mul (Cn _),← Oy]; exact hv
    rw [Azj hq] at hg
    rw [e0,t0,t1,t2,Ay8,hg]
    simp only [Bool.not_true,Azc,Bool.false_or,Ay6,Bool.true_and]
    by_cases hz:Cr l / 2^(32*p)=0
    · have:(((Cr l / 2^(32*p):Nat):Int)==0)=true:=by rw [hz]; rfl
      rw [this,Ay6]
      refine ih F (by omega) (by omega) ?_
      rcases Nat.lt_or_ge (Cr l) (2^(32*p)) with h | h
      · exact h
      · have:=Nat.div_pos h (Cn _); omega
    · have:(((Cr l / 2^(32*p):Nat):Int)==0)=false:=by simp only [beq_eq_false_iff_ne,ne_eq]; omega
      have t3:(((p+1:Nat):Int)==0)=false:=by simp only [beq_eq_false_iff_ne,ne_eq]; omega
      have t4:decide (((p+1:Nat):Int)≤(l.length:Int))=true:=by simp; omega
      have t5:decide ((0:Int)≤((p+1:Nat):Int))=true:=Ay7 (by omega)
      rw [this,Aza,t3,Aza,t4,t5,Azc,Ay6,Ay8]
      have hlen:Dz (Cr l)=p+1:=by
        have a1:=N1 hv
        have a2:=Asl (n:=Cr l) (k:=p) (by
          rcases Nat.lt_or_ge (Cr l) (2^(32*p)) with h | h
          · exact absurd (Nat.div_eq_of_lt h) hz
          · exact h)
        omega
      exact ⟨_,hlast (p+1) hp hlen (by omega),Ad5⟩
theorem Ai.Made.known:Ai.Made.Kn:=Ai.Made.Ac .nil fun n l hp=>by
  obtain ⟨hl,hi⟩:=Lg hp
  obtain ⟨dv,h1,h2⟩:=Alw (l.length+1) n hl hi l.length (l.length+1) (Nat.le_refl _) (by omega) (Nu hi)
  exact ⟨l.length+1,dv,[],by rw [Ai.Made.ev]; exact h1,h2⟩
theorem Aao {a b:Int} (ha:0≤a∧a<4294967296) (hb:0≤b∧b<4294967296):H4 [a,b]=true :=
  Oc (show 2<1073741824 by decide) fun x hx=>by
    rcases List.mem_cons.1 hx with rfl | hx
    · exact ha
    · rcases List.mem_cons.1 hx with rfl | hx
      · exact hb
      · cases hx
theorem Ajw:(4294967296:Int)=((4294967296:Nat):Int):=rfl
theorem Ai.Of.known:Ai.Of.Kn:=Ai.Of.Ac (.cons Ai.Made.known .nil) fun n hp=>by
  have hp:=Aw.1 hp
  refine ⟨0,Ai.Of.out [.i n],[],?_,Ad5⟩
  rw [Ai.Of.ev,Aq]
  show _=some (DV.agg [.bool (Bi n),.ints .arg .u32 (Ap n)])
  by_cases h:n<0
  · obtain ⟨k,rfl⟩:∃ k:Nat,n=-(k:Int):=⟨(-n).toNat,by omega⟩
    have e1:Bj (Bj (Ab (0-Ab (-(k:Int)+1)))+1)=(k:Int):=by
      rw [Am (x:=-(k:Int)+1) (by omega) (by omega),Am (by omega) (by omega),Dt (x:=0-(-(k:Int)+1)) (by omega) (by omega),Dt (by omega) (by omega)]; omega
    rw [Ay7 h,Ay6,e1,Ajw,Kd,Ke,Li (by omega) (by omega),Dt (by omega) (by omega),Li (by omega) (by omega),
      Aao (by omega) (by omega),Ay6]
    have e2:wv true [((k%4294967296:Nat):Int),((k / 4294967296:Nat):Int)]=-(k:Int):=by
      unfold wv Ih Cr Cr Cr
      rw [if_pos rfl,Ay8,Ay8]
      omega
    rw [e2]
  · obtain ⟨k,rfl⟩:∃ k:Nat,n=(k:Int):=⟨n.toNat,by omega⟩
    rw [Azb h,Aza,Ajw,Kd,Ke,Li (by omega) (by omega),Am (by omega) (by omega),Li (by omega) (by omega),
      Aao (by omega) (by omega),Ay6]
    have e2:wv false [((k%4294967296:Nat):Int),((k / 4294967296:Nat):Int)]=(k:Int):=by
      unfold wv Ih Cr Cr Cr
      rw [if_neg (by decide),Ay8,Ay8]
      omega
    rw [e2]
theorem Ai.Neg.known:Ai.Neg.Kn:=Ai.Neg.Ac (.cons Ai.Made.known .nil) fun n a hp=>by
  obtain ⟨v,rfl,rfl,hv⟩:=Ju hp
  refine ⟨0,Ai.Neg.out [.b (Bi v),.l (Ap v)],[],?_,Ad5⟩
  rw [Ai.Neg.ev,O3 (by omega),Ay6,Atw]
  rfl
open EqRefA
theorem Alu (N:Nat) {a b:List Int} (ha:H4 a=true) (hb:H4 b=true):∀ (j F:Nat),j<4000000000→j<F→Cr a / 2^(32*j)=Cr b / 2^(32*j) →
    Ai.Jb.L0 N F a b ((j:Int)-1)=some (.int .i64 (Wf (Cr a) (Cr b))):=by
  have ia:=(Lg ha).2
  have ib:=(Lg hb).2
  intro j
  induction j with
  | zero =>
    intro F hj hF h
    obtain ⟨F,rfl⟩:∃ G,F=G+1:=⟨F-1,by omega⟩
    rw [Nat.mul_zero,Nat.pow_zero,Nat.div_one,Nat.div_one] at h
    have e:Wf (Cr a) (Cr b)=0:=by unfold Wf; rw [if_neg (by omega),if_neg (by omega)]
    rw [Ai.Jb.Au,Ev,e]
    rfl
  | succ j ih =>
    intro F hj hF h
    obtain ⟨F,rfl⟩:∃ G,F=G+1:=⟨F-1,by omega⟩
    have e0:((j+1:Nat):Int)-1=(j:Int):=by omega
    have t0:decide ((0:Int)≤(j:Int))=true:=Ay7 (by omega)
    rw [Oy,Nat.mul_comm,← Nat.div_div_eq_div_mul,← Nat.div_div_eq_div_mul] at h
    have up:Cr a / 2^(32*j)<Cr b / 2^(32*j)→Cr a<Cr b:=fun k=>by
      rcases Nat.lt_or_ge (Cr a) (Cr b) with h1 | h1
      · exact h1
      · have:=Nat.div_le_div_right (c:=2^(32*j)) h1; omega
    have down:Cr b / 2^(32*j)<Cr a / 2^(32*j)→Cr b<Cr a:=fun k=>by
      rcases Nat.lt_or_ge (Cr b) (Cr a) with h1 | h1
      · exact h1
      · have:=Nat.div_le_div_right (c:=2^(32*j)) h1; omega
    rw [Ai.Jb.Au,e0,Ev,t0,Ay6,ha,hb,Ay6,Ay6,Aq,Aq,Hw ia,Hw ib,Am (by omega) (by omega)]
    have ih:=ih F (by omega) (by omega)
    generalize Cr a / 2^(32*j)=x at *
    generalize Cr b / 2^(32*j)=y at *
    by_cases h1:x%4294967296<y%4294967296
    · have e:Wf (Cr a) (Cr b)=-1:=by unfold Wf; rw [if_pos (up (by omega))]
      rw [Ay7 (by omega),Ay6,e]
    · rw [Azb (by omega),Aza]
      by_cases h2:y%4294967296<x%4294967296
      · have:=down (by omega)
        have e:Wf (Cr a) (Cr b)=1:=by unfold Wf; rw [if_neg (by omega),if_pos this]
        rw [Ay7 (by omega),Ay6,e]
        rfl
      · rw [Azb (by omega),Aza]
        exact ih (by omega)
theorem Aj5 {l:List Int} (h:Zd l) {j:Nat} (hj:l.length≤j):Cr l / 2^(32*j)=0 :=
  Nat.div_eq_of_lt (Nat.lt_of_lt_of_le (Nu h) (Azl (by decide) (by omega)))
theorem Ai.Jb.known:Ai.Jb.Kn:=Ai.Jb.Ac (.cons Ai.J9.known .nil) fun a b hp=>by
  obtain ⟨ha,hb⟩:=Ad.1 hp
  obtain ⟨la,ia⟩:=Lg ha
  obtain ⟨lb,ib⟩:=Lg hb
  refine ⟨max a.length b.length+2,Ai.Jb.out [.l a,.l b],[],?_,.int⟩
  rw [Ai.Jb.ev]
  have e:max (a.length:Int) (b.length:Int)=((max a.length b.length+1:Nat):Int)-1:=by omega
  rw [e]
  exact Alu _ ha hb _ _ (by omega) (by omega) (by rw [Aj5 ia (by omega),Aj5 ib (by omega)])
theorem Ale (N:Nat) {a b:List Int} (ha:H4 a=true) (hb:H4 b=true):∀ (k i c F:Nat),i+k=max a.length b.length+1→k<F→c≤1 →
    Cr a / 2^(32*i)+Cr b / 2^(32*i)+c=(Cr a+Cr b) / 2^(32*i) →
    Ai.plus.L0 N F a b (c:Int) (i:Int) (digits i (Cr a+Cr b))=some (.ints (.own 100005 tW) .u32 (Ki a b)):=by
  obtain ⟨la,ia⟩:=Lg ha
  obtain ⟨lb,ib⟩:=Lg hb
  intro k
  induction k with
  | zero =>
    intro i c F hi hF hc h
    obtain ⟨F,rfl⟩:∃ G,F=G+1:=⟨F-1,by omega⟩
    have t0:decide ((i:Int)≤max (a.length:Int) (b.length:Int))=false:=Azb (by omega)
    rw [Ai.plus.Au,Ev,t0,Aza]
    unfold Ki
    rw [show i=max a.length b.length+1 by omega]
  | succ k ih =>
    intro i c F hi hF hc h
    obtain ⟨F,rfl⟩:∃ G,F=G+1:=⟨F-1,by omega⟩
    have t0:decide ((i:Int)≤max (a.length:Int) (b.length:Int))=true:=Ay7 (by omega)
    have t1:decide ((digits i (Cr a+Cr b)).length+1≤Gu)=true:=Ay7 (by rw [Fv]; unfold Gu; omega)
    rw [Ai.plus.Au,Ev,t0,ha,hb,t1]
    simp only [Ay6]
    rw [Hw ia,Hw ib]
    have ih:=ih (i+1)
    rw [Oy,Nat.mul_comm 4294967296,← Nat.div_div_eq_div_mul,← Nat.div_div_eq_div_mul,← Nat.div_div_eq_div_mul,N5] at ih
    generalize Cr a / 2^(32*i)=x at *
    generalize Cr b / 2^(32*i)=y at *
    generalize (Cr a+Cr b) / 2^(32*i)=z at *
    have e1:Bj (Bj (((x%4294967296:Nat):Int)+((y%4294967296:Nat):Int))+(c:Int))=((x%4294967296+y%4294967296+c:Nat):Int):=by
      rw [Dt (x:=((x%4294967296:Nat):Int)+((y%4294967296:Nat):Int)) (by omega) (by omega),Dt (by omega) (by omega)]; omega
    rw [e1,Ajw,Kd,Ke,Li (by omega) (by omega),Dt (by omega) (by omega),Am (by omega) (by omega)]
    have e2:(x%4294967296+y%4294967296+c)%4294967296=z%4294967296:=by omega
    rw [e2]
    exact ih ((x%4294967296+y%4294967296+c) / 4294967296) F (by omega) (by omega) (by omega) (by omega)
theorem Ajk {i:Nat} {e:TypeId} {k:IntKind} {l:List Int}:Wk [i] (.ints (.own i e) k l) (.ints .arg k l):=.dropA i e k l (List.mem_singleton.2 rfl)
theorem Ai.plus.known:Ai.plus.Kn:=Ai.plus.Ac (.cons Ai.J9.known .nil) fun a b hp=>by
  obtain ⟨ha,hb⟩:=Ad.1 hp
  refine ⟨max a.length b.length+2,.ints (.own 100005 tW) .u32 (Ki a b),[100005],?_,Ajk⟩
  rw [Ai.plus.ev]
  exact Ale _ ha hb (max a.length b.length+1) 0 0 _ (by omega) (by omega) (by omega) (by simp)
theorem Ahz (N:Nat) {a b:List Int} (ha:H4 a=true) (hb:H4 b=true):∀ (k i w F:Nat),i+k=a.length→k<F→w≤1 →
    Cr a / 2^(32*i)=Cr b / 2^(32*i)+(Cr a-Cr b) / 2^(32*i)+w →
    Ai.minus.L0 N F a b (w:Int) (i:Int) (digits i (Cr a-Cr b))=some (.ints (.own 100005 tW) .u32 (Ht a b)):=by
  obtain ⟨la,ia⟩:=Lg ha
  obtain ⟨lb,ib⟩:=Lg hb
  intro k
  induction k with
  | zero =>
    intro i c F hi hF hc h
    obtain ⟨F,rfl⟩:∃ G,F=G+1:=⟨F-1,by omega⟩
    have t0:decide ((i:Int)<(a.length:Int))=false:=Azb (by omega)
    rw [Ai.minus.Au,Aq,t0,Aza]
    unfold Ht
    rw [show i=a.length by omega]
  | succ k ih =>
    intro i w F hi hF hc h
    obtain ⟨F,rfl⟩:∃ G,F=G+1:=⟨F-1,by omega⟩
    have t0:decide ((i:Int)<(a.length:Int))=true:=Ay7 (by omega)
    have t1:decide ((digits i (Cr a-Cr b)).length+1≤Gu)=true:=Ay7 (by rw [Fv]; unfold Gu; omega)
    rw [Ai.minus.Au,Aq,t0,ha,hb,t1]
    simp only [Ay6]
    rw [Hw ia,Hw ib]
    have ih:=ih (i+1)
    rw [Oy,Nat.mul_comm 4294967296,← Nat.div_div_eq_div_mul,← Nat.div_div_eq_div_mul,← Nat.div_div_eq_div_mul,N5] at ih
    generalize Cr a / 2^(32*i)=x at *
    generalize Cr b / 2^(32*i)=y at *
    generalize (Cr a-Cr b) / 2^(32*i)=z at *
    have e1:Bj (Bj (Bj ((4294967296:Int)+((x%4294967296:Nat):Int))-((y%4294967296:Nat):Int))-(w:Int))=((4294967296+x%4294967296-y%4294967296-w:Nat):Int):=by
      rw [Dt (x:=(4294967296:Int)+((x%4294967296:Nat):Int)) (by omega) (by omega),Dt (x:=(4294967296:Int)+((x%4294967296:Nat):Int)-((y%4294967296:Nat):Int)) (by omega) (by omega),Dt (by omega) (by omega)]; omega
    have e2:(4294967296+x%4294967296-y%4294967296-w)%4294967296=z%4294967296:=by omega
    have e3:Bj ((1:Int)-(((4294967296+x%4294967296-y%4294967296-w) / 4294967296:Nat):Int))=((1-(4294967296+x%4294967296-y%4294967296-w) / 4294967296:Nat):Int):=by
      rw [Dt (by omega) (by omega)]; omega
    rw [e1,Ajw,Kd,Ke,Li (by omega) (by omega),Dt (x:=(((4294967296+x%4294967296-y%4294967296-w) / 4294967296:Nat):Int)) (by omega) (by omega),Am (by omega) (by omega),e2,e3]
    exact ih (1-(4294967296+x%4294967296-y%4294967296-w) / 4294967296) F (by omega) (by omega) (by omega) (by omega)
theorem Ai.minus.known:Ai.minus.Kn:=Ai.minus.Ac (.cons Ai.J9.known .nil) fun a b hp=>by
  obtain ⟨h1,hle⟩:=Ad.1 hp
  obtain ⟨ha,hb⟩:=Ad.1 h1
  have hle:=Aw.1 hle
  refine ⟨a.length+1,.ints (.own 100005 tW) .u32 (Ht a b),[100005],?_,Ajk⟩
  rw [Ai.minus.ev]
  exact Ahz _ ha hb a.length 0 0 _ (by omega) (by omega) (by omega) (by simp; omega)
theorem Hg (v:Int):Zd (Ap v):=Afs _
theorem Am2 {v w:Int} (h:Bi v=Bi w):wv (Bi v) (Ki (Ap v) (Ap w))=v+w:=by
  unfold wv
  rw [Alf (Hg _) (Hg _),D9,D9]
  unfold Bi at h ⊢
  unfold Ih
  rw [decide_eq_decide] at h
  by_cases hv:v<0
  · have hw:=h.1 hv
    rw [Ay7 hv,if_pos rfl]; omega
  · have hw:¬ w<0:=fun k=>hv (h.2 k)
    rw [Azb hv,if_neg (by decide)]; omega
theorem Ai1 {v w:Int} (h:Bi v≠Bi w) (hl:w.natAbs≤v.natAbs):wv (Bi v) (Ht (Ap v) (Ap w))=v+w:=by
  unfold wv
  rw [Ah1 _ (Hg _),D9,D9]
  unfold Bi at h ⊢
  unfold Ih
  rw [ne_eq,decide_eq_decide] at h
  by_cases hv:v<0
  · have hw:¬ w<0:=fun k=>h ⟨fun _=>k,fun _=>hv⟩
    rw [Ay7 hv,if_pos rfl]; omega
  · have hw:w<0:=by
      rcases Int.lt_or_le w 0 with k | k
      · exact k
      · exact absurd ⟨fun k'=>absurd k' hv,fun k'=>by omega⟩ h
    rw [Azb hv,if_neg (by decide)]; omega
theorem Ai.Add.known:Ai.Add.Kn:=Ai.Add.Ac (.cons Ai.Made.known (.cons Ai.Jb.known (.cons Ai.minus.known (.cons Ai.plus.known .nil)))) fun n a m b hp=>by
  obtain ⟨h1,h2⟩:=Ad.1 hp
  obtain ⟨v,rfl,rfl,hv⟩:=Ju h1
  obtain ⟨w,rfl,rfl,hw⟩:=Ju h2
  refine ⟨0,Ai.Add.out [.b (Bi v),.l (Ap v),.b (Bi w),.l (Ap w)],[],?_,Ad5⟩
  have o1:H4 (Ap v)=true:=O3 (by omega)
  have o2:H4 (Ap w)=true:=O3 (by omega)
  rw [Ai.Add.ev,o1,o2,Azc,Ay6]
  show _=some (DV.agg [.bool (Bi (wv (Bi v) (Ap v)+wv (Bi w) (Ap w))),.ints .arg .u32 (Ap (wv (Bi v) (Ap v)+wv (Bi w) (Ap w)))])
  rw [H5,H5]
  by_cases hs:Bi v=Bi w
  · have:(Bi v==Bi w)=true:=by simp [hs]
    have o3:H4 (Ki (Ap v) (Ap w))=true:=Oc (by rw [Uf,Ct,Ct]; omega) (Ae8 _ _)
    rw [this,Ay6,o3,Ay6,Am2 hs]
  · have:(Bi v==Bi w)=false:=by simp [hs]
    rw [this,Aza,Ay6,Aq,D9,D9,Bool.true_and,Bool.true_and]
    by_cases hl:v.natAbs<w.natAbs
    · have e:decide (Wf v.natAbs w.natAbs<0)=true:=Ay7 (by unfold Wf; rw [if_pos hl]; decide)
      have o3:H4 (Ht (Ap w) (Ap v))=true:=Oc (by rw [Ss,Ct]; omega) (Aba _ _)
      have o4:leL (Ap v) (Ap w)=true:=Aw.2 (by rw [D9,D9]; omega)
      rw [e,Ay6,o4,Ay6,o3,Ay6,Ai1 (fun k=>hs k.symm) (by omega),Int.add_comm]
    · have e:decide (Wf v.natAbs w.natAbs<0)=false:=Azb (by unfold Wf; rw [if_neg hl]; split<;>decide)
      have o3:H4 (Ht (Ap v) (Ap w))=true:=Oc (by rw [Ss,Ct]; omega) (Aba _ _)
      have o4:leL (Ap w) (Ap v)=true:=Aw.2 (by rw [D9,D9]; omega)
      rw [e,Aza,o4,Ay6,o3,Ay6,Ai1 hs (by omega)]
namespace EqRefB
def Ai.Gi.A8:List (Nat × Entry):=[(171,Ai.Made.spec),(174,Ai.plus.spec)]
def Ai.Gi.E:Env:=A9 (A7 Ai.Gi.A8) (fun _=>false) (fun _=>none) (fun _=>none)
theorem Ai.Gi.ev (N:Nat) (n:Bool) (a:List Int):Bp Ai.Gi.E N Tryz.f222 (Al Tryz.f222) [.agg [.bool n,.ints .arg .u32 a]]=bif (H4 a&&H4 a) then bif (H4 (Ki a a)) then some (.agg [.bool (Bi (wv n (Ki a a))),.ints .arg .u32 (Ap (wv n (Ki a a)))]) else none else none :=
  Eq.trans (by kernel_rfl)
  (Cq (Ci (H4 a&&H4 a)) (Cq (Ci (H4 (Ki a a))) rfl rfl) rfl)
abbrev _root_.Go.Proofs.S1.Ai.Gi.Kn:=A5 Tryz.prog 222 Ai.Gi.spec
theorem Ai.Gi.Ac (hk:Ay Tryz.prog Ai.Gi.A8) (h:∀ (n:Bool) (a:List Int),Ai.Gi.pre [.b n,.l a]=true→Ba Ai.Gi.E Tryz.f222 [.agg [.bool n,.ints .arg .u32 a]] (Ai.Gi.out [.b n,.l a])):Ai.Gi.Kn :=
  Aj (A1 hk _ _ _) Tryz.func222 (by kernel_rfl) (by kernel_rfl) h
def Ai.Ie.hint:Nat→Option Bb
  | 0=>some { keep:=[1,2,3,4],objs:=[(0,3,100003,.ints 173 .u32 [])],boxes:=[1,2] }
  | _=>none
def Ai.Ie.A8:List (Nat × Entry):=[(171,Ai.Made.spec),(221,Ai.J9.spec)]
def Ai.Ie.E:Env:=A9 (A7 Ai.Ie.A8) (fun _=>false) Ai.Ie.hint (fun _=>none)
def Ai.Ie.L0 (N M:Nat) (n:Bool) (a:List Int) (p4:Int) (p3:List Int):Option DV:=Bv Ai.Ie.E N Tryz.f173 (Al Tryz.f173) [1,1,0,1,0] [] M ⟨Ft 37 [(1,.ptr 1 0 0),(2,.ptr 2 0 0),(3,.oref 100003),(4,.int .i64 p4)],[(1,false,.box [.bool n,.ints .arg .u32 a]),(2,false,.box [.bool false,.nil]),(100003,false,.ints 173 .u32 p3)]⟩
theorem Ai.Ie.Au (N M:Nat) (n:Bool) (a:List Int) (p4:Int) (p3:List Int):Ai.Ie.L0 N (M+1) n a p4 p3=bif (A6 p4 (List.length a:Int)) then bif (H4 a) then bif (H4 a) then bif ((decide (0≤p4))&&(decide (p4<(List.length p3:Int)))) then bif (decide ((Int.toNat p4)<(List.length p3))) then Ai.Ie.L0 N M n a (Ab (p4+1)) (List.set p3 (Int.toNat p4) (Kb (Bj (Int.tdiv (Bj ((Bj ((Int.tmod (Hh a (Ab (p4+1))) 2)*4294967296))+(Hh a p4))) 2)))) else none else none else none else none else bif (H4 p3) then some (.agg [.bool (Bi (wv n p3)),.ints .arg .u32 (Ap (wv n p3))]) else none :=
  Eq.trans (by kernel_rfl)
  (Ea (Cq (Ci (H4 a)) (Cq (Ci (H4 a)) (Cq (Jw (decide (0≤p4)) (decide (p4<(List.length p3:Int)))) (Cq (Ci (decide ((Int.toNat p4)<(List.length p3)))) rfl rfl) rfl) rfl) rfl) rfl)
theorem Ai.Ie.ev (N:Nat) (n:Bool) (a:List Int):Bp Ai.Ie.E N Tryz.f173 (Al Tryz.f173) [.agg [.bool n,.ints .arg .u32 a]]=bif (((decide ((0:Int)≤(List.length a:Int)))&&(decide ((List.length a:Int)≤(List.length a:Int))))&&(decide ((List.length a:Int)≤Gu))) then Ai.Ie.L0 N N n a 0 (List.replicate (Int.toNat (List.length a:Int)) 0) else none:=by kernel_rfl
abbrev _root_.Go.Proofs.S1.Ai.Ie.Kn:=A5 Tryz.prog 173 Ai.Ie.spec
theorem Ai.Ie.Ac (hk:Ay Tryz.prog Ai.Ie.A8) (h:∀ (n:Bool) (a:List Int),Ai.Ie.pre [.b n,.l a]=true→Ba Ai.Ie.E Tryz.f173 [.agg [.bool n,.ints .arg .u32 a]] (Ai.Ie.out [.b n,.l a])):Ai.Ie.Kn :=
  Aj (A1 hk _ _ _) Tryz.func173 (by kernel_rfl) (by kernel_rfl) h
def Ai.Bt.hint:Nat→Option Bb
  | 0=>some { keep:=[1,2,4],objs:=[],boxes:=[2,4] }
  | 2=>some { keep:=[1,2,4],objs:=[],boxes:=[2,4] }
  | 4=>some { keep:=[1,2,4],objs:=[],boxes:=[2,4] }
  | 6=>some { keep:=[1,2,4],objs:=[],boxes:=[2,4] }
  | _=>none
def Ai.Bt.A8:List (Nat × Entry):=[(222,Ai.Gi.spec),(173,Ai.Ie.spec),(171,Ai.Made.spec)]
def Ai.Bt.E:Env:=A9 (A7 Ai.Bt.A8) (fun _=>false) Ai.Bt.hint (fun _=>none)
def Ai.Bt.L0 (N M:Nat) (p1:Int) (p2:Bool) (p2_1:List Int):Option DV:=Bv Ai.Bt.E N Tryz.f178 (Al Tryz.f178) [1,0,0] [] M ⟨Ft 63 [(1,.int .i64 p1),(2,.ptr 2 0 0),(4,.ptr 4 0 0)],[(2,false,.box [.bool p2,.ints .arg .u32 p2_1]),(4,false,.box [.bool false,.nil])]⟩
def Ai.Bt.L1 (N M:Nat) (p1_1:Int) (p2_2:Bool) (p2_3:List Int):Option DV:=Bv Ai.Bt.E N Tryz.f178 (Al Tryz.f178) [1,1,0,0] [] M ⟨Ft 63 [(1,.int .i64 p1_1),(2,.ptr 2 0 0),(4,.ptr 4 0 0)],[(2,false,.box [.bool p2_2,.ints .arg .u32 p2_3]),(4,false,.box [.bool false,.nil])]⟩
def Ai.Bt.L2 (N M:Nat) (p1_2:Int) (p2_4:Bool) (p2_5:List Int):Option DV:=Bv Ai.Bt.E N Tryz.f178 (Al Tryz.f178) [1,1,1,0,0] [] M ⟨Ft 63 [(1,.int .i64 p1_2),(2,.ptr 2 0 0),(4,.ptr 4 0 0)],[(2,false,.box [.bool p2_4,.ints .arg .u32 p2_5]),(4,false,.box [.bool false,.nil])]⟩
def Ai.Bt.L3 (N M:Nat) (p1_3:Int) (p2_6:Bool) (p2_7:List Int):Option DV:=Bv Ai.Bt.E N Tryz.f178 (Al Tryz.f178) [1,1,1,1,0,0] [] M ⟨Ft 63 [(1,.int .i64 p1_3),(2,.ptr 2 0 0),(4,.ptr 4 0 0)],[(2,false,.box [.bool p2_6,.ints .arg .u32 p2_7]),(4,false,.box [.bool false,.nil])]⟩
theorem Ai.Bt.Au (N M:Nat) (p1:Int) (p2:Bool) (p2_1:List Int):Ai.Bt.L0 N (M+1) p1 p2 p2_1=bif ((Ep 32 p1)&&(A6 0 (List.length p2_1:Int))) then bif (decide (1+(List.length p2_1)≤Gu)) then bif (H4 ([(0:Int)]++p2_1)) then Ai.Bt.L0 N M (Ab (p1-32)) (Bi (wv p2 ([(0:Int)]++p2_1))) (Ap (wv p2 ([(0:Int)]++p2_1))) else none else none else Ai.Bt.L1 N N p1 p2 p2_1 :=
  Eq.trans (by kernel_rfl)
  (Ar (On (Ep 32 p1)) (Ar (Mb (Ep 32 p1)) (Ar (Mb (Ep 32 p1)) (Ar (Mb (Ep 32 p1)) (Ar (Tw (Ep 32 p1)) (Cq (tt1 (Ep 32 p1) (A6 0 (List.length p2_1:Int))) (Cq (Ci (decide (1+(List.length p2_1)≤Gu))) (Cq (Ci (H4 ([(0:Int)]++p2_1))) rfl rfl) rfl) rfl))))))
theorem Ai.Bt.B2 (N M:Nat) (p1_1:Int) (p2_2:Bool) (p2_3:List Int):Ai.Bt.L1 N (M+1) p1_1 p2_2 p2_3=bif ((A6 0 p1_1)&&(A6 0 (List.length p2_3:Int))) then bif (Jy p2_2 p2_3) then Ai.Bt.L1 N M (Ab (p1_1-1)) (Bi (2*wv p2_2 p2_3)) (Ap (2*wv p2_2 p2_3)) else none else Ai.Bt.L2 N N p1_1 p2_2 p2_3 :=
  Eq.trans (by kernel_rfl)
  (Ar (On (A6 0 p1_1)) (Ar (Mb (A6 0 p1_1)) (Ar (Mb (A6 0 p1_1)) (Ar (Mb (A6 0 p1_1)) (Ar (Tw (A6 0 p1_1)) (Cq (tt1 (A6 0 p1_1) (A6 0 (List.length p2_3:Int))) rfl rfl))))))
theorem Ai.Bt.Fp (N M:Nat) (p1_2:Int) (p2_4:Bool) (p2_5:List Int):Ai.Bt.L2 N (M+1) p1_2 p2_4 p2_5=bif ((Ep p1_2 (-32:Int))&&(A6 0 (List.length p2_5:Int))) then bif (decide ((1:Int)≤(List.length p2_5:Int))) then bif (H4 (List.drop 1 p2_5)) then Ai.Bt.L2 N M (Ab (p1_2+32)) (Bi (wv p2_4 (List.drop 1 p2_5))) (Ap (wv p2_4 (List.drop 1 p2_5))) else none else none else Ai.Bt.L3 N N p1_2 p2_4 p2_5 :=
  Eq.trans (by kernel_rfl)
  (Ar (On (Ep p1_2 (-32:Int))) (Ar (Mb (Ep p1_2 (-32:Int))) (Ar (Mb (Ep p1_2 (-32:Int))) (Ar (Mb (Ep p1_2 (-32:Int))) (Ar (Tw (Ep p1_2 (-32:Int))) (Cq (tt1 (Ep p1_2 (-32:Int)) (A6 0 (List.length p2_5:Int))) (Cq (Av8 (decide ((1:Int)≤(List.length p2_5:Int)))) (Cq (Ci (H4 (List.drop 1 p2_5))) rfl rfl) rfl) rfl))))))
theorem Ai.Bt.Adz (N M:Nat) (p1_3:Int) (p2_6:Bool) (p2_7:List Int):Ai.Bt.L3 N (M+1) p1_3 p2_6 p2_7=bif ((A6 p1_3 0)&&(A6 0 (List.length p2_7:Int))) then bif (Jy p2_6 p2_7) then Ai.Bt.L3 N M (Ab (p1_3+1)) (Bi (Ld (wv p2_6 p2_7) 1)) (Ap (Ld (wv p2_6 p2_7) 1)) else none else some (.agg [.bool p2_6,.ints .arg .u32 p2_7]) :=
  Eq.trans (by kernel_rfl)
  (Ar (On (A6 p1_3 0)) (Ar (Mb (A6 p1_3 0)) (Ar (Mb (A6 p1_3 0)) (Ar (Mb (A6 p1_3 0)) (Ar (Tw (A6 p1_3 0)) (Cq (tt1 (A6 p1_3 0) (A6 0 (List.length p2_7:Int))) rfl rfl))))))
theorem Ai.Bt.ev (N:Nat) (n:Bool) (a:List Int) (k:Int):Bp Ai.Bt.E N Tryz.f178 (Al Tryz.f178) [.agg [.bool n,.ints .arg .u32 a],.int .i64 k] =
  Ai.Bt.L0 N N k n a:=by kernel_rfl
abbrev _root_.Go.Proofs.S1.Ai.Bt.Kn:=A5 Tryz.prog 178 Ai.Bt.spec
theorem Ai.Bt.Ac (hk:Ay Tryz.prog Ai.Bt.A8) (h:∀ (n:Bool) (a:List Int) (k:Int),Ai.Bt.pre [.b n,.l a,.i k]=true→Ba Ai.Bt.E Tryz.f178 [.agg [.bool n,.ints .arg .u32 a],.int .i64 k] (Ai.Bt.out [.b n,.l a,.i k])):Ai.Bt.Kn :=
  Aj (A1 hk _ _ _) Tryz.func178 (by kernel_rfl) (by kernel_rfl) h
def Ai.Rn.hint:Nat→Option Bb
  | 0=>some { keep:=[3,4],objs:=[],boxes:=[] }
  | _=>none
def Ai.Rn.A8:List (Nat × Entry):=[]
def Ai.Rn.E:Env:=A9 (A7 Ai.Rn.A8) (fun _=>false) Ai.Rn.hint (fun _=>none)
def Ai.Rn.L0 (N M:Nat) (p3 p4:Int):Option DV:=Bv Ai.Rn.E N Tryz.f223 (Al Tryz.f223) [1,1,1,0,1,0] [] M ⟨Ft 29 [(3,.int .i64 p3),(4,.int .u32 p4)],[]⟩
theorem Ai.Rn.Au (N M:Nat) (p3 p4:Int):Ai.Rn.L0 N (M+1) p3 p4=bif (A6 0 p4) then Ai.Rn.L0 N M (Ab (p3+1)) (Kb (Int.tdiv p4 2)) else some (.int .i64 p3):=by kernel_rfl
theorem Ai.Rn.ev (N:Nat) (n:Bool) (a:List Int):Bp Ai.Rn.E N Tryz.f223 (Al Tryz.f223) [.agg [.bool n,.ints .arg .u32 a]]=bif ((List.length a:Int)==(0:Int)) then some (.int .i64 0) else bif ((decide (0≤(Ab ((List.length a:Int)-1))))&&(decide ((Ab ((List.length a:Int)-1))<(List.length a:Int)))) then Ai.Rn.L0 N N (Ab ((32:Int)*(Ab ((List.length a:Int)-1)))) (List.getD a (Int.toNat (Ab ((List.length a:Int)-1))) 0) else none:=by kernel_rfl
abbrev _root_.Go.Proofs.S1.Ai.Rn.Kn:=A5 Tryz.prog 223 Ai.Rn.spec
theorem Ai.Rn.Ac (hk:Ay Tryz.prog Ai.Rn.A8) (h:∀ (n:Bool) (a:List Int),Ai.Rn.pre [.b n,.l a]=true→Ba Ai.Rn.E Tryz.f223 [.agg [.bool n,.ints .arg .u32 a]] (Ai.Rn.out [.b n,.l a])):Ai.Rn.Kn :=
  Aj (A1 hk _ _ _) Tryz.func223 (by kernel_rfl) (by kernel_rfl) h
def Ai.Xq.A8:List (Nat × Entry):=[]
def Ai.Xq.E:Env:=A9 (A7 Ai.Xq.A8) (fun _=>false) (fun _=>none) (fun _=>none)
theorem Ai.Xq.ev (N:Nat) (n:Bool) (a:List Int):Bp Ai.Xq.E N Tryz.f172 (Al Tryz.f172) [.agg [.bool n,.ints .arg .u32 a]]=bif ((!(A6 0 (List.length a:Int)))||(decide ((0:Int)<(List.length a:Int)))) then some (.bool (bif (A6 0 (List.length a:Int)) then ((Int.tmod (List.getD a 0 0) 2)==(1:Int)) else false)) else none :=
  Eq.trans (by kernel_rfl)
  (Ar (On (A6 0 (List.length a:Int))) (Ar (Mb (A6 0 (List.length a:Int))) (Cq (Av7 (A6 0 (List.length a:Int)) (decide ((0:Int)<(List.length a:Int)))) (Ar (Mb (A6 0 (List.length a:Int))) (Ar (Mb (A6 0 (List.length a:Int))) (Ar (Mb (A6 0 (List.length a:Int))) (Ar (Tw (A6 0 (List.length a:Int))) rfl)))) rfl)))
abbrev _root_.Go.Proofs.S1.Ai.Xq.Kn:=A5 Tryz.prog 172 Ai.Xq.spec
theorem Ai.Xq.Ac (hk:Ay Tryz.prog Ai.Xq.A8) (h:∀ (n:Bool) (a:List Int),Ai.Xq.pre [.b n,.l a]=true→Ba Ai.Xq.E Tryz.f172 [.agg [.bool n,.ints .arg .u32 a]] (Ai.Xq.out [.b n,.l a])):Ai.Xq.Kn :=
  Aj (A1 hk _ _ _) Tryz.func172 (by kernel_rfl) (by kernel_rfl) h
end EqRefB
open EqRefB
theorem Ai.Gi.known:Ai.Gi.Kn:=Ai.Gi.Ac (.cons Ai.Made.known (.cons Ai.plus.known .nil)) fun n a hp=>by
  obtain ⟨v,rfl,rfl,hv⟩:=Ju hp
  refine ⟨0,Ai.Gi.out [.b (Bi v),.l (Ap v)],[],?_,Ad5⟩
  have o1:H4 (Ap v)=true:=O3 (by omega)
  have o3:H4 (Ki (Ap v) (Ap v))=true:=Oc (by rw [Uf,Ct]; omega) (Ae8 _ _)
  rw [Ai.Gi.ev,o1,o3,Azc,Ay6,Ay6,Am2 rfl]
  show _=some (DV.agg [.bool (Bi (2*wv (Bi v) (Ap v))),.ints .arg .u32 (Ap (2*wv (Bi v) (Ap v)))])
  rw [H5,Int.two_mul]
theorem Auk (l:List Int) (y x:Int) (r:List Int):∀ i,i=l.length→(l++y::r).set i x=l++x::r:=by
  induction l with
  | nil=>intro i h; subst h; rfl
  | cons z l ih =>
    intro i h
    obtain ⟨j,rfl⟩:∃ j,i=j+1:=⟨i-1,by rw [List.length_cons] at h; omega⟩
    show z::(l++y::r).set j x=z::(l++x::r)
    rw [ih j (by rw [List.length_cons] at h; omega)]
theorem Al7 (N:Nat) {v:Int} (hv:Dz v.natAbs<268435456):∀ (k i F:Nat),i+k=Dz v.natAbs→k<F →
    Ai.Ie.L0 N F (Bi v) (Ap v) (i:Int) (digits i (v.natAbs / 2)++List.replicate k 0)=some (.agg [.bool (Bi (Ld v 1)),.ints .arg .u32 (Ap (Ld v 1))]):=by
  have o1:H4 (Ap v)=true:=O3 (by omega)
  have ia:=Hg v
  intro k
  induction k with
  | zero =>
    intro i F hi hF
    obtain ⟨F,rfl⟩:∃ G,F=G+1:=⟨F-1,by omega⟩
    have t0:decide ((i:Int)<((Ap v).length:Int))=false:=Azb (by rw [Ct]; omega)
    rw [List.replicate_zero,List.append_nil,Ai.Ie.Au,Aq,t0,Aza]
    have o3:H4 (digits i (v.natAbs / 2))=true:=Oc (by rw [Fv]; omega) (Pd _ _)
    have e:wv (Bi v) (digits i (v.natAbs / 2))=Ld v 1:=by
      unfold wv Ld
      rw [Lj,Azj,Nat.pow_one]
      have:=Mo v.natAbs
      rw [show i=Dz v.natAbs by omega]
      exact Nat.lt_of_le_of_lt (Nat.div_le_self _ _) this
    rw [o3,Ay6,e]
  | succ k ih =>
    intro i F hi hF
    obtain ⟨F,rfl⟩:∃ G,F=G+1:=⟨F-1,by omega⟩
    have hlen:(digits i (v.natAbs / 2)++List.replicate (k+1) (0:Int)).length=i+(k+1):=by rw [List.length_append,Fv,List.length_replicate]
    have t0:decide ((i:Int)<((Ap v).length:Int))=true:=Ay7 (by rw [Ct]; omega)
    have t1:decide ((0:Int)≤(i:Int))=true:=Ay7 (by omega)
    have t2:decide ((i:Int)<((digits i (v.natAbs / 2)++List.replicate (k+1) (0:Int)).length:Int))=true:=Ay7 (by rw [hlen]; omega)
    have t3:decide (i<(digits i (v.natAbs / 2)++List.replicate (k+1) (0:Int)).length)=true:=Ay7 (by rw [hlen]; omega)
    have e0:Ab ((i:Int)+1)=((i+1:Nat):Int):=by rw [Am (by omega) (by omega)]; omega
    rw [Ai.Ie.Au,Aq,t0,o1,Ay8,t1,t2,t3,Azc]
    simp only [Ay6]
    rw [e0,Hw ia,Hw ia,D9]
    have ih:=ih (i+1) F (by omega) (by omega)
    rw [N5,Nat.div_div_eq_div_mul,Nat.mul_comm 2,← Nat.div_div_eq_div_mul] at ih
    rw [Oy,Nat.mul_comm 4294967296,← Nat.div_div_eq_div_mul,List.replicate_succ,Auk _ _ _ _ i (Fv _ _).symm]
    rw [List.append_assoc] at ih
    generalize v.natAbs / 2^(32*i)=x at *
    have e1:Int.tmod ((x / 4294967296%4294967296:Nat):Int) 2=((x / 4294967296%4294967296%2:Nat):Int):=Kd _ 2
    have e2:Bj (Bj (((x / 4294967296%4294967296%2:Nat):Int)*4294967296)+((x%4294967296:Nat):Int))=((x / 4294967296%4294967296%2*4294967296+x%4294967296:Nat):Int):=by
      rw [Dt (x:=((x / 4294967296%4294967296%2:Nat):Int)*4294967296) (by omega) (by omega),Dt (by omega) (by omega)]; omega
    have e3:Int.tdiv ((x / 4294967296%4294967296%2*4294967296+x%4294967296:Nat):Int) 2=(((x / 4294967296%4294967296%2*4294967296+x%4294967296) / 2:Nat):Int):=Ke _ 2
    have e4:(x / 4294967296%4294967296%2*4294967296+x%4294967296) / 2=x / 2%4294967296:=by omega
    rw [e1,e2,e3,e4,Dt (by omega) (by omega),Li (by omega) (by omega)]
    exact ih
theorem Ai.Ie.known:Ai.Ie.Kn:=Ai.Ie.Ac (.cons Ai.Made.known (.cons Ai.J9.known .nil)) fun n a hp=>by
  obtain ⟨v,rfl,rfl,hv⟩:=Ju hp
  refine ⟨Dz v.natAbs+1,Ai.Ie.out [.b (Bi v),.l (Ap v)],[],?_,Ad5⟩
  show _=some (DV.agg [.bool (Bi (Ld (wv (Bi v) (Ap v)) 1)),.ints .arg .u32 (Ap (Ld (wv (Bi v) (Ap v)) 1))])
  rw [Ai.Ie.ev,H5,Ct,Ay7 (by omega),Ay7 (by omega),Ay7 (by unfold Gu; omega),Azc,Azc,Ay6,Ay8]
  have h:=Al7 (Dz v.natAbs+1) hv (Dz v.natAbs) 0 (Dz v.natAbs+1) (by omega) (by omega)
  rw [digits,List.nil_append] at h
  exact h
def Ag3 (v:Int):Option DV:=some (.agg [.bool (Bi v),.ints .arg .u32 (Ap v)])
theorem U0 (v:Int):A6 (0:Int) ((Ap v).length:Int)=decide (v≠0):=by
  rw [Aq,Ct,decide_eq_decide]
  constructor
  · intro h e
    rw [e] at h
    exact absurd h (by decide)
  · intro h
    have:=Jr (n:=v.natAbs) (by omega)
    omega
theorem Aue (N:Nat):∀ (j F:Nat) (v:Int),j<F→j<2000000→Dz v.natAbs<268435456→Ai.Bt.L3 N F (-(j:Int)) (Bi v) (Ap v)=Ag3 (Ld v j):=by
  intro j
  induction j with
  | zero =>
    intro F v hF _ hv
    obtain ⟨F,rfl⟩:∃ G,F=G+1:=⟨F-1,by omega⟩
    rw [Ai.Bt.Adz,Aq,Azb (by omega),Bool.false_and,Aza,Aer]
    rfl
  | succ j ih =>
    intro F v hF hj hv
    obtain ⟨F,rfl⟩:∃ G,F=G+1:=⟨F-1,by omega⟩
    rw [Ai.Bt.Adz,Aq,Ay7 (by omega),Bool.true_and,U0]
    by_cases h0:v=0
    · rw [Azb (by omega),Aza,h0,Rx]
      rfl
    · rw [Ay7 h0,Ay6,Jx hv,Ay6,H5,Am (by omega) (by omega)]
      have e:-((j+1:Nat):Int)+1=-(j:Int):=by omega
      have hl:Dz (Ld v 1).natAbs<268435456:=by
        rw [Mh]
        exact Nat.lt_of_le_of_lt (M3 (Nat.div_le_self _ _)) hv
      rw [e,ih F (Ld v 1) (by omega) (by omega) hl,Aci,Nat.add_comm]
theorem Ai0 (v:Int):wv (Bi v) ((Ap v).drop 1)=Ld v 32:=by
  unfold wv Ld
  rw [Akm (Hg v),D9,two32]
theorem Auf (N:Nat):∀ (F j:Nat) (v:Int),j<F→j<N→j<2000000→Dz v.natAbs<268435456→Ai.Bt.L2 N F (-(j:Int)) (Bi v) (Ap v)=Ag3 (Ld v j):=by
  intro F
  induction F with
  | zero=>intro j v h; omega
  | succ F ih =>
    intro j v hF hN hj hv
    rw [Ai.Bt.Fp,Ev,U0]
    by_cases hc:32≤j∧v≠0
    · have o3:H4 ((Ap v).drop 1)=true:=Oc (by rw [List.length_drop,Ct]; omega) (Af1 (Hg v))
      have t1:decide ((1:Int)≤((Ap v).length:Int))=true:=Ay7 (by
        rw [Ct]
        have:=Jr (n:=v.natAbs) (by omega)
        omega)
      have hl:Dz (Ld v 32).natAbs<268435456:=by
        rw [Mh]
        exact Nat.lt_of_le_of_lt (M3 (Nat.div_le_self _ _)) hv
      rw [Ay7 (by omega),Ay7 hc.2,Azc,Ay6,t1,Ay6,o3,Ay6,Ai0,Am (by omega) (by omega)]
      have e:-(j:Int)+32=-((j-32:Nat):Int):=by omega
      rw [e,ih (j-32) (Ld v 32) (by omega) (by omega) (by omega) hl,Aci]
      congr 2
      omega
    · have:(decide (-(j:Int)≤-32)&&decide (v≠0))=false:=by
        rw [Bool.and_eq_false_iff,Azp,Azp]
        omega
      rw [this,Aza]
      exact Aue N j N v hN hj hv
theorem Wo (N F:Nat) {k:Int} (hk:0≤k) (hN:0<N) (v:Int):Ai.Bt.L2 N (F+1) k (Bi v) (Ap v)=Ag3 v:=by
  obtain ⟨M,rfl⟩:∃ M,N=M+1:=⟨N-1,by omega⟩
  rw [Ai.Bt.Fp,Ev,Azb (by omega),Bool.false_and,Aza,Ai.Bt.Adz,Aq,Azb (by omega),Bool.false_and,Aza]
  rfl
theorem Aug (N:Nat) (hN:0<N):∀ (j F:Nat) (v:Int),j<F→j<2000000→Dz v.natAbs+j<268435456→Ai.Bt.L1 N F (j:Int) (Bi v) (Ap v)=Ag3 (v*((2^j:Nat):Int)):=by
  obtain ⟨M,rfl⟩:∃ M,N=M+1:=⟨N-1,by omega⟩
  intro j
  induction j with
  | zero =>
    intro F v hF _ hv
    obtain ⟨F,rfl⟩:∃ G,F=G+1:=⟨F-1,by omega⟩
    rw [Ai.Bt.B2,Aq,Azb (by omega),Bool.false_and,Aza,Wo _ _ (by omega) (by omega),Nat.pow_zero]
    congr 1
    omega
  | succ j ih =>
    intro F v hF hj hv
    obtain ⟨F,rfl⟩:∃ G,F=G+1:=⟨F-1,by omega⟩
    rw [Ai.Bt.B2,Aq,Ay7 (by omega),Bool.true_and,U0]
    by_cases h0:v=0
    · rw [Azb (by omega),Aza,h0,Int.zero_mul,Wo _ _ (by omega) (by omega)]
    · have hl:=Ao8 v.natAbs
      have e2:(2*v).natAbs=2*v.natAbs:=by omega
      have e:((j+1:Nat):Int)-1=(j:Int):=by omega
      rw [Ay7 h0,Ay6,Jx (by omega),Ay6,H5,Am (by omega) (by omega),e,ih F (2*v) (by omega) (by omega) (by rw [e2]; omega)]
      congr 1
      rw [Nat.pow_succ,Azr,Int.mul_comm 2 v,Int.mul_assoc,Int.mul_comm ((2^j:Nat):Int)]
      rfl
theorem Avi (v:Int):wv (Bi v) ([(0:Int)]++Ap v)=v*((2^32:Nat):Int):=by
  have e:Cr ([(0:Int)]++Ap v)=4294967296*v.natAbs:=by
    show Cr (0::Ap v)=_
    rw [Cr,D9]
    exact Nat.zero_add _
  unfold wv
  rw [e,two32]
  by_cases h:v<0
  · rw [T8 h]; omega
  · rw [T7 h]; omega
theorem Auh (N:Nat):∀ (F j:Nat) (v:Int),j<F→j<N→j<2000000→Dz v.natAbs+j<268435456→Ai.Bt.L0 N F (j:Int) (Bi v) (Ap v)=Ag3 (v*((2^j:Nat):Int)):=by
  intro F
  induction F with
  | zero=>intro j v h; omega
  | succ F ih =>
    intro j v hF hN hj hv
    rw [Ai.Bt.Au,Ev,U0]
    by_cases hc:32≤j∧v≠0
    · have o3:H4 ([(0:Int)]++Ap v)=true:=Oc (by rw [List.length_append,Ct]; show 1+_<_; omega) (Api (Hg v))
      have t1:decide (1+(Ap v).length≤Gu)=true:=Ay7 (by rw [Ct]; unfold Gu; omega)
      have e2:(v*((2^32:Nat):Int)).natAbs=v.natAbs*4294967296:=by rw [Int.natAbs_mul,Int.natAbs_natCast,two32]
      have hl:=Asj v.natAbs
      rw [Ay7 (by omega),Ay7 hc.2,Azc,Ay6,t1,Ay6,o3,Ay6,Avi,Am (by omega) (by omega)]
      have e:(j:Int)-32=((j-32:Nat):Int):=by omega
      rw [e,ih (j-32) _ (by omega) (by omega) (by omega) (by rw [e2]; omega)]
      have e3:2^j=2^32*2^(j-32):=by rw [← Nat.pow_add]; congr 1; omega
      rw [e3,Azr,Int.mul_assoc]
    · have:(decide ((32:Int)≤(j:Int))&&decide (v≠0))=false:=by
        rw [Bool.and_eq_false_iff,Azp,Azp]
        omega
      rw [this,Aza]
      exact Aug N (by omega) j N v hN hj hv
theorem Ahg (N j:Nat) (v:Int) (hj:0<j) (hN:j<N) (hj2:j<2000000) (hv:Dz v.natAbs<268435456):Ai.Bt.L0 N N (-(j:Int)) (Bi v) (Ap v)=Ag3 (Ld v j):=by
  obtain ⟨M,rfl⟩:∃ M,N=M+1:=⟨N-1,by omega⟩
  rw [Ai.Bt.Au,Ev,Azb (by omega),Bool.false_and,Aza,Ai.Bt.B2,Aq,Azb (by omega),Bool.false_and,Aza]
  exact Auf _ _ j v hN hN hj2 hv
theorem Ai.Bt.known:Ai.Bt.Kn:=Ai.Bt.Ac (.cons Ai.Gi.known (.cons Ai.Ie.known (.cons Ai.Made.known .nil))) fun n a k hp=>by
  obtain ⟨h1,h2⟩:=Ad.1 hp
  obtain ⟨v,rfl,rfl,hv⟩:=Py h1
  have h2:=Aw.1 h2
  refine ⟨k.natAbs+1,Ai.Bt.out [.b (Bi v),.l (Ap v),.i k],[],?_,Ad5⟩
  show _=some (DV.agg [.bool (Bi (Ha (wv (Bi v) (Ap v)) k)),.ints .arg .u32 (Ap (Ha (wv (Bi v) (Ap v)) k))])
  rw [Ai.Bt.ev,H5]
  unfold Ha
  by_cases h:0≤k
  · obtain ⟨j,rfl⟩:∃ j:Nat,k=j:=⟨k.toNat,by omega⟩
    rw [if_pos h,Ay8,Int.natAbs_natCast]
    exact Auh _ _ j v (by omega) (by omega) (by omega) (by omega)
  · obtain ⟨j,rfl⟩:∃ j:Nat,k=-(j:Int):=⟨(-k).toNat,by omega⟩
    have e:(-(-(j:Int))).toNat=j:=by omega
    rw [if_neg h,e,Int.natAbs_neg,Int.natAbs_natCast]
    exact Ahg _ j v (by omega) (by omega) (by omega) (by omega)
open EqRefB
theorem Al2 {t:Nat} (h:2≤t):(t / 2).log2+1=t.log2:=by
  have:=Afl (n:=t) (m:=1) (by omega)
  rw [Nat.pow_one] at this
  exact this
theorem Ao7 (N:Nat):∀ (F:Nat) (t:Nat) (p:Int),t<2^32→0<t→t.log2+1<F→-1000≤p→p+t.log2<4611686018427387904 →
    Ai.Rn.L0 N F p (t:Int)=some (.int .i64 (p+t.log2+1)):=by
  intro F
  induction F with
  | zero=>intro t p _ _ h; omega
  | succ F ih =>
    intro t p ht h0 hF hp1 hp2
    have e2:Int.tdiv (t:Int) 2=((t / 2:Nat):Int):=Ke t 2
    rw [two32] at ht
    rw [Ai.Rn.Au,Aq,Ay7 (by omega),Ay6,e2,Li (by omega) (by omega),Am (by omega) (by omega)]
    by_cases h1:t=1
    · subst h1
      obtain ⟨G,rfl⟩:∃ G,F=G+1:=⟨F-1,by omega⟩
      rw [Ai.Rn.Au,Aq,Azb (by decide),Aza]
      have:(1:Nat).log2=0:=by decide
      rw [this]
      congr 2
      omega
    · have hl:=Al2 (t:=t) (by omega)
      rw [ih (t / 2) (p+1) (by rw [two32]; omega) (by omega) (by omega) (by omega) (by omega)]
      congr 2
      omega
theorem Ai.Rn.known:Ai.Rn.Kn:=Ai.Rn.Ac .nil fun n a hp=>by
  obtain ⟨v,rfl,rfl,hv⟩:=Ju hp
  refine ⟨40,Ai.Rn.out [.b (Bi v),.l (Ap v)],[],?_,.int⟩
  show _=some (DV.int .i64 (Y4 (wv (Bi v) (Ap v))))
  rw [Ai.Rn.ev,H5,Ct]
  unfold Y4
  by_cases h0:v=0
  · rw [if_pos h0,h0]; rfl
  · have hn:v.natAbs≠0:=by omega
    have hl:=Jr hn
    have e0:((Dz v.natAbs:Int)==0)=false:=by simp only [beq_eq_false_iff_ne,ne_eq]; omega
    have e1:(Dz v.natAbs:Int)-1=((Dz v.natAbs-1:Nat):Int):=by omega
    have hlen:Dz v.natAbs=v.natAbs.log2 / 32+1:=by unfold Dz; rw [if_neg hn]
    have hge:2^(32*(Dz v.natAbs-1))≤v.natAbs:=Nat.le_trans (Azl (by decide) (by omega)) (Nat.log2_self_le hn)
    have hq:v.natAbs / 2^(32*(Dz v.natAbs-1))<2^32:=by
      rw [Nat.div_lt_iff_lt_mul (Cn _),← Nat.pow_add]
      have:=Mo v.natAbs
      have e:32+32*(Dz v.natAbs-1)=32*Dz v.natAbs:=by omega
      rw [e]; exact this
    have hlog:=Afl hge
    have hg:=R9 (Hg v) (Dz v.natAbs-1)
    have hq':=hq
    rw [two32] at hq'
    rw [D9,Azj hq'] at hg
    have hpos:=Nat.div_pos hge (Cn _)
    have h32:(v.natAbs / 2^(32*(Dz v.natAbs-1))).log2<32:=(Nat.log2_lt (by omega)).2 hq
    rw [if_neg h0,e0,Aza,Am (by omega) (by omega),e1,Ay7 (by omega),Ay7 (by omega),Azc,Ay6,Ay8,hg,Am (by omega) (by omega)]
    rw [Ao7 40 40 _ _ hq hpos (by omega) (by omega) (by omega)]
    congr 2
    omega
theorem Ai.Xq.known:Ai.Xq.Kn:=Ai.Xq.Ac .nil fun n a hp=>by
  obtain ⟨v,rfl,rfl,hv⟩:=Ju hp
  refine ⟨0,Ai.Xq.out [.b (Bi v),.l (Ap v)],[],?_,.bool⟩
  show _=some (DV.bool (Alh (wv (Bi v) (Ap v))))
  rw [Ai.Xq.ev,H5,U0]
  have hg:=R9 (Hg v) 0
  rw [D9,Nat.mul_zero,Nat.pow_zero,Nat.div_one] at hg
  have e2:Int.tmod ((v.natAbs%4294967296:Nat):Int) 2=((v.natAbs%4294967296%2:Nat):Int):=Kd _ 2
  unfold Alh
  by_cases h0:v=0
  · rw [h0]; rfl
  · have hl:=Jr (n:=v.natAbs) (by omega)
    rw [hg,e2,Ay7 h0,Ct,Ay7 (by omega),Bool.or_true,Ay6,Ay6]
    congr 2
    rw [Azm]
    simp only [beq_iff_eq,Azd]
    omega
namespace EqRefC
def Az.Of.hint:Nat→Option Bb
  | 0=>some { keep:=[1,2,4],objs:=[],boxes:=[2,4] }
  | 2=>some { keep:=[1,2,4],objs:=[],boxes:=[2,4] }
  | _=>none
def Az.Of.A8:List (Nat × Entry):=[(173,Ai.Ie.spec),(171,Ai.Made.spec),(172,Ai.Xq.spec)]
def Az.Of.E:Env:=A9 (A7 Az.Of.A8) (fun _=>false) Az.Of.hint (fun _=>none)
def Az.Of.L0 (N M:Nat) (p1:Int) (p2:Bool) (p2_1:List Int):Option DV:=Bv Az.Of.E N Tryz.f109 (Al Tryz.f109) [1,1,0,0] [] M ⟨Ft 33 [(1,.int .i64 p1),(2,.ptr 2 0 0),(4,.ptr 4 0 0)],[(2,false,.box [.bool p2,.ints .arg .u32 p2_1]),(4,false,.box [.bool false,.nil,.int .i64 0])]⟩
def Az.Of.L1 (N M:Nat) (p1_1:Int) (p2_2:Bool) (p2_3:List Int):Option DV:=Bv Az.Of.E N Tryz.f109 (Al Tryz.f109) [1,1,1,0,0] [] M ⟨Ft 33 [(1,.int .i64 p1_1),(2,.ptr 2 0 0),(4,.ptr 4 0 0)],[(2,false,.box [.bool p2_2,.ints .arg .u32 p2_3]),(4,false,.box [.bool false,.nil,.int .i64 0])]⟩
theorem Az.Of.Au (N M:Nat) (p1:Int) (p2:Bool) (p2_1:List Int):Az.Of.L0 N (M+1) p1 p2 p2_1=bif (decide ((0:Int)<(List.length p2_1:Int))) then bif ((List.getD p2_1 0 0)==(0:Int)) then bif (decide ((1:Int)≤(List.length p2_1:Int))) then bif (H4 (List.drop 1 p2_1)) then Az.Of.L0 N M (Ab (p1+32)) (Bi (wv p2 (List.drop 1 p2_1))) (Ap (wv p2 (List.drop 1 p2_1))) else none else none else Az.Of.L1 N N p1 p2 p2_1 else none :=
  Eq.trans (by kernel_rfl)
  (Ea (Ea (Cq (Av8 (decide ((1:Int)≤(List.length p2_1:Int)))) (Cq (Ci (H4 (List.drop 1 p2_1))) rfl rfl) rfl) rfl) rfl)
theorem Az.Of.B2 (N M:Nat) (p1_1:Int) (p2_2:Bool) (p2_3:List Int):Az.Of.L1 N (M+1) p1_1 p2_2 p2_3=bif (Jy p2_2 p2_3) then bif (!(Alh (wv p2_2 p2_3))) then bif (Jy p2_2 p2_3) then Az.Of.L1 N M (Ab (p1_1+1)) (Bi (Ld (wv p2_2 p2_3) 1)) (Ap (Ld (wv p2_2 p2_3) 1)) else none else some (.agg [.bool p2_2,.ints .arg .u32 p2_3,.int .i64 p1_1]) else none:=by kernel_rfl
theorem Az.Of.ev (N:Nat) (n:Bool) (a:List Int) (e:Int):Bp Az.Of.E N Tryz.f109 (Al Tryz.f109) [.agg [.bool n,.ints .arg .u32 a],.int .i64 e]=bif ((List.length a:Int)==(0:Int)) then some (.agg [.bool false,.nil,.int .i64 0]) else Az.Of.L0 N N e n a:=by kernel_rfl
abbrev _root_.Go.Proofs.S1.Az.Of.Kn:=A5 Tryz.prog 109 Az.Of.spec
theorem Az.Of.Ac (hk:Ay Tryz.prog Az.Of.A8) (h:∀ (n:Bool) (a:List Int) (e:Int),Az.Of.pre [.b n,.l a,.i e]=true→Ba Az.Of.E Tryz.f109 [.agg [.bool n,.ints .arg .u32 a],.int .i64 e] (Az.Of.out [.b n,.l a,.i e])):Az.Of.Kn :=
  Aj (A1 hk _ _ _) Tryz.func109 (by kernel_rfl) (by kernel_rfl) h
def Az.Neg.A8:List (Nat × Entry):=[(143,Ai.Neg.spec)]
def Az.Neg.E:Env:=A9 (A7 Az.Neg.A8) (fun _=>false) (fun _=>none) (fun _=>none)
theorem Az.Neg.ev (N:Nat) (n:Bool) (a:List Int) (e:Int):Bp Az.Neg.E N Tryz.f170 (Al Tryz.f170) [.agg [.bool n,.ints .arg .u32 a,.int .i64 e]]=bif (Jy n a) then some (.agg [.bool (Bi (- wv n a)),.ints .arg .u32 (Ap (- wv n a)),.int .i64 e]) else none :=
  Eq.trans (by kernel_rfl)
  (Cq (Ci (Jy n a)) rfl rfl)
abbrev _root_.Go.Proofs.S1.Az.Neg.Kn:=A5 Tryz.prog 170 Az.Neg.spec
theorem Az.Neg.Ac (hk:Ay Tryz.prog Az.Neg.A8) (h:∀ (n:Bool) (a:List Int) (e:Int),Az.Neg.pre [.b n,.l a,.i e]=true→Ba Az.Neg.E Tryz.f170 [.agg [.bool n,.ints .arg .u32 a,.int .i64 e]] (Az.Neg.out [.b n,.l a,.i e])):Az.Neg.Kn :=
  Aj (A1 hk _ _ _) Tryz.func170 (by kernel_rfl) (by kernel_rfl) h
def Az.Xr.A8:List (Nat × Entry):=[]
def Az.Xr.E:Env:=A9 (A7 Az.Xr.A8) (fun _=>false) (fun _=>none) (fun _=>none)
theorem Az.Xr.ev (N:Nat) (n:Bool) (a:List Int) (e:Int) (m:Bool) (b:List Int) (f:Int):Bp Az.Xr.E N Tryz.f111 (Al Tryz.f111) [.agg [.bool n,.ints .arg .u32 a,.int .i64 e],.agg [.bool m,.ints .arg .u32 b,.int .i64 f]]=bif ((List.length a:Int)==(0:Int)) then some (.int .i64 f) else bif ((List.length b:Int)==(0:Int)) then some (.int .i64 e) else some (.int .i64 (min e f)):=by kernel_rfl
abbrev _root_.Go.Proofs.S1.Az.Xr.Kn:=A5 Tryz.prog 111 Az.Xr.spec
theorem Az.Xr.Ac (hk:Ay Tryz.prog Az.Xr.A8) (h:∀ (n:Bool) (a:List Int) (e:Int) (m:Bool) (b:List Int) (f:Int),Az.Xr.pre [.b n,.l a,.i e,.b m,.l b,.i f]=true→Ba Az.Xr.E Tryz.f111 [.agg [.bool n,.ints .arg .u32 a,.int .i64 e],.agg [.bool m,.ints .arg .u32 b,.int .i64 f]] (Az.Xr.out [.b n,.l a,.i e,.b m,.l b,.i f])):Az.Xr.Kn :=
  Aj (A1 hk _ _ _) Tryz.func111 (by kernel_rfl) (by kernel_rfl) h
def Az.Level.A8:List (Nat × Entry):=[(178,Ai.Bt.spec)]
def Az.Level.E:Env:=A9 (A7 Az.Level.A8) (fun _=>false) (fun _=>none) (fun _=>none)
theorem Az.Level.ev (N:Nat) (n:Bool) (a:List Int) (e f:Int):Bp Az.Level.E N Tryz.f113 (Al Tryz.f113) [.agg [.bool n,.ints .arg .u32 a,.int .i64 e],.int .i64 f]=bif ((List.length a:Int)==(0:Int)) then some (.agg [.bool n,.ints .arg .u32 a]) else bif (Xi n a&&Aur (Ab (e-f))) then some (.agg [.bool (Bi (Ha (wv n a) (Ab (e-f)))),.ints .arg .u32 (Ap (Ha (wv n a) (Ab (e-f))))]) else none:=by kernel_rfl
abbrev _root_.Go.Proofs.S1.Az.Level.Kn:=A5 Tryz.prog 113 Az.Level.spec
theorem Az.Level.Ac (hk:Ay Tryz.prog Az.Level.A8) (h:∀ (n:Bool) (a:List Int) (e f:Int),Az.Level.pre [.b n,.l a,.i e,.i f]=true→Ba Az.Level.E Tryz.f113 [.agg [.bool n,.ints .arg .u32 a,.int .i64 e],.int .i64 f] (Az.Level.out [.b n,.l a,.i e,.i f])):Az.Level.Kn :=
  Aj (A1 hk _ _ _) Tryz.func113 (by kernel_rfl) (by kernel_rfl) h
def Az.Add.A8:List (Nat × Entry):=[(112,Ai.Add.spec),(113,Az.Level.spec),(111,Az.Xr.spec),(109,Az.Of.spec)]
def Az.Add.E:Env:=A9 (A7 Az.Add.A8) (fun _=>false) (fun _=>none) (fun _=>none)
theorem Az.Add.ev (N:Nat) (n:Bool) (a:List Int) (e:Int) (m:Bool) (b:List Int) (f:Int):Bp Az.Add.E N Tryz.f42 (Al Tryz.f42) [.agg [.bool n,.ints .arg .u32 a,.int .i64 e],.agg [.bool m,.ints .arg .u32 b,.int .i64 f]]=bif (Jy n a&&Jy m b) then bif (Xi n a&&Afb (wv n a) e (C4 (wv n a) e (wv m b) f)) then bif (Xi m b&&Afb (wv m b) f (C4 (wv n a) e (wv m b) f)) then bif (Jy (Bi (Ha (wv n a) (e-(C4 (wv n a) e (wv m b) f)))) (Ap (Ha (wv n a) (e-(C4 (wv n a) e (wv m b) f))))&&Jy (Bi (Ha (wv m b) (f-(C4 (wv n a) e (wv m b) f)))) (Ap (Ha (wv m b) (f-(C4 (wv n a) e (wv m b) f))))) then bif (Jy (Bi (wv (Bi (Ha (wv n a) (e-(C4 (wv n a) e (wv m b) f)))) (Ap (Ha (wv n a) (e-(C4 (wv n a) e (wv m b) f))))+wv (Bi (Ha (wv m b) (f-(C4 (wv n a) e (wv m b) f)))) (Ap (Ha (wv m b) (f-(C4 (wv n a) e (wv m b) f)))))) (Ap (wv (Bi (Ha (wv n a) (e-(C4 (wv n a) e (wv m b) f)))) (Ap (Ha (wv n a) (e-(C4 (wv n a) e (wv m b) f))))+wv (Bi (Ha (wv m b) (f-(C4 (wv n a) e (wv m b) f)))) (Ap (Ha (wv m b) (f-(C4 (wv n a) e (wv m b) f))))))&&Aaf (C4 (wv n a) e (wv m b) f)) then some (.agg [.bool (Bi (mD (wv (Bi (wv (Bi (Ha (wv n a) (e-(C4 (wv n a) e (wv m b) f)))) (Ap (Ha (wv n a) (e-(C4 (wv n a) e (wv m b) f))))+wv (Bi (Ha (wv m b) (f-(C4 (wv n a) e (wv m b) f)))) (Ap (Ha (wv m b) (f-(C4 (wv n a) e (wv m b) f)))))) (Ap (wv (Bi (Ha (wv n a) (e-(C4 (wv n a) e (wv m b) f)))) (Ap (Ha (wv n a) (e-(C4 (wv n a) e (wv m b) f))))+wv (Bi (Ha (wv m b) (f-(C4 (wv n a) e (wv m b) f)))) (Ap (Ha (wv m b) (f-(C4 (wv n a) e (wv m b) f))))))))),.ints .arg .u32 (Ap (mD (wv (Bi (wv (Bi (Ha (wv n a) (e-(C4 (wv n a) e (wv m b) f)))) (Ap (Ha (wv n a) (e-(C4 (wv n a) e (wv m b) f))))+wv (Bi (Ha (wv m b) (f-(C4 (wv n a) e (wv m b) f)))) (Ap (Ha (wv m b) (f-(C4 (wv n a) e (wv m b) f)))))) (Ap (wv (Bi (Ha (wv n a) (e-(C4 (wv n a) e (wv m b) f)))) (Ap (Ha (wv n a) (e-(C4 (wv n a) e (wv m b) f))))+wv (Bi (Ha (wv m b) (f-(C4 (wv n a) e (wv m b) f)))) (Ap (Ha (wv m b) (f-(C4 (wv n a) e (wv m b) f))))))))),.int .i64 (eD (wv (Bi (wv (Bi (Ha (wv n a) (e-(C4 (wv n a) e (wv m b) f)))) (Ap (Ha (wv n a) (e-(C4 (wv n a) e (wv m b) f))))+wv (Bi (Ha (wv m b) (f-(C4 (wv n a) e (wv m b) f)))) (Ap (Ha (wv m b) (f-(C4 (wv n a) e (wv m b) f)))))) (Ap (wv (Bi (Ha (wv n a) (e-(C4 (wv n a) e (wv m b) f)))) (Ap (Ha (wv n a) (e-(C4 (wv n a) e (wv m b) f))))+wv (Bi (Ha (wv m b) (f-(C4 (wv n a) e (wv m b) f)))) (Ap (Ha (wv m b) (f-(C4 (wv n a) e (wv m b) f))))))) (C4 (wv n a) e (wv m b) f))]) else none else none else none else none else none :=
  Eq.trans (by kernel_rfl)
  (Ea (Cq (Ci (Xi n a&&Afb (wv n a) e (C4 (wv n a) e (wv m b) f))) (Cq (Ci (Xi m b&&Afb (wv m b) f (C4 (wv n a) e (wv m b) f))) (Cq (Ci (Jy (Bi (Ha (wv n a) (e-(C4 (wv n a) e (wv m b) f)))) (Ap (Ha (wv n a) (e-(C4 (wv n a) e (wv m b) f))))&&Jy (Bi (Ha (wv m b) (f-(C4 (wv n a) e (wv m b) f)))) (Ap (Ha (wv m b) (f-(C4 (wv n a) e (wv m b) f)))))) (Cq (Ci (Jy (Bi (wv (Bi (Ha (wv n a) (e-(C4 (wv n a) e (wv m b) f)))) (Ap (Ha (wv n a) (e-(C4 (wv n a) e (wv m b) f))))+wv (Bi (Ha (wv m b) (f-(C4 (wv n a) e (wv m b) f)))) (Ap (Ha (wv m b) (f-(C4 (wv n a) e (wv m b) f)))))) (Ap (wv (Bi (Ha (wv n a) (e-(C4 (wv n a) e (wv m b) f)))) (Ap (Ha (wv n a) (e-(C4 (wv n a) e (wv m b) f))))+wv (Bi (Ha (wv m b) (f-(C4 (wv n a) e (wv m b) f)))) (Ap (Ha (wv m b) (f-(C4 (wv n a) e (wv m b) f))))))&&Aaf (C4 (wv n a) e (wv m b) f))) rfl rfl) rfl) rfl) rfl) rfl)
abbrev _root_.Go.Proofs.S1.Az.Add.Kn:=A5 Tryz.prog 42 Az.Add.spec
theorem Az.Add.Ac (hk:Ay Tryz.prog Az.Add.A8) (h:∀ (n:Bool) (a:List Int) (e:Int) (m:Bool) (b:List Int) (f:Int),Az.Add.pre [.b n,.l a,.i e,.b m,.l b,.i f]=true→Ba Az.Add.E Tryz.f42 [.agg [.bool n,.ints .arg .u32 a,.int .i64 e],.agg [.bool m,.ints .arg .u32 b,.int .i64 f]] (Az.Add.out [.b n,.l a,.i e,.b m,.l b,.i f])):Az.Add.Kn :=
  Aj (A1 hk _ _ _) Tryz.func42 (by kernel_rfl) (by kernel_rfl) h
def Az.Sub.A8:List (Nat × Entry):=[(42,Az.Add.spec),(170,Az.Neg.spec)]
def Az.Sub.E:Env:=A9 (A7 Az.Sub.A8) (fun _=>false) (fun _=>none) (fun _=>none)
theorem Az.Sub.ev (N:Nat) (n:Bool) (a:List Int) (e:Int) (m:Bool) (b:List Int) (f:Int):Bp Az.Sub.E N Tryz.f105 (Al Tryz.f105) [.agg [.bool n,.ints .arg .u32 a,.int .i64 e],.agg [.bool m,.ints .arg .u32 b,.int .i64 f]]=bif (Jy m b) then bif (((Xi n a&&Xi (Bi (- wv m b)) (Ap (- wv m b)))&&W7 e)&&W7 f) then some (.agg [.bool (Bi (Rk (wv n a) e (wv (Bi (- wv m b)) (Ap (- wv m b))) f)),.ints .arg .u32 (Ap (Rk (wv n a) e (wv (Bi (- wv m b)) (Ap (- wv m b))) f)),.int .i64 (Aqp (wv n a) e (wv (Bi (- wv m b)) (Ap (- wv m b))) f)]) else none else none :=
  Eq.trans (by kernel_rfl)
  (Cq (Ci (Jy m b)) (Cq (Ci (((Xi n a&&Xi (Bi (- wv m b)) (Ap (- wv m b)))&&W7 e)&&W7 f)) rfl rfl) rfl)
abbrev _root_.Go.Proofs.S1.Az.Sub.Kn:=A5 Tryz.prog 105 Az.Sub.spec
theorem Az.Sub.Ac (hk:Ay Tryz.prog Az.Sub.A8) (h:∀ (n:Bool) (a:List Int) (e:Int) (m:Bool) (b:List Int) (f:Int),Az.Sub.pre [.b n,.l a,.i e,.b m,.l b,.i f]=true→Ba Az.Sub.E Tryz.f105 [.agg [.bool n,.ints .arg .u32 a,.int .i64 e],.agg [.bool m,.ints .arg .u32 b,.int .i64 f]] (Az.Sub.out [.b n,.l a,.i e,.b m,.l b,.i f])):Az.Sub.Kn :=
  Aj (A1 hk _ _ _) Tryz.func105 (by kernel_rfl) (by kernel_rfl) h
def Az.W5.A8:List (Nat × Entry):=[(223,Ai.Rn.spec)]
def Az.W5.E:Env:=A9 (A7 Az.W5.A8) (fun _=>false) (fun _=>none) (fun _=>none)
theorem Az.W5.ev (N:Nat) (n:Bool) (a:List Int) (e:Int):Bp Az.W5.E N Tryz.f180 (Al Tryz.f180) [.agg [.bool n,.ints .arg .u32 a,.int .i64 e]]=bif ((List.length a:Int)==(0:Int)) then some (.int .i64 0) else bif (Jy n a) then some (.int .i64 (Ab ((Y4 (wv n a))+e))) else none :=
  Eq.trans (by kernel_rfl)
  (Ea rfl (Cq (Ci (Jy n a)) rfl rfl))
abbrev _root_.Go.Proofs.S1.Az.W5.Kn:=A5 Tryz.prog 180 Az.W5.spec
theorem Az.W5.Ac (hk:Ay Tryz.prog Az.W5.A8) (h:∀ (n:Bool) (a:List Int) (e:Int),Az.W5.pre [.b n,.l a,.i e]=true→Ba Az.W5.E Tryz.f180 [.agg [.bool n,.ints .arg .u32 a,.int .i64 e]] (Az.W5.out [.b n,.l a,.i e])):Az.W5.Kn :=
  Aj (A1 hk _ _ _) Tryz.func180 (by kernel_rfl) (by kernel_rfl) h
def Az.Sign.A8:List (Nat × Entry):=[]
def Az.Sign.E:Env:=A9 (A7 Az.Sign.A8) (fun _=>false) (fun _=>none) (fun _=>none)
theorem Az.Sign.ev (N:Nat) (n:Bool) (a:List Int) (e:Int):Bp Az.Sign.E N Tryz.f179 (Al Tryz.f179) [.agg [.bool n,.ints .arg .u32 a,.int .i64 e]]=bif n then some (.int .i64 (-1:Int)) else some (.int .i64 (min (List.length a:Int) 1)):=by kernel_rfl
abbrev _root_.Go.Proofs.S1.Az.Sign.Kn:=A5 Tryz.prog 179 Az.Sign.spec
theorem Az.Sign.Ac (hk:Ay Tryz.prog Az.Sign.A8) (h:∀ (n:Bool) (a:List Int) (e:Int),Az.Sign.pre [.b n,.l a,.i e]=true→Ba Az.Sign.E Tryz.f179 [.agg [.bool n,.ints .arg .u32 a,.int .i64 e]] (Az.Sign.out [.b n,.l a,.i e])):Az.Sign.Kn :=
  Aj (A1 hk _ _ _) Tryz.func179 (by kernel_rfl) (by kernel_rfl) h
def Az.Compare.A8:List (Nat × Entry):=[(179,Az.Sign.spec),(105,Az.Sub.spec),(180,Az.W5.spec)]
def Az.Compare.E:Env:=A9 (A7 Az.Compare.A8) (fun _=>false) (fun _=>none) (fun _=>none)
theorem Az.Compare.ev (N:Nat) (n:Bool) (a:List Int) (e:Int) (m:Bool) (b:List Int) (f:Int):Bp Az.Compare.E N Tryz.f116 (Al Tryz.f116) [.agg [.bool n,.ints .arg .u32 a,.int .i64 e],.agg [.bool m,.ints .arg .u32 b,.int .i64 f]]=bif (Jy n a) then bif (Jy m b) then bif ((Nq (wv n a)) !=(Nq (wv m b))) then bif (Jy n a) then bif (Jy m b) then some (.int .i64 (min 1 (max (-1:Int) (Ab ((Nq (wv n a))-(Nq (wv m b))))))) else none else none else bif (Jy n a&&W7 e) then bif (Jy m b&&W7 f) then bif ((Iz (wv n a) e) !=(Iz (wv m b) f)) then bif (Jy n a&&W7 e) then bif (Jy m b&&W7 f) then bif (Jy n a) then bif ((A6 (Iz (wv m b) f) (Iz (wv n a) e))==(A6 0 (Nq (wv n a)))) then some (.int .i64 1) else some (.int .i64 (-1:Int)) else none else none else none else bif (((Xi n a&&Xi m b)&&W7 e)&&W7 f) then bif (Jy (Bi (Rk (wv n a) e (- wv m b) f)) (Ap (Rk (wv n a) e (- wv m b) f))) then some (.int .i64 (Nq (wv (Bi (Rk (wv n a) e (- wv m b) f)) (Ap (Rk (wv n a) e (- wv m b) f))))) else none else none else none else none else none else none :=
  Eq.trans (by kernel_rfl)
  (Cq (Ci (Jy n a)) (Cq (Ci (Jy m b)) (Ea (Cq (Ci (Jy n a)) (Cq (Ci (Jy m b)) rfl rfl) rfl) (Cq (Ci (Jy n a&&W7 e)) (Cq (Ci (Jy m b&&W7 f)) (Ea (Cq (Ci (Jy n a&&W7 e)) (Cq (Ci (Jy m b&&W7 f)) (Cq (Ci (Jy n a)) rfl rfl) rfl) rfl) rfl) rfl) rfl)) rfl) rfl)
abbrev _root_.Go.Proofs.S1.Az.Compare.Kn:=A5 Tryz.prog 116 Az.Compare.spec
theorem Az.Compare.Ac (hk:Ay Tryz.prog Az.Compare.A8) (h:∀ (n:Bool) (a:List Int) (e:Int) (m:Bool) (b:List Int) (f:Int),Az.Compare.pre [.b n,.l a,.i e,.b m,.l b,.i f]=true→Ba Az.Compare.E Tryz.f116 [.agg [.bool n,.ints .arg .u32 a,.int .i64 e],.agg [.bool m,.ints .arg .u32 b,.int .i64 f]] (Az.Compare.out [.b n,.l a,.i e,.b m,.l b,.i f])):Az.Compare.Kn :=
  Aj (A1 hk _ _ _) Tryz.func116 (by kernel_rfl) (by kernel_rfl) h
end EqRefC
open EqRefC
def Amh (v e:Int):Option DV:=some (.agg [.bool (Bi v),.ints .arg .u32 (Ap v),.int .i64 e])
theorem wdy {drops:List Nat} {b:Bool} {l:List Int} {e:Int}:Wk drops (.agg [.bool b,.ints .arg .u32 l,.int .i64 e]) (.agg [.bool b,.ints .arg .u32 l,.int .i64 e]):=Wk.G2 (.cons .bool (.cons .Rh (.cons .int .nil)))
theorem Apl (v:Int):(Ap v).getD 0 0=((v.natAbs%4294967296:Nat):Int):=by
  have hg:=R9 (Hg v) 0
  rw [D9,Nat.mul_zero,Nat.pow_zero,Nat.div_one] at hg
  exact hg
theorem Ajc {v:Int} {k:Nat} (h:Dz v.natAbs<268435456):Dz (Ld v k).natAbs<268435456:=by
  rw [Mh]
  exact Nat.lt_of_le_of_lt (M3 (Nat.div_le_self _ _)) h
theorem Ant {v:Int} {k:Nat} (h0:v≠0) (h:v.natAbs%2^k=0):Ld v k≠0∧Si (Ld v k).natAbs+k=Si v.natAbs:=by
  have hv:=Nat.div_add_mod v.natAbs (2^k)
  rw [h,Nat.add_zero,Nat.mul_comm] at hv
  have hq:v.natAbs / 2^k≠0:=by
    intro e; rw [e] at hv; omega
  have ht:=Ab3 hq k
  rw [hv] at ht
  have ha:=Mh v k
  refine ⟨by omega,?_⟩
  rw [ha]
  omega
theorem Aoh (N:Nat):∀ (F:Nat) (v e:Int),v≠0→Si v.natAbs<F→Dz v.natAbs<268435456→-4000000000000≤e→e+Si v.natAbs≤400000000000000 →
    Az.Of.L1 N F e (Bi v) (Ap v)=Amh (mD v) (eD v e):=by
  intro F
  induction F with
  | zero=>intro v e _ h; omega
  | succ F ih =>
    intro v e h0 hF hv h1 h2
    rw [Az.Of.B2,Jx hv,Ay6,H5]
    by_cases ho:v%2=1
    · have:Alh v=true:=Ay7 ho
      rw [this,Bool.not_true,Aza,Auv ho,Au4 ho]
      rfl
    · have:Alh v=false:=Azb ho
      have hm:v.natAbs%2^1=0:=by rw [Nat.pow_one]; omega
      obtain ⟨n1,n2⟩:=Ant h0 hm
      rw [this,Bool.not_false,Ay6,Ay6,Am (by omega) (by omega),ih (Ld v 1) (e+1) n1 (by omega) (Ajc hv) (by omega) (by omega),Aoy hm]
      have:=Apz (e:=e) hm h0
      rw [← this]
      rfl
theorem Aoi (N:Nat):∀ (F:Nat) (v e:Int),v≠0→Si v.natAbs<F→Si v.natAbs<N→Dz v.natAbs<268435456→-4000000000000≤e→e+Si v.natAbs≤400000000000000 →
    Az.Of.L0 N F e (Bi v) (Ap v)=Amh (mD v) (eD v e):=by
  intro F
  induction F with
  | zero=>intro v e _ h; omega
  | succ F ih =>
    intro v e h0 hF hN hv h1 h2
    have hl:=Jr (n:=v.natAbs) (by omega)
    rw [Az.Of.Au,Ct,Ay7 (by omega),Ay6,Apl]
    by_cases hz:v.natAbs%4294967296=0
    · have e0:(((v.natAbs%4294967296:Nat):Int)==0)=true:=by rw [hz]; rfl
      have o3:H4 ((Ap v).drop 1)=true:=Oc (by rw [List.length_drop,Ct]; omega) (Af1 (Hg v))
      have hm:v.natAbs%2^32=0:=by rw [two32]; exact hz
      obtain ⟨n1,n2⟩:=Ant h0 hm
      rw [e0,Ay6,Ay7 (by omega),Ay6,o3,Ay6,Ai0,Am (by omega) (by omega),ih (Ld v 32) (e+32) n1 (by omega) (by omega) (Ajc hv) (by omega) (by omega),Aoy hm]
      have:=Apz (e:=e) hm h0
      rw [← this]
      rfl
    · have e0:(((v.natAbs%4294967296:Nat):Int)==0)=false:=by simp only [beq_eq_false_iff_ne,ne_eq]; omega
      rw [e0,Aza]
      exact Aoh N N v e h0 hN hv h1 h2
theorem Ane {v:Int} (h0:v≠0) (h:Dz v.natAbs<268435456):Si v.natAbs<8589934592:=by
  have h1:=Atj (n:=v.natAbs) (by omega)
  have h2:=Abc (n:=v.natAbs)
  omega
theorem Az.Of.known:Az.Of.Kn:=Az.Of.Ac (.cons Ai.Ie.known (.cons Ai.Made.known (.cons Ai.Xq.known .nil))) fun n a e hp=>by
  obtain ⟨h1,h2⟩:=Ad.1 hp
  obtain ⟨v,rfl,rfl,hv⟩:=Ju h1
  have h2:=Aw.1 h2
  by_cases h0:v=0
  · subst h0
    refine ⟨0,.agg [.bool false,.nil,.int .i64 (0:Int)],[],?_,?_⟩
    · rw [Az.Of.ev]; rfl
    · show Wk [] _ (.agg [.bool (Bi (mD (wv (Bi 0) (Ap 0)))),.ints .arg .u32 (Ap (mD (wv (Bi 0) (Ap 0)))),.int .i64 (eD (wv (Bi 0) (Ap 0)) e)])
      rw [H5,P0.2 rfl]
      exact Wk.G2 (.cons .bool (.cons (.nil _ _) (.cons .int .nil)))
  · refine ⟨Si v.natAbs+1,Az.Of.out [.b (Bi v),.l (Ap v),.i e],[],?_,wdy⟩
    have ht:=Ane h0 hv
    have hl:=Jr (n:=v.natAbs) (by omega)
    have e0:(((Ap v).length:Int)==0)=false:=by rw [Ct]; simp only [beq_eq_false_iff_ne,ne_eq]; omega
    show _=Amh (mD (wv (Bi v) (Ap v))) (eD (wv (Bi v) (Ap v)) e)
    rw [Az.Of.ev,e0,Aza,H5]
    exact Aoi _ _ v e h0 (by omega) (by omega) hv (by omega) (by omega)
theorem Az.Neg.known:Az.Neg.Kn:=Az.Neg.Ac (.cons Ai.Neg.known .nil) fun n a e hp=>by
  refine ⟨0,Az.Neg.out [.b n,.l a,.i e],[],?_,wdy⟩
  have hp:Jy n a=true:=hp
  rw [Az.Neg.ev,hp,Ay6]
  rfl
theorem Uz (v:Int):(((Ap v).length:Int)==0)=decide (v=0):=by
  rw [Ct,Azm]
  simp only [beq_iff_eq,Azd]
  constructor
  · intro h
    rcases Int.lt_trichotomy v 0 with k | k | k
    · have:=Jr (n:=v.natAbs) (by omega); omega
    · exact k
    · have:=Jr (n:=v.natAbs) (by omega); omega
  · intro h; rw [h]; rfl
theorem Az.Xr.known:Az.Xr.Kn:=Az.Xr.Ac .nil fun n a e m b f hp=>by
  obtain ⟨h1,h2⟩:=Ad.1 hp
  obtain ⟨v,rfl,rfl,hv⟩:=Ju h1
  obtain ⟨w,rfl,rfl,hw⟩:=Ju h2
  refine ⟨0,Az.Xr.out [.b (Bi v),.l (Ap v),.i e,.b (Bi w),.l (Ap w),.i f],[],?_,.int⟩
  show _=some (DV.int .i64 (C4 (wv (Bi v) (Ap v)) e (wv (Bi w) (Ap w)) f))
  rw [Az.Xr.ev,H5,H5,Uz,Uz]
  unfold C4
  by_cases h:v=0
  · rw [Ay7 h,Ay6,if_pos h]
  · rw [Azb h,Aza,if_neg h]
    by_cases h':w=0
    · rw [Ay7 h',Ay6,if_pos h']
    · rw [Azb h',Aza,if_neg h']
theorem X3 (k:Int):Ha 0 k=0:=by
  unfold Ha
  split
  · exact Int.zero_mul _
  · exact Rx _
theorem Az.Level.known:Az.Level.Kn:=Az.Level.Ac (.cons Ai.Bt.known .nil) fun n a e f hp=>by
  obtain ⟨h1,h2⟩:=Ad.1 hp
  obtain ⟨v,rfl,rfl,hv⟩:=Py h1
  refine ⟨0,Az.Level.out [.b (Bi v),.l (Ap v),.i e,.i f],[],?_,Ad5⟩
  show _=Ag3 (Ha (wv (Bi v) (Ap v)) (e-f))
  unfold Afb at h2
  rw [H5] at h2
  obtain ⟨h3,h4⟩:=Ad.1 h2
  have h3:=Aw.1 h3
  have h4:=Aw.1 h4
  rw [Az.Level.ev,H5,Uz]
  by_cases h:v=0
  · rw [Ay7 h,Ay6,h,X3]; rfl
  · have o:Aur (Ab (e-f))=true:=by rw [Am (by omega) (by omega)]; exact Aw.2 (by omega)
    rw [Azb h,Aza,h1,o,Azc,Ay6,Am (by omega) (by omega)]
    rfl
theorem Ao9 (n k:Nat):Dz (n*2^k)≤Dz n+k:=by
  refine N1 ?_
  have h1:=Mo n
  have h2:n*2^k<2^(32*Dz n)*2^k:=(Nat.mul_lt_mul_right (Cn k)).2 h1
  rw [← Nat.pow_add] at h2
  exact Nat.lt_of_lt_of_le h2 (Azl (by decide) (by omega))
theorem Apa (v k:Int):Dz (Ha v k).natAbs≤Dz v.natAbs+k.toNat:=by
  unfold Ha
  by_cases h:0≤k
  · rw [if_pos h,Int.natAbs_mul,Int.natAbs_natCast]
    exact Ao9 _ _
  · rw [if_neg h,Mh]
    exact Nat.le_trans (M3 (Nat.div_le_self _ _)) (Nat.le_add_right _ _)
theorem Afv (v w:Int):Dz (v+w).natAbs≤max (Dz v.natAbs) (Dz w.natAbs)+1:=by
  refine N1 ?_
  have h1:=Mo v.natAbs
  have h2:=Mo w.natAbs
  have h3:2^(32*Dz v.natAbs)≤2^(32*max (Dz v.natAbs) (Dz w.natAbs)):=Azl (by decide) (by omega)
  have h4:2^(32*Dz w.natAbs)≤2^(32*max (Dz v.natAbs) (Dz w.natAbs)):=Azl (by decide) (by omega)
  rw [Oy]
  omega
theorem Yy {v e w f:Int} (he:-400000≤e∧e≤400000) (hf:-400000≤f∧f≤400000):-400000≤C4 v e w f∧C4 v e w f≤400000:=by
  unfold C4
  split
  · exact hf
  · split
    · exact he
    · omega
theorem Xe {v e l:Int} (hv:Dz v.natAbs<134217728) (h:e-l≤800000):Dz (Ha v (e-l)).natAbs<140000000:=by
  have:=Apa v (e-l)
  omega
theorem Az.Add.known:Az.Add.Kn:=Az.Add.Ac (.cons Ai.Add.known (.cons Az.Level.known (.cons Az.Xr.known (.cons Az.Of.known .nil)))) fun n a e m b f hp=>by
  obtain ⟨h1,hf⟩:=Ad.1 hp
  obtain ⟨h2,he⟩:=Ad.1 h1
  obtain ⟨h3,h4⟩:=Ad.1 h2
  obtain ⟨v,rfl,rfl,hv⟩:=Py h3
  obtain ⟨w,rfl,rfl,hw⟩:=Py h4
  have he:=Aw.1 he
  have hf:=Aw.1 hf
  refine ⟨0,Az.Add.out [.b (Bi v),.l (Ap v),.i e,.b (Bi w),.l (Ap w),.i f],[],?_,wdy⟩
  show _=Amh (Rk (wv (Bi v) (Ap v)) e (wv (Bi w) (Ap w)) f) (Aqp (wv (Bi v) (Ap v)) e (wv (Bi w) (Ap w)) f)
  have hlo:=Yy (v:=v) (w:=w) he hf
  have l1:=Xe (l:=C4 v e w f) hv (show e-C4 v e w f≤800000 by omega)
  have l2:=Xe (l:=C4 v e w f) hw (show f-C4 v e w f≤800000 by omega)
  have l3:=Afv (Ha v (e-C4 v e w f)) (Ha w (f-C4 v e w f))
  have o1:Afb v e (C4 v e w f)=true:=Ad.2 ⟨Aw.2 (by omega),Aw.2 (by omega)⟩
  have o2:Afb w f (C4 v e w f)=true:=Ad.2 ⟨Aw.2 (by omega),Aw.2 (by omega)⟩
  have o3:Aaf (C4 v e w f)=true:=Aw.2 (by omega)
  rw [Az.Add.ev]
  simp only [H5]
  rw [Jx (v:=v) (by omega),Jx (v:=w) (by omega),h3,h4,o1,o2,Jx (v:=Ha v (e-C4 v e w f)) (by omega),Jx (v:=Ha w (f-C4 v e w f)) (by omega),Jx (v:=Ha v (e-C4 v e w f)+Ha w (f-C4 v e w f)) (by omega),o3]
  simp only [Azc,Ay6]
  rfl
theorem Az.Sub.known:Az.Sub.Kn:=Az.Sub.Ac (.cons Az.Add.known (.cons Az.Neg.known .nil)) fun n a e m b f hp=>by
  obtain ⟨h1,hf⟩:=Ad.1 hp
  obtain ⟨h2,he⟩:=Ad.1 h1
  obtain ⟨h3,h4⟩:=Ad.1 h2
  obtain ⟨w,rfl,rfl,hw⟩:=Py h4
  refine ⟨0,Az.Sub.out [.b n,.l a,.i e,.b (Bi w),.l (Ap w),.i f],[],?_,wdy⟩
  show _=Amh (Rk (wv n a) e (- wv (Bi w) (Ap w)) f) (Aqp (wv n a) e (- wv (Bi w) (Ap w)) f)
  rw [Az.Sub.ev]
  simp only [H5]
  rw [Jx (v:=w) (by omega),h3,Aog (v:=-w) (by rw [Int.natAbs_neg]; exact hw),he,hf]
  rfl
theorem Afw {v:Int} (h:Dz v.natAbs<268435456):0≤Y4 v∧Y4 v≤8589934593:=by
  have h2:=Abc (n:=v.natAbs)
  unfold Y4
  split
  · omega
  · constructor<;>omega
theorem Az.W5.known:Az.W5.Kn:=Az.W5.Ac (.cons Ai.Rn.known .nil) fun n a e hp=>by
  obtain ⟨h1,he⟩:=Ad.1 hp
  obtain ⟨v,rfl,rfl,hv⟩:=Ju h1
  have he:=Aw.1 he
  refine ⟨0,Az.W5.out [.b (Bi v),.l (Ap v),.i e],[],?_,.int⟩
  show _=some (DV.int .i64 (Iz (wv (Bi v) (Ap v)) e))
  have hb:=Afw hv
  rw [Az.W5.ev,H5,Uz,h1]
  unfold Iz
  by_cases h:v=0
  · rw [Ay7 h,Ay6,if_pos h]
  · rw [Azb h,Aza,Ay6,if_neg h,Am (by omega) (by omega)]
theorem Az.Sign.known:Az.Sign.Kn:=Az.Sign.Ac .nil fun n a e hp=>by
  obtain ⟨v,rfl,rfl,hv⟩:=Ju hp
  refine ⟨0,Az.Sign.out [.b (Bi v),.l (Ap v),.i e],[],?_,.int⟩
  show _=some (DV.int .i64 (Nq (wv (Bi v) (Ap v))))
  rw [Az.Sign.ev,H5,Ct]
  unfold Nq Bi
  by_cases h:v<0
  · rw [Ay7 h,Ay6,if_pos h]
  · rw [Azb h,Aza,if_neg h]
    by_cases h':v=0
    · rw [if_pos h',h']; rfl
    · have:=Jr (n:=v.natAbs) (by omega)
      rw [if_neg h']
      congr 2
      omega
open EqRefC
theorem Ah4 {v e w f:Int}:(v≠0→0≤e-C4 v e w f)∧(w≠0→0≤f-C4 v e w f):=by
  unfold C4
  constructor
  · intro h
    rw [if_neg h]
    split<;>omega
  · intro h
    split
    · omega
    · omega
theorem X4 {v k:Int} (h:v≠0→0≤k):∃ j:Nat,Ha v k=v*((2^j:Nat):Int)∧(v≠0→(j:Int)=k):=by
  by_cases h0:v=0
  · exact ⟨0,by rw [h0,X3,Int.zero_mul],fun k=>absurd h0 k⟩
  · have hk:=h h0
    refine ⟨k.toNat,?_,fun _=>by omega⟩
    unfold Ha
    rw [if_pos hk]
theorem Yp (v:Int) (j:Nat):(v*((2^j:Nat):Int)<0↔v<0)∧(v*((2^j:Nat):Int)=0↔v=0):=by
  have hp:=Cn j
  constructor
  · constructor
    · intro h
      rcases Int.lt_or_le v 0 with h1 | h1
      · exact h1
      · have:=Int.mul_nonneg h1 (Int.natCast_nonneg (2^j)); omega
    · intro h
      exact Int.mul_neg_of_neg_of_pos h (by omega)
  · constructor
    · intro h
      rcases Int.mul_eq_zero.1 h with h | h
      · exact h
      · omega
    · intro h; rw [h,Int.zero_mul]
theorem Acj (v:Int) (j:Nat):Nq (v*((2^j:Nat):Int))=Nq v:=by
  obtain ⟨h1,h2⟩:=Yp v j
  unfold Nq
  simp only [h1,h2]
theorem Auj (v:Int):Nq (mD v)=Nq v:=by
  have:=Acj (mD v) (Si v.natAbs)
  rw [← Xl] at this
  exact this.symm
theorem As6 (x y:Int):Nq (x+-y)=W8 x y:=by
  unfold Nq W8
  by_cases h:x<y
  · rw [if_pos (by omega),if_pos h]
  · rw [if_neg (by omega),if_neg h]
    by_cases h':y<x
    · rw [if_neg (by omega),if_pos h']
    · rw [if_pos (by omega),if_neg h']
theorem Asd (v e w f:Int):C4 v e (-w) f=C4 v e w f:=by
  unfold C4
  have:(-w=0)=(w=0):=propext ⟨fun h=>by omega,fun h=>by omega⟩
  simp only [this]
theorem Ap9 {x y:Int} (h:Nq x≠Nq y):W8 x y=min 1 (max (-1) (Nq x-Nq y)):=by
  unfold Nq at h ⊢
  unfold W8
  rcases Int.lt_trichotomy x 0 with h1 | h1 | h1<;>rcases Int.lt_trichotomy y 0 with h2 | h2 | h2
  all_goals
    first
    | (exfalso; apply h; simp [show x<0 by omega,show y<0 by omega]; done)
    | (exfalso; apply h; subst h1; subst h2; rfl)
    | (exfalso; apply h; rw [if_neg (by omega),if_neg (by omega),if_neg (by omega),if_neg (by omega)]; done)
    | skip
  · rw [if_pos (by omega),if_pos (by omega),if_neg (by omega),if_pos (by omega)]; decide
  · rw [if_pos (by omega),if_pos (by omega),if_neg (by omega),if_neg (by omega)]; decide
  · rw [if_neg (by omega),if_pos (by omega),if_neg (by omega),if_pos (by omega),if_pos (by omega)]; decide
  · rw [if_pos (by omega),if_neg (by omega),if_pos (by omega),if_neg (by omega),if_neg (by omega)]; decide
  · rw [if_neg (by omega),if_pos (by omega),if_neg (by omega),if_neg (by omega),if_pos (by omega)]; decide
  · rw [if_neg (by omega),if_pos (by omega),if_neg (by omega),if_neg (by omega),if_neg (by omega),if_pos (by omega)]; decide
theorem Y0 {a b:Nat} (ha:a≠0) (h:a.log2<b.log2):a<b:=by
  rcases Nat.lt_or_ge a b with k | k
  · exact k
  · have hb:b≠0:=by
      intro e; rw [e] at h
      exact absurd h (by rw [show (0:Nat).log2=0 by decide]; omega)
    have:=(Nat.le_log2 ha).2 (Nat.le_trans (Nat.log2_self_le hb) k)
    omega
theorem As5 {v e w f:Int} (hs:Nq v=Nq w) (ht:Iz v e≠Iz w f) :
    W9 v e w f=if (decide (Iz w f<Iz v e)==decide (0<Nq v))=true then 1 else -1:=by
  obtain ⟨u1,u2⟩:=Ah4 (v:=v) (e:=e) (w:=w) (f:=f)
  obtain ⟨j,hx,hj⟩:=X4 u1
  obtain ⟨k,hy,hk⟩:=X4 u2
  unfold W9
  rw [hx,hy]
  have z:v=0↔w=0:=by
    unfold Nq at hs
    constructor
    · intro h; subst h
      revert hs
      simp
      split<;>simp_all
    · intro h; subst h
      revert hs
      simp
      split<;>simp_all
  by_cases v0:v=0
  · exfalso
    apply ht
    unfold Iz
    rw [if_pos v0,if_pos (z.1 v0)]
  · have w0:w≠0:=fun h=>v0 (z.2 h)
    have hj:=hj v0
    have hk:=hk w0
    have nv:v.natAbs≠0:=by omega
    have nw:w.natAbs≠0:=by omega
    have l1:=Lr v.natAbs j nv
    have l2:=Lr w.natAbs k nw
    have ax:(v*((2^j:Nat):Int)).natAbs=v.natAbs*2^j:=by rw [Int.natAbs_mul,Int.natAbs_natCast]
    have ay:(w*((2^k:Nat):Int)).natAbs=w.natAbs*2^k:=by rw [Int.natAbs_mul,Int.natAbs_natCast]
    have sx:=(Yp v j).1
    have sy:=(Yp w k).1
    have zx:=Aor v0 j
    have zy:=Aor w0 k
    have tv:Iz v e=(v.natAbs.log2:Int)+1+e:=by unfold Iz Y4; rw [if_neg v0,if_neg v0]
    have tw:Iz w f=(w.natAbs.log2:Int)+1+f:=by unfold Iz Y4; rw [if_neg w0,if_neg w0]
    have big:Iz w f<Iz v e→w.natAbs*2^k<v.natAbs*2^j:=fun h=>Y0 (I5 nw) (by omega)
    have lit:Iz v e<Iz w f→v.natAbs*2^j<w.natAbs*2^k:=fun h=>Y0 (I5 nv) (by omega)
    generalize v*((2^j:Nat):Int)=x at *
    generalize w*((2^k:Nat):Int)=y at *
    by_cases hv:v<0
    · have sv:Nq v=-1:=by unfold Nq; rw [if_pos hv]
      have hw:w<0:=by
        rw [sv] at hs
        unfold Nq at hs
        rcases Int.lt_or_le w 0 with q | q
        · exact q
        · rw [if_neg (by omega),if_neg w0] at hs; omega
      rw [sv]
      unfold W8
      by_cases h:Iz w f<Iz v e
      · have:=big h
        rw [Ay7 h,if_pos (by omega)]; rfl
      · have:=lit (by omega)
        rw [Azb h,if_neg (by omega),if_pos (by omega)]; rfl
    · have sv:Nq v=1:=by unfold Nq; rw [if_neg hv,if_neg v0]
      have hw:¬ w<0:=by
        intro q
        rw [sv] at hs
        unfold Nq at hs
        rw [if_pos q] at hs; omega
      rw [sv]
      unfold W8
      by_cases h:Iz w f<Iz v e
      · have:=big h
        rw [Ay7 h,if_neg (by omega),if_pos (by omega)]; rfl
      · have:=lit (by omega)
        rw [Azb h,if_pos (by omega)]; rfl
theorem Ard (v e w f:Int):Nq (Rk v e (-w) f)=W9 v e w f:=by
  obtain ⟨u1,u2⟩:=Ah4 (v:=v) (e:=e) (w:=w) (f:=f)
  obtain ⟨k,hy,hk⟩:=X4 u2
  have hy':Ha (-w) (f-C4 v e w f)=-(Ha w (f-C4 v e w f)):=by
    by_cases w0:w=0
    · rw [w0]; show Ha 0 _=_; rw [X3]; rfl
    · unfold Ha
      rw [if_pos (u2 w0),if_pos (u2 w0),Int.neg_mul]
  unfold Rk Aqj W9
  rw [Auj,Asd,hy',As6]
theorem Amk {v e w f:Int} (h:Nq v≠Nq w):W9 v e w f=min 1 (max (-1) (Nq v-Nq w)):=by
  obtain ⟨u1,u2⟩:=Ah4 (v:=v) (e:=e) (w:=w) (f:=f)
  obtain ⟨j,hx,hj⟩:=X4 u1
  obtain ⟨k,hy,hk⟩:=X4 u2
  have e1:=Acj v j
  have e2:=Acj w k
  unfold W9
  rw [hx,hy,← e1,← e2]
  exact Ap9 (by rw [e1,e2]; exact h)
theorem X5 (v:Int):-1≤Nq v∧Nq v≤1:=by unfold Nq; split<;>(try split)<;>omega
theorem Aqo {v e w f:Int} (hv:Dz v.natAbs<134217728) (hw:Dz w.natAbs<134217728) (he:-400000≤e∧e≤400000) (hf:-400000≤f∧f≤400000):Dz (Rk v e w f).natAbs<140000001:=by
  have hlo:=Yy (v:=v) (w:=w) he hf
  have l1:=Xe (l:=C4 v e w f) hv (show e-C4 v e w f≤800000 by omega)
  have l2:=Xe (l:=C4 v e w f) hw (show f-C4 v e w f≤800000 by omega)
  have l3:=Afv (Ha v (e-C4 v e w f)) (Ha w (f-C4 v e w f))
  have l4:=M3 (Abb (Aqj v e w f))
  unfold Rk
  unfold Aqj at l4 ⊢
  omega
theorem Az.Compare.known:Az.Compare.Kn:=Az.Compare.Ac (.cons Az.Sign.known (.cons Az.Sub.known (.cons Az.W5.known .nil))) fun n a e m b f hp=>by
  obtain ⟨h1,hf⟩:=Ad.1 hp
  obtain ⟨h2,he⟩:=Ad.1 h1
  obtain ⟨h3,h4⟩:=Ad.1 h2
  obtain ⟨v,rfl,rfl,hv⟩:=Py h3
  obtain ⟨w,rfl,rfl,hw⟩:=Py h4
  refine ⟨0,Az.Compare.out [.b (Bi v),.l (Ap v),.i e,.b (Bi w),.l (Ap w),.i f],[],?_,.int⟩
  show _=some (DV.int .i64 (W9 (wv (Bi v) (Ap v)) e (wv (Bi w) (Ap w)) f))
  have bv:=X5 v
  have bw:=X5 w
  have hm:=Aqo (v:=v) (w:=-w) hv (by rw [Int.natAbs_neg]; exact hw) (Aw.1 he) (Aw.1 hf)
  rw [Az.Compare.ev]
  simp only [H5]
  rw [Jx (v:=v) (by omega),Jx (v:=w) (by omega),Jx (v:=Rk v e (-w) f) (by omega),h3,h4,he,hf,Aq,Aq]
  simp only [Azc,Ay6]
  by_cases hs:Nq v=Nq w
  · have e0:(Nq v !=Nq w)=false:=by simp [hs]
    rw [e0,Aza]
    by_cases ht:Iz v e=Iz w f
    · have e1:(Iz v e !=Iz w f)=false:=by simp [ht]
      rw [e1,Aza,Ard]
    · have e1:(Iz v e !=Iz w f)=true:=by simp [ht]
      rw [e1,Ay6,As5 hs ht]
      cases (decide (Iz w f<Iz v e)==decide (0<Nq v))<;>rfl
  · have e0:(Nq v !=Nq w)=true:=by simp [hs]
    rw [e0,Ay6,Amk hs,Am (by omega) (by omega)]
namespace EqRefE
def A4.Value.A8:List (Nat × Entry):=[(143,Ai.Neg.spec),(115,Ai.Of.spec),(109,Az.Of.spec),(141,A4.Lz.spec),(142,A4.Neg.spec),(140,A4.Power.spec)]
def A4.Value.E:Env:=A9 (A7 A4.Value.A8) (fun _=>false) (fun _=>none) (fun _=>none)
theorem A4.Value.ev (N:Nat) (x:Int):Bp A4.Value.E N Tryz.f63 (Al Tryz.f63) [.int .u64 x]=bif (K4 x) then bif (Aj0 (Ab (C2 x))) then bif (K4 x) then bif (A6 0 (L5 x)) then bif (K4 x) then bif (Aj0 (Ab (Bj ((C2 x)+4503599627370496)))) then bif (K4 x) then bif (Ag x) then bif (D0 x) then bif (Jy (Bi ((Ab (Bj ((C2 x)+4503599627370496))))) (Ap ((Ab (Bj ((C2 x)+4503599627370496)))))) then bif (Jy (Bi (- wv (Bi ((Ab (Bj ((C2 x)+4503599627370496))))) (Ap ((Ab (Bj ((C2 x)+4503599627370496))))))) (Ap (- wv (Bi ((Ab (Bj ((C2 x)+4503599627370496))))) (Ap ((Ab (Bj ((C2 x)+4503599627370496)))))))&&Aaf (Ab ((L5 x)-1075))) then some (.agg [.bool (Bi (mD (wv (Bi (- wv (Bi ((Ab (Bj ((C2 x)+4503599627370496))))) (Ap ((Ab (Bj ((C2 x)+4503599627370496))))))) (Ap (- wv (Bi ((Ab (Bj ((C2 x)+4503599627370496))))) (Ap ((Ab (Bj ((C2 x)+4503599627370496)))))))))),.ints .arg .u32 (Ap (mD (wv (Bi (- wv (Bi ((Ab (Bj ((C2 x)+4503599627370496))))) (Ap ((Ab (Bj ((C2 x)+4503599627370496))))))) (Ap (- wv (Bi ((Ab (Bj ((C2 x)+4503599627370496))))) (Ap ((Ab (Bj ((C2 x)+4503599627370496)))))))))),.int .i64 (eD (wv (Bi (- wv (Bi ((Ab (Bj ((C2 x)+4503599627370496))))) (Ap ((Ab (Bj ((C2 x)+4503599627370496))))))) (Ap (- wv (Bi ((Ab (Bj ((C2 x)+4503599627370496))))) (Ap ((Ab (Bj ((C2 x)+4503599627370496)))))))) (Ab ((L5 x)-1075)))]) else none else none else bif (Jy (Bi ((Ab (Bj ((C2 x)+4503599627370496))))) (Ap ((Ab (Bj ((C2 x)+4503599627370496)))))&&Aaf (Ab ((L5 x)-1075))) then some (.agg [.bool (Bi (mD (wv (Bi ((Ab (Bj ((C2 x)+4503599627370496))))) (Ap ((Ab (Bj ((C2 x)+4503599627370496)))))))),.ints .arg .u32 (Ap (mD (wv (Bi ((Ab (Bj ((C2 x)+4503599627370496))))) (Ap ((Ab (Bj ((C2 x)+4503599627370496)))))))),.int .i64 (eD (wv (Bi ((Ab (Bj ((C2 x)+4503599627370496))))) (Ap ((Ab (Bj ((C2 x)+4503599627370496)))))) (Ab ((L5 x)-1075)))]) else none else none else none else none else none else bif (Ag x) then bif (D0 x) then bif (Jy (Bi ((Ab (C2 x)))) (Ap ((Ab (C2 x))))) then bif (Jy (Bi (- wv (Bi ((Ab (C2 x)))) (Ap ((Ab (C2 x)))))) (Ap (- wv (Bi ((Ab (C2 x)))) (Ap ((Ab (C2 x))))))&&Aaf (-1074:Int)) then some (.agg [.bool (Bi (mD (wv (Bi (- wv (Bi ((Ab (C2 x)))) (Ap ((Ab (C2 x)))))) (Ap (- wv (Bi ((Ab (C2 x)))) (Ap ((Ab (C2 x))))))))),.ints .arg .u32 (Ap (mD (wv (Bi (- wv (Bi ((Ab (C2 x)))) (Ap ((Ab (C2 x)))))) (Ap (- wv (Bi ((Ab (C2 x)))) (Ap ((Ab (C2 x))))))))),.int .i64 (eD (wv (Bi (- wv (Bi ((Ab (C2 x)))) (Ap ((Ab (C2 x)))))) (Ap (- wv (Bi ((Ab (C2 x)))) (Ap ((Ab (C2 x))))))) (-1074:Int))]) else none else none else bif (Jy (Bi ((Ab (C2 x)))) (Ap ((Ab (C2 x))))&&Aaf (-1074:Int)) then some (.agg [.bool (Bi (mD (wv (Bi ((Ab (C2 x)))) (Ap ((Ab (C2 x))))))),.ints .arg .u32 (Ap (mD (wv (Bi ((Ab (C2 x)))) (Ap ((Ab (C2 x))))))),.int .i64 (eD (wv (Bi ((Ab (C2 x)))) (Ap ((Ab (C2 x))))) (-1074:Int))]) else none else none else none else none else none:=by kernel_rfl
abbrev _root_.Go.Proofs.S1.A4.Value.Kn:=A5 Tryz.prog 63 A4.Value.spec
theorem A4.Value.Ac (hk:Ay Tryz.prog A4.Value.A8) (h:∀ (x:Int),A4.Value.pre [.i x]=true→Ba A4.Value.E Tryz.f63 [.int .u64 x] (A4.Value.out [.i x])):A4.Value.Kn :=
  Aj (A1 hk _ _ _) Tryz.func63 (by kernel_rfl) (by kernel_rfl) h
end EqRefE
open EqRefE
theorem Ajx {n k:Nat} (h:n<2^(32*k)) {m:Nat} (hk:k<m):Dz n<m:=Nat.lt_of_le_of_lt (N1 h) hk
theorem T6 (m:Nat):Ih false m=(m:Int):=rfl
theorem Aes (m:Nat):Ih true m=-(m:Int):=rfl
theorem A4.Value.known:A4.Value.Kn:=A4.Value.Ac (.cons Ai.Neg.known (.cons Ai.Of.known (.cons Az.Of.known (.cons A4.Lz.known (.cons A4.Neg.known (.cons A4.Power.known .nil)))))) fun x hp=>by
  obtain ⟨n,rfl,hn⟩:=Bl (x:=x) hp
  refine ⟨0,A4.Value.out [.i n],[],?_,wdy⟩
  show _=Amh (mD (Fq n)) (eD (Fq n) (Bh n))
  have hf:=Kl n
  have hw:=Jt n
  have small:∀ k:Nat,k<2^54→Dz k<268435456:=fun k hk=>Ajx (k:=2) (Nat.lt_trans hk (by decide)) (by omega)
  have o1:∀ k:Nat,k<2^54→Jy (Bi (k:Int)) (Ap (k:Int))=true:=fun k hk=>Jx (by rw [Int.natAbs_natCast]; exact small k hk)
  have o2:∀ k:Nat,k<2^54→Jy (Bi (-(k:Int))) (Ap (-(k:Int)))=true:=fun k hk=>Jx (by rw [Int.natAbs_neg,Int.natAbs_natCast]; exact small k hk)
  rw [A4.Value.ev]
  unfold C2 L5 D0 Fq Bh
  simp only [H5,Ay8]
  have e1:Ab ((Dc n:Nat):Int)=((Dc n:Nat):Int):=Am (by omega) (by omega)
  have e2:Ab (Bj (((Dc n:Nat):Int)+4503599627370496))=((Dc n+2^52:Nat):Int):=by
    rw [Dt (by omega) (by omega),Am (by omega) (by omega)]; omega
  have i1:∀ k:Nat,k<2^54→Aj0 (k:Int)=true:=fun k hk=>Aw.2 (by omega)
  rw [I4,Cb hn,e1,e2,i1 _ (by omega),i1 _ (by omega),Aq,Am (by omega) (by omega)]
  simp only [Ay6]
  unfold Ax A3
  by_cases h:D6 n=0
  · have o3:Aaf (-1074)=true:=Aw.2 (by omega)
    rw [if_pos h,if_pos h,Azb (by omega),Aza,o1 _ (by omega),o2 _ (by omega),o3]
    cases Bu n
    · rw [Aza,T6]; rfl
    · rw [Ay6,Aes]; rfl
  · have o3:Aaf ((D6 n:Int)-1075)=true:=Aw.2 (by omega)
    rw [if_neg h,if_neg h,Ay7 (by omega),Ay6,o1 _ (by omega),o2 _ (by omega),o3]
    cases Bu n
    · rw [Aza,T6]; rfl
    · rw [Ay6,Aes]; rfl
theorem Anf {m t:Nat} (h:m<2^t) (h0:m≠0):Si m<t:=Nat.lt_of_le_of_lt (Atj h0) ((Nat.log2_lt h0).2 h)
theorem Am5 (b:Nat) (g:Int):Kc b g=vAt (Fq (b:Int)) (A3 b) g:=by
  unfold Kc vAt Fq
  rw [Ay8]
  generalize 2^(A3 b-g).toNat=p
  unfold Ih
  cases Bu b
  · exact Azr _ _
  · show -((Ax b*p:Nat):Int)=-(Ax b:Int)*(p:Int)
    rw [Azr,Int.neg_mul]
theorem Ab2 (b:Nat):(Fq (b:Int)).natAbs=Ax b:=by
  unfold Fq Ih
  rw [Ay8]
  split<;>omega
theorem Aty (b:Nat):Dz (Fq (b:Int)).natAbs<3∧-400000≤eD (Fq (b:Int)) (A3 b)∧eD (Fq (b:Int)) (A3 b)≤400000:=by
  have hm:=Fs b
  have he:=E2 b
  have ha:=Ab2 b
  refine ⟨Ajx (k:=2) (by rw [ha]; exact Nat.lt_trans hm (by decide)) (by omega),?_⟩
  unfold eD
  by_cases h:Fq (b:Int)=0
  · rw [if_pos h]; omega
  · rw [if_neg h]
    have:=Anf (m:=(Fq (b:Int)).natAbs) (t:=53) (by rw [ha]; exact hm) (by omega)
    omega
theorem Ac5 {r:Nat} (h:r<2^63):Dd r=((2^63+r:Nat):Int):=by
  unfold Dd; rw [Ay8,Yt h]
theorem Nw {r:Nat} (h:r<2^63) (n:Bool):(bif n then (bif (Ag (r:Int)) then some (DV.int .u64 (Dd r)) else none) else some (DV.int .u64 r))=some (DV.int .u64 ((Bk n r:Nat):Int)):=by
  cases n
  · rfl
  · rw [Cb (by omega),Ac5 h]; rfl
theorem O0 (n:Bool) (m:Nat) (e:Int):Ui n m e=((Bk n (Cm m e):Nat):Int):=by
  unfold Ui; rw [Ay8]
theorem Ahr {E M:Nat} (h1:1≤E) (h2:E≤2046) (h3:4503599627370496≤M) (h4:M<9007199254740992):E*2^52+M%2^52=min ((E-1)*2^52+M) Ee:=by
  obtain ⟨k,rfl⟩:∃ k,E=k+1:=⟨E-1,by omega⟩
  obtain ⟨r,rfl⟩:∃ r,M=2^52+r:=⟨M-2^52,by omega⟩
  have hr:r<2^52:=by omega
  have hm:(2^52+r)%2^52=r:=by rw [Nat.add_mod_left,Azj hr]
  have hk:k*2^52≤2045*2^52:=Azi _ (by omega)
  have hi:Ee=2045*2^52+2^52+2^52:=by unfold Ee; rfl
  rw [hm,Nat.add_sub_cancel,Nat.succ_mul,hi]
  generalize 2^52=c at *
  omega
theorem soft.Pack.known:soft.Pack.Kn:=EqSoft.soft.Pack.Ac (.cons soft.Dv.known .nil) fun rk n m e hp hr=>by
  have hp:=Aw.1 (show Lf m e=true from hp)
  have hr:Ps m e<rk+1:=hr
  obtain ⟨m0,m1,e0,e1⟩:=hp
  obtain ⟨M,rfl⟩:∃ M:Nat,m=M:=⟨m.toNat,by omega⟩
  refine ⟨0,soft.Pack.out [.b n,.i M,.i e],[],?_,.int⟩
  rw [EqSoft.soft.Pack.ev]
  show _=some (DV.int .u64 (Ui n M e))
  rw [O0]
  unfold Ps at hr
  by_cases h0:M=0
  · subst h0
    have:=Nw (r:=0) (by decide) n
    have e0:Cm 0 e=0:=rfl
    rw [e0]
    simpa using this
  · have b0:((M:Int)==0)=false:=by simp; omega
    rw [b0,Aza]
    by_cases h1:M=9007199254740992
    · have b1:Ep (9007199254740992:Int) (M:Int)=true:=by rw [Ev]; simp; omega
      have s1:Dp .u64 (M:Int) (1:Int)=((2^52:Nat):Int):=by
        rw [show (1:Int)=((1:Nat):Int) from rfl,H7 .u64 M 1 (by decide),h1]
      have w1:Ab (e+1)=e+1:=Am (by omega) (by omega)
      rw [if_pos (by omega)] at hr
      have p1:Lf ((2^52:Nat):Int) (e+1)=true:=Aw.2 (by omega)
      have p2:Dh (Ps ((2^52:Nat):Int) (e+1)<rk)=true:=Aw.2 (by
        unfold Ps
        rw [if_neg (by omega),if_neg (by omega)]; omega)
      rw [b1,s1,w1,p1,p2,O0,h1]
      have:=(El (2^52) 1 (e+1)).1
      have e2:e+1-((1:Nat):Int)=e:=by omega
      rw [e2] at this
      rw [← this]; rfl
    · have b1:Ep (9007199254740992:Int) (M:Int)=false:=by rw [Ev]; simp; omega
      rw [b1,Aza]
      rw [if_neg (by omega)] at hr
      by_cases h2:M<4503599627370496
      · have b2:A6 (M:Int) (4503599627370496:Int)=true:=by rw [Aq]; simp; omega
        rw [if_pos (by omega)] at hr
        by_cases h3:e=-1074
        · subst h3
          have b3:A6 (-1074:Int) (-1074)=false:=by decide
          rw [b2,b3,Bool.true_and,Aza,Ay6,X6 h2]
          exact Nw (by omega) n
        · have b3:A6 (-1074:Int) e=true:=by rw [Aq]; simp; omega
          have s1:B5 .u64 (M:Int) (1:Int)=((M*2^1:Nat):Int):=by
            rw [show (1:Int)=((1:Nat):Int) from rfl,Fx M 1 (by decide),Azj (by omega)]
          have w1:Ab (e-1)=e-1:=Am (by omega) (by omega)
          have p1:Lf ((M*2^1:Nat):Int) (e-1)=true:=Aw.2 (by omega)
          have p2:Dh (Ps ((M*2^1:Nat):Int) (e-1)<rk)=true:=Aw.2 (by
            unfold Ps
            rw [if_neg (by omega)]
            split<;>omega)
          rw [b2,b3,s1,w1,p1,p2,O0]
          have:=(El M 1 e).1
          have e2:e-((1:Nat):Int)=e-1:=by omega
          rw [e2] at this
          rw [this]; rfl
      · have b2:A6 (M:Int) (4503599627370496:Int)=false:=by rw [Aq]; simp; omega
        have w1:Ab (e+1075)=e+1075:=Am (by omega) (by omega)
        rw [b2,w1,Bool.false_and,Aza,Aza]
        have hr:=Mw (m:=M) (e:=e) (by omega) (by omega) e0
        by_cases h4:2047≤e+1075
        · have b4:Ep (2047:Int) (e+1075)=true:=by rw [Ev]; simp; omega
          have:Cm M e=9218868437227405312:=by rw [hr,Ik]; omega
          rw [b4,this,Ay6]
          exact Nw (r:=9218868437227405312) (by decide) n
        · have b4:Ep (2047:Int) (e+1075)=false:=by rw [Ev]; simp; omega
          obtain ⟨E,hE⟩:∃ E:Nat,e+1075=E:=⟨(e+1075).toNat,by omega⟩
          have s1:Io .u64 (B5 .u64 (Bj (e+1075)) (52:Int)) (E9 .u64 (M:Int) (4503599627370495:Int))=((Cm M e:Nat):Int):=by
            rw [hE,Dt (by omega) (by omega),show (52:Int)=((52:Nat):Int) from rfl,Fx E 52 (by decide),Azj (by omega),
              show (4503599627370495:Int)=((2^52-1:Nat):Int) from rfl,Jk 52 (by omega) (by decide),Nl (by omega) (by omega)]
            have hE2:(e+1074).toNat=E-1:=by omega
            have hE3:1≤E∧E≤2046:=by omega
            have hM:4503599627370496≤M∧M<9007199254740992:=by omega
            rw [hr,hE2]
            exact congrArg (fun (x:Nat)=>(x:Int)) (Ahr hE3.1 hE3.2 hM.1 hM.2)
          rw [b4,s1,Aza]
          exact Nw (Xf M e) n
open EqSoft
theorem Anh {D:Nat} (h:D≤63):2^D<2^64:=Nat.pow_lt_pow_right (by decide) (by omega)
theorem Qd (n:Bool) {r:Nat} (h:r<2^63):G4 .u64 ((Bk n r:Nat):Int) (9223372036854775808:Int)=(r:Int):=by
  have hs:Bk n r<2^64:=by unfold Bk; split<;>omega
  unfold G4
  rw [show (9223372036854775808:Int)=((2^63:Nat):Int) from rfl,BitVec.toNat_and,BitVec.toNat_not,Jh,Jh,show IntKind.u64.bits=64 from rfl,Azj hs,
    show 2^64-1-2^63%2^64=2^63-1 by decide,Nat.and_two_pow_sub_one_eq_mod]
  have:Bk n r%2^63=r:=by unfold Bk; cases n<;>simp<;>omega
  rw [this]
  exact Tz (by omega)
theorem Ahx (N:Nat) (ex n:Bool) {r:Nat} (h:r≤Ee):soft.Dn.C18 N ex ((Bk n r:Nat):Int)=some (.tup [.int .u64 ((Bk n r:Nat):Int),.int .u8 ((flags r ex:Nat):Int)]):=by
  have h63:r<2^63:=by rw [Ik] at h; omega
  have hs:Bk n r<2^64:=by unfold Bk; split<;>omega
  rw [soft.Dn.Z4,Qd n h63,Cb hs]
  unfold Be flags
  rw [Ay8,V8 n h]
  have hinf:(((r:Nat):Int)==(9218868437227405312:Int))=decide (r=Ee):=by
    rw [Ik,Azm]; simp; omega
  rw [hinf]
  by_cases h1:r=Ee
  · simp [h1]
  · by_cases h2:2^52≤r
    · cases ex<;>simp [h1]<;>simp [show 4503599627370496≤r by omega]
    · by_cases h3:0<r
      · cases ex<;>simp [h1,h3]<;>simp [show ¬ 4503599627370496≤r by omega]
      · cases ex<;>simp [h1,h3]<;>simp [show ¬ 4503599627370496≤r by omega]
theorem Alo (N:Nat) (n:Bool) {m:Nat} {e:Int} (he:-1140≤e∧e≤50000) (r:Bool):∀ (k d F:Nat),d+k=62→k<F→(∀ d',d'<d→2^53≤m / 2^d'∨e+d' < -1074) →
    ∃ D:Nat,soft.Dn.L0 N F n m e r (d:Int)=soft.Dn.C7 N n m e r (D:Int)∧Drop m e D:=by
  intro k
  induction k with
  | zero =>
    intro d F hd hF hl
    obtain ⟨F,rfl⟩:∃ G,F=G+1:=⟨F-1,by omega⟩
    obtain rfl:d=62:=by omega
    rw [soft.Dn.Au,H7 .u64 m 62 (by decide),Am (by omega) (by omega),Am (by omega) (by omega),Ev,Aq]
    have a0:decide ((0:Int)≤((62:Nat):Int))=true:=by decide
    have a1:((((62:Nat):Int)+1)==63)=true:=by decide
    rw [a0,Ay6,a1,Ay6]
    by_cases h:2^53≤m / 2^62∨e+(62:Nat) < -1074
    · refine ⟨63,?_,by omega,by omega,fun d' hd'=>?_⟩
      · have:(decide ((9007199254740992:Int)≤((m / 2^62:Nat):Int))||decide (e+((62:Nat):Int) < -1074))=true:=by
          simp only [Bool.or_eq_true,Azd]; omega
        rw [this]; rfl
      · rcases Nat.lt_or_ge d' 62 with h' | h'
        · exact hl d' h'
        · obtain rfl:d'=62:=by omega
          exact h
    · refine ⟨62,?_,by omega,fun _=>by omega,hl⟩
      have:(decide ((9007199254740992:Int)≤((m / 2^62:Nat):Int))||decide (e+((62:Nat):Int) < -1074))=false:=by
        simp only [Bool.or_eq_false_iff,Azp]; omega
      rw [this]; rfl
  | succ k ih =>
    intro d F hd hF hl
    obtain ⟨F,rfl⟩:∃ G,F=G+1:=⟨F-1,by omega⟩
    rw [soft.Dn.Au,H7 .u64 m d (by show d≤64; omega),Am (by omega) (by omega),Am (by omega) (by omega),Ev,Aq]
    have a0:decide ((0:Int)≤(d:Int))=true:=by simp
    have a1:(((d:Int)+1)==63)=false:=by simp; omega
    rw [a0,Ay6,a1,Aza]
    by_cases h:2^53≤m / 2^d∨e+d < -1074
    · have:(decide ((9007199254740992:Int)≤((m / 2^d:Nat):Int))||decide (e+(d:Int) < -1074))=true:=by
        simp only [Bool.or_eq_true,Azd]; omega
      rw [this,Ay6,show (d:Int)+1=((d+1:Nat):Int) by omega]
      refine ih (d+1) F (by omega) (by omega) fun d' hd'=>?_
      rcases Nat.lt_or_ge d' d with h' | h'
      · exact hl d' h'
      · obtain rfl:d'=d:=by omega
        exact h
    · refine ⟨d,?_,by omega,fun _=>by omega,hl⟩
      have:(decide ((9007199254740992:Int)≤((m / 2^d:Nat):Int))||decide (e+(d:Int) < -1074))=false:=by
        simp only [Bool.or_eq_false_iff,Azp]; omega
      rw [this]; rfl
theorem Aln (N:Nat) (n:Bool) {m D:Nat} (hm:m<2^64) {e:Int} (he:-1140≤e∧e≤50000) (r:Bool) (hD:D≤63) (hq:(if e+D < -1074 then 0 else qOf m D r.toNat)≤2^53) :
    soft.Dn.C7 N n m e r (D:Int)=soft.Dn.C18 N (decide (m%2^D=0∧r.toNat=0)) ((Bk n (Cm (if e+D < -1074 then 0 else qOf m D r.toNat) (max (e+D) (-1074))):Nat):Int):=by
  have hA:=Cn D
  have h2D:=Anh hD
  have hr:=Nat.mod_lt m hA
  have hqm:m / 2^D≤m:=Nat.div_le_self _ _
  rw [soft.Dn.Axa]
  have a0:decide ((0:Int)≤(D:Int))=true:=by simp
  have e1:Dp .u64 (m:Int) (D:Int)=((m / 2^D:Nat):Int):=H7 .u64 m D (by show D≤64; omega)
  have e2:B5 .u64 (1:Int) (D:Int)=((2^D:Nat):Int):=by
    rw [show (1:Int)=((1:Nat):Int) from rfl,Fx 1 D (by omega),Nat.one_mul,Azj h2D]
  have e3:E9 .u64 (m:Int) (Bj (B5 .u64 (1:Int) (D:Int)-(1:Int)))=((m%2^D:Nat):Int):=by
    rw [e2,Dt (by omega) (by omega),show ((2^D:Nat):Int)-1=((2^D-1:Nat):Int) by omega,Jk D hm (by omega)]
  have e5:(bif (((m%2^D:Nat):Int)==(0:Int)) then (!r) else false)=decide (m%2^D=0∧r.toNat=0):=by
    by_cases h:m%2^D=0
    · cases r<;>simp [h]
    · have:(((m%2^D:Nat):Int)==(0:Int))=false:=by simp only [beq_eq_false_iff_ne,ne_eq]; omega
      rw [this]; simp [h]
  rw [a0,Ay6,Ay6,e1,e3,e5,Aq]
  have last:∀ (p:Bool) (q:Nat),q≤2^64-1→(if e+D < -1074 then 0 else q)≤2^53→soft.Dn.C14 N n e (D:Int) ((q:Nat):Int) p=soft.Dn.C18 N p ((Bk n (Cm (if e+D < -1074 then 0 else q) (max (e+D) (-1074))):Nat):Int):=by
    intro p q hq hq2
    rw [soft.Dn.Aiz,Am (by omega) (by omega),Aq]
    have c16:∀ q':Nat,q'≤2^53→soft.Dn.C16 N n e (q':Int) (D:Int) p=soft.Dn.C18 N p ((Bk n (Cm q' (max (e+D) (-1074))):Nat):Int):=by
      intro q' hq'
      rw [soft.Dn.Ave,Am (by omega) (by omega)]
      have:Lf (q':Int) (max (e+(D:Int)) (-1074))=true:=Aw.2 (by omega)
      rw [this,O0]; rfl
    by_cases h:e+D < -1074
    · rw [if_pos h] at hq2 ⊢
      have:decide (e+(D:Int) < -1074)=true:=by simpa using h
      rw [this]
      exact c16 0 hq2
    · rw [if_neg h] at hq2 ⊢
      have:decide (e+(D:Int) < -1074)=false:=by simpa using h
      rw [this]
      exact c16 q hq2
  have up:∀ (half:Nat) (hh:0<D→half=2^(D-1)) (p:Bool),soft.Dn.C12 N n e r (D:Int) ((m / 2^D:Nat):Int) ((m%2^D:Nat):Int) (half:Int) p=soft.Dn.C18 N p ((Bk n (Cm (if e+D < -1074 then 0 else qOf m D r.toNat) (max (e+D) (-1074))):Nat):Int):=by
    intro half hh p
    rw [soft.Dn.Z5,Aq,Aq]
    have odd:(E9 .u64 ((m / 2^D:Nat):Int) (1:Int)==(1:Int))=decide (m / 2^D%2=1):=by
      rw [show (1:Int)=((2^1-1:Nat):Int) from rfl,Jk 1 (by omega) (by decide),Azm]
      simp only [beq_iff_eq,Azd]
      omega
    rw [odd]
    have test:(decide ((0:Int)<(D:Int))&&(decide ((half:Int)<((m%2^D:Nat):Int))||((((m%2^D:Nat):Int)==(half:Int))&&(r||decide (m / 2^D%2=1))))) =
        decide (0<D∧(2^(D-1)<m%2^D∨(m%2^D=2^(D-1)∧(r.toNat=1∨m / 2^D%2=1)))):=by
      rw [Azm]
      generalize m%2^D=rr
      generalize m / 2^D=qq
      generalize hg:2^(D-1)=gg at hh
      by_cases h0:0<D
      · have:=hh h0
        subst this
        cases r<;>simp [h0]<;>omega
      · simp [h0]
    rw [test]
    by_cases ht:0<D∧(2^(D-1)<m%2^D∨(m%2^D=2^(D-1)∧(r.toNat=1∨m / 2^D%2=1)))
    · have hq1:qOf m D r.toNat=m / 2^D+1:=by unfold qOf; rw [if_pos ht]
      have hlt:m / 2^D+1<2^64:=by
        obtain ⟨d,rfl⟩:∃ d,D=d+1:=⟨D-1,by omega⟩
        have h1:m / 2^(d+1)≤m / 2:=Nat.div_le_div_left (by rw [Nat.pow_succ]; have:=Cn d; omega) (by decide)
        omega
      rw [hq1] at hq ⊢
      rw [Ay7 ht,Ay6,Dt (by omega) (by omega),show ((m / 2^D:Nat):Int)+1=((m / 2^D+1:Nat):Int) by omega]
      exact last p _ (by omega) hq
    · have hq1:qOf m D r.toNat=m / 2^D:=by unfold qOf; rw [if_neg ht]; rfl
      rw [hq1] at hq ⊢
      rw [Azb ht,Aza]
      exact last p _ (by omega) hq
  rcases Nat.eq_zero_or_pos D with rfl | hpos
  · have:decide ((0:Int)<((0:Nat):Int))=false:=by decide
    rw [this,Aza]
    exact up 0 (fun h=>absurd h (by omega)) _
  · have h1:decide ((0:Int)<(D:Int))=true:=by simpa using hpos
    have h2:Ab ((D:Int)-1)=((D-1:Nat):Int):=by rw [Am (by omega) (by omega)]; omega
    have h3:decide ((0:Int)≤((D-1:Nat):Int))=true:=by simp
    have h4:B5 .u64 (1:Int) ((D-1:Nat):Int)=((2^(D-1):Nat):Int):=by
      rw [show (1:Int)=((1:Nat):Int) from rfl,Fx 1 (D-1) (by omega),Nat.one_mul,Azj (Anh (by omega))]
    rw [h1,Ay6,h2,h3,Ay6,h4]
    exact up _ (fun _=>rfl) _
theorem soft.Dn.known:soft.Dn.Kn:=soft.Dn.Ac (.cons soft.Kind.known (.cons soft.Pack.known .nil)) fun n m e r hp=>by
  obtain ⟨m0,m1,e1,e2,hr⟩:=Aw.1 (show Eo m e r=true from hp)
  obtain ⟨M,rfl⟩:∃ M:Nat,m=M:=⟨m.toNat,by omega⟩
  refine ⟨63,soft.Dn.out [.b n,.i M,.i e,.b r],[],?_,Wk.G6 (.cons .int (.cons .int .nil))⟩
  show _=some (DV.tup [.int .u64 (Fi n M e r),.int .u8 (Fh n M e r)])
  unfold Fi Fh Gx
  rw [Ay8,soft.Dn.ev]
  dsimp only
  by_cases h0:M=0∧r=false
  · obtain ⟨rfl,rfl⟩:=h0
    have:Lf (0:Int) (-1074)=true:=Aw.2 (by omega)
    have hp0:=O0 n 0 (-1074)
    rw [this]
    simp only [Bool.not_false,Bool.and_true,Ay6,Bool.toNat_false]
    have hz:(((0:Nat):Int)==0)=true:=rfl
    rw [hz,Ay6]
    have hp0:Ui n (0:Int) (-1074)=((Bk n (Cm 0 (-1074)):Nat):Int):=hp0
    have z:∀ E,Cm 0 E=0:=fun E=>if_pos rfl
    have z3:∀ E,flagsOf 0 E=0:=fun E=>if_pos rfl
    rw [hp0,z,show 4*0+0=0 from rfl,z,z3]
    rfl
  · have hc:((((M:Nat):Int)==(0:Int))&&!r)=false:=by
      cases r
      · have:M≠0:=fun h=>h0 ⟨h,rfl⟩
        simp; omega
      · simp
    rw [hc,Aza]
    have he:-1140≤e∧e≤50000:=by omega
    obtain ⟨D,hl,hD⟩:=Alo 63 n (m:=M) he r 62 0 63 (by omega) (by omega) (fun d' h=>by omega)
    have hs:r.toNat≤1:=by cases r<;>decide
    have hV:4*M+r.toNat≠0:=by
      intro h
      refine h0 ⟨by omega,?_⟩
      cases r
      · rfl
      · simp at h
    obtain ⟨t1,t2,t3⟩:=Alq hD hs hV (by omega) (by omega) (fun h=>by
      have:r=true:=by cases r<;>simp_all
      have:=hr this
      omega)
    have hl:soft.Dn.L0 63 63 n (M:Int) e r (0:Int)=soft.Dn.C7 63 n (M:Int) e r (D:Int):=hl
    rw [hl,Aln 63 n (by omega) he r hD.le t3,← t1,Ahx 63 _ n (Le _ _),t2]
namespace EqSum
def sum.right.A8:List (Nat × Entry):=[]
def sum.right.E:Env:=A9 (A7 sum.right.A8) (fun _=>false) (fun _=>none) (fun _=>none)
theorem sum.right.ev (N:Nat) (m d:Int):Bp sum.right.E N Tryz.f249 (Al Tryz.f249) [.int .u64 m,.int .i64 d]=bif (A6 63 d) then bif ((B5 .u64 (Dp .u64 m 63) 63) !=m) then some (.int .u64 (Io .u64 (Dp .u64 m 63) 1)) else some (.int .u64 (Dp .u64 m 63)) else bif (decide (0≤d)) then bif (decide (0≤d)) then bif ((B5 .u64 (Dp .u64 m d) d) !=m) then some (.int .u64 (Io .u64 (Dp .u64 m d) 1)) else some (.int .u64 (Dp .u64 m d)) else none else none:=by kernel_rfl
abbrev _root_.Go.Proofs.S1.sum.right.Kn:=A5 Tryz.prog 249 sum.right.spec
theorem sum.right.Ac (hk:Ay Tryz.prog sum.right.A8) (h:∀ (m d:Int),sum.right.pre [.i m,.i d]=true→Ba sum.right.E Tryz.f249 [.int .u64 m,.int .i64 d] (sum.right.out [.i m,.i d])):sum.right.Kn :=
  Aj (A1 hk _ _ _) Tryz.func249 (by kernel_rfl) (by kernel_rfl) h
def sum.E5.A8:List (Nat × Entry):=[(148,soft.Finite.spec),(155,soft.Kind.spec)]
def sum.E5.E:Env:=A9 (A7 sum.E5.A8) (fun _=>false) (fun _=>none) (fun _=>none)
theorem sum.E5.ev (N:Nat) (a b:Int):Bp sum.E5.E N Tryz.f248 (Al Tryz.f248) [.int .u64 a,.int .u64 b]=bif (Ag a) then bif ((Be a)==(4:Int)) then some (.tup [.int .u64 9221120237041090560,.int .u8 0]) else bif (Ag b) then bif ((Be b)==(4:Int)) then some (.tup [.int .u64 9221120237041090560,.int .u8 0]) else bif (Ag a) then bif (Da a) then some (.tup [.int .u64 b,.int .u8 0]) else bif (Ag b) then bif ((Da b)||(a==b)) then some (.tup [.int .u64 a,.int .u8 0]) else some (.tup [.int .u64 9221120237041090560,.int .u8 16]) else none else none else none else none :=
  Eq.trans (by kernel_rfl)
  (Ea (Ea rfl (Ea (Ea rfl (Ea (Ea rfl (Ea (Ar (Rs (Da b)) (Ar (Rs (Da b)) (Ar (tt8 (Da b)) (Ar (Xb (Da b)) (Cq (tt5 (Da b) (a==b)) rfl rfl))))) rfl)) rfl)) rfl)) rfl)
abbrev _root_.Go.Proofs.S1.sum.E5.Kn:=A5 Tryz.prog 248 sum.E5.spec
theorem sum.E5.Ac (hk:Ay Tryz.prog sum.E5.A8) (h:∀ (a b:Int),sum.E5.pre [.i a,.i b]=true→Ba sum.E5.E Tryz.f248 [.int .u64 a,.int .u64 b] (sum.E5.out [.i a,.i b])):sum.E5.Kn :=
  Aj (A1 hk _ _ _) Tryz.func248 (by kernel_rfl) (by kernel_rfl) h
def sum.Add.A8:List (Nat × Entry):=[(148,soft.Finite.spec),(212,soft.Dn.spec),(211,soft.Gp.spec),(213,soft.Sign.spec),(249,sum.right.spec),(248,sum.E5.spec)]
def sum.Add.E:Env:=A9 (A7 sum.Add.A8) (fun _=>false) (fun _=>none) (fun _=>none)
theorem sum.Add.ev (N:Nat) (a b:Int):Bp sum.Add.E N Tryz.f232 (Al Tryz.f232) [.int .u64 a,.int .u64 b]=bif (Ag a) then bif ((!(Da a))||(Ag b)) then bif ((!(Da a))||(!(Da b))) then bif ((Ag a&&Ag b)&&(!(Da a)||!(Da b))) then some (.tup [.int .u64 (J8 a b),.int .u8 (W4 a b)]) else none else bif (Ag a) then bif (Ag b) then bif (Ag a) then bif (Ag b) then bif (A6 (Bh a) (Bh b)) then bif (Ag (B5 .u64 (Bw a) 9)&&Dh (0≤(Ab ((Bh b)-(Bh a)))∧(Ab ((Bh b)-(Bh a)))<1000000)) then bif ((D0 b)==(D0 a)) then bif (Eo (Bj ((B5 .u64 (Bw b) 9)+(Fu (B5 .u64 (Bw a) 9) (Ab ((Bh b)-(Bh a)))))) (Ab ((Bh b)-9)) false) then some (.tup [.int .u64 (Fi (D0 b) (Bj ((B5 .u64 (Bw b) 9)+(Fu (B5 .u64 (Bw a) 9) (Ab ((Bh b)-(Bh a)))))) (Ab ((Bh b)-9)) false),.int .u8 (Fh (D0 b) (Bj ((B5 .u64 (Bw b) 9)+(Fu (B5 .u64 (Bw a) 9) (Ab ((Bh b)-(Bh a)))))) (Ab ((Bh b)-9)) false)]) else none else bif (A6 (Fu (B5 .u64 (Bw a) 9) (Ab ((Bh b)-(Bh a)))) (B5 .u64 (Bw b) 9)) then bif (Eo (Bj ((B5 .u64 (Bw b) 9)-(Fu (B5 .u64 (Bw a) 9) (Ab ((Bh b)-(Bh a)))))) (Ab ((Bh b)-9)) false) then some (.tup [.int .u64 (Fi (D0 b) (Bj ((B5 .u64 (Bw b) 9)-(Fu (B5 .u64 (Bw a) 9) (Ab ((Bh b)-(Bh a)))))) (Ab ((Bh b)-9)) false),.int .u8 (Fh (D0 b) (Bj ((B5 .u64 (Bw b) 9)-(Fu (B5 .u64 (Bw a) 9) (Ab ((Bh b)-(Bh a)))))) (Ab ((Bh b)-9)) false)]) else none else bif (A6 (B5 .u64 (Bw b) 9) (Fu (B5 .u64 (Bw a) 9) (Ab ((Bh b)-(Bh a))))) then bif (Eo (Bj ((Fu (B5 .u64 (Bw a) 9) (Ab ((Bh b)-(Bh a))))-(B5 .u64 (Bw b) 9))) (Ab ((Bh b)-9)) false) then some (.tup [.int .u64 (Fi (D0 a) (Bj ((Fu (B5 .u64 (Bw a) 9) (Ab ((Bh b)-(Bh a))))-(B5 .u64 (Bw b) 9))) (Ab ((Bh b)-9)) false),.int .u8 (Fh (D0 a) (Bj ((Fu (B5 .u64 (Bw a) 9) (Ab ((Bh b)-(Bh a))))-(B5 .u64 (Bw b) 9))) (Ab ((Bh b)-9)) false)]) else none else some (.tup [.int .u64 0,.int .u8 0]) else none else bif (Ag (B5 .u64 (Bw b) 9)&&Dh (0≤(Ab ((Bh a)-(Bh b)))∧(Ab ((Bh a)-(Bh b)))<1000000)) then bif ((D0 a)==(D0 b)) then bif (Eo (Bj ((B5 .u64 (Bw a) 9)+(Fu (B5 .u64 (Bw b) 9) (Ab ((Bh a)-(Bh b)))))) (Ab ((Bh a)-9)) false) then some (.tup [.int .u64 (Fi (D0 a) (Bj ((B5 .u64 (Bw a) 9)+(Fu (B5 .u64 (Bw b) 9) (Ab ((Bh a)-(Bh b)))))) (Ab ((Bh a)-9)) false),.int .u8 (Fh (D0 a) (Bj ((B5 .u64 (Bw a) 9)+(Fu (B5 .u64 (Bw b) 9) (Ab ((Bh a)-(Bh b)))))) (Ab ((Bh a)-9)) false)]) else none else bif (A6 (Fu (B5 .u64 (Bw b) 9) (Ab ((Bh a)-(Bh b)))) (B5 .u64 (Bw a) 9)) then bif (Eo (Bj ((B5 .u64 (Bw a) 9)-(Fu (B5 .u64 (Bw b) 9) (Ab ((Bh a)-(Bh b)))))) (Ab ((Bh a)-9)) false) then some (.tup [.int .u64 (Fi (D0 a) (Bj ((B5 .u64 (Bw a) 9)-(Fu (B5 .u64 (Bw b) 9) (Ab ((Bh a)-(Bh b)))))) (Ab ((Bh a)-9)) false),.int .u8 (Fh (D0 a) (Bj ((B5 .u64 (Bw a) 9)-(Fu (B5 .u64 (Bw b) 9) (Ab ((Bh a)-(Bh b)))))) (Ab ((Bh a)-9)) false)]) else none else bif (A6 (B5 .u64 (Bw a) 9) (Fu (B5 .u64 (Bw b) 9) (Ab ((Bh a)-(Bh b))))) then bif (Eo (Bj ((Fu (B5 .u64 (Bw b) 9) (Ab ((Bh a)-(Bh b))))-(B5 .u64 (Bw a) 9))) (Ab ((Bh a)-9)) false) then some (.tup [.int .u64 (Fi (D0 b) (Bj ((Fu (B5 .u64 (Bw b) 9) (Ab ((Bh a)-(Bh b))))-(B5 .u64 (Bw a) 9))) (Ab ((Bh a)-9)) false),.int .u8 (Fh (D0 b) (Bj ((Fu (B5 .u64 (Bw b) 9) (Ab ((Bh a)-(Bh b))))-(B5 .u64 (Bw a) 9))) (Ab ((Bh a)-9)) false)]) else none else some (.tup [.int .u64 0,.int .u8 0]) else none else none else none else none else none else none else none :=
  Eq.trans (by kernel_rfl)
  (Ea (Ar (Z6 (Da a)) (Cq (Anm (Da a) (Ag b)) (Ar (Qq (Da a)) (Ar (Ab7 (Da a)) (Cq (Ara (Da a) (Da b)) rfl rfl))) rfl)) rfl)
abbrev _root_.Go.Proofs.S1.sum.Add.Kn:=A5 Tryz.prog 232 sum.Add.spec
theorem sum.Add.Ac (hk:Ay Tryz.prog sum.Add.A8) (h:∀ (a b:Int),sum.Add.pre [.i a,.i b]=true→Ba sum.Add.E Tryz.f232 [.int .u64 a,.int .u64 b] (sum.Add.out [.i a,.i b])):sum.Add.Kn :=
  Aj (A1 hk _ _ _) Tryz.func232 (by kernel_rfl) (by kernel_rfl) h
def sum.Sub.A8:List (Nat × Entry):=[(233,soft.Dv.spec),(232,sum.Add.spec)]
def sum.Sub.E:Env:=A9 (A7 sum.Sub.A8) (fun _=>false) (fun _=>none) (fun _=>none)
theorem sum.Sub.ev (N:Nat) (a b:Int):Bp sum.Sub.E N Tryz.f207 (Al Tryz.f207) [.int .u64 a,.int .u64 b]=bif (Ag b) then bif (Ag a&&Ag (Dd b)) then some (.tup [.int .u64 (J8 a (Dd b)),.int .u8 (W4 a (Dd b))]) else none else none:=by kernel_rfl
abbrev _root_.Go.Proofs.S1.sum.Sub.Kn:=A5 Tryz.prog 207 sum.Sub.spec
theorem sum.Sub.Ac (hk:Ay Tryz.prog sum.Sub.A8) (h:∀ (a b:Int),sum.Sub.pre [.i a,.i b]=true→Ba sum.Sub.E Tryz.f207 [.int .u64 a,.int .u64 b] (sum.Sub.out [.i a,.i b])):sum.Sub.Kn :=
  Aj (A1 hk _ _ _) Tryz.func207 (by kernel_rfl) (by kernel_rfl) h
end EqSum
open EqSum
theorem Auo (q:Nat):q ||| 1=2*(q / 2)+1:=by
  have e:q%2 ||| (q / 2*2^1)=q / 2*2^1+q%2:=Nd (Nat.mod_lt _ (by decide))
  have e1:1 ||| (q / 2*2^1)=q / 2*2^1+1:=Nd (k:=1) (by decide)
  have hq:q / 2*2^1+q%2=q:=by omega
  rw [hq] at e
  rcases Nat.mod_two_eq_zero_or_one q with h | h
  · rw [h,Nat.zero_or] at e
    rw [e,Nat.or_comm] at e1
    omega
  · rw [h] at e
    have:q ||| 1=q:=by
      conv=>lhs; rw [← e]
      rw [Nat.or_comm 1,Nat.or_assoc,Nat.or_self,Nat.or_comm,e]
    omega
theorem X9 {n s:Nat} (hn:n<2^64) (hs:s≤63) :
    (bif ((B5 .u64 (Dp .u64 (n:Int) (s:Int)) (s:Int)) !=(n:Int)) then
      some (DV.int .u64 (Io .u64 (Dp .u64 (n:Int) (s:Int)) (1:Int)))
    else some (.int .u64 (Dp .u64 (n:Int) (s:Int))))=some (.int .u64 ((F9 n s:Nat):Int)):=by
  have hq:n / 2^s≤n:=Nat.div_le_self _ _
  have hm:n / 2^s*2^s≤n:=Nat.div_mul_le_self _ _
  have hd:=Nat.div_add_mod n (2^s)
  rw [Nat.mul_comm] at hd
  rw [H7 .u64 n s (by show s≤64; omega),Fx _ s (by omega),Azj (by omega)]
  have h1:Io .u64 ((n / 2^s:Nat):Int) (1:Int)=((n / 2^s ||| 1:Nat):Int):=Vf (by omega) (by decide)
  rw [h1,Auo]
  unfold F9
  by_cases h:n%2^s=0
  · have:((((n / 2^s*2^s:Nat):Int)) !=(n:Int))=false:=by
      simp only [bne_eq_false_iff_eq]; omega
    rw [this,if_pos h,Aza]
  · have:((((n / 2^s*2^s:Nat):Int)) !=(n:Int))=true:=by
      simp only [bne_iff_ne,ne_eq]; omega
    rw [this,if_neg h,Ay6]
theorem sum.right.known:sum.right.Kn:=sum.right.Ac .nil fun m d hp=>by
  obtain ⟨h1,h2⟩:=Ad.1 hp
  obtain ⟨n,rfl,hn⟩:=Bl h1
  have h2:=Aw.1 h2
  obtain ⟨d,rfl⟩:∃ k:Nat,d=k:=⟨d.toNat,by omega⟩
  refine ⟨0,sum.right.out [.i n,.i d],[],?_,.int⟩
  rw [sum.right.ev,Aq]
  show _=some (DV.int .u64 (Fu n d))
  unfold Fu
  rw [Ay8,Ay8]
  by_cases h:63<d
  · have:decide ((63:Int)<(d:Int))=true:=by simp; omega
    rw [this,Ay6,Nat.min_eq_right (by omega)]
    exact X9 hn (Nat.le_refl 63)
  · have:decide ((63:Int)<(d:Int))=false:=by simp; omega
    have h0:decide ((0:Int)≤(d:Int))=true:=by simp
    rw [this,Aza,h0,Ay6,Ay6,Nat.min_eq_left (by omega)]
    exact X9 hn (by omega)
theorem Aiw:((Ql:Nat):Int)=9221120237041090560:=rfl
theorem sum.E5.known:sum.E5.Kn:=sum.E5.Ac (.cons soft.Finite.known (.cons soft.Kind.known .nil)) fun a b hp=>by
  obtain ⟨h1,h2⟩:=Ad.1 hp
  obtain ⟨ha,hb⟩:=Ad.1 h1
  obtain ⟨a,rfl,hn⟩:=Bl ha
  obtain ⟨b,rfl,hm⟩:=Bl hb
  refine ⟨0,sum.E5.out [.i a,.i b],[],?_,Wk.G6 (.cons .int (.cons .int .nil))⟩
  rw [sum.E5.ev,ha,hb]
  show _=some (DV.tup [.int .u64 (J8 a b),.int .u8 (W4 a b)])
  unfold J8 W4 Lc Be Da
  simp only [Ay8,Ay6]
  unfold Da at h2
  simp only [Ay8] at h2
  by_cases a4:An a=4
  · simp [a4,Aiw]
  · have e4:((An a:Int)==4)=false:=by simp; omega
    rw [e4,Aza]
    by_cases b4:An b=4
    · simp [b4,Aiw]
    · have f4:((An b:Int)==4)=false:=by simp; omega
      rw [f4,Aza]
      have ka:=Y7 a
      have kb:=Y7 b
      by_cases a3:An a=3
      · have fa:Kp a=false:=by rw [ka]; simp [a3]
        rw [fa,Aza]
        by_cases b3:An b=3
        · have fb:Kp b=false:=by rw [kb]; simp [b3]
          rw [fb]
          by_cases hab:a=b
          · subst hab; simp [a3]
          · have hab':((a:Int)==(b:Int))=false:=by simp; omega
            rw [hab']
            simp [a3,b3,hab,Aiw]
        · have fb:Kp b=true:=by rw [kb]; simp [b3,b4]
          rw [fb]
          simp [a3,b3,b4]
      · have fa:Kp a=true:=by rw [ka]; simp [a3,a4]
        have b3:An b=3:=by
          rw [fa,kb] at h2
          simp [b4] at h2
          exact h2
        rw [fa,Ay6]
        simp [a3,b3,a4]
def Ai9 (na nb:Bool) (X r:Nat) (e:Int):Nat × Nat :=
  if na=nb then Gx na (X+r) e false else if r<X then Gx na (X-r) e false else if X<r then Gx nb (r-X) e false else (0,0)
theorem V2 {na:Bool} {m:Int} {n:Nat} {e e':Int} (h:m=n) (he:e'=e) (hn:n<2^64) (h1:-1100≤e) (h2:e≤1000) :
    (bif Eo m e' false then some (DV.tup [.int .u64 (Fi na m e' false),.int .u8 (Fh na m e' false)]) else none)
      = some (.tup [.int .u64 (((Gx na n e false).1:Nat):Int),.int .u8 (((Gx na n e false).2:Nat):Int)]):=by
  subst h; subst he
  have hp:Eo (n:Int) e' false=true:=Aw.2 ⟨by omega,by omega,by omega,.inl (by omega),fun h=>by cases h⟩
  rw [hp,Ay6]
  unfold Fi Fh
  rw [Ay8]
theorem Agv (na nb:Bool) {X r:Nat} {e e':Int} (hX:X<2^62) (hr:r≤2^62) (h:e'=e) (h1:-1100≤e) (h2:e≤1000) :
    (bif (na==nb) then
      bif Eo (Bj ((X:Int)+(r:Int))) e' false then some (DV.tup [.int .u64 (Fi na (Bj ((X:Int)+(r:Int))) e' false),.int .u8 (Fh na (Bj ((X:Int)+(r:Int))) e' false)]) else none
    else bif A6 (r:Int) (X:Int) then
      bif Eo (Bj ((X:Int)-(r:Int))) e' false then some (DV.tup [.int .u64 (Fi na (Bj ((X:Int)-(r:Int))) e' false),.int .u8 (Fh na (Bj ((X:Int)-(r:Int))) e' false)]) else none
    else bif A6 (X:Int) (r:Int) then
      bif Eo (Bj ((r:Int)-(X:Int))) e' false then some (DV.tup [.int .u64 (Fi nb (Bj ((r:Int)-(X:Int))) e' false),.int .u8 (Fh nb (Bj ((r:Int)-(X:Int))) e' false)]) else none
    else some (.tup [.int .u64 (0:Int),.int .u8 (0:Int)])) =
      some (.tup [.int .u64 (((Ai9 na nb X r e).1:Nat):Int),.int .u8 (((Ai9 na nb X r e).2:Nat):Int)]):=by
  unfold Ai9
  rw [Aq,Aq]
  by_cases hs:na=nb
  · have:(na==nb)=true:=by simp [hs]
    rw [this,Ay6,if_pos hs]
    exact V2 (by rw [Dt (by omega) (by omega)]; omega) h (by omega) h1 h2
  · have:(na==nb)=false:=by simp [hs]
    rw [this,Aza,if_neg hs]
    by_cases hl:r<X
    · have:decide ((r:Int)<(X:Int))=true:=by simp; omega
      rw [this,Ay6,if_pos hl]
      exact V2 (by rw [Dt (by omega) (by omega)]; omega) h (by omega) h1 h2
    · have:decide ((r:Int)<(X:Int))=false:=by simp; omega
      rw [this,Aza,if_neg hl]
      by_cases hg:X<r
      · have:decide ((X:Int)<(r:Int))=true:=by simp; omega
        rw [this,Ay6,if_pos hg]
        exact V2 (by rw [Dt (by omega) (by omega)]; omega) h (by omega) h1 h2
      · have:decide ((X:Int)<(r:Int))=false:=by simp; omega
        rw [this,Aza,if_neg hg]
        rfl
theorem Aki {a b:Nat} (ha:Kp a=true) (hb:Kp b=true) (hle:A3 b≤A3 a) :
    ∃ X r:Nat,X<2^62∧r≤2^62∧B5 .u64 (Bw a) (9:Int)=(X:Int)∧Fu (B5 .u64 (Bw b) (9:Int)) (Ab (Bh a-Bh b))=(r:Int)
      ∧ Ab (Bh a-9)=A3 a-9
      ∧ (Ag (B5 .u64 (Bw b) (9:Int))&&Dh (0≤(Ab ((Bh a)-(Bh b)))∧(Ab ((Bh a)-(Bh b)))<1000000))=true
      ∧ Ai9 (D0 a) (D0 b) X r (A3 a-9)=Lc a b:=by
  obtain ⟨d,hd⟩:∃ d:Nat,A3 a=A3 b+d:=⟨(A3 a-A3 b).toNat,by omega⟩
  have hx:=Fs a
  have hy:=Fs b
  have ea:=E2 a
  have eb:=E2 b
  have C:=Agu (Mx:=Ax a) (My:=Ax b) hd hx hy (fun h=>Aa4 (by omega))
  have sh:∀ m:Nat,m<2^53→B5 .u64 (m:Int) (9:Int)=((m*2^9:Nat):Int):=fun m hm=>by
    have:=Fx m 9 (by decide)
    rw [Azj (by omega)] at this
    exact this
  have h2:Ab (Bh a-Bh b)=(d:Int):=by
    unfold Bh
    rw [Ay8,Ay8,Am (by omega) (by omega)]; omega
  have s1:B5 .u64 (Bw a) (9:Int)=((Ax a*2^9:Nat):Int):=by
    unfold Bw; rw [Ay8]; exact sh _ hx
  have s2:B5 .u64 (Bw b) (9:Int)=((Ax b*2^9:Nat):Int):=by
    unfold Bw; rw [Ay8]; exact sh _ hy
  refine ⟨Ax a*2^9,F9 (Ax b*2^9) (min d 63),by omega,C.small,s1,?_,?_,?_,?_⟩
  · rw [s2,h2]; unfold Fu; rw [Ay8,Ay8]
  · unfold Bh; rw [Ay8,Am (by omega) (by omega)]
  · rw [s2,h2,Cb (by omega),Bool.true_and]
    exact Aw.2 ⟨by omega,by omega⟩
  · unfold D0
    rw [Ay8,Ay8,Agt ha hb hd]
    rfl
theorem sum.Add.known:sum.Add.Kn:=sum.Add.Ac (.cons soft.Finite.known (.cons soft.Dn.known (.cons soft.Gp.known (.cons soft.Sign.known (.cons sum.right.known (.cons sum.E5.known .nil)))))) fun a b hp=>by
  obtain ⟨ha,hb⟩:=Ad.1 hp
  obtain ⟨a,rfl,hn⟩:=Bl ha
  obtain ⟨b,rfl,hm⟩:=Bl hb
  refine ⟨0,sum.Add.out [.i a,.i b],[],?_,Wk.G6 (.cons .int (.cons .int .nil))⟩
  rw [sum.Add.ev,ha,hb]
  show _=some (DV.tup [.int .u64 (J8 a b),.int .u8 (W4 a b)])
  rw [Bool.or_true,Ay6,Ay6]
  by_cases hf:(!(Da a)||!(Da b))=true
  · rw [hf]; rfl
  · have hf:(!(Da a)||!(Da b))=false:=by simpa using hf
    rw [hf,Aza,Ay6,Ay6,Ay6,Ay6]
    have fa:Kp a=true:=by
      have:=(Bool.or_eq_false_iff.1 hf).1
      unfold Da at this
      simpa using this
    have fb:Kp b=true:=by
      have:=(Bool.or_eq_false_iff.1 hf).2
      unfold Da at this
      simpa using this
    have xa:=E2 a
    have xb:=E2 b
    rw [Aq]
    by_cases hl:A3 a<A3 b
    · obtain ⟨X,r,hX,hr,e1,e2,e3,e4,e5⟩:=Aki fb fa (by omega)
      have:decide (Bh a<Bh b)=true:=by unfold Bh; simpa using hl
      rw [this,Ay6,e4,Ay6,e1,e2,Agv _ _ hX hr e3 (by omega) (by omega),e5,Amx]
      rfl
    · obtain ⟨X,r,hX,hr,e1,e2,e3,e4,e5⟩:=Aki fa fb (by omega)
      have:decide (Bh a<Bh b)=false:=by unfold Bh; simpa using hl
      rw [this,Aza,e4,Ay6,e1,e2,Agv _ _ hX hr e3 (by omega) (by omega),e5]
      rfl
theorem sum.Sub.known:sum.Sub.Kn:=sum.Sub.Ac (.cons soft.Dv.known (.cons sum.Add.known .nil)) fun a b hp=>by
  obtain ⟨ha,hb⟩:=Ad.1 hp
  obtain ⟨b,rfl,hm⟩:=Bl hb
  refine ⟨0,sum.Sub.out [.i a,.i b],[],?_,Wk.G6 (.cons .int (.cons .int .nil))⟩
  have:Ag (Dd (b:Int))=true:=by unfold Dd; rw [Ay8]; exact Cb (V4 hm)
  rw [sum.Sub.ev,ha,hb,this]
  unfold J8 W4 Dd
  rw [Ay8]
  rfl
end Go.Proofs.S1
end
