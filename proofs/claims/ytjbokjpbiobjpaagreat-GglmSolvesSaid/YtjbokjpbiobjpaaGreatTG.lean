/- A verified evaluator of the program's form and its use for this seat: S1EqRefA, S1PRefA, S1PRefAa, S1EqRefB, S1PRefB, S1PRefBa, S1EqRefC, S1PRefC, S1PRefCa, S1EqRefE, S1PRefV, S1PPack, S1PNear, S1EqSum, S1PSum. -/
import Derived.Test.YtjbokjpbiobjpaaGreatTE
import Derived.Test.YtjbokjpbiobjpaaGreatTF
set_option linter.unusedVariables false
set_option linter.unusedSimpArgs false
noncomputable section
open Int (toNat)
open List (length getD)
open Go.Proofs.Tryz
namespace Go.Proofs.S1
open Go Go.Den Go.Rnd Go.Proofs
set_option maxRecDepth 100000
namespace EqRefA
def Ae.Jf.Bc:List (Nat × Entry):=[]
def Ae.Jf.E:Env:=Be (Bb Ae.Jf.Bc) (fun _=>false) (fun _=>none) (fun _=>none)
theorem Ae.Jf.ev (N:Nat) (l:List Int) (i:Int):Bu Ae.Jf.E N f221 (Am f221) [.ints .arg .u32 l,.int .i64 i]=bif ((Es 0 i)&&(Bd i (length l:Int))) then bif ((decide (0≤i))&&(decide (i<(length l:Int)))) then some (.int .u64 (Bm (getD l (toNat i) 0))) else none else some (.int .u64 0) :=
 Eq.trans (by kernel_rfl)
 (Ax (Oj (Es 0 i)) (Ax (Oj (Es 0 i)) (Ax (L7 (Es 0 i)) (Ax (Ac2 (Es 0 i)) (Ax (Th (Es 0 i)) (Cp (tt1 (Es 0 i) (Bd i (length l:Int))) rfl rfl))))))
abbrev _root_.Go.Proofs.S1.Ae.Jf.Kn:=A7 prog 221 Ae.Jf.spec
theorem Ae.Jf.Ac (hk:A1 prog Ae.Jf.Bc) (h:Hyp Ae.Jf.E f221 Ae.Jf.ts Ae.Jf.pre Ae.Jf.out):Ae.Jf.Kn :=
 Al (A2 hk _ _ _) func221 (by kernel_rfl) (by kernel_rfl) h
def Ae.Made.hint:Nat→Option Bg
 | 0=>some { keep:=[0,1,4,5],objs:=[],boxes:=[4] }
 | _=>none
def Ae.Made.Bc:List (Nat × Entry):=[]
def Ae.Made.E:Env:=Be (Bb Ae.Made.Bc) (fun _=>false) Ae.Made.hint (fun _=>none)
section
variable (N M:Nat) (n:Bool) (l:List Int) (p5:Int)
def Ae.Made.L0:Option DV:=Bx Ae.Made.E N f171 (Am f171) [1,1,0,0] [] M ⟨E5 28 [(0,.bool n),(1,.ints .arg .u32 l),(4,.ptr 4 0 0),(5,.int .i64 p5)],[(4,false,.box [.bool false,.nil])]⟩
theorem Ae.Made.Av:Ae.Made.L0 N (M+1) n l p5=bif ((!(Bd 0 p5))||((decide (0≤(Ab (p5-1))))&&(decide ((Ab (p5-1))<(length l:Int))))) then bif ((Bd 0 p5)&&((getD l (toNat (Ab (p5-1))) 0)==(0:Int))) then Ae.Made.L0 N M n l (Ab (p5-1)) else bif (p5==(0:Int)) then some (.agg [.bool false,.nil]) else bif ((decide ((0:Int)≤p5))&&(decide (p5≤(length l:Int)))) then some (.agg [.bool n,.ints .arg .u32 (List.take (toNat p5) l)]) else none else none :=
 Eq.trans (by kernel_rfl)
 (Ax (Oj (Bd 0 p5)) (Ax (Oj (Bd 0 p5)) (Ax (L7 (Bd 0 p5)) (Cp (Azq (Bd 0 p5) (decide (0≤(Ab (p5-1)))) (decide ((Ab (p5-1))<(length l:Int)))) (Ax (L7 (Bd 0 p5)) (Ax (L7 (Bd 0 p5)) (Ax (Th (Bd 0 p5)) (Cp (tt1 (Bd 0 p5) ((getD l (toNat (Ab (p5-1))) 0)==(0:Int))) rfl (Ec rfl (Cp (I9 (decide ((0:Int)≤p5)) (decide (p5≤(length l:Int)))) rfl rfl)))))) rfl))))
theorem Ae.Made.ev:Bu Ae.Made.E N f171 (Am f171) [.bool n,.ints .arg .u32 l] =
 Ae.Made.L0 N N n l (length l:Int):=by kernel_rfl
end
abbrev _root_.Go.Proofs.S1.Ae.Made.Kn:=A7 prog 171 Ae.Made.spec
theorem Ae.Made.Ac (hk:A1 prog Ae.Made.Bc) (h:Hyp Ae.Made.E f171 Ae.Made.ts Ae.Made.pre Ae.Made.out):Ae.Made.Kn :=
 Al (A2 hk _ _ _) func171 (by kernel_rfl) (by kernel_rfl) h
def Ae.Of.Bc:List (Nat × Entry):=[(171,Ae.Made.spec)]
def Ae.Of.E:Env:=Be (Bb Ae.Of.Bc) (fun _=>false) (fun _=>none) (fun _=>none)
theorem Ae.Of.ev (N:Nat) (n:Int):Bu Ae.Of.E N f115 (Am f115) [.int .i64 n]=bif (Bd n 0) then bif (Gq [(Jm (Int.tmod (Bm ((Bm (Ab (0-(Ab (n+1)))))+1)) 4294967296)),(Jm (Bm (Int.tdiv (Bm ((Bm (Ab (0-(Ab (n+1)))))+1)) 4294967296)))]) then some (.agg [.bool (A6 (wv true [(Jm (Int.tmod (Bm ((Bm (Ab (0-(Ab (n+1)))))+1)) 4294967296)),(Jm (Bm (Int.tdiv (Bm ((Bm (Ab (0-(Ab (n+1)))))+1)) 4294967296)))])),.ints .arg .u32 (Aj (wv true [(Jm (Int.tmod (Bm ((Bm (Ab (0-(Ab (n+1)))))+1)) 4294967296)),(Jm (Bm (Int.tdiv (Bm ((Bm (Ab (0-(Ab (n+1)))))+1)) 4294967296)))]))]) else none else bif (Gq [(Jm (Int.tmod n 4294967296)),(Jm (Ab (Int.tdiv n 4294967296)))]) then some (.agg [.bool (A6 (wv false [(Jm (Int.tmod n 4294967296)),(Jm (Ab (Int.tdiv n 4294967296)))])),.ints .arg .u32 (Aj (wv false [(Jm (Int.tmod n 4294967296)),(Jm (Ab (Int.tdiv n 4294967296)))]))]) else none:=by kernel_rfl
abbrev _root_.Go.Proofs.S1.Ae.Of.Kn:=A7 prog 115 Ae.Of.spec
theorem Ae.Of.Ac (hk:A1 prog Ae.Of.Bc) (h:Hyp Ae.Of.E f115 Ae.Of.ts Ae.Of.pre Ae.Of.out):Ae.Of.Kn :=
 Al (A2 hk _ _ _) func115 (by kernel_rfl) (by kernel_rfl) h
def Ae.Ij.hint:Nat→Option Bg
 | 0=>some { keep:=[0,1,5],objs:=[],boxes:=[] }
 | _=>none
def Ae.Ij.Bc:List (Nat × Entry):=[(221,Ae.Jf.spec)]
def Ae.Ij.E:Env:=Be (Bb Ae.Ij.Bc) (fun _=>false) Ae.Ij.hint (fun _=>none)
section
variable (N M:Nat) (a b:List Int) (p5:Int)
def Ae.Ij.L0:Option DV:=Bx Ae.Ij.E N f176 (Am f176) [1,0,1,0] [] M ⟨E5 29 [(0,.ints .arg .u32 a),(1,.ints .arg .u32 b),(5,.int .i64 p5)],[]⟩
theorem Ae.Ij.Av:Ae.Ij.L0 N (M+1) a b p5=bif (Es 0 p5) then bif (Gq a) then bif (Gq b) then bif (Bd (Hg a p5) (Hg b p5)) then some (.int .i64 (-1:Int)) else bif (Gq a) then bif (Gq b) then bif (Bd (Hg b p5) (Hg a p5)) then some (.int .i64 1) else Ae.Ij.L0 N M a b (Ab (p5-1)) else none else none else none else none else some (.int .i64 0):=by kernel_rfl
theorem Ae.Ij.ev:Bu Ae.Ij.E N f176 (Am f176) [.ints .arg .u32 a,.ints .arg .u32 b] =
 Ae.Ij.L0 N N a b (max (length a:Int) (length b:Int)):=by kernel_rfl
end
abbrev _root_.Go.Proofs.S1.Ae.Ij.Kn:=A7 prog 176 Ae.Ij.spec
theorem Ae.Ij.Ac (hk:A1 prog Ae.Ij.Bc) (h:Hyp Ae.Ij.E f176 Ae.Ij.ts Ae.Ij.pre Ae.Ij.out):Ae.Ij.Kn :=
 Al (A2 hk _ _ _) func176 (by kernel_rfl) (by kernel_rfl) h
def Ae.plus.hint:Nat→Option Bg
 | 0=>some { keep:=[0,1,5,6,7],objs:=[(0,5,100005,.ints 173 .u32 [])],boxes:=[] }
 | _=>none
def Ae.plus.Bc:List (Nat × Entry):=[(221,Ae.Jf.spec)]
def Ae.plus.E:Env:=Be (Bb Ae.plus.Bc) (fun _=>false) Ae.plus.hint (fun _=>none)
section
variable (N M:Nat) (a b:List Int) (p6 p7:Int) (p5:List Int)
def Ae.plus.L0:Option DV:=Bx Ae.plus.E N f174 (Am f174) [1,1,1,0,1,0] [] M ⟨E5 37 [(0,.ints .arg .u32 a),(1,.ints .arg .u32 b),(5,.oref 100005),(6,.int .u64 p6),(7,.int .i64 p7)],[(100005,false,.ints 173 .u32 p5)]⟩
theorem Ae.plus.Av:Ae.plus.L0 N (M+1) a b p6 p7 p5=bif (Es p7 (max (length a:Int) (length b:Int))) then bif (Gq a) then bif (Gq b) then bif (decide ((length p5)+1≤Gw)) then Ae.plus.L0 N M a b (Bm (Int.tdiv (Bm ((Bm ((Hg a p7)+(Hg b p7)))+p6)) 4294967296)) (Ab (p7+1)) (p5++[(Jm (Int.tmod (Bm ((Bm ((Hg a p7)+(Hg b p7)))+p6)) 4294967296))]) else none else none else none else some (.ints (.own 100005 173) .u32 p5):=by kernel_rfl
theorem Ae.plus.ev:Bu Ae.plus.E N f174 (Am f174) [.ints .arg .u32 a,.ints .arg .u32 b] =
 Ae.plus.L0 N N a b 0 0 []:=by kernel_rfl
end
abbrev _root_.Go.Proofs.S1.Ae.plus.Kn:=A7 prog 174 Ae.plus.spec
theorem Ae.plus.Ac (hk:A1 prog Ae.plus.Bc) (h:Hyp Ae.plus.E f174 Ae.plus.ts Ae.plus.pre Ae.plus.out):Ae.plus.Kn :=
 Al (A2 hk _ _ _) func174 (by kernel_rfl) (by kernel_rfl) h
def Ae.minus.hint:Nat→Option Bg
 | 0=>some { keep:=[0,1,5,6,7],objs:=[(0,5,100005,.ints 173 .u32 [])],boxes:=[] }
 | _=>none
def Ae.minus.Bc:List (Nat × Entry):=[(221,Ae.Jf.spec)]
def Ae.minus.E:Env:=Be (Bb Ae.minus.Bc) (fun _=>false) Ae.minus.hint (fun _=>none)
section
variable (N M:Nat) (a b:List Int) (p6 p7:Int) (p5:List Int)
def Ae.minus.L0:Option DV:=Bx Ae.minus.E N f177 (Am f177) [1,1,1,0,1,0] [] M ⟨E5 36 [(0,.ints .arg .u32 a),(1,.ints .arg .u32 b),(5,.oref 100005),(6,.int .u64 p6),(7,.int .i64 p7)],[(100005,false,.ints 173 .u32 p5)]⟩
theorem Ae.minus.Av:Ae.minus.L0 N (M+1) a b p6 p7 p5=bif (Bd p7 (length a:Int)) then bif (Gq a) then bif (Gq b) then bif (decide ((length p5)+1≤Gw)) then Ae.minus.L0 N M a b (Bm ((1:Int)-(Bm (Int.tdiv (Bm ((Bm ((Bm ((4294967296:Int)+(Hg a p7)))-(Hg b p7)))-p6)) 4294967296)))) (Ab (p7+1)) (p5++[(Jm (Int.tmod (Bm ((Bm ((Bm ((4294967296:Int)+(Hg a p7)))-(Hg b p7)))-p6)) 4294967296))]) else none else none else none else some (.ints (.own 100005 173) .u32 p5):=by kernel_rfl
theorem Ae.minus.ev:Bu Ae.minus.E N f177 (Am f177) [.ints .arg .u32 a,.ints .arg .u32 b] =
 Ae.minus.L0 N N a b 0 0 []:=by kernel_rfl
end
abbrev _root_.Go.Proofs.S1.Ae.minus.Kn:=A7 prog 177 Ae.minus.spec
theorem Ae.minus.Ac (hk:A1 prog Ae.minus.Bc) (h:Hyp Ae.minus.E f177 Ae.minus.ts Ae.minus.pre Ae.minus.out):Ae.minus.Kn :=
 Al (A2 hk _ _ _) func177 (by kernel_rfl) (by kernel_rfl) h
def Ae.Add.Bc:List (Nat × Entry):=[(171,Ae.Made.spec),(176,Ae.Ij.spec),(177,Ae.minus.spec),(174,Ae.plus.spec)]
def Ae.Add.E:Env:=Be (Bb Ae.Add.Bc) (fun _=>false) (fun _=>none) (fun _=>none)
theorem Ae.Add.ev (N:Nat) (n:Bool) (a:List Int) (m:Bool) (b:List Int):Bu Ae.Add.E N f112 (Am f112) [.agg [.bool n,.ints .arg .u32 a],.agg [.bool m,.ints .arg .u32 b]]=bif (n==m) then bif (Gq a&&Gq b) then bif (Gq (Jj a b)) then some (.agg [.bool (A6 (wv n (Jj a b))),.ints .arg .u32 (Aj (wv n (Jj a b)))]) else none else none else bif (Gq a&&Gq b) then bif (Bd (Wv (Cf a) (Cf b)) 0) then bif ((Gq b&&Gq a)&&leL a b) then bif (Gq (H5 b a)) then some (.agg [.bool (A6 (wv m (H5 b a))),.ints .arg .u32 (Aj (wv m (H5 b a)))]) else none else none else bif ((Gq a&&Gq b)&&leL b a) then bif (Gq (H5 a b)) then some (.agg [.bool (A6 (wv n (H5 a b))),.ints .arg .u32 (Aj (wv n (H5 a b)))]) else none else none else none :=
 Eq.trans (by kernel_rfl)
 (Ec (Cp (Cd (Gq a&&Gq b)) (Cp (Cd (Gq (Jj a b))) rfl rfl) rfl) (Ec (Ec (Cp (Cd ((Gq b&&Gq a)&&leL a b)) (Cp (Cd (Gq (H5 b a))) rfl rfl) rfl) (Cp (Cd ((Gq a&&Gq b)&&leL b a)) (Cp (Cd (Gq (H5 a b))) rfl rfl) rfl)) rfl))
abbrev _root_.Go.Proofs.S1.Ae.Add.Kn:=A7 prog 112 Ae.Add.spec
theorem Ae.Add.Ac (hk:A1 prog Ae.Add.Bc) (h:Hyp Ae.Add.E f112 Ae.Add.ts Ae.Add.pre Ae.Add.out):Ae.Add.Kn :=
 Al (A2 hk _ _ _) func112 (by kernel_rfl) (by kernel_rfl) h
def Ae.Neg.Bc:List (Nat × Entry):=[(171,Ae.Made.spec)]
def Ae.Neg.E:Env:=Be (Bb Ae.Neg.Bc) (fun _=>false) (fun _=>none) (fun _=>none)
theorem Ae.Neg.ev (N:Nat) (n:Bool) (a:List Int):Bu Ae.Neg.E N f143 (Am f143) [.agg [.bool n,.ints .arg .u32 a]]=bif (Gq a) then some (.agg [.bool (A6 (wv (!n) a)),.ints .arg .u32 (Aj (wv (!n) a))]) else none:=by kernel_rfl
abbrev _root_.Go.Proofs.S1.Ae.Neg.Kn:=A7 prog 143 Ae.Neg.spec
theorem Ae.Neg.Ac (hk:A1 prog Ae.Neg.Bc) (h:Hyp Ae.Neg.E f143 Ae.Neg.ts Ae.Neg.pre Ae.Neg.out):Ae.Neg.Kn :=
 Al (A2 hk _ _ _) func143 (by kernel_rfl) (by kernel_rfl) h
end EqRefA
open EqRefA
theorem Ae.Jf.known:Ae.Jf.Kn:=Ae.Jf.Ac .nil fun l i hp=>by
 obtain ⟨hl,hi⟩:=Km hp
 refine ⟨0,Ae.Jf.out [.l l,.i i],[],?_,.int⟩
 rw [Ae.Jf.ev,Ej,Aw]
 show _=some (DV.int .u64 (Hg l i))
 by_cases h0:0≤i
 ·obtain ⟨k,rfl⟩:∃ k:Nat,i=k:=⟨i.toNat,by omega⟩
  have hv:=H8 hi k
  have hg:=Oc hi k
  rw [hv,A06,hg,A05 h0,A2h]
  by_cases h1:(k:Int)<(l.length:Int)
  ·rw [A05 h1,A04,A04,Dh (by omega) (by omega)]
  ·have h2:l.getD k 0=0:=by
    rw [A1e,A2m (by omega)]; rfl
   rw [h2] at hg
   rw [A09 h1,A08,← hg]
 ·have:Hg l i=0:=by unfold Hg; rw [A1q h0]
  rw [A09 h0,Bool.false_and,A08,this]
theorem Acx {drops:List Nat} {b:Bool} {l:List Int}:Wk drops (.agg [.bool b,.ints .arg .u32 l]) (.agg [.bool b,.ints .arg .u32 l]):=Wk.Gy (.cons .bool (.cons .Qv .nil))
theorem Aml:A6 0=false:=rfl
theorem Agr:Aj 0=[]:=rfl
theorem Amv (N:Nat) (n:Bool) {l:List Int} (hl:l.length<1073741824) (hi:Vm l):∀ (p F:Nat),p≤l.length→p<F→Cf l<2^(32*p) →
 ∃ dv,Ae.Made.L0 N F n l (p:Int)=some dv∧Wk [] dv (.agg [.bool (A6 (wv n l)),.ints .arg .u32 (Aj (wv n l))]):=by
 have hlast:∀ p,p≤l.length→Dv (Cf l)=p→p≠0→some (DV.agg [.bool n,.ints .arg .u32 (l.take p)])=some (DV.agg [.bool (A6 (wv n l)),.ints .arg .u32 (Aj (wv n l))]):=by
  intro p hp hq h0
  have h1:=Ai6 hi
  rw [hq] at h1
  have h2:Cf l≠0:=fun h=>by rw [h] at hq; exact h0 hq.symm
  have e:(wv n l).natAbs=Cf l:=by unfold wv Hv; split<;>omega
  have e1:Aj (wv n l)=Qq (Cf l):=by unfold Aj; rw [e]
  have e2:A6 (wv n l)=n:=by unfold A6 wv Hv; cases n<;>simp<;>omega
  rw [h1,e1,e2]
 intro p
 induction p with
 | zero =>
   intro F hp hF hv
   obtain ⟨F,rfl⟩:∃ G,F=G+1:=⟨F-1,by omega⟩
   have hz:wv n l=0:=by
    have:Cf l=0:=by rw [Nat.mul_zero,A12] at hv; omega
    unfold wv Hv; rw [this]; cases n<;>rfl
   refine ⟨.agg [.bool false,.nil],?_,?_⟩
   ·rw [Ae.Made.Av,Aw]; rfl
   ·rw [hz,Aml,Agr]
    exact Wk.Gy (.cons .bool (.cons (.nil _ _) .nil))
 | succ p ih =>
   intro F hp hF hv
   obtain ⟨F,rfl⟩:∃ G,F=G+1:=⟨F-1,by omega⟩
   rw [Ae.Made.Av,Aw,An (by omega) (by omega)]
   have e0:((p+1:Nat):Int)-1=(p:Int):=by omega
   have t0:decide ((0:Int)<((p+1:Nat):Int))=true:=A05 (by omega)
   have t1:decide ((0:Int)≤(p:Int))=true:=by simp
   have t2:decide ((p:Int)<(l.length:Int))=true:=by simp; omega
   have hg:=Oc hi p
   have hq:Cf l / 2^(32*p)<4294967296:=by
    rw [Nat.div_lt_iff_lt_mul (Cw _),← Mg]; exact hv
   rw [A1h hq] at hg
   rw [e0,t0,t1,t2,A06,hg]
   simp only [A13,A1a,Bool.false_or,A04,A2h]
   by_cases hz:Cf l / 2^(32*p)=0
   ·have:(((Cf l / 2^(32*p):Nat):Int)==0)=true:=by rw [hz]; rfl
    rw [this,A04]
    refine ih F (by omega) (by omega) ?_
    rcases A11 (Cf l) (2^(32*p)) with h | h
    ·exact h
    ·have:=Nat.div_pos h (Cw _); omega
   ·have:(((Cf l / 2^(32*p):Nat):Int)==0)=false:=by simp only [A1z,ne_eq]; omega
    have t3:(((p+1:Nat):Int)==0)=false:=by simp only [A1z,ne_eq]; omega
    have t4:decide (((p+1:Nat):Int)≤(l.length:Int))=true:=by simp; omega
    have t5:decide ((0:Int)≤((p+1:Nat):Int))=true:=A05 (by omega)
    rw [this,A08,t3,A08,t4,t5,A1a,A04,A06]
    have hlen:Dv (Cf l)=p+1:=by
     have a1:=Mq hv
     have a2:=Ath (n:=Cf l) (k:=p) (by
      rcases A11 (Cf l) (2^(32*p)) with h | h
      ·exact absurd (Nat.div_eq_of_lt h) hz
      ·exact h)
     omega
    exact ⟨_,hlast (p+1) hp hlen (by omega),Acx⟩
theorem Ae.Made.known:Ae.Made.Kn:=Ae.Made.Ac .nil fun n l hp=>by
 obtain ⟨hl,hi⟩:=Km hp
 obtain ⟨dv,h1,h2⟩:=Amv (l.length+1) n hl hi l.length (l.length+1) (A1y _) (by omega) (Kg hi)
 exact ⟨l.length+1,dv,[],by rw [Ae.Made.ev]; exact h1,h2⟩
theorem Abd {a b:Int} (ha:0≤a∧a<4294967296) (hb:0≤b∧b<4294967296):Gq [a,b]=true :=
 Kl (show 2<1073741824 by decide) fun x hx=>by
  rcases List.mem_cons.1 hx with rfl | hx
  ·exact ha
  ·rcases List.mem_cons.1 hx with rfl | hx
   ·exact hb
   ·cases hx
theorem Agp:(4294967296:Int)=((4294967296:Nat):Int):=rfl
theorem Ae.Of.known:Ae.Of.Kn:=Ae.Of.Ac (.cons Ae.Made.known .nil) fun n hp=>by
 have hp:=Au.1 hp
 refine ⟨0,Ae.Of.out [.i n],[],?_,Acx⟩
 rw [Ae.Of.ev,Aw]
 show _=some (DV.agg [.bool (A6 n),.ints .arg .u32 (Aj n)])
 by_cases h:n<0
 ·obtain ⟨k,rfl⟩:∃ k:Nat,n=-(k:Int):=⟨(-n).toNat,by omega⟩
  have e1:Bm (Bm (Ab (0-Ab (-(k:Int)+1)))+1)=(k:Int):=by
   rw [An (x:=-(k:Int)+1) (by omega) (by omega),An (by omega) (by omega),Dh (x:=0-(-(k:Int)+1)) (by omega) (by omega),Dh (by omega) (by omega)]; omega
  rw [A05 h,A04,e1,Agp,Jn,Jo,Jl (by omega) (by omega),Dh (by omega) (by omega),Jl (by omega) (by omega),
   Abd (by omega) (by omega),A04]
  have e2:wv true [((k%4294967296:Nat):Int),((k / 4294967296:Nat):Int)]=-(k:Int):=by
   unfold wv Hv Cf Cf Cf
   rw [A1r rfl,A06,A06]
   omega
  rw [e2]
 ·obtain ⟨k,rfl⟩:∃ k:Nat,n=(k:Int):=⟨n.toNat,by omega⟩
  rw [A09 h,A08,Agp,Jn,Jo,Jl (by omega) (by omega),An (by omega) (by omega),Jl (by omega) (by omega),
   Abd (by omega) (by omega),A04]
  have e2:wv false [((k%4294967296:Nat):Int),((k / 4294967296:Nat):Int)]=(k:Int):=by
   unfold wv Hv Cf Cf Cf
   rw [A1q (by decide),A06,A06]
   omega
  rw [e2]
theorem Ae.Neg.known:Ae.Neg.Kn:=Ae.Neg.Ac (.cons Ae.Made.known .nil) fun n a hp=>by
 obtain ⟨v,rfl,rfl,hv⟩:=Io hp
 refine ⟨0,Ae.Neg.out [.b (A6 v),.l (Aj v)],[],?_,Acx⟩
 rw [Ae.Neg.ev,O8 (by omega),A04,Aut]
 rfl
open EqRefA
theorem Amt (N:Nat) {a b:List Int} (ha:Gq a=true) (hb:Gq b=true):∀ (j F:Nat),j<4000000000→j<F→Cf a / 2^(32*j)=Cf b / 2^(32*j) →
 Ae.Ij.L0 N F a b ((j:Int)-1)=some (.int .i64 (Wv (Cf a) (Cf b))):=by
 have ia:=(Km ha).2
 have ib:=(Km hb).2
 intro j
 induction j with
 | zero =>
   intro F hj hF h
   obtain ⟨F,rfl⟩:∃ G,F=G+1:=⟨F-1,by omega⟩
   rw [Nat.mul_zero,A12,Nat.div_one,Nat.div_one] at h
   have e:Wv (Cf a) (Cf b)=0:=by unfold Wv; rw [A1q (by omega),A1q (by omega)]
   rw [Ae.Ij.Av,Ej,e]
   rfl
 | succ j ih =>
   intro F hj hF h
   obtain ⟨F,rfl⟩:∃ G,F=G+1:=⟨F-1,by omega⟩
   have e0:((j+1:Nat):Int)-1=(j:Int):=by omega
   have t0:decide ((0:Int)≤(j:Int))=true:=A05 (by omega)
   rw [Mg,A1s,← A1x,← A1x] at h
   have up:Cf a / 2^(32*j)<Cf b / 2^(32*j)→Cf a<Cf b:=fun k=>by
    rcases A11 (Cf a) (Cf b) with h1 | h1
    ·exact h1
    ·have:=Nat.div_le_div_right (c:=2^(32*j)) h1; omega
   have down:Cf b / 2^(32*j)<Cf a / 2^(32*j)→Cf b<Cf a:=fun k=>by
    rcases A11 (Cf b) (Cf a) with h1 | h1
    ·exact h1
    ·have:=Nat.div_le_div_right (c:=2^(32*j)) h1; omega
   rw [Ae.Ij.Av,e0,Ej,t0,A04,ha,hb,A04,A04,Aw,Aw,H8 ia,H8 ib,An (by omega) (by omega)]
   have ih:=ih F (by omega) (by omega)
   generalize Cf a / 2^(32*j)=x at *
   generalize Cf b / 2^(32*j)=y at *
   by_cases h1:x%4294967296<y%4294967296
   ·have e:Wv (Cf a) (Cf b)=-1:=by unfold Wv; rw [A1r (up (by omega))]
    rw [A05 (by omega),A04,e]
   ·rw [A09 (by omega),A08]
    by_cases h2:y%4294967296<x%4294967296
    ·have:=down (by omega)
     have e:Wv (Cf a) (Cf b)=1:=by unfold Wv; rw [A1q (by omega),A1r this]
     rw [A05 (by omega),A04,e]
     rfl
    ·rw [A09 (by omega),A08]
     exact ih (by omega)
theorem Ak4 {l:List Int} (h:Vm l) {j:Nat} (hj:l.length≤j):Cf l / 2^(32*j)=0 :=
 Nat.div_eq_of_lt (A2f (Kg h) (A1j (by decide) (by omega)))
theorem Ae.Ij.known:Ae.Ij.Kn:=Ae.Ij.Ac (.cons Ae.Jf.known .nil) fun a b hp=>by
 obtain ⟨ha,hb⟩:=Ad.1 hp
 obtain ⟨la,ia⟩:=Km ha
 obtain ⟨lb,ib⟩:=Km hb
 refine ⟨max a.length b.length+2,Ae.Ij.out [.l a,.l b],[],?_,.int⟩
 rw [Ae.Ij.ev]
 have e:max (a.length:Int) (b.length:Int)=((max a.length b.length+1:Nat):Int)-1:=by omega
 rw [e]
 exact Amt _ ha hb _ _ (by omega) (by omega) (by rw [Ak4 ia (by omega),Ak4 ib (by omega)])
theorem Abt (N:Nat) {a b:List Int} (ha:Gq a=true) (hb:Gq b=true):∀ (k i c F:Nat),i+k=max a.length b.length+1→k<F→c≤1 →
 Cf a / 2^(32*i)+Cf b / 2^(32*i)+c=(Cf a+Cf b) / 2^(32*i) →
 Ae.plus.L0 N F a b (c:Int) (i:Int) (digits i (Cf a+Cf b))=some (.ints (.own 100005 tW) .u32 (Jj a b)):=by
 obtain ⟨la,ia⟩:=Km ha
 obtain ⟨lb,ib⟩:=Km hb
 intro k
 induction k with
 | zero =>
   intro i c F hi hF hc h
   obtain ⟨F,rfl⟩:∃ G,F=G+1:=⟨F-1,by omega⟩
   have t0:decide ((i:Int)≤max (a.length:Int) (b.length:Int))=false:=A09 (by omega)
   rw [Ae.plus.Av,Ej,t0,A08]
   unfold Jj
   rw [show i=max a.length b.length+1 by omega]
 | succ k ih =>
   intro i c F hi hF hc h
   obtain ⟨F,rfl⟩:∃ G,F=G+1:=⟨F-1,by omega⟩
   have t0:decide ((i:Int)≤max (a.length:Int) (b.length:Int))=true:=A05 (by omega)
   have t1:decide ((digits i (Cf a+Cf b)).length+1≤Gw)=true:=A05 (by rw [Ef]; unfold Gw; omega)
   rw [Ae.plus.Av,Ej,t0,ha,hb,t1]
   simp only [A04]
   rw [H8 ia,H8 ib]
   have ih:=ih (i+1)
   rw [Mg,A1s 4294967296,← A1x,← A1x,← A1x,Kc] at ih
   generalize Cf a / 2^(32*i)=x at *
   generalize Cf b / 2^(32*i)=y at *
   generalize (Cf a+Cf b) / 2^(32*i)=z at *
   have e1:Bm (Bm (((x%4294967296:Nat):Int)+((y%4294967296:Nat):Int))+(c:Int))=((x%4294967296+y%4294967296+c:Nat):Int):=by
    rw [Dh (x:=((x%4294967296:Nat):Int)+((y%4294967296:Nat):Int)) (by omega) (by omega),Dh (by omega) (by omega)]; omega
   rw [e1,Agp,Jn,Jo,Jl (by omega) (by omega),Dh (by omega) (by omega),An (by omega) (by omega)]
   have e2:(x%4294967296+y%4294967296+c)%4294967296=z%4294967296:=by omega
   rw [e2]
   exact ih ((x%4294967296+y%4294967296+c) / 4294967296) F (by omega) (by omega) (by omega) (by omega)
theorem Ado {i:Nat} {e:TypeId} {k:IntKind} {l:List Int}:Wk [i] (.ints (.own i e) k l) (.ints .arg k l):=.dropA i e k l (List.mem_singleton.2 rfl)
theorem Ae.plus.known:Ae.plus.Kn:=Ae.plus.Ac (.cons Ae.Jf.known .nil) fun a b hp=>by
 obtain ⟨ha,hb⟩:=Ad.1 hp
 refine ⟨max a.length b.length+2,.ints (.own 100005 tW) .u32 (Jj a b),[100005],?_,Ado⟩
 rw [Ae.plus.ev]
 exact Abt _ ha hb (max a.length b.length+1) 0 0 _ (by omega) (by omega) (by omega) (by simp)
theorem Aiv (N:Nat) {a b:List Int} (ha:Gq a=true) (hb:Gq b=true):∀ (k i w F:Nat),i+k=a.length→k<F→w≤1 →
 Cf a / 2^(32*i)=Cf b / 2^(32*i)+(Cf a-Cf b) / 2^(32*i)+w →
 Ae.minus.L0 N F a b (w:Int) (i:Int) (digits i (Cf a-Cf b))=some (.ints (.own 100005 tW) .u32 (H5 a b)):=by
 obtain ⟨la,ia⟩:=Km ha
 obtain ⟨lb,ib⟩:=Km hb
 intro k
 induction k with
 | zero =>
   intro i c F hi hF hc h
   obtain ⟨F,rfl⟩:∃ G,F=G+1:=⟨F-1,by omega⟩
   have t0:decide ((i:Int)<(a.length:Int))=false:=A09 (by omega)
   rw [Ae.minus.Av,Aw,t0,A08]
   unfold H5
   rw [show i=a.length by omega]
 | succ k ih =>
   intro i w F hi hF hc h
   obtain ⟨F,rfl⟩:∃ G,F=G+1:=⟨F-1,by omega⟩
   have t0:decide ((i:Int)<(a.length:Int))=true:=A05 (by omega)
   have t1:decide ((digits i (Cf a-Cf b)).length+1≤Gw)=true:=A05 (by rw [Ef]; unfold Gw; omega)
   rw [Ae.minus.Av,Aw,t0,ha,hb,t1]
   simp only [A04]
   rw [H8 ia,H8 ib]
   have ih:=ih (i+1)
   rw [Mg,A1s 4294967296,← A1x,← A1x,← A1x,Kc] at ih
   generalize Cf a / 2^(32*i)=x at *
   generalize Cf b / 2^(32*i)=y at *
   generalize (Cf a-Cf b) / 2^(32*i)=z at *
   have e1:Bm (Bm (Bm ((4294967296:Int)+((x%4294967296:Nat):Int))-((y%4294967296:Nat):Int))-(w:Int))=((4294967296+x%4294967296-y%4294967296-w:Nat):Int):=by
    rw [Dh (x:=(4294967296:Int)+((x%4294967296:Nat):Int)) (by omega) (by omega),Dh (x:=(4294967296:Int)+((x%4294967296:Nat):Int)-((y%4294967296:Nat):Int)) (by omega) (by omega),Dh (by omega) (by omega)]; omega
   have e2:(4294967296+x%4294967296-y%4294967296-w)%4294967296=z%4294967296:=by omega
   have e3:Bm ((1:Int)-(((4294967296+x%4294967296-y%4294967296-w) / 4294967296:Nat):Int))=((1-(4294967296+x%4294967296-y%4294967296-w) / 4294967296:Nat):Int):=by
    rw [Dh (by omega) (by omega)]; omega
   rw [e1,Agp,Jn,Jo,Jl (by omega) (by omega),Dh (x:=(((4294967296+x%4294967296-y%4294967296-w) / 4294967296:Nat):Int)) (by omega) (by omega),An (by omega) (by omega),e2,e3]
   exact ih (1-(4294967296+x%4294967296-y%4294967296-w) / 4294967296) F (by omega) (by omega) (by omega) (by omega)
theorem Ae.minus.known:Ae.minus.Kn:=Ae.minus.Ac (.cons Ae.Jf.known .nil) fun a b hp=>by
 obtain ⟨h1,hle⟩:=Ad.1 hp
 obtain ⟨ha,hb⟩:=Ad.1 h1
 have hle:=Au.1 hle
 refine ⟨a.length+1,.ints (.own 100005 tW) .u32 (H5 a b),[100005],?_,Ado⟩
 rw [Ae.minus.ev]
 exact Aiv _ ha hb a.length 0 0 _ (by omega) (by omega) (by omega) (by simp; omega)
theorem Gl (v:Int):Vm (Aj v):=Agq _
theorem An4 {v w:Int} (h:A6 v=A6 w):wv (A6 v) (Jj (Aj v) (Aj w))=v+w:=by
 unfold wv
 rw [Abu (Gl _) (Gl _),Eb,Eb]
 unfold A6 at h ⊢
 unfold Hv
 rw [decide_eq_decide] at h
 by_cases hv:v<0
 ·have hw:=h.1 hv
  rw [A05 hv,A1r rfl]; omega
 ·have hw:¬ w<0:=fun k=>hv (h.2 k)
  rw [A09 hv,A1q (by decide)]; omega
theorem Aj1 {v w:Int} (h:A6 v≠A6 w) (hl:w.natAbs≤v.natAbs):wv (A6 v) (H5 (Aj v) (Aj w))=v+w:=by
 unfold wv
 rw [Aix _ (Gl _),Eb,Eb]
 unfold A6 at h ⊢
 unfold Hv
 rw [ne_eq,decide_eq_decide] at h
 by_cases hv:v<0
 ·have hw:¬ w<0:=fun k=>h ⟨fun _=>k,fun _=>hv⟩
  rw [A05 hv,A1r rfl]; omega
 ·have hw:w<0:=by
   rcases Int.lt_or_le w 0 with k | k
   ·exact k
   ·exact absurd ⟨fun k'=>absurd k' hv,fun k'=>by omega⟩ h
  rw [A09 hv,A1q (by decide)]; omega
theorem Ae.Add.known:Ae.Add.Kn:=Ae.Add.Ac (.cons Ae.Made.known (.cons Ae.Ij.known (.cons Ae.minus.known (.cons Ae.plus.known .nil)))) fun n a m b hp=>by
 obtain ⟨h1,h2⟩:=Ad.1 hp
 obtain ⟨v,rfl,rfl,hv⟩:=Io h1
 obtain ⟨w,rfl,rfl,hw⟩:=Io h2
 refine ⟨0,Ae.Add.out [.b (A6 v),.l (Aj v),.b (A6 w),.l (Aj w)],[],?_,Acx⟩
 have o1:Gq (Aj v)=true:=O8 (by omega)
 have o2:Gq (Aj w)=true:=O8 (by omega)
 rw [Ae.Add.ev,o1,o2,A1a,A04]
 show _=some (DV.agg [.bool (A6 (wv (A6 v) (Aj v)+wv (A6 w) (Aj w))),.ints .arg .u32 (Aj (wv (A6 v) (Aj v)+wv (A6 w) (Aj w)))])
 rw [F1,F1]
 by_cases hs:A6 v=A6 w
 ·have:(A6 v==A6 w)=true:=by simp [hs]
  have o3:Gq (Jj (Aj v) (Aj w))=true:=Kl (by rw [P0,Ch,Ch]; omega) (Y3 _ _)
  rw [this,A04,o3,A04,An4 hs]
 ·have:(A6 v==A6 w)=false:=by simp [hs]
  rw [this,A08,A04,Aw,Eb,Eb,A2h,A2h]
  by_cases hl:v.natAbs<w.natAbs
  ·have e:decide (Wv v.natAbs w.natAbs<0)=true:=A05 (by unfold Wv; rw [A1r hl]; decide)
   have o3:Gq (H5 (Aj w) (Aj v))=true:=Kl (by rw [S6,Ch]; omega) (Ab2 _ _)
   have o4:leL (Aj v) (Aj w)=true:=Au.2 (by rw [Eb,Eb]; omega)
   rw [e,A04,o4,A04,o3,A04,Aj1 (fun k=>hs k.symm) (by omega),Int.add_comm]
  ·have e:decide (Wv v.natAbs w.natAbs<0)=false:=A09 (by unfold Wv; rw [A1q hl]; split<;>decide)
   have o3:Gq (H5 (Aj v) (Aj w))=true:=Kl (by rw [S6,Ch]; omega) (Ab2 _ _)
   have o4:leL (Aj w) (Aj v)=true:=Au.2 (by rw [Eb,Eb]; omega)
   rw [e,A08,o4,A04,o3,A04,Aj1 hs (by omega)]
namespace EqRefB
def Ae.Fv.Bc:List (Nat × Entry):=[(171,Ae.Made.spec),(174,Ae.plus.spec)]
def Ae.Fv.E:Env:=Be (Bb Ae.Fv.Bc) (fun _=>false) (fun _=>none) (fun _=>none)
theorem Ae.Fv.ev (N:Nat) (n:Bool) (a:List Int):Bu Ae.Fv.E N f222 (Am f222) [.agg [.bool n,.ints .arg .u32 a]]=bif (Gq a&&Gq a) then bif (Gq (Jj a a)) then some (.agg [.bool (A6 (wv n (Jj a a))),.ints .arg .u32 (Aj (wv n (Jj a a)))]) else none else none :=
 Eq.trans (by kernel_rfl)
 (Cp (Cd (Gq a&&Gq a)) (Cp (Cd (Gq (Jj a a))) rfl rfl) rfl)
abbrev _root_.Go.Proofs.S1.Ae.Fv.Kn:=A7 prog 222 Ae.Fv.spec
theorem Ae.Fv.Ac (hk:A1 prog Ae.Fv.Bc) (h:Hyp Ae.Fv.E f222 Ae.Fv.ts Ae.Fv.pre Ae.Fv.out):Ae.Fv.Kn :=
 Al (A2 hk _ _ _) func222 (by kernel_rfl) (by kernel_rfl) h
def Ae.Ht.hint:Nat→Option Bg
 | 0=>some { keep:=[1,2,3,4],objs:=[(0,3,100003,.ints 173 .u32 [])],boxes:=[1,2] }
 | _=>none
def Ae.Ht.Bc:List (Nat × Entry):=[(171,Ae.Made.spec),(221,Ae.Jf.spec)]
def Ae.Ht.E:Env:=Be (Bb Ae.Ht.Bc) (fun _=>false) Ae.Ht.hint (fun _=>none)
section
variable (N M:Nat) (n:Bool) (a:List Int) (p4:Int) (p3:List Int)
def Ae.Ht.L0:Option DV:=Bx Ae.Ht.E N f173 (Am f173) [1,1,0,1,0] [] M ⟨E5 37 [(1,.ptr 1 0 0),(2,.ptr 2 0 0),(3,.oref 100003),(4,.int .i64 p4)],[(1,false,.box [.bool n,.ints .arg .u32 a]),(2,false,.box [.bool false,.nil]),(100003,false,.ints 173 .u32 p3)]⟩
theorem Ae.Ht.Av:Ae.Ht.L0 N (M+1) n a p4 p3=bif (Bd p4 (length a:Int)) then bif (Gq a) then bif (Gq a) then bif ((decide (0≤p4))&&(decide (p4<(length p3:Int)))) then bif (decide ((toNat p4)<(length p3))) then Ae.Ht.L0 N M n a (Ab (p4+1)) (List.set p3 (toNat p4) (Jm (Bm (Int.tdiv (Bm ((Bm ((Int.tmod (Hg a (Ab (p4+1))) 2)*4294967296))+(Hg a p4))) 2)))) else none else none else none else none else bif (Gq p3) then some (.agg [.bool (A6 (wv n p3)),.ints .arg .u32 (Aj (wv n p3))]) else none :=
 Eq.trans (by kernel_rfl)
 (Ec (Cp (Cd (Gq a)) (Cp (Cd (Gq a)) (Cp (I9 (decide (0≤p4)) (decide (p4<(length p3:Int)))) (Cp (Cd (decide ((toNat p4)<(length p3)))) rfl rfl) rfl) rfl) rfl) rfl)
theorem Ae.Ht.ev:Bu Ae.Ht.E N f173 (Am f173) [.agg [.bool n,.ints .arg .u32 a]]=bif (((decide ((0:Int)≤(length a:Int)))&&(decide ((length a:Int)≤(length a:Int))))&&(decide ((length a:Int)≤Gw))) then Ae.Ht.L0 N N n a 0 (List.replicate (toNat (length a:Int)) 0) else none:=by kernel_rfl
end
abbrev _root_.Go.Proofs.S1.Ae.Ht.Kn:=A7 prog 173 Ae.Ht.spec
theorem Ae.Ht.Ac (hk:A1 prog Ae.Ht.Bc) (h:Hyp Ae.Ht.E f173 Ae.Ht.ts Ae.Ht.pre Ae.Ht.out):Ae.Ht.Kn :=
 Al (A2 hk _ _ _) func173 (by kernel_rfl) (by kernel_rfl) h
def Ae.Bt.hint:Nat→Option Bg
 | 0=>some { keep:=[1,2,4],objs:=[],boxes:=[2,4] }
 | 2=>some { keep:=[1,2,4],objs:=[],boxes:=[2,4] }
 | 4=>some { keep:=[1,2,4],objs:=[],boxes:=[2,4] }
 | 6=>some { keep:=[1,2,4],objs:=[],boxes:=[2,4] }
 | _=>none
def Ae.Bt.Bc:List (Nat × Entry):=[(222,Ae.Fv.spec),(173,Ae.Ht.spec),(171,Ae.Made.spec)]
def Ae.Bt.E:Env:=Be (Bb Ae.Bt.Bc) (fun _=>false) Ae.Bt.hint (fun _=>none)
section
variable (N:Nat) (n:Bool) (a:List Int) (k:Int) (M:Nat) (p1_3:Int) (p2_6:Bool) (p2_7:List Int) (p1_2:Int) (p2_4:Bool) (p2_5:List Int) (p1_1:Int) (p2_2:Bool) (p2_3:List Int) (p1:Int) (p2:Bool) (p2_1:List Int)
def Ae.Bt.L0:Option DV:=Bx Ae.Bt.E N f178 (Am f178) [1,0,0] [] M ⟨E5 63 [(1,.int .i64 p1),(2,.ptr 2 0 0),(4,.ptr 4 0 0)],[(2,false,.box [.bool p2,.ints .arg .u32 p2_1]),(4,false,.box [.bool false,.nil])]⟩
def Ae.Bt.L1:Option DV:=Bx Ae.Bt.E N f178 (Am f178) [1,1,0,0] [] M ⟨E5 63 [(1,.int .i64 p1_1),(2,.ptr 2 0 0),(4,.ptr 4 0 0)],[(2,false,.box [.bool p2_2,.ints .arg .u32 p2_3]),(4,false,.box [.bool false,.nil])]⟩
def Ae.Bt.L2:Option DV:=Bx Ae.Bt.E N f178 (Am f178) [1,1,1,0,0] [] M ⟨E5 63 [(1,.int .i64 p1_2),(2,.ptr 2 0 0),(4,.ptr 4 0 0)],[(2,false,.box [.bool p2_4,.ints .arg .u32 p2_5]),(4,false,.box [.bool false,.nil])]⟩
def Ae.Bt.L3:Option DV:=Bx Ae.Bt.E N f178 (Am f178) [1,1,1,1,0,0] [] M ⟨E5 63 [(1,.int .i64 p1_3),(2,.ptr 2 0 0),(4,.ptr 4 0 0)],[(2,false,.box [.bool p2_6,.ints .arg .u32 p2_7]),(4,false,.box [.bool false,.nil])]⟩
theorem Ae.Bt.Av:Ae.Bt.L0 N (M+1) p1 p2 p2_1=bif ((Es 32 p1)&&(Bd 0 (length p2_1:Int))) then bif (decide (1+(length p2_1)≤Gw)) then bif (Gq ([(0:Int)]++p2_1)) then Ae.Bt.L0 N M (Ab (p1-32)) (A6 (wv p2 ([(0:Int)]++p2_1))) (Aj (wv p2 ([(0:Int)]++p2_1))) else none else none else Ae.Bt.L1 N N p1 p2 p2_1 :=
 Eq.trans (by kernel_rfl)
 (Ax (Oj (Es 32 p1)) (Ax (L7 (Es 32 p1)) (Ax (L7 (Es 32 p1)) (Ax (L7 (Es 32 p1)) (Ax (Th (Es 32 p1)) (Cp (tt1 (Es 32 p1) (Bd 0 (length p2_1:Int))) (Cp (Cd (decide (1+(length p2_1)≤Gw))) (Cp (Cd (Gq ([(0:Int)]++p2_1))) rfl rfl) rfl) rfl))))))
theorem Ae.Bt.B6:Ae.Bt.L1 N (M+1) p1_1 p2_2 p2_3=bif ((Bd 0 p1_1)&&(Bd 0 (length p2_3:Int))) then bif (Hs p2_2 p2_3) then Ae.Bt.L1 N M (Ab (p1_1-1)) (A6 (2*wv p2_2 p2_3)) (Aj (2*wv p2_2 p2_3)) else none else Ae.Bt.L2 N N p1_1 p2_2 p2_3 :=
 Eq.trans (by kernel_rfl)
 (Ax (Oj (Bd 0 p1_1)) (Ax (L7 (Bd 0 p1_1)) (Ax (L7 (Bd 0 p1_1)) (Ax (L7 (Bd 0 p1_1)) (Ax (Th (Bd 0 p1_1)) (Cp (tt1 (Bd 0 p1_1) (Bd 0 (length p2_3:Int))) rfl rfl))))))
theorem Ae.Bt.Fl:Ae.Bt.L2 N (M+1) p1_2 p2_4 p2_5=bif ((Es p1_2 (-32:Int))&&(Bd 0 (length p2_5:Int))) then bif (decide ((1:Int)≤(length p2_5:Int))) then bif (Gq (List.drop 1 p2_5)) then Ae.Bt.L2 N M (Ab (p1_2+32)) (A6 (wv p2_4 (List.drop 1 p2_5))) (Aj (wv p2_4 (List.drop 1 p2_5))) else none else none else Ae.Bt.L3 N N p1_2 p2_4 p2_5 :=
 Eq.trans (by kernel_rfl)
 (Ax (Oj (Es p1_2 (-32:Int))) (Ax (L7 (Es p1_2 (-32:Int))) (Ax (L7 (Es p1_2 (-32:Int))) (Ax (L7 (Es p1_2 (-32:Int))) (Ax (Th (Es p1_2 (-32:Int))) (Cp (tt1 (Es p1_2 (-32:Int)) (Bd 0 (length p2_5:Int))) (Cp (Axm (decide ((1:Int)≤(length p2_5:Int)))) (Cp (Cd (Gq (List.drop 1 p2_5))) rfl rfl) rfl) rfl))))))
theorem Ae.Bt.Aev:Ae.Bt.L3 N (M+1) p1_3 p2_6 p2_7=bif ((Bd p1_3 0)&&(Bd 0 (length p2_7:Int))) then bif (Hs p2_6 p2_7) then Ae.Bt.L3 N M (Ab (p1_3+1)) (A6 (Li (wv p2_6 p2_7) 1)) (Aj (Li (wv p2_6 p2_7) 1)) else none else some (.agg [.bool p2_6,.ints .arg .u32 p2_7]) :=
 Eq.trans (by kernel_rfl)
 (Ax (Oj (Bd p1_3 0)) (Ax (L7 (Bd p1_3 0)) (Ax (L7 (Bd p1_3 0)) (Ax (L7 (Bd p1_3 0)) (Ax (Th (Bd p1_3 0)) (Cp (tt1 (Bd p1_3 0) (Bd 0 (length p2_7:Int))) rfl rfl))))))
theorem Ae.Bt.ev:Bu Ae.Bt.E N f178 (Am f178) [.agg [.bool n,.ints .arg .u32 a],.int .i64 k] =
 Ae.Bt.L0 N N k n a:=by kernel_rfl
end
abbrev _root_.Go.Proofs.S1.Ae.Bt.Kn:=A7 prog 178 Ae.Bt.spec
theorem Ae.Bt.Ac (hk:A1 prog Ae.Bt.Bc) (h:Hyp Ae.Bt.E f178 Ae.Bt.ts Ae.Bt.pre Ae.Bt.out):Ae.Bt.Kn :=
 Al (A2 hk _ _ _) func178 (by kernel_rfl) (by kernel_rfl) h
def Ae.Qu.hint:Nat→Option Bg
 | 0=>some { keep:=[3,4],objs:=[],boxes:=[] }
 | _=>none
def Ae.Qu.Bc:List (Nat × Entry):=[]
def Ae.Qu.E:Env:=Be (Bb Ae.Qu.Bc) (fun _=>false) Ae.Qu.hint (fun _=>none)
def Ae.Qu.L0 (N M:Nat) (p3 p4:Int):Option DV:=Bx Ae.Qu.E N f223 (Am f223) [1,1,1,0,1,0] [] M ⟨E5 29 [(3,.int .i64 p3),(4,.int .u32 p4)],[]⟩
theorem Ae.Qu.Av (N M:Nat) (p3 p4:Int):Ae.Qu.L0 N (M+1) p3 p4=bif (Bd 0 p4) then Ae.Qu.L0 N M (Ab (p3+1)) (Jm (Int.tdiv p4 2)) else some (.int .i64 p3):=by kernel_rfl
theorem Ae.Qu.ev (N:Nat) (n:Bool) (a:List Int):Bu Ae.Qu.E N f223 (Am f223) [.agg [.bool n,.ints .arg .u32 a]]=bif ((length a:Int)==(0:Int)) then some (.int .i64 0) else bif ((decide (0≤(Ab ((length a:Int)-1))))&&(decide ((Ab ((length a:Int)-1))<(length a:Int)))) then Ae.Qu.L0 N N (Ab ((32:Int)*(Ab ((length a:Int)-1)))) (getD a (toNat (Ab ((length a:Int)-1))) 0) else none:=by kernel_rfl
abbrev _root_.Go.Proofs.S1.Ae.Qu.Kn:=A7 prog 223 Ae.Qu.spec
theorem Ae.Qu.Ac (hk:A1 prog Ae.Qu.Bc) (h:Hyp Ae.Qu.E f223 Ae.Qu.ts Ae.Qu.pre Ae.Qu.out):Ae.Qu.Kn :=
 Al (A2 hk _ _ _) func223 (by kernel_rfl) (by kernel_rfl) h
def Ae.W2.Bc:List (Nat × Entry):=[]
def Ae.W2.E:Env:=Be (Bb Ae.W2.Bc) (fun _=>false) (fun _=>none) (fun _=>none)
theorem Ae.W2.ev (N:Nat) (n:Bool) (a:List Int):Bu Ae.W2.E N f172 (Am f172) [.agg [.bool n,.ints .arg .u32 a]]=bif ((!(Bd 0 (length a:Int)))||(decide ((0:Int)<(length a:Int)))) then some (.bool (bif (Bd 0 (length a:Int)) then ((Int.tmod (getD a 0 0) 2)==(1:Int)) else false)) else none :=
 Eq.trans (by kernel_rfl)
 (Ax (Oj (Bd 0 (length a:Int))) (Ax (L7 (Bd 0 (length a:Int))) (Cp (Au4 (Bd 0 (length a:Int)) (decide ((0:Int)<(length a:Int)))) (Ax (L7 (Bd 0 (length a:Int))) (Ax (L7 (Bd 0 (length a:Int))) (Ax (L7 (Bd 0 (length a:Int))) (Ax (Th (Bd 0 (length a:Int))) rfl)))) rfl)))
abbrev _root_.Go.Proofs.S1.Ae.W2.Kn:=A7 prog 172 Ae.W2.spec
theorem Ae.W2.Ac (hk:A1 prog Ae.W2.Bc) (h:Hyp Ae.W2.E f172 Ae.W2.ts Ae.W2.pre Ae.W2.out):Ae.W2.Kn :=
 Al (A2 hk _ _ _) func172 (by kernel_rfl) (by kernel_rfl) h
def Ae.Cn.hint:Nat→Option Bg
 | 0=>some { keep:=[2,3,5],objs:=[],boxes:=[2,3] }
 | _=>none
def Ae.Cn.Bc:List (Nat × Entry):=[]
def Ae.Cn.E:Env:=Be (Bb Ae.Cn.Bc) (fun _=>false) Ae.Cn.hint (fun _=>none)
section
variable (N M:Nat) (n:Bool) (a:List Int) (m:Bool) (b:List Int) (p5:Int)
def Ae.Cn.L0:Option DV:=Bx Ae.Cn.E N f133 (Am f133) [1,1,0,1,0] [] M ⟨E5 38 [(2,.ptr 2 0 0),(3,.ptr 3 0 0),(5,.int .i64 p5)],[(2,false,.box [.bool n,.ints .arg .u32 a]),(3,false,.box [.bool m,.ints .arg .u32 b])]⟩
theorem Ae.Cn.Av:Ae.Cn.L0 N (M+1) n a m b p5=bif (Bd p5 (length a:Int)) then bif ((decide (0≤p5))&&(decide (p5<(length a:Int)))) then bif ((decide (0≤p5))&&(decide (p5<(length b:Int)))) then bif ((getD a (toNat p5) 0) !=(getD b (toNat p5) 0)) then some (.bool false) else Ae.Cn.L0 N M n a m b (Ab (p5+1)) else none else none else some (.bool true) :=
 Eq.trans (by kernel_rfl)
 (Ec (Cp (I9 (decide (0≤p5)) (decide (p5<(length a:Int)))) (Cp (I9 (decide (0≤p5)) (decide (p5<(length b:Int)))) rfl rfl) rfl) rfl)
theorem Ae.Cn.ev:Bu Ae.Cn.E N f133 (Am f133) [.agg [.bool n,.ints .arg .u32 a],.agg [.bool m,.ints .arg .u32 b]]=bif ((!(n==m))||((length a:Int) !=(length b:Int))) then some (.bool false) else Ae.Cn.L0 N N n a m b 0 :=
 Eq.trans (by kernel_rfl)
 (Ax (Axl n m) (Ax (Ar4 n m) (Ax (Ar4 n m) (Ax (Axl n m) (Ax (Ar4 n m) (Ax (Ar4 n m) (Ax (Azn n m) (Ax (Azo n m) (Cp (Azp n m ((length a:Int) !=(length b:Int))) rfl rfl)))))))))
end
abbrev _root_.Go.Proofs.S1.Ae.Cn.Kn:=A7 prog 133 Ae.Cn.spec
theorem Ae.Cn.Ac (hk:A1 prog Ae.Cn.Bc) (h:Hyp Ae.Cn.E f133 Ae.Cn.ts Ae.Cn.pre Ae.Cn.out):Ae.Cn.Kn :=
 Al (A2 hk _ _ _) func133 (by kernel_rfl) (by kernel_rfl) h
end EqRefB
open EqRefB
theorem Ae.Fv.known:Ae.Fv.Kn:=Ae.Fv.Ac (.cons Ae.Made.known (.cons Ae.plus.known .nil)) fun n a hp=>by
 obtain ⟨v,rfl,rfl,hv⟩:=Io hp
 refine ⟨0,Ae.Fv.out [.b (A6 v),.l (Aj v)],[],?_,Acx⟩
 have o1:Gq (Aj v)=true:=O8 (by omega)
 have o3:Gq (Jj (Aj v) (Aj v))=true:=Kl (by rw [P0,Ch]; omega) (Y3 _ _)
 rw [Ae.Fv.ev,o1,o3,A1a,A04,A04,An4 rfl]
 show _=some (DV.agg [.bool (A6 (2*wv (A6 v) (Aj v))),.ints .arg .u32 (Aj (2*wv (A6 v) (Aj v)))])
 rw [F1,Int.two_mul]
theorem Avm (l:List Int) (y x:Int) (r:List Int):∀ i,i=l.length→(l++y::r).set i x=l++x::r:=by
 induction l with
 | nil=>intro i h; subst h; rfl
 | cons z l ih =>
   intro i h
   obtain ⟨j,rfl⟩:∃ j,i=j+1:=⟨i-1,by rw [List.length_cons] at h; omega⟩
   show z::(l++y::r).set j x=z::(l++x::r)
   rw [ih j (by rw [List.length_cons] at h; omega)]
theorem Am4 (N:Nat) {v:Int} (hv:Dv v.natAbs<268435456):∀ (k i F:Nat),i+k=Dv v.natAbs→k<F →
 Ae.Ht.L0 N F (A6 v) (Aj v) (i:Int) (digits i (v.natAbs / 2)++List.replicate k 0)=some (.agg [.bool (A6 (Li v 1)),.ints .arg .u32 (Aj (Li v 1))]):=by
 have o1:Gq (Aj v)=true:=O8 (by omega)
 have ia:=Gl v
 intro k
 induction k with
 | zero =>
   intro i F hi hF
   obtain ⟨F,rfl⟩:∃ G,F=G+1:=⟨F-1,by omega⟩
   have t0:decide ((i:Int)<((Aj v).length:Int))=false:=A09 (by rw [Ch]; omega)
   rw [List.replicate_zero,List.append_nil,Ae.Ht.Av,Aw,t0,A08]
   have o3:Gq (digits i (v.natAbs / 2))=true:=Kl (by rw [Ef]; omega) (M9 _ _)
   have e:wv (A6 v) (digits i (v.natAbs / 2))=Li v 1:=by
    unfold wv Li
    rw [J4,A1h,Nat.pow_one]
    have:=Kq v.natAbs
    rw [show i=Dv v.natAbs by omega]
    exact A16 (Nat.div_le_self _ _) this
   rw [o3,A04,e]
 | succ k ih =>
   intro i F hi hF
   obtain ⟨F,rfl⟩:∃ G,F=G+1:=⟨F-1,by omega⟩
   have hlen:(digits i (v.natAbs / 2)++List.replicate (k+1) (0:Int)).length=i+(k+1):=by rw [A1w,Ef,List.length_replicate]
   have t0:decide ((i:Int)<((Aj v).length:Int))=true:=A05 (by rw [Ch]; omega)
   have t1:decide ((0:Int)≤(i:Int))=true:=A05 (by omega)
   have t2:decide ((i:Int)<((digits i (v.natAbs / 2)++List.replicate (k+1) (0:Int)).length:Int))=true:=A05 (by rw [hlen]; omega)
   have t3:decide (i<(digits i (v.natAbs / 2)++List.replicate (k+1) (0:Int)).length)=true:=A05 (by rw [hlen]; omega)
   have e0:Ab ((i:Int)+1)=((i+1:Nat):Int):=by rw [An (by omega) (by omega)]; omega
   rw [Ae.Ht.Av,Aw,t0,o1,A06,t1,t2,t3,A1a]
   simp only [A04]
   rw [e0,H8 ia,H8 ia,Eb]
   have ih:=ih (i+1) F (by omega) (by omega)
   rw [Kc,A1x,A1s 2,← A1x] at ih
   rw [Mg,A1s 4294967296,← A1x,List.replicate_succ,Avm _ _ _ _ i (Ef _ _).symm]
   rw [List.append_assoc] at ih
   generalize v.natAbs / 2^(32*i)=x at *
   have e1:Int.tmod ((x / 4294967296%4294967296:Nat):Int) 2=((x / 4294967296%4294967296%2:Nat):Int):=Jn _ 2
   have e2:Bm (Bm (((x / 4294967296%4294967296%2:Nat):Int)*4294967296)+((x%4294967296:Nat):Int))=((x / 4294967296%4294967296%2*4294967296+x%4294967296:Nat):Int):=by
    rw [Dh (x:=((x / 4294967296%4294967296%2:Nat):Int)*4294967296) (by omega) (by omega),Dh (by omega) (by omega)]; omega
   have e3:Int.tdiv ((x / 4294967296%4294967296%2*4294967296+x%4294967296:Nat):Int) 2=(((x / 4294967296%4294967296%2*4294967296+x%4294967296) / 2:Nat):Int):=Jo _ 2
   have e4:(x / 4294967296%4294967296%2*4294967296+x%4294967296) / 2=x / 2%4294967296:=by omega
   rw [e1,e2,e3,e4,Dh (by omega) (by omega),Jl (by omega) (by omega)]
   exact ih
theorem Ae.Ht.known:Ae.Ht.Kn:=Ae.Ht.Ac (.cons Ae.Made.known (.cons Ae.Jf.known .nil)) fun n a hp=>by
 obtain ⟨v,rfl,rfl,hv⟩:=Io hp
 refine ⟨Dv v.natAbs+1,Ae.Ht.out [.b (A6 v),.l (Aj v)],[],?_,Acx⟩
 show _=some (DV.agg [.bool (A6 (Li (wv (A6 v) (Aj v)) 1)),.ints .arg .u32 (Aj (Li (wv (A6 v) (Aj v)) 1))])
 rw [Ae.Ht.ev,F1,Ch,A05 (by omega),A05 (by omega),A05 (by unfold Gw; omega),A1a,A1a,A04,A06]
 have h:=Am4 (Dv v.natAbs+1) hv (Dv v.natAbs) 0 (Dv v.natAbs+1) (by omega) (by omega)
 rw [digits,List.nil_append] at h
 exact h
def Ah3 (v:Int):Option DV:=some (.agg [.bool (A6 v),.ints .arg .u32 (Aj v)])
theorem Vi (v:Int):Bd (0:Int) ((Aj v).length:Int)=decide (v≠0):=by
 rw [Aw,Ch,decide_eq_decide]
 constructor
 ·intro h e
  rw [e] at h
  exact absurd h (by decide)
 ·intro h
  have:=Ju (n:=v.natAbs) (by omega)
  omega
theorem Avg (N:Nat):∀ (j F:Nat) (v:Int),j<F→j<2000000→Dv v.natAbs<268435456→Ae.Bt.L3 N F (-(j:Int)) (A6 v) (Aj v)=Ah3 (Li v j):=by
 intro j
 induction j with
 | zero =>
   intro F v hF _ hv
   obtain ⟨F,rfl⟩:∃ G,F=G+1:=⟨F-1,by omega⟩
   rw [Ae.Bt.Aev,Aw,A09 (by omega),Bool.false_and,A08,Afn]
   rfl
 | succ j ih =>
   intro F v hF hj hv
   obtain ⟨F,rfl⟩:∃ G,F=G+1:=⟨F-1,by omega⟩
   rw [Ae.Bt.Aev,Aw,A05 (by omega),A2h,Vi]
   by_cases h0:v=0
   ·rw [A09 (by omega),A08,h0,R5]
    rfl
   ·rw [A05 h0,A04,Iz hv,A04,F1,An (by omega) (by omega)]
    have e:-((j+1:Nat):Int)+1=-(j:Int):=by omega
    have hl:Dv (Li v 1).natAbs<268435456:=by
     rw [Mj]
     exact A16 (Ka (Nat.div_le_self _ _)) hv
    rw [e,ih F (Li v 1) (by omega) (by omega) hl,Adb,Nat.add_comm]
theorem Aj0 (v:Int):wv (A6 v) ((Aj v).drop 1)=Li v 32:=by
 unfold wv Li
 rw [Aln (Gl v),Eb,two32]
theorem Avh (N:Nat):∀ (F j:Nat) (v:Int),j<F→j<N→j<2000000→Dv v.natAbs<268435456→Ae.Bt.L2 N F (-(j:Int)) (A6 v) (Aj v)=Ah3 (Li v j):=by
 intro F
 induction F with
 | zero=>intro j v h; omega
 | succ F ih =>
   intro j v hF hN hj hv
   rw [Ae.Bt.Fl,Ej,Vi]
   by_cases hc:32≤j∧v≠0
   ·have o3:Gq ((Aj v).drop 1)=true:=Kl (by rw [List.length_drop,Ch]; omega) (Agz (Gl v))
    have t1:decide ((1:Int)≤((Aj v).length:Int))=true:=A05 (by
     rw [Ch]
     have:=Ju (n:=v.natAbs) (by omega)
     omega)
    have hl:Dv (Li v 32).natAbs<268435456:=by
     rw [Mj]
     exact A16 (Ka (Nat.div_le_self _ _)) hv
    rw [A05 (by omega),A05 hc.2,A1a,A04,t1,A04,o3,A04,Aj0,An (by omega) (by omega)]
    have e:-(j:Int)+32=-((j-32:Nat):Int):=by omega
    rw [e,ih (j-32) (Li v 32) (by omega) (by omega) (by omega) hl,Adb]
    congr 2
    omega
   ·have:(decide (-(j:Int)≤-32)&&decide (v≠0))=false:=by
     rw [Bool.and_eq_false_iff,A1n,A1n]
     omega
    rw [this,A08]
    exact Avg N j N v hN hj hv
theorem W7 (N F:Nat) {k:Int} (hk:0≤k) (hN:0<N) (v:Int):Ae.Bt.L2 N (F+1) k (A6 v) (Aj v)=Ah3 v:=by
 obtain ⟨M,rfl⟩:∃ M,N=M+1:=⟨N-1,by omega⟩
 rw [Ae.Bt.Fl,Ej,A09 (by omega),Bool.false_and,A08,Ae.Bt.Aev,Aw,A09 (by omega),Bool.false_and,A08]
 rfl
theorem Avi (N:Nat) (hN:0<N):∀ (j F:Nat) (v:Int),j<F→j<2000000→Dv v.natAbs+j<268435456→Ae.Bt.L1 N F (j:Int) (A6 v) (Aj v)=Ah3 (v*((2^j:Nat):Int)):=by
 obtain ⟨M,rfl⟩:∃ M,N=M+1:=⟨N-1,by omega⟩
 intro j
 induction j with
 | zero =>
   intro F v hF _ hv
   obtain ⟨F,rfl⟩:∃ G,F=G+1:=⟨F-1,by omega⟩
   rw [Ae.Bt.B6,Aw,A09 (by omega),Bool.false_and,A08,W7 _ _ (by omega) (by omega),A12]
   congr 1
   omega
 | succ j ih =>
   intro F v hF hj hv
   obtain ⟨F,rfl⟩:∃ G,F=G+1:=⟨F-1,by omega⟩
   rw [Ae.Bt.B6,Aw,A05 (by omega),A2h,Vi]
   by_cases h0:v=0
   ·rw [A09 (by omega),A08,h0,Int.zero_mul,W7 _ _ (by omega) (by omega)]
   ·have hl:=Ap7 v.natAbs
    have e2:(2*v).natAbs=2*v.natAbs:=by omega
    have e:((j+1:Nat):Int)-1=(j:Int):=by omega
    rw [A05 h0,A04,Iz (by omega),A04,F1,An (by omega) (by omega),e,ih F (2*v) (by omega) (by omega) (by rw [e2]; omega)]
    congr 1
    rw [Nat.pow_succ,A1p,Int.mul_comm 2 v,Int.mul_assoc,Int.mul_comm ((2^j:Nat):Int)]
    rfl
theorem Aww (v:Int):wv (A6 v) ([(0:Int)]++Aj v)=v*((2^32:Nat):Int):=by
 have e:Cf ([(0:Int)]++Aj v)=4294967296*v.natAbs:=by
  show Cf (0::Aj v)=_
  rw [Cf,Eb]
  exact A2e _
 unfold wv
 rw [e,two32]
 by_cases h:v<0
 ·rw [Ur h]; omega
 ·rw [Uq h]; omega
theorem Avj (N:Nat):∀ (F j:Nat) (v:Int),j<F→j<N→j<2000000→Dv v.natAbs+j<268435456→Ae.Bt.L0 N F (j:Int) (A6 v) (Aj v)=Ah3 (v*((2^j:Nat):Int)):=by
 intro F
 induction F with
 | zero=>intro j v h; omega
 | succ F ih =>
   intro j v hF hN hj hv
   rw [Ae.Bt.Av,Ej,Vi]
   by_cases hc:32≤j∧v≠0
   ·have o3:Gq ([(0:Int)]++Aj v)=true:=Kl (by rw [A1w,Ch]; show 1+_<_; omega) (Agy (Gl v))
    have t1:decide (1+(Aj v).length≤Gw)=true:=A05 (by rw [Ch]; unfold Gw; omega)
    have e2:(v*((2^32:Nat):Int)).natAbs=v.natAbs*4294967296:=by rw [Int.natAbs_mul,Int.natAbs_natCast,two32]
    have hl:=Atg v.natAbs
    rw [A05 (by omega),A05 hc.2,A1a,A04,t1,A04,o3,A04,Aww,An (by omega) (by omega)]
    have e:(j:Int)-32=((j-32:Nat):Int):=by omega
    rw [e,ih (j-32) _ (by omega) (by omega) (by omega) (by rw [e2]; omega)]
    have e3:2^j=2^32*2^(j-32):=by rw [← A1t]; congr 1; omega
    rw [e3,A1p,Int.mul_assoc]
   ·have:(decide ((32:Int)≤(j:Int))&&decide (v≠0))=false:=by
     rw [Bool.and_eq_false_iff,A1n,A1n]
     omega
    rw [this,A08]
    exact Avi N (by omega) j N v hN hj hv
theorem Aic (N j:Nat) (v:Int) (hj:0<j) (hN:j<N) (hj2:j<2000000) (hv:Dv v.natAbs<268435456):Ae.Bt.L0 N N (-(j:Int)) (A6 v) (Aj v)=Ah3 (Li v j):=by
 obtain ⟨M,rfl⟩:∃ M,N=M+1:=⟨N-1,by omega⟩
 rw [Ae.Bt.Av,Ej,A09 (by omega),Bool.false_and,A08,Ae.Bt.B6,Aw,A09 (by omega),Bool.false_and,A08]
 exact Avh _ _ j v hN hN hj2 hv
theorem Ae.Bt.known:Ae.Bt.Kn:=Ae.Bt.Ac (.cons Ae.Fv.known (.cons Ae.Ht.known (.cons Ae.Made.known .nil))) fun n a k hp=>by
 obtain ⟨h1,h2⟩:=Ad.1 hp
 obtain ⟨v,rfl,rfl,hv⟩:=P6 h1
 have h2:=Au.1 h2
 refine ⟨k.natAbs+1,Ae.Bt.out [.b (A6 v),.l (Aj v),.i k],[],?_,Acx⟩
 show _=some (DV.agg [.bool (A6 (Hc (wv (A6 v) (Aj v)) k)),.ints .arg .u32 (Aj (Hc (wv (A6 v) (Aj v)) k))])
 rw [Ae.Bt.ev,F1]
 unfold Hc
 by_cases h:0≤k
 ·obtain ⟨j,rfl⟩:∃ j:Nat,k=j:=⟨k.toNat,by omega⟩
  rw [A1r h,A06,Int.natAbs_natCast]
  exact Avj _ _ j v (by omega) (by omega) (by omega) (by omega)
 ·obtain ⟨j,rfl⟩:∃ j:Nat,k=-(j:Int):=⟨(-k).toNat,by omega⟩
  have e:(-(-(j:Int))).toNat=j:=by omega
  rw [A1q h,e,Int.natAbs_neg,Int.natAbs_natCast]
  exact Aic _ j v (by omega) (by omega) (by omega) (by omega)
open EqRefB
theorem Am0 {t:Nat} (h:2≤t):(t / 2).log2+1=t.log2:=by
 have:=Agh (n:=t) (m:=1) (by omega)
 rw [Nat.pow_one] at this
 exact this
theorem Ap6 (N:Nat):∀ (F:Nat) (t:Nat) (p:Int),t<2^32→0<t→t.log2+1<F→-1000≤p→p+t.log2<4611686018427387904 →
 Ae.Qu.L0 N F p (t:Int)=some (.int .i64 (p+t.log2+1)):=by
 intro F
 induction F with
 | zero=>intro t p _ _ h; omega
 | succ F ih =>
   intro t p ht h0 hF hp1 hp2
   have e2:Int.tdiv (t:Int) 2=((t / 2:Nat):Int):=Jo t 2
   rw [two32] at ht
   rw [Ae.Qu.Av,Aw,A05 (by omega),A04,e2,Jl (by omega) (by omega),An (by omega) (by omega)]
   by_cases h1:t=1
   ·subst h1
    obtain ⟨G,rfl⟩:∃ G,F=G+1:=⟨F-1,by omega⟩
    rw [Ae.Qu.Av,Aw,A09 (by decide),A08]
    have:(1:Nat).log2=0:=by decide
    rw [this]
    congr 2
    omega
   ·have hl:=Am0 (t:=t) (by omega)
    rw [ih (t / 2) (p+1) (by rw [two32]; omega) (by omega) (by omega) (by omega) (by omega)]
    congr 2
    omega
theorem Ae.Qu.known:Ae.Qu.Kn:=Ae.Qu.Ac .nil fun n a hp=>by
 obtain ⟨v,rfl,rfl,hv⟩:=Io hp
 refine ⟨40,Ae.Qu.out [.b (A6 v),.l (Aj v)],[],?_,.int⟩
 show _=some (DV.int .i64 (Zr (wv (A6 v) (Aj v))))
 rw [Ae.Qu.ev,F1,Ch]
 unfold Zr
 by_cases h0:v=0
 ·rw [A1r h0,h0]; rfl
 ·have hn:v.natAbs≠0:=by omega
  have hl:=Ju hn
  have e0:((Dv v.natAbs:Int)==0)=false:=by simp only [A1z,ne_eq]; omega
  have e1:(Dv v.natAbs:Int)-1=((Dv v.natAbs-1:Nat):Int):=by omega
  have hlen:Dv v.natAbs=v.natAbs.log2 / 32+1:=by unfold Dv; rw [A1q hn]
  have hge:2^(32*(Dv v.natAbs-1))≤v.natAbs:=A2b (A1j (by decide) (by omega)) (Nat.log2_self_le hn)
  have hq:v.natAbs / 2^(32*(Dv v.natAbs-1))<2^32:=by
   rw [Nat.div_lt_iff_lt_mul (Cw _),← A1t]
   have:=Kq v.natAbs
   have e:32+32*(Dv v.natAbs-1)=32*Dv v.natAbs:=by omega
   rw [e]; exact this
  have hlog:=Agh hge
  have hg:=Oc (Gl v) (Dv v.natAbs-1)
  have hq':=hq
  rw [two32] at hq'
  rw [Eb,A1h hq'] at hg
  have hpos:=Nat.div_pos hge (Cw _)
  have h32:(v.natAbs / 2^(32*(Dv v.natAbs-1))).log2<32:=(A2k (by omega)).2 hq
  rw [A1q h0,e0,A08,An (by omega) (by omega),e1,A05 (by omega),A05 (by omega),A1a,A04,A06,hg,An (by omega) (by omega)]
  rw [Ap6 40 40 _ _ hq hpos (by omega) (by omega) (by omega)]
  congr 2
  omega
theorem Ae.W2.known:Ae.W2.Kn:=Ae.W2.Ac .nil fun n a hp=>by
 obtain ⟨v,rfl,rfl,hv⟩:=Io hp
 refine ⟨0,Ae.W2.out [.b (A6 v),.l (Aj v)],[],?_,.bool⟩
 show _=some (DV.bool (Amh (wv (A6 v) (Aj v))))
 rw [Ae.W2.ev,F1,Vi]
 have hg:=Oc (Gl v) 0
 rw [Eb,Nat.mul_zero,A12,Nat.div_one] at hg
 have e2:Int.tmod ((v.natAbs%4294967296:Nat):Int) 2=((v.natAbs%4294967296%2:Nat):Int):=Jn _ 2
 unfold Amh
 by_cases h0:v=0
 ·rw [h0]; rfl
 ·have hl:=Ju (n:=v.natAbs) (by omega)
  rw [hg,e2,A05 h0,Ch,A05 (by omega),A2g,A04,A04]
  congr 2
  rw [A1k]
  simp only [beq_iff_eq,A1b]
  omega
theorem Zo (N:Nat) (n m:Bool) {a b:List Int} (hab:a.length=b.length) (hl:a.length<1073741824):∀ (k i F:Nat),i+k=a.length→k<F →
 Ae.Cn.L0 N F n a m b (i:Int)=some (.bool (decide (a.drop i=b.drop i))):=by
 intro k
 induction k with
 | zero =>
   intro i F hi hF
   obtain ⟨F,rfl⟩:∃ G,F=G+1:=⟨F-1,by omega⟩
   have e:a.drop i=b.drop i:=by rw [A1i (by omega),A1i (by omega)]
   rw [Ae.Cn.Av,Aw,A09 (by omega),A08,A05 e]
 | succ k ih =>
   intro i F hi hF
   obtain ⟨F,rfl⟩:∃ G,F=G+1:=⟨F-1,by omega⟩
   have ha:i<a.length:=by omega
   have hb:i<b.length:=by omega
   have ga:a.getD i 0=a[i]:=by rw [A1e,A1l ha]; rfl
   have gb:b.getD i 0=b[i]:=by rw [A1e,A1l hb]; rfl
   have t1:decide ((i:Int)<(a.length:Int))=true:=A05 (by omega)
   have t2:decide ((i:Int)<(b.length:Int))=true:=A05 (by omega)
   have t0:decide ((0:Int)≤(i:Int))=true:=A05 (by omega)
   rw [Ae.Cn.Av,Aw,t1,t2,t0,A1a,A04,A04,A04,A06,ga,gb,List.drop_eq_getElem_cons ha,List.drop_eq_getElem_cons hb,An (by omega) (by omega)]
   by_cases h:a[i]=b[i]
   ·have e:(a[i] !=b[i])=false:=by simp [h]
    have e1:(i:Int)+1=((i+1:Nat):Int):=by omega
    rw [e,A08,e1,ih (i+1) F (by omega) (by omega),h]
    congr 2
    rw [decide_eq_decide,List.cons.injEq]
    exact ⟨fun k=>⟨rfl,k⟩,fun k=>k.2⟩
   ·have e:(a[i] !=b[i])=true:=by simp [h]
    rw [e,A04,A09 (fun k=>h (List.cons.inj k).1)]
theorem Ai7 {v w:Int} (h1:A6 v=A6 w) (h2:Aj v=Aj w):v=w:=by
 have e1:=F1 v
 have e2:=F1 w
 rw [h1,h2] at e1
 omega
theorem Ae.Cn.known:Ae.Cn.Kn:=Ae.Cn.Ac .nil fun n a m b hp=>by
 obtain ⟨h1,h2⟩:=Ad.1 hp
 obtain ⟨v,rfl,rfl,hv⟩:=Io h1
 obtain ⟨w,rfl,rfl,hw⟩:=Io h2
 refine ⟨(Aj v).length+1,Ae.Cn.out [.b (A6 v),.l (Aj v),.b (A6 w),.l (Aj w)],[],?_,.bool⟩
 show _=some (DV.bool (Ys (wv (A6 v) (Aj v)) (wv (A6 w) (Aj w))))
 rw [Ae.Cn.ev,F1,F1]
 unfold Ys
 by_cases hs:A6 v=A6 w
 ·have e:(A6 v==A6 w)=true:=by simp [hs]
  rw [e,A13,Bool.false_or]
  by_cases hl:(Aj v).length=(Aj w).length
  ·have e:(((Aj v).length:Int) !=((Aj w).length:Int))=false:=by simp [hl]
   have hlen:=Ch v
   have:=Zo ((Aj v).length+1) (A6 v) (A6 w) hl (by omega) (Aj v).length 0 ((Aj v).length+1) (by omega) (by omega)
   rw [List.drop_zero,List.drop_zero] at this
   have e2:decide (Aj v=Aj w)=decide (v=w):=decide_eq_decide.2 ⟨Ai7 hs,fun k=>by rw [k]⟩
   rw [e2] at this
   rw [e,A08]
   exact this
  ·have e:(((Aj v).length:Int) !=((Aj w).length:Int))=true:=by simp only [bne_iff_ne,ne_eq]; omega
   rw [e,A04,A09 (fun k=>hl (by rw [k]))]
 ·have e:(A6 v==A6 w)=false:=by simp [hs]
  rw [e,A2n,Bool.true_or,A04,A09 (fun k=>hs (by rw [k]))]
namespace EqRefC
def Aq.Of.hint:Nat→Option Bg
 | 0=>some { keep:=[1,2,4],objs:=[],boxes:=[2,4] }
 | 2=>some { keep:=[1,2,4],objs:=[],boxes:=[2,4] }
 | _=>none
def Aq.Of.Bc:List (Nat × Entry):=[(173,Ae.Ht.spec),(171,Ae.Made.spec),(172,Ae.W2.spec)]
def Aq.Of.E:Env:=Be (Bb Aq.Of.Bc) (fun _=>false) Aq.Of.hint (fun _=>none)
section
variable (N:Nat) (n:Bool) (a:List Int) (e:Int) (M:Nat) (p1_1:Int) (p2_2:Bool) (p2_3:List Int) (p1:Int) (p2:Bool) (p2_1:List Int)
def Aq.Of.L0:Option DV:=Bx Aq.Of.E N f109 (Am f109) [1,1,0,0] [] M ⟨E5 33 [(1,.int .i64 p1),(2,.ptr 2 0 0),(4,.ptr 4 0 0)],[(2,false,.box [.bool p2,.ints .arg .u32 p2_1]),(4,false,.box [.bool false,.nil,.int .i64 0])]⟩
def Aq.Of.L1:Option DV:=Bx Aq.Of.E N f109 (Am f109) [1,1,1,0,0] [] M ⟨E5 33 [(1,.int .i64 p1_1),(2,.ptr 2 0 0),(4,.ptr 4 0 0)],[(2,false,.box [.bool p2_2,.ints .arg .u32 p2_3]),(4,false,.box [.bool false,.nil,.int .i64 0])]⟩
theorem Aq.Of.Av:Aq.Of.L0 N (M+1) p1 p2 p2_1=bif (decide ((0:Int)<(length p2_1:Int))) then bif ((getD p2_1 0 0)==(0:Int)) then bif (decide ((1:Int)≤(length p2_1:Int))) then bif (Gq (List.drop 1 p2_1)) then Aq.Of.L0 N M (Ab (p1+32)) (A6 (wv p2 (List.drop 1 p2_1))) (Aj (wv p2 (List.drop 1 p2_1))) else none else none else Aq.Of.L1 N N p1 p2 p2_1 else none :=
 Eq.trans (by kernel_rfl)
 (Ec (Ec (Cp (Axm (decide ((1:Int)≤(length p2_1:Int)))) (Cp (Cd (Gq (List.drop 1 p2_1))) rfl rfl) rfl) rfl) rfl)
theorem Aq.Of.B6:Aq.Of.L1 N (M+1) p1_1 p2_2 p2_3=bif (Hs p2_2 p2_3) then bif (!(Amh (wv p2_2 p2_3))) then bif (Hs p2_2 p2_3) then Aq.Of.L1 N M (Ab (p1_1+1)) (A6 (Li (wv p2_2 p2_3) 1)) (Aj (Li (wv p2_2 p2_3) 1)) else none else some (.agg [.bool p2_2,.ints .arg .u32 p2_3,.int .i64 p1_1]) else none:=by kernel_rfl
theorem Aq.Of.ev:Bu Aq.Of.E N f109 (Am f109) [.agg [.bool n,.ints .arg .u32 a],.int .i64 e]=bif ((length a:Int)==(0:Int)) then some (.agg [.bool false,.nil,.int .i64 0]) else Aq.Of.L0 N N e n a:=by kernel_rfl
end
abbrev _root_.Go.Proofs.S1.Aq.Of.Kn:=A7 prog 109 Aq.Of.spec
theorem Aq.Of.Ac (hk:A1 prog Aq.Of.Bc) (h:Hyp Aq.Of.E f109 Aq.Of.ts Aq.Of.pre Aq.Of.out):Aq.Of.Kn :=
 Al (A2 hk _ _ _) func109 (by kernel_rfl) (by kernel_rfl) h
def Aq.Neg.Bc:List (Nat × Entry):=[(143,Ae.Neg.spec)]
def Aq.Neg.E:Env:=Be (Bb Aq.Neg.Bc) (fun _=>false) (fun _=>none) (fun _=>none)
theorem Aq.Neg.ev (N:Nat) (n:Bool) (a:List Int) (e:Int):Bu Aq.Neg.E N f170 (Am f170) [.agg [.bool n,.ints .arg .u32 a,.int .i64 e]]=bif (Hs n a) then some (.agg [.bool (A6 (- wv n a)),.ints .arg .u32 (Aj (- wv n a)),.int .i64 e]) else none :=
 Eq.trans (by kernel_rfl)
 (Cp (Cd (Hs n a)) rfl rfl)
abbrev _root_.Go.Proofs.S1.Aq.Neg.Kn:=A7 prog 170 Aq.Neg.spec
theorem Aq.Neg.Ac (hk:A1 prog Aq.Neg.Bc) (h:Hyp Aq.Neg.E f170 Aq.Neg.ts Aq.Neg.pre Aq.Neg.out):Aq.Neg.Kn :=
 Al (A2 hk _ _ _) func170 (by kernel_rfl) (by kernel_rfl) h
def Aq.W3.Bc:List (Nat × Entry):=[]
def Aq.W3.E:Env:=Be (Bb Aq.W3.Bc) (fun _=>false) (fun _=>none) (fun _=>none)
theorem Aq.W3.ev (N:Nat) (n:Bool) (a:List Int) (e:Int) (m:Bool) (b:List Int) (f:Int):Bu Aq.W3.E N f111 (Am f111) [.agg [.bool n,.ints .arg .u32 a,.int .i64 e],.agg [.bool m,.ints .arg .u32 b,.int .i64 f]]=bif ((length a:Int)==(0:Int)) then some (.int .i64 f) else bif ((length b:Int)==(0:Int)) then some (.int .i64 e) else some (.int .i64 (min e f)):=by kernel_rfl
abbrev _root_.Go.Proofs.S1.Aq.W3.Kn:=A7 prog 111 Aq.W3.spec
theorem Aq.W3.Ac (hk:A1 prog Aq.W3.Bc) (h:Hyp Aq.W3.E f111 Aq.W3.ts Aq.W3.pre Aq.W3.out):Aq.W3.Kn :=
 Al (A2 hk _ _ _) func111 (by kernel_rfl) (by kernel_rfl) h
def Aq.Level.Bc:List (Nat × Entry):=[(178,Ae.Bt.spec)]
def Aq.Level.E:Env:=Be (Bb Aq.Level.Bc) (fun _=>false) (fun _=>none) (fun _=>none)
theorem Aq.Level.ev (N:Nat) (n:Bool) (a:List Int) (e f:Int):Bu Aq.Level.E N f113 (Am f113) [.agg [.bool n,.ints .arg .u32 a,.int .i64 e],.int .i64 f]=bif ((length a:Int)==(0:Int)) then some (.agg [.bool n,.ints .arg .u32 a]) else bif (R8 n a&&Avv (Ab (e-f))) then some (.agg [.bool (A6 (Hc (wv n a) (Ab (e-f)))),.ints .arg .u32 (Aj (Hc (wv n a) (Ab (e-f))))]) else none:=by kernel_rfl
abbrev _root_.Go.Proofs.S1.Aq.Level.Kn:=A7 prog 113 Aq.Level.spec
theorem Aq.Level.Ac (hk:A1 prog Aq.Level.Bc) (h:Hyp Aq.Level.E f113 Aq.Level.ts Aq.Level.pre Aq.Level.out):Aq.Level.Kn :=
 Al (A2 hk _ _ _) func113 (by kernel_rfl) (by kernel_rfl) h
def Aq.Add.Bc:List (Nat × Entry):=[(112,Ae.Add.spec),(113,Aq.Level.spec),(111,Aq.W3.spec),(109,Aq.Of.spec)]
def Aq.Add.E:Env:=Be (Bb Aq.Add.Bc) (fun _=>false) (fun _=>none) (fun _=>none)
theorem Aq.Add.ev (N:Nat) (n:Bool) (a:List Int) (e:Int) (m:Bool) (b:List Int) (f:Int):Bu Aq.Add.E N f42 (Am f42) [.agg [.bool n,.ints .arg .u32 a,.int .i64 e],.agg [.bool m,.ints .arg .u32 b,.int .i64 f]]=bif (Hs n a&&Hs m b) then bif (R8 n a&&Af7 (wv n a) e (Df (wv n a) e (wv m b) f)) then bif (R8 m b&&Af7 (wv m b) f (Df (wv n a) e (wv m b) f)) then bif (Hs (A6 (Hc (wv n a) (e-(Df (wv n a) e (wv m b) f)))) (Aj (Hc (wv n a) (e-(Df (wv n a) e (wv m b) f))))&&Hs (A6 (Hc (wv m b) (f-(Df (wv n a) e (wv m b) f)))) (Aj (Hc (wv m b) (f-(Df (wv n a) e (wv m b) f))))) then bif (Hs (A6 (wv (A6 (Hc (wv n a) (e-(Df (wv n a) e (wv m b) f)))) (Aj (Hc (wv n a) (e-(Df (wv n a) e (wv m b) f))))+wv (A6 (Hc (wv m b) (f-(Df (wv n a) e (wv m b) f)))) (Aj (Hc (wv m b) (f-(Df (wv n a) e (wv m b) f)))))) (Aj (wv (A6 (Hc (wv n a) (e-(Df (wv n a) e (wv m b) f)))) (Aj (Hc (wv n a) (e-(Df (wv n a) e (wv m b) f))))+wv (A6 (Hc (wv m b) (f-(Df (wv n a) e (wv m b) f)))) (Aj (Hc (wv m b) (f-(Df (wv n a) e (wv m b) f))))))&&Wh (Df (wv n a) e (wv m b) f)) then some (.agg [.bool (A6 (mD (wv (A6 (wv (A6 (Hc (wv n a) (e-(Df (wv n a) e (wv m b) f)))) (Aj (Hc (wv n a) (e-(Df (wv n a) e (wv m b) f))))+wv (A6 (Hc (wv m b) (f-(Df (wv n a) e (wv m b) f)))) (Aj (Hc (wv m b) (f-(Df (wv n a) e (wv m b) f)))))) (Aj (wv (A6 (Hc (wv n a) (e-(Df (wv n a) e (wv m b) f)))) (Aj (Hc (wv n a) (e-(Df (wv n a) e (wv m b) f))))+wv (A6 (Hc (wv m b) (f-(Df (wv n a) e (wv m b) f)))) (Aj (Hc (wv m b) (f-(Df (wv n a) e (wv m b) f))))))))),.ints .arg .u32 (Aj (mD (wv (A6 (wv (A6 (Hc (wv n a) (e-(Df (wv n a) e (wv m b) f)))) (Aj (Hc (wv n a) (e-(Df (wv n a) e (wv m b) f))))+wv (A6 (Hc (wv m b) (f-(Df (wv n a) e (wv m b) f)))) (Aj (Hc (wv m b) (f-(Df (wv n a) e (wv m b) f)))))) (Aj (wv (A6 (Hc (wv n a) (e-(Df (wv n a) e (wv m b) f)))) (Aj (Hc (wv n a) (e-(Df (wv n a) e (wv m b) f))))+wv (A6 (Hc (wv m b) (f-(Df (wv n a) e (wv m b) f)))) (Aj (Hc (wv m b) (f-(Df (wv n a) e (wv m b) f))))))))),.int .i64 (eD (wv (A6 (wv (A6 (Hc (wv n a) (e-(Df (wv n a) e (wv m b) f)))) (Aj (Hc (wv n a) (e-(Df (wv n a) e (wv m b) f))))+wv (A6 (Hc (wv m b) (f-(Df (wv n a) e (wv m b) f)))) (Aj (Hc (wv m b) (f-(Df (wv n a) e (wv m b) f)))))) (Aj (wv (A6 (Hc (wv n a) (e-(Df (wv n a) e (wv m b) f)))) (Aj (Hc (wv n a) (e-(Df (wv n a) e (wv m b) f))))+wv (A6 (Hc (wv m b) (f-(Df (wv n a) e (wv m b) f)))) (Aj (Hc (wv m b) (f-(Df (wv n a) e (wv m b) f))))))) (Df (wv n a) e (wv m b) f))]) else none else none else none else none else none :=
 Eq.trans (by kernel_rfl)
 (Ec (Cp (Cd (R8 n a&&Af7 (wv n a) e (Df (wv n a) e (wv m b) f))) (Cp (Cd (R8 m b&&Af7 (wv m b) f (Df (wv n a) e (wv m b) f))) (Cp (Cd (Hs (A6 (Hc (wv n a) (e-(Df (wv n a) e (wv m b) f)))) (Aj (Hc (wv n a) (e-(Df (wv n a) e (wv m b) f))))&&Hs (A6 (Hc (wv m b) (f-(Df (wv n a) e (wv m b) f)))) (Aj (Hc (wv m b) (f-(Df (wv n a) e (wv m b) f)))))) (Cp (Cd (Hs (A6 (wv (A6 (Hc (wv n a) (e-(Df (wv n a) e (wv m b) f)))) (Aj (Hc (wv n a) (e-(Df (wv n a) e (wv m b) f))))+wv (A6 (Hc (wv m b) (f-(Df (wv n a) e (wv m b) f)))) (Aj (Hc (wv m b) (f-(Df (wv n a) e (wv m b) f)))))) (Aj (wv (A6 (Hc (wv n a) (e-(Df (wv n a) e (wv m b) f)))) (Aj (Hc (wv n a) (e-(Df (wv n a) e (wv m b) f))))+wv (A6 (Hc (wv m b) (f-(Df (wv n a) e (wv m b) f)))) (Aj (Hc (wv m b) (f-(Df (wv n a) e (wv m b) f))))))&&Wh (Df (wv n a) e (wv m b) f))) rfl rfl) rfl) rfl) rfl) rfl)
abbrev _root_.Go.Proofs.S1.Aq.Add.Kn:=A7 prog 42 Aq.Add.spec
theorem Aq.Add.Ac (hk:A1 prog Aq.Add.Bc) (h:Hyp Aq.Add.E f42 Aq.Add.ts Aq.Add.pre Aq.Add.out):Aq.Add.Kn :=
 Al (A2 hk _ _ _) func42 (by kernel_rfl) (by kernel_rfl) h
def Aq.Sub.Bc:List (Nat × Entry):=[(42,Aq.Add.spec),(170,Aq.Neg.spec)]
def Aq.Sub.E:Env:=Be (Bb Aq.Sub.Bc) (fun _=>false) (fun _=>none) (fun _=>none)
theorem Aq.Sub.ev (N:Nat) (n:Bool) (a:List Int) (e:Int) (m:Bool) (b:List Int) (f:Int):Bu Aq.Sub.E N f105 (Am f105) [.agg [.bool n,.ints .arg .u32 a,.int .i64 e],.agg [.bool m,.ints .arg .u32 b,.int .i64 f]]=bif (Hs m b) then bif (((R8 n a&&R8 (A6 (- wv m b)) (Aj (- wv m b)))&&Nl e)&&Nl f) then some (.agg [.bool (A6 (N1 (wv n a) e (wv (A6 (- wv m b)) (Aj (- wv m b))) f)),.ints .arg .u32 (Aj (N1 (wv n a) e (wv (A6 (- wv m b)) (Aj (- wv m b))) f)),.int .i64 (Ahv (wv n a) e (wv (A6 (- wv m b)) (Aj (- wv m b))) f)]) else none else none :=
 Eq.trans (by kernel_rfl)
 (Cp (Cd (Hs m b)) (Cp (Cd (((R8 n a&&R8 (A6 (- wv m b)) (Aj (- wv m b)))&&Nl e)&&Nl f)) rfl rfl) rfl)
abbrev _root_.Go.Proofs.S1.Aq.Sub.Kn:=A7 prog 105 Aq.Sub.spec
theorem Aq.Sub.Ac (hk:A1 prog Aq.Sub.Bc) (h:Hyp Aq.Sub.E f105 Aq.Sub.ts Aq.Sub.pre Aq.Sub.out):Aq.Sub.Kn :=
 Al (A2 hk _ _ _) func105 (by kernel_rfl) (by kernel_rfl) h
def Aq.V1.Bc:List (Nat × Entry):=[(223,Ae.Qu.spec)]
def Aq.V1.E:Env:=Be (Bb Aq.V1.Bc) (fun _=>false) (fun _=>none) (fun _=>none)
theorem Aq.V1.ev (N:Nat) (n:Bool) (a:List Int) (e:Int):Bu Aq.V1.E N f180 (Am f180) [.agg [.bool n,.ints .arg .u32 a,.int .i64 e]]=bif ((length a:Int)==(0:Int)) then some (.int .i64 0) else bif (Hs n a) then some (.int .i64 (Ab ((Zr (wv n a))+e))) else none :=
 Eq.trans (by kernel_rfl)
 (Ec rfl (Cp (Cd (Hs n a)) rfl rfl))
abbrev _root_.Go.Proofs.S1.Aq.V1.Kn:=A7 prog 180 Aq.V1.spec
theorem Aq.V1.Ac (hk:A1 prog Aq.V1.Bc) (h:Hyp Aq.V1.E f180 Aq.V1.ts Aq.V1.pre Aq.V1.out):Aq.V1.Kn :=
 Al (A2 hk _ _ _) func180 (by kernel_rfl) (by kernel_rfl) h
def Aq.Sign.Bc:List (Nat × Entry):=[]
def Aq.Sign.E:Env:=Be (Bb Aq.Sign.Bc) (fun _=>false) (fun _=>none) (fun _=>none)
theorem Aq.Sign.ev (N:Nat) (n:Bool) (a:List Int) (e:Int):Bu Aq.Sign.E N f179 (Am f179) [.agg [.bool n,.ints .arg .u32 a,.int .i64 e]]=bif n then some (.int .i64 (-1:Int)) else some (.int .i64 (min (length a:Int) 1)):=by kernel_rfl
abbrev _root_.Go.Proofs.S1.Aq.Sign.Kn:=A7 prog 179 Aq.Sign.spec
theorem Aq.Sign.Ac (hk:A1 prog Aq.Sign.Bc) (h:Hyp Aq.Sign.E f179 Aq.Sign.ts Aq.Sign.pre Aq.Sign.out):Aq.Sign.Kn :=
 Al (A2 hk _ _ _) func179 (by kernel_rfl) (by kernel_rfl) h
def Aq.Compare.Bc:List (Nat × Entry):=[(179,Aq.Sign.spec),(105,Aq.Sub.spec),(180,Aq.V1.spec)]
def Aq.Compare.E:Env:=Be (Bb Aq.Compare.Bc) (fun _=>false) (fun _=>none) (fun _=>none)
theorem Aq.Compare.ev (N:Nat) (n:Bool) (a:List Int) (e:Int) (m:Bool) (b:List Int) (f:Int):Bu Aq.Compare.E N f116 (Am f116) [.agg [.bool n,.ints .arg .u32 a,.int .i64 e],.agg [.bool m,.ints .arg .u32 b,.int .i64 f]]=bif (Hs n a) then bif (Hs m b) then bif ((Ny (wv n a)) !=(Ny (wv m b))) then bif (Hs n a) then bif (Hs m b) then some (.int .i64 (min 1 (max (-1:Int) (Ab ((Ny (wv n a))-(Ny (wv m b))))))) else none else none else bif (Hs n a&&Nl e) then bif (Hs m b&&Nl f) then bif ((Iw (wv n a) e) !=(Iw (wv m b) f)) then bif (Hs n a&&Nl e) then bif (Hs m b&&Nl f) then bif (Hs n a) then bif ((Bd (Iw (wv m b) f) (Iw (wv n a) e))==(Bd 0 (Ny (wv n a)))) then some (.int .i64 1) else some (.int .i64 (-1:Int)) else none else none else none else bif (((R8 n a&&R8 m b)&&Nl e)&&Nl f) then bif (Hs (A6 (N1 (wv n a) e (- wv m b) f)) (Aj (N1 (wv n a) e (- wv m b) f))) then some (.int .i64 (Ny (wv (A6 (N1 (wv n a) e (- wv m b) f)) (Aj (N1 (wv n a) e (- wv m b) f))))) else none else none else none else none else none else none :=
 Eq.trans (by kernel_rfl)
 (Cp (Cd (Hs n a)) (Cp (Cd (Hs m b)) (Ec (Cp (Cd (Hs n a)) (Cp (Cd (Hs m b)) rfl rfl) rfl) (Cp (Cd (Hs n a&&Nl e)) (Cp (Cd (Hs m b&&Nl f)) (Ec (Cp (Cd (Hs n a&&Nl e)) (Cp (Cd (Hs m b&&Nl f)) (Cp (Cd (Hs n a)) rfl rfl) rfl) rfl) rfl) rfl) rfl)) rfl) rfl)
abbrev _root_.Go.Proofs.S1.Aq.Compare.Kn:=A7 prog 116 Aq.Compare.spec
theorem Aq.Compare.Ac (hk:A1 prog Aq.Compare.Bc) (h:Hyp Aq.Compare.E f116 Aq.Compare.ts Aq.Compare.pre Aq.Compare.out):Aq.Compare.Kn :=
 Al (A2 hk _ _ _) func116 (by kernel_rfl) (by kernel_rfl) h
def Aq.Cn.Bc:List (Nat × Entry):=[(133,Ae.Cn.spec)]
def Aq.Cn.E:Env:=Be (Bb Aq.Cn.Bc) (fun _=>false) (fun _=>none) (fun _=>none)
theorem Aq.Cn.ev (N:Nat) (n:Bool) (a:List Int) (e:Int) (m:Bool) (b:List Int) (f:Int):Bu Aq.Cn.E N f54 (Am f54) [.agg [.bool n,.ints .arg .u32 a,.int .i64 e],.agg [.bool m,.ints .arg .u32 b,.int .i64 f]]=bif ((!(e==f))||(Hs n a&&Hs m b)) then some (.bool (bif (e==f) then (Ys (wv n a) (wv m b)) else false)) else none :=
 Eq.trans (by kernel_rfl)
 (Ax (Oj (e==f)) (Ax (L7 (e==f)) (Ax (Oj (e==f)) (Ax (L7 (e==f)) (Cp (Au3 (e==f) (Hs n a&&Hs m b)) (Ax (Th (e==f)) rfl) rfl)))))
abbrev _root_.Go.Proofs.S1.Aq.Cn.Kn:=A7 prog 54 Aq.Cn.spec
theorem Aq.Cn.Ac (hk:A1 prog Aq.Cn.Bc) (h:Hyp Aq.Cn.E f54 Aq.Cn.ts Aq.Cn.pre Aq.Cn.out):Aq.Cn.Kn :=
 Al (A2 hk _ _ _) func54 (by kernel_rfl) (by kernel_rfl) h
end EqRefC
open EqRefC
def Anh (v e:Int):Option DV:=some (.agg [.bool (A6 v),.ints .arg .u32 (Aj v),.int .i64 e])
theorem wdy {drops:List Nat} {b:Bool} {l:List Int} {e:Int}:Wk drops (.agg [.bool b,.ints .arg .u32 l,.int .i64 e]) (.agg [.bool b,.ints .arg .u32 l,.int .i64 e]):=Wk.Gy (.cons .bool (.cons .Qv (.cons .int .nil)))
theorem Aql (v:Int):(Aj v).getD 0 0=((v.natAbs%4294967296:Nat):Int):=by
 have hg:=Oc (Gl v) 0
 rw [Eb,Nat.mul_zero,A12,Nat.div_one] at hg
 exact hg
theorem Akd {v:Int} {k:Nat} (h:Dv v.natAbs<268435456):Dv (Li v k).natAbs<268435456:=by
 rw [Mj]
 exact A16 (Ka (Nat.div_le_self _ _)) h
theorem Aou {v:Int} {k:Nat} (h0:v≠0) (h:v.natAbs%2^k=0):Li v k≠0∧Sq (Li v k).natAbs+k=Sq v.natAbs:=by
 have hv:=Nat.div_add_mod v.natAbs (2^k)
 rw [h,A2c,A1s] at hv
 have hq:v.natAbs / 2^k≠0:=by
  intro e; rw [e] at hv; omega
 have ht:=Acz hq k
 rw [hv] at ht
 have ha:=Mj v k
 refine ⟨by omega,?_⟩
 rw [ha]
 omega
theorem Apg (N:Nat):∀ (F:Nat) (v e:Int),v≠0→Sq v.natAbs<F→Dv v.natAbs<268435456→-4000000000000≤e→e+Sq v.natAbs≤400000000000000 →
 Aq.Of.L1 N F e (A6 v) (Aj v)=Anh (mD v) (eD v e):=by
 intro F
 induction F with
 | zero=>intro v e _ h; omega
 | succ F ih =>
   intro v e h0 hF hv h1 h2
   rw [Aq.Of.B6,Iz hv,A04,F1]
   by_cases ho:v%2=1
   ·have:Amh v=true:=A05 ho
    rw [this,A13,A08,Av0 ho,Awg ho]
    rfl
   ·have:Amh v=false:=A09 ho
    have hm:v.natAbs%2^1=0:=by rw [Nat.pow_one]; omega
    obtain ⟨n1,n2⟩:=Aou h0 hm
    rw [this,A2n,A04,A04,An (by omega) (by omega),ih (Li v 1) (e+1) n1 (by omega) (Akd hv) (by omega) (by omega),Apz hm]
    have:=Aqy (e:=e) hm h0
    rw [← this]
    rfl
theorem Aph (N:Nat):∀ (F:Nat) (v e:Int),v≠0→Sq v.natAbs<F→Sq v.natAbs<N→Dv v.natAbs<268435456→-4000000000000≤e→e+Sq v.natAbs≤400000000000000 →
 Aq.Of.L0 N F e (A6 v) (Aj v)=Anh (mD v) (eD v e):=by
 intro F
 induction F with
 | zero=>intro v e _ h; omega
 | succ F ih =>
   intro v e h0 hF hN hv h1 h2
   have hl:=Ju (n:=v.natAbs) (by omega)
   rw [Aq.Of.Av,Ch,A05 (by omega),A04,Aql]
   by_cases hz:v.natAbs%4294967296=0
   ·have e0:(((v.natAbs%4294967296:Nat):Int)==0)=true:=by rw [hz]; rfl
    have o3:Gq ((Aj v).drop 1)=true:=Kl (by rw [List.length_drop,Ch]; omega) (Agz (Gl v))
    have hm:v.natAbs%2^32=0:=by rw [two32]; exact hz
    obtain ⟨n1,n2⟩:=Aou h0 hm
    rw [e0,A04,A05 (by omega),A04,o3,A04,Aj0,An (by omega) (by omega),ih (Li v 32) (e+32) n1 (by omega) (by omega) (Akd hv) (by omega) (by omega),Apz hm]
    have:=Aqy (e:=e) hm h0
    rw [← this]
    rfl
   ·have e0:(((v.natAbs%4294967296:Nat):Int)==0)=false:=by simp only [A1z,ne_eq]; omega
    rw [e0,A08]
    exact Apg N N v e h0 hN hv h1 h2
theorem Aod {v:Int} (h0:v≠0) (h:Dv v.natAbs<268435456):Sq v.natAbs<8589934592:=by
 have h1:=Aui (n:=v.natAbs) (by omega)
 have h2:=Ab3 (n:=v.natAbs)
 omega
theorem Aq.Of.known:Aq.Of.Kn:=Aq.Of.Ac (.cons Ae.Ht.known (.cons Ae.Made.known (.cons Ae.W2.known .nil))) fun n a e hp=>by
 obtain ⟨h1,h2⟩:=Ad.1 hp
 obtain ⟨v,rfl,rfl,hv⟩:=Io h1
 have h2:=Au.1 h2
 by_cases h0:v=0
 ·subst h0
  refine ⟨0,.agg [.bool false,.nil,.int .i64 (0:Int)],[],?_,?_⟩
  ·rw [Aq.Of.ev]; rfl
  ·show Wk [] _ (.agg [.bool (A6 (mD (wv (A6 0) (Aj 0)))),.ints .arg .u32 (Aj (mD (wv (A6 0) (Aj 0)))),.int .i64 (eD (wv (A6 0) (Aj 0)) e)])
   rw [F1,P7.2 rfl]
   exact Wk.Gy (.cons .bool (.cons (.nil _ _) (.cons .int .nil)))
 ·refine ⟨Sq v.natAbs+1,Aq.Of.out [.b (A6 v),.l (Aj v),.i e],[],?_,wdy⟩
  have ht:=Aod h0 hv
  have hl:=Ju (n:=v.natAbs) (by omega)
  have e0:(((Aj v).length:Int)==0)=false:=by rw [Ch]; simp only [A1z,ne_eq]; omega
  show _=Anh (mD (wv (A6 v) (Aj v))) (eD (wv (A6 v) (Aj v)) e)
  rw [Aq.Of.ev,e0,A08,F1]
  exact Aph _ _ v e h0 (by omega) (by omega) hv (by omega) (by omega)
theorem Aq.Neg.known:Aq.Neg.Kn:=Aq.Neg.Ac (.cons Ae.Neg.known .nil) fun n a e hp=>by
 refine ⟨0,Aq.Neg.out [.b n,.l a,.i e],[],?_,wdy⟩
 have hp:Hs n a=true:=hp
 rw [Aq.Neg.ev,hp,A04]
 rfl
theorem Vh (v:Int):(((Aj v).length:Int)==0)=decide (v=0):=by
 rw [Ch,A1k]
 simp only [beq_iff_eq,A1b]
 constructor
 ·intro h
  rcases Int.lt_trichotomy v 0 with k | k | k
  ·have:=Ju (n:=v.natAbs) (by omega); omega
  ·exact k
  ·have:=Ju (n:=v.natAbs) (by omega); omega
 ·intro h; rw [h]; rfl
theorem Aq.W3.known:Aq.W3.Kn:=Aq.W3.Ac .nil fun n a e m b f hp=>by
 obtain ⟨h1,h2⟩:=Ad.1 hp
 obtain ⟨v,rfl,rfl,hv⟩:=Io h1
 obtain ⟨w,rfl,rfl,hw⟩:=Io h2
 refine ⟨0,Aq.W3.out [.b (A6 v),.l (Aj v),.i e,.b (A6 w),.l (Aj w),.i f],[],?_,.int⟩
 show _=some (DV.int .i64 (Df (wv (A6 v) (Aj v)) e (wv (A6 w) (Aj w)) f))
 rw [Aq.W3.ev,F1,F1,Vh,Vh]
 unfold Df
 by_cases h:v=0
 ·rw [A05 h,A04,A1r h]
 ·rw [A09 h,A08,A1q h]
  by_cases h':w=0
  ·rw [A05 h',A04,A1r h']
  ·rw [A09 h',A08,A1q h']
theorem Yp (k:Int):Hc 0 k=0:=by
 unfold Hc
 split
 ·exact Int.zero_mul _
 ·exact R5 _
theorem Aq.Level.known:Aq.Level.Kn:=Aq.Level.Ac (.cons Ae.Bt.known .nil) fun n a e f hp=>by
 obtain ⟨h1,h2⟩:=Ad.1 hp
 obtain ⟨v,rfl,rfl,hv⟩:=P6 h1
 refine ⟨0,Aq.Level.out [.b (A6 v),.l (Aj v),.i e,.i f],[],?_,Acx⟩
 show _=Ah3 (Hc (wv (A6 v) (Aj v)) (e-f))
 unfold Af7 at h2
 rw [F1] at h2
 obtain ⟨h3,h4⟩:=Ad.1 h2
 have h3:=Au.1 h3
 have h4:=Au.1 h4
 rw [Aq.Level.ev,F1,Vh]
 by_cases h:v=0
 ·rw [A05 h,A04,h,Yp]; rfl
 ·have o:Avv (Ab (e-f))=true:=by rw [An (by omega) (by omega)]; exact Au.2 (by omega)
  rw [A09 h,A08,h1,o,A1a,A04,An (by omega) (by omega)]
  rfl
theorem Ap8 (n k:Nat):Dv (n*2^k)≤Dv n+k:=by
 refine Mq ?_
 have h1:=Kq n
 have h2:n*2^k<2^(32*Dv n)*2^k:=(Nat.mul_lt_mul_right (Cw k)).2 h1
 rw [← A1t] at h2
 exact A2f h2 (A1j (by decide) (by omega))
theorem Ap9 (v k:Int):Dv (Hc v k).natAbs≤Dv v.natAbs+k.toNat:=by
 unfold Hc
 by_cases h:0≤k
 ·rw [A1r h,Int.natAbs_mul,Int.natAbs_natCast]
  exact Ap8 _ _
 ·rw [A1q h,Mj]
  exact A2b (Ka (Nat.div_le_self _ _)) (Nat.le_add_right _ _)
theorem Agt (v w:Int):Dv (v+w).natAbs≤max (Dv v.natAbs) (Dv w.natAbs)+1:=by
 refine Mq ?_
 have h1:=Kq v.natAbs
 have h2:=Kq w.natAbs
 have h3:2^(32*Dv v.natAbs)≤2^(32*max (Dv v.natAbs) (Dv w.natAbs)):=A1j (by decide) (by omega)
 have h4:2^(32*Dv w.natAbs)≤2^(32*max (Dv v.natAbs) (Dv w.natAbs)):=A1j (by decide) (by omega)
 rw [Mg]
 omega
theorem Zk {v e w f:Int} (he:-400000≤e∧e≤400000) (hf:-400000≤f∧f≤400000):-400000≤Df v e w f∧Df v e w f≤400000:=by
 unfold Df
 split
 ·exact hf
 ·split
  ·exact he
  ·omega
theorem Xv {v e l:Int} (hv:Dv v.natAbs<134217728) (h:e-l≤800000):Dv (Hc v (e-l)).natAbs<140000000:=by
 have:=Ap9 v (e-l)
 omega
theorem Aq.Add.known:Aq.Add.Kn:=Aq.Add.Ac (.cons Ae.Add.known (.cons Aq.Level.known (.cons Aq.W3.known (.cons Aq.Of.known .nil)))) fun n a e m b f hp=>by
 obtain ⟨h1,hf⟩:=Ad.1 hp
 obtain ⟨h2,he⟩:=Ad.1 h1
 obtain ⟨h3,h4⟩:=Ad.1 h2
 obtain ⟨v,rfl,rfl,hv⟩:=P6 h3
 obtain ⟨w,rfl,rfl,hw⟩:=P6 h4
 have he:=Au.1 he
 have hf:=Au.1 hf
 refine ⟨0,Aq.Add.out [.b (A6 v),.l (Aj v),.i e,.b (A6 w),.l (Aj w),.i f],[],?_,wdy⟩
 show _=Anh (N1 (wv (A6 v) (Aj v)) e (wv (A6 w) (Aj w)) f) (Ahv (wv (A6 v) (Aj v)) e (wv (A6 w) (Aj w)) f)
 have hlo:=Zk (v:=v) (w:=w) he hf
 have l1:=Xv (l:=Df v e w f) hv (show e-Df v e w f≤800000 by omega)
 have l2:=Xv (l:=Df v e w f) hw (show f-Df v e w f≤800000 by omega)
 have l3:=Agt (Hc v (e-Df v e w f)) (Hc w (f-Df v e w f))
 have o1:Af7 v e (Df v e w f)=true:=Ad.2 ⟨Au.2 (by omega),Au.2 (by omega)⟩
 have o2:Af7 w f (Df v e w f)=true:=Ad.2 ⟨Au.2 (by omega),Au.2 (by omega)⟩
 have o3:Wh (Df v e w f)=true:=Au.2 (by omega)
 rw [Aq.Add.ev]
 simp only [F1]
 rw [Iz (v:=v) (by omega),Iz (v:=w) (by omega),h3,h4,o1,o2,Iz (v:=Hc v (e-Df v e w f)) (by omega),Iz (v:=Hc w (f-Df v e w f)) (by omega),Iz (v:=Hc v (e-Df v e w f)+Hc w (f-Df v e w f)) (by omega),o3]
 simp only [A1a,A04]
 rfl
theorem Aq.Sub.known:Aq.Sub.Kn:=Aq.Sub.Ac (.cons Aq.Add.known (.cons Aq.Neg.known .nil)) fun n a e m b f hp=>by
 obtain ⟨h1,hf⟩:=Ad.1 hp
 obtain ⟨h2,he⟩:=Ad.1 h1
 obtain ⟨h3,h4⟩:=Ad.1 h2
 obtain ⟨w,rfl,rfl,hw⟩:=P6 h4
 refine ⟨0,Aq.Sub.out [.b n,.l a,.i e,.b (A6 w),.l (Aj w),.i f],[],?_,wdy⟩
 show _=Anh (N1 (wv n a) e (- wv (A6 w) (Aj w)) f) (Ahv (wv n a) e (- wv (A6 w) (Aj w)) f)
 rw [Aq.Sub.ev]
 simp only [F1]
 rw [Iz (v:=w) (by omega),h3,Adu (v:=-w) (by rw [Int.natAbs_neg]; exact hw),he,hf]
 rfl
theorem Agu {v:Int} (h:Dv v.natAbs<268435456):0≤Zr v∧Zr v≤8589934593:=by
 have h2:=Ab3 (n:=v.natAbs)
 unfold Zr
 split
 ·omega
 ·constructor<;>omega
theorem Aq.V1.known:Aq.V1.Kn:=Aq.V1.Ac (.cons Ae.Qu.known .nil) fun n a e hp=>by
 obtain ⟨h1,he⟩:=Ad.1 hp
 obtain ⟨v,rfl,rfl,hv⟩:=Io h1
 have he:=Au.1 he
 refine ⟨0,Aq.V1.out [.b (A6 v),.l (Aj v),.i e],[],?_,.int⟩
 show _=some (DV.int .i64 (Iw (wv (A6 v) (Aj v)) e))
 have hb:=Agu hv
 rw [Aq.V1.ev,F1,Vh,h1]
 unfold Iw
 by_cases h:v=0
 ·rw [A05 h,A04,A1r h]
 ·rw [A09 h,A08,A04,A1q h,An (by omega) (by omega)]
theorem Aq.Sign.known:Aq.Sign.Kn:=Aq.Sign.Ac .nil fun n a e hp=>by
 obtain ⟨v,rfl,rfl,hv⟩:=Io hp
 refine ⟨0,Aq.Sign.out [.b (A6 v),.l (Aj v),.i e],[],?_,.int⟩
 show _=some (DV.int .i64 (Ny (wv (A6 v) (Aj v))))
 rw [Aq.Sign.ev,F1,Ch]
 unfold Ny A6
 by_cases h:v<0
 ·rw [A05 h,A04,A1r h]
 ·rw [A09 h,A08,A1q h]
  by_cases h':v=0
  ·rw [A1r h',h']; rfl
  ·have:=Ju (n:=v.natAbs) (by omega)
   rw [A1q h']
   congr 2
   omega
theorem Aq.Cn.known:Aq.Cn.Kn:=Aq.Cn.Ac (.cons Ae.Cn.known .nil) fun n a e m b f hp=>by
 have hp:(Hs n a&&Hs m b)=true:=hp
 refine ⟨0,Aq.Cn.out [.b n,.l a,.i e,.b m,.l b,.i f],[],?_,.bool⟩
 show _=some (DV.bool (decide (e=f)&&Ys (wv n a) (wv m b)))
 rw [Aq.Cn.ev,hp,A2g,A04]
 by_cases h:e=f
 ·have e0:(e==f)=true:=by simp [h]
  rw [e0,A05 h]; rfl
 ·have e0:(e==f)=false:=by simp [h]
  rw [e0,A09 h]; rfl
open EqRefC
theorem Ai1 {v e w f:Int}:(v≠0→0≤e-Df v e w f)∧(w≠0→0≤f-Df v e w f):=by
 unfold Df
 constructor
 ·intro h
  rw [A1q h]
  split<;>omega
 ·intro h
  split
  ·omega
  ·omega
theorem Yq {v k:Int} (h:v≠0→0≤k):∃ j:Nat,Hc v k=v*((2^j:Nat):Int)∧(v≠0→(j:Int)=k):=by
 by_cases h0:v=0
 ·exact ⟨0,by rw [h0,Yp,Int.zero_mul],fun k=>absurd h0 k⟩
 ·have hk:=h h0
  refine ⟨k.toNat,?_,fun _=>by omega⟩
  unfold Hc
  rw [A1r hk]
theorem Zd (v:Int) (j:Nat):(v*((2^j:Nat):Int)<0↔v<0)∧(v*((2^j:Nat):Int)=0↔v=0):=by
 have hp:=Cw j
 constructor
 ·constructor
  ·intro h
   rcases Int.lt_or_le v 0 with h1 | h1
   ·exact h1
   ·have:=Int.mul_nonneg h1 (Int.natCast_nonneg (2^j)); omega
  ·intro h
   exact Int.mul_neg_of_neg_of_pos h (by omega)
 ·constructor
  ·intro h
   rcases Int.mul_eq_zero.1 h with h | h
   ·exact h
   ·omega
  ·intro h; rw [h,Int.zero_mul]
theorem Adc (v:Int) (j:Nat):Ny (v*((2^j:Nat):Int))=Ny v:=by
 obtain ⟨h1,h2⟩:=Zd v j
 unfold Ny
 simp only [h1,h2]
theorem Avl (v:Int):Ny (mD v)=Ny v:=by
 have:=Adc (mD v) (Sq v.natAbs)
 rw [← X3] at this
 exact this.symm
theorem At5 (x y:Int):Ny (x+-y)=Xq x y:=by
 unfold Ny Xq
 by_cases h:x<y
 ·rw [A1r (by omega),A1r h]
 ·rw [A1q (by omega),A1q h]
  by_cases h':y<x
  ·rw [A1q (by omega),A1r h']
  ·rw [A1r (by omega),A1q h']
theorem Ata (v e w f:Int):Df v e (-w) f=Df v e w f:=by
 unfold Df
 have:(-w=0)=(w=0):=propext ⟨fun h=>by omega,fun h=>by omega⟩
 simp only [this]
theorem Ara {x y:Int} (h:Ny x≠Ny y):Xq x y=min 1 (max (-1) (Ny x-Ny y)):=by
 unfold Ny at h ⊢
 unfold Xq
 rcases Int.lt_trichotomy x 0 with h1 | h1 | h1<;>rcases Int.lt_trichotomy y 0 with h2 | h2 | h2
 all_goals
  first
  | (exfalso; apply h; simp [show x<0 by omega,show y<0 by omega]; done)
  | (exfalso; apply h; subst h1; subst h2; rfl)
  | (exfalso; apply h; rw [A1q (by omega),A1q (by omega),A1q (by omega),A1q (by omega)]; done)
  | skip
 ·rw [A1r (by omega),A1r (by omega),A1q (by omega),A1r (by omega)]; decide
 ·rw [A1r (by omega),A1r (by omega),A1q (by omega),A1q (by omega)]; decide
 ·rw [A1q (by omega),A1r (by omega),A1q (by omega),A1r (by omega),A1r (by omega)]; decide
 ·rw [A1r (by omega),A1q (by omega),A1r (by omega),A1q (by omega),A1q (by omega)]; decide
 ·rw [A1q (by omega),A1r (by omega),A1q (by omega),A1q (by omega),A1r (by omega)]; decide
 ·rw [A1q (by omega),A1r (by omega),A1q (by omega),A1q (by omega),A1q (by omega),A1r (by omega)]; decide
theorem Zm {a b:Nat} (ha:a≠0) (h:a.log2<b.log2):a<b:=by
 rcases A11 a b with k | k
 ·exact k
 ·have hb:b≠0:=by
   intro e; rw [e] at h
   exact absurd h (by rw [show (0:Nat).log2=0 by decide]; omega)
  have:=(Nat.le_log2 ha).2 (A2b (Nat.log2_self_le hb) k)
  omega
theorem At4 {v e w f:Int} (hs:Ny v=Ny w) (ht:Iw v e≠Iw w f) :
 Xr v e w f=if (decide (Iw w f<Iw v e)==decide (0<Ny v))=true then 1 else -1:=by
 obtain ⟨u1,u2⟩:=Ai1 (v:=v) (e:=e) (w:=w) (f:=f)
 obtain ⟨j,hx,hj⟩:=Yq u1
 obtain ⟨k,hy,hk⟩:=Yq u2
 unfold Xr
 rw [hx,hy]
 have z:v=0↔w=0:=by
  unfold Ny at hs
  constructor
  ·intro h; subst h
   revert hs
   simp
   split<;>simp_all
  ·intro h; subst h
   revert hs
   simp
   split<;>simp_all
 by_cases v0:v=0
 ·exfalso
  apply ht
  unfold Iw
  rw [A1r v0,A1r (z.1 v0)]
 ·have w0:w≠0:=fun h=>v0 (z.2 h)
  have hj:=hj v0
  have hk:=hk w0
  have nv:v.natAbs≠0:=by omega
  have nw:w.natAbs≠0:=by omega
  have l1:=Lu v.natAbs j nv
  have l2:=Lu w.natAbs k nw
  have ax:(v*((2^j:Nat):Int)).natAbs=v.natAbs*2^j:=by rw [Int.natAbs_mul,Int.natAbs_natCast]
  have ay:(w*((2^k:Nat):Int)).natAbs=w.natAbs*2^k:=by rw [Int.natAbs_mul,Int.natAbs_natCast]
  have sx:=(Zd v j).1
  have sy:=(Zd w k).1
  have zx:=Apr v0 j
  have zy:=Apr w0 k
  have tv:Iw v e=(v.natAbs.log2:Int)+1+e:=by unfold Iw Zr; rw [A1q v0,A1q v0]
  have tw:Iw w f=(w.natAbs.log2:Int)+1+f:=by unfold Iw Zr; rw [A1q w0,A1q w0]
  have big:Iw w f<Iw v e→w.natAbs*2^k<v.natAbs*2^j:=fun h=>Zm (I3 nw) (by omega)
  have lit:Iw v e<Iw w f→v.natAbs*2^j<w.natAbs*2^k:=fun h=>Zm (I3 nv) (by omega)
  generalize v*((2^j:Nat):Int)=x at *
  generalize w*((2^k:Nat):Int)=y at *
  by_cases hv:v<0
  ·have sv:Ny v=-1:=by unfold Ny; rw [A1r hv]
   have hw:w<0:=by
    rw [sv] at hs
    unfold Ny at hs
    rcases Int.lt_or_le w 0 with q | q
    ·exact q
    ·rw [A1q (by omega),A1q w0] at hs; omega
   rw [sv]
   unfold Xq
   by_cases h:Iw w f<Iw v e
   ·have:=big h
    rw [A05 h,A1r (by omega)]; rfl
   ·have:=lit (by omega)
    rw [A09 h,A1q (by omega),A1r (by omega)]; rfl
  ·have sv:Ny v=1:=by unfold Ny; rw [A1q hv,A1q v0]
   have hw:¬ w<0:=by
    intro q
    rw [sv] at hs
    unfold Ny at hs
    rw [A1r q] at hs; omega
   rw [sv]
   unfold Xq
   by_cases h:Iw w f<Iw v e
   ·have:=big h
    rw [A05 h,A1q (by omega),A1r (by omega)]; rfl
   ·have:=lit (by omega)
    rw [A09 h,A1r (by omega)]; rfl
theorem Asc (v e w f:Int):Ny (N1 v e (-w) f)=Xr v e w f:=by
 obtain ⟨u1,u2⟩:=Ai1 (v:=v) (e:=e) (w:=w) (f:=f)
 obtain ⟨k,hy,hk⟩:=Yq u2
 have hy':Hc (-w) (f-Df v e w f)=-(Hc w (f-Df v e w f)):=by
  by_cases w0:w=0
  ·rw [w0]; show Hc 0 _=_; rw [Yp]; rfl
  ·unfold Hc
   rw [A1r (u2 w0),A1r (u2 w0),Int.neg_mul]
 unfold N1 Arl Xr
 rw [Avl,Ata,hy',At5]
theorem Ank {v e w f:Int} (h:Ny v≠Ny w):Xr v e w f=min 1 (max (-1) (Ny v-Ny w)):=by
 obtain ⟨u1,u2⟩:=Ai1 (v:=v) (e:=e) (w:=w) (f:=f)
 obtain ⟨j,hx,hj⟩:=Yq u1
 obtain ⟨k,hy,hk⟩:=Yq u2
 have e1:=Adc v j
 have e2:=Adc w k
 unfold Xr
 rw [hx,hy,← e1,← e2]
 exact Ara (by rw [e1,e2]; exact h)
theorem Yr (v:Int):-1≤Ny v∧Ny v≤1:=by unfold Ny; split<;>(try split)<;>omega
theorem Arq {v e w f:Int} (hv:Dv v.natAbs<134217728) (hw:Dv w.natAbs<134217728) (he:-400000≤e∧e≤400000) (hf:-400000≤f∧f≤400000):Dv (N1 v e w f).natAbs<140000001:=by
 have hlo:=Zk (v:=v) (w:=w) he hf
 have l1:=Xv (l:=Df v e w f) hv (show e-Df v e w f≤800000 by omega)
 have l2:=Xv (l:=Df v e w f) hw (show f-Df v e w f≤800000 by omega)
 have l3:=Agt (Hc v (e-Df v e w f)) (Hc w (f-Df v e w f))
 have l4:=Ka (Pd (Arl v e w f))
 unfold N1
 unfold Arl at l4 ⊢
 omega
theorem Aq.Compare.known:Aq.Compare.Kn:=Aq.Compare.Ac (.cons Aq.Sign.known (.cons Aq.Sub.known (.cons Aq.V1.known .nil))) fun n a e m b f hp=>by
 obtain ⟨h1,hf⟩:=Ad.1 hp
 obtain ⟨h2,he⟩:=Ad.1 h1
 obtain ⟨h3,h4⟩:=Ad.1 h2
 obtain ⟨v,rfl,rfl,hv⟩:=P6 h3
 obtain ⟨w,rfl,rfl,hw⟩:=P6 h4
 refine ⟨0,Aq.Compare.out [.b (A6 v),.l (Aj v),.i e,.b (A6 w),.l (Aj w),.i f],[],?_,.int⟩
 show _=some (DV.int .i64 (Xr (wv (A6 v) (Aj v)) e (wv (A6 w) (Aj w)) f))
 have bv:=Yr v
 have bw:=Yr w
 have hm:=Arq (v:=v) (w:=-w) hv (by rw [Int.natAbs_neg]; exact hw) (Au.1 he) (Au.1 hf)
 rw [Aq.Compare.ev]
 simp only [F1]
 rw [Iz (v:=v) (by omega),Iz (v:=w) (by omega),Iz (v:=N1 v e (-w) f) (by omega),h3,h4,he,hf,Aw,Aw]
 simp only [A1a,A04]
 by_cases hs:Ny v=Ny w
 ·have e0:(Ny v !=Ny w)=false:=by simp [hs]
  rw [e0,A08]
  by_cases ht:Iw v e=Iw w f
  ·have e1:(Iw v e !=Iw w f)=false:=by simp [ht]
   rw [e1,A08,Asc]
  ·have e1:(Iw v e !=Iw w f)=true:=by simp [ht]
   rw [e1,A04,At4 hs ht]
   cases (decide (Iw w f<Iw v e)==decide (0<Ny v))<;>rfl
 ·have e0:(Ny v !=Ny w)=true:=by simp [hs]
  rw [e0,A04,Ank hs,An (by omega) (by omega)]
namespace EqRefE
def A5.Value.Bc:List (Nat × Entry):=[(143,Ae.Neg.spec),(115,Ae.Of.spec),(109,Aq.Of.spec),(141,A5.K2.spec),(142,A5.Neg.spec),(140,A5.Power.spec)]
def A5.Value.E:Env:=Be (Bb A5.Value.Bc) (fun _=>false) (fun _=>none) (fun _=>none)
theorem A5.Value.ev (N:Nat) (x:Int):Bu A5.Value.E N f63 (Am f63) [.int .u64 x]=bif (K9 x) then bif (Ak0 (Ab (Da x))) then bif (K9 x) then bif (Bd 0 (L8 x)) then bif (K9 x) then bif (Ak0 (Ab (Bm ((Da x)+4503599627370496)))) then bif (K9 x) then bif (Ak x) then bif (D4 x) then bif (Hs (A6 ((Ab (Bm ((Da x)+4503599627370496))))) (Aj ((Ab (Bm ((Da x)+4503599627370496)))))) then bif (Hs (A6 (- wv (A6 ((Ab (Bm ((Da x)+4503599627370496))))) (Aj ((Ab (Bm ((Da x)+4503599627370496))))))) (Aj (- wv (A6 ((Ab (Bm ((Da x)+4503599627370496))))) (Aj ((Ab (Bm ((Da x)+4503599627370496)))))))&&Wh (Ab ((L8 x)-1075))) then some (.agg [.bool (A6 (mD (wv (A6 (- wv (A6 ((Ab (Bm ((Da x)+4503599627370496))))) (Aj ((Ab (Bm ((Da x)+4503599627370496))))))) (Aj (- wv (A6 ((Ab (Bm ((Da x)+4503599627370496))))) (Aj ((Ab (Bm ((Da x)+4503599627370496)))))))))),.ints .arg .u32 (Aj (mD (wv (A6 (- wv (A6 ((Ab (Bm ((Da x)+4503599627370496))))) (Aj ((Ab (Bm ((Da x)+4503599627370496))))))) (Aj (- wv (A6 ((Ab (Bm ((Da x)+4503599627370496))))) (Aj ((Ab (Bm ((Da x)+4503599627370496)))))))))),.int .i64 (eD (wv (A6 (- wv (A6 ((Ab (Bm ((Da x)+4503599627370496))))) (Aj ((Ab (Bm ((Da x)+4503599627370496))))))) (Aj (- wv (A6 ((Ab (Bm ((Da x)+4503599627370496))))) (Aj ((Ab (Bm ((Da x)+4503599627370496)))))))) (Ab ((L8 x)-1075)))]) else none else none else bif (Hs (A6 ((Ab (Bm ((Da x)+4503599627370496))))) (Aj ((Ab (Bm ((Da x)+4503599627370496)))))&&Wh (Ab ((L8 x)-1075))) then some (.agg [.bool (A6 (mD (wv (A6 ((Ab (Bm ((Da x)+4503599627370496))))) (Aj ((Ab (Bm ((Da x)+4503599627370496)))))))),.ints .arg .u32 (Aj (mD (wv (A6 ((Ab (Bm ((Da x)+4503599627370496))))) (Aj ((Ab (Bm ((Da x)+4503599627370496)))))))),.int .i64 (eD (wv (A6 ((Ab (Bm ((Da x)+4503599627370496))))) (Aj ((Ab (Bm ((Da x)+4503599627370496)))))) (Ab ((L8 x)-1075)))]) else none else none else none else none else none else bif (Ak x) then bif (D4 x) then bif (Hs (A6 ((Ab (Da x)))) (Aj ((Ab (Da x))))) then bif (Hs (A6 (- wv (A6 ((Ab (Da x)))) (Aj ((Ab (Da x)))))) (Aj (- wv (A6 ((Ab (Da x)))) (Aj ((Ab (Da x))))))&&Wh (-1074:Int)) then some (.agg [.bool (A6 (mD (wv (A6 (- wv (A6 ((Ab (Da x)))) (Aj ((Ab (Da x)))))) (Aj (- wv (A6 ((Ab (Da x)))) (Aj ((Ab (Da x))))))))),.ints .arg .u32 (Aj (mD (wv (A6 (- wv (A6 ((Ab (Da x)))) (Aj ((Ab (Da x)))))) (Aj (- wv (A6 ((Ab (Da x)))) (Aj ((Ab (Da x))))))))),.int .i64 (eD (wv (A6 (- wv (A6 ((Ab (Da x)))) (Aj ((Ab (Da x)))))) (Aj (- wv (A6 ((Ab (Da x)))) (Aj ((Ab (Da x))))))) (-1074:Int))]) else none else none else bif (Hs (A6 ((Ab (Da x)))) (Aj ((Ab (Da x))))&&Wh (-1074:Int)) then some (.agg [.bool (A6 (mD (wv (A6 ((Ab (Da x)))) (Aj ((Ab (Da x))))))),.ints .arg .u32 (Aj (mD (wv (A6 ((Ab (Da x)))) (Aj ((Ab (Da x))))))),.int .i64 (eD (wv (A6 ((Ab (Da x)))) (Aj ((Ab (Da x))))) (-1074:Int))]) else none else none else none else none else none:=by kernel_rfl
abbrev _root_.Go.Proofs.S1.A5.Value.Kn:=A7 prog 63 A5.Value.spec
theorem A5.Value.Ac (hk:A1 prog A5.Value.Bc) (h:Hyp A5.Value.E f63 A5.Value.ts A5.Value.pre A5.Value.out):A5.Value.Kn :=
 Al (A2 hk _ _ _) func63 (by kernel_rfl) (by kernel_rfl) h
end EqRefE
open EqRefE
theorem Ad7 {n k:Nat} (h:n<2^(32*k)) {m:Nat} (hk:k<m):Dv n<m:=A16 (Mq h) hk
theorem Uo (m:Nat):Hv false m=(m:Int):=rfl
theorem Afo (m:Nat):Hv true m=-(m:Int):=rfl
theorem A5.Value.known:A5.Value.Kn:=A5.Value.Ac (.cons Ae.Neg.known (.cons Ae.Of.known (.cons Aq.Of.known (.cons A5.K2.known (.cons A5.Neg.known (.cons A5.Power.known .nil)))))) fun x hp=>by
 obtain ⟨n,rfl,hn⟩:=Bo (x:=x) hp
 refine ⟨0,A5.Value.out [.i n],[],?_,wdy⟩
 show _=Anh (mD (Bj n)) (eD (Bj n) (Ba n))
 have hf:=Ks n
 have hw:=Jx n
 have small:∀ k:Nat,k<2^54→Dv k<268435456:=fun k hk=>Ad7 (k:=2) (Nat.lt_trans hk (by decide)) (by omega)
 have o1:∀ k:Nat,k<2^54→Hs (A6 (k:Int)) (Aj (k:Int))=true:=fun k hk=>Iz (by rw [Int.natAbs_natCast]; exact small k hk)
 have o2:∀ k:Nat,k<2^54→Hs (A6 (-(k:Int))) (Aj (-(k:Int)))=true:=fun k hk=>Iz (by rw [Int.natAbs_neg,Int.natAbs_natCast]; exact small k hk)
 rw [A5.Value.ev]
 unfold Da L8 D4 Bj Ba
 simp only [F1,A06]
 have e1:Ab ((Di n:Nat):Int)=((Di n:Nat):Int):=An (by omega) (by omega)
 have e2:Ab (Bm (((Di n:Nat):Int)+4503599627370496))=((Di n+2^52:Nat):Int):=by
  rw [Dh (by omega) (by omega),An (by omega) (by omega)]; omega
 have i1:∀ k:Nat,k<2^54→Ak0 (k:Int)=true:=fun k hk=>Au.2 (by omega)
 rw [I2,Ce hn,e1,e2,i1 _ (by omega),i1 _ (by omega),Aw,An (by omega) (by omega)]
 simp only [A04]
 unfold Ay A9
 by_cases h:Ea n=0
 ·have o3:Wh (-1074)=true:=Au.2 (by omega)
  rw [A1r h,A1r h,A09 (by omega),A08,o1 _ (by omega),o2 _ (by omega),o3]
  cases B0 n
  ·rw [A08,Uo]; rfl
  ·rw [A04,Afo]; rfl
 ·have o3:Wh ((Ea n:Int)-1075)=true:=Au.2 (by omega)
  rw [A1q h,A1q h,A05 (by omega),A04,o1 _ (by omega),o2 _ (by omega),o3]
  cases B0 n
  ·rw [A08,Uo]; rfl
  ·rw [A04,Afo]; rfl
theorem Yc {m t:Nat} (h:m<2^t) (h0:m≠0):Sq m<t:=A16 (Aui h0) ((A2k h0).2 h)
theorem An7 (b:Nat) (g:Int):Kh b g=vAt (Bj (b:Int)) (A9 b) g:=by
 unfold Kh vAt Bj
 rw [A06]
 generalize 2^(A9 b-g).toNat=p
 unfold Hv
 cases B0 b
 ·exact A1p _ _
 ·show -((Ay b*p:Nat):Int)=-(Ay b:Int)*(p:Int)
  rw [A1p,Int.neg_mul]
theorem Ug (b:Nat):(Bj (b:Int)).natAbs=Ay b:=by
 unfold Bj Hv
 rw [A06]
 split<;>omega
theorem An6 (b:Nat):Dv (Bj (b:Int)).natAbs<3∧-400000≤eD (Bj (b:Int)) (A9 b)∧eD (Bj (b:Int)) (A9 b)≤400000:=by
 have hm:=E1 b
 have he:=Ey b
 have ha:=Ug b
 refine ⟨Ad7 (k:=2) (by rw [ha]; exact Nat.lt_trans hm (by decide)) (by omega),?_⟩
 unfold eD
 by_cases h:Bj (b:Int)=0
 ·rw [A1r h]; omega
 ·rw [A1q h]
  have:=Yc (m:=(Bj (b:Int)).natAbs) (t:=53) (by rw [ha]; exact hm) (by omega)
  omega
theorem Ad3 {r:Nat} (h:r<2^63):Dk r=((2^63+r:Nat):Int):=by
 unfold Dk; rw [A06,Zh h]
theorem N5 {r:Nat} (h:r<2^63) (n:Bool):(bif n then (bif (Ak (r:Int)) then some (DV.int .u64 (Dk r)) else none) else some (DV.int .u64 r))=some (DV.int .u64 ((Bp n r:Nat):Int)):=by
 cases n
 ·rfl
 ·rw [Ce (by omega),Ad3 h]; rfl
theorem O5 (n:Bool) (m:Nat) (e:Int):U0 n m e=((Bp n (Cv m e):Nat):Int):=by
 unfold U0; rw [A06]
theorem Ain {E M:Nat} (h1:1≤E) (h2:E≤2046) (h3:4503599627370496≤M) (h4:M<9007199254740992):E*2^52+M%2^52=min ((E-1)*2^52+M) Eh:=by
 obtain ⟨k,rfl⟩:∃ k,E=k+1:=⟨E-1,by omega⟩
 obtain ⟨r,rfl⟩:∃ r,M=2^52+r:=⟨M-2^52,by omega⟩
 have hr:r<2^52:=by omega
 have hm:(2^52+r)%2^52=r:=by rw [Nat.add_mod_left,A1h hr]
 have hk:k*2^52≤2045*2^52:=A1g _ (by omega)
 have hi:Eh=2045*2^52+2^52+2^52:=by unfold Eh; rfl
 rw [hm,Nat.add_sub_cancel,Nat.succ_mul,hi]
 generalize 2^52=c at *
 omega
theorem soft.Pack.known:soft.Pack.Kn:=EqSoft.soft.Pack.Ac (.cons soft.Dp.known .nil) fun rk n m e hp hr=>by
 have hp:=Au.1 (show Lk m e=true from hp)
 have hr:P1 m e<rk+1:=hr
 obtain ⟨m0,m1,e0,e1⟩:=hp
 obtain ⟨M,rfl⟩:∃ M:Nat,m=M:=⟨m.toNat,by omega⟩
 refine ⟨0,soft.Pack.out [.b n,.i M,.i e],[],?_,.int⟩
 rw [EqSoft.soft.Pack.ev]
 show _=some (DV.int .u64 (U0 n M e))
 rw [O5]
 unfold P1 at hr
 by_cases h0:M=0
 ·subst h0
  have:=N5 (r:=0) (by decide) n
  have e0:Cv 0 e=0:=rfl
  rw [e0]
  simpa using this
 ·have b0:((M:Int)==0)=false:=by simp; omega
  rw [b0,A08]
  by_cases h1:M=9007199254740992
  ·have b1:Es (9007199254740992:Int) (M:Int)=true:=by rw [Ej]; simp; omega
   have s1:Dy .u64 (M:Int) (1:Int)=((2^52:Nat):Int):=by
    rw [show (1:Int)=((1:Nat):Int) from rfl,Ii .u64 M 1 (by decide),h1]
   have w1:Ab (e+1)=e+1:=An (by omega) (by omega)
   rw [A1r (by omega)] at hr
   have p1:Lk ((2^52:Nat):Int) (e+1)=true:=Au.2 (by omega)
   have p2:Co (P1 ((2^52:Nat):Int) (e+1)<rk)=true:=Au.2 (by
    unfold P1
    rw [A1q (by omega),A1q (by omega)]; omega)
   rw [b1,s1,w1,p1,p2,O5,h1]
   have:=(Eo (2^52) 1 (e+1)).1
   have e2:e+1-((1:Nat):Int)=e:=by omega
   rw [e2] at this
   rw [← this]; rfl
  ·have b1:Es (9007199254740992:Int) (M:Int)=false:=by rw [Ej]; simp; omega
   rw [b1,A08]
   rw [A1q (by omega)] at hr
   by_cases h2:M<4503599627370496
   ·have b2:Bd (M:Int) (4503599627370496:Int)=true:=by rw [Aw]; simp; omega
    rw [A1r (by omega)] at hr
    by_cases h3:e=-1074
    ·subst h3
     have b3:Bd (-1074:Int) (-1074)=false:=by decide
     rw [b2,b3,A2h,A08,A04,Yt h2]
     exact N5 (by omega) n
    ·have b3:Bd (-1074:Int) e=true:=by rw [Aw]; simp; omega
     have s1:B9 .u64 (M:Int) (1:Int)=((M*2^1:Nat):Int):=by
      rw [show (1:Int)=((1:Nat):Int) from rfl,Fw M 1 (by decide),A1h (by omega)]
     have w1:Ab (e-1)=e-1:=An (by omega) (by omega)
     have p1:Lk ((M*2^1:Nat):Int) (e-1)=true:=Au.2 (by omega)
     have p2:Co (P1 ((M*2^1:Nat):Int) (e-1)<rk)=true:=Au.2 (by
      unfold P1
      rw [A1q (by omega)]
      split<;>omega)
     rw [b2,b3,s1,w1,p1,p2,O5]
     have:=(Eo M 1 e).1
     have e2:e-((1:Nat):Int)=e-1:=by omega
     rw [e2] at this
     rw [this]; rfl
   ·have b2:Bd (M:Int) (4503599627370496:Int)=false:=by rw [Aw]; simp; omega
    have w1:Ab (e+1075)=e+1075:=An (by omega) (by omega)
    rw [b2,w1,Bool.false_and,A08,A08]
    have hr:=M4 (m:=M) (e:=e) (by omega) (by omega) e0
    by_cases h4:2047≤e+1075
    ·have b4:Es (2047:Int) (e+1075)=true:=by rw [Ej]; simp; omega
     have:Cv M e=9218868437227405312:=by rw [hr,Ir]; omega
     rw [b4,this,A04]
     exact N5 (r:=9218868437227405312) (by decide) n
    ·have b4:Es (2047:Int) (e+1075)=false:=by rw [Ej]; simp; omega
     obtain ⟨E,hE⟩:∃ E:Nat,e+1075=E:=⟨(e+1075).toNat,by omega⟩
     have s1:Iu .u64 (B9 .u64 (Bm (e+1075)) (52:Int)) (E6 .u64 (M:Int) (4503599627370495:Int))=((Cv M e:Nat):Int):=by
      rw [hE,Dh (by omega) (by omega),show (52:Int)=((52:Nat):Int) from rfl,Fw E 52 (by decide),A1h (by omega),
       show (4503599627370495:Int)=((2^52-1:Nat):Int) from rfl,Ji 52 (by omega) (by decide),Nu (by omega) (by omega)]
      have hE2:(e+1074).toNat=E-1:=by omega
      have hE3:1≤E∧E≤2046:=by omega
      have hM:4503599627370496≤M∧M<9007199254740992:=by omega
      rw [hr,hE2]
      exact congrArg (fun (x:Nat)=>(x:Int)) (Ain hE3.1 hE3.2 hM.1 hM.2)
     rw [b4,s1,A08]
     exact N5 (Xw M e) n
open EqSoft
theorem Aog {D:Nat} (h:D≤63):2^D<2^64:=Nat.pow_lt_pow_right (by decide) (by omega)
theorem Qm (n:Bool) {r:Nat} (h:r<2^63):G5 .u64 ((Bp n r:Nat):Int) (9223372036854775808:Int)=(r:Int):=by
 have hs:Bp n r<2^64:=by unfold Bp; split<;>omega
 unfold G5
 rw [show (9223372036854775808:Int)=((2^63:Nat):Int) from rfl,BitVec.toNat_and,BitVec.toNat_not,Jd,Jd,show IntKind.u64.bits=64 from rfl,A1h hs,
  show 2^64-1-2^63%2^64=2^63-1 by decide,Nat.and_two_pow_sub_one_eq_mod]
 have:Bp n r%2^63=r:=by unfold Bp; cases n<;>simp<;>omega
 rw [this]
 exact Ui (by omega)
theorem Ait (N:Nat) (ex n:Bool) {r:Nat} (h:r≤Eh):soft.Du.C18 N ex ((Bp n r:Nat):Int)=some (.tup [.int .u64 ((Bp n r:Nat):Int),.int .u8 ((flags r ex:Nat):Int)]):=by
 have h63:r<2^63:=by rw [Ir] at h; omega
 have hs:Bp n r<2^64:=by unfold Bp; split<;>omega
 rw [soft.Du.Ajy,Qm n h63,Ce hs]
 unfold Bk flags
 rw [A06,Wp n h]
 have hinf:(((r:Nat):Int)==(9218868437227405312:Int))=decide (r=Eh):=by
  rw [Ir,A1k]; simp; omega
 rw [hinf]
 by_cases h1:r=Eh
 ·simp [h1]
 ·by_cases h2:2^52≤r
  ·cases ex<;>simp [h1]<;>simp [show 4503599627370496≤r by omega]
  ·by_cases h3:0<r
   ·cases ex<;>simp [h1,h3]<;>simp [show ¬ 4503599627370496≤r by omega]
   ·cases ex<;>simp [h1,h3]<;>simp [show ¬ 4503599627370496≤r by omega]
theorem Amo (N:Nat) (n:Bool) {m:Nat} {e:Int} (he:-1140≤e∧e≤50000) (r:Bool):∀ (k d F:Nat),d+k=62→k<F→(∀ d',d'<d→2^53≤m / 2^d'∨e+d' < -1074) →
 ∃ D:Nat,soft.Du.L0 N F n m e r (d:Int)=soft.Du.C7 N n m e r (D:Int)∧Drop m e D:=by
 intro k
 induction k with
 | zero =>
   intro d F hd hF hl
   obtain ⟨F,rfl⟩:∃ G,F=G+1:=⟨F-1,by omega⟩
   obtain rfl:d=62:=by omega
   rw [soft.Du.Av,Ii .u64 m 62 (by decide),An (by omega) (by omega),An (by omega) (by omega),Ej,Aw]
   have a0:decide ((0:Int)≤((62:Nat):Int))=true:=by decide
   have a1:((((62:Nat):Int)+1)==63)=true:=by decide
   rw [a0,A04,a1,A04]
   by_cases h:2^53≤m / 2^62∨e+(62:Nat) < -1074
   ·refine ⟨63,?_,by omega,by omega,fun d' hd'=>?_⟩
    ·have:(decide ((9007199254740992:Int)≤((m / 2^62:Nat):Int))||decide (e+((62:Nat):Int) < -1074))=true:=by
      simp only [Bool.or_eq_true,A1b]; omega
     rw [this]; rfl
    ·rcases A11 d' 62 with h' | h'
     ·exact hl d' h'
     ·obtain rfl:d'=62:=by omega
      exact h
   ·refine ⟨62,?_,by omega,fun _=>by omega,hl⟩
    have:(decide ((9007199254740992:Int)≤((m / 2^62:Nat):Int))||decide (e+((62:Nat):Int) < -1074))=false:=by
     simp only [Bool.or_eq_false_iff,A1n]; omega
    rw [this]; rfl
 | succ k ih =>
   intro d F hd hF hl
   obtain ⟨F,rfl⟩:∃ G,F=G+1:=⟨F-1,by omega⟩
   rw [soft.Du.Av,Ii .u64 m d (by show d≤64; omega),An (by omega) (by omega),An (by omega) (by omega),Ej,Aw]
   have a0:decide ((0:Int)≤(d:Int))=true:=by simp
   have a1:(((d:Int)+1)==63)=false:=by simp; omega
   rw [a0,A04,a1,A08]
   by_cases h:2^53≤m / 2^d∨e+d < -1074
   ·have:(decide ((9007199254740992:Int)≤((m / 2^d:Nat):Int))||decide (e+(d:Int) < -1074))=true:=by
     simp only [Bool.or_eq_true,A1b]; omega
    rw [this,A04,show (d:Int)+1=((d+1:Nat):Int) by omega]
    refine ih (d+1) F (by omega) (by omega) fun d' hd'=>?_
    rcases A11 d' d with h' | h'
    ·exact hl d' h'
    ·obtain rfl:d'=d:=by omega
     exact h
   ·refine ⟨d,?_,by omega,fun _=>by omega,hl⟩
    have:(decide ((9007199254740992:Int)≤((m / 2^d:Nat):Int))||decide (e+(d:Int) < -1074))=false:=by
     simp only [Bool.or_eq_false_iff,A1n]; omega
    rw [this]; rfl
theorem Amn (N:Nat) (n:Bool) {m D:Nat} (hm:m<2^64) {e:Int} (he:-1140≤e∧e≤50000) (r:Bool) (hD:D≤63) (hq:(if e+D < -1074 then 0 else qOf m D r.toNat)≤2^53) :
 soft.Du.C7 N n m e r (D:Int)=soft.Du.C18 N (decide (m%2^D=0∧r.toNat=0)) ((Bp n (Cv (if e+D < -1074 then 0 else qOf m D r.toNat) (max (e+D) (-1074))):Nat):Int):=by
 have hA:=Cw D
 have h2D:=Aog hD
 have hr:=Nat.mod_lt m hA
 have hqm:m / 2^D≤m:=Nat.div_le_self _ _
 rw [soft.Du.Aru]
 have a0:decide ((0:Int)≤(D:Int))=true:=by simp
 have e1:Dy .u64 (m:Int) (D:Int)=((m / 2^D:Nat):Int):=Ii .u64 m D (by show D≤64; omega)
 have e2:B9 .u64 (1:Int) (D:Int)=((2^D:Nat):Int):=by
  rw [show (1:Int)=((1:Nat):Int) from rfl,Fw 1 D (by omega),Nat.one_mul,A1h h2D]
 have e3:E6 .u64 (m:Int) (Bm (B9 .u64 (1:Int) (D:Int)-(1:Int)))=((m%2^D:Nat):Int):=by
  rw [e2,Dh (by omega) (by omega),show ((2^D:Nat):Int)-1=((2^D-1:Nat):Int) by omega,Ji D hm (by omega)]
 have e5:(bif (((m%2^D:Nat):Int)==(0:Int)) then (!r) else false)=decide (m%2^D=0∧r.toNat=0):=by
  by_cases h:m%2^D=0
  ·cases r<;>simp [h]
  ·have:(((m%2^D:Nat):Int)==(0:Int))=false:=by simp only [A1z,ne_eq]; omega
   rw [this]; simp [h]
 rw [a0,A04,A04,e1,e3,e5,Aw]
 have last:∀ (p:Bool) (q:Nat),q≤2^64-1→(if e+D < -1074 then 0 else q)≤2^53→soft.Du.C14 N n e (D:Int) ((q:Nat):Int) p=soft.Du.C18 N p ((Bp n (Cv (if e+D < -1074 then 0 else q) (max (e+D) (-1074))):Nat):Int):=by
  intro p q hq hq2
  rw [soft.Du.Aat,An (by omega) (by omega),Aw]
  have c16:∀ q':Nat,q'≤2^53→soft.Du.C16 N n e (q':Int) (D:Int) p=soft.Du.C18 N p ((Bp n (Cv q' (max (e+D) (-1074))):Nat):Int):=by
   intro q' hq'
   rw [soft.Du.Awp,An (by omega) (by omega)]
   have:Lk (q':Int) (max (e+(D:Int)) (-1074))=true:=Au.2 (by omega)
   rw [this,O5]; rfl
  by_cases h:e+D < -1074
  ·rw [A1r h] at hq2 ⊢
   have:decide (e+(D:Int) < -1074)=true:=by simpa using h
   rw [this]
   exact c16 0 hq2
  ·rw [A1q h] at hq2 ⊢
   have:decide (e+(D:Int) < -1074)=false:=by simpa using h
   rw [this]
   exact c16 q hq2
 have up:∀ (half:Nat) (hh:0<D→half=2^(D-1)) (p:Bool),soft.Du.C12 N n e r (D:Int) ((m / 2^D:Nat):Int) ((m%2^D:Nat):Int) (half:Int) p=soft.Du.C18 N p ((Bp n (Cv (if e+D < -1074 then 0 else qOf m D r.toNat) (max (e+D) (-1074))):Nat):Int):=by
  intro half hh p
  rw [soft.Du.Ua,Aw,Aw]
  have odd:(E6 .u64 ((m / 2^D:Nat):Int) (1:Int)==(1:Int))=decide (m / 2^D%2=1):=by
   rw [show (1:Int)=((2^1-1:Nat):Int) from rfl,Ji 1 (by omega) (by decide),A1k]
   simp only [beq_iff_eq,A1b]
   omega
  rw [odd]
  have test:(decide ((0:Int)<(D:Int))&&(decide ((half:Int)<((m%2^D:Nat):Int))||((((m%2^D:Nat):Int)==(half:Int))&&(r||decide (m / 2^D%2=1))))) =
   decide (0<D∧(2^(D-1)<m%2^D∨(m%2^D=2^(D-1)∧(r.toNat=1∨m / 2^D%2=1)))):=by
   rw [A1k]
   generalize m%2^D=rr
   generalize m / 2^D=qq
   generalize hg:2^(D-1)=gg at hh
   by_cases h0:0<D
   ·have:=hh h0
    subst this
    cases r<;>simp [h0]<;>omega
   ·simp [h0]
  rw [test]
  by_cases ht:0<D∧(2^(D-1)<m%2^D∨(m%2^D=2^(D-1)∧(r.toNat=1∨m / 2^D%2=1)))
  ·have hq1:qOf m D r.toNat=m / 2^D+1:=by unfold qOf; rw [A1r ht]
   have hlt:m / 2^D+1<2^64:=by
    obtain ⟨d,rfl⟩:∃ d,D=d+1:=⟨D-1,by omega⟩
    have h1:m / 2^(d+1)≤m / 2:=Nat.div_le_div_left (by rw [Nat.pow_succ]; have:=Cw d; omega) (by decide)
    omega
   rw [hq1] at hq ⊢
   rw [A05 ht,A04,Dh (by omega) (by omega),show ((m / 2^D:Nat):Int)+1=((m / 2^D+1:Nat):Int) by omega]
   exact last p _ (by omega) hq
  ·have hq1:qOf m D r.toNat=m / 2^D:=by unfold qOf; rw [A1q ht]; rfl
   rw [hq1] at hq ⊢
   rw [A09 ht,A08]
   exact last p _ (by omega) hq
 rcases Nat.eq_zero_or_pos D with rfl | hpos
 ·have:decide ((0:Int)<((0:Nat):Int))=false:=by decide
  rw [this,A08]
  exact up 0 (fun h=>absurd h (by omega)) _
 ·have h1:decide ((0:Int)<(D:Int))=true:=by simpa using hpos
  have h2:Ab ((D:Int)-1)=((D-1:Nat):Int):=by rw [An (by omega) (by omega)]; omega
  have h3:decide ((0:Int)≤((D-1:Nat):Int))=true:=by simp
  have h4:B9 .u64 (1:Int) ((D-1:Nat):Int)=((2^(D-1):Nat):Int):=by
   rw [show (1:Int)=((1:Nat):Int) from rfl,Fw 1 (D-1) (by omega),Nat.one_mul,A1h (Aog (by omega))]
  rw [h1,A04,h2,h3,A04,h4]
  exact up _ (fun _=>rfl) _
theorem soft.Du.known:soft.Du.Kn:=soft.Du.Ac (.cons soft.Kind.known (.cons soft.Pack.known .nil)) fun n m e r hp=>by
 obtain ⟨m0,m1,e1,e2,hr⟩:=Au.1 (show Er m e r=true from hp)
 obtain ⟨M,rfl⟩:∃ M:Nat,m=M:=⟨m.toNat,by omega⟩
 refine ⟨63,soft.Du.out [.b n,.i M,.i e,.b r],[],?_,Wk.Gv (.cons .int (.cons .int .nil))⟩
 show _=some (DV.tup [.int .u64 (Fe n M e r),.int .u8 (Fc n M e r)])
 unfold Fe Fc Gz
 rw [A06,soft.Du.ev]
 dsimp only
 by_cases h0:M=0∧r=false
 ·obtain ⟨rfl,rfl⟩:=h0
  have:Lk (0:Int) (-1074)=true:=Au.2 (by omega)
  have hp0:=O5 n 0 (-1074)
  rw [this]
  simp only [A2n,Bool.and_true,A04,Bool.toNat_false]
  have hz:(((0:Nat):Int)==0)=true:=rfl
  rw [hz,A04]
  have hp0:U0 n (0:Int) (-1074)=((Bp n (Cv 0 (-1074)):Nat):Int):=hp0
  have z:∀ E,Cv 0 E=0:=fun E=>A1r rfl
  have z3:∀ E,flagsOf 0 E=0:=fun E=>A1r rfl
  rw [hp0,z,show 4*0+0=0 from rfl,z,z3]
  rfl
 ·have hc:((((M:Nat):Int)==(0:Int))&&!r)=false:=by
   cases r
   ·have:M≠0:=fun h=>h0 ⟨h,rfl⟩
    simp; omega
   ·simp
  rw [hc,A08]
  have he:-1140≤e∧e≤50000:=by omega
  obtain ⟨D,hl,hD⟩:=Amo 63 n (m:=M) he r 62 0 63 (by omega) (by omega) (fun d' h=>by omega)
  have hs:r.toNat≤1:=by cases r<;>decide
  have hV:4*M+r.toNat≠0:=by
   intro h
   refine h0 ⟨by omega,?_⟩
   cases r
   ·rfl
   ·simp at h
  obtain ⟨t1,t2,t3⟩:=Amq hD hs hV (by omega) (by omega) (fun h=>by
   have:r=true:=by cases r<;>simp_all
   have:=hr this
   omega)
  have hl:soft.Du.L0 63 63 n (M:Int) e r (0:Int)=soft.Du.C7 63 n (M:Int) e r (D:Int):=hl
  rw [hl,Amn 63 n (by omega) he r hD.le t3,← t1,Ait 63 _ n (Lj _ _),t2]
namespace EqSum
def sum.right.Bc:List (Nat × Entry):=[]
def sum.right.E:Env:=Be (Bb sum.right.Bc) (fun _=>false) (fun _=>none) (fun _=>none)
theorem sum.right.ev (N:Nat) (m d:Int):Bu sum.right.E N f249 (Am f249) [.int .u64 m,.int .i64 d]=bif (Bd 63 d) then bif ((B9 .u64 (Dy .u64 m 63) 63) !=m) then some (.int .u64 (Iu .u64 (Dy .u64 m 63) 1)) else some (.int .u64 (Dy .u64 m 63)) else bif (decide (0≤d)) then bif (decide (0≤d)) then bif ((B9 .u64 (Dy .u64 m d) d) !=m) then some (.int .u64 (Iu .u64 (Dy .u64 m d) 1)) else some (.int .u64 (Dy .u64 m d)) else none else none:=by kernel_rfl
abbrev _root_.Go.Proofs.S1.sum.right.Kn:=A7 prog 249 sum.right.spec
theorem sum.right.Ac (hk:A1 prog sum.right.Bc) (h:Hyp sum.right.E f249 sum.right.ts sum.right.pre sum.right.out):sum.right.Kn :=
 Al (A2 hk _ _ _) func249 (by kernel_rfl) (by kernel_rfl) h
def sum.Ei.Bc:List (Nat × Entry):=[(148,soft.Finite.spec),(155,soft.Kind.spec)]
def sum.Ei.E:Env:=Be (Bb sum.Ei.Bc) (fun _=>false) (fun _=>none) (fun _=>none)
theorem sum.Ei.ev (N:Nat) (a b:Int):Bu sum.Ei.E N f248 (Am f248) [.int .u64 a,.int .u64 b]=bif (Ak a) then bif ((Bk a)==(4:Int)) then some (.tup [.int .u64 9221120237041090560,.int .u8 0]) else bif (Ak b) then bif ((Bk b)==(4:Int)) then some (.tup [.int .u64 9221120237041090560,.int .u8 0]) else bif (Ak a) then bif (Dg a) then some (.tup [.int .u64 b,.int .u8 0]) else bif (Ak b) then bif ((Dg b)||(a==b)) then some (.tup [.int .u64 a,.int .u8 0]) else some (.tup [.int .u64 9221120237041090560,.int .u8 16]) else none else none else none else none :=
 Eq.trans (by kernel_rfl)
 (Ec (Ec rfl (Ec (Ec rfl (Ec (Ec rfl (Ec (Ax (Uc (Dg b)) (Ax (Uc (Dg b)) (Ax (tt8 (Dg b)) (Ax (Ye (Dg b)) (Cp (tt5 (Dg b) (a==b)) rfl rfl))))) rfl)) rfl)) rfl)) rfl)
abbrev _root_.Go.Proofs.S1.sum.Ei.Kn:=A7 prog 248 sum.Ei.spec
theorem sum.Ei.Ac (hk:A1 prog sum.Ei.Bc) (h:Hyp sum.Ei.E f248 sum.Ei.ts sum.Ei.pre sum.Ei.out):sum.Ei.Kn :=
 Al (A2 hk _ _ _) func248 (by kernel_rfl) (by kernel_rfl) h
def sum.Add.Bc:List (Nat × Entry):=[(148,soft.Finite.spec),(212,soft.Du.spec),(211,soft.Fz.spec),(213,soft.Sign.spec),(249,sum.right.spec),(248,sum.Ei.spec)]
def sum.Add.E:Env:=Be (Bb sum.Add.Bc) (fun _=>false) (fun _=>none) (fun _=>none)
theorem sum.Add.ev (N:Nat) (a b:Int):Bu sum.Add.E N f232 (Am f232) [.int .u64 a,.int .u64 b]=bif (Ak a) then bif ((!(Dg a))||(Ak b)) then bif ((!(Dg a))||(!(Dg b))) then bif ((Ak a&&Ak b)&&(!(Dg a)||!(Dg b))) then some (.tup [.int .u64 (Kd a b),.int .u8 (Xm a b)]) else none else bif (Ak a) then bif (Ak b) then bif (Ak a) then bif (Ak b) then bif (Bd (Ba a) (Ba b)) then bif (Ak (B9 .u64 (B1 a) 9)&&Co (0≤(Ab ((Ba b)-(Ba a)))∧(Ab ((Ba b)-(Ba a)))<1000000)) then bif ((D4 b)==(D4 a)) then bif (Er (Bm ((B9 .u64 (B1 b) 9)+(Fm (B9 .u64 (B1 a) 9) (Ab ((Ba b)-(Ba a)))))) (Ab ((Ba b)-9)) false) then some (.tup [.int .u64 (Fe (D4 b) (Bm ((B9 .u64 (B1 b) 9)+(Fm (B9 .u64 (B1 a) 9) (Ab ((Ba b)-(Ba a)))))) (Ab ((Ba b)-9)) false),.int .u8 (Fc (D4 b) (Bm ((B9 .u64 (B1 b) 9)+(Fm (B9 .u64 (B1 a) 9) (Ab ((Ba b)-(Ba a)))))) (Ab ((Ba b)-9)) false)]) else none else bif (Bd (Fm (B9 .u64 (B1 a) 9) (Ab ((Ba b)-(Ba a)))) (B9 .u64 (B1 b) 9)) then bif (Er (Bm ((B9 .u64 (B1 b) 9)-(Fm (B9 .u64 (B1 a) 9) (Ab ((Ba b)-(Ba a)))))) (Ab ((Ba b)-9)) false) then some (.tup [.int .u64 (Fe (D4 b) (Bm ((B9 .u64 (B1 b) 9)-(Fm (B9 .u64 (B1 a) 9) (Ab ((Ba b)-(Ba a)))))) (Ab ((Ba b)-9)) false),.int .u8 (Fc (D4 b) (Bm ((B9 .u64 (B1 b) 9)-(Fm (B9 .u64 (B1 a) 9) (Ab ((Ba b)-(Ba a)))))) (Ab ((Ba b)-9)) false)]) else none else bif (Bd (B9 .u64 (B1 b) 9) (Fm (B9 .u64 (B1 a) 9) (Ab ((Ba b)-(Ba a))))) then bif (Er (Bm ((Fm (B9 .u64 (B1 a) 9) (Ab ((Ba b)-(Ba a))))-(B9 .u64 (B1 b) 9))) (Ab ((Ba b)-9)) false) then some (.tup [.int .u64 (Fe (D4 a) (Bm ((Fm (B9 .u64 (B1 a) 9) (Ab ((Ba b)-(Ba a))))-(B9 .u64 (B1 b) 9))) (Ab ((Ba b)-9)) false),.int .u8 (Fc (D4 a) (Bm ((Fm (B9 .u64 (B1 a) 9) (Ab ((Ba b)-(Ba a))))-(B9 .u64 (B1 b) 9))) (Ab ((Ba b)-9)) false)]) else none else some (.tup [.int .u64 0,.int .u8 0]) else none else bif (Ak (B9 .u64 (B1 b) 9)&&Co (0≤(Ab ((Ba a)-(Ba b)))∧(Ab ((Ba a)-(Ba b)))<1000000)) then bif ((D4 a)==(D4 b)) then bif (Er (Bm ((B9 .u64 (B1 a) 9)+(Fm (B9 .u64 (B1 b) 9) (Ab ((Ba a)-(Ba b)))))) (Ab ((Ba a)-9)) false) then some (.tup [.int .u64 (Fe (D4 a) (Bm ((B9 .u64 (B1 a) 9)+(Fm (B9 .u64 (B1 b) 9) (Ab ((Ba a)-(Ba b)))))) (Ab ((Ba a)-9)) false),.int .u8 (Fc (D4 a) (Bm ((B9 .u64 (B1 a) 9)+(Fm (B9 .u64 (B1 b) 9) (Ab ((Ba a)-(Ba b)))))) (Ab ((Ba a)-9)) false)]) else none else bif (Bd (Fm (B9 .u64 (B1 b) 9) (Ab ((Ba a)-(Ba b)))) (B9 .u64 (B1 a) 9)) then bif (Er (Bm ((B9 .u64 (B1 a) 9)-(Fm (B9 .u64 (B1 b) 9) (Ab ((Ba a)-(Ba b)))))) (Ab ((Ba a)-9)) false) then some (.tup [.int .u64 (Fe (D4 a) (Bm ((B9 .u64 (B1 a) 9)-(Fm (B9 .u64 (B1 b) 9) (Ab ((Ba a)-(Ba b)))))) (Ab ((Ba a)-9)) false),.int .u8 (Fc (D4 a) (Bm ((B9 .u64 (B1 a) 9)-(Fm (B9 .u64 (B1 b) 9) (Ab ((Ba a)-(Ba b)))))) (Ab ((Ba a)-9)) false)]) else none else bif (Bd (B9 .u64 (B1 a) 9) (Fm (B9 .u64 (B1 b) 9) (Ab ((Ba a)-(Ba b))))) then bif (Er (Bm ((Fm (B9 .u64 (B1 b) 9) (Ab ((Ba a)-(Ba b))))-(B9 .u64 (B1 a) 9))) (Ab ((Ba a)-9)) false) then some (.tup [.int .u64 (Fe (D4 b) (Bm ((Fm (B9 .u64 (B1 b) 9) (Ab ((Ba a)-(Ba b))))-(B9 .u64 (B1 a) 9))) (Ab ((Ba a)-9)) false),.int .u8 (Fc (D4 b) (Bm ((Fm (B9 .u64 (B1 b) 9) (Ab ((Ba a)-(Ba b))))-(B9 .u64 (B1 a) 9))) (Ab ((Ba a)-9)) false)]) else none else some (.tup [.int .u64 0,.int .u8 0]) else none else none else none else none else none else none else none :=
 Eq.trans (by kernel_rfl)
 (Ec (Ax (Aaw (Dg a)) (Cp (Aol (Dg a) (Ak b)) (Ax (Q0 (Dg a)) (Ax (Ac1 (Dg a)) (Cp (Asa (Dg a) (Dg b)) rfl rfl))) rfl)) rfl)
abbrev _root_.Go.Proofs.S1.sum.Add.Kn:=A7 prog 232 sum.Add.spec
theorem sum.Add.Ac (hk:A1 prog sum.Add.Bc) (h:Hyp sum.Add.E f232 sum.Add.ts sum.Add.pre sum.Add.out):sum.Add.Kn :=
 Al (A2 hk _ _ _) func232 (by kernel_rfl) (by kernel_rfl) h
def sum.Sub.Bc:List (Nat × Entry):=[(233,soft.Dp.spec),(232,sum.Add.spec)]
def sum.Sub.E:Env:=Be (Bb sum.Sub.Bc) (fun _=>false) (fun _=>none) (fun _=>none)
theorem sum.Sub.ev (N:Nat) (a b:Int):Bu sum.Sub.E N f207 (Am f207) [.int .u64 a,.int .u64 b]=bif (Ak b) then bif (Ak a&&Ak (Dk b)) then some (.tup [.int .u64 (Kd a (Dk b)),.int .u8 (Xm a (Dk b))]) else none else none:=by kernel_rfl
abbrev _root_.Go.Proofs.S1.sum.Sub.Kn:=A7 prog 207 sum.Sub.spec
theorem sum.Sub.Ac (hk:A1 prog sum.Sub.Bc) (h:Hyp sum.Sub.E f207 sum.Sub.ts sum.Sub.pre sum.Sub.out):sum.Sub.Kn :=
 Al (A2 hk _ _ _) func207 (by kernel_rfl) (by kernel_rfl) h
end EqSum
open EqSum
theorem Avr (q:Nat):q ||| 1=2*(q / 2)+1:=by
 have e:q%2 ||| (q / 2*2^1)=q / 2*2^1+q%2:=Nk (Nat.mod_lt _ (by decide))
 have e1:1 ||| (q / 2*2^1)=q / 2*2^1+1:=Nk (k:=1) (by decide)
 have hq:q / 2*2^1+q%2=q:=by omega
 rw [hq] at e
 rcases Nat.mod_two_eq_zero_or_one q with h | h
 ·rw [h,Nat.zero_or] at e
  rw [e,Nat.or_comm] at e1
  omega
 ·rw [h] at e
  have:q ||| 1=q:=by
   conv=>lhs; rw [← e]
   rw [Nat.or_comm 1,Nat.or_assoc,Nat.or_self,Nat.or_comm,e]
  omega
theorem Yw {n s:Nat} (hn:n<2^64) (hs:s≤63) :
 (bif ((B9 .u64 (Dy .u64 (n:Int) (s:Int)) (s:Int)) !=(n:Int)) then
  some (DV.int .u64 (Iu .u64 (Dy .u64 (n:Int) (s:Int)) (1:Int)))
 else some (.int .u64 (Dy .u64 (n:Int) (s:Int))))=some (.int .u64 ((Gd n s:Nat):Int)):=by
 have hq:n / 2^s≤n:=Nat.div_le_self _ _
 have hm:n / 2^s*2^s≤n:=Nat.div_mul_le_self _ _
 have hd:=Nat.div_add_mod n (2^s)
 rw [A1s] at hd
 rw [Ii .u64 n s (by show s≤64; omega),Fw _ s (by omega),A1h (by omega)]
 have h1:Iu .u64 ((n / 2^s:Nat):Int) (1:Int)=((n / 2^s ||| 1:Nat):Int):=Vx (by omega) (by decide)
 rw [h1,Avr]
 unfold Gd
 by_cases h:n%2^s=0
 ·have:((((n / 2^s*2^s:Nat):Int)) !=(n:Int))=false:=by
   simp only [bne_eq_false_iff_eq]; omega
  rw [this,A1r h,A08]
 ·have:((((n / 2^s*2^s:Nat):Int)) !=(n:Int))=true:=by
   simp only [bne_iff_ne,ne_eq]; omega
  rw [this,A1q h,A04]
theorem sum.right.known:sum.right.Kn:=sum.right.Ac .nil fun m d hp=>by
 obtain ⟨h1,h2⟩:=Ad.1 hp
 obtain ⟨n,rfl,hn⟩:=Bo h1
 have h2:=Au.1 h2
 obtain ⟨d,rfl⟩:∃ k:Nat,d=k:=⟨d.toNat,by omega⟩
 refine ⟨0,sum.right.out [.i n,.i d],[],?_,.int⟩
 rw [sum.right.ev,Aw]
 show _=some (DV.int .u64 (Fm n d))
 unfold Fm
 rw [A06,A06]
 by_cases h:63<d
 ·have:decide ((63:Int)<(d:Int))=true:=by simp; omega
  rw [this,A04,Nat.min_eq_right (by omega)]
  exact Yw hn (A1y 63)
 ·have:decide ((63:Int)<(d:Int))=false:=by simp; omega
  have h0:decide ((0:Int)≤(d:Int))=true:=by simp
  rw [this,A08,h0,A04,A04,Nat.min_eq_left (by omega)]
  exact Yw hn (by omega)
theorem Ajx:((Qw:Nat):Int)=9221120237041090560:=rfl
theorem sum.Ei.known:sum.Ei.Kn:=sum.Ei.Ac (.cons soft.Finite.known (.cons soft.Kind.known .nil)) fun a b hp=>by
 obtain ⟨h1,h2⟩:=Ad.1 hp
 obtain ⟨ha,hb⟩:=Ad.1 h1
 obtain ⟨a,rfl,hn⟩:=Bo ha
 obtain ⟨b,rfl,hm⟩:=Bo hb
 refine ⟨0,sum.Ei.out [.i a,.i b],[],?_,Wk.Gv (.cons .int (.cons .int .nil))⟩
 rw [sum.Ei.ev,ha,hb]
 show _=some (DV.tup [.int .u64 (Kd a b),.int .u8 (Xm a b)])
 unfold Kd Xm Lg Bk Dg
 simp only [A06,A04]
 unfold Dg at h2
 simp only [A06] at h2
 by_cases a4:Ao a=4
 ·simp [a4,Ajx]
 ·have e4:((Ao a:Int)==4)=false:=by simp; omega
  rw [e4,A08]
  by_cases b4:Ao b=4
  ·simp [b4,Ajx]
  ·have f4:((Ao b:Int)==4)=false:=by simp; omega
   rw [f4,A08]
   have ka:=Zu a
   have kb:=Zu b
   by_cases a3:Ao a=3
   ·have fa:Ku a=false:=by rw [ka]; simp [a3]
    rw [fa,A08]
    by_cases b3:Ao b=3
    ·have fb:Ku b=false:=by rw [kb]; simp [b3]
     rw [fb]
     by_cases hab:a=b
     ·subst hab; simp [a3]
     ·have hab':((a:Int)==(b:Int))=false:=by simp; omega
      rw [hab']
      simp [a3,b3,hab,Ajx]
    ·have fb:Ku b=true:=by rw [kb]; simp [b3,b4]
     rw [fb]
     simp [a3,b3,b4]
   ·have fa:Ku a=true:=by rw [ka]; simp [a3,a4]
    have b3:Ao b=3:=by
     rw [fa,kb] at h2
     simp [b4] at h2
     exact h2
    rw [fa,A04]
    simp [a3,b3,a4]
def Akb (na nb:Bool) (X r:Nat) (e:Int):Nat × Nat :=
 if na=nb then Gz na (X+r) e false else if r<X then Gz na (X-r) e false else if X<r then Gz nb (r-X) e false else (0,0)
theorem Wi {na:Bool} {m:Int} {n:Nat} {e e':Int} (h:m=n) (he:e'=e) (hn:n<2^64) (h1:-1100≤e) (h2:e≤1000) :
 (bif Er m e' false then some (DV.tup [.int .u64 (Fe na m e' false),.int .u8 (Fc na m e' false)]) else none)
  = some (.tup [.int .u64 (((Gz na n e false).1:Nat):Int),.int .u8 (((Gz na n e false).2:Nat):Int)]):=by
 subst h; subst he
 have hp:Er (n:Int) e' false=true:=Au.2 ⟨by omega,by omega,by omega,.inl (by omega),fun h=>by cases h⟩
 rw [hp,A04]
 unfold Fe Fc
 rw [A06]
theorem Ahu (na nb:Bool) {X r:Nat} {e e':Int} (hX:X<2^62) (hr:r≤2^62) (h:e'=e) (h1:-1100≤e) (h2:e≤1000) :
 (bif (na==nb) then
  bif Er (Bm ((X:Int)+(r:Int))) e' false then some (DV.tup [.int .u64 (Fe na (Bm ((X:Int)+(r:Int))) e' false),.int .u8 (Fc na (Bm ((X:Int)+(r:Int))) e' false)]) else none
 else bif Bd (r:Int) (X:Int) then
  bif Er (Bm ((X:Int)-(r:Int))) e' false then some (DV.tup [.int .u64 (Fe na (Bm ((X:Int)-(r:Int))) e' false),.int .u8 (Fc na (Bm ((X:Int)-(r:Int))) e' false)]) else none
 else bif Bd (X:Int) (r:Int) then
  bif Er (Bm ((r:Int)-(X:Int))) e' false then some (DV.tup [.int .u64 (Fe nb (Bm ((r:Int)-(X:Int))) e' false),.int .u8 (Fc nb (Bm ((r:Int)-(X:Int))) e' false)]) else none
 else some (.tup [.int .u64 (0:Int),.int .u8 (0:Int)])) =
  some (.tup [.int .u64 (((Akb na nb X r e).1:Nat):Int),.int .u8 (((Akb na nb X r e).2:Nat):Int)]):=by
 unfold Akb
 rw [Aw,Aw]
 by_cases hs:na=nb
 ·have:(na==nb)=true:=by simp [hs]
  rw [this,A04,A1r hs]
  exact Wi (by rw [Dh (by omega) (by omega)]; omega) h (by omega) h1 h2
 ·have:(na==nb)=false:=by simp [hs]
  rw [this,A08,A1q hs]
  by_cases hl:r<X
  ·have:decide ((r:Int)<(X:Int))=true:=by simp; omega
   rw [this,A04,A1r hl]
   exact Wi (by rw [Dh (by omega) (by omega)]; omega) h (by omega) h1 h2
  ·have:decide ((r:Int)<(X:Int))=false:=by simp; omega
   rw [this,A08,A1q hl]
   by_cases hg:X<r
   ·have:decide ((X:Int)<(r:Int))=true:=by simp; omega
    rw [this,A04,A1r hg]
    exact Wi (by rw [Dh (by omega) (by omega)]; omega) h (by omega) h1 h2
   ·have:decide ((X:Int)<(r:Int))=false:=by simp; omega
    rw [this,A08,A1q hg]
    rfl
theorem Alh {a b:Nat} (ha:Ku a=true) (hb:Ku b=true) (hle:A9 b≤A9 a) :
 ∃ X r:Nat,X<2^62∧r≤2^62∧B9 .u64 (B1 a) (9:Int)=(X:Int)∧Fm (B9 .u64 (B1 b) (9:Int)) (Ab (Ba a-Ba b))=(r:Int)
  ∧ Ab (Ba a-9)=A9 a-9
  ∧ (Ak (B9 .u64 (B1 b) (9:Int))&&Co (0≤(Ab ((Ba a)-(Ba b)))∧(Ab ((Ba a)-(Ba b)))<1000000))=true
  ∧ Akb (D4 a) (D4 b) X r (A9 a-9)=Lg a b:=by
 obtain ⟨d,hd⟩:∃ d:Nat,A9 a=A9 b+d:=⟨(A9 a-A9 b).toNat,by omega⟩
 have hx:=E1 a
 have hy:=E1 b
 have ea:=Ey a
 have eb:=Ey b
 have C:=Aht (Mx:=Ay a) (My:=Ay b) hd hx hy (fun h=>Abw (by omega))
 have sh:∀ m:Nat,m<2^53→B9 .u64 (m:Int) (9:Int)=((m*2^9:Nat):Int):=fun m hm=>by
  have:=Fw m 9 (by decide)
  rw [A1h (by omega)] at this
  exact this
 have h2:Ab (Ba a-Ba b)=(d:Int):=by
  unfold Ba
  rw [A06,A06,An (by omega) (by omega)]; omega
 have s1:B9 .u64 (B1 a) (9:Int)=((Ay a*2^9:Nat):Int):=by
  unfold B1; rw [A06]; exact sh _ hx
 have s2:B9 .u64 (B1 b) (9:Int)=((Ay b*2^9:Nat):Int):=by
  unfold B1; rw [A06]; exact sh _ hy
 refine ⟨Ay a*2^9,Gd (Ay b*2^9) (min d 63),by omega,C.small,s1,?_,?_,?_,?_⟩
 ·rw [s2,h2]; unfold Fm; rw [A06,A06]
 ·unfold Ba; rw [A06,An (by omega) (by omega)]
 ·rw [s2,h2,Ce (by omega),A2h]
  exact Au.2 ⟨by omega,by omega⟩
 ·unfold D4
  rw [A06,A06,Ahs ha hb hd]
  rfl
theorem sum.Add.known:sum.Add.Kn:=sum.Add.Ac (.cons soft.Finite.known (.cons soft.Du.known (.cons soft.Fz.known (.cons soft.Sign.known (.cons sum.right.known (.cons sum.Ei.known .nil)))))) fun a b hp=>by
 obtain ⟨ha,hb⟩:=Ad.1 hp
 obtain ⟨a,rfl,hn⟩:=Bo ha
 obtain ⟨b,rfl,hm⟩:=Bo hb
 refine ⟨0,sum.Add.out [.i a,.i b],[],?_,Wk.Gv (.cons .int (.cons .int .nil))⟩
 rw [sum.Add.ev,ha,hb]
 show _=some (DV.tup [.int .u64 (Kd a b),.int .u8 (Xm a b)])
 rw [A2g,A04,A04]
 by_cases hf:(!(Dg a)||!(Dg b))=true
 ·rw [hf]; rfl
 ·have hf:(!(Dg a)||!(Dg b))=false:=by simpa using hf
  rw [hf,A08,A04,A04,A04,A04]
  have fa:Ku a=true:=by
   have:=(Bool.or_eq_false_iff.1 hf).1
   unfold Dg at this
   simpa using this
  have fb:Ku b=true:=by
   have:=(Bool.or_eq_false_iff.1 hf).2
   unfold Dg at this
   simpa using this
  have xa:=Ey a
  have xb:=Ey b
  rw [Aw]
  by_cases hl:A9 a<A9 b
  ·obtain ⟨X,r,hX,hr,e1,e2,e3,e4,e5⟩:=Alh fb fa (by omega)
   have:decide (Ba a<Ba b)=true:=by unfold Ba; simpa using hl
   rw [this,A04,e4,A04,e1,e2,Ahu _ _ hX hr e3 (by omega) (by omega),e5,Anx]
   rfl
  ·obtain ⟨X,r,hX,hr,e1,e2,e3,e4,e5⟩:=Alh fa fb (by omega)
   have:decide (Ba a<Ba b)=false:=by unfold Ba; simpa using hl
   rw [this,A08,e4,A04,e1,e2,Ahu _ _ hX hr e3 (by omega) (by omega),e5]
   rfl
theorem sum.Sub.known:sum.Sub.Kn:=sum.Sub.Ac (.cons soft.Dp.known (.cons sum.Add.known .nil)) fun a b hp=>by
 obtain ⟨ha,hb⟩:=Ad.1 hp
 obtain ⟨b,rfl,hm⟩:=Bo hb
 refine ⟨0,sum.Sub.out [.i a,.i b],[],?_,Wk.Gv (.cons .int (.cons .int .nil))⟩
 have:Ak (Dk (b:Int))=true:=by unfold Dk; rw [A06]; exact Ce (Wl hm)
 rw [sum.Sub.ev,ha,hb,this]
 unfold Kd Xm Dk
 rw [A06]
 rfl
end Go.Proofs.S1
end
