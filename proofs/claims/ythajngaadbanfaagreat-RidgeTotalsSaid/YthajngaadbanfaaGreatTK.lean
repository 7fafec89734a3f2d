/- A verified evaluator of the program's form and its use for this seat: S1PDiv, S1EqRoot, S1PRoot, S1PRootA, LdxL, S1EqLdx, S1PLdx, S1PLdxA, S1EqRef08, S1EqRef13, S1PRef08, S1EqHouse, S1PHouse, S1PApply. -/
import Derived.Test.YthajngaadbanfaaGreatTJ
import Derived.Test.YthajngaadbanfaaGreatTE
import Derived.Test.YthajngaadbanfaaGreatTF
set_option linter.unusedVariables false
set_option linter.unusedSimpArgs false
noncomputable section
open Int (toNat)
open List (length getD)
open Go.Proofs.Tryz
namespace Go.Proofs.S1
open Go Go.Den Go.Rnd Go.Proofs Ieee
theorem Arr {m n:Nat} (hm:m≠0) (hn:n≠0) (lm:m<2^53) (ln:n<2^53) (i j:Int) :
 Cl (G1 m n (54+n.log2-m.log2)) (i-j-((54+n.log2-m.log2:Nat):Int)-1)=Cl (G1 m n 120) (i-j-121):=by
 have l1:=(A56 hm).2 lm
 have a1:=Nat.log2_self_le hm
 have a2:=Nat.lt_log2_self (n:=n)
 have g1:2^53≤m*2^(54+n.log2-m.log2) / n:=by
  rw [Nat.le_div_iff_mul_le (by omega)]
  have h1:2^m.log2*2^(54+n.log2-m.log2)≤m*2^(54+n.log2-m.log2):=A42 _ a1
  have h2:2^m.log2*2^(54+n.log2-m.log2)=2^53*2^(n.log2+1):=by
   rw [← A5f,← A5f]
   congr 1
   omega
  have h3:2^53*n≤2^53*2^(n.log2+1):=Nat.mul_le_mul_left _ (by omega)
  omega
 have g2:2^53≤m*2^120 / n:=Ars (t:=53) (by omega) (by omega) ln (by omega)
 exact (Z2 (by omega) g1 g2 (by omega)).1
theorem Avu (s t:Bool) (m:Nat) (i:Int) (n:Nat) (j:Int) (hn:n≠0):(Datum.number s m i).quotient 54 (.number t n j) =
 some (.number (s ^^ t) (G1 m n (54+n.log2-m.log2)) (i-j-((54+n.log2-m.log2:Nat):Int)-1)):=by
 have e:(Datum.number s m i).quotient 54 (.number t n j)=some (.number (s ^^ t) (2*(m <<< (54+n.log2-m.log2) / n)+(m <<< (54+n.log2-m.log2)%n !=0).toNat) (i-j-((54+n.log2-m.log2:Nat):Int)-1)):=A5c hn
 rw [e,Nat.shiftLeft_eq]
 unfold G1
 congr 3
 by_cases h:m*2^(54+n.log2-m.log2)%n=0
 ·rw [A5d h,h]; rfl
 ·have:(m*2^(54+n.log2-m.log2)%n !=0)=true:=by simpa using h
  rw [A5c h,this]; rfl
theorem Att {a b:Nat} (ha:a<2^64) (hb:b<2^64) {d:Nat} (hd:Ai d=4):Ep ((Ieee.double.div a b).getD d)=(Afy a b).1:=by
 have cd:Ep d=Ok:=A5d hd
 have ex:∀ s t:Bool,(s ^^ t)=(s !=t):=fun s t=>by cases s<;>cases t<;>rfl
 have e54:Ieee.double.fractionBits+2=54:=rfl
 unfold Format.div
 rw [J3 ha,J3 hb,e54]
 unfold Afy
 by_cases a4:Ai a=4
 ·rw [A5d (.inl a4),Ie a4]; exact cd
 ·by_cases b4:Ai b=4
  ·rw [A5d (.inr b4),Ie b4]
   by_cases a3:Ai a=3
   ·rw [Fi a3]; exact cd
   ·rw [Fh a3 a4]; exact cd
  ·rw [A5c (fun h=>h.elim a4 b4)]
   by_cases a3:Ai a=3
   ·rw [Fi a3]
    by_cases b3:Ai b=3
    ·rw [Fi b3,A5d ⟨by omega,.inl a3⟩]; exact cd
    ·rw [Fh b3 b4,A5c (by omega),A5d a3]
     show Ep (Bl (Bx a ^^ Bx b) Eh)=_
     rw [Go.Proofs.S1.Mh,ex]
   ·rw [Fh a3 a4]
    by_cases b3:Ai b=3
    ·rw [Fi b3,A5c (by omega),A5c a3,A5d (.inl b3)]
     show Ep (Ieee.double.write (.number (Bx a ^^ Bx b) 0 0))=_
     rw [N8,Te,ex]
     exact H4 _ (Nat.zero_le _)
    ·rw [Fh b3 b4]
     have za:=Wb a3 a4
     have zb:=Wb b3 b4
     by_cases b0:Ai b=0
     ·by_cases a0:Ai a=0
      ·have e:(Datum.number (Bx a) (Ax a) (A2 a)).quotient 54 (.number (Bx b) (Ax b) (A2 b))=none:=by
        show (if Ax b=0 then (if Ax a=0 then none else _) else _)=_
        rw [A5d (zb.2 b0),A5d (za.2 a0)]
       rw [e,A5d ⟨by omega,.inr a0⟩]; exact cd
      ·have e:(Datum.number (Bx a) (Ax a) (A2 a)).quotient 54 (.number (Bx b) (Ax b) (A2 b))=some (.infinity (Bx a ^^ Bx b)):=by
        show (if Ax b=0 then (if Ax a=0 then none else _) else _)=_
        rw [A5d (zb.2 b0),A5c (fun k=>a0 (za.1 k))]
       rw [e,A5c (by omega),A5c a3,A5c (by omega),A5d b0]
       show Ep (Bl (Bx a ^^ Bx b) Eh)=_
       rw [Go.Proofs.S1.Mh,ex]
     ·have hn:Ax b≠0:=fun k=>b0 (zb.1 k)
      rw [Avu _ _ _ _ _ _ hn,A5c (by omega),A5c a3]
      show Ep (Ieee.double.write (.number _ _ _))=_
      rw [N8,H4 _ (Kp _ _),ex]
      by_cases a0:Ai a=0
      ·rw [A5d (.inr a0),za.2 a0]
       have:G1 0 (Ax b) (54+(Ax b).log2-Nat.log2 0)=0:=by
        unfold G1
        rw [Nat.zero_mul,Nat.zero_div,Nat.zero_mod,A5d rfl]
       rw [this,Te]
      ·have hm:Ax a≠0:=fun k=>a0 (za.1 k)
       have la:=Gc a
       have lb:=Gc b
       rw [A5c (by omega),A5c b0,Arr hm hn (by omega) (by omega)]
open Go Go.Den Go.Rnd Go.Proofs
set_option maxRecDepth 100000
namespace EqRoot
def root.Hv.hint:Nat→Option Bc
 | 0=>some { keep:=[0,4,5,6,14],objs:=[],boxes:=[] }
 | _=>none
def root.Hv.Ba:List (Nat × Entry):=[]
def root.Hv.E:Env:=Bg (Bb root.Hv.Ba) (fun _=>false) root.Hv.hint (fun _=>none)
section
variable (N M:Nat) (m p4 p5 p6 p14:Int)
def root.Hv.L0:Option DV:=Cb root.Hv.E N f211 (Ak f211) [1,1,0,1,0] [] M ⟨Fo 68 [(0,.int .u64 m),(4,.int .u64 p4),(5,.int .u64 p5),(6,.int .u64 p6),(14,.int .i64 p14)],[]⟩
theorem root.Hv.Au:root.Hv.L0 N (M+1) m p4 p5 p6 p14=bif (Bi p14 64) then bif (Bi p14 32) then bif (decide (0≤(Ab ((62:Int)-(Ab ((2:Int)*p14)))))) then bif (decide ((H9 (Jl .u64 (Cg .u64 p6 2) (Fy .u64 (Ed .u64 m (Ab ((62:Int)-(Ab ((2:Int)*p14))))) 3)) (Jl .u64 (Cg .u64 p4 2) 1) 0)≤1)) then bif ((H9 (Jl .u64 (Cg .u64 p5 2) (Ed .u64 p6 62)) (Ed .u64 p4 62) (H9 (Jl .u64 (Cg .u64 p6 2) (Fy .u64 (Ed .u64 m (Ab ((62:Int)-(Ab ((2:Int)*p14))))) 3)) (Jl .u64 (Cg .u64 p4 2) 1) 0))==(0:Int)) then root.Hv.L0 N M m (Jl .u64 (Cg .u64 p4 1) 1) (Ph (Jl .u64 (Cg .u64 p5 2) (Ed .u64 p6 62)) (Ed .u64 p4 62) (H9 (Jl .u64 (Cg .u64 p6 2) (Fy .u64 (Ed .u64 m (Ab ((62:Int)-(Ab ((2:Int)*p14))))) 3)) (Jl .u64 (Cg .u64 p4 2) 1) 0)) (Ph (Jl .u64 (Cg .u64 p6 2) (Fy .u64 (Ed .u64 m (Ab ((62:Int)-(Ab ((2:Int)*p14))))) 3)) (Jl .u64 (Cg .u64 p4 2) 1) 0) (Ab (p14+1)) else root.Hv.L0 N M m (Cg .u64 p4 1) (Jl .u64 (Cg .u64 p5 2) (Ed .u64 p6 62)) (Jl .u64 (Cg .u64 p6 2) (Fy .u64 (Ed .u64 m (Ab ((62:Int)-(Ab ((2:Int)*p14))))) 3)) (Ab (p14+1)) else none else none else bif (decide ((H9 (Jl .u64 (Cg .u64 p6 2) 0) (Jl .u64 (Cg .u64 p4 2) 1) 0)≤1)) then bif ((H9 (Jl .u64 (Cg .u64 p5 2) (Ed .u64 p6 62)) (Ed .u64 p4 62) (H9 (Jl .u64 (Cg .u64 p6 2) 0) (Jl .u64 (Cg .u64 p4 2) 1) 0))==(0:Int)) then root.Hv.L0 N M m (Jl .u64 (Cg .u64 p4 1) 1) (Ph (Jl .u64 (Cg .u64 p5 2) (Ed .u64 p6 62)) (Ed .u64 p4 62) (H9 (Jl .u64 (Cg .u64 p6 2) 0) (Jl .u64 (Cg .u64 p4 2) 1) 0)) (Ph (Jl .u64 (Cg .u64 p6 2) 0) (Jl .u64 (Cg .u64 p4 2) 1) 0) (Ab (p14+1)) else root.Hv.L0 N M m (Cg .u64 p4 1) (Jl .u64 (Cg .u64 p5 2) (Ed .u64 p6 62)) (Jl .u64 (Cg .u64 p6 2) 0) (Ab (p14+1)) else none else some (.tup [.int .u64 p4,.bool (bif (p5==(0:Int)) then (p6==(0:Int)) else false)]) :=
 Eq.trans (by kernel_rfl)
 (E1 rfl (Ay (R5 (p5==(0:Int))) (Ay (Oo (p5==(0:Int))) (Ay (W8 (p5==(0:Int))) rfl))))
theorem root.Hv.ev:B0 root.Hv.E N f211 (Ak f211) [.int .u64 m] =
 root.Hv.L0 N N m 0 0 0 0:=by kernel_rfl
end
abbrev _root_.Go.Proofs.S1.root.Hv.Kn:=A8 prog 211 root.Hv.spec
theorem root.Hv.Ad (hk:A1 prog root.Hv.Ba) (h:Hyp root.Hv.E f211 root.Hv.ts root.Hv.pre root.Hv.out):root.Hv.Kn :=
 Al (A4 hk _ _ _) func211 (by kernel_rfl) (by kernel_rfl) h
def root.Sqrt.hint:Nat→Option Bc
 | 5=>some { keep:=[5,7,9],objs:=[],boxes:=[] }
 | _=>none
def root.Sqrt.Ba:List (Nat × Entry):=[(210,De.B9.spec),(211,root.Hv.spec),(165,soft.Kind.spec),(180,soft.D5.spec),(166,soft.Gy.spec),(181,soft.Sign.spec)]
def root.Sqrt.E:Env:=Bg (Bb root.Sqrt.Ba) (fun _=>false) root.Sqrt.hint (fun _=>none)
section
variable (N:Nat) (a:Int) (M:Nat) (p5 p7:Int) (p9:Bool)
def root.Sqrt.L0:Option DV:=Cb root.Sqrt.E N f176 (Ak f176) [1,1,1,1,1,1,1,1,1,0,0] [] M ⟨Fo 73 [(5,.int .i64 p5),(7,.int .u64 p7),(9,.bool p9)],[]⟩
theorem root.Sqrt.Au:root.Sqrt.L0 N (M+1) p5 p7 p9=bif (Ex 4611686018427387904 p7) then root.Sqrt.L0 N M (Ab (p5+2)) (Ed .u64 p7 1) (bif p9 then true else ((Fy .u64 p7 1)==(1:Int))) else bif (Fe p7 (Ab ((Ab (Int.tdiv p5 2))-32)) p9) then some (.tup [.int .u64 (F1 false p7 (Ab ((Ab (Int.tdiv p5 2))-32)) p9),.int .u8 (F0 false p7 (Ab ((Ab (Int.tdiv p5 2))-32)) p9)]) else none :=
 Eq.trans (by kernel_rfl)
 (E1 (Ay (T3 p9) (Ay (Rv p9) (Ay (Rv p9) (Ay (Y5 p9) rfl)))) rfl)
theorem root.Sqrt.ev:B0 root.Sqrt.E N f176 (Ak f176) [.int .u64 a]=bif (Af a) then bif ((Bz a)==(4:Int)) then some (.tup [.int .u64 9221120237041090560,.int .u8 0]) else bif (Af a) then bif ((Bz a)==(0:Int)) then some (.tup [.int .u64 a,.int .u8 0]) else bif (a==(9218868437227405312:Int)) then some (.tup [.int .u64 a,.int .u8 0]) else bif (Af a) then bif (Eb a) then some (.tup [.int .u64 9221120237041090560,.int .u8 16]) else bif (Af a) then bif (Af (B7 a)) then bif ((Int.tmod (Ab ((Bo a)-(Ab ((64-F2 (B7 a))-2)))) 2) !=(0:Int)) then bif (decide (0≤(Ab ((Ab ((64-F2 (B7 a))-2))-1)))) then bif (B3 (0≤(Cg .u64 (B7 a) (Ab ((Ab ((64-F2 (B7 a))-2))-1)))∧(Cg .u64 (B7 a) (Ab ((Ab ((64-F2 (B7 a))-2))-1)))<9223372036854775808)) then root.Sqrt.L0 N N (Ab ((Bo a)-(Ab ((Ab ((64-F2 (B7 a))-2))-1)))) (Wl (Cg .u64 (B7 a) (Ab ((Ab ((64-F2 (B7 a))-2))-1)))) (!(Wm (Cg .u64 (B7 a) (Ab ((Ab ((64-F2 (B7 a))-2))-1))))) else none else none else bif (decide (0≤(Ab ((64-F2 (B7 a))-2)))) then bif (B3 (0≤(Cg .u64 (B7 a) (Ab ((64-F2 (B7 a))-2)))∧(Cg .u64 (B7 a) (Ab ((64-F2 (B7 a))-2)))<9223372036854775808)) then root.Sqrt.L0 N N (Ab ((Bo a)-(Ab ((64-F2 (B7 a))-2)))) (Wl (Cg .u64 (B7 a) (Ab ((64-F2 (B7 a))-2)))) (!(Wm (Cg .u64 (B7 a) (Ab ((64-F2 (B7 a))-2))))) else none else none else none else none else none else none else none:=by kernel_rfl
end
abbrev _root_.Go.Proofs.S1.root.Sqrt.Kn:=A8 prog 176 root.Sqrt.spec
theorem root.Sqrt.Ad (hk:A1 prog root.Sqrt.Ba) (h:Hyp root.Sqrt.E f176 root.Sqrt.ts root.Sqrt.pre root.Sqrt.out):root.Sqrt.Kn :=
 Al (A4 hk _ _ _) func176 (by kernel_rfl) (by kernel_rfl) h
def Ae.Sqrt.Ba:List (Nat × Entry):=[(176,root.Sqrt.spec)]
def Ae.Sqrt.E:Env:=Bg (Bb Ae.Sqrt.Ba) (fun _=>false) (fun _=>none) (fun _=>none)
theorem Ae.Sqrt.ev (N:Nat) (a:Int):B0 Ae.Sqrt.E N f139 (Ak f139) [.int .u64 a]=bif (Af a) then some (.int .u64 (Ea a)) else none:=by kernel_rfl
abbrev _root_.Go.Proofs.S1.Ae.Sqrt.Kn:=A8 prog 139 Ae.Sqrt.spec
theorem Ae.Sqrt.Ad (hk:A1 prog Ae.Sqrt.Ba) (h:Hyp Ae.Sqrt.E f139 Ae.Sqrt.ts Ae.Sqrt.pre Ae.Sqrt.out):Ae.Sqrt.Kn :=
 Al (A4 hk _ _ _) func139 (by kernel_rfl) (by kernel_rfl) h
def compare.Lh.Ba:List (Nat × Entry):=[(167,De.Lw.spec),(136,soft.Finite.spec),(165,soft.Kind.spec),(166,soft.Gy.spec)]
def compare.Lh.E:Env:=Bg (Bb compare.Lh.Ba) (fun _=>false) (fun _=>none) (fun _=>none)
theorem compare.Lh.ev (N:Nat) (a:Int):B0 compare.Lh.E N f123 (Ak f123) [.int .u64 a]=bif (Af a) then bif ((!(Dw a))||(Af a)) then bif ((!(Dw a))||((Bz a)==(0:Int))) then some (.int .i64 0) else bif (Af a) then bif (Af (B7 a)) then some (.int .i64 (Ab ((Ab ((F2 (B7 a))-1))+(Bo a)))) else none else none else none else none :=
 Eq.trans (by kernel_rfl)
 (E1 (Ay (Un (Dw a)) (Cw (Ang _ _) (Ay (Pz (Dw a)) (Ay (Xc (Dw a)) (Cw (Ava _ _) rfl rfl))) rfl)) rfl)
abbrev _root_.Go.Proofs.S1.compare.Lh.Kn:=A8 prog 123 compare.Lh.spec
theorem compare.Lh.Ad (hk:A1 prog compare.Lh.Ba) (h:Hyp compare.Lh.E f123 compare.Lh.ts compare.Lh.pre compare.Lh.out):compare.Lh.Kn :=
 Al (A4 hk _ _ _) func123 (by kernel_rfl) (by kernel_rfl) h
def Ae.Norm.hint:Nat→Option Bc
 | 0=>some { keep:=[5,6,25,26,27],objs:=[],boxes:=[] }
 | _=>none
def Ae.Norm.Ba:List (Nat × Entry):=[(123,compare.Lh.spec),(136,soft.Finite.spec),(137,Ae.Add.spec),(124,Ae.Bv.spec),(138,Ae.Mul.spec),(79,Ae.Br.spec),(139,Ae.Sqrt.spec)]
def Ae.Norm.E:Env:=Bg (Bb Ae.Norm.Ba) (fun _=>false) Ae.Norm.hint (fun _=>none)
section
variable (N M:Nat) (x:List Int) (p6 p27:Int)
def Ae.Norm.L0:Option DV:=Cb Ae.Norm.E N f67 (Ak f67) [1,1,1,1,1,1,0,1,0] [] M ⟨Fo 45 [(5,.int .i64 (Ck (Bw x))),(6,.int .u64 p6),(25,.ints .arg .u64 x),(26,.int .i64 (length x:Int)),(27,.int .i64 p27)],[]⟩
theorem Ae.Norm.Au:Ae.Norm.L0 N (M+1) x p6 p27=bif (Bi p27 (length x:Int)) then bif ((decide (0≤p27))&&(decide (p27<(length x:Int)))) then bif (Dd (getD x (toNat p27) 0) (Ab (0-(Ck (Bw x))))) then bif (Af (Bf (getD x (toNat p27) 0) (Ab (0-(Ck (Bw x)))))&&Af (Bf (getD x (toNat p27) 0) (Ab (0-(Ck (Bw x)))))) then bif (Af p6&&Af (Ca (Bf (getD x (toNat p27) 0) (Ab (0-(Ck (Bw x))))) (Bf (getD x (toNat p27) 0) (Ab (0-(Ck (Bw x))))))) then Ae.Norm.L0 N M x (Dm p6 (Ca (Bf (getD x (toNat p27) 0) (Ab (0-(Ck (Bw x))))) (Bf (getD x (toNat p27) 0) (Ab (0-(Ck (Bw x))))))) (Ab (p27+1)) else none else none else none else none else bif (Af p6) then bif (Dd (Ea p6) (Ck (Bw x))) then some (.tup [.int .u64 (Bf (Ea p6) (Ck (Bw x))),.int .i64 0]) else none else none:=by kernel_rfl
theorem Ae.Norm.ev:B0 Ae.Norm.E N f67 (Ak f67) [.ints .arg .u64 x]=bif (Bi 64 (length x:Int)) then some (.tup [.int .u64 0,.int .i64 3]) else bif (B4 x) then bif (((Bw x)==(0:Int))||(Af (Bw x))) then bif (((Bw x)==(0:Int))||(!(Dw (Bw x)))) then some (.tup [.int .u64 (Bw x),.int .i64 0]) else bif (Af (Bw x)) then Ae.Norm.L0 N N x 0 (0:Int) else none else none else none :=
 Eq.trans (by kernel_rfl)
 (E1 rfl (E1 (Ay (T3 ((Bw x)==(0:Int))) (Cw (Au6 _ _) (Ay (Rv ((Bw x)==(0:Int))) (Ay (Y5 ((Bw x)==(0:Int))) (Cw (A04 _ _) rfl rfl))) rfl)) rfl))
end
abbrev _root_.Go.Proofs.S1.Ae.Norm.Kn:=A8 prog 67 Ae.Norm.spec
theorem Ae.Norm.Ad (hk:A1 prog Ae.Norm.Ba) (h:Hyp Ae.Norm.E f67 Ae.Norm.ts Ae.Norm.pre Ae.Norm.out):Ae.Norm.Kn :=
 Al (A4 hk _ _ _) func67 (by kernel_rfl) (by kernel_rfl) h
end EqRoot
open EqRoot
theorem Sx (n s:Nat) (h:s≤64):Ed .u64 (n:Int) (s:Int)=((n / 2^s:Nat):Int):=Je .u64 n s h
theorem sh2 {n t:Nat} (ht:t<4):Jl .u64 (Cg .u64 (n:Int) (2:Int)) (t:Int)=((n%2^62*4+t:Nat):Int):=by
 rw [show (2:Int)=((2:Nat):Int) from rfl,Gw n 2 (by decide),show n*2^2%2^64=(n%2^62)*2^2 by omega]
 exact O8 ht (by omega)
theorem sh1 {n:Nat} (h:n<2^63):Cg .u64 (n:Int) (1:Int)=((2*n:Nat):Int):=by
 rw [show (1:Int)=((1:Nat):Int) from rfl,Gw n 1 (by decide)]
 congr 1; omega
theorem A32 {n:Nat} (h:n<2^63):Jl .u64 (Cg .u64 (n:Int) (1:Int)) (1:Int)=((2*n+1:Nat):Int):=by
 rw [show (1:Int)=((1:Nat):Int) from rfl,Gw n 1 (by decide),show n*2^1%2^64=n*2^1 by omega,A5e 2 n]
 exact O8 (k:=1) (by decide) (by omega)
theorem Aqu {m i:Nat} (hi:i<32):Fy .u64 (Ed .u64 (m:Int) (Ab ((62:Int)-(Ab ((2:Int)*(i:Int)))))) (3:Int)=((m / 2^(62-2*i)%2^64%4:Nat):Int)∨2^64≤m:=by
 by_cases hm:m<2^64
 ·left
  rw [An (x:=(2:Int)*(i:Int)) (by omega) (by omega),An (x:=(62:Int)-2*(i:Int)) (by omega) (by omega),show (62:Int)-2*(i:Int)=((62-2*i:Nat):Int) by omega,Sx _ _ (by omega)]
  have hd:m / 2^(62-2*i)<2^64:=A5s (Nat.div_le_self _ _) hm
  rw [show (3:Int)=((2^2-1:Nat):Int) from rfl,J9 2 hd (by decide)]
  congr 1
  omega
 ·right; omega
def T4 (m i:Nat):Nat:=m*2^64 / 2^(128-2*i)
theorem Arw {m i:Nat} (hi:i<32):T4 m (i+1)=4*T4 m i+m / 2^(62-2*i)%4:=by
 unfold T4
 have e1:128-2*i=64+(64-2*i):=by omega
 have e2:128-2*(i+1)=64+(62-2*i):=by omega
 rw [e1,e2,A5f,A5f,A5e (2^64),A5e (2^64),Nat.mul_div_mul_right _ _ (by decide),Nat.mul_div_mul_right _ _ (by decide),show 64-2*i=(62-2*i)+2 by omega,A5f,← A5j]
 omega
theorem Aoh {m i:Nat} (hi:32≤i) (h:i<64):T4 m (i+1)=4*T4 m i:=by
 unfold T4
 have e1:(2:Nat)^64=2^(2*i-64)*2^(128-2*i):=by rw [← A5f]; congr 1; omega
 have e2:(2:Nat)^64=2^(2*i-64)*4*2^(128-2*(i+1)):=by
  rw [show (4:Nat)=2^2 from rfl,← A5f,← A5f]; congr 1; omega
 have a1:m*2^64 / 2^(128-2*i)=m*2^(2*i-64):=by rw [e1,← A5h,Nat.mul_div_cancel _ (Co _)]
 have a2:m*2^64 / 2^(128-2*(i+1))=m*(2^(2*i-64)*4):=by rw [e2,← A5h,Nat.mul_div_cancel _ (Co _)]
 rw [a1,a2,← A5h,A5e 4]
theorem Avh {A B tl th:Nat} (hA:A<2^64) (htl:tl<2^64) (hB:B<2^64) (hth:th<4) :
 (H9 (A:Int) (tl:Int) (0:Int)=0∨H9 (A:Int) (tl:Int) (0:Int)=1) ∧
 (th*2^64+tl≤B*2^64+A→(H9 (B:Int) (th:Int) (H9 (A:Int) (tl:Int) (0:Int))==(0:Int))=true ∧
  ∃ h l:Nat,Ph (B:Int) (th:Int) (H9 (A:Int) (tl:Int) (0:Int))=(h:Int)∧Ph (A:Int) (tl:Int) (0:Int)=(l:Int)∧l<2^64∧h*2^64+l=B*2^64+A-(th*2^64+tl)) ∧
 (B*2^64+A<th*2^64+tl→(H9 (B:Int) (th:Int) (H9 (A:Int) (tl:Int) (0:Int))==(0:Int))=false):=by
 have e1:H9 (A:Int) (tl:Int) (0:Int)=((if A<tl then 1 else 0:Nat):Int):=by
  unfold H9
  rw [A4s,A4s]
  rfl
 by_cases h:A<tl
 ·rw [A5d h] at e1
  rw [e1]
  have e2:H9 (B:Int) (th:Int) ((1:Nat):Int)=((if B<th+1 then 1 else 0:Nat):Int):=by
   unfold H9
   rw [A4s,A4s]
   rfl
  refine ⟨.inr rfl,fun hle=>?_,fun hlt=>?_⟩
  ·rw [A5c (by omega)] at e2
   rw [e2]
   refine ⟨rfl,B-th-1,A+2^64-tl,?_,?_,by omega,by omega⟩
   ·unfold Ph
    rw [A4s,A4s,A4s]
    congr 1; omega
   ·unfold Ph
    rw [A4s,A4s]
    show ((_:Nat):Int)=_
    congr 1
    show (A+18446744073709551616-tl-0)%18446744073709551616=_
    omega
  ·rw [A5d (by omega)] at e2
   rw [e2]; rfl
 ·rw [A5c h] at e1
  rw [e1]
  have e2:H9 (B:Int) (th:Int) ((0:Nat):Int)=((if B<th then 1 else 0:Nat):Int):=by
   unfold H9
   rw [A4s,A4s]
   rfl
  refine ⟨.inl rfl,fun hle=>?_,fun hlt=>?_⟩
  ·rw [A5c (by omega)] at e2
   rw [e2]
   refine ⟨rfl,B-th,A-tl,?_,?_,by omega,by omega⟩
   ·unfold Ph
    rw [A4s,A4s,A4s]
    congr 1; omega
   ·unfold Ph
    rw [A4s,A4s]
    show ((_:Nat):Int)=_
    congr 1
    show (A+18446744073709551616-tl-0)%18446744073709551616=_
    omega
  ·rw [A5d (by omega)] at e2
   rw [e2]; rfl
theorem glue (n t:Nat):n / 2^62*2^64+(n%2^62*4+t)=4*n+t:=by omega
theorem Ao4 (N:Nat) {m:Nat} (hm:m<2^63):∀ (k i F rt rest:Nat),i+k=64→k<F→T4 m i=rt*rt+rest→rest≤2*rt→rt<2^i→∀ hi lo:Nat,hi*2^64+lo=rest→lo<2^64 →
 root.Hv.L0 N F (m:Int) (rt:Int) (hi:Int) (lo:Int) (i:Int)=some (.tup [.int .u64 (Wl m),.bool (Wm m)]):=by
 intro k
 induction k with
 | zero =>
   intro i F rt rest hi hF hP hr hb h l e hl
   obtain ⟨F,rfl⟩:∃ G,F=G+1:=⟨F-1,by omega⟩
   obtain rfl:i=64:=by omega
   have hP':m*2^64=rt*rt+rest:=by
    rw [← hP]; unfold T4
    rw [show 128-2*64=0 from rfl,A5o,Nat.div_one]
   have hroot:=Avq hP' hr
   rw [root.Hv.Au,Av,A4v (by omega),A4u]
   have e1:Wl (m:Int)=(rt:Int):=by unfold Wl; rw [A4s,← hroot]
   have e2:Wm (m:Int)=(bif ((h:Int)==(0:Int)) then ((l:Int)==(0:Int)) else false):=by
    unfold Wm
    rw [A4s,← hroot,hP']
    by_cases h0:h=0
    ·subst h0
     rw [show (((0:Nat):Int)==(0:Int))=true from rfl,A4q,A46,A4x,beq_iff_eq]
     omega
    ·rw [show ((h:Int)==(0:Int))=false by rw [A5l]; omega,A4u,A4v]
     omega
   rw [e1,e2]
 | succ k ih =>
   intro i F rt rest hi hF hP hr hb h l e hl
   obtain ⟨F,rfl⟩:∃ G,F=G+1:=⟨F-1,by omega⟩
   have hp:2^i≤2^63:=A45 (by decide) (by omega)
   have hi63:2^(i+1)=2*2^i:=by rw [Nat.pow_succ,A5e]
   have f1:2*rt+1<2^(i+1):=by rw [hi63]; omega
   have f2:2*rt<2^(i+1):=by omega
   have hh:h=0:=by omega
   subst hh
   have hrest:rest=l:=by omega
   subst hrest
   obtain ⟨two,t4,hP',hcode⟩:∃ two:Nat,two<4∧T4 m (i+1)=4*T4 m i+two ∧
    root.Hv.L0 N (F+1) (m:Int) (rt:Int) ((0:Nat):Int) (rest:Int) (i:Int) =
    (bif (decide ((H9 (Jl .u64 (Cg .u64 (rest:Int) (2:Int)) (two:Int)) (Jl .u64 (Cg .u64 (rt:Int) (2:Int)) (1:Int)) (0:Int))≤1)) then
     bif ((H9 (Jl .u64 (Cg .u64 ((0:Nat):Int) (2:Int)) (Ed .u64 (rest:Int) (62:Int))) (Ed .u64 (rt:Int) (62:Int)) (H9 (Jl .u64 (Cg .u64 (rest:Int) (2:Int)) (two:Int)) (Jl .u64 (Cg .u64 (rt:Int) (2:Int)) (1:Int)) (0:Int)))==(0:Int)) then
      root.Hv.L0 N F (m:Int) (Jl .u64 (Cg .u64 (rt:Int) (1:Int)) (1:Int)) (Ph (Jl .u64 (Cg .u64 ((0:Nat):Int) (2:Int)) (Ed .u64 (rest:Int) (62:Int))) (Ed .u64 (rt:Int) (62:Int)) (H9 (Jl .u64 (Cg .u64 (rest:Int) (2:Int)) (two:Int)) (Jl .u64 (Cg .u64 (rt:Int) (2:Int)) (1:Int)) (0:Int))) (Ph (Jl .u64 (Cg .u64 (rest:Int) (2:Int)) (two:Int)) (Jl .u64 (Cg .u64 (rt:Int) (2:Int)) (1:Int)) (0:Int)) (Ab ((i:Int)+(1:Int)))
     else root.Hv.L0 N F (m:Int) (Cg .u64 (rt:Int) (1:Int)) (Jl .u64 (Cg .u64 ((0:Nat):Int) (2:Int)) (Ed .u64 (rest:Int) (62:Int))) (Jl .u64 (Cg .u64 (rest:Int) (2:Int)) (two:Int)) (Ab ((i:Int)+(1:Int)))
    else none):=by
    by_cases h32:i<32
    ·refine ⟨m / 2^(62-2*i)%4,Nat.mod_lt _ (by decide),Arw h32,?_⟩
     have ht:=(Aqu (m:=m) h32).resolve_right (by omega)
     have hq:m / 2^(62-2*i)%2^64%4=m / 2^(62-2*i)%4:=by omega
     rw [hq] at ht
     rw [root.Hv.Au,Av,A4r (show (i:Int)<64 by omega),A4q,Av,A4r (show (i:Int)<32 by omega),A4q,ht,An (x:=(2:Int)*(i:Int)) (by omega) (by omega),An (x:=(62:Int)-2*(i:Int)) (by omega) (by omega),A4r (show (0:Int)≤62-2*(i:Int) by omega),A4q]
    ·refine ⟨0,by decide,by rw [Aoh (by omega) (by omega),A5y],?_⟩
     rw [root.Hv.Au,Av,A4r (show (i:Int)<64 by omega),A4q,Av,A4v (show ¬ (i:Int)<32 by omega),A4u]
     rfl
   obtain ⟨s1,s2⟩:=Ak1 hP hr t4
   have eA:=sh2 (n:=rest) t4
   have eT:=sh2 (n:=rt) (t:=1) (by decide)
   have eB:Jl .u64 (Cg .u64 ((0:Nat):Int) (2:Int)) (Ed .u64 (rest:Int) (62:Int))=((rest / 2^62:Nat):Int):=by
    rw [show (62:Int)=((62:Nat):Int) from rfl,Sx _ _ (by decide),sh2 (n:=0) (t:=rest / 2^62) (by omega)]
    congr 1; omega
   have eH:Ed .u64 (rt:Int) (62:Int)=((rt / 2^62:Nat):Int):=by rw [show (62:Int)=((62:Nat):Int) from rfl,Sx _ _ (by decide)]
   have eT':Jl .u64 (Cg .u64 (rt:Int) (2:Int)) (1:Int)=((rt%2^62*4+1:Nat):Int):=eT
   obtain ⟨b1,b2,b3⟩:=Avh (A:=rest%2^62*4+two) (B:=rest / 2^62) (tl:=rt%2^62*4+1) (th:=rt / 2^62) (by omega) (by omega) (by omega) (by omega)
   rw [hcode,eA,eT',eB,eH,A4r (by rcases b1 with b | b<;>rw [b]<;>decide),A4q,An (by omega) (by omega)]
   by_cases hc:4*rt+1≤4*rest+two
   ·obtain ⟨c1,hh,ll,c2,c3,c4,c5⟩:=b2 (by rw [glue,glue]; exact hc)
    obtain ⟨d1,d2⟩:=s1 hc
    rw [c1,A4q,c2,c3,A32 (by omega)]
    refine ih (i+1) F (2*rt+1) (4*rest+two-(4*rt+1)) (by omega) (by omega) (hP'.trans d1) d2 f1 hh ll ?_ c4
    rw [c5,glue,glue]
   ·rw [b3 (by rw [glue,glue]; omega),A4u,sh1 (by omega)]
    obtain ⟨d1,d2⟩:=s2 (by omega)
    refine ih (i+1) F (2*rt) (4*rest+two) (by omega) (by omega) (hP'.trans d1) d2 f2 _ _ (glue _ _) ?_
    clear hcode
    omega
theorem root.Hv.known:root.Hv.Kn:=root.Hv.Ad .nil fun m hp=>by
 have hp:=Aq.1 hp
 obtain ⟨n,rfl⟩:∃ n:Nat,m=n:=⟨m.toNat,by omega⟩
 refine ⟨65,root.Hv.out [.i n],[],?_,Wk.Hs (.cons .int (.cons .bool .nil))⟩
 rw [root.Hv.ev]
 have h0:T4 n 0=0*0+0:=by
  unfold T4
  rw [Nat.div_eq_of_lt]
  show n*18446744073709551616<340282366920938463463374607431768211456
  omega
 exact Ao4 65 (by omega) 64 0 65 0 0 rfl (by omega) h0 (A5k 0) Nat.one_pos 0 0 rfl (Nat.pow_pos (by decide))
open EqRoot
theorem Aa6 {b:Nat} (h:Ax b≠0):F2 (Ax b:Int)=((Ax b).log2:Int)+1:=by
 unfold F2
 rw [A5c (by omega),A4s]
theorem Anr {w:Nat} {E:Int} {s:Bool} (hw:2^62≤w) (n:Nat) (h:Tq n=w) (hs:s=decide (w*w≠n)) :
 Ht false (w / 2) (E+2) (bif s then true else decide (w%2=1))=(Cl (He n) E,flagsOf (He n) E):=by
 have e1:He n / 2^2=w / 2:=by unfold He; rw [h]; split<;>omega
 have e2:(bif s then true else decide (w%2=1))=decide (He n%2^2≠0):=by
  rw [hs]
  unfold He
  rw [h]
  by_cases h0:w*w=n
  ·rw [A4v (by omega),A4u,A5d h0,decide_eq_decide]; omega
  ·rw [A4r h0,A4q,A5c h0]; symm; exact A4r (by omega)
 rw [← e1]
 have:=We false (V:=He n) (k:=2) (E:=E) (e:=E+2) rfl e2 (by rw [e1]; omega) (by left; rw [e1]; omega)
 rw [Ke] at this
 exact this
theorem root.Sqrt.num {b:Nat} (hb:b<2^64) (h4:Ai b≠4) (h:¬ (Ai b=0∨b=Eh)) (hn:Bx b=false) {z:Nat} (hz:2^60≤Ax b*2^z) (hz2:Ax b*2^z<2^62) (he:(A2 b-(z:Int))%2=0) (z60:z≤62) :
 root.Sqrt.L0 2 2 (A2 b-(z:Int)) (Wl ((Ax b*2^z:Nat):Int)) (!(Wm ((Ax b*2^z:Nat):Int)))=some (.tup [.int .u64 (Ea (b:Int)),.int .u8 (R8 (b:Int))]):=by
 have hE:=Dt b
 have hM:=Gc b
 have h3:Ai b≠3:=fun h3=>by
  refine h (.inr ?_)
  have hpn:Bx b=false:=hn
  unfold Bx at hpn
  have hlt:b<2^63:=by simpa using hpn
  unfold Ai at h3
  have hp:=J4 b
  unfold D7 at h3
  unfold Dj at h3
  unfold Eh
  split at h3
  ·split at h3
   ·omega
   ·omega
  ·split at h3
   ·omega
   ·split at h3<;>omega
 have hm:Ax b≠0:=fun h0=>h (.inl ((Hq h3 h4).1 h0))
 have eN:Ax b*2^z*2^64=Ax b*2^(z+64):=by rw [A5h,← A5f]
 have i1:2^62≤Tq (Ax b*2^z*2^64):=Afn (t:=62) (by omega)
 have i2:=(Qr (Ax b*2^z*2^64)).1
 have i3:Tq (Ax b*2^z*2^64)<2^63:=by
  refine Ag1 (A5s i2 ?_)
  show _<9223372036854775808*9223372036854775808
  omega
 have r1:Wl ((Ax b*2^z:Nat):Int)=(Tq (Ax b*2^z*2^64):Int):=by unfold Wl; rw [A4s]
 have r2:(!(Wm ((Ax b*2^z:Nat):Int)))=decide (Tq (Ax b*2^z*2^64)*Tq (Ax b*2^z*2^64)≠Ax b*2^z*2^64):=by
  unfold Wm; rw [A4s,← decide_not]
 obtain ⟨k1,k2⟩:=Aaf hm
 have same:=Ac8 (m:=Ax b) (k:=z+64) (l:=K5 b) (E:=(A2 b-(z:Int)) / 2-33) (F:=(A2 b-(K5 b:Int)) / 2-1) (by rw [← eN]; omega) k1 (by omega)
 rw [← eN] at same
 have near:=Anr (E:=(A2 b-(z:Int)) / 2-33) i1 _ rfl r2
 rw [same.1,same.2] at near
 have sq:Oq b=_:=Z4 h4 h hn
 rw [r1,r2]
 rw [r2] at near
 generalize Tq (Ax b*2^z*2^64)=w at *
 have w1:Ex (4611686018427387904:Int) (w:Int)=true:=by rw [Fb]; exact A4r (by omega)
 have w2:Ed .u64 (w:Int) (1:Int)=((w / 2:Nat):Int):=by rw [show (1:Int)=((1:Nat):Int) from rfl,Sx _ _ (by decide)]
 have w3:((Fy .u64 (w:Int) (1:Int))==(1:Int))=decide (w%2=1):=by
  rw [show Fy .u64 (w:Int) (1:Int)=((w%2^1:Nat):Int) from J9 1 (by omega) (by decide),A46,beq_iff_eq,A4x]
  omega
 have w4:Ex (4611686018427387904:Int) ((w / 2:Nat):Int)=false:=by rw [Fb]; exact A4v (by omega)
 have w5:Ab (Ab (Int.tdiv (A2 b-(z:Int)+2) 2)-32)=(A2 b-(z:Int)) / 2-33+2:=by
  have:Int.tdiv (A2 b-(z:Int)+2) 2=(A2 b-(z:Int)) / 2+1:=by
   rw [Int.tdiv_eq_ediv]
   split<;>omega
  rw [this,An (x:=(A2 b-(z:Int)) / 2+1) (by omega) (by omega),An (by omega) (by omega)]
  omega
 have w6:Ab (A2 b-(z:Int)+2)=A2 b-(z:Int)+2:=An (by omega) (by omega)
 generalize hs:decide (w*w≠Ax b*2^z*2^64)=s at *
 have pre:Fe ((w / 2:Nat):Int) ((A2 b-(z:Int)) / 2-33+2) (bif s then true else decide (w%2=1))=true:=Aq.2 ⟨by omega,by omega,by omega,by omega,fun _=>.inl (by omega)⟩
 rw [show (2:Nat)=1+1 from rfl,root.Sqrt.Au,w1,A4q,w2,w3,w6,show (1:Nat)=0+1 from rfl,root.Sqrt.Au,w4,A4u,w5,pre,A4q]
 unfold F1 F0 Ea R8
 rw [A4s,A4s,near,sq]
theorem root.Sqrt.known:root.Sqrt.Kn:=root.Sqrt.Ad (.cons De.B9.known (.cons root.Hv.known (.cons soft.Kind.known (.cons soft.D5.known (.cons soft.Gy.known (.cons soft.Sign.known .nil)))))) fun a hp=>by
 obtain ⟨b,rfl,hb⟩:=By (x:=a) hp
 refine ⟨2,root.Sqrt.out [.i b],[],?_,Wk.Hs (.cons .int (.cons .int .nil))⟩
 show _=some (DV.tup [.int .u64 (Ea (b:Int)),.int .u8 (R8 (b:Int))])
 have hk:Bz (b:Int)=(Ai b:Int):=rfl
 rw [root.Sqrt.ev,Cm hb,A4q,A4q,A4q,A4q,hk]
 by_cases h4:Ai b=4
 ·rw [h4,show (((4:Nat):Int)==(4:Int))=true from rfl,A4q]
  unfold Ea R8
  rw [A4s,Z5 h4]; rfl
 have k4:(((Ai b:Nat):Int)==(4:Int))=false:=by rw [A5l]; omega
 rw [k4,A4u]
 by_cases h0:Ai b=0
 ·rw [h0,show (((0:Nat):Int)==(0:Int))=true from rfl,A4q]
  unfold Ea R8
  rw [A4s,Ob h4 (.inl h0)]; rfl
 have k0:(((Ai b:Nat):Int)==(0:Int))=false:=by rw [A5l]; omega
 rw [k0,A4u]
 by_cases hi:b=Eh
 ·rw [show (((b:Nat):Int)==(9218868437227405312:Int))=true by rw [hi]; rfl,A4q]
  unfold Ea R8
  rw [A4s,Ob h4 (.inr hi)]; rfl
 have ki:(((b:Nat):Int)==(9218868437227405312:Int))=false:=by
  rw [A5l]; intro hh; refine hi (show b=9218868437227405312 from ?_); omega
 rw [ki,A4u]
 have hh:¬ (Ai b=0∨b=Eh):=by rintro (h | h); exact h0 h; exact hi h
 have hneg:Eb (b:Int)=Bx b:=rfl
 rw [hneg]
 cases hn:Bx b with
 | true =>
   rw [A4q]
   unfold Ea R8
   rw [A4s,Vo h4 hh hn]; rfl
 | false =>
   rw [A4u]
   have hm:Ax b≠0:=fun hz=>by
    have h3:Ai b≠3:=fun h3=>by
     rcases H3 b with ⟨p,_,_⟩ | ⟨_,_,q⟩ | ⟨_,q,_⟩
     ·unfold Ax at hz
      rw [A5c (by omega)] at hz
      omega
     ·omega
     ·exact q h3
    exact hh (.inl ((Hq h3 h4).1 hz))
   have hM:=Gc b
   have hE:=Dt b
   have hl:(Ax b).log2≤52:=by have:=(A56 hm).2 (show Ax b<2^53 by omega); omega
   have e1:B7 (b:Int)=(Ax b:Int):=rfl
   have e2:Bo (b:Int)=A2 b:=rfl
   have l1:∀ z:Nat,(Ax b).log2+z=60∨(Ax b).log2+z=61→2^60≤Ax b*2^z∧Ax b*2^z<2^62:=by
    intro z hz
    have hlz:=Nd (Ax b) z hm
    have hne:Ax b*2^z≠0:=Jw hm
    constructor
    ·rw [← Nat.le_log2 hne]; omega
    ·rw [← A56 hne]; omega
   have ez:Ab ((64-(((Ax b).log2:Int)+1))-(2:Int))=((61-(Ax b).log2:Nat):Int):=by rw [An (by omega) (by omega)]; omega
   have ez':Ab (((61-(Ax b).log2:Nat):Int)-(1:Int))=((60-(Ax b).log2:Nat):Int):=by rw [An (by omega) (by omega)]; omega
   rw [e1,e2,Cm (n:=Ax b) (by omega),A4q,Aa6 hm,ez,ez',An (x:=A2 b-((61-(Ax b).log2:Nat):Int)) (by omega) (by omega),An (x:=A2 b-((60-(Ax b).log2:Nat):Int)) (by omega) (by omega)]
   by_cases hp2:(A2 b-((61-(Ax b).log2:Nat):Int))%2=0
   ·have t0:(Int.tmod (A2 b-((61-(Ax b).log2:Nat):Int)) (2:Int) !=(0:Int))=false:=by
     rw [bne_eq_false_iff_eq]; exact Int.tmod_eq_zero_of_dvd (Int.dvd_of_emod_eq_zero hp2)
    obtain ⟨m1,m2⟩:=l1 (61-(Ax b).log2) (by omega)
    rw [t0,A4u,A4r (by omega),A4q,Gw _ _ (by omega),A43 (by omega),Aq.2 (by omega),A4q]
    exact root.Sqrt.num hb h4 hh hn m1 m2 hp2 (by omega)
   ·have t0:(Int.tmod (A2 b-((61-(Ax b).log2:Nat):Int)) (2:Int) !=(0:Int))=true:=by
     rw [bne_iff_ne]; intro hz; exact hp2 (Int.emod_eq_zero_of_dvd (Int.dvd_of_tmod_eq_zero hz))
    obtain ⟨m1,m2⟩:=l1 (60-(Ax b).log2) (by omega)
    rw [t0,A4q,A4r (by omega),A4q,Gw _ _ (by omega),A43 (by omega),Aq.2 (by omega),A4q]
    exact root.Sqrt.num hb h4 hh hn m1 m2 (by omega) (by omega)
theorem Ae.Sqrt.known:Ae.Sqrt.Kn:=Ae.Sqrt.Ad (.cons root.Sqrt.known .nil) fun a hp=>by
 have hp:Af a=true:=hp
 refine ⟨0,Ae.Sqrt.out [.i a],[],?_,.int⟩
 rw [Ae.Sqrt.ev,hp]; rfl
theorem compare.Lh.known:compare.Lh.Kn:=compare.Lh.Ad (.cons De.Lw.known (.cons soft.Finite.known (.cons soft.Kind.known (.cons soft.Gy.known .nil)))) fun a hp=>by
 obtain ⟨b,rfl,hb⟩:=By (x:=a) hp
 refine ⟨0,compare.Lh.out [.i b],[],?_,.int⟩
 show _=some (DV.int .i64 (Ck (b:Int)))
 have hk:Bz (b:Int)=(Ai b:Int):=rfl
 have hf:Dw (b:Int)=J1 b:=rfl
 have hE:=Dt b
 have hM:=Gc b
 rw [compare.Lh.ev,Cm hb,A4q,A52,A4q,hk,hf]
 unfold Ck
 rw [A4s]
 unfold Acm
 cases hfin:J1 b with
 | false=>rfl
 | true =>
   by_cases h0:Ai b=0
   ·rw [h0]; rfl
   ·have k0:(((Ai b:Nat):Int)==(0:Int))=false:=by rw [A5l]; omega
    have hm:Ax b≠0:=fun hz=>by
     obtain ⟨f4,f3⟩:=Nh hfin
     exact h0 ((Hq f3 f4).1 hz)
    have hl:(Ax b).log2≤52:=by have:=(A56 hm).2 (show Ax b<2^53 by omega); omega
    have e1:B7 (b:Int)=(Ax b:Int):=rfl
    have e2:Bo (b:Int)=A2 b:=rfl
    rw [k0,A5d ⟨rfl,h0⟩,A5p,Bool.false_or,A4u,A4q,e1,e2,Cm (n:=Ax b) (by omega),A4q,Aa6 hm,An (x:=((Ax b).log2:Int)+1-1) (by omega) (by omega),An (by omega) (by omega)]
    congr 2; omega
theorem Agz {x:List Int} {i:Nat} (h:i<x.length) (k s:Int):Vn k s (x.drop i)=Vn k (Dm s (Ca (Bf (x.getD i 0) k) (Bf (x.getD i 0) k))) (x.drop (i+1)):=by
 rw [J8 h,Vn]
theorem Aop (N:Nat) {x:List Int} (hx:B4 x=true) (hl:x.length≤1000):∀ (k i F:Nat) (s:Int),i+k=x.length→k<F→Af s=true →
 Ae.Norm.L0 N F x s (i:Int)=some (.tup [.int .u64 (Bf (Ea (Vn (-Ck (Bw x)) s (x.drop i))) (Ck (Bw x))),.int .i64 0]):=by
 obtain ⟨_,hu⟩:=I4 hx
 have he:=U6 (Bw x)
 intro k
 induction k with
 | zero =>
   intro i F s hi hF hs
   obtain ⟨F,rfl⟩:∃ G,F=G+1:=⟨F-1,by omega⟩
   rw [Ae.Norm.Au,Av,A4v (by omega),A4u,hs,A4q,show Dd (Ea s) (Ck (Bw x))=true from Ac.2 ⟨Q4 hs,Aq.2 (by omega)⟩,A4q,A44 (by omega)]
   rfl
 | succ k ih =>
   intro i F s hi hF hs
   obtain ⟨F,rfl⟩:∃ G,F=G+1:=⟨F-1,by omega⟩
   rw [Ae.Norm.Au,Av,A4r (show (i:Int)<(x.length:Int) by omega),A4q,A4r (show (0:Int)≤(i:Int) by omega),A4w,A4q,A4s,An (x:=0-Ck (Bw x)) (by omega) (by omega),show (0:Int)-Ck (Bw x)=-Ck (Bw x) by omega,
    show Dd (getD x i 0) (-Ck (Bw x))=true from Ac.2 ⟨hu i (by omega),Aq.2 (by omega)⟩,A4q,Ha (hu i (by omega)),A4w,A4q,hs,Eu,A4w,A4q,Agz (by omega),An (by omega) (by omega)]
   exact ih (i+1) F _ (by omega) (by omega) (Nt hs (Eu _ _))
theorem Ae.Norm.known:Ae.Norm.Kn:=Ae.Norm.Ad (.cons compare.Lh.known (.cons soft.Finite.known (.cons Ae.Add.known (.cons Ae.Bv.known (.cons Ae.Mul.known (.cons Ae.Br.known (.cons Ae.Sqrt.known .nil))))))) fun x hp=>by
 obtain ⟨hx,hl⟩:=Ac.1 (show (B4 x&&B3 (length x≤64))=true from hp)
 have hl:=Aq.1 hl
 refine ⟨65,Ae.Norm.out [.l x],[],?_,Wk.Hs (.cons .int (.cons .int .nil))⟩
 show _=some (DV.tup [.int .u64 (B6 x),.int .i64 0])
 rw [Ae.Norm.ev,Av,A4v (by omega),A4u,hx,A4q,P5,A52,A4q]
 unfold B6
 by_cases h:Bw x=0∨Dw (Bw x)=false
 ·have:((Bw x==(0:Int))||(!(Dw (Bw x))))=true:=by
   rcases h with h | h
   ·rw [h]; rfl
   ·rw [h,A59,A52]
  rw [this,A4q,A5d h]
 ·have:((Bw x==(0:Int))||(!(Dw (Bw x))))=false:=by
   rw [Bool.or_eq_false_iff,A5l,Bool.not_eq_false']
   refine ⟨fun h0=>h (.inl h0),?_⟩
   cases hf:Dw (Bw x) with
   | true=>rfl
   | false=>exact absurd (.inr hf) h
  rw [this,A4u,A4q,A5c h]
  exact Aop 65 hx (by omega) x.length 0 65 0 (by omega) (by omega) Km
end Go.Proofs.S1
namespace Go.Rnd
open Go.Den
theorem p52:Ax 4841369599423283200=2^52∧A2 4841369599423283200=0∧Ai 4841369599423283200=2∧Bx 4841369599423283200=false:=by decide +kernel
theorem p53:Ax 4368491638549381120=2^52∧A2 4368491638549381120=-105∧Ai 4368491638549381120=2∧Bx 4368491638549381120=false:=by decide +kernel
theorem Ag4 {L:Int} {q:Nat} (b1:2^52≤q) (b2:q<2^53) (he:-1074≤L) (hi:L+1074≤2045):min ((L+1074).toNat*2^52+q) 9218868437227405312=(L+1075).toNat*2^52+(q-2^52):=by
 obtain ⟨t,rfl⟩:∃ t:Nat,L=t-1074:=⟨(L+1074).toNat,by omega⟩
 have e1:((t:Int)-1074+1074).toNat=t:=by omega
 have e2:((t:Int)-1074+1075).toNat=t+1:=by omega
 rw [e1,e2]
 omega
theorem Arh {m:Nat} (h0:m≠0) (h:m.log2≤52) {e:Int} (he:-1074≤e+m.log2-52) (hi:e+m.log2-52+1074≤2045) :
 Cl m e=(e+m.log2-52+1075).toNat*2^52+(m*2^(52-m.log2)-2^52)∧2^52≤m*2^(52-m.log2)∧m*2^(52-m.log2)<2^53:=by
 have hl:=Nd m (52-m.log2) h0
 have hne:m*2^(52-m.log2)≠0:=Jw h0
 have b1:2^52≤m*2^(52-m.log2):=by rw [← Nat.le_log2 hne,hl]; omega
 have b2:m*2^(52-m.log2)<2^53:=by rw [← A56 hne,hl]; omega
 have hs:=(Dv m (52-m.log2) e).1
 have ee:e-((52-m.log2:Nat):Int)=e+m.log2-52:=by omega
 rw [ee] at hs
 exact ⟨hs.symm.trans ((Od b1 b2 (by omega)).trans (Ag4 b1 b2 he hi)),b1,b2⟩
theorem Ar7 {x:Nat} (hx:x<2^64) (h3:Ai x≠3) (h4:Ai x≠4) (h0:Ai x≠0) :
 ∃ P f d:Nat,1≤P∧P≤2046∧f<2^52∧N1 x=Bl (Bx x) (P*2^52+f)∧f+2^52=Ax x*2^d∧(P:Int)-1075=A2 x-J7 x-d:=by
 have hf:=Kh x
 have hp:=J4 x
 have hm:Ax x≠0:=fun h=>h0 ((Hq h3 h4).1 h)
 have hw:=Oc hx
 have hab:Ge x=D7 x*2^52+Dj x:=by unfold Ge D7 Dj; omega
 have hp2:D7 x≠2047:=fun h=>by
  rcases H3 x with ⟨_,_,k⟩ | ⟨_,_,k⟩ | ⟨k,_,_⟩
  ·exact h3 k
  ·exact h4 k
  ·omega
 unfold N1 J7
 by_cases hs:Ge x<4503599627370496
 ·have hz:D7 x=0:=by omega
  have eM:Ax x=Dj x:=by unfold Ax; rw [A5d hz]
  have eE:A2 x=-1074:=by unfold A2; rw [A5d hz]
  have hl:(Ax x).log2≤51:=by have:=(A56 hm).2 (show Ax x<2^52 by omega); omega
  rw [A5d hs,A5d hs]
  have hmul:=mul_pow h3 h4 (by rw [p52.2.2.1]; decide) (by rw [p52.2.2.1]; decide) p52.1 p52.2.2.2
  rw [hmul,p52.2.1,eE]
  obtain ⟨r1,r2,r3⟩:=Arh (e:=-1074+0+52) hm (by omega) (by omega) (by omega)
  refine ⟨(Ax x).log2+1,Ax x*2^(52-(Ax x).log2)-2^52,52-(Ax x).log2,by omega,by omega,by omega,?_,by omega,by omega⟩
  have ht:(-1074+0+52+((Ax x).log2:Int)-52+1075).toNat=(Ax x).log2+1:=by omega
  rw [ht] at r1
  exact congrArg (Bl (Bx x)) r1
 ·rw [A5c hs,A5c hs]
  have hz:D7 x≠0:=by
   intro h
   rw [h] at hab
   omega
  have eM:Ax x=Dj x+2^52:=by unfold Ax; rw [A5c hz]
  have eE:A2 x=(D7 x:Int)-1075:=by unfold A2; rw [A5c hz]
  refine ⟨D7 x,Dj x,0,by omega,by omega,hf,?_,by rw [eM,A5o,A5z],by omega⟩
  rw [← hab]
  exact hw.symm
theorem S8 {s:Bool} {P f:Nat} (h1:1≤P) (h2:P≤2046) (hf:f<2^52) :
 D7 (Bl s (P*2^52+f))=P∧Dj (Bl s (P*2^52+f))=f∧Bx (Bl s (P*2^52+f))=s∧Bl s (P*2^52+f)<2^64∧Ai (Bl s (P*2^52+f))=2 ∧
 Ax (Bl s (P*2^52+f))=f+2^52∧A2 (Bl s (P*2^52+f))=(P:Int)-1075:=by
 have e1:D7 (Bl s (P*2^52+f))=P:=by
  unfold D7 Bl
  cases s
  ·rw [A5c (by decide)]; omega
  ·rw [A5d rfl]; omega
 have e2:Dj (Bl s (P*2^52+f))=f:=by
  unfold Dj Bl
  cases s
  ·rw [A5c (by decide)]; omega
  ·rw [A5d rfl]; omega
 have e3:Bx (Bl s (P*2^52+f))=s:=sign_neg s (by omega)
 have e4:Bl s (P*2^52+f)<2^64:=by
  unfold Bl
  cases s
  ·rw [A5c (by decide)]; omega
  ·rw [A5d rfl]; omega
 refine ⟨e1,e2,e3,e4,?_,?_,?_⟩
 ·unfold Ai; rw [e1,A5c (by omega),A5d (by omega)]
 ·unfold Ax; rw [e1,e2,A5c (by omega)]
 ·unfold A2; rw [e1,A5c (by omega)]
theorem Arf {L:Int} {q f:Nat} (hf:f<2^52) (h1:-1074≤L) (h2:L+1074≤2045) (hq:(L+1075).toNat=q):Cl (f+2^52) L=q*2^52+f:=by
 have em:=Ag4 (L:=L) (q:=f+2^52) (by omega) (by omega) h1 h2
 rw [hq,Nat.add_sub_cancel] at em
 exact (Od (by omega) (by omega) h1).trans em
theorem A36 {V:Nat} {E:Int} (h0:V≠0) (h:1024≤E+V.log2):Cl V E=Eh:=by
 have hl:Cy V E=E+V.log2-52:=by unfold Cy; omega
 have hk:=Afm h0 hl
 have hle:=Kp V E
 unfold Cl at hle ⊢
 rw [A5c h0] at hle ⊢
 rw [hl,F6] at hle ⊢
 generalize kept V E=q at *
 obtain ⟨t,ht⟩:∃ t:Nat,E+(V.log2:Int)-52=t:=⟨(E+(V.log2:Int)-52).toNat,by omega⟩
 rw [ht]
 have:((t:Int)+1074).toNat=t+1074:=by omega
 rw [this]
 omega
theorem Aai {y m:Nat} (h:Ep y=m) (hm:Ai m≠4):y=m:=by
 unfold Ep at h
 by_cases h4:Ai y=4
 ·rw [A5d h4] at h
  exact absurd (by rw [← h]; decide) hm
 ·rw [A5c h4] at h; exact h
theorem Sm (s:Bool) (V:Nat) (E:Int):Ai (Bl s (Cl V E))≠4:=by
 rw [X0 s (Kp V E)]
 split
 ·decide
 ·split
  ·decide
  ·split<;>decide
theorem Arb {x P f d:Nat} {k:Int} (hm:Ax x≠0) (he:f+2^52=Ax x*2^d) (hP:(P:Int)-1075=A2 x-J7 x-d) :
 Cl (Ax x) (A2 x+k)=Cl (f+2^52) ((P:Int)-1075+J7 x+k):=by
 have:=(Dv (Ax x) d (A2 x+k)).1
 rw [← he] at this
 rw [← this]
 congr 1
 omega
end Go.Rnd
namespace Go.Proofs.S1
open Go Go.Den Go.Rnd Go.Proofs
set_option maxRecDepth 100000
namespace EqLdx
def math.Hn.Ba:List (Nat × Entry):=[]
def math.Hn.E:Env:=Bg (Bb math.Hn.Ba) (fun _=>false) (fun _=>none) (fun _=>none)
theorem math.Hn.ev (N x:Nat):B0 math.Hn.E N f235 (Ak f235) [.fl x]=some (.fl (x%9223372036854775808)):=by kernel_rfl
abbrev _root_.Go.Proofs.S1.math.Hn.Kn:=A8 prog 235 math.Hn.spec
theorem math.Hn.Ad (hk:A1 prog math.Hn.Ba) (h:Hyp math.Hn.E f235 math.Hn.ts math.Hn.pre math.Hn.out):math.Hn.Kn :=
 Al (A4 hk _ _ _) func235 (by kernel_rfl) (by kernel_rfl) h
def math.Is.Ba:List (Nat × Entry):=[]
def math.Is.E:Env:=Bg (Bb math.Is.Ba) (fun _=>false) (fun _=>none) (fun _=>none)
theorem math.Is.ev (N x:Nat):B0 math.Is.E N f216 (Ak f216) [.fl x]=some (.bool (Ieee.double.order x x !=some .eq)):=by kernel_rfl
abbrev _root_.Go.Proofs.S1.math.Is.Kn:=A8 prog 216 math.Is.spec
theorem math.Is.Ad (hk:A1 prog math.Is.Ba) (h:Hyp math.Is.E f216 math.Is.ts math.Is.pre math.Is.out):math.Is.Kn :=
 Al (A4 hk _ _ _) func216 (by kernel_rfl) (by kernel_rfl) h
def math.It.Ba:List (Nat × Entry):=[(235,math.Hn.spec)]
def math.It.E:Env:=Bg (Bb math.It.Ba) (fun _=>false) (fun _=>none) (fun _=>none)
theorem math.It.ev (N x:Nat) (s:Int):B0 math.It.E N f215 (Ak f215) [.fl x,.int .i64 s]=bif (s==(0:Int)) then some (.bool (Ieee.double.order (Ge x) 9218868437227405311==some .gt)) else bif (Bi s 0) then none else some (.bool (Ieee.double.order x 9218868437227405311==some .gt)):=by kernel_rfl
abbrev _root_.Go.Proofs.S1.math.It.Kn:=A8 prog 215 math.It.spec
theorem math.It.Ad (hk:A1 prog math.It.Ba) (h:Hyp math.It.E f215 math.It.ts math.It.pre math.It.out):math.It.Kn :=
 Al (A4 hk _ _ _) func215 (by kernel_rfl) (by kernel_rfl) h
def math.normalize.Ba:List (Nat × Entry):=[(235,math.Hn.spec)]
def math.normalize.E:Env:=Bg (Bb math.normalize.Ba) (fun _=>false) (fun _=>none) (fun _=>none)
theorem math.normalize.ev (N x:Nat):B0 math.normalize.E N f217 (Ak f217) [.fl x]=bif (Ieee.double.order (Ge x) 4503599627370496==some .lt) then some (.tup [.fl ((Ieee.double.mul x 4841369599423283200).getD nanBits),.int .i64 (-52:Int)]) else some (.tup [.fl x,.int .i64 0]):=by kernel_rfl
abbrev _root_.Go.Proofs.S1.math.normalize.Kn:=A8 prog 217 math.normalize.spec
theorem math.normalize.Ad (hk:A1 prog math.normalize.Ba) (h:Hyp math.normalize.E f217 math.normalize.ts math.normalize.pre math.normalize.out):math.normalize.Kn :=
 Al (A4 hk _ _ _) func217 (by kernel_rfl) (by kernel_rfl) h
def math.Ej.Ba:List (Nat × Entry):=[]
def math.Ej.E:Env:=Abp (Bb math.Ej.Ba) (fun _=>false) (fun _=>none) (fun _=>none) (Amy [])
theorem math.Ej.ev (N x y:Nat):B0 math.Ej.E N f218 (Ak f218) [.fl x,.fl y]=bif (!(G3 x)) then bif (!(G3 y)) then bif (decide (0≤(Jl .u64 (H8 .u64 (x:Int) 9223372036854775808) (Fy .u64 (y:Int) 9223372036854775808)))) then some (.fl (toNat (Jl .u64 (H8 .u64 (x:Int) 9223372036854775808) (Fy .u64 (y:Int) 9223372036854775808)))) else none else none else none:=by kernel_rfl
abbrev _root_.Go.Proofs.S1.math.Ej.Kn:=A8 prog 218 math.Ej.spec
theorem math.Ej.Ad (hk:A1 prog math.Ej.Ba) (h:Hyp math.Ej.E f218 math.Ej.ts math.Ej.pre math.Ej.out):math.Ej.Kn :=
 Al (Afu hk _ _ _ _) func218 (by kernel_rfl) (by kernel_rfl) h
def math.Yd.Ba:List (Nat × Entry):=[]
def math.Yd.E:Env:=Bg (Bb math.Yd.Ba) (fun _=>false) (fun _=>none) (fun _=>none)
theorem math.Yd.ev (N:Nat) (s:Int):B0 math.Yd.E N f219 (Ak f219) [.int .i64 s]=bif (Ex 0 s) then some (.fl 9218868437227405312) else some (.fl 18442240474082181120):=by kernel_rfl
abbrev _root_.Go.Proofs.S1.math.Yd.Kn:=A8 prog 219 math.Yd.spec
theorem math.Yd.Ad (hk:A1 prog math.Yd.Ba) (h:Hyp math.Yd.E f219 math.Yd.ts math.Yd.pre math.Yd.out):math.Yd.Kn :=
 Al (A4 hk _ _ _) func219 (by kernel_rfl) (by kernel_rfl) h
def math.Hy.Ba:List (Nat × Entry):=[(218,math.Ej.spec),(219,math.Yd.spec),(215,math.It.spec),(216,math.Is.spec),(217,math.normalize.spec)]
def math.Hy.E:Env:=Abp (Bb math.Hy.Ba) (fun _=>false) (fun _=>none) (fun _=>none) (Amy [])
theorem math.Hy.ev (N x:Nat) (k:Int):B0 math.Hy.E N f189 (Ak f189) [.fl x,.int .i64 k]=bif (Ieee.double.order x 0==some .eq) then some (.fl x) else bif (W2 x&&decide ((0:Int)=0)) then bif ((decide (Ai x=3))||(W2 x)) then bif ((decide (Ai x=3))||(decide (Ai x=4))) then some (.fl x) else bif (Aim x) then bif (!(G3 (N1 x))) then bif (Bi (Ab ((Ab (k+(J7 x)))+(Ab ((Fy .i64 (Ab (Ed .u64 ((N1 x):Int) 52)) 2047)-1023)))) (-1075:Int)) then bif (Aim (N1 x)&&decide ((0:Int)=0)) then some (.fl (Bl (Bx (N1 x)) 0)) else none else bif (Bi 1023 (Ab ((Ab (k+(J7 x)))+(Ab ((Fy .i64 (Ab (Ed .u64 ((N1 x):Int) 52)) 2047)-1023))))) then bif (Ieee.double.order (N1 x) 0==some .lt) then some (.fl (Bl (decide ((-1:Int)<0)) Eh)) else some (.fl (Bl (decide ((1:Int)<0)) Eh)) else bif (Bi (Ab ((Ab (k+(J7 x)))+(Ab ((Fy .i64 (Ab (Ed .u64 ((N1 x):Int) 52)) 2047)-1023)))) (-1022:Int)) then bif (decide (0≤(Jl .u64 (H8 .u64 ((N1 x):Int) 9218868437227405312) (Cg .u64 (Bs (Ab ((Ab ((Ab ((Ab (k+(J7 x)))+(Ab ((Fy .i64 (Ab (Ed .u64 ((N1 x):Int) 52)) 2047)-1023))))+53))+1023))) 52)))) then some (.fl ((Ieee.double.mul 4368491638549381120 (toNat (Jl .u64 (H8 .u64 ((N1 x):Int) 9218868437227405312) (Cg .u64 (Bs (Ab ((Ab ((Ab ((Ab (k+(J7 x)))+(Ab ((Fy .i64 (Ab (Ed .u64 ((N1 x):Int) 52)) 2047)-1023))))+53))+1023))) 52)))).getD nanBits)) else none else bif (decide (0≤(Jl .u64 (H8 .u64 ((N1 x):Int) 9218868437227405312) (Cg .u64 (Bs (Ab ((Ab ((Ab (k+(J7 x)))+(Ab ((Fy .i64 (Ab (Ed .u64 ((N1 x):Int) 52)) 2047)-1023))))+1023))) 52)))) then some (.fl ((Ieee.double.mul 4607182418800017408 (toNat (Jl .u64 (H8 .u64 ((N1 x):Int) 9218868437227405312) (Cg .u64 (Bs (Ab ((Ab ((Ab (k+(J7 x)))+(Ab ((Fy .i64 (Ab (Ed .u64 ((N1 x):Int) 52)) 2047)-1023))))+1023))) 52)))).getD nanBits)) else none else none else none else none else none :=
 Eq.trans (by kernel_rfl)
 (E1 rfl (E1 (Ay (T3 (decide (Ai x=3))) (Cw (Au6 _ _) (Ay (Y5 (decide (Ai x=3))) (Cw (tt5 _ _) rfl rfl)) rfl)) rfl))
abbrev _root_.Go.Proofs.S1.math.Hy.Kn:=A8 prog 189 math.Hy.spec
theorem math.Hy.Ad (hk:A1 prog math.Hy.Ba) (h:Hyp math.Hy.E f189 math.Hy.ts math.Hy.pre math.Hy.out):math.Hy.Kn :=
 Al (Afu hk _ _ _ _) func189 (by kernel_rfl) (by kernel_rfl) h
def math.I3.Ba:List (Nat × Entry):=[(189,math.Hy.spec)]
def math.I3.E:Env:=Bg (Bb math.I3.Ba) (fun _=>false) (fun _=>none) (fun _=>none)
theorem math.I3.ev (N x:Nat) (k:Int):B0 math.I3.E N f146 (Ak f146) [.fl x,.int .i64 k]=bif (W2 x&&B3 (-2300≤k∧k≤2300)) then some (.fl (Jz x k)) else none:=by kernel_rfl
abbrev _root_.Go.Proofs.S1.math.I3.Kn:=A8 prog 146 math.I3.spec
theorem math.I3.Ad (hk:A1 prog math.I3.Ba) (h:Hyp math.I3.E f146 math.I3.ts math.I3.pre math.I3.out):math.I3.Kn :=
 Al (A4 hk _ _ _) func146 (by kernel_rfl) (by kernel_rfl) h
def Ah.Br.Ba:List (Nat × Entry):=[(146,math.I3.spec),(145,Ah.B.spec),(147,Ah.F.spec)]
def Ah.Br.E:Env:=Bg (Bb Ah.Br.Ba) (fun _=>false) (fun _=>none) (fun _=>none)
theorem Ah.Br.ev (N:Nat) (a k:Int):B0 Ah.Br.E N f85 (Ak f85) [.int .u64 a,.int .i64 k]=bif (Af a) then bif (W2 (toNat a)&&B3 (-2300≤k∧k≤2300)) then some (.int .u64 (Hi (Jz (toNat a) k))) else none else none:=by kernel_rfl
abbrev _root_.Go.Proofs.S1.Ah.Br.Kn:=A8 prog 85 Ah.Br.spec
theorem Ah.Br.Ad (hk:A1 prog Ah.Br.Ba) (h:Hyp Ah.Br.E f85 Ah.Br.ts Ah.Br.pre Ah.Br.out):Ah.Br.Kn :=
 Al (A4 hk _ _ _) func85 (by kernel_rfl) (by kernel_rfl) h
end EqLdx
open EqLdx
theorem Aba (n:Nat):G3 n=decide (Ai n=4):=Aat n
theorem Aga (x:Nat):Ge x<2^64:=Nat.lt_trans (Tz x) (by decide)
theorem Sn (x:Nat):Ai (Ge x)=Ai x:=by
 have e1:D7 (Ge x)=D7 x:=by unfold D7 Ge; omega
 have e2:Dj (Ge x)=Dj x:=by unfold Dj Ge; omega
 unfold Ai
 rw [e1,e2]
theorem Sv (x y:Int):(compare x y=.lt↔x<y)∧(compare x y=.gt↔y<x)∧(compare x y=.eq↔x=y):=by
 rcases Int.lt_trichotomy x y with h | h | h
 ·rw [Ak5 h]; refine ⟨by simp [h],?_,?_⟩<;>simp<;>omega
 ·subst h
  have:compare x x=.eq:=by simp [compare,compareOfLessAndEq]
  rw [this]; simp
 ·rw [Ak6 h]; refine ⟨?_,by simp [h],?_⟩<;>simp<;>omega
theorem math.Hn.known:math.Hn.Kn:=math.Hn.Ad .nil fun x _=>⟨0,math.Hn.out [.f x],[],by rw [math.Hn.ev]; rfl,.fl⟩
theorem math.Is.known:math.Is.Kn:=math.Is.Ad .nil fun x hp=>by
 have hx:=Aq.1 (show W2 x=true from hp)
 refine ⟨0,math.Is.out [.f x],[],?_,.bool⟩
 show _=some (DV.bool (decide (Ai x=4)))
 rw [math.Is.ev]
 by_cases h:Ai x=4
 ·rw [Xt hx hx (.inl h),A4r h]; rfl
 ·rw [Ql hx hx h h,A4v h,(Sv _ _).2.2.2 rfl]; rfl
theorem Zs {x:Nat} (hx:x<2^64) (h4:Ai x≠4):(Ieee.double.order (Ge x) 9218868437227405311==some .gt)=decide (Ai x=3):=by
 have k1:Ai 9218868437227405311≠4:=by decide +kernel
 have k2:Hr 9218868437227405311=9218868437227405311:=by decide +kernel
 have ka:Hr (Ge x)=((Ge x:Nat):Int):=by
  have:=Nf false (r:=Ge x) (Tz x)
  exact this
 rw [Ql (Aga x) (by decide) (by rw [Sn]; exact h4) k1,k2,ka]
 have hl:=Azm h4
 rw [A46,beq_iff_eq,A4t,(Sv _ _).2.1,A4x]
 constructor
 ·intro h
  refine Decidable.byContradiction fun h3=>?_
  have:=Tp h3 h4
  rw [F6] at this
  unfold Ge at h
  omega
 ·intro h3
  have:=Rg h3
  rw [F6] at this
  unfold Ge
  omega
theorem math.It.known:math.It.Kn:=math.It.Ad (.cons math.Hn.known .nil) fun x s hp=>by
 obtain ⟨h1,h2⟩:=Ac.1 (show (W2 x&&decide (s=0))=true from hp)
 have hx:=Aq.1 h1
 obtain rfl:=A5g h2
 refine ⟨0,math.It.out [.f x,.i 0],[],?_,.bool⟩
 show _=some (DV.bool (decide (Ai x=3)))
 rw [math.It.ev,show ((0:Int)==(0:Int))=true from rfl,A4q]
 by_cases h4:Ai x=4
 ·rw [Xt (Aga x) (by decide) (.inl (by rw [Sn]; exact h4)),A4v (by omega)]; rfl
 ·rw [Zs hx h4]
theorem math.normalize.known:math.normalize.Kn:=math.normalize.Ad (.cons math.Hn.known .nil) fun x hp=>by
 obtain ⟨hx,h3,h4⟩:=Aq.1 (show Aim x=true from hp)
 refine ⟨0,math.normalize.out [.f x],[],?_,Wk.Hs (.cons .fl (.cons .int .nil))⟩
 show _=some (DV.tup [.fl (N1 x),.int .i64 (J7 x)])
 have k1:Ai 4503599627370496≠4:=by decide +kernel
 have k2:Hr 4503599627370496=4503599627370496:=by decide +kernel
 have ka:Hr (Ge x)=((Ge x:Nat):Int):=Nf false (r:=Ge x) (Tz x)
 have hc:(Ieee.double.order (Ge x) 4503599627370496==some .lt)=decide (Ge x<4503599627370496):=by
  rw [Ql (Aga x) (by decide) (by rw [Sn]; exact h4) k1,k2,ka,A46,beq_iff_eq,A4t,(Sv _ _).1,A4x]
  omega
 rw [math.normalize.ev,hc]
 unfold N1 J7
 by_cases h:Ge x<4503599627370496
 ·rw [A4r h,A4q,A5d h,A5d h]
  have hm:=mul_pow h3 h4 (by rw [p52.2.2.1]; decide) (by rw [p52.2.2.1]; decide) p52.1 p52.2.2.2
  have:=Aai (Wg hx (b:=4841369599423283200) (by decide) Hx) (by rw [hm]; exact Sm _ _ _)
  rw [this]
 ·rw [A4v h,A4u,A5c h,A5c h]
theorem Av9 {n:Nat} (h:n<2^64):n &&& 9227875636482146303=n / 2^63*2^63+n%2^52:=by
 have hf:n%2^52<2^63:=by omega
 apply Nat.eq_of_testBit_eq
 intro j
 rw [Nat.testBit_and,show (9227875636482146303:Nat)=2^63*1+(2^52-1) from rfl,A5e (n / 2^63),Nat.testBit_two_pow_mul_add _ (by decide:2^52-1<2^63),Nat.testBit_two_pow_mul_add _ hf]
 by_cases hj:j<63
 ·rw [A5d hj,A5d hj,Nat.testBit_mod_two_pow,Nat.testBit_two_pow_sub_one,Bool.and_comm]
 ·rw [A5c hj,A5c hj,Nat.testBit_div_two_pow,Nat.sub_add_cancel (by omega)]
  by_cases h63:j=63
  ·subst h63
   show (n.testBit 63&&true)=_
   rw [Bool.and_true]
  ·have e1:Nat.testBit 1 (j-63)=false:=by rw [show (1:Nat)=2^0 from rfl,Nat.testBit_two_pow]; exact A4v (by omega)
   have e2:n.testBit j=false:=Nat.testBit_lt_two_pow (A51 h (A45 (by decide) (by omega)))
   rw [e1,e2]; rfl
theorem Ai4 {n:Nat} (h:n<2^64):H8 .u64 (n:Int) (9218868437227405312:Int)=((n / 2^63*2^63+n%2^52:Nat):Int):=by
 have e:(BitVec.ofInt 64 (n:Int) &&& ~~~(BitVec.ofInt 64 9218868437227405312)).toNat=n / 2^63*2^63+n%2^52:=by
  have e1 : ~~~(BitVec.ofInt 64 9218868437227405312)=BitVec.ofNat 64 9227875636482146303:=by decide
  rw [e1,BitVec.toNat_and,BitVec.toNat_ofNat,BitVec.toNat_ofInt]
  have e2:(((n:Int)%((2^64:Nat):Int)).toNat)=n:=by omega
  rw [e2]
  exact Av9 h
 have e':(BitVec.ofInt IntKind.u64.bits (n:Int) &&& ~~~(BitVec.ofInt IntKind.u64.bits 9218868437227405312)).toNat=n / 2^63*2^63+n%2^52:=e
 unfold H8
 rw [e']
 exact Vj (by omega)
theorem or3 {A X Y Z W V f:Nat} (h1:A=f ||| X) (h2:X ||| Y=Z) (h3:f ||| Z=W) (h4:W=V):A ||| Y=V:=by rw [h1,Nat.or_assoc,h2,h3,h4]
theorem A34 (s p f:Nat):(s*2^11+p)*2^52+f=s*2^63+p*2^52+f:=by
 rw [A5u,A5h,← A5f]
theorem Azd {s f p:Nat} (hs:s<2) (hf:f<2^52) (hp:p<2048):(s*2^63+f) ||| (p*2^52)=s*2^63+p*2^52+f:=by
 have e1:s*2^63+f=f ||| s*2^11*2^52:=by rw [Oy hf]; omega
 have e2:s*2^11*2^52 ||| p*2^52=(s*2^11+p)*2^52:=by
  have:=Oy (a:=s) (b:=p) (k:=11) hp
  rw [← Nat.shiftLeft_eq,← Nat.shiftLeft_eq p,← Nat.shiftLeft_or_distrib,Nat.or_comm,this,Nat.shiftLeft_eq]
 exact or3 e1 e2 (Oy hf) (A34 s p f)
theorem Al2 {s:Bool} {P f:Nat} (h2:P≤2046) (hf:f<2^52) {q:Nat} (hq:q<2048) :
 Jl .u64 (H8 .u64 ((Bl s (P*2^52+f):Nat):Int) (9218868437227405312:Int)) (Cg .u64 (Bs (q:Int)) (52:Int))=((Bl s (q*2^52+f):Nat):Int):=by
 have h64:Bl s (P*2^52+f)<2^64:=by
  unfold Bl
  cases s
  ·rw [A5c (by decide)]; omega
  ·rw [A5d rfl]; omega
 have ef:Bl s (P*2^52+f)%2^52=f:=by
  unfold Bl
  cases s
  ·rw [A5c (by decide)]; omega
  ·rw [A5d rfl]; omega
 have es:Bl s (P*2^52+f) / 2^63=if s then 1 else 0:=by
  unfold Bl
  cases s
  ·rw [A5c (by decide),A5c (by decide)]; omega
  ·rw [A5d rfl,A5d rfl]; omega
 rw [Ai4 h64,ef,es,Ef (by omega) (by omega),show (52:Int)=((52:Nat):Int) from rfl,Gw q 52 (by decide),A43 (by omega),W0 (by split<;>omega) (by omega),Azd (by split<;>decide) hf hq]
 refine congrArg (fun n:Nat=>(n:Int)) ?_
 unfold Bl
 cases s
 ·rw [A5c (by decide),A5c (by decide)]; omega
 ·rw [A5d rfl,A5d rfl]; omega
theorem Atl {s:Bool} {P f:Nat} (h1:1≤P) (h2:P≤2046) (hf:f<2^52):Fy .i64 (Ab (Ed .u64 ((Bl s (P*2^52+f):Nat):Int) (52:Int))) (2047:Int)=(P:Int):=by
 obtain ⟨e1,_,_,h64,_⟩:=S8 (s:=s) h1 h2 hf
 rw [show (52:Int)=((52:Nat):Int) from rfl,Sx _ _ (by decide),An (by omega) (by omega)]
 have hb:Fy .i64 ((Bl s (P*2^52+f) / 2^52:Nat):Int) (2047:Int)=Ab ((Bl s (P*2^52+f) / 2^52%2048:Nat):Int):=by
  unfold Fy
  have e:(BitVec.ofInt 64 ((Bl s (P*2^52+f) / 2^52:Nat):Int) &&& BitVec.ofInt 64 2047).toNat=Bl s (P*2^52+f) / 2^52%2048:=by
   rw [BitVec.toNat_and,J6,show (BitVec.ofInt 64 2047).toNat=2^11-1 from rfl,Nat.and_two_pow_sub_one_eq_mod]
   omega
  have e':(BitVec.ofInt IntKind.i64.bits ((Bl s (P*2^52+f) / 2^52:Nat):Int) &&& BitVec.ofInt IntKind.i64.bits 2047).toNat=Bl s (P*2^52+f) / 2^52%2048:=e
  rw [e']
  rfl
 unfold D7 at e1
 rw [hb,e1,An (by omega) (by omega)]
theorem math.Ej.known:math.Ej.Kn:=math.Ej.Ad .nil fun x y hp=>by
 obtain ⟨h1,h2⟩:=Ac.1 (show (Aim y&&decide (x=0))=true from hp)
 obtain ⟨hy,h3,h4⟩:=Aq.1 (show B3 _=true from h1)
 obtain rfl:=A5g h2
 refine ⟨0,math.Ej.out [.f 0,.f y],[],?_,.fl⟩
 show _=some (DV.fl (Bl (Bx y) 0))
 have n0:G3 0=false:=by decide +kernel
 have ny:G3 y=false:=by rw [Aba]; exact A4v h4
 have e1:H8 .u64 ((0:Nat):Int) (9223372036854775808:Int)=((0:Nat):Int):=Ab3 (by decide)
 have e2:Fy .u64 (y:Int) (9223372036854775808:Int)=((Bl (Bx y) 0:Nat):Int):=by
  rw [show (9223372036854775808:Int)=((9223372036854775808:Nat):Int) from rfl,Ai3 hy (by decide)]
  congr 1
  apply Nat.eq_of_testBit_eq
  intro j
  rw [Nat.testBit_and,show (9223372036854775808:Nat)=2^63 from rfl,Nat.testBit_two_pow]
  unfold Bl Bx
  by_cases hn:2^63≤y
  ·rw [A4r hn,A5d rfl,A5y,Nat.testBit_two_pow]
   by_cases hj:63=j
   ·subst hj
    have:y.testBit 63=true:=by
     rw [Nat.testBit_eq_decide_div_mod_eq,A4x]; omega
    rw [this]; rfl
   ·rw [A4v hj,Bool.and_false]
  ·rw [A4v hn,A5c (by decide),Nat.zero_testBit]
   by_cases hj:63=j
   ·subst hj
    rw [Nat.testBit_lt_two_pow (by omega)]; rfl
   ·rw [A4v hj,Bool.and_false]
 have e3:Jl .u64 ((0:Nat):Int) ((Bl (Bx y) 0:Nat):Int)=((Bl (Bx y) 0:Nat):Int):=by
  rw [W0 (by decide) (by unfold Bl; split<;>decide),Nat.zero_or]
 rw [math.Ej.ev,n0,ny,e1,e2,e3,A4r (by omega)]
 rfl
theorem math.Yd.known:math.Yd.Kn:=math.Yd.Ad .nil fun s _=>by
 refine ⟨0,math.Yd.out [.i s],[],?_,.fl⟩
 show _=some (DV.fl (Bl (decide (s<0)) Eh))
 rw [math.Yd.ev,Fb]
 by_cases h:s<0
 ·rw [A4v (by omega),A4r h]; rfl
 ·rw [A4r (by omega),A4v h]; rfl
open EqLdx
theorem Rb {x:Nat} (hx:x<2^64):(Ieee.double.order x 0==some .eq)=decide (Ai x=0):=by
 by_cases h4:Ai x=4
 ·rw [Xt hx (by decide) (.inl h4),A4v (by omega)]; rfl
 ·have k0:Ai 0≠4:=by decide +kernel
  have z:Hr 0=0:=by decide +kernel
  have hk:Hr x=0↔x%2^63=0:=by
   have:=Nf (Bx x) (r:=x%2^63) (Nat.mod_lt _ (by decide))
   rw [Oc hx] at this
   rw [this]
   unfold Jb
   cases Bx x
   ·rw [A5c (by decide)]; omega
   ·rw [A5d rfl]; omega
  have h0:Ai x=0↔x%2^63=0:=by
   have hp:x%2^63=D7 x*2^52+Dj x:=by unfold D7 Dj; omega
   rw [hp]
   have:=J4 x
   unfold Ai
   split
   ·split<;>omega
   ·split
    ·omega
    ·split<;>omega
  rw [Ql hx (by decide) h4 k0,z,A46,beq_iff_eq,A4t,(Sv _ _).2.2,A4x,hk,h0]
theorem Aok {x:Nat} (hx:x<2^64) (h4:Ai x≠4) (h0:Ai x≠0):(Ieee.double.order x 0==some .lt)=Bx x:=by
 have k0:Ai 0≠4:=by decide +kernel
 have z:Hr 0=0:=by decide +kernel
 have hp:x%2^63=D7 x*2^52+Dj x:=by unfold D7 Dj; omega
 have hne:x%2^63≠0:=by
  intro h
  refine h0 ?_
  unfold Ai
  rw [A5c (by omega),A5c (by omega),A5c (by omega)]
 have:=Nf (Bx x) (r:=x%2^63) (Nat.mod_lt _ (by decide))
 rw [Oc hx] at this
 rw [Ql hx (by decide) h4 k0,z,A46,beq_iff_eq,A4t,(Sv _ _).1,this]
 unfold Jb
 cases Bx x
 ·rw [A5c (by decide)]
  constructor
  ·intro h; omega
  ·intro h; cases h
 ·rw [A5d rfl]
  constructor
  ·intro _; rfl
  ·intro _; omega
theorem Aoo (x:Nat):J7 x=-52∨J7 x=0:=by unfold J7; split<;>simp
theorem Awe {f:Nat} (hf:f<2^52):(f+2^52).log2=52:=Wn (a:=52) (by omega) (by omega)
theorem math.Hy.known:math.Hy.Kn:=math.Hy.Ad (.cons math.Ej.known (.cons math.Yd.known (.cons math.It.known (.cons math.Is.known (.cons math.normalize.known .nil))))) fun x k hp=>by
 obtain ⟨h1,h2⟩:=Ac.1 (show (W2 x&&B3 (-2300≤k∧k≤2300))=true from hp)
 have hx:=Aq.1 (show B3 (x<2^64)=true from h1)
 have hk:=Aq.1 h2
 refine ⟨0,.fl (Jz x k),[],?_,.fl⟩
 by_cases h0:Ai x=0
 ·have:Jz x k=x:=by unfold Jz Fk; rw [A5c (by omega),A5c (by omega),A5d (.inr h0)]
  rw [math.Hy.ev,Rb hx,A4r h0,A4q,this]
 by_cases h3:Ai x=3
 ·have:Jz x k=x:=by unfold Jz Fk; rw [A5c (by omega),A5c (by omega),A5d (.inl h3)]
  rw [math.Hy.ev,Rb hx,A4v h0,A4u,h1,A4r (rfl:(0:Int)=0),A4w,A4q,A52,A4q,A4r h3,Bool.true_or,A4q,this]
 by_cases h4:Ai x=4
 ·have:Jz x k=x:=by unfold Jz; rw [A5d h4]
  rw [math.Hy.ev,Rb hx,A4v h0,A4u,h1,A4r (rfl:(0:Int)=0),A4w,A4q,A52,A4q,A4r h4,A52,A4q,this]
 obtain ⟨P,f,d,p1,p2,hf,hw,hM,hP⟩:=Ar7 hx h3 h4 h0
 obtain ⟨w1,w2,w3,w4,w5,w6,w7⟩:=S8 (s:=Bx x) p1 p2 hf
 have hm:Ax x≠0:=fun h=>h0 ((Hq h3 h4).1 h)
 have hr:=Aoo x
 have hl:=Awe hf
 have hld:Jz x k=Bl (Bx x) (Cl (f+2^52) ((P:Int)-1075+J7 x+k)):=by
  have:=Arb (k:=k) hm hM hP
  unfold Jz Fk
  rw [A5c h4,A5c h4,A5c (by omega),this]
 have hp:W2 x=true:=Aq.2 hx
 have hfp:Aim x=true:=Aq.2 ⟨hx,h3,h4⟩
 have hnn:G3 (N1 x)=false:=by rw [Aba,hw,w5]; rfl
 have hfw:Aim (N1 x)=true:=by rw [hw]; exact Aq.2 ⟨w4,by omega,by omega⟩
 have ee:Ab (Ab (k+J7 x)+Ab (Fy .i64 (Ab (Ed .u64 ((N1 x:Nat):Int) (52:Int))) (2047:Int)-(1023:Int)))=k+J7 x+(P:Int)-1023:=by
  rw [hw,Atl p1 p2 hf,An (x:=k+J7 x) (by omega) (by omega),An (x:=(P:Int)-1023) (by omega) (by omega),An (by omega) (by omega)]
  omega
 have hrun:=math.Hy.ev 0 x k
 rw [Rb hx,A4v h0,A4u,hp,A4r (rfl:(0:Int)=0),A4w,A4q,A52,A4q,A4v h3,A4v h4,Bool.or_self,A4u,hfp,A4q,hnn,A59,A4q,ee,hfw,A4w,A4q] at hrun
 refine hrun.trans ?_
 rw [hld]
 rw [Av,Av,Av]
 by_cases c1:k+J7 x+(P:Int)-1023 < -1075
 ·rw [A4r c1,A4q,hw,w3,(Go.Rnd.Anm (V:=f+2^52) (by omega) (by rw [hl]; omega)).1]
 ·rw [A4v c1,A4u]
  by_cases c2:1023<k+J7 x+(P:Int)-1023
  ·have hng:(Ieee.double.order (N1 x) 0==some .lt)=Bx x:=by
    rw [hw,Aok w4 (by omega) (by omega),w3]
   rw [A4r c2,A4q,hng,A36 (by omega) (by rw [hl]; omega)]
   cases Bx x<;>rfl
  ·rw [A4v c2,A4u]
   by_cases c3:k+J7 x+(P:Int)-1023 < -1022
   ·obtain ⟨q,hq⟩:∃ q:Nat,k+J7 x+(P:Int)-1023+53+1023=q:=⟨(k+J7 x+(P:Int)-1023+53+1023).toNat,by omega⟩
    have e1:Ab (Ab (k+J7 x+(P:Int)-1023+53)+1023)=(q:Int):=by
     rw [An (x:=k+J7 x+(P:Int)-1023+53) (by omega) (by omega),An (by omega) (by omega)]; exact hq
    have e2:=Al2 (s:=Bx x) (P:=P) (f:=f) p2 hf (q:=q) (by omega)
    obtain ⟨v1,v2,v3,v4,v5,v6,v7⟩:=S8 (s:=Bx x) (P:=q) (f:=f) (by omega) (by omega) hf
    have hmul:=mul_pow (a:=Bl (Bx x) (q*2^52+f)) (p:=4368491638549381120) (by omega) (by omega) (by rw [p53.2.2.1]; decide) (by rw [p53.2.2.1]; decide) p53.1 p53.2.2.2
    have hmi:=Wg (a:=4368491638549381120) (b:=Bl (Bx x) (q*2^52+f)) (by decide) v4 Hx
    rw [Adh] at hmi
    have:=Aai hmi (by rw [hmul]; exact Sm _ _ _)
    have e3:(q:Int)-1075+-105+52=(P:Int)-1075+J7 x+k:=by omega
    have e4:(Ly (Bl (Bx x) (q*2^52+f)) 4368491638549381120).1=Bl (Bx x) (Cl (f+2^52) ((P:Int)-1075+J7 x+k)):=by
     rw [hmul,v3,v6,v7,p53.2.1,e3]
    rw [e4] at this
    rw [A4r c3,A4q,e1,hw,e2,A4r (by omega),A4q,A4s,this]
   ·obtain ⟨q,hq⟩:∃ q:Nat,k+J7 x+(P:Int)-1023+1023=q:=⟨(k+J7 x+(P:Int)-1023+1023).toNat,by omega⟩
    have e1:Ab (k+J7 x+(P:Int)-1023+1023)=(q:Int):=by rw [An (by omega) (by omega)]; exact hq
    have e2:=Al2 (s:=Bx x) (P:=P) (f:=f) p2 hf (q:=q) (by omega)
    obtain ⟨v1,v2,v3,v4,v5,v6,v7⟩:=S8 (s:=Bx x) (P:=q) (f:=f) (by omega) (by omega) hf
    have hone:Ly 4607182418800017408 (Bl (Bx x) (q*2^52+f))=(Bl (Bx x) (q*2^52+f),0):=by
     rw [Adh]; exact mul_one v4 (by omega) (by omega)
    have hmi:=Wg (a:=4607182418800017408) (b:=Bl (Bx x) (q*2^52+f)) (by decide) v4 Hx
    have:=Aai hmi (by rw [hone]; show Ai (Bl (Bx x) (q*2^52+f))≠4; omega)
    have er:=Arf (L:=(P:Int)-1075+J7 x+k) (q:=q) hf (by omega) (by omega) (by omega)
    rw [A4v c3,A4u,e1,hw,e2,A4r (by omega),A4q,A4s,this,hone,er]
theorem math.I3.known:math.I3.Kn:=math.I3.Ad (.cons math.Hy.known .nil) fun x k hp=>by
 have hp:(W2 x&&B3 (-2300≤k∧k≤2300))=true:=hp
 exact ⟨0,.fl (Jz x k),[],by rw [math.I3.ev,hp,A4q],.fl⟩
theorem Aiy {x:Nat} (k:Int):Ep (Jz x k)=(Fk x k).1:=by
 unfold Jz
 by_cases h4:Ai x=4
 ·rw [A5d h4]
  unfold Ep Fk
  rw [A5d h4,A5d h4]
 ·rw [A5c h4]
  unfold Ep
  rw [A5c]
  unfold Fk
  rw [A5c h4]
  by_cases h3:Ai x=3∨Ai x=0
  ·rw [A5d h3]; exact h4
  ·rw [A5c h3]; exact Sm _ _ _
theorem Ah.Br.known:Ah.Br.Kn:=Ah.Br.Ad (.cons math.I3.known (.cons Ah.B.known (.cons Ah.F.known .nil))) fun a k hp=>by
 obtain ⟨h1,h2⟩:=Ac.1 (show Dd a k=true from hp)
 obtain ⟨x,rfl,hx⟩:=By h1
 refine ⟨0,.int .u64 (Bf (x:Int) k),[],?_,.int⟩
 have hp:W2 x=true:=Aq.2 hx
 have:Hi (Jz x k)=Bf (x:Int) k:=by
  unfold Hi Bf
  rw [A4s,Aiy]
 rw [Ah.Br.ev,h1,A4q,A4s,hp,h2,A4w,A4q,this]
namespace EqRef08
def Bq.ends.Ba:List (Nat × Entry):=[(114,A6.Finite.spec),(102,A6.Neg.spec)]
def Bq.ends.E:Env:=Bg (Bb Bq.ends.Ba) (fun _=>false) (fun _=>none) (fun _=>none)
theorem Bq.ends.ev (N:Nat) (b:Int):B0 Bq.ends.E N f59 (Ak f59) [.int .u64 b]=bif (Af b) then bif (Dw b) then some (.int .i64 0) else bif (Af b) then bif (Eb b) then some (.int .i64 (-1:Int)) else some (.int .i64 1) else none else none:=by kernel_rfl
abbrev _root_.Go.Proofs.S1.Bq.ends.Kn:=A8 prog 59 Bq.ends.spec
theorem Bq.ends.Ad (hk:A1 prog Bq.ends.Ba) (h:Hyp Bq.ends.E f59 Bq.ends.ts Bq.ends.pre Bq.ends.out):Bq.ends.Kn :=
 Al (A4 hk _ _ _) func59 (by kernel_rfl) (by kernel_rfl) h
def Bq.Order.Ba:List (Nat × Entry):=[(43,A0.Compare.spec),(58,A6.Kind.spec),(38,A6.Value.spec),(59,Bq.ends.spec)]
def Bq.Order.E:Env:=Bg (Bb Bq.Order.Ba) (fun _=>false) (fun _=>none) (fun _=>none)
theorem Bq.Order.ev (N:Nat) (a b:Int):B0 Bq.Order.E N f19 (Ak f19) [.int .u64 a,.int .u64 b]=bif (Re a) then bif (((Bz a)==(4:Int))||(Re b)) then bif (((Bz a)==(4:Int))||((Bz b)==(4:Int))) then some (.tup [.int .i64 0,.bool false]) else bif (Af a) then bif (Af b) then bif (((U7 a) !=(0:Int))||((U7 b) !=(0:Int))) then some (.tup [.int .i64 (max (-1:Int) (min 1 (Ab ((U7 a)-(U7 b))))),.bool true]) else bif (Af a) then bif (Af b) then bif (((okV (Bu (mD (F8 a))) (Aw (mD (F8 a)))&&okV (Bu (mD (F8 b))) (Aw (mD (F8 b))))&&okE (eD (F8 a) (Bo a)))&&okE (eD (F8 b) (Bo b))) then some (.tup [.int .i64 (Za (wv (Bu (mD (F8 a))) (Aw (mD (F8 a)))) (eD (F8 a) (Bo a)) (wv (Bu (mD (F8 b))) (Aw (mD (F8 b)))) (eD (F8 b) (Bo b))),.bool true]) else none else none else none else none else none else none else none :=
 Eq.trans (by kernel_rfl)
 (E1 (Ay (T3 ((Bz a)==(4:Int))) (Cw (Au6 _ _) (Ay (Rv ((Bz a)==(4:Int))) (Ay (Y5 ((Bz a)==(4:Int))) (Cw (tt5 _ _) rfl (E1 (E1 (Ay (T3 ((U7 a) !=(0:Int))) (Ay (Rv ((U7 a) !=(0:Int))) (Ay (Y5 ((U7 a) !=(0:Int))) (Cw (tt5 _ _) rfl rfl)))) rfl) rfl)))) rfl)) rfl)
abbrev _root_.Go.Proofs.S1.Bq.Order.Kn:=A8 prog 19 Bq.Order.spec
theorem Bq.Order.Ad (hk:A1 prog Bq.Order.Ba) (h:Hyp Bq.Order.E f19 Bq.Order.ts Bq.Order.pre Bq.Order.out):Bq.Order.Kn :=
 Al (A4 hk _ _ _) func19 (by kernel_rfl) (by kernel_rfl) h
def Bq.Hn.Ba:List (Nat × Entry):=[(86,A6.Dn.spec),(102,A6.Neg.spec)]
def Bq.Hn.E:Env:=Bg (Bb Bq.Hn.Ba) (fun _=>false) (fun _=>none) (fun _=>none)
theorem Bq.Hn.ev (N:Nat) (a:Int):B0 Bq.Hn.E N f84 (Ak f84) [.int .u64 a]=bif (Af a) then bif (Eb a) then bif (Af a) then some (.int .u64 (Da a)) else none else some (.int .u64 a) else none:=by kernel_rfl
abbrev _root_.Go.Proofs.S1.Bq.Hn.Kn:=A8 prog 84 Bq.Hn.spec
theorem Bq.Hn.Ad (hk:A1 prog Bq.Hn.Ba) (h:Hyp Bq.Hn.E f84 Bq.Hn.ts Bq.Hn.pre Bq.Hn.out):Bq.Hn.Kn :=
 Al (A4 hk _ _ _) func84 (by kernel_rfl) (by kernel_rfl) h
def Bq.Max.Ba:List (Nat × Entry):=[(19,Bq.Order.spec)]
def Bq.Max.E:Env:=Bg (Bb Bq.Max.Ba) (fun _=>false) (fun _=>none) (fun _=>none)
theorem Bq.Max.ev (N:Nat) (a b:Int):B0 Bq.Max.E N f151 (Ak f151) [.int .u64 a,.int .u64 b]=bif (Af a&&Af b) then bif (!(Nu a b)) then some (.int .u64 9221120237041090560) else bif (Bi (G7 a b) 0) then some (.int .u64 b) else some (.int .u64 a) else none:=by kernel_rfl
abbrev _root_.Go.Proofs.S1.Bq.Max.Kn:=A8 prog 151 Bq.Max.spec
theorem Bq.Max.Ad (hk:A1 prog Bq.Max.Ba) (h:Hyp Bq.Max.E f151 Bq.Max.ts Bq.Max.pre Bq.Max.out):Bq.Max.Kn :=
 Al (A4 hk _ _ _) func151 (by kernel_rfl) (by kernel_rfl) h
end EqRef08
namespace EqRef13
def Bq.Lh.Ba:List (Nat × Entry):=[(109,A0.W7.spec),(114,A6.Finite.spec),(58,A6.Kind.spec),(38,A6.Value.spec)]
def Bq.Lh.E:Env:=Bg (Bb Bq.Lh.Ba) (fun _=>false) (fun _=>none) (fun _=>none)
theorem Bq.Lh.ev (N:Nat) (a:Int):B0 Bq.Lh.E N f92 (Ak f92) [.int .u64 a]=bif (Af a) then bif ((!(Dw a))||(Re a)) then bif ((!(Dw a))||((Bz a)==(0:Int))) then some (.int .i64 0) else bif (Af a) then bif (Og (Bu (mD (F8 a))) (Aw (mD (F8 a)))&&okE (eD (F8 a) (Bo a))) then some (.int .i64 (Ab ((Jq (wv (Bu (mD (F8 a))) (Aw (mD (F8 a)))) (eD (F8 a) (Bo a)))-1))) else none else none else none else none :=
 Eq.trans (by kernel_rfl)
 (E1 (Ay (Un (Dw a)) (Cw (Ang _ _) (Ay (Pz (Dw a)) (Ay (Xc (Dw a)) (Cw (Ava _ _) rfl rfl))) rfl)) rfl)
abbrev _root_.Go.Proofs.S1.Bq.Lh.Kn:=A8 prog 92 Bq.Lh.spec
theorem Bq.Lh.Ad (hk:A1 prog Bq.Lh.Ba) (h:Hyp Bq.Lh.E f92 Bq.Lh.ts Bq.Lh.pre Bq.Lh.out):Bq.Lh.Kn :=
 Al (A4 hk _ _ _) func92 (by kernel_rfl) (by kernel_rfl) h
def Ah.Bv.hint:Nat→Option Bc
 | 0=>some { keep:=[0,3,4],objs:=[],boxes:=[] }
 | _=>none
def Ah.Bv.Ba:List (Nat × Entry):=[(84,Bq.Hn.spec),(151,Bq.Max.spec)]
def Ah.Bv.E:Env:=Bg (Bb Ah.Bv.Ba) (fun _=>false) Ah.Bv.hint (fun _=>none)
section
variable (N M:Nat) (x:List Int) (p3 p4:Int)
def Ah.Bv.L0:Option DV:=Cb Ah.Bv.E N f93 (Ak f93) [1,1,0,1,0] [] M ⟨Fo 19 [(0,.ints .arg .u64 x),(3,.int .u64 p3),(4,.int .i64 p4)],[]⟩
theorem Ah.Bv.Au:Ah.Bv.L0 N (M+1) x p3 p4=bif (Bi p4 (length x:Int)) then bif ((decide (0≤p4))&&(decide (p4<(length x:Int)))) then bif (Af (getD x (toNat p4) 0)) then bif (Af p3&&Af (Gj (getD x (toNat p4) 0))) then Ah.Bv.L0 N M x (Uz p3 (Gj (getD x (toNat p4) 0))) (Ab (p4+1)) else none else none else none else some (.int .u64 p3):=by kernel_rfl
theorem Ah.Bv.ev:B0 Ah.Bv.E N f93 (Ak f93) [.ints .arg .u64 x] =
 Ah.Bv.L0 N N x 0 0:=by kernel_rfl
end
abbrev _root_.Go.Proofs.S1.Ah.Bv.Kn:=A8 prog 93 Ah.Bv.spec
theorem Ah.Bv.Ad (hk:A1 prog Ah.Bv.Ba) (h:Hyp Ah.Bv.E f93 Ah.Bv.ts Ah.Bv.pre Ah.Bv.out):Ah.Bv.Kn :=
 Al (A4 hk _ _ _) func93 (by kernel_rfl) (by kernel_rfl) h
def math.Sqrt.Ba:List (Nat × Entry):=[]
def math.Sqrt.E:Env:=Bg (Bb math.Sqrt.Ba) (fun _=>false) (fun _=>none) (fun _=>none)
theorem math.Sqrt.ev (N x:Nat):B0 math.Sqrt.E N f197 (Ak f197) [.fl x]=some (.fl ((Ieee.double.sqrt x).getD nanBits)):=by kernel_rfl
abbrev _root_.Go.Proofs.S1.math.Sqrt.Kn:=A8 prog 197 math.Sqrt.spec
theorem math.Sqrt.Ad (hk:A1 prog math.Sqrt.Ba) (h:Hyp math.Sqrt.E f197 math.Sqrt.ts math.Sqrt.pre math.Sqrt.out):math.Sqrt.Kn :=
 Al (A4 hk _ _ _) func197 (by kernel_rfl) (by kernel_rfl) h
def Ah.Sqrt.Ba:List (Nat × Entry):=[(197,math.Sqrt.spec),(145,Ah.B.spec),(147,Ah.F.spec)]
def Ah.Sqrt.E:Env:=Bg (Bb Ah.Sqrt.Ba) (fun _=>false) (fun _=>none) (fun _=>none)
theorem Ah.Sqrt.ev (N:Nat) (a:Int):B0 Ah.Sqrt.E N f154 (Ak f154) [.int .u64 a]=bif (Af a) then some (.int .u64 (Hi (((Ieee.double.sqrt (toNat a)).getD nanBits)))) else none:=by kernel_rfl
abbrev _root_.Go.Proofs.S1.Ah.Sqrt.Kn:=A8 prog 154 Ah.Sqrt.spec
theorem Ah.Sqrt.Ad (hk:A1 prog Ah.Sqrt.Ba) (h:Hyp Ah.Sqrt.E f154 Ah.Sqrt.ts Ah.Sqrt.pre Ah.Sqrt.out):Ah.Sqrt.Kn :=
 Al (A4 hk _ _ _) func154 (by kernel_rfl) (by kernel_rfl) h
def Ah.Norm.hint:Nat→Option Bc
 | 0=>some { keep:=[0,4,5,6],objs:=[],boxes:=[] }
 | _=>none
def Ah.Norm.Ba:List (Nat × Entry):=[(114,A6.Finite.spec),(92,Bq.Lh.spec),(152,Ah.Add.spec),(93,Ah.Bv.spec),(153,Ah.Mul.spec),(85,Ah.Br.spec),(154,Ah.Sqrt.spec)]
def Ah.Norm.E:Env:=Bg (Bb Ah.Norm.Ba) (fun _=>false) Ah.Norm.hint (fun _=>none)
section
variable (N M:Nat) (x:List Int) (p5 p6:Int)
def Ah.Norm.L0:Option DV:=Cb Ah.Norm.E N f96 (Ak f96) [1,1,1,1,1,0,1,0] [] M ⟨Fo 42 [(0,.ints .arg .u64 x),(4,.int .i64 (Ck (Bw x))),(5,.int .u64 p5),(6,.int .i64 p6)],[]⟩
theorem Ah.Norm.Au:Ah.Norm.L0 N (M+1) x p5 p6=bif (Bi p6 (length x:Int)) then bif ((decide (0≤p6))&&(decide (p6<(length x:Int)))) then bif (Dd (getD x (toNat p6) 0) (Ab ((0:Int)-(Ck (Bw x))))) then bif (Af (Bf (getD x (toNat p6) 0) (Ab ((0:Int)-(Ck (Bw x)))))&&Af (Bf (getD x (toNat p6) 0) (Ab ((0:Int)-(Ck (Bw x)))))) then bif (Af p5&&Af (Ca (Bf (getD x (toNat p6) 0) (Ab ((0:Int)-(Ck (Bw x))))) (Bf (getD x (toNat p6) 0) (Ab ((0:Int)-(Ck (Bw x))))))) then Ah.Norm.L0 N M x (Dm p5 (Ca (Bf (getD x (toNat p6) 0) (Ab ((0:Int)-(Ck (Bw x))))) (Bf (getD x (toNat p6) 0) (Ab ((0:Int)-(Ck (Bw x))))))) (Ab (p6+1)) else none else none else none else none else bif (Af p5) then bif (Dd (Ea p5) (Ck (Bw x))) then some (.int .u64 (Bf (Ea p5) (Ck (Bw x)))) else none else none:=by kernel_rfl
theorem Ah.Norm.ev:B0 Ah.Norm.E N f96 (Ak f96) [.ints .arg .u64 x]=bif (B4 x) then bif (((Bw x)==(0:Int))||(Af (Bw x))) then bif (((Bw x)==(0:Int))||(!(Dw (Bw x)))) then some (.int .u64 (Bw x)) else bif (Af (Bw x)) then Ah.Norm.L0 N N x 0 (0:Int) else none else none else none :=
 Eq.trans (by kernel_rfl)
 (E1 (Ay (T3 ((Bw x)==(0:Int))) (Cw (Au6 _ _) (Ay (Rv ((Bw x)==(0:Int))) (Ay (Y5 ((Bw x)==(0:Int))) (Cw (A04 _ _) rfl rfl))) rfl)) rfl)
end
abbrev _root_.Go.Proofs.S1.Ah.Norm.Kn:=A8 prog 96 Ah.Norm.spec
theorem Ah.Norm.Ad (hk:A1 prog Ah.Norm.Ba) (h:Hyp Ah.Norm.E f96 Ah.Norm.ts Ah.Norm.pre Ah.Norm.out):Ah.Norm.Kn :=
 Al (A4 hk _ _ _) func96 (by kernel_rfl) (by kernel_rfl) h
end EqRef13
open EqRef08 EqRef13
theorem Bq.ends.known:Bq.ends.Kn:=Bq.ends.Ad (.cons A6.Finite.known (.cons A6.Neg.known .nil)) fun b hp=>by
 have hp:Af b=true:=hp
 refine ⟨0,.int .i64 (U7 b),[],?_,.int⟩
 rw [Bq.ends.ev,hp,A4q,A4q]
 unfold U7
 cases Dw b with
 | true=>rfl
 | false =>
   rw [A4u,A5c (by decide)]
   cases Eb b<;>rfl
theorem Bq.Hn.known:Bq.Hn.Kn:=Bq.Hn.Ad (.cons A6.Dn.known (.cons A6.Neg.known .nil)) fun a hp=>by
 obtain ⟨n,rfl,hn⟩:=By (x:=a) hp
 refine ⟨0,.int .u64 (Gj (n:Int)),[],?_,.int⟩
 rw [Bq.Hn.ev,Cm hn,A4q,A4q]
 unfold Gj Eb Da Ge I5 Bx
 rw [A4s]
 by_cases h:2^63≤n
 ·rw [A4r h,A4q,A5d h,show n%2^63=n-2^63 by omega]
 ·rw [A4v h,A4u,show n%2^63=n by omega]
theorem Afa (b:Nat):okV (Bu (mD (F8 (b:Int)))) (Aw (mD (F8 (b:Int))))=true∧Og (Bu (mD (F8 (b:Int)))) (Aw (mD (F8 (b:Int))))=true∧okE (eD (F8 (b:Int)) (A2 b))=true:=by
 obtain ⟨v1,v2,v3⟩:=Aya b
 have hl:El (mD (F8 (b:Int))).natAbs<3:=A5s (Oi (Adk _)) v1
 exact ⟨Ar4 (by omega),K0 (by omega),Aq.2 ⟨v2,v3⟩⟩
theorem Aw5 {a b:Nat} (ha:Ai a≠4) (hb:Ai b≠4):Za (mD (F8 (a:Int))) (eD (F8 (a:Int)) (A2 a)) (mD (F8 (b:Int))) (eD (F8 (b:Int)) (A2 b))=if Hr a<Hr b then -1 else if Hr b<Hr a then 1 else 0:=by
 have pa:=Dt a
 have pb:=Dt b
 have ga:mD (F8 (a:Int))≠0→(-1074:Int)≤eD (F8 (a:Int)) (A2 a):=fun h=>Ax6 pa.1 (fun h0=>h (Rf.2 h0))
 have gb:mD (F8 (b:Int))≠0→(-1074:Int)≤eD (F8 (b:Int)) (A2 b):=fun h=>Ax6 pb.1 (fun h0=>h (Rf.2 h0))
 rw [Aw6 ga gb,Alk pa.1,Alk pb.1,← Aqh,← Aqh]
 have h1:=Aei (f:=-1074) ha hb pa.1 pb.1
 have h2:=Aei (f:=-1074) hb ha pb.1 pa.1
 unfold Y9
 by_cases c1:Ho a (-1074)<Ho b (-1074)
 ·rw [A5d c1,A5d (h1.1 c1)]
 ·rw [A5c c1,A5c (fun h=>c1 (h1.2 h))]
  by_cases c2:Ho b (-1074)<Ho a (-1074)
  ·rw [A5d c2,A5d (h2.1 c2)]
  ·rw [A5c c2,A5c (fun h=>c2 (h2.2 h))]
theorem As1 {b:Nat} (hb:b<2^64):Hr b=Jb (Bx b) (b%2^63):=by
 have:=Nf (Bx b) (r:=b%2^63) (Nat.mod_lt _ (by decide))
 rw [Oc hb] at this
 exact this
theorem Amp {b:Nat} (hb:b<2^64) (h4:Ai b≠4):(J1 b=true→U7 (b:Int)=0∧-(Eh:Int)<Hr b∧Hr b<Eh)∧(J1 b=false→Ai b=3∧((U7 (b:Int)=1∧Hr b=Eh)∨(U7 (b:Int)=-1∧Hr b=-(Eh:Int)))):=by
 have hk:=As1 hb
 constructor
 ·intro hf
  obtain ⟨_,f3⟩:=Nh hf
  have hl:=Tp f3 h4
  refine ⟨by unfold U7 Dw; rw [A4s,hf,A5d rfl],?_⟩
  rw [hk]
  unfold Jb
  cases Bx b
  ·rw [A5c (by decide)]; omega
  ·rw [A5d rfl]; omega
 ·intro hf
  have h3:Ai b=3:=by
   unfold J1 at hf
   have:=of_decide_eq_false hf
   rcases H3 b with ⟨_,_,k⟩ | ⟨_,_,k⟩ | ⟨k,_,_⟩
   ·exact k
   ·exact absurd k h4
   ·omega
  have hi:=Rg h3
  refine ⟨h3,?_⟩
  rw [hk,hi]
  unfold U7 Dw Eb Jb
  rw [A4s,hf,A5c (by decide)]
  cases Bx b
  ·left; exact ⟨rfl,rfl⟩
  ·right; exact ⟨rfl,rfl⟩
theorem Bq.Order.known:Bq.Order.Kn:=Bq.Order.Ad (.cons A0.Compare.known (.cons A6.Kind.known (.cons A6.Value.known (.cons Bq.ends.known .nil)))) fun a b hp=>by
 obtain ⟨ha,hb⟩:=Ac.1 (show (Af a&&Af b)=true from hp)
 obtain ⟨a,rfl,hn⟩:=By ha
 obtain ⟨b,rfl,hm⟩:=By hb
 refine ⟨0,.tup [.int .i64 (G7 (a:Int) (b:Int)),.bool (Nu (a:Int) (b:Int))],[],?_,Wk.Hs (.cons .int (.cons .bool .nil))⟩
 have kk:∀ n:Nat,Bz (n:Int)=(Ai n:Int):=fun _=>rfl
 have pe:∀ n:Nat,Bo (n:Int)=A2 n:=fun _=>rfl
 rw [Bq.Order.ev,Na,Na,ha,hb,A4q,A52,A4q,A4q,A4q,A4q,A4q,kk,kk,pe,pe,Jc,Jc]
 unfold G7 Nu Acf Aal
 rw [A4s,A4s]
 by_cases n4:Ai a=4∨Ai b=4
 ·have:(((Ai a:Nat):Int)==4||((Ai b:Nat):Int)==4)=true:=by
   rw [Bool.or_eq_true,beq_iff_eq,beq_iff_eq]; omega
  rw [this,A4q,A5d n4,A4r n4]; rfl
 ·have:(((Ai a:Nat):Int)==4||((Ai b:Nat):Int)==4)=false:=by
   rw [Bool.or_eq_false_iff,A5l,A5l]; omega
  rw [this,A4u,A5c n4,A4v n4,A59]
  have a4:Ai a≠4:=fun h=>n4 (.inl h)
  have b4:Ai b≠4:=fun h=>n4 (.inr h)
  obtain ⟨a1,a2⟩:=Amp hn a4
  obtain ⟨b1,b2⟩:=Amp hm b4
  have hinf:(0:Int)<(Eh:Int):=by decide
  cases hfa:J1 a with
  | true =>
    obtain ⟨ea,ka1,ka2⟩:=a1 hfa
    cases hfb:J1 b with
    | true =>
      obtain ⟨eb,kb1,kb2⟩:=b1 hfb
      obtain ⟨o1,_,o3⟩:=Afa a
      obtain ⟨p1,_,p3⟩:=Afa b
      have hc:=Aw5 a4 b4
      rw [ea,eb,show (((0:Int) !=(0:Int))||((0:Int) !=(0:Int)))=false from rfl,A4u,o1,o3,p1,p3,hc]
      rfl
    | false =>
      obtain ⟨_,hb2⟩:=b2 hfb
      rcases hb2 with ⟨eb,kb⟩ | ⟨eb,kb⟩
      ·rw [ea,eb,kb,A5d ka2]; rfl
      ·rw [ea,eb,kb,A5c (by omega),A5d ka1]; rfl
  | false =>
    obtain ⟨_,ha2⟩:=a2 hfa
    cases hfb:J1 b with
    | true =>
      obtain ⟨eb,kb1,kb2⟩:=b1 hfb
      rcases ha2 with ⟨ea,ka⟩ | ⟨ea,ka⟩
      ·rw [ea,eb,ka,A5c (by omega),A5d kb2]; rfl
      ·rw [ea,eb,ka,A5d kb1]; rfl
    | false =>
      obtain ⟨_,hb2⟩:=b2 hfb
      rcases ha2 with ⟨ea,ka⟩ | ⟨ea,ka⟩<;>rcases hb2 with ⟨eb,kb⟩ | ⟨eb,kb⟩
      ·rw [ea,eb,ka,kb,A5c (by omega),A5c (by omega)]; rfl
      ·rw [ea,eb,ka,kb,A5c (by omega),A5d (by omega)]; rfl
      ·rw [ea,eb,ka,kb,A5d (by omega)]; rfl
      ·rw [ea,eb,ka,kb,A5c (by omega),A5c (by omega)]; rfl
theorem Bq.Max.known:Bq.Max.Kn:=Bq.Max.Ad (.cons Bq.Order.known .nil) fun a b hp=>by
 have hp:(Af a&&Af b)=true:=hp
 refine ⟨0,.int .u64 (Uz a b),[],?_,.int⟩
 rw [Bq.Max.ev,hp,A4q,Av]
 unfold Uz Akq Nu G7
 cases Aal a.toNat b.toNat with
 | false=>rfl
 | true =>
   rw [A5p,A4u,A5d rfl]
   obtain ⟨h1,h2⟩:=Ac.1 hp
   obtain ⟨x,rfl,_⟩:=By h1
   obtain ⟨y,rfl,_⟩:=By h2
   rw [A4s,A4s]
   by_cases h:Acf x y<0
   ·rw [A4r h,A4q,A5d h]
   ·rw [A4v h,A4u,A5c h]
theorem Bq.Lh.known:Bq.Lh.Kn:=Bq.Lh.Ad (.cons A0.W7.known (.cons A6.Finite.known (.cons A6.Kind.known (.cons A6.Value.known .nil)))) fun a hp=>by
 obtain ⟨b,rfl,hb⟩:=By (x:=a) hp
 refine ⟨0,.int .i64 (Ck (b:Int)),[],?_,.int⟩
 have kk:Bz (b:Int)=(Ai b:Int):=rfl
 have hf:Dw (b:Int)=J1 b:=rfl
 have pe:Bo (b:Int)=A2 b:=rfl
 obtain ⟨_,o2,o3⟩:=Afa b
 have hE:=Dt b
 have hM:=Gc b
 rw [Bq.Lh.ev,Cm hb,A4q,Na,A52,A4q,kk,hf,pe,o2,o3,Jc,A4w,A4q,A4q]
 unfold Ck
 rw [A4s]
 unfold Acm
 cases hfin:J1 b with
 | false=>rfl
 | true =>
   by_cases h0:Ai b=0
   ·rw [h0]; rfl
   ·have k0:(((Ai b:Nat):Int)==(0:Int))=false:=by rw [A5l]; omega
    obtain ⟨f4,f3⟩:=Nh hfin
    have hm:Ax b≠0:=fun hz=>h0 ((Hq f3 f4).1 hz)
    have hv:F8 (b:Int)≠0:=by
     intro h
     have:=Aej b
     rw [h] at this
     exact hm this.symm
    have hl:(Ax b).log2≤52:=by have:=(A56 hm).2 (show Ax b<2^53 by omega); omega
    have ht:Jq (mD (F8 (b:Int))) (eD (F8 (b:Int)) (A2 b))=((Ax b).log2:Int)+1+A2 b:=by
     unfold Jq Aa5
     rw [A5c (fun h=>hv (Rf.1 h)),A5c (fun h=>hv (Rf.1 h))]
     unfold eD
     rw [A5c hv]
     have hs:=Zm (F8 (b:Int))
     have ha:Ax b=(mD (F8 (b:Int))).natAbs*2^T2 (F8 (b:Int)).natAbs:=by
      have e:=congrArg Int.natAbs hs
      rw [Int.natAbs_mul,Int.natAbs_natCast] at e
      rw [← Aej b]
      exact e
     have hmd:(mD (F8 (b:Int))).natAbs≠0:=fun h=>hv (Rf.1 (Int.natAbs_eq_zero.1 h))
     have hlog:=Nd (mD (F8 (b:Int))).natAbs (T2 (F8 (b:Int)).natAbs) hmd
     rw [← ha] at hlog
     rw [hlog]
     omega
    rw [k0,A5d ⟨rfl,h0⟩,ht,An (by omega) (by omega)]
    show some (DV.int .i64 _)=_
    congr 2; omega
theorem Ami {b:Nat} (h:b<2^63):Hr b=(b:Int):=Nf false h
theorem Awa {m x:Nat} (hm:m<2^63) (m4:Ai m≠4) (hx:x<2^63) (x4:Ai x≠4):Akq m x=max m x:=by
 have o:Aal m x=true:=by unfold Aal; rw [A4v (by omega)]; rfl
 have ho:Acf m x=if (m:Int)<(x:Int) then -1 else if (x:Int)<(m:Int) then 1 else 0:=by
  unfold Acf
  rw [A5c (by omega),Ami hm,Ami hx]
 unfold Akq
 rw [o,A5d rfl,ho]
 by_cases h:m<x
 ·rw [A5d (show (m:Int)<(x:Int) by omega),A5d (by decide),Nat.max_eq_right (by omega)]
 ·rw [A5c (show ¬ (m:Int)<(x:Int) by omega)]
  by_cases h2:x<m
  ·rw [A5d (show (x:Int)<(m:Int) by omega),A5c (by decide),Nat.max_eq_left (by omega)]
  ·rw [A5c (show ¬ (x:Int)<(m:Int) by omega),A5c (by decide),Nat.max_eq_left (by omega)]
theorem Amd {m x:Nat} (h:Ai m=4∨Ai x=4):Akq m x=Ok:=by
 have o:Aal m x=false:=by unfold Aal; rw [A4r h]; rfl
 unfold Akq
 rw [o,A5c (by decide)]
theorem Aoy:Ai Ok=4:=by decide
theorem Aig:∀ l:List Int,l.foldl (fun m x=>Uz m (Gj x)) ((Ok:Nat):Int)=((Ok:Nat):Int)
 | []=>rfl
 | x::l=>by
   rw [List.foldl_cons]
   have:Uz ((Ok:Nat):Int) (Gj x)=((Ok:Nat):Int):=by unfold Uz; rw [A4s,Amd (.inl Aoy)]
   rw [this]
   exact Aig l
theorem Aih:∀ (l:List Int) (m:Nat),m<2^63→Ai m≠4→l.foldl (fun m x=>Uz m (Gj x)) (m:Int)=((P6 l m:Nat):Int)
 | [],m,_,_=>rfl
 | x::l,m,hm,m4=>by
   rw [List.foldl_cons]
   unfold P6
   have e1:(Gj x).toNat=Ge x.toNat:=by unfold Gj; rw [A4s]
   by_cases h:Ai x.toNat=4
   ·rw [A5d h]
    have:Uz (m:Int) (Gj x)=((Ok:Nat):Int):=by
     unfold Uz
     rw [e1,Amd (.inr (by rw [Sn]; exact h))]
    rw [this]
    exact Aig l
   ·rw [A5c h]
    have hx:=Tz x.toNat
    have x4:Ai (Ge x.toNat)≠4:=by rw [Sn]; exact h
    have:Uz (m:Int) (Gj x)=((max m (Ge x.toNat):Nat):Int):=by
     unfold Uz
     rw [A4s,e1,Awa hm m4 hx x4]
    rw [this]
    refine Aih l _ (by omega) ?_
    rcases Nat.le_total m (Ge x.toNat) with h2 | h2
    ·rw [Nat.max_eq_right h2]; exact x4
    ·rw [Nat.max_eq_left h2]; exact m4
theorem Azj {a b:Int} (ha:Af a=true) (hb:Af b=true):Af (Uz a b)=true:=by
 obtain ⟨x,rfl,hx⟩:=By ha
 obtain ⟨y,rfl,hy⟩:=By hb
 unfold Uz Akq
 rw [A4s,A4s]
 split
 ·split
  ·exact hb
  ·exact ha
 ·exact Cm (by decide)
theorem Ae6 (N:Nat) {x:List Int} (hx:B4 x=true):∀ (k i F:Nat) (m:Int),i+k=x.length→k<F→Af m=true→Ah.Bv.L0 N F x m (i:Int)=some (.int .u64 ((x.drop i).foldl (fun m x=>Uz m (Gj x)) m)):=by
 obtain ⟨hl,hu⟩:=I4 hx
 intro k
 induction k with
 | zero =>
   intro i F m hi hF hm
   obtain ⟨F,rfl⟩:∃ G,F=G+1:=⟨F-1,by omega⟩
   rw [Ah.Bv.Au,Av,A4v (by omega),A4u,A44 (by omega)]; rfl
 | succ k ih =>
   intro i F m hi hF hm
   obtain ⟨F,rfl⟩:∃ G,F=G+1:=⟨F-1,by omega⟩
   rw [Ah.Bv.Au,Av,A4r (show (i:Int)<(x.length:Int) by omega),A4q,A4r (show (0:Int)≤(i:Int) by omega),A4w,A4q,A4s,hu i (by omega),A4q,hm,Ns,A4w,A4q,J8 (by omega),List.foldl_cons,An (by omega) (by omega)]
   exact ih (i+1) F _ (by omega) (by omega) (Azj hm (Ns _))
theorem Ah.Bv.known:Ah.Bv.Kn:=Ah.Bv.Ad (.cons Bq.Hn.known (.cons Bq.Max.known .nil)) fun x hp=>by
 refine ⟨x.length+1,.int .u64 (Bw x),[],?_,.int⟩
 rw [Ah.Bv.ev]
 have h:=Ae6 (x.length+1) hp x.length 0 (x.length+1) 0 (by omega) (by omega) Km
 rw [List.drop_zero] at h
 have h2:=Aih x 0 (by decide) (by decide +kernel)
 exact h.trans (congrArg (fun n:Int=>some (DV.int .u64 n)) h2)
theorem math.Sqrt.known:math.Sqrt.Kn:=math.Sqrt.Ad .nil fun x _=>⟨0,.fl ((Ieee.double.sqrt x).getD nanBits),[],by rw [math.Sqrt.ev],.fl⟩
theorem Ah.Sqrt.known:Ah.Sqrt.Kn:=Ah.Sqrt.Ad (.cons math.Sqrt.known (.cons Ah.B.known (.cons Ah.F.known .nil))) fun a hp=>by
 obtain ⟨x,rfl,hx⟩:=By (x:=a) hp
 refine ⟨0,.int .u64 (Ea (x:Int)),[],?_,.int⟩
 have:Hi ((Ieee.double.sqrt (toNat (x:Int))).getD nanBits)=Ea (x:Int):=by
  unfold Hi Ea
  rw [A4s,Aoc hx Hx]
 rw [Ah.Sqrt.ev,Cm hx,A4q,this]
theorem Acd (N:Nat) {x:List Int} (hx:B4 x=true):∀ (k i F:Nat) (s:Int),i+k=x.length→k<F→Af s=true →
 Ah.Norm.L0 N F x s (i:Int)=some (.int .u64 (Bf (Ea (Vn (-Ck (Bw x)) s (x.drop i))) (Ck (Bw x)))):=by
 obtain ⟨hl,hu⟩:=I4 hx
 have he:=U6 (Bw x)
 intro k
 induction k with
 | zero =>
   intro i F s hi hF hs
   obtain ⟨F,rfl⟩:∃ G,F=G+1:=⟨F-1,by omega⟩
   rw [Ah.Norm.Au,Av,A4v (by omega),A4u,hs,A4q,show Dd (Ea s) (Ck (Bw x))=true from Ac.2 ⟨Q4 hs,Aq.2 (by omega)⟩,A4q,A44 (by omega)]
   rfl
 | succ k ih =>
   intro i F s hi hF hs
   obtain ⟨F,rfl⟩:∃ G,F=G+1:=⟨F-1,by omega⟩
   rw [Ah.Norm.Au,Av,A4r (show (i:Int)<(x.length:Int) by omega),A4q,A4r (show (0:Int)≤(i:Int) by omega),A4w,A4q,A4s,An (x:=(0:Int)-Ck (Bw x)) (by omega) (by omega),show (0:Int)-Ck (Bw x)=-Ck (Bw x) by omega,
    show Dd (getD x i 0) (-Ck (Bw x))=true from Ac.2 ⟨hu i (by omega),Aq.2 (by omega)⟩,A4q,Ha (hu i (by omega)),A4w,A4q,hs,Eu,A4w,A4q,Agz (by omega),An (by omega) (by omega)]
   exact ih (i+1) F _ (by omega) (by omega) (Nt hs (Eu _ _))
theorem Ah.Norm.known:Ah.Norm.Kn:=Ah.Norm.Ad (.cons A6.Finite.known (.cons Bq.Lh.known (.cons Ah.Add.known (.cons Ah.Bv.known (.cons Ah.Mul.known (.cons Ah.Br.known (.cons Ah.Sqrt.known .nil))))))) fun x hp=>by
 have hx:B4 x=true:=hp
 refine ⟨x.length+1,.int .u64 (B6 x),[],?_,.int⟩
 rw [Ah.Norm.ev,hx,A4q,P5,A52,A4q]
 unfold B6
 by_cases h:Bw x=0∨Dw (Bw x)=false
 ·have:((Bw x==(0:Int))||(!(Dw (Bw x))))=true:=by
   rcases h with h | h
   ·rw [h]; rfl
   ·rw [h,A59,A52]
  rw [this,A4q,A5d h]
 ·have:((Bw x==(0:Int))||(!(Dw (Bw x))))=false:=by
   rw [Bool.or_eq_false_iff,A5l,Bool.not_eq_false']
   refine ⟨fun h0=>h (.inl h0),?_⟩
   cases hf:Dw (Bw x) with
   | true=>rfl
   | false=>exact absurd (.inr hf) h
  rw [this,A4u,A4q,A5c h]
  exact Acd (x.length+1) hx x.length 0 (x.length+1) 0 (by omega) (by omega) Km
namespace EqHouse
def Ar.D1.hint:Nat→Option Bc
 | 0=>some { keep:=[5,6,7],objs:=[],boxes:=[] }
 | _=>none
def Ar.D1.Ba:List (Nat × Entry):=[(165,soft.Kind.spec)]
def Ar.D1.E:Env:=Bg (Bb Ar.D1.Ba) (fun _=>false) Ar.D1.hint (fun _=>none)
section
variable (N M:Nat) (x:List Int) (p7:Int)
def Ar.D1.L0:Option DV:=Cb Ar.D1.E N f225 (Ak f225) [1,0,1,0] [] M ⟨Fo 15 [(5,.ints .arg .u64 x),(6,.int .i64 (length x:Int)),(7,.int .i64 p7)],[]⟩
theorem Ar.D1.Au:Ar.D1.L0 N (M+1) x p7=bif (Bi p7 (length x:Int)) then bif ((decide (0≤p7))&&(decide (p7<(length x:Int)))) then bif (Af (getD x (toNat p7) 0)) then bif ((Bz (getD x (toNat p7) 0)) !=(0:Int)) then some (.bool false) else Ar.D1.L0 N M x (Ab (p7+1)) else none else none else some (.bool true):=by kernel_rfl
theorem Ar.D1.ev:B0 Ar.D1.E N f225 (Ak f225) [.ints .arg .u64 x] =
 Ar.D1.L0 N N x 0:=by kernel_rfl
end
abbrev _root_.Go.Proofs.S1.Ar.D1.Kn:=A8 prog 225 Ar.D1.spec
theorem Ar.D1.Ad (hk:A1 prog Ar.D1.Ba) (h:Hyp Ar.D1.E f225 Ar.D1.ts Ar.D1.pre Ar.D1.out):Ar.D1.Kn :=
 Al (A4 hk _ _ _) func225 (by kernel_rfl) (by kernel_rfl) h
def Ar.lead.hint:Nat→Option Bc
 | 0=>some { keep:=[5,6,7],objs:=[],boxes:=[] }
 | _=>none
def Ar.lead.Ba:List (Nat × Entry):=[(165,soft.Kind.spec)]
def Ar.lead.E:Env:=Bg (Bb Ar.lead.Ba) (fun _=>false) Ar.lead.hint (fun _=>none)
section
variable (N M:Nat) (x:List Int) (p7:Int)
def Ar.lead.L0:Option DV:=Cb Ar.lead.E N f229 (Ak f229) [1,0,1,0] [] M ⟨Fo 16 [(5,.ints .arg .u64 x),(6,.int .i64 (length x:Int)),(7,.int .i64 p7)],[]⟩
theorem Ar.lead.Au:Ar.lead.L0 N (M+1) x p7=bif (Bi p7 (length x:Int)) then bif ((decide (0≤p7))&&(decide (p7<(length x:Int)))) then bif (Af (getD x (toNat p7) 0)) then bif ((Bz (getD x (toNat p7) 0)) !=(0:Int)) then some (.int .u64 (getD x (toNat p7) 0)) else Ar.lead.L0 N M x (Ab (p7+1)) else none else none else some (.int .u64 0):=by kernel_rfl
theorem Ar.lead.ev:B0 Ar.lead.E N f229 (Ak f229) [.ints .arg .u64 x] =
 Ar.lead.L0 N N x 0:=by kernel_rfl
end
abbrev _root_.Go.Proofs.S1.Ar.lead.Kn:=A8 prog 229 Ar.lead.spec
theorem Ar.lead.Ad (hk:A1 prog Ar.lead.Ba) (h:Hyp Ar.lead.E f229 Ar.lead.ts Ar.lead.pre Ar.lead.out):Ar.lead.Kn :=
 Al (A4 hk _ _ _) func229 (by kernel_rfl) (by kernel_rfl) h
def Ar.Be.hint:Nat→Option Bc
 | 0=>some { keep:=[1,5,8,9,10],objs:=[(0,5,100005,.ints 43 .u64 [])],boxes:=[] }
 | _=>none
def Ar.Be.Ba:List (Nat × Entry):=[(79,Ae.Br.spec)]
def Ar.Be.E:Env:=Bg (Bb Ar.Be.Ba) (fun _=>false) Ar.Be.hint (fun _=>none)
section
variable (N M:Nat) (x:List Int) (k p10:Int) (p5:List Int)
def Ar.Be.L0:Option DV:=Cb Ar.Be.E N f228 (Ak f228) [1,1,0,1,0] [] M ⟨Fo 22 [(1,.int .i64 k),(5,.oref 100005),(8,.ints .arg .u64 x),(9,.int .i64 (length x:Int)),(10,.int .i64 p10)],[(100005,false,.ints 43 .u64 p5)]⟩
theorem Ar.Be.Au:Ar.Be.L0 N (M+1) x k p10 p5=bif (Bi p10 (length x:Int)) then bif ((decide (0≤p10))&&(decide (p10<(length x:Int)))) then bif (Dd (getD x (toNat p10) 0) k) then bif (decide ((length p5)+1≤G8)) then Ar.Be.L0 N M x k (Ab (p10+1)) (p5++[(Bf (getD x (toNat p10) 0) k)]) else none else none else none else some (.ints (.own 100005 43) .u64 p5):=by kernel_rfl
theorem Ar.Be.ev:B0 Ar.Be.E N f228 (Ak f228) [.ints .arg .u64 x,.int .i64 k] =
 Ar.Be.L0 N N x k 0 []:=by kernel_rfl
end
abbrev _root_.Go.Proofs.S1.Ar.Be.Kn:=A8 prog 228 Ar.Be.spec
theorem Ar.Be.Ad (hk:A1 prog Ar.Be.Ba) (h:Hyp Ar.Be.E f228 Ar.Be.ts Ar.Be.pre Ar.Be.out):Ar.Be.Kn :=
 Al (A4 hk _ _ _) func228 (by kernel_rfl) (by kernel_rfl) h
def Ar.Gp.Ba:List (Nat × Entry):=[]
def Ar.Gp.E:Env:=Bg (Bb Ar.Gp.Ba) (fun _=>false) (fun _=>none) (fun _=>none)
theorem Ar.Gp.ev (N:Nat) (i:Int):B0 Ar.Gp.E N f227 (Ak f227) [.int .i64 i]=some (.int .u64 0):=by kernel_rfl
abbrev _root_.Go.Proofs.S1.Ar.Gp.Kn:=A8 prog 227 Ar.Gp.spec
theorem Ar.Gp.Ad (hk:A1 prog Ar.Gp.Ba) (h:Hyp Ar.Gp.E f227 Ar.Gp.ts Ar.Gp.pre Ar.Gp.out):Ar.Gp.Kn :=
 Al (A4 hk _ _ _) func227 (by kernel_rfl) (by kernel_rfl) h
def Ar.Gn.Ba:List (Nat × Entry):=[(82,Ae.Div.spec)]
def Ar.Gn.E:Env:=Bg (Bb Ar.Gn.Ba) (fun _=>false) (fun _=>none) (fun _=>none)
theorem Ar.Gn.ev (N:Nat) (i:Int) (y:List Int) (d:Int):B0 Ar.Gn.E N f230 (Ak f230) [.int .i64 i,.cellp [.ints .arg .u64 y],.cellp [.int .u64 d]]=bif ((decide (0≤i))&&(decide (i<(length y:Int)))) then bif (Af (getD y (toNat i) 0)&&Af d) then some (.int .u64 (Es (getD y (toNat i) 0) d)) else none else none :=
 Eq.trans (by kernel_rfl)
 (Cw (Kb _ _) (Cw (Ct _) rfl rfl) rfl)
abbrev _root_.Go.Proofs.S1.Ar.Gn.Kn:=A8 prog 230 Ar.Gn.spec
theorem Ar.Gn.Ad (hk:A1 prog Ar.Gn.Ba) (h:Hyp Ar.Gn.E f230 Ar.Gn.ts Ar.Gn.pre Ar.Gn.out):Ar.Gn.Kn :=
 Al (A4 hk _ _ _) func230 (by kernel_rfl) (by kernel_rfl) h
def Ar.row.Zero.hint:Nat→Option Bc
 | 0=>some { keep:=[0,1,5,6],objs:=[(0,5,100005,.ints 43 .u64 [])],boxes:=[] }
 | _=>none
def Ar.row.Zero.Ba:List (Nat × Entry):=[(227,Ar.Gp.spec)]
def Ar.row.Zero.E:Env:=Bg (Bb Ar.row.Zero.Ba) (fun _=>false) Ar.row.Zero.hint (fun _=>none)
section
variable (N M:Nat) (n p6:Int) (p5:List Int)
def Ar.row.Zero.L0:Option DV:=Cb Ar.row.Zero.E N f226 (Ak f226) [1,1,0,1,0] [] M ⟨Fo 23 [(0,.int .i64 n),(1,.fn 227 [] []),(5,.oref 100005),(6,.int .i64 p6)],[(100005,false,.ints 43 .u64 p5)]⟩
theorem Ar.row.Zero.Au:Ar.row.Zero.L0 N (M+1) n p6 p5=bif (Bi p6 n) then bif (decide ((length p5)+1≤G8)) then Ar.row.Zero.L0 N M n (Ab (p6+1)) (p5++[(0:Int)]) else none else bif (((decide ((0:Int)≤n))&&(decide (n≤n)))&&((decide ((0:Int)≤n))&&(decide (n≤(length p5:Int))))) then some (.ints .fresh .u64 (List.take (toNat (n-0)) (List.drop 0 p5))) else none :=
 Eq.trans (by kernel_rfl)
 (E1 rfl (Cw (Ayi _ _ _) rfl rfl))
theorem Ar.row.Zero.ev:B0 Ar.row.Zero.E N f226 (Ak f226) [.int .i64 n,.fn 227 [] []] =
 Ar.row.Zero.L0 N N n 1 [(4607182418800017408:Int)]:=by kernel_rfl
end
abbrev _root_.Go.Proofs.S1.Ar.row.Zero.Kn:=A8 prog 226 Ar.row.Zero.spec
theorem Ar.row.Zero.Ad (hk:A1 prog Ar.row.Zero.Ba) (h:Hyp Ar.row.Zero.E f226 Ar.row.Zero.ts Ar.row.Zero.pre Ar.row.Zero.out):Ar.row.Zero.Kn :=
 Al (A4 hk _ _ _) func226 (by kernel_rfl) (by kernel_rfl) h
def Ar.row.Div.hint:Nat→Option Bc
 | 0=>some { keep:=[0,1,5,6],objs:=[(0,5,100005,.ints 43 .u64 [])],boxes:=[] }
 | _=>none
def Ar.row.Div.Ba:List (Nat × Entry):=[(230,Ar.Gn.spec)]
def Ar.row.Div.E:Env:=Bg (Bb Ar.row.Div.Ba) (fun _=>false) Ar.row.Div.hint (fun _=>none)
section
variable (N M:Nat) (n:Int) (y:List Int) (d p6:Int) (p5:List Int)
def Ar.row.Div.L0:Option DV:=Cb Ar.row.Div.E N f226 (Ak f226) [1,1,0,1,0] [] M ⟨Fo 23 [(0,.int .i64 n),(1,.fn 230 [] [.cellp [.ints .arg .u64 y],.cellp [.int .u64 d]]),(5,.oref 100005),(6,.int .i64 p6)],[(100005,false,.ints 43 .u64 p5)]⟩
theorem Ar.row.Div.Au:Ar.row.Div.L0 N (M+1) n y d p6 p5=bif (Bi p6 n) then bif ((B3 (0≤p6∧p6<length y)&&Aj y)&&Af d) then bif (decide ((length p5)+1≤G8)) then Ar.row.Div.L0 N M n y d (Ab (p6+1)) (p5++[(Es (getD y (toNat p6) 0) d)]) else none else none else bif (((decide ((0:Int)≤n))&&(decide (n≤n)))&&((decide ((0:Int)≤n))&&(decide (n≤(length p5:Int))))) then some (.ints .fresh .u64 (List.take (toNat (n-0)) (List.drop 0 p5))) else none :=
 Eq.trans (by kernel_rfl)
 (E1 rfl (Cw (Ayi _ _ _) rfl rfl))
theorem Ar.row.Div.ev:B0 Ar.row.Div.E N f226 (Ak f226) [.int .i64 n,.fn 230 [] [.cellp [.ints .arg .u64 y],.cellp [.int .u64 d]]] =
 Ar.row.Div.L0 N N n y d 1 [(4607182418800017408:Int)]:=by kernel_rfl
end
abbrev _root_.Go.Proofs.S1.Ar.row.Div.Kn:=A8 prog 226 Ar.row.Div.spec
theorem Ar.row.Div.Ad (hk:A1 prog Ar.row.Div.Ba) (h:Hyp Ar.row.Div.E f226 Ar.row.Div.ts Ar.row.Div.pre Ar.row.Div.out):Ar.row.Div.Kn :=
 Al (A4 hk _ _ _) func226 (by kernel_rfl) (by kernel_rfl) h
def Ar.Lg.Ba:List (Nat × Entry):=[(123,compare.Lh.spec),(229,Ar.lead.spec),(225,Ar.D1.spec),(226,(Az0 [.i .i64,.fn 227 []] Ar.row.Zero.spec Ar.row.Div.spec)),(228,Ar.Be.spec),(136,soft.Finite.spec),(81,soft.Dn.spec),(181,soft.Sign.spec),(124,Ae.Bv.spec),(82,Ae.Div.spec),(66,Ae.Finite.spec),(67,Ae.Norm.spec),(79,Ae.Br.spec),(201,Ae.Sub.spec)]
def Ar.Lg.E:Env:=Bg (Bb Ar.Lg.Ba) (fun _=>false) (fun _=>none) (fun _=>none)
theorem Ar.Lg.ev (N:Nat) (x:List Int):B0 Ar.Lg.E N f200 (Ak f200) [.ints .arg .u64 x]=bif (((length x:Int)==(0:Int))||(Bi 64 (length x:Int))) then some (.tup [.nil,.int .u64 0,.int .u64 0,.int .i64 3]) else bif (B4 x) then bif (!(D2 x)) then some (.tup [.nil,.int .u64 0,.int .u64 0,.int .i64 4]) else bif (decide ((1:Int)≤(length x:Int))) then bif (B4 (List.drop 1 x)) then bif (M8 (List.drop 1 x)) then bif (B3 (1≤(length x:Int)∧(length x:Int)≤64)) then bif (decide ((0:Int)<(length x:Int))) then some (.tup [.ints .fresh .u64 (L8 (toNat (length x:Int)) (fun _=>0)),.int .u64 0,.int .u64 (getD x 0 0),.int .i64 0]) else none else none else bif (B4 x) then bif (Af (Bw x)) then bif (B4 x&&B3 (length x≤1000∧-2300≤(Ab (0-(Ck (Bw x))))∧(Ab (0-(Ck (Bw x))))≤2300)) then bif (B4 (Bh x (Ab (0-(Ck (Bw x)))))&&B3 (length (Bh x (Ab (0-(Ck (Bw x)))))≤64)) then bif (B4 x) then bif (Af (Ud x)) then bif (!(Eb (Ud x))) then bif (Af (B6 (Bh x (Ab (0-(Ck (Bw x))))))) then bif (Dd (Da (B6 (Bh x (Ab (0-(Ck (Bw x))))))) (Ck (Bw x))) then bif (Af (Bf (Da (B6 (Bh x (Ab (0-(Ck (Bw x))))))) (Ck (Bw x)))) then bif (!(Dw (Bf (Da (B6 (Bh x (Ab (0-(Ck (Bw x))))))) (Ck (Bw x))))) then some (.tup [.nil,.int .u64 0,.int .u64 0,.int .i64 2]) else bif (decide ((0:Int)<(length (Bh x (Ab (0-(Ck (Bw x))))):Int))) then bif (Af (getD (Bh x (Ab (0-(Ck (Bw x))))) 0 0)&&Af (Da (B6 (Bh x (Ab (0-(Ck (Bw x)))))))) then bif ((B3 (1≤(length (Bh x (Ab (0-(Ck (Bw x))))):Int)∧(length (Bh x (Ab (0-(Ck (Bw x))))):Int)≤64∧(length (Bh x (Ab (0-(Ck (Bw x))))):Int)=length (Bh x (Ab (0-(Ck (Bw x))))))&&Aj (Bh x (Ab (0-(Ck (Bw x))))))&&Af (Gb (getD (Bh x (Ab (0-(Ck (Bw x))))) 0 0) (Da (B6 (Bh x (Ab (0-(Ck (Bw x))))))))) then bif (decide ((0:Int)<(length (Bh x (Ab (0-(Ck (Bw x))))):Int))) then bif (Af (Da (B6 (Bh x (Ab (0-(Ck (Bw x)))))))&&Af (getD (Bh x (Ab (0-(Ck (Bw x))))) 0 0)) then bif (Af (Gb (Da (B6 (Bh x (Ab (0-(Ck (Bw x))))))) (getD (Bh x (Ab (0-(Ck (Bw x))))) 0 0))&&Af (Da (B6 (Bh x (Ab (0-(Ck (Bw x)))))))) then some (.tup [.ints .fresh .u64 (L8 (toNat (length (Bh x (Ab (0-(Ck (Bw x))))):Int)) (fun j=>Es (getD (Bh x (Ab (0-(Ck (Bw x))))) j 0) (Gb (getD (Bh x (Ab (0-(Ck (Bw x))))) 0 0) (Da (B6 (Bh x (Ab (0-(Ck (Bw x)))))))))),.int .u64 (Es (Gb (Da (B6 (Bh x (Ab (0-(Ck (Bw x))))))) (getD (Bh x (Ab (0-(Ck (Bw x))))) 0 0)) (Da (B6 (Bh x (Ab (0-(Ck (Bw x)))))))),.int .u64 (Bf (Da (B6 (Bh x (Ab (0-(Ck (Bw x))))))) (Ck (Bw x))),.int .i64 0]) else none else none else none else none else none else none else none else none else none else bif (Dd (B6 (Bh x (Ab (0-(Ck (Bw x)))))) (Ck (Bw x))) then bif (Af (Bf (B6 (Bh x (Ab (0-(Ck (Bw x)))))) (Ck (Bw x)))) then bif (!(Dw (Bf (B6 (Bh x (Ab (0-(Ck (Bw x)))))) (Ck (Bw x))))) then some (.tup [.nil,.int .u64 0,.int .u64 0,.int .i64 2]) else bif (decide ((0:Int)<(length (Bh x (Ab (0-(Ck (Bw x))))):Int))) then bif (Af (getD (Bh x (Ab (0-(Ck (Bw x))))) 0 0)&&Af (B6 (Bh x (Ab (0-(Ck (Bw x))))))) then bif ((B3 (1≤(length (Bh x (Ab (0-(Ck (Bw x))))):Int)∧(length (Bh x (Ab (0-(Ck (Bw x))))):Int)≤64∧(length (Bh x (Ab (0-(Ck (Bw x))))):Int)=length (Bh x (Ab (0-(Ck (Bw x))))))&&Aj (Bh x (Ab (0-(Ck (Bw x))))))&&Af (Gb (getD (Bh x (Ab (0-(Ck (Bw x))))) 0 0) (B6 (Bh x (Ab (0-(Ck (Bw x)))))))) then bif (decide ((0:Int)<(length (Bh x (Ab (0-(Ck (Bw x))))):Int))) then bif (Af (B6 (Bh x (Ab (0-(Ck (Bw x))))))&&Af (getD (Bh x (Ab (0-(Ck (Bw x))))) 0 0)) then bif (Af (Gb (B6 (Bh x (Ab (0-(Ck (Bw x)))))) (getD (Bh x (Ab (0-(Ck (Bw x))))) 0 0))&&Af (B6 (Bh x (Ab (0-(Ck (Bw x))))))) then some (.tup [.ints .fresh .u64 (L8 (toNat (length (Bh x (Ab (0-(Ck (Bw x))))):Int)) (fun j=>Es (getD (Bh x (Ab (0-(Ck (Bw x))))) j 0) (Gb (getD (Bh x (Ab (0-(Ck (Bw x))))) 0 0) (B6 (Bh x (Ab (0-(Ck (Bw x))))))))),.int .u64 (Es (Gb (B6 (Bh x (Ab (0-(Ck (Bw x)))))) (getD (Bh x (Ab (0-(Ck (Bw x))))) 0 0)) (B6 (Bh x (Ab (0-(Ck (Bw x))))))),.int .u64 (Bf (B6 (Bh x (Ab (0-(Ck (Bw x)))))) (Ck (Bw x))),.int .i64 0]) else none else none else none else none else none else none else none else none else none else none else none else none else none else none else none else none else none :=
 Eq.trans (by kernel_rfl)
 (Ay (T3 ((length x:Int)==(0:Int))) (Ay (Rv ((length x:Int)==(0:Int))) (Ay (Rv ((length x:Int)==(0:Int))) (Ay (Y5 ((length x:Int)==(0:Int))) (Cw (tt5 _ _) rfl (E1 (E1 rfl (Cw (A3b _) (E1 (E1 (Cw (Ct _) (Cw (Ct _) rfl rfl) rfl) rfl) rfl) rfl)) rfl))))))
abbrev _root_.Go.Proofs.S1.Ar.Lg.Kn:=A8 prog 200 Ar.Lg.spec
theorem Ar.Lg.Ad (hk:A1 prog Ar.Lg.Ba) (h:Hyp Ar.Lg.E f200 Ar.Lg.ts Ar.Lg.pre Ar.Lg.out):Ar.Lg.Kn :=
 Al (A4 hk _ _ _) func200 (by kernel_rfl) (by kernel_rfl) h
def Ar.Apply.hint:Nat→Option Bc
 | 0=>some { keep:=[1,3,4,5,10,13,14],objs:=[(14,2,114002,.ints 43 .u64 [])],boxes:=[5,10,13] }
 | 2=>some { keep:=[1,3,4,5,10,13,14,18,90,91,92],objs:=[(14,2,114002,.ints 43 .u64 [])],boxes:=[5,10,13] }
 | _=>none
def Ar.Apply.Ba:List (Nat × Entry):=[(121,Aa.Check.spec),(68,Aa.D3.spec),(134,Ae.Iv.spec),(138,Ae.Mul.spec),(201,Ae.Sub.spec)]
def Ar.Apply.E:Env:=Bg (Bb Ar.Apply.Ba) (fun _=>false) Ar.Apply.hint (fun _=>none)
section
variable (N M0 M:Nat) (r c:Int) (l:List Int) (i k:Int) (v:List Int) (t p92:Int) (p2:List Int) (p14_1 p18:Int) (p90:List Int) (p91 p14:Int) (p2_1:List Int)
def Ar.Apply.L0:Option DV:=Cb Ar.Apply.E N f163 (Ak f163) [1,1,1,1,0,1,0] [] M ⟨Fo 118 [(1,.int .i64 i),(3,.ints .arg .u64 v),(4,.int .u64 t),(5,.ptr 5 0 0),(10,.ptr 10 0 0),(13,.ptr 13 0 0),(14,.int .i64 p14)],[(5,false,.box [.int .i64 r,.int .i64 c,.ints .arg .u64 l]),(10,false,.box [.int .i64 0,.int .i64 0,.nil]),(13,false,.box [.int .i64 r,.int .i64 c,.oref 114002]),(114002,false,.ints 43 .u64 p2_1)]⟩
def Ar.Apply.L1:Option DV:=Cb Ar.Apply.E N f163 (Ak f163) [1,1,1,1,0,1,0,0,1,0,0,1,1,1,1,0] [M0] M ⟨Fo 118 [(1,.int .i64 i),(3,.ints .arg .u64 v),(4,.int .u64 t),(5,.ptr 5 0 0),(10,.ptr 10 0 0),(13,.ptr 13 0 0),(14,.int .i64 p14_1),(18,.int .u64 p18),(90,.ints .fresh .u64 p90),(91,.int .i64 p91),(92,.int .i64 p92)],[(5,false,.box [.int .i64 r,.int .i64 c,.ints .arg .u64 l]),(10,false,.box [.int .i64 0,.int .i64 0,.nil]),(13,false,.box [.int .i64 r,.int .i64 c,.oref 114002]),(114002,false,.ints 43 .u64 p2)]⟩
theorem Ar.Apply.Au:Ar.Apply.L0 N (M+1) r c l i v t p14 p2_1=bif (Bi p14 c) then bif (Hh r c l p14&&B3 (0≤i∧i≤r)) then bif (((decide ((0:Int)≤(length v:Int)))&&(decide ((length v:Int)≤(length v:Int))))&&((decide ((0:Int)≤(length v:Int)))&&(decide ((length v:Int)≤(length (Cn c l p14 i (toNat (r-i))):Int))))) then bif ((O5 v (List.take (toNat (length v:Int)) (Cn c l p14 i (toNat (r-i))))&&Aj v)&&Aj (List.take (toNat (length v:Int)) (Cn c l p14 i (toNat (r-i))))) then bif (Af t&&Af (Ik v (List.take (toNat (length v:Int)) (Cn c l p14 i (toNat (r-i)))))) then Ar.Apply.L1 N M N r c l i v t 0 p2_1 p14 (Ca t (Ik v (List.take (toNat (length v:Int)) (Cn c l p14 i (toNat (r-i)))))) (List.take (toNat (length v:Int)) (Cn c l p14 i (toNat (r-i)))) (length (List.take (toNat (length v:Int)) (Cn c l p14 i (toNat (r-i)))):Int) else none else none else none else none else some (.tup [.agg [.int .i64 r,.int .i64 c,.ints (.own 114002 43) .u64 p2_1],.int .i64 0]) :=
 Eq.trans (by kernel_rfl)
 (E1 (E1 (Cw (Ayi _ _ _) rfl rfl) rfl) rfl)
theorem Ar.Apply.Ch:Ar.Apply.L1 N M0 (M+1) r c l i v t p92 p2 p14_1 p18 p90 p91=bif (Bi p92 p91) then bif ((decide (0≤p92))&&(decide (p92<(length p90:Int)))) then bif ((decide (0≤p92))&&(decide (p92<(length v:Int)))) then bif (Af p18&&Af (getD v (toNat p92) 0)) then bif (Af (getD p90 (toNat p92) 0)&&Af (Ca p18 (getD v (toNat p92) 0))) then bif ((decide (0≤(Ab ((Ab ((Ab (i+p92))*c))+p14_1))))&&(decide ((Ab ((Ab ((Ab (i+p92))*c))+p14_1))<(length p2:Int)))) then bif (decide ((toNat (Ab ((Ab ((Ab (i+p92))*c))+p14_1)))<(length p2))) then Ar.Apply.L1 N M0 M r c l i v t (Ab (p92+1)) (List.set p2 (toNat (Ab ((Ab ((Ab (i+p92))*c))+p14_1))) (Gb (getD p90 (toNat p92) 0) (Ca p18 (getD v (toNat p92) 0)))) p14_1 p18 p90 p91 else none else none else none else none else none else none else Ar.Apply.L0 N M0 r c l i v t (Ab (p14_1+1)) p2 :=
 Eq.trans (by kernel_rfl)
 (E1 (E1 (Cw (Kb _ _) (Cw (Ct _) (Cw (Ct _) (Cw (Kb _ _) (Cw (Ct _) rfl rfl) rfl) rfl) rfl) rfl) rfl) rfl)
theorem Ar.Apply.ev:B0 Ar.Apply.E N f163 (Ak f163) [.agg [.int .i64 r,.int .i64 c,.ints .arg .u64 l],.int .i64 i,.int .i64 k,.ints .arg .u64 v,.int .u64 t]=bif ((Lt r c l) !=(0:Int)) then some (.tup [.agg [.int .i64 0,.int .i64 0,.nil],.int .i64 (Lt r c l)]) else bif (((((Bi i 0)||(Bi r (length v:Int)))||(Bi (Ab (r-(length v:Int))) i))||(Bi k 0))||(Bi c k)) then some (.tup [.agg [.int .i64 0,.int .i64 0,.nil],.int .i64 3]) else bif (decide (0+(length l)≤G8)) then Ar.Apply.L0 N N r c l i v t k ([]++l) else none :=
 Eq.trans (by kernel_rfl)
 (E1 rfl (Ay (T3 (Bi i 0)) (Ay (Rv (Bi i 0)) (Ay (T3 (Bi i 0)) (Ay (Rv (Bi i 0)) (Ay (tt8 (Bi i 0)) (Ay (Y5 (Bi i 0)) (Ay (Aeo (Bi i 0) (Bi r (length v:Int))) (Ay (Aeo (Bi i 0) (Bi r (length v:Int))) (Ay (Agm (Bi i 0) (Bi r (length v:Int))) (Ay (Aeo (Bi i 0) (Bi r (length v:Int))) (Ay (Agm (Bi i 0) (Bi r (length v:Int))) (Ay (Ayh (Bi i 0) (Bi r (length v:Int))) (Ay (Ayh (Bi i 0) (Bi r (length v:Int))) (Ay (Anb (Bi i 0) (Bi r (length v:Int))) (Ay (Agn (Bi i 0) (Bi r (length v:Int)) (Bi (Ab (r-(length v:Int))) i)) (Ay (Aep (Bi i 0) (Bi r (length v:Int)) (Bi (Ab (r-(length v:Int))) i)) (Ay (Anc (Bi i 0) (Bi r (length v:Int)) (Bi (Ab (r-(length v:Int))) i)) (Ay (Ane (Bi i 0) (Bi r (length v:Int)) (Bi (Ab (r-(length v:Int))) i) (Bi k 0)) (Ay (Ane (Bi i 0) (Bi r (length v:Int)) (Bi (Ab (r-(length v:Int))) i) (Bi k 0)) (Ay (A08 (Bi i 0) (Bi r (length v:Int)) (Bi (Ab (r-(length v:Int))) i) (Bi k 0)) (Ay (Ayk (Bi i 0) (Bi r (length v:Int)) (Bi (Ab (r-(length v:Int))) i) (Bi k 0)) (Ay (Ayl (Bi i 0) (Bi r (length v:Int)) (Bi (Ab (r-(length v:Int))) i) (Bi k 0)) (Cw (A03 _ _ _ _ _) rfl (Cw (Ct _) rfl rfl)))))))))))))))))))))))))
end
abbrev _root_.Go.Proofs.S1.Ar.Apply.Kn:=A8 prog 163 Ar.Apply.spec
theorem Ar.Apply.Ad (hk:A1 prog Ar.Apply.Ba) (h:Hyp Ar.Apply.E f163 Ar.Apply.ts Ar.Apply.pre Ar.Apply.out):Ar.Apply.Kn :=
 Al (A4 hk _ _ _) func163 (by kernel_rfl) (by kernel_rfl) h
end EqHouse
open EqHouse
theorem Amh (x:Int):((Bz x) !=(0:Int))=!(decide (Bz x=0)):=by
 rw [A46]; simp
theorem Aff (N:Nat) {x:List Int} (hx:B4 x=true):∀ (k i F:Nat),i+k=x.length→k<F→Ar.D1.L0 N F x (i:Int)=some (.bool (M8 (x.drop i))):=by
 obtain ⟨hl,hu⟩:=I4 hx
 intro k
 induction k with
 | zero =>
   intro i F hi hF
   obtain ⟨F,rfl⟩:∃ G,F=G+1:=⟨F-1,by omega⟩
   rw [Ar.D1.Au,Av,A4v (by omega),A4u,A44 (by omega)]; rfl
 | succ k ih =>
   intro i F hi hF
   obtain ⟨F,rfl⟩:∃ G,F=G+1:=⟨F-1,by omega⟩
   rw [Ar.D1.Au,Av,A4r (show (i:Int)<(x.length:Int) by omega),A4q,A4r (show (0:Int)≤(i:Int) by omega),A4w,A4q,A4s,hu i (by omega),A4q,Amh,J8 (by omega)]
   unfold M8
   rw [List.all_cons]
   cases decide (Bz (x.getD i 0)=0) with
   | false=>rfl
   | true =>
     rw [A5p,A4u,A53,An (by omega) (by omega)]
     exact ih (i+1) F (by omega) (by omega)
theorem Ar.D1.known:Ar.D1.Kn:=Ar.D1.Ad (.cons soft.Kind.known .nil) fun x hp=>by
 refine ⟨x.length+1,Ar.D1.out [.l x],[],?_,.bool⟩
 rw [Ar.D1.ev]
 exact Aff (x.length+1) hp x.length 0 (x.length+1) (by omega) (by omega)
theorem Ao8 (N:Nat) {x:List Int} (hx:B4 x=true):∀ (k i F:Nat),i+k=x.length→k<F→Ar.lead.L0 N F x (i:Int)=some (.int .u64 (Ud (x.drop i))):=by
 obtain ⟨hl,hu⟩:=I4 hx
 intro k
 induction k with
 | zero =>
   intro i F hi hF
   obtain ⟨F,rfl⟩:∃ G,F=G+1:=⟨F-1,by omega⟩
   rw [Ar.lead.Au,Av,A4v (by omega),A4u,A44 (by omega)]; rfl
 | succ k ih =>
   intro i F hi hF
   obtain ⟨F,rfl⟩:∃ G,F=G+1:=⟨F-1,by omega⟩
   rw [Ar.lead.Au,Av,A4r (show (i:Int)<(x.length:Int) by omega),A4q,A4r (show (0:Int)≤(i:Int) by omega),A4w,A4q,A4s,hu i (by omega),A4q,Amh,J8 (by omega),Ud]
   by_cases h:Bz (x.getD i 0)=0
   ·rw [A4r h,A5d h,A5p,A4u,An (by omega) (by omega)]
    exact ih (i+1) F (by omega) (by omega)
   ·rw [A4v h,A5c h]; rfl
theorem Ar.lead.known:Ar.lead.Kn:=Ar.lead.Ad (.cons soft.Kind.known .nil) fun x hp=>by
 refine ⟨x.length+1,Ar.lead.out [.l x],[],?_,.int⟩
 rw [Ar.lead.ev]
 exact Ao8 (x.length+1) hp x.length 0 (x.length+1) (by omega) (by omega)
theorem Uo {x:List Int} {i:Nat} (h:i<x.length) (f:Int→Int):(x.take (i+1)).map f=(x.take i).map f++[f (x.getD i 0)]:=by
 rw [List.take_succ_eq_append_getElem h,List.map_append,A40,A47 h]; rfl
theorem Aev (N:Nat) {x:List Int} {e:Int} (hx:B4 x=true) (hl:x.length≤1000) (he:-2300≤e∧e≤2300):∀ (k i F:Nat),i+k=x.length→k<F →
 Ar.Be.L0 N F x e (i:Int) ((x.take i).map fun b=>Bf b e)=some (.ints (.own 100005 tB) .u64 (Bh x e)):=by
 obtain ⟨_,hu⟩:=I4 hx
 intro k
 induction k with
 | zero =>
   intro i F hi hF
   obtain ⟨F,rfl⟩:∃ G,F=G+1:=⟨F-1,by omega⟩
   rw [Ar.Be.Au,Av,A4v (by omega),A4u,List.take_of_length_le (by omega)]; rfl
 | succ k ih =>
   intro i F hi hF
   obtain ⟨F,rfl⟩:∃ G,F=G+1:=⟨F-1,by omega⟩
   rw [Ar.Be.Au,Av,A4r (show (i:Int)<(x.length:Int) by omega),A4q,A4r (show (0:Int)≤(i:Int) by omega),A4w,A4q,A4s,
    show Dd (getD x i 0) e=true from Ac.2 ⟨hu i (by omega),Aq.2 he⟩,A4q,A4r (by rw [A5w,List.length_take]; unfold G8; omega),A4q,An (by omega) (by omega)]
   have:=ih (i+1) F (by omega) (by omega)
   rw [Uo (by omega)] at this
   exact this
theorem Ar.Be.known:Ar.Be.Kn:=Ar.Be.Ad (.cons Ae.Br.known .nil) fun x k hp=>by
 obtain ⟨h1,h2⟩:=Ac.1 hp
 have h2:=Aq.1 h2
 refine ⟨x.length+1,.ints (.own 100005 tB) .u64 (Bh x k),[100005],?_,.drop _ _ _ _ (List.mem_singleton.2 rfl)⟩
 rw [Ar.Be.ev]
 exact Aev (x.length+1) h1 h2.1 h2.2 x.length 0 (x.length+1) (by omega) (by omega)
theorem Ar.Gp.known:Ar.Gp.Kn:=Ar.Gp.Ad .nil fun i _=>⟨0,Ar.Gp.out [.i i],[],by rw [Ar.Gp.ev]; rfl,.int⟩
theorem Ar.Gn.known:Ar.Gn.Kn:=Ar.Gn.Ad (.cons Ae.Div.known .nil) fun i y d hp=>by
 obtain ⟨h1,h2⟩:=Ac.1 (show ((B3 (0≤i∧i<length y)&&Aj y)&&Af d)=true from hp)
 obtain ⟨h3,h4⟩:=Ac.1 h1
 have h3:=Aq.1 h3
 refine ⟨0,Ar.Gn.out [.i i,.l y,.i d],[],?_,.int⟩
 rw [Ar.Gn.ev,A4r h3.1,A4r h3.2,Qy h4,h2]; rfl
theorem Tg (n i:Nat) (f:Nat→Int) (h:i+1=n):L8 n f=V8::(List.range i).map fun j=>f (j+1):=by unfold L8; rw [show n-1=i by omega]
theorem Alx {n:Nat} (f:Nat→Int) (h:n≠0):(((decide ((0:Int)≤(n:Int)))&&(decide ((n:Int)≤(n:Int))))&&((decide ((0:Int)≤(n:Int)))&&(decide ((n:Int)≤(length (L8 n f):Int)))))=true ∧
 List.take (toNat ((n:Int)-(0:Int))) (List.drop 0 (L8 n f))=L8 n f:=by
 have:=Vy h f
 refine ⟨?_,?_⟩
 ·rw [A4r (by omega),A4r (by omega),A4r (by omega)]; rfl
 ·rw [List.drop_zero,List.take_of_length_le (by omega)]
theorem Ab9 (N:Nat) {n:Nat} (h64:n≤64) (h0:n≠0):∀ (k i F:Nat),i+1+k=n→k<F →
 Ar.row.Zero.L0 N F (n:Int) ((i+1:Nat):Int) (L8 (i+1) fun _=>0)=some (.ints .fresh .u64 (L8 n fun _=>0)):=by
 intro k
 induction k with
 | zero =>
   intro i F hi hF
   obtain ⟨F,rfl⟩:∃ G,F=G+1:=⟨F-1,by omega⟩
   obtain rfl:i+1=n:=by omega
   obtain ⟨e1,e2⟩:=Alx (fun _=>0) h0
   rw [Ar.row.Zero.Au,Av,A4v (by omega),A4u,e1,A4q,e2]
 | succ k ih =>
   intro i F hi hF
   obtain ⟨F,rfl⟩:∃ G,F=G+1:=⟨F-1,by omega⟩
   rw [Ar.row.Zero.Au,Av,A4r (by omega),A4q,A4r (by rw [Vy (by omega)]; unfold G8; omega),A4q,An (by omega) (by omega)]
   have:=ih (i+1) F (by omega) (by omega)
   rw [Tg (i+1+1) (i+1) _ rfl,Jt] at this
   rw [Tg (i+1) i _ rfl]
   exact this
theorem Ar.row.Zero.known:Ar.row.Zero.Kn:=Ar.row.Zero.Ad (.cons Ar.Gp.known .nil) fun n hp=>by
 have hp:=Aq.1 (show B3 (1≤n∧n≤64)=true from hp)
 obtain ⟨m,rfl⟩:∃ m:Nat,n=m:=⟨n.toNat,by omega⟩
 refine ⟨65,Ar.row.Zero.out [.i m],[],?_,.O4⟩
 show _=some (DV.ints .fresh .u64 (L8 (toNat (m:Int)) fun _=>0))
 rw [Ar.row.Zero.ev,A4s]
 exact Ab9 65 (by omega) (by omega) (m-1) 0 65 (by omega) (by omega)
theorem Ae1 (N:Nat) {n:Nat} {y:List Int} {d:Int} (h64:n≤64) (h0:n≠0) (hy:n=y.length) (al:Aj y=true) (hd:Af d=true):∀ (k i F:Nat),i+1+k=n→k<F →
 Ar.row.Div.L0 N F (n:Int) y d ((i+1:Nat):Int) (L8 (i+1) fun j=>Es (y.getD j 0) d)=some (.ints .fresh .u64 (L8 n fun j=>Es (y.getD j 0) d)):=by
 intro k
 induction k with
 | zero =>
   intro i F hi hF
   obtain ⟨F,rfl⟩:∃ G,F=G+1:=⟨F-1,by omega⟩
   obtain rfl:i+1=n:=by omega
   obtain ⟨e1,e2⟩:=Alx (fun j=>Es (y.getD j 0) d) h0
   rw [Ar.row.Div.Au,Av,A4v (by omega),A4u,e1,A4q,e2]
 | succ k ih =>
   intro i F hi hF
   obtain ⟨F,rfl⟩:∃ G,F=G+1:=⟨F-1,by omega⟩
   rw [Ar.row.Div.Au,Av,A4r (by omega),A4q,Aq.2 (show 0≤((i+1:Nat):Int)∧((i+1:Nat):Int)<(y.length:Int) by omega),al,hd,A4w,A4w,A4q,A4r (by rw [Vy (by omega)]; unfold G8; omega),A4q,An (by omega) (by omega),A4s]
   have:=ih (i+1) F (by omega) (by omega)
   rw [Tg (i+1+1) (i+1) _ rfl,Jt] at this
   rw [Tg (i+1) i _ rfl]
   exact this
theorem Ar.row.Div.known:Ar.row.Div.Kn:=Ar.row.Div.Ad (.cons Ar.Gn.known .nil) fun n y d hp=>by
 obtain ⟨h1,h2⟩:=Ac.1 (show ((B3 (1≤n∧n≤64∧n=length y)&&Aj y)&&Af d)=true from hp)
 obtain ⟨h3,h4⟩:=Ac.1 h1
 have h3:=Aq.1 h3
 obtain ⟨m,rfl⟩:∃ m:Nat,n=m:=⟨n.toNat,by omega⟩
 refine ⟨65,Ar.row.Div.out [.i m,.l y,.i d],[],?_,.O4⟩
 show _=some (DV.ints .fresh .u64 (L8 (toNat (m:Int)) fun j=>Es (getD y j 0) d))
 rw [Ar.row.Div.ev,A4s]
 exact Ae1 65 (by omega) (by omega) (by omega) h4 h2 (m-1) 0 65 (by omega) (by omega)
theorem Ac5 {x:List Int} {k:Int} {j:Nat} (h:j<x.length):(Bh x k).getD j 0=Bf (x.getD j 0) k:=by
 unfold Bh
 rw [A40,A57,A47 h,A40,A47 h]; rfl
theorem Anu (x:List Int) (k:Int):(Bh x k).length=x.length:=by unfold Bh; rw [A5w]
theorem Anv {x:List Int} (k:Int) (h:Aj x=true):Aj (Bh x k)=true:=Tx fun y hy=>by
 obtain ⟨b,hb,rfl⟩:=List.mem_map.1 hy
 exact Ha (Aq.1 h b hb)
theorem Afl:∀ {x:List Int},Aj x=true→Af (Ud x)=true
 | [],_=>Km
 | b::l,h=>by
   unfold Ud
   split
   ·exact Afl (Tx fun y hy=>Aq.1 h y (A5v _ hy))
   ·exact Aq.1 h b A55
theorem Ad9 {x:List Int} (h:B4 x=true):Aj x=true:=Aq.2 (Aq.1 h).2
theorem S9 {drops:List Nat} {g:Ai9}:Wk drops .nil (.ints g .u64 []):=.nil g .u64
theorem An5 {n:Nat} {f g:Nat→Int} (h:∀ j,j<n→f j=g j):L8 n f=L8 n g:=by
 unfold L8
 congr 1
 exact List.map_congr_left fun j hj=>h _ (by have:=List.mem_range.1 hj; omega)
theorem Ar.Lg.known:Ar.Lg.Kn:=Ar.Lg.Ad (.cons compare.Lh.known (.cons Ar.lead.known (.cons Ar.D1.known (.cons (A8.alt Ar.row.Zero.known Ar.row.Div.known) (.cons Ar.Be.known (.cons soft.Finite.known (.cons soft.Dn.known (.cons soft.Sign.known (.cons Ae.Bv.known (.cons Ae.Div.known (.cons Ae.Finite.known (.cons Ae.Norm.known (.cons Ae.Br.known (.cons Ae.Sub.known .nil)))))))))))))) fun x hp=>by
 have hx:B4 x=true:=hp
 have al:=Ad9 hx
 have he:=U6 (Bw x)
 show ∃ N dv drops,_=some dv∧Wk drops dv (DV.tup [.ints .fresh .u64 (Dp x).1,.int .u64 (Dp x).2.1,.int .u64 (Dp x).2.2.1,.int .i64 (Dp x).2.2.2])
 unfold Dp
 by_cases h1:x.length=0∨64<x.length
 ·rw [A5d h1]
  refine ⟨0,.tup [.nil,.int .u64 0,.int .u64 0,.int .i64 3],[],?_,Wk.Hs (.cons S9 (.cons .int (.cons .int (.cons .int .nil))))⟩
  have:(((length x:Int)==(0:Int))||(Bi (64:Int) (length x:Int)))=true:=by
   rw [Av,Bool.or_eq_true,beq_iff_eq,A4x]; omega
  rw [Ar.Lg.ev,this,A4q]
 have c1:(((length x:Int)==(0:Int))||(Bi (64:Int) (length x:Int)))=false:=by
  rw [Av,Bool.or_eq_false_iff,A5l,A49]; omega
 rw [A5c h1]
 by_cases h2:D2 x=true
 ·rw [A5d h2]
  unfold Av8
  have ok1:B4 (x.drop 1)=true:=Gi (Tx fun y hy=>Aq.1 al y (List.mem_of_mem_drop hy)) (by rw [List.length_drop]; omega)
  have d1:decide ((1:Int)≤(x.length:Int))=true:=A4r (by omega)
  have d0:decide ((0:Int)<(x.length:Int))=true:=A4r (by omega)
  by_cases h3:M8 (x.drop 1)=true
  ·rw [A5d h3]
   refine ⟨0,.tup [.ints .fresh .u64 (L8 x.length fun _=>0),.int .u64 0,.int .u64 (x.getD 0 0),.int .i64 0],[],?_,Wk.Hs (.cons .O4 (.cons .int (.cons .int (.cons .int .nil))))⟩
   rw [Ar.Lg.ev,c1,A4u,hx,A4q,h2,A5p,A4u,d1,A4q,ok1,A4q,h3,A4q,Aq.2 (show 1≤(x.length:Int)∧(x.length:Int)≤64 by omega),A4q,d0,A4q,A4s]
  ·rw [A5c h3]
   have h3:M8 (x.drop 1)=false:=by simpa using h3
   have ew:Ab (0-Ck (Bw x))=-Ck (Bw x):=by rw [An (by omega) (by omega)]; omega
   have ly:=Anu x (-Ck (Bw x))
   have ay:=Anv (-Ck (Bw x)) al
   have oky:B4 (Bh x (-Ck (Bw x)))=true:=Gi ay (by omega)
   have gy:=Ac5 (x:=x) (k:=-Ck (Bw x)) (j:=0) (by omega)
   have iy:=Qy ay 0
   have key:∀ mu:Int,muI x=mu→Af mu=true→∀ b:Bool,Dw (Kj x)=b→∃ dv:DV,(bif (!b) then
    some (.tup [.nil,.int .u64 (0:Int),.int .u64 (0:Int),.int .i64 (2:Int)])
    else some (.tup [.ints .fresh .u64 (L8 (toNat (length (Bh x (-Ck (Bw x))):Int)) (fun j=>Es (getD (Bh x (-Ck (Bw x))) j 0) (Gb (getD (Bh x (-Ck (Bw x))) 0 0) mu))),.int .u64 (Es (Gb mu (getD (Bh x (-Ck (Bw x))) 0 0)) mu),.int .u64 (Bf mu (Ck (Bw x))),.int .i64 (0:Int)]))=some dv ∧
    Wk [] dv (DV.tup [.ints .fresh .u64 (if Dw (Kj x)=true then (Aho x,Akl x,Kj x,(0:Int)) else ([],0,0,2)).1,.int .u64 (if Dw (Kj x)=true then (Aho x,Akl x,Kj x,(0:Int)) else ([],0,0,2)).2.1,.int .u64 (if Dw (Kj x)=true then (Aho x,Akl x,Kj x,(0:Int)) else ([],0,0,2)).2.2.1,.int .i64 (if Dw (Kj x)=true then (Aho x,Akl x,Kj x,(0:Int)) else ([],0,0,2)).2.2.2]):=by
    intro mu hmu _ b hb
    rw [hb]
    cases b with
    | false=>exact ⟨_,rfl,Wk.Hs (.cons S9 (.cons .int (.cons .int (.cons .int .nil))))⟩
    | true =>
      refine ⟨_,rfl,?_⟩
      rw [A5d rfl]
      dsimp only
      have e1:L8 (toNat (length (Bh x (-Ck (Bw x))):Int)) (fun j=>Es (getD (Bh x (-Ck (Bw x))) j 0) (Gb (getD (Bh x (-Ck (Bw x))) 0 0) mu))=Aho x:=by
       unfold Aho
       rw [A4s,ly,gy,← hmu]
       exact An5 fun j hj=>by rw [Ac5 hj]; rfl
      have e2:Es (Gb mu (getD (Bh x (-Ck (Bw x))) 0 0)) mu=Akl x:=by
       unfold Akl
       rw [gy,hmu]; rfl
      have e3:Bf mu (Ck (Bw x))=Kj x:=by unfold Kj; rw [hmu]
      rw [e1,e2,e3]
      exact Wk.Hs (.cons .O4 (.cons .int (.cons .int (.cons .int .nil))))
   have dz:decide ((0:Int)<((Bh x (-Ck (Bw x))).length:Int))=true:=A4r (by omega)
   have cz':B3 (1≤((Bh x (-Ck (Bw x))).length:Int)∧((Bh x (-Ck (Bw x))).length:Int)≤64∧True)=true:=Aq.2 ⟨by omega,by omega,trivial⟩
   have p1:B3 (x.length≤1000∧-2300≤-Ck (Bw x)∧-Ck (Bw x)≤2300)=true:=Aq.2 (by omega)
   have p2:B3 ((Bh x (-Ck (Bw x))).length≤64)=true:=Aq.2 (by omega)
   have sp:∀ mu:Int,Af mu=true→Dd mu (Ck (Bw x))=true:=fun mu h=>Ac.2 ⟨h,Aq.2 (by omega)⟩
   have ny:=Ks (Bh x (-Ck (Bw x)))
   cases hn:Eb (Ud x) with
   | true =>
     have hm:muI x=B6 (Bh x (-Ck (Bw x))):=by unfold muI; rw [A5d hn]
     obtain ⟨dv,k1,k2⟩:=key _ hm ny (Dw (Kj x)) rfl
     refine ⟨0,dv,[],?_,k2⟩
     rw [← k1]
     have eb:Kj x=Bf (B6 (Bh x (-Ck (Bw x)))) (Ck (Bw x)):=by unfold Kj; rw [hm]
     rw [Ar.Lg.ev,ew,eb]
     simp only [c1,A4u,hx,A4q,h2,A5p,d1,ok1,h3,P5,p1,oky,p2,A4w,Afl al,hn,sp _ ny,Ha ny,dz,cz',ay,iy,ny,Q3 iy ny,Q3 ny iy]
   | false =>
     have hm:muI x=Da (B6 (Bh x (-Ck (Bw x)))):=by unfold muI; rw [A5c (by rw [hn]; decide)]
     have my:=Oz ny
     obtain ⟨dv,k1,k2⟩:=key _ hm my (Dw (Kj x)) rfl
     refine ⟨0,dv,[],?_,k2⟩
     rw [← k1]
     have eb:Kj x=Bf (Da (B6 (Bh x (-Ck (Bw x))))) (Ck (Bw x)):=by unfold Kj; rw [hm]
     rw [Ar.Lg.ev,ew,eb]
     simp only [c1,A4u,hx,A4q,h2,A5p,d1,ok1,h3,P5,p1,oky,p2,A4w,Afl al,hn,A59,sp _ my,Ha my,dz,cz',ay,iy,ny,my,Q3 iy my,Q3 my iy]
 ·rw [A5c h2]
  have h2:D2 x=false:=by simpa using h2
  refine ⟨0,.tup [.nil,.int .u64 0,.int .u64 0,.int .i64 4],[],?_,Wk.Hs (.cons S9 (.cons .int (.cons .int (.cons .int .nil))))⟩
  rw [Ar.Lg.ev,c1,A4u,hx,A4q,h2,A59,A4q]
open EqHouse
def apD (i k c j a b:Nat):Bool:=decide (k≤b∧i≤a∧(b<c∨(b=c∧a<i+j)))
def apS (R C:Nat) (l:List Int) (i k:Nat) (v:List Int) (t:Int) (c j:Nat):List Int :=
 B8 R C fun a b=>if apD i k c j a b=true∧a<i+v.length then Sz (C:Int) l (i:Int) (k:Int) v t (a:Int) (b:Int) else D8 (C:Int) l (a:Int) (b:Int)
section
variable {R C i k:Nat} {l v:List Int} {t:Int}
theorem Axm (c j:Nat):(apS R C l i k v t c j).length=R*C:=Cd _ _ _
theorem Aua (h:l.length=R*C):apS R C l i k v t k 0=l:=by
 unfold apS
 conv=>rhs; rw [← Ts h]
 refine D6 fun a b ha hb=>?_
 rw [A5c]
 rintro ⟨h,_⟩
 have:=A5g h
 omega
theorem Aub (c:Nat):apS R C l i k v t c v.length=apS R C l i k v t (c+1) 0:=by
 unfold apS
 refine D6 fun a b ha hb=>?_
 have:(apD i k c v.length a b=true∧a<i+v.length)↔(apD i k (c+1) 0 a b=true∧a<i+v.length):=by
  unfold apD
  rw [A4x,A4x]
  omega
 by_cases h:apD i k c v.length a b=true∧a<i+v.length
 ·rw [A5d h,A5d (this.1 h)]
 ·rw [A5c h,A5c (fun hh=>h (this.2 hh))]
theorem Axn:apS R C l i k v t C 0=Im R C l (i:Int) (k:Int) v t:=by
 unfold apS Im
 refine D6 fun a b ha hb=>?_
 by_cases h:apD i k C 0 a b=true∧a<i+v.length
 ·rw [A5d h]
 ·rw [A5c h]
  unfold Sz
  rw [A5c]
  intro hh
  refine h ⟨?_,by omega⟩
  unfold apD
  rw [A4x]; omega
theorem Axl {c j:Nat} (hc:c<C) (hk:k≤c) (hj:j<v.length) {x:Int} (hx:x=Sz (C:Int) l (i:Int) (k:Int) v t ((i+j:Nat):Int) (c:Int)) :
 List.set (apS R C l i k v t c j) ((i+j)*C+c) x=apS R C l i k v t c (j+1):=by
 unfold apS
 rw [Qt hc]
 refine D6 fun a b ha hb=>?_
 by_cases h:a=i+j∧b=c
 ·obtain ⟨rfl,rfl⟩:=h
  rw [A5d ⟨rfl,rfl⟩,A5d ⟨by unfold apD; rw [A4x]; omega,by omega⟩,hx]
 ·rw [A5c h]
  have:(apD i k c j a b=true∧a<i+v.length)↔(apD i k c (j+1) a b=true∧a<i+v.length):=by
   unfold apD
   rw [A4x,A4x]
   omega
  by_cases h2:apD i k c j a b=true∧a<i+v.length
  ·rw [A5d h2,A5d (this.1 h2)]
  ·rw [A5c h2,A5c (fun hh=>h2 (this.2 hh))]
theorem At9 {c j:Nat} (hk:k≤c) (hj:j<v.length):Sz (C:Int) l (i:Int) (k:Int) v t ((i+j:Nat):Int) (c:Int) =
 Gb ((Cn (C:Int) l (c:Int) (i:Int) v.length).getD j 0) (Ca (Af5 (C:Int) l (i:Int) v t (c:Int)) (v.getD j 0)):=by
 unfold Sz
 rw [A5d ⟨by omega,by omega,by omega⟩]
 have e1:(((i+j:Nat):Int)-(i:Int)).toNat=j:=by omega
 have e2:(Cn (C:Int) l (c:Int) (i:Int) v.length).getD j 0=D8 (C:Int) l ((i+j:Nat):Int) (c:Int):=by
  unfold Cn
  rw [A40,A57,List.getElem?_range hj]
  show D8 (C:Int) l ((i:Int)+(j:Int)) (c:Int)=_
  rw [← Int.natCast_add]
 rw [e1,e2]
theorem Aq9 {c b i:Int} {l:List Int} {m n:Nat} (h:m≤n):List.take m (Cn c l b i n)=Cn c l b i m:=by
 unfold Cn
 rw [← List.map_take,List.take_range,Nat.min_eq_left h]
theorem Alc (N M0:Nat) (r6:R≤6) (c6:C≤6) (al:Aj l=true) (av:Aj v=true) (hv:i+v.length≤R) {c:Nat} (hc:c<C) (hk:k≤c):∀ (cnt j F:Nat),j+cnt=v.length→cnt<F →
 Ar.Apply.L1 N M0 F (R:Int) (C:Int) l (i:Int) v t (j:Int) (apS R C l i k v t c j) (c:Int) (Af5 (C:Int) l (i:Int) v t (c:Int)) (Cn (C:Int) l (c:Int) (i:Int) v.length) (v.length:Int) =
 Ar.Apply.L0 N M0 (R:Int) (C:Int) l (i:Int) v t ((c+1:Nat):Int) (apS R C l i k v t (c+1) 0):=by
 intro cnt
 induction cnt with
 | zero =>
   intro j F hj hF
   obtain ⟨F,rfl⟩:∃ G,F=G+1:=⟨F-1,by omega⟩
   obtain rfl:j=v.length:=by omega
   rw [Ar.Apply.Ch,Av,A4v (by omega),A4u,An (by omega) (by omega),Aub]
   rfl
 | succ cnt ih =>
   intro j F hj hF
   obtain ⟨F,rfl⟩:∃ G,F=G+1:=⟨F-1,by omega⟩
   have hm:=L7 (a:=((i+j:Nat):Int)) (b:=(C:Int)) (by omega) (by omega) (by omega) (by omega)
   have hpl:=Ig (show i+j<R by omega) hc
   have e1:Ab ((i:Int)+(j:Int))=((i+j:Nat):Int):=by rw [An (by omega) (by omega)]; omega
   have e2:Ab (((i+j:Nat):Int)*(C:Int))=(((i+j)*C:Nat):Int):=by rw [An (by omega) (by omega)]; exact (A5b _ _).symm
   have h36:=A5m r6 c6
   have e3:Ab ((((i+j)*C:Nat):Int)+(c:Int))=(((i+j)*C+c:Nat):Int):=by rw [An (by omega) (by omega)]; omega
   have hlen:=Axm (R:=R) (C:=C) (l:=l) (i:=i) (k:=k) (v:=v) (t:=t) c j
   have sl:=Ky (C:Int) (c:Int) (i:Int) v.length l
   rw [Ar.Apply.Ch,Av,A4r (show (j:Int)<(v.length:Int) by omega),A4q,e1,e2,e3,sl,A4r (show (0:Int)≤(j:Int) by omega),A4r (show (j:Int)<(v.length:Int) by omega),A4w,A4q,A4s,A4s]
   have a1:=Qy av j
   have a2:=Qy (Ot (c:=(C:Int)) (b:=(c:Int)) (i:=(i:Int)) (n:=v.length) al) j
   have a3:Af (Af5 (C:Int) l (i:Int) v t (c:Int))=true:=Eu _ _
   rw [A4q,a3,a1,A4w,A4q,a2,Eu,A4w,A4q,A4r (by omega),A4r (by omega),A4w,A4q,A4r (by omega),A4q,
    Axl hc hk (by omega) (At9 hk (by omega)).symm,An (by omega) (by omega)]
   exact ih (j+1) F (by omega) (by omega)
theorem Ald (N:Nat) (r6:R≤6) (c6:C≤6) (hN:7<N) (hr:A3 (R:Int) (C:Int) l=true) (al:Aj l=true) (av:Aj v=true) (ht:Af t=true) (hv:i+v.length≤R):∀ (cnt c F:Nat),c+cnt=C→k≤c→cnt<F →
 Ar.Apply.L0 N F (R:Int) (C:Int) l (i:Int) v t (c:Int) (apS R C l i k v t c 0) =
 some (.tup [.agg [.int .i64 (R:Int),.int .i64 (C:Int),.ints (.own 114002 tB) .u64 (Im R C l (i:Int) (k:Int) v t)],.int .i64 (0:Int)]):=by
 intro cnt
 induction cnt with
 | zero =>
   intro c F hc hk hF
   obtain ⟨F,rfl⟩:∃ G,F=G+1:=⟨F-1,by omega⟩
   obtain rfl:c=C:=by omega
   rw [Ar.Apply.Au,Av,A4v (by omega),A4u,Axn]
 | succ cnt ih =>
   intro c F hc hk hF
   obtain ⟨F,rfl⟩:∃ G,F=G+1:=⟨F-1,by omega⟩
   have cp:Hh (R:Int) (C:Int) l (c:Int)=true:=Ac.2 ⟨hr,Aq.2 (by omega)⟩
   have e0:toNat ((R:Int)-(i:Int))=R-i:=by omega
   have st:=Aq9 (c:=(C:Int)) (b:=(c:Int)) (i:=(i:Int)) (l:=l) (m:=v.length) (n:=R-i) (by omega)
   have sl:=Ky (C:Int) (c:Int) (i:Int) v.length l
   have sl2:=Ky (C:Int) (c:Int) (i:Int) (R-i) l
   have sa:=Ot (c:=(C:Int)) (b:=(c:Int)) (i:=(i:Int)) (n:=v.length) al
   have ft:O5 v (Cn (C:Int) l (c:Int) (i:Int) v.length)=true:=Zo.2 ⟨by omega,by omega⟩
   rw [Ar.Apply.Au,Av,A4r (by omega),A4q,cp,Aq.2 (show 0≤(i:Int)∧(i:Int)≤(R:Int) by omega),A4w,A4q,e0,A4s,st,sl2,sl,
    A4r (show (0:Int)≤(v.length:Int) by omega),A4r (show (v.length:Int)≤(v.length:Int) by omega),A4r (show (v.length:Int)≤((R-i:Nat):Int) by omega),A4w,A4w,A4q,ft,av,sa,A4w,A4w,A4q,ht,Hg,A4w,A4q]
   have:=Alc (t:=t) N F r6 c6 al av hv (show c<C by omega) hk v.length 0 N (by omega) (by omega)
   exact this.trans (ih (c+1) F (by omega) (by omega) (by omega))
end
theorem Ar.Apply.known:Ar.Apply.Kn:=Ar.Apply.Ad (.cons Aa.Check.known (.cons Aa.D3.known (.cons Ae.Iv.known (.cons Ae.Mul.known (.cons Ae.Sub.known .nil))))) fun r c l i k v t hp=>by
 obtain ⟨h1,ht⟩:=Ac.1 (show (((A3 r c l&&Rq r c i k v)&&(Aj l&&Aj v))&&Af t)=true from hp)
 obtain ⟨h2,h3⟩:=Ac.1 h1
 obtain ⟨hr,hb⟩:=Ac.1 h2
 obtain ⟨al,av⟩:=Ac.1 h3
 have hb:=A5g hb
 have hc:Lt r c l=0:=by unfold Lt; rw [A5d hr]
 have h36:=Th hr
 obtain ⟨R,C,rfl,rfl,r6,c6,hl⟩:=Cu hr
 obtain ⟨i,rfl⟩:∃ j:Nat,i=j:=⟨i.toNat,by omega⟩
 obtain ⟨k,rfl⟩:∃ j:Nat,k=j:=⟨k.toNat,by omega⟩
 refine ⟨8,Ar.Apply.out [.i (R:Int),.i (C:Int),.l l,.i (i:Int),.i (k:Int),.l v,.i t],[],?_,Wk.Hs (.cons (Wk.Hc (.cons .int (.cons .int (.cons (.keep _ _ _ _ List.not_mem_nil) .nil)))) (.cons .int .nil))⟩
 show _=some (DV.tup [.agg [.int .i64 (R:Int),.int .i64 (C:Int),.ints (.own 114002 tB) .u64 (Im (toNat (R:Int)) (toNat (C:Int)) l (i:Int) (k:Int) v t)],.int .i64 0])
 have hlt:(((((Bi (i:Int) (0:Int))||(Bi (R:Int) (length v:Int)))||(Bi (Ab ((R:Int)-(length v:Int))) (i:Int)))||(Bi (k:Int) (0:Int)))||(Bi (C:Int) (k:Int)))=false:=by
  rw [Av,Av,Av,Av,Av,An (by omega) (by omega),A4v (by omega),A4v (by omega),A4v (by omega),A4v (by omega),A4v (by omega)]; rfl
 rw [Ar.Apply.ev,hc,show ((0:Int) !=(0:Int))=false from rfl,A4u,hlt,A4u,A4r (show 0+l.length≤G8 by unfold G8; omega),A4q,List.nil_append,A4s,A4s]
 have:=Ald (R:=R) (C:=C) (i:=i) (k:=k) (l:=l) (v:=v) (t:=t) 8 r6 c6 (by omega) hr al av ht (by omega) (C-k) k 8 (by omega) (by omega) (by omega)
 rw [Aua hl] at this
 exact this
end Go.Proofs.S1
end
