/- A verified evaluator of the program's form and its use for this seat: S1PRefB, S1PRefBa, S1EqRefC, S1PRefC, S1PRefCa, S1EqRefE, S1PRefV, S1PPack, S1PNear, S1EqSum, S1PSum. -/
import Derived.Test.YtjbokjpbiobjpaaGreatTF
import Derived.Test.YtjbokjpbiobjpaaGreatTE
set_option linter.unusedVariables false
set_option linter.unusedSimpArgs false
noncomputable section
open Int (toNat)
open List (length getD)
open Go.Proofs.Tryz
namespace Go.Proofs.S1
open Go Go.Den Go.C4 Go.Proofs
open EqRefB
theorem Ad.Eh.known:Ad.Eh.Kn:=Ad.Eh.Ae (.cons Ad.Made.known (.cons Ad.plus.known .nil)) fun n a hp=>by
 obtain ⟨v,rfl,rfl,hv⟩:=J5 hp
 refine ⟨0,Ad.Eh.out [.b (Ar v),.l (Ac v)],[],?_,Yi⟩
 have o1:Fa (Ac v)=true:=L6 (by omega)
 have o3:Fa (G7 (Ac v) (Ac v))=true:=Ib (by rw [Mq,B9]; omega) (U4 _ _)
 rw [Ad.Eh.ev,o1,o3,Avd,Au7,Au7,Ah6 rfl]
 show _=some (DV.agg [.bool (Ar (2*wv (Ar v) (Ac v))),.ints .arg .u32 (Ac (2*wv (Ar v) (Ac v)))])
 rw [Fl,Int.two_mul]
theorem Ap6 (l:List Int) (y x:Int) (r:List Int):∀ i,i=l.length→(l++y::r).set i x=l++x::r:=by
 induction l with
 | nil=>intro i h; subst h; rfl
 | cons z l ih =>
   intro i h
   obtain ⟨j,rfl⟩:∃ j,i=j+1:=⟨i-1,by rw [List.length_cons] at h; omega⟩
   show z::(l++y::r).set j x=z::(l++x::r)
   rw [ih j (by rw [List.length_cons] at h; omega)]
theorem Ahb (N:Nat) {v:Int} (hv:Di v.natAbs<268435456):∀ (k i F:Nat),i+k=Di v.natAbs→k<F →
 Ad.Gd.L0 N F (Ar v) (Ac v) (i:Int) (digits i (v.natAbs / 2)++List.replicate k 0)=some (.agg [.bool (Ar (H2 v 1)),.ints .arg .u32 (Ac (H2 v 1))]):=by
 have o1:Fa (Ac v)=true:=L6 (by omega)
 have ia:=Fk v
 intro k
 induction k with
 | zero =>
   intro i F hi hF
   obtain ⟨F,rfl⟩:∃ G,F=G+1:=⟨F-1,by omega⟩
   have t0:decide ((i:Int)<((Ac v).length:Int))=false:=Avc (by rw [B9]; omega)
   rw [List.replicate_zero,List.append_nil,Ad.Gd.Ax,Av,t0,Avb]
   have o3:Fa (digits i (v.natAbs / 2))=true:=Ib (by rw [Dj]; omega) (Kj _ _)
   have e:wv (Ar v) (digits i (v.natAbs / 2))=H2 v 1:=by
    unfold wv H2
    rw [Hp,Avk,Nat.pow_one]
    have:=I7 v.natAbs
    rw [show i=Di v.natAbs by omega]
    exact Av9 (Nat.div_le_self _ _) this
   rw [o3,Au7,e]
 | succ k ih =>
   intro i F hi hF
   obtain ⟨F,rfl⟩:∃ G,F=G+1:=⟨F-1,by omega⟩
   have hlen:(digits i (v.natAbs / 2)++List.replicate (k+1) (0:Int)).length=i+(k+1):=by rw [Avz,Dj,List.length_replicate]
   have t0:decide ((i:Int)<((Ac v).length:Int))=true:=Au8 (by rw [B9]; omega)
   have t1:decide ((0:Int)≤(i:Int))=true:=Au8 (by omega)
   have t2:decide ((i:Int)<((digits i (v.natAbs / 2)++List.replicate (k+1) (0:Int)).length:Int))=true:=Au8 (by rw [hlen]; omega)
   have t3:decide (i<(digits i (v.natAbs / 2)++List.replicate (k+1) (0:Int)).length)=true:=Au8 (by rw [hlen]; omega)
   have e0:Ab ((i:Int)+1)=((i+1:Nat):Int):=by rw [Al (by omega) (by omega)]; omega
   rw [Ad.Gd.Ax,Av,t0,o1,Au9,t1,t2,t3,Avd]
   simp only [Au7]
   rw [e0,Gj ia,Gj ia,Dg]
   have ih:=ih (i+1) F (by omega) (by omega)
   rw [Hw,Av0,Avv 2,← Av0] at ih
   rw [Jy,Avv 4294967296,← Av0,List.replicate_succ,Ap6 _ _ _ _ i (Dj _ _).symm]
   rw [List.append_assoc] at ih
   generalize v.natAbs / 2^(32*i)=x at *
   have e1:Int.tmod ((x / 4294967296%4294967296:Nat):Int) 2=((x / 4294967296%4294967296%2:Nat):Int):=Hb _ 2
   have e2:A8 (A8 (((x / 4294967296%4294967296%2:Nat):Int)*4294967296)+((x%4294967296:Nat):Int))=((x / 4294967296%4294967296%2*4294967296+x%4294967296:Nat):Int):=by
    rw [Cq (x:=((x / 4294967296%4294967296%2:Nat):Int)*4294967296) (by omega) (by omega),Cq (by omega) (by omega)]; omega
   have e3:Int.tdiv ((x / 4294967296%4294967296%2*4294967296+x%4294967296:Nat):Int) 2=(((x / 4294967296%4294967296%2*4294967296+x%4294967296) / 2:Nat):Int):=H7 _ 2
   have e4:(x / 4294967296%4294967296%2*4294967296+x%4294967296) / 2=x / 2%4294967296:=by omega
   rw [e1,e2,e3,e4,Cq (by omega) (by omega),H4 (by omega) (by omega)]
   exact ih
theorem Ad.Gd.known:Ad.Gd.Kn:=Ad.Gd.Ae (.cons Ad.Made.known (.cons Ad.G4.known .nil)) fun n a hp=>by
 obtain ⟨v,rfl,rfl,hv⟩:=J5 hp
 refine ⟨Di v.natAbs+1,Ad.Gd.out [.b (Ar v),.l (Ac v)],[],?_,Yi⟩
 show _=some (DV.agg [.bool (Ar (H2 (wv (Ar v) (Ac v)) 1)),.ints .arg .u32 (Ac (H2 (wv (Ar v) (Ac v)) 1))])
 rw [Ad.Gd.ev,Fl,B9,Au8 (by omega),Au8 (by omega),Au8 (by unfold Ga; omega),Avd,Avd,Au7,Au9]
 have h:=Ahb (Di v.natAbs+1) hv (Di v.natAbs) 0 (Di v.natAbs+1) (by omega) (by omega)
 rw [digits,List.nil_append] at h
 exact h
def Acf (v:Int):Option DV:=some (.agg [.bool (Ar v),.ints .arg .u32 (Ac v)])
theorem Rl (v:Int):A6 (0:Int) ((Ac v).length:Int)=decide (v≠0):=by
 rw [Av,B9,decide_eq_decide]
 constructor
 ·intro h e
  rw [e] at h
  exact absurd h (by decide)
 ·intro h
  have:=Jj (n:=v.natAbs) (by omega)
  omega
theorem Ap2 (N:Nat):∀ (j F:Nat) (v:Int),j<F→j<2000000→Di v.natAbs<268435456→Ad.Bs.L3 N F (-(j:Int)) (Ar v) (Ac v)=Acf (H2 v j):=by
 intro j
 induction j with
 | zero =>
   intro F v hF _ hv
   obtain ⟨F,rfl⟩:∃ G,F=G+1:=⟨F-1,by omega⟩
   rw [Ad.Bs.Pf,Av,Avc (by omega),Bool.false_and,Avb,Aam]
   rfl
 | succ j ih =>
   intro F v hF hj hv
   obtain ⟨F,rfl⟩:∃ G,F=G+1:=⟨F-1,by omega⟩
   rw [Ad.Bs.Pf,Av,Au8 (by omega),Awk,Rl]
   by_cases h0:v=0
   ·rw [Avc (by omega),Avb,h0,Mp]
    rfl
   ·rw [Au8 h0,Au7,Js hv,Au7,Fl,Al (by omega) (by omega)]
    have e:-((j+1:Nat):Int)+1=-(j:Int):=by omega
    have hl:Di (H2 v 1).natAbs<268435456:=by
     rw [J3]
     exact Av9 (L9 (Nat.div_le_self _ _)) hv
    rw [e,ih F (H2 v 1) (by omega) (by omega) hl,Yt,Nat.add_comm]
theorem Aed (v:Int):wv (Ar v) ((Ac v).drop 1)=H2 v 32:=by
 unfold wv H2
 rw [Afv (Fk v),Dg,two32]
theorem Ap3 (N:Nat):∀ (F j:Nat) (v:Int),j<F→j<N→j<2000000→Di v.natAbs<268435456→Ad.Bs.L2 N F (-(j:Int)) (Ar v) (Ac v)=Acf (H2 v j):=by
 intro F
 induction F with
 | zero=>intro j v h; omega
 | succ F ih =>
   intro j v hF hN hj hv
   rw [Ad.Bs.E1,D9,Rl]
   by_cases hc:32≤j∧v≠0
   ·have o3:Fa ((Ac v).drop 1)=true:=Ib (by rw [List.length_drop,B9]; omega) (Abh (Fk v))
    have t1:decide ((1:Int)≤((Ac v).length:Int))=true:=Au8 (by
     rw [B9]
     have:=Jj (n:=v.natAbs) (by omega)
     omega)
    have hl:Di (H2 v 32).natAbs<268435456:=by
     rw [J3]
     exact Av9 (L9 (Nat.div_le_self _ _)) hv
    rw [Au8 (by omega),Au8 hc.2,Avd,Au7,t1,Au7,o3,Au7,Aed,Al (by omega) (by omega)]
    have e:-(j:Int)+32=-((j-32:Nat):Int):=by omega
    rw [e,ih (j-32) (H2 v 32) (by omega) (by omega) (by omega) hl,Yt]
    congr 2
    omega
   ·have:(decide (-(j:Int)≤-32)&&decide (v≠0))=false:=by
     rw [Bool.and_eq_false_iff,Avq,Avq]
     omega
    rw [this,Avb]
    exact Ap2 N j N v hN hj hv
theorem Tb (N F:Nat) {k:Int} (hk:0≤k) (hN:0<N) (v:Int):Ad.Bs.L2 N (F+1) k (Ar v) (Ac v)=Acf v:=by
 obtain ⟨M,rfl⟩:∃ M,N=M+1:=⟨N-1,by omega⟩
 rw [Ad.Bs.E1,D9,Avc (by omega),Bool.false_and,Avb,Ad.Bs.Pf,Av,Avc (by omega),Bool.false_and,Avb]
 rfl
theorem Ap4 (N:Nat) (hN:0<N):∀ (j F:Nat) (v:Int),j<F→j<2000000→Di v.natAbs+j<268435456→Ad.Bs.L1 N F (j:Int) (Ar v) (Ac v)=Acf (v*((2^j:Nat):Int)):=by
 obtain ⟨M,rfl⟩:∃ M,N=M+1:=⟨N-1,by omega⟩
 intro j
 induction j with
 | zero =>
   intro F v hF _ hv
   obtain ⟨F,rfl⟩:∃ G,F=G+1:=⟨F-1,by omega⟩
   rw [Ad.Bs.Cc,Av,Avc (by omega),Bool.false_and,Avb,Tb _ _ (by omega) (by omega),Av5]
   congr 1
   omega
 | succ j ih =>
   intro F v hF hj hv
   obtain ⟨F,rfl⟩:∃ G,F=G+1:=⟨F-1,by omega⟩
   rw [Ad.Bs.Cc,Av,Au8 (by omega),Awk,Rl]
   by_cases h0:v=0
   ·rw [Avc (by omega),Avb,h0,Int.zero_mul,Tb _ _ (by omega) (by omega)]
   ·have hl:=Ake v.natAbs
    have e2:(2*v).natAbs=2*v.natAbs:=by omega
    have e:((j+1:Nat):Int)-1=(j:Int):=by omega
    rw [Au8 h0,Au7,Js (by omega),Au7,Fl,Al (by omega) (by omega),e,ih F (2*v) (by omega) (by omega) (by rw [e2]; omega)]
    congr 1
    rw [Nat.pow_succ,Avs,Int.mul_comm 2 v,Int.mul_assoc,Int.mul_comm ((2^j:Nat):Int)]
    rfl
theorem Aq7 (v:Int):wv (Ar v) ([(0:Int)]++Ac v)=v*((2^32:Nat):Int):=by
 have e:Bv ([(0:Int)]++Ac v)=4294967296*v.natAbs:=by
  show Bv (0::Ac v)=_
  rw [Bv,Dg]
  exact Awh _
 unfold wv
 rw [e,two32]
 by_cases h:v<0
 ·rw [Lb h]; omega
 ·rw [La h]; omega
theorem Ap5 (N:Nat):∀ (F j:Nat) (v:Int),j<F→j<N→j<2000000→Di v.natAbs+j<268435456→Ad.Bs.L0 N F (j:Int) (Ar v) (Ac v)=Acf (v*((2^j:Nat):Int)):=by
 intro F
 induction F with
 | zero=>intro j v h; omega
 | succ F ih =>
   intro j v hF hN hj hv
   rw [Ad.Bs.Ax,D9,Rl]
   by_cases hc:32≤j∧v≠0
   ·have o3:Fa ([(0:Int)]++Ac v)=true:=Ib (by rw [Avz,B9]; show 1+_<_; omega) (Abg (Fk v))
    have t1:decide (1+(Ac v).length≤Ga)=true:=Au8 (by rw [B9]; unfold Ga; omega)
    have e2:(v*((2^32:Nat):Int)).natAbs=v.natAbs*4294967296:=by rw [Int.natAbs_mul,Int.natAbs_natCast,two32]
    have hl:=Anr v.natAbs
    rw [Au8 (by omega),Au8 hc.2,Avd,Au7,t1,Au7,o3,Au7,Aq7,Al (by omega) (by omega)]
    have e:(j:Int)-32=((j-32:Nat):Int):=by omega
    rw [e,ih (j-32) _ (by omega) (by omega) (by omega) (by rw [e2]; omega)]
    have e3:2^j=2^32*2^(j-32):=by rw [← Avw]; congr 1; omega
    rw [e3,Avs,Int.mul_assoc]
   ·have:(decide ((32:Int)≤(j:Int))&&decide (v≠0))=false:=by
     rw [Bool.and_eq_false_iff,Avq,Avq]
     omega
    rw [this,Avb]
    exact Ap4 N (by omega) j N v hN hj hv
theorem Acp (N j:Nat) (v:Int) (hj:0<j) (hN:j<N) (hj2:j<2000000) (hv:Di v.natAbs<268435456):Ad.Bs.L0 N N (-(j:Int)) (Ar v) (Ac v)=Acf (H2 v j):=by
 obtain ⟨M,rfl⟩:∃ M,N=M+1:=⟨N-1,by omega⟩
 rw [Ad.Bs.Ax,D9,Avc (by omega),Bool.false_and,Avb,Ad.Bs.Cc,Av,Avc (by omega),Bool.false_and,Avb]
 exact Ap3 _ _ j v hN hN hj2 hv
theorem Ad.Bs.known:Ad.Bs.Kn:=Ad.Bs.Ae (.cons Ad.Eh.known (.cons Ad.Gd.known (.cons Ad.Made.known .nil))) fun n a k hp=>by
 obtain ⟨h1,h2⟩:=Ag.1 hp
 obtain ⟨v,rfl,rfl,hv⟩:=Rb h1
 have h2:=Ao.1 h2
 refine ⟨k.natAbs+1,Ad.Bs.out [.b (Ar v),.l (Ac v),.i k],[],?_,Yi⟩
 show _=some (DV.agg [.bool (Ar (Gs (wv (Ar v) (Ac v)) k)),.ints .arg .u32 (Ac (Gs (wv (Ar v) (Ac v)) k))])
 rw [Ad.Bs.ev,Fl]
 unfold Gs
 by_cases h:0≤k
 ·obtain ⟨j,rfl⟩:∃ j:Nat,k=j:=⟨k.toNat,by omega⟩
  rw [Avu h,Au9,Int.natAbs_natCast]
  exact Ap5 _ _ j v (by omega) (by omega) (by omega) (by omega)
 ·obtain ⟨j,rfl⟩:∃ j:Nat,k=-(j:Int):=⟨(-k).toNat,by omega⟩
  have e:(-(-(j:Int))).toNat=j:=by omega
  rw [Avt h,e,Int.natAbs_neg,Int.natAbs_natCast]
  exact Acp _ j v (by omega) (by omega) (by omega) (by omega)
open Go Go.Den Go.C4 Go.Proofs
open EqRefB
theorem Ad.S5.known:Ad.S5.Kn:=Ad.S5.Ae .nil fun n a hp=>by
 obtain ⟨v,rfl,rfl,hv⟩:=J5 hp
 refine ⟨0,Ad.S5.out [.b (Ar v),.l (Ac v)],[],?_,.bool⟩
 show _=some (DV.bool (Agm (wv (Ar v) (Ac v))))
 rw [Ad.S5.ev,Fl,Rl]
 have hg:=M3 (Fk v) 0
 rw [Dg,Nat.mul_zero,Av5,Nat.div_one] at hg
 have e2:Int.tmod ((v.natAbs%4294967296:Nat):Int) 2=((v.natAbs%4294967296%2:Nat):Int):=Hb _ 2
 unfold Agm
 by_cases h0:v=0
 ·rw [h0]; rfl
 ·have hl:=Jj (n:=v.natAbs) (by omega)
  rw [hg,e2,Au8 h0,B9,Au8 (by omega),Awj,Au7,Au7]
  congr 2
  rw [Avn]
  simp only [beq_iff_eq,Ave]
  omega
open Go Go.Den Go.C4 Go.Proofs
set_option maxRecDepth 100000
namespace EqRefC
def Aq.Of.hint:Nat→Option A9
 | 0=>some { keep:=[1,2,4],objs:=[],boxes:=[2,4] }
 | 2=>some { keep:=[1,2,4],objs:=[],boxes:=[2,4] }
 | _=>none
def Aq.Of.Bf:List (Nat × Entry):=[(173,Ad.Gd.spec),(171,Ad.Made.spec),(172,Ad.S5.spec)]
def Aq.Of.E:Env:=Bg (Be Aq.Of.Bf) (fun _=>false) Aq.Of.hint (fun _=>none)
section
variable (N:Nat) (n:Bool) (a:List Int) (e:Int) (M:Nat) (p1_1:Int) (p2_2:Bool) (p2_3:List Int) (p1:Int) (p2:Bool) (p2_1:List Int)
def Aq.Of.L0:Option DV:=Bx Aq.Of.E N f109 (An f109) [1,1,0,0] [] M ⟨Gm 33 [(1,.int .i64 p1),(2,.ptr 2 0 0),(4,.ptr 4 0 0)],[(2,false,.box [.bool p2,.ints .arg .u32 p2_1]),(4,false,.box [.bool false,.nil,.int .i64 0])]⟩
def Aq.Of.L1:Option DV:=Bx Aq.Of.E N f109 (An f109) [1,1,1,0,0] [] M ⟨Gm 33 [(1,.int .i64 p1_1),(2,.ptr 2 0 0),(4,.ptr 4 0 0)],[(2,false,.box [.bool p2_2,.ints .arg .u32 p2_3]),(4,false,.box [.bool false,.nil,.int .i64 0])]⟩
theorem Aq.Of.Ax:Aq.Of.L0 N (M+1) p1 p2 p2_1=bif (decide ((0:Int)<(length p2_1:Int))) then bif ((getD p2_1 0 0)==(0:Int)) then bif (decide ((1:Int)≤(length p2_1:Int))) then bif (Fa (List.drop 1 p2_1)) then Aq.Of.L0 N M (Ab (p1+32)) (Ar (wv p2 (List.drop 1 p2_1))) (Ac (wv p2 (List.drop 1 p2_1))) else none else none else Aq.Of.L1 N N p1 p2 p2_1 else none :=
 Eq.trans (by kernel_rfl)
 (Fq (Fq (Cy (Arx (decide ((1:Int)≤(length p2_1:Int)))) (Cy (Cr (Fa (List.drop 1 p2_1))) rfl rfl) rfl) rfl) rfl)
theorem Aq.Of.Cc:Aq.Of.L1 N (M+1) p1_1 p2_2 p2_3=bif (Ml p2_2 p2_3) then bif (!(Agm (wv p2_2 p2_3))) then bif (Ml p2_2 p2_3) then Aq.Of.L1 N M (Ab (p1_1+1)) (Ar (H2 (wv p2_2 p2_3) 1)) (Ac (H2 (wv p2_2 p2_3) 1)) else none else some (.agg [.bool p2_2,.ints .arg .u32 p2_3,.int .i64 p1_1]) else none:=by kernel_rfl
theorem Aq.Of.ev:By Aq.Of.E N f109 (An f109) [.agg [.bool n,.ints .arg .u32 a],.int .i64 e]=bif ((length a:Int)==(0:Int)) then some (.agg [.bool false,.nil,.int .i64 0]) else Aq.Of.L0 N N e n a:=by kernel_rfl
end
abbrev _root_.Go.Proofs.S1.Aq.Of.Kn:=A7 prog 109 Aq.Of.spec
theorem Aq.Of.Ae (hk:A1 prog Aq.Of.Bf) (h:Hyp Aq.Of.E f109 Aq.Of.ts Aq.Of.pre Aq.Of.out):Aq.Of.Kn :=
 Am (A3 hk _ _ _) func109 (by kernel_rfl) (by kernel_rfl) h
def Aq.Neg.Bf:List (Nat × Entry):=[(143,Ad.Neg.spec)]
def Aq.Neg.E:Env:=Bg (Be Aq.Neg.Bf) (fun _=>false) (fun _=>none) (fun _=>none)
theorem Aq.Neg.ev (N:Nat) (n:Bool) (a:List Int) (e:Int):By Aq.Neg.E N f170 (An f170) [.agg [.bool n,.ints .arg .u32 a,.int .i64 e]]=bif (Ml n a) then some (.agg [.bool (Ar (- wv n a)),.ints .arg .u32 (Ac (- wv n a)),.int .i64 e]) else none :=
 Eq.trans (by kernel_rfl)
 (Cy (Cr (Ml n a)) rfl rfl)
abbrev _root_.Go.Proofs.S1.Aq.Neg.Kn:=A7 prog 170 Aq.Neg.spec
theorem Aq.Neg.Ae (hk:A1 prog Aq.Neg.Bf) (h:Hyp Aq.Neg.E f170 Aq.Neg.ts Aq.Neg.pre Aq.Neg.out):Aq.Neg.Kn :=
 Am (A3 hk _ _ _) func170 (by kernel_rfl) (by kernel_rfl) h
def Aq.S6.Bf:List (Nat × Entry):=[]
def Aq.S6.E:Env:=Bg (Be Aq.S6.Bf) (fun _=>false) (fun _=>none) (fun _=>none)
theorem Aq.S6.ev (N:Nat) (n:Bool) (a:List Int) (e:Int) (m:Bool) (b:List Int) (f:Int):By Aq.S6.E N f111 (An f111) [.agg [.bool n,.ints .arg .u32 a,.int .i64 e],.agg [.bool m,.ints .arg .u32 b,.int .i64 f]]=bif ((length a:Int)==(0:Int)) then some (.int .i64 f) else bif ((length b:Int)==(0:Int)) then some (.int .i64 e) else some (.int .i64 (min e f)):=by kernel_rfl
abbrev _root_.Go.Proofs.S1.Aq.S6.Kn:=A7 prog 111 Aq.S6.spec
theorem Aq.S6.Ae (hk:A1 prog Aq.S6.Bf) (h:Hyp Aq.S6.E f111 Aq.S6.ts Aq.S6.pre Aq.S6.out):Aq.S6.Kn :=
 Am (A3 hk _ _ _) func111 (by kernel_rfl) (by kernel_rfl) h
def Aq.Level.Bf:List (Nat × Entry):=[(178,Ad.Bs.spec)]
def Aq.Level.E:Env:=Bg (Be Aq.Level.Bf) (fun _=>false) (fun _=>none) (fun _=>none)
theorem Aq.Level.ev (N:Nat) (n:Bool) (a:List Int) (e f:Int):By Aq.Level.E N f113 (An f113) [.agg [.bool n,.ints .arg .u32 a,.int .i64 e],.int .i64 f]=bif ((length a:Int)==(0:Int)) then some (.agg [.bool n,.ints .arg .u32 a]) else bif (Je n a&&Aqd (Ab (e-f))) then some (.agg [.bool (Ar (Gs (wv n a) (Ab (e-f)))),.ints .arg .u32 (Ac (Gs (wv n a) (Ab (e-f))))]) else none:=by kernel_rfl
abbrev _root_.Go.Proofs.S1.Aq.Level.Kn:=A7 prog 113 Aq.Level.spec
theorem Aq.Level.Ae (hk:A1 prog Aq.Level.Bf) (h:Hyp Aq.Level.E f113 Aq.Level.ts Aq.Level.pre Aq.Level.out):Aq.Level.Kn :=
 Am (A3 hk _ _ _) func113 (by kernel_rfl) (by kernel_rfl) h
def Aq.Add.Bf:List (Nat × Entry):=[(112,Ad.Add.spec),(113,Aq.Level.spec),(111,Aq.S6.spec),(109,Aq.Of.spec)]
def Aq.Add.E:Env:=Bg (Be Aq.Add.Bf) (fun _=>false) (fun _=>none) (fun _=>none)
theorem Aq.Add.ev (N:Nat) (n:Bool) (a:List Int) (e:Int) (m:Bool) (b:List Int) (f:Int):By Aq.Add.E N f42 (An f42) [.agg [.bool n,.ints .arg .u32 a,.int .i64 e],.agg [.bool m,.ints .arg .u32 b,.int .i64 f]]=bif (Ml n a&&Ml m b) then bif (Je n a&&Aax (wv n a) e (Cz (wv n a) e (wv m b) f)) then bif (Je m b&&Aax (wv m b) f (Cz (wv n a) e (wv m b) f)) then bif (Ml (Ar (Gs (wv n a) (e-(Cz (wv n a) e (wv m b) f)))) (Ac (Gs (wv n a) (e-(Cz (wv n a) e (wv m b) f))))&&Ml (Ar (Gs (wv m b) (f-(Cz (wv n a) e (wv m b) f)))) (Ac (Gs (wv m b) (f-(Cz (wv n a) e (wv m b) f))))) then bif (Ml (Ar (wv (Ar (Gs (wv n a) (e-(Cz (wv n a) e (wv m b) f)))) (Ac (Gs (wv n a) (e-(Cz (wv n a) e (wv m b) f))))+wv (Ar (Gs (wv m b) (f-(Cz (wv n a) e (wv m b) f)))) (Ac (Gs (wv m b) (f-(Cz (wv n a) e (wv m b) f)))))) (Ac (wv (Ar (Gs (wv n a) (e-(Cz (wv n a) e (wv m b) f)))) (Ac (Gs (wv n a) (e-(Cz (wv n a) e (wv m b) f))))+wv (Ar (Gs (wv m b) (f-(Cz (wv n a) e (wv m b) f)))) (Ac (Gs (wv m b) (f-(Cz (wv n a) e (wv m b) f))))))&&Sk (Cz (wv n a) e (wv m b) f)) then some (.agg [.bool (Ar (mD (wv (Ar (wv (Ar (Gs (wv n a) (e-(Cz (wv n a) e (wv m b) f)))) (Ac (Gs (wv n a) (e-(Cz (wv n a) e (wv m b) f))))+wv (Ar (Gs (wv m b) (f-(Cz (wv n a) e (wv m b) f)))) (Ac (Gs (wv m b) (f-(Cz (wv n a) e (wv m b) f)))))) (Ac (wv (Ar (Gs (wv n a) (e-(Cz (wv n a) e (wv m b) f)))) (Ac (Gs (wv n a) (e-(Cz (wv n a) e (wv m b) f))))+wv (Ar (Gs (wv m b) (f-(Cz (wv n a) e (wv m b) f)))) (Ac (Gs (wv m b) (f-(Cz (wv n a) e (wv m b) f))))))))),.ints .arg .u32 (Ac (mD (wv (Ar (wv (Ar (Gs (wv n a) (e-(Cz (wv n a) e (wv m b) f)))) (Ac (Gs (wv n a) (e-(Cz (wv n a) e (wv m b) f))))+wv (Ar (Gs (wv m b) (f-(Cz (wv n a) e (wv m b) f)))) (Ac (Gs (wv m b) (f-(Cz (wv n a) e (wv m b) f)))))) (Ac (wv (Ar (Gs (wv n a) (e-(Cz (wv n a) e (wv m b) f)))) (Ac (Gs (wv n a) (e-(Cz (wv n a) e (wv m b) f))))+wv (Ar (Gs (wv m b) (f-(Cz (wv n a) e (wv m b) f)))) (Ac (Gs (wv m b) (f-(Cz (wv n a) e (wv m b) f))))))))),.int .i64 (eD (wv (Ar (wv (Ar (Gs (wv n a) (e-(Cz (wv n a) e (wv m b) f)))) (Ac (Gs (wv n a) (e-(Cz (wv n a) e (wv m b) f))))+wv (Ar (Gs (wv m b) (f-(Cz (wv n a) e (wv m b) f)))) (Ac (Gs (wv m b) (f-(Cz (wv n a) e (wv m b) f)))))) (Ac (wv (Ar (Gs (wv n a) (e-(Cz (wv n a) e (wv m b) f)))) (Ac (Gs (wv n a) (e-(Cz (wv n a) e (wv m b) f))))+wv (Ar (Gs (wv m b) (f-(Cz (wv n a) e (wv m b) f)))) (Ac (Gs (wv m b) (f-(Cz (wv n a) e (wv m b) f))))))) (Cz (wv n a) e (wv m b) f))]) else none else none else none else none else none :=
 Eq.trans (by kernel_rfl)
 (Fq (Cy (Cr (Je n a&&Aax (wv n a) e (Cz (wv n a) e (wv m b) f))) (Cy (Cr (Je m b&&Aax (wv m b) f (Cz (wv n a) e (wv m b) f))) (Cy (Cr (Ml (Ar (Gs (wv n a) (e-(Cz (wv n a) e (wv m b) f)))) (Ac (Gs (wv n a) (e-(Cz (wv n a) e (wv m b) f))))&&Ml (Ar (Gs (wv m b) (f-(Cz (wv n a) e (wv m b) f)))) (Ac (Gs (wv m b) (f-(Cz (wv n a) e (wv m b) f)))))) (Cy (Cr (Ml (Ar (wv (Ar (Gs (wv n a) (e-(Cz (wv n a) e (wv m b) f)))) (Ac (Gs (wv n a) (e-(Cz (wv n a) e (wv m b) f))))+wv (Ar (Gs (wv m b) (f-(Cz (wv n a) e (wv m b) f)))) (Ac (Gs (wv m b) (f-(Cz (wv n a) e (wv m b) f)))))) (Ac (wv (Ar (Gs (wv n a) (e-(Cz (wv n a) e (wv m b) f)))) (Ac (Gs (wv n a) (e-(Cz (wv n a) e (wv m b) f))))+wv (Ar (Gs (wv m b) (f-(Cz (wv n a) e (wv m b) f)))) (Ac (Gs (wv m b) (f-(Cz (wv n a) e (wv m b) f))))))&&Sk (Cz (wv n a) e (wv m b) f))) rfl rfl) rfl) rfl) rfl) rfl)
abbrev _root_.Go.Proofs.S1.Aq.Add.Kn:=A7 prog 42 Aq.Add.spec
theorem Aq.Add.Ae (hk:A1 prog Aq.Add.Bf) (h:Hyp Aq.Add.E f42 Aq.Add.ts Aq.Add.pre Aq.Add.out):Aq.Add.Kn :=
 Am (A3 hk _ _ _) func42 (by kernel_rfl) (by kernel_rfl) h
def Aq.Sub.Bf:List (Nat × Entry):=[(42,Aq.Add.spec),(170,Aq.Neg.spec)]
def Aq.Sub.E:Env:=Bg (Be Aq.Sub.Bf) (fun _=>false) (fun _=>none) (fun _=>none)
theorem Aq.Sub.ev (N:Nat) (n:Bool) (a:List Int) (e:Int) (m:Bool) (b:List Int) (f:Int):By Aq.Sub.E N f105 (An f105) [.agg [.bool n,.ints .arg .u32 a,.int .i64 e],.agg [.bool m,.ints .arg .u32 b,.int .i64 f]]=bif (Ml m b) then bif (((Je n a&&Je (Ar (- wv m b)) (Ac (- wv m b)))&&H3 e)&&H3 f) then some (.agg [.bool (Ar (Hm (wv n a) e (wv (Ar (- wv m b)) (Ac (- wv m b))) f)),.ints .arg .u32 (Ac (Hm (wv n a) e (wv (Ar (- wv m b)) (Ac (- wv m b))) f)),.int .i64 (K6 (wv n a) e (wv (Ar (- wv m b)) (Ac (- wv m b))) f)]) else none else none :=
 Eq.trans (by kernel_rfl)
 (Cy (Cr (Ml m b)) (Cy (Cr (((Je n a&&Je (Ar (- wv m b)) (Ac (- wv m b)))&&H3 e)&&H3 f)) rfl rfl) rfl)
abbrev _root_.Go.Proofs.S1.Aq.Sub.Kn:=A7 prog 105 Aq.Sub.spec
theorem Aq.Sub.Ae (hk:A1 prog Aq.Sub.Bf) (h:Hyp Aq.Sub.E f105 Aq.Sub.ts Aq.Sub.pre Aq.Sub.out):Aq.Sub.Kn :=
 Am (A3 hk _ _ _) func105 (by kernel_rfl) (by kernel_rfl) h
abbrev _root_.Go.Proofs.S1.Aq.Sub.zero.Kn:Prop:=A7 prog 105 Aq.Sub.zero.spec
abbrev _root_.Go.Proofs.S1.Aq.Add.zero.Kn:Prop:=A7 prog 42 Aq.Add.zero.spec
end EqRefC
open Go Go.Den Go.C4 Go.Proofs
open EqRefC
def Ahk (v e:Int):Option DV:=some (.agg [.bool (Ar v),.ints .arg .u32 (Ac v),.int .i64 e])
theorem wdy {drops:List Nat} {b:Bool} {l:List Int} {e:Int}:Wk drops (.agg [.bool b,.ints .arg .u32 l,.int .i64 e]) (.agg [.bool b,.ints .arg .u32 l,.int .i64 e]):=Wk.G0 (.cons .bool (.cons .Ww (.cons .int .nil)))
theorem Akr (v:Int):(Ac v).getD 0 0=((v.natAbs%4294967296:Nat):Int):=by
 have hg:=M3 (Fk v) 0
 rw [Dg,Nat.mul_zero,Av5,Nat.div_one] at hg
 exact hg
theorem Aeo {v:Int} {k:Nat} (h:Di v.natAbs<268435456):Di (H2 v k).natAbs<268435456:=by
 rw [J3]
 exact Av9 (L9 (Nat.div_le_self _ _)) h
theorem Aiy {v:Int} {k:Nat} (h0:v≠0) (h:v.natAbs%2^k=0):H2 v k≠0∧Mk (H2 v k).natAbs+k=Mk v.natAbs:=by
 have hv:=Nat.div_add_mod v.natAbs (2^k)
 rw [h,Awf,Avv] at hv
 have hq:v.natAbs / 2^k≠0:=by
  intro e; rw [e] at hv; omega
 have ht:=Yk hq k
 rw [hv] at ht
 have ha:=J3 v k
 refine ⟨by omega,?_⟩
 rw [ha]
 omega
theorem Ajl (N:Nat):∀ (F:Nat) (v e:Int),v≠0→Mk v.natAbs<F→Di v.natAbs<268435456→-4000000000000≤e→e+Mk v.natAbs≤400000000000000 →
 Aq.Of.L1 N F e (Ar v) (Ac v)=Ahk (mD v) (eD v e):=by
 intro F
 induction F with
 | zero=>intro v e _ h; omega
 | succ F ih =>
   intro v e h0 hF hv h1 h2
   rw [Aq.Of.Cc,Js hv,Au7,Fl]
   by_cases ho:v%2=1
   ·have:Agm v=true:=Au8 ho
    rw [this,Av6,Avb,Aqj ho,Aqs ho]
    rfl
   ·have:Agm v=false:=Avc ho
    have hm:v.natAbs%2^1=0:=by rw [Nat.pow_one]; omega
    obtain ⟨n1,n2⟩:=Aiy h0 hm
    rw [this,Awq,Au7,Au7,Al (by omega) (by omega),ih (H2 v 1) (e+1) n1 (by omega) (Aeo hv) (by omega) (by omega),Adf hm]
    have:=Adt (e:=e) hm h0
    rw [← this]
    rfl
theorem Ajm (N:Nat):∀ (F:Nat) (v e:Int),v≠0→Mk v.natAbs<F→Mk v.natAbs<N→Di v.natAbs<268435456→-4000000000000≤e→e+Mk v.natAbs≤400000000000000 →
 Aq.Of.L0 N F e (Ar v) (Ac v)=Ahk (mD v) (eD v e):=by
 intro F
 induction F with
 | zero=>intro v e _ h; omega
 | succ F ih =>
   intro v e h0 hF hN hv h1 h2
   have hl:=Jj (n:=v.natAbs) (by omega)
   rw [Aq.Of.Ax,B9,Au8 (by omega),Au7,Akr]
   by_cases hz:v.natAbs%4294967296=0
   ·have e0:(((v.natAbs%4294967296:Nat):Int)==0)=true:=by rw [hz]; rfl
    have o3:Fa ((Ac v).drop 1)=true:=Ib (by rw [List.length_drop,B9]; omega) (Abh (Fk v))
    have hm:v.natAbs%2^32=0:=by rw [two32]; exact hz
    obtain ⟨n1,n2⟩:=Aiy h0 hm
    rw [e0,Au7,Au8 (by omega),Au7,o3,Au7,Aed,Al (by omega) (by omega),ih (H2 v 32) (e+32) n1 (by omega) (by omega) (Aeo hv) (by omega) (by omega),Adf hm]
    have:=Adt (e:=e) hm h0
    rw [← this]
    rfl
   ·have e0:(((v.natAbs%4294967296:Nat):Int)==0)=false:=by simp only [Av2,ne_eq]; omega
    rw [e0,Avb]
    exact Ajl N N v e h0 hN hv h1 h2
theorem Aii {v:Int} (h0:v≠0) (h:Di v.natAbs<268435456):Mk v.natAbs<8589934592:=by
 have h1:=Aox (n:=v.natAbs) (by omega)
 have h2:=Ag4 (n:=v.natAbs)
 omega
theorem Aq.Of.known:Aq.Of.Kn:=Aq.Of.Ae (.cons Ad.Gd.known (.cons Ad.Made.known (.cons Ad.S5.known .nil))) fun n a e hp=>by
 obtain ⟨h1,h2⟩:=Ag.1 hp
 obtain ⟨v,rfl,rfl,hv⟩:=J5 h1
 have h2:=Ao.1 h2
 by_cases h0:v=0
 ·subst h0
  refine ⟨0,.agg [.bool false,.nil,.int .i64 (0:Int)],[],?_,?_⟩
  ·rw [Aq.Of.ev]; rfl
  ·show Wk [] _ (.agg [.bool (Ar (mD (wv (Ar 0) (Ac 0)))),.ints .arg .u32 (Ac (mD (wv (Ar 0) (Ac 0)))),.int .i64 (eD (wv (Ar 0) (Ac 0)) e)])
   rw [Fl,Mw.2 rfl]
   exact Wk.G0 (.cons .bool (.cons (.nil _ _) (.cons .int .nil)))
 ·refine ⟨Mk v.natAbs+1,Aq.Of.out [.b (Ar v),.l (Ac v),.i e],[],?_,wdy⟩
  have ht:=Aii h0 hv
  have hl:=Jj (n:=v.natAbs) (by omega)
  have e0:(((Ac v).length:Int)==0)=false:=by rw [B9]; simp only [Av2,ne_eq]; omega
  show _=Ahk (mD (wv (Ar v) (Ac v))) (eD (wv (Ar v) (Ac v)) e)
  rw [Aq.Of.ev,e0,Avb,Fl]
  exact Ajm _ _ v e h0 (by omega) (by omega) hv (by omega) (by omega)
theorem Aq.Neg.known:Aq.Neg.Kn:=Aq.Neg.Ae (.cons Ad.Neg.known .nil) fun n a e hp=>by
 refine ⟨0,Aq.Neg.out [.b n,.l a,.i e],[],?_,wdy⟩
 have hp:Ml n a=true:=hp
 rw [Aq.Neg.ev,hp,Au7]
 rfl
theorem Vo (v:Int):(((Ac v).length:Int)==0)=decide (v=0):=by
 rw [B9,Avn]
 simp only [beq_iff_eq,Ave]
 constructor
 ·intro h
  rcases Int.lt_trichotomy v 0 with k | k | k
  ·have:=Jj (n:=v.natAbs) (by omega); omega
  ·exact k
  ·have:=Jj (n:=v.natAbs) (by omega); omega
 ·intro h; rw [h]; rfl
theorem Aq.S6.known:Aq.S6.Kn:=Aq.S6.Ae .nil fun n a e m b f hp=>by
 obtain ⟨h1,h2⟩:=Ag.1 hp
 obtain ⟨v,rfl,rfl,hv⟩:=J5 h1
 obtain ⟨w,rfl,rfl,hw⟩:=J5 h2
 refine ⟨0,Aq.S6.out [.b (Ar v),.l (Ac v),.i e,.b (Ar w),.l (Ac w),.i f],[],?_,.int⟩
 show _=some (DV.int .i64 (Cz (wv (Ar v) (Ac v)) e (wv (Ar w) (Ac w)) f))
 rw [Aq.S6.ev,Fl,Fl,Vo,Vo]
 unfold Cz
 by_cases h:v=0
 ·rw [Au8 h,Au7,Avu h]
 ·rw [Avc h,Avb,Avt h]
  by_cases h':w=0
  ·rw [Au8 h',Au7,Avu h']
  ·rw [Avc h',Avb,Avt h']
theorem Aix (k:Int):Gs 0 k=0:=by
 unfold Gs
 split
 ·exact Int.zero_mul _
 ·exact Mp _
theorem Aq.Level.known:Aq.Level.Kn:=Aq.Level.Ae (.cons Ad.Bs.known .nil) fun n a e f hp=>by
 obtain ⟨h1,h2⟩:=Ag.1 hp
 obtain ⟨v,rfl,rfl,hv⟩:=Rb h1
 refine ⟨0,Aq.Level.out [.b (Ar v),.l (Ac v),.i e,.i f],[],?_,Yi⟩
 show _=Acf (Gs (wv (Ar v) (Ac v)) (e-f))
 unfold Aax at h2
 rw [Fl] at h2
 obtain ⟨h3,h4⟩:=Ag.1 h2
 have h3:=Ao.1 h3
 have h4:=Ao.1 h4
 rw [Aq.Level.ev,Fl,Vo]
 by_cases h:v=0
 ·rw [Au8 h,Au7,h,Aix]; rfl
 ·have o:Aqd (Ab (e-f))=true:=by rw [Al (by omega) (by omega)]; exact Ao.2 (by omega)
  rw [Avc h,Avb,h1,o,Avd,Au7,Al (by omega) (by omega)]
  rfl
theorem Akg (n k:Nat):Di (n*2^k)≤Di n+k:=by
 refine Ka ?_
 have h1:=I7 n
 have h2:n*2^k<2^(32*Di n)*2^k:=(Nat.mul_lt_mul_right (B4 k)).2 h1
 rw [← Avw] at h2
 exact Awi h2 (Avm (by decide) (by omega))
theorem Akh (v k:Int):Di (Gs v k).natAbs≤Di v.natAbs+k.toNat:=by
 unfold Gs
 by_cases h:0≤k
 ·rw [Avu h,Int.natAbs_mul,Int.natAbs_natCast]
  exact Akg _ _
 ·rw [Avt h,J3]
  exact Awe (L9 (Nat.div_le_self _ _)) (Nat.le_add_right _ _)
theorem Akf (v w:Int):Di (v+w).natAbs≤max (Di v.natAbs) (Di w.natAbs)+1:=by
 refine Ka ?_
 have h1:=I7 v.natAbs
 have h2:=I7 w.natAbs
 have h3:2^(32*Di v.natAbs)≤2^(32*max (Di v.natAbs) (Di w.natAbs)):=Avm (by decide) (by omega)
 have h4:2^(32*Di w.natAbs)≤2^(32*max (Di v.natAbs) (Di w.natAbs)):=Avm (by decide) (by omega)
 rw [Jy]
 omega
theorem Adh {v e w f:Int} (he:-400000≤e∧e≤400000) (hf:-400000≤f∧f≤400000):-400000≤Cz v e w f∧Cz v e w f≤400000:=by
 unfold Cz
 split
 ·exact hf
 ·split
  ·exact he
  ·omega
theorem Aem {v e l:Int} (hv:Di v.natAbs<134217728) (h:e-l≤800000):Di (Gs v (e-l)).natAbs<140000000:=by
 have:=Akh v (e-l)
 omega
theorem Aq.Add.known:Aq.Add.Kn:=Aq.Add.Ae (.cons Ad.Add.known (.cons Aq.Level.known (.cons Aq.S6.known (.cons Aq.Of.known .nil)))) fun n a e m b f hp=>by
 obtain ⟨h1,hf⟩:=Ag.1 hp
 obtain ⟨h2,he⟩:=Ag.1 h1
 obtain ⟨h3,h4⟩:=Ag.1 h2
 obtain ⟨v,rfl,rfl,hv⟩:=Rb h3
 obtain ⟨w,rfl,rfl,hw⟩:=Rb h4
 have he:=Ao.1 he
 have hf:=Ao.1 hf
 refine ⟨0,Aq.Add.out [.b (Ar v),.l (Ac v),.i e,.b (Ar w),.l (Ac w),.i f],[],?_,wdy⟩
 show _=Ahk (Hm (wv (Ar v) (Ac v)) e (wv (Ar w) (Ac w)) f) (K6 (wv (Ar v) (Ac v)) e (wv (Ar w) (Ac w)) f)
 have hlo:=Adh (v:=v) (w:=w) he hf
 have l1:=Aem (l:=Cz v e w f) hv (show e-Cz v e w f≤800000 by omega)
 have l2:=Aem (l:=Cz v e w f) hw (show f-Cz v e w f≤800000 by omega)
 have l3:=Akf (Gs v (e-Cz v e w f)) (Gs w (f-Cz v e w f))
 have o1:Aax v e (Cz v e w f)=true:=Ag.2 ⟨Ao.2 (by omega),Ao.2 (by omega)⟩
 have o2:Aax w f (Cz v e w f)=true:=Ag.2 ⟨Ao.2 (by omega),Ao.2 (by omega)⟩
 have o3:Sk (Cz v e w f)=true:=Ao.2 (by omega)
 rw [Aq.Add.ev]
 simp only [Fl]
 rw [Js (v:=v) (by omega),Js (v:=w) (by omega),h3,h4,o1,o2,Js (v:=Gs v (e-Cz v e w f)) (by omega),Js (v:=Gs w (f-Cz v e w f)) (by omega),Js (v:=Gs v (e-Cz v e w f)+Gs w (f-Cz v e w f)) (by omega),o3]
 simp only [Avd,Au7]
 rfl
theorem Aq.Sub.known:Aq.Sub.Kn:=Aq.Sub.Ae (.cons Aq.Add.known (.cons Aq.Neg.known .nil)) fun n a e m b f hp=>by
 obtain ⟨h1,hf⟩:=Ag.1 hp
 obtain ⟨h2,he⟩:=Ag.1 h1
 obtain ⟨h3,h4⟩:=Ag.1 h2
 obtain ⟨w,rfl,rfl,hw⟩:=Rb h4
 refine ⟨0,Aq.Sub.out [.b n,.l a,.i e,.b (Ar w),.l (Ac w),.i f],[],?_,wdy⟩
 show _=Ahk (Hm (wv n a) e (- wv (Ar w) (Ac w)) f) (K6 (wv n a) e (- wv (Ar w) (Ac w)) f)
 rw [Aq.Sub.ev]
 simp only [Fl]
 rw [Js (v:=w) (by omega),h3,Mv (v:=-w) (by rw [Int.natAbs_neg]; exact hw),he,hf]
 rfl
open Go Go.Den Go.C4 Go.Proofs
open EqRefC
open Go Go.Den Go.C4 Go.Proofs
set_option maxRecDepth 100000
namespace EqRefE
def A4.Value.Bf:List (Nat × Entry):=[(143,Ad.Neg.spec),(115,Ad.Of.spec),(109,Aq.Of.spec),(141,A4.Ip.spec),(142,A4.Neg.spec),(140,A4.Power.spec)]
def A4.Value.E:Env:=Bg (Be A4.Value.Bf) (fun _=>false) (fun _=>none) (fun _=>none)
theorem A4.Value.ev (N:Nat) (x:Int):By A4.Value.E N f63 (An f63) [.int .u64 x]=bif (Pk x) then bif (Aff (Ab (Cl x))) then bif (Pk x) then bif (A6 0 (Jr x)) then bif (Pk x) then bif (Aff (Ab (A8 ((Cl x)+4503599627370496)))) then bif (Pk x) then bif (Ah x) then bif (Dk x) then bif (Ml (Ar ((Ab (A8 ((Cl x)+4503599627370496))))) (Ac ((Ab (A8 ((Cl x)+4503599627370496)))))) then bif (Ml (Ar (- wv (Ar ((Ab (A8 ((Cl x)+4503599627370496))))) (Ac ((Ab (A8 ((Cl x)+4503599627370496))))))) (Ac (- wv (Ar ((Ab (A8 ((Cl x)+4503599627370496))))) (Ac ((Ab (A8 ((Cl x)+4503599627370496)))))))&&Sk (Ab ((Jr x)-1075))) then some (.agg [.bool (Ar (mD (wv (Ar (- wv (Ar ((Ab (A8 ((Cl x)+4503599627370496))))) (Ac ((Ab (A8 ((Cl x)+4503599627370496))))))) (Ac (- wv (Ar ((Ab (A8 ((Cl x)+4503599627370496))))) (Ac ((Ab (A8 ((Cl x)+4503599627370496)))))))))),.ints .arg .u32 (Ac (mD (wv (Ar (- wv (Ar ((Ab (A8 ((Cl x)+4503599627370496))))) (Ac ((Ab (A8 ((Cl x)+4503599627370496))))))) (Ac (- wv (Ar ((Ab (A8 ((Cl x)+4503599627370496))))) (Ac ((Ab (A8 ((Cl x)+4503599627370496)))))))))),.int .i64 (eD (wv (Ar (- wv (Ar ((Ab (A8 ((Cl x)+4503599627370496))))) (Ac ((Ab (A8 ((Cl x)+4503599627370496))))))) (Ac (- wv (Ar ((Ab (A8 ((Cl x)+4503599627370496))))) (Ac ((Ab (A8 ((Cl x)+4503599627370496)))))))) (Ab ((Jr x)-1075)))]) else none else none else bif (Ml (Ar ((Ab (A8 ((Cl x)+4503599627370496))))) (Ac ((Ab (A8 ((Cl x)+4503599627370496)))))&&Sk (Ab ((Jr x)-1075))) then some (.agg [.bool (Ar (mD (wv (Ar ((Ab (A8 ((Cl x)+4503599627370496))))) (Ac ((Ab (A8 ((Cl x)+4503599627370496)))))))),.ints .arg .u32 (Ac (mD (wv (Ar ((Ab (A8 ((Cl x)+4503599627370496))))) (Ac ((Ab (A8 ((Cl x)+4503599627370496)))))))),.int .i64 (eD (wv (Ar ((Ab (A8 ((Cl x)+4503599627370496))))) (Ac ((Ab (A8 ((Cl x)+4503599627370496)))))) (Ab ((Jr x)-1075)))]) else none else none else none else none else none else bif (Ah x) then bif (Dk x) then bif (Ml (Ar ((Ab (Cl x)))) (Ac ((Ab (Cl x))))) then bif (Ml (Ar (- wv (Ar ((Ab (Cl x)))) (Ac ((Ab (Cl x)))))) (Ac (- wv (Ar ((Ab (Cl x)))) (Ac ((Ab (Cl x))))))&&Sk (-1074:Int)) then some (.agg [.bool (Ar (mD (wv (Ar (- wv (Ar ((Ab (Cl x)))) (Ac ((Ab (Cl x)))))) (Ac (- wv (Ar ((Ab (Cl x)))) (Ac ((Ab (Cl x))))))))),.ints .arg .u32 (Ac (mD (wv (Ar (- wv (Ar ((Ab (Cl x)))) (Ac ((Ab (Cl x)))))) (Ac (- wv (Ar ((Ab (Cl x)))) (Ac ((Ab (Cl x))))))))),.int .i64 (eD (wv (Ar (- wv (Ar ((Ab (Cl x)))) (Ac ((Ab (Cl x)))))) (Ac (- wv (Ar ((Ab (Cl x)))) (Ac ((Ab (Cl x))))))) (-1074:Int))]) else none else none else bif (Ml (Ar ((Ab (Cl x)))) (Ac ((Ab (Cl x))))&&Sk (-1074:Int)) then some (.agg [.bool (Ar (mD (wv (Ar ((Ab (Cl x)))) (Ac ((Ab (Cl x))))))),.ints .arg .u32 (Ac (mD (wv (Ar ((Ab (Cl x)))) (Ac ((Ab (Cl x))))))),.int .i64 (eD (wv (Ar ((Ab (Cl x)))) (Ac ((Ab (Cl x))))) (-1074:Int))]) else none else none else none else none else none:=by kernel_rfl
abbrev _root_.Go.Proofs.S1.A4.Value.Kn:=A7 prog 63 A4.Value.spec
theorem A4.Value.Ae (hk:A1 prog A4.Value.Bf) (h:Hyp A4.Value.E f63 A4.Value.ts A4.Value.pre A4.Value.out):A4.Value.Kn :=
 Am (A3 hk _ _ _) func63 (by kernel_rfl) (by kernel_rfl) h
end EqRefE
open Go Go.Den Go.C4 Go.Proofs
open EqRefE
theorem Afb {n k:Nat} (h:n<2^(32*k)) {m:Nat} (hk:k<m):Di n<m:=Av9 (Ka h) hk
theorem Qu (m:Nat):Gv false m=(m:Int):=rfl
theorem Aan (m:Nat):Gv true m=-(m:Int):=rfl
theorem A4.Value.known:A4.Value.Kn:=A4.Value.Ae (.cons Ad.Neg.known (.cons Ad.Of.known (.cons Aq.Of.known (.cons A4.Ip.known (.cons A4.Neg.known (.cons A4.Power.known .nil)))))) fun x hp=>by
 obtain ⟨n,rfl,hn⟩:=B0 (x:=x) hp
 refine ⟨0,A4.Value.out [.i n],[],?_,wdy⟩
 show _=Ahk (mD (Ba n)) (eD (Ba n) (Az n))
 have hf:=K0 n
 have hw:=Ia n
 have small:∀ k:Nat,k<2^54→Di k<268435456:=fun k hk=>Afb (k:=2) (Nat.lt_trans hk (by decide)) (by omega)
 have o1:∀ k:Nat,k<2^54→Ml (Ar (k:Int)) (Ac (k:Int))=true:=fun k hk=>Js (by rw [Int.natAbs_natCast]; exact small k hk)
 have o2:∀ k:Nat,k<2^54→Ml (Ar (-(k:Int))) (Ac (-(k:Int)))=true:=fun k hk=>Js (by rw [Int.natAbs_neg,Int.natAbs_natCast]; exact small k hk)
 rw [A4.Value.ev]
 unfold Cl Jr Dk Ba Az
 simp only [Fl,Au9]
 have e1:Ab ((Dr n:Nat):Int)=((Dr n:Nat):Int):=Al (by omega) (by omega)
 have e2:Ab (A8 (((Dr n:Nat):Int)+4503599627370496))=((Dr n+2^52:Nat):Int):=by
  rw [Cq (by omega) (by omega),Al (by omega) (by omega)]; omega
 have i1:∀ k:Nat,k<2^54→Aff (k:Int)=true:=fun k hk=>Ao.2 (by omega)
 rw [N6,B2 hn,e1,e2,i1 _ (by omega),i1 _ (by omega),Av,Al (by omega) (by omega)]
 simp only [Au7]
 unfold Aw A2
 by_cases h:Eb n=0
 ·have o3:Sk (-1074)=true:=Ao.2 (by omega)
  rw [Avu h,Avu h,Avc (by omega),Avb,o1 _ (by omega),o2 _ (by omega),o3]
  cases Db n
  ·rw [Avb,Qu]; rfl
  ·rw [Au7,Aan]; rfl
 ·have o3:Sk ((Eb n:Int)-1075)=true:=Ao.2 (by omega)
  rw [Avt h,Avt h,Au8 (by omega),Au7,o1 _ (by omega),o2 _ (by omega),o3]
  cases Db n
  ·rw [Avb,Qu]; rfl
  ·rw [Au7,Aan]; rfl
theorem Aij {m t:Nat} (h:m<2^t) (h0:m≠0):Mk m<t:=Av9 (Aox h0) ((Awn h0).2 h)
open Go Go.Den Go.C4 Go.Proofs
theorem Y6 {r:Nat} (h:r<2^63):C6 r=((2^63+r:Nat):Int):=by
 unfold C6; rw [Au9,Ve h]
theorem K9 {r:Nat} (h:r<2^63) (n:Bool):(bif n then (bif (Ah (r:Int)) then some (DV.int .u64 (C6 r)) else none) else some (DV.int .u64 r))=some (DV.int .u64 ((B5 n r:Nat):Int)):=by
 cases n
 ·rfl
 ·rw [B2 (by omega),Y6 h]; rfl
theorem L4 (n:Bool) (m:Nat) (e:Int):Q6 n m e=((B5 n (B3 m e):Nat):Int):=by
 unfold Q6; rw [Au9]
theorem Ac2 {E M:Nat} (h1:1≤E) (h2:E≤2046) (h3:4503599627370496≤M) (h4:M<9007199254740992):E*2^52+M%2^52=min ((E-1)*2^52+M) F2:=by
 obtain ⟨k,rfl⟩:∃ k,E=k+1:=⟨E-1,by omega⟩
 obtain ⟨r,rfl⟩:∃ r,M=2^52+r:=⟨M-2^52,by omega⟩
 have hr:r<2^52:=by omega
 have hm:(2^52+r)%2^52=r:=by rw [Nat.add_mod_left,Avk hr]
 have hk:k*2^52≤2045*2^52:=Avj _ (by omega)
 have hi:F2=2045*2^52+2^52+2^52:=by unfold F2; rfl
 rw [hm,Nat.add_sub_cancel,Nat.succ_mul,hi]
 generalize 2^52=c at *
 omega
theorem soft.Pack.known:soft.Pack.Kn:=EqSoft.soft.Pack.Ae (.cons soft.Ew.known .nil) fun rk n m e hp hr=>by
 have hp:=Ao.1 (show I6 m e=true from hp)
 have hr:Mr m e<rk+1:=hr
 obtain ⟨m0,m1,e0,e1⟩:=hp
 obtain ⟨M,rfl⟩:∃ M:Nat,m=M:=⟨m.toNat,by omega⟩
 refine ⟨0,soft.Pack.out [.b n,.i M,.i e],[],?_,.int⟩
 rw [EqSoft.soft.Pack.ev]
 show _=some (DV.int .u64 (Q6 n M e))
 rw [L4]
 unfold Mr at hr
 by_cases h0:M=0
 ·subst h0
  have:=K9 (r:=0) (by decide) n
  have e0:B3 0 e=0:=rfl
  rw [e0]
  simpa using this
 ·have b0:((M:Int)==0)=false:=by simp; omega
  rw [b0,Avb]
  by_cases h1:M=9007199254740992
  ·have b1:Dy (9007199254740992:Int) (M:Int)=true:=by rw [D9]; simp; omega
   have s1:C9 .u64 (M:Int) (1:Int)=((2^52:Nat):Int):=by
    rw [show (1:Int)=((1:Nat):Int) from rfl,Gn .u64 M 1 (by decide),h1]
   have w1:Ab (e+1)=e+1:=Al (by omega) (by omega)
   rw [Avu (by omega)] at hr
   have p1:I6 ((2^52:Nat):Int) (e+1)=true:=Ao.2 (by omega)
   have p2:Cf (Mr ((2^52:Nat):Int) (e+1)<rk)=true:=Ao.2 (by
    unfold Mr
    rw [Avt (by omega),Avt (by omega)]; omega)
   rw [b1,s1,w1,p1,p2,L4,h1]
   have:=(C1 (2^52) 1 (e+1)).1
   have e2:e+1-((1:Nat):Int)=e:=by omega
   rw [e2] at this
   rw [← this]; rfl
  ·have b1:Dy (9007199254740992:Int) (M:Int)=false:=by rw [D9]; simp; omega
   rw [b1,Avb]
   rw [Avt (by omega)] at hr
   by_cases h2:M<4503599627370496
   ·have b2:A6 (M:Int) (4503599627370496:Int)=true:=by rw [Av]; simp; omega
    rw [Avu (by omega)] at hr
    by_cases h3:e=-1074
    ·subst h3
     have b3:A6 (-1074:Int) (-1074)=false:=by decide
     rw [b2,b3,Awk,Avb,Au7,Ux h2]
     exact K9 (by omega) n
    ·have b3:A6 (-1074:Int) e=true:=by rw [Av]; simp; omega
     have s1:Br .u64 (M:Int) (1:Int)=((M*2^1:Nat):Int):=by
      rw [show (1:Int)=((1:Nat):Int) from rfl,Ev M 1 (by decide),Avk (by omega)]
     have w1:Ab (e-1)=e-1:=Al (by omega) (by omega)
     have p1:I6 ((M*2^1:Nat):Int) (e-1)=true:=Ao.2 (by omega)
     have p2:Cf (Mr ((M*2^1:Nat):Int) (e-1)<rk)=true:=Ao.2 (by
      unfold Mr
      rw [Avt (by omega)]
      split<;>omega)
     rw [b2,b3,s1,w1,p1,p2,L4]
     have:=(C1 M 1 e).1
     have e2:e-((1:Nat):Int)=e-1:=by omega
     rw [e2] at this
     rw [this]; rfl
   ·have b2:A6 (M:Int) (4503599627370496:Int)=false:=by rw [Av]; simp; omega
    have w1:Ab (e+1075)=e+1075:=Al (by omega) (by omega)
    rw [b2,w1,Bool.false_and,Avb,Avb]
    have hr:=O2 (m:=M) (e:=e) (by omega) (by omega) e0
    by_cases h4:2047≤e+1075
    ·have b4:Dy (2047:Int) (e+1075)=true:=by rw [D9]; simp; omega
     have:B3 M e=9218868437227405312:=by rw [hr,Ig]; omega
     rw [b4,this,Au7]
     exact K9 (r:=9218868437227405312) (by decide) n
    ·have b4:Dy (2047:Int) (e+1075)=false:=by rw [D9]; simp; omega
     obtain ⟨E,hE⟩:∃ E:Nat,e+1075=E:=⟨(e+1075).toNat,by omega⟩
     have s1:Ha .u64 (Br .u64 (A8 (e+1075)) (52:Int)) (Fe .u64 (M:Int) (4503599627370495:Int))=((B3 M e:Nat):Int):=by
      rw [hE,Cq (by omega) (by omega),show (52:Int)=((52:Nat):Int) from rfl,Ev E 52 (by decide),Avk (by omega),
       show (4503599627370495:Int)=((2^52-1:Nat):Int) from rfl,G6 52 (by omega) (by decide),K2 (by omega) (by omega)]
      have hE2:(e+1074).toNat=E-1:=by omega
      have hE3:1≤E∧E≤2046:=by omega
      have hM:4503599627370496≤M∧M<9007199254740992:=by omega
      rw [hr,hE2]
      exact congrArg (fun (x:Nat)=>(x:Int)) (Ac2 hE3.1 hE3.2 hM.1 hM.2)
     rw [b4,s1,Avb]
     exact K9 (Q0 M e) n
open Go Go.Den Go.C4 Go.Proofs
open EqSoft
theorem Ail {D:Nat} (h:D≤63):2^D<2^64:=Nat.pow_lt_pow_right (by decide) (by omega)
theorem Nh (n:Bool) {r:Nat} (h:r<2^63):Nd .u64 ((B5 n r:Nat):Int) (9223372036854775808:Int)=(r:Int):=by
 have hs:B5 n r<2^64:=by unfold B5; split<;>omega
 unfold Nd
 rw [show (9223372036854775808:Int)=((2^63:Nat):Int) from rfl,BitVec.toNat_and,BitVec.toNat_not,Hr,Hr,show IntKind.u64.bits=64 from rfl,Avk hs,
  show 2^64-1-2^63%2^64=2^63-1 by decide,Nat.and_two_pow_sub_one_eq_mod]
 have:B5 n r%2^63=r:=by unfold B5; cases n<;>simp<;>omega
 rw [this]
 exact T0 (by omega)
theorem Ac8 (N:Nat) (ex n:Bool) {r:Nat} (h:r≤F2):soft.Cx.C18 N ex ((B5 n r:Nat):Int)=some (.tup [.int .u64 ((B5 n r:Nat):Int),.int .u8 ((flags r ex:Nat):Int)]):=by
 have h63:r<2^63:=by rw [Ig] at h; omega
 have hs:B5 n r<2^64:=by unfold B5; split<;>omega
 rw [soft.Cx.Ad9,Nh n h63,B2 hs]
 unfold Bd flags
 rw [Au9,Xq n h]
 have hinf:(((r:Nat):Int)==(9218868437227405312:Int))=decide (r=F2):=by
  rw [Ig,Avn]; simp; omega
 rw [hinf]
 by_cases h1:r=F2
 ·simp [h1]
 ·by_cases h2:2^52≤r
  ·cases ex<;>simp [h1]<;>simp [show 4503599627370496≤r by omega]
  ·by_cases h3:0<r
   ·cases ex<;>simp [h1,h3]<;>simp [show ¬ 4503599627370496≤r by omega]
   ·cases ex<;>simp [h1,h3]<;>simp [show ¬ 4503599627370496≤r by omega]
theorem Ags (N:Nat) (n:Bool) {m:Nat} {e:Int} (he:-1140≤e∧e≤50000) (r:Bool):∀ (k d F:Nat),d+k=62→k<F→(∀ d',d'<d→2^53≤m / 2^d'∨e+d' < -1074) →
 ∃ D:Nat,soft.Cx.L0 N F n m e r (d:Int)=soft.Cx.C7 N n m e r (D:Int)∧Drop m e D:=by
 intro k
 induction k with
 | zero =>
   intro d F hd hF hl
   obtain ⟨F,rfl⟩:∃ G,F=G+1:=⟨F-1,by omega⟩
   obtain rfl:d=62:=by omega
   rw [soft.Cx.Ax,Gn .u64 m 62 (by decide),Al (by omega) (by omega),Al (by omega) (by omega),D9,Av]
   have a0:decide ((0:Int)≤((62:Nat):Int))=true:=by decide
   have a1:((((62:Nat):Int)+1)==63)=true:=by decide
   rw [a0,Au7,a1,Au7]
   by_cases h:2^53≤m / 2^62∨e+(62:Nat) < -1074
   ·refine ⟨63,?_,by omega,by omega,fun d' hd'=>?_⟩
    ·have:(decide ((9007199254740992:Int)≤((m / 2^62:Nat):Int))||decide (e+((62:Nat):Int) < -1074))=true:=by
      simp only [Bool.or_eq_true,Ave]; omega
     rw [this]; rfl
    ·rcases Av4 d' 62 with h' | h'
     ·exact hl d' h'
     ·obtain rfl:d'=62:=by omega
      exact h
   ·refine ⟨62,?_,by omega,fun _=>by omega,hl⟩
    have:(decide ((9007199254740992:Int)≤((m / 2^62:Nat):Int))||decide (e+((62:Nat):Int) < -1074))=false:=by
     simp only [Bool.or_eq_false_iff,Avq]; omega
    rw [this]; rfl
 | succ k ih =>
   intro d F hd hF hl
   obtain ⟨F,rfl⟩:∃ G,F=G+1:=⟨F-1,by omega⟩
   rw [soft.Cx.Ax,Gn .u64 m d (by show d≤64; omega),Al (by omega) (by omega),Al (by omega) (by omega),D9,Av]
   have a0:decide ((0:Int)≤(d:Int))=true:=by simp
   have a1:(((d:Int)+1)==63)=false:=by simp; omega
   rw [a0,Au7,a1,Avb]
   by_cases h:2^53≤m / 2^d∨e+d < -1074
   ·have:(decide ((9007199254740992:Int)≤((m / 2^d:Nat):Int))||decide (e+(d:Int) < -1074))=true:=by
     simp only [Bool.or_eq_true,Ave]; omega
    rw [this,Au7,show (d:Int)+1=((d+1:Nat):Int) by omega]
    refine ih (d+1) F (by omega) (by omega) fun d' hd'=>?_
    rcases Av4 d' d with h' | h'
    ·exact hl d' h'
    ·obtain rfl:d'=d:=by omega
     exact h
   ·refine ⟨d,?_,by omega,fun _=>by omega,hl⟩
    have:(decide ((9007199254740992:Int)≤((m / 2^d:Nat):Int))||decide (e+(d:Int) < -1074))=false:=by
     simp only [Bool.or_eq_false_iff,Avq]; omega
    rw [this]; rfl
theorem Agr (N:Nat) (n:Bool) {m D:Nat} (hm:m<2^64) {e:Int} (he:-1140≤e∧e≤50000) (r:Bool) (hD:D≤63) (hq:(if e+D < -1074 then 0 else qOf m D r.toNat)≤2^53) :
 soft.Cx.C7 N n m e r (D:Int)=soft.Cx.C18 N (decide (m%2^D=0∧r.toNat=0)) ((B5 n (B3 (if e+D < -1074 then 0 else qOf m D r.toNat) (max (e+D) (-1074))):Nat):Int):=by
 have hA:=B4 D
 have h2D:=Ail hD
 have hr:=Nat.mod_lt m hA
 have hqm:m / 2^D≤m:=Nat.div_le_self _ _
 rw [soft.Cx.Ata]
 have a0:decide ((0:Int)≤(D:Int))=true:=by simp
 have e1:C9 .u64 (m:Int) (D:Int)=((m / 2^D:Nat):Int):=Gn .u64 m D (by show D≤64; omega)
 have e2:Br .u64 (1:Int) (D:Int)=((2^D:Nat):Int):=by
  rw [show (1:Int)=((1:Nat):Int) from rfl,Ev 1 D (by omega),Nat.one_mul,Avk h2D]
 have e3:Fe .u64 (m:Int) (A8 (Br .u64 (1:Int) (D:Int)-(1:Int)))=((m%2^D:Nat):Int):=by
  rw [e2,Cq (by omega) (by omega),show ((2^D:Nat):Int)-1=((2^D-1:Nat):Int) by omega,G6 D hm (by omega)]
 have e5:(bif (((m%2^D:Nat):Int)==(0:Int)) then (!r) else false)=decide (m%2^D=0∧r.toNat=0):=by
  by_cases h:m%2^D=0
  ·cases r<;>simp [h]
  ·have:(((m%2^D:Nat):Int)==(0:Int))=false:=by simp only [Av2,ne_eq]; omega
   rw [this]; simp [h]
 rw [a0,Au7,Au7,e1,e3,e5,Av]
 have last:∀ (p:Bool) (q:Nat),q≤2^64-1→(if e+D < -1074 then 0 else q)≤2^53→soft.Cx.C14 N n e (D:Int) ((q:Nat):Int) p=soft.Cx.C18 N p ((B5 n (B3 (if e+D < -1074 then 0 else q) (max (e+D) (-1074))):Nat):Int):=by
  intro p q hq hq2
  rw [soft.Cx.Aq1,Al (by omega) (by omega),Av]
  have c16:∀ q':Nat,q'≤2^53→soft.Cx.C16 N n e (q':Int) (D:Int) p=soft.Cx.C18 N p ((B5 n (B3 q' (max (e+D) (-1074))):Nat):Int):=by
   intro q' hq'
   rw [soft.Cx.Aea,Al (by omega) (by omega)]
   have:I6 (q':Int) (max (e+(D:Int)) (-1074))=true:=Ao.2 (by omega)
   rw [this,L4]; rfl
  by_cases h:e+D < -1074
  ·rw [Avu h] at hq2 ⊢
   have:decide (e+(D:Int) < -1074)=true:=by simpa using h
   rw [this]
   exact c16 0 hq2
  ·rw [Avt h] at hq2 ⊢
   have:decide (e+(D:Int) < -1074)=false:=by simpa using h
   rw [this]
   exact c16 q hq2
 have up:∀ (half:Nat) (hh:0<D→half=2^(D-1)) (p:Bool),soft.Cx.C12 N n e r (D:Int) ((m / 2^D:Nat):Int) ((m%2^D:Nat):Int) (half:Int) p=soft.Cx.C18 N p ((B5 n (B3 (if e+D < -1074 then 0 else qOf m D r.toNat) (max (e+D) (-1074))):Nat):Int):=by
  intro half hh p
  rw [soft.Cx.Aq2,Av,Av]
  have odd:(Fe .u64 ((m / 2^D:Nat):Int) (1:Int)==(1:Int))=decide (m / 2^D%2=1):=by
   rw [show (1:Int)=((2^1-1:Nat):Int) from rfl,G6 1 (by omega) (by decide),Avn]
   simp only [beq_iff_eq,Ave]
   omega
  rw [odd]
  have test:(decide ((0:Int)<(D:Int))&&(decide ((half:Int)<((m%2^D:Nat):Int))||((((m%2^D:Nat):Int)==(half:Int))&&(r||decide (m / 2^D%2=1))))) =
   decide (0<D∧(2^(D-1)<m%2^D∨(m%2^D=2^(D-1)∧(r.toNat=1∨m / 2^D%2=1)))):=by
   rw [Avn]
   generalize m%2^D=rr
   generalize m / 2^D=qq
   generalize hg:2^(D-1)=gg at hh
   by_cases h0:0<D
   ·have:=hh h0
    subst this
    cases r<;>simp [h0]<;>omega
   ·simp [h0]
  rw [test]
  by_cases ht:0<D∧(2^(D-1)<m%2^D∨(m%2^D=2^(D-1)∧(r.toNat=1∨m / 2^D%2=1)))
  ·have hq1:qOf m D r.toNat=m / 2^D+1:=by unfold qOf; rw [Avu ht]
   have hlt:m / 2^D+1<2^64:=by
    obtain ⟨d,rfl⟩:∃ d,D=d+1:=⟨D-1,by omega⟩
    have h1:m / 2^(d+1)≤m / 2:=Nat.div_le_div_left (by rw [Nat.pow_succ]; have:=B4 d; omega) (by decide)
    omega
   rw [hq1] at hq ⊢
   rw [Au8 ht,Au7,Cq (by omega) (by omega),show ((m / 2^D:Nat):Int)+1=((m / 2^D+1:Nat):Int) by omega]
   exact last p _ (by omega) hq
  ·have hq1:qOf m D r.toNat=m / 2^D:=by unfold qOf; rw [Avt ht]; rfl
   rw [hq1] at hq ⊢
   rw [Avc ht,Avb]
   exact last p _ (by omega) hq
 rcases Nat.eq_zero_or_pos D with rfl | hpos
 ·have:decide ((0:Int)<((0:Nat):Int))=false:=by decide
  rw [this,Avb]
  exact up 0 (fun h=>absurd h (by omega)) _
 ·have h1:decide ((0:Int)<(D:Int))=true:=by simpa using hpos
  have h2:Ab ((D:Int)-1)=((D-1:Nat):Int):=by rw [Al (by omega) (by omega)]; omega
  have h3:decide ((0:Int)≤((D-1:Nat):Int))=true:=by simp
  have h4:Br .u64 (1:Int) ((D-1:Nat):Int)=((2^(D-1):Nat):Int):=by
   rw [show (1:Int)=((1:Nat):Int) from rfl,Ev 1 (D-1) (by omega),Nat.one_mul,Avk (Ail (by omega))]
  rw [h1,Au7,h2,h3,Au7,h4]
  exact up _ (fun _=>rfl) _
theorem soft.Cx.known:soft.Cx.Kn:=soft.Cx.Ae (.cons soft.Kind.known (.cons soft.Pack.known .nil)) fun n m e r hp=>by
 obtain ⟨m0,m1,e1,e2,hr⟩:=Ao.1 (show Du m e r=true from hp)
 obtain ⟨M,rfl⟩:∃ M:Nat,m=M:=⟨m.toNat,by omega⟩
 refine ⟨63,soft.Cx.out [.b n,.i M,.i e,.b r],[],?_,Wk.G1 (.cons .int (.cons .int .nil))⟩
 show _=some (DV.tup [.int .u64 (D5 n M e r),.int .u8 (D4 n M e r)])
 unfold D5 D4 Fi
 rw [Au9,soft.Cx.ev]
 dsimp only
 by_cases h0:M=0∧r=false
 ·obtain ⟨rfl,rfl⟩:=h0
  have:I6 (0:Int) (-1074)=true:=Ao.2 (by omega)
  have hp0:=L4 n 0 (-1074)
  rw [this]
  simp only [Awq,Bool.and_true,Au7,Bool.toNat_false]
  have hz:(((0:Nat):Int)==0)=true:=rfl
  rw [hz,Au7]
  have hp0:Q6 n (0:Int) (-1074)=((B5 n (B3 0 (-1074)):Nat):Int):=hp0
  have z:∀ E,B3 0 E=0:=fun E=>Avu rfl
  have z3:∀ E,flagsOf 0 E=0:=fun E=>Avu rfl
  rw [hp0,z,show 4*0+0=0 from rfl,z,z3]
  rfl
 ·have hc:((((M:Nat):Int)==(0:Int))&&!r)=false:=by
   cases r
   ·have:M≠0:=fun h=>h0 ⟨h,rfl⟩
    simp; omega
   ·simp
  rw [hc,Avb]
  have he:-1140≤e∧e≤50000:=by omega
  obtain ⟨D,hl,hD⟩:=Ags 63 n (m:=M) he r 62 0 63 (by omega) (by omega) (fun d' h=>by omega)
  have hs:r.toNat≤1:=by cases r<;>decide
  have hV:4*M+r.toNat≠0:=by
   intro h
   refine h0 ⟨by omega,?_⟩
   cases r
   ·rfl
   ·simp at h
  obtain ⟨t1,t2,t3⟩:=Agu hD hs hV (by omega) (by omega) (fun h=>by
   have:r=true:=by cases r<;>simp_all
   have:=hr this
   omega)
  have hl:soft.Cx.L0 63 63 n (M:Int) e r (0:Int)=soft.Cx.C7 63 n (M:Int) e r (D:Int):=hl
  rw [hl,Agr 63 n (by omega) he r hD.le t3,← t1,Ac8 63 _ n (T5 _ _),t2]
open Go Go.Den Go.C4 Go.Proofs
set_option maxRecDepth 100000
namespace EqSum
def sum.right.Bf:List (Nat × Entry):=[]
def sum.right.E:Env:=Bg (Be sum.right.Bf) (fun _=>false) (fun _=>none) (fun _=>none)
theorem sum.right.ev (N:Nat) (m d:Int):By sum.right.E N f249 (An f249) [.int .u64 m,.int .i64 d]=bif (A6 63 d) then bif ((Br .u64 (C9 .u64 m 63) 63) !=m) then some (.int .u64 (Ha .u64 (C9 .u64 m 63) 1)) else some (.int .u64 (C9 .u64 m 63)) else bif (decide (0≤d)) then bif (decide (0≤d)) then bif ((Br .u64 (C9 .u64 m d) d) !=m) then some (.int .u64 (Ha .u64 (C9 .u64 m d) 1)) else some (.int .u64 (C9 .u64 m d)) else none else none:=by kernel_rfl
abbrev _root_.Go.Proofs.S1.sum.right.Kn:=A7 prog 249 sum.right.spec
theorem sum.right.Ae (hk:A1 prog sum.right.Bf) (h:Hyp sum.right.E f249 sum.right.ts sum.right.pre sum.right.out):sum.right.Kn :=
 Am (A3 hk _ _ _) func249 (by kernel_rfl) (by kernel_rfl) h
def sum.Dl.Bf:List (Nat × Entry):=[(148,soft.Finite.spec),(155,soft.Kind.spec)]
def sum.Dl.E:Env:=Bg (Be sum.Dl.Bf) (fun _=>false) (fun _=>none) (fun _=>none)
theorem sum.Dl.ev (N:Nat) (a b:Int):By sum.Dl.E N f248 (An f248) [.int .u64 a,.int .u64 b]=bif (Ah a) then bif ((Bd a)==(4:Int)) then some (.tup [.int .u64 9221120237041090560,.int .u8 0]) else bif (Ah b) then bif ((Bd b)==(4:Int)) then some (.tup [.int .u64 9221120237041090560,.int .u8 0]) else bif (Ah a) then bif (Dd a) then some (.tup [.int .u64 b,.int .u8 0]) else bif (Ah b) then bif ((Dd b)||(a==b)) then some (.tup [.int .u64 a,.int .u8 0]) else some (.tup [.int .u64 9221120237041090560,.int .u8 16]) else none else none else none else none :=
 Eq.trans (by kernel_rfl)
 (Fq (Fq rfl (Fq (Fq rfl (Fq (Fq rfl (Fq (Ay (Wl (Dd b)) (Ay (Wl (Dd b)) (Ay (tt8 (Dd b)) (Ay (tt6 (Dd b)) (Cy (tt5 (Dd b) (a==b)) rfl rfl))))) rfl)) rfl)) rfl)) rfl)
abbrev _root_.Go.Proofs.S1.sum.Dl.Kn:=A7 prog 248 sum.Dl.spec
theorem sum.Dl.Ae (hk:A1 prog sum.Dl.Bf) (h:Hyp sum.Dl.E f248 sum.Dl.ts sum.Dl.pre sum.Dl.out):sum.Dl.Kn :=
 Am (A3 hk _ _ _) func248 (by kernel_rfl) (by kernel_rfl) h
def sum.Add.Bf:List (Nat × Entry):=[(148,soft.Finite.spec),(212,soft.Cx.spec),(211,soft.Ep.spec),(213,soft.Sign.spec),(249,sum.right.spec),(248,sum.Dl.spec)]
def sum.Add.E:Env:=Bg (Be sum.Add.Bf) (fun _=>false) (fun _=>none) (fun _=>none)
theorem sum.Add.ev (N:Nat) (a b:Int):By sum.Add.E N f232 (An f232) [.int .u64 a,.int .u64 b]=bif (Ah a) then bif ((!(Dd a))||(Ah b)) then bif ((!(Dd a))||(!(Dd b))) then bif ((Ah a&&Ah b)&&(!(Dd a)||!(Dd b))) then some (.tup [.int .u64 (Hx a b),.int .u8 (Tv a b)]) else none else bif (Ah a) then bif (Ah b) then bif (Ah a) then bif (Ah b) then bif (A6 (Az a) (Az b)) then bif (Ah (Br .u64 (Bk a) 9)&&Cf (0≤(Ab ((Az b)-(Az a)))∧(Ab ((Az b)-(Az a)))<1000000)) then bif ((Dk b)==(Dk a)) then bif (Du (A8 ((Br .u64 (Bk b) 9)+(Ea (Br .u64 (Bk a) 9) (Ab ((Az b)-(Az a)))))) (Ab ((Az b)-9)) false) then some (.tup [.int .u64 (D5 (Dk b) (A8 ((Br .u64 (Bk b) 9)+(Ea (Br .u64 (Bk a) 9) (Ab ((Az b)-(Az a)))))) (Ab ((Az b)-9)) false),.int .u8 (D4 (Dk b) (A8 ((Br .u64 (Bk b) 9)+(Ea (Br .u64 (Bk a) 9) (Ab ((Az b)-(Az a)))))) (Ab ((Az b)-9)) false)]) else none else bif (A6 (Ea (Br .u64 (Bk a) 9) (Ab ((Az b)-(Az a)))) (Br .u64 (Bk b) 9)) then bif (Du (A8 ((Br .u64 (Bk b) 9)-(Ea (Br .u64 (Bk a) 9) (Ab ((Az b)-(Az a)))))) (Ab ((Az b)-9)) false) then some (.tup [.int .u64 (D5 (Dk b) (A8 ((Br .u64 (Bk b) 9)-(Ea (Br .u64 (Bk a) 9) (Ab ((Az b)-(Az a)))))) (Ab ((Az b)-9)) false),.int .u8 (D4 (Dk b) (A8 ((Br .u64 (Bk b) 9)-(Ea (Br .u64 (Bk a) 9) (Ab ((Az b)-(Az a)))))) (Ab ((Az b)-9)) false)]) else none else bif (A6 (Br .u64 (Bk b) 9) (Ea (Br .u64 (Bk a) 9) (Ab ((Az b)-(Az a))))) then bif (Du (A8 ((Ea (Br .u64 (Bk a) 9) (Ab ((Az b)-(Az a))))-(Br .u64 (Bk b) 9))) (Ab ((Az b)-9)) false) then some (.tup [.int .u64 (D5 (Dk a) (A8 ((Ea (Br .u64 (Bk a) 9) (Ab ((Az b)-(Az a))))-(Br .u64 (Bk b) 9))) (Ab ((Az b)-9)) false),.int .u8 (D4 (Dk a) (A8 ((Ea (Br .u64 (Bk a) 9) (Ab ((Az b)-(Az a))))-(Br .u64 (Bk b) 9))) (Ab ((Az b)-9)) false)]) else none else some (.tup [.int .u64 0,.int .u8 0]) else none else bif (Ah (Br .u64 (Bk b) 9)&&Cf (0≤(Ab ((Az a)-(Az b)))∧(Ab ((Az a)-(Az b)))<1000000)) then bif ((Dk a)==(Dk b)) then bif (Du (A8 ((Br .u64 (Bk a) 9)+(Ea (Br .u64 (Bk b) 9) (Ab ((Az a)-(Az b)))))) (Ab ((Az a)-9)) false) then some (.tup [.int .u64 (D5 (Dk a) (A8 ((Br .u64 (Bk a) 9)+(Ea (Br .u64 (Bk b) 9) (Ab ((Az a)-(Az b)))))) (Ab ((Az a)-9)) false),.int .u8 (D4 (Dk a) (A8 ((Br .u64 (Bk a) 9)+(Ea (Br .u64 (Bk b) 9) (Ab ((Az a)-(Az b)))))) (Ab ((Az a)-9)) false)]) else none else bif (A6 (Ea (Br .u64 (Bk b) 9) (Ab ((Az a)-(Az b)))) (Br .u64 (Bk a) 9)) then bif (Du (A8 ((Br .u64 (Bk a) 9)-(Ea (Br .u64 (Bk b) 9) (Ab ((Az a)-(Az b)))))) (Ab ((Az a)-9)) false) then some (.tup [.int .u64 (D5 (Dk a) (A8 ((Br .u64 (Bk a) 9)-(Ea (Br .u64 (Bk b) 9) (Ab ((Az a)-(Az b)))))) (Ab ((Az a)-9)) false),.int .u8 (D4 (Dk a) (A8 ((Br .u64 (Bk a) 9)-(Ea (Br .u64 (Bk b) 9) (Ab ((Az a)-(Az b)))))) (Ab ((Az a)-9)) false)]) else none else bif (A6 (Br .u64 (Bk a) 9) (Ea (Br .u64 (Bk b) 9) (Ab ((Az a)-(Az b))))) then bif (Du (A8 ((Ea (Br .u64 (Bk b) 9) (Ab ((Az a)-(Az b))))-(Br .u64 (Bk a) 9))) (Ab ((Az a)-9)) false) then some (.tup [.int .u64 (D5 (Dk b) (A8 ((Ea (Br .u64 (Bk b) 9) (Ab ((Az a)-(Az b))))-(Br .u64 (Bk a) 9))) (Ab ((Az a)-9)) false),.int .u8 (D4 (Dk b) (A8 ((Ea (Br .u64 (Bk b) 9) (Ab ((Az a)-(Az b))))-(Br .u64 (Bk a) 9))) (Ab ((Az a)-9)) false)]) else none else some (.tup [.int .u64 0,.int .u8 0]) else none else none else none else none else none else none else none :=
 Eq.trans (by kernel_rfl)
 (Fq (Ay (Afy (Dd a)) (Cy (Apx (Dd a) (Ah b)) (Ay (Uo (Dd a)) (Ay (Afz (Dd a)) (Cy (Apy (Dd a) (Dd b)) rfl rfl))) rfl)) rfl)
abbrev _root_.Go.Proofs.S1.sum.Add.Kn:=A7 prog 232 sum.Add.spec
theorem sum.Add.Ae (hk:A1 prog sum.Add.Bf) (h:Hyp sum.Add.E f232 sum.Add.ts sum.Add.pre sum.Add.out):sum.Add.Kn :=
 Am (A3 hk _ _ _) func232 (by kernel_rfl) (by kernel_rfl) h
def sum.Sub.Bf:List (Nat × Entry):=[(233,soft.Ew.spec),(232,sum.Add.spec)]
def sum.Sub.E:Env:=Bg (Be sum.Sub.Bf) (fun _=>false) (fun _=>none) (fun _=>none)
theorem sum.Sub.ev (N:Nat) (a b:Int):By sum.Sub.E N f207 (An f207) [.int .u64 a,.int .u64 b]=bif (Ah b) then bif (Ah a&&Ah (C6 b)) then some (.tup [.int .u64 (Hx a (C6 b)),.int .u8 (Tv a (C6 b))]) else none else none:=by kernel_rfl
abbrev _root_.Go.Proofs.S1.sum.Sub.Kn:=A7 prog 207 sum.Sub.spec
theorem sum.Sub.Ae (hk:A1 prog sum.Sub.Bf) (h:Hyp sum.Sub.E f207 sum.Sub.ts sum.Sub.pre sum.Sub.out):sum.Sub.Kn :=
 Am (A3 hk _ _ _) func207 (by kernel_rfl) (by kernel_rfl) h
end EqSum
open Go Go.Den Go.C4 Go.Proofs
open EqSum
theorem Aqc (q:Nat):q ||| 1=2*(q / 2)+1:=by
 have e:q%2 ||| (q / 2*2^1)=q / 2*2^1+q%2:=Q9 (Nat.mod_lt _ (by decide))
 have e1:1 ||| (q / 2*2^1)=q / 2*2^1+1:=Q9 (k:=1) (by decide)
 have hq:q / 2*2^1+q%2=q:=by omega
 rw [hq] at e
 rcases Nat.mod_two_eq_zero_or_one q with h | h
 ·rw [h,Nat.zero_or] at e
  rw [e,Nat.or_comm] at e1
  omega
 ·rw [h] at e
  have:q ||| 1=q:=by
   conv=>lhs; rw [← e]
   rw [Nat.or_comm 1,Nat.or_assoc,Nat.or_self,Nat.or_comm,e]
  omega
theorem U1 {n s:Nat} (hn:n<2^64) (hs:s≤63) :
 (bif ((Br .u64 (C9 .u64 (n:Int) (s:Int)) (s:Int)) !=(n:Int)) then
  some (DV.int .u64 (Ha .u64 (C9 .u64 (n:Int) (s:Int)) (1:Int)))
 else some (.int .u64 (C9 .u64 (n:Int) (s:Int))))=some (.int .u64 ((Ez n s:Nat):Int)):=by
 have hq:n / 2^s≤n:=Nat.div_le_self _ _
 have hm:n / 2^s*2^s≤n:=Nat.div_mul_le_self _ _
 have hd:=Nat.div_add_mod n (2^s)
 rw [Avv] at hd
 rw [Gn .u64 n s (by show s≤64; omega),Ev _ s (by omega),Avk (by omega)]
 have h1:Ha .u64 ((n / 2^s:Nat):Int) (1:Int)=((n / 2^s ||| 1:Nat):Int):=Zu (by omega) (by decide)
 rw [h1,Aqc]
 unfold Ez
 by_cases h:n%2^s=0
 ·have:((((n / 2^s*2^s:Nat):Int)) !=(n:Int))=false:=by
   simp only [bne_eq_false_iff_eq]; omega
  rw [this,Avu h,Avb]
 ·have:((((n / 2^s*2^s:Nat):Int)) !=(n:Int))=true:=by
   simp only [bne_iff_ne,ne_eq]; omega
  rw [this,Avt h,Au7]
theorem sum.right.known:sum.right.Kn:=sum.right.Ae .nil fun m d hp=>by
 obtain ⟨h1,h2⟩:=Ag.1 hp
 obtain ⟨n,rfl,hn⟩:=B0 h1
 have h2:=Ao.1 h2
 obtain ⟨d,rfl⟩:∃ k:Nat,d=k:=⟨d.toNat,by omega⟩
 refine ⟨0,sum.right.out [.i n,.i d],[],?_,.int⟩
 rw [sum.right.ev,Av]
 show _=some (DV.int .u64 (Ea n d))
 unfold Ea
 rw [Au9,Au9]
 by_cases h:63<d
 ·have:decide ((63:Int)<(d:Int))=true:=by simp; omega
  rw [this,Au7,Nat.min_eq_right (by omega)]
  exact U1 hn (Av1 63)
 ·have:decide ((63:Int)<(d:Int))=false:=by simp; omega
  have h0:decide ((0:Int)≤(d:Int))=true:=by simp
  rw [this,Avb,h0,Au7,Au7,Nat.min_eq_left (by omega)]
  exact U1 hn (by omega)
theorem Ad8:((Wi:Nat):Int)=9221120237041090560:=rfl
theorem sum.Dl.known:sum.Dl.Kn:=sum.Dl.Ae (.cons soft.Finite.known (.cons soft.Kind.known .nil)) fun a b hp=>by
 obtain ⟨h1,h2⟩:=Ag.1 hp
 obtain ⟨ha,hb⟩:=Ag.1 h1
 obtain ⟨a,rfl,hn⟩:=B0 ha
 obtain ⟨b,rfl,hm⟩:=B0 hb
 refine ⟨0,sum.Dl.out [.i a,.i b],[],?_,Wk.G1 (.cons .int (.cons .int .nil))⟩
 rw [sum.Dl.ev,ha,hb]
 show _=some (DV.tup [.int .u64 (Hx a b),.int .u8 (Tv a b)])
 unfold Hx Tv Ni Bd Dd
 simp only [Au9,Au7]
 unfold Dd at h2
 simp only [Au9] at h2
 by_cases a4:As a=4
 ·simp [a4,Ad8]
 ·have e4:((As a:Int)==4)=false:=by simp; omega
  rw [e4,Avb]
  by_cases b4:As b=4
  ·simp [b4,Ad8]
  ·have f4:((As b:Int)==4)=false:=by simp; omega
   rw [f4,Avb]
   have ka:=Vr a
   have kb:=Vr b
   by_cases a3:As a=3
   ·have fa:I1 a=false:=by rw [ka]; simp [a3]
    rw [fa,Avb]
    by_cases b3:As b=3
    ·have fb:I1 b=false:=by rw [kb]; simp [b3]
     rw [fb]
     by_cases hab:a=b
     ·subst hab; simp [a3]
     ·have hab':((a:Int)==(b:Int))=false:=by simp; omega
      rw [hab']
      simp [a3,b3,hab,Ad8]
    ·have fb:I1 b=true:=by rw [kb]; simp [b3,b4]
     rw [fb]
     simp [a3,b3,b4]
   ·have fa:I1 a=true:=by rw [ka]; simp [a3,a4]
    have b3:As b=3:=by
     rw [fa,kb] at h2
     simp [b4] at h2
     exact h2
    rw [fa,Au7]
    simp [a3,b3,a4]
def Aek (na nb:Bool) (X r:Nat) (e:Int):Nat × Nat :=
 if na=nb then Fi na (X+r) e false else if r<X then Fi na (X-r) e false else if X<r then Fi nb (r-X) e false else (0,0)
theorem Sl {na:Bool} {m:Int} {n:Nat} {e e':Int} (h:m=n) (he:e'=e) (hn:n<2^64) (h1:-1100≤e) (h2:e≤1000) :
 (bif Du m e' false then some (DV.tup [.int .u64 (D5 na m e' false),.int .u8 (D4 na m e' false)]) else none)
  = some (.tup [.int .u64 (((Fi na n e false).1:Nat):Int),.int .u8 (((Fi na n e false).2:Nat):Int)]):=by
 subst h; subst he
 have hp:Du (n:Int) e' false=true:=Ao.2 ⟨by omega,by omega,by omega,.inl (by omega),fun h=>by cases h⟩
 rw [hp,Au7]
 unfold D5 D4
 rw [Au9]
theorem Ab8 (na nb:Bool) {X r:Nat} {e e':Int} (hX:X<2^62) (hr:r≤2^62) (h:e'=e) (h1:-1100≤e) (h2:e≤1000) :
 (bif (na==nb) then
  bif Du (A8 ((X:Int)+(r:Int))) e' false then some (DV.tup [.int .u64 (D5 na (A8 ((X:Int)+(r:Int))) e' false),.int .u8 (D4 na (A8 ((X:Int)+(r:Int))) e' false)]) else none
 else bif A6 (r:Int) (X:Int) then
  bif Du (A8 ((X:Int)-(r:Int))) e' false then some (DV.tup [.int .u64 (D5 na (A8 ((X:Int)-(r:Int))) e' false),.int .u8 (D4 na (A8 ((X:Int)-(r:Int))) e' false)]) else none
 else bif A6 (X:Int) (r:Int) then
  bif Du (A8 ((r:Int)-(X:Int))) e' false then some (DV.tup [.int .u64 (D5 nb (A8 ((r:Int)-(X:Int))) e' false),.int .u8 (D4 nb (A8 ((r:Int)-(X:Int))) e' false)]) else none
 else some (.tup [.int .u64 (0:Int),.int .u8 (0:Int)])) =
  some (.tup [.int .u64 (((Aek na nb X r e).1:Nat):Int),.int .u8 (((Aek na nb X r e).2:Nat):Int)]):=by
 unfold Aek
 rw [Av,Av]
 by_cases hs:na=nb
 ·have:(na==nb)=true:=by simp [hs]
  rw [this,Au7,Avu hs]
  exact Sl (by rw [Cq (by omega) (by omega)]; omega) h (by omega) h1 h2
 ·have:(na==nb)=false:=by simp [hs]
  rw [this,Avb,Avt hs]
  by_cases hl:r<X
  ·have:decide ((r:Int)<(X:Int))=true:=by simp; omega
   rw [this,Au7,Avu hl]
   exact Sl (by rw [Cq (by omega) (by omega)]; omega) h (by omega) h1 h2
  ·have:decide ((r:Int)<(X:Int))=false:=by simp; omega
   rw [this,Avb,Avt hl]
   by_cases hg:X<r
   ·have:decide ((X:Int)<(r:Int))=true:=by simp; omega
    rw [this,Au7,Avu hg]
    exact Sl (by rw [Cq (by omega) (by omega)]; omega) h (by omega) h1 h2
   ·have:decide ((X:Int)<(r:Int))=false:=by simp; omega
    rw [this,Avb,Avt hg]
    rfl
theorem Afo {a b:Nat} (ha:I1 a=true) (hb:I1 b=true) (hle:A2 b≤A2 a) :
 ∃ X r:Nat,X<2^62∧r≤2^62∧Br .u64 (Bk a) (9:Int)=(X:Int)∧Ea (Br .u64 (Bk b) (9:Int)) (Ab (Az a-Az b))=(r:Int)
  ∧ Ab (Az a-9)=A2 a-9
  ∧ (Ah (Br .u64 (Bk b) (9:Int))&&Cf (0≤(Ab ((Az a)-(Az b)))∧(Ab ((Az a)-(Az b)))<1000000))=true
  ∧ Aek (Dk a) (Dk b) X r (A2 a-9)=Ni a b:=by
 obtain ⟨d,hd⟩:∃ d:Nat,A2 a=A2 b+d:=⟨(A2 a-A2 b).toNat,by omega⟩
 have hx:=Fm a
 have hy:=Fm b
 have ea:=Em a
 have eb:=Em b
 have C:=Ab7 (Mx:=Aw a) (My:=Aw b) hd hx hy (fun h=>Xi (by omega))
 have sh:∀ m:Nat,m<2^53→Br .u64 (m:Int) (9:Int)=((m*2^9:Nat):Int):=fun m hm=>by
  have:=Ev m 9 (by decide)
  rw [Avk (by omega)] at this
  exact this
 have h2:Ab (Az a-Az b)=(d:Int):=by
  unfold Az
  rw [Au9,Au9,Al (by omega) (by omega)]; omega
 have s1:Br .u64 (Bk a) (9:Int)=((Aw a*2^9:Nat):Int):=by
  unfold Bk; rw [Au9]; exact sh _ hx
 have s2:Br .u64 (Bk b) (9:Int)=((Aw b*2^9:Nat):Int):=by
  unfold Bk; rw [Au9]; exact sh _ hy
 refine ⟨Aw a*2^9,Ez (Aw b*2^9) (min d 63),by omega,C.small,s1,?_,?_,?_,?_⟩
 ·rw [s2,h2]; unfold Ea; rw [Au9,Au9]
 ·unfold Az; rw [Au9,Al (by omega) (by omega)]
 ·rw [s2,h2,B2 (by omega),Awk]
  exact Ao.2 ⟨by omega,by omega⟩
 ·unfold Dk
  rw [Au9,Au9,Ab6 ha hb hd]
  rfl
theorem sum.Add.known:sum.Add.Kn:=sum.Add.Ae (.cons soft.Finite.known (.cons soft.Cx.known (.cons soft.Ep.known (.cons soft.Sign.known (.cons sum.right.known (.cons sum.Dl.known .nil)))))) fun a b hp=>by
 obtain ⟨ha,hb⟩:=Ag.1 hp
 obtain ⟨a,rfl,hn⟩:=B0 ha
 obtain ⟨b,rfl,hm⟩:=B0 hb
 refine ⟨0,sum.Add.out [.i a,.i b],[],?_,Wk.G1 (.cons .int (.cons .int .nil))⟩
 rw [sum.Add.ev,ha,hb]
 show _=some (DV.tup [.int .u64 (Hx a b),.int .u8 (Tv a b)])
 rw [Awj,Au7,Au7]
 by_cases hf:(!(Dd a)||!(Dd b))=true
 ·rw [hf]; rfl
 ·have hf:(!(Dd a)||!(Dd b))=false:=by simpa using hf
  rw [hf,Avb,Au7,Au7,Au7,Au7]
  have fa:I1 a=true:=by
   have:=(Bool.or_eq_false_iff.1 hf).1
   unfold Dd at this
   simpa using this
  have fb:I1 b=true:=by
   have:=(Bool.or_eq_false_iff.1 hf).2
   unfold Dd at this
   simpa using this
  have xa:=Em a
  have xb:=Em b
  rw [Av]
  by_cases hl:A2 a<A2 b
  ·obtain ⟨X,r,hX,hr,e1,e2,e3,e4,e5⟩:=Afo fb fa (by omega)
   have:decide (Az a<Az b)=true:=by unfold Az; simpa using hl
   rw [this,Au7,e4,Au7,e1,e2,Ab8 _ _ hX hr e3 (by omega) (by omega),e5,Ahz]
   rfl
  ·obtain ⟨X,r,hX,hr,e1,e2,e3,e4,e5⟩:=Afo fa fb (by omega)
   have:decide (Az a<Az b)=false:=by unfold Az; simpa using hl
   rw [this,Avb,e4,Au7,e1,e2,Ab8 _ _ hX hr e3 (by omega) (by omega),e5]
   rfl
theorem sum.Sub.known:sum.Sub.Kn:=sum.Sub.Ae (.cons soft.Ew.known (.cons sum.Add.known .nil)) fun a b hp=>by
 obtain ⟨ha,hb⟩:=Ag.1 hp
 obtain ⟨b,rfl,hm⟩:=B0 hb
 refine ⟨0,sum.Sub.out [.i a,.i b],[],?_,Wk.G1 (.cons .int (.cons .int .nil))⟩
 have:Ah (C6 (b:Int))=true:=by unfold C6; rw [Au9]; exact B2 (So hm)
 rw [sum.Sub.ev,ha,hb,this]
 unfold Hx Tv C6
 rw [Au9]
 rfl
end Go.Proofs.S1
end
