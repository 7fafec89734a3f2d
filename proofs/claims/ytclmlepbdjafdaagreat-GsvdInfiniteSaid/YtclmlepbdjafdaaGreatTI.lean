/- A verified evaluator of the program's form and its use for this seat: S1PRootA, S1EqOf, S1POf, S1PMatA, S1EqRef10, S1PRef10, S1PFill, S1EqHouse, S1PHouse, S1PApply, S1EqSol, S1PTri, S1EqFew, S1PSol, S1EqQr, S1PQr, S1PQrA, LdxL. -/
import Derived.Test.YtclmlepbdjafdaaGreatTH
import Derived.Test.YtclmlepbdjafdaaGreatTE
import Derived.Test.YtclmlepbdjafdaaGreatTF
set_option linter.unusedVariables false
set_option linter.unusedSimpArgs false
noncomputable section
open Int (toNat)
open List (length getD)
open Go.Proofs.Tryz
namespace Go.Proofs.S1
open Go Go.Den Go.Rnd Go.Proofs
open EqRoot
theorem Uw {b:Nat} (h:Ar b≠0):Dx (Ar b:Int)=((Ar b).log2:Int)+1:=by
 unfold Dx
 rw [Asd (by omega),Art]
theorem Aeb {w:Nat} {E:Int} {s:Bool} (hw:2^62≤w) (n:Nat) (h:P6 n=w) (hs:s=decide (w*w≠n)) :
 Ev false (w / 2) (E+2) (bif s then true else decide (w%2=1))=(B1 (Fc n) E,flagsOf (Fc n) E):=by
 have e1:Fc n / 2^2=w / 2:=by unfold Fc; rw [h]; split<;>omega
 have e2:(bif s then true else decide (w%2=1))=decide (Fc n%2^2≠0):=by
  rw [hs]
  unfold Fc
  rw [h]
  by_cases h0:w*w=n
  ·rw [Arw (by omega),Arv,Ase h0,decide_eq_decide]; omega
  ·rw [Ars h0,Arr,Asd h0]; symm; exact Ars (by omega)
 rw [← e1]
 have:=Qw false (V:=Fc n) (k:=2) (E:=E) (e:=E+2) rfl e2 (by rw [e1]; omega) (by left; rw [e1]; omega)
 rw [Agr] at this
 exact this
theorem root.Sqrt.num {b:Nat} (hb:b<2^64) (h4:Ag b≠4) (h:¬ (Ag b=0∨b=Dy)) (hn:Bu b=false) {z:Nat} (hz:2^60≤Ar b*2^z) (hz2:Ar b*2^z<2^62) (he:(Ax b-(z:Int))%2=0) (z60:z≤62) :
 root.Sqrt.L0 2 2 (Ax b-(z:Int)) (Qz ((Ar b*2^z:Nat):Int)) (!(Q0 ((Ar b*2^z:Nat):Int)))=some (.tup [.int .u64 (Gw (b:Int)),.int .u8 (M3 (b:Int))]):=by
 have hE:=Dt b
 have hM:=Er b
 have h3:Ag b≠3:=fun h3=>by
  refine h (.inr ?_)
  have hpn:Bu b=false:=hn
  unfold Bu at hpn
  have hlt:b<2^63:=by simpa using hpn
  unfold Ag at h3
  have hp:=G6 b
  unfold C8 at h3
  unfold Co at h3
  unfold Dy
  split at h3
  ·split at h3
   ·omega
   ·omega
  ·split at h3
   ·omega
   ·split at h3<;>omega
 have hm:Ar b≠0:=fun h0=>h (.inl ((Ha h3 h4).1 h0))
 have eN:Ar b*2^z*2^64=Ar b*2^(z+64):=by rw [Asi,← Asg]
 have i1:2^62≤P6 (Ar b*2^z*2^64):=X8 (t:=62) (by omega)
 have i2:=(Nl (Ar b*2^z*2^64)).1
 have i3:P6 (Ar b*2^z*2^64)<2^63:=by
  refine Zf (Asu i2 ?_)
  show _<9223372036854775808*9223372036854775808
  omega
 have r1:Qz ((Ar b*2^z:Nat):Int)=(P6 (Ar b*2^z*2^64):Int):=by unfold Qz; rw [Art]
 have r2:(!(Q0 ((Ar b*2^z:Nat):Int)))=decide (P6 (Ar b*2^z*2^64)*P6 (Ar b*2^z*2^64)≠Ar b*2^z*2^64):=by
  unfold Q0; rw [Art,← decide_not]
 obtain ⟨k1,k2⟩:=Ag0 hm
 have same:=Aek (m:=Ar b) (k:=z+64) (l:=Je b) (E:=(Ax b-(z:Int)) / 2-33) (F:=(Ax b-(Je b:Int)) / 2-1) (by rw [← eN]; omega) k1 (by omega)
 rw [← eN] at same
 have near:=Aeb (E:=(Ax b-(z:Int)) / 2-33) i1 _ rfl r2
 rw [same.1,same.2] at near
 have sq:Mm b=_:=Agp h4 h hn
 rw [r1,r2]
 rw [r2] at near
 generalize P6 (Ar b*2^z*2^64)=w at *
 have w1:H2 (4611686018427387904:Int) (w:Int)=true:=by rw [Ee]; exact Ars (by omega)
 have w2:Ct .u64 (w:Int) (1:Int)=((w / 2:Nat):Int):=by rw [show (1:Int)=((1:Nat):Int) from rfl,Nw _ _ (by decide)]
 have w3:((Dq .u64 (w:Int) (1:Int))==(1:Int))=decide (w%2=1):=by
  rw [show Dq .u64 (w:Int) (1:Int)=((w%2^1:Nat):Int) from Gt 1 (by omega) (by decide),Ar7,beq_iff_eq,Ary]
  omega
 have w4:H2 (4611686018427387904:Int) ((w / 2:Nat):Int)=false:=by rw [Ee]; exact Arw (by omega)
 have w5:Ab (Ab (Int.tdiv (Ax b-(z:Int)+2) 2)-32)=(Ax b-(z:Int)) / 2-33+2:=by
  have:Int.tdiv (Ax b-(z:Int)+2) 2=(Ax b-(z:Int)) / 2+1:=by
   rw [Int.tdiv_eq_ediv]
   split<;>omega
  rw [this,Ao (x:=(Ax b-(z:Int)) / 2+1) (by omega) (by omega),Ao (by omega) (by omega)]
  omega
 have w6:Ab (Ax b-(z:Int)+2)=Ax b-(z:Int)+2:=Ao (by omega) (by omega)
 generalize hs:decide (w*w≠Ar b*2^z*2^64)=s at *
 have pre:Dk ((w / 2:Nat):Int) ((Ax b-(z:Int)) / 2-33+2) (bif s then true else decide (w%2=1))=true:=Al.2 ⟨by omega,by omega,by omega,by omega,fun _=>.inl (by omega)⟩
 rw [show (2:Nat)=1+1 from rfl,root.Sqrt.Au,w1,Arr,w2,w3,w6,show (1:Nat)=0+1 from rfl,root.Sqrt.Au,w4,Arv,w5,pre,Arr]
 unfold Dw Dv Gw M3
 rw [Art,Art,near,sq]
theorem root.Sqrt.known:root.Sqrt.Kn:=root.Sqrt.Ad (.cons B5.Bm.known (.cons root.Ex.known (.cons soft.Kind.known (.cons soft.Cq.known (.cons soft.Ea.known (.cons soft.Sign.known .nil)))))) fun a hp=>by
 obtain ⟨b,rfl,hb⟩:=Bt (x:=a) hp
 refine ⟨2,root.Sqrt.out [.i b],[],?_,Wk.E5 (.cons .int (.cons .int .nil))⟩
 show _=some (DV.tup [.int .u64 (Gw (b:Int)),.int .u8 (M3 (b:Int))])
 have hk:Ba (b:Int)=(Ag b:Int):=rfl
 rw [root.Sqrt.ev,B6 hb,Arr,Arr,Arr,Arr,hk]
 by_cases h4:Ag b=4
 ·rw [h4,show (((4:Nat):Int)==(4:Int))=true from rfl,Arr]
  unfold Gw M3
  rw [Art,Ze h4]; rfl
 have k4:(((Ag b:Nat):Int)==(4:Int))=false:=by rw [Asn]; omega
 rw [k4,Arv]
 by_cases h0:Ag b=0
 ·rw [h0,show (((0:Nat):Int)==(0:Int))=true from rfl,Arr]
  unfold Gw M3
  rw [Art,Rj h4 (.inl h0)]; rfl
 have k0:(((Ag b:Nat):Int)==(0:Int))=false:=by rw [Asn]; omega
 rw [k0,Arv]
 by_cases hi:b=Dy
 ·rw [show (((b:Nat):Int)==(9218868437227405312:Int))=true by rw [hi]; rfl,Arr]
  unfold Gw M3
  rw [Art,Rj h4 (.inr hi)]; rfl
 have ki:(((b:Nat):Int)==(9218868437227405312:Int))=false:=by
  rw [Asn]; intro hh; refine hi (show b=9218868437227405312 from ?_); omega
 rw [ki,Arv]
 have hh:¬ (Ag b=0∨b=Dy):=by rintro (h | h); exact h0 h; exact hi h
 have hneg:C9 (b:Int)=Bu b:=rfl
 rw [hneg]
 cases hn:Bu b with
 | true =>
   rw [Arr]
   unfold Gw M3
   rw [Art,Zd h4 hh hn]; rfl
 | false =>
   rw [Arv]
   have hm:Ar b≠0:=fun hz=>by
    have h3:Ag b≠3:=fun h3=>by
     rcases Gh b with ⟨p,_,_⟩ | ⟨_,_,q⟩ | ⟨_,q,_⟩
     ·unfold Ar at hz
      rw [Asd (by omega)] at hz
      omega
     ·omega
     ·exact q h3
    exact hh (.inl ((Ha h3 h4).1 hz))
   have hM:=Er b
   have hE:=Dt b
   have hl:(Ar b).log2≤52:=by have:=(As8 hm).2 (show Ar b<2^53 by omega); omega
   have e1:Bk (b:Int)=(Ar b:Int):=rfl
   have e2:A7 (b:Int)=Ax b:=rfl
   have l1:∀ z:Nat,(Ar b).log2+z=60∨(Ar b).log2+z=61→2^60≤Ar b*2^z∧Ar b*2^z<2^62:=by
    intro z hz
    have hlz:=Kc (Ar b) z hm
    have hne:Ar b*2^z≠0:=Gf hm
    constructor
    ·rw [← Nat.le_log2 hne]; omega
    ·rw [← As8 hne]; omega
   have ez:Ab ((64-(((Ar b).log2:Int)+1))-(2:Int))=((61-(Ar b).log2:Nat):Int):=by rw [Ao (by omega) (by omega)]; omega
   have ez':Ab (((61-(Ar b).log2:Nat):Int)-(1:Int))=((60-(Ar b).log2:Nat):Int):=by rw [Ao (by omega) (by omega)]; omega
   rw [e1,e2,B6 (n:=Ar b) (by omega),Arr,Uw hm,ez,ez',Ao (x:=Ax b-((61-(Ar b).log2:Nat):Int)) (by omega) (by omega),Ao (x:=Ax b-((60-(Ar b).log2:Nat):Int)) (by omega) (by omega)]
   by_cases hp2:(Ax b-((61-(Ar b).log2:Nat):Int))%2=0
   ·have t0:(Int.tmod (Ax b-((61-(Ar b).log2:Nat):Int)) (2:Int) !=(0:Int))=false:=by
     rw [bne_eq_false_iff_eq]; exact Int.tmod_eq_zero_of_dvd (Int.dvd_of_emod_eq_zero hp2)
    obtain ⟨m1,m2⟩:=l1 (61-(Ar b).log2) (by omega)
    rw [t0,Arv,Ars (by omega),Arr,D8 _ _ (by omega),Ar4 (by omega),Al.2 (by omega),Arr]
    exact root.Sqrt.num hb h4 hh hn m1 m2 hp2 (by omega)
   ·have t0:(Int.tmod (Ax b-((61-(Ar b).log2:Nat):Int)) (2:Int) !=(0:Int))=true:=by
     rw [bne_iff_ne]; intro hz; exact hp2 (Int.emod_eq_zero_of_dvd (Int.dvd_of_tmod_eq_zero hz))
    obtain ⟨m1,m2⟩:=l1 (60-(Ar b).log2) (by omega)
    rw [t0,Arr,Ars (by omega),Arr,D8 _ _ (by omega),Ar4 (by omega),Al.2 (by omega),Arr]
    exact root.Sqrt.num hb h4 hh hn m1 m2 (by omega) (by omega)
theorem Ac.Sqrt.known:Ac.Sqrt.Kn:=Ac.Sqrt.Ad (.cons root.Sqrt.known .nil) fun a hp=>by
 have hp:Aj a=true:=hp
 refine ⟨0,Ac.Sqrt.out [.i a],[],?_,.int⟩
 rw [Ac.Sqrt.ev,hp]; rfl
theorem compare.P4.known:compare.P4.Kn:=compare.P4.Ad (.cons B5.Hx.known (.cons soft.Finite.known (.cons soft.Kind.known (.cons soft.Ea.known .nil)))) fun a hp=>by
 obtain ⟨b,rfl,hb⟩:=Bt (x:=a) hp
 refine ⟨0,compare.P4.out [.i b],[],?_,.int⟩
 show _=some (DV.int .i64 (Bn (b:Int)))
 have hk:Ba (b:Int)=(Ag b:Int):=rfl
 have hf:Da (b:Int)=Ii b:=rfl
 have hE:=Dt b
 have hM:=Er b
 rw [compare.P4.ev,B6 hb,Arr,As4,Arr,hk,hf]
 unfold Bn
 rw [Art]
 unfold Ain
 cases hfin:Ii b with
 | false=>rfl
 | true =>
   by_cases h0:Ag b=0
   ·rw [h0]; rfl
   ·have k0:(((Ag b:Nat):Int)==(0:Int))=false:=by rw [Asn]; omega
    have hm:Ar b≠0:=fun hz=>by
     obtain ⟨f4,f3⟩:=Q8 hfin
     exact h0 ((Ha f3 f4).1 hz)
    have hl:(Ar b).log2≤52:=by have:=(As8 hm).2 (show Ar b<2^53 by omega); omega
    have e1:Bk (b:Int)=(Ar b:Int):=rfl
    have e2:A7 (b:Int)=Ax b:=rfl
    rw [k0,Ase ⟨rfl,h0⟩,Asr,Bool.false_or,Arv,Arr,e1,e2,B6 (n:=Ar b) (by omega),Arr,Uw hm,Ao (x:=((Ar b).log2:Int)+1-1) (by omega) (by omega),Ao (by omega) (by omega)]
    congr 2; omega
theorem Ago {x:List Int} {i:Nat} (h:i<x.length) (k s:Int):Abh k s (x.drop i)=Abh k (Jh s (Hh (Bs (x.getD i 0) k) (Bs (x.getD i 0) k))) (x.drop (i+1)):=by
 rw [Jz h,Abh]
theorem Aey (N:Nat) {x:List Int} (hx:Cj x=true) (hl:x.length≤1000):∀ (k i F:Nat) (s:Int),i+k=x.length→k<F→Aj s=true →
 Ac.Norm.L0 N F x s (i:Int)=some (.tup [.int .u64 (Bs (Gw (Abh (-Bn (Bd x)) s (x.drop i))) (Bn (Bd x))),.int .i64 0]):=by
 obtain ⟨_,hu⟩:=Im hx
 have he:=Ail (Bd x)
 intro k
 induction k with
 | zero =>
   intro i F s hi hF hs
   obtain ⟨F,rfl⟩:∃ G,F=G+1:=⟨F-1,by omega⟩
   rw [Ac.Norm.Au,Av,Arw (by omega),Arv,hs,Arr,show C0 (Gw s) (Bn (Bd x))=true from Af.2 ⟨Ac4 hs,Al.2 (by omega)⟩,Arr,Ar5 (by omega)]
   rfl
 | succ k ih =>
   intro i F s hi hF hs
   obtain ⟨F,rfl⟩:∃ G,F=G+1:=⟨F-1,by omega⟩
   rw [Ac.Norm.Au,Av,Ars (show (i:Int)<(x.length:Int) by omega),Arr,Ars (show (0:Int)≤(i:Int) by omega),Arx,Arr,Art,Ao (x:=0-Bn (Bd x)) (by omega) (by omega),show (0:Int)-Bn (Bd x)=-Bn (Bd x) by omega,
    show C0 (getD x i 0) (-Bn (Bd x))=true from Af.2 ⟨hu i (by omega),Al.2 (by omega)⟩,Arr,Iu (hu i (by omega)),Arx,Arr,hs,Ry,Arx,Arr,Ago (by omega),Ao (by omega) (by omega)]
   exact ih (i+1) F _ (by omega) (by omega) (Aje hs (Ry _ _))
theorem Ac.Norm.known:Ac.Norm.Kn:=Ac.Norm.Ad (.cons compare.P4.known (.cons soft.Finite.known (.cons Ac.Add.known (.cons Ac.Ce.known (.cons Ac.Mul.known (.cons Ac.Bf.known (.cons Ac.Sqrt.known .nil))))))) fun x hp=>by
 obtain ⟨hx,hl⟩:=Af.1 (show (Cj x&&Br (length x≤64))=true from hp)
 have hl:=Al.1 hl
 refine ⟨65,Ac.Norm.out [.l x],[],?_,Wk.E5 (.cons .int (.cons .int .nil))⟩
 show _=some (DV.tup [.int .u64 (Db x),.int .i64 0])
 rw [Ac.Norm.ev,Av,Arw (by omega),Arv,hx,Arr,Vl,As4,Arr]
 unfold Db
 by_cases h:Bd x=0∨Da (Bd x)=false
 ·have:((Bd x==(0:Int))||(!(Da (Bd x))))=true:=by
   rcases h with h | h
   ·rw [h]; rfl
   ·rw [h,Atb,As4]
  rw [this,Arr,Ase h]
 ·have:((Bd x==(0:Int))||(!(Da (Bd x))))=false:=by
   rw [Bool.or_eq_false_iff,Asn,Bool.not_eq_false']
   refine ⟨fun h0=>h (.inl h0),?_⟩
   cases hf:Da (Bd x) with
   | true=>rfl
   | false=>exact absurd (.inr hf) h
  rw [this,Arv,Arr,Asd h]
  exact Aey 65 hx (by omega) x.length 0 65 0 (by omega) (by omega) Ji
set_option maxRecDepth 100000
namespace EqOf
def Aa.of.Fs.hint:Nat→Option Bc
 | 0=>some { keep:=[1,2,6,7,13,14],objs:=[(8,2,108002,.ints 32 .u64 [])],boxes:=[6,7] }
 | 2=>some { keep:=[1,2,6,7,8,13,14,17,18],objs:=[(8,2,108002,.ints 32 .u64 [])],boxes:=[6,7] }
 | _=>none
def Aa.of.Fs.Bh:List (Nat × Entry):=[(93,Aa.Fl.spec)]
def Aa.of.Fs.E:Env:=Bi (Bg Aa.of.Fs.Bh) (fun _=>false) Aa.of.Fs.hint (fun _=>none)
section
variable (N M0 M:Nat) (a b p8 p14_1 p18:Int) (p2:List Int) (p14:Int) (p2_1:List Int)
def Aa.of.Fs.L0:Option DV:=B3 Aa.of.Fs.E N f53 (Aq f53) [1,1,0,1,0] [] M ⟨G8 33 [(1,.int .i64 b),(2,.fn 93 [] []),(6,.ptr 6 0 0),(7,.ptr 7 0 0),(13,.int .i64 a),(14,.int .i64 p14)],[(6,false,.box [.int .i64 0,.int .i64 0,.nil]),(7,false,.box [.int .i64 a,.int .i64 b,.oref 108002]),(108002,false,.ints 32 .u64 p2_1)]⟩
def Aa.of.Fs.L1:Option DV:=B3 Aa.of.Fs.E N f53 (Aq f53) [1,1,0,1,0,0,1,1,0,0,1,1,0] [M0] M ⟨G8 33 [(1,.int .i64 b),(2,.fn 93 [] []),(6,.ptr 6 0 0),(7,.ptr 7 0 0),(8,.int .i64 p8),(13,.int .i64 a),(14,.int .i64 p14_1),(17,.int .i64 b),(18,.int .i64 p18)],[(6,false,.box [.int .i64 0,.int .i64 0,.nil]),(7,false,.box [.int .i64 a,.int .i64 b,.oref 108002]),(108002,false,.ints 32 .u64 p2)]⟩
theorem Aa.of.Fs.Au:Aa.of.Fs.L0 N (M+1) a b p14 p2_1=bif (A3 p14 a) then Aa.of.Fs.L1 N M N a b p14 p14 0 p2_1 else some (.agg [.int .i64 a,.int .i64 b,.ints (.own 108002 32) .u64 p2_1]):=by kernel_rfl
theorem Aa.of.Fs.C3:Aa.of.Fs.L1 N M0 (M+1) a b p8 p14_1 p18 p2=bif (A3 p18 b) then bif (decide ((length p2)+1≤Gy)) then Aa.of.Fs.L1 N M0 M a b p8 p14_1 (Ab (p18+1)) (p2++[(R7 p8 p18)]) else none else Aa.of.Fs.L0 N M0 a b (Ab (p14_1+1)) p2 :=
 Eq.trans (by kernel_rfl)
 (Eu (Df (Gc (decide ((length p2)+1≤Gy))) rfl rfl) rfl)
theorem Aa.of.Fs.ev:Bw Aa.of.Fs.E N f53 (Aq f53) [.int .i64 a,.int .i64 b,.fn 93 [] []] =
 Aa.of.Fs.L0 N N a b 0 []:=by kernel_rfl
end
abbrev _root_.Go.Proofs.S1.Aa.of.Fs.Kn:=A6 prog 53 Aa.of.Fs.spec
theorem Aa.of.Fs.Ad (hk:Ay prog Aa.of.Fs.Bh) (h:Hyp Aa.of.Fs.E f53 Aa.of.Fs.ts Aa.of.Fs.pre Aa.of.Fs.out):Aa.of.Fs.Kn :=
 Am (A2 hk _ _ _) func53 (by kernel_rfl) (by kernel_rfl) h
def Aa.of.Part.hint:Nat→Option Bc
 | 0=>some { keep:=[1,2,6,7,13,14],objs:=[(8,2,108002,.ints 32 .u64 [])],boxes:=[6,7] }
 | 2=>some { keep:=[1,2,6,7,8,13,14,17,18],objs:=[(8,2,108002,.ints 32 .u64 [])],boxes:=[6,7] }
 | _=>none
def Aa.of.Part.Bh:List (Nat × Entry):=[(58,Aa.D3.spec)]
def Aa.of.Part.E:Env:=Bi (Bg Aa.of.Part.Bh) (fun _=>false) Aa.of.Part.hint (fun _=>none)
section
variable (N M0 M:Nat) (a b r c:Int) (l:List Int) (x y p8 p14_1 p18:Int) (p2:List Int) (p14:Int) (p2_1:List Int)
def Aa.of.Part.L0:Option DV:=B3 Aa.of.Part.E N f53 (Aq f53) [1,1,0,1,0] [] M ⟨G8 33 [(1,.int .i64 b),(2,.fn 58 [] [.cellp [.int .i64 r,.int .i64 c,.ints .arg .u64 l],.cellp [.int .i64 x],.cellp [.int .i64 y]]),(6,.ptr 6 0 0),(7,.ptr 7 0 0),(13,.int .i64 a),(14,.int .i64 p14)],[(6,false,.box [.int .i64 0,.int .i64 0,.nil]),(7,false,.box [.int .i64 a,.int .i64 b,.oref 108002]),(108002,false,.ints 32 .u64 p2_1)]⟩
def Aa.of.Part.L1:Option DV:=B3 Aa.of.Part.E N f53 (Aq f53) [1,1,0,1,0,0,1,1,0,0,1,1,0] [M0] M ⟨G8 33 [(1,.int .i64 b),(2,.fn 58 [] [.cellp [.int .i64 r,.int .i64 c,.ints .arg .u64 l],.cellp [.int .i64 x],.cellp [.int .i64 y]]),(6,.ptr 6 0 0),(7,.ptr 7 0 0),(8,.int .i64 p8),(13,.int .i64 a),(14,.int .i64 p14_1),(17,.int .i64 b),(18,.int .i64 p18)],[(6,false,.box [.int .i64 0,.int .i64 0,.nil]),(7,false,.box [.int .i64 a,.int .i64 b,.oref 108002]),(108002,false,.ints 32 .u64 p2)]⟩
theorem Aa.of.Part.Au:Aa.of.Part.L0 N (M+1) a b r c l x y p14 p2_1=bif (A3 p14 a) then Aa.of.Part.L1 N M N a b r c l x y p14 p14 0 p2_1 else some (.agg [.int .i64 a,.int .i64 b,.ints (.own 108002 32) .u64 p2_1]):=by kernel_rfl
theorem Aa.of.Part.C3:Aa.of.Part.L1 N M0 (M+1) a b r c l x y p8 p14_1 p18 p2=bif (A3 p18 b) then bif (I4 r c l (x+p8) (y+p18)&&Rl x y p8 p18) then bif (decide ((length p2)+1≤Gy)) then Aa.of.Part.L1 N M0 M a b r c l x y p8 p14_1 (Ab (p18+1)) (p2++[(Mr c l (x+p8) (y+p18))]) else none else none else Aa.of.Part.L0 N M0 a b r c l x y (Ab (p14_1+1)) p2 :=
 Eq.trans (by kernel_rfl)
 (Eu (Df (Gc (I4 r c l (x+p8) (y+p18)&&Rl x y p8 p18)) (Df (Gc (decide ((length p2)+1≤Gy))) rfl rfl) rfl) rfl)
theorem Aa.of.Part.ev:Bw Aa.of.Part.E N f53 (Aq f53) [.int .i64 a,.int .i64 b,.fn 58 [] [.cellp [.int .i64 r,.int .i64 c,.ints .arg .u64 l],.cellp [.int .i64 x],.cellp [.int .i64 y]]] =
 Aa.of.Part.L0 N N a b r c l x y 0 []:=by kernel_rfl
end
abbrev _root_.Go.Proofs.S1.Aa.of.Part.Kn:=A6 prog 53 Aa.of.Part.spec
theorem Aa.of.Part.Ad (hk:Ay prog Aa.of.Part.Bh) (h:Hyp Aa.of.Part.E f53 Aa.of.Part.ts Aa.of.Part.pre Aa.of.Part.out):Aa.of.Part.Kn :=
 Am (A2 hk _ _ _) func53 (by kernel_rfl) (by kernel_rfl) h
def Aa.of.Stack.hint:Nat→Option Bc
 | 0=>some { keep:=[1,2,6,7,13,14],objs:=[(8,2,108002,.ints 32 .u64 [])],boxes:=[6,7] }
 | 2=>some { keep:=[1,2,6,7,8,13,14,17,18],objs:=[(8,2,108002,.ints 32 .u64 [])],boxes:=[6,7] }
 | _=>none
def Aa.of.Stack.Bh:List (Nat × Entry):=[(54,Aa.De.spec)]
def Aa.of.Stack.E:Env:=Bi (Bg Aa.of.Stack.Bh) (fun _=>false) Aa.of.Stack.hint (fun _=>none)
section
variable (N M0 M:Nat) (a b r c:Int) (l:List Int) (p q:Int) (m:List Int) (p8 p14_1 p18:Int) (p2:List Int) (p14:Int) (p2_1:List Int)
def Aa.of.Stack.L0:Option DV:=B3 Aa.of.Stack.E N f53 (Aq f53) [1,1,0,1,0] [] M ⟨G8 33 [(1,.int .i64 b),(2,.fn 54 [] [.cellp [.int .i64 r,.int .i64 c,.ints .arg .u64 l],.cellp [.int .i64 p,.int .i64 q,.ints .arg .u64 m]]),(6,.ptr 6 0 0),(7,.ptr 7 0 0),(13,.int .i64 a),(14,.int .i64 p14)],[(6,false,.box [.int .i64 0,.int .i64 0,.nil]),(7,false,.box [.int .i64 a,.int .i64 b,.oref 108002]),(108002,false,.ints 32 .u64 p2_1)]⟩
def Aa.of.Stack.L1:Option DV:=B3 Aa.of.Stack.E N f53 (Aq f53) [1,1,0,1,0,0,1,1,0,0,1,1,0] [M0] M ⟨G8 33 [(1,.int .i64 b),(2,.fn 54 [] [.cellp [.int .i64 r,.int .i64 c,.ints .arg .u64 l],.cellp [.int .i64 p,.int .i64 q,.ints .arg .u64 m]]),(6,.ptr 6 0 0),(7,.ptr 7 0 0),(8,.int .i64 p8),(13,.int .i64 a),(14,.int .i64 p14_1),(17,.int .i64 b),(18,.int .i64 p18)],[(6,false,.box [.int .i64 0,.int .i64 0,.nil]),(7,false,.box [.int .i64 a,.int .i64 b,.oref 108002]),(108002,false,.ints 32 .u64 p2)]⟩
theorem Aa.of.Stack.Au:Aa.of.Stack.L0 N (M+1) a b r c l p q m p14 p2_1=bif (A3 p14 a) then Aa.of.Stack.L1 N M N a b r c l p q m p14 p14 0 p2_1 else some (.agg [.int .i64 a,.int .i64 b,.ints (.own 108002 32) .u64 p2_1]):=by kernel_rfl
theorem Aa.of.Stack.C3:Aa.of.Stack.L1 N M0 (M+1) a b r c l p q m p8 p14_1 p18 p2=bif (A3 p18 b) then bif (J5 r c l p q m p8 p18) then bif (decide ((length p2)+1≤Gy)) then Aa.of.Stack.L1 N M0 M a b r c l p q m p8 p14_1 (Ab (p18+1)) (p2++[(J6 r c l q m p8 p18)]) else none else none else Aa.of.Stack.L0 N M0 a b r c l p q m (Ab (p14_1+1)) p2 :=
 Eq.trans (by kernel_rfl)
 (Eu (Df (Gc (J5 r c l p q m p8 p18)) (Df (Gc (decide ((length p2)+1≤Gy))) rfl rfl) rfl) rfl)
theorem Aa.of.Stack.ev:Bw Aa.of.Stack.E N f53 (Aq f53) [.int .i64 a,.int .i64 b,.fn 54 [] [.cellp [.int .i64 r,.int .i64 c,.ints .arg .u64 l],.cellp [.int .i64 p,.int .i64 q,.ints .arg .u64 m]]] =
 Aa.of.Stack.L0 N N a b r c l p q m 0 []:=by kernel_rfl
end
abbrev _root_.Go.Proofs.S1.Aa.of.Stack.Kn:=A6 prog 53 Aa.of.Stack.spec
theorem Aa.of.Stack.Ad (hk:Ay prog Aa.of.Stack.Bh) (h:Hyp Aa.of.Stack.E f53 Aa.of.Stack.ts Aa.of.Stack.pre Aa.of.Stack.out):Aa.of.Stack.Kn :=
 Am (A2 hk _ _ _) func53 (by kernel_rfl) (by kernel_rfl) h
def Aa.of.Mul.hint:Nat→Option Bc
 | 0=>some { keep:=[1,2,6,7,13,14],objs:=[(8,2,108002,.ints 32 .u64 [])],boxes:=[6,7] }
 | 2=>some { keep:=[1,2,6,7,8,13,14,17,18],objs:=[(8,2,108002,.ints 32 .u64 [])],boxes:=[6,7] }
 | _=>none
def Aa.of.Mul.Bh:List (Nat × Entry):=[(68,Aa.Fh.spec)]
def Aa.of.Mul.E:Env:=Bi (Bg Aa.of.Mul.Bh) (fun _=>false) Aa.of.Mul.hint (fun _=>none)
section
variable (N M0 M:Nat) (a b r c:Int) (l:List Int) (p q:Int) (m:List Int) (p8 p14_1 p18:Int) (p2:List Int) (p14:Int) (p2_1:List Int)
def Aa.of.Mul.L0:Option DV:=B3 Aa.of.Mul.E N f53 (Aq f53) [1,1,0,1,0] [] M ⟨G8 33 [(1,.int .i64 b),(2,.fn 68 [] [.cellp [.int .i64 r,.int .i64 c,.ints .arg .u64 l],.cellp [.int .i64 p,.int .i64 q,.ints .arg .u64 m]]),(6,.ptr 6 0 0),(7,.ptr 7 0 0),(13,.int .i64 a),(14,.int .i64 p14)],[(6,false,.box [.int .i64 0,.int .i64 0,.nil]),(7,false,.box [.int .i64 a,.int .i64 b,.oref 108002]),(108002,false,.ints 32 .u64 p2_1)]⟩
def Aa.of.Mul.L1:Option DV:=B3 Aa.of.Mul.E N f53 (Aq f53) [1,1,0,1,0,0,1,1,0,0,1,1,0] [M0] M ⟨G8 33 [(1,.int .i64 b),(2,.fn 68 [] [.cellp [.int .i64 r,.int .i64 c,.ints .arg .u64 l],.cellp [.int .i64 p,.int .i64 q,.ints .arg .u64 m]]),(6,.ptr 6 0 0),(7,.ptr 7 0 0),(8,.int .i64 p8),(13,.int .i64 a),(14,.int .i64 p14_1),(17,.int .i64 b),(18,.int .i64 p18)],[(6,false,.box [.int .i64 0,.int .i64 0,.nil]),(7,false,.box [.int .i64 a,.int .i64 b,.oref 108002]),(108002,false,.ints 32 .u64 p2)]⟩
theorem Aa.of.Mul.Au:Aa.of.Mul.L0 N (M+1) a b r c l p q m p14 p2_1=bif (A3 p14 a) then Aa.of.Mul.L1 N M N a b r c l p q m p14 p14 0 p2_1 else some (.agg [.int .i64 a,.int .i64 b,.ints (.own 108002 32) .u64 p2_1]):=by kernel_rfl
theorem Aa.of.Mul.C3:Aa.of.Mul.L1 N M0 (M+1) a b r c l p q m p8 p14_1 p18 p2=bif (A3 p18 b) then bif (Pq r c l p q m p8 p18) then bif (decide ((length p2)+1≤Gy)) then Aa.of.Mul.L1 N M0 M a b r c l p q m p8 p14_1 (Ab (p18+1)) (p2++[(Oz (K1 c l p8) (Py p q m p18))]) else none else none else Aa.of.Mul.L0 N M0 a b r c l p q m (Ab (p14_1+1)) p2 :=
 Eq.trans (by kernel_rfl)
 (Eu (Df (Gc (Pq r c l p q m p8 p18)) (Df (Gc (decide ((length p2)+1≤Gy))) rfl rfl) rfl) rfl)
theorem Aa.of.Mul.ev:Bw Aa.of.Mul.E N f53 (Aq f53) [.int .i64 a,.int .i64 b,.fn 68 [] [.cellp [.int .i64 r,.int .i64 c,.ints .arg .u64 l],.cellp [.int .i64 p,.int .i64 q,.ints .arg .u64 m]]] =
 Aa.of.Mul.L0 N N a b r c l p q m 0 []:=by kernel_rfl
end
abbrev _root_.Go.Proofs.S1.Aa.of.Mul.Kn:=A6 prog 53 Aa.of.Mul.spec
theorem Aa.of.Mul.Ad (hk:Ay prog Aa.of.Mul.Bh) (h:Hyp Aa.of.Mul.E f53 Aa.of.Mul.ts Aa.of.Mul.pre Aa.of.Mul.out):Aa.of.Mul.Kn :=
 Am (A2 hk _ _ _) func53 (by kernel_rfl) (by kernel_rfl) h
def Aa.Fs.Bh:List (Nat × Entry):=[(53,Aa.of.Fs.spec),(90,Aa.size.spec)]
def Aa.Fs.E:Env:=Bi (Bg Aa.Fs.Bh) (fun _=>false) (fun _=>none) (fun _=>none)
theorem Aa.Fs.ev (N:Nat) (n:Int):Bw Aa.Fs.E N f62 (Aq f62) [.int .i64 n]=bif (!(B9 n)) then some (.tup [.agg [.int .i64 0,.int .i64 0,.nil],.int .i64 3]) else bif ((B9 n&&B9 n)) then some (.tup [.agg [.int .i64 n,.int .i64 n,.ints .fresh .u64 (Dr (toNat n) (toNat n) (fun j1 j2=>R7 j1 j2))],.int .i64 0]) else none:=by kernel_rfl
abbrev _root_.Go.Proofs.S1.Aa.Fs.Kn:=A6 prog 62 Aa.Fs.spec
theorem Aa.Fs.Ad (hk:Ay prog Aa.Fs.Bh) (h:Hyp Aa.Fs.E f62 Aa.Fs.ts Aa.Fs.pre Aa.Fs.out):Aa.Fs.Kn :=
 Am (A2 hk _ _ _) func62 (by kernel_rfl) (by kernel_rfl) h
def Aa.Part.Bh:List (Nat × Entry):=[(57,Aa.Check.spec),(53,Aa.of.Part.spec)]
def Aa.Part.E:Env:=Bi (Bg Aa.Part.Bh) (fun _=>false) (fun _=>none) (fun _=>none)
theorem Aa.Part.ev (N:Nat) (r c:Int) (l:List Int) (x y:Int) (a b:Int):Bw Aa.Part.E N f25 (Aq f25) [.agg [.int .i64 r,.int .i64 c,.ints .arg .u64 l],.int .i64 x,.int .i64 y,.int .i64 a,.int .i64 b]=bif ((Kf r c l) !=(0:Int)) then some (.tup [.agg [.int .i64 0,.int .i64 0,.nil],.int .i64 (Kf r c l)]) else bif ((((((((A3 x 0)||(A3 y 0))||(A3 a 0))||(A3 b 0))||(A3 r x))||(A3 c y))||(A3 (Ab (r-x)) a))||(A3 (Ab (c-y)) b)) then some (.tup [.agg [.int .i64 0,.int .i64 0,.nil],.int .i64 3]) else bif ((B9 a&&B9 b)&&Bo r c l&&Mo r c x y a b) then some (.tup [.agg [.int .i64 a,.int .i64 b,.ints .fresh .u64 (Dr (toNat a) (toNat b) (fun j1 j2=>Mr c l (x+j1) (y+j2)))],.int .i64 0]) else none :=
 Eq.trans (by kernel_rfl)
 (Eu rfl (Aw (Kl (A3 x 0)) (Aw (I9 (A3 x 0)) (Aw (Mt (A3 x 0)) (Aw (Abe (A3 x 0) (A3 y 0)) (Aw (Ad7 (A3 x 0) (A3 y 0)) (Aw (Ams (A3 x 0) (A3 y 0)) (Aw (Ajv (A3 x 0) (A3 y 0) (A3 a 0)) (Aw (Agk (A3 x 0) (A3 y 0) (A3 a 0)) (Aw (Amt (A3 x 0) (A3 y 0) (A3 a 0)) (Aw (Ajp (A3 x 0) (A3 y 0) (A3 a 0) (A3 b 0)) (Aw (Ajp (A3 x 0) (A3 y 0) (A3 a 0) (A3 b 0)) (Aw (Aof (A3 x 0) (A3 y 0) (A3 a 0) (A3 b 0)) (Aw (Aog (A3 x 0) (A3 y 0) (A3 a 0) (A3 b 0)) (Aw (Aoh (A3 x 0) (A3 y 0) (A3 a 0) (A3 b 0)) (Aw (Aoi (A3 x 0) (A3 y 0) (A3 a 0) (A3 b 0) (A3 r x)) (Aw (Aoi (A3 x 0) (A3 y 0) (A3 a 0) (A3 b 0) (A3 r x)) (Aw (Ap7 (A3 x 0) (A3 y 0) (A3 a 0) (A3 b 0) (A3 r x)) (Aw (Ap8 (A3 x 0) (A3 y 0) (A3 a 0) (A3 b 0) (A3 r x)) (Aw (Ap9 (A3 x 0) (A3 y 0) (A3 a 0) (A3 b 0) (A3 r x)) (Aw (Amm (A3 x 0) (A3 y 0) (A3 a 0) (A3 b 0) (A3 r x) (A3 c y)) (Aw (Amm (A3 x 0) (A3 y 0) (A3 a 0) (A3 b 0) (A3 r x) (A3 c y)) (Aw (Aqa (A3 x 0) (A3 y 0) (A3 a 0) (A3 b 0) (A3 r x) (A3 c y)) (Aw (Amm (A3 x 0) (A3 y 0) (A3 a 0) (A3 b 0) (A3 r x) (A3 c y)) (Aw (Aoj (A3 x 0) (A3 y 0) (A3 a 0) (A3 b 0) (A3 r x) (A3 c y)) (Aw (Aoj (A3 x 0) (A3 y 0) (A3 a 0) (A3 b 0) (A3 r x) (A3 c y)) (Aw (Aqb (A3 x 0) (A3 y 0) (A3 a 0) (A3 b 0) (A3 r x) (A3 c y)) (Aw (Amn (A3 x 0) (A3 y 0) (A3 a 0) (A3 b 0) (A3 r x) (A3 c y) (A3 (Ab (r-x)) a)) (Aw (Amn (A3 x 0) (A3 y 0) (A3 a 0) (A3 b 0) (A3 r x) (A3 c y) (A3 (Ab (r-x)) a)) (Aw (Aqc (A3 x 0) (A3 y 0) (A3 a 0) (A3 b 0) (A3 r x) (A3 c y) (A3 (Ab (r-x)) a)) (Aw (Amn (A3 x 0) (A3 y 0) (A3 a 0) (A3 b 0) (A3 r x) (A3 c y) (A3 (Ab (r-x)) a)) (Aw (Aok (A3 x 0) (A3 y 0) (A3 a 0) (A3 b 0) (A3 r x) (A3 c y) (A3 (Ab (r-x)) a)) (Aw (Aok (A3 x 0) (A3 y 0) (A3 a 0) (A3 b 0) (A3 r x) (A3 c y) (A3 (Ab (r-x)) a)) (Aw (Aqd (A3 x 0) (A3 y 0) (A3 a 0) (A3 b 0) (A3 r x) (A3 c y) (A3 (Ab (r-x)) a)) (Df (Aqe (A3 x 0) (A3 y 0) (A3 a 0) (A3 b 0) (A3 r x) (A3 c y) (A3 (Ab (r-x)) a) (A3 (Ab (c-y)) b)) rfl rfl)))))))))))))))))))))))))))))))))))
abbrev _root_.Go.Proofs.S1.Aa.Part.Kn:=A6 prog 25 Aa.Part.spec
theorem Aa.Part.Ad (hk:Ay prog Aa.Part.Bh) (h:Hyp Aa.Part.E f25 Aa.Part.ts Aa.Part.pre Aa.Part.out):Aa.Part.Kn :=
 Am (A2 hk _ _ _) func25 (by kernel_rfl) (by kernel_rfl) h
def Aa.Stack.Bh:List (Nat × Entry):=[(53,Aa.of.Stack.spec),(52,Aa.two.spec)]
def Aa.Stack.E:Env:=Bi (Bg Aa.Stack.Bh) (fun _=>false) (fun _=>none) (fun _=>none)
theorem Aa.Stack.ev (N:Nat) (r c:Int) (l:List Int) (p q:Int) (m:List Int):Bw Aa.Stack.E N f23 (Aq f23) [.agg [.int .i64 r,.int .i64 c,.ints .arg .u64 l],.agg [.int .i64 p,.int .i64 q,.ints .arg .u64 m]]=bif ((Tr r c l p q m) !=(0:Int)) then some (.tup [.agg [.int .i64 0,.int .i64 0,.nil],.int .i64 (Tr r c l p q m)]) else bif ((c !=q)||(A3 6 (Ab (r+p)))) then some (.tup [.agg [.int .i64 0,.int .i64 0,.nil],.int .i64 3]) else bif ((B9 (Ab (r+p))&&B9 c)&&(Bo r c l&&Bo p q m)&&decide ((Ab (r+p))=r+p∧c=c∧q=c)) then some (.tup [.agg [.int .i64 (Ab (r+p)),.int .i64 c,.ints .fresh .u64 (Dr (toNat (Ab (r+p))) (toNat c) (fun j1 j2=>J6 r c l q m j1 j2))],.int .i64 0]) else none :=
 Eq.trans (by kernel_rfl)
 (Eu rfl (Aw (Kl (c !=q)) (Aw (I9 (c !=q)) (Aw (Kl (c !=q)) (Aw (I9 (c !=q)) (Aw (Ajt (c !=q)) (Aw (I9 (c !=q)) (Aw (Mt (c !=q)) (Df (Ts (c !=q) (A3 6 (Ab (r+p)))) rfl rfl)))))))))
abbrev _root_.Go.Proofs.S1.Aa.Stack.Kn:=A6 prog 23 Aa.Stack.spec
theorem Aa.Stack.Ad (hk:Ay prog Aa.Stack.Bh) (h:Hyp Aa.Stack.E f23 Aa.Stack.ts Aa.Stack.pre Aa.Stack.out):Aa.Stack.Kn :=
 Am (A2 hk _ _ _) func23 (by kernel_rfl) (by kernel_rfl) h
def Aa.Mul.Bh:List (Nat × Entry):=[(53,Aa.of.Mul.spec),(52,Aa.two.spec)]
def Aa.Mul.E:Env:=Bi (Bg Aa.Mul.Bh) (fun _=>false) (fun _=>none) (fun _=>none)
theorem Aa.Mul.ev (N:Nat) (r c:Int) (l:List Int) (p q:Int) (m:List Int):Bw Aa.Mul.E N f27 (Aq f27) [.agg [.int .i64 r,.int .i64 c,.ints .arg .u64 l],.agg [.int .i64 p,.int .i64 q,.ints .arg .u64 m]]=bif ((Tr r c l p q m) !=(0:Int)) then some (.tup [.agg [.int .i64 0,.int .i64 0,.nil],.int .i64 (Tr r c l p q m)]) else bif (c !=p) then some (.tup [.agg [.int .i64 0,.int .i64 0,.nil],.int .i64 3]) else bif ((B9 r&&B9 q)&&((Bo r c l&&Bo p q m)&&(A1 l&&A1 m))&&decide (r=r∧q=q∧c=p)) then some (.tup [.agg [.int .i64 r,.int .i64 q,.ints .fresh .u64 (Dr (toNat r) (toNat q) (fun j1 j2=>Oz (K1 c l j1) (Py p q m j2)))],.int .i64 0]) else none:=by kernel_rfl
abbrev _root_.Go.Proofs.S1.Aa.Mul.Kn:=A6 prog 27 Aa.Mul.spec
theorem Aa.Mul.Ad (hk:Ay prog Aa.Mul.Bh) (h:Hyp Aa.Mul.E f27 Aa.Mul.ts Aa.Mul.pre Aa.Mul.out):Aa.Mul.Kn :=
 Am (A2 hk _ _ _) func27 (by kernel_rfl) (by kernel_rfl) h
end EqOf
open EqOf
theorem of.Fs.inner (N:Nat)  {A B:Nat} (hA:A≤6) (hB:B≤6) {F:Nat→Nat→Int} (hF:∀ i j:Nat,F i j=R7 (i:Int) (j:Int)) {i:Nat} (hi:i<A):∀ (k j M0 M:Nat),j+k=B→k<M →
 Aa.of.Fs.L1 N M0 M (A:Int) (B:Int) (i:Int) (i:Int) (j:Int) (Dr i B F++(List.range j).map (F i))=Aa.of.Fs.L0 N M0 (A:Int) (B:Int) ((i+1:Nat):Int) (Dr (i+1) B F):=by
 intro k
 induction k with
 | zero =>
   intro j M0 M hj hM
   obtain ⟨M,rfl⟩:∃ G,M=G+1:=⟨M-1,by omega⟩
   obtain rfl:j=B:=by omega
   rw [Aa.of.Fs.C3,Av,Arw (by omega),Arv,Ao (by omega) (by omega),← Oq]
   rfl
 | succ k ih =>
   intro j M0 M hj hM
   obtain ⟨M,rfl⟩:∃ G,M=G+1:=⟨M-1,by omega⟩
   have d:decide ((Dr i B F++(List.range j).map (F i)).length+1≤Gy)=true:=by
    refine Ars ?_
    have:=Aso (show i≤6 by omega) hB
    rw [Asj,Cs,Asy,Asv]; unfold Gy; omega
   rw [Aa.of.Fs.C3,Av,Ars (by omega),Arr,d,Arr,Ao (by omega) (by omega),← hF i j]
   have:=ih (j+1) M0 M (by omega) (by omega)
   rw [Ld,← List.append_assoc] at this
   exact this
theorem of.Fs.outer (N:Nat)  {A B:Nat} (hA:A≤6) (hB:B≤6) (hN:6<N) {F:Nat→Nat→Int} (hF:∀ i j:Nat,F i j=R7 (i:Int) (j:Int)):∀ (k i M:Nat),i+k=A→k<M →
 Aa.of.Fs.L0 N M (A:Int) (B:Int) (i:Int) (Dr i B F)=some (.agg [.int .i64 (A:Int),.int .i64 (B:Int),.ints (.own 108002 tB) .u64 (Dr A B F)]):=by
 intro k
 induction k with
 | zero =>
   intro i M hi hM
   obtain ⟨M,rfl⟩:∃ G,M=G+1:=⟨M-1,by omega⟩
   obtain rfl:i=A:=by omega
   rw [Aa.of.Fs.Au,Av,Arw (by omega),Arv]
 | succ k ih =>
   intro i M hi hM
   obtain ⟨M,rfl⟩:∃ G,M=G+1:=⟨M-1,by omega⟩
   have n:=of.Fs.inner N hA hB hF (show i<A by omega) B 0 M N (by omega) (by omega)
   rw [List.range_zero,List.map_nil,List.append_nil] at n
   rw [Aa.of.Fs.Au,Av,Ars (by omega),Arr]
   exact n.trans (ih (i+1) M (by omega) (by omega))
theorem Aa.of.Fs.known:Aa.of.Fs.Kn:=Aa.of.Fs.Ad (.cons Aa.Fl.known .nil) fun a b hp=>by
 have h1:(B9 a&&B9 b)=true:=hp
 obtain ⟨ha,hb⟩:=Af.1 h1
 obtain ⟨A,rfl,hA⟩:=It ha
 obtain ⟨B,rfl,hB⟩:=It hb
 refine ⟨8,.agg [.int .i64 (A:Int),.int .i64 (B:Int),.ints (.own 108002 tB) .u64 (Dr A B fun (i j:Nat)=>R7 (i:Int) (j:Int))],[108002],?_,Wk.I5 (.cons .int (.cons .int (.cons (.drop _ _ _ _ (List.mem_singleton.2 rfl)) .nil)))⟩
 rw [Aa.of.Fs.ev]
 have n:=of.Fs.outer 8 hA hB (by omega) (F:=fun (i j:Nat)=>R7 (i:Int) (j:Int)) (fun _ _=>rfl) A 0 8 (by omega) (by omega)
 rw [Oo] at n
 exact n
theorem of.Part.inner (N:Nat) (r c:Int) (l:List Int) (x y:Int) {A B:Nat} (hA:A≤6) (hB:B≤6) {F:Nat→Nat→Int} (hF:∀ i j:Nat,F i j=Mr c l (x+(i:Int)) (y+(j:Int))) {i:Nat} (hi:i<A) (hp:∀ j:Nat,j<B→(I4 r c l (x+(i:Int)) (y+(j:Int))&&Rl x y (i:Int) (j:Int))=true):∀ (k j M0 M:Nat),j+k=B→k<M →
 Aa.of.Part.L1 N M0 M (A:Int) (B:Int) r c l x y (i:Int) (i:Int) (j:Int) (Dr i B F++(List.range j).map (F i))=Aa.of.Part.L0 N M0 (A:Int) (B:Int) r c l x y ((i+1:Nat):Int) (Dr (i+1) B F):=by
 intro k
 induction k with
 | zero =>
   intro j M0 M hj hM
   obtain ⟨M,rfl⟩:∃ G,M=G+1:=⟨M-1,by omega⟩
   obtain rfl:j=B:=by omega
   rw [Aa.of.Part.C3,Av,Arw (by omega),Arv,Ao (by omega) (by omega),← Oq]
   rfl
 | succ k ih =>
   intro j M0 M hj hM
   obtain ⟨M,rfl⟩:∃ G,M=G+1:=⟨M-1,by omega⟩
   have d:decide ((Dr i B F++(List.range j).map (F i)).length+1≤Gy)=true:=by
    refine Ars ?_
    have:=Aso (show i≤6 by omega) hB
    rw [Asj,Cs,Asy,Asv]; unfold Gy; omega
   rw [Aa.of.Part.C3,Av,Ars (by omega),Arr,hp j (by omega),Arr,d,Arr,Ao (by omega) (by omega),← hF i j]
   have:=ih (j+1) M0 M (by omega) (by omega)
   rw [Ld,← List.append_assoc] at this
   exact this
theorem of.Part.outer (N:Nat) (r c:Int) (l:List Int) (x y:Int) {A B:Nat} (hA:A≤6) (hB:B≤6) (hN:6<N) {F:Nat→Nat→Int} (hF:∀ i j:Nat,F i j=Mr c l (x+(i:Int)) (y+(j:Int))) (hp:∀ i j:Nat,i<A→j<B→(I4 r c l (x+(i:Int)) (y+(j:Int))&&Rl x y (i:Int) (j:Int))=true):∀ (k i M:Nat),i+k=A→k<M →
 Aa.of.Part.L0 N M (A:Int) (B:Int) r c l x y (i:Int) (Dr i B F)=some (.agg [.int .i64 (A:Int),.int .i64 (B:Int),.ints (.own 108002 tB) .u64 (Dr A B F)]):=by
 intro k
 induction k with
 | zero =>
   intro i M hi hM
   obtain ⟨M,rfl⟩:∃ G,M=G+1:=⟨M-1,by omega⟩
   obtain rfl:i=A:=by omega
   rw [Aa.of.Part.Au,Av,Arw (by omega),Arv]
 | succ k ih =>
   intro i M hi hM
   obtain ⟨M,rfl⟩:∃ G,M=G+1:=⟨M-1,by omega⟩
   have n:=of.Part.inner N r c l x y hA hB hF (show i<A by omega) (fun j hj=>hp i j (by omega) hj) B 0 M N (by omega) (by omega)
   rw [List.range_zero,List.map_nil,List.append_nil] at n
   rw [Aa.of.Part.Au,Av,Ars (by omega),Arr]
   exact n.trans (ih (i+1) M (by omega) (by omega))
theorem Aa.of.Part.known:Aa.of.Part.Kn:=Aa.of.Part.Ad (.cons Aa.D3.known .nil) fun a b r c l x y hp=>by
 obtain ⟨h12,hy⟩:=Af.1 (show (((B9 a&&B9 b)&&Bo r c l)&&Mo r c x y a b)=true from hp)
 obtain ⟨h1,hx⟩:=Af.1 h12
 have h2:=Af.2 ⟨hx,hy⟩
 obtain ⟨ha,hb⟩:=Af.1 h1
 obtain ⟨A,rfl,hA⟩:=It ha
 obtain ⟨B,rfl,hB⟩:=It hb
 obtain ⟨hr,he⟩:=Af.1 h2
 have he:=Ash he
 have hs:=Gn.1 hr
 have hp:∀ i j:Nat,i<A→j<B→(I4 r c l (x+(i:Int)) (y+(j:Int))&&Rl x y (i:Int) (j:Int))=true:=fun i j hi hj =>
  Af.2 ⟨Nx hr (by omega) (by omega) (by omega) (by omega) r,Al.2 (by omega)⟩
 refine ⟨8,.agg [.int .i64 (A:Int),.int .i64 (B:Int),.ints (.own 108002 tB) .u64 (Dr A B fun (i j:Nat)=>Mr c l (x+(i:Int)) (y+(j:Int)))],[108002],?_,Wk.I5 (.cons .int (.cons .int (.cons (.drop _ _ _ _ (List.mem_singleton.2 rfl)) .nil)))⟩
 rw [Aa.of.Part.ev]
 have n:=of.Part.outer 8 r c l x y hA hB (by omega) (F:=fun (i j:Nat)=>Mr c l (x+(i:Int)) (y+(j:Int))) (fun _ _=>rfl) hp A 0 8 (by omega) (by omega)
 rw [Oo] at n
 exact n
theorem of.Stack.inner (N:Nat) (r c:Int) (l:List Int) (p q:Int) (m:List Int) {A B:Nat} (hA:A≤6) (hB:B≤6) {F:Nat→Nat→Int} (hF:∀ i j:Nat,F i j=J6 r c l q m (i:Int) (j:Int)) {i:Nat} (hi:i<A) (hp:∀ j:Nat,j<B→J5 r c l p q m (i:Int) (j:Int)=true):∀ (k j M0 M:Nat),j+k=B→k<M →
 Aa.of.Stack.L1 N M0 M (A:Int) (B:Int) r c l p q m (i:Int) (i:Int) (j:Int) (Dr i B F++(List.range j).map (F i))=Aa.of.Stack.L0 N M0 (A:Int) (B:Int) r c l p q m ((i+1:Nat):Int) (Dr (i+1) B F):=by
 intro k
 induction k with
 | zero =>
   intro j M0 M hj hM
   obtain ⟨M,rfl⟩:∃ G,M=G+1:=⟨M-1,by omega⟩
   obtain rfl:j=B:=by omega
   rw [Aa.of.Stack.C3,Av,Arw (by omega),Arv,Ao (by omega) (by omega),← Oq]
   rfl
 | succ k ih =>
   intro j M0 M hj hM
   obtain ⟨M,rfl⟩:∃ G,M=G+1:=⟨M-1,by omega⟩
   have d:decide ((Dr i B F++(List.range j).map (F i)).length+1≤Gy)=true:=by
    refine Ars ?_
    have:=Aso (show i≤6 by omega) hB
    rw [Asj,Cs,Asy,Asv]; unfold Gy; omega
   rw [Aa.of.Stack.C3,Av,Ars (by omega),Arr,hp j (by omega),Arr,d,Arr,Ao (by omega) (by omega),← hF i j]
   have:=ih (j+1) M0 M (by omega) (by omega)
   rw [Ld,← List.append_assoc] at this
   exact this
theorem of.Stack.outer (N:Nat) (r c:Int) (l:List Int) (p q:Int) (m:List Int) {A B:Nat} (hA:A≤6) (hB:B≤6) (hN:6<N) {F:Nat→Nat→Int} (hF:∀ i j:Nat,F i j=J6 r c l q m (i:Int) (j:Int)) (hp:∀ i j:Nat,i<A→j<B→J5 r c l p q m (i:Int) (j:Int)=true):∀ (k i M:Nat),i+k=A→k<M →
 Aa.of.Stack.L0 N M (A:Int) (B:Int) r c l p q m (i:Int) (Dr i B F)=some (.agg [.int .i64 (A:Int),.int .i64 (B:Int),.ints (.own 108002 tB) .u64 (Dr A B F)]):=by
 intro k
 induction k with
 | zero =>
   intro i M hi hM
   obtain ⟨M,rfl⟩:∃ G,M=G+1:=⟨M-1,by omega⟩
   obtain rfl:i=A:=by omega
   rw [Aa.of.Stack.Au,Av,Arw (by omega),Arv]
 | succ k ih =>
   intro i M hi hM
   obtain ⟨M,rfl⟩:∃ G,M=G+1:=⟨M-1,by omega⟩
   have n:=of.Stack.inner N r c l p q m hA hB hF (show i<A by omega) (fun j hj=>hp i j (by omega) hj) B 0 M N (by omega) (by omega)
   rw [List.range_zero,List.map_nil,List.append_nil] at n
   rw [Aa.of.Stack.Au,Av,Ars (by omega),Arr]
   exact n.trans (ih (i+1) M (by omega) (by omega))
theorem Aa.of.Stack.known:Aa.of.Stack.Kn:=Aa.of.Stack.Ad (.cons Aa.De.known .nil) fun a b r c l p q m hp=>by
 obtain ⟨h12,hy⟩:=Af.1 (show (((B9 a&&B9 b)&&(Bo r c l&&Bo p q m))&&decide (a=r+p∧b=c∧q=c))=true from hp)
 obtain ⟨h1,hx⟩:=Af.1 h12
 have h2:=Af.2 ⟨hx,hy⟩
 obtain ⟨ha,hb⟩:=Af.1 h1
 obtain ⟨A,rfl,hA⟩:=It ha
 obtain ⟨B,rfl,hB⟩:=It hb
 obtain ⟨h3,he⟩:=Af.1 h2
 obtain ⟨hr,hm⟩:=Af.1 h3
 obtain ⟨e1,e2,e3⟩:=Ash he
 have hs:=Gn.1 hr
 have hp:∀ i j:Nat,i<A→j<B→J5 r c l p q m (i:Int) (j:Int)=true:=fun i j hi hj=>by
  refine Al.2 ⟨by omega,by omega,by omega,by omega,?_⟩
  by_cases h:(i:Int)<r
  ·rw [Ase h]; exact Nx hr (by omega) (by omega) (by omega) (by omega) r
  ·rw [Asd h]; exact Nx hm (by omega) (by omega) (by omega) (by omega) p
 refine ⟨8,.agg [.int .i64 (A:Int),.int .i64 (B:Int),.ints (.own 108002 tB) .u64 (Dr A B fun (i j:Nat)=>J6 r c l q m (i:Int) (j:Int))],[108002],?_,Wk.I5 (.cons .int (.cons .int (.cons (.drop _ _ _ _ (List.mem_singleton.2 rfl)) .nil)))⟩
 rw [Aa.of.Stack.ev]
 have n:=of.Stack.outer 8 r c l p q m hA hB (by omega) (F:=fun (i j:Nat)=>J6 r c l q m (i:Int) (j:Int)) (fun _ _=>rfl) hp A 0 8 (by omega) (by omega)
 rw [Oo] at n
 exact n
theorem of.Mul.inner (N:Nat) (r c:Int) (l:List Int) (p q:Int) (m:List Int) {A B:Nat} (hA:A≤6) (hB:B≤6) {F:Nat→Nat→Int} (hF:∀ i j:Nat,F i j=Oz (K1 c l (i:Int)) (Py p q m (j:Int))) {i:Nat} (hi:i<A) (hp:∀ j:Nat,j<B→Pq r c l p q m (i:Int) (j:Int)=true):∀ (k j M0 M:Nat),j+k=B→k<M →
 Aa.of.Mul.L1 N M0 M (A:Int) (B:Int) r c l p q m (i:Int) (i:Int) (j:Int) (Dr i B F++(List.range j).map (F i))=Aa.of.Mul.L0 N M0 (A:Int) (B:Int) r c l p q m ((i+1:Nat):Int) (Dr (i+1) B F):=by
 intro k
 induction k with
 | zero =>
   intro j M0 M hj hM
   obtain ⟨M,rfl⟩:∃ G,M=G+1:=⟨M-1,by omega⟩
   obtain rfl:j=B:=by omega
   rw [Aa.of.Mul.C3,Av,Arw (by omega),Arv,Ao (by omega) (by omega),← Oq]
   rfl
 | succ k ih =>
   intro j M0 M hj hM
   obtain ⟨M,rfl⟩:∃ G,M=G+1:=⟨M-1,by omega⟩
   have d:decide ((Dr i B F++(List.range j).map (F i)).length+1≤Gy)=true:=by
    refine Ars ?_
    have:=Aso (show i≤6 by omega) hB
    rw [Asj,Cs,Asy,Asv]; unfold Gy; omega
   rw [Aa.of.Mul.C3,Av,Ars (by omega),Arr,hp j (by omega),Arr,d,Arr,Ao (by omega) (by omega),← hF i j]
   have:=ih (j+1) M0 M (by omega) (by omega)
   rw [Ld,← List.append_assoc] at this
   exact this
theorem of.Mul.outer (N:Nat) (r c:Int) (l:List Int) (p q:Int) (m:List Int) {A B:Nat} (hA:A≤6) (hB:B≤6) (hN:6<N) {F:Nat→Nat→Int} (hF:∀ i j:Nat,F i j=Oz (K1 c l (i:Int)) (Py p q m (j:Int))) (hp:∀ i j:Nat,i<A→j<B→Pq r c l p q m (i:Int) (j:Int)=true):∀ (k i M:Nat),i+k=A→k<M →
 Aa.of.Mul.L0 N M (A:Int) (B:Int) r c l p q m (i:Int) (Dr i B F)=some (.agg [.int .i64 (A:Int),.int .i64 (B:Int),.ints (.own 108002 tB) .u64 (Dr A B F)]):=by
 intro k
 induction k with
 | zero =>
   intro i M hi hM
   obtain ⟨M,rfl⟩:∃ G,M=G+1:=⟨M-1,by omega⟩
   obtain rfl:i=A:=by omega
   rw [Aa.of.Mul.Au,Av,Arw (by omega),Arv]
 | succ k ih =>
   intro i M hi hM
   obtain ⟨M,rfl⟩:∃ G,M=G+1:=⟨M-1,by omega⟩
   have n:=of.Mul.inner N r c l p q m hA hB hF (show i<A by omega) (fun j hj=>hp i j (by omega) hj) B 0 M N (by omega) (by omega)
   rw [List.range_zero,List.map_nil,List.append_nil] at n
   rw [Aa.of.Mul.Au,Av,Ars (by omega),Arr]
   exact n.trans (ih (i+1) M (by omega) (by omega))
theorem Aa.of.Mul.known:Aa.of.Mul.Kn:=Aa.of.Mul.Ad (.cons Aa.Fh.known .nil) fun a b r c l p q m hp=>by
 obtain ⟨h12,hy⟩:=Af.1 (show (((B9 a&&B9 b)&&((Bo r c l&&Bo p q m)&&(A1 l&&A1 m)))&&decide (a=r∧b=q∧c=p))=true from hp)
 obtain ⟨h1,hx⟩:=Af.1 h12
 have h2:=Af.2 ⟨hx,hy⟩
 obtain ⟨ha,hb⟩:=Af.1 h1
 obtain ⟨A,rfl,hA⟩:=It ha
 obtain ⟨B,rfl,hB⟩:=It hb
 obtain ⟨h3,he⟩:=Af.1 h2
 obtain ⟨h4,h5⟩:=Af.1 h3
 obtain ⟨hr,hm⟩:=Af.1 h4
 obtain ⟨e1,e2,e3⟩:=Ash he
 have hp:∀ i j:Nat,i<A→j<B→Pq r c l p q m (i:Int) (j:Int)=true:=fun i j hi hj =>
  Af.2 ⟨Af.2 ⟨Af.2 ⟨hr,Al.2 (by omega)⟩,Af.2 ⟨hm,Al.2 (by omega)⟩⟩,Af.2 ⟨h5,Al.2 e3⟩⟩
 refine ⟨8,.agg [.int .i64 (A:Int),.int .i64 (B:Int),.ints (.own 108002 tB) .u64 (Dr A B fun (i j:Nat)=>Oz (K1 c l (i:Int)) (Py p q m (j:Int)))],[108002],?_,Wk.I5 (.cons .int (.cons .int (.cons (.drop _ _ _ _ (List.mem_singleton.2 rfl)) .nil)))⟩
 rw [Aa.of.Mul.ev]
 have n:=of.Mul.outer 8 r c l p q m hA hB (by omega) (F:=fun (i j:Nat)=>Oz (K1 c l (i:Int)) (Py p q m (j:Int))) (fun _ _=>rfl) hp A 0 8 (by omega) (by omega)
 rw [Oo] at n
 exact n
open EqOf
def Abw (x:MX):DV:=.tup [.agg [.int .i64 x.1,.int .i64 x.2.1,.ints .fresh .u64 x.2.2.1],.int .i64 x.2.2.2]
def Aq5 (e:Int):DV:=.tup [.agg [.int .i64 0,.int .i64 0,.nil],.int .i64 e]
theorem Xg {drops:List Nat} {x:MX}:Wk drops (Abw x) (Abw x) :=
 Wk.E5 (.cons (Wk.I5 (.cons .int (.cons .int (.cons .Nn .nil)))) (.cons .int .nil))
theorem Tq {drops:List Nat} {e:Int}:Wk drops (Aq5 e) (Abw (O5 e)) :=
 Wk.E5 (.cons (Wk.I5 (.cons .int (.cons .int (.cons (.nil _ _) .nil)))) (.cons .int .nil))
theorem Aa.Fs.known:Aa.Fs.Kn:=Aa.Fs.Ad (.cons Aa.of.Fs.known (.cons Aa.size.known .nil)) fun n _=>by
 show ∃ N dv drops,_=some dv∧Wk drops dv (Abw (F3 n))
 unfold F3
 by_cases h:B9 n=true
 ·rw [Ase h]
  exact ⟨0,_,[],by rw [Aa.Fs.ev,h]; rfl,Xg⟩
 ·have e:B9 n=false:=by simpa using h
  rw [Asd h]
  exact ⟨0,_,[],by rw [Aa.Fs.ev,e]; rfl,Tq⟩
theorem M6 {r c:Int} {l:List Int} (h:Bo r c l=true):B9 r=true∧B9 c=true:=by
 obtain ⟨h1,h2,_⟩:=Gn.1 h
 exact ⟨Gd.2 h1,Gd.2 h2⟩
theorem Wn {r c x y a b:Int} (hr:0≤r∧r≤6) (hc:0≤c∧c≤6) :
 ((((((((A3 x (0:Int))||(A3 y (0:Int)))||(A3 a (0:Int)))||(A3 b (0:Int)))||(A3 r x))||(A3 c y))||(A3 (Ab (r-x)) a))||(A3 (Ab (c-y)) b))=!(Mo r c x y a b):=by
 unfold Mo
 simp only [Av]
 by_cases h:0≤x∧0≤y∧x≤r∧y≤c
 ·rw [Ao (x:=r-x) (by omega) (by omega),Ao (x:=c-y) (by omega) (by omega),Ar7]
  simp only [Bool.or_eq_true,Ary,Bool.not_eq_true',Asa]
  omega
 ·have e:decide (0≤x∧0≤y∧0≤a∧0≤b∧x≤r∧y≤c∧a≤r-x∧b≤c-y)=false:=Arw (by omega)
  rw [e,Ar7]
  simp only [Bool.or_eq_true,Ary,Atb,iff_true]
  omega
theorem Abu {r c x y a b:Int} {l:List Int} (h:Bo r c l=true) (hp:Mo r c x y a b=true):B9 a=true∧B9 b=true:=by
 obtain ⟨h1,h2,_⟩:=Gn.1 h
 have:=Ash hp
 exact ⟨Gd.2 (by omega),Gd.2 (by omega)⟩
theorem Aa.Part.known:Aa.Part.Kn:=Aa.Part.Ad (.cons Aa.Check.known (.cons Aa.of.Part.known .nil)) fun r c l x y a b _=>by
 show ∃ N dv drops,_=some dv∧Wk drops dv (Abw (F7 r c l x y a b))
 unfold F7
 by_cases h:Bo r c l=true
 ·obtain ⟨h1,h2,_⟩:=Gn.1 h
  by_cases hp:Mo r c x y a b=true
  ·obtain ⟨s1,s2⟩:=Abu h hp
   rw [Ase h,Ase hp]
   exact ⟨0,_,[],by rw [Aa.Part.ev,Vf,Wn h1 h2,h,hp,s1,s2]; rfl,Xg⟩
  ·have e:Mo r c x y a b=false:=by simpa using hp
   rw [Ase h,Asd hp]
   exact ⟨0,_,[],by rw [Aa.Part.ev,Vf,Wn h1 h2,h,e]; rfl,Tq⟩
 ·have e:Bo r c l=false:=by simpa using h
  have ec:Kf r c l=1:=by unfold Kf; rw [e]; rfl
  rw [Asd h]
  exact ⟨0,_,[],by rw [Aa.Part.ev,Vf,e,ec]; rfl,Tq⟩
theorem Rg (r c:Int) (l:List Int) (p q:Int) (m:List Int):((Tr r c l p q m) !=(0:Int))=!(Bo r c l&&Bo p q m):=by
 unfold Tr
 cases Bo r c l&&Bo p q m<;>rfl
theorem Agg {r c:Int} {l:List Int} {p q:Int} {m:List Int} (h:(Bo r c l&&Bo p q m)=false):Tr r c l p q m=1:=by
 unfold Tr; rw [h]; rfl
theorem Aa.Mul.known:Aa.Mul.Kn:=Aa.Mul.Ad (.cons Aa.of.Mul.known (.cons Aa.two.known .nil)) fun r c l p q m hp=>by
 show ∃ N dv drops,_=some dv∧Wk drops dv (Abw (Ul r c l p q m))
 unfold Ul
 have hp:(A1 l&&A1 m)=true:=hp
 by_cases h:(Bo r c l&&Bo p q m)=true
 ·obtain ⟨h1,h2⟩:=Af.1 h
  by_cases hc:c=p
  ·have e:(c !=p)=false:=by rw [hc]; simp
   rw [Ase h,Ase hc]
   exact ⟨0,_,[],by rw [Aa.Mul.ev,Rg,h,e,(M6 h1).1,(M6 h2).2,hp,Ars ⟨rfl,rfl,hc⟩]; rfl,Xg⟩
  ·have e:(c !=p)=true:=by simpa using hc
   rw [Ase h,Asd hc]
   exact ⟨0,_,[],by rw [Aa.Mul.ev,Rg,h,e]; rfl,Tq⟩
 ·have e:(Bo r c l&&Bo p q m)=false:=by simpa using h
  rw [Asd h]
  exact ⟨0,_,[],by rw [Aa.Mul.ev,Rg,e,Agg e]; rfl,Tq⟩
theorem Aa.Stack.known:Aa.Stack.Kn:=Aa.Stack.Ad (.cons Aa.of.Stack.known (.cons Aa.two.known .nil)) fun r c l p q m _=>by
 show ∃ N dv drops,_=some dv∧Wk drops dv (Abw (J4 r c l p q m))
 unfold J4
 by_cases h:(Bo r c l&&Bo p q m)=true
 ·obtain ⟨h1,h2⟩:=Af.1 h
  obtain ⟨r1,c1,_⟩:=Gn.1 h1
  obtain ⟨p1,q1,_⟩:=Gn.1 h2
  have ew:Ab (r+p)=r+p:=Ao (by omega) (by omega)
  by_cases hc:c=q∧r+p≤6
  ·have e:((c !=q)||(A3 (6:Int) (r+p)))=false:=by rw [Av,hc.1]; simp; omega
   rw [Ase h,Ase hc]
   exact ⟨0,_,[],by rw [Aa.Stack.ev,ew,Rg,h,e,(M6 h1).2,Gd.2 (show 0≤r+p∧r+p≤6 by omega),Ars ⟨rfl,rfl,hc.1.symm⟩]; rfl,Xg⟩
  ·have e:((c !=q)||(A3 (6:Int) (r+p)))=true:=by rw [Av]; simp; omega
   rw [Ase h,Asd hc]
   exact ⟨0,_,[],by rw [Aa.Stack.ev,ew,Rg,h,e]; rfl,Tq⟩
 ·have e:(Bo r c l&&Bo p q m)=false:=by simpa using h
  rw [Asd h]
  exact ⟨0,_,[],by rw [Aa.Stack.ev,Rg,e,Agg e]; rfl,Tq⟩
namespace EqRef10
end EqRef10
open EqRef10
theorem Aba {drops:List Nat} {i:Nat} {e:TypeId} {a b:Int} {l:List Int} (h:i∈drops):Wk drops (.agg [.int .i64 a,.int .i64 b,.ints (.own i e) .u64 l]) (.agg [.int .i64 a,.int .i64 b,.ints .fresh .u64 l]) :=
 Wk.I5 (.cons .int (.cons .int (.cons (.drop _ _ _ _ h) .nil)))
theorem J0 {drops:List Nat} {a b:Int} {l:List Int}:Wk drops (.agg [.int .i64 a,.int .i64 b,.ints .fresh .u64 l]) (.agg [.int .i64 a,.int .i64 b,.ints .fresh .u64 l]) :=
 Wk.I5 (.cons .int (.cons .int (.cons .Nn .nil)))
open EqRef10
namespace EqHouse
def Ah.Cn.hint:Nat→Option Bc
 | 0=>some { keep:=[5,6,7],objs:=[],boxes:=[] }
 | _=>none
def Ah.Cn.Bh:List (Nat × Entry):=[(31,soft.Kind.spec)]
def Ah.Cn.E:Env:=Bi (Bg Ah.Cn.Bh) (fun _=>false) Ah.Cn.hint (fun _=>none)
section
variable (N M:Nat) (x:List Int) (p7:Int)
def Ah.Cn.L0:Option DV:=B3 Ah.Cn.E N f127 (Aq f127) [1,0,1,0] [] M ⟨G8 15 [(5,.ints .arg .u64 x),(6,.int .i64 (length x:Int)),(7,.int .i64 p7)],[]⟩
theorem Ah.Cn.Au:Ah.Cn.L0 N (M+1) x p7=bif (A3 p7 (length x:Int)) then bif ((decide (0≤p7))&&(decide (p7<(length x:Int)))) then bif (Aj (getD x (toNat p7) 0)) then bif ((Ba (getD x (toNat p7) 0)) !=(0:Int)) then some (.bool false) else Ah.Cn.L0 N M x (Ab (p7+1)) else none else none else some (.bool true):=by kernel_rfl
theorem Ah.Cn.ev:Bw Ah.Cn.E N f127 (Aq f127) [.ints .arg .u64 x] =
 Ah.Cn.L0 N N x 0:=by kernel_rfl
end
abbrev _root_.Go.Proofs.S1.Ah.Cn.Kn:=A6 prog 127 Ah.Cn.spec
theorem Ah.Cn.Ad (hk:Ay prog Ah.Cn.Bh) (h:Hyp Ah.Cn.E f127 Ah.Cn.ts Ah.Cn.pre Ah.Cn.out):Ah.Cn.Kn :=
 Am (A2 hk _ _ _) func127 (by kernel_rfl) (by kernel_rfl) h
def Ah.lead.hint:Nat→Option Bc
 | 0=>some { keep:=[5,6,7],objs:=[],boxes:=[] }
 | _=>none
def Ah.lead.Bh:List (Nat × Entry):=[(31,soft.Kind.spec)]
def Ah.lead.E:Env:=Bi (Bg Ah.lead.Bh) (fun _=>false) Ah.lead.hint (fun _=>none)
section
variable (N M:Nat) (x:List Int) (p7:Int)
def Ah.lead.L0:Option DV:=B3 Ah.lead.E N f131 (Aq f131) [1,0,1,0] [] M ⟨G8 16 [(5,.ints .arg .u64 x),(6,.int .i64 (length x:Int)),(7,.int .i64 p7)],[]⟩
theorem Ah.lead.Au:Ah.lead.L0 N (M+1) x p7=bif (A3 p7 (length x:Int)) then bif ((decide (0≤p7))&&(decide (p7<(length x:Int)))) then bif (Aj (getD x (toNat p7) 0)) then bif ((Ba (getD x (toNat p7) 0)) !=(0:Int)) then some (.int .u64 (getD x (toNat p7) 0)) else Ah.lead.L0 N M x (Ab (p7+1)) else none else none else some (.int .u64 0):=by kernel_rfl
theorem Ah.lead.ev:Bw Ah.lead.E N f131 (Aq f131) [.ints .arg .u64 x] =
 Ah.lead.L0 N N x 0:=by kernel_rfl
end
abbrev _root_.Go.Proofs.S1.Ah.lead.Kn:=A6 prog 131 Ah.lead.spec
theorem Ah.lead.Ad (hk:Ay prog Ah.lead.Bh) (h:Hyp Ah.lead.E f131 Ah.lead.ts Ah.lead.pre Ah.lead.out):Ah.lead.Kn :=
 Am (A2 hk _ _ _) func131 (by kernel_rfl) (by kernel_rfl) h
def Ah.Bj.hint:Nat→Option Bc
 | 0=>some { keep:=[1,5,8,9,10],objs:=[(0,5,100005,.ints 32 .u64 [])],boxes:=[] }
 | _=>none
def Ah.Bj.Bh:List (Nat × Entry):=[(7,Ac.Bf.spec)]
def Ah.Bj.E:Env:=Bi (Bg Ah.Bj.Bh) (fun _=>false) Ah.Bj.hint (fun _=>none)
section
variable (N M:Nat) (x:List Int) (k p10:Int) (p5:List Int)
def Ah.Bj.L0:Option DV:=B3 Ah.Bj.E N f130 (Aq f130) [1,1,0,1,0] [] M ⟨G8 22 [(1,.int .i64 k),(5,.oref 100005),(8,.ints .arg .u64 x),(9,.int .i64 (length x:Int)),(10,.int .i64 p10)],[(100005,false,.ints 32 .u64 p5)]⟩
theorem Ah.Bj.Au:Ah.Bj.L0 N (M+1) x k p10 p5=bif (A3 p10 (length x:Int)) then bif ((decide (0≤p10))&&(decide (p10<(length x:Int)))) then bif (C0 (getD x (toNat p10) 0) k) then bif (decide ((length p5)+1≤Gy)) then Ah.Bj.L0 N M x k (Ab (p10+1)) (p5++[(Bs (getD x (toNat p10) 0) k)]) else none else none else none else some (.ints (.own 100005 32) .u64 p5):=by kernel_rfl
theorem Ah.Bj.ev:Bw Ah.Bj.E N f130 (Aq f130) [.ints .arg .u64 x,.int .i64 k] =
 Ah.Bj.L0 N N x k 0 []:=by kernel_rfl
end
abbrev _root_.Go.Proofs.S1.Ah.Bj.Kn:=A6 prog 130 Ah.Bj.spec
theorem Ah.Bj.Ad (hk:Ay prog Ah.Bj.Bh) (h:Hyp Ah.Bj.E f130 Ah.Bj.ts Ah.Bj.pre Ah.Bj.out):Ah.Bj.Kn :=
 Am (A2 hk _ _ _) func130 (by kernel_rfl) (by kernel_rfl) h
def Ah.D5.Bh:List (Nat × Entry):=[]
def Ah.D5.E:Env:=Bi (Bg Ah.D5.Bh) (fun _=>false) (fun _=>none) (fun _=>none)
theorem Ah.D5.ev (N:Nat) (i:Int):Bw Ah.D5.E N f129 (Aq f129) [.int .i64 i]=some (.int .u64 0):=by kernel_rfl
abbrev _root_.Go.Proofs.S1.Ah.D5.Kn:=A6 prog 129 Ah.D5.spec
theorem Ah.D5.Ad (hk:Ay prog Ah.D5.Bh) (h:Hyp Ah.D5.E f129 Ah.D5.ts Ah.D5.pre Ah.D5.out):Ah.D5.Kn :=
 Am (A2 hk _ _ _) func129 (by kernel_rfl) (by kernel_rfl) h
def Ah.D4.Bh:List (Nat × Entry):=[(109,Ac.Div.spec)]
def Ah.D4.E:Env:=Bi (Bg Ah.D4.Bh) (fun _=>false) (fun _=>none) (fun _=>none)
theorem Ah.D4.ev (N:Nat) (i:Int) (y:List Int) (d:Int):Bw Ah.D4.E N f132 (Aq f132) [.int .i64 i,.cellp [.ints .arg .u64 y],.cellp [.int .u64 d]]=bif ((decide (0≤i))&&(decide (i<(length y:Int)))) then bif (Aj (getD y (toNat i) 0)&&Aj d) then some (.int .u64 (Gj (getD y (toNat i) 0) d)) else none else none :=
 Eq.trans (by kernel_rfl)
 (Df (tt4 (decide (0≤i)) (decide (i<(length y:Int)))) (Df (Gc (Aj (getD y (toNat i) 0)&&Aj d)) rfl rfl) rfl)
abbrev _root_.Go.Proofs.S1.Ah.D4.Kn:=A6 prog 132 Ah.D4.spec
theorem Ah.D4.Ad (hk:Ay prog Ah.D4.Bh) (h:Hyp Ah.D4.E f132 Ah.D4.ts Ah.D4.pre Ah.D4.out):Ah.D4.Kn :=
 Am (A2 hk _ _ _) func132 (by kernel_rfl) (by kernel_rfl) h
def Ah.row.Zero.hint:Nat→Option Bc
 | 0=>some { keep:=[0,1,5,6],objs:=[(0,5,100005,.ints 32 .u64 [])],boxes:=[] }
 | _=>none
def Ah.row.Zero.Bh:List (Nat × Entry):=[(129,Ah.D5.spec)]
def Ah.row.Zero.E:Env:=Bi (Bg Ah.row.Zero.Bh) (fun _=>false) Ah.row.Zero.hint (fun _=>none)
section
variable (N M:Nat) (n p6:Int) (p5:List Int)
def Ah.row.Zero.L0:Option DV:=B3 Ah.row.Zero.E N f128 (Aq f128) [1,1,0,1,0] [] M ⟨G8 23 [(0,.int .i64 n),(1,.fn 129 [] []),(5,.oref 100005),(6,.int .i64 p6)],[(100005,false,.ints 32 .u64 p5)]⟩
theorem Ah.row.Zero.Au:Ah.row.Zero.L0 N (M+1) n p6 p5=bif (A3 p6 n) then bif (decide ((length p5)+1≤Gy)) then Ah.row.Zero.L0 N M n (Ab (p6+1)) (p5++[(0:Int)]) else none else bif (((decide ((0:Int)≤n))&&(decide (n≤n)))&&((decide ((0:Int)≤n))&&(decide (n≤(length p5:Int))))) then some (.ints .fresh .u64 (List.take (toNat (n-0)) (List.drop 0 p5))) else none :=
 Eq.trans (by kernel_rfl)
 (Eu rfl (Df (Amk (decide ((0:Int)≤n)) (decide (n≤n)) (decide (n≤(length p5:Int)))) rfl rfl))
theorem Ah.row.Zero.ev:Bw Ah.row.Zero.E N f128 (Aq f128) [.int .i64 n,.fn 129 [] []] =
 Ah.row.Zero.L0 N N n 1 [(4607182418800017408:Int)]:=by kernel_rfl
end
abbrev _root_.Go.Proofs.S1.Ah.row.Zero.Kn:=A6 prog 128 Ah.row.Zero.spec
theorem Ah.row.Zero.Ad (hk:Ay prog Ah.row.Zero.Bh) (h:Hyp Ah.row.Zero.E f128 Ah.row.Zero.ts Ah.row.Zero.pre Ah.row.Zero.out):Ah.row.Zero.Kn :=
 Am (A2 hk _ _ _) func128 (by kernel_rfl) (by kernel_rfl) h
def Ah.row.Div.hint:Nat→Option Bc
 | 0=>some { keep:=[0,1,5,6],objs:=[(0,5,100005,.ints 32 .u64 [])],boxes:=[] }
 | _=>none
def Ah.row.Div.Bh:List (Nat × Entry):=[(132,Ah.D4.spec)]
def Ah.row.Div.E:Env:=Bi (Bg Ah.row.Div.Bh) (fun _=>false) Ah.row.Div.hint (fun _=>none)
section
variable (N M:Nat) (n:Int) (y:List Int) (d p6:Int) (p5:List Int)
def Ah.row.Div.L0:Option DV:=B3 Ah.row.Div.E N f128 (Aq f128) [1,1,0,1,0] [] M ⟨G8 23 [(0,.int .i64 n),(1,.fn 132 [] [.cellp [.ints .arg .u64 y],.cellp [.int .u64 d]]),(5,.oref 100005),(6,.int .i64 p6)],[(100005,false,.ints 32 .u64 p5)]⟩
theorem Ah.row.Div.Au:Ah.row.Div.L0 N (M+1) n y d p6 p5=bif (A3 p6 n) then bif ((Br (0≤p6∧p6<length y)&&A1 y)&&Aj d) then bif (decide ((length p5)+1≤Gy)) then Ah.row.Div.L0 N M n y d (Ab (p6+1)) (p5++[(Gj (getD y (toNat p6) 0) d)]) else none else none else bif (((decide ((0:Int)≤n))&&(decide (n≤n)))&&((decide ((0:Int)≤n))&&(decide (n≤(length p5:Int))))) then some (.ints .fresh .u64 (List.take (toNat (n-0)) (List.drop 0 p5))) else none :=
 Eq.trans (by kernel_rfl)
 (Eu rfl (Df (Amk (decide ((0:Int)≤n)) (decide (n≤n)) (decide (n≤(length p5:Int)))) rfl rfl))
theorem Ah.row.Div.ev:Bw Ah.row.Div.E N f128 (Aq f128) [.int .i64 n,.fn 132 [] [.cellp [.ints .arg .u64 y],.cellp [.int .u64 d]]] =
 Ah.row.Div.L0 N N n y d 1 [(4607182418800017408:Int)]:=by kernel_rfl
end
abbrev _root_.Go.Proofs.S1.Ah.row.Div.Kn:=A6 prog 128 Ah.row.Div.spec
theorem Ah.row.Div.Ad (hk:Ay prog Ah.row.Div.Bh) (h:Hyp Ah.row.Div.E f128 Ah.row.Div.ts Ah.row.Div.pre Ah.row.Div.out):Ah.row.Div.Kn :=
 Am (A2 hk _ _ _) func128 (by kernel_rfl) (by kernel_rfl) h
def Ah.Dh.Bh:List (Nat × Entry):=[(59,compare.P4.spec),(131,Ah.lead.spec),(127,Ah.Cn.spec),(128,(Anw [.i .i64,.fn 129 []] Ah.row.Zero.spec Ah.row.Div.spec)),(130,Ah.Bj.spec),(71,soft.Finite.spec),(96,soft.Ef.spec),(34,soft.Sign.spec),(60,Ac.Ce.spec),(109,Ac.Div.spec),(28,Ac.Finite.spec),(29,Ac.Norm.spec),(7,Ac.Bf.spec),(108,Ac.Sub.spec)]
def Ah.Dh.E:Env:=Bi (Bg Ah.Dh.Bh) (fun _=>false) (fun _=>none) (fun _=>none)
theorem Ah.Dh.ev (N:Nat) (x:List Int):Bw Ah.Dh.E N f107 (Aq f107) [.ints .arg .u64 x]=bif (((length x:Int)==(0:Int))||(A3 64 (length x:Int))) then some (.tup [.nil,.int .u64 0,.int .u64 0,.int .i64 3]) else bif (Cj x) then bif (!(D2 x)) then some (.tup [.nil,.int .u64 0,.int .u64 0,.int .i64 4]) else bif (decide ((1:Int)≤(length x:Int))) then bif (Cj (List.drop 1 x)) then bif (Ix (List.drop 1 x)) then bif (Br (1≤(length x:Int)∧(length x:Int)≤64)) then bif (decide ((0:Int)<(length x:Int))) then some (.tup [.ints .fresh .u64 (H7 (toNat (length x:Int)) (fun _=>0)),.int .u64 0,.int .u64 (getD x 0 0),.int .i64 0]) else none else none else bif (Cj x) then bif (Aj (Bd x)) then bif (Cj x&&Br (length x≤1000∧-2300≤(Ab (0-(Bn (Bd x))))∧(Ab (0-(Bn (Bd x))))≤2300)) then bif (Cj (Az x (Ab (0-(Bn (Bd x)))))&&Br (length (Az x (Ab (0-(Bn (Bd x)))))≤64)) then bif (Cj x) then bif (Aj (O9 x)) then bif (!(C9 (O9 x))) then bif (Aj (Db (Az x (Ab (0-(Bn (Bd x))))))) then bif (C0 (Dc (Db (Az x (Ab (0-(Bn (Bd x))))))) (Bn (Bd x))) then bif (Aj (Bs (Dc (Db (Az x (Ab (0-(Bn (Bd x))))))) (Bn (Bd x)))) then bif (!(Da (Bs (Dc (Db (Az x (Ab (0-(Bn (Bd x))))))) (Bn (Bd x))))) then some (.tup [.nil,.int .u64 0,.int .u64 0,.int .i64 2]) else bif (decide ((0:Int)<(length (Az x (Ab (0-(Bn (Bd x))))):Int))) then bif (Aj (getD (Az x (Ab (0-(Bn (Bd x))))) 0 0)&&Aj (Dc (Db (Az x (Ab (0-(Bn (Bd x)))))))) then bif ((Br (1≤(length (Az x (Ab (0-(Bn (Bd x))))):Int)∧(length (Az x (Ab (0-(Bn (Bd x))))):Int)≤64∧(length (Az x (Ab (0-(Bn (Bd x))))):Int)=length (Az x (Ab (0-(Bn (Bd x))))))&&A1 (Az x (Ab (0-(Bn (Bd x))))))&&Aj (Gu (getD (Az x (Ab (0-(Bn (Bd x))))) 0 0) (Dc (Db (Az x (Ab (0-(Bn (Bd x))))))))) then bif (decide ((0:Int)<(length (Az x (Ab (0-(Bn (Bd x))))):Int))) then bif (Aj (Dc (Db (Az x (Ab (0-(Bn (Bd x)))))))&&Aj (getD (Az x (Ab (0-(Bn (Bd x))))) 0 0)) then bif (Aj (Gu (Dc (Db (Az x (Ab (0-(Bn (Bd x))))))) (getD (Az x (Ab (0-(Bn (Bd x))))) 0 0))&&Aj (Dc (Db (Az x (Ab (0-(Bn (Bd x)))))))) then some (.tup [.ints .fresh .u64 (H7 (toNat (length (Az x (Ab (0-(Bn (Bd x))))):Int)) (fun j=>Gj (getD (Az x (Ab (0-(Bn (Bd x))))) j 0) (Gu (getD (Az x (Ab (0-(Bn (Bd x))))) 0 0) (Dc (Db (Az x (Ab (0-(Bn (Bd x)))))))))),.int .u64 (Gj (Gu (Dc (Db (Az x (Ab (0-(Bn (Bd x))))))) (getD (Az x (Ab (0-(Bn (Bd x))))) 0 0)) (Dc (Db (Az x (Ab (0-(Bn (Bd x)))))))),.int .u64 (Bs (Dc (Db (Az x (Ab (0-(Bn (Bd x))))))) (Bn (Bd x))),.int .i64 0]) else none else none else none else none else none else none else none else none else none else bif (C0 (Db (Az x (Ab (0-(Bn (Bd x)))))) (Bn (Bd x))) then bif (Aj (Bs (Db (Az x (Ab (0-(Bn (Bd x)))))) (Bn (Bd x)))) then bif (!(Da (Bs (Db (Az x (Ab (0-(Bn (Bd x)))))) (Bn (Bd x))))) then some (.tup [.nil,.int .u64 0,.int .u64 0,.int .i64 2]) else bif (decide ((0:Int)<(length (Az x (Ab (0-(Bn (Bd x))))):Int))) then bif (Aj (getD (Az x (Ab (0-(Bn (Bd x))))) 0 0)&&Aj (Db (Az x (Ab (0-(Bn (Bd x))))))) then bif ((Br (1≤(length (Az x (Ab (0-(Bn (Bd x))))):Int)∧(length (Az x (Ab (0-(Bn (Bd x))))):Int)≤64∧(length (Az x (Ab (0-(Bn (Bd x))))):Int)=length (Az x (Ab (0-(Bn (Bd x))))))&&A1 (Az x (Ab (0-(Bn (Bd x))))))&&Aj (Gu (getD (Az x (Ab (0-(Bn (Bd x))))) 0 0) (Db (Az x (Ab (0-(Bn (Bd x)))))))) then bif (decide ((0:Int)<(length (Az x (Ab (0-(Bn (Bd x))))):Int))) then bif (Aj (Db (Az x (Ab (0-(Bn (Bd x))))))&&Aj (getD (Az x (Ab (0-(Bn (Bd x))))) 0 0)) then bif (Aj (Gu (Db (Az x (Ab (0-(Bn (Bd x)))))) (getD (Az x (Ab (0-(Bn (Bd x))))) 0 0))&&Aj (Db (Az x (Ab (0-(Bn (Bd x))))))) then some (.tup [.ints .fresh .u64 (H7 (toNat (length (Az x (Ab (0-(Bn (Bd x))))):Int)) (fun j=>Gj (getD (Az x (Ab (0-(Bn (Bd x))))) j 0) (Gu (getD (Az x (Ab (0-(Bn (Bd x))))) 0 0) (Db (Az x (Ab (0-(Bn (Bd x))))))))),.int .u64 (Gj (Gu (Db (Az x (Ab (0-(Bn (Bd x)))))) (getD (Az x (Ab (0-(Bn (Bd x))))) 0 0)) (Db (Az x (Ab (0-(Bn (Bd x))))))),.int .u64 (Bs (Db (Az x (Ab (0-(Bn (Bd x)))))) (Bn (Bd x))),.int .i64 0]) else none else none else none else none else none else none else none else none else none else none else none else none else none else none else none else none else none :=
 Eq.trans (by kernel_rfl)
 (Aw (Kl ((length x:Int)==(0:Int))) (Aw (I9 ((length x:Int)==(0:Int))) (Aw (I9 ((length x:Int)==(0:Int))) (Aw (Mt ((length x:Int)==(0:Int))) (Df (Ts ((length x:Int)==(0:Int)) (A3 64 (length x:Int))) rfl (Eu (Eu rfl (Df (Ap4 (decide ((1:Int)≤(length x:Int)))) (Eu (Eu (Df (Gc (Br (1≤(length x:Int)∧(length x:Int)≤64))) (Df (Gc (decide ((0:Int)<(length x:Int)))) rfl rfl) rfl) rfl) rfl) rfl)) rfl))))))
abbrev _root_.Go.Proofs.S1.Ah.Dh.Kn:=A6 prog 107 Ah.Dh.spec
theorem Ah.Dh.Ad (hk:Ay prog Ah.Dh.Bh) (h:Hyp Ah.Dh.E f107 Ah.Dh.ts Ah.Dh.pre Ah.Dh.out):Ah.Dh.Kn :=
 Am (A2 hk _ _ _) func107 (by kernel_rfl) (by kernel_rfl) h
def Ah.Apply.hint:Nat→Option Bc
 | 0=>some { keep:=[1,3,4,5,10,13,14],objs:=[(14,2,114002,.ints 32 .u64 [])],boxes:=[5,10,13] }
 | 2=>some { keep:=[1,3,4,5,10,13,14,18,90,91,92],objs:=[(14,2,114002,.ints 32 .u64 [])],boxes:=[5,10,13] }
 | _=>none
def Ah.Apply.Bh:List (Nat × Entry):=[(57,Aa.Check.spec),(30,Aa.Cr.spec),(69,Ac.Lv.spec),(73,Ac.Mul.spec),(108,Ac.Sub.spec)]
def Ah.Apply.E:Env:=Bi (Bg Ah.Apply.Bh) (fun _=>false) Ah.Apply.hint (fun _=>none)
section
variable (N M0 M:Nat) (r c:Int) (l:List Int) (i k:Int) (v:List Int) (t p92:Int) (p2:List Int) (p14_1 p18:Int) (p90:List Int) (p91 p14:Int) (p2_1:List Int)
def Ah.Apply.L0:Option DV:=B3 Ah.Apply.E N f89 (Aq f89) [1,1,1,1,0,1,0] [] M ⟨G8 118 [(1,.int .i64 i),(3,.ints .arg .u64 v),(4,.int .u64 t),(5,.ptr 5 0 0),(10,.ptr 10 0 0),(13,.ptr 13 0 0),(14,.int .i64 p14)],[(5,false,.box [.int .i64 r,.int .i64 c,.ints .arg .u64 l]),(10,false,.box [.int .i64 0,.int .i64 0,.nil]),(13,false,.box [.int .i64 r,.int .i64 c,.oref 114002]),(114002,false,.ints 32 .u64 p2_1)]⟩
def Ah.Apply.L1:Option DV:=B3 Ah.Apply.E N f89 (Aq f89) [1,1,1,1,0,1,0,0,1,0,0,1,1,1,1,0] [M0] M ⟨G8 118 [(1,.int .i64 i),(3,.ints .arg .u64 v),(4,.int .u64 t),(5,.ptr 5 0 0),(10,.ptr 10 0 0),(13,.ptr 13 0 0),(14,.int .i64 p14_1),(18,.int .u64 p18),(90,.ints .fresh .u64 p90),(91,.int .i64 p91),(92,.int .i64 p92)],[(5,false,.box [.int .i64 r,.int .i64 c,.ints .arg .u64 l]),(10,false,.box [.int .i64 0,.int .i64 0,.nil]),(13,false,.box [.int .i64 r,.int .i64 c,.oref 114002]),(114002,false,.ints 32 .u64 p2)]⟩
theorem Ah.Apply.Au:Ah.Apply.L0 N (M+1) r c l i v t p14 p2_1=bif (A3 p14 c) then bif (Gl r c l p14&&Br (0≤i∧i≤r)) then bif (((decide ((0:Int)≤(length v:Int)))&&(decide ((length v:Int)≤(length v:Int))))&&((decide ((0:Int)≤(length v:Int)))&&(decide ((length v:Int)≤(length (C6 c l p14 i (toNat (r-i))):Int))))) then bif ((R4 v (List.take (toNat (length v:Int)) (C6 c l p14 i (toNat (r-i))))&&A1 v)&&A1 (List.take (toNat (length v:Int)) (C6 c l p14 i (toNat (r-i))))) then bif (Aj t&&Aj (Oz v (List.take (toNat (length v:Int)) (C6 c l p14 i (toNat (r-i)))))) then Ah.Apply.L1 N M N r c l i v t 0 p2_1 p14 (Hh t (Oz v (List.take (toNat (length v:Int)) (C6 c l p14 i (toNat (r-i)))))) (List.take (toNat (length v:Int)) (C6 c l p14 i (toNat (r-i)))) (length (List.take (toNat (length v:Int)) (C6 c l p14 i (toNat (r-i)))):Int) else none else none else none else none else some (.tup [.agg [.int .i64 r,.int .i64 c,.ints (.own 114002 32) .u64 p2_1],.int .i64 0]) :=
 Eq.trans (by kernel_rfl)
 (Eu (Eu (Df (Amk (decide ((0:Int)≤(length v:Int))) (decide ((length v:Int)≤(length v:Int))) (decide ((length v:Int)≤(length (C6 c l p14 i (toNat (r-i))):Int)))) rfl rfl) rfl) rfl)
theorem Ah.Apply.C3:Ah.Apply.L1 N M0 (M+1) r c l i v t p92 p2 p14_1 p18 p90 p91=bif (A3 p92 p91) then bif ((decide (0≤p92))&&(decide (p92<(length p90:Int)))) then bif ((decide (0≤p92))&&(decide (p92<(length v:Int)))) then bif (Aj p18&&Aj (getD v (toNat p92) 0)) then bif (Aj (getD p90 (toNat p92) 0)&&Aj (Hh p18 (getD v (toNat p92) 0))) then bif ((decide (0≤(Ab ((Ab ((Ab (i+p92))*c))+p14_1))))&&(decide ((Ab ((Ab ((Ab (i+p92))*c))+p14_1))<(length p2:Int)))) then bif (decide ((toNat (Ab ((Ab ((Ab (i+p92))*c))+p14_1)))<(length p2))) then Ah.Apply.L1 N M0 M r c l i v t (Ab (p92+1)) (List.set p2 (toNat (Ab ((Ab ((Ab (i+p92))*c))+p14_1))) (Gu (getD p90 (toNat p92) 0) (Hh p18 (getD v (toNat p92) 0)))) p14_1 p18 p90 p91 else none else none else none else none else none else none else Ah.Apply.L0 N M0 r c l i v t (Ab (p14_1+1)) p2 :=
 Eq.trans (by kernel_rfl)
 (Eu (Eu (Df (tt4 (decide (0≤p92)) (decide (p92<(length v:Int)))) (Df (Gc (Aj p18&&Aj (getD v (toNat p92) 0))) (Df (Gc (Aj (getD p90 (toNat p92) 0)&&Aj (Hh p18 (getD v (toNat p92) 0)))) (Df (tt4 (decide (0≤(Ab ((Ab ((Ab (i+p92))*c))+p14_1)))) (decide ((Ab ((Ab ((Ab (i+p92))*c))+p14_1))<(length p2:Int)))) (Df (Gc (decide ((toNat (Ab ((Ab ((Ab (i+p92))*c))+p14_1)))<(length p2)))) rfl rfl) rfl) rfl) rfl) rfl) rfl) rfl)
theorem Ah.Apply.ev:Bw Ah.Apply.E N f89 (Aq f89) [.agg [.int .i64 r,.int .i64 c,.ints .arg .u64 l],.int .i64 i,.int .i64 k,.ints .arg .u64 v,.int .u64 t]=bif ((Kf r c l) !=(0:Int)) then some (.tup [.agg [.int .i64 0,.int .i64 0,.nil],.int .i64 (Kf r c l)]) else bif (((((A3 i 0)||(A3 r (length v:Int)))||(A3 (Ab (r-(length v:Int))) i))||(A3 k 0))||(A3 c k)) then some (.tup [.agg [.int .i64 0,.int .i64 0,.nil],.int .i64 3]) else bif (decide (0+(length l)≤Gy)) then Ah.Apply.L0 N N r c l i v t k ([]++l) else none :=
 Eq.trans (by kernel_rfl)
 (Eu rfl (Aw (Kl (A3 i 0)) (Aw (I9 (A3 i 0)) (Aw (Kl (A3 i 0)) (Aw (I9 (A3 i 0)) (Aw (Ajt (A3 i 0)) (Aw (Mt (A3 i 0)) (Aw (Abe (A3 i 0) (A3 r (length v:Int))) (Aw (Abe (A3 i 0) (A3 r (length v:Int))) (Aw (Ad7 (A3 i 0) (A3 r (length v:Int))) (Aw (Abe (A3 i 0) (A3 r (length v:Int))) (Aw (Ad7 (A3 i 0) (A3 r (length v:Int))) (Aw (Aju (A3 i 0) (A3 r (length v:Int))) (Aw (Aju (A3 i 0) (A3 r (length v:Int))) (Aw (Ams (A3 i 0) (A3 r (length v:Int))) (Aw (Ajv (A3 i 0) (A3 r (length v:Int)) (A3 (Ab (r-(length v:Int))) i)) (Aw (Agk (A3 i 0) (A3 r (length v:Int)) (A3 (Ab (r-(length v:Int))) i)) (Aw (Amt (A3 i 0) (A3 r (length v:Int)) (A3 (Ab (r-(length v:Int))) i)) (Aw (Ajp (A3 i 0) (A3 r (length v:Int)) (A3 (Ab (r-(length v:Int))) i) (A3 k 0)) (Aw (Ajp (A3 i 0) (A3 r (length v:Int)) (A3 (Ab (r-(length v:Int))) i) (A3 k 0)) (Aw (Aof (A3 i 0) (A3 r (length v:Int)) (A3 (Ab (r-(length v:Int))) i) (A3 k 0)) (Aw (Aog (A3 i 0) (A3 r (length v:Int)) (A3 (Ab (r-(length v:Int))) i) (A3 k 0)) (Aw (Aoh (A3 i 0) (A3 r (length v:Int)) (A3 (Ab (r-(length v:Int))) i) (A3 k 0)) (Df (Ap3 (A3 i 0) (A3 r (length v:Int)) (A3 (Ab (r-(length v:Int))) i) (A3 k 0) (A3 c k)) rfl (Df (Gc (decide (0+(length l)≤Gy))) rfl rfl)))))))))))))))))))))))))
end
abbrev _root_.Go.Proofs.S1.Ah.Apply.Kn:=A6 prog 89 Ah.Apply.spec
theorem Ah.Apply.Ad (hk:Ay prog Ah.Apply.Bh) (h:Hyp Ah.Apply.E f89 Ah.Apply.ts Ah.Apply.pre Ah.Apply.out):Ah.Apply.Kn :=
 Am (A2 hk _ _ _) func89 (by kernel_rfl) (by kernel_rfl) h
end EqHouse
open EqHouse
theorem Adq (x:Int):((Ba x) !=(0:Int))=!(decide (Ba x=0)):=by
 rw [Ar7]; simp
theorem Xx (N:Nat) {x:List Int} (hx:Cj x=true):∀ (k i F:Nat),i+k=x.length→k<F→Ah.Cn.L0 N F x (i:Int)=some (.bool (Ix (x.drop i))):=by
 obtain ⟨hl,hu⟩:=Im hx
 intro k
 induction k with
 | zero =>
   intro i F hi hF
   obtain ⟨F,rfl⟩:∃ G,F=G+1:=⟨F-1,by omega⟩
   rw [Ah.Cn.Au,Av,Arw (by omega),Arv,Ar5 (by omega)]; rfl
 | succ k ih =>
   intro i F hi hF
   obtain ⟨F,rfl⟩:∃ G,F=G+1:=⟨F-1,by omega⟩
   rw [Ah.Cn.Au,Av,Ars (show (i:Int)<(x.length:Int) by omega),Arr,Ars (show (0:Int)≤(i:Int) by omega),Arx,Arr,Art,hu i (by omega),Arr,Adq,Jz (by omega)]
   unfold Ix
   rw [List.all_cons]
   cases decide (Ba (x.getD i 0)=0) with
   | false=>rfl
   | true =>
     rw [Asr,Arv,As5,Ao (by omega) (by omega)]
     exact ih (i+1) F (by omega) (by omega)
theorem Ah.Cn.known:Ah.Cn.Kn:=Ah.Cn.Ad (.cons soft.Kind.known .nil) fun x hp=>by
 refine ⟨x.length+1,Ah.Cn.out [.l x],[],?_,.bool⟩
 rw [Ah.Cn.ev]
 exact Xx (x.length+1) hp x.length 0 (x.length+1) (by omega) (by omega)
theorem Afg (N:Nat) {x:List Int} (hx:Cj x=true):∀ (k i F:Nat),i+k=x.length→k<F→Ah.lead.L0 N F x (i:Int)=some (.int .u64 (O9 (x.drop i))):=by
 obtain ⟨hl,hu⟩:=Im hx
 intro k
 induction k with
 | zero =>
   intro i F hi hF
   obtain ⟨F,rfl⟩:∃ G,F=G+1:=⟨F-1,by omega⟩
   rw [Ah.lead.Au,Av,Arw (by omega),Arv,Ar5 (by omega)]; rfl
 | succ k ih =>
   intro i F hi hF
   obtain ⟨F,rfl⟩:∃ G,F=G+1:=⟨F-1,by omega⟩
   rw [Ah.lead.Au,Av,Ars (show (i:Int)<(x.length:Int) by omega),Arr,Ars (show (0:Int)≤(i:Int) by omega),Arx,Arr,Art,hu i (by omega),Arr,Adq,Jz (by omega),O9]
   by_cases h:Ba (x.getD i 0)=0
   ·rw [Ars h,Ase h,Asr,Arv,Ao (by omega) (by omega)]
    exact ih (i+1) F (by omega) (by omega)
   ·rw [Arw h,Asd h]; rfl
theorem Ah.lead.known:Ah.lead.Kn:=Ah.lead.Ad (.cons soft.Kind.known .nil) fun x hp=>by
 refine ⟨x.length+1,Ah.lead.out [.l x],[],?_,.int⟩
 rw [Ah.lead.ev]
 exact Afg (x.length+1) hp x.length 0 (x.length+1) (by omega) (by omega)
theorem Tv {x:List Int} {i:Nat} (h:i<x.length) (f:Int→Int):(x.take (i+1)).map f=(x.take i).map f++[f (x.getD i 0)]:=by
 rw [List.take_succ_eq_append_getElem h,List.map_append,Ar1,Ar8 h]; rfl
theorem Xp (N:Nat) {x:List Int} {e:Int} (hx:Cj x=true) (hl:x.length≤1000) (he:-2300≤e∧e≤2300):∀ (k i F:Nat),i+k=x.length→k<F →
 Ah.Bj.L0 N F x e (i:Int) ((x.take i).map fun b=>Bs b e)=some (.ints (.own 100005 tB) .u64 (Az x e)):=by
 obtain ⟨_,hu⟩:=Im hx
 intro k
 induction k with
 | zero =>
   intro i F hi hF
   obtain ⟨F,rfl⟩:∃ G,F=G+1:=⟨F-1,by omega⟩
   rw [Ah.Bj.Au,Av,Arw (by omega),Arv,List.take_of_length_le (by omega)]; rfl
 | succ k ih =>
   intro i F hi hF
   obtain ⟨F,rfl⟩:∃ G,F=G+1:=⟨F-1,by omega⟩
   rw [Ah.Bj.Au,Av,Ars (show (i:Int)<(x.length:Int) by omega),Arr,Ars (show (0:Int)≤(i:Int) by omega),Arx,Arr,Art,
    show C0 (getD x i 0) e=true from Af.2 ⟨hu i (by omega),Al.2 he⟩,Arr,Ars (by rw [Asy,List.length_take]; unfold Gy; omega),Arr,Ao (by omega) (by omega)]
   have:=ih (i+1) F (by omega) (by omega)
   rw [Tv (by omega)] at this
   exact this
theorem Ah.Bj.known:Ah.Bj.Kn:=Ah.Bj.Ad (.cons Ac.Bf.known .nil) fun x k hp=>by
 obtain ⟨h1,h2⟩:=Af.1 hp
 have h2:=Al.1 h2
 refine ⟨x.length+1,.ints (.own 100005 tB) .u64 (Az x k),[100005],?_,.drop _ _ _ _ (List.mem_singleton.2 rfl)⟩
 rw [Ah.Bj.ev]
 exact Xp (x.length+1) h1 h2.1 h2.2 x.length 0 (x.length+1) (by omega) (by omega)
theorem Ah.D5.known:Ah.D5.Kn:=Ah.D5.Ad .nil fun i _=>⟨0,Ah.D5.out [.i i],[],by rw [Ah.D5.ev]; rfl,.int⟩
theorem Ah.D4.known:Ah.D4.Kn:=Ah.D4.Ad (.cons Ac.Div.known .nil) fun i y d hp=>by
 obtain ⟨h1,h2⟩:=Af.1 (show ((Br (0≤i∧i<length y)&&A1 y)&&Aj d)=true from hp)
 obtain ⟨h3,h4⟩:=Af.1 h1
 have h3:=Al.1 h3
 refine ⟨0,Ah.D4.out [.i i,.l y,.i d],[],?_,.int⟩
 rw [Ah.D4.ev,Ars h3.1,Ars h3.2,Lt h4,h2]; rfl
theorem Oe (n i:Nat) (f:Nat→Int) (h:i+1=n):H7 n f=Am8::(List.range i).map fun j=>f (j+1):=by unfold H7; rw [show n-1=i by omega]
theorem Ac7 {n:Nat} (f:Nat→Int) (h:n≠0):(((decide ((0:Int)≤(n:Int)))&&(decide ((n:Int)≤(n:Int))))&&((decide ((0:Int)≤(n:Int)))&&(decide ((n:Int)≤(length (H7 n f):Int)))))=true ∧
 List.take (toNat ((n:Int)-(0:Int))) (List.drop 0 (H7 n f))=H7 n f:=by
 have:=Qj h f
 refine ⟨?_,?_⟩
 ·rw [Ars (by omega),Ars (by omega),Ars (by omega)]; rfl
 ·rw [List.drop_zero,List.take_of_length_le (by omega)]
theorem Vs (N:Nat) {n:Nat} (h64:n≤64) (h0:n≠0):∀ (k i F:Nat),i+1+k=n→k<F →
 Ah.row.Zero.L0 N F (n:Int) ((i+1:Nat):Int) (H7 (i+1) fun _=>0)=some (.ints .fresh .u64 (H7 n fun _=>0)):=by
 intro k
 induction k with
 | zero =>
   intro i F hi hF
   obtain ⟨F,rfl⟩:∃ G,F=G+1:=⟨F-1,by omega⟩
   obtain rfl:i+1=n:=by omega
   obtain ⟨e1,e2⟩:=Ac7 (fun _=>0) h0
   rw [Ah.row.Zero.Au,Av,Arw (by omega),Arv,e1,Arr,e2]
 | succ k ih =>
   intro i F hi hF
   obtain ⟨F,rfl⟩:∃ G,F=G+1:=⟨F-1,by omega⟩
   rw [Ah.row.Zero.Au,Av,Ars (by omega),Arr,Ars (by rw [Qj (by omega)]; unfold Gy; omega),Arr,Ao (by omega) (by omega)]
   have:=ih (i+1) F (by omega) (by omega)
   rw [Oe (i+1+1) (i+1) _ rfl,Ld] at this
   rw [Oe (i+1) i _ rfl]
   exact this
theorem Ah.row.Zero.known:Ah.row.Zero.Kn:=Ah.row.Zero.Ad (.cons Ah.D5.known .nil) fun n hp=>by
 have hp:=Al.1 (show Br (1≤n∧n≤64)=true from hp)
 obtain ⟨m,rfl⟩:∃ m:Nat,n=m:=⟨n.toNat,by omega⟩
 refine ⟨65,Ah.row.Zero.out [.i m],[],?_,.Nn⟩
 show _=some (DV.ints .fresh .u64 (H7 (toNat (m:Int)) fun _=>0))
 rw [Ah.row.Zero.ev,Art]
 exact Vs 65 (by omega) (by omega) (m-1) 0 65 (by omega) (by omega)
theorem Xs (N:Nat) {n:Nat} {y:List Int} {d:Int} (h64:n≤64) (h0:n≠0) (hy:n=y.length) (al:A1 y=true) (hd:Aj d=true):∀ (k i F:Nat),i+1+k=n→k<F →
 Ah.row.Div.L0 N F (n:Int) y d ((i+1:Nat):Int) (H7 (i+1) fun j=>Gj (y.getD j 0) d)=some (.ints .fresh .u64 (H7 n fun j=>Gj (y.getD j 0) d)):=by
 intro k
 induction k with
 | zero =>
   intro i F hi hF
   obtain ⟨F,rfl⟩:∃ G,F=G+1:=⟨F-1,by omega⟩
   obtain rfl:i+1=n:=by omega
   obtain ⟨e1,e2⟩:=Ac7 (fun j=>Gj (y.getD j 0) d) h0
   rw [Ah.row.Div.Au,Av,Arw (by omega),Arv,e1,Arr,e2]
 | succ k ih =>
   intro i F hi hF
   obtain ⟨F,rfl⟩:∃ G,F=G+1:=⟨F-1,by omega⟩
   rw [Ah.row.Div.Au,Av,Ars (by omega),Arr,Al.2 (show 0≤((i+1:Nat):Int)∧((i+1:Nat):Int)<(y.length:Int) by omega),al,hd,Arx,Arx,Arr,Ars (by rw [Qj (by omega)]; unfold Gy; omega),Arr,Ao (by omega) (by omega),Art]
   have:=ih (i+1) F (by omega) (by omega)
   rw [Oe (i+1+1) (i+1) _ rfl,Ld] at this
   rw [Oe (i+1) i _ rfl]
   exact this
theorem Ah.row.Div.known:Ah.row.Div.Kn:=Ah.row.Div.Ad (.cons Ah.D4.known .nil) fun n y d hp=>by
 obtain ⟨h1,h2⟩:=Af.1 (show ((Br (1≤n∧n≤64∧n=length y)&&A1 y)&&Aj d)=true from hp)
 obtain ⟨h3,h4⟩:=Af.1 h1
 have h3:=Al.1 h3
 obtain ⟨m,rfl⟩:∃ m:Nat,n=m:=⟨n.toNat,by omega⟩
 refine ⟨65,Ah.row.Div.out [.i m,.l y,.i d],[],?_,.Nn⟩
 show _=some (DV.ints .fresh .u64 (H7 (toNat (m:Int)) fun j=>Gj (getD y j 0) d))
 rw [Ah.row.Div.ev,Art]
 exact Xs 65 (by omega) (by omega) (by omega) h4 h2 (m-1) 0 65 (by omega) (by omega)
theorem Wc {x:List Int} {k:Int} {j:Nat} (h:j<x.length):(Az x k).getD j 0=Bs (x.getD j 0) k:=by
 unfold Az
 rw [Ar1,As9,Ar8 h,Ar1,Ar8 h]; rfl
theorem Aed (x:List Int) (k:Int):(Az x k).length=x.length:=by unfold Az; rw [Asy]
theorem Aee {x:List Int} (k:Int) (h:A1 x=true):A1 (Az x k)=true:=Ov fun y hy=>by
 obtain ⟨b,hb,rfl⟩:=List.mem_map.1 hy
 exact Iu (Al.1 h b hb)
theorem X6:∀ {x:List Int},A1 x=true→Aj (O9 x)=true
 | [],_=>Ji
 | b::l,h=>by
   unfold O9
   split
   ·exact X6 (Ov fun y hy=>Al.1 h y (Asx _ hy))
   ·exact Al.1 h b As7
theorem Af1 {x:List Int} (h:Cj x=true):A1 x=true:=Al.2 (Al.1 h).2
theorem N7 {drops:List Nat} {g:Aa5}:Wk drops .nil (.ints g .u64 []):=.nil g .u64
theorem Aej {n:Nat} {f g:Nat→Int} (h:∀ j,j<n→f j=g j):H7 n f=H7 n g:=by
 unfold H7
 congr 1
 exact List.map_congr_left fun j hj=>h _ (by have:=List.mem_range.1 hj; omega)
theorem Ah.Dh.known:Ah.Dh.Kn:=Ah.Dh.Ad (.cons compare.P4.known (.cons Ah.lead.known (.cons Ah.Cn.known (.cons (A6.alt Ah.row.Zero.known Ah.row.Div.known) (.cons Ah.Bj.known (.cons soft.Finite.known (.cons soft.Ef.known (.cons soft.Sign.known (.cons Ac.Ce.known (.cons Ac.Div.known (.cons Ac.Finite.known (.cons Ac.Norm.known (.cons Ac.Bf.known (.cons Ac.Sub.known .nil)))))))))))))) fun x hp=>by
 have hx:Cj x=true:=hp
 have al:=Af1 hx
 have he:=Ail (Bd x)
 show ∃ N dv drops,_=some dv∧Wk drops dv (DV.tup [.ints .fresh .u64 (Cb x).1,.int .u64 (Cb x).2.1,.int .u64 (Cb x).2.2.1,.int .i64 (Cb x).2.2.2])
 unfold Cb
 by_cases h1:x.length=0∨64<x.length
 ·rw [Ase h1]
  refine ⟨0,.tup [.nil,.int .u64 0,.int .u64 0,.int .i64 3],[],?_,Wk.E5 (.cons N7 (.cons .int (.cons .int (.cons .int .nil))))⟩
  have:(((length x:Int)==(0:Int))||(A3 (64:Int) (length x:Int)))=true:=by
   rw [Av,Bool.or_eq_true,beq_iff_eq,Ary]; omega
  rw [Ah.Dh.ev,this,Arr]
 have c1:(((length x:Int)==(0:Int))||(A3 (64:Int) (length x:Int)))=false:=by
  rw [Av,Bool.or_eq_false_iff,Asn,Asa]; omega
 rw [Asd h1]
 by_cases h2:D2 x=true
 ·rw [Ase h2]
  unfold Akk
  have ok1:Cj (x.drop 1)=true:=Po (Ov fun y hy=>Al.1 al y (List.mem_of_mem_drop hy)) (by rw [List.length_drop]; omega)
  have d1:decide ((1:Int)≤(x.length:Int))=true:=Ars (by omega)
  have d0:decide ((0:Int)<(x.length:Int))=true:=Ars (by omega)
  by_cases h3:Ix (x.drop 1)=true
  ·rw [Ase h3]
   refine ⟨0,.tup [.ints .fresh .u64 (H7 x.length fun _=>0),.int .u64 0,.int .u64 (x.getD 0 0),.int .i64 0],[],?_,Wk.E5 (.cons .Nn (.cons .int (.cons .int (.cons .int .nil))))⟩
   rw [Ah.Dh.ev,c1,Arv,hx,Arr,h2,Asr,Arv,d1,Arr,ok1,Arr,h3,Arr,Al.2 (show 1≤(x.length:Int)∧(x.length:Int)≤64 by omega),Arr,d0,Arr,Art]
  ·rw [Asd h3]
   have h3:Ix (x.drop 1)=false:=by simpa using h3
   have ew:Ab (0-Bn (Bd x))=-Bn (Bd x):=by rw [Ao (by omega) (by omega)]; omega
   have ly:=Aed x (-Bn (Bd x))
   have ay:=Aee (-Bn (Bd x)) al
   have oky:Cj (Az x (-Bn (Bd x)))=true:=Po ay (by omega)
   have gy:=Wc (x:=x) (k:=-Bn (Bd x)) (j:=0) (by omega)
   have iy:=Lt ay 0
   have key:∀ mu:Int,muI x=mu→Aj mu=true→∀ b:Bool,Da (G3 x)=b→∃ dv:DV,(bif (!b) then
    some (.tup [.nil,.int .u64 (0:Int),.int .u64 (0:Int),.int .i64 (2:Int)])
    else some (.tup [.ints .fresh .u64 (H7 (toNat (length (Az x (-Bn (Bd x))):Int)) (fun j=>Gj (getD (Az x (-Bn (Bd x))) j 0) (Gu (getD (Az x (-Bn (Bd x))) 0 0) mu))),.int .u64 (Gj (Gu mu (getD (Az x (-Bn (Bd x))) 0 0)) mu),.int .u64 (Bs mu (Bn (Bd x))),.int .i64 (0:Int)]))=some dv ∧
    Wk [] dv (DV.tup [.ints .fresh .u64 (if Da (G3 x)=true then (Zw x,Ab2 x,G3 x,(0:Int)) else ([],0,0,2)).1,.int .u64 (if Da (G3 x)=true then (Zw x,Ab2 x,G3 x,(0:Int)) else ([],0,0,2)).2.1,.int .u64 (if Da (G3 x)=true then (Zw x,Ab2 x,G3 x,(0:Int)) else ([],0,0,2)).2.2.1,.int .i64 (if Da (G3 x)=true then (Zw x,Ab2 x,G3 x,(0:Int)) else ([],0,0,2)).2.2.2]):=by
    intro mu hmu _ b hb
    rw [hb]
    cases b with
    | false=>exact ⟨_,rfl,Wk.E5 (.cons N7 (.cons .int (.cons .int (.cons .int .nil))))⟩
    | true =>
      refine ⟨_,rfl,?_⟩
      rw [Ase rfl]
      dsimp only
      have e1:H7 (toNat (length (Az x (-Bn (Bd x))):Int)) (fun j=>Gj (getD (Az x (-Bn (Bd x))) j 0) (Gu (getD (Az x (-Bn (Bd x))) 0 0) mu))=Zw x:=by
       unfold Zw
       rw [Art,ly,gy,← hmu]
       exact Aej fun j hj=>by rw [Wc hj]; rfl
      have e2:Gj (Gu mu (getD (Az x (-Bn (Bd x))) 0 0)) mu=Ab2 x:=by
       unfold Ab2
       rw [gy,hmu]; rfl
      have e3:Bs mu (Bn (Bd x))=G3 x:=by unfold G3; rw [hmu]
      rw [e1,e2,e3]
      exact Wk.E5 (.cons .Nn (.cons .int (.cons .int (.cons .int .nil))))
   have dz:decide ((0:Int)<((Az x (-Bn (Bd x))).length:Int))=true:=Ars (by omega)
   have cz':Br (1≤((Az x (-Bn (Bd x))).length:Int)∧((Az x (-Bn (Bd x))).length:Int)≤64∧True)=true:=Al.2 ⟨by omega,by omega,trivial⟩
   have p1:Br (x.length≤1000∧-2300≤-Bn (Bd x)∧-Bn (Bd x)≤2300)=true:=Al.2 (by omega)
   have p2:Br ((Az x (-Bn (Bd x))).length≤64)=true:=Al.2 (by omega)
   have sp:∀ mu:Int,Aj mu=true→C0 mu (Bn (Bd x))=true:=fun mu h=>Af.2 ⟨h,Al.2 (by omega)⟩
   have ny:=Xz (Az x (-Bn (Bd x)))
   cases hn:C9 (O9 x) with
   | true =>
     have hm:muI x=Db (Az x (-Bn (Bd x))):=by unfold muI; rw [Ase hn]
     obtain ⟨dv,k1,k2⟩:=key _ hm ny (Da (G3 x)) rfl
     refine ⟨0,dv,[],?_,k2⟩
     rw [← k1]
     have eb:G3 x=Bs (Db (Az x (-Bn (Bd x)))) (Bn (Bd x)):=by unfold G3; rw [hm]
     rw [Ah.Dh.ev,ew,eb]
     simp only [c1,Arv,hx,Arr,h2,Asr,d1,ok1,h3,Vl,p1,oky,p2,Arx,X6 al,hn,sp _ ny,Iu ny,dz,cz',ay,iy,ny,Tw iy ny,Tw ny iy]
   | false =>
     have hm:muI x=Dc (Db (Az x (-Bn (Bd x)))):=by unfold muI; rw [Asd (by rw [hn]; decide)]
     have my:=Zz ny
     obtain ⟨dv,k1,k2⟩:=key _ hm my (Da (G3 x)) rfl
     refine ⟨0,dv,[],?_,k2⟩
     rw [← k1]
     have eb:G3 x=Bs (Dc (Db (Az x (-Bn (Bd x))))) (Bn (Bd x)):=by unfold G3; rw [hm]
     rw [Ah.Dh.ev,ew,eb]
     simp only [c1,Arv,hx,Arr,h2,Asr,d1,ok1,h3,Vl,p1,oky,p2,Arx,X6 al,hn,Atb,sp _ my,Iu my,dz,cz',ay,iy,ny,my,Tw iy my,Tw my iy]
 ·rw [Asd h2]
  have h2:D2 x=false:=by simpa using h2
  refine ⟨0,.tup [.nil,.int .u64 0,.int .u64 0,.int .i64 4],[],?_,Wk.E5 (.cons N7 (.cons .int (.cons .int (.cons .int .nil))))⟩
  rw [Ah.Dh.ev,c1,Arv,hx,Arr,h2,Atb,Arr]
open EqHouse
def apD (i k c j a b:Nat):Bool:=decide (k≤b∧i≤a∧(b<c∨(b=c∧a<i+j)))
def apS (R C:Nat) (l:List Int) (i k:Nat) (v:List Int) (t:Int) (c j:Nat):List Int :=
 Dr R C fun a b=>if apD i k c j a b=true∧a<i+v.length then Ny (C:Int) l (i:Int) (k:Int) v t (a:Int) (b:Int) else Mr (C:Int) l (a:Int) (b:Int)
section
variable {R C i k:Nat} {l v:List Int} {t:Int}
theorem Als (c j:Nat):(apS R C l i k v t c j).length=R*C:=Cs _ _ _
theorem Aja (h:l.length=R*C):apS R C l i k v t k 0=l:=by
 unfold apS
 conv=>rhs; rw [← Wz h]
 refine Gi fun a b ha hb=>?_
 rw [Asd]
 rintro ⟨h,_⟩
 have:=Ash h
 omega
theorem Ajb (c:Nat):apS R C l i k v t c v.length=apS R C l i k v t (c+1) 0:=by
 unfold apS
 refine Gi fun a b ha hb=>?_
 have:(apD i k c v.length a b=true∧a<i+v.length)↔(apD i k (c+1) 0 a b=true∧a<i+v.length):=by
  unfold apD
  rw [Ary,Ary]
  omega
 by_cases h:apD i k c v.length a b=true∧a<i+v.length
 ·rw [Ase h,Ase (this.1 h)]
 ·rw [Asd h,Asd (fun hh=>h (this.2 hh))]
theorem Alu:apS R C l i k v t C 0=Fg R C l (i:Int) (k:Int) v t:=by
 unfold apS Fg
 refine Gi fun a b ha hb=>?_
 by_cases h:apD i k C 0 a b=true∧a<i+v.length
 ·rw [Ase h]
 ·rw [Asd h]
  unfold Ny
  rw [Asd]
  intro hh
  refine h ⟨?_,by omega⟩
  unfold apD
  rw [Ary]; omega
theorem Alr {c j:Nat} (hc:c<C) (hk:k≤c) (hj:j<v.length) {x:Int} (hx:x=Ny (C:Int) l (i:Int) (k:Int) v t ((i+j:Nat):Int) (c:Int)) :
 List.set (apS R C l i k v t c j) ((i+j)*C+c) x=apS R C l i k v t c (j+1):=by
 unfold apS
 rw [U6 hc]
 refine Gi fun a b ha hb=>?_
 by_cases h:a=i+j∧b=c
 ·obtain ⟨rfl,rfl⟩:=h
  rw [Ase ⟨rfl,rfl⟩,Ase ⟨by unfold apD; rw [Ary]; omega,by omega⟩,hx]
 ·rw [Asd h]
  have:(apD i k c j a b=true∧a<i+v.length)↔(apD i k c (j+1) a b=true∧a<i+v.length):=by
   unfold apD
   rw [Ary,Ary]
   omega
  by_cases h2:apD i k c j a b=true∧a<i+v.length
  ·rw [Ase h2,Ase (this.1 h2)]
  ·rw [Asd h2,Asd (fun hh=>h2 (this.2 hh))]
theorem Ai9 {c j:Nat} (hk:k≤c) (hj:j<v.length):Ny (C:Int) l (i:Int) (k:Int) v t ((i+j:Nat):Int) (c:Int) =
 Gu ((C6 (C:Int) l (c:Int) (i:Int) v.length).getD j 0) (Hh (Yo (C:Int) l (i:Int) v t (c:Int)) (v.getD j 0)):=by
 unfold Ny
 rw [Ase ⟨by omega,by omega,by omega⟩]
 have e1:(((i+j:Nat):Int)-(i:Int)).toNat=j:=by omega
 have e2:(C6 (C:Int) l (c:Int) (i:Int) v.length).getD j 0=Mr (C:Int) l ((i+j:Nat):Int) (c:Int):=by
  unfold C6
  rw [Ar1,As9,List.getElem?_range hj]
  show Mr (C:Int) l ((i:Int)+(j:Int)) (c:Int)=_
  rw [← Int.natCast_add]
 rw [e1,e2]
theorem Agt {c b i:Int} {l:List Int} {m n:Nat} (h:m≤n):List.take m (C6 c l b i n)=C6 c l b i m:=by
 unfold C6
 rw [← List.map_take,List.take_range,Nat.min_eq_left h]
theorem Acs (N M0:Nat) (r6:R≤6) (c6:C≤6) (al:A1 l=true) (av:A1 v=true) (hv:i+v.length≤R) {c:Nat} (hc:c<C) (hk:k≤c):∀ (cnt j F:Nat),j+cnt=v.length→cnt<F →
 Ah.Apply.L1 N M0 F (R:Int) (C:Int) l (i:Int) v t (j:Int) (apS R C l i k v t c j) (c:Int) (Yo (C:Int) l (i:Int) v t (c:Int)) (C6 (C:Int) l (c:Int) (i:Int) v.length) (v.length:Int) =
 Ah.Apply.L0 N M0 (R:Int) (C:Int) l (i:Int) v t ((c+1:Nat):Int) (apS R C l i k v t (c+1) 0):=by
 intro cnt
 induction cnt with
 | zero =>
   intro j F hj hF
   obtain ⟨F,rfl⟩:∃ G,F=G+1:=⟨F-1,by omega⟩
   obtain rfl:j=v.length:=by omega
   rw [Ah.Apply.C3,Av,Arw (by omega),Arv,Ao (by omega) (by omega),Ajb]
   rfl
 | succ cnt ih =>
   intro j F hj hF
   obtain ⟨F,rfl⟩:∃ G,F=G+1:=⟨F-1,by omega⟩
   have hm:=Lc (a:=((i+j:Nat):Int)) (b:=(C:Int)) (by omega) (by omega) (by omega) (by omega)
   have hpl:=Lg (show i+j<R by omega) hc
   have e1:Ab ((i:Int)+(j:Int))=((i+j:Nat):Int):=by rw [Ao (by omega) (by omega)]; omega
   have e2:Ab (((i+j:Nat):Int)*(C:Int))=(((i+j)*C:Nat):Int):=by rw [Ao (by omega) (by omega)]; exact (Asc _ _).symm
   have h36:=Aso r6 c6
   have e3:Ab ((((i+j)*C:Nat):Int)+(c:Int))=(((i+j)*C+c:Nat):Int):=by rw [Ao (by omega) (by omega)]; omega
   have hlen:=Als (R:=R) (C:=C) (l:=l) (i:=i) (k:=k) (v:=v) (t:=t) c j
   have sl:=H6 (C:Int) (c:Int) (i:Int) v.length l
   rw [Ah.Apply.C3,Av,Ars (show (j:Int)<(v.length:Int) by omega),Arr,e1,e2,e3,sl,Ars (show (0:Int)≤(j:Int) by omega),Ars (show (j:Int)<(v.length:Int) by omega),Arx,Arr,Art,Art]
   have a1:=Lt av j
   have a2:=Lt (Rm (c:=(C:Int)) (b:=(c:Int)) (i:=(i:Int)) (n:=v.length) al) j
   have a3:Aj (Yo (C:Int) l (i:Int) v t (c:Int))=true:=Ry _ _
   rw [Arr,a3,a1,Arx,Arr,a2,Ry,Arx,Arr,Ars (by omega),Ars (by omega),Arx,Arr,Ars (by omega),Arr,
    Alr hc hk (by omega) (Ai9 hk (by omega)).symm,Ao (by omega) (by omega)]
   exact ih (j+1) F (by omega) (by omega)
theorem Acu (N:Nat) (r6:R≤6) (c6:C≤6) (hN:7<N) (hr:Bo (R:Int) (C:Int) l=true) (al:A1 l=true) (av:A1 v=true) (ht:Aj t=true) (hv:i+v.length≤R):∀ (cnt c F:Nat),c+cnt=C→k≤c→cnt<F →
 Ah.Apply.L0 N F (R:Int) (C:Int) l (i:Int) v t (c:Int) (apS R C l i k v t c 0) =
 some (.tup [.agg [.int .i64 (R:Int),.int .i64 (C:Int),.ints (.own 114002 tB) .u64 (Fg R C l (i:Int) (k:Int) v t)],.int .i64 (0:Int)]):=by
 intro cnt
 induction cnt with
 | zero =>
   intro c F hc hk hF
   obtain ⟨F,rfl⟩:∃ G,F=G+1:=⟨F-1,by omega⟩
   obtain rfl:c=C:=by omega
   rw [Ah.Apply.Au,Av,Arw (by omega),Arv,Alu]
 | succ cnt ih =>
   intro c F hc hk hF
   obtain ⟨F,rfl⟩:∃ G,F=G+1:=⟨F-1,by omega⟩
   have cp:Gl (R:Int) (C:Int) l (c:Int)=true:=Af.2 ⟨hr,Al.2 (by omega)⟩
   have e0:toNat ((R:Int)-(i:Int))=R-i:=by omega
   have st:=Agt (c:=(C:Int)) (b:=(c:Int)) (i:=(i:Int)) (l:=l) (m:=v.length) (n:=R-i) (by omega)
   have sl:=H6 (C:Int) (c:Int) (i:Int) v.length l
   have sl2:=H6 (C:Int) (c:Int) (i:Int) (R-i) l
   have sa:=Rm (c:=(C:Int)) (b:=(c:Int)) (i:=(i:Int)) (n:=v.length) al
   have ft:R4 v (C6 (C:Int) l (c:Int) (i:Int) v.length)=true:=Yc.2 ⟨by omega,by omega⟩
   rw [Ah.Apply.Au,Av,Ars (by omega),Arr,cp,Al.2 (show 0≤(i:Int)∧(i:Int)≤(R:Int) by omega),Arx,Arr,e0,Art,st,sl2,sl,
    Ars (show (0:Int)≤(v.length:Int) by omega),Ars (show (v.length:Int)≤(v.length:Int) by omega),Ars (show (v.length:Int)≤((R-i:Nat):Int) by omega),Arx,Arx,Arr,ft,av,sa,Arx,Arx,Arr,ht,Adu,Arx,Arr]
   have:=Acs (t:=t) N F r6 c6 al av hv (show c<C by omega) hk v.length 0 N (by omega) (by omega)
   exact this.trans (ih (c+1) F (by omega) (by omega) (by omega))
end
theorem Ah.Apply.known:Ah.Apply.Kn:=Ah.Apply.Ad (.cons Aa.Check.known (.cons Aa.Cr.known (.cons Ac.Lv.known (.cons Ac.Mul.known (.cons Ac.Sub.known .nil))))) fun r c l i k v t hp=>by
 obtain ⟨h1,ht⟩:=Af.1 (show (((Bo r c l&&K8 r c i k v)&&(A1 l&&A1 v))&&Aj t)=true from hp)
 obtain ⟨h2,h3⟩:=Af.1 h1
 obtain ⟨hr,hb⟩:=Af.1 h2
 obtain ⟨al,av⟩:=Af.1 h3
 have hb:=Ash hb
 have hc:Kf r c l=0:=by unfold Kf; rw [Ase hr]
 have h36:=Ro hr
 obtain ⟨R,C,rfl,rfl,r6,c6,hl⟩:=Gm hr
 obtain ⟨i,rfl⟩:∃ j:Nat,i=j:=⟨i.toNat,by omega⟩
 obtain ⟨k,rfl⟩:∃ j:Nat,k=j:=⟨k.toNat,by omega⟩
 refine ⟨8,Ah.Apply.out [.i (R:Int),.i (C:Int),.l l,.i (i:Int),.i (k:Int),.l v,.i t],[],?_,Wk.E5 (.cons (Wk.I5 (.cons .int (.cons .int (.cons (.keep _ _ _ _ List.not_mem_nil) .nil)))) (.cons .int .nil))⟩
 show _=some (DV.tup [.agg [.int .i64 (R:Int),.int .i64 (C:Int),.ints (.own 114002 tB) .u64 (Fg (toNat (R:Int)) (toNat (C:Int)) l (i:Int) (k:Int) v t)],.int .i64 0])
 have hlt:(((((A3 (i:Int) (0:Int))||(A3 (R:Int) (length v:Int)))||(A3 (Ab ((R:Int)-(length v:Int))) (i:Int)))||(A3 (k:Int) (0:Int)))||(A3 (C:Int) (k:Int)))=false:=by
  rw [Av,Av,Av,Av,Av,Ao (by omega) (by omega),Arw (by omega),Arw (by omega),Arw (by omega),Arw (by omega),Arw (by omega)]; rfl
 rw [Ah.Apply.ev,hc,show ((0:Int) !=(0:Int))=false from rfl,Arv,hlt,Arv,Ars (show 0+l.length≤Gy by unfold Gy; omega),Arr,List.nil_append,Art,Art]
 have:=Acu (R:=R) (C:=C) (i:=i) (k:=k) (l:=l) (v:=v) (t:=t) 8 r6 c6 (by omega) hr al av ht (by omega) (C-k) k 8 (by omega) (by omega) (by omega)
 rw [Aja hl] at this
 exact this
namespace EqSol
end EqSol
open EqSol
section
variable {n Q:Nat} {l m:List Int}
end
namespace EqFew
end EqFew
open EqSol EqFew
theorem Aau {r c:Int} {l:List Int} (h:Et r c l=0):Bo r c l=true∧D2 l=true:=by
 unfold Et at h
 by_cases h1:Bo r c l=true
 ·rw [Ase h1] at h
  by_cases h2:D2 l=true
  ·exact ⟨h1,h2⟩
  ·rw [Asd h2] at h; exact absurd h (by decide)
 ·rw [Asd h1] at h; exact absurd h (by decide)
theorem Ai2 {r c:Int} {l:List Int} (h1:Bo r c l=true) (h2:D2 l=true):Et r c l=0:=by unfold Et; rw [Ase h1,Ase h2]
theorem neI {x:Int} (h:x≠0):(x !=(0:Int))=true:=by simpa using h
theorem Yy {x:Int} (h:x=0):(x !=(0:Int))=false:=by rw [h]; rfl
theorem Agu {b:Nat} {n:Int} (h:b<2^64):(Ew b n).1<2^64:=by
 unfold Ew
 by_cases h4:Ag b=4
 ·rw [Ase h4]; exact (by decide:Vq<2^64)
 rw [Asd h4]
 by_cases h3:Ag b=3∨Ag b=0
 ·rw [Ase h3]; exact h
 rw [Asd h3]
 exact Qb _ _ _
theorem Iu {b n:Int} (h:Aj b=true):Aj (Bs b n)=true:=by
 obtain ⟨x,rfl,hx⟩:=Bt h
 exact B6 (Agu (by rw [Art]; exact hx))
theorem Vk:∀ (l:List Int) (m:Nat),m<2^64→Yn l m<2^64
 | [],m,h=>h
 | x::l,m,h=>by
   unfold Yn
   split
   ·exact (by decide:Vq<2^64)
   ·have h2:G4 x.toNat<2^63:=Aa9 x.toNat
    exact Vk l _ (by omega)
theorem Vl (l:List Int):Aj (Bd l)=true:=B6 (Vk l 0 (by decide))
theorem Adu (x y:List Int):Aj (Oz x y)=true:=B6 (Yi x y 0 (by decide))
namespace EqQr
def qr.down.hint:Nat→Option Bc
 | 0=>some { keep:=[1,2,5,6,7],objs:=[(0,6,100006,.recs 119 2 []),(6,2,106002,.ints 32 .u64 [])],boxes:=[1,2,5] }
 | 2=>some { keep:=[1,2,5,6,7,8,9,12],objs:=[(6,2,106002,.ints 32 .u64 []),(0,6,100006,.recs 119 2 [])],boxes:=[1,2,5] }
 | _=>none
def qr.down.Bh:List (Nat × Entry):=[(89,Ah.Apply.spec),(107,Ah.Dh.spec),(30,Aa.Cr.spec)]
def qr.down.E:Env:=Bi (Bg qr.down.Bh) (fun n=>Nat.beq n 46) qr.down.hint (fun _=>none)
section
variable (N M0 M:Nat) (r c:Int) (l:List Int) (p7:Int) (p6:List (List DV)) (p2_2:List Int) (p12_1:Int) (p2_1:List Int) (p7_1:Int) (p8:List Int) (p9:Int) (p6_1:List (List DV))
def qr.down.L0:Option DV:=B3 qr.down.E N f88 (Aq f88) [1,1,1,0,1,0,0,1,0,0,1,1,1,1,0,1,0] [M0] M ⟨G8 88 [(1,.ptr 1 0 0),(2,.ptr 2 0 0),(5,.ptr 5 0 0),(6,.oref 100006),(7,.int .i64 p7_1),(8,.ints .fresh .u64 p8),(9,.int .u64 p9),(12,.int .i64 p12_1)],[(1,false,.box [.int .i64 r,.int .i64 c,.ints .arg .u64 l]),(2,false,.box [.int .i64 0,.int .i64 0,.nil]),(5,false,.box [.int .i64 r,.int .i64 c,.oref 106002]),(106002,false,.ints 32 .u64 p2_1),(100006,false,.recs 119 2 p6_1)]⟩
def qr.down.L1:Option DV:=B3 qr.down.E N f88 (Aq f88) [1,1,1,0,1,0] [] M ⟨G8 88 [(1,.ptr 1 0 0),(2,.ptr 2 0 0),(5,.ptr 5 0 0),(6,.oref 100006),(7,.int .i64 p7)],[(1,false,.box [.int .i64 r,.int .i64 c,.ints .arg .u64 l]),(2,false,.box [.int .i64 0,.int .i64 0,.nil]),(5,false,.box [.int .i64 r,.int .i64 c,.oref 106002]),(100006,false,.recs 119 2 p6),(106002,false,.ints 32 .u64 p2_2)]⟩
def qr.down.L2:Option DV:=B3 qr.down.E N f88 (Aq f88) [1,1,1,0,1,0] [] M ⟨G8 88 [(1,.ptr 1 0 0),(2,.ptr 2 0 0),(5,.ptr 5 0 0),(6,.oref 100006),(7,.int .i64 0)],[(1,false,.box [.int .i64 r,.int .i64 c,.ints .arg .u64 l]),(2,false,.box [.int .i64 0,.int .i64 0,.nil]),(5,false,.box [.int .i64 r,.int .i64 c,.ints .arg .u64 l]),(100006,false,.recs 119 2 [])]⟩
theorem qr.down.Au:qr.down.L0 N M0 (M+1) r c l p12_1 p2_1 p7_1 p8 p9 p6_1=bif (A3 p12_1 r) then bif ((decide (0≤(Ab ((Ab (p12_1*c))+p7_1))))&&(decide ((Ab ((Ab (p12_1*c))+p7_1))<(length p2_1:Int)))) then bif (decide ((toNat (Ab ((Ab (p12_1*c))+p7_1)))<(length p2_1))) then qr.down.L0 N M0 M r c l (Ab (p12_1+1)) (List.set p2_1 (toNat (Ab ((Ab (p12_1*c))+p7_1))) 0) p7_1 p8 p9 p6_1 else none else none else bif (decide ((length p6_1)+1≤Ahy)) then qr.down.L1 N M0 r c l (Ab (p7_1+1)) (p6_1++[[.ints .arg .u64 p8,.int .u64 p9]]) p2_1 else none:=by kernel_rfl
theorem qr.down.C3:qr.down.L1 N (M+1) r c l p7 p6 p2_2=bif ((A3 p7 c)&&(A3 p7 (Ab (r-1)))) then bif (Gl r c p2_2 p7&&Br (0≤p7∧p7≤r)) then bif (Cj (C6 c p2_2 p7 p7 (toNat (r-p7)))) then bif (((Cb (C6 c p2_2 p7 p7 (toNat (r-p7)))).2.2.2) !=(0:Int)) then some (.tup [.agg [.int .i64 0,.int .i64 0,.nil],.nil,.int .i64 2]) else bif (((Bo r c p2_2&&K8 r c p7 p7 ((Cb (C6 c p2_2 p7 p7 (toNat (r-p7)))).1))&&(A1 p2_2&&A1 ((Cb (C6 c p2_2 p7 p7 (toNat (r-p7)))).1)))&&Aj ((Cb (C6 c p2_2 p7 p7 (toNat (r-p7)))).2.1)) then bif ((decide (0≤(Ab ((Ab (p7*c))+p7))))&&(decide ((Ab ((Ab (p7*c))+p7))<(length (Fg (toNat r) (toNat c) p2_2 p7 p7 ((Cb (C6 c p2_2 p7 p7 (toNat (r-p7)))).1) ((Cb (C6 c p2_2 p7 p7 (toNat (r-p7)))).2.1)):Int)))) then bif (decide ((toNat (Ab ((Ab (p7*c))+p7)))<(length (Fg (toNat r) (toNat c) p2_2 p7 p7 ((Cb (C6 c p2_2 p7 p7 (toNat (r-p7)))).1) ((Cb (C6 c p2_2 p7 p7 (toNat (r-p7)))).2.1))))) then qr.down.L0 N M N r c l (Ab (p7+1)) (List.set (Fg (toNat r) (toNat c) p2_2 p7 p7 ((Cb (C6 c p2_2 p7 p7 (toNat (r-p7)))).1) ((Cb (C6 c p2_2 p7 p7 (toNat (r-p7)))).2.1)) (toNat (Ab ((Ab (p7*c))+p7))) ((Cb (C6 c p2_2 p7 p7 (toNat (r-p7)))).2.2.1)) p7 ((Cb (C6 c p2_2 p7 p7 (toNat (r-p7)))).1) ((Cb (C6 c p2_2 p7 p7 (toNat (r-p7)))).2.1) p6 else none else none else none else none else none else some (.tup [.agg [.int .i64 r,.int .i64 c,.ints (.own 106002 32) .u64 p2_2],.recs (.own 100006 119) 2 p6,.int .i64 0]) :=
 Eq.trans (by kernel_rfl)
 (Aw (H0 (A3 p7 c)) (Aw (H0 (A3 p7 c)) (Aw (Fm (A3 p7 c)) (Aw (Fm (A3 p7 c)) (Aw (Ajs (A3 p7 c)) (Aw (J3 (A3 p7 c)) (Df (Tt (A3 p7 c) (A3 p7 (Ab (r-1)))) rfl rfl)))))))
theorem qr.down.Ml:qr.down.L2 N (M+1) r c l=bif ((A3 0 c)&&(A3 0 (Ab (r-1)))) then bif (Gl r c l 0&&Br (0≤(0:Int)∧(0:Int)≤r)) then bif (Cj (C6 c l 0 0 (toNat (r-0)))) then bif (((Cb (C6 c l 0 0 (toNat (r-0)))).2.2.2) !=(0:Int)) then some (.tup [.agg [.int .i64 0,.int .i64 0,.nil],.nil,.int .i64 2]) else bif (((Bo r c l&&K8 r c 0 0 ((Cb (C6 c l 0 0 (toNat (r-0)))).1))&&(A1 l&&A1 ((Cb (C6 c l 0 0 (toNat (r-0)))).1)))&&Aj ((Cb (C6 c l 0 0 (toNat (r-0)))).2.1)) then bif ((decide (0≤(Ab ((Ab ((0:Int)*c))+0))))&&(decide ((Ab ((Ab ((0:Int)*c))+0))<(length (Fg (toNat r) (toNat c) l 0 0 ((Cb (C6 c l 0 0 (toNat (r-0)))).1) ((Cb (C6 c l 0 0 (toNat (r-0)))).2.1)):Int)))) then bif (decide ((toNat (Ab ((Ab ((0:Int)*c))+0)))<(length (Fg (toNat r) (toNat c) l 0 0 ((Cb (C6 c l 0 0 (toNat (r-0)))).1) ((Cb (C6 c l 0 0 (toNat (r-0)))).2.1))))) then qr.down.L0 N M N r c l 1 (List.set (Fg (toNat r) (toNat c) l 0 0 ((Cb (C6 c l 0 0 (toNat (r-0)))).1) ((Cb (C6 c l 0 0 (toNat (r-0)))).2.1)) (toNat (Ab ((Ab ((0:Int)*c))+0))) ((Cb (C6 c l 0 0 (toNat (r-0)))).2.2.1)) 0 ((Cb (C6 c l 0 0 (toNat (r-0)))).1) ((Cb (C6 c l 0 0 (toNat (r-0)))).2.1) [] else none else none else none else none else none else some (.tup [.agg [.int .i64 r,.int .i64 c,.ints .arg .u64 l],.recs (.own 100006 119) 2 [],.int .i64 0]) :=
 Eq.trans (by kernel_rfl)
 (Aw (H0 (A3 0 c)) (Aw (H0 (A3 0 c)) (Aw (Fm (A3 0 c)) (Aw (Fm (A3 0 c)) (Aw (Ajs (A3 0 c)) (Aw (J3 (A3 0 c)) (Df (Tt (A3 0 c) (A3 0 (Ab (r-1)))) rfl rfl)))))))
theorem qr.down.ev:Bw qr.down.E N f88 (Aq f88) [.agg [.int .i64 r,.int .i64 c,.ints .arg .u64 l]] =
 qr.down.L2 N N r c l:=by kernel_rfl
end
abbrev _root_.Go.Proofs.S1.qr.down.Kn:=A6 prog 88 qr.down.spec
theorem qr.down.Ad (hk:Ay prog qr.down.Bh) (h:Hyp qr.down.E f88 qr.down.ts qr.down.pre qr.down.out):qr.down.Kn :=
 Am (A2 hk _ _ _) func88 (by kernel_rfl) (by kernel_rfl) h
def qr.Cz.hint:Nat→Option Bc
 | 0=>some { keep:=[2,3,5,6],objs:=[],boxes:=[2,3] }
 | _=>none
def qr.Cz.Bh:List (Nat × Entry):=[(51,Cd.Check.spec),(89,Ah.Apply.spec),(62,Aa.Fs.spec),(88,qr.down.spec),(28,Ac.Finite.spec)]
def qr.Cz.E:Env:=Vb (Bg qr.Cz.Bh) (fun _=>false) qr.Cz.hint (fun _=>none) (Ad1 [(22,[.s .u64]),(32,[.i .u64])])
section
variable (N M:Nat) (r c:Int) (l:List Int) (p6:Int) (p2:List Int)
def qr.Cz.L0:Option DV:=B3 qr.Cz.E N f56 (Aq f56) [1,0,1,1,1,1,1,1,0,0] [] M ⟨G8 81 [(2,.ptr 2 0 0),(3,.ptr 3 0 0),(5,.recs .fresh 2 (Ig r c ([]++l))),(6,.int .i64 p6)],[(2,false,.box [.int .i64 ((F3 r).1),.int .i64 ((F3 r).2.1),.ints .fresh .u64 p2]),(3,false,.box [.int .i64 ((Eo r c ([]++l)).1),.int .i64 ((Eo r c ([]++l)).2.1),.ints .arg .u64 ((Eo r c ([]++l)).2.2.1)])]⟩
theorem qr.Cz.Au:qr.Cz.L0 N (M+1) r c l p6 p2=bif (A3 p6 0) then bif (Cj p2) then bif ((!(D2 p2))||(Cj ((Eo r c ([]++l)).2.2.1))) then bif ((!(D2 p2))||(!(D2 ((Eo r c ([]++l)).2.2.1)))) then some (.tup [.agg [.int .i64 0,.int .i64 0,.nil],.agg [.int .i64 0,.int .i64 0,.nil],.int .i64 2]) else some (.tup [.agg [.int .i64 ((F3 r).1),.int .i64 ((F3 r).2.1),.ints .fresh .u64 p2],.agg [.int .i64 ((Eo r c ([]++l)).1),.int .i64 ((Eo r c ([]++l)).2.1),.ints .arg .u64 ((Eo r c ([]++l)).2.2.1)],.int .i64 0]) else none else none else bif ((decide (0≤p6))&&(decide (p6<(length (Ig r c ([]++l)):Int)))) then bif (isC (.s .u64) (getD (getD (Ig r c ([]++l)) (toNat p6) []) 0 .undef)) then bif ((decide (0≤p6))&&(decide (p6<(length (Ig r c ([]++l)):Int)))) then bif (isC (.i .u64) (getD (getD (Ig r c ([]++l)) (toNat p6) []) 1 .undef)) then bif (((Bo ((F3 r).1) ((F3 r).2.1) p2&&K8 ((F3 r).1) ((F3 r).2.1) p6 0 (Pw (getD (getD (Ig r c ([]++l)) (toNat p6) []) 0 .undef)))&&(A1 p2&&A1 (Pw (getD (getD (Ig r c ([]++l)) (toNat p6) []) 0 .undef))))&&Aj (Adt (getD (getD (Ig r c ([]++l)) (toNat p6) []) 1 .undef))) then qr.Cz.L0 N M r c l (Ab (p6-1)) (Fg (toNat ((F3 r).1)) (toNat ((F3 r).2.1)) p2 p6 0 (Pw (getD (getD (Ig r c ([]++l)) (toNat p6) []) 0 .undef)) (Adt (getD (getD (Ig r c ([]++l)) (toNat p6) []) 1 .undef))) else none else none else none else none else none :=
 Eq.trans (by kernel_rfl)
 (Eu (Eu (Aw (tt9 (D2 p2)) (Aw (tt7 (D2 p2)) (Df (tt8 (D2 p2) (Cj ((Eo r c ([]++l)).2.2.1))) (Aw (tt7 (D2 p2)) (Aw (tt6 (D2 p2)) (Df (tt5 (D2 p2) (D2 ((Eo r c ([]++l)).2.2.1))) rfl rfl))) rfl))) rfl) (Df (tt4 (decide (0≤p6)) (decide (p6<(length (Ig r c ([]++l)):Int)))) (Df (Gc (isC (.s .u64) (getD (getD (Ig r c ([]++l)) (toNat p6) []) 0 .undef))) (Df (tt4 (decide (0≤p6)) (decide (p6<(length (Ig r c ([]++l)):Int)))) (Df (Gc (isC (.i .u64) (getD (getD (Ig r c ([]++l)) (toNat p6) []) 1 .undef))) (Df (Gc (((Bo ((F3 r).1) ((F3 r).2.1) p2&&K8 ((F3 r).1) ((F3 r).2.1) p6 0 (Pw (getD (getD (Ig r c ([]++l)) (toNat p6) []) 0 .undef)))&&(A1 p2&&A1 (Pw (getD (getD (Ig r c ([]++l)) (toNat p6) []) 0 .undef))))&&Aj (Adt (getD (getD (Ig r c ([]++l)) (toNat p6) []) 1 .undef)))) rfl rfl) rfl) rfl) rfl) rfl))
theorem qr.Cz.ev:Bw qr.Cz.E N f56 (Aq f56) [.agg [.int .i64 r,.int .i64 c,.ints .arg .u64 l]]=bif (A1 l) then bif ((Et r c l) !=(0:Int)) then some (.tup [.agg [.int .i64 0,.int .i64 0,.nil],.agg [.int .i64 0,.int .i64 0,.nil],.int .i64 (Et r c l)]) else bif (decide (0+(length l)≤Gy)) then bif ((Bo r c ([]++l)&&D2 ([]++l))&&A1 ([]++l)) then bif (((Eo r c ([]++l)).2.2.2) !=(0:Int)) then some (.tup [.agg [.int .i64 0,.int .i64 0,.nil],.agg [.int .i64 0,.int .i64 0,.nil],.int .i64 ((Eo r c ([]++l)).2.2.2)]) else qr.Cz.L0 N N r c l (Ab ((length (Ig r c ([]++l)):Int)-1)) ((F3 r).2.2.1) else none else none else none :=
 Eq.trans (by kernel_rfl)
 (Eu (Eu rfl (Df (Gc (decide (0+(length l)≤Gy))) (Df (Gc ((Bo r c ([]++l)&&D2 ([]++l))&&A1 ([]++l))) rfl rfl) rfl)) rfl)
end
abbrev _root_.Go.Proofs.S1.qr.Cz.Kn:=A6 prog 56 qr.Cz.spec
theorem qr.Cz.Ad (hk:Ay prog qr.Cz.Bh) (h:Hyp qr.Cz.E f56 qr.Cz.ts qr.Cz.pre qr.Cz.out):qr.Cz.Kn :=
 Am (Yg hk _ _ _ _) func56 (by kernel_rfl) (by kernel_rfl) h
def qr.E7.Bh:List (Nat × Entry):=[(25,Aa.Part.spec),(56,qr.Cz.spec)]
def qr.E7.E:Env:=Bi (Bg qr.E7.Bh) (fun _=>false) (fun _=>none) (fun _=>none)
theorem qr.E7.ev (N:Nat) (r c:Int) (l:List Int):Bw qr.E7.E N f24 (Aq f24) [.agg [.int .i64 r,.int .i64 c,.ints .arg .u64 l]]=bif (A1 l) then bif ((Ga r c l) !=(0:Int)) then some (.tup [.agg [.int .i64 0,.int .i64 0,.nil],.agg [.int .i64 0,.int .i64 0,.nil],.int .i64 (Ga r c l)]) else some (.tup [.agg [.int .i64 ((F7 ((qX r c l).1) ((qX r c l).2.1) ((qX r c l).2.2.1) 0 0 r (min r c)).1),.int .i64 ((F7 ((qX r c l).1) ((qX r c l).2.1) ((qX r c l).2.2.1) 0 0 r (min r c)).2.1),.ints .fresh .u64 ((F7 ((qX r c l).1) ((qX r c l).2.1) ((qX r c l).2.2.1) 0 0 r (min r c)).2.2.1)],.agg [.int .i64 ((F7 ((rX r c l).1) ((rX r c l).2.1) ((rX r c l).2.2.1) 0 0 (min r c) c).1),.int .i64 ((F7 ((rX r c l).1) ((rX r c l).2.1) ((rX r c l).2.2.1) 0 0 (min r c) c).2.1),.ints .fresh .u64 ((F7 ((rX r c l).1) ((rX r c l).2.1) ((rX r c l).2.2.1) 0 0 (min r c) c).2.2.1)],.int .i64 0]) else none:=by kernel_rfl
abbrev _root_.Go.Proofs.S1.qr.E7.Kn:=A6 prog 24 qr.E7.spec
theorem qr.E7.Ad (hk:Ay prog qr.E7.Bh) (h:Hyp qr.E7.E f24 qr.E7.ts qr.E7.pre qr.E7.out):qr.E7.Kn :=
 Am (A2 hk _ _ _) func24 (by kernel_rfl) (by kernel_rfl) h
end EqQr
open EqQr
def clS (R C:Nat) (l:List Int) (j:Nat) (x:Int) (i:Nat):List Int:=Dr R C fun a b=>if b=j∧j≤a∧a<i then (if a=j then x else 0) else Mr (C:Int) l (a:Int) (b:Int)
section
variable {R C j:Nat} {l:List Int} {x:Int}
theorem Alf (i:Nat):(clS R C l j x i).length=R*C:=Cs _ _ _
theorem W5 (hl:l.length=R*C) (hj:j<C):List.set l (j*C+j) x=clS R C l j x (j+1):=by
 unfold clS
 conv=>lhs; rw [← Wz hl]
 rw [U6 hj]
 refine Gi fun a b ha hb=>?_
 by_cases h:a=j∧b=j
 ·rw [Ase h,Ase (by omega),Ase h.1]
 ·rw [Asd h,Asd (by omega)]
theorem Ale {i:Nat} (hj:j<C) (hi:j<i):List.set (clS R C l j x i) (i*C+j) 0=clS R C l j x (i+1):=by
 unfold clS
 rw [U6 hj]
 refine Gi fun a b ha hb=>?_
 by_cases h:a=i∧b=j
 ·rw [Ase h,Ase (by omega),Asd (by omega)]
 ·rw [Asd h]
  by_cases h2:b=j∧j≤a∧a<i
  ·rw [Ase h2,Ase (show b=j∧j≤a∧a<i+1 by omega)]
  ·rw [Asd h2,Asd (by omega)]
theorem Alg:clS R C l j x R=Sc R C l j x:=by
 unfold clS Sc
 refine Gi fun a b ha hb=>?_
 by_cases h:b=j∧j≤a
 ·rw [Ase h,Ase (by omega)]
 ·rw [Asd h,Asd (by omega)]
end
theorem Uk {C i j:Nat} (hi:i≤6) (hC:C≤6) (hj:j≤6):Ab (Ab ((i:Int)*(C:Int))+(j:Int))=((i*C+j:Nat):Int):=by
 have h36:=Aso hi hC
 rw [Ao (x:=(i:Int)*(C:Int)) (by rw [← Asc]; omega) (by rw [← Asc]; omega),← Asc,Ao (by omega) (by omega)]
 omega
section
variable {R C:Nat}
theorem Vc (N M0:Nat) (l0:List Int) (r6:R≤6) (c6:C≤6) {j:Nat} (hj:j<C) (l:List Int) (x:Int) (v:List Int) (t:Int) (ms:List (List DV)) (hms:ms.length≤100):∀ (cnt i F:Nat),i+cnt=R→j<i→cnt<F →
 qr.down.L0 N M0 F (R:Int) (C:Int) l0 (i:Int) (clS R C l j x i) (j:Int) v t ms=qr.down.L1 N M0 (R:Int) (C:Int) l0 ((j+1:Nat):Int) (ms++[[.ints .arg .u64 v,.int .u64 t]]) (Sc R C l j x):=by
 intro cnt
 induction cnt with
 | zero =>
   intro i F hi hji hF
   obtain ⟨F,rfl⟩:∃ G,F=G+1:=⟨F-1,by omega⟩
   obtain rfl:i=R:=by omega
   rw [qr.down.Au,Av,Arw (by omega),Arv,Ars (by unfold Ahy; omega),Arr,Ao (by omega) (by omega),Alg]
   rfl
 | succ cnt ih =>
   intro i F hi hji hF
   obtain ⟨F,rfl⟩:∃ G,F=G+1:=⟨F-1,by omega⟩
   have hlen:=Alf (R:=R) (C:=C) (l:=l) (j:=j) (x:=x) i
   have hp:=Lg (show i<R by omega) hj
   rw [qr.down.Au,Av,Ars (by omega),Arr,Uk (by omega) c6 (by omega),Ars (by omega),Ars (by omega),Arx,Arr,Art,Ars (by omega),Arr,Ale hj hji,Ao (by omega) (by omega)]
   exact ih (i+1) F (by omega) (by omega) (by omega)
def Pf (r c:Nat) (ms:List (List DV)):Option (List Int × List (List Int × Int))→DV
 | none=>.tup [.agg [.int .i64 0,.int .i64 0,.nil],.nil,.int .i64 2]
 | some x=>.tup [.agg [.int .i64 (r:Int),.int .i64 (c:Int),.ints (.own 106002 tB) .u64 x.1],.recs (.own 100006 tMR) 2 (ms++Um x.2),.int .i64 0]
theorem Afo (N:Nat) (hN:7<N) (l0:List Int) (r6:R≤6) (c6:C≤6):∀ (cnt j F:Nat) (l:List Int) (ms:List (List DV)),j+cnt=H5 R C→cnt<F→l.length=R*C→A1 l=true→ms.length=j →
 qr.down.L1 N F (R:Int) (C:Int) l0 (j:Int) ms l=some (Pf R C ms (Mq R C cnt j l)):=by
 intro cnt
 induction cnt with
 | zero =>
   intro j F l ms hj hF hl al hms
   obtain ⟨F,rfl⟩:∃ G,F=G+1:=⟨F-1,by omega⟩
   unfold H5 at hj
   have hlt:(A3 (j:Int) (C:Int)&&A3 (j:Int) (Ab ((R:Int)-1)))=false:=by
    rw [Av,Av,Ao (by omega) (by omega),Bool.and_eq_false_iff,Asa,Asa]; omega
   rw [qr.down.C3,hlt,Arv]
   simp [Mq,Pf,Um]
 | succ cnt ih =>
   intro j F l ms hj hF hl al hms
   obtain ⟨F,rfl⟩:∃ G,F=G+1:=⟨F-1,by omega⟩
   have hj0:=hj
   unfold H5 at hj
   have hr:=M7 r6 c6 hl
   have hlt:(A3 (j:Int) (C:Int)&&A3 (j:Int) (Ab ((R:Int)-1)))=true:=by
    rw [Av,Av,Ao (by omega) (by omega),Ars (by omega),Ars (by omega)]; rfl
   have cp:Gl (R:Int) (C:Int) l (j:Int)=true:=Af.2 ⟨hr,Al.2 (by omega)⟩
   have ec:C6 (C:Int) l (j:Int) (j:Int) (toNat ((R:Int)-(j:Int)))=Fp R C l j:=by unfold Fp; rw [show toNat ((R:Int)-(j:Int))=R-j by omega]
   have ca:A1 (Fp R C l j)=true:=Rm al
   have cl:(Fp R C l j).length=R-j:=H6 _ _ _ _ _
   rw [qr.down.C3,hlt,Arr,cp,Al.2 (show 0≤(j:Int)∧(j:Int)≤(R:Int) by omega),Arx,Arr,ec,Po ca (by omega),Arr]
   unfold Mq
   by_cases he:(Cb (Fp R C l j)).2.2.2=0
   ·have hml:=Uo he
    have hma:=Th ca
    have hap:K8 (R:Int) (C:Int) (j:Int) (j:Int) (Cb (Fp R C l j)).1=true:=Ars (by omega)
    have hp:=Lg (show j<R by omega) (show j<C by omega)
    have hlen:=K7 R C l (j:Int) (j:Int) (Cb (Fp R C l j)).1 (Cb (Fp R C l j)).2.1
    have hg:=Vc N F l0 r6 c6 (show j<C by omega) (Fg R C l (j:Int) (j:Int) (Cb (Fp R C l j)).1 (Cb (Fp R C l j)).2.1) (Cb (Fp R C l j)).2.2.1 (Cb (Fp R C l j)).1 (Cb (Fp R C l j)).2.1 ms (by omega) (R-(j+1)) (j+1) N (by omega) (by omega) (by omega)
    have hn:=ih (j+1) F (Vv R C l j) (ms++[[.ints .arg .u64 (Cb (Fp R C l j)).1,.int .u64 (Cb (Fp R C l j)).2.1]]) (by omega) (by omega) (Nc _ _ _ _) (X2 al j) (by rw [Asj,hms]; rfl)
    rw [Yy he,Arv,hr,hap,al,hma.1,hma.2.1,Arx,Arx,Arx,Arr,Uk (by omega) c6 (by omega),Art,Art,Art,Ars (by omega),Ars (by omega),Arx,Arr,Ars (by omega),Arr,
     W5 hlen (by omega),Ao (by omega) (by omega),Ase he]
    refine (hg.trans hn).trans ?_
    show some (Pf R C _ (Mq R C cnt (j+1) (Vv R C l j)))=some (Pf R C ms _)
    cases Mq R C cnt (j+1) (Vv R C l j) with
    | none=>rfl
    | some x=>simp [Pf,Um]
   ·rw [neI he,Arr,Asd he]; rfl
theorem Ach (N:Nat) (hN:7<N) {l:List Int} (r6:R≤6) (c6:C≤6) (hl:l.length=R*C) (al:A1 l=true) (h0:H5 R C≠0) :
 qr.down.L2 N N (R:Int) (C:Int) l=some (Pf R C [] (H4 R C l)):=by
 obtain ⟨cnt,hc⟩:∃ cnt,H5 R C=cnt+1:=⟨H5 R C-1,by omega⟩
 obtain ⟨F,rfl⟩:∃ G,N=G+1:=⟨N-1,by omega⟩
 have hj:=hc
 unfold H5 at hj
 have hr:=M7 r6 c6 hl
 have hlt:(A3 (0:Int) (C:Int)&&A3 (0:Int) (Ab ((R:Int)-1)))=true:=by
  rw [Av,Av,Ao (by omega) (by omega),Ars (by omega),Ars (by omega)]; rfl
 have cp:Gl (R:Int) (C:Int) l (0:Int)=true:=Af.2 ⟨hr,Al.2 (by omega)⟩
 have ec:C6 (C:Int) l (0:Int) (0:Int) (toNat ((R:Int)-(0:Int)))=Fp R C l 0:=by unfold Fp; rw [show toNat ((R:Int)-(0:Int))=R-0 by omega]; rfl
 have ca:A1 (Fp R C l 0)=true:=Rm al
 have cl:(Fp R C l 0).length=R-0:=H6 _ _ _ _ _
 unfold H4
 rw [hc,qr.down.Ml,hlt,Arr,cp,Al.2 (show 0≤(0:Int)∧(0:Int)≤(R:Int) by omega),Arx,Arr,ec,Po ca (by omega),Arr]
 unfold Mq
 by_cases he:(Cb (Fp R C l 0)).2.2.2=0
 ·have hml:=Uo he
  have hma:=Th ca
  have hap:K8 (R:Int) (C:Int) (0:Int) (0:Int) (Cb (Fp R C l 0)).1=true:=Ars (by omega)
  have hp:=Lg (show 0<R by omega) (show 0<C by omega)
  have hlen:=K7 R C l (0:Int) (0:Int) (Cb (Fp R C l 0)).1 (Cb (Fp R C l 0)).2.1
  have hg:=Vc (F+1) F l r6 c6 (show 0<C by omega) (Fg R C l (0:Int) (0:Int) (Cb (Fp R C l 0)).1 (Cb (Fp R C l 0)).2.1) (Cb (Fp R C l 0)).2.2.1 (Cb (Fp R C l 0)).1 (Cb (Fp R C l 0)).2.1 [] (Nat.zero_le _) (R-1) 1 (F+1) (by omega) (by omega) (by omega)
  have hn:=Afo (R:=R) (C:=C) (F+1) hN l r6 c6 cnt 1 F (Vv R C l 0) [[.ints .arg .u64 (Cb (Fp R C l 0)).1,.int .u64 (Cb (Fp R C l 0)).2.1]] (by omega) (by unfold H5 at hc; omega) (Nc _ _ _ _) (X2 al 0) rfl
  have mc:=Uk (i:=0) (C:=C) (j:=0) (by omega) c6 (by omega)
  have mc:Ab (Ab ((0:Int)*(C:Int))+(0:Int))=((0*C+0:Nat):Int):=mc
  rw [Yy he,Arv,hr,hap,al,hma.1,hma.2.1,Arx,Arx,Arx,Arr,mc,Art,Art,Art,Ars (by omega),Ars (by omega),Arx,Arr,Ars (by omega),Arr,
   W5 hlen (by omega),Ase he]
  refine (hg.trans hn).trans ?_
  show some (Pf R C _ (Mq R C cnt 1 (Vv R C l 0)))=some (Pf R C [] _)
  cases Mq R C cnt (0+1) (Vv R C l 0) with
  | none=>rfl
  | some x=>simp [Pf,Um]
 ·rw [neI he,Arr,Asd he]; rfl
end
theorem qr.down.known:qr.down.Kn:=qr.down.Ad (.cons Ah.Apply.known (.cons Ah.Dh.known (.cons Aa.Cr.known .nil))) fun r c l hp=>by
 obtain ⟨h1,al⟩:=Af.1 (show ((Bo r c l&&D2 l)&&A1 l)=true from hp)
 obtain ⟨hr,hf⟩:=Af.1 h1
 obtain ⟨R,C,rfl,rfl,r6,c6,hl⟩:=Gm hr
 by_cases h0:H5 R C=0
 ·have hx:H4 R C l=some (l,[]):=by unfold H4; rw [h0]; rfl
  refine ⟨8,.tup [.agg [.int .i64 (R:Int),.int .i64 (C:Int),.ints .arg .u64 l],.recs (.own 100006 tMR) 2 [],.int .i64 0],[100006],?_,?_⟩
  ·unfold H5 at h0
   have hlt:(A3 (0:Int) (C:Int)&&A3 (0:Int) (Ab ((R:Int)-1)))=false:=by
    rw [Av,Av,Ao (by omega) (by omega),Bool.and_eq_false_iff,Asa,Asa]; omega
   rw [qr.down.ev,show (8:Nat)=7+1 from rfl,qr.down.Ml,hlt,Arv]
  ·show Wk _ _ (DV.tup [.agg [.int .i64 (Eo (R:Int) (C:Int) l).1,.int .i64 (Eo (R:Int) (C:Int) l).2.1,.ints .arg .u64 (Eo (R:Int) (C:Int) l).2.2.1],.recs .fresh 2 (Ig (R:Int) (C:Int) l),.int .i64 (Eo (R:Int) (C:Int) l).2.2.2])
   unfold Eo Ig Mu
   rw [Art,Art,hx]
   exact Wk.E5 (.cons (Wk.I5 (.cons .int (.cons .int (.cons .Afz .nil)))) (.cons (.dropR _ _ _ _ (List.mem_singleton.2 rfl)) (.cons .int .nil)))
 ·refine ⟨8,Pf R C [] (H4 R C l),[106002,100006],?_,?_⟩
  ·rw [qr.down.ev]
   exact Ach 8 (by omega) r6 c6 hl al h0
  ·show Wk _ _ (DV.tup [.agg [.int .i64 (Eo (R:Int) (C:Int) l).1,.int .i64 (Eo (R:Int) (C:Int) l).2.1,.ints .arg .u64 (Eo (R:Int) (C:Int) l).2.2.1],.recs .fresh 2 (Ig (R:Int) (C:Int) l),.int .i64 (Eo (R:Int) (C:Int) l).2.2.2])
   unfold Eo Ig Mu
   rw [Art,Art]
   cases H4 R C l with
   | none=>exact Wk.E5 (.cons (Wk.I5 (.cons .int (.cons .int (.cons N7 .nil)))) (.cons (.nilR _ _) (.cons .int .nil)))
   | some x=>exact Wk.E5 (.cons (Wk.I5 (.cons .int (.cons .int (.cons (.dropA _ _ _ _ As7) .nil)))) (.cons (.dropR _ _ _ _ (Asx _ As7)) (.cons .int .nil)))
open EqQr
def Wq (e:Int):DV:=.tup [.agg [.int .i64 0,.int .i64 0,.nil],.agg [.int .i64 0,.int .i64 0,.nil],.int .i64 e]
theorem Ws {r:Nat}:∀ {j:Nat} {ms:List (List Int × Int)},Zy r j ms→∀ i:Nat,i<ms.length→A1 (ms.getD i ([],0)).1=true∧Aj (ms.getD i ([],0)).2=true∧(ms.getD i ([],0)).1.length+(j+i)=r
 | _,[],_,i,h=>absurd h (Nat.not_lt_zero _)
 | j,m::ms,hm,0,_=>hm.1
 | j,m::ms,hm,i+1,h=>by
   have:=Ws hm.2 i (by simpa using h)
   rw [show j+(i+1)=j+1+i by omega]
   exact this
theorem Ahp {ms:List (List Int × Int)} {i:Nat} (h:i<ms.length):getD (Um ms) i []=[.ints .arg .u64 (ms.getD i ([],0)).1,.int .u64 (ms.getD i ([],0)).2]:=by
 unfold Um
 rw [Ar1,As9,Ar8 h,Ar1,Ar8 h]; rfl
theorem Zx (ms:List (List Int × Int)):(Um ms).length=ms.length:=by unfold Um; rw [Asy]
theorem Afx {n i:Nat} {ms:List (List Int × Int)} (h:i<ms.length) (q:List Int):Jg n i (ms.drop i) q=Fg n n (Jg n (i+1) (ms.drop (i+1)) q) (i:Int) 0 (ms.getD i ([],0)).1 (ms.getD i ([],0)).2:=by
 rw [List.drop_eq_getElem_cons h,Jg,Ar1,Ar8 h]; rfl
theorem Acf {R:Nat} (h:R≤6):F3 (R:Int)=((R:Int),(R:Int),Np R,0):=by
 unfold F3 Np
 rw [Ase (Ajy h),Art]
theorem Amv {n:Nat} (h:n≤6):n*n≤36:=Aso h h
theorem Aal (N:Nat) {R C:Nat} {l:List Int} (r6:R≤6) {x:List Int × List (List Int × Int)} (hx:H4 R C l=some x) (hm:Zy R 0 x.2) (hxr:A1 x.1=true) (hxl:x.1.length≤36):∀ (j F:Nat),j≤x.2.length→j<F →
 qr.Cz.L0 N F (R:Int) (C:Int) l ((j:Int)-1) (Jg R j (x.2.drop j) (Np R)) =
 bif Pe R C l then some (.tup [.agg [.int .i64 (R:Int),.int .i64 (R:Int),.ints .fresh .u64 (Ra R C l)],.agg [.int .i64 (R:Int),.int .i64 (C:Int),.ints .arg .u64 (Mu R C l)],.int .i64 0])
 else some (Wq 2):=by
 have hq:Ra R C l=Jg R 0 x.2 (Np R):=by unfold Ra; rw [hx]
 have hr:Mu R C l=x.1:=by unfold Mu; rw [hx]
 have hd:Eo (R:Int) (C:Int) ([]++l)=((R:Int),(C:Int),x.1,0):=by
  unfold Eo
  rw [List.nil_append,Art,Art,hx,hr]; rfl
 have hmd:Ig (R:Int) (C:Int) ([]++l)=Um x.2:=by
  unfold Ig
  rw [List.nil_append,Art,Art,hx]
 have h36:=Amv r6
 intro j
 induction j with
 | zero =>
   intro F _ hF
   obtain ⟨F,rfl⟩:∃ G,F=G+1:=⟨F-1,by omega⟩
   have hb:=Tl R x.2 0 (Np R) (Yf R) (by unfold Np; exact Cs _ _ _)
   have ok1:Cj (Jg R 0 x.2 (Np R))=true:=Po hb.1 (by omega)
   have ok2:Cj x.1=true:=Po hxr (by omega)
   have hfo:Pe R C l=(D2 (Jg R 0 x.2 (Np R))&&D2 x.1):=by unfold Pe; rw [hx,hq,hr]; rfl
   rw [qr.Cz.Au,Av,Ars (by omega),Arr,List.drop_zero,ok1,Arr,hd,Acf r6,ok2,As4,Arr,hfo,hq,hr]
   cases D2 (Jg R 0 x.2 (Np R)) with
   | false=>rfl
   | true=>cases D2 x.1<;>rfl
 | succ j ih =>
   intro F hj hF
   obtain ⟨F,rfl⟩:∃ G,F=G+1:=⟨F-1,by omega⟩
   have ej:(((j+1:Nat):Int))-1=(j:Int):=by omega
   have hg:=Ws hm j (by omega)
   have hb:=Tl R (x.2.drop (j+1)) (j+1) (Np R) (Yf R) (by unfold Np; exact Cs _ _ _)
   have hr1:=M7 r6 r6 hb.2
   have hap:K8 (R:Int) (R:Int) (j:Int) 0 (x.2.getD j ([],0)).1=true:=Ars (by omega)
   have hmg:=Ahp (ms:=x.2) (i:=j) (by omega)
   rw [qr.Cz.Au,ej,Av,Arw (show ¬ (j:Int)<0 by omega),Arv,hmd,Zx,Ars (show (0:Int)≤(j:Int) by omega),Ars (show (j:Int)<(x.2.length:Int) by omega),Arx,Arr,Art,hmg,Acf r6]
   show (bif true then bif true then bif true then (bif (((Bo (R:Int) (R:Int) (Jg R (j+1) (x.2.drop (j+1)) (Np R))&&K8 (R:Int) (R:Int) (j:Int) (0:Int) (x.2.getD j ([],0)).1)&&(A1 (Jg R (j+1) (x.2.drop (j+1)) (Np R))&&A1 (x.2.getD j ([],0)).1))&&Aj (x.2.getD j ([],0)).2) then
    qr.Cz.L0 N F (R:Int) (C:Int) l (Ab ((j:Int)-(1:Int))) (Fg (toNat (R:Int)) (toNat (R:Int)) (Jg R (j+1) (x.2.drop (j+1)) (Np R)) (j:Int) (0:Int) (x.2.getD j ([],0)).1 (x.2.getD j ([],0)).2) else none) else none else none else none)=_
   rw [Arr,Arr,Arr,hr1,hap,hb.1,hg.1,hg.2.1,Arx,Arx,Arx,Arr,Art,Ao (by omega) (by omega),← Afx (by omega)]
   exact ih F (by omega) (by omega)
theorem Air {R C:Nat} {l:List Int} (hl:l.length=R*C) (al:A1 l=true) {x:List Int × List (List Int × Int)} (hx:H4 R C l=some x):A1 x.1=true∧x.1.length=R*C∧x.2.length=H5 R C∧Zy R 0 x.2 :=
 Vd R C (H5 R C) 0 l x al hl (by unfold H5; omega) hx
theorem Tj {r c:Int} {l:List Int} (h:Et r c l=0):Ga r c l=if Pe r.toNat c.toNat l=true then 0 else 2:=by
 unfold Ga; rw [Asd (by rw [h]; decide)]
theorem Aam {r c:Int} {l:List Int} (h:Et r c l≠0):Ga r c l=Et r c l:=by unfold Ga; rw [Ase h]
theorem Abt {r c:Int} {l:List Int} {e:Int} (h:Ga r c l=e) (he:e≠0):qX r c l=O5 e∧rX r c l=O5 e:=by unfold qX rX; rw [h,Ase he,Ase he]; exact ⟨rfl,rfl⟩
theorem Ac9 {r c:Int} {l:List Int} (h:Ga r c l=0):qX r c l=(r,r,Ra r.toNat c.toNat l,0)∧rX r c l=(r,c,Mu r.toNat c.toNat l,0):=by unfold qX rX; rw [h]; exact ⟨rfl,rfl⟩
theorem Xf {drops:List Nat} {e:Int} {g h:Aa5}:Wk drops (Wq e) (DV.tup [.agg [.int .i64 (O5 e).1,.int .i64 (O5 e).2.1,.ints g .u64 (O5 e).2.2.1],.agg [.int .i64 (O5 e).1,.int .i64 (O5 e).2.1,.ints h .u64 (O5 e).2.2.1],.int .i64 e]) :=
 Wk.E5 (.cons (Wk.I5 (.cons .int (.cons .int (.cons N7 .nil)))) (.cons (Wk.I5 (.cons .int (.cons .int (.cons N7 .nil)))) (.cons .int .nil)))
theorem qr.Cz.known:qr.Cz.Kn:=qr.Cz.Ad (.cons Cd.Check.known (.cons Ah.Apply.known (.cons Aa.Fs.known (.cons qr.down.known (.cons Ac.Finite.known .nil))))) fun r c l hp=>by
 have al:A1 l=true:=hp
 show ∃ N dv drops,_=some dv∧Wk drops dv (DV.tup [.agg [.int .i64 (qX r c l).1,.int .i64 (qX r c l).2.1,.ints .arg .u64 (qX r c l).2.2.1],.agg [.int .i64 (rX r c l).1,.int .i64 (rX r c l).2.1,.ints .arg .u64 (rX r c l).2.2.1],.int .i64 (Ga r c l)])
 by_cases h1:Et r c l=0
 ·obtain ⟨hr,hf⟩:=Aau h1
  have h36:=Ro hr
  obtain ⟨R,C,rfl,rfl,r6,c6,hl⟩:=Gm hr
  have d0:decide (0+l.length≤Gy)=true:=Ars (by unfold Gy; omega)
  cases hx:H4 R C l with
  | none =>
    have hfo:Pe R C l=false:=by unfold Pe; rw [hx]; rfl
    have he:Ga (R:Int) (C:Int) l=2:=by rw [Tj h1,Art,Art,hfo]; rfl
    obtain ⟨e1,e2⟩:=Abt he (by decide)
    have hd:Eo (R:Int) (C:Int) ([]++l)=O5 2:=by
     unfold Eo
     rw [List.nil_append,Art,Art,hx]; rfl
    rw [e1,e2,he]
    exact ⟨0,Wq 2,[],by rw [qr.Cz.ev,al,Arr,Yy h1,Arv,d0,Arr,hd,List.nil_append,hr,hf,al,Arx,Arx,Arr,show ((O5 2).2.2.2 !=(0:Int))=true from rfl,Arr]; rfl,Xf⟩
  | some x =>
    obtain ⟨x1,x2,x3,x4⟩:=Air hl al hx
    have hd:Eo (R:Int) (C:Int) ([]++l)=((R:Int),(C:Int),x.1,0):=by
     unfold Eo Mu
     rw [List.nil_append,Art,Art,hx]; rfl
    have hmd:Ig (R:Int) (C:Int) ([]++l)=Um x.2:=by
     unfold Ig
     rw [List.nil_append,Art,Art,hx]
    have hn:x.2.length≤6:=by rw [x3]; unfold H5; omega
    have hloop:=Aal 8 r6 hx x4 x1 (by rw [x2]; exact Aso r6 c6) x.2.length 8 (Asm _) (by omega)
    rw [Ar5 (Asm _)] at hloop
    have hrun:=qr.Cz.ev 8 (R:Int) (C:Int) l
    rw [al,Arr,Yy h1,Arv,d0,Arr,hd,hmd,Zx,List.nil_append,hr,hf,al,Arx,Arx,Arr,show (((R:Int),(C:Int),x.1,(0:Int)).2.2.2 !=(0:Int))=false from rfl,Arv,Acf r6,Ao (by omega) (by omega)] at hrun
    have hrun:=hrun.trans hloop
    cases hfo:Pe R C l with
    | false =>
      have he:Ga (R:Int) (C:Int) l=2:=by rw [Tj h1,Art,Art,hfo]; rfl
      obtain ⟨e1,e2⟩:=Abt he (by decide)
      rw [hfo,Arv] at hrun
      rw [e1,e2,he]
      exact ⟨8,Wq 2,[],hrun,Xf⟩
    | true =>
      have he:Ga (R:Int) (C:Int) l=0:=by rw [Tj h1,Art,Art,hfo]; rfl
      obtain ⟨e1,e2⟩:=Ac9 he
      rw [hfo,Arr] at hrun
      rw [e1,e2,he,Art,Art]
      exact ⟨8,_,[],hrun,Wk.E5 (.cons (Wk.I5 (.cons .int (.cons .int (.cons (.fresh _ _) .nil)))) (.cons (Wk.I5 (.cons .int (.cons .int (.cons .Afz .nil)))) (.cons .int .nil)))⟩
 ·have he:=Aam h1
  obtain ⟨e1,e2⟩:=Abt he h1
  rw [e1,e2,he]
  exact ⟨0,Wq (Et r c l),[],by rw [qr.Cz.ev,al,Arr,neI h1,Arr]; rfl,Xf⟩
theorem Aco {r c:Int} {l:List Int} (h:Ga r c l=0):Et r c l=0:=by
 by_cases h1:Et r c l=0
 ·exact h1
 ·rw [Aam h1] at h; exact absurd h h1
theorem Aij {r c:Int} {l:List Int} (al:A1 l=true) (h:Ga r c l=0):∃ R C:Nat,r=R∧c=C∧R≤6∧C≤6∧l.length=R*C∧A1 (Ra R C l)=true∧(Ra R C l).length=R*R∧A1 (Mu R C l)=true∧(Mu R C l).length=R*C∧D2 (Ra R C l)=true∧D2 (Mu R C l)=true:=by
 have h1:=Aco h
 rw [Tj h1] at h
 obtain ⟨R,C,rfl,rfl,r6,c6,hl⟩:=Gm (Aau h1).1
 rw [Art,Art] at h
 by_cases ho:Pe R C l=true
 ·unfold Pe at ho
  obtain ⟨o1,o2⟩:=Af.1 ho
  obtain ⟨o3,o4⟩:=Af.1 o2
  obtain ⟨q1,q2⟩:=Ak3 o1
  obtain ⟨g1,g2⟩:=Ak2 al hl o1
  exact ⟨R,C,rfl,rfl,r6,c6,hl,q1,q2,g1,g2,o3,o4⟩
 ·rw [Asd ho] at h; exact absurd h (by decide)
theorem Ade {R C:Nat} {l:List Int} (r6:R≤6) (c6:C≤6) (hl:l.length=R*C) {x y a b:Int} (hp:Mo (R:Int) (C:Int) x y a b=true) :
 F7 (R:Int) (C:Int) l x y a b=(a,b,Dr a.toNat b.toNat fun i k=>Mr (C:Int) l (x+(i:Int)) (y+(k:Int)),0):=by
 unfold F7; rw [Ase (M7 r6 c6 hl),Ase hp]
theorem Ad9 {r c:Int} {l:List Int} (al:A1 l=true) (h:Ga r c l=0) :
 F7 r r (Ra r.toNat c.toNat l) 0 0 r (min r c)=Y4 r c l∧F7 r c (Mu r.toNat c.toNat l) 0 0 (min r c) c=Y3 r c l:=by
 obtain ⟨R,C,rfl,rfl,r6,c6,hl,q1,q2,g1,g2,_,_⟩:=Aij al h
 unfold Y4 Y3
 rw [h,Asd (by decide),Asd (by decide),Art,Art]
 have p1:Mo (R:Int) (R:Int) 0 0 (R:Int) (min (R:Int) (C:Int))=true:=Ars (by omega)
 have p2:Mo (R:Int) (C:Int) 0 0 (min (R:Int) (C:Int)) (C:Int)=true:=Ars (by omega)
 rw [Ade r6 r6 q2 p1,Ade r6 c6 g2 p2]
 exact ⟨rfl,rfl⟩
theorem qr.E7.known:qr.E7.Kn:=qr.E7.Ad (.cons Aa.Part.known (.cons qr.Cz.known .nil)) fun r c l hp=>by
 have al:A1 l=true:=hp
 show ∃ N dv drops,_=some dv∧Wk drops dv (DV.tup [.agg [.int .i64 (Y4 r c l).1,.int .i64 (Y4 r c l).2.1,.ints .fresh .u64 (Y4 r c l).2.2.1],.agg [.int .i64 (Y3 r c l).1,.int .i64 (Y3 r c l).2.1,.ints .fresh .u64 (Y3 r c l).2.2.1],.int .i64 (Ga r c l)])
 by_cases h:Ga r c l=0
 ·obtain ⟨e1,e2⟩:=Ac9 h
  obtain ⟨t1,t2⟩:=Ad9 al h
  refine ⟨0,DV.tup [.agg [.int .i64 (Y4 r c l).1,.int .i64 (Y4 r c l).2.1,.ints .fresh .u64 (Y4 r c l).2.2.1],.agg [.int .i64 (Y3 r c l).1,.int .i64 (Y3 r c l).2.1,.ints .fresh .u64 (Y3 r c l).2.2.1],.int .i64 0],[],by rw [qr.E7.ev,al,Arr,Yy h,Arv,e1,e2,t1,t2],by rw [h]; exact Wk.E5 (.cons (Wk.I5 (.cons .int (.cons .int (.cons .Nn .nil)))) (.cons (Wk.I5 (.cons .int (.cons .int (.cons .Nn .nil)))) (.cons .int .nil)))⟩
 ·have e1:Y4 r c l=O5 (Ga r c l):=by unfold Y4; rw [Ase h]
  have e2:Y3 r c l=O5 (Ga r c l):=by unfold Y3; rw [Ase h]
  rw [e1,e2]
  exact ⟨0,Wq (Ga r c l),[],by rw [qr.E7.ev,al,Arr,neI h,Arr]; rfl,Xf⟩
end Go.Proofs.S1
namespace Go.Rnd
open Go.Den
theorem p52:Ar 4841369599423283200=2^52∧Ax 4841369599423283200=0∧Ag 4841369599423283200=2∧Bu 4841369599423283200=false:=by decide +kernel
theorem p53:Ar 4368491638549381120=2^52∧Ax 4368491638549381120=-105∧Ag 4368491638549381120=2∧Bu 4368491638549381120=false:=by decide +kernel
theorem Zj {L:Int} {q:Nat} (b1:2^52≤q) (b2:q<2^53) (he:-1074≤L) (hi:L+1074≤2045):min ((L+1074).toNat*2^52+q) 9218868437227405312=(L+1075).toNat*2^52+(q-2^52):=by
 obtain ⟨t,rfl⟩:∃ t:Nat,L=t-1074:=⟨(L+1074).toNat,by omega⟩
 have e1:((t:Int)-1074+1074).toNat=t:=by omega
 have e2:((t:Int)-1074+1075).toNat=t+1:=by omega
 rw [e1,e2]
 omega
theorem Agx {m:Nat} (h0:m≠0) (h:m.log2≤52) {e:Int} (he:-1074≤e+m.log2-52) (hi:e+m.log2-52+1074≤2045) :
 B1 m e=(e+m.log2-52+1075).toNat*2^52+(m*2^(52-m.log2)-2^52)∧2^52≤m*2^(52-m.log2)∧m*2^(52-m.log2)<2^53:=by
 have hl:=Kc m (52-m.log2) h0
 have hne:m*2^(52-m.log2)≠0:=Gf h0
 have b1:2^52≤m*2^(52-m.log2):=by rw [← Nat.le_log2 hne,hl]; omega
 have b2:m*2^(52-m.log2)<2^53:=by rw [← As8 hne,hl]; omega
 have hs:=(Di m (52-m.log2) e).1
 have ee:e-((52-m.log2:Nat):Int)=e+m.log2-52:=by omega
 rw [ee] at hs
 exact ⟨hs.symm.trans ((Jw b1 b2 (by omega)).trans (Zj b1 b2 he hi)),b1,b2⟩
theorem Ahf {x:Nat} (hx:x<2^64) (h3:Ag x≠3) (h4:Ag x≠4) (h0:Ag x≠0) :
 ∃ P f d:Nat,1≤P∧P≤2046∧f<2^52∧Jl x=Be (Bu x) (P*2^52+f)∧f+2^52=Ar x*2^d∧(P:Int)-1075=Ax x-Gr x-d:=by
 have hf:=Hr x
 have hp:=G6 x
 have hm:Ar x≠0:=fun h=>h0 ((Ha h3 h4).1 h)
 have hw:=Jv hx
 have hab:G4 x=C8 x*2^52+Co x:=by unfold G4 C8 Co; omega
 have hp2:C8 x≠2047:=fun h=>by
  rcases Gh x with ⟨_,_,k⟩ | ⟨_,_,k⟩ | ⟨k,_,_⟩
  ·exact h3 k
  ·exact h4 k
  ·omega
 unfold Jl Gr
 by_cases hs:G4 x<4503599627370496
 ·have hz:C8 x=0:=by omega
  have eM:Ar x=Co x:=by unfold Ar; rw [Ase hz]
  have eE:Ax x=-1074:=by unfold Ax; rw [Ase hz]
  have hl:(Ar x).log2≤51:=by have:=(As8 hm).2 (show Ar x<2^52 by omega); omega
  rw [Ase hs,Ase hs]
  have hmul:=mul_pow h3 h4 (by rw [p52.2.2.1]; decide) (by rw [p52.2.2.1]; decide) p52.1 p52.2.2.2
  rw [hmul,p52.2.1,eE]
  obtain ⟨r1,r2,r3⟩:=Agx (e:=-1074+0+52) hm (by omega) (by omega) (by omega)
  refine ⟨(Ar x).log2+1,Ar x*2^(52-(Ar x).log2)-2^52,52-(Ar x).log2,by omega,by omega,by omega,?_,by omega,by omega⟩
  have ht:(-1074+0+52+((Ar x).log2:Int)-52+1075).toNat=(Ar x).log2+1:=by omega
  rw [ht] at r1
  exact congrArg (Be (Bu x)) r1
 ·rw [Asd hs,Asd hs]
  have hz:C8 x≠0:=by
   intro h
   rw [h] at hab
   omega
  have eM:Ar x=Co x+2^52:=by unfold Ar; rw [Asd hz]
  have eE:Ax x=(C8 x:Int)-1075:=by unfold Ax; rw [Asd hz]
  refine ⟨C8 x,Co x,0,by omega,by omega,hf,?_,by rw [eM,Asq,As1],by omega⟩
  rw [← hab]
  exact hw.symm
theorem N6 {s:Bool} {P f:Nat} (h1:1≤P) (h2:P≤2046) (hf:f<2^52) :
 C8 (Be s (P*2^52+f))=P∧Co (Be s (P*2^52+f))=f∧Bu (Be s (P*2^52+f))=s∧Be s (P*2^52+f)<2^64∧Ag (Be s (P*2^52+f))=2 ∧
 Ar (Be s (P*2^52+f))=f+2^52∧Ax (Be s (P*2^52+f))=(P:Int)-1075:=by
 have e1:C8 (Be s (P*2^52+f))=P:=by
  unfold C8 Be
  cases s
  ·rw [Asd (by decide)]; omega
  ·rw [Ase rfl]; omega
 have e2:Co (Be s (P*2^52+f))=f:=by
  unfold Co Be
  cases s
  ·rw [Asd (by decide)]; omega
  ·rw [Ase rfl]; omega
 have e3:Bu (Be s (P*2^52+f))=s:=sign_neg s (by omega)
 have e4:Be s (P*2^52+f)<2^64:=by
  unfold Be
  cases s
  ·rw [Asd (by decide)]; omega
  ·rw [Ase rfl]; omega
 refine ⟨e1,e2,e3,e4,?_,?_,?_⟩
 ·unfold Ag; rw [e1,Asd (by omega),Ase (by omega)]
 ·unfold Ar; rw [e1,e2,Asd (by omega)]
 ·unfold Ax; rw [e1,Asd (by omega)]
theorem Agw {L:Int} {q f:Nat} (hf:f<2^52) (h1:-1074≤L) (h2:L+1074≤2045) (hq:(L+1075).toNat=q):B1 (f+2^52) L=q*2^52+f:=by
 have em:=Zj (L:=L) (q:=f+2^52) (by omega) (by omega) h1 h2
 rw [hq,Nat.add_sub_cancel] at em
 exact (Jw (by omega) (by omega) h1).trans em
theorem Aq8 {V:Nat} {E:Int} (h0:V≠0) (h:1024≤E+V.log2):B1 V E=Dy:=by
 have hl:Bx V E=E+V.log2-52:=by unfold Bx; omega
 have hk:=X7 h0 hl
 have hle:=Od V E
 unfold B1 at hle ⊢
 rw [Asd h0] at hle ⊢
 rw [hl,Gs] at hle ⊢
 generalize kept V E=q at *
 obtain ⟨t,ht⟩:∃ t:Nat,E+(V.log2:Int)-52=t:=⟨(E+(V.log2:Int)-52).toNat,by omega⟩
 rw [ht]
 have:((t:Int)+1074).toNat=t+1074:=by omega
 rw [this]
 omega
theorem Ua {y m:Nat} (h:E2 y=m) (hm:Ag m≠4):y=m:=by
 unfold E2 at h
 by_cases h4:Ag y=4
 ·rw [Ase h4] at h
  exact absurd (by rw [← h]; decide) hm
 ·rw [Asd h4] at h; exact h
theorem Ni (s:Bool) (V:Nat) (E:Int):Ag (Be s (B1 V E))≠4:=by
 rw [R3 s (Od V E)]
 split
 ·decide
 ·split
  ·decide
  ·split<;>decide
theorem Agv {x P f d:Nat} {k:Int} (hm:Ar x≠0) (he:f+2^52=Ar x*2^d) (hP:(P:Int)-1075=Ax x-Gr x-d) :
 B1 (Ar x) (Ax x+k)=B1 (f+2^52) ((P:Int)-1075+Gr x+k):=by
 have:=(Di (Ar x) d (Ax x+k)).1
 rw [← he] at this
 rw [← this]
 congr 1
 omega
end Go.Rnd
end
