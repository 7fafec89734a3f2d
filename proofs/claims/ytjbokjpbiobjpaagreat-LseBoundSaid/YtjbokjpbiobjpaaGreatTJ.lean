/- A verified evaluator of the program's form and its use for this seat: S1PRef08, S1EqOf, S1POf, S1PMatA, S1EqRef10, S1PRef10, S1PFill, S1EqHouse, S1PHouse, S1PApply, S1EqSol, S1PTri, S1EqFew. -/
import Derived.Test.YtjbokjpbiobjpaaGreatTF
import Derived.Test.YtjbokjpbiobjpaaGreatTI
import Derived.Test.YtjbokjpbiobjpaaGreatTE
set_option linter.unusedVariables false
set_option linter.unusedSimpArgs false
noncomputable section
open Int (toNat)
open List (length getD)
open Go.Proofs.Tryz
namespace Go.Proofs.S1
open Go Go.Den Go.Rnd Go.Proofs
open EqRef08 EqRef13
theorem Aop (b:Nat):okV (Ck (mD (Hb (b:Int)))) (A2 (mD (Hb (b:Int))))=true∧Xh (Ck (mD (Hb (b:Int)))) (A2 (mD (Hb (b:Int))))=true∧okE (eD (Hb (b:Int)) (As b))=true:=by
 obtain ⟨v1,v2,v3⟩:=Aq7 b
 have hl:E5 (mD (Hb (b:Int))).natAbs<3:=Ax5 (Yr (Aid _)) v1
 exact ⟨Ar4 (by omega),Zx (by omega),At.2 ⟨v2,v3⟩⟩
theorem Gq.I9.known:Gq.I9.Kn:=Gq.I9.Ad (.cons Ca.T2.known (.cons Ax.Finite.known (.cons Ax.Kind.known (.cons Ax.Value.known .nil)))) fun a hp=>by
 obtain ⟨b,rfl,hb⟩:=Bt (x:=a) hp
 refine ⟨0,.int .i64 (Bi (b:Int)),[],?_,.int⟩
 have kk:Av (b:Int)=(Ag b:Int):=rfl
 have hf:Cq (b:Int)=Gg b:=rfl
 have pe:A3 (b:Int)=As b:=rfl
 obtain ⟨_,o2,o3⟩:=Aop b
 have hE:=Ce b
 have hM:=Ft b
 rw [Gq.I9.ev,B3 hb,Aw3,Ou,Ayf,Aw3,kk,hf,pe,o2,o3,Re,Aw9,Aw3,Aw3]
 unfold Bi
 rw [Aw5]
 unfold H4
 cases hfin:Gg b with
 | false=>rfl
 | true =>
   by_cases h0:Ag b=0
   ·rw [h0]; rfl
   ·have k0:(((Ag b:Nat):Int)==(0:Int))=false:=by rw [Axy]; omega
    obtain ⟨f4,f3⟩:=Fv hfin
    have hm:Am b≠0:=fun hz=>h0 ((Dp f3 f4).1 hz)
    have hv:Hb (b:Int)≠0:=by
     intro h
     have:=Zf b
     rw [h] at this
     exact hm this.symm
    have hl:(Am b).log2≤52:=by have:=(Ayj hm).2 (show Am b<2^53 by omega); omega
    have ht:Ag5 (mD (Hb (b:Int))) (eD (Hb (b:Int)) (As b))=((Am b).log2:Int)+1+As b:=by
     unfold Ag5 Aad
     rw [Axp (fun h=>hv (Vc.1 h)),Axp (fun h=>hv (Vc.1 h))]
     unfold eD
     rw [Axp hv]
     have hs:=Agc (Hb (b:Int))
     have ha:Am b=(mD (Hb (b:Int))).natAbs*2^Rh (Hb (b:Int)).natAbs:=by
      have e:=congrArg Int.natAbs hs
      rw [Int.natAbs_mul,Int.natAbs_natCast] at e
      rw [← Zf b]
      exact e
     have hmd:(mD (Hb (b:Int))).natAbs≠0:=fun h=>hv (Vc.1 (Int.natAbs_eq_zero.1 h))
     have hlog:=Oz (mD (Hb (b:Int))).natAbs (Rh (Hb (b:Int)).natAbs) hmd
     rw [← ha] at hlog
     rw [hlog]
     omega
    rw [k0,Axq ⟨rfl,h0⟩,ht,Ao (by omega) (by omega)]
    show some (DV.int .i64 _)=_
    congr 2; omega
set_option maxRecDepth 100000
namespace EqOf
def Aa.of.B2.hint:Nat→Option A5
 | 0=>some { keep:=[1,2,6,7,13,14],objs:=[(8,2,108002,.ints 37 .u64 [])],boxes:=[6,7] }
 | 2=>some { keep:=[1,2,6,7,8,13,14,17,18],objs:=[(8,2,108002,.ints 37 .u64 [])],boxes:=[6,7] }
 | _=>none
def Aa.of.B2.A8:List (Nat × Entry):=[(205,Aa.Dn.spec)]
def Aa.of.B2.E:Env:=Ba (A7 Aa.of.B2.A8) (fun _=>false) Aa.of.B2.hint (fun _=>none)
section
variable (N M0 M:Nat) (a b p8 p14_1 p18:Int) (p2:List Int) (p14:Int) (p2_1:List Int)
def Aa.of.B2.L0:Option DV:=Cc Aa.of.B2.E N f187 (Ap f187) [1,1,0,1,0] [] M ⟨He 33 [(1,.int .i64 b),(2,.fn 205 [] []),(6,.ptr 6 0 0),(7,.ptr 7 0 0),(13,.int .i64 a),(14,.int .i64 p14)],[(6,false,.box [.int .i64 0,.int .i64 0,.nil]),(7,false,.box [.int .i64 a,.int .i64 b,.oref 108002]),(108002,false,.ints 37 .u64 p2_1)]⟩
def Aa.of.B2.L1:Option DV:=Cc Aa.of.B2.E N f187 (Ap f187) [1,1,0,1,0,0,1,1,0,0,1,1,0] [M0] M ⟨He 33 [(1,.int .i64 b),(2,.fn 205 [] []),(6,.ptr 6 0 0),(7,.ptr 7 0 0),(8,.int .i64 p8),(13,.int .i64 a),(14,.int .i64 p14_1),(17,.int .i64 b),(18,.int .i64 p18)],[(6,false,.box [.int .i64 0,.int .i64 0,.nil]),(7,false,.box [.int .i64 a,.int .i64 b,.oref 108002]),(108002,false,.ints 37 .u64 p2)]⟩
theorem Aa.of.B2.Aw:Aa.of.B2.L0 N (M+1) a b p14 p2_1=bif (A0 p14 a) then Aa.of.B2.L1 N M N a b p14 p14 0 p2_1 else some (.agg [.int .i64 a,.int .i64 b,.ints (.own 108002 37) .u64 p2_1]):=by kernel_rfl
theorem Aa.of.B2.Ct:Aa.of.B2.L1 N M0 (M+1) a b p8 p14_1 p18 p2=bif (A0 p18 b) then bif (decide ((length p2)+1≤I5)) then Aa.of.B2.L1 N M0 M a b p8 p14_1 (Ab (p18+1)) (p2++[(0:Int)]) else none else Aa.of.B2.L0 N M0 a b (Ab (p14_1+1)) p2 :=
 Eq.trans (by kernel_rfl)
 (Ev (Dw (E4 (decide ((length p2)+1≤I5))) rfl rfl) rfl)
theorem Aa.of.B2.ev:B0 Aa.of.B2.E N f187 (Ap f187) [.int .i64 a,.int .i64 b,.fn 205 [] []] =
 Aa.of.B2.L0 N N a b 0 []:=by kernel_rfl
end
def Aa.of.Gx.hint:Nat→Option A5
 | 0=>some { keep:=[1,2,6,7,13,14],objs:=[(8,2,108002,.ints 37 .u64 [])],boxes:=[6,7] }
 | 2=>some { keep:=[1,2,6,7,8,13,14,17,18],objs:=[(8,2,108002,.ints 37 .u64 [])],boxes:=[6,7] }
 | _=>none
def Aa.of.Gx.A8:List (Nat × Entry):=[(246,Aa.Gn.spec)]
def Aa.of.Gx.E:Env:=Ba (A7 Aa.of.Gx.A8) (fun _=>false) Aa.of.Gx.hint (fun _=>none)
section
variable (N M0 M:Nat) (a b p8 p14_1 p18:Int) (p2:List Int) (p14:Int) (p2_1:List Int)
def Aa.of.Gx.L0:Option DV:=Cc Aa.of.Gx.E N f187 (Ap f187) [1,1,0,1,0] [] M ⟨He 33 [(1,.int .i64 b),(2,.fn 246 [] []),(6,.ptr 6 0 0),(7,.ptr 7 0 0),(13,.int .i64 a),(14,.int .i64 p14)],[(6,false,.box [.int .i64 0,.int .i64 0,.nil]),(7,false,.box [.int .i64 a,.int .i64 b,.oref 108002]),(108002,false,.ints 37 .u64 p2_1)]⟩
def Aa.of.Gx.L1:Option DV:=Cc Aa.of.Gx.E N f187 (Ap f187) [1,1,0,1,0,0,1,1,0,0,1,1,0] [M0] M ⟨He 33 [(1,.int .i64 b),(2,.fn 246 [] []),(6,.ptr 6 0 0),(7,.ptr 7 0 0),(8,.int .i64 p8),(13,.int .i64 a),(14,.int .i64 p14_1),(17,.int .i64 b),(18,.int .i64 p18)],[(6,false,.box [.int .i64 0,.int .i64 0,.nil]),(7,false,.box [.int .i64 a,.int .i64 b,.oref 108002]),(108002,false,.ints 37 .u64 p2)]⟩
theorem Aa.of.Gx.Aw:Aa.of.Gx.L0 N (M+1) a b p14 p2_1=bif (A0 p14 a) then Aa.of.Gx.L1 N M N a b p14 p14 0 p2_1 else some (.agg [.int .i64 a,.int .i64 b,.ints (.own 108002 37) .u64 p2_1]):=by kernel_rfl
theorem Aa.of.Gx.Ct:Aa.of.Gx.L1 N M0 (M+1) a b p8 p14_1 p18 p2=bif (A0 p18 b) then bif (decide ((length p2)+1≤I5)) then Aa.of.Gx.L1 N M0 M a b p8 p14_1 (Ab (p18+1)) (p2++[(Sk p8 p18)]) else none else Aa.of.Gx.L0 N M0 a b (Ab (p14_1+1)) p2 :=
 Eq.trans (by kernel_rfl)
 (Ev (Dw (E4 (decide ((length p2)+1≤I5))) rfl rfl) rfl)
theorem Aa.of.Gx.ev:B0 Aa.of.Gx.E N f187 (Ap f187) [.int .i64 a,.int .i64 b,.fn 246 [] []] =
 Aa.of.Gx.L0 N N a b 0 []:=by kernel_rfl
end
abbrev _root_.Go.Proofs.S1.Aa.of.Gx.Kn:=A4 prog 187 Aa.of.Gx.spec
theorem Aa.of.Gx.Ad (hk:Ay prog Aa.of.Gx.A8) (h:Hyp Aa.of.Gx.E f187 Aa.of.Gx.ts Aa.of.Gx.pre Aa.of.Gx.out):Aa.of.Gx.Kn :=
 Al (A1 hk _ _ _) func187 (by kernel_rfl) (by kernel_rfl) h
def Aa.of.C6.hint:Nat→Option A5
 | 0=>some { keep:=[1,2,6,7,13,14],objs:=[(8,2,108002,.ints 37 .u64 [])],boxes:=[6,7] }
 | 2=>some { keep:=[1,2,6,7,8,13,14,17,18],objs:=[(8,2,108002,.ints 37 .u64 [])],boxes:=[6,7] }
 | _=>none
def Aa.of.C6.A8:List (Nat × Entry):=[(220,Aa.Er.spec)]
def Aa.of.C6.E:Env:=Ba (A7 Aa.of.C6.A8) (fun _=>false) Aa.of.C6.hint (fun _=>none)
section
variable (N M0 M:Nat) (a b r c:Int) (l:List Int) (p8 p14_1 p18:Int) (p2:List Int) (p14:Int) (p2_1:List Int)
def Aa.of.C6.L0:Option DV:=Cc Aa.of.C6.E N f187 (Ap f187) [1,1,0,1,0] [] M ⟨He 33 [(1,.int .i64 b),(2,.fn 220 [] [.cellp [.int .i64 r,.int .i64 c,.ints .arg .u64 l]]),(6,.ptr 6 0 0),(7,.ptr 7 0 0),(13,.int .i64 a),(14,.int .i64 p14)],[(6,false,.box [.int .i64 0,.int .i64 0,.nil]),(7,false,.box [.int .i64 a,.int .i64 b,.oref 108002]),(108002,false,.ints 37 .u64 p2_1)]⟩
def Aa.of.C6.L1:Option DV:=Cc Aa.of.C6.E N f187 (Ap f187) [1,1,0,1,0,0,1,1,0,0,1,1,0] [M0] M ⟨He 33 [(1,.int .i64 b),(2,.fn 220 [] [.cellp [.int .i64 r,.int .i64 c,.ints .arg .u64 l]]),(6,.ptr 6 0 0),(7,.ptr 7 0 0),(8,.int .i64 p8),(13,.int .i64 a),(14,.int .i64 p14_1),(17,.int .i64 b),(18,.int .i64 p18)],[(6,false,.box [.int .i64 0,.int .i64 0,.nil]),(7,false,.box [.int .i64 a,.int .i64 b,.oref 108002]),(108002,false,.ints 37 .u64 p2)]⟩
theorem Aa.of.C6.Aw:Aa.of.C6.L0 N (M+1) a b r c l p14 p2_1=bif (A0 p14 a) then Aa.of.C6.L1 N M N a b r c l p14 p14 0 p2_1 else some (.agg [.int .i64 a,.int .i64 b,.ints (.own 108002 37) .u64 p2_1]):=by kernel_rfl
theorem Aa.of.C6.Ct:Aa.of.C6.L1 N M0 (M+1) a b r c l p8 p14_1 p18 p2=bif (A0 p18 b) then bif (D4 r c l p18 p8) then bif (decide ((length p2)+1≤I5)) then Aa.of.C6.L1 N M0 M a b r c l p8 p14_1 (Ab (p18+1)) (p2++[(Di c l p18 p8)]) else none else none else Aa.of.C6.L0 N M0 a b r c l (Ab (p14_1+1)) p2 :=
 Eq.trans (by kernel_rfl)
 (Ev (Dw (E4 (D4 r c l p18 p8)) (Dw (E4 (decide ((length p2)+1≤I5))) rfl rfl) rfl) rfl)
theorem Aa.of.C6.ev:B0 Aa.of.C6.E N f187 (Ap f187) [.int .i64 a,.int .i64 b,.fn 220 [] [.cellp [.int .i64 r,.int .i64 c,.ints .arg .u64 l]]] =
 Aa.of.C6.L0 N N a b r c l 0 []:=by kernel_rfl
end
abbrev _root_.Go.Proofs.S1.Aa.of.C6.Kn:=A4 prog 187 Aa.of.C6.spec
theorem Aa.of.C6.Ad (hk:Ay prog Aa.of.C6.A8) (h:Hyp Aa.of.C6.E f187 Aa.of.C6.ts Aa.of.C6.pre Aa.of.C6.out):Aa.of.C6.Kn :=
 Al (A1 hk _ _ _) func187 (by kernel_rfl) (by kernel_rfl) h
def Aa.of.Part.hint:Nat→Option A5
 | 0=>some { keep:=[1,2,6,7,13,14],objs:=[(8,2,108002,.ints 37 .u64 [])],boxes:=[6,7] }
 | 2=>some { keep:=[1,2,6,7,8,13,14,17,18],objs:=[(8,2,108002,.ints 37 .u64 [])],boxes:=[6,7] }
 | _=>none
def Aa.of.Part.A8:List (Nat × Entry):=[(192,Aa.Es.spec)]
def Aa.of.Part.E:Env:=Ba (A7 Aa.of.Part.A8) (fun _=>false) Aa.of.Part.hint (fun _=>none)
section
variable (N M0 M:Nat) (a b r c:Int) (l:List Int) (x y p8 p14_1 p18:Int) (p2:List Int) (p14:Int) (p2_1:List Int)
def Aa.of.Part.L0:Option DV:=Cc Aa.of.Part.E N f187 (Ap f187) [1,1,0,1,0] [] M ⟨He 33 [(1,.int .i64 b),(2,.fn 192 [] [.cellp [.int .i64 r,.int .i64 c,.ints .arg .u64 l],.cellp [.int .i64 x],.cellp [.int .i64 y]]),(6,.ptr 6 0 0),(7,.ptr 7 0 0),(13,.int .i64 a),(14,.int .i64 p14)],[(6,false,.box [.int .i64 0,.int .i64 0,.nil]),(7,false,.box [.int .i64 a,.int .i64 b,.oref 108002]),(108002,false,.ints 37 .u64 p2_1)]⟩
def Aa.of.Part.L1:Option DV:=Cc Aa.of.Part.E N f187 (Ap f187) [1,1,0,1,0,0,1,1,0,0,1,1,0] [M0] M ⟨He 33 [(1,.int .i64 b),(2,.fn 192 [] [.cellp [.int .i64 r,.int .i64 c,.ints .arg .u64 l],.cellp [.int .i64 x],.cellp [.int .i64 y]]),(6,.ptr 6 0 0),(7,.ptr 7 0 0),(8,.int .i64 p8),(13,.int .i64 a),(14,.int .i64 p14_1),(17,.int .i64 b),(18,.int .i64 p18)],[(6,false,.box [.int .i64 0,.int .i64 0,.nil]),(7,false,.box [.int .i64 a,.int .i64 b,.oref 108002]),(108002,false,.ints 37 .u64 p2)]⟩
theorem Aa.of.Part.Aw:Aa.of.Part.L0 N (M+1) a b r c l x y p14 p2_1=bif (A0 p14 a) then Aa.of.Part.L1 N M N a b r c l x y p14 p14 0 p2_1 else some (.agg [.int .i64 a,.int .i64 b,.ints (.own 108002 37) .u64 p2_1]):=by kernel_rfl
theorem Aa.of.Part.Ct:Aa.of.Part.L1 N M0 (M+1) a b r c l x y p8 p14_1 p18 p2=bif (A0 p18 b) then bif (D4 r c l (x+p8) (y+p18)&&Tb x y p8 p18) then bif (decide ((length p2)+1≤I5)) then Aa.of.Part.L1 N M0 M a b r c l x y p8 p14_1 (Ab (p18+1)) (p2++[(Di c l (x+p8) (y+p18))]) else none else none else Aa.of.Part.L0 N M0 a b r c l x y (Ab (p14_1+1)) p2 :=
 Eq.trans (by kernel_rfl)
 (Ev (Dw (E4 (D4 r c l (x+p8) (y+p18)&&Tb x y p8 p18)) (Dw (E4 (decide ((length p2)+1≤I5))) rfl rfl) rfl) rfl)
theorem Aa.of.Part.ev:B0 Aa.of.Part.E N f187 (Ap f187) [.int .i64 a,.int .i64 b,.fn 192 [] [.cellp [.int .i64 r,.int .i64 c,.ints .arg .u64 l],.cellp [.int .i64 x],.cellp [.int .i64 y]]] =
 Aa.of.Part.L0 N N a b r c l x y 0 []:=by kernel_rfl
end
abbrev _root_.Go.Proofs.S1.Aa.of.Part.Kn:=A4 prog 187 Aa.of.Part.spec
theorem Aa.of.Part.Ad (hk:Ay prog Aa.of.Part.A8) (h:Hyp Aa.of.Part.E f187 Aa.of.Part.ts Aa.of.Part.pre Aa.of.Part.out):Aa.of.Part.Kn :=
 Al (A1 hk _ _ _) func187 (by kernel_rfl) (by kernel_rfl) h
def Aa.of.Sub.hint:Nat→Option A5
 | 0=>some { keep:=[1,2,6,7,13,14],objs:=[(8,2,108002,.ints 37 .u64 [])],boxes:=[6,7] }
 | 2=>some { keep:=[1,2,6,7,8,13,14,17,18],objs:=[(8,2,108002,.ints 37 .u64 [])],boxes:=[6,7] }
 | _=>none
def Aa.of.Sub.A8:List (Nat × Entry):=[(194,Aa.Gj.spec)]
def Aa.of.Sub.E:Env:=Ba (A7 Aa.of.Sub.A8) (fun _=>false) Aa.of.Sub.hint (fun _=>none)
section
variable (N M0 M:Nat) (a b r c:Int) (l:List Int) (p q:Int) (m:List Int) (p8 p14_1 p18:Int) (p2:List Int) (p14:Int) (p2_1:List Int)
def Aa.of.Sub.L0:Option DV:=Cc Aa.of.Sub.E N f187 (Ap f187) [1,1,0,1,0] [] M ⟨He 33 [(1,.int .i64 b),(2,.fn 194 [] [.cellp [.int .i64 r,.int .i64 c,.ints .arg .u64 l],.cellp [.int .i64 p,.int .i64 q,.ints .arg .u64 m]]),(6,.ptr 6 0 0),(7,.ptr 7 0 0),(13,.int .i64 a),(14,.int .i64 p14)],[(6,false,.box [.int .i64 0,.int .i64 0,.nil]),(7,false,.box [.int .i64 a,.int .i64 b,.oref 108002]),(108002,false,.ints 37 .u64 p2_1)]⟩
def Aa.of.Sub.L1:Option DV:=Cc Aa.of.Sub.E N f187 (Ap f187) [1,1,0,1,0,0,1,1,0,0,1,1,0] [M0] M ⟨He 33 [(1,.int .i64 b),(2,.fn 194 [] [.cellp [.int .i64 r,.int .i64 c,.ints .arg .u64 l],.cellp [.int .i64 p,.int .i64 q,.ints .arg .u64 m]]),(6,.ptr 6 0 0),(7,.ptr 7 0 0),(8,.int .i64 p8),(13,.int .i64 a),(14,.int .i64 p14_1),(17,.int .i64 b),(18,.int .i64 p18)],[(6,false,.box [.int .i64 0,.int .i64 0,.nil]),(7,false,.box [.int .i64 a,.int .i64 b,.oref 108002]),(108002,false,.ints 37 .u64 p2)]⟩
theorem Aa.of.Sub.Aw:Aa.of.Sub.L0 N (M+1) a b r c l p q m p14 p2_1=bif (A0 p14 a) then Aa.of.Sub.L1 N M N a b r c l p q m p14 p14 0 p2_1 else some (.agg [.int .i64 a,.int .i64 b,.ints (.own 108002 37) .u64 p2_1]):=by kernel_rfl
theorem Aa.of.Sub.Ct:Aa.of.Sub.L1 N M0 (M+1) a b r c l p q m p8 p14_1 p18 p2=bif (A0 p18 b) then bif (((D4 r c l p8 p18&&D4 p q m p8 p18)&&Af l)&&Af m) then bif (decide ((length p2)+1≤I5)) then Aa.of.Sub.L1 N M0 M a b r c l p q m p8 p14_1 (Ab (p18+1)) (p2++[(Dl (Di c l p8 p18) (Di q m p8 p18))]) else none else none else Aa.of.Sub.L0 N M0 a b r c l p q m (Ab (p14_1+1)) p2 :=
 Eq.trans (by kernel_rfl)
 (Ev (Dw (E4 (((D4 r c l p8 p18&&D4 p q m p8 p18)&&Af l)&&Af m)) (Dw (E4 (decide ((length p2)+1≤I5))) rfl rfl) rfl) rfl)
theorem Aa.of.Sub.ev:B0 Aa.of.Sub.E N f187 (Ap f187) [.int .i64 a,.int .i64 b,.fn 194 [] [.cellp [.int .i64 r,.int .i64 c,.ints .arg .u64 l],.cellp [.int .i64 p,.int .i64 q,.ints .arg .u64 m]]] =
 Aa.of.Sub.L0 N N a b r c l p q m 0 []:=by kernel_rfl
end
abbrev _root_.Go.Proofs.S1.Aa.of.Sub.Kn:=A4 prog 187 Aa.of.Sub.spec
theorem Aa.of.Sub.Ad (hk:Ay prog Aa.of.Sub.A8) (h:Hyp Aa.of.Sub.E f187 Aa.of.Sub.ts Aa.of.Sub.pre Aa.of.Sub.out):Aa.of.Sub.Kn :=
 Al (A1 hk _ _ _) func187 (by kernel_rfl) (by kernel_rfl) h
def Aa.of.Stack.hint:Nat→Option A5
 | 0=>some { keep:=[1,2,6,7,13,14],objs:=[(8,2,108002,.ints 37 .u64 [])],boxes:=[6,7] }
 | 2=>some { keep:=[1,2,6,7,8,13,14,17,18],objs:=[(8,2,108002,.ints 37 .u64 [])],boxes:=[6,7] }
 | _=>none
def Aa.of.Stack.A8:List (Nat × Entry):=[(195,Aa.Du.spec)]
def Aa.of.Stack.E:Env:=Ba (A7 Aa.of.Stack.A8) (fun _=>false) Aa.of.Stack.hint (fun _=>none)
section
variable (N M0 M:Nat) (a b r c:Int) (l:List Int) (p q:Int) (m:List Int) (p8 p14_1 p18:Int) (p2:List Int) (p14:Int) (p2_1:List Int)
def Aa.of.Stack.L0:Option DV:=Cc Aa.of.Stack.E N f187 (Ap f187) [1,1,0,1,0] [] M ⟨He 33 [(1,.int .i64 b),(2,.fn 195 [] [.cellp [.int .i64 r,.int .i64 c,.ints .arg .u64 l],.cellp [.int .i64 p,.int .i64 q,.ints .arg .u64 m]]),(6,.ptr 6 0 0),(7,.ptr 7 0 0),(13,.int .i64 a),(14,.int .i64 p14)],[(6,false,.box [.int .i64 0,.int .i64 0,.nil]),(7,false,.box [.int .i64 a,.int .i64 b,.oref 108002]),(108002,false,.ints 37 .u64 p2_1)]⟩
def Aa.of.Stack.L1:Option DV:=Cc Aa.of.Stack.E N f187 (Ap f187) [1,1,0,1,0,0,1,1,0,0,1,1,0] [M0] M ⟨He 33 [(1,.int .i64 b),(2,.fn 195 [] [.cellp [.int .i64 r,.int .i64 c,.ints .arg .u64 l],.cellp [.int .i64 p,.int .i64 q,.ints .arg .u64 m]]),(6,.ptr 6 0 0),(7,.ptr 7 0 0),(8,.int .i64 p8),(13,.int .i64 a),(14,.int .i64 p14_1),(17,.int .i64 b),(18,.int .i64 p18)],[(6,false,.box [.int .i64 0,.int .i64 0,.nil]),(7,false,.box [.int .i64 a,.int .i64 b,.oref 108002]),(108002,false,.ints 37 .u64 p2)]⟩
theorem Aa.of.Stack.Aw:Aa.of.Stack.L0 N (M+1) a b r c l p q m p14 p2_1=bif (A0 p14 a) then Aa.of.Stack.L1 N M N a b r c l p q m p14 p14 0 p2_1 else some (.agg [.int .i64 a,.int .i64 b,.ints (.own 108002 37) .u64 p2_1]):=by kernel_rfl
theorem Aa.of.Stack.Ct:Aa.of.Stack.L1 N M0 (M+1) a b r c l p q m p8 p14_1 p18 p2=bif (A0 p18 b) then bif (K6 r c l p q m p8 p18) then bif (decide ((length p2)+1≤I5)) then Aa.of.Stack.L1 N M0 M a b r c l p q m p8 p14_1 (Ab (p18+1)) (p2++[(Hm r c l q m p8 p18)]) else none else none else Aa.of.Stack.L0 N M0 a b r c l p q m (Ab (p14_1+1)) p2 :=
 Eq.trans (by kernel_rfl)
 (Ev (Dw (E4 (K6 r c l p q m p8 p18)) (Dw (E4 (decide ((length p2)+1≤I5))) rfl rfl) rfl) rfl)
theorem Aa.of.Stack.ev:B0 Aa.of.Stack.E N f187 (Ap f187) [.int .i64 a,.int .i64 b,.fn 195 [] [.cellp [.int .i64 r,.int .i64 c,.ints .arg .u64 l],.cellp [.int .i64 p,.int .i64 q,.ints .arg .u64 m]]] =
 Aa.of.Stack.L0 N N a b r c l p q m 0 []:=by kernel_rfl
end
abbrev _root_.Go.Proofs.S1.Aa.of.Stack.Kn:=A4 prog 187 Aa.of.Stack.spec
theorem Aa.of.Stack.Ad (hk:Ay prog Aa.of.Stack.A8) (h:Hyp Aa.of.Stack.E f187 Aa.of.Stack.ts Aa.of.Stack.pre Aa.of.Stack.out):Aa.of.Stack.Kn :=
 Al (A1 hk _ _ _) func187 (by kernel_rfl) (by kernel_rfl) h
def Aa.of.Mul.hint:Nat→Option A5
 | 0=>some { keep:=[1,2,6,7,13,14],objs:=[(8,2,108002,.ints 37 .u64 [])],boxes:=[6,7] }
 | 2=>some { keep:=[1,2,6,7,8,13,14,17,18],objs:=[(8,2,108002,.ints 37 .u64 [])],boxes:=[6,7] }
 | _=>none
def Aa.of.Mul.A8:List (Nat × Entry):=[(188,Aa.Gk.spec)]
def Aa.of.Mul.E:Env:=Ba (A7 Aa.of.Mul.A8) (fun _=>false) Aa.of.Mul.hint (fun _=>none)
section
variable (N M0 M:Nat) (a b r c:Int) (l:List Int) (p q:Int) (m:List Int) (p8 p14_1 p18:Int) (p2:List Int) (p14:Int) (p2_1:List Int)
def Aa.of.Mul.L0:Option DV:=Cc Aa.of.Mul.E N f187 (Ap f187) [1,1,0,1,0] [] M ⟨He 33 [(1,.int .i64 b),(2,.fn 188 [] [.cellp [.int .i64 r,.int .i64 c,.ints .arg .u64 l],.cellp [.int .i64 p,.int .i64 q,.ints .arg .u64 m]]),(6,.ptr 6 0 0),(7,.ptr 7 0 0),(13,.int .i64 a),(14,.int .i64 p14)],[(6,false,.box [.int .i64 0,.int .i64 0,.nil]),(7,false,.box [.int .i64 a,.int .i64 b,.oref 108002]),(108002,false,.ints 37 .u64 p2_1)]⟩
def Aa.of.Mul.L1:Option DV:=Cc Aa.of.Mul.E N f187 (Ap f187) [1,1,0,1,0,0,1,1,0,0,1,1,0] [M0] M ⟨He 33 [(1,.int .i64 b),(2,.fn 188 [] [.cellp [.int .i64 r,.int .i64 c,.ints .arg .u64 l],.cellp [.int .i64 p,.int .i64 q,.ints .arg .u64 m]]),(6,.ptr 6 0 0),(7,.ptr 7 0 0),(8,.int .i64 p8),(13,.int .i64 a),(14,.int .i64 p14_1),(17,.int .i64 b),(18,.int .i64 p18)],[(6,false,.box [.int .i64 0,.int .i64 0,.nil]),(7,false,.box [.int .i64 a,.int .i64 b,.oref 108002]),(108002,false,.ints 37 .u64 p2)]⟩
theorem Aa.of.Mul.Aw:Aa.of.Mul.L0 N (M+1) a b r c l p q m p14 p2_1=bif (A0 p14 a) then Aa.of.Mul.L1 N M N a b r c l p q m p14 p14 0 p2_1 else some (.agg [.int .i64 a,.int .i64 b,.ints (.own 108002 37) .u64 p2_1]):=by kernel_rfl
theorem Aa.of.Mul.Ct:Aa.of.Mul.L1 N M0 (M+1) a b r c l p q m p8 p14_1 p18 p2=bif (A0 p18 b) then bif (Qx r c l p q m p8 p18) then bif (decide ((length p2)+1≤I5)) then Aa.of.Mul.L1 N M0 M a b r c l p q m p8 p14_1 (Ab (p18+1)) (p2++[(Oc (Jy c l p8) (P9 p q m p18))]) else none else none else Aa.of.Mul.L0 N M0 a b r c l p q m (Ab (p14_1+1)) p2 :=
 Eq.trans (by kernel_rfl)
 (Ev (Dw (E4 (Qx r c l p q m p8 p18)) (Dw (E4 (decide ((length p2)+1≤I5))) rfl rfl) rfl) rfl)
theorem Aa.of.Mul.ev:B0 Aa.of.Mul.E N f187 (Ap f187) [.int .i64 a,.int .i64 b,.fn 188 [] [.cellp [.int .i64 r,.int .i64 c,.ints .arg .u64 l],.cellp [.int .i64 p,.int .i64 q,.ints .arg .u64 m]]] =
 Aa.of.Mul.L0 N N a b r c l p q m 0 []:=by kernel_rfl
end
abbrev _root_.Go.Proofs.S1.Aa.of.Mul.Kn:=A4 prog 187 Aa.of.Mul.spec
theorem Aa.of.Mul.Ad (hk:Ay prog Aa.of.Mul.A8) (h:Hyp Aa.of.Mul.E f187 Aa.of.Mul.ts Aa.of.Mul.pre Aa.of.Mul.out):Aa.of.Mul.Kn :=
 Al (A1 hk _ _ _) func187 (by kernel_rfl) (by kernel_rfl) h
def Aa.Gx.A8:List (Nat × Entry):=[(187,Aa.of.Gx.spec),(204,Aa.size.spec)]
def Aa.Gx.E:Env:=Ba (A7 Aa.Gx.A8) (fun _=>false) (fun _=>none) (fun _=>none)
theorem Aa.Gx.ev (N:Nat) (n:Int):B0 Aa.Gx.E N f218 (Ap f218) [.int .i64 n]=bif (!(Bj n)) then some (.tup [.agg [.int .i64 0,.int .i64 0,.nil],.int .i64 3]) else bif ((Bj n&&Bj n)) then some (.tup [.agg [.int .i64 n,.int .i64 n,.ints .fresh .u64 (Cd (toNat n) (toNat n) (fun j1 j2=>Sk j1 j2))],.int .i64 0]) else none:=by kernel_rfl
abbrev _root_.Go.Proofs.S1.Aa.Gx.Kn:=A4 prog 218 Aa.Gx.spec
theorem Aa.Gx.Ad (hk:Ay prog Aa.Gx.A8) (h:Hyp Aa.Gx.E f218 Aa.Gx.ts Aa.Gx.pre Aa.Gx.out):Aa.Gx.Kn :=
 Al (A1 hk _ _ _) func218 (by kernel_rfl) (by kernel_rfl) h
def Aa.C6.A8:List (Nat × Entry):=[(160,Aa.Check.spec),(187,Aa.of.C6.spec)]
def Aa.C6.E:Env:=Ba (A7 Aa.C6.A8) (fun _=>false) (fun _=>none) (fun _=>none)
theorem Aa.C6.ev (N:Nat) (r c:Int) (l:List Int):B0 Aa.C6.E N f167 (Ap f167) [.agg [.int .i64 r,.int .i64 c,.ints .arg .u64 l]]=bif ((Jo r c l) !=(0:Int)) then some (.tup [.agg [.int .i64 0,.int .i64 0,.nil],.int .i64 (Jo r c l)]) else bif ((Bj c&&Bj r)&&Ak r c l&&decide (c=c∧r=r)) then some (.tup [.agg [.int .i64 c,.int .i64 r,.ints .fresh .u64 (Cd (toNat c) (toNat r) (fun j1 j2=>Di c l j2 j1))],.int .i64 0]) else none:=by kernel_rfl
abbrev _root_.Go.Proofs.S1.Aa.C6.Kn:=A4 prog 167 Aa.C6.spec
theorem Aa.C6.Ad (hk:Ay prog Aa.C6.A8) (h:Hyp Aa.C6.E f167 Aa.C6.ts Aa.C6.pre Aa.C6.out):Aa.C6.Kn :=
 Al (A1 hk _ _ _) func167 (by kernel_rfl) (by kernel_rfl) h
def Aa.Part.A8:List (Nat × Entry):=[(160,Aa.Check.spec),(187,Aa.of.Part.spec)]
def Aa.Part.E:Env:=Ba (A7 Aa.Part.A8) (fun _=>false) (fun _=>none) (fun _=>none)
theorem Aa.Part.ev (N:Nat) (r c:Int) (l:List Int) (x y:Int) (a b:Int):B0 Aa.Part.E N f124 (Ap f124) [.agg [.int .i64 r,.int .i64 c,.ints .arg .u64 l],.int .i64 x,.int .i64 y,.int .i64 a,.int .i64 b]=bif ((Jo r c l) !=(0:Int)) then some (.tup [.agg [.int .i64 0,.int .i64 0,.nil],.int .i64 (Jo r c l)]) else bif ((((((((A0 x 0)||(A0 y 0))||(A0 a 0))||(A0 b 0))||(A0 r x))||(A0 c y))||(A0 (Ab (r-x)) a))||(A0 (Ab (c-y)) b)) then some (.tup [.agg [.int .i64 0,.int .i64 0,.nil],.int .i64 3]) else bif ((Bj a&&Bj b)&&Ak r c l&&La r c x y a b) then some (.tup [.agg [.int .i64 a,.int .i64 b,.ints .fresh .u64 (Cd (toNat a) (toNat b) (fun j1 j2=>Di c l (x+j1) (y+j2)))],.int .i64 0]) else none :=
 Eq.trans (by kernel_rfl)
 (Ev rfl (An (S4 (A0 x 0)) (An (Oi (A0 x 0)) (An (Zk (A0 x 0)) (An (Zj (A0 x 0) (A0 y 0)) (An (Vt (A0 x 0) (A0 y 0)) (An (Ajx (A0 x 0) (A0 y 0)) (An (Anv (A0 x 0) (A0 y 0) (A0 a 0)) (An (Abc (A0 x 0) (A0 y 0) (A0 a 0)) (An (Anw (A0 x 0) (A0 y 0) (A0 a 0)) (An (Ag2 (A0 x 0) (A0 y 0) (A0 a 0) (A0 b 0)) (An (Ag2 (A0 x 0) (A0 y 0) (A0 a 0) (A0 b 0)) (An (Abd (A0 x 0) (A0 y 0) (A0 a 0) (A0 b 0)) (An (Ats (A0 x 0) (A0 y 0) (A0 a 0) (A0 b 0)) (An (Anx (A0 x 0) (A0 y 0) (A0 a 0) (A0 b 0)) (An (Ag3 (A0 x 0) (A0 y 0) (A0 a 0) (A0 b 0) (A0 r x)) (An (Ag3 (A0 x 0) (A0 y 0) (A0 a 0) (A0 b 0) (A0 r x)) (An (Ajy (A0 x 0) (A0 y 0) (A0 a 0) (A0 b 0) (A0 r x)) (An (Ark (A0 x 0) (A0 y 0) (A0 a 0) (A0 b 0) (A0 r x)) (An (Arl (A0 x 0) (A0 y 0) (A0 a 0) (A0 b 0) (A0 r x)) (An (Zm (A0 x 0) (A0 y 0) (A0 a 0) (A0 b 0) (A0 r x) (A0 c y)) (An (Zm (A0 x 0) (A0 y 0) (A0 a 0) (A0 b 0) (A0 r x) (A0 c y)) (An (Zl (A0 x 0) (A0 y 0) (A0 a 0) (A0 b 0) (A0 r x) (A0 c y)) (An (Zm (A0 x 0) (A0 y 0) (A0 a 0) (A0 b 0) (A0 r x) (A0 c y)) (An (Ag4 (A0 x 0) (A0 y 0) (A0 a 0) (A0 b 0) (A0 r x) (A0 c y)) (An (Ag4 (A0 x 0) (A0 y 0) (A0 a 0) (A0 b 0) (A0 r x) (A0 c y)) (An (Arm (A0 x 0) (A0 y 0) (A0 a 0) (A0 b 0) (A0 r x) (A0 c y)) (An (Arn (A0 x 0) (A0 y 0) (A0 a 0) (A0 b 0) (A0 r x) (A0 c y) (A0 (Ab (r-x)) a)) (An (Arn (A0 x 0) (A0 y 0) (A0 a 0) (A0 b 0) (A0 r x) (A0 c y) (A0 (Ab (r-x)) a)) (An (Av3 (A0 x 0) (A0 y 0) (A0 a 0) (A0 b 0) (A0 r x) (A0 c y) (A0 (Ab (r-x)) a)) (An (Arn (A0 x 0) (A0 y 0) (A0 a 0) (A0 b 0) (A0 r x) (A0 c y) (A0 (Ab (r-x)) a)) (An (Att (A0 x 0) (A0 y 0) (A0 a 0) (A0 b 0) (A0 r x) (A0 c y) (A0 (Ab (r-x)) a)) (An (Att (A0 x 0) (A0 y 0) (A0 a 0) (A0 b 0) (A0 r x) (A0 c y) (A0 (Ab (r-x)) a)) (An (Av4 (A0 x 0) (A0 y 0) (A0 a 0) (A0 b 0) (A0 r x) (A0 c y) (A0 (Ab (r-x)) a)) (Dw (Av5 (A0 x 0) (A0 y 0) (A0 a 0) (A0 b 0) (A0 r x) (A0 c y) (A0 (Ab (r-x)) a) (A0 (Ab (c-y)) b)) rfl rfl)))))))))))))))))))))))))))))))))))
abbrev _root_.Go.Proofs.S1.Aa.Part.Kn:=A4 prog 124 Aa.Part.spec
theorem Aa.Part.Ad (hk:Ay prog Aa.Part.A8) (h:Hyp Aa.Part.E f124 Aa.Part.ts Aa.Part.pre Aa.Part.out):Aa.Part.Kn :=
 Al (A1 hk _ _ _) func124 (by kernel_rfl) (by kernel_rfl) h
def Aa.Sub.A8:List (Nat × Entry):=[(187,Aa.of.Sub.spec),(186,Aa.two.spec)]
def Aa.Sub.E:Env:=Ba (A7 Aa.Sub.A8) (fun _=>false) (fun _=>none) (fun _=>none)
theorem Aa.Sub.ev (N:Nat) (r c:Int) (l:List Int) (p q:Int) (m:List Int):B0 Aa.Sub.E N f125 (Ap f125) [.agg [.int .i64 r,.int .i64 c,.ints .arg .u64 l],.agg [.int .i64 p,.int .i64 q,.ints .arg .u64 m]]=bif ((S3 r c l p q m) !=(0:Int)) then some (.tup [.agg [.int .i64 0,.int .i64 0,.nil],.int .i64 (S3 r c l p q m)]) else bif (!((r==p)&&(c==q))) then some (.tup [.agg [.int .i64 0,.int .i64 0,.nil],.int .i64 3]) else bif ((Bj r&&Bj c)&&((Ak r c l&&Ak p q m)&&(Af l&&Af m))&&decide (r=r∧c=c∧p=r∧q=c)) then some (.tup [.agg [.int .i64 r,.int .i64 c,.ints .fresh .u64 (Cd (toNat r) (toNat c) (fun j1 j2=>Dl (Di c l j1 j2) (Di q m j1 j2)))],.int .i64 0]) else none :=
 Eq.trans (by kernel_rfl)
 (Ev rfl (Dw (Av2 (r==p) (c==q)) rfl rfl))
abbrev _root_.Go.Proofs.S1.Aa.Sub.Kn:=A4 prog 125 Aa.Sub.spec
theorem Aa.Sub.Ad (hk:Ay prog Aa.Sub.A8) (h:Hyp Aa.Sub.E f125 Aa.Sub.ts Aa.Sub.pre Aa.Sub.out):Aa.Sub.Kn :=
 Al (A1 hk _ _ _) func125 (by kernel_rfl) (by kernel_rfl) h
def Aa.Stack.A8:List (Nat × Entry):=[(187,Aa.of.Stack.spec),(186,Aa.two.spec)]
def Aa.Stack.E:Env:=Ba (A7 Aa.Stack.A8) (fun _=>false) (fun _=>none) (fun _=>none)
theorem Aa.Stack.ev (N:Nat) (r c:Int) (l:List Int) (p q:Int) (m:List Int):B0 Aa.Stack.E N f126 (Ap f126) [.agg [.int .i64 r,.int .i64 c,.ints .arg .u64 l],.agg [.int .i64 p,.int .i64 q,.ints .arg .u64 m]]=bif ((S3 r c l p q m) !=(0:Int)) then some (.tup [.agg [.int .i64 0,.int .i64 0,.nil],.int .i64 (S3 r c l p q m)]) else bif ((c !=q)||(A0 6 (Ab (r+p)))) then some (.tup [.agg [.int .i64 0,.int .i64 0,.nil],.int .i64 3]) else bif ((Bj (Ab (r+p))&&Bj c)&&(Ak r c l&&Ak p q m)&&decide ((Ab (r+p))=r+p∧c=c∧q=c)) then some (.tup [.agg [.int .i64 (Ab (r+p)),.int .i64 c,.ints .fresh .u64 (Cd (toNat (Ab (r+p))) (toNat c) (fun j1 j2=>Hm r c l q m j1 j2))],.int .i64 0]) else none :=
 Eq.trans (by kernel_rfl)
 (Ev rfl (An (S4 (c !=q)) (An (Oi (c !=q)) (An (S4 (c !=q)) (An (Oi (c !=q)) (An (tt8 (c !=q)) (An (Oi (c !=q)) (An (Zk (c !=q)) (Dw (tt5 (c !=q) (A0 6 (Ab (r+p)))) rfl rfl)))))))))
abbrev _root_.Go.Proofs.S1.Aa.Stack.Kn:=A4 prog 126 Aa.Stack.spec
theorem Aa.Stack.Ad (hk:Ay prog Aa.Stack.A8) (h:Hyp Aa.Stack.E f126 Aa.Stack.ts Aa.Stack.pre Aa.Stack.out):Aa.Stack.Kn :=
 Al (A1 hk _ _ _) func126 (by kernel_rfl) (by kernel_rfl) h
def Aa.Mul.A8:List (Nat × Entry):=[(187,Aa.of.Mul.spec),(186,Aa.two.spec)]
def Aa.Mul.E:Env:=Ba (A7 Aa.Mul.A8) (fun _=>false) (fun _=>none) (fun _=>none)
theorem Aa.Mul.ev (N:Nat) (r c:Int) (l:List Int) (p q:Int) (m:List Int):B0 Aa.Mul.E N f123 (Ap f123) [.agg [.int .i64 r,.int .i64 c,.ints .arg .u64 l],.agg [.int .i64 p,.int .i64 q,.ints .arg .u64 m]]=bif ((S3 r c l p q m) !=(0:Int)) then some (.tup [.agg [.int .i64 0,.int .i64 0,.nil],.int .i64 (S3 r c l p q m)]) else bif (c !=p) then some (.tup [.agg [.int .i64 0,.int .i64 0,.nil],.int .i64 3]) else bif ((Bj r&&Bj q)&&((Ak r c l&&Ak p q m)&&(Af l&&Af m))&&decide (r=r∧q=q∧c=p)) then some (.tup [.agg [.int .i64 r,.int .i64 q,.ints .fresh .u64 (Cd (toNat r) (toNat q) (fun j1 j2=>Oc (Jy c l j1) (P9 p q m j2)))],.int .i64 0]) else none:=by kernel_rfl
abbrev _root_.Go.Proofs.S1.Aa.Mul.Kn:=A4 prog 123 Aa.Mul.spec
theorem Aa.Mul.Ad (hk:Ay prog Aa.Mul.A8) (h:Hyp Aa.Mul.E f123 Aa.Mul.ts Aa.Mul.pre Aa.Mul.out):Aa.Mul.Kn :=
 Al (A1 hk _ _ _) func123 (by kernel_rfl) (by kernel_rfl) h
end EqOf
open EqOf
theorem of.B2.inner (N:Nat)  {A B:Nat} (hA:A≤6) (hB:B≤6) {F:Nat→Nat→Int} (hF:∀ i j:Nat,F i j=(0:Int)) {i:Nat} (hi:i<A):∀ (k j M0 M:Nat),j+k=B→k<M →
 Aa.of.B2.L1 N M0 M (A:Int) (B:Int) (i:Int) (i:Int) (j:Int) (Cd i B F++(List.range j).map (F i))=Aa.of.B2.L0 N M0 (A:Int) (B:Int) ((i+1:Nat):Int) (Cd (i+1) B F):=by
 intro k
 induction k with
 | zero =>
   intro j M0 M hj hM
   obtain ⟨M,rfl⟩:∃ G,M=G+1:=⟨M-1,by omega⟩
   obtain rfl:j=B:=by omega
   rw [Aa.of.B2.Ct,Au,Aw8 (by omega),Aw7,Ao (by omega) (by omega),← Jl]
   rfl
 | succ k ih =>
   intro j M0 M hj hM
   obtain ⟨M,rfl⟩:∃ G,M=G+1:=⟨M-1,by omega⟩
   have d:decide ((Cd i B F++(List.range j).map (F i)).length+1≤I5)=true:=by
    refine Aw4 ?_
    have:=Axz (show i≤6 by omega) hB
    rw [Axv,Br,Ax9,Ax6]; unfold I5; omega
   rw [Aa.of.B2.Ct,Au,Aw4 (by omega),Aw3,d,Aw3,Ao (by omega) (by omega),← hF i j]
   have:=ih (j+1) M0 M (by omega) (by omega)
   rw [Hs,← List.append_assoc] at this
   exact this
theorem of.B2.outer (N:Nat)  {A B:Nat} (hA:A≤6) (hB:B≤6) (hN:6<N) {F:Nat→Nat→Int} (hF:∀ i j:Nat,F i j=(0:Int)):∀ (k i M:Nat),i+k=A→k<M →
 Aa.of.B2.L0 N M (A:Int) (B:Int) (i:Int) (Cd i B F)=some (.agg [.int .i64 (A:Int),.int .i64 (B:Int),.ints (.own 108002 tB) .u64 (Cd A B F)]):=by
 intro k
 induction k with
 | zero =>
   intro i M hi hM
   obtain ⟨M,rfl⟩:∃ G,M=G+1:=⟨M-1,by omega⟩
   obtain rfl:i=A:=by omega
   rw [Aa.of.B2.Aw,Au,Aw8 (by omega),Aw7]
 | succ k ih =>
   intro i M hi hM
   obtain ⟨M,rfl⟩:∃ G,M=G+1:=⟨M-1,by omega⟩
   have n:=of.B2.inner N hA hB hF (show i<A by omega) B 0 M N (by omega) (by omega)
   rw [List.range_zero,List.map_nil,List.append_nil] at n
   rw [Aa.of.B2.Aw,Au,Aw4 (by omega),Aw3]
   exact n.trans (ih (i+1) M (by omega) (by omega))
theorem of.Gx.inner (N:Nat)  {A B:Nat} (hA:A≤6) (hB:B≤6) {F:Nat→Nat→Int} (hF:∀ i j:Nat,F i j=Sk (i:Int) (j:Int)) {i:Nat} (hi:i<A):∀ (k j M0 M:Nat),j+k=B→k<M →
 Aa.of.Gx.L1 N M0 M (A:Int) (B:Int) (i:Int) (i:Int) (j:Int) (Cd i B F++(List.range j).map (F i))=Aa.of.Gx.L0 N M0 (A:Int) (B:Int) ((i+1:Nat):Int) (Cd (i+1) B F):=by
 intro k
 induction k with
 | zero =>
   intro j M0 M hj hM
   obtain ⟨M,rfl⟩:∃ G,M=G+1:=⟨M-1,by omega⟩
   obtain rfl:j=B:=by omega
   rw [Aa.of.Gx.Ct,Au,Aw8 (by omega),Aw7,Ao (by omega) (by omega),← Jl]
   rfl
 | succ k ih =>
   intro j M0 M hj hM
   obtain ⟨M,rfl⟩:∃ G,M=G+1:=⟨M-1,by omega⟩
   have d:decide ((Cd i B F++(List.range j).map (F i)).length+1≤I5)=true:=by
    refine Aw4 ?_
    have:=Axz (show i≤6 by omega) hB
    rw [Axv,Br,Ax9,Ax6]; unfold I5; omega
   rw [Aa.of.Gx.Ct,Au,Aw4 (by omega),Aw3,d,Aw3,Ao (by omega) (by omega),← hF i j]
   have:=ih (j+1) M0 M (by omega) (by omega)
   rw [Hs,← List.append_assoc] at this
   exact this
theorem of.Gx.outer (N:Nat)  {A B:Nat} (hA:A≤6) (hB:B≤6) (hN:6<N) {F:Nat→Nat→Int} (hF:∀ i j:Nat,F i j=Sk (i:Int) (j:Int)):∀ (k i M:Nat),i+k=A→k<M →
 Aa.of.Gx.L0 N M (A:Int) (B:Int) (i:Int) (Cd i B F)=some (.agg [.int .i64 (A:Int),.int .i64 (B:Int),.ints (.own 108002 tB) .u64 (Cd A B F)]):=by
 intro k
 induction k with
 | zero =>
   intro i M hi hM
   obtain ⟨M,rfl⟩:∃ G,M=G+1:=⟨M-1,by omega⟩
   obtain rfl:i=A:=by omega
   rw [Aa.of.Gx.Aw,Au,Aw8 (by omega),Aw7]
 | succ k ih =>
   intro i M hi hM
   obtain ⟨M,rfl⟩:∃ G,M=G+1:=⟨M-1,by omega⟩
   have n:=of.Gx.inner N hA hB hF (show i<A by omega) B 0 M N (by omega) (by omega)
   rw [List.range_zero,List.map_nil,List.append_nil] at n
   rw [Aa.of.Gx.Aw,Au,Aw4 (by omega),Aw3]
   exact n.trans (ih (i+1) M (by omega) (by omega))
theorem Aa.of.Gx.known:Aa.of.Gx.Kn:=Aa.of.Gx.Ad (.cons Aa.Gn.known .nil) fun a b hp=>by
 have h1:(Bj a&&Bj b)=true:=hp
 obtain ⟨ha,hb⟩:=Ae.1 h1
 obtain ⟨A,rfl,hA⟩:=F6 ha
 obtain ⟨B,rfl,hB⟩:=F6 hb
 refine ⟨8,.agg [.int .i64 (A:Int),.int .i64 (B:Int),.ints (.own 108002 tB) .u64 (Cd A B fun (i j:Nat)=>Sk (i:Int) (j:Int))],[108002],?_,Wk.H5 (.cons .int (.cons .int (.cons (.drop _ _ _ _ (List.mem_singleton.2 rfl)) .nil)))⟩
 rw [Aa.of.Gx.ev]
 have n:=of.Gx.outer 8 hA hB (by omega) (F:=fun (i j:Nat)=>Sk (i:Int) (j:Int)) (fun _ _=>rfl) A 0 8 (by omega) (by omega)
 rw [Jk] at n
 exact n
theorem of.C6.inner (N:Nat) (r c:Int) (l:List Int) {A B:Nat} (hA:A≤6) (hB:B≤6) {F:Nat→Nat→Int} (hF:∀ i j:Nat,F i j=Di c l (j:Int) (i:Int)) {i:Nat} (hi:i<A) (hp:∀ j:Nat,j<B→D4 r c l (j:Int) (i:Int)=true):∀ (k j M0 M:Nat),j+k=B→k<M →
 Aa.of.C6.L1 N M0 M (A:Int) (B:Int) r c l (i:Int) (i:Int) (j:Int) (Cd i B F++(List.range j).map (F i))=Aa.of.C6.L0 N M0 (A:Int) (B:Int) r c l ((i+1:Nat):Int) (Cd (i+1) B F):=by
 intro k
 induction k with
 | zero =>
   intro j M0 M hj hM
   obtain ⟨M,rfl⟩:∃ G,M=G+1:=⟨M-1,by omega⟩
   obtain rfl:j=B:=by omega
   rw [Aa.of.C6.Ct,Au,Aw8 (by omega),Aw7,Ao (by omega) (by omega),← Jl]
   rfl
 | succ k ih =>
   intro j M0 M hj hM
   obtain ⟨M,rfl⟩:∃ G,M=G+1:=⟨M-1,by omega⟩
   have d:decide ((Cd i B F++(List.range j).map (F i)).length+1≤I5)=true:=by
    refine Aw4 ?_
    have:=Axz (show i≤6 by omega) hB
    rw [Axv,Br,Ax9,Ax6]; unfold I5; omega
   rw [Aa.of.C6.Ct,Au,Aw4 (by omega),Aw3,hp j (by omega),Aw3,d,Aw3,Ao (by omega) (by omega),← hF i j]
   have:=ih (j+1) M0 M (by omega) (by omega)
   rw [Hs,← List.append_assoc] at this
   exact this
theorem of.C6.outer (N:Nat) (r c:Int) (l:List Int) {A B:Nat} (hA:A≤6) (hB:B≤6) (hN:6<N) {F:Nat→Nat→Int} (hF:∀ i j:Nat,F i j=Di c l (j:Int) (i:Int)) (hp:∀ i j:Nat,i<A→j<B→D4 r c l (j:Int) (i:Int)=true):∀ (k i M:Nat),i+k=A→k<M →
 Aa.of.C6.L0 N M (A:Int) (B:Int) r c l (i:Int) (Cd i B F)=some (.agg [.int .i64 (A:Int),.int .i64 (B:Int),.ints (.own 108002 tB) .u64 (Cd A B F)]):=by
 intro k
 induction k with
 | zero =>
   intro i M hi hM
   obtain ⟨M,rfl⟩:∃ G,M=G+1:=⟨M-1,by omega⟩
   obtain rfl:i=A:=by omega
   rw [Aa.of.C6.Aw,Au,Aw8 (by omega),Aw7]
 | succ k ih =>
   intro i M hi hM
   obtain ⟨M,rfl⟩:∃ G,M=G+1:=⟨M-1,by omega⟩
   have n:=of.C6.inner N r c l hA hB hF (show i<A by omega) (fun j hj=>hp i j (by omega) hj) B 0 M N (by omega) (by omega)
   rw [List.range_zero,List.map_nil,List.append_nil] at n
   rw [Aa.of.C6.Aw,Au,Aw4 (by omega),Aw3]
   exact n.trans (ih (i+1) M (by omega) (by omega))
theorem Aa.of.C6.known:Aa.of.C6.Kn:=Aa.of.C6.Ad (.cons Aa.Er.known .nil) fun a b r c l hp=>by
 obtain ⟨h12,hy⟩:=Ae.1 (show (((Bj a&&Bj b)&&Ak r c l)&&decide (a=c∧b=r))=true from hp)
 obtain ⟨h1,hx⟩:=Ae.1 h12
 have h2:=Ae.2 ⟨hx,hy⟩
 obtain ⟨ha,hb⟩:=Ae.1 h1
 obtain ⟨A,rfl,hA⟩:=F6 ha
 obtain ⟨B,rfl,hB⟩:=F6 hb
 obtain ⟨hr,he⟩:=Ae.1 h2
 obtain ⟨e1,e2⟩:=Axt he
 have hp:∀ i j:Nat,i<A→j<B→D4 r c l (j:Int) (i:Int)=true:=fun i j hi hj=>Ii hr (by omega) (by omega) (by omega) (by omega) r
 refine ⟨8,.agg [.int .i64 (A:Int),.int .i64 (B:Int),.ints (.own 108002 tB) .u64 (Cd A B fun (i j:Nat)=>Di c l (j:Int) (i:Int))],[108002],?_,Wk.H5 (.cons .int (.cons .int (.cons (.drop _ _ _ _ (List.mem_singleton.2 rfl)) .nil)))⟩
 rw [Aa.of.C6.ev]
 have n:=of.C6.outer 8 r c l hA hB (by omega) (F:=fun (i j:Nat)=>Di c l (j:Int) (i:Int)) (fun _ _=>rfl) hp A 0 8 (by omega) (by omega)
 rw [Jk] at n
 exact n
theorem of.Part.inner (N:Nat) (r c:Int) (l:List Int) (x y:Int) {A B:Nat} (hA:A≤6) (hB:B≤6) {F:Nat→Nat→Int} (hF:∀ i j:Nat,F i j=Di c l (x+(i:Int)) (y+(j:Int))) {i:Nat} (hi:i<A) (hp:∀ j:Nat,j<B→(D4 r c l (x+(i:Int)) (y+(j:Int))&&Tb x y (i:Int) (j:Int))=true):∀ (k j M0 M:Nat),j+k=B→k<M →
 Aa.of.Part.L1 N M0 M (A:Int) (B:Int) r c l x y (i:Int) (i:Int) (j:Int) (Cd i B F++(List.range j).map (F i))=Aa.of.Part.L0 N M0 (A:Int) (B:Int) r c l x y ((i+1:Nat):Int) (Cd (i+1) B F):=by
 intro k
 induction k with
 | zero =>
   intro j M0 M hj hM
   obtain ⟨M,rfl⟩:∃ G,M=G+1:=⟨M-1,by omega⟩
   obtain rfl:j=B:=by omega
   rw [Aa.of.Part.Ct,Au,Aw8 (by omega),Aw7,Ao (by omega) (by omega),← Jl]
   rfl
 | succ k ih =>
   intro j M0 M hj hM
   obtain ⟨M,rfl⟩:∃ G,M=G+1:=⟨M-1,by omega⟩
   have d:decide ((Cd i B F++(List.range j).map (F i)).length+1≤I5)=true:=by
    refine Aw4 ?_
    have:=Axz (show i≤6 by omega) hB
    rw [Axv,Br,Ax9,Ax6]; unfold I5; omega
   rw [Aa.of.Part.Ct,Au,Aw4 (by omega),Aw3,hp j (by omega),Aw3,d,Aw3,Ao (by omega) (by omega),← hF i j]
   have:=ih (j+1) M0 M (by omega) (by omega)
   rw [Hs,← List.append_assoc] at this
   exact this
theorem of.Part.outer (N:Nat) (r c:Int) (l:List Int) (x y:Int) {A B:Nat} (hA:A≤6) (hB:B≤6) (hN:6<N) {F:Nat→Nat→Int} (hF:∀ i j:Nat,F i j=Di c l (x+(i:Int)) (y+(j:Int))) (hp:∀ i j:Nat,i<A→j<B→(D4 r c l (x+(i:Int)) (y+(j:Int))&&Tb x y (i:Int) (j:Int))=true):∀ (k i M:Nat),i+k=A→k<M →
 Aa.of.Part.L0 N M (A:Int) (B:Int) r c l x y (i:Int) (Cd i B F)=some (.agg [.int .i64 (A:Int),.int .i64 (B:Int),.ints (.own 108002 tB) .u64 (Cd A B F)]):=by
 intro k
 induction k with
 | zero =>
   intro i M hi hM
   obtain ⟨M,rfl⟩:∃ G,M=G+1:=⟨M-1,by omega⟩
   obtain rfl:i=A:=by omega
   rw [Aa.of.Part.Aw,Au,Aw8 (by omega),Aw7]
 | succ k ih =>
   intro i M hi hM
   obtain ⟨M,rfl⟩:∃ G,M=G+1:=⟨M-1,by omega⟩
   have n:=of.Part.inner N r c l x y hA hB hF (show i<A by omega) (fun j hj=>hp i j (by omega) hj) B 0 M N (by omega) (by omega)
   rw [List.range_zero,List.map_nil,List.append_nil] at n
   rw [Aa.of.Part.Aw,Au,Aw4 (by omega),Aw3]
   exact n.trans (ih (i+1) M (by omega) (by omega))
theorem Aa.of.Part.known:Aa.of.Part.Kn:=Aa.of.Part.Ad (.cons Aa.Es.known .nil) fun a b r c l x y hp=>by
 obtain ⟨h12,hy⟩:=Ae.1 (show (((Bj a&&Bj b)&&Ak r c l)&&La r c x y a b)=true from hp)
 obtain ⟨h1,hx⟩:=Ae.1 h12
 have h2:=Ae.2 ⟨hx,hy⟩
 obtain ⟨ha,hb⟩:=Ae.1 h1
 obtain ⟨A,rfl,hA⟩:=F6 ha
 obtain ⟨B,rfl,hB⟩:=F6 hb
 obtain ⟨hr,he⟩:=Ae.1 h2
 have he:=Axt he
 have hs:=Hc.1 hr
 have hp:∀ i j:Nat,i<A→j<B→(D4 r c l (x+(i:Int)) (y+(j:Int))&&Tb x y (i:Int) (j:Int))=true:=fun i j hi hj =>
  Ae.2 ⟨Ii hr (by omega) (by omega) (by omega) (by omega) r,At.2 (by omega)⟩
 refine ⟨8,.agg [.int .i64 (A:Int),.int .i64 (B:Int),.ints (.own 108002 tB) .u64 (Cd A B fun (i j:Nat)=>Di c l (x+(i:Int)) (y+(j:Int)))],[108002],?_,Wk.H5 (.cons .int (.cons .int (.cons (.drop _ _ _ _ (List.mem_singleton.2 rfl)) .nil)))⟩
 rw [Aa.of.Part.ev]
 have n:=of.Part.outer 8 r c l x y hA hB (by omega) (F:=fun (i j:Nat)=>Di c l (x+(i:Int)) (y+(j:Int))) (fun _ _=>rfl) hp A 0 8 (by omega) (by omega)
 rw [Jk] at n
 exact n
theorem of.Stack.inner (N:Nat) (r c:Int) (l:List Int) (p q:Int) (m:List Int) {A B:Nat} (hA:A≤6) (hB:B≤6) {F:Nat→Nat→Int} (hF:∀ i j:Nat,F i j=Hm r c l q m (i:Int) (j:Int)) {i:Nat} (hi:i<A) (hp:∀ j:Nat,j<B→K6 r c l p q m (i:Int) (j:Int)=true):∀ (k j M0 M:Nat),j+k=B→k<M →
 Aa.of.Stack.L1 N M0 M (A:Int) (B:Int) r c l p q m (i:Int) (i:Int) (j:Int) (Cd i B F++(List.range j).map (F i))=Aa.of.Stack.L0 N M0 (A:Int) (B:Int) r c l p q m ((i+1:Nat):Int) (Cd (i+1) B F):=by
 intro k
 induction k with
 | zero =>
   intro j M0 M hj hM
   obtain ⟨M,rfl⟩:∃ G,M=G+1:=⟨M-1,by omega⟩
   obtain rfl:j=B:=by omega
   rw [Aa.of.Stack.Ct,Au,Aw8 (by omega),Aw7,Ao (by omega) (by omega),← Jl]
   rfl
 | succ k ih =>
   intro j M0 M hj hM
   obtain ⟨M,rfl⟩:∃ G,M=G+1:=⟨M-1,by omega⟩
   have d:decide ((Cd i B F++(List.range j).map (F i)).length+1≤I5)=true:=by
    refine Aw4 ?_
    have:=Axz (show i≤6 by omega) hB
    rw [Axv,Br,Ax9,Ax6]; unfold I5; omega
   rw [Aa.of.Stack.Ct,Au,Aw4 (by omega),Aw3,hp j (by omega),Aw3,d,Aw3,Ao (by omega) (by omega),← hF i j]
   have:=ih (j+1) M0 M (by omega) (by omega)
   rw [Hs,← List.append_assoc] at this
   exact this
theorem of.Stack.outer (N:Nat) (r c:Int) (l:List Int) (p q:Int) (m:List Int) {A B:Nat} (hA:A≤6) (hB:B≤6) (hN:6<N) {F:Nat→Nat→Int} (hF:∀ i j:Nat,F i j=Hm r c l q m (i:Int) (j:Int)) (hp:∀ i j:Nat,i<A→j<B→K6 r c l p q m (i:Int) (j:Int)=true):∀ (k i M:Nat),i+k=A→k<M →
 Aa.of.Stack.L0 N M (A:Int) (B:Int) r c l p q m (i:Int) (Cd i B F)=some (.agg [.int .i64 (A:Int),.int .i64 (B:Int),.ints (.own 108002 tB) .u64 (Cd A B F)]):=by
 intro k
 induction k with
 | zero =>
   intro i M hi hM
   obtain ⟨M,rfl⟩:∃ G,M=G+1:=⟨M-1,by omega⟩
   obtain rfl:i=A:=by omega
   rw [Aa.of.Stack.Aw,Au,Aw8 (by omega),Aw7]
 | succ k ih =>
   intro i M hi hM
   obtain ⟨M,rfl⟩:∃ G,M=G+1:=⟨M-1,by omega⟩
   have n:=of.Stack.inner N r c l p q m hA hB hF (show i<A by omega) (fun j hj=>hp i j (by omega) hj) B 0 M N (by omega) (by omega)
   rw [List.range_zero,List.map_nil,List.append_nil] at n
   rw [Aa.of.Stack.Aw,Au,Aw4 (by omega),Aw3]
   exact n.trans (ih (i+1) M (by omega) (by omega))
theorem Aa.of.Stack.known:Aa.of.Stack.Kn:=Aa.of.Stack.Ad (.cons Aa.Du.known .nil) fun a b r c l p q m hp=>by
 obtain ⟨h12,hy⟩:=Ae.1 (show (((Bj a&&Bj b)&&(Ak r c l&&Ak p q m))&&decide (a=r+p∧b=c∧q=c))=true from hp)
 obtain ⟨h1,hx⟩:=Ae.1 h12
 have h2:=Ae.2 ⟨hx,hy⟩
 obtain ⟨ha,hb⟩:=Ae.1 h1
 obtain ⟨A,rfl,hA⟩:=F6 ha
 obtain ⟨B,rfl,hB⟩:=F6 hb
 obtain ⟨h3,he⟩:=Ae.1 h2
 obtain ⟨hr,hm⟩:=Ae.1 h3
 obtain ⟨e1,e2,e3⟩:=Axt he
 have hs:=Hc.1 hr
 have hp:∀ i j:Nat,i<A→j<B→K6 r c l p q m (i:Int) (j:Int)=true:=fun i j hi hj=>by
  refine At.2 ⟨by omega,by omega,by omega,by omega,?_⟩
  by_cases h:(i:Int)<r
  ·rw [Axq h]; exact Ii hr (by omega) (by omega) (by omega) (by omega) r
  ·rw [Axp h]; exact Ii hm (by omega) (by omega) (by omega) (by omega) p
 refine ⟨8,.agg [.int .i64 (A:Int),.int .i64 (B:Int),.ints (.own 108002 tB) .u64 (Cd A B fun (i j:Nat)=>Hm r c l q m (i:Int) (j:Int))],[108002],?_,Wk.H5 (.cons .int (.cons .int (.cons (.drop _ _ _ _ (List.mem_singleton.2 rfl)) .nil)))⟩
 rw [Aa.of.Stack.ev]
 have n:=of.Stack.outer 8 r c l p q m hA hB (by omega) (F:=fun (i j:Nat)=>Hm r c l q m (i:Int) (j:Int)) (fun _ _=>rfl) hp A 0 8 (by omega) (by omega)
 rw [Jk] at n
 exact n
theorem of.Mul.inner (N:Nat) (r c:Int) (l:List Int) (p q:Int) (m:List Int) {A B:Nat} (hA:A≤6) (hB:B≤6) {F:Nat→Nat→Int} (hF:∀ i j:Nat,F i j=Oc (Jy c l (i:Int)) (P9 p q m (j:Int))) {i:Nat} (hi:i<A) (hp:∀ j:Nat,j<B→Qx r c l p q m (i:Int) (j:Int)=true):∀ (k j M0 M:Nat),j+k=B→k<M →
 Aa.of.Mul.L1 N M0 M (A:Int) (B:Int) r c l p q m (i:Int) (i:Int) (j:Int) (Cd i B F++(List.range j).map (F i))=Aa.of.Mul.L0 N M0 (A:Int) (B:Int) r c l p q m ((i+1:Nat):Int) (Cd (i+1) B F):=by
 intro k
 induction k with
 | zero =>
   intro j M0 M hj hM
   obtain ⟨M,rfl⟩:∃ G,M=G+1:=⟨M-1,by omega⟩
   obtain rfl:j=B:=by omega
   rw [Aa.of.Mul.Ct,Au,Aw8 (by omega),Aw7,Ao (by omega) (by omega),← Jl]
   rfl
 | succ k ih =>
   intro j M0 M hj hM
   obtain ⟨M,rfl⟩:∃ G,M=G+1:=⟨M-1,by omega⟩
   have d:decide ((Cd i B F++(List.range j).map (F i)).length+1≤I5)=true:=by
    refine Aw4 ?_
    have:=Axz (show i≤6 by omega) hB
    rw [Axv,Br,Ax9,Ax6]; unfold I5; omega
   rw [Aa.of.Mul.Ct,Au,Aw4 (by omega),Aw3,hp j (by omega),Aw3,d,Aw3,Ao (by omega) (by omega),← hF i j]
   have:=ih (j+1) M0 M (by omega) (by omega)
   rw [Hs,← List.append_assoc] at this
   exact this
theorem of.Mul.outer (N:Nat) (r c:Int) (l:List Int) (p q:Int) (m:List Int) {A B:Nat} (hA:A≤6) (hB:B≤6) (hN:6<N) {F:Nat→Nat→Int} (hF:∀ i j:Nat,F i j=Oc (Jy c l (i:Int)) (P9 p q m (j:Int))) (hp:∀ i j:Nat,i<A→j<B→Qx r c l p q m (i:Int) (j:Int)=true):∀ (k i M:Nat),i+k=A→k<M →
 Aa.of.Mul.L0 N M (A:Int) (B:Int) r c l p q m (i:Int) (Cd i B F)=some (.agg [.int .i64 (A:Int),.int .i64 (B:Int),.ints (.own 108002 tB) .u64 (Cd A B F)]):=by
 intro k
 induction k with
 | zero =>
   intro i M hi hM
   obtain ⟨M,rfl⟩:∃ G,M=G+1:=⟨M-1,by omega⟩
   obtain rfl:i=A:=by omega
   rw [Aa.of.Mul.Aw,Au,Aw8 (by omega),Aw7]
 | succ k ih =>
   intro i M hi hM
   obtain ⟨M,rfl⟩:∃ G,M=G+1:=⟨M-1,by omega⟩
   have n:=of.Mul.inner N r c l p q m hA hB hF (show i<A by omega) (fun j hj=>hp i j (by omega) hj) B 0 M N (by omega) (by omega)
   rw [List.range_zero,List.map_nil,List.append_nil] at n
   rw [Aa.of.Mul.Aw,Au,Aw4 (by omega),Aw3]
   exact n.trans (ih (i+1) M (by omega) (by omega))
theorem Aa.of.Mul.known:Aa.of.Mul.Kn:=Aa.of.Mul.Ad (.cons Aa.Gk.known .nil) fun a b r c l p q m hp=>by
 obtain ⟨h12,hy⟩:=Ae.1 (show (((Bj a&&Bj b)&&((Ak r c l&&Ak p q m)&&(Af l&&Af m)))&&decide (a=r∧b=q∧c=p))=true from hp)
 obtain ⟨h1,hx⟩:=Ae.1 h12
 have h2:=Ae.2 ⟨hx,hy⟩
 obtain ⟨ha,hb⟩:=Ae.1 h1
 obtain ⟨A,rfl,hA⟩:=F6 ha
 obtain ⟨B,rfl,hB⟩:=F6 hb
 obtain ⟨h3,he⟩:=Ae.1 h2
 obtain ⟨h4,h5⟩:=Ae.1 h3
 obtain ⟨hr,hm⟩:=Ae.1 h4
 obtain ⟨e1,e2,e3⟩:=Axt he
 have hp:∀ i j:Nat,i<A→j<B→Qx r c l p q m (i:Int) (j:Int)=true:=fun i j hi hj =>
  Ae.2 ⟨Ae.2 ⟨Ae.2 ⟨hr,At.2 (by omega)⟩,Ae.2 ⟨hm,At.2 (by omega)⟩⟩,Ae.2 ⟨h5,At.2 e3⟩⟩
 refine ⟨8,.agg [.int .i64 (A:Int),.int .i64 (B:Int),.ints (.own 108002 tB) .u64 (Cd A B fun (i j:Nat)=>Oc (Jy c l (i:Int)) (P9 p q m (j:Int)))],[108002],?_,Wk.H5 (.cons .int (.cons .int (.cons (.drop _ _ _ _ (List.mem_singleton.2 rfl)) .nil)))⟩
 rw [Aa.of.Mul.ev]
 have n:=of.Mul.outer 8 r c l p q m hA hB (by omega) (F:=fun (i j:Nat)=>Oc (Jy c l (i:Int)) (P9 p q m (j:Int))) (fun _ _=>rfl) hp A 0 8 (by omega) (by omega)
 rw [Jk] at n
 exact n
open EqOf
def Qu (x:MX):DV:=.tup [.agg [.int .i64 x.1,.int .i64 x.2.1,.ints .fresh .u64 x.2.2.1],.int .i64 x.2.2.2]
def Aei (e:Int):DV:=.tup [.agg [.int .i64 0,.int .i64 0,.nil],.int .i64 e]
theorem L6 {drops:List Nat} {x:MX}:Wk drops (Qu x) (Qu x) :=
 Wk.G3 (.cons (Wk.H5 (.cons .int (.cons .int (.cons .O5 .nil)))) (.cons .int .nil))
theorem Ho {drops:List Nat} {e:Int}:Wk drops (Aei e) (Qu (Ij e)) :=
 Wk.G3 (.cons (Wk.H5 (.cons .int (.cons .int (.cons (.nil _ _) .nil)))) (.cons .int .nil))
theorem Aa.Gx.known:Aa.Gx.Kn:=Aa.Gx.Ad (.cons Aa.of.Gx.known (.cons Aa.size.known .nil)) fun n _=>by
 show ∃ N dv drops,_=some dv∧Wk drops dv (Qu (Le n))
 unfold Le
 by_cases h:Bj n=true
 ·rw [Axq h]
  exact ⟨0,_,[],by rw [Aa.Gx.ev,h]; rfl,L6⟩
 ·have e:Bj n=false:=by simpa using h
  rw [Axp h]
  exact ⟨0,_,[],by rw [Aa.Gx.ev,e]; rfl,Ho⟩
theorem Fj {r c:Int} {l:List Int} (h:Ak r c l=true):Bj r=true∧Bj c=true:=by
 obtain ⟨h1,h2,_⟩:=Hc.1 h
 exact ⟨G6.2 h1,G6.2 h2⟩
theorem Aa.C6.known:Aa.C6.Kn:=Aa.C6.Ad (.cons Aa.Check.known (.cons Aa.of.C6.known .nil)) fun r c l _=>by
 show ∃ N dv drops,_=some dv∧Wk drops dv (Qu (Cb r c l))
 unfold Cb
 by_cases h:Ak r c l=true
 ·obtain ⟨h1,h2⟩:=Fj h
  rw [Axq h]
  exact ⟨0,_,[],by rw [Aa.C6.ev,Q7,h,h1,h2,Aw4 ⟨rfl,rfl⟩]; rfl,L6⟩
 ·have e:Ak r c l=false:=by simpa using h
  have ec:Jo r c l=1:=by unfold Jo; rw [e]; rfl
  rw [Axp h]
  exact ⟨0,_,[],by rw [Aa.C6.ev,Q7,e,ec]; rfl,Ho⟩
theorem Yg {r c x y a b:Int} (hr:0≤r∧r≤6) (hc:0≤c∧c≤6) :
 ((((((((A0 x (0:Int))||(A0 y (0:Int)))||(A0 a (0:Int)))||(A0 b (0:Int)))||(A0 r x))||(A0 c y))||(A0 (Ab (r-x)) a))||(A0 (Ab (c-y)) b))=!(La r c x y a b):=by
 unfold La
 simp only [Au]
 by_cases h:0≤x∧0≤y∧x≤r∧y≤c
 ·rw [Ao (x:=r-x) (by omega) (by omega),Ao (x:=c-y) (by omega) (by omega),Axj]
  simp only [Bool.or_eq_true,Axa,Bool.not_eq_true',Axm]
  omega
 ·have e:decide (0≤x∧0≤y∧0≤a∧0≤b∧x≤r∧y≤c∧a≤r-x∧b≤c-y)=false:=Aw8 (by omega)
  rw [e,Axj]
  simp only [Bool.or_eq_true,Axa,Aym,iff_true]
  omega
theorem Aeb {r c x y a b:Int} {l:List Int} (h:Ak r c l=true) (hp:La r c x y a b=true):Bj a=true∧Bj b=true:=by
 obtain ⟨h1,h2,_⟩:=Hc.1 h
 have:=Axt hp
 exact ⟨G6.2 (by omega),G6.2 (by omega)⟩
theorem Aa.Part.known:Aa.Part.Kn:=Aa.Part.Ad (.cons Aa.Check.known (.cons Aa.of.Part.known .nil)) fun r c l x y a b _=>by
 show ∃ N dv drops,_=some dv∧Wk drops dv (Qu (Fk r c l x y a b))
 unfold Fk
 by_cases h:Ak r c l=true
 ·obtain ⟨h1,h2,_⟩:=Hc.1 h
  by_cases hp:La r c x y a b=true
  ·obtain ⟨s1,s2⟩:=Aeb h hp
   rw [Axq h,Axq hp]
   exact ⟨0,_,[],by rw [Aa.Part.ev,Q7,Yg h1 h2,h,hp,s1,s2]; rfl,L6⟩
  ·have e:La r c x y a b=false:=by simpa using hp
   rw [Axq h,Axp hp]
   exact ⟨0,_,[],by rw [Aa.Part.ev,Q7,Yg h1 h2,h,e]; rfl,Ho⟩
 ·have e:Ak r c l=false:=by simpa using h
  have ec:Jo r c l=1:=by unfold Jo; rw [e]; rfl
  rw [Axp h]
  exact ⟨0,_,[],by rw [Aa.Part.ev,Q7,e,ec]; rfl,Ho⟩
theorem M8 (r c:Int) (l:List Int) (p q:Int) (m:List Int):((S3 r c l p q m) !=(0:Int))=!(Ak r c l&&Ak p q m):=by
 unfold S3
 cases Ak r c l&&Ak p q m<;>rfl
theorem Ado {r c:Int} {l:List Int} {p q:Int} {m:List Int} (h:(Ak r c l&&Ak p q m)=false):S3 r c l p q m=1:=by
 unfold S3; rw [h]; rfl
theorem Aa.Mul.known:Aa.Mul.Kn:=Aa.Mul.Ad (.cons Aa.of.Mul.known (.cons Aa.two.known .nil)) fun r c l p q m hp=>by
 show ∃ N dv drops,_=some dv∧Wk drops dv (Qu (Ek r c l p q m))
 unfold Ek
 have hp:(Af l&&Af m)=true:=hp
 by_cases h:(Ak r c l&&Ak p q m)=true
 ·obtain ⟨h1,h2⟩:=Ae.1 h
  by_cases hc:c=p
  ·have e:(c !=p)=false:=by rw [hc]; simp
   rw [Axq h,Axq hc]
   exact ⟨0,_,[],by rw [Aa.Mul.ev,M8,h,e,(Fj h1).1,(Fj h2).2,hp,Aw4 ⟨rfl,rfl,hc⟩]; rfl,L6⟩
  ·have e:(c !=p)=true:=by simpa using hc
   rw [Axq h,Axp hc]
   exact ⟨0,_,[],by rw [Aa.Mul.ev,M8,h,e]; rfl,Ho⟩
 ·have e:(Ak r c l&&Ak p q m)=false:=by simpa using h
  rw [Axp h]
  exact ⟨0,_,[],by rw [Aa.Mul.ev,M8,e,Ado e]; rfl,Ho⟩
theorem Aa.Stack.known:Aa.Stack.Kn:=Aa.Stack.Ad (.cons Aa.of.Stack.known (.cons Aa.two.known .nil)) fun r c l p q m _=>by
 show ∃ N dv drops,_=some dv∧Wk drops dv (Qu (Bz r c l p q m))
 unfold Bz
 by_cases h:(Ak r c l&&Ak p q m)=true
 ·obtain ⟨h1,h2⟩:=Ae.1 h
  obtain ⟨r1,c1,_⟩:=Hc.1 h1
  obtain ⟨p1,q1,_⟩:=Hc.1 h2
  have ew:Ab (r+p)=r+p:=Ao (by omega) (by omega)
  by_cases hc:c=q∧r+p≤6
  ·have e:((c !=q)||(A0 (6:Int) (r+p)))=false:=by rw [Au,hc.1]; simp; omega
   rw [Axq h,Axq hc]
   exact ⟨0,_,[],by rw [Aa.Stack.ev,ew,M8,h,e,(Fj h1).2,G6.2 (show 0≤r+p∧r+p≤6 by omega),Aw4 ⟨rfl,rfl,hc.1.symm⟩]; rfl,L6⟩
  ·have e:((c !=q)||(A0 (6:Int) (r+p)))=true:=by rw [Au]; simp; omega
   rw [Axq h,Axp hc]
   exact ⟨0,_,[],by rw [Aa.Stack.ev,ew,M8,h,e]; rfl,Ho⟩
 ·have e:(Ak r c l&&Ak p q m)=false:=by simpa using h
  rw [Axp h]
  exact ⟨0,_,[],by rw [Aa.Stack.ev,M8,e,Ado e]; rfl,Ho⟩
namespace EqRef10
def Cx.F9.A8:List (Nat × Entry):=[]
def Cx.F9.E:Env:=Ba (A7 Cx.F9.A8) (fun _=>false) (fun _=>none) (fun _=>none)
theorem Cx.F9.ev (N:Nat) (r c:Int) (l:List Int):B0 Cx.F9.E N f91 (Ap f91) [.agg [.int .i64 r,.int .i64 c,.ints .arg .u64 l]]=some (.bool (bif (bif (bif (bif (Ej 0 r) then (Ej r 6) else false) then (Ej 0 c) else false) then (Ej c 6) else false) then ((length l:Int)==(Ab (r*c))) else false)) :=
 Eq.trans (by kernel_rfl)
 (An (N4 (Ej 0 r)) (An (Na (Ej 0 r)) (An (Na (Ej 0 r)) (An (T6 (Ej 0 r)) (An (Adp (Ej 0 r) (Ej r 6)) (An (Abb (Ej 0 r) (Ej r 6)) (An (Abb (Ej 0 r) (Ej r 6)) (An (Ajw (Ej 0 r) (Ej r 6)) (An (Arh (Ej 0 r) (Ej r 6) (Ej 0 c)) (An (Ari (Ej 0 r) (Ej r 6) (Ej 0 c)) (An (Ari (Ej 0 r) (Ej r 6) (Ej 0 c)) (An (Atq (Ej 0 r) (Ej r 6) (Ej 0 c)) (An (Arj (Ej 0 r) (Ej r 6) (Ej 0 c) (Ej c 6)) (An (Anu (Ej 0 r) (Ej r 6) (Ej 0 c) (Ej c 6)) (An (Anu (Ej 0 r) (Ej r 6) (Ej 0 c) (Ej c 6)) (An (Arj (Ej 0 r) (Ej r 6) (Ej 0 c) (Ej c 6)) (An (Anu (Ej 0 r) (Ej r 6) (Ej 0 c) (Ej c 6)) (An (Arj (Ej 0 r) (Ej r 6) (Ej 0 c) (Ej c 6)) (An (Anu (Ej 0 r) (Ej r 6) (Ej 0 c) (Ej c 6)) (An (Atr (Ej 0 r) (Ej r 6) (Ej 0 c) (Ej c 6)) (An (Atr (Ej 0 r) (Ej r 6) (Ej 0 c) (Ej c 6)) (An (Av1 (Ej 0 r) (Ej r 6) (Ej 0 c) (Ej c 6)) rfl))))))))))))))))))))))
abbrev _root_.Go.Proofs.S1.Cx.F9.Kn:=A4 prog 91 Cx.F9.spec
theorem Cx.F9.Ad (hk:Ay prog Cx.F9.A8) (h:Hyp Cx.F9.E f91 Cx.F9.ts Cx.F9.pre Cx.F9.out):Cx.F9.Kn :=
 Al (A1 hk _ _ _) func91 (by kernel_rfl) (by kernel_rfl) h
def Cx.D2.A8:List (Nat × Entry):=[(99,Bh.D2.spec)]
def Cx.D2.E:Env:=Ba (A7 Cx.D2.A8) (fun _=>false) (fun _=>none) (fun _=>none)
theorem Cx.D2.ev (N:Nat) (r c:Int) (l:List Int) (p q:Int) (m:List Int):B0 Cx.D2.E N f31 (Ap f31) [.agg [.int .i64 r,.int .i64 c,.ints .arg .u64 l],.agg [.int .i64 p,.int .i64 q,.ints .arg .u64 m]]=bif ((!((r==p)&&(c==q)))||(R3 l)) then some (.bool (bif (bif (r==p) then (c==q) else false) then (Rq l m) else false)) else none :=
 Eq.trans (by kernel_rfl)
 (An (N4 (r==p)) (An (Na (r==p)) (An (N4 (r==p)) (An (Na (r==p)) (An (Ads (r==p)) (An (T6 (r==p)) (An (Adp (r==p) (c==q)) (An (Abb (r==p) (c==q)) (An (Adp (r==p) (c==q)) (An (Abb (r==p) (c==q)) (Dw (Atp (r==p) (c==q) (R3 l)) (An (Ajw (r==p) (c==q)) rfl) rfl)))))))))))
abbrev _root_.Go.Proofs.S1.Cx.D2.Kn:=A4 prog 31 Cx.D2.spec
theorem Cx.D2.Ad (hk:Ay prog Cx.D2.A8) (h:Hyp Cx.D2.E f31 Cx.D2.ts Cx.D2.pre Cx.D2.out):Cx.D2.Kn :=
 Al (A1 hk _ _ _) func31 (by kernel_rfl) (by kernel_rfl) h
end EqRef10
open EqRef10
theorem Cx.F9.known:Cx.F9.Kn:=Cx.F9.Ad .nil fun r c l _=>by
 refine ⟨0,Cx.F9.out [.i r,.i c,.l l],[],?_,.bool⟩
 have e:(bif (bif (bif (bif (Ej (0:Int) r) then (Ej r (6:Int)) else false) then (Ej (0:Int) c) else false) then (Ej c (6:Int)) else false) then ((length l:Int)==(Ab (r*c))) else false)=Ak r c l:=by
  have:=Ac2 r c l
  have h:(bif (bif (bif (bif (Ej (0:Int) r) then (Ej r (6:Int)) else false) then (Ej (0:Int) c) else false) then (Ej c (6:Int)) else false) then ((length l:Int)==(Ab (r*c))) else false)=!(((!(Bj r))||(!(Bj c)))||((length l:Int) !=(Ab (r*c)))):=by
   unfold Bj bne
   rw [Gu,Gu,Gu,Gu]
   cases decide (0≤r)<;>cases decide (r≤6)<;>cases decide (0≤c)<;>cases decide (c≤6)<;>cases ((length l:Int)==(Ab (r*c)))<;>rfl
  rw [h,this,Bool.not_not]
 rw [Cx.F9.ev,e]; rfl
theorem Adj {drops:List Nat} {i:Nat} {e:TypeId} {a b:Int} {l:List Int} (h:i∈drops):Wk drops (.agg [.int .i64 a,.int .i64 b,.ints (.own i e) .u64 l]) (.agg [.int .i64 a,.int .i64 b,.ints .fresh .u64 l]) :=
 Wk.H5 (.cons .int (.cons .int (.cons (.drop _ _ _ _ h) .nil)))
theorem Ac0 {r c i k:Nat} (hk:k<c) {d d':Nat→Nat→Bool} {f:Nat→Nat→Int} {x:Int} (hx:x=f i k)
 (h:∀ a b,a<r→b<c→(d' a b=true↔d a b=true∨(a=i∧b=k))) :
 List.set (Cd r c fun a b=>if d a b=true then f a b else 0) (toNat ((i:Int)*(c:Int)+(k:Int))) x=Cd r c fun a b=>if d' a b=true then f a b else 0:=by
 have e:((i:Int)*(c:Int)+(k:Int)).toNat=i*c+k:=by rw [← Axo,← Int.natCast_add,Aw5]
 rw [e,Se hk]
 refine Dq fun a b ha hb=>?_
 have h:=h a b ha hb
 by_cases hab:a=i∧b=k
 ·rw [Axq hab,Axq (h.2 (.inr hab)),hx,hab.1,hab.2]
 ·rw [Axp hab]
  by_cases hd:d a b=true
  ·rw [Axq hd,Axq (h.2 (.inl hd))]
  ·rw [Axp hd,Axp (fun k=>(h.1 k).elim hd hab)]
theorem Ahn (r c:Int) (l:List Int) (p q:Int) (m:List Int):(bif (bif (r==p) then (c==q) else false) then (Rq l m) else false)=Ua r c l p q m:=by
 unfold Ua Rq
 have e1:(r==p)=decide (r=p):=by rw [Axj]; simp
 have e2:(c==q)=decide (c=q):=by rw [Axj]; simp
 rw [e1,e2]
 cases decide (r=p)<;>cases decide (c=q)<;>cases decide (l=m)<;>rfl
theorem Cx.D2.known:Cx.D2.Kn:=Cx.D2.Ad (.cons Bh.D2.known .nil) fun r c l p q m hp=>by
 have hp:R3 l=true:=hp
 refine ⟨0,Cx.D2.out [.i r,.i c,.l l,.i p,.i q,.l m],[],?_,.bool⟩
 rw [Cx.D2.ev,hp,Ayf,Aw3,Ahn]
 rfl
open EqRef10
namespace EqHouse
def Ai.Cn.hint:Nat→Option A5
 | 0=>some { keep:=[5,6,7],objs:=[],boxes:=[] }
 | _=>none
def Ai.Cn.A8:List (Nat × Entry):=[(155,soft.Kind.spec)]
def Ai.Cn.E:Env:=Ba (A7 Ai.Cn.A8) (fun _=>false) Ai.Cn.hint (fun _=>none)
section
variable (N M:Nat) (x:List Int) (p7:Int)
def Ai.Cn.L0:Option DV:=Cc Ai.Cn.E N f252 (Ap f252) [1,0,1,0] [] M ⟨He 15 [(5,.ints .arg .u64 x),(6,.int .i64 (length x:Int)),(7,.int .i64 p7)],[]⟩
theorem Ai.Cn.Aw:Ai.Cn.L0 N (M+1) x p7=bif (A0 p7 (length x:Int)) then bif ((decide (0≤p7))&&(decide (p7<(length x:Int)))) then bif (Ah (getD x (toNat p7) 0)) then bif ((Av (getD x (toNat p7) 0)) !=(0:Int)) then some (.bool false) else Ai.Cn.L0 N M x (Ab (p7+1)) else none else none else some (.bool true):=by kernel_rfl
theorem Ai.Cn.ev:B0 Ai.Cn.E N f252 (Ap f252) [.ints .arg .u64 x] =
 Ai.Cn.L0 N N x 0:=by kernel_rfl
end
abbrev _root_.Go.Proofs.S1.Ai.Cn.Kn:=A4 prog 252 Ai.Cn.spec
theorem Ai.Cn.Ad (hk:Ay prog Ai.Cn.A8) (h:Hyp Ai.Cn.E f252 Ai.Cn.ts Ai.Cn.pre Ai.Cn.out):Ai.Cn.Kn :=
 Al (A1 hk _ _ _) func252 (by kernel_rfl) (by kernel_rfl) h
def Ai.lead.hint:Nat→Option A5
 | 0=>some { keep:=[5,6,7],objs:=[],boxes:=[] }
 | _=>none
def Ai.lead.A8:List (Nat × Entry):=[(155,soft.Kind.spec)]
def Ai.lead.E:Env:=Ba (A7 Ai.lead.A8) (fun _=>false) Ai.lead.hint (fun _=>none)
section
variable (N M:Nat) (x:List Int) (p7:Int)
def Ai.lead.L0:Option DV:=Cc Ai.lead.E N f258 (Ap f258) [1,0,1,0] [] M ⟨He 16 [(5,.ints .arg .u64 x),(6,.int .i64 (length x:Int)),(7,.int .i64 p7)],[]⟩
theorem Ai.lead.Aw:Ai.lead.L0 N (M+1) x p7=bif (A0 p7 (length x:Int)) then bif ((decide (0≤p7))&&(decide (p7<(length x:Int)))) then bif (Ah (getD x (toNat p7) 0)) then bif ((Av (getD x (toNat p7) 0)) !=(0:Int)) then some (.int .u64 (getD x (toNat p7) 0)) else Ai.lead.L0 N M x (Ab (p7+1)) else none else none else some (.int .u64 0):=by kernel_rfl
theorem Ai.lead.ev:B0 Ai.lead.E N f258 (Ap f258) [.ints .arg .u64 x] =
 Ai.lead.L0 N N x 0:=by kernel_rfl
end
abbrev _root_.Go.Proofs.S1.Ai.lead.Kn:=A4 prog 258 Ai.lead.spec
theorem Ai.lead.Ad (hk:Ay prog Ai.lead.A8) (h:Hyp Ai.lead.E f258 Ai.lead.ts Ai.lead.pre Ai.lead.out):Ai.lead.Kn :=
 Al (A1 hk _ _ _) func258 (by kernel_rfl) (by kernel_rfl) h
def Ai.Cr.hint:Nat→Option A5
 | 0=>some { keep:=[1,5,8,9,10],objs:=[(0,5,100005,.ints 37 .u64 [])],boxes:=[] }
 | _=>none
def Ai.Cr.A8:List (Nat × Entry):=[(88,Ac.E2.spec)]
def Ai.Cr.E:Env:=Ba (A7 Ai.Cr.A8) (fun _=>false) Ai.Cr.hint (fun _=>none)
section
variable (N M:Nat) (x:List Int) (k p10:Int) (p5:List Int)
def Ai.Cr.L0:Option DV:=Cc Ai.Cr.E N f256 (Ap f256) [1,1,0,1,0] [] M ⟨He 22 [(1,.int .i64 k),(5,.oref 100005),(8,.ints .arg .u64 x),(9,.int .i64 (length x:Int)),(10,.int .i64 p10)],[(100005,false,.ints 37 .u64 p5)]⟩
theorem Ai.Cr.Aw:Ai.Cr.L0 N (M+1) x k p10 p5=bif (A0 p10 (length x:Int)) then bif ((decide (0≤p10))&&(decide (p10<(length x:Int)))) then bif (E6 (getD x (toNat p10) 0) k) then bif (decide ((length p5)+1≤I5)) then Ai.Cr.L0 N M x k (Ab (p10+1)) (p5++[(B4 (getD x (toNat p10) 0) k)]) else none else none else none else some (.ints (.own 100005 37) .u64 p5):=by kernel_rfl
theorem Ai.Cr.ev:B0 Ai.Cr.E N f256 (Ap f256) [.ints .arg .u64 x,.int .i64 k] =
 Ai.Cr.L0 N N x k 0 []:=by kernel_rfl
end
abbrev _root_.Go.Proofs.S1.Ai.Cr.Kn:=A4 prog 256 Ai.Cr.spec
theorem Ai.Cr.Ad (hk:Ay prog Ai.Cr.A8) (h:Hyp Ai.Cr.E f256 Ai.Cr.ts Ai.Cr.pre Ai.Cr.out):Ai.Cr.Kn :=
 Al (A1 hk _ _ _) func256 (by kernel_rfl) (by kernel_rfl) h
def Ai.Eu.A8:List (Nat × Entry):=[]
def Ai.Eu.E:Env:=Ba (A7 Ai.Eu.A8) (fun _=>false) (fun _=>none) (fun _=>none)
theorem Ai.Eu.ev (N:Nat) (i:Int):B0 Ai.Eu.E N f254 (Ap f254) [.int .i64 i]=some (.int .u64 0):=by kernel_rfl
abbrev _root_.Go.Proofs.S1.Ai.Eu.Kn:=A4 prog 254 Ai.Eu.spec
theorem Ai.Eu.Ad (hk:Ay prog Ai.Eu.A8) (h:Hyp Ai.Eu.E f254 Ai.Eu.ts Ai.Eu.pre Ai.Eu.out):Ai.Eu.Kn :=
 Al (A1 hk _ _ _) func254 (by kernel_rfl) (by kernel_rfl) h
def Ai.Et.A8:List (Nat × Entry):=[(158,Ac.Div.spec)]
def Ai.Et.E:Env:=Ba (A7 Ai.Et.A8) (fun _=>false) (fun _=>none) (fun _=>none)
theorem Ai.Et.ev (N:Nat) (i:Int) (y:List Int) (d:Int):B0 Ai.Et.E N f259 (Ap f259) [.int .i64 i,.cellp [.ints .arg .u64 y],.cellp [.int .u64 d]]=bif ((decide (0≤i))&&(decide (i<(length y:Int)))) then bif (Ah (getD y (toNat i) 0)&&Ah d) then some (.int .u64 (Fp (getD y (toNat i) 0) d)) else none else none :=
 Eq.trans (by kernel_rfl)
 (Dw (M9 (decide (0≤i)) (decide (i<(length y:Int)))) (Dw (E4 (Ah (getD y (toNat i) 0)&&Ah d)) rfl rfl) rfl)
abbrev _root_.Go.Proofs.S1.Ai.Et.Kn:=A4 prog 259 Ai.Et.spec
theorem Ai.Et.Ad (hk:Ay prog Ai.Et.A8) (h:Hyp Ai.Et.E f259 Ai.Et.ts Ai.Et.pre Ai.Et.out):Ai.Et.Kn :=
 Al (A1 hk _ _ _) func259 (by kernel_rfl) (by kernel_rfl) h
def Ai.row.Zero.hint:Nat→Option A5
 | 0=>some { keep:=[0,1,5,6],objs:=[(0,5,100005,.ints 37 .u64 [])],boxes:=[] }
 | _=>none
def Ai.row.Zero.A8:List (Nat × Entry):=[(254,Ai.Eu.spec)]
def Ai.row.Zero.E:Env:=Ba (A7 Ai.row.Zero.A8) (fun _=>false) Ai.row.Zero.hint (fun _=>none)
section
variable (N M:Nat) (n p6:Int) (p5:List Int)
def Ai.row.Zero.L0:Option DV:=Cc Ai.row.Zero.E N f253 (Ap f253) [1,1,0,1,0] [] M ⟨He 23 [(0,.int .i64 n),(1,.fn 254 [] []),(5,.oref 100005),(6,.int .i64 p6)],[(100005,false,.ints 37 .u64 p5)]⟩
theorem Ai.row.Zero.Aw:Ai.row.Zero.L0 N (M+1) n p6 p5=bif (A0 p6 n) then bif (decide ((length p5)+1≤I5)) then Ai.row.Zero.L0 N M n (Ab (p6+1)) (p5++[(0:Int)]) else none else bif (((decide ((0:Int)≤n))&&(decide (n≤n)))&&((decide ((0:Int)≤n))&&(decide (n≤(length p5:Int))))) then some (.ints .fresh .u64 (List.take (toNat (n-0)) (List.drop 0 p5))) else none :=
 Eq.trans (by kernel_rfl)
 (Ev rfl (Dw (Ard (decide ((0:Int)≤n)) (decide (n≤n)) (decide (n≤(length p5:Int)))) rfl rfl))
theorem Ai.row.Zero.ev:B0 Ai.row.Zero.E N f253 (Ap f253) [.int .i64 n,.fn 254 [] []] =
 Ai.row.Zero.L0 N N n 1 [(4607182418800017408:Int)]:=by kernel_rfl
end
abbrev _root_.Go.Proofs.S1.Ai.row.Zero.Kn:=A4 prog 253 Ai.row.Zero.spec
theorem Ai.row.Zero.Ad (hk:Ay prog Ai.row.Zero.A8) (h:Hyp Ai.row.Zero.E f253 Ai.row.Zero.ts Ai.row.Zero.pre Ai.row.Zero.out):Ai.row.Zero.Kn :=
 Al (A1 hk _ _ _) func253 (by kernel_rfl) (by kernel_rfl) h
def Ai.row.Div.hint:Nat→Option A5
 | 0=>some { keep:=[0,1,5,6],objs:=[(0,5,100005,.ints 37 .u64 [])],boxes:=[] }
 | _=>none
def Ai.row.Div.A8:List (Nat × Entry):=[(259,Ai.Et.spec)]
def Ai.row.Div.E:Env:=Ba (A7 Ai.row.Div.A8) (fun _=>false) Ai.row.Div.hint (fun _=>none)
section
variable (N M:Nat) (n:Int) (y:List Int) (d p6:Int) (p5:List Int)
def Ai.row.Div.L0:Option DV:=Cc Ai.row.Div.E N f253 (Ap f253) [1,1,0,1,0] [] M ⟨He 23 [(0,.int .i64 n),(1,.fn 259 [] [.cellp [.ints .arg .u64 y],.cellp [.int .u64 d]]),(5,.oref 100005),(6,.int .i64 p6)],[(100005,false,.ints 37 .u64 p5)]⟩
theorem Ai.row.Div.Aw:Ai.row.Div.L0 N (M+1) n y d p6 p5=bif (A0 p6 n) then bif ((Cw (0≤p6∧p6<length y)&&Af y)&&Ah d) then bif (decide ((length p5)+1≤I5)) then Ai.row.Div.L0 N M n y d (Ab (p6+1)) (p5++[(Fp (getD y (toNat p6) 0) d)]) else none else none else bif (((decide ((0:Int)≤n))&&(decide (n≤n)))&&((decide ((0:Int)≤n))&&(decide (n≤(length p5:Int))))) then some (.ints .fresh .u64 (List.take (toNat (n-0)) (List.drop 0 p5))) else none :=
 Eq.trans (by kernel_rfl)
 (Ev rfl (Dw (Ard (decide ((0:Int)≤n)) (decide (n≤n)) (decide (n≤(length p5:Int)))) rfl rfl))
theorem Ai.row.Div.ev:B0 Ai.row.Div.E N f253 (Ap f253) [.int .i64 n,.fn 259 [] [.cellp [.ints .arg .u64 y],.cellp [.int .u64 d]]] =
 Ai.row.Div.L0 N N n y d 1 [(4607182418800017408:Int)]:=by kernel_rfl
end
abbrev _root_.Go.Proofs.S1.Ai.row.Div.Kn:=A4 prog 253 Ai.row.Div.spec
theorem Ai.row.Div.Ad (hk:Ay prog Ai.row.Div.A8) (h:Hyp Ai.row.Div.E f253 Ai.row.Div.ts Ai.row.Div.pre Ai.row.Div.out):Ai.row.Div.Kn :=
 Al (A1 hk _ _ _) func253 (by kernel_rfl) (by kernel_rfl) h
def Ai.Ik.A8:List (Nat × Entry):=[(255,compare.I9.spec),(258,Ai.lead.spec),(252,Ai.Cn.spec),(253,(Ass [.i .i64,.fn 254 []] Ai.row.Zero.spec Ai.row.Div.spec)),(256,Ai.Cr.spec),(148,soft.Finite.spec),(233,soft.E9.spec),(213,soft.Sign.spec),(89,Ac.Cf.spec),(158,Ac.Div.spec),(150,Ac.Finite.spec),(257,Ac.Norm.spec),(88,Ac.E2.spec),(156,Ac.Sub.spec)]
def Ai.Ik.E:Env:=Ba (A7 Ai.Ik.A8) (fun _=>false) (fun _=>none) (fun _=>none)
theorem Ai.Ik.ev (N:Nat) (x:List Int):B0 Ai.Ik.E N f245 (Ap f245) [.ints .arg .u64 x]=bif (((length x:Int)==(0:Int))||(A0 64 (length x:Int))) then some (.tup [.nil,.int .u64 0,.int .u64 0,.int .i64 3]) else bif (Dh x) then bif (!(Da x)) then some (.tup [.nil,.int .u64 0,.int .u64 0,.int .i64 4]) else bif (decide ((1:Int)≤(length x:Int))) then bif (Dh (List.drop 1 x)) then bif (F7 (List.drop 1 x)) then bif (Cw (1≤(length x:Int)∧(length x:Int)≤64)) then bif (decide ((0:Int)<(length x:Int))) then some (.tup [.ints .fresh .u64 (I3 (toNat (length x:Int)) (fun _=>0)),.int .u64 0,.int .u64 (getD x 0 0),.int .i64 0]) else none else none else bif (Dh x) then bif (Ah (A6 x)) then bif (Dh x&&Cw (length x≤1000∧-2300≤(Ab (0-(Bi (A6 x))))∧(Ab (0-(Bi (A6 x))))≤2300)) then bif (Dh (Bb x (Ab (0-(Bi (A6 x)))))&&Cw (length (Bb x (Ab (0-(Bi (A6 x)))))≤64)) then bif (Dh x) then bif (Ah (Mu x)) then bif (!(Dm (Mu x))) then bif (Ah (D0 (Bb x (Ab (0-(Bi (A6 x))))))) then bif (E6 (Dk (D0 (Bb x (Ab (0-(Bi (A6 x))))))) (Bi (A6 x))) then bif (Ah (B4 (Dk (D0 (Bb x (Ab (0-(Bi (A6 x))))))) (Bi (A6 x)))) then bif (!(Cq (B4 (Dk (D0 (Bb x (Ab (0-(Bi (A6 x))))))) (Bi (A6 x))))) then some (.tup [.nil,.int .u64 0,.int .u64 0,.int .i64 2]) else bif (decide ((0:Int)<(length (Bb x (Ab (0-(Bi (A6 x))))):Int))) then bif (Ah (getD (Bb x (Ab (0-(Bi (A6 x))))) 0 0)&&Ah (Dk (D0 (Bb x (Ab (0-(Bi (A6 x)))))))) then bif ((Cw (1≤(length (Bb x (Ab (0-(Bi (A6 x))))):Int)∧(length (Bb x (Ab (0-(Bi (A6 x))))):Int)≤64∧(length (Bb x (Ab (0-(Bi (A6 x))))):Int)=length (Bb x (Ab (0-(Bi (A6 x))))))&&Af (Bb x (Ab (0-(Bi (A6 x))))))&&Ah (Dl (getD (Bb x (Ab (0-(Bi (A6 x))))) 0 0) (Dk (D0 (Bb x (Ab (0-(Bi (A6 x))))))))) then bif (decide ((0:Int)<(length (Bb x (Ab (0-(Bi (A6 x))))):Int))) then bif (Ah (Dk (D0 (Bb x (Ab (0-(Bi (A6 x)))))))&&Ah (getD (Bb x (Ab (0-(Bi (A6 x))))) 0 0)) then bif (Ah (Dl (Dk (D0 (Bb x (Ab (0-(Bi (A6 x))))))) (getD (Bb x (Ab (0-(Bi (A6 x))))) 0 0))&&Ah (Dk (D0 (Bb x (Ab (0-(Bi (A6 x)))))))) then some (.tup [.ints .fresh .u64 (I3 (toNat (length (Bb x (Ab (0-(Bi (A6 x))))):Int)) (fun j=>Fp (getD (Bb x (Ab (0-(Bi (A6 x))))) j 0) (Dl (getD (Bb x (Ab (0-(Bi (A6 x))))) 0 0) (Dk (D0 (Bb x (Ab (0-(Bi (A6 x)))))))))),.int .u64 (Fp (Dl (Dk (D0 (Bb x (Ab (0-(Bi (A6 x))))))) (getD (Bb x (Ab (0-(Bi (A6 x))))) 0 0)) (Dk (D0 (Bb x (Ab (0-(Bi (A6 x)))))))),.int .u64 (B4 (Dk (D0 (Bb x (Ab (0-(Bi (A6 x))))))) (Bi (A6 x))),.int .i64 0]) else none else none else none else none else none else none else none else none else none else bif (E6 (D0 (Bb x (Ab (0-(Bi (A6 x)))))) (Bi (A6 x))) then bif (Ah (B4 (D0 (Bb x (Ab (0-(Bi (A6 x)))))) (Bi (A6 x)))) then bif (!(Cq (B4 (D0 (Bb x (Ab (0-(Bi (A6 x)))))) (Bi (A6 x))))) then some (.tup [.nil,.int .u64 0,.int .u64 0,.int .i64 2]) else bif (decide ((0:Int)<(length (Bb x (Ab (0-(Bi (A6 x))))):Int))) then bif (Ah (getD (Bb x (Ab (0-(Bi (A6 x))))) 0 0)&&Ah (D0 (Bb x (Ab (0-(Bi (A6 x))))))) then bif ((Cw (1≤(length (Bb x (Ab (0-(Bi (A6 x))))):Int)∧(length (Bb x (Ab (0-(Bi (A6 x))))):Int)≤64∧(length (Bb x (Ab (0-(Bi (A6 x))))):Int)=length (Bb x (Ab (0-(Bi (A6 x))))))&&Af (Bb x (Ab (0-(Bi (A6 x))))))&&Ah (Dl (getD (Bb x (Ab (0-(Bi (A6 x))))) 0 0) (D0 (Bb x (Ab (0-(Bi (A6 x)))))))) then bif (decide ((0:Int)<(length (Bb x (Ab (0-(Bi (A6 x))))):Int))) then bif (Ah (D0 (Bb x (Ab (0-(Bi (A6 x))))))&&Ah (getD (Bb x (Ab (0-(Bi (A6 x))))) 0 0)) then bif (Ah (Dl (D0 (Bb x (Ab (0-(Bi (A6 x)))))) (getD (Bb x (Ab (0-(Bi (A6 x))))) 0 0))&&Ah (D0 (Bb x (Ab (0-(Bi (A6 x))))))) then some (.tup [.ints .fresh .u64 (I3 (toNat (length (Bb x (Ab (0-(Bi (A6 x))))):Int)) (fun j=>Fp (getD (Bb x (Ab (0-(Bi (A6 x))))) j 0) (Dl (getD (Bb x (Ab (0-(Bi (A6 x))))) 0 0) (D0 (Bb x (Ab (0-(Bi (A6 x))))))))),.int .u64 (Fp (Dl (D0 (Bb x (Ab (0-(Bi (A6 x)))))) (getD (Bb x (Ab (0-(Bi (A6 x))))) 0 0)) (D0 (Bb x (Ab (0-(Bi (A6 x))))))),.int .u64 (B4 (D0 (Bb x (Ab (0-(Bi (A6 x)))))) (Bi (A6 x))),.int .i64 0]) else none else none else none else none else none else none else none else none else none else none else none else none else none else none else none else none else none :=
 Eq.trans (by kernel_rfl)
 (An (S4 ((length x:Int)==(0:Int))) (An (Oi ((length x:Int)==(0:Int))) (An (Oi ((length x:Int)==(0:Int))) (An (Zk ((length x:Int)==(0:Int))) (Dw (tt5 ((length x:Int)==(0:Int)) (A0 64 (length x:Int))) rfl (Ev (Ev rfl (Dw (Avy (decide ((1:Int)≤(length x:Int)))) (Ev (Ev (Dw (E4 (Cw (1≤(length x:Int)∧(length x:Int)≤64))) (Dw (E4 (decide ((0:Int)<(length x:Int)))) rfl rfl) rfl) rfl) rfl) rfl)) rfl))))))
abbrev _root_.Go.Proofs.S1.Ai.Ik.Kn:=A4 prog 245 Ai.Ik.spec
theorem Ai.Ik.Ad (hk:Ay prog Ai.Ik.A8) (h:Hyp Ai.Ik.E f245 Ai.Ik.ts Ai.Ik.pre Ai.Ik.out):Ai.Ik.Kn :=
 Al (A1 hk _ _ _) func245 (by kernel_rfl) (by kernel_rfl) h
def Ai.Apply.hint:Nat→Option A5
 | 0=>some { keep:=[1,3,4,5,10,13,14],objs:=[(14,2,114002,.ints 37 .u64 [])],boxes:=[5,10,13] }
 | 2=>some { keep:=[1,3,4,5,10,13,14,18,90,91,92],objs:=[(14,2,114002,.ints 37 .u64 [])],boxes:=[5,10,13] }
 | _=>none
def Ai.Apply.A8:List (Nat × Entry):=[(160,Aa.Check.spec),(191,Aa.C3.spec),(189,Ac.M6.spec),(157,Ac.Mul.spec),(156,Ac.Sub.spec)]
def Ai.Apply.E:Env:=Ba (A7 Ai.Apply.A8) (fun _=>false) Ai.Apply.hint (fun _=>none)
section
variable (N M0 M:Nat) (r c:Int) (l:List Int) (i k:Int) (v:List Int) (t p92:Int) (p2:List Int) (p14_1 p18:Int) (p90:List Int) (p91 p14:Int) (p2_1:List Int)
def Ai.Apply.L0:Option DV:=Cc Ai.Apply.E N f219 (Ap f219) [1,1,1,1,0,1,0] [] M ⟨He 118 [(1,.int .i64 i),(3,.ints .arg .u64 v),(4,.int .u64 t),(5,.ptr 5 0 0),(10,.ptr 10 0 0),(13,.ptr 13 0 0),(14,.int .i64 p14)],[(5,false,.box [.int .i64 r,.int .i64 c,.ints .arg .u64 l]),(10,false,.box [.int .i64 0,.int .i64 0,.nil]),(13,false,.box [.int .i64 r,.int .i64 c,.oref 114002]),(114002,false,.ints 37 .u64 p2_1)]⟩
def Ai.Apply.L1:Option DV:=Cc Ai.Apply.E N f219 (Ap f219) [1,1,1,1,0,1,0,0,1,0,0,1,1,1,1,0] [M0] M ⟨He 118 [(1,.int .i64 i),(3,.ints .arg .u64 v),(4,.int .u64 t),(5,.ptr 5 0 0),(10,.ptr 10 0 0),(13,.ptr 13 0 0),(14,.int .i64 p14_1),(18,.int .u64 p18),(90,.ints .fresh .u64 p90),(91,.int .i64 p91),(92,.int .i64 p92)],[(5,false,.box [.int .i64 r,.int .i64 c,.ints .arg .u64 l]),(10,false,.box [.int .i64 0,.int .i64 0,.nil]),(13,false,.box [.int .i64 r,.int .i64 c,.oref 114002]),(114002,false,.ints 37 .u64 p2)]⟩
theorem Ai.Apply.Aw:Ai.Apply.L0 N (M+1) r c l i v t p14 p2_1=bif (A0 p14 c) then bif (Lg r c l p14&&Cw (0≤i∧i≤r)) then bif (((decide ((0:Int)≤(length v:Int)))&&(decide ((length v:Int)≤(length v:Int))))&&((decide ((0:Int)≤(length v:Int)))&&(decide ((length v:Int)≤(length (Ds c l p14 i (toNat (r-i))):Int))))) then bif ((Tu v (List.take (toNat (length v:Int)) (Ds c l p14 i (toNat (r-i))))&&Af v)&&Af (List.take (toNat (length v:Int)) (Ds c l p14 i (toNat (r-i))))) then bif (Ah t&&Ah (Oc v (List.take (toNat (length v:Int)) (Ds c l p14 i (toNat (r-i)))))) then Ai.Apply.L1 N M N r c l i v t 0 p2_1 p14 (Eh t (Oc v (List.take (toNat (length v:Int)) (Ds c l p14 i (toNat (r-i)))))) (List.take (toNat (length v:Int)) (Ds c l p14 i (toNat (r-i)))) (length (List.take (toNat (length v:Int)) (Ds c l p14 i (toNat (r-i)))):Int) else none else none else none else none else some (.tup [.agg [.int .i64 r,.int .i64 c,.ints (.own 114002 37) .u64 p2_1],.int .i64 0]) :=
 Eq.trans (by kernel_rfl)
 (Ev (Ev (Dw (Ard (decide ((0:Int)≤(length v:Int))) (decide ((length v:Int)≤(length v:Int))) (decide ((length v:Int)≤(length (Ds c l p14 i (toNat (r-i))):Int)))) rfl rfl) rfl) rfl)
theorem Ai.Apply.Ct:Ai.Apply.L1 N M0 (M+1) r c l i v t p92 p2 p14_1 p18 p90 p91=bif (A0 p92 p91) then bif ((decide (0≤p92))&&(decide (p92<(length p90:Int)))) then bif ((decide (0≤p92))&&(decide (p92<(length v:Int)))) then bif (Ah p18&&Ah (getD v (toNat p92) 0)) then bif (Ah (getD p90 (toNat p92) 0)&&Ah (Eh p18 (getD v (toNat p92) 0))) then bif ((decide (0≤(Ab ((Ab ((Ab (i+p92))*c))+p14_1))))&&(decide ((Ab ((Ab ((Ab (i+p92))*c))+p14_1))<(length p2:Int)))) then bif (decide ((toNat (Ab ((Ab ((Ab (i+p92))*c))+p14_1)))<(length p2))) then Ai.Apply.L1 N M0 M r c l i v t (Ab (p92+1)) (List.set p2 (toNat (Ab ((Ab ((Ab (i+p92))*c))+p14_1))) (Dl (getD p90 (toNat p92) 0) (Eh p18 (getD v (toNat p92) 0)))) p14_1 p18 p90 p91 else none else none else none else none else none else none else Ai.Apply.L0 N M0 r c l i v t (Ab (p14_1+1)) p2 :=
 Eq.trans (by kernel_rfl)
 (Ev (Ev (Dw (M9 (decide (0≤p92)) (decide (p92<(length v:Int)))) (Dw (E4 (Ah p18&&Ah (getD v (toNat p92) 0))) (Dw (E4 (Ah (getD p90 (toNat p92) 0)&&Ah (Eh p18 (getD v (toNat p92) 0)))) (Dw (M9 (decide (0≤(Ab ((Ab ((Ab (i+p92))*c))+p14_1)))) (decide ((Ab ((Ab ((Ab (i+p92))*c))+p14_1))<(length p2:Int)))) (Dw (E4 (decide ((toNat (Ab ((Ab ((Ab (i+p92))*c))+p14_1)))<(length p2)))) rfl rfl) rfl) rfl) rfl) rfl) rfl) rfl)
theorem Ai.Apply.ev:B0 Ai.Apply.E N f219 (Ap f219) [.agg [.int .i64 r,.int .i64 c,.ints .arg .u64 l],.int .i64 i,.int .i64 k,.ints .arg .u64 v,.int .u64 t]=bif ((Jo r c l) !=(0:Int)) then some (.tup [.agg [.int .i64 0,.int .i64 0,.nil],.int .i64 (Jo r c l)]) else bif (((((A0 i 0)||(A0 r (length v:Int)))||(A0 (Ab (r-(length v:Int))) i))||(A0 k 0))||(A0 c k)) then some (.tup [.agg [.int .i64 0,.int .i64 0,.nil],.int .i64 3]) else bif (decide (0+(length l)≤I5)) then Ai.Apply.L0 N N r c l i v t k ([]++l) else none :=
 Eq.trans (by kernel_rfl)
 (Ev rfl (An (S4 (A0 i 0)) (An (Oi (A0 i 0)) (An (S4 (A0 i 0)) (An (Oi (A0 i 0)) (An (tt8 (A0 i 0)) (An (Zk (A0 i 0)) (An (Zj (A0 i 0) (A0 r (length v:Int))) (An (Zj (A0 i 0) (A0 r (length v:Int))) (An (Vt (A0 i 0) (A0 r (length v:Int))) (An (Zj (A0 i 0) (A0 r (length v:Int))) (An (Vt (A0 i 0) (A0 r (length v:Int))) (An (Ant (A0 i 0) (A0 r (length v:Int))) (An (Ant (A0 i 0) (A0 r (length v:Int))) (An (Ajx (A0 i 0) (A0 r (length v:Int))) (An (Anv (A0 i 0) (A0 r (length v:Int)) (A0 (Ab (r-(length v:Int))) i)) (An (Abc (A0 i 0) (A0 r (length v:Int)) (A0 (Ab (r-(length v:Int))) i)) (An (Anw (A0 i 0) (A0 r (length v:Int)) (A0 (Ab (r-(length v:Int))) i)) (An (Ag2 (A0 i 0) (A0 r (length v:Int)) (A0 (Ab (r-(length v:Int))) i) (A0 k 0)) (An (Ag2 (A0 i 0) (A0 r (length v:Int)) (A0 (Ab (r-(length v:Int))) i) (A0 k 0)) (An (Abd (A0 i 0) (A0 r (length v:Int)) (A0 (Ab (r-(length v:Int))) i) (A0 k 0)) (An (Ats (A0 i 0) (A0 r (length v:Int)) (A0 (Ab (r-(length v:Int))) i) (A0 k 0)) (An (Anx (A0 i 0) (A0 r (length v:Int)) (A0 (Ab (r-(length v:Int))) i) (A0 k 0)) (Dw (Avx (A0 i 0) (A0 r (length v:Int)) (A0 (Ab (r-(length v:Int))) i) (A0 k 0) (A0 c k)) rfl (Dw (E4 (decide (0+(length l)≤I5))) rfl rfl)))))))))))))))))))))))))
end
abbrev _root_.Go.Proofs.S1.Ai.Apply.Kn:=A4 prog 219 Ai.Apply.spec
theorem Ai.Apply.Ad (hk:Ay prog Ai.Apply.A8) (h:Hyp Ai.Apply.E f219 Ai.Apply.ts Ai.Apply.pre Ai.Apply.out):Ai.Apply.Kn :=
 Al (A1 hk _ _ _) func219 (by kernel_rfl) (by kernel_rfl) h
end EqHouse
open EqHouse
theorem Agj (x:Int):((Av x) !=(0:Int))=!(decide (Av x=0)):=by
 rw [Axj]; simp
theorem Z4 (N:Nat) {x:List Int} (hx:Dh x=true):∀ (k i F:Nat),i+k=x.length→k<F→Ai.Cn.L0 N F x (i:Int)=some (.bool (F7 (x.drop i))):=by
 obtain ⟨hl,hu⟩:=Ks hx
 intro k
 induction k with
 | zero =>
   intro i F hi hF
   obtain ⟨F,rfl⟩:∃ G,F=G+1:=⟨F-1,by omega⟩
   rw [Ai.Cn.Aw,Au,Aw8 (by omega),Aw7,Axh (by omega)]; rfl
 | succ k ih =>
   intro i F hi hF
   obtain ⟨F,rfl⟩:∃ G,F=G+1:=⟨F-1,by omega⟩
   rw [Ai.Cn.Aw,Au,Aw4 (show (i:Int)<(x.length:Int) by omega),Aw3,Aw4 (show (0:Int)≤(i:Int) by omega),Aw9,Aw3,Aw5,hu i (by omega),Aw3,Agj,Ih (by omega)]
   unfold F7
   rw [List.all_cons]
   cases decide (Av (x.getD i 0)=0) with
   | false=>rfl
   | true =>
     rw [Ax2,Aw7,Ayg,Ao (by omega) (by omega)]
     exact ih (i+1) F (by omega) (by omega)
theorem Ai.Cn.known:Ai.Cn.Kn:=Ai.Cn.Ad (.cons soft.Kind.known .nil) fun x hp=>by
 refine ⟨x.length+1,Ai.Cn.out [.l x],[],?_,.bool⟩
 rw [Ai.Cn.ev]
 exact Z4 (x.length+1) hp x.length 0 (x.length+1) (by omega) (by omega)
theorem Aim (N:Nat) {x:List Int} (hx:Dh x=true):∀ (k i F:Nat),i+k=x.length→k<F→Ai.lead.L0 N F x (i:Int)=some (.int .u64 (Mu (x.drop i))):=by
 obtain ⟨hl,hu⟩:=Ks hx
 intro k
 induction k with
 | zero =>
   intro i F hi hF
   obtain ⟨F,rfl⟩:∃ G,F=G+1:=⟨F-1,by omega⟩
   rw [Ai.lead.Aw,Au,Aw8 (by omega),Aw7,Axh (by omega)]; rfl
 | succ k ih =>
   intro i F hi hF
   obtain ⟨F,rfl⟩:∃ G,F=G+1:=⟨F-1,by omega⟩
   rw [Ai.lead.Aw,Au,Aw4 (show (i:Int)<(x.length:Int) by omega),Aw3,Aw4 (show (0:Int)≤(i:Int) by omega),Aw9,Aw3,Aw5,hu i (by omega),Aw3,Agj,Ih (by omega),Mu]
   by_cases h:Av (x.getD i 0)=0
   ·rw [Aw4 h,Axq h,Ax2,Aw7,Ao (by omega) (by omega)]
    exact ih (i+1) F (by omega) (by omega)
   ·rw [Aw8 h,Axp h]; rfl
theorem Ai.lead.known:Ai.lead.Kn:=Ai.lead.Ad (.cons soft.Kind.known .nil) fun x hp=>by
 refine ⟨x.length+1,Ai.lead.out [.l x],[],?_,.int⟩
 rw [Ai.lead.ev]
 exact Aim (x.length+1) hp x.length 0 (x.length+1) (by omega) (by omega)
theorem Adu {x:List Int} {i:Nat} (h:i<x.length) (f:Int→Int):(x.take (i+1)).map f=(x.take i).map f++[f (x.getD i 0)]:=by
 rw [List.take_succ_eq_append_getElem h,List.map_append,Axd,Axk h]; rfl
theorem Zt (N:Nat) {x:List Int} {e:Int} (hx:Dh x=true) (hl:x.length≤1000) (he:-2300≤e∧e≤2300):∀ (k i F:Nat),i+k=x.length→k<F →
 Ai.Cr.L0 N F x e (i:Int) ((x.take i).map fun b=>B4 b e)=some (.ints (.own 100005 tB) .u64 (Bb x e)):=by
 obtain ⟨_,hu⟩:=Ks hx
 intro k
 induction k with
 | zero =>
   intro i F hi hF
   obtain ⟨F,rfl⟩:∃ G,F=G+1:=⟨F-1,by omega⟩
   rw [Ai.Cr.Aw,Au,Aw8 (by omega),Aw7,List.take_of_length_le (by omega)]; rfl
 | succ k ih =>
   intro i F hi hF
   obtain ⟨F,rfl⟩:∃ G,F=G+1:=⟨F-1,by omega⟩
   rw [Ai.Cr.Aw,Au,Aw4 (show (i:Int)<(x.length:Int) by omega),Aw3,Aw4 (show (0:Int)≤(i:Int) by omega),Aw9,Aw3,Aw5,
    show E6 (getD x i 0) e=true from Ae.2 ⟨hu i (by omega),At.2 he⟩,Aw3,Aw4 (by rw [Ax9,List.length_take]; unfold I5; omega),Aw3,Ao (by omega) (by omega)]
   have:=ih (i+1) F (by omega) (by omega)
   rw [Adu (by omega)] at this
   exact this
theorem Ai.Cr.known:Ai.Cr.Kn:=Ai.Cr.Ad (.cons Ac.E2.known .nil) fun x k hp=>by
 obtain ⟨h1,h2⟩:=Ae.1 hp
 have h2:=At.1 h2
 refine ⟨x.length+1,.ints (.own 100005 tB) .u64 (Bb x k),[100005],?_,.drop _ _ _ _ (List.mem_singleton.2 rfl)⟩
 rw [Ai.Cr.ev]
 exact Zt (x.length+1) h1 h2.1 h2.2 x.length 0 (x.length+1) (by omega) (by omega)
theorem Ai.Eu.known:Ai.Eu.Kn:=Ai.Eu.Ad .nil fun i _=>⟨0,Ai.Eu.out [.i i],[],by rw [Ai.Eu.ev]; rfl,.int⟩
theorem Ai.Et.known:Ai.Et.Kn:=Ai.Et.Ad (.cons Ac.Div.known .nil) fun i y d hp=>by
 obtain ⟨h1,h2⟩:=Ae.1 (show ((Cw (0≤i∧i<length y)&&Af y)&&Ah d)=true from hp)
 obtain ⟨h3,h4⟩:=Ae.1 h1
 have h3:=At.1 h3
 refine ⟨0,Ai.Et.out [.i i,.l y,.i d],[],?_,.int⟩
 rw [Ai.Et.ev,Aw4 h3.1,Aw4 h3.2,Lk h4,h2]; rfl
theorem Pm (n i:Nat) (f:Nat→Int) (h:i+1=n):I3 n f=Aoo::(List.range i).map fun j=>f (j+1):=by unfold I3; rw [show n-1=i by omega]
theorem Afz {n:Nat} (f:Nat→Int) (h:n≠0):(((decide ((0:Int)≤(n:Int)))&&(decide ((n:Int)≤(n:Int))))&&((decide ((0:Int)≤(n:Int)))&&(decide ((n:Int)≤(length (I3 n f):Int)))))=true ∧
 List.take (toNat ((n:Int)-(0:Int))) (List.drop 0 (I3 n f))=I3 n f:=by
 have:=Rt h f
 refine ⟨?_,?_⟩
 ·rw [Aw4 (by omega),Aw4 (by omega),Aw4 (by omega)]; rfl
 ·rw [List.drop_zero,List.take_of_length_le (by omega)]
theorem Xj (N:Nat) {n:Nat} (h64:n≤64) (h0:n≠0):∀ (k i F:Nat),i+1+k=n→k<F →
 Ai.row.Zero.L0 N F (n:Int) ((i+1:Nat):Int) (I3 (i+1) fun _=>0)=some (.ints .fresh .u64 (I3 n fun _=>0)):=by
 intro k
 induction k with
 | zero =>
   intro i F hi hF
   obtain ⟨F,rfl⟩:∃ G,F=G+1:=⟨F-1,by omega⟩
   obtain rfl:i+1=n:=by omega
   obtain ⟨e1,e2⟩:=Afz (fun _=>0) h0
   rw [Ai.row.Zero.Aw,Au,Aw8 (by omega),Aw7,e1,Aw3,e2]
 | succ k ih =>
   intro i F hi hF
   obtain ⟨F,rfl⟩:∃ G,F=G+1:=⟨F-1,by omega⟩
   rw [Ai.row.Zero.Aw,Au,Aw4 (by omega),Aw3,Aw4 (by rw [Rt (by omega)]; unfold I5; omega),Aw3,Ao (by omega) (by omega)]
   have:=ih (i+1) F (by omega) (by omega)
   rw [Pm (i+1+1) (i+1) _ rfl,Hs] at this
   rw [Pm (i+1) i _ rfl]
   exact this
theorem Ai.row.Zero.known:Ai.row.Zero.Kn:=Ai.row.Zero.Ad (.cons Ai.Eu.known .nil) fun n hp=>by
 have hp:=At.1 (show Cw (1≤n∧n≤64)=true from hp)
 obtain ⟨m,rfl⟩:∃ m:Nat,n=m:=⟨n.toNat,by omega⟩
 refine ⟨65,Ai.row.Zero.out [.i m],[],?_,.O5⟩
 show _=some (DV.ints .fresh .u64 (I3 (toNat (m:Int)) fun _=>0))
 rw [Ai.row.Zero.ev,Aw5]
 exact Xj 65 (by omega) (by omega) (m-1) 0 65 (by omega) (by omega)
theorem Zv (N:Nat) {n:Nat} {y:List Int} {d:Int} (h64:n≤64) (h0:n≠0) (hy:n=y.length) (al:Af y=true) (hd:Ah d=true):∀ (k i F:Nat),i+1+k=n→k<F →
 Ai.row.Div.L0 N F (n:Int) y d ((i+1:Nat):Int) (I3 (i+1) fun j=>Fp (y.getD j 0) d)=some (.ints .fresh .u64 (I3 n fun j=>Fp (y.getD j 0) d)):=by
 intro k
 induction k with
 | zero =>
   intro i F hi hF
   obtain ⟨F,rfl⟩:∃ G,F=G+1:=⟨F-1,by omega⟩
   obtain rfl:i+1=n:=by omega
   obtain ⟨e1,e2⟩:=Afz (fun j=>Fp (y.getD j 0) d) h0
   rw [Ai.row.Div.Aw,Au,Aw8 (by omega),Aw7,e1,Aw3,e2]
 | succ k ih =>
   intro i F hi hF
   obtain ⟨F,rfl⟩:∃ G,F=G+1:=⟨F-1,by omega⟩
   rw [Ai.row.Div.Aw,Au,Aw4 (by omega),Aw3,At.2 (show 0≤((i+1:Nat):Int)∧((i+1:Nat):Int)<(y.length:Int) by omega),al,hd,Aw9,Aw9,Aw3,Aw4 (by rw [Rt (by omega)]; unfold I5; omega),Aw3,Ao (by omega) (by omega),Aw5]
   have:=ih (i+1) F (by omega) (by omega)
   rw [Pm (i+1+1) (i+1) _ rfl,Hs] at this
   rw [Pm (i+1) i _ rfl]
   exact this
theorem Ai.row.Div.known:Ai.row.Div.Kn:=Ai.row.Div.Ad (.cons Ai.Et.known .nil) fun n y d hp=>by
 obtain ⟨h1,h2⟩:=Ae.1 (show ((Cw (1≤n∧n≤64∧n=length y)&&Af y)&&Ah d)=true from hp)
 obtain ⟨h3,h4⟩:=Ae.1 h1
 have h3:=At.1 h3
 obtain ⟨m,rfl⟩:∃ m:Nat,n=m:=⟨n.toNat,by omega⟩
 refine ⟨65,Ai.row.Div.out [.i m,.l y,.i d],[],?_,.O5⟩
 show _=some (DV.ints .fresh .u64 (I3 (toNat (m:Int)) fun j=>Fp (getD y j 0) d))
 rw [Ai.row.Div.ev,Aw5]
 exact Zv 65 (by omega) (by omega) (by omega) h4 h2 (m-1) 0 65 (by omega) (by omega)
theorem X8 {x:List Int} {k:Int} {j:Nat} (h:j<x.length):(Bb x k).getD j 0=B4 (x.getD j 0) k:=by
 unfold Bb
 rw [Axd,Ayk,Axk h,Axd,Axk h]; rfl
theorem Ahh (x:List Int) (k:Int):(Bb x k).length=x.length:=by unfold Bb; rw [Ax9]
theorem Ahi {x:List Int} (k:Int) (h:Af x=true):Af (Bb x k)=true:=P3 fun y hy=>by
 obtain ⟨b,hb,rfl⟩:=List.mem_map.1 hy
 exact Iq (At.1 h b hb)
theorem Aae:∀ {x:List Int},Af x=true→Ah (Mu x)=true
 | [],_=>Jr
 | b::l,h=>by
   unfold Mu
   split
   ·exact Aae (P3 fun y hy=>At.1 h y (Ax8 _ hy))
   ·exact At.1 h b Ayi
theorem Za {x:List Int} (h:Dh x=true):Af x=true:=At.2 (At.1 h).2
theorem Pg {drops:List Nat} {g:Ade}:Wk drops .nil (.ints g .u64 []):=.nil g .u64
theorem Ahq {n:Nat} {f g:Nat→Int} (h:∀ j,j<n→f j=g j):I3 n f=I3 n g:=by
 unfold I3
 congr 1
 exact List.map_congr_left fun j hj=>h _ (by have:=List.mem_range.1 hj; omega)
theorem Ai.Ik.known:Ai.Ik.Kn:=Ai.Ik.Ad (.cons compare.I9.known (.cons Ai.lead.known (.cons Ai.Cn.known (.cons (A4.alt Ai.row.Zero.known Ai.row.Div.known) (.cons Ai.Cr.known (.cons soft.Finite.known (.cons soft.E9.known (.cons soft.Sign.known (.cons Ac.Cf.known (.cons Ac.Div.known (.cons Ac.Finite.known (.cons Ac.Norm.known (.cons Ac.E2.known (.cons Ac.Sub.known .nil)))))))))))))) fun x hp=>by
 have hx:Dh x=true:=hp
 have al:=Za hx
 have he:=Ame (A6 x)
 show ∃ N dv drops,_=some dv∧Wk drops dv (DV.tup [.ints .fresh .u64 (Bw x).1,.int .u64 (Bw x).2.1,.int .u64 (Bw x).2.2.1,.int .i64 (Bw x).2.2.2])
 unfold Bw
 by_cases h1:x.length=0∨64<x.length
 ·rw [Axq h1]
  refine ⟨0,.tup [.nil,.int .u64 0,.int .u64 0,.int .i64 3],[],?_,Wk.G3 (.cons Pg (.cons .int (.cons .int (.cons .int .nil))))⟩
  have:(((length x:Int)==(0:Int))||(A0 (64:Int) (length x:Int)))=true:=by
   rw [Au,Bool.or_eq_true,beq_iff_eq,Axa]; omega
  rw [Ai.Ik.ev,this,Aw3]
 have c1:(((length x:Int)==(0:Int))||(A0 (64:Int) (length x:Int)))=false:=by
  rw [Au,Bool.or_eq_false_iff,Axy,Axm]; omega
 rw [Axp h1]
 by_cases h2:Da x=true
 ·rw [Axq h2]
  unfold Aia
  have ok1:Dh (x.drop 1)=true:=Kg (P3 fun y hy=>At.1 al y (List.mem_of_mem_drop hy)) (by rw [List.length_drop]; omega)
  have d1:decide ((1:Int)≤(x.length:Int))=true:=Aw4 (by omega)
  have d0:decide ((0:Int)<(x.length:Int))=true:=Aw4 (by omega)
  by_cases h3:F7 (x.drop 1)=true
  ·rw [Axq h3]
   refine ⟨0,.tup [.ints .fresh .u64 (I3 x.length fun _=>0),.int .u64 0,.int .u64 (x.getD 0 0),.int .i64 0],[],?_,Wk.G3 (.cons .O5 (.cons .int (.cons .int (.cons .int .nil))))⟩
   rw [Ai.Ik.ev,c1,Aw7,hx,Aw3,h2,Ax2,Aw7,d1,Aw3,ok1,Aw3,h3,Aw3,At.2 (show 1≤(x.length:Int)∧(x.length:Int)≤64 by omega),Aw3,d0,Aw3,Aw5]
  ·rw [Axp h3]
   have h3:F7 (x.drop 1)=false:=by simpa using h3
   have ew:Ab (0-Bi (A6 x))=-Bi (A6 x):=by rw [Ao (by omega) (by omega)]; omega
   have ly:=Ahh x (-Bi (A6 x))
   have ay:=Ahi (-Bi (A6 x)) al
   have oky:Dh (Bb x (-Bi (A6 x)))=true:=Kg ay (by omega)
   have gy:=X8 (x:=x) (k:=-Bi (A6 x)) (j:=0) (by omega)
   have iy:=Lk ay 0
   have key:∀ mu:Int,Uf x=mu→Ah mu=true→∀ b:Bool,Cq (Gy x)=b→∃ dv:DV,(bif (!b) then
    some (.tup [.nil,.int .u64 (0:Int),.int .u64 (0:Int),.int .i64 (2:Int)])
    else some (.tup [.ints .fresh .u64 (I3 (toNat (length (Bb x (-Bi (A6 x))):Int)) (fun j=>Fp (getD (Bb x (-Bi (A6 x))) j 0) (Dl (getD (Bb x (-Bi (A6 x))) 0 0) mu))),.int .u64 (Fp (Dl mu (getD (Bb x (-Bi (A6 x))) 0 0)) mu),.int .u64 (B4 mu (Bi (A6 x))),.int .i64 (0:Int)]))=some dv ∧
    Wk [] dv (DV.tup [.ints .fresh .u64 (if Cq (Gy x)=true then (Abz x,Ab0 x,Gy x,(0:Int)) else ([],0,0,2)).1,.int .u64 (if Cq (Gy x)=true then (Abz x,Ab0 x,Gy x,(0:Int)) else ([],0,0,2)).2.1,.int .u64 (if Cq (Gy x)=true then (Abz x,Ab0 x,Gy x,(0:Int)) else ([],0,0,2)).2.2.1,.int .i64 (if Cq (Gy x)=true then (Abz x,Ab0 x,Gy x,(0:Int)) else ([],0,0,2)).2.2.2]):=by
    intro mu hmu _ b hb
    rw [hb]
    cases b with
    | false=>exact ⟨_,rfl,Wk.G3 (.cons Pg (.cons .int (.cons .int (.cons .int .nil))))⟩
    | true =>
      refine ⟨_,rfl,?_⟩
      rw [Axq rfl]
      dsimp only
      have e1:I3 (toNat (length (Bb x (-Bi (A6 x))):Int)) (fun j=>Fp (getD (Bb x (-Bi (A6 x))) j 0) (Dl (getD (Bb x (-Bi (A6 x))) 0 0) mu))=Abz x:=by
       unfold Abz
       rw [Aw5,ly,gy,← hmu]
       exact Ahq fun j hj=>by rw [X8 hj]; rfl
      have e2:Fp (Dl mu (getD (Bb x (-Bi (A6 x))) 0 0)) mu=Ab0 x:=by
       unfold Ab0
       rw [gy,hmu]; rfl
      have e3:B4 mu (Bi (A6 x))=Gy x:=by unfold Gy; rw [hmu]
      rw [e1,e2,e3]
      exact Wk.G3 (.cons .O5 (.cons .int (.cons .int (.cons .int .nil))))
   have dz:decide ((0:Int)<((Bb x (-Bi (A6 x))).length:Int))=true:=Aw4 (by omega)
   have cz':Cw (1≤((Bb x (-Bi (A6 x))).length:Int)∧((Bb x (-Bi (A6 x))).length:Int)≤64∧True)=true:=At.2 ⟨by omega,by omega,trivial⟩
   have p1:Cw (x.length≤1000∧-2300≤-Bi (A6 x)∧-Bi (A6 x)≤2300)=true:=At.2 (by omega)
   have p2:Cw ((Bb x (-Bi (A6 x))).length≤64)=true:=At.2 (by omega)
   have sp:∀ mu:Int,Ah mu=true→E6 mu (Bi (A6 x))=true:=fun mu h=>Ae.2 ⟨h,At.2 (by omega)⟩
   have ny:=Z6 (Bb x (-Bi (A6 x)))
   cases hn:Dm (Mu x) with
   | true =>
     have hm:Uf x=D0 (Bb x (-Bi (A6 x))):=by unfold Uf; rw [Axq hn]
     obtain ⟨dv,k1,k2⟩:=key _ hm ny (Cq (Gy x)) rfl
     refine ⟨0,dv,[],?_,k2⟩
     rw [← k1]
     have eb:Gy x=B4 (D0 (Bb x (-Bi (A6 x)))) (Bi (A6 x)):=by unfold Gy; rw [hm]
     rw [Ai.Ik.ev,ew,eb]
     simp only [c1,Aw7,hx,Aw3,h2,Ax2,d1,ok1,h3,Rb,p1,oky,p2,Aw9,Aae al,hn,sp _ ny,Iq ny,dz,cz',ay,iy,ny,Nc iy ny,Nc ny iy]
   | false =>
     have hm:Uf x=Dk (D0 (Bb x (-Bi (A6 x)))):=by unfold Uf; rw [Axp (by rw [hn]; decide)]
     have my:=Ab4 ny
     obtain ⟨dv,k1,k2⟩:=key _ hm my (Cq (Gy x)) rfl
     refine ⟨0,dv,[],?_,k2⟩
     rw [← k1]
     have eb:Gy x=B4 (Dk (D0 (Bb x (-Bi (A6 x))))) (Bi (A6 x)):=by unfold Gy; rw [hm]
     rw [Ai.Ik.ev,ew,eb]
     simp only [c1,Aw7,hx,Aw3,h2,Ax2,d1,ok1,h3,Rb,p1,oky,p2,Aw9,Aae al,hn,Aym,sp _ my,Iq my,dz,cz',ay,iy,ny,my,Nc iy my,Nc my iy]
 ·rw [Axp h2]
  have h2:Da x=false:=by simpa using h2
  refine ⟨0,.tup [.nil,.int .u64 0,.int .u64 0,.int .i64 4],[],?_,Wk.G3 (.cons Pg (.cons .int (.cons .int (.cons .int .nil))))⟩
  rw [Ai.Ik.ev,c1,Aw7,hx,Aw3,h2,Aym,Aw3]
open EqHouse
def apD (i k c j a b:Nat):Bool:=decide (k≤b∧i≤a∧(b<c∨(b=c∧a<i+j)))
def apS (R C:Nat) (l:List Int) (i k:Nat) (v:List Int) (t:Int) (c j:Nat):List Int :=
 Cd R C fun a b=>if apD i k c j a b=true∧a<i+v.length then Li (C:Int) l (i:Int) (k:Int) v t (a:Int) (b:Int) else Di (C:Int) l (a:Int) (b:Int)
section
variable {R C i k:Nat} {l v:List Int} {t:Int}
theorem Aqf (c j:Nat):(apS R C l i k v t c j).length=R*C:=Br _ _ _
theorem Amz (h:l.length=R*C):apS R C l i k v t k 0=l:=by
 unfold apS
 conv=>rhs; rw [← Py h]
 refine Dq fun a b ha hb=>?_
 rw [Axp]
 rintro ⟨h,_⟩
 have:=Axt h
 omega
theorem Am0 (c:Nat):apS R C l i k v t c v.length=apS R C l i k v t (c+1) 0:=by
 unfold apS
 refine Dq fun a b ha hb=>?_
 have:(apD i k c v.length a b=true∧a<i+v.length)↔(apD i k (c+1) 0 a b=true∧a<i+v.length):=by
  unfold apD
  rw [Axa,Axa]
  omega
 by_cases h:apD i k c v.length a b=true∧a<i+v.length
 ·rw [Axq h,Axq (this.1 h)]
 ·rw [Axp h,Axp (fun hh=>h (this.2 hh))]
theorem Aqg:apS R C l i k v t C 0=F0 R C l (i:Int) (k:Int) v t:=by
 unfold apS F0
 refine Dq fun a b ha hb=>?_
 by_cases h:apD i k C 0 a b=true∧a<i+v.length
 ·rw [Axq h]
 ·rw [Axp h]
  unfold Li
  rw [Axp]
  intro hh
  refine h ⟨?_,by omega⟩
  unfold apD
  rw [Axa]; omega
theorem Aqe {c j:Nat} (hc:c<C) (hk:k≤c) (hj:j<v.length) {x:Int} (hx:x=Li (C:Int) l (i:Int) (k:Int) v t ((i+j:Nat):Int) (c:Int)) :
 List.set (apS R C l i k v t c j) ((i+j)*C+c) x=apS R C l i k v t c (j+1):=by
 unfold apS
 rw [Se hc]
 refine Dq fun a b ha hb=>?_
 by_cases h:a=i+j∧b=c
 ·obtain ⟨rfl,rfl⟩:=h
  rw [Axq ⟨rfl,rfl⟩,Axq ⟨by unfold apD; rw [Axa]; omega,by omega⟩,hx]
 ·rw [Axp h]
  have:(apD i k c j a b=true∧a<i+v.length)↔(apD i k c (j+1) a b=true∧a<i+v.length):=by
   unfold apD
   rw [Axa,Axa]
   omega
  by_cases h2:apD i k c j a b=true∧a<i+v.length
  ·rw [Axq h2,Axq (this.1 h2)]
  ·rw [Axp h2,Axp (fun hh=>h2 (this.2 hh))]
theorem Amy {c j:Nat} (hk:k≤c) (hj:j<v.length):Li (C:Int) l (i:Int) (k:Int) v t ((i+j:Nat):Int) (c:Int) =
 Dl ((Ds (C:Int) l (c:Int) (i:Int) v.length).getD j 0) (Eh (T0 (C:Int) l (i:Int) v t (c:Int)) (v.getD j 0)):=by
 unfold Li
 rw [Axq ⟨by omega,by omega,by omega⟩]
 have e1:(((i+j:Nat):Int)-(i:Int)).toNat=j:=by omega
 have e2:(Ds (C:Int) l (c:Int) (i:Int) v.length).getD j 0=Di (C:Int) l ((i+j:Nat):Int) (c:Int):=by
  unfold Ds
  rw [Axd,Ayk,List.getElem?_range hj]
  show Di (C:Int) l ((i:Int)+(j:Int)) (c:Int)=_
  rw [← Int.natCast_add]
 rw [e1,e2]
theorem Akc {c b i:Int} {l:List Int} {m n:Nat} (h:m≤n):List.take m (Ds c l b i n)=Ds c l b i m:=by
 unfold Ds
 rw [← List.map_take,List.take_range,Nat.min_eq_left h]
theorem Afj (N M0:Nat) (r6:R≤6) (c6:C≤6) (al:Af l=true) (av:Af v=true) (hv:i+v.length≤R) {c:Nat} (hc:c<C) (hk:k≤c):∀ (cnt j F:Nat),j+cnt=v.length→cnt<F →
 Ai.Apply.L1 N M0 F (R:Int) (C:Int) l (i:Int) v t (j:Int) (apS R C l i k v t c j) (c:Int) (T0 (C:Int) l (i:Int) v t (c:Int)) (Ds (C:Int) l (c:Int) (i:Int) v.length) (v.length:Int) =
 Ai.Apply.L0 N M0 (R:Int) (C:Int) l (i:Int) v t ((c+1:Nat):Int) (apS R C l i k v t (c+1) 0):=by
 intro cnt
 induction cnt with
 | zero =>
   intro j F hj hF
   obtain ⟨F,rfl⟩:∃ G,F=G+1:=⟨F-1,by omega⟩
   obtain rfl:j=v.length:=by omega
   rw [Ai.Apply.Ct,Au,Aw8 (by omega),Aw7,Ao (by omega) (by omega),Am0]
   rfl
 | succ cnt ih =>
   intro j F hj hF
   obtain ⟨F,rfl⟩:∃ G,F=G+1:=⟨F-1,by omega⟩
   have hm:=Mk (a:=((i+j:Nat):Int)) (b:=(C:Int)) (by omega) (by omega) (by omega) (by omega)
   have hpl:=H9 (show i+j<R by omega) hc
   have e1:Ab ((i:Int)+(j:Int))=((i+j:Nat):Int):=by rw [Ao (by omega) (by omega)]; omega
   have e2:Ab (((i+j:Nat):Int)*(C:Int))=(((i+j)*C:Nat):Int):=by rw [Ao (by omega) (by omega)]; exact (Axo _ _).symm
   have h36:=Axz r6 c6
   have e3:Ab ((((i+j)*C:Nat):Int)+(c:Int))=(((i+j)*C+c:Nat):Int):=by rw [Ao (by omega) (by omega)]; omega
   have hlen:=Aqf (R:=R) (C:=C) (l:=l) (i:=i) (k:=k) (v:=v) (t:=t) c j
   have sl:=Ja (C:Int) (c:Int) (i:Int) v.length l
   rw [Ai.Apply.Ct,Au,Aw4 (show (j:Int)<(v.length:Int) by omega),Aw3,e1,e2,e3,sl,Aw4 (show (0:Int)≤(j:Int) by omega),Aw4 (show (j:Int)<(v.length:Int) by omega),Aw9,Aw3,Aw5,Aw5]
   have a1:=Lk av j
   have a2:=Lk (Qo (c:=(C:Int)) (b:=(c:Int)) (i:=(i:Int)) (n:=v.length) al) j
   have a3:Ah (T0 (C:Int) l (i:Int) v t (c:Int))=true:=Kj _ _
   rw [Aw3,a3,a1,Aw9,Aw3,a2,Kj,Aw9,Aw3,Aw4 (by omega),Aw4 (by omega),Aw9,Aw3,Aw4 (by omega),Aw3,
    Aqe hc hk (by omega) (Amy hk (by omega)).symm,Ao (by omega) (by omega)]
   exact ih (j+1) F (by omega) (by omega)
theorem Afk (N:Nat) (r6:R≤6) (c6:C≤6) (hN:7<N) (hr:Ak (R:Int) (C:Int) l=true) (al:Af l=true) (av:Af v=true) (ht:Ah t=true) (hv:i+v.length≤R):∀ (cnt c F:Nat),c+cnt=C→k≤c→cnt<F →
 Ai.Apply.L0 N F (R:Int) (C:Int) l (i:Int) v t (c:Int) (apS R C l i k v t c 0) =
 some (.tup [.agg [.int .i64 (R:Int),.int .i64 (C:Int),.ints (.own 114002 tB) .u64 (F0 R C l (i:Int) (k:Int) v t)],.int .i64 (0:Int)]):=by
 intro cnt
 induction cnt with
 | zero =>
   intro c F hc hk hF
   obtain ⟨F,rfl⟩:∃ G,F=G+1:=⟨F-1,by omega⟩
   obtain rfl:c=C:=by omega
   rw [Ai.Apply.Aw,Au,Aw8 (by omega),Aw7,Aqg]
 | succ cnt ih =>
   intro c F hc hk hF
   obtain ⟨F,rfl⟩:∃ G,F=G+1:=⟨F-1,by omega⟩
   have cp:Lg (R:Int) (C:Int) l (c:Int)=true:=Ae.2 ⟨hr,At.2 (by omega)⟩
   have e0:toNat ((R:Int)-(i:Int))=R-i:=by omega
   have st:=Akc (c:=(C:Int)) (b:=(c:Int)) (i:=(i:Int)) (l:=l) (m:=v.length) (n:=R-i) (by omega)
   have sl:=Ja (C:Int) (c:Int) (i:Int) v.length l
   have sl2:=Ja (C:Int) (c:Int) (i:Int) (R-i) l
   have sa:=Qo (c:=(C:Int)) (b:=(c:Int)) (i:=(i:Int)) (n:=v.length) al
   have ft:Tu v (Ds (C:Int) l (c:Int) (i:Int) v.length)=true:=Aai.2 ⟨by omega,by omega⟩
   rw [Ai.Apply.Aw,Au,Aw4 (by omega),Aw3,cp,At.2 (show 0≤(i:Int)∧(i:Int)≤(R:Int) by omega),Aw9,Aw3,e0,Aw5,st,sl2,sl,
    Aw4 (show (0:Int)≤(v.length:Int) by omega),Aw4 (show (v.length:Int)≤(v.length:Int) by omega),Aw4 (show (v.length:Int)≤((R-i:Nat):Int) by omega),Aw9,Aw9,Aw3,ft,av,sa,Aw9,Aw9,Aw3,ht,Vk,Aw9,Aw3]
   have:=Afj (t:=t) N F r6 c6 al av hv (show c<C by omega) hk v.length 0 N (by omega) (by omega)
   exact this.trans (ih (c+1) F (by omega) (by omega) (by omega))
end
theorem Ai.Apply.known:Ai.Apply.Kn:=Ai.Apply.Ad (.cons Aa.Check.known (.cons Aa.C3.known (.cons Ac.M6.known (.cons Ac.Mul.known (.cons Ac.Sub.known .nil))))) fun r c l i k v t hp=>by
 obtain ⟨h1,ht⟩:=Ae.1 (show (((Ak r c l&&Md r c i k v)&&(Af l&&Af v))&&Ah t)=true from hp)
 obtain ⟨h2,h3⟩:=Ae.1 h1
 obtain ⟨hr,hb⟩:=Ae.1 h2
 obtain ⟨al,av⟩:=Ae.1 h3
 have hb:=Axt hb
 have hc:Jo r c l=0:=by unfold Jo; rw [Axq hr]
 have h36:=Mm hr
 obtain ⟨R,C,rfl,rfl,r6,c6,hl⟩:=C2 hr
 obtain ⟨i,rfl⟩:∃ j:Nat,i=j:=⟨i.toNat,by omega⟩
 obtain ⟨k,rfl⟩:∃ j:Nat,k=j:=⟨k.toNat,by omega⟩
 refine ⟨8,Ai.Apply.out [.i (R:Int),.i (C:Int),.l l,.i (i:Int),.i (k:Int),.l v,.i t],[],?_,Wk.G3 (.cons (Wk.H5 (.cons .int (.cons .int (.cons (.keep _ _ _ _ List.not_mem_nil) .nil)))) (.cons .int .nil))⟩
 show _=some (DV.tup [.agg [.int .i64 (R:Int),.int .i64 (C:Int),.ints (.own 114002 tB) .u64 (F0 (toNat (R:Int)) (toNat (C:Int)) l (i:Int) (k:Int) v t)],.int .i64 0])
 have hlt:(((((A0 (i:Int) (0:Int))||(A0 (R:Int) (length v:Int)))||(A0 (Ab ((R:Int)-(length v:Int))) (i:Int)))||(A0 (k:Int) (0:Int)))||(A0 (C:Int) (k:Int)))=false:=by
  rw [Au,Au,Au,Au,Au,Ao (by omega) (by omega),Aw8 (by omega),Aw8 (by omega),Aw8 (by omega),Aw8 (by omega),Aw8 (by omega)]; rfl
 rw [Ai.Apply.ev,hc,show ((0:Int) !=(0:Int))=false from rfl,Aw7,hlt,Aw7,Aw4 (show 0+l.length≤I5 by unfold I5; omega),Aw3,List.nil_append,Aw5,Aw5]
 have:=Afk (R:=R) (C:=C) (i:=i) (k:=k) (l:=l) (v:=v) (t:=t) 8 r6 c6 (by omega) hr al av ht (by omega) (C-k) k 8 (by omega) (by omega) (by omega)
 rw [Amz hl] at this
 exact this
namespace EqSol
def solve.check.hint:Nat→Option A5
 | 0=>some { keep:=[2,3,11,12],objs:=[],boxes:=[2,3] }
 | 2=>some { keep:=[2,34,35],objs:=[],boxes:=[2] }
 | _=>none
def solve.check.A8:List (Nat × Entry):=[(86,B6.Check.spec),(155,soft.Kind.spec)]
def solve.check.E:Env:=Ba (A7 solve.check.A8) (fun _=>false) solve.check.hint (fun _=>none)
section
variable (N M:Nat) (r c:Int) (l:List Int) (p q:Int) (m:List Int) (p35:Int)
def solve.check.L0:Option DV:=Cc solve.check.E N f75 (Ap f75) [1,1,1,0,1,0] [] M ⟨He 51 [(2,.ptr 2 0 0),(34,.int .i64 r),(35,.int .i64 p35)],[(2,false,.box [.int .i64 r,.int .i64 c,.ints .arg .u64 l])]⟩
theorem solve.check.Aw:solve.check.L0 (N+4) (M+1) r c l p35=bif (A0 p35 r) then bif ((decide (0≤(Ab ((Ab (p35*c))+p35))))&&(decide ((Ab ((Ab (p35*c))+p35))<(length l:Int)))) then bif (Ah (getD l (toNat (Ab ((Ab (p35*c))+p35))) 0)) then bif ((Av (getD l (toNat (Ab ((Ab (p35*c))+p35))) 0))==(0:Int)) then some (.int .i64 5) else solve.check.L0 (N+4) M r c l (Ab (p35+1)) else none else none else some (.int .i64 0):=by kernel_rfl
theorem solve.check.ev:B0 solve.check.E (N+4) f75 (Ap f75) [.agg [.int .i64 r,.int .i64 c,.ints .arg .u64 l],.agg [.int .i64 p,.int .i64 q,.ints .arg .u64 m]]=bif (Af l) then bif ((Bo r c l) !=(0:Int)) then some (.int .i64 (Bo r c l)) else bif (Af m) then bif ((Bo p q m) !=(0:Int)) then some (.int .i64 (Bo p q m)) else bif ((r !=c)||(r !=p)) then some (.int .i64 3) else solve.check.L0 (N+4) (N+4) r c l (0:Int) else none else none :=
 Eq.trans (by kernel_rfl)
 (Ev (Ev rfl (Ev (Ev rfl (An (S4 (r !=c)) (An (Oi (r !=c)) (An (S4 (r !=c)) (An (Oi (r !=c)) (An (tt8 (r !=c)) (An (Zk (r !=c)) (Dw (tt5 (r !=c) (r !=p)) rfl rfl)))))))) rfl)) rfl)
end
abbrev _root_.Go.Proofs.S1.solve.check.Kn:=A4 prog 75 solve.check.spec
theorem solve.check.Ad (hk:Ay prog solve.check.A8) (h:Hyp solve.check.E f75 solve.check.ts solve.check.pre solve.check.out):solve.check.Kn :=
 Al (A1 hk _ _ _) func75 (by kernel_rfl) (by kernel_rfl) h
def Ci.Ch.up.A8:List (Nat × Entry):=[]
def Ci.Ch.up.E:Env:=Ba (A7 Ci.Ch.up.A8) (fun _=>false) (fun _=>none) (fun _=>none)
theorem Ci.Ch.up.ev (N:Nat) (n k:Int):B0 Ci.Ch.up.E N f103 (Ap f103) [.int .i64 n,.int .i64 k]=some (.int .i64 (Ab ((Ab (n-1))-k))):=by kernel_rfl
abbrev _root_.Go.Proofs.S1.Ci.Ch.up.Kn:=A4 prog 103 Ci.Ch.up.spec
theorem Ci.Ch.up.Ad (hk:Ay prog Ci.Ch.up.A8) (h:Hyp Ci.Ch.up.E f103 Ci.Ch.up.ts Ci.Ch.up.pre Ci.Ch.up.out):Ci.Ch.up.Kn :=
 Al (A1 hk _ _ _) func103 (by kernel_rfl) (by kernel_rfl) h
def solve.Dt.A8:List (Nat × Entry):=[]
def solve.Dt.E:Env:=Ba (A7 solve.Dt.A8) (fun _=>false) (fun _=>none) (fun _=>none)
theorem solve.Dt.ev (N:Nat) (i k:Int):B0 solve.Dt.E N f104 (Ap f104) [.int .i64 i,.int .i64 k]=some (.bool (A0 i k)):=by kernel_rfl
abbrev _root_.Go.Proofs.S1.solve.Dt.Kn:=A4 prog 104 solve.Dt.spec
theorem solve.Dt.Ad (hk:Ay prog solve.Dt.A8) (h:Hyp solve.Dt.E f104 solve.Dt.ts solve.Dt.pre solve.Dt.out):solve.Dt.Kn :=
 Al (A1 hk _ _ _) func104 (by kernel_rfl) (by kernel_rfl) h
def Aa.of.B2.own.hint:Nat→Option A5
 | 0=>some { keep:=[1,2,6,7,13,14],objs:=[(8,2,108002,.ints 37 .u64 [])],boxes:=[6,7] }
 | 2=>some { keep:=[1,2,6,7,8,13,14,17,18],objs:=[(8,2,108002,.ints 37 .u64 [])],boxes:=[6,7] }
 | _=>none
def Aa.of.B2.own.A8:List (Nat × Entry):=[(205,Aa.Dn.spec)]
def Aa.of.B2.own.E:Env:=Ba (A7 Aa.of.B2.own.A8) (fun _=>false) Aa.of.B2.own.hint (fun _=>none)
abbrev _root_.Go.Proofs.S1.Aa.of.B2.own.Kn:=A4 prog 187 Aa.of.B2.own.spec
theorem Aa.of.B2.own.Ad (hk:Ay prog Aa.of.B2.own.A8) (h:Hyp Aa.of.B2.own.E f187 Aa.of.B2.own.ts Aa.of.B2.own.pre Aa.of.B2.own.out):Aa.of.B2.own.Kn :=
 Al (A1 hk _ _ _) func187 (by kernel_rfl) (by kernel_rfl) h
def Aa.B2.own.A8:List (Nat × Entry):=[(187,Aa.of.B2.own.spec),(204,Aa.size.spec)]
def Aa.B2.own.E:Env:=Ba (A7 Aa.B2.own.A8) (fun n=>Nat.beq n 17) (fun _=>none) (fun _=>none)
theorem Aa.B2.own.ev (N:Nat) (a b:Int):B0 Aa.B2.own.E N f151 (Ap f151) [.int .i64 a,.int .i64 b]=bif ((!(Bj a))||(!(Bj b))) then some (.tup [.agg [.int .i64 0,.int .i64 0,.nil],.int .i64 3]) else bif (Bj a&&Bj b) then some (.tup [.agg [.int .i64 a,.int .i64 b,.ints (.own 1136 37) .u64 (Cd (toNat a) (toNat b) (fun _ _=>0))],.int .i64 0]) else none :=
 Eq.trans (by kernel_rfl)
 (An (Adq (Bj a)) (An (Uv (Bj a)) (An (Uv (Bj a)) (An (Adr (Bj a)) (Dw (Arp (Bj a) (Bj b)) rfl rfl)))))
abbrev _root_.Go.Proofs.S1.Aa.B2.own.Kn:=A4 prog 151 Aa.B2.own.spec
theorem Aa.B2.own.Ad (hk:Ay prog Aa.B2.own.A8) (h:Hyp Aa.B2.own.E f151 Aa.B2.own.ts Aa.B2.own.pre Aa.B2.own.out):Aa.B2.own.Kn :=
 Al (A1 hk _ _ _) func151 (by kernel_rfl) (by kernel_rfl) h
def solve.Aq.Up.hint:Nat→Option A5
 | 0=>some { keep:=[2,3,4,5,8,10,11,28,29],objs:=[(12,2,112002,.ints 37 .u64 [])],boxes:=[4,5,8,11] }
 | 2=>some { keep:=[2,3,4,5,8,10,11,13,28,29,32,33],objs:=[(12,2,112002,.ints 37 .u64 [])],boxes:=[4,5,8,11] }
 | 4=>some { keep:=[2,3,4,5,8,10,11,13,15,16,28,29,32,33,49,50],objs:=[(12,2,112002,.ints 37 .u64 [])],boxes:=[4,5,8,11] }
 | _=>none
def solve.Aq.Up.A8:List (Nat × Entry):=[(103,Ci.Ch.up.spec),(151,Aa.B2.own.spec),(104,solve.Dt.spec),(158,Ac.Div.spec),(150,Ac.Finite.spec),(157,Ac.Mul.spec),(156,Ac.Sub.spec)]
def solve.Aq.Up.E:Env:=Ba (A7 solve.Aq.Up.A8) (fun n=>Nat.beq n 24) solve.Aq.Up.hint (fun _=>none)
section
variable (N M0 M1 M:Nat) (r c:Int) (l:List Int) (p q:Int) (m:List Int) (n p16 p50 p13_1 p15 p29_2 p33_1:Int) (p2_1:List Int) (p33:Int) (p2:List Int) (p13 p29_1 p29:Int) (p2_2:List Int)
def solve.Aq.Up.L0:Option DV:=Cc solve.Aq.Up.E N f76 (Ap f76) [1,1,1,0,1,0] [] M ⟨He 108 [(2,.fn 103 [.int .i64 n] []),(3,.fn 104 [] []),(4,.ptr 4 0 0),(5,.ptr 5 0 0),(8,.ptr 8 0 0),(10,.int .i64 r),(11,.ptr 11 0 0),(28,.int .i64 q),(29,.int .i64 p29)],[(4,false,.box [.int .i64 r,.int .i64 c,.ints .arg .u64 l]),(5,false,.box [.int .i64 p,.int .i64 q,.ints .arg .u64 m]),(8,false,.box [.int .i64 0,.int .i64 0,.nil]),(11,false,.box [.int .i64 r,.int .i64 q,.oref 112002]),(112002,false,.ints 37 .u64 p2_2)]⟩
def solve.Aq.Up.L1:Option DV:=Cc solve.Aq.Up.E N f76 (Ap f76) [1,1,1,0,1,0,0,1,1,0,0,1,0,1,1,0] [M0] M ⟨He 108 [(2,.fn 103 [.int .i64 n] []),(3,.fn 104 [] []),(4,.ptr 4 0 0),(5,.ptr 5 0 0),(8,.ptr 8 0 0),(10,.int .i64 r),(11,.ptr 11 0 0),(13,.int .i64 p13),(28,.int .i64 q),(29,.int .i64 p29_1),(32,.int .i64 r),(33,.int .i64 p33)],[(4,false,.box [.int .i64 r,.int .i64 c,.ints .arg .u64 l]),(5,false,.box [.int .i64 p,.int .i64 q,.ints .arg .u64 m]),(8,false,.box [.int .i64 0,.int .i64 0,.nil]),(11,false,.box [.int .i64 r,.int .i64 q,.oref 112002]),(112002,false,.ints 37 .u64 p2)]⟩
def solve.Aq.Up.L2:Option DV:=Cc solve.Aq.Up.E N f76 (Ap f76) [1,1,1,0,1,0,0,1,1,0,0,1,0,1,1,0,0,1,1,0,0,1,1,1,0,1,0] [M0,M1] M ⟨He 108 [(2,.fn 103 [.int .i64 n] []),(3,.fn 104 [] []),(4,.ptr 4 0 0),(5,.ptr 5 0 0),(8,.ptr 8 0 0),(10,.int .i64 r),(11,.ptr 11 0 0),(13,.int .i64 p13_1),(15,.int .i64 p15),(16,.int .u64 p16),(28,.int .i64 q),(29,.int .i64 p29_2),(32,.int .i64 r),(33,.int .i64 p33_1),(49,.int .i64 r),(50,.int .i64 p50)],[(4,false,.box [.int .i64 r,.int .i64 c,.ints .arg .u64 l]),(5,false,.box [.int .i64 p,.int .i64 q,.ints .arg .u64 m]),(8,false,.box [.int .i64 0,.int .i64 0,.nil]),(11,false,.box [.int .i64 r,.int .i64 q,.oref 112002]),(112002,false,.ints 37 .u64 p2_1)]⟩
theorem solve.Aq.Up.Aw:solve.Aq.Up.L0 N (M+1) r c l p q m n p29 p2_2=bif (A0 p29 q) then solve.Aq.Up.L1 N M N r c l p q m n 0 p2_2 p29 p29 else bif (Dh p2_2) then bif (!(Da p2_2)) then some (.tup [.agg [.int .i64 0,.int .i64 0,.nil],.int .i64 2]) else some (.tup [.agg [.int .i64 r,.int .i64 q,.ints (.own 112002 37) .u64 p2_2],.int .i64 0]) else none:=by kernel_rfl
theorem solve.Aq.Up.Ct:solve.Aq.Up.L1 N M0 (M+1) r c l p q m n p33 p2 p13 p29_1=bif (A0 p33 r) then bif (Cw (0≤p33∧p33<n∧n≤10)) then bif ((decide (0≤(Ab ((Ab ((n-1-p33)*q))+p13))))&&(decide ((Ab ((Ab ((n-1-p33)*q))+p13))<(length m:Int)))) then solve.Aq.Up.L2 N M0 M N r c l p q m n (getD m (toNat (Ab ((Ab ((n-1-p33)*q))+p13))) 0) 0 p13 (n-1-p33) p29_1 p33 p2 else none else none else solve.Aq.Up.L0 N M0 r c l p q m n (Ab (p29_1+1)) p2:=by kernel_rfl
theorem solve.Aq.Up.Jt:solve.Aq.Up.L2 N M0 M1 (M+1) r c l p q m n p16 p50 p13_1 p15 p29_2 p33_1 p2_1=bif (A0 p50 r) then bif (decide (p15<p50)) then bif ((decide (0≤(Ab ((Ab (p15*r))+p50))))&&(decide ((Ab ((Ab (p15*r))+p50))<(length l:Int)))) then bif ((decide (0≤(Ab ((Ab (p50*q))+p13_1))))&&(decide ((Ab ((Ab (p50*q))+p13_1))<(length p2_1:Int)))) then bif (decide ((toNat (Ab ((Ab (p50*q))+p13_1)))<(length p2_1))) then bif (Ah (getD l (toNat (Ab ((Ab (p15*r))+p50))) 0)&&Ah (getD p2_1 (toNat (Ab ((Ab (p50*q))+p13_1))) 0)) then bif (Ah p16&&Ah (Eh (getD l (toNat (Ab ((Ab (p15*r))+p50))) 0) (getD p2_1 (toNat (Ab ((Ab (p50*q))+p13_1))) 0))) then solve.Aq.Up.L2 N M0 M1 M r c l p q m n (Dl p16 (Eh (getD l (toNat (Ab ((Ab (p15*r))+p50))) 0) (getD p2_1 (toNat (Ab ((Ab (p50*q))+p13_1))) 0))) (Ab (p50+1)) p13_1 p15 p29_2 p33_1 p2_1 else none else none else none else none else none else solve.Aq.Up.L2 N M0 M1 M r c l p q m n p16 (Ab (p50+1)) p13_1 p15 p29_2 p33_1 p2_1 else bif ((decide (0≤(Ab ((Ab (p15*r))+p15))))&&(decide ((Ab ((Ab (p15*r))+p15))<(length l:Int)))) then bif (Ah p16&&Ah (getD l (toNat (Ab ((Ab (p15*r))+p15))) 0)) then bif ((decide (0≤(Ab ((Ab (p15*q))+p13_1))))&&(decide ((Ab ((Ab (p15*q))+p13_1))<(length p2_1:Int)))) then bif (decide ((toNat (Ab ((Ab (p15*q))+p13_1)))<(length p2_1))) then solve.Aq.Up.L1 N M0 M1 r c l p q m n (Ab (p33_1+1)) (List.set p2_1 (toNat (Ab ((Ab (p15*q))+p13_1))) (Fp p16 (getD l (toNat (Ab ((Ab (p15*r))+p15))) 0))) p13_1 p29_2 else none else none else none else none :=
 Eq.trans (by kernel_rfl)
 (Ev (Ev (Dw (M9 (decide (0≤(Ab ((Ab (p15*r))+p50)))) (decide ((Ab ((Ab (p15*r))+p50))<(length l:Int)))) (Dw (M9 (decide (0≤(Ab ((Ab (p50*q))+p13_1)))) (decide ((Ab ((Ab (p50*q))+p13_1))<(length p2_1:Int)))) (Dw (E4 (decide ((toNat (Ab ((Ab (p50*q))+p13_1)))<(length p2_1)))) (Dw (E4 (Ah (getD l (toNat (Ab ((Ab (p15*r))+p50))) 0)&&Ah (getD p2_1 (toNat (Ab ((Ab (p50*q))+p13_1))) 0))) (Dw (E4 (Ah p16&&Ah (Eh (getD l (toNat (Ab ((Ab (p15*r))+p50))) 0) (getD p2_1 (toNat (Ab ((Ab (p50*q))+p13_1))) 0)))) rfl rfl) rfl) rfl) rfl) rfl) rfl) (Dw (M9 (decide (0≤(Ab ((Ab (p15*r))+p15)))) (decide ((Ab ((Ab (p15*r))+p15))<(length l:Int)))) (Dw (E4 (Ah p16&&Ah (getD l (toNat (Ab ((Ab (p15*r))+p15))) 0))) (Dw (M9 (decide (0≤(Ab ((Ab (p15*q))+p13_1)))) (decide ((Ab ((Ab (p15*q))+p13_1))<(length p2_1:Int)))) (Dw (E4 (decide ((toNat (Ab ((Ab (p15*q))+p13_1)))<(length p2_1)))) rfl rfl) rfl) rfl) rfl))
theorem solve.Aq.Up.ev:B0 solve.Aq.Up.E N f76 (Ap f76) [.agg [.int .i64 r,.int .i64 c,.ints .arg .u64 l],.agg [.int .i64 p,.int .i64 q,.ints .arg .u64 m],.fn 103 [.int .i64 n] [],.fn 104 [] []]=bif (Bj r&&Bj q) then solve.Aq.Up.L0 N N r c l p q m n 0 (Cd (toNat r) (toNat q) (fun _ _=>0)) else none:=by kernel_rfl
end
abbrev _root_.Go.Proofs.S1.solve.Aq.Up.Kn:=A4 prog 76 solve.Aq.Up.spec
theorem solve.Aq.Up.Ad (hk:Ay prog solve.Aq.Up.A8) (h:Hyp solve.Aq.Up.E f76 solve.Aq.Up.ts solve.Aq.Up.pre solve.Aq.Up.out):solve.Aq.Up.Kn :=
 Al (A1 hk _ _ _) func76 (by kernel_rfl) (by kernel_rfl) h
def solve.Gi.A8:List (Nat × Entry):=[(75,solve.check.spec),(76,solve.Aq.Up.spec)]
def solve.Gi.E:Env:=Ba (A7 solve.Gi.A8) (fun _=>false) (fun _=>none) (fun _=>none)
theorem solve.Gi.ev (N:Nat) (r c:Int) (l:List Int) (p q:Int) (m:List Int):B0 solve.Gi.E N f36 (Ap f36) [.agg [.int .i64 r,.int .i64 c,.ints .arg .u64 l],.agg [.int .i64 p,.int .i64 q,.ints .arg .u64 m]]=bif (Af l&&Af m) then bif ((Nw r c l p q m) !=(0:Int)) then some (.tup [.agg [.int .i64 0,.int .i64 0,.nil],.int .i64 (Nw r c l p q m)]) else bif (Oj r c l p q m&&decide (r=r)) then some (.tup [.agg [.int .i64 ((Jn r q (upG c l q m (toNat r) (toNat q))).1),.int .i64 ((Jn r q (upG c l q m (toNat r) (toNat q))).2.1),.ints .fresh .u64 ((Jn r q (upG c l q m (toNat r) (toNat q))).2.2.1)],.int .i64 ((Jn r q (upG c l q m (toNat r) (toNat q))).2.2.2)]) else none else none:=by kernel_rfl
abbrev _root_.Go.Proofs.S1.solve.Gi.Kn:=A4 prog 36 solve.Gi.spec
theorem solve.Gi.Ad (hk:Ay prog solve.Gi.A8) (h:Hyp solve.Gi.E f36 solve.Gi.ts solve.Gi.pre solve.Gi.out):solve.Gi.Kn :=
 Al (A1 hk _ _ _) func36 (by kernel_rfl) (by kernel_rfl) h
def solve.Flat.hint:Nat→Option A5
 | 0=>some { keep:=[1,5,6],objs:=[(0,5,100005,.ints 37 .u64 [])],boxes:=[1] }
 | 2=>some { keep:=[7,44,45,46],objs:=[(0,44,100044,.ints 37 .u64 [])],boxes:=[] }
 | _=>none
def solve.Flat.A8:List (Nat × Entry):=[(86,B6.Check.spec),(87,compare.Sy.spec),(90,compare.Jq.spec),(89,Ac.Cf.spec),(88,Ac.E2.spec)]
def solve.Flat.E:Env:=Ba (A7 solve.Flat.A8) (fun _=>false) solve.Flat.hint (fun _=>none)
section
variable (N M:Nat) (r c:Int) (l:List Int) (p6:Int) (p5:List Int) (p46:Int)
def solve.Flat.L0:Option DV:=Cc solve.Flat.E N f24 (Ap f24) [1,1,1,0,1,0] [] M ⟨He 55 [(1,.ptr 1 0 0),(5,.oref 100005),(6,.int .i64 p6)],[(1,false,.box [.int .i64 r,.int .i64 c,.ints .arg .u64 l]),(100005,false,.ints 37 .u64 p5)]⟩
def solve.Flat.L1:Option DV:=Cc solve.Flat.E N f24 (Ap f24) [1,1,1,1,1,0,1,0] [] M ⟨He 55 [(7,.int .u64 (B4 (A6 p5) (-40:Int))),(44,.oref 100044),(45,.int .i64 (length p5:Int)),(46,.int .i64 p46)],[(100044,false,.ints 37 .u64 p5)]⟩
theorem solve.Flat.Aw:solve.Flat.L0 N (M+1) r c l p6 p5=bif ((A0 p6 r)&&(A0 p6 c)) then bif ((decide (0≤(Ab ((Ab (p6*c))+p6))))&&(decide ((Ab ((Ab (p6*c))+p6))<(length l:Int)))) then bif (Ah (getD l (toNat (Ab ((Ab (p6*c))+p6))) 0)) then bif (decide ((length p5)+1≤I5)) then solve.Flat.L0 N M r c l (Ab (p6+1)) (p5++[(Tp (getD l (toNat (Ab ((Ab (p6*c))+p6))) 0))]) else none else none else none else bif (Dh p5) then bif (E6 (A6 p5) (-40:Int)) then solve.Flat.L1 N N p5 (0:Int) else none else none :=
 Eq.trans (by kernel_rfl)
 (An (N4 (A0 p6 r)) (An (N4 (A0 p6 r)) (An (Na (A0 p6 r)) (An (Ads (A0 p6 r)) (An (T6 (A0 p6 r)) (Dw (tt1 (A0 p6 r) (A0 p6 c)) rfl rfl))))))
theorem solve.Flat.Ct:solve.Flat.L1 N (M+1) p5 p46=bif (A0 p46 (length p5:Int)) then bif ((decide (0≤p46))&&(decide (p46<(length p5:Int)))) then bif (decide ((toNat p46)<(length p5))) then bif (Ah (B4 (A6 p5) (-40:Int))&&Ah (getD p5 (toNat p46) 0)) then bif (!(decide (Xm (B4 (A6 p5) (-40:Int)) (getD p5 (toNat p46) 0)<0))) then some (.tup [.bool true,.int .i64 0]) else solve.Flat.L1 N M p5 (Ab (p46+1)) else none else none else none else some (.tup [.bool false,.int .i64 0]):=by kernel_rfl
theorem solve.Flat.ev:B0 solve.Flat.E N f24 (Ap f24) [.agg [.int .i64 r,.int .i64 c,.ints .arg .u64 l]]=bif (Af l) then bif ((Bo r c l) !=(0:Int)) then some (.tup [.bool false,.int .i64 (Bo r c l)]) else solve.Flat.L0 N N r c l 0 [] else none:=by kernel_rfl
end
abbrev _root_.Go.Proofs.S1.solve.Flat.Kn:=A4 prog 24 solve.Flat.spec
theorem solve.Flat.Ad (hk:Ay prog solve.Flat.A8) (h:Hyp solve.Flat.E f24 solve.Flat.ts solve.Flat.pre solve.Flat.out):solve.Flat.Kn :=
 Al (A1 hk _ _ _) func24 (by kernel_rfl) (by kernel_rfl) h
end EqSol
open EqSol
theorem solve.Dt.known:solve.Dt.Kn:=solve.Dt.Ad .nil fun i k _=>by
 refine ⟨0,solve.Dt.out [.i i,.i k],[],?_,.bool⟩
 rw [solve.Dt.ev,Au]; rfl
theorem Akr.known:Ci.Ch.up.Kn:=Ci.Ch.up.Ad .nil fun n k hp=>by
 have hp:=At.1 (show Cw (0≤k∧k<n∧n≤10)=true from hp)
 refine ⟨0,Ci.Ch.up.out [.i n,.i k],[],?_,.int⟩
 rw [Ci.Ch.up.ev,Ao (x:=n-1) (by omega) (by omega),Ao (by omega) (by omega)]; rfl
theorem Aa.of.B2.own.known:Aa.of.B2.own.Kn:=Aa.of.B2.own.Ad (.cons Aa.Dn.known .nil) fun a b hp=>by
 have h1:(Bj a&&Bj b)=true:=hp
 obtain ⟨ha,hb⟩:=Ae.1 h1
 obtain ⟨A,rfl,hA⟩:=F6 ha
 obtain ⟨B,rfl,hB⟩:=F6 hb
 refine ⟨8,.agg [.int .i64 (A:Int),.int .i64 (B:Int),.ints (.own 108002 tB) .u64 (Cd A B fun (i j:Nat)=>(0:Int))],[],?_,Wk.H5 (.cons .int (.cons .int (.cons (.keep _ _ _ _ List.not_mem_nil) .nil)))⟩
 have n:=of.B2.outer 8 hA hB (by omega) (F:=fun (i j:Nat)=>(0:Int)) (fun _ _=>rfl) A 0 8 (by omega) (by omega)
 rw [Jk] at n
 exact (EqOf.Aa.of.B2.ev 8 (A:Int) (B:Int)).trans n
theorem Aa.B2.own.known:Aa.B2.own.Kn:=Aa.B2.own.Ad (.cons Aa.of.B2.own.known (.cons Aa.size.known .nil)) fun a b hp=>by
 have hp:(Bj a&&Bj b)=true:=hp
 obtain ⟨ha,hb⟩:=Ae.1 hp
 refine ⟨0,Aa.B2.own.out [.i a,.i b],[],?_,?_⟩
 ·rw [Aa.B2.own.ev,ha,hb]; rfl
 ·exact Wk.G3 (.cons (Wk.H5 (.cons .int (.cons .int (.cons (.keep _ _ _ _ List.not_mem_nil) .nil)))) (.cons .int .nil))
section
variable {n Q:Nat} {l m:List Int}
def upF (n Q:Nat) (l m:List Int) (i j:Nat):Int:=(Zh (n:Int) l (fun i=>Di (Q:Int) m (i:Int) (j:Int)) n n).getD i 0
def upD (n j k a b:Nat):Bool:=decide (b<j∨(b=j∧n-k≤a))
def T5 (n Q:Nat) (l m:List Int) (j k:Nat):List Int:=Cd n Q fun a b=>if upD n j k a b=true then upF n Q l m a b else 0
theorem Ajq (i j:Nat):Ah (upF n Q l m i j)=true:=Sf (Adm _ _ _ _ _) i
theorem Aq9 (j k:Nat):Af (T5 n Q l m j k)=true:=Gv fun a b=>by
 split
 ·exact Ajq _ _
 ·exact B3 (n:=0) (by decide)
theorem Ann {j k t:Nat} (ht:t<n) (hj:j<Q) (hk:n-k≤t):Di (Q:Int) (T5 n Q l m j k) (t:Int) (j:Int)=upF n Q l m t j:=by
 unfold T5
 have hd:upD n j k t j=true:=Aw4 (.inr ⟨rfl,hk⟩)
 rw [Pz ht hj,hd,Axq rfl]
theorem Zg (j k:Nat):(T5 n Q l m j k).length=n*Q:=Br _ _ _
theorem Ajm (N:Nat) (n6:n≤6) (q6:Q≤6) (hl:l.length=n*n) (al:Af l=true) {i j k:Nat} (hi:i+k+1=n) (hj:j<Q) (M0 M1:Nat) (p29 p33:Int) :
 ∀ (cnt t F:Nat) (s:Int),t+cnt=n→cnt<F→i+1≤t→Ah s=true →
 solve.Aq.Up.L2 N M0 M1 F (n:Int) (n:Int) l (n:Int) (Q:Int) m (n:Int) s (t:Int) (j:Int) (i:Int) p29 p33 (T5 n Q l m j k) =
 solve.Aq.Up.L1 N M0 M1 (n:Int) (n:Int) l (n:Int) (Q:Int) m (n:Int) (Ab (p33+(1:Int))) (List.set (T5 n Q l m j k) (toNat ((i:Int)*(Q:Int)+(j:Int))) (Fp (Mt (n:Int) l (i:Int) s (t:Int) ((Zh (n:Int) l (fun i=>Di (Q:Int) m (i:Int) (j:Int)) n n).drop t)) (Di (n:Int) l (i:Int) (i:Int)))) (j:Int) p29:=by
 intro cnt
 induction cnt with
 | zero =>
   intro t F s ht hF hit hs
   obtain ⟨F,rfl⟩:∃ G,F=G+1:=⟨F-1,by omega⟩
   obtain ⟨e1,g1,g2⟩:=Hi (R:=(n:Int)) (F8 n6 n6 hl (show i<n by omega) (show i<n by omega))
   obtain ⟨e2,g3,g4⟩:=Hi (R:=(n:Int)) (F8 n6 q6 (Zg (l:=l) (m:=m) j k) (show i<n by omega) hj)
   rw [Axh (by rw [Qn]; omega),Mt]
   rw [solve.Aq.Up.Jt,Au,Aw8 (show ¬ (t:Int)<(n:Int) by omega),Aw7,e1,Aw4 g1,Aw4 g2,Aw9,Aw3,hs,show Ah (getD l (toNat ((i:Int)*(n:Int)+(i:Int))) 0)=true from Ha (c:=(n:Int)) al,Aw9,Aw3,
    e2,Aw4 g3,Aw4 g4,Aw9,Aw3,Aw4 (show toNat ((i:Int)*(Q:Int)+(j:Int))<(T5 n Q l m j k).length by omega),Aw3]
   rfl
 | succ cnt ih =>
   intro t F s ht hF hit hs
   obtain ⟨F,rfl⟩:∃ G,F=G+1:=⟨F-1,by omega⟩
   obtain ⟨e1,g1,g2⟩:=Hi (R:=(n:Int)) (F8 n6 n6 hl (show i<n by omega) (show t<n by omega))
   obtain ⟨e2,g3,g4⟩:=Hi (R:=(n:Int)) (F8 n6 q6 (Zg (l:=l) (m:=m) j k) (show t<n by omega) hj)
   have hx:getD (T5 n Q l m j k) (toNat ((t:Int)*(Q:Int)+(j:Int))) 0=upF n Q l m t j:=Ann (by omega) hj (by omega)
   rw [solve.Aq.Up.Jt,Au,Aw4 (show (t:Int)<(n:Int) by omega),Aw3,Aw4 (show (i:Int)<(t:Int) by omega),Aw3,e1,Aw4 g1,Aw4 g2,Aw9,Aw3,
    e2,Aw4 g3,Aw4 g4,Aw9,Aw3,Aw4 (show toNat ((t:Int)*(Q:Int)+(j:Int))<(T5 n Q l m j k).length by omega),Aw3,hx,
    show Ah (getD l (toNat ((i:Int)*(n:Int)+(t:Int))) 0)=true from Ha (c:=(n:Int)) al,Ajq,Aw9,Aw3,hs,Kj,Aw9,Aw3,Ao (x:=(t:Int)+1) (by omega) (by omega)]
   have:=ih (t+1) F (Dl s (Eh (Di (n:Int) l (i:Int) (t:Int)) (upF n Q l m t j))) (by omega) (by omega) (by omega) (Nc hs (Kj _ _))
   rw [Yq (by rw [Qn]; omega)]
   exact this
theorem Anh (N:Nat) (n6:n≤6) {i j k:Nat} (hi:i<n) (M0 M1:Nat) (p29 p33 s:Int):∀ (cnt t F:Nat),t+cnt=i+1 →
 solve.Aq.Up.L2 N M0 M1 (F+cnt) (n:Int) (n:Int) l (n:Int) (Q:Int) m (n:Int) s (t:Int) (j:Int) (i:Int) p29 p33 (T5 n Q l m j k) =
 solve.Aq.Up.L2 N M0 M1 F (n:Int) (n:Int) l (n:Int) (Q:Int) m (n:Int) s ((i+1:Nat):Int) (j:Int) (i:Int) p29 p33 (T5 n Q l m j k):=by
 intro cnt
 induction cnt with
 | zero =>
   intro t F ht
   obtain rfl:t=i+1:=by omega
   rfl
 | succ cnt ih =>
   intro t F ht
   rw [← Nat.add_assoc,solve.Aq.Up.Jt,Au,Aw4 (show (t:Int)<(n:Int) by omega),Aw3,Aw8 (show ¬ (i:Int)<(t:Int) by omega),Aw7,Ao (by omega) (by omega)]
   exact ih (t+1) F (by omega)
theorem Anm {i j k:Nat} (hi:i+k+1=n) (hj:j<Q) {x:Int} (hx:x=upF n Q l m i j):List.set (T5 n Q l m j k) (toNat ((i:Int)*(Q:Int)+(j:Int))) x=T5 n Q l m j (k+1):=by
 refine Ac0 hj hx fun a b ha hb=>?_
 unfold upD
 rw [Axa,Axa]
 omega
theorem Ani (N:Nat) (n6:n≤6) (q6:Q≤6) (hN:7<N) (hl:l.length=n*n) (hm:m.length=n*Q) (al:Af l=true) (am:Af m=true) {j:Nat} (hj:j<Q) (M0:Nat):∀ (cnt k F:Nat),k+cnt=n→cnt<F →
 solve.Aq.Up.L1 N M0 F (n:Int) (n:Int) l (n:Int) (Q:Int) m (n:Int) (k:Int) (T5 n Q l m j k) (j:Int) (j:Int) =
 solve.Aq.Up.L0 N M0 (n:Int) (n:Int) l (n:Int) (Q:Int) m (n:Int) ((j+1:Nat):Int) (T5 n Q l m j n):=by
 intro cnt
 induction cnt with
 | zero =>
   intro k F hk hF
   obtain ⟨F,rfl⟩:∃ G,F=G+1:=⟨F-1,by omega⟩
   obtain rfl:k=n:=by omega
   rw [solve.Aq.Up.Ct,Au,Aw8 (by omega),Aw7,Ao (by omega) (by omega)]
   rfl
 | succ cnt ih =>
   intro k F hk hF
   obtain ⟨F,rfl⟩:∃ G,F=G+1:=⟨F-1,by omega⟩
   obtain ⟨i,hi⟩:∃ i:Nat,i+k+1=n:=⟨n-k-1,by omega⟩
   have ei:(n:Int)-1-(k:Int)=(i:Int):=by omega
   obtain ⟨e2,g3,g4⟩:=Hi (R:=(n:Int)) (F8 n6 q6 hm (show i<n by omega) hj)
   rw [solve.Aq.Up.Ct,Au,Aw4 (show (k:Int)<(n:Int) by omega),Aw3,At.2 (show 0≤(k:Int)∧(k:Int)<(n:Int)∧(n:Int)≤10 by omega),Aw3,ei,e2,Aw4 g3,Aw4 g4,Aw9,Aw3]
   obtain ⟨G,rfl⟩:∃ G,N=G+(i+1):=⟨N-(i+1),by omega⟩
   have hs:=Anh (n:=n) (Q:=Q) (l:=l) (m:=m) (G+(i+1)) n6 (i:=i) (j:=j) (k:=k) (by omega) M0 F (j:Int) (k:Int) (Di (Q:Int) m (i:Int) (j:Int)) (i+1) 0 G (by omega)
   have hr:=Ajm (n:=n) (Q:=Q) (l:=l) (m:=m) (G+(i+1)) n6 q6 hl al hi hj M0 F (j:Int) (k:Int) (n-(i+1)) (i+1) G (Di (Q:Int) m (i:Int) (j:Int)) (by omega) (by omega) (by omega) (Ha (c:=(Q:Int)) am)
   rw [Anm hi hj (Anp (show i<n by omega)).symm,Ao (by omega) (by omega)] at hr
   exact (hs.trans hr).trans (ih (k+1) F (by omega) (by omega))
theorem Ajp (j:Nat):T5 n Q l m j n=T5 n Q l m (j+1) 0:=by
 unfold T5
 refine Dq fun a b ha hb=>?_
 have:upD n j n a b=upD n (j+1) 0 a b:=by
  unfold upD
  rw [decide_eq_decide]
  omega
 rw [this]
theorem Ajo:T5 n Q l m 0 0=Cd n Q fun _ _=>0:=by
 unfold T5
 refine Dq fun a b ha hb=>?_
 have:upD n 0 0 a b=false:=Aw8 (by omega)
 rw [this]; rfl
theorem Ano:T5 n Q l m Q 0=upG (n:Int) l (Q:Int) m n Q:=by
 unfold T5 upG
 refine Dq fun a b ha hb=>?_
 have:upD n Q 0 a b=true:=Aw4 (.inl hb)
 rw [this]; rfl
theorem Ank (N:Nat) (n6:n≤6) (q6:Q≤6) (hN:7<N) (hl:l.length=n*n) (hm:m.length=n*Q) (al:Af l=true) (am:Af m=true):∀ (cnt j F:Nat),j+cnt=Q→cnt<F →
 solve.Aq.Up.L0 N F (n:Int) (n:Int) l (n:Int) (Q:Int) m (n:Int) (j:Int) (T5 n Q l m j 0) =
 bif Da (T5 n Q l m Q 0) then some (.tup [.agg [.int .i64 (n:Int),.int .i64 (Q:Int),.ints (.own 112002 tB) .u64 (T5 n Q l m Q 0)],.int .i64 (0:Int)]) else some (Aei 2):=by
 intro cnt
 induction cnt with
 | zero =>
   intro j F hj hF
   obtain ⟨F,rfl⟩:∃ G,F=G+1:=⟨F-1,by omega⟩
   obtain rfl:j=Q:=by omega
   have h36:=Axz n6 q6
   rw [solve.Aq.Up.Aw,Au,Aw8 (by omega),Aw7,Kg (Aq9 _ _) (by rw [Zg]; omega),Aw3]
   cases Da (T5 n j l m j 0)<;>rfl
 | succ cnt ih =>
   intro j F hj hF
   obtain ⟨F,rfl⟩:∃ G,F=G+1:=⟨F-1,by omega⟩
   have hr:=Ani N n6 q6 hN hl hm al am (show j<Q by omega) F n 0 N (by omega) (by omega)
   rw [Ajp] at hr
   rw [solve.Aq.Up.Aw,Au,Aw4 (show (j:Int)<(Q:Int) by omega),Aw3]
   exact hr.trans (ih (j+1) F (by omega) (by omega))
end
theorem solve.Aq.Up.known:solve.Aq.Up.Kn:=solve.Aq.Up.Ad (.cons Akr.known (.cons Aa.B2.own.known (.cons solve.Dt.known (.cons Ac.Div.known (.cons Ac.Finite.known (.cons Ac.Mul.known (.cons Ac.Sub.known .nil))))))) fun r c l p q m n hp=>by
 show ∃ N dv drops,_=some dv∧Wk drops dv (Qu (Jn r q (upG c l q m (toNat r) (toNat q))))
 obtain ⟨h1,hn⟩:=Ae.1 (show (Oj r c l p q m&&decide (n=r))=true from hp)
 obtain ⟨h2,h3⟩:=Ae.1 h1
 obtain ⟨hr,hm⟩:=Ae.1 h2
 obtain ⟨h4,h5⟩:=Ae.1 h3
 obtain ⟨al,am⟩:=Ae.1 h4
 obtain ⟨rfl,rfl⟩:=At.1 h5
 obtain rfl:=Axt hn
 have s1:=(Fj hr).1
 have s2:=(Fj hm).2
 obtain ⟨R,C,rfl,hC,r6,c6,hl⟩:=C2 hr
 obtain ⟨P,Q,hP,rfl,p6,q6,hl2⟩:=C2 hm
 obtain rfl:R=C:=by omega
 obtain rfl:R=P:=by omega
 have h:=Ank (n:=R) (Q:=Q) (l:=l) (m:=m) 8 r6 q6 (by omega) hl hl2 al am Q 0 8 (by omega) (by omega)
 rw [Ajo,Ano,show ((0:Nat):Int)=0 from rfl] at h
 rw [Aw5,Aw5]
 unfold Jn
 cases hf:Da (upG (R:Int) l (Q:Int) m R Q) with
 | true =>
   rw [hf,Aw3] at h
   rw [Axq rfl]
   refine ⟨8,.tup [.agg [.int .i64 (R:Int),.int .i64 (Q:Int),.ints (.own 112002 tB) .u64 (upG (R:Int) l (Q:Int) m R Q)],.int .i64 0],[112002],?_,Wk.G3 (.cons (Adj (List.mem_singleton.2 rfl)) (.cons .int .nil))⟩
   rw [solve.Aq.Up.ev,s1,s2,Aw9,Aw3,Aw5,Aw5]
   exact h
 | false =>
   rw [hf,Aw7] at h
   rw [Axp (by decide)]
   refine ⟨8,Aei 2,[],?_,Ho⟩
   rw [solve.Aq.Up.ev,s1,s2,Aw9,Aw3,Aw5,Aw5]
   exact h
namespace EqFew
def qr.Ep.A8:List (Nat × Entry):=[(123,Aa.Mul.spec),(167,Aa.C6.spec)]
def qr.Ep.E:Env:=Ba (A7 qr.Ep.A8) (fun _=>false) (fun _=>none) (fun _=>none)
theorem qr.Ep.ev (N:Nat) (r c:Int) (l:List Int) (p q:Int) (m:List Int):B0 qr.Ep.E N f98 (Ap f98) [.agg [.int .i64 r,.int .i64 c,.ints .arg .u64 l],.agg [.int .i64 p,.int .i64 q,.ints .arg .u64 m]]=bif (((Cb r c l).2.2.2) !=(0:Int)) then some (.tup [.agg [.int .i64 0,.int .i64 0,.nil],.int .i64 ((Cb r c l).2.2.2)]) else bif (Af ((Cb r c l).2.2.1)&&Af m) then some (.tup [.agg [.int .i64 ((Ek ((Cb r c l).1) ((Cb r c l).2.1) ((Cb r c l).2.2.1) p q m).1),.int .i64 ((Ek ((Cb r c l).1) ((Cb r c l).2.1) ((Cb r c l).2.2.1) p q m).2.1),.ints .fresh .u64 ((Ek ((Cb r c l).1) ((Cb r c l).2.1) ((Cb r c l).2.2.1) p q m).2.2.1)],.int .i64 ((Ek ((Cb r c l).1) ((Cb r c l).2.1) ((Cb r c l).2.2.1) p q m).2.2.2)]) else none:=by kernel_rfl
abbrev _root_.Go.Proofs.S1.qr.Ep.Kn:=A4 prog 98 qr.Ep.spec
theorem qr.Ep.Ad (hk:Ay prog qr.Ep.A8) (h:Hyp qr.Ep.E f98 qr.Ep.ts qr.Ep.pre qr.Ep.out):qr.Ep.Kn :=
 Al (A1 hk _ _ _) func98 (by kernel_rfl) (by kernel_rfl) h
end EqFew
end Go.Proofs.S1
end
