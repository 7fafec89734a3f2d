/- A verified evaluator of the program's form and its use for this seat: S1PRef10, S1PFill, S1EqSol, S1PTri, S1EqFew, S1PSol, S1PDiv, S1EqRef17, S1PRef17, S1EqRoot, S1PRoot, S1PRootA, S1EqHouse, S1PHouse, S1PApply, S1EqQr. -/
import Derived.Test.YtjbokjpbiobjpaaGreatTI
import Derived.Test.YtjbokjpbiobjpaaGreatTE
import Derived.Test.YtjbokjpbiobjpaaGreatTF
set_option linter.unusedVariables false
set_option linter.unusedSimpArgs false
noncomputable section
open Int (toNat)
open List (length getD)
open Go.Proofs.Tryz
namespace Go.Proofs.S1
open Go Go.Den Go.Cv Go.Proofs
open EqRef10
theorem Bo.G7.known:Bo.G7.Kn:=Bo.G7.Ae .nil fun r c l _=>by
 refine ⟨0,Bo.G7.out [.i r,.i c,.l l],[],?_,.bool⟩
 have e:(bif (bif (bif (bif (Ev (0:Int) r) then (Ev r (6:Int)) else false) then (Ev (0:Int) c) else false) then (Ev c (6:Int)) else false) then ((length l:Int)==(Ac (r*c))) else false)=Be r c l:=by
  have:=Ais r c l
  have h:(bif (bif (bif (bif (Ev (0:Int) r) then (Ev r (6:Int)) else false) then (Ev (0:Int) c) else false) then (Ev c (6:Int)) else false) then ((length l:Int)==(Ac (r*c))) else false)=!(((!(Cd r))||(!(Cd c)))||((length l:Int) !=(Ac (r*c)))):=by
   unfold Cd bne
   rw [E3,E3,E3,E3]
   cases decide (0≤r)<;>cases decide (r≤6)<;>cases decide (0≤c)<;>cases decide (c≤6)<;>cases ((length l:Int)==(Ac (r*c)))<;>rfl
  rw [h,this,Bool.not_not]
 rw [Bo.G7.ev,e]; rfl
theorem Bo.At.known:Bo.At.Kn:=Bo.At.Ae .nil fun r c l i k hp=>by
 obtain ⟨e,h1,h2⟩:=Ns (R:=r) (show Hi r c l i k=true from hp)
 refine ⟨0,Bo.At.out [.i r,.i c,.l l,.i i,.i k],[],?_,.int⟩
 rw [Bo.At.ev,e,A5m h1,A5m h2]
 rfl
theorem Ayh {drops:List Nat} {i:Nat} {e:TypeId} {a b:Int} {l:List Int} (h:i∈drops):Wk drops (.agg [.int .i64 a,.int .i64 b,.ints (.own i e) .u64 l]) (.agg [.int .i64 a,.int .i64 b,.ints .fresh .u64 l]) :=
 Wk.M9 (.cons .int (.cons .int (.cons (.drop _ _ _ _ h) .nil)))
theorem At1 {r c i k:Nat} (hk:k<c) {d d':Nat→Nat→Bool} {f:Nat→Nat→Int} {x:Int} (hx:x=f i k)
 (h:∀ a b,a<r→b<c→(d' a b=true↔d a b=true∨(a=i∧b=k))) :
 List.set (Di r c fun a b=>if d a b=true then f a b else 0) (toNat ((i:Int)*(c:Int)+(k:Int))) x=Di r c fun a b=>if d' a b=true then f a b else 0:=by
 have e:((i:Int)*(c:Int)+(k:Int)).toNat=i*c+k:=by rw [← A56,← Int.natCast_add,A5n]
 rw [e,Wb hk]
 refine F9 fun a b ha hb=>?_
 have h:=h a b ha hb
 by_cases hab:a=i∧b=k
 ·rw [A58 hab,A58 (h.2 (.inr hab)),hx,hab.1,hab.2]
 ·rw [A57 hab]
  by_cases hd:d a b=true
  ·rw [A58 hd,A58 (h.2 (.inl hd))]
  ·rw [A57 hd,A57 (fun k=>(h.1 k).elim hd hab)]
theorem Afa (N:Nat) {R C K f:Nat} {l:List Int} (r6:R≤6) (c6:C≤6) (hl:l.length=R*C) (hk:K<C):∀ (k i F:Nat),f+i+k=R→k<F →
 Bo.Rn.L0 N F (R:Int) (C:Int) l (K:Int) ((f+i:Nat):Int) (By (C:Int) l (K:Int) (f:Int) i)=some (.ints (.own 100007 tB) .u64 (By (C:Int) l (K:Int) (f:Int) (R-f))):=by
 intro k
 induction k with
 | zero =>
   intro i F hi hF
   obtain ⟨F,rfl⟩:∃ G,F=G+1:=⟨F-1,by omega⟩
   rw [Bo.Rn.Ax,Aw,A5q (by omega),A5p,show R-f=i by omega]
 | succ k ih =>
   intro i F hi hF
   obtain ⟨F,rfl⟩:∃ G,F=G+1:=⟨F-1,by omega⟩
   have d:decide ((By (C:Int) l (K:Int) (f:Int) i).length+1≤Kg)=true:=A5m (by rw [J1]; unfold Kg; omega)
   rw [Bo.Rn.Ax,Aw,A5m (by omega),A5l,Ix r6 c6 hl (show f+i<R by omega) hk,A5l,d,A5l,Ap (by omega) (by omega)]
   have:=ih (i+1) F (by omega) (by omega)
   unfold By at this ⊢
   rw [List.range_succ,List.map_append] at this
   exact this
theorem Bo.Rn.known:Bo.Rn.Kn:=Bo.Rn.Ae (.cons Bo.At.known .nil) fun r c l k f hp=>by
 obtain ⟨h0,hf⟩:=Ag.1 (show (Gw r c l k&&Cz (0≤f∧f≤r))=true from hp)
 have hf:=As.1 hf
 obtain ⟨hr,hi⟩:=Ag.1 h0
 have hi:=As.1 hi
 obtain ⟨R,C,rfl,rfl,r6,c6,hl⟩:=Ef hr
 obtain ⟨K,rfl⟩:∃ j:Nat,k=j:=⟨k.toNat,by omega⟩
 obtain ⟨f,rfl⟩:∃ j:Nat,f=j:=⟨f.toNat,by omega⟩
 refine ⟨8,.ints (.own 100007 tB) .u64 (By (C:Int) l (K:Int) (f:Int) (R-f)),[100007],?_,?_⟩
 ·rw [Bo.Rn.ev]
  exact Afa 8 r6 c6 hl (by omega) (R-f) 0 8 (by omega) (by omega)
 ·show Wk _ _ (DV.ints .fresh .u64 (By (C:Int) l (K:Int) (f:Int) (toNat ((R:Int)-(f:Int)))))
  rw [show toNat ((R:Int)-(f:Int))=R-f by omega]
  exact .drop _ _ _ _ (List.mem_singleton.2 rfl)
theorem Bo.Row.known:Bo.Row.Kn:=Bo.Row.Ae .nil fun r c l i hp=>by
 obtain ⟨hr,hi⟩:=Ag.1 (show Qo r c l i=true from hp)
 have hi:=As.1 hi
 obtain ⟨R,C,rfl,rfl,r6,c6,hl⟩:=Ef hr
 obtain ⟨I,rfl⟩:∃ k:Nat,i=k:=⟨i.toNat,by omega⟩
 have hm:=Lp (a:=(I:Int)) (b:=(C:Int)) (by omega) (by omega) (by omega) (by omega)
 have hm2:=Lp (a:=(I:Int)+1) (b:=(C:Int)) (by omega) (by omega) (by omega) (by omega)
 have hle:(I+1)*C≤R*C:=A5x C (by omega)
 have hle2:I*C≤(I+1)*C:=A5x C (by omega)
 have e1:(I:Int)*(C:Int)=((I*C:Nat):Int):=(A56 _ _).symm
 have e2:((I:Int)+1)*(C:Int)=(((I+1)*C:Nat):Int):=by rw [A56]; rfl
 refine ⟨0,Bo.Row.out [.i (R:Int),.i (C:Int),.l l,.i (I:Int)],[],?_,.Auj⟩
 rw [Bo.Row.ev,Ap (x:=(I:Int)+1) (by omega) (by omega),Ap (x:=(I:Int)*(C:Int)) (by omega) (by omega),Ap (x:=((I:Int)+1)*(C:Int)) (by omega) (by omega)]
 have d1:decide ((0:Int)≤(I:Int)*(C:Int))=true:=A5m (by omega)
 have d2:decide ((I:Int)*(C:Int)≤((I:Int)+1)*(C:Int))=true:=A5m (by rw [e1,e2]; omega)
 have d3:decide ((0:Int)≤((I:Int)+1)*(C:Int))=true:=A5m (by omega)
 have d4:decide (((I:Int)+1)*(C:Int)≤(l.length:Int))=true:=A5m (by rw [e2]; omega)
 rw [d1,d2,d3,d4]
 rfl
open Go Go.Den Go.Cv Go.Proofs
open EqRef10
open Go Go.Den Go.Cv Go.Proofs
set_option maxRecDepth 100000
namespace EqSol
def solve.check.hint:Nat→Option Bf
 | 0=>some { keep:=[2,3,11,12],objs:=[],boxes:=[2,3] }
 | 2=>some { keep:=[2,34,35],objs:=[],boxes:=[2] }
 | _=>none
def solve.check.Bi:List (Nat × Entry):=[(86,Cx.Check.spec),(155,soft.Kind.spec)]
def solve.check.E:Env:=Bn (Bh solve.check.Bi) (fun _=>false) solve.check.hint (fun _=>none)
section
variable (N M:Nat) (r c:Int) (l:List Int) (p q:Int) (m:List Int) (p35:Int)
def solve.check.L0:Option DV:=Ce solve.check.E N f75 (Au f75) [1,1,1,0,1,0] [] M ⟨Ik 51 [(2,.ptr 2 0 0),(34,.int .i64 r),(35,.int .i64 p35)],[(2,false,.box [.int .i64 r,.int .i64 c,.ints .arg .u64 l])]⟩
theorem solve.check.Ax:solve.check.L0 (N+4) (M+1) r c l p35=bif (Ba p35 r) then bif ((decide (0≤(Ac ((Ac (p35*c))+p35))))&&(decide ((Ac ((Ac (p35*c))+p35))<(length l:Int)))) then bif (Ao (getD l (toNat (Ac ((Ac (p35*c))+p35))) 0)) then bif ((A3 (getD l (toNat (Ac ((Ac (p35*c))+p35))) 0))==(0:Int)) then some (.int .i64 5) else solve.check.L0 (N+4) M r c l (Ac (p35+1)) else none else none else some (.int .i64 0):=by kernel_rfl
theorem solve.check.ev:Ci solve.check.E (N+4) f75 (Au f75) [.agg [.int .i64 r,.int .i64 c,.ints .arg .u64 l],.agg [.int .i64 p,.int .i64 q,.ints .arg .u64 m]]=bif (Ak l) then bif ((Da r c l) !=(0:Int)) then some (.int .i64 (Da r c l)) else bif (Ak m) then bif ((Da p q m) !=(0:Int)) then some (.int .i64 (Da p q m)) else bif ((r !=c)||(r !=p)) then some (.int .i64 3) else solve.check.L0 (N+4) (N+4) r c l (0:Int) else none else none :=
 Eq.trans (by kernel_rfl)
 (Fe (Fe rfl (Fe (Fe rfl (Ay (Z0 (r !=c)) (Ay (Yt (r !=c)) (Ay (Z0 (r !=c)) (Ay (Yt (r !=c)) (Ay (tt8 (r !=c)) (Ay (tt6 (r !=c)) (C4 (tt5 _ _) rfl rfl)))))))) rfl)) rfl)
end
abbrev _root_.Go.Proofs.S1.solve.check.Kn:=A8 prog 75 solve.check.spec
theorem solve.check.Ae (hk:A4 prog solve.check.Bi) (h:Hyp solve.check.E f75 solve.check.ts solve.check.pre solve.check.out):solve.check.Kn :=
 Ar (A5 hk _ _ _) func75 (by kernel_rfl) (by kernel_rfl) h
def Gb.F8.up.Bi:List (Nat × Entry):=[]
def Gb.F8.up.E:Env:=Bn (Bh Gb.F8.up.Bi) (fun _=>false) (fun _=>none) (fun _=>none)
theorem Gb.F8.up.ev (N:Nat) (n k:Int):Ci Gb.F8.up.E N f103 (Au f103) [.int .i64 n,.int .i64 k]=some (.int .i64 (Ac ((Ac (n-1))-k))):=by kernel_rfl
abbrev _root_.Go.Proofs.S1.Gb.F8.up.Kn:=A8 prog 103 Gb.F8.up.spec
theorem Gb.F8.up.Ae (hk:A4 prog Gb.F8.up.Bi) (h:Hyp Gb.F8.up.E f103 Gb.F8.up.ts Gb.F8.up.pre Gb.F8.up.out):Gb.F8.up.Kn :=
 Ar (A5 hk _ _ _) func103 (by kernel_rfl) (by kernel_rfl) h
def solve.Eg.Bi:List (Nat × Entry):=[]
def solve.Eg.E:Env:=Bn (Bh solve.Eg.Bi) (fun _=>false) (fun _=>none) (fun _=>none)
theorem solve.Eg.ev (N:Nat) (i k:Int):Ci solve.Eg.E N f104 (Au f104) [.int .i64 i,.int .i64 k]=some (.bool (Ba i k)):=by kernel_rfl
abbrev _root_.Go.Proofs.S1.solve.Eg.Kn:=A8 prog 104 solve.Eg.spec
theorem solve.Eg.Ae (hk:A4 prog solve.Eg.Bi) (h:Hyp solve.Eg.E f104 solve.Eg.ts solve.Eg.pre solve.Eg.out):solve.Eg.Kn :=
 Ar (A5 hk _ _ _) func104 (by kernel_rfl) (by kernel_rfl) h
def Aa.of.Cm.own.hint:Nat→Option Bf
 | 0=>some { keep:=[1,2,6,7,13,14],objs:=[(8,2,108002,.ints 37 .u64 [])],boxes:=[6,7] }
 | 2=>some { keep:=[1,2,6,7,8,13,14,17,18],objs:=[(8,2,108002,.ints 37 .u64 [])],boxes:=[6,7] }
 | _=>none
def Aa.of.Cm.own.Bi:List (Nat × Entry):=[(205,Aa.Eb.spec)]
def Aa.of.Cm.own.E:Env:=Bn (Bh Aa.of.Cm.own.Bi) (fun _=>false) Aa.of.Cm.own.hint (fun _=>none)
abbrev _root_.Go.Proofs.S1.Aa.of.Cm.own.Kn:=A8 prog 187 Aa.of.Cm.own.spec
theorem Aa.of.Cm.own.Ae (hk:A4 prog Aa.of.Cm.own.Bi) (h:Hyp Aa.of.Cm.own.E f187 Aa.of.Cm.own.ts Aa.of.Cm.own.pre Aa.of.Cm.own.out):Aa.of.Cm.own.Kn :=
 Ar (A5 hk _ _ _) func187 (by kernel_rfl) (by kernel_rfl) h
def Aa.Cm.own.Bi:List (Nat × Entry):=[(187,Aa.of.Cm.own.spec),(204,Aa.size.spec)]
def Aa.Cm.own.E:Env:=Bn (Bh Aa.Cm.own.Bi) (fun n=>Nat.beq n 17) (fun _=>none) (fun _=>none)
theorem Aa.Cm.own.ev (N:Nat) (a b:Int):Ci Aa.Cm.own.E N f151 (Au f151) [.int .i64 a,.int .i64 b]=bif ((!(Cd a))||(!(Cd b))) then some (.tup [.agg [.int .i64 0,.int .i64 0,.nil],.int .i64 3]) else bif (Cd a&&Cd b) then some (.tup [.agg [.int .i64 a,.int .i64 b,.ints (.own 1136 37) .u64 (Di (toNat a) (toNat b) (fun _ _=>0))],.int .i64 0]) else none :=
 Eq.trans (by kernel_rfl)
 (Ay (Agx (Cd a)) (Ay (Wz (Cd a)) (Ay (Wz (Cd a)) (Ay (Agy (Cd a)) (C4 (Avh _ _) rfl rfl)))))
abbrev _root_.Go.Proofs.S1.Aa.Cm.own.Kn:=A8 prog 151 Aa.Cm.own.spec
theorem Aa.Cm.own.Ae (hk:A4 prog Aa.Cm.own.Bi) (h:Hyp Aa.Cm.own.E f151 Aa.Cm.own.ts Aa.Cm.own.pre Aa.Cm.own.out):Aa.Cm.own.Kn :=
 Ar (A5 hk _ _ _) func151 (by kernel_rfl) (by kernel_rfl) h
def solve.Bp.Up.hint:Nat→Option Bf
 | 0=>some { keep:=[2,3,4,5,8,10,11,28,29],objs:=[(12,2,112002,.ints 37 .u64 [])],boxes:=[4,5,8,11] }
 | 2=>some { keep:=[2,3,4,5,8,10,11,13,28,29,32,33],objs:=[(12,2,112002,.ints 37 .u64 [])],boxes:=[4,5,8,11] }
 | 4=>some { keep:=[2,3,4,5,8,10,11,13,15,16,28,29,32,33,49,50],objs:=[(12,2,112002,.ints 37 .u64 [])],boxes:=[4,5,8,11] }
 | _=>none
def solve.Bp.Up.Bi:List (Nat × Entry):=[(103,Gb.F8.up.spec),(151,Aa.Cm.own.spec),(104,solve.Eg.spec),(158,Af.Div.spec),(150,Af.Finite.spec),(157,Af.Mul.spec),(156,Af.Sub.spec)]
def solve.Bp.Up.E:Env:=Bn (Bh solve.Bp.Up.Bi) (fun n=>Nat.beq n 24) solve.Bp.Up.hint (fun _=>none)
section
variable (N M0 M1 M:Nat) (r c:Int) (l:List Int) (p q:Int) (m:List Int) (n p16 p50 p13_1 p15 p29_2 p33_1:Int) (p2_1:List Int) (p33:Int) (p2:List Int) (p13 p29_1 p29:Int) (p2_2:List Int)
def solve.Bp.Up.L0:Option DV:=Ce solve.Bp.Up.E N f76 (Au f76) [1,1,1,0,1,0] [] M ⟨Ik 108 [(2,.fn 103 [.int .i64 n] []),(3,.fn 104 [] []),(4,.ptr 4 0 0),(5,.ptr 5 0 0),(8,.ptr 8 0 0),(10,.int .i64 r),(11,.ptr 11 0 0),(28,.int .i64 q),(29,.int .i64 p29)],[(4,false,.box [.int .i64 r,.int .i64 c,.ints .arg .u64 l]),(5,false,.box [.int .i64 p,.int .i64 q,.ints .arg .u64 m]),(8,false,.box [.int .i64 0,.int .i64 0,.nil]),(11,false,.box [.int .i64 r,.int .i64 q,.oref 112002]),(112002,false,.ints 37 .u64 p2_2)]⟩
def solve.Bp.Up.L1:Option DV:=Ce solve.Bp.Up.E N f76 (Au f76) [1,1,1,0,1,0,0,1,1,0,0,1,0,1,1,0] [M0] M ⟨Ik 108 [(2,.fn 103 [.int .i64 n] []),(3,.fn 104 [] []),(4,.ptr 4 0 0),(5,.ptr 5 0 0),(8,.ptr 8 0 0),(10,.int .i64 r),(11,.ptr 11 0 0),(13,.int .i64 p13),(28,.int .i64 q),(29,.int .i64 p29_1),(32,.int .i64 r),(33,.int .i64 p33)],[(4,false,.box [.int .i64 r,.int .i64 c,.ints .arg .u64 l]),(5,false,.box [.int .i64 p,.int .i64 q,.ints .arg .u64 m]),(8,false,.box [.int .i64 0,.int .i64 0,.nil]),(11,false,.box [.int .i64 r,.int .i64 q,.oref 112002]),(112002,false,.ints 37 .u64 p2)]⟩
def solve.Bp.Up.L2:Option DV:=Ce solve.Bp.Up.E N f76 (Au f76) [1,1,1,0,1,0,0,1,1,0,0,1,0,1,1,0,0,1,1,0,0,1,1,1,0,1,0] [M0,M1] M ⟨Ik 108 [(2,.fn 103 [.int .i64 n] []),(3,.fn 104 [] []),(4,.ptr 4 0 0),(5,.ptr 5 0 0),(8,.ptr 8 0 0),(10,.int .i64 r),(11,.ptr 11 0 0),(13,.int .i64 p13_1),(15,.int .i64 p15),(16,.int .u64 p16),(28,.int .i64 q),(29,.int .i64 p29_2),(32,.int .i64 r),(33,.int .i64 p33_1),(49,.int .i64 r),(50,.int .i64 p50)],[(4,false,.box [.int .i64 r,.int .i64 c,.ints .arg .u64 l]),(5,false,.box [.int .i64 p,.int .i64 q,.ints .arg .u64 m]),(8,false,.box [.int .i64 0,.int .i64 0,.nil]),(11,false,.box [.int .i64 r,.int .i64 q,.oref 112002]),(112002,false,.ints 37 .u64 p2_1)]⟩
theorem solve.Bp.Up.Ax:solve.Bp.Up.L0 N (M+1) r c l p q m n p29 p2_2=bif (Ba p29 q) then solve.Bp.Up.L1 N M N r c l p q m n 0 p2_2 p29 p29 else bif (D7 p2_2) then bif (!(Fm p2_2)) then some (.tup [.agg [.int .i64 0,.int .i64 0,.nil],.int .i64 2]) else some (.tup [.agg [.int .i64 r,.int .i64 q,.ints (.own 112002 37) .u64 p2_2],.int .i64 0]) else none:=by kernel_rfl
theorem solve.Bp.Up.Cy:solve.Bp.Up.L1 N M0 (M+1) r c l p q m n p33 p2 p13 p29_1=bif (Ba p33 r) then bif (Cz (0≤p33∧p33<n∧n≤10)) then bif ((decide (0≤(Ac ((Ac ((n-1-p33)*q))+p13))))&&(decide ((Ac ((Ac ((n-1-p33)*q))+p13))<(length m:Int)))) then solve.Bp.Up.L2 N M0 M N r c l p q m n (getD m (toNat (Ac ((Ac ((n-1-p33)*q))+p13))) 0) 0 p13 (n-1-p33) p29_1 p33 p2 else none else none else solve.Bp.Up.L0 N M0 r c l p q m n (Ac (p29_1+1)) p2:=by kernel_rfl
theorem solve.Bp.Up.J0:solve.Bp.Up.L2 N M0 M1 (M+1) r c l p q m n p16 p50 p13_1 p15 p29_2 p33_1 p2_1=bif (Ba p50 r) then bif (decide (p15<p50)) then bif ((decide (0≤(Ac ((Ac (p15*r))+p50))))&&(decide ((Ac ((Ac (p15*r))+p50))<(length l:Int)))) then bif ((decide (0≤(Ac ((Ac (p50*q))+p13_1))))&&(decide ((Ac ((Ac (p50*q))+p13_1))<(length p2_1:Int)))) then bif (decide ((toNat (Ac ((Ac (p50*q))+p13_1)))<(length p2_1))) then bif (Ao (getD l (toNat (Ac ((Ac (p15*r))+p50))) 0)&&Ao (getD p2_1 (toNat (Ac ((Ac (p50*q))+p13_1))) 0)) then bif (Ao p16&&Ao (Em (getD l (toNat (Ac ((Ac (p15*r))+p50))) 0) (getD p2_1 (toNat (Ac ((Ac (p50*q))+p13_1))) 0))) then solve.Bp.Up.L2 N M0 M1 M r c l p q m n (Eh p16 (Em (getD l (toNat (Ac ((Ac (p15*r))+p50))) 0) (getD p2_1 (toNat (Ac ((Ac (p50*q))+p13_1))) 0))) (Ac (p50+1)) p13_1 p15 p29_2 p33_1 p2_1 else none else none else none else none else none else solve.Bp.Up.L2 N M0 M1 M r c l p q m n p16 (Ac (p50+1)) p13_1 p15 p29_2 p33_1 p2_1 else bif ((decide (0≤(Ac ((Ac (p15*r))+p15))))&&(decide ((Ac ((Ac (p15*r))+p15))<(length l:Int)))) then bif (Ao p16&&Ao (getD l (toNat (Ac ((Ac (p15*r))+p15))) 0)) then bif ((decide (0≤(Ac ((Ac (p15*q))+p13_1))))&&(decide ((Ac ((Ac (p15*q))+p13_1))<(length p2_1:Int)))) then bif (decide ((toNat (Ac ((Ac (p15*q))+p13_1)))<(length p2_1))) then solve.Bp.Up.L1 N M0 M1 r c l p q m n (Ac (p33_1+1)) (List.set p2_1 (toNat (Ac ((Ac (p15*q))+p13_1))) (Hc p16 (getD l (toNat (Ac ((Ac (p15*r))+p15))) 0))) p13_1 p29_2 else none else none else none else none :=
 Eq.trans (by kernel_rfl)
 (Fe (Fe (C4 (Rj _ _) (C4 (Rj _ _) (C4 (Cr _) (C4 (Cr _) (C4 (Cr _) rfl rfl) rfl) rfl) rfl) rfl) rfl) (C4 (Rj _ _) (C4 (Cr _) (C4 (Rj _ _) (C4 (Cr _) rfl rfl) rfl) rfl) rfl))
theorem solve.Bp.Up.ev:Ci solve.Bp.Up.E N f76 (Au f76) [.agg [.int .i64 r,.int .i64 c,.ints .arg .u64 l],.agg [.int .i64 p,.int .i64 q,.ints .arg .u64 m],.fn 103 [.int .i64 n] [],.fn 104 [] []]=bif (Cd r&&Cd q) then solve.Bp.Up.L0 N N r c l p q m n 0 (Di (toNat r) (toNat q) (fun _ _=>0)) else none:=by kernel_rfl
end
abbrev _root_.Go.Proofs.S1.solve.Bp.Up.Kn:=A8 prog 76 solve.Bp.Up.spec
theorem solve.Bp.Up.Ae (hk:A4 prog solve.Bp.Up.Bi) (h:Hyp solve.Bp.Up.E f76 solve.Bp.Up.ts solve.Bp.Up.pre solve.Bp.Up.out):solve.Bp.Up.Kn :=
 Ar (A5 hk _ _ _) func76 (by kernel_rfl) (by kernel_rfl) h
def solve.Hk.Bi:List (Nat × Entry):=[(75,solve.check.spec),(76,solve.Bp.Up.spec)]
def solve.Hk.E:Env:=Bn (Bh solve.Hk.Bi) (fun _=>false) (fun _=>none) (fun _=>none)
theorem solve.Hk.ev (N:Nat) (r c:Int) (l:List Int) (p q:Int) (m:List Int):Ci solve.Hk.E N f36 (Au f36) [.agg [.int .i64 r,.int .i64 c,.ints .arg .u64 l],.agg [.int .i64 p,.int .i64 q,.ints .arg .u64 m]]=bif (Ak l&&Ak m) then bif ((Wn r c l p q m) !=(0:Int)) then some (.tup [.agg [.int .i64 0,.int .i64 0,.nil],.int .i64 (Wn r c l p q m)]) else bif (Aer r c l p q m&&decide (r=r)) then some (.tup [.agg [.int .i64 ((Ux r q (Y1 c l q m (toNat r) (toNat q))).1),.int .i64 ((Ux r q (Y1 c l q m (toNat r) (toNat q))).2.1),.ints .fresh .u64 ((Ux r q (Y1 c l q m (toNat r) (toNat q))).2.2.1)],.int .i64 ((Ux r q (Y1 c l q m (toNat r) (toNat q))).2.2.2)]) else none else none:=by kernel_rfl
abbrev _root_.Go.Proofs.S1.solve.Hk.Kn:=A8 prog 36 solve.Hk.spec
theorem solve.Hk.Ae (hk:A4 prog solve.Hk.Bi) (h:Hyp solve.Hk.E f36 solve.Hk.ts solve.Hk.pre solve.Hk.out):solve.Hk.Kn :=
 Ar (A5 hk _ _ _) func36 (by kernel_rfl) (by kernel_rfl) h
def solve.Flat.hint:Nat→Option Bf
 | 0=>some { keep:=[1,5,6],objs:=[(0,5,100005,.ints 37 .u64 [])],boxes:=[1] }
 | 2=>some { keep:=[7,44,45,46],objs:=[(0,44,100044,.ints 37 .u64 [])],boxes:=[] }
 | _=>none
def solve.Flat.Bi:List (Nat × Entry):=[(86,Cx.Check.spec),(87,compare.Wy.spec),(90,compare.L7.spec),(89,Af.C0.spec),(88,Af.B6.spec)]
def solve.Flat.E:Env:=Bn (Bh solve.Flat.Bi) (fun _=>false) solve.Flat.hint (fun _=>none)
section
variable (N M:Nat) (r c:Int) (l:List Int) (p6:Int) (p5:List Int) (p46:Int)
def solve.Flat.L0:Option DV:=Ce solve.Flat.E N f24 (Au f24) [1,1,1,0,1,0] [] M ⟨Ik 55 [(1,.ptr 1 0 0),(5,.oref 100005),(6,.int .i64 p6)],[(1,false,.box [.int .i64 r,.int .i64 c,.ints .arg .u64 l]),(100005,false,.ints 37 .u64 p5)]⟩
def solve.Flat.L1:Option DV:=Ce solve.Flat.E N f24 (Au f24) [1,1,1,1,1,0,1,0] [] M ⟨Ik 55 [(7,.int .u64 (Cc (A9 p5) (-40:Int))),(44,.oref 100044),(45,.int .i64 (length p5:Int)),(46,.int .i64 p46)],[(100044,false,.ints 37 .u64 p5)]⟩
theorem solve.Flat.Ax:solve.Flat.L0 N (M+1) r c l p6 p5=bif ((Ba p6 r)&&(Ba p6 c)) then bif ((decide (0≤(Ac ((Ac (p6*c))+p6))))&&(decide ((Ac ((Ac (p6*c))+p6))<(length l:Int)))) then bif (Ao (getD l (toNat (Ac ((Ac (p6*c))+p6))) 0)) then bif (decide ((length p5)+1≤Kg)) then solve.Flat.L0 N M r c l (Ac (p6+1)) (p5++[(Sc (getD l (toNat (Ac ((Ac (p6*c))+p6))) 0))]) else none else none else none else bif (D7 p5) then bif (Gf (A9 p5) (-40:Int)) then solve.Flat.L1 N N p5 (0:Int) else none else none :=
 Eq.trans (by kernel_rfl)
 (Ay (Rt (Ba p6 r)) (Ay (Rt (Ba p6 r)) (Ay (N6 (Ba p6 r)) (Ay (Ank (Ba p6 r)) (Ay (X5 (Ba p6 r)) (C4 (tt1 _ _) rfl rfl))))))
theorem solve.Flat.Cy:solve.Flat.L1 N (M+1) p5 p46=bif (Ba p46 (length p5:Int)) then bif ((decide (0≤p46))&&(decide (p46<(length p5:Int)))) then bif (decide ((toNat p46)<(length p5))) then bif (Ao (Cc (A9 p5) (-40:Int))&&Ao (getD p5 (toNat p46) 0)) then bif (!(decide (Xf (Cc (A9 p5) (-40:Int)) (getD p5 (toNat p46) 0)<0))) then some (.tup [.bool true,.int .i64 0]) else solve.Flat.L1 N M p5 (Ac (p46+1)) else none else none else none else some (.tup [.bool false,.int .i64 0]):=by kernel_rfl
theorem solve.Flat.ev:Ci solve.Flat.E N f24 (Au f24) [.agg [.int .i64 r,.int .i64 c,.ints .arg .u64 l]]=bif (Ak l) then bif ((Da r c l) !=(0:Int)) then some (.tup [.bool false,.int .i64 (Da r c l)]) else solve.Flat.L0 N N r c l 0 [] else none:=by kernel_rfl
end
abbrev _root_.Go.Proofs.S1.solve.Flat.Kn:=A8 prog 24 solve.Flat.spec
theorem solve.Flat.Ae (hk:A4 prog solve.Flat.Bi) (h:Hyp solve.Flat.E f24 solve.Flat.ts solve.Flat.pre solve.Flat.out):solve.Flat.Kn :=
 Ar (A5 hk _ _ _) func24 (by kernel_rfl) (by kernel_rfl) h
end EqSol
open Go Go.Den Go.Cv Go.Proofs
open EqSol
theorem solve.Eg.known:solve.Eg.Kn:=solve.Eg.Ae .nil fun i k _=>by
 refine ⟨0,solve.Eg.out [.i i,.i k],[],?_,.bool⟩
 rw [solve.Eg.ev,Aw]; rfl
theorem Ary.known:Gb.F8.up.Kn:=Gb.F8.up.Ae .nil fun n k hp=>by
 have hp:=As.1 (show Cz (0≤k∧k<n∧n≤10)=true from hp)
 refine ⟨0,Gb.F8.up.out [.i n,.i k],[],?_,.int⟩
 rw [Gb.F8.up.ev,Ap (x:=n-1) (by omega) (by omega),Ap (by omega) (by omega)]; rfl
theorem Aa.of.Cm.own.known:Aa.of.Cm.own.Kn:=Aa.of.Cm.own.Ae (.cons Aa.Eb.known .nil) fun a b hp=>by
 have h1:(Cd a&&Cd b)=true:=hp
 obtain ⟨ha,hb⟩:=Ag.1 h1
 obtain ⟨A,rfl,hA⟩:=Jm ha
 obtain ⟨B,rfl,hB⟩:=Jm hb
 refine ⟨8,.agg [.int .i64 (A:Int),.int .i64 (B:Int),.ints (.own 108002 tB) .u64 (Di A B fun (i j:Nat)=>(0:Int))],[],?_,Wk.M9 (.cons .int (.cons .int (.cons (.keep _ _ _ _ List.not_mem_nil) .nil)))⟩
 have n:=of.Cm.outer 8 hA hB (by omega) (F:=fun (i j:Nat)=>(0:Int)) (fun _ _=>rfl) A 0 8 (by omega) (by omega)
 rw [Qa] at n
 exact (EqOf.Aa.of.Cm.ev 8 (A:Int) (B:Int)).trans n
theorem Aa.Cm.own.known:Aa.Cm.own.Kn:=Aa.Cm.own.Ae (.cons Aa.of.Cm.own.known (.cons Aa.size.known .nil)) fun a b hp=>by
 have hp:(Cd a&&Cd b)=true:=hp
 obtain ⟨ha,hb⟩:=Ag.1 hp
 refine ⟨0,Aa.Cm.own.out [.i a,.i b],[],?_,?_⟩
 ·rw [Aa.Cm.own.ev,ha,hb]; rfl
 ·exact Wk.Jc (.cons (Wk.M9 (.cons .int (.cons .int (.cons (.keep _ _ _ _ List.not_mem_nil) .nil)))) (.cons .int .nil))
section
variable {n Q:Nat} {l m:List Int}
def upF (n Q:Nat) (l m:List Int) (i j:Nat):Int:=(Qk (n:Int) l (fun i=>Co (Q:Int) m (i:Int) (j:Int)) n n).getD i 0
def upD (n j k a b:Nat):Bool:=decide (b<j∨(b=j∧n-k≤a))
def X4 (n Q:Nat) (l m:List Int) (j k:Nat):List Int:=Di n Q fun a b=>if upD n j k a b=true then upF n Q l m a b else 0
theorem Aqo (i j:Nat):Ao (upF n Q l m i j)=true:=Afu (Ai9 _ _ _ _ _) i
theorem Aym (j k:Nat):Ak (X4 n Q l m j k)=true:=O7 fun a b=>by
 split
 ·exact Aqo _ _
 ·exact Ck (n:=0) (by decide)
theorem Au8 {j k t:Nat} (ht:t<n) (hj:j<Q) (hk:n-k≤t):Co (Q:Int) (X4 n Q l m j k) (t:Int) (j:Int)=upF n Q l m t j:=by
 unfold X4
 have hd:upD n j k t j=true:=A5m (.inr ⟨rfl,hk⟩)
 rw [I5 ht hj,hd,A58 rfl]
theorem Aeo (j k:Nat):(X4 n Q l m j k).length=n*Q:=Cf _ _ _
theorem Aqk (N:Nat) (n6:n≤6) (q6:Q≤6) (hl:l.length=n*n) (al:Ak l=true) {i j k:Nat} (hi:i+k+1=n) (hj:j<Q) (M0 M1:Nat) (p29 p33:Int) :
 ∀ (cnt t F:Nat) (s:Int),t+cnt=n→cnt<F→i+1≤t→Ao s=true →
 solve.Bp.Up.L2 N M0 M1 F (n:Int) (n:Int) l (n:Int) (Q:Int) m (n:Int) s (t:Int) (j:Int) (i:Int) p29 p33 (X4 n Q l m j k) =
 solve.Bp.Up.L1 N M0 M1 (n:Int) (n:Int) l (n:Int) (Q:Int) m (n:Int) (Ac (p33+(1:Int))) (List.set (X4 n Q l m j k) (toNat ((i:Int)*(Q:Int)+(j:Int))) (Hc (Og (n:Int) l (i:Int) s (t:Int) ((Qk (n:Int) l (fun i=>Co (Q:Int) m (i:Int) (j:Int)) n n).drop t)) (Co (n:Int) l (i:Int) (i:Int)))) (j:Int) p29:=by
 intro cnt
 induction cnt with
 | zero =>
   intro t F s ht hF hit hs
   obtain ⟨F,rfl⟩:∃ G,F=G+1:=⟨F-1,by omega⟩
   obtain ⟨e1,g1,g2⟩:=Ns (R:=(n:Int)) (Ix n6 n6 hl (show i<n by omega) (show i<n by omega))
   obtain ⟨e2,g3,g4⟩:=Ns (R:=(n:Int)) (Ix n6 q6 (Aeo (l:=l) (m:=m) j k) (show i<n by omega) hj)
   rw [A5z (by rw [Lm]; omega),Og]
   rw [solve.Bp.Up.J0,Aw,A5q (show ¬ (t:Int)<(n:Int) by omega),A5p,e1,A5m g1,A5m g2,A5r,A5l,hs,show Ao (getD l (toNat ((i:Int)*(n:Int)+(i:Int))) 0)=true from Q7 (c:=(n:Int)) al,A5r,A5l,
    e2,A5m g3,A5m g4,A5r,A5l,A5m (show toNat ((i:Int)*(Q:Int)+(j:Int))<(X4 n Q l m j k).length by omega),A5l]
   rfl
 | succ cnt ih =>
   intro t F s ht hF hit hs
   obtain ⟨F,rfl⟩:∃ G,F=G+1:=⟨F-1,by omega⟩
   obtain ⟨e1,g1,g2⟩:=Ns (R:=(n:Int)) (Ix n6 n6 hl (show i<n by omega) (show t<n by omega))
   obtain ⟨e2,g3,g4⟩:=Ns (R:=(n:Int)) (Ix n6 q6 (Aeo (l:=l) (m:=m) j k) (show t<n by omega) hj)
   have hx:getD (X4 n Q l m j k) (toNat ((t:Int)*(Q:Int)+(j:Int))) 0=upF n Q l m t j:=Au8 (by omega) hj (by omega)
   rw [solve.Bp.Up.J0,Aw,A5m (show (t:Int)<(n:Int) by omega),A5l,A5m (show (i:Int)<(t:Int) by omega),A5l,e1,A5m g1,A5m g2,A5r,A5l,
    e2,A5m g3,A5m g4,A5r,A5l,A5m (show toNat ((t:Int)*(Q:Int)+(j:Int))<(X4 n Q l m j k).length by omega),A5l,hx,
    show Ao (getD l (toNat ((i:Int)*(n:Int)+(t:Int))) 0)=true from Q7 (c:=(n:Int)) al,Aqo,A5r,A5l,hs,K4,A5r,A5l,Ap (x:=(t:Int)+1) (by omega) (by omega)]
   have:=ih (t+1) F (Eh s (Em (Co (n:Int) l (i:Int) (t:Int)) (upF n Q l m t j))) (by omega) (by omega) (by omega) (W0 hs (K4 _ _))
   rw [Ao2 (by rw [Lm]; omega)]
   exact this
theorem Au4 (N:Nat) (n6:n≤6) {i j k:Nat} (hi:i<n) (M0 M1:Nat) (p29 p33 s:Int):∀ (cnt t F:Nat),t+cnt=i+1 →
 solve.Bp.Up.L2 N M0 M1 (F+cnt) (n:Int) (n:Int) l (n:Int) (Q:Int) m (n:Int) s (t:Int) (j:Int) (i:Int) p29 p33 (X4 n Q l m j k) =
 solve.Bp.Up.L2 N M0 M1 F (n:Int) (n:Int) l (n:Int) (Q:Int) m (n:Int) s ((i+1:Nat):Int) (j:Int) (i:Int) p29 p33 (X4 n Q l m j k):=by
 intro cnt
 induction cnt with
 | zero =>
   intro t F ht
   obtain rfl:t=i+1:=by omega
   rfl
 | succ cnt ih =>
   intro t F ht
   rw [← Nat.add_assoc,solve.Bp.Up.J0,Aw,A5m (show (t:Int)<(n:Int) by omega),A5l,A5q (show ¬ (i:Int)<(t:Int) by omega),A5p,Ap (by omega) (by omega)]
   exact ih (t+1) F (by omega)
theorem Au7 {i j k:Nat} (hi:i+k+1=n) (hj:j<Q) {x:Int} (hx:x=upF n Q l m i j):List.set (X4 n Q l m j k) (toNat ((i:Int)*(Q:Int)+(j:Int))) x=X4 n Q l m j (k+1):=by
 refine At1 hj hx fun a b ha hb=>?_
 unfold upD
 rw [A5s,A5s]
 omega
theorem Au5 (N:Nat) (n6:n≤6) (q6:Q≤6) (hN:7<N) (hl:l.length=n*n) (hm:m.length=n*Q) (al:Ak l=true) (am:Ak m=true) {j:Nat} (hj:j<Q) (M0:Nat):∀ (cnt k F:Nat),k+cnt=n→cnt<F →
 solve.Bp.Up.L1 N M0 F (n:Int) (n:Int) l (n:Int) (Q:Int) m (n:Int) (k:Int) (X4 n Q l m j k) (j:Int) (j:Int) =
 solve.Bp.Up.L0 N M0 (n:Int) (n:Int) l (n:Int) (Q:Int) m (n:Int) ((j+1:Nat):Int) (X4 n Q l m j n):=by
 intro cnt
 induction cnt with
 | zero =>
   intro k F hk hF
   obtain ⟨F,rfl⟩:∃ G,F=G+1:=⟨F-1,by omega⟩
   obtain rfl:k=n:=by omega
   rw [solve.Bp.Up.Cy,Aw,A5q (by omega),A5p,Ap (by omega) (by omega)]
   rfl
 | succ cnt ih =>
   intro k F hk hF
   obtain ⟨F,rfl⟩:∃ G,F=G+1:=⟨F-1,by omega⟩
   obtain ⟨i,hi⟩:∃ i:Nat,i+k+1=n:=⟨n-k-1,by omega⟩
   have ei:(n:Int)-1-(k:Int)=(i:Int):=by omega
   obtain ⟨e2,g3,g4⟩:=Ns (R:=(n:Int)) (Ix n6 q6 hm (show i<n by omega) hj)
   rw [solve.Bp.Up.Cy,Aw,A5m (show (k:Int)<(n:Int) by omega),A5l,As.2 (show 0≤(k:Int)∧(k:Int)<(n:Int)∧(n:Int)≤10 by omega),A5l,ei,e2,A5m g3,A5m g4,A5r,A5l]
   obtain ⟨G,rfl⟩:∃ G,N=G+(i+1):=⟨N-(i+1),by omega⟩
   have hs:=Au4 (n:=n) (Q:=Q) (l:=l) (m:=m) (G+(i+1)) n6 (i:=i) (j:=j) (k:=k) (by omega) M0 F (j:Int) (k:Int) (Co (Q:Int) m (i:Int) (j:Int)) (i+1) 0 G (by omega)
   have hr:=Aqk (n:=n) (Q:=Q) (l:=l) (m:=m) (G+(i+1)) n6 q6 hl al hi hj M0 F (j:Int) (k:Int) (n-(i+1)) (i+1) G (Co (Q:Int) m (i:Int) (j:Int)) (by omega) (by omega) (by omega) (Q7 (c:=(Q:Int)) am)
   rw [Au7 hi hj (All (show i<n by omega)).symm,Ap (by omega) (by omega)] at hr
   exact (hs.trans hr).trans (ih (k+1) F (by omega) (by omega))
theorem Aqn (j:Nat):X4 n Q l m j n=X4 n Q l m (j+1) 0:=by
 unfold X4
 refine F9 fun a b ha hb=>?_
 have:upD n j n a b=upD n (j+1) 0 a b:=by
  unfold upD
  rw [decide_eq_decide]
  omega
 rw [this]
theorem Aqm:X4 n Q l m 0 0=Di n Q fun _ _=>0:=by
 unfold X4
 refine F9 fun a b ha hb=>?_
 have:upD n 0 0 a b=false:=A5q (by omega)
 rw [this]; rfl
theorem Au9:X4 n Q l m Q 0=Y1 (n:Int) l (Q:Int) m n Q:=by
 unfold X4 Y1
 refine F9 fun a b ha hb=>?_
 have:upD n Q 0 a b=true:=A5m (.inl hb)
 rw [this]; rfl
theorem Au6 (N:Nat) (n6:n≤6) (q6:Q≤6) (hN:7<N) (hl:l.length=n*n) (hm:m.length=n*Q) (al:Ak l=true) (am:Ak m=true):∀ (cnt j F:Nat),j+cnt=Q→cnt<F →
 solve.Bp.Up.L0 N F (n:Int) (n:Int) l (n:Int) (Q:Int) m (n:Int) (j:Int) (X4 n Q l m j 0) =
 bif Fm (X4 n Q l m Q 0) then some (.tup [.agg [.int .i64 (n:Int),.int .i64 (Q:Int),.ints (.own 112002 tB) .u64 (X4 n Q l m Q 0)],.int .i64 (0:Int)]) else some (Azm 2):=by
 intro cnt
 induction cnt with
 | zero =>
   intro j F hj hF
   obtain ⟨F,rfl⟩:∃ G,F=G+1:=⟨F-1,by omega⟩
   obtain rfl:j=Q:=by omega
   have h36:=A6h n6 q6
   rw [solve.Bp.Up.Ax,Aw,A5q (by omega),A5p,Mz (Aym _ _) (by rw [Aeo]; omega),A5l]
   cases Fm (X4 n j l m j 0)<;>rfl
 | succ cnt ih =>
   intro j F hj hF
   obtain ⟨F,rfl⟩:∃ G,F=G+1:=⟨F-1,by omega⟩
   have hr:=Au5 N n6 q6 hN hl hm al am (show j<Q by omega) F n 0 N (by omega) (by omega)
   rw [Aqn] at hr
   rw [solve.Bp.Up.Ax,Aw,A5m (show (j:Int)<(Q:Int) by omega),A5l]
   exact hr.trans (ih (j+1) F (by omega) (by omega))
end
theorem solve.Bp.Up.known:solve.Bp.Up.Kn:=solve.Bp.Up.Ae (.cons Ary.known (.cons Aa.Cm.own.known (.cons solve.Eg.known (.cons Af.Div.known (.cons Af.Finite.known (.cons Af.Mul.known (.cons Af.Sub.known .nil))))))) fun r c l p q m n hp=>by
 show ∃ N dv drops,_=some dv∧Wk drops dv (Aar (Ux r q (Y1 c l q m (toNat r) (toNat q))))
 obtain ⟨h1,hn⟩:=Ag.1 (show (Aer r c l p q m&&decide (n=r))=true from hp)
 obtain ⟨h2,h3⟩:=Ag.1 h1
 obtain ⟨hr,hm⟩:=Ag.1 h2
 obtain ⟨h4,h5⟩:=Ag.1 h3
 obtain ⟨al,am⟩:=Ag.1 h4
 obtain ⟨rfl,rfl⟩:=As.1 h5
 obtain rfl:=A6b hn
 have s1:=(Mg hr).1
 have s2:=(Mg hm).2
 obtain ⟨R,C,rfl,hC,r6,c6,hl⟩:=Ef hr
 obtain ⟨P,Q,hP,rfl,p6,q6,hl2⟩:=Ef hm
 obtain rfl:R=C:=by omega
 obtain rfl:R=P:=by omega
 have h:=Au6 (n:=R) (Q:=Q) (l:=l) (m:=m) 8 r6 q6 (by omega) hl hl2 al am Q 0 8 (by omega) (by omega)
 rw [Aqm,Au9,show ((0:Nat):Int)=0 from rfl] at h
 rw [A5n,A5n]
 unfold Ux
 cases hf:Fm (Y1 (R:Int) l (Q:Int) m R Q) with
 | true =>
   rw [hf,A5l] at h
   rw [A58 rfl]
   refine ⟨8,.tup [.agg [.int .i64 (R:Int),.int .i64 (Q:Int),.ints (.own 112002 tB) .u64 (Y1 (R:Int) l (Q:Int) m R Q)],.int .i64 0],[112002],?_,Wk.Jc (.cons (Ayh (List.mem_singleton.2 rfl)) (.cons .int .nil))⟩
   rw [solve.Bp.Up.ev,s1,s2,A5r,A5l,A5n,A5n]
   exact h
 | false =>
   rw [hf,A5p] at h
   rw [A57 (by decide)]
   refine ⟨8,Azm 2,[],?_,N2⟩
   rw [solve.Bp.Up.ev,s1,s2,A5r,A5l,A5n,A5n]
   exact h
open Go Go.Den Go.Cv Go.Proofs
set_option maxRecDepth 100000
namespace EqFew
def qr.Fp.Bi:List (Nat × Entry):=[(123,Aa.Mul.spec),(167,Aa.Dz.spec)]
def qr.Fp.E:Env:=Bn (Bh qr.Fp.Bi) (fun _=>false) (fun _=>none) (fun _=>none)
theorem qr.Fp.ev (N:Nat) (r c:Int) (l:List Int) (p q:Int) (m:List Int):Ci qr.Fp.E N f98 (Au f98) [.agg [.int .i64 r,.int .i64 c,.ints .arg .u64 l],.agg [.int .i64 p,.int .i64 q,.ints .arg .u64 m]]=bif (((Gc r c l).2.2.2) !=(0:Int)) then some (.tup [.agg [.int .i64 0,.int .i64 0,.nil],.int .i64 ((Gc r c l).2.2.2)]) else bif (Ak ((Gc r c l).2.2.1)&&Ak m) then some (.tup [.agg [.int .i64 ((Uq ((Gc r c l).1) ((Gc r c l).2.1) ((Gc r c l).2.2.1) p q m).1),.int .i64 ((Uq ((Gc r c l).1) ((Gc r c l).2.1) ((Gc r c l).2.2.1) p q m).2.1),.ints .fresh .u64 ((Uq ((Gc r c l).1) ((Gc r c l).2.1) ((Gc r c l).2.2.1) p q m).2.2.1)],.int .i64 ((Uq ((Gc r c l).1) ((Gc r c l).2.1) ((Gc r c l).2.2.1) p q m).2.2.2)]) else none:=by kernel_rfl
abbrev _root_.Go.Proofs.S1.qr.Fp.Kn:=A8 prog 98 qr.Fp.spec
theorem qr.Fp.Ae (hk:A4 prog qr.Fp.Bi) (h:Hyp qr.Fp.E f98 qr.Fp.ts qr.Fp.pre qr.Fp.out):qr.Fp.Kn :=
 Ar (A5 hk _ _ _) func98 (by kernel_rfl) (by kernel_rfl) h
end EqFew
open Go Go.Den Go.Cv Go.Proofs
open EqSol EqFew
theorem Ajx {n i:Nat} (h:i<n):(List.range n).drop i=i::(List.range n).drop (i+1):=by
 rw [List.drop_eq_getElem_cons (by rw [A6o]; exact h),List.getElem_range]
theorem Qf {r c:Int} {l:List Int} (h:Da r c l=0):Be r c l=true∧Fm l=true:=by
 unfold Da at h
 by_cases h1:Be r c l=true
 ·rw [A58 h1] at h
  by_cases h2:Fm l=true
  ·exact ⟨h1,h2⟩
  ·rw [A57 h2] at h; exact absurd h (by decide)
 ·rw [A57 h1] at h; exact absurd h (by decide)
theorem Sn {r c:Int} {l:List Int} (h1:Be r c l=true) (h2:Fm l=true):Da r c l=0:=by unfold Da; rw [A58 h1,A58 h2]
theorem neI {x:Int} (h:x≠0):(x !=(0:Int))=true:=by simpa using h
theorem Ox {x:Int} (h:x=0):(x !=(0:Int))=false:=by rw [h]; rfl
theorem Ak7 (N:Nat) {n:Nat} {l:List Int} (n6:n≤6) (hl:l.length=n*n) (al:Ak l=true):∀ (cnt i F:Nat),i+cnt=n→cnt<F →
 solve.check.L0 (N+4) F (n:Int) (n:Int) l (i:Int)=some (.int .i64 (if ((List.range n).drop i).any (fun i:Nat=>decide (A3 (Co (n:Int) l (i:Int) (i:Int))=0))=true then 5 else 0)):=by
 intro cnt
 induction cnt with
 | zero =>
   intro i F hi hF
   obtain ⟨F,rfl⟩:∃ G,F=G+1:=⟨F-1,by omega⟩
   rw [solve.check.Ax,Aw,A5q (by omega),A5p,A5z (by rw [A6o]; omega)]; rfl
 | succ cnt ih =>
   intro i F hi hF
   obtain ⟨F,rfl⟩:∃ G,F=G+1:=⟨F-1,by omega⟩
   obtain ⟨e1,g1,g2⟩:=Ns (R:=(n:Int)) (Ix n6 n6 hl (show i<n by omega) (show i<n by omega))
   have hx:getD l (toNat ((i:Int)*(n:Int)+(i:Int))) 0=Co (n:Int) l (i:Int) (i:Int):=rfl
   rw [solve.check.Ax,Aw,A5m (show (i:Int)<(n:Int) by omega),A5l,e1,A5m g1,A5m g2,A5r,A5l,hx,Q7 al,A5l,Ajx (by omega),List.any_cons]
   by_cases hk:A3 (Co (n:Int) l (i:Int) (i:Int))=0
   ·have e:(A3 (Co (n:Int) l (i:Int) (i:Int))==(0:Int))=true:=by rw [hk]; rfl
    rw [e,A5l,A5m hk]; rfl
   ·have e:(A3 (Co (n:Int) l (i:Int) (i:Int))==(0:Int))=false:=by simpa using hk
    rw [e,A5p,A5q hk,Bool.false_or,Ap (by omega) (by omega)]
    exact ih (i+1) F (by omega) (by omega)
theorem A2n {r c p:Int}:((r !=c)||(r !=p))=decide (r≠c∨r≠p):=by
 rw [A51]; simp
theorem solve.check.known:solve.check.Kn:=solve.check.Ae (.cons Cx.Check.known (.cons soft.Kind.known .nil)) fun r c l p q m hp=>by
 obtain ⟨al,am⟩:=Ag.1 (show (Ak l&&Ak m)=true from hp)
 refine ⟨14,solve.check.out [.i r,.i c,.l l,.i p,.i q,.l m],[],?_,.int⟩
 show _=some (DV.int .i64 (Wn r c l p q m))
 rw [show (14:Nat)=10+4 from rfl,solve.check.ev,al,A5l,am,A5l,A2n]
 unfold Wn
 by_cases h1:Da r c l=0
 ·rw [Ox h1,A5p,A57 (by rw [h1]; decide)]
  by_cases h2:Da p q m=0
  ·rw [Ox h2,A5p,A57 (by rw [h2]; decide)]
   by_cases h3:r≠c∨r≠p
   ·rw [A5m h3,A5l,A58 h3]
   ·rw [A5q h3,A5p,A57 h3]
    obtain rfl:r=c:=Decidable.byContradiction fun h=>h3 (.inl h)
    obtain ⟨R,C,rfl,hC,r6,c6,hl⟩:=Ef (Qf h1).1
    obtain rfl:R=C:=by omega
    rw [A5n]
    exact Ak7 10 r6 hl al R 0 14 (by omega) (by omega)
  ·rw [neI h2,A5l,A58 h2]
 ·rw [neI h1,A5l,A58 h1]
theorem Apq {r c:Int} {l:List Int} {p q:Int} {m:List Int} (h:Wn r c l p q m=0):Be r c l=true∧Be p q m=true∧r=c∧r=p:=by
 unfold Wn at h
 by_cases h1:Da r c l=0
 ·rw [A57 (by rw [h1]; decide)] at h
  by_cases h2:Da p q m=0
  ·rw [A57 (by rw [h2]; decide)] at h
   by_cases h3:r≠c∨r≠p
   ·rw [A58 h3] at h; exact absurd h (by decide)
   ·exact ⟨(Qf h1).1,(Qf h2).1,Decidable.byContradiction fun h=>h3 (.inl h),Decidable.byContradiction fun h=>h3 (.inr h)⟩
  ·rw [A58 h2] at h; exact absurd h h2
 ·rw [A58 h1] at h; exact absurd h h1
theorem solve.Hk.known:solve.Hk.Kn:=solve.Hk.Ae (.cons solve.check.known (.cons solve.Bp.Up.known .nil)) fun r c l p q m hp=>by
 have hp:(Ak l&&Ak m)=true:=hp
 show ∃ N dv drops,_=some dv∧Wk drops dv (Aar (upX r c l p q m))
 unfold upX
 by_cases h:Wn r c l p q m=0
 ·obtain ⟨h1,h2,h3,h4⟩:=Apq h
  have ht:Aer r c l p q m=true:=Ag.2 ⟨Ag.2 ⟨h1,h2⟩,Ag.2 ⟨hp,As.2 ⟨h3,h4⟩⟩⟩
  rw [A57 (by rw [h]; decide)]
  exact ⟨0,_,[],by rw [solve.Hk.ev,hp,A5l,Ox h,A5p,ht,A5m rfl]; rfl,Ue⟩
 ·rw [A58 h]
  exact ⟨0,_,[],by rw [solve.Hk.ev,hp,A5l,neI h,A5l]; rfl,N2⟩
theorem Ari {b:Nat} {n:Int} (h:b<2^64):(Cg b n).1<2^64:=by
 unfold Cg
 by_cases h4:Aj b=4
 ·rw [A58 h4]; exact (by decide:Sw<2^64)
 rw [A57 h4]
 by_cases h3:Aj b=3∨Aj b=0
 ·rw [A58 h3]; exact h
 rw [A57 h3]
 exact Vg _ _ _
theorem Jo {b n:Int} (h:Ao b=true):Ao (Cc b n)=true:=by
 obtain ⟨x,rfl,hx⟩:=Cb h
 exact Ck (Ari (by rw [A5n]; exact hx))
theorem Ab4:∀ (l:List Int) (m:Nat),m<2^64→M8 l m<2^64
 | [],m,h=>h
 | x::l,m,h=>by
   unfold M8
   split
   ·exact (by decide:Sw<2^64)
   ·have h2:Dn x.toNat<2^63:=Aeg x.toNat
    exact Ab4 l _ (by omega)
theorem U4 (l:List Int):Ao (A9 l)=true:=Ck (Ab4 l 0 (by decide))
theorem Asp (x:Int):Ao (Sc x)=true:=Ck (Nat.lt_trans (Aeg x.toNat) (by decide))
theorem Apc (N:Nat) {d:List Int} (hd:D7 d=true) (h7:d.length≤1000):∀ (cnt i F:Nat),i+cnt=d.length→cnt<F →
 solve.Flat.L1 N F d (i:Int)=some (.tup [.bool ((d.drop i).any fun x=>!(decide (Xf (Cc (A9 d) (-40)) x<0))),.int .i64 0]):=by
 obtain ⟨_,hu⟩:=Nk hd
 intro cnt
 induction cnt with
 | zero =>
   intro i F hi hF
   obtain ⟨F,rfl⟩:∃ G,F=G+1:=⟨F-1,by omega⟩
   rw [solve.Flat.Cy,Aw,A5q (by omega),A5p,A5z (by omega)]; rfl
 | succ cnt ih =>
   intro i F hi hF
   obtain ⟨F,rfl⟩:∃ G,F=G+1:=⟨F-1,by omega⟩
   rw [solve.Flat.Cy,Aw,A5m (show (i:Int)<(d.length:Int) by omega),A5l,A5m (show (0:Int)≤(i:Int) by omega),A5r,A5l,A5n,A5m (show i<d.length by omega),A5l,
    Jo (U4 d),hu i (by omega),A5r,A5l,Kj (by omega),List.any_cons]
   cases decide (Xf (Cc (A9 d) (-40)) (d.getD i 0)<0) with
   | false=>rfl
   | true =>
     rw [A6k,A5p,Bool.false_or,Ap (by omega) (by omega)]
     exact ih (i+1) F (by omega) (by omega)
theorem Axa (c:Int) (l:List Int) (n:Nat):Ak (En c l n)=true:=As.2 fun x hx=>by
 obtain ⟨j,_,rfl⟩:=List.mem_map.1 hx
 exact Asp _
theorem Pb (c:Int) (l:List Int) (n:Nat):(En c l n).length=n:=by unfold En; rw [A6r,A6o]
theorem Apd (N:Nat) {R C:Nat} {l:List Int} (r6:R≤6) (c6:C≤6) (hN:7<N) (hl:l.length=R*C) (al:Ak l=true):∀ (cnt i F:Nat),i+cnt=min R C→cnt<F →
 solve.Flat.L0 N F (R:Int) (C:Int) l (i:Int) (En (C:Int) l i)=some (.tup [.bool (Wc (En (C:Int) l (min R C))),.int .i64 0]):=by
 intro cnt
 induction cnt with
 | zero =>
   intro i F hi hF
   obtain ⟨F,rfl⟩:∃ G,F=G+1:=⟨F-1,by omega⟩
   obtain rfl:i=min R C:=by omega
   have hlt:(Ba (((min R C:Nat)):Int) (R:Int)&&Ba (((min R C:Nat)):Int) (C:Int))=false:=by
    rw [Aw,Aw,Bool.and_eq_false_iff,A54,A54]; omega
   have ok:=Mz (Axa (C:Int) l (min R C)) (by rw [Pb]; omega)
   have sp:Gf (A9 (En (C:Int) l (min R C))) (-40:Int)=true:=Ag.2 ⟨U4 _,As.2 (by omega)⟩
   rw [solve.Flat.Ax,hlt,A5p,ok,A5l,sp,A5l]
   exact Apc N ok (by rw [Pb]; omega) (min R C) 0 N (by rw [Pb]; omega) (by omega)
 | succ cnt ih =>
   intro i F hi hF
   obtain ⟨F,rfl⟩:∃ G,F=G+1:=⟨F-1,by omega⟩
   obtain ⟨e1,g1,g2⟩:=Ns (R:=(R:Int)) (Ix r6 c6 hl (show i<R by omega) (show i<C by omega))
   have hx:getD l (toNat ((i:Int)*(C:Int)+(i:Int))) 0=Co (C:Int) l (i:Int) (i:Int):=rfl
   rw [solve.Flat.Ax,Aw,Aw,A5m (show (i:Int)<(R:Int) by omega),A5m (show (i:Int)<(C:Int) by omega),A5r,A5l,e1,A5m g1,A5m g2,A5r,A5l,hx,Q7 al,A5l,
    Pb,A5m (show i+1≤Kg by unfold Kg; omega),A5l,Ap (by omega) (by omega)]
   have:=ih (i+1) F (by omega) (by omega)
   unfold En at this ⊢
   rw [Mf] at this
   exact this
theorem solve.Flat.known:solve.Flat.Kn:=solve.Flat.Ae (.cons Cx.Check.known (.cons compare.Wy.known (.cons compare.L7.known (.cons Af.C0.known (.cons Af.B6.known .nil))))) fun r c l hp=>by
 have hp:Ak l=true:=hp
 refine ⟨8,solve.Flat.out [.i r,.i c,.l l],[],?_,Wk.Jc (.cons .bool (.cons .int .nil))⟩
 show _=some (DV.tup [.bool (Ok r c l).1,.int .i64 (Ok r c l).2])
 rw [solve.Flat.ev,hp,A5l]
 unfold Ok Afv
 by_cases h1:Da r c l=0
 ·obtain ⟨R,C,rfl,rfl,r6,c6,hl⟩:=Ef (Qf h1).1
  rw [Ox h1,A5p,A57 (by rw [h1]; decide),A5n,A5n]
  exact Apd 8 r6 c6 (by omega) hl hp (min R C) 0 8 (by omega) (by omega)
 ·rw [neI h1,A5l,A58 h1]
theorem Al8 {r c:Int} {l:List Int} (al:Ak l=true) (x y a b:Int):Ak (Ir r c l x y a b).2.2.1=true:=by
 unfold Ir
 split
 ·split
  ·dsimp only
   exact O7 fun i k=>Q7 al
  ·exact As.2 fun x h=>by cases h
 ·exact As.2 fun x h=>by cases h
theorem Avb {r c:Int} {l:List Int} (al:Ak l=true):Ak (Gc r c l).2.2.1=true:=by
 unfold Gc
 split
 ·dsimp only
  exact O7 fun i k=>Q7 al
 ·exact As.2 fun x h=>by cases h
theorem Af6 (x y:List Int):Ao (Lx x y)=true:=Ck (Af5 x y 0 (by decide))
theorem Awg (r c:Int) (l:List Int) (p q:Int) (m:List Int):Ak (Uq r c l p q m).2.2.1=true:=by
 unfold Uq
 split
 ·split
  ·dsimp only
   exact O7 fun i k=>Af6 _ _
  ·exact As.2 fun x h=>by cases h
 ·exact As.2 fun x h=>by cases h
theorem Anh (r c:Int) (l:List Int) (p q:Int) (m:List Int):Ak (Dw r c l p q m).2.2.1=true:=by
 unfold Dw
 split
 ·exact As.2 fun x h=>by cases h
 ·exact Awg _ _ _ _ _ _
theorem qr.Fp.known:qr.Fp.Kn:=qr.Fp.Ae (.cons Aa.Mul.known (.cons Aa.Dz.known .nil)) fun r c l p q m hp=>by
 obtain ⟨al,am⟩:=Ag.1 (show (Ak l&&Ak m)=true from hp)
 show ∃ N dv drops,_=some dv∧Wk drops dv (Aar (Dw r c l p q m))
 unfold Dw
 by_cases h:(Gc r c l).2.2.2=0
 ·rw [A57 (by rw [h]; decide)]
  exact ⟨0,_,[],by rw [qr.Fp.ev,Ox h,A5p,Avb al,am]; rfl,Ue⟩
 ·rw [A58 h]
  exact ⟨0,_,[],by rw [qr.Fp.ev,neI h,A5l]; rfl,N2⟩
open Go Go.Den Go.Cv Go.Proofs Ieee
open Go Go.Den Go.Cv Go.Proofs
set_option maxRecDepth 100000
namespace EqRef17
def Bq.Finite.hint:Nat→Option Bf
 | 0=>some { keep:=[0,3],objs:=[],boxes:=[] }
 | _=>none
def Bq.Finite.Bi:List (Nat × Entry):=[(131,A1.Finite.spec)]
def Bq.Finite.E:Env:=Bn (Bh Bq.Finite.Bi) (fun _=>false) Bq.Finite.hint (fun _=>none)
section
variable (N M:Nat) (x:List Int) (p3:Int)
def Bq.Finite.L0:Option DV:=Ce Bq.Finite.E N f92 (Au f92) [1,0,1,0] [] M ⟨Ik 16 [(0,.ints .arg .u64 x),(3,.int .i64 p3)],[]⟩
theorem Bq.Finite.Ax:Bq.Finite.L0 N (M+1) x p3=bif (Ba p3 (length x:Int)) then bif ((decide (0≤p3))&&(decide (p3<(length x:Int)))) then bif (Ao (getD x (toNat p3) 0)) then bif (!(Dm (getD x (toNat p3) 0))) then some (.bool false) else Bq.Finite.L0 N M x (Ac (p3+1)) else none else none else some (.bool true):=by kernel_rfl
theorem Bq.Finite.ev:Ci Bq.Finite.E N f92 (Au f92) [.ints .arg .u64 x] =
 Bq.Finite.L0 N N x 0:=by kernel_rfl
end
abbrev _root_.Go.Proofs.S1.Bq.Finite.Kn:=A8 prog 92 Bq.Finite.spec
theorem Bq.Finite.Ae (hk:A4 prog Bq.Finite.Bi) (h:Hyp Bq.Finite.E f92 Bq.Finite.ts Bq.Finite.pre Bq.Finite.out):Bq.Finite.Kn :=
 Ar (A5 hk _ _ _) func92 (by kernel_rfl) (by kernel_rfl) h
def Aq.Check.Bi:List (Nat × Entry):=[(92,Bq.Finite.spec),(91,Bo.G7.spec)]
def Aq.Check.E:Env:=Bn (Bh Aq.Check.Bi) (fun _=>false) (fun _=>none) (fun _=>none)
theorem Aq.Check.ev (N:Nat) (r c:Int) (l:List Int):Ci Aq.Check.E N f25 (Au f25) [.agg [.int .i64 r,.int .i64 c,.ints .arg .u64 l]]=bif (!(Be r c l)) then some (.int .i64 1) else bif (D7 l) then bif (!(Fm l)) then some (.int .i64 4) else some (.int .i64 0) else none:=by kernel_rfl
abbrev _root_.Go.Proofs.S1.Aq.Check.Kn:=A8 prog 25 Aq.Check.spec
theorem Aq.Check.Ae (hk:A4 prog Aq.Check.Bi) (h:Hyp Aq.Check.E f25 Aq.Check.ts Aq.Check.pre Aq.Check.out):Aq.Check.Kn :=
 Ar (A5 hk _ _ _) func25 (by kernel_rfl) (by kernel_rfl) h
end EqRef17
open Go Go.Den Go.Cv Go.Proofs
open EqRef17
theorem Yu (N:Nat) {x:List Int} (hx:D7 x=true):∀ (k i F:Nat),i+k=x.length→k<F→Bq.Finite.L0 N F x (i:Int)=some (.bool ((x.drop i).all Dm)):=by
 obtain ⟨hl,hu⟩:=Nk hx
 intro k
 induction k with
 | zero =>
   intro i F hi hF
   obtain ⟨F,rfl⟩:∃ G,F=G+1:=⟨F-1,by omega⟩
   rw [Bq.Finite.Ax,Aw,A5q (by omega),A5p,A5z (by omega)]; rfl
 | succ k ih =>
   intro i F hi hF
   obtain ⟨F,rfl⟩:∃ G,F=G+1:=⟨F-1,by omega⟩
   rw [Bq.Finite.Ax,Aw,A5m (show (i:Int)<(x.length:Int) by omega),A5l,A5m (show (0:Int)≤(i:Int) by omega),A5r,A5l,A5n,hu i (by omega),A5l,Kj (by omega),List.all_cons]
   cases Dm (x.getD i 0) with
   | false=>rfl
   | true =>
     rw [A6k,A5p,Ap (by omega) (by omega),A6y]
     exact ih (i+1) F (by omega) (by omega)
theorem Bq.Finite.known:Bq.Finite.Kn:=Bq.Finite.Ae (.cons A1.Finite.known .nil) fun x hp=>by
 have hp:D7 x=true:=hp
 refine ⟨x.length+1,Bq.Finite.out [.l x],[],?_,.bool⟩
 show _=some (DV.bool (x.all Dm))
 rw [Bq.Finite.ev]
 exact Yu _ hp x.length 0 (x.length+1) (by omega) (by omega)
theorem Aq.Check.known:Aq.Check.Kn:=Aq.Check.Ae (.cons Bq.Finite.known (.cons Bo.G7.known .nil)) fun r c l hp=>by
 have hp:Ak l=true:=hp
 refine ⟨0,Aq.Check.out [.i r,.i c,.l l],[],?_,.int⟩
 show _=some (DV.int .i64 (Da r c l))
 rw [Aq.Check.ev]
 unfold Da
 by_cases h:Be r c l=true
 ·have:=I2 h
  rw [h,A6k,A5p,Mz hp (by omega),A5l,A58 rfl]
  cases Fm l<;>rfl
 ·have h':Be r c l=false:=by simpa using h
  rw [h']; rfl
section
variable {n Q:Nat} {l m:List Int}
end
open Go Go.Den Go.Cv Go.Proofs
set_option maxRecDepth 100000
namespace EqRoot
def root.G2.hint:Nat→Option Bf
 | 0=>some { keep:=[0,4,5,6,14],objs:=[],boxes:=[] }
 | _=>none
def root.G2.Bi:List (Nat × Entry):=[]
def root.G2.E:Env:=Bn (Bh root.G2.Bi) (fun _=>false) root.G2.hint (fun _=>none)
section
variable (N M:Nat) (m p4 p5 p6 p14:Int)
def root.G2.L0:Option DV:=Ce root.G2.E N f265 (Au f265) [1,1,0,1,0] [] M ⟨Ik 68 [(0,.int .u64 m),(4,.int .u64 p4),(5,.int .u64 p5),(6,.int .u64 p6),(14,.int .i64 p14)],[]⟩
theorem root.G2.Ax:root.G2.L0 N (M+1) m p4 p5 p6 p14=bif (Ba p14 64) then bif (Ba p14 32) then bif (decide (0≤(Ac ((62:Int)-(Ac ((2:Int)*p14)))))) then bif (decide ((He (Jf .u64 (B5 .u64 p6 2) (Gy .u64 (D1 .u64 m (Ac ((62:Int)-(Ac ((2:Int)*p14))))) 3)) (Jf .u64 (B5 .u64 p4 2) 1) 0)≤1)) then bif ((He (Jf .u64 (B5 .u64 p5 2) (D1 .u64 p6 62)) (D1 .u64 p4 62) (He (Jf .u64 (B5 .u64 p6 2) (Gy .u64 (D1 .u64 m (Ac ((62:Int)-(Ac ((2:Int)*p14))))) 3)) (Jf .u64 (B5 .u64 p4 2) 1) 0))==(0:Int)) then root.G2.L0 N M m (Jf .u64 (B5 .u64 p4 1) 1) (Oz (Jf .u64 (B5 .u64 p5 2) (D1 .u64 p6 62)) (D1 .u64 p4 62) (He (Jf .u64 (B5 .u64 p6 2) (Gy .u64 (D1 .u64 m (Ac ((62:Int)-(Ac ((2:Int)*p14))))) 3)) (Jf .u64 (B5 .u64 p4 2) 1) 0)) (Oz (Jf .u64 (B5 .u64 p6 2) (Gy .u64 (D1 .u64 m (Ac ((62:Int)-(Ac ((2:Int)*p14))))) 3)) (Jf .u64 (B5 .u64 p4 2) 1) 0) (Ac (p14+1)) else root.G2.L0 N M m (B5 .u64 p4 1) (Jf .u64 (B5 .u64 p5 2) (D1 .u64 p6 62)) (Jf .u64 (B5 .u64 p6 2) (Gy .u64 (D1 .u64 m (Ac ((62:Int)-(Ac ((2:Int)*p14))))) 3)) (Ac (p14+1)) else none else none else bif (decide ((He (Jf .u64 (B5 .u64 p6 2) 0) (Jf .u64 (B5 .u64 p4 2) 1) 0)≤1)) then bif ((He (Jf .u64 (B5 .u64 p5 2) (D1 .u64 p6 62)) (D1 .u64 p4 62) (He (Jf .u64 (B5 .u64 p6 2) 0) (Jf .u64 (B5 .u64 p4 2) 1) 0))==(0:Int)) then root.G2.L0 N M m (Jf .u64 (B5 .u64 p4 1) 1) (Oz (Jf .u64 (B5 .u64 p5 2) (D1 .u64 p6 62)) (D1 .u64 p4 62) (He (Jf .u64 (B5 .u64 p6 2) 0) (Jf .u64 (B5 .u64 p4 2) 1) 0)) (Oz (Jf .u64 (B5 .u64 p6 2) 0) (Jf .u64 (B5 .u64 p4 2) 1) 0) (Ac (p14+1)) else root.G2.L0 N M m (B5 .u64 p4 1) (Jf .u64 (B5 .u64 p5 2) (D1 .u64 p6 62)) (Jf .u64 (B5 .u64 p6 2) 0) (Ac (p14+1)) else none else some (.tup [.int .u64 p4,.bool (bif (p5==(0:Int)) then (p6==(0:Int)) else false)]) :=
 Eq.trans (by kernel_rfl)
 (Fe rfl (Ay (Rt (p5==(0:Int))) (Ay (N6 (p5==(0:Int))) (Ay (X5 (p5==(0:Int))) rfl))))
theorem root.G2.ev:Ci root.G2.E N f265 (Au f265) [.int .u64 m] =
 root.G2.L0 N N m 0 0 0 0:=by kernel_rfl
end
abbrev _root_.Go.Proofs.S1.root.G2.Kn:=A8 prog 265 root.G2.spec
theorem root.G2.Ae (hk:A4 prog root.G2.Bi) (h:Hyp root.G2.E f265 root.G2.ts root.G2.pre root.G2.out):root.G2.Kn :=
 Ar (A5 hk _ _ _) func265 (by kernel_rfl) (by kernel_rfl) h
def root.Sqrt.hint:Nat→Option Bf
 | 5=>some { keep:=[5,7,9],objs:=[],boxes:=[] }
 | _=>none
def root.Sqrt.Bi:List (Nat × Entry):=[(250,Cu.Bv.spec),(265,root.G2.spec),(155,soft.Kind.spec),(212,soft.Df.spec),(211,soft.F1.spec),(213,soft.Sign.spec)]
def root.Sqrt.E:Env:=Bn (Bh root.Sqrt.Bi) (fun _=>false) root.Sqrt.hint (fun _=>none)
section
variable (N:Nat) (a:Int) (M:Nat) (p5 p7:Int) (p9:Bool)
def root.Sqrt.L0:Option DV:=Ce root.Sqrt.E N f264 (Au f264) [1,1,1,1,1,1,1,1,1,0,0] [] M ⟨Ik 73 [(5,.int .i64 p5),(7,.int .u64 p7),(9,.bool p9)],[]⟩
theorem root.Sqrt.Ax:root.Sqrt.L0 N (M+1) p5 p7 p9=bif (Ev 4611686018427387904 p7) then root.Sqrt.L0 N M (Ac (p5+2)) (D1 .u64 p7 1) (bif p9 then true else ((Gy .u64 p7 1)==(1:Int))) else bif (El p7 (Ac ((Ac (Int.tdiv p5 2))-32)) p9) then some (.tup [.int .u64 (E6 false p7 (Ac ((Ac (Int.tdiv p5 2))-32)) p9),.int .u8 (E5 false p7 (Ac ((Ac (Int.tdiv p5 2))-32)) p9)]) else none :=
 Eq.trans (by kernel_rfl)
 (Fe (Ay (Z0 p9) (Ay (Yt p9) (Ay (Yt p9) (Ay (tt6 p9) rfl)))) rfl)
theorem root.Sqrt.ev:Ci root.Sqrt.E N f264 (Au f264) [.int .u64 a]=bif (Ao a) then bif ((A3 a)==(4:Int)) then some (.tup [.int .u64 9221120237041090560,.int .u8 0]) else bif (Ao a) then bif ((A3 a)==(0:Int)) then some (.tup [.int .u64 a,.int .u8 0]) else bif (a==(9218868437227405312:Int)) then some (.tup [.int .u64 a,.int .u8 0]) else bif (Ao a) then bif (Ea a) then some (.tup [.int .u64 9221120237041090560,.int .u8 16]) else bif (Ao a) then bif (Ao (Bt a)) then bif ((Int.tmod (Ac ((Bb a)-(Ac ((64-E7 (Bt a))-2)))) 2) !=(0:Int)) then bif (decide (0≤(Ac ((Ac ((64-E7 (Bt a))-2))-1)))) then bif (Cz (0≤(B5 .u64 (Bt a) (Ac ((Ac ((64-E7 (Bt a))-2))-1)))∧(B5 .u64 (Bt a) (Ac ((Ac ((64-E7 (Bt a))-2))-1)))<9223372036854775808)) then root.Sqrt.L0 N N (Ac ((Bb a)-(Ac ((Ac ((64-E7 (Bt a))-2))-1)))) (Vz (B5 .u64 (Bt a) (Ac ((Ac ((64-E7 (Bt a))-2))-1)))) (!(V0 (B5 .u64 (Bt a) (Ac ((Ac ((64-E7 (Bt a))-2))-1))))) else none else none else bif (decide (0≤(Ac ((64-E7 (Bt a))-2)))) then bif (Cz (0≤(B5 .u64 (Bt a) (Ac ((64-E7 (Bt a))-2)))∧(B5 .u64 (Bt a) (Ac ((64-E7 (Bt a))-2)))<9223372036854775808)) then root.Sqrt.L0 N N (Ac ((Bb a)-(Ac ((64-E7 (Bt a))-2)))) (Vz (B5 .u64 (Bt a) (Ac ((64-E7 (Bt a))-2)))) (!(V0 (B5 .u64 (Bt a) (Ac ((64-E7 (Bt a))-2))))) else none else none else none else none else none else none else none:=by kernel_rfl
end
abbrev _root_.Go.Proofs.S1.root.Sqrt.Kn:=A8 prog 264 root.Sqrt.spec
theorem root.Sqrt.Ae (hk:A4 prog root.Sqrt.Bi) (h:Hyp root.Sqrt.E f264 root.Sqrt.ts root.Sqrt.pre root.Sqrt.out):root.Sqrt.Kn :=
 Ar (A5 hk _ _ _) func264 (by kernel_rfl) (by kernel_rfl) h
def Af.Sqrt.Bi:List (Nat × Entry):=[(264,root.Sqrt.spec)]
def Af.Sqrt.E:Env:=Bn (Bh Af.Sqrt.Bi) (fun _=>false) (fun _=>none) (fun _=>none)
theorem Af.Sqrt.ev (N:Nat) (a:Int):Ci Af.Sqrt.E N f262 (Au f262) [.int .u64 a]=bif (Ao a) then some (.int .u64 (Hx a)) else none:=by kernel_rfl
abbrev _root_.Go.Proofs.S1.Af.Sqrt.Kn:=A8 prog 262 Af.Sqrt.spec
theorem Af.Sqrt.Ae (hk:A4 prog Af.Sqrt.Bi) (h:Hyp Af.Sqrt.E f262 Af.Sqrt.ts Af.Sqrt.pre Af.Sqrt.out):Af.Sqrt.Kn :=
 Ar (A5 hk _ _ _) func262 (by kernel_rfl) (by kernel_rfl) h
def compare.Ll.Bi:List (Nat × Entry):=[(261,Cu.Lh.spec),(148,soft.Finite.spec),(155,soft.Kind.spec),(211,soft.F1.spec)]
def compare.Ll.E:Env:=Bn (Bh compare.Ll.Bi) (fun _=>false) (fun _=>none) (fun _=>none)
theorem compare.Ll.ev (N:Nat) (a:Int):Ci compare.Ll.E N f255 (Au f255) [.int .u64 a]=bif (Ao a) then bif ((!(Dm a))||(Ao a)) then bif ((!(Dm a))||((A3 a)==(0:Int))) then some (.int .i64 0) else bif (Ao a) then bif (Ao (Bt a)) then some (.int .i64 (Ac ((Ac ((E7 (Bt a))-1))+(Bb a)))) else none else none else none else none :=
 Eq.trans (by kernel_rfl)
 (Fe (Ay (Agx (Dm a)) (C4 (Aqy _ _) (Ay (Wz (Dm a)) (Ay (Agy (Dm a)) (C4 (Ayz _ _) rfl rfl))) rfl)) rfl)
abbrev _root_.Go.Proofs.S1.compare.Ll.Kn:=A8 prog 255 compare.Ll.spec
theorem compare.Ll.Ae (hk:A4 prog compare.Ll.Bi) (h:Hyp compare.Ll.E f255 compare.Ll.ts compare.Ll.pre compare.Ll.out):compare.Ll.Kn :=
 Ar (A5 hk _ _ _) func255 (by kernel_rfl) (by kernel_rfl) h
def Af.Norm.hint:Nat→Option Bf
 | 0=>some { keep:=[5,6,25,26,27],objs:=[],boxes:=[] }
 | _=>none
def Af.Norm.Bi:List (Nat × Entry):=[(255,compare.Ll.spec),(148,soft.Finite.spec),(226,Af.Add.spec),(89,Af.C0.spec),(157,Af.Mul.spec),(88,Af.B6.spec),(262,Af.Sqrt.spec)]
def Af.Norm.E:Env:=Bn (Bh Af.Norm.Bi) (fun _=>false) Af.Norm.hint (fun _=>none)
section
variable (N M:Nat) (x:List Int) (p6 p27:Int)
def Af.Norm.L0:Option DV:=Ce Af.Norm.E N f257 (Au f257) [1,1,1,1,1,1,0,1,0] [] M ⟨Ik 45 [(5,.int .i64 (Bj (A9 x))),(6,.int .u64 p6),(25,.ints .arg .u64 x),(26,.int .i64 (length x:Int)),(27,.int .i64 p27)],[]⟩
theorem Af.Norm.Ax:Af.Norm.L0 N (M+1) x p6 p27=bif (Ba p27 (length x:Int)) then bif ((decide (0≤p27))&&(decide (p27<(length x:Int)))) then bif (Gf (getD x (toNat p27) 0) (Ac (0-(Bj (A9 x))))) then bif (Ao (Cc (getD x (toNat p27) 0) (Ac (0-(Bj (A9 x)))))&&Ao (Cc (getD x (toNat p27) 0) (Ac (0-(Bj (A9 x)))))) then bif (Ao p6&&Ao (Em (Cc (getD x (toNat p27) 0) (Ac (0-(Bj (A9 x))))) (Cc (getD x (toNat p27) 0) (Ac (0-(Bj (A9 x))))))) then Af.Norm.L0 N M x (Le p6 (Em (Cc (getD x (toNat p27) 0) (Ac (0-(Bj (A9 x))))) (Cc (getD x (toNat p27) 0) (Ac (0-(Bj (A9 x))))))) (Ac (p27+1)) else none else none else none else none else bif (Ao p6) then bif (Gf (Hx p6) (Bj (A9 x))) then some (.tup [.int .u64 (Cc (Hx p6) (Bj (A9 x))),.int .i64 0]) else none else none:=by kernel_rfl
theorem Af.Norm.ev:Ci Af.Norm.E N f257 (Au f257) [.ints .arg .u64 x]=bif (Ba 64 (length x:Int)) then some (.tup [.int .u64 0,.int .i64 3]) else bif (D7 x) then bif (((A9 x)==(0:Int))||(Ao (A9 x))) then bif (((A9 x)==(0:Int))||(!(Dm (A9 x)))) then some (.tup [.int .u64 (A9 x),.int .i64 0]) else bif (Ao (A9 x)) then Af.Norm.L0 N N x 0 (0:Int) else none else none else none :=
 Eq.trans (by kernel_rfl)
 (Fe rfl (Fe (Ay (Z0 ((A9 x)==(0:Int))) (C4 (A30 _ _) (Ay (Yt ((A9 x)==(0:Int))) (Ay (tt6 ((A9 x)==(0:Int))) (C4 (A3z _ _) rfl rfl))) rfl)) rfl))
end
abbrev _root_.Go.Proofs.S1.Af.Norm.Kn:=A8 prog 257 Af.Norm.spec
theorem Af.Norm.Ae (hk:A4 prog Af.Norm.Bi) (h:Hyp Af.Norm.E f257 Af.Norm.ts Af.Norm.pre Af.Norm.out):Af.Norm.Kn :=
 Ar (A5 hk _ _ _) func257 (by kernel_rfl) (by kernel_rfl) h
end EqRoot
open Go Go.Den Go.Cv Go.Proofs
open EqRoot
theorem Ws (n s:Nat) (h:s≤64):D1 .u64 (n:Int) (s:Int)=((n / 2^s:Nat):Int):=H8 .u64 n s h
theorem sh2 {n t:Nat} (ht:t<4):Jf .u64 (B5 .u64 (n:Int) (2:Int)) (t:Int)=((n%2^62*4+t:Nat):Int):=by
 rw [show (2:Int)=((2:Nat):Int) from rfl,Gg n 2 (by decide),show n*2^2%2^64=(n%2^62)*2^2 by omega]
 exact On ht (by omega)
theorem sh1 {n:Nat} (h:n<2^63):B5 .u64 (n:Int) (1:Int)=((2*n:Nat):Int):=by
 rw [show (1:Int)=((1:Nat):Int) from rfl,Gg n 1 (by decide)]
 congr 1; omega
theorem A4n {n:Nat} (h:n<2^63):Jf .u64 (B5 .u64 (n:Int) (1:Int)) (1:Int)=((2*n+1:Nat):Int):=by
 rw [show (1:Int)=((1:Nat):Int) from rfl,Gg n 1 (by decide),show n*2^1%2^64=n*2^1 by omega,A59 2 n]
 exact On (k:=1) (by decide) (by omega)
theorem Aqu {m i:Nat} (hi:i<32):Gy .u64 (D1 .u64 (m:Int) (Ac ((62:Int)-(Ac ((2:Int)*(i:Int)))))) (3:Int)=((m / 2^(62-2*i)%2^64%4:Nat):Int)∨2^64≤m:=by
 by_cases hm:m<2^64
 ·left
  rw [Ap (x:=(2:Int)*(i:Int)) (by omega) (by omega),Ap (x:=(62:Int)-2*(i:Int)) (by omega) (by omega),show (62:Int)-2*(i:Int)=((62-2*i:Nat):Int) by omega,Ws _ _ (by omega)]
  have hd:m / 2^(62-2*i)<2^64:=A6n (Nat.div_le_self _ _) hm
  rw [show (3:Int)=((2^2-1:Nat):Int) from rfl,I7 2 hd (by decide)]
  congr 1
  omega
 ·right; omega
def Ty (m i:Nat):Nat:=m*2^64 / 2^(128-2*i)
theorem Arx {m i:Nat} (hi:i<32):Ty m (i+1)=4*Ty m i+m / 2^(62-2*i)%4:=by
 unfold Ty
 have e1:128-2*i=64+(64-2*i):=by omega
 have e2:128-2*(i+1)=64+(62-2*i):=by omega
 rw [e1,e2,A6a,A6a,A59 (2^64),A59 (2^64),Nat.mul_div_mul_right _ _ (by decide),Nat.mul_div_mul_right _ _ (by decide),show 64-2*i=(62-2*i)+2 by omega,A6a,← A6e]
 omega
theorem Aoc {m i:Nat} (hi:32≤i) (h:i<64):Ty m (i+1)=4*Ty m i:=by
 unfold Ty
 have e1:(2:Nat)^64=2^(2*i-64)*2^(128-2*i):=by rw [← A6a]; congr 1; omega
 have e2:(2:Nat)^64=2^(2*i-64)*4*2^(128-2*(i+1)):=by
  rw [show (4:Nat)=2^2 from rfl,← A6a,← A6a]; congr 1; omega
 have a1:m*2^64 / 2^(128-2*i)=m*2^(2*i-64):=by rw [e1,← A6c,Nat.mul_div_cancel _ (B4 _)]
 have a2:m*2^64 / 2^(128-2*(i+1))=m*(2^(2*i-64)*4):=by rw [e2,← A6c,Nat.mul_div_cancel _ (B4 _)]
 rw [a1,a2,← A6c,A59 4]
theorem Avq {A B tl th:Nat} (hA:A<2^64) (htl:tl<2^64) (hB:B<2^64) (hth:th<4) :
 (He (A:Int) (tl:Int) (0:Int)=0∨He (A:Int) (tl:Int) (0:Int)=1) ∧
 (th*2^64+tl≤B*2^64+A→(He (B:Int) (th:Int) (He (A:Int) (tl:Int) (0:Int))==(0:Int))=true ∧
  ∃ h l:Nat,Oz (B:Int) (th:Int) (He (A:Int) (tl:Int) (0:Int))=(h:Int)∧Oz (A:Int) (tl:Int) (0:Int)=(l:Int)∧l<2^64∧h*2^64+l=B*2^64+A-(th*2^64+tl)) ∧
 (B*2^64+A<th*2^64+tl→(He (B:Int) (th:Int) (He (A:Int) (tl:Int) (0:Int))==(0:Int))=false):=by
 have e1:He (A:Int) (tl:Int) (0:Int)=((if A<tl then 1 else 0:Nat):Int):=by
  unfold He
  rw [A5n,A5n]
  rfl
 by_cases h:A<tl
 ·rw [A58 h] at e1
  rw [e1]
  have e2:He (B:Int) (th:Int) ((1:Nat):Int)=((if B<th+1 then 1 else 0:Nat):Int):=by
   unfold He
   rw [A5n,A5n]
   rfl
  refine ⟨.inr rfl,fun hle=>?_,fun hlt=>?_⟩
  ·rw [A57 (by omega)] at e2
   rw [e2]
   refine ⟨rfl,B-th-1,A+2^64-tl,?_,?_,by omega,by omega⟩
   ·unfold Oz
    rw [A5n,A5n,A5n]
    congr 1; omega
   ·unfold Oz
    rw [A5n,A5n]
    show ((_:Nat):Int)=_
    congr 1
    show (A+18446744073709551616-tl-0)%18446744073709551616=_
    omega
  ·rw [A58 (by omega)] at e2
   rw [e2]; rfl
 ·rw [A57 h] at e1
  rw [e1]
  have e2:He (B:Int) (th:Int) ((0:Nat):Int)=((if B<th then 1 else 0:Nat):Int):=by
   unfold He
   rw [A5n,A5n]
   rfl
  refine ⟨.inl rfl,fun hle=>?_,fun hlt=>?_⟩
  ·rw [A57 (by omega)] at e2
   rw [e2]
   refine ⟨rfl,B-th,A-tl,?_,?_,by omega,by omega⟩
   ·unfold Oz
    rw [A5n,A5n,A5n]
    congr 1; omega
   ·unfold Oz
    rw [A5n,A5n]
    show ((_:Nat):Int)=_
    congr 1
    show (A+18446744073709551616-tl-0)%18446744073709551616=_
    omega
  ·rw [A58 (by omega)] at e2
   rw [e2]; rfl
theorem glue (n t:Nat):n / 2^62*2^64+(n%2^62*4+t)=4*n+t:=by omega
theorem Aoy (N:Nat) {m:Nat} (hm:m<2^63):∀ (k i F rt rest:Nat),i+k=64→k<F→Ty m i=rt*rt+rest→rest≤2*rt→rt<2^i→∀ hi lo:Nat,hi*2^64+lo=rest→lo<2^64 →
 root.G2.L0 N F (m:Int) (rt:Int) (hi:Int) (lo:Int) (i:Int)=some (.tup [.int .u64 (Vz m),.bool (V0 m)]):=by
 intro k
 induction k with
 | zero =>
   intro i F rt rest hi hF hP hr hb h l e hl
   obtain ⟨F,rfl⟩:∃ G,F=G+1:=⟨F-1,by omega⟩
   obtain rfl:i=64:=by omega
   have hP':m*2^64=rt*rt+rest:=by
    rw [← hP]; unfold Ty
    rw [show 128-2*64=0 from rfl,A6j,Nat.div_one]
   have hroot:=Av5 hP' hr
   rw [root.G2.Ax,Aw,A5q (by omega),A5p]
   have e1:Vz (m:Int)=(rt:Int):=by unfold Vz; rw [A5n,← hroot]
   have e2:V0 (m:Int)=(bif ((h:Int)==(0:Int)) then ((l:Int)==(0:Int)) else false):=by
    unfold V0
    rw [A5n,← hroot,hP']
    by_cases h0:h=0
    ·subst h0
     rw [show (((0:Nat):Int)==(0:Int))=true from rfl,A5l,A51,A5s,beq_iff_eq]
     omega
    ·rw [show ((h:Int)==(0:Int))=false by rw [A6g]; omega,A5p,A5q]
     omega
   rw [e1,e2]
 | succ k ih =>
   intro i F rt rest hi hF hP hr hb h l e hl
   obtain ⟨F,rfl⟩:∃ G,F=G+1:=⟨F-1,by omega⟩
   have hp:2^i≤2^63:=A50 (by decide) (by omega)
   have hi63:2^(i+1)=2*2^i:=by rw [Nat.pow_succ,A59]
   have f1:2*rt+1<2^(i+1):=by rw [hi63]; omega
   have f2:2*rt<2^(i+1):=by omega
   have hh:h=0:=by omega
   subst hh
   have hrest:rest=l:=by omega
   subst hrest
   obtain ⟨two,t4,hP',hcode⟩:∃ two:Nat,two<4∧Ty m (i+1)=4*Ty m i+two ∧
    root.G2.L0 N (F+1) (m:Int) (rt:Int) ((0:Nat):Int) (rest:Int) (i:Int) =
    (bif (decide ((He (Jf .u64 (B5 .u64 (rest:Int) (2:Int)) (two:Int)) (Jf .u64 (B5 .u64 (rt:Int) (2:Int)) (1:Int)) (0:Int))≤1)) then
     bif ((He (Jf .u64 (B5 .u64 ((0:Nat):Int) (2:Int)) (D1 .u64 (rest:Int) (62:Int))) (D1 .u64 (rt:Int) (62:Int)) (He (Jf .u64 (B5 .u64 (rest:Int) (2:Int)) (two:Int)) (Jf .u64 (B5 .u64 (rt:Int) (2:Int)) (1:Int)) (0:Int)))==(0:Int)) then
      root.G2.L0 N F (m:Int) (Jf .u64 (B5 .u64 (rt:Int) (1:Int)) (1:Int)) (Oz (Jf .u64 (B5 .u64 ((0:Nat):Int) (2:Int)) (D1 .u64 (rest:Int) (62:Int))) (D1 .u64 (rt:Int) (62:Int)) (He (Jf .u64 (B5 .u64 (rest:Int) (2:Int)) (two:Int)) (Jf .u64 (B5 .u64 (rt:Int) (2:Int)) (1:Int)) (0:Int))) (Oz (Jf .u64 (B5 .u64 (rest:Int) (2:Int)) (two:Int)) (Jf .u64 (B5 .u64 (rt:Int) (2:Int)) (1:Int)) (0:Int)) (Ac ((i:Int)+(1:Int)))
     else root.G2.L0 N F (m:Int) (B5 .u64 (rt:Int) (1:Int)) (Jf .u64 (B5 .u64 ((0:Nat):Int) (2:Int)) (D1 .u64 (rest:Int) (62:Int))) (Jf .u64 (B5 .u64 (rest:Int) (2:Int)) (two:Int)) (Ac ((i:Int)+(1:Int)))
    else none):=by
    by_cases h32:i<32
    ·refine ⟨m / 2^(62-2*i)%4,Nat.mod_lt _ (by decide),Arx h32,?_⟩
     have ht:=(Aqu (m:=m) h32).resolve_right (by omega)
     have hq:m / 2^(62-2*i)%2^64%4=m / 2^(62-2*i)%4:=by omega
     rw [hq] at ht
     rw [root.G2.Ax,Aw,A5m (show (i:Int)<64 by omega),A5l,Aw,A5m (show (i:Int)<32 by omega),A5l,ht,Ap (x:=(2:Int)*(i:Int)) (by omega) (by omega),Ap (x:=(62:Int)-2*(i:Int)) (by omega) (by omega),A5m (show (0:Int)≤62-2*(i:Int) by omega),A5l]
    ·refine ⟨0,by decide,by rw [Aoc (by omega) (by omega),A6t],?_⟩
     rw [root.G2.Ax,Aw,A5m (show (i:Int)<64 by omega),A5l,Aw,A5q (show ¬ (i:Int)<32 by omega),A5p]
     rfl
   obtain ⟨s1,s2⟩:=Ak0 hP hr t4
   have eA:=sh2 (n:=rest) t4
   have eT:=sh2 (n:=rt) (t:=1) (by decide)
   have eB:Jf .u64 (B5 .u64 ((0:Nat):Int) (2:Int)) (D1 .u64 (rest:Int) (62:Int))=((rest / 2^62:Nat):Int):=by
    rw [show (62:Int)=((62:Nat):Int) from rfl,Ws _ _ (by decide),sh2 (n:=0) (t:=rest / 2^62) (by omega)]
    congr 1; omega
   have eH:D1 .u64 (rt:Int) (62:Int)=((rt / 2^62:Nat):Int):=by rw [show (62:Int)=((62:Nat):Int) from rfl,Ws _ _ (by decide)]
   have eT':Jf .u64 (B5 .u64 (rt:Int) (2:Int)) (1:Int)=((rt%2^62*4+1:Nat):Int):=eT
   obtain ⟨b1,b2,b3⟩:=Avq (A:=rest%2^62*4+two) (B:=rest / 2^62) (tl:=rt%2^62*4+1) (th:=rt / 2^62) (by omega) (by omega) (by omega) (by omega)
   rw [hcode,eA,eT',eB,eH,A5m (by rcases b1 with b | b<;>rw [b]<;>decide),A5l,Ap (by omega) (by omega)]
   by_cases hc:4*rt+1≤4*rest+two
   ·obtain ⟨c1,hh,ll,c2,c3,c4,c5⟩:=b2 (by rw [glue,glue]; exact hc)
    obtain ⟨d1,d2⟩:=s1 hc
    rw [c1,A5l,c2,c3,A4n (by omega)]
    refine ih (i+1) F (2*rt+1) (4*rest+two-(4*rt+1)) (by omega) (by omega) (hP'.trans d1) d2 f1 hh ll ?_ c4
    rw [c5,glue,glue]
   ·rw [b3 (by rw [glue,glue]; omega),A5p,sh1 (by omega)]
    obtain ⟨d1,d2⟩:=s2 (by omega)
    refine ih (i+1) F (2*rt) (4*rest+two) (by omega) (by omega) (hP'.trans d1) d2 f2 _ _ (glue _ _) ?_
    clear hcode
    omega
theorem root.G2.known:root.G2.Kn:=root.G2.Ae .nil fun m hp=>by
 have hp:=As.1 hp
 obtain ⟨n,rfl⟩:∃ n:Nat,m=n:=⟨m.toNat,by omega⟩
 refine ⟨65,root.G2.out [.i n],[],?_,Wk.Jc (.cons .int (.cons .bool .nil))⟩
 rw [root.G2.ev]
 have h0:Ty n 0=0*0+0:=by
  unfold Ty
  rw [Nat.div_eq_of_lt]
  show n*18446744073709551616<340282366920938463463374607431768211456
  omega
 exact Aoy 65 (by omega) 64 0 65 0 0 rfl (by omega) h0 (A6f 0) Nat.one_pos 0 0 rfl (Nat.pow_pos (by decide))
open Go Go.Den Go.Cv Go.Proofs
open EqRoot
theorem Abf {b:Nat} (h:An b≠0):E7 (An b:Int)=((An b).log2:Int)+1:=by
 unfold E7
 rw [A57 (by omega),A5n]
theorem Anu {w:Nat} {E:Int} {s:Bool} (hw:2^62≤w) (n:Nat) (h:Lj n=w) (hs:s=decide (w*w≠n)) :
 Gz false (w / 2) (E+2) (bif s then true else decide (w%2=1))=(B1 (Ek n) E,flagsOf (Ek n) E):=by
 have e1:Ek n / 2^2=w / 2:=by unfold Ek; rw [h]; split<;>omega
 have e2:(bif s then true else decide (w%2=1))=decide (Ek n%2^2≠0):=by
  rw [hs]
  unfold Ek
  rw [h]
  by_cases h0:w*w=n
  ·rw [A5q (by omega),A5p,A58 h0,decide_eq_decide]; omega
  ·rw [A5m h0,A5l,A57 h0]; symm; exact A5m (by omega)
 rw [← e1]
 have:=Vw false (V:=Ek n) (k:=2) (E:=E) (e:=E+2) rfl e2 (by rw [e1]; omega) (by left; rw [e1]; omega)
 rw [H5] at this
 exact this
theorem root.Sqrt.num {b:Nat} (hb:b<2^64) (h4:Aj b≠4) (h:¬ (Aj b=0∨b=Eo)) (hn:Br b=false) {z:Nat} (hz:2^60≤An b*2^z) (hz2:An b*2^z<2^62) (he:(Av b-(z:Int))%2=0) (z60:z≤62) :
 root.Sqrt.L0 2 2 (Av b-(z:Int)) (Vz ((An b*2^z:Nat):Int)) (!(V0 ((An b*2^z:Nat):Int)))=some (.tup [.int .u64 (Hx (b:Int)),.int .u8 (Ru (b:Int))]):=by
 have hE:=Cq b
 have hM:=Fi b
 have h3:Aj b≠3:=fun h3=>by
  refine h (.inr ?_)
  have hpn:Br b=false:=hn
  unfold Br at hpn
  have hlt:b<2^63:=by simpa using hpn
  unfold Aj at h3
  have hp:=Kz b
  unfold Dx at h3
  unfold C2 at h3
  unfold Eo
  split at h3
  ·split at h3
   ·omega
   ·omega
  ·split at h3
   ·omega
   ·split at h3<;>omega
 have hm:An b≠0:=fun h0=>h (.inl ((Dc h3 h4).1 h0))
 have eN:An b*2^z*2^64=An b*2^(z+64):=by rw [A6c,← A6a]
 have i1:2^62≤Lj (An b*2^z*2^64):=V8 (t:=62) (by omega)
 have i2:=(Mo (An b*2^z*2^64)).1
 have i3:Lj (An b*2^z*2^64)<2^63:=by
  refine Ag6 (A6n i2 ?_)
  show _<9223372036854775808*9223372036854775808
  omega
 have r1:Vz ((An b*2^z:Nat):Int)=(Lj (An b*2^z*2^64):Int):=by unfold Vz; rw [A5n]
 have r2:(!(V0 ((An b*2^z:Nat):Int)))=decide (Lj (An b*2^z*2^64)*Lj (An b*2^z*2^64)≠An b*2^z*2^64):=by
  unfold V0; rw [A5n,← decide_not]
 obtain ⟨k1,k2⟩:=Vm hm
 have same:=An6 (m:=An b) (k:=z+64) (l:=Fh b) (E:=(Av b-(z:Int)) / 2-33) (F:=(Av b-(Fh b:Int)) / 2-1) (by rw [← eN]; omega) k1 (by omega)
 rw [← eN] at same
 have near:=Anu (E:=(Av b-(z:Int)) / 2-33) i1 _ rfl r2
 rw [same.1,same.2] at near
 have sq:Hg b=_:=Vd h4 h hn
 rw [r1,r2]
 rw [r2] at near
 generalize Lj (An b*2^z*2^64)=w at *
 have w1:Ev (4611686018427387904:Int) (w:Int)=true:=by rw [E3]; exact A5m (by omega)
 have w2:D1 .u64 (w:Int) (1:Int)=((w / 2:Nat):Int):=by rw [show (1:Int)=((1:Nat):Int) from rfl,Ws _ _ (by decide)]
 have w3:((Gy .u64 (w:Int) (1:Int))==(1:Int))=decide (w%2=1):=by
  rw [show Gy .u64 (w:Int) (1:Int)=((w%2^1:Nat):Int) from I7 1 (by omega) (by decide),A51,beq_iff_eq,A5s]
  omega
 have w4:Ev (4611686018427387904:Int) ((w / 2:Nat):Int)=false:=by rw [E3]; exact A5q (by omega)
 have w5:Ac (Ac (Int.tdiv (Av b-(z:Int)+2) 2)-32)=(Av b-(z:Int)) / 2-33+2:=by
  have:Int.tdiv (Av b-(z:Int)+2) 2=(Av b-(z:Int)) / 2+1:=by
   rw [Int.tdiv_eq_ediv]
   split<;>omega
  rw [this,Ap (x:=(Av b-(z:Int)) / 2+1) (by omega) (by omega),Ap (by omega) (by omega)]
  omega
 have w6:Ac (Av b-(z:Int)+2)=Av b-(z:Int)+2:=Ap (by omega) (by omega)
 generalize hs:decide (w*w≠An b*2^z*2^64)=s at *
 have pre:El ((w / 2:Nat):Int) ((Av b-(z:Int)) / 2-33+2) (bif s then true else decide (w%2=1))=true:=As.2 ⟨by omega,by omega,by omega,by omega,fun _=>.inl (by omega)⟩
 rw [show (2:Nat)=1+1 from rfl,root.Sqrt.Ax,w1,A5l,w2,w3,w6,show (1:Nat)=0+1 from rfl,root.Sqrt.Ax,w4,A5p,w5,pre,A5l]
 unfold E6 E5 Hx Ru
 rw [A5n,A5n,near,sq]
theorem root.Sqrt.known:root.Sqrt.Kn:=root.Sqrt.Ae (.cons Cu.Bv.known (.cons root.G2.known (.cons soft.Kind.known (.cons soft.Df.known (.cons soft.F1.known (.cons soft.Sign.known .nil)))))) fun a hp=>by
 obtain ⟨b,rfl,hb⟩:=Cb (x:=a) hp
 refine ⟨2,root.Sqrt.out [.i b],[],?_,Wk.Jc (.cons .int (.cons .int .nil))⟩
 show _=some (DV.tup [.int .u64 (Hx (b:Int)),.int .u8 (Ru (b:Int))])
 have hk:A3 (b:Int)=(Aj b:Int):=rfl
 rw [root.Sqrt.ev,Ck hb,A5l,A5l,A5l,A5l,hk]
 by_cases h4:Aj b=4
 ·rw [h4,show (((4:Nat):Int)==(4:Int))=true from rfl,A5l]
  unfold Hx Ru
  rw [A5n,Z9 h4]; rfl
 have k4:(((Aj b:Nat):Int)==(4:Int))=false:=by rw [A6g]; omega
 rw [k4,A5p]
 by_cases h0:Aj b=0
 ·rw [h0,show (((0:Nat):Int)==(0:Int))=true from rfl,A5l]
  unfold Hx Ru
  rw [A5n,Nu h4 (.inl h0)]; rfl
 have k0:(((Aj b:Nat):Int)==(0:Int))=false:=by rw [A6g]; omega
 rw [k0,A5p]
 by_cases hi:b=Eo
 ·rw [show (((b:Nat):Int)==(9218868437227405312:Int))=true by rw [hi]; rfl,A5l]
  unfold Hx Ru
  rw [A5n,Nu h4 (.inr hi)]; rfl
 have ki:(((b:Nat):Int)==(9218868437227405312:Int))=false:=by
  rw [A6g]; intro hh; refine hi (show b=9218868437227405312 from ?_); omega
 rw [ki,A5p]
 have hh:¬ (Aj b=0∨b=Eo):=by rintro (h | h); exact h0 h; exact hi h
 have hneg:Ea (b:Int)=Br b:=rfl
 rw [hneg]
 cases hn:Br b with
 | true =>
   rw [A5l]
   unfold Hx Ru
   rw [A5n,Ag5 h4 hh hn]; rfl
 | false =>
   rw [A5p]
   have hm:An b≠0:=fun hz=>by
    have h3:Aj b≠3:=fun h3=>by
     rcases J4 b with ⟨p,_,_⟩ | ⟨_,_,q⟩ | ⟨_,q,_⟩
     ·unfold An at hz
      rw [A57 (by omega)] at hz
      omega
     ·omega
     ·exact q h3
    exact hh (.inl ((Dc h3 h4).1 hz))
   have hM:=Fi b
   have hE:=Cq b
   have hl:(An b).log2≤52:=by have:=(A61 hm).2 (show An b<2^53 by omega); omega
   have e1:Bt (b:Int)=(An b:Int):=rfl
   have e2:Bb (b:Int)=Av b:=rfl
   have l1:∀ z:Nat,(An b).log2+z=60∨(An b).log2+z=61→2^60≤An b*2^z∧An b*2^z<2^62:=by
    intro z hz
    have hlz:=Od (An b) z hm
    have hne:An b*2^z≠0:=J2 hm
    constructor
    ·rw [← Nat.le_log2 hne]; omega
    ·rw [← A61 hne]; omega
   have ez:Ac ((64-(((An b).log2:Int)+1))-(2:Int))=((61-(An b).log2:Nat):Int):=by rw [Ap (by omega) (by omega)]; omega
   have ez':Ac (((61-(An b).log2:Nat):Int)-(1:Int))=((60-(An b).log2:Nat):Int):=by rw [Ap (by omega) (by omega)]; omega
   rw [e1,e2,Ck (n:=An b) (by omega),A5l,Abf hm,ez,ez',Ap (x:=Av b-((61-(An b).log2:Nat):Int)) (by omega) (by omega),Ap (x:=Av b-((60-(An b).log2:Nat):Int)) (by omega) (by omega)]
   by_cases hp2:(Av b-((61-(An b).log2:Nat):Int))%2=0
   ·have t0:(Int.tmod (Av b-((61-(An b).log2:Nat):Int)) (2:Int) !=(0:Int))=false:=by
     rw [bne_eq_false_iff_eq]; exact Int.tmod_eq_zero_of_dvd (Int.dvd_of_emod_eq_zero hp2)
    obtain ⟨m1,m2⟩:=l1 (61-(An b).log2) (by omega)
    rw [t0,A5p,A5m (by omega),A5l,Gg _ _ (by omega),A5y (by omega),As.2 (by omega),A5l]
    exact root.Sqrt.num hb h4 hh hn m1 m2 hp2 (by omega)
   ·have t0:(Int.tmod (Av b-((61-(An b).log2:Nat):Int)) (2:Int) !=(0:Int))=true:=by
     rw [bne_iff_ne]; intro hz; exact hp2 (Int.emod_eq_zero_of_dvd (Int.dvd_of_tmod_eq_zero hz))
    obtain ⟨m1,m2⟩:=l1 (60-(An b).log2) (by omega)
    rw [t0,A5l,A5m (by omega),A5l,Gg _ _ (by omega),A5y (by omega),As.2 (by omega),A5l]
    exact root.Sqrt.num hb h4 hh hn m1 m2 (by omega) (by omega)
theorem Af.Sqrt.known:Af.Sqrt.Kn:=Af.Sqrt.Ae (.cons root.Sqrt.known .nil) fun a hp=>by
 have hp:Ao a=true:=hp
 refine ⟨0,Af.Sqrt.out [.i a],[],?_,.int⟩
 rw [Af.Sqrt.ev,hp]; rfl
theorem compare.Ll.known:compare.Ll.Kn:=compare.Ll.Ae (.cons Cu.Lh.known (.cons soft.Finite.known (.cons soft.Kind.known (.cons soft.F1.known .nil)))) fun a hp=>by
 obtain ⟨b,rfl,hb⟩:=Cb (x:=a) hp
 refine ⟨0,compare.Ll.out [.i b],[],?_,.int⟩
 show _=some (DV.int .i64 (Bj (b:Int)))
 have hk:A3 (b:Int)=(Aj b:Int):=rfl
 have hf:Dm (b:Int)=H0 b:=rfl
 have hE:=Cq b
 have hM:=Fi b
 rw [compare.Ll.ev,Ck hb,A5l,A6x,A5l,hk,hf]
 unfold Bj
 rw [A5n]
 unfold Eu
 cases hfin:H0 b with
 | false=>rfl
 | true =>
   by_cases h0:Aj b=0
   ·rw [h0]; rfl
   ·have k0:(((Aj b:Nat):Int)==(0:Int))=false:=by rw [A6g]; omega
    have hm:An b≠0:=fun hz=>by
     obtain ⟨f4,f3⟩:=Iu hfin
     exact h0 ((Dc f3 f4).1 hz)
    have hl:(An b).log2≤52:=by have:=(A61 hm).2 (show An b<2^53 by omega); omega
    have e1:Bt (b:Int)=(An b:Int):=rfl
    have e2:Bb (b:Int)=Av b:=rfl
    rw [k0,A58 ⟨rfl,h0⟩,A6k,Bool.false_or,A5p,A5l,e1,e2,Ck (n:=An b) (by omega),A5l,Abf hm,Ap (x:=((An b).log2:Int)+1-1) (by omega) (by omega),Ap (by omega) (by omega)]
    congr 2; omega
theorem Aq8 {x:List Int} {i:Nat} (h:i<x.length) (k s:Int):Ph k s (x.drop i)=Ph k (Le s (Em (Cc (x.getD i 0) k) (Cc (x.getD i 0) k))) (x.drop (i+1)):=by
 rw [Kj h,Ph]
theorem Aoh (N:Nat) {x:List Int} (hx:D7 x=true) (hl:x.length≤1000):∀ (k i F:Nat) (s:Int),i+k=x.length→k<F→Ao s=true →
 Af.Norm.L0 N F x s (i:Int)=some (.tup [.int .u64 (Cc (Hx (Ph (-Bj (A9 x)) s (x.drop i))) (Bj (A9 x))),.int .i64 0]):=by
 obtain ⟨_,hu⟩:=Nk hx
 have he:=Att (A9 x)
 intro k
 induction k with
 | zero =>
   intro i F s hi hF hs
   obtain ⟨F,rfl⟩:∃ G,F=G+1:=⟨F-1,by omega⟩
   rw [Af.Norm.Ax,Aw,A5q (by omega),A5p,hs,A5l,show Gf (Hx s) (Bj (A9 x))=true from Ag.2 ⟨Alq hs,As.2 (by omega)⟩,A5l,A5z (by omega)]
   rfl
 | succ k ih =>
   intro i F s hi hF hs
   obtain ⟨F,rfl⟩:∃ G,F=G+1:=⟨F-1,by omega⟩
   rw [Af.Norm.Ax,Aw,A5m (show (i:Int)<(x.length:Int) by omega),A5l,A5m (show (0:Int)≤(i:Int) by omega),A5r,A5l,A5n,Ap (x:=0-Bj (A9 x)) (by omega) (by omega),show (0:Int)-Bj (A9 x)=-Bj (A9 x) by omega,
    show Gf (getD x i 0) (-Bj (A9 x))=true from Ag.2 ⟨hu i (by omega),As.2 (by omega)⟩,A5l,Jo (hu i (by omega)),A5r,A5l,hs,K4,A5r,A5l,Aq8 (by omega),Ap (by omega) (by omega)]
   exact ih (i+1) F _ (by omega) (by omega) (Aup hs (K4 _ _))
theorem Af.Norm.known:Af.Norm.Kn:=Af.Norm.Ae (.cons compare.Ll.known (.cons soft.Finite.known (.cons Af.Add.known (.cons Af.C0.known (.cons Af.Mul.known (.cons Af.B6.known (.cons Af.Sqrt.known .nil))))))) fun x hp=>by
 obtain ⟨hx,hl⟩:=Ag.1 (show (D7 x&&Cz (length x≤64))=true from hp)
 have hl:=As.1 hl
 refine ⟨65,Af.Norm.out [.l x],[],?_,Wk.Jc (.cons .int (.cons .int .nil))⟩
 show _=some (DV.tup [.int .u64 (Dh x),.int .i64 0])
 rw [Af.Norm.ev,Aw,A5q (by omega),A5p,hx,A5l,U4,A6x,A5l]
 unfold Dh
 by_cases h:A9 x=0∨Dm (A9 x)=false
 ·have:((A9 x==(0:Int))||(!(Dm (A9 x))))=true:=by
   rcases h with h | h
   ·rw [h]; rfl
   ·rw [h,A64,A6x]
  rw [this,A5l,A58 h]
 ·have:((A9 x==(0:Int))||(!(Dm (A9 x))))=false:=by
   rw [Bool.or_eq_false_iff,A6g,Bool.not_eq_false']
   refine ⟨fun h0=>h (.inl h0),?_⟩
   cases hf:Dm (A9 x) with
   | true=>rfl
   | false=>exact absurd (.inr hf) h
  rw [this,A5p,A5l,A57 h]
  exact Aoh 65 hx (by omega) x.length 0 65 0 (by omega) (by omega) Nf
open Go Go.Den Go.Cv Go.Proofs
set_option maxRecDepth 100000
namespace EqHouse
def Al.C9.hint:Nat→Option Bf
 | 0=>some { keep:=[5,6,7],objs:=[],boxes:=[] }
 | _=>none
def Al.C9.Bi:List (Nat × Entry):=[(155,soft.Kind.spec)]
def Al.C9.E:Env:=Bn (Bh Al.C9.Bi) (fun _=>false) Al.C9.hint (fun _=>none)
section
variable (N M:Nat) (x:List Int) (p7:Int)
def Al.C9.L0:Option DV:=Ce Al.C9.E N f252 (Au f252) [1,0,1,0] [] M ⟨Ik 15 [(5,.ints .arg .u64 x),(6,.int .i64 (length x:Int)),(7,.int .i64 p7)],[]⟩
theorem Al.C9.Ax:Al.C9.L0 N (M+1) x p7=bif (Ba p7 (length x:Int)) then bif ((decide (0≤p7))&&(decide (p7<(length x:Int)))) then bif (Ao (getD x (toNat p7) 0)) then bif ((A3 (getD x (toNat p7) 0)) !=(0:Int)) then some (.bool false) else Al.C9.L0 N M x (Ac (p7+1)) else none else none else some (.bool true):=by kernel_rfl
theorem Al.C9.ev:Ci Al.C9.E N f252 (Au f252) [.ints .arg .u64 x] =
 Al.C9.L0 N N x 0:=by kernel_rfl
end
abbrev _root_.Go.Proofs.S1.Al.C9.Kn:=A8 prog 252 Al.C9.spec
theorem Al.C9.Ae (hk:A4 prog Al.C9.Bi) (h:Hyp Al.C9.E f252 Al.C9.ts Al.C9.pre Al.C9.out):Al.C9.Kn :=
 Ar (A5 hk _ _ _) func252 (by kernel_rfl) (by kernel_rfl) h
def Al.lead.hint:Nat→Option Bf
 | 0=>some { keep:=[5,6,7],objs:=[],boxes:=[] }
 | _=>none
def Al.lead.Bi:List (Nat × Entry):=[(155,soft.Kind.spec)]
def Al.lead.E:Env:=Bn (Bh Al.lead.Bi) (fun _=>false) Al.lead.hint (fun _=>none)
section
variable (N M:Nat) (x:List Int) (p7:Int)
def Al.lead.L0:Option DV:=Ce Al.lead.E N f258 (Au f258) [1,0,1,0] [] M ⟨Ik 16 [(5,.ints .arg .u64 x),(6,.int .i64 (length x:Int)),(7,.int .i64 p7)],[]⟩
theorem Al.lead.Ax:Al.lead.L0 N (M+1) x p7=bif (Ba p7 (length x:Int)) then bif ((decide (0≤p7))&&(decide (p7<(length x:Int)))) then bif (Ao (getD x (toNat p7) 0)) then bif ((A3 (getD x (toNat p7) 0)) !=(0:Int)) then some (.int .u64 (getD x (toNat p7) 0)) else Al.lead.L0 N M x (Ac (p7+1)) else none else none else some (.int .u64 0):=by kernel_rfl
theorem Al.lead.ev:Ci Al.lead.E N f258 (Au f258) [.ints .arg .u64 x] =
 Al.lead.L0 N N x 0:=by kernel_rfl
end
abbrev _root_.Go.Proofs.S1.Al.lead.Kn:=A8 prog 258 Al.lead.spec
theorem Al.lead.Ae (hk:A4 prog Al.lead.Bi) (h:Hyp Al.lead.E f258 Al.lead.ts Al.lead.pre Al.lead.out):Al.lead.Kn :=
 Ar (A5 hk _ _ _) func258 (by kernel_rfl) (by kernel_rfl) h
def Al.Dd.hint:Nat→Option Bf
 | 0=>some { keep:=[1,5,8,9,10],objs:=[(0,5,100005,.ints 37 .u64 [])],boxes:=[] }
 | _=>none
def Al.Dd.Bi:List (Nat × Entry):=[(88,Af.B6.spec)]
def Al.Dd.E:Env:=Bn (Bh Al.Dd.Bi) (fun _=>false) Al.Dd.hint (fun _=>none)
section
variable (N M:Nat) (x:List Int) (k p10:Int) (p5:List Int)
def Al.Dd.L0:Option DV:=Ce Al.Dd.E N f256 (Au f256) [1,1,0,1,0] [] M ⟨Ik 22 [(1,.int .i64 k),(5,.oref 100005),(8,.ints .arg .u64 x),(9,.int .i64 (length x:Int)),(10,.int .i64 p10)],[(100005,false,.ints 37 .u64 p5)]⟩
theorem Al.Dd.Ax:Al.Dd.L0 N (M+1) x k p10 p5=bif (Ba p10 (length x:Int)) then bif ((decide (0≤p10))&&(decide (p10<(length x:Int)))) then bif (Gf (getD x (toNat p10) 0) k) then bif (decide ((length p5)+1≤Kg)) then Al.Dd.L0 N M x k (Ac (p10+1)) (p5++[(Cc (getD x (toNat p10) 0) k)]) else none else none else none else some (.ints (.own 100005 37) .u64 p5):=by kernel_rfl
theorem Al.Dd.ev:Ci Al.Dd.E N f256 (Au f256) [.ints .arg .u64 x,.int .i64 k] =
 Al.Dd.L0 N N x k 0 []:=by kernel_rfl
end
abbrev _root_.Go.Proofs.S1.Al.Dd.Kn:=A8 prog 256 Al.Dd.spec
theorem Al.Dd.Ae (hk:A4 prog Al.Dd.Bi) (h:Hyp Al.Dd.E f256 Al.Dd.ts Al.Dd.pre Al.Dd.out):Al.Dd.Kn :=
 Ar (A5 hk _ _ _) func256 (by kernel_rfl) (by kernel_rfl) h
def Al.Fu.Bi:List (Nat × Entry):=[]
def Al.Fu.E:Env:=Bn (Bh Al.Fu.Bi) (fun _=>false) (fun _=>none) (fun _=>none)
theorem Al.Fu.ev (N:Nat) (i:Int):Ci Al.Fu.E N f254 (Au f254) [.int .i64 i]=some (.int .u64 0):=by kernel_rfl
abbrev _root_.Go.Proofs.S1.Al.Fu.Kn:=A8 prog 254 Al.Fu.spec
theorem Al.Fu.Ae (hk:A4 prog Al.Fu.Bi) (h:Hyp Al.Fu.E f254 Al.Fu.ts Al.Fu.pre Al.Fu.out):Al.Fu.Kn :=
 Ar (A5 hk _ _ _) func254 (by kernel_rfl) (by kernel_rfl) h
def Al.Ft.Bi:List (Nat × Entry):=[(158,Af.Div.spec)]
def Al.Ft.E:Env:=Bn (Bh Al.Ft.Bi) (fun _=>false) (fun _=>none) (fun _=>none)
theorem Al.Ft.ev (N:Nat) (i:Int) (y:List Int) (d:Int):Ci Al.Ft.E N f259 (Au f259) [.int .i64 i,.cellp [.ints .arg .u64 y],.cellp [.int .u64 d]]=bif ((decide (0≤i))&&(decide (i<(length y:Int)))) then bif (Ao (getD y (toNat i) 0)&&Ao d) then some (.int .u64 (Hc (getD y (toNat i) 0) d)) else none else none :=
 Eq.trans (by kernel_rfl)
 (C4 (Rj _ _) (C4 (Cr _) rfl rfl) rfl)
abbrev _root_.Go.Proofs.S1.Al.Ft.Kn:=A8 prog 259 Al.Ft.spec
theorem Al.Ft.Ae (hk:A4 prog Al.Ft.Bi) (h:Hyp Al.Ft.E f259 Al.Ft.ts Al.Ft.pre Al.Ft.out):Al.Ft.Kn :=
 Ar (A5 hk _ _ _) func259 (by kernel_rfl) (by kernel_rfl) h
def Al.row.Zero.hint:Nat→Option Bf
 | 0=>some { keep:=[0,1,5,6],objs:=[(0,5,100005,.ints 37 .u64 [])],boxes:=[] }
 | _=>none
def Al.row.Zero.Bi:List (Nat × Entry):=[(254,Al.Fu.spec)]
def Al.row.Zero.E:Env:=Bn (Bh Al.row.Zero.Bi) (fun _=>false) Al.row.Zero.hint (fun _=>none)
section
variable (N M:Nat) (n p6:Int) (p5:List Int)
def Al.row.Zero.L0:Option DV:=Ce Al.row.Zero.E N f253 (Au f253) [1,1,0,1,0] [] M ⟨Ik 23 [(0,.int .i64 n),(1,.fn 254 [] []),(5,.oref 100005),(6,.int .i64 p6)],[(100005,false,.ints 37 .u64 p5)]⟩
theorem Al.row.Zero.Ax:Al.row.Zero.L0 N (M+1) n p6 p5=bif (Ba p6 n) then bif (decide ((length p5)+1≤Kg)) then Al.row.Zero.L0 N M n (Ac (p6+1)) (p5++[(0:Int)]) else none else bif (((decide ((0:Int)≤n))&&(decide (n≤n)))&&((decide ((0:Int)≤n))&&(decide (n≤(length p5:Int))))) then some (.ints .fresh .u64 (List.take (toNat (n-0)) (List.drop 0 p5))) else none :=
 Eq.trans (by kernel_rfl)
 (Fe rfl (C4 (Ayt _ _ _) rfl rfl))
theorem Al.row.Zero.ev:Ci Al.row.Zero.E N f253 (Au f253) [.int .i64 n,.fn 254 [] []] =
 Al.row.Zero.L0 N N n 1 [(4607182418800017408:Int)]:=by kernel_rfl
end
abbrev _root_.Go.Proofs.S1.Al.row.Zero.Kn:=A8 prog 253 Al.row.Zero.spec
theorem Al.row.Zero.Ae (hk:A4 prog Al.row.Zero.Bi) (h:Hyp Al.row.Zero.E f253 Al.row.Zero.ts Al.row.Zero.pre Al.row.Zero.out):Al.row.Zero.Kn :=
 Ar (A5 hk _ _ _) func253 (by kernel_rfl) (by kernel_rfl) h
def Al.row.Div.hint:Nat→Option Bf
 | 0=>some { keep:=[0,1,5,6],objs:=[(0,5,100005,.ints 37 .u64 [])],boxes:=[] }
 | _=>none
def Al.row.Div.Bi:List (Nat × Entry):=[(259,Al.Ft.spec)]
def Al.row.Div.E:Env:=Bn (Bh Al.row.Div.Bi) (fun _=>false) Al.row.Div.hint (fun _=>none)
section
variable (N M:Nat) (n:Int) (y:List Int) (d p6:Int) (p5:List Int)
def Al.row.Div.L0:Option DV:=Ce Al.row.Div.E N f253 (Au f253) [1,1,0,1,0] [] M ⟨Ik 23 [(0,.int .i64 n),(1,.fn 259 [] [.cellp [.ints .arg .u64 y],.cellp [.int .u64 d]]),(5,.oref 100005),(6,.int .i64 p6)],[(100005,false,.ints 37 .u64 p5)]⟩
theorem Al.row.Div.Ax:Al.row.Div.L0 N (M+1) n y d p6 p5=bif (Ba p6 n) then bif ((Cz (0≤p6∧p6<length y)&&Ak y)&&Ao d) then bif (decide ((length p5)+1≤Kg)) then Al.row.Div.L0 N M n y d (Ac (p6+1)) (p5++[(Hc (getD y (toNat p6) 0) d)]) else none else none else bif (((decide ((0:Int)≤n))&&(decide (n≤n)))&&((decide ((0:Int)≤n))&&(decide (n≤(length p5:Int))))) then some (.ints .fresh .u64 (List.take (toNat (n-0)) (List.drop 0 p5))) else none :=
 Eq.trans (by kernel_rfl)
 (Fe rfl (C4 (Ayt _ _ _) rfl rfl))
theorem Al.row.Div.ev:Ci Al.row.Div.E N f253 (Au f253) [.int .i64 n,.fn 259 [] [.cellp [.ints .arg .u64 y],.cellp [.int .u64 d]]] =
 Al.row.Div.L0 N N n y d 1 [(4607182418800017408:Int)]:=by kernel_rfl
end
abbrev _root_.Go.Proofs.S1.Al.row.Div.Kn:=A8 prog 253 Al.row.Div.spec
theorem Al.row.Div.Ae (hk:A4 prog Al.row.Div.Bi) (h:Hyp Al.row.Div.E f253 Al.row.Div.ts Al.row.Div.pre Al.row.Div.out):Al.row.Div.Kn :=
 Ar (A5 hk _ _ _) func253 (by kernel_rfl) (by kernel_rfl) h
def Al.Kq.Bi:List (Nat × Entry):=[(255,compare.Ll.spec),(258,Al.lead.spec),(252,Al.C9.spec),(253,(A0a [.i .i64,.fn 254 []] Al.row.Zero.spec Al.row.Div.spec)),(256,Al.Dd.spec),(148,soft.Finite.spec),(233,soft.Gh.spec),(213,soft.Sign.spec),(89,Af.C0.spec),(158,Af.Div.spec),(150,Af.Finite.spec),(257,Af.Norm.spec),(88,Af.B6.spec),(156,Af.Sub.spec)]
def Al.Kq.E:Env:=Bn (Bh Al.Kq.Bi) (fun _=>false) (fun _=>none) (fun _=>none)
theorem Al.Kq.ev (N:Nat) (x:List Int):Ci Al.Kq.E N f245 (Au f245) [.ints .arg .u64 x]=bif (((length x:Int)==(0:Int))||(Ba 64 (length x:Int))) then some (.tup [.nil,.int .u64 0,.int .u64 0,.int .i64 3]) else bif (D7 x) then bif (!(Fm x)) then some (.tup [.nil,.int .u64 0,.int .u64 0,.int .i64 4]) else bif (decide ((1:Int)≤(length x:Int))) then bif (D7 (List.drop 1 x)) then bif (Fx (List.drop 1 x)) then bif (Cz (1≤(length x:Int)∧(length x:Int)≤64)) then bif (decide ((0:Int)<(length x:Int))) then some (.tup [.ints .fresh .u64 (Ic (toNat (length x:Int)) (fun _=>0)),.int .u64 0,.int .u64 (getD x 0 0),.int .i64 0]) else none else none else bif (D7 x) then bif (Ao (A9 x)) then bif (D7 x&&Cz (length x≤1000∧-2300≤(Ac (0-(Bj (A9 x))))∧(Ac (0-(Bj (A9 x))))≤2300)) then bif (D7 (Bg x (Ac (0-(Bj (A9 x)))))&&Cz (length (Bg x (Ac (0-(Bj (A9 x)))))≤64)) then bif (D7 x) then bif (Ao (O6 x)) then bif (!(Ea (O6 x))) then bif (Ao (Dh (Bg x (Ac (0-(Bj (A9 x))))))) then bif (Gf (D6 (Dh (Bg x (Ac (0-(Bj (A9 x))))))) (Bj (A9 x))) then bif (Ao (Cc (D6 (Dh (Bg x (Ac (0-(Bj (A9 x))))))) (Bj (A9 x)))) then bif (!(Dm (Cc (D6 (Dh (Bg x (Ac (0-(Bj (A9 x))))))) (Bj (A9 x))))) then some (.tup [.nil,.int .u64 0,.int .u64 0,.int .i64 2]) else bif (decide ((0:Int)<(length (Bg x (Ac (0-(Bj (A9 x))))):Int))) then bif (Ao (getD (Bg x (Ac (0-(Bj (A9 x))))) 0 0)&&Ao (D6 (Dh (Bg x (Ac (0-(Bj (A9 x)))))))) then bif ((Cz (1≤(length (Bg x (Ac (0-(Bj (A9 x))))):Int)∧(length (Bg x (Ac (0-(Bj (A9 x))))):Int)≤64∧(length (Bg x (Ac (0-(Bj (A9 x))))):Int)=length (Bg x (Ac (0-(Bj (A9 x))))))&&Ak (Bg x (Ac (0-(Bj (A9 x))))))&&Ao (Eh (getD (Bg x (Ac (0-(Bj (A9 x))))) 0 0) (D6 (Dh (Bg x (Ac (0-(Bj (A9 x))))))))) then bif (decide ((0:Int)<(length (Bg x (Ac (0-(Bj (A9 x))))):Int))) then bif (Ao (D6 (Dh (Bg x (Ac (0-(Bj (A9 x)))))))&&Ao (getD (Bg x (Ac (0-(Bj (A9 x))))) 0 0)) then bif (Ao (Eh (D6 (Dh (Bg x (Ac (0-(Bj (A9 x))))))) (getD (Bg x (Ac (0-(Bj (A9 x))))) 0 0))&&Ao (D6 (Dh (Bg x (Ac (0-(Bj (A9 x)))))))) then some (.tup [.ints .fresh .u64 (Ic (toNat (length (Bg x (Ac (0-(Bj (A9 x))))):Int)) (fun j=>Hc (getD (Bg x (Ac (0-(Bj (A9 x))))) j 0) (Eh (getD (Bg x (Ac (0-(Bj (A9 x))))) 0 0) (D6 (Dh (Bg x (Ac (0-(Bj (A9 x)))))))))),.int .u64 (Hc (Eh (D6 (Dh (Bg x (Ac (0-(Bj (A9 x))))))) (getD (Bg x (Ac (0-(Bj (A9 x))))) 0 0)) (D6 (Dh (Bg x (Ac (0-(Bj (A9 x)))))))),.int .u64 (Cc (D6 (Dh (Bg x (Ac (0-(Bj (A9 x))))))) (Bj (A9 x))),.int .i64 0]) else none else none else none else none else none else none else none else none else none else bif (Gf (Dh (Bg x (Ac (0-(Bj (A9 x)))))) (Bj (A9 x))) then bif (Ao (Cc (Dh (Bg x (Ac (0-(Bj (A9 x)))))) (Bj (A9 x)))) then bif (!(Dm (Cc (Dh (Bg x (Ac (0-(Bj (A9 x)))))) (Bj (A9 x))))) then some (.tup [.nil,.int .u64 0,.int .u64 0,.int .i64 2]) else bif (decide ((0:Int)<(length (Bg x (Ac (0-(Bj (A9 x))))):Int))) then bif (Ao (getD (Bg x (Ac (0-(Bj (A9 x))))) 0 0)&&Ao (Dh (Bg x (Ac (0-(Bj (A9 x))))))) then bif ((Cz (1≤(length (Bg x (Ac (0-(Bj (A9 x))))):Int)∧(length (Bg x (Ac (0-(Bj (A9 x))))):Int)≤64∧(length (Bg x (Ac (0-(Bj (A9 x))))):Int)=length (Bg x (Ac (0-(Bj (A9 x))))))&&Ak (Bg x (Ac (0-(Bj (A9 x))))))&&Ao (Eh (getD (Bg x (Ac (0-(Bj (A9 x))))) 0 0) (Dh (Bg x (Ac (0-(Bj (A9 x)))))))) then bif (decide ((0:Int)<(length (Bg x (Ac (0-(Bj (A9 x))))):Int))) then bif (Ao (Dh (Bg x (Ac (0-(Bj (A9 x))))))&&Ao (getD (Bg x (Ac (0-(Bj (A9 x))))) 0 0)) then bif (Ao (Eh (Dh (Bg x (Ac (0-(Bj (A9 x)))))) (getD (Bg x (Ac (0-(Bj (A9 x))))) 0 0))&&Ao (Dh (Bg x (Ac (0-(Bj (A9 x))))))) then some (.tup [.ints .fresh .u64 (Ic (toNat (length (Bg x (Ac (0-(Bj (A9 x))))):Int)) (fun j=>Hc (getD (Bg x (Ac (0-(Bj (A9 x))))) j 0) (Eh (getD (Bg x (Ac (0-(Bj (A9 x))))) 0 0) (Dh (Bg x (Ac (0-(Bj (A9 x))))))))),.int .u64 (Hc (Eh (Dh (Bg x (Ac (0-(Bj (A9 x)))))) (getD (Bg x (Ac (0-(Bj (A9 x))))) 0 0)) (Dh (Bg x (Ac (0-(Bj (A9 x))))))),.int .u64 (Cc (Dh (Bg x (Ac (0-(Bj (A9 x)))))) (Bj (A9 x))),.int .i64 0]) else none else none else none else none else none else none else none else none else none else none else none else none else none else none else none else none else none :=
 Eq.trans (by kernel_rfl)
 (Ay (Z0 ((length x:Int)==(0:Int))) (Ay (Yt ((length x:Int)==(0:Int))) (Ay (Yt ((length x:Int)==(0:Int))) (Ay (tt6 ((length x:Int)==(0:Int))) (C4 (tt5 _ _) rfl (Fe (Fe rfl (C4 (A3y _) (Fe (Fe (C4 (Cr _) (C4 (Cr _) rfl rfl) rfl) rfl) rfl) rfl)) rfl))))))
abbrev _root_.Go.Proofs.S1.Al.Kq.Kn:=A8 prog 245 Al.Kq.spec
theorem Al.Kq.Ae (hk:A4 prog Al.Kq.Bi) (h:Hyp Al.Kq.E f245 Al.Kq.ts Al.Kq.pre Al.Kq.out):Al.Kq.Kn :=
 Ar (A5 hk _ _ _) func245 (by kernel_rfl) (by kernel_rfl) h
def Al.Apply.hint:Nat→Option Bf
 | 0=>some { keep:=[1,3,4,5,10,13,14],objs:=[(14,2,114002,.ints 37 .u64 [])],boxes:=[5,10,13] }
 | 2=>some { keep:=[1,3,4,5,10,13,14,18,90,91,92],objs:=[(14,2,114002,.ints 37 .u64 [])],boxes:=[5,10,13] }
 | _=>none
def Al.Apply.Bi:List (Nat × Entry):=[(160,Aa.Check.spec),(191,Aa.Dt.spec),(189,Af.G9.spec),(157,Af.Mul.spec),(156,Af.Sub.spec)]
def Al.Apply.E:Env:=Bn (Bh Al.Apply.Bi) (fun _=>false) Al.Apply.hint (fun _=>none)
section
variable (N M0 M:Nat) (r c:Int) (l:List Int) (i k:Int) (v:List Int) (t p92:Int) (p2:List Int) (p14_1 p18:Int) (p90:List Int) (p91 p14:Int) (p2_1:List Int)
def Al.Apply.L0:Option DV:=Ce Al.Apply.E N f219 (Au f219) [1,1,1,1,0,1,0] [] M ⟨Ik 118 [(1,.int .i64 i),(3,.ints .arg .u64 v),(4,.int .u64 t),(5,.ptr 5 0 0),(10,.ptr 10 0 0),(13,.ptr 13 0 0),(14,.int .i64 p14)],[(5,false,.box [.int .i64 r,.int .i64 c,.ints .arg .u64 l]),(10,false,.box [.int .i64 0,.int .i64 0,.nil]),(13,false,.box [.int .i64 r,.int .i64 c,.oref 114002]),(114002,false,.ints 37 .u64 p2_1)]⟩
def Al.Apply.L1:Option DV:=Ce Al.Apply.E N f219 (Au f219) [1,1,1,1,0,1,0,0,1,0,0,1,1,1,1,0] [M0] M ⟨Ik 118 [(1,.int .i64 i),(3,.ints .arg .u64 v),(4,.int .u64 t),(5,.ptr 5 0 0),(10,.ptr 10 0 0),(13,.ptr 13 0 0),(14,.int .i64 p14_1),(18,.int .u64 p18),(90,.ints .fresh .u64 p90),(91,.int .i64 p91),(92,.int .i64 p92)],[(5,false,.box [.int .i64 r,.int .i64 c,.ints .arg .u64 l]),(10,false,.box [.int .i64 0,.int .i64 0,.nil]),(13,false,.box [.int .i64 r,.int .i64 c,.oref 114002]),(114002,false,.ints 37 .u64 p2)]⟩
theorem Al.Apply.Ax:Al.Apply.L0 N (M+1) r c l i v t p14 p2_1=bif (Ba p14 c) then bif (Gw r c l p14&&Cz (0≤i∧i≤r)) then bif (((decide ((0:Int)≤(length v:Int)))&&(decide ((length v:Int)≤(length v:Int))))&&((decide ((0:Int)≤(length v:Int)))&&(decide ((length v:Int)≤(length (By c l p14 i (toNat (r-i))):Int))))) then bif ((Yv v (List.take (toNat (length v:Int)) (By c l p14 i (toNat (r-i))))&&Ak v)&&Ak (List.take (toNat (length v:Int)) (By c l p14 i (toNat (r-i))))) then bif (Ao t&&Ao (Lx v (List.take (toNat (length v:Int)) (By c l p14 i (toNat (r-i)))))) then Al.Apply.L1 N M N r c l i v t 0 p2_1 p14 (Em t (Lx v (List.take (toNat (length v:Int)) (By c l p14 i (toNat (r-i)))))) (List.take (toNat (length v:Int)) (By c l p14 i (toNat (r-i)))) (length (List.take (toNat (length v:Int)) (By c l p14 i (toNat (r-i)))):Int) else none else none else none else none else some (.tup [.agg [.int .i64 r,.int .i64 c,.ints (.own 114002 37) .u64 p2_1],.int .i64 0]) :=
 Eq.trans (by kernel_rfl)
 (Fe (Fe (C4 (Ayt _ _ _) rfl rfl) rfl) rfl)
theorem Al.Apply.Cy:Al.Apply.L1 N M0 (M+1) r c l i v t p92 p2 p14_1 p18 p90 p91=bif (Ba p92 p91) then bif ((decide (0≤p92))&&(decide (p92<(length p90:Int)))) then bif ((decide (0≤p92))&&(decide (p92<(length v:Int)))) then bif (Ao p18&&Ao (getD v (toNat p92) 0)) then bif (Ao (getD p90 (toNat p92) 0)&&Ao (Em p18 (getD v (toNat p92) 0))) then bif ((decide (0≤(Ac ((Ac ((Ac (i+p92))*c))+p14_1))))&&(decide ((Ac ((Ac ((Ac (i+p92))*c))+p14_1))<(length p2:Int)))) then bif (decide ((toNat (Ac ((Ac ((Ac (i+p92))*c))+p14_1)))<(length p2))) then Al.Apply.L1 N M0 M r c l i v t (Ac (p92+1)) (List.set p2 (toNat (Ac ((Ac ((Ac (i+p92))*c))+p14_1))) (Eh (getD p90 (toNat p92) 0) (Em p18 (getD v (toNat p92) 0)))) p14_1 p18 p90 p91 else none else none else none else none else none else none else Al.Apply.L0 N M0 r c l i v t (Ac (p14_1+1)) p2 :=
 Eq.trans (by kernel_rfl)
 (Fe (Fe (C4 (Rj _ _) (C4 (Cr _) (C4 (Cr _) (C4 (Rj _ _) (C4 (Cr _) rfl rfl) rfl) rfl) rfl) rfl) rfl) rfl)
theorem Al.Apply.ev:Ci Al.Apply.E N f219 (Au f219) [.agg [.int .i64 r,.int .i64 c,.ints .arg .u64 l],.int .i64 i,.int .i64 k,.ints .arg .u64 v,.int .u64 t]=bif ((M7 r c l) !=(0:Int)) then some (.tup [.agg [.int .i64 0,.int .i64 0,.nil],.int .i64 (M7 r c l)]) else bif (((((Ba i 0)||(Ba r (length v:Int)))||(Ba (Ac (r-(length v:Int))) i))||(Ba k 0))||(Ba c k)) then some (.tup [.agg [.int .i64 0,.int .i64 0,.nil],.int .i64 3]) else bif (decide (0+(length l)≤Kg)) then Al.Apply.L0 N N r c l i v t k ([]++l) else none :=
 Eq.trans (by kernel_rfl)
 (Fe rfl (Ay (Z0 (Ba i 0)) (Ay (Yt (Ba i 0)) (Ay (Z0 (Ba i 0)) (Ay (Yt (Ba i 0)) (Ay (tt8 (Ba i 0)) (Ay (tt6 (Ba i 0)) (Ay (Anj (Ba i 0) (Ba r (length v:Int))) (Ay (Anj (Ba i 0) (Ba r (length v:Int))) (Ay (Aqx (Ba i 0) (Ba r (length v:Int))) (Ay (Anj (Ba i 0) (Ba r (length v:Int))) (Ay (Aqx (Ba i 0) (Ba r (length v:Int))) (Ay (Ays (Ba i 0) (Ba r (length v:Int))) (Ay (Ays (Ba i 0) (Ba r (length v:Int))) (Ay (Ayv (Ba i 0) (Ba r (length v:Int))) (Ay (A1j (Ba i 0) (Ba r (length v:Int)) (Ba (Ac (r-(length v:Int))) i)) (Ay (A1k (Ba i 0) (Ba r (length v:Int)) (Ba (Ac (r-(length v:Int))) i)) (Ay (A1l (Ba i 0) (Ba r (length v:Int)) (Ba (Ac (r-(length v:Int))) i)) (Ay (Avd (Ba i 0) (Ba r (length v:Int)) (Ba (Ac (r-(length v:Int))) i) (Ba k 0)) (Ay (Avd (Ba i 0) (Ba r (length v:Int)) (Ba (Ac (r-(length v:Int))) i) (Ba k 0)) (Ay (A1m (Ba i 0) (Ba r (length v:Int)) (Ba (Ac (r-(length v:Int))) i) (Ba k 0)) (Ay (A1n (Ba i 0) (Ba r (length v:Int)) (Ba (Ac (r-(length v:Int))) i) (Ba k 0)) (Ay (A1o (Ba i 0) (Ba r (length v:Int)) (Ba (Ac (r-(length v:Int))) i) (Ba k 0)) (C4 (A3x _ _ _ _ _) rfl (C4 (Cr _) rfl rfl)))))))))))))))))))))))))
end
abbrev _root_.Go.Proofs.S1.Al.Apply.Kn:=A8 prog 219 Al.Apply.spec
theorem Al.Apply.Ae (hk:A4 prog Al.Apply.Bi) (h:Hyp Al.Apply.E f219 Al.Apply.ts Al.Apply.pre Al.Apply.out):Al.Apply.Kn :=
 Ar (A5 hk _ _ _) func219 (by kernel_rfl) (by kernel_rfl) h
end EqHouse
open Go Go.Den Go.Cv Go.Proofs
open EqHouse
theorem Amm (x:Int):((A3 x) !=(0:Int))=!(decide (A3 x=0)):=by
 rw [A51]; simp
theorem Afg (N:Nat) {x:List Int} (hx:D7 x=true):∀ (k i F:Nat),i+k=x.length→k<F→Al.C9.L0 N F x (i:Int)=some (.bool (Fx (x.drop i))):=by
 obtain ⟨hl,hu⟩:=Nk hx
 intro k
 induction k with
 | zero =>
   intro i F hi hF
   obtain ⟨F,rfl⟩:∃ G,F=G+1:=⟨F-1,by omega⟩
   rw [Al.C9.Ax,Aw,A5q (by omega),A5p,A5z (by omega)]; rfl
 | succ k ih =>
   intro i F hi hF
   obtain ⟨F,rfl⟩:∃ G,F=G+1:=⟨F-1,by omega⟩
   rw [Al.C9.Ax,Aw,A5m (show (i:Int)<(x.length:Int) by omega),A5l,A5m (show (0:Int)≤(i:Int) by omega),A5r,A5l,A5n,hu i (by omega),A5l,Amm,Kj (by omega)]
   unfold Fx
   rw [List.all_cons]
   cases decide (A3 (x.getD i 0)=0) with
   | false=>rfl
   | true =>
     rw [A6k,A5p,A6y,Ap (by omega) (by omega)]
     exact ih (i+1) F (by omega) (by omega)
theorem Al.C9.known:Al.C9.Kn:=Al.C9.Ae (.cons soft.Kind.known .nil) fun x hp=>by
 refine ⟨x.length+1,Al.C9.out [.l x],[],?_,.bool⟩
 rw [Al.C9.ev]
 exact Afg (x.length+1) hp x.length 0 (x.length+1) (by omega) (by omega)
theorem Ao5 (N:Nat) {x:List Int} (hx:D7 x=true):∀ (k i F:Nat),i+k=x.length→k<F→Al.lead.L0 N F x (i:Int)=some (.int .u64 (O6 (x.drop i))):=by
 obtain ⟨hl,hu⟩:=Nk hx
 intro k
 induction k with
 | zero =>
   intro i F hi hF
   obtain ⟨F,rfl⟩:∃ G,F=G+1:=⟨F-1,by omega⟩
   rw [Al.lead.Ax,Aw,A5q (by omega),A5p,A5z (by omega)]; rfl
 | succ k ih =>
   intro i F hi hF
   obtain ⟨F,rfl⟩:∃ G,F=G+1:=⟨F-1,by omega⟩
   rw [Al.lead.Ax,Aw,A5m (show (i:Int)<(x.length:Int) by omega),A5l,A5m (show (0:Int)≤(i:Int) by omega),A5r,A5l,A5n,hu i (by omega),A5l,Amm,Kj (by omega),O6]
   by_cases h:A3 (x.getD i 0)=0
   ·rw [A5m h,A58 h,A6k,A5p,Ap (by omega) (by omega)]
    exact ih (i+1) F (by omega) (by omega)
   ·rw [A5q h,A57 h]; rfl
theorem Al.lead.known:Al.lead.Kn:=Al.lead.Ae (.cons soft.Kind.known .nil) fun x hp=>by
 refine ⟨x.length+1,Al.lead.out [.l x],[],?_,.int⟩
 rw [Al.lead.ev]
 exact Ao5 (x.length+1) hp x.length 0 (x.length+1) (by omega) (by omega)
theorem Ajc {x:List Int} {i:Nat} (h:i<x.length) (f:Int→Int):(x.take (i+1)).map f=(x.take i).map f++[f (x.getD i 0)]:=by
 rw [List.take_succ_eq_append_getElem h,List.map_append,A5v,A52 h]; rfl
theorem Ae2 (N:Nat) {x:List Int} {e:Int} (hx:D7 x=true) (hl:x.length≤1000) (he:-2300≤e∧e≤2300):∀ (k i F:Nat),i+k=x.length→k<F →
 Al.Dd.L0 N F x e (i:Int) ((x.take i).map fun b=>Cc b e)=some (.ints (.own 100005 tB) .u64 (Bg x e)):=by
 obtain ⟨_,hu⟩:=Nk hx
 intro k
 induction k with
 | zero =>
   intro i F hi hF
   obtain ⟨F,rfl⟩:∃ G,F=G+1:=⟨F-1,by omega⟩
   rw [Al.Dd.Ax,Aw,A5q (by omega),A5p,List.take_of_length_le (by omega)]; rfl
 | succ k ih =>
   intro i F hi hF
   obtain ⟨F,rfl⟩:∃ G,F=G+1:=⟨F-1,by omega⟩
   rw [Al.Dd.Ax,Aw,A5m (show (i:Int)<(x.length:Int) by omega),A5l,A5m (show (0:Int)≤(i:Int) by omega),A5r,A5l,A5n,
    show Gf (getD x i 0) e=true from Ag.2 ⟨hu i (by omega),As.2 he⟩,A5l,A5m (by rw [A6r,List.length_take]; unfold Kg; omega),A5l,Ap (by omega) (by omega)]
   have:=ih (i+1) F (by omega) (by omega)
   rw [Ajc (by omega)] at this
   exact this
theorem Al.Dd.known:Al.Dd.Kn:=Al.Dd.Ae (.cons Af.B6.known .nil) fun x k hp=>by
 obtain ⟨h1,h2⟩:=Ag.1 hp
 have h2:=As.1 h2
 refine ⟨x.length+1,.ints (.own 100005 tB) .u64 (Bg x k),[100005],?_,.drop _ _ _ _ (List.mem_singleton.2 rfl)⟩
 rw [Al.Dd.ev]
 exact Ae2 (x.length+1) h1 h2.1 h2.2 x.length 0 (x.length+1) (by omega) (by omega)
theorem Al.Fu.known:Al.Fu.Kn:=Al.Fu.Ae .nil fun i _=>⟨0,Al.Fu.out [.i i],[],by rw [Al.Fu.ev]; rfl,.int⟩
theorem Al.Ft.known:Al.Ft.Kn:=Al.Ft.Ae (.cons Af.Div.known .nil) fun i y d hp=>by
 obtain ⟨h1,h2⟩:=Ag.1 (show ((Cz (0≤i∧i<length y)&&Ak y)&&Ao d)=true from hp)
 obtain ⟨h3,h4⟩:=Ag.1 h1
 have h3:=As.1 h3
 refine ⟨0,Al.Ft.out [.i i,.l y,.i d],[],?_,.int⟩
 rw [Al.Ft.ev,A5m h3.1,A5m h3.2,Mu h4,h2]; rfl
theorem Td (n i:Nat) (f:Nat→Int) (h:i+1=n):Ic n f=Ar3::(List.range i).map fun j=>f (j+1):=by unfold Ic; rw [show n-1=i by omega]
theorem Al0 {n:Nat} (f:Nat→Int) (h:n≠0):(((decide ((0:Int)≤(n:Int)))&&(decide ((n:Int)≤(n:Int))))&&((decide ((0:Int)≤(n:Int)))&&(decide ((n:Int)≤(length (Ic n f):Int)))))=true ∧
 List.take (toNat ((n:Int)-(0:Int))) (List.drop 0 (Ic n f))=Ic n f:=by
 have:=Kw h f
 refine ⟨?_,?_⟩
 ·rw [A5m (by omega),A5m (by omega),A5m (by omega)]; rfl
 ·rw [List.drop_zero,List.take_of_length_le (by omega)]
theorem Ace (N:Nat) {n:Nat} (h64:n≤64) (h0:n≠0):∀ (k i F:Nat),i+1+k=n→k<F →
 Al.row.Zero.L0 N F (n:Int) ((i+1:Nat):Int) (Ic (i+1) fun _=>0)=some (.ints .fresh .u64 (Ic n fun _=>0)):=by
 intro k
 induction k with
 | zero =>
   intro i F hi hF
   obtain ⟨F,rfl⟩:∃ G,F=G+1:=⟨F-1,by omega⟩
   obtain rfl:i+1=n:=by omega
   obtain ⟨e1,e2⟩:=Al0 (fun _=>0) h0
   rw [Al.row.Zero.Ax,Aw,A5q (by omega),A5p,e1,A5l,e2]
 | succ k ih =>
   intro i F hi hF
   obtain ⟨F,rfl⟩:∃ G,F=G+1:=⟨F-1,by omega⟩
   rw [Al.row.Zero.Ax,Aw,A5m (by omega),A5l,A5m (by rw [Kw (by omega)]; unfold Kg; omega),A5l,Ap (by omega) (by omega)]
   have:=ih (i+1) F (by omega) (by omega)
   rw [Td (i+1+1) (i+1) _ rfl,Mf] at this
   rw [Td (i+1) i _ rfl]
   exact this
theorem Al.row.Zero.known:Al.row.Zero.Kn:=Al.row.Zero.Ae (.cons Al.Fu.known .nil) fun n hp=>by
 have hp:=As.1 (show Cz (1≤n∧n≤64)=true from hp)
 obtain ⟨m,rfl⟩:∃ m:Nat,n=m:=⟨n.toNat,by omega⟩
 refine ⟨65,Al.row.Zero.out [.i m],[],?_,.Uv⟩
 show _=some (DV.ints .fresh .u64 (Ic (toNat (m:Int)) fun _=>0))
 rw [Al.row.Zero.ev,A5n]
 exact Ace 65 (by omega) (by omega) (m-1) 0 65 (by omega) (by omega)
theorem Ae9 (N:Nat) {n:Nat} {y:List Int} {d:Int} (h64:n≤64) (h0:n≠0) (hy:n=y.length) (al:Ak y=true) (hd:Ao d=true):∀ (k i F:Nat),i+1+k=n→k<F →
 Al.row.Div.L0 N F (n:Int) y d ((i+1:Nat):Int) (Ic (i+1) fun j=>Hc (y.getD j 0) d)=some (.ints .fresh .u64 (Ic n fun j=>Hc (y.getD j 0) d)):=by
 intro k
 induction k with
 | zero =>
   intro i F hi hF
   obtain ⟨F,rfl⟩:∃ G,F=G+1:=⟨F-1,by omega⟩
   obtain rfl:i+1=n:=by omega
   obtain ⟨e1,e2⟩:=Al0 (fun j=>Hc (y.getD j 0) d) h0
   rw [Al.row.Div.Ax,Aw,A5q (by omega),A5p,e1,A5l,e2]
 | succ k ih =>
   intro i F hi hF
   obtain ⟨F,rfl⟩:∃ G,F=G+1:=⟨F-1,by omega⟩
   rw [Al.row.Div.Ax,Aw,A5m (by omega),A5l,As.2 (show 0≤((i+1:Nat):Int)∧((i+1:Nat):Int)<(y.length:Int) by omega),al,hd,A5r,A5r,A5l,A5m (by rw [Kw (by omega)]; unfold Kg; omega),A5l,Ap (by omega) (by omega),A5n]
   have:=ih (i+1) F (by omega) (by omega)
   rw [Td (i+1+1) (i+1) _ rfl,Mf] at this
   rw [Td (i+1) i _ rfl]
   exact this
theorem Al.row.Div.known:Al.row.Div.Kn:=Al.row.Div.Ae (.cons Al.Ft.known .nil) fun n y d hp=>by
 obtain ⟨h1,h2⟩:=Ag.1 (show ((Cz (1≤n∧n≤64∧n=length y)&&Ak y)&&Ao d)=true from hp)
 obtain ⟨h3,h4⟩:=Ag.1 h1
 have h3:=As.1 h3
 obtain ⟨m,rfl⟩:∃ m:Nat,n=m:=⟨n.toNat,by omega⟩
 refine ⟨65,Al.row.Div.out [.i m,.l y,.i d],[],?_,.Uv⟩
 show _=some (DV.ints .fresh .u64 (Ic (toNat (m:Int)) fun j=>Hc (getD y j 0) d))
 rw [Al.row.Div.ev,A5n]
 exact Ae9 65 (by omega) (by omega) (by omega) h4 h2 (m-1) 0 65 (by omega) (by omega)
theorem Ac6 {x:List Int} {k:Int} {j:Nat} (h:j<x.length):(Bg x k).getD j 0=Cc (x.getD j 0) k:=by
 unfold Bg
 rw [A5v,A62,A52 h,A5v,A52 h]; rfl
theorem An0 (x:List Int) (k:Int):(Bg x k).length=x.length:=by unfold Bg; rw [A6r]
theorem An1 {x:List Int} (k:Int) (h:Ak x=true):Ak (Bg x k)=true:=Tu fun y hy=>by
 obtain ⟨b,hb,rfl⟩:=List.mem_map.1 hy
 exact Jo (As.1 h b hb)
theorem Afo:∀ {x:List Int},Ak x=true→Ao (O6 x)=true
 | [],_=>Nf
 | b::l,h=>by
   unfold O6
   split
   ·exact Afo (Tu fun y hy=>As.1 h y (A6q _ hy))
   ·exact As.1 h b A60
theorem Xy {x:List Int} (h:D7 x=true):Ak x=true:=As.2 (As.1 h).2
theorem Sy {drops:List Nat} {g:Ai3}:Wk drops .nil (.ints g .u64 []):=.nil g .u64
theorem An5 {n:Nat} {f g:Nat→Int} (h:∀ j,j<n→f j=g j):Ic n f=Ic n g:=by
 unfold Ic
 congr 1
 exact List.map_congr_left fun j hj=>h _ (by have:=List.mem_range.1 hj; omega)
theorem Al.Kq.known:Al.Kq.Kn:=Al.Kq.Ae (.cons compare.Ll.known (.cons Al.lead.known (.cons Al.C9.known (.cons (A8.alt Al.row.Zero.known Al.row.Div.known) (.cons Al.Dd.known (.cons soft.Finite.known (.cons soft.Gh.known (.cons soft.Sign.known (.cons Af.C0.known (.cons Af.Div.known (.cons Af.Finite.known (.cons Af.Norm.known (.cons Af.B6.known (.cons Af.Sub.known .nil)))))))))))))) fun x hp=>by
 have hx:D7 x=true:=hp
 have al:=Xy hx
 have he:=Att (A9 x)
 show ∃ N dv drops,_=some dv∧Wk drops dv (DV.tup [.ints .fresh .u64 (Bu x).1,.int .u64 (Bu x).2.1,.int .u64 (Bu x).2.2.1,.int .i64 (Bu x).2.2.2])
 unfold Bu
 by_cases h1:x.length=0∨64<x.length
 ·rw [A58 h1]
  refine ⟨0,.tup [.nil,.int .u64 0,.int .u64 0,.int .i64 3],[],?_,Wk.Jc (.cons Sy (.cons .int (.cons .int (.cons .int .nil))))⟩
  have:(((length x:Int)==(0:Int))||(Ba (64:Int) (length x:Int)))=true:=by
   rw [Aw,Bool.or_eq_true,beq_iff_eq,A5s]; omega
  rw [Al.Kq.ev,this,A5l]
 have c1:(((length x:Int)==(0:Int))||(Ba (64:Int) (length x:Int)))=false:=by
  rw [Aw,Bool.or_eq_false_iff,A6g,A54]; omega
 rw [A57 h1]
 by_cases h2:Fm x=true
 ·rw [A58 h2]
  unfold Ahn
  have ok1:D7 (x.drop 1)=true:=Mz (Tu fun y hy=>As.1 al y (List.mem_of_mem_drop hy)) (by rw [List.length_drop]; omega)
  have d1:decide ((1:Int)≤(x.length:Int))=true:=A5m (by omega)
  have d0:decide ((0:Int)<(x.length:Int))=true:=A5m (by omega)
  by_cases h3:Fx (x.drop 1)=true
  ·rw [A58 h3]
   refine ⟨0,.tup [.ints .fresh .u64 (Ic x.length fun _=>0),.int .u64 0,.int .u64 (x.getD 0 0),.int .i64 0],[],?_,Wk.Jc (.cons .Uv (.cons .int (.cons .int (.cons .int .nil))))⟩
   rw [Al.Kq.ev,c1,A5p,hx,A5l,h2,A6k,A5p,d1,A5l,ok1,A5l,h3,A5l,As.2 (show 1≤(x.length:Int)∧(x.length:Int)≤64 by omega),A5l,d0,A5l,A5n]
  ·rw [A57 h3]
   have h3:Fx (x.drop 1)=false:=by simpa using h3
   have ew:Ac (0-Bj (A9 x))=-Bj (A9 x):=by rw [Ap (by omega) (by omega)]; omega
   have ly:=An0 x (-Bj (A9 x))
   have ay:=An1 (-Bj (A9 x)) al
   have oky:D7 (Bg x (-Bj (A9 x)))=true:=Mz ay (by omega)
   have gy:=Ac6 (x:=x) (k:=-Bj (A9 x)) (j:=0) (by omega)
   have iy:=Mu ay 0
   have key:∀ mu:Int,Pj x=mu→Ao mu=true→∀ b:Bool,Dm (Gp x)=b→∃ dv:DV,(bif (!b) then
    some (.tup [.nil,.int .u64 (0:Int),.int .u64 (0:Int),.int .i64 (2:Int)])
    else some (.tup [.ints .fresh .u64 (Ic (toNat (length (Bg x (-Bj (A9 x))):Int)) (fun j=>Hc (getD (Bg x (-Bj (A9 x))) j 0) (Eh (getD (Bg x (-Bj (A9 x))) 0 0) mu))),.int .u64 (Hc (Eh mu (getD (Bg x (-Bj (A9 x))) 0 0)) mu),.int .u64 (Cc mu (Bj (A9 x))),.int .i64 (0:Int)]))=some dv ∧
    Wk [] dv (DV.tup [.ints .fresh .u64 (if Dm (Gp x)=true then (Xi x,Aa1 x,Gp x,(0:Int)) else ([],0,0,2)).1,.int .u64 (if Dm (Gp x)=true then (Xi x,Aa1 x,Gp x,(0:Int)) else ([],0,0,2)).2.1,.int .u64 (if Dm (Gp x)=true then (Xi x,Aa1 x,Gp x,(0:Int)) else ([],0,0,2)).2.2.1,.int .i64 (if Dm (Gp x)=true then (Xi x,Aa1 x,Gp x,(0:Int)) else ([],0,0,2)).2.2.2]):=by
    intro mu hmu _ b hb
    rw [hb]
    cases b with
    | false=>exact ⟨_,rfl,Wk.Jc (.cons Sy (.cons .int (.cons .int (.cons .int .nil))))⟩
    | true =>
      refine ⟨_,rfl,?_⟩
      rw [A58 rfl]
      dsimp only
      have e1:Ic (toNat (length (Bg x (-Bj (A9 x))):Int)) (fun j=>Hc (getD (Bg x (-Bj (A9 x))) j 0) (Eh (getD (Bg x (-Bj (A9 x))) 0 0) mu))=Xi x:=by
       unfold Xi
       rw [A5n,ly,gy,← hmu]
       exact An5 fun j hj=>by rw [Ac6 hj]; rfl
      have e2:Hc (Eh mu (getD (Bg x (-Bj (A9 x))) 0 0)) mu=Aa1 x:=by
       unfold Aa1
       rw [gy,hmu]; rfl
      have e3:Cc mu (Bj (A9 x))=Gp x:=by unfold Gp; rw [hmu]
      rw [e1,e2,e3]
      exact Wk.Jc (.cons .Uv (.cons .int (.cons .int (.cons .int .nil))))
   have dz:decide ((0:Int)<((Bg x (-Bj (A9 x))).length:Int))=true:=A5m (by omega)
   have cz':Cz (1≤((Bg x (-Bj (A9 x))).length:Int)∧((Bg x (-Bj (A9 x))).length:Int)≤64∧True)=true:=As.2 ⟨by omega,by omega,trivial⟩
   have p1:Cz (x.length≤1000∧-2300≤-Bj (A9 x)∧-Bj (A9 x)≤2300)=true:=As.2 (by omega)
   have p2:Cz ((Bg x (-Bj (A9 x))).length≤64)=true:=As.2 (by omega)
   have sp:∀ mu:Int,Ao mu=true→Gf mu (Bj (A9 x))=true:=fun mu h=>Ag.2 ⟨h,As.2 (by omega)⟩
   have ny:=Zf (Bg x (-Bj (A9 x)))
   cases hn:Ea (O6 x) with
   | true =>
     have hm:Pj x=Dh (Bg x (-Bj (A9 x))):=by unfold Pj; rw [A58 hn]
     obtain ⟨dv,k1,k2⟩:=key _ hm ny (Dm (Gp x)) rfl
     refine ⟨0,dv,[],?_,k2⟩
     rw [← k1]
     have eb:Gp x=Cc (Dh (Bg x (-Bj (A9 x)))) (Bj (A9 x)):=by unfold Gp; rw [hm]
     rw [Al.Kq.ev,ew,eb]
     simp only [c1,A5p,hx,A5l,h2,A6k,d1,ok1,h3,U4,p1,oky,p2,A5r,Afo al,hn,sp _ ny,Jo ny,dz,cz',ay,iy,ny,W0 iy ny,W0 ny iy]
   | false =>
     have hm:Pj x=D6 (Dh (Bg x (-Bj (A9 x)))):=by unfold Pj; rw [A57 (by rw [hn]; decide)]
     have my:=Ahr ny
     obtain ⟨dv,k1,k2⟩:=key _ hm my (Dm (Gp x)) rfl
     refine ⟨0,dv,[],?_,k2⟩
     rw [← k1]
     have eb:Gp x=Cc (D6 (Dh (Bg x (-Bj (A9 x))))) (Bj (A9 x)):=by unfold Gp; rw [hm]
     rw [Al.Kq.ev,ew,eb]
     simp only [c1,A5p,hx,A5l,h2,A6k,d1,ok1,h3,U4,p1,oky,p2,A5r,Afo al,hn,A64,sp _ my,Jo my,dz,cz',ay,iy,ny,my,W0 iy my,W0 my iy]
 ·rw [A57 h2]
  have h2:Fm x=false:=by simpa using h2
  refine ⟨0,.tup [.nil,.int .u64 0,.int .u64 0,.int .i64 4],[],?_,Wk.Jc (.cons Sy (.cons .int (.cons .int (.cons .int .nil))))⟩
  rw [Al.Kq.ev,c1,A5p,hx,A5l,h2,A64,A5l]
open Go Go.Den Go.Cv Go.Proofs
open EqHouse
def apD (i k c j a b:Nat):Bool:=decide (k≤b∧i≤a∧(b<c∨(b=c∧a<i+j)))
def apS (R C:Nat) (l:List Int) (i k:Nat) (v:List Int) (t:Int) (c j:Nat):List Int :=
 Di R C fun a b=>if apD i k c j a b=true∧a<i+v.length then Hj (C:Int) l (i:Int) (k:Int) v t (a:Int) (b:Int) else Co (C:Int) l (a:Int) (b:Int)
section
variable {R C i k:Nat} {l v:List Int} {t:Int}
theorem Axv (c j:Nat):(apS R C l i k v t c j).length=R*C:=Cf _ _ _
theorem Aul (h:l.length=R*C):apS R C l i k v t k 0=l:=by
 unfold apS
 conv=>rhs; rw [← Adx h]
 refine F9 fun a b ha hb=>?_
 rw [A57]
 rintro ⟨h,_⟩
 have:=A6b h
 omega
theorem Aum (c:Nat):apS R C l i k v t c v.length=apS R C l i k v t (c+1) 0:=by
 unfold apS
 refine F9 fun a b ha hb=>?_
 have:(apD i k c v.length a b=true∧a<i+v.length)↔(apD i k (c+1) 0 a b=true∧a<i+v.length):=by
  unfold apD
  rw [A5s,A5s]
  omega
 by_cases h:apD i k c v.length a b=true∧a<i+v.length
 ·rw [A58 h,A58 (this.1 h)]
 ·rw [A57 h,A57 (fun hh=>h (this.2 hh))]
theorem Axw:apS R C l i k v t C 0=Ga R C l (i:Int) (k:Int) v t:=by
 unfold apS Ga
 refine F9 fun a b ha hb=>?_
 by_cases h:apD i k C 0 a b=true∧a<i+v.length
 ·rw [A58 h]
 ·rw [A57 h]
  unfold Hj
  rw [A57]
  intro hh
  refine h ⟨?_,by omega⟩
  unfold apD
  rw [A5s]; omega
theorem Axu {c j:Nat} (hc:c<C) (hk:k≤c) (hj:j<v.length) {x:Int} (hx:x=Hj (C:Int) l (i:Int) (k:Int) v t ((i+j:Nat):Int) (c:Int)) :
 List.set (apS R C l i k v t c j) ((i+j)*C+c) x=apS R C l i k v t c (j+1):=by
 unfold apS
 rw [Wb hc]
 refine F9 fun a b ha hb=>?_
 by_cases h:a=i+j∧b=c
 ·obtain ⟨rfl,rfl⟩:=h
  rw [A58 ⟨rfl,rfl⟩,A58 ⟨by unfold apD; rw [A5s]; omega,by omega⟩,hx]
 ·rw [A57 h]
  have:(apD i k c j a b=true∧a<i+v.length)↔(apD i k c (j+1) a b=true∧a<i+v.length):=by
   unfold apD
   rw [A5s,A5s]
   omega
  by_cases h2:apD i k c j a b=true∧a<i+v.length
  ·rw [A58 h2,A58 (this.1 h2)]
  ·rw [A57 h2,A57 (fun hh=>h2 (this.2 hh))]
theorem Auk {c j:Nat} (hk:k≤c) (hj:j<v.length):Hj (C:Int) l (i:Int) (k:Int) v t ((i+j:Nat):Int) (c:Int) =
 Eh ((By (C:Int) l (c:Int) (i:Int) v.length).getD j 0) (Em (Ly (C:Int) l (i:Int) v t (c:Int)) (v.getD j 0)):=by
 unfold Hj
 rw [A58 ⟨by omega,by omega,by omega⟩]
 have e1:(((i+j:Nat):Int)-(i:Int)).toNat=j:=by omega
 have e2:(By (C:Int) l (c:Int) (i:Int) v.length).getD j 0=Co (C:Int) l ((i+j:Nat):Int) (c:Int):=by
  unfold By
  rw [A5v,A62,List.getElem?_range hj]
  show Co (C:Int) l ((i:Int)+(j:Int)) (c:Int)=_
  rw [← Int.natCast_add]
 rw [e1,e2]
theorem Arh {c b i:Int} {l:List Int} {m n:Nat} (h:m≤n):List.take m (By c l b i n)=By c l b i m:=by
 unfold By
 rw [← List.map_take,List.take_range,Nat.min_eq_left h]
theorem Alc (N M0:Nat) (r6:R≤6) (c6:C≤6) (al:Ak l=true) (av:Ak v=true) (hv:i+v.length≤R) {c:Nat} (hc:c<C) (hk:k≤c):∀ (cnt j F:Nat),j+cnt=v.length→cnt<F →
 Al.Apply.L1 N M0 F (R:Int) (C:Int) l (i:Int) v t (j:Int) (apS R C l i k v t c j) (c:Int) (Ly (C:Int) l (i:Int) v t (c:Int)) (By (C:Int) l (c:Int) (i:Int) v.length) (v.length:Int) =
 Al.Apply.L0 N M0 (R:Int) (C:Int) l (i:Int) v t ((c+1:Nat):Int) (apS R C l i k v t (c+1) 0):=by
 intro cnt
 induction cnt with
 | zero =>
   intro j F hj hF
   obtain ⟨F,rfl⟩:∃ G,F=G+1:=⟨F-1,by omega⟩
   obtain rfl:j=v.length:=by omega
   rw [Al.Apply.Cy,Aw,A5q (by omega),A5p,Ap (by omega) (by omega),Aum]
   rfl
 | succ cnt ih =>
   intro j F hj hF
   obtain ⟨F,rfl⟩:∃ G,F=G+1:=⟨F-1,by omega⟩
   have hm:=Lp (a:=((i+j:Nat):Int)) (b:=(C:Int)) (by omega) (by omega) (by omega) (by omega)
   have hpl:=Ls (show i+j<R by omega) hc
   have e1:Ac ((i:Int)+(j:Int))=((i+j:Nat):Int):=by rw [Ap (by omega) (by omega)]; omega
   have e2:Ac (((i+j:Nat):Int)*(C:Int))=(((i+j)*C:Nat):Int):=by rw [Ap (by omega) (by omega)]; exact (A56 _ _).symm
   have h36:=A6h r6 c6
   have e3:Ac ((((i+j)*C:Nat):Int)+(c:Int))=(((i+j)*C+c:Nat):Int):=by rw [Ap (by omega) (by omega)]; omega
   have hlen:=Axv (R:=R) (C:=C) (l:=l) (i:=i) (k:=k) (v:=v) (t:=t) c j
   have sl:=J1 (C:Int) (c:Int) (i:Int) v.length l
   rw [Al.Apply.Cy,Aw,A5m (show (j:Int)<(v.length:Int) by omega),A5l,e1,e2,e3,sl,A5m (show (0:Int)≤(j:Int) by omega),A5m (show (j:Int)<(v.length:Int) by omega),A5r,A5l,A5n,A5n]
   have a1:=Mu av j
   have a2:=Mu (Oa (c:=(C:Int)) (b:=(c:Int)) (i:=(i:Int)) (n:=v.length) al) j
   have a3:Ao (Ly (C:Int) l (i:Int) v t (c:Int))=true:=K4 _ _
   rw [A5l,a3,a1,A5r,A5l,a2,K4,A5r,A5l,A5m (by omega),A5m (by omega),A5r,A5l,A5m (by omega),A5l,
    Axu hc hk (by omega) (Auk hk (by omega)).symm,Ap (by omega) (by omega)]
   exact ih (j+1) F (by omega) (by omega)
theorem Ald (N:Nat) (r6:R≤6) (c6:C≤6) (hN:7<N) (hr:Be (R:Int) (C:Int) l=true) (al:Ak l=true) (av:Ak v=true) (ht:Ao t=true) (hv:i+v.length≤R):∀ (cnt c F:Nat),c+cnt=C→k≤c→cnt<F →
 Al.Apply.L0 N F (R:Int) (C:Int) l (i:Int) v t (c:Int) (apS R C l i k v t c 0) =
 some (.tup [.agg [.int .i64 (R:Int),.int .i64 (C:Int),.ints (.own 114002 tB) .u64 (Ga R C l (i:Int) (k:Int) v t)],.int .i64 (0:Int)]):=by
 intro cnt
 induction cnt with
 | zero =>
   intro c F hc hk hF
   obtain ⟨F,rfl⟩:∃ G,F=G+1:=⟨F-1,by omega⟩
   obtain rfl:c=C:=by omega
   rw [Al.Apply.Ax,Aw,A5q (by omega),A5p,Axw]
 | succ cnt ih =>
   intro c F hc hk hF
   obtain ⟨F,rfl⟩:∃ G,F=G+1:=⟨F-1,by omega⟩
   have cp:Gw (R:Int) (C:Int) l (c:Int)=true:=Ag.2 ⟨hr,As.2 (by omega)⟩
   have e0:toNat ((R:Int)-(i:Int))=R-i:=by omega
   have st:=Arh (c:=(C:Int)) (b:=(c:Int)) (i:=(i:Int)) (l:=l) (m:=v.length) (n:=R-i) (by omega)
   have sl:=J1 (C:Int) (c:Int) (i:Int) v.length l
   have sl2:=J1 (C:Int) (c:Int) (i:Int) (R-i) l
   have sa:=Oa (c:=(C:Int)) (b:=(c:Int)) (i:=(i:Int)) (n:=v.length) al
   have ft:Yv v (By (C:Int) l (c:Int) (i:Int) v.length)=true:=Afw.2 ⟨by omega,by omega⟩
   rw [Al.Apply.Ax,Aw,A5m (by omega),A5l,cp,As.2 (show 0≤(i:Int)∧(i:Int)≤(R:Int) by omega),A5r,A5l,e0,A5n,st,sl2,sl,
    A5m (show (0:Int)≤(v.length:Int) by omega),A5m (show (v.length:Int)≤(v.length:Int) by omega),A5m (show (v.length:Int)≤((R-i:Nat):Int) by omega),A5r,A5r,A5l,ft,av,sa,A5r,A5r,A5l,ht,Af6,A5r,A5l]
   have:=Alc (t:=t) N F r6 c6 al av hv (show c<C by omega) hk v.length 0 N (by omega) (by omega)
   exact this.trans (ih (c+1) F (by omega) (by omega) (by omega))
end
theorem Al.Apply.known:Al.Apply.Kn:=Al.Apply.Ae (.cons Aa.Check.known (.cons Aa.Dt.known (.cons Af.G9.known (.cons Af.Mul.known (.cons Af.Sub.known .nil))))) fun r c l i k v t hp=>by
 obtain ⟨h1,ht⟩:=Ag.1 (show (((Be r c l&&Q8 r c i k v)&&(Ak l&&Ak v))&&Ao t)=true from hp)
 obtain ⟨h2,h3⟩:=Ag.1 h1
 obtain ⟨hr,hb⟩:=Ag.1 h2
 obtain ⟨al,av⟩:=Ag.1 h3
 have hb:=A6b hb
 have hc:M7 r c l=0:=by unfold M7; rw [A58 hr]
 have h36:=I2 hr
 obtain ⟨R,C,rfl,rfl,r6,c6,hl⟩:=Ef hr
 obtain ⟨i,rfl⟩:∃ j:Nat,i=j:=⟨i.toNat,by omega⟩
 obtain ⟨k,rfl⟩:∃ j:Nat,k=j:=⟨k.toNat,by omega⟩
 refine ⟨8,Al.Apply.out [.i (R:Int),.i (C:Int),.l l,.i (i:Int),.i (k:Int),.l v,.i t],[],?_,Wk.Jc (.cons (Wk.M9 (.cons .int (.cons .int (.cons (.keep _ _ _ _ List.not_mem_nil) .nil)))) (.cons .int .nil))⟩
 show _=some (DV.tup [.agg [.int .i64 (R:Int),.int .i64 (C:Int),.ints (.own 114002 tB) .u64 (Ga (toNat (R:Int)) (toNat (C:Int)) l (i:Int) (k:Int) v t)],.int .i64 0])
 have hlt:(((((Ba (i:Int) (0:Int))||(Ba (R:Int) (length v:Int)))||(Ba (Ac ((R:Int)-(length v:Int))) (i:Int)))||(Ba (k:Int) (0:Int)))||(Ba (C:Int) (k:Int)))=false:=by
  rw [Aw,Aw,Aw,Aw,Aw,Ap (by omega) (by omega),A5q (by omega),A5q (by omega),A5q (by omega),A5q (by omega),A5q (by omega)]; rfl
 rw [Al.Apply.ev,hc,show ((0:Int) !=(0:Int))=false from rfl,A5p,hlt,A5p,A5m (show 0+l.length≤Kg by unfold Kg; omega),A5l,List.nil_append,A5n,A5n]
 have:=Ald (R:=R) (C:=C) (i:=i) (k:=k) (l:=l) (v:=v) (t:=t) 8 r6 c6 (by omega) hr al av ht (by omega) (C-k) k 8 (by omega) (by omega) (by omega)
 rw [Aul hl] at this
 exact this
open Go Go.Den Go.Cv Go.Proofs
set_option maxRecDepth 100000
namespace EqQr
def qr.down.hint:Nat→Option Bf
 | 0=>some { keep:=[1,2,5,6,7],objs:=[(0,6,100006,.recs 214 2 []),(6,2,106002,.ints 37 .u64 [])],boxes:=[1,2,5] }
 | 2=>some { keep:=[1,2,5,6,7,8,9,12],objs:=[(6,2,106002,.ints 37 .u64 []),(0,6,100006,.recs 214 2 [])],boxes:=[1,2,5] }
 | _=>none
def qr.down.Bi:List (Nat × Entry):=[(219,Al.Apply.spec),(245,Al.Kq.spec),(191,Aa.Dt.spec)]
def qr.down.E:Env:=Bn (Bh qr.down.Bi) (fun n=>Nat.beq n 46) qr.down.hint (fun _=>none)
section
variable (N M0 M:Nat) (r c:Int) (l:List Int) (p7:Int) (p6:List (List DV)) (p2_2:List Int) (p12_1:Int) (p2_1:List Int) (p7_1:Int) (p8:List Int) (p9:Int) (p6_1:List (List DV))
def qr.down.L0:Option DV:=Ce qr.down.E N f217 (Au f217) [1,1,1,0,1,0,0,1,0,0,1,1,1,1,0,1,0] [M0] M ⟨Ik 88 [(1,.ptr 1 0 0),(2,.ptr 2 0 0),(5,.ptr 5 0 0),(6,.oref 100006),(7,.int .i64 p7_1),(8,.ints .fresh .u64 p8),(9,.int .u64 p9),(12,.int .i64 p12_1)],[(1,false,.box [.int .i64 r,.int .i64 c,.ints .arg .u64 l]),(2,false,.box [.int .i64 0,.int .i64 0,.nil]),(5,false,.box [.int .i64 r,.int .i64 c,.oref 106002]),(106002,false,.ints 37 .u64 p2_1),(100006,false,.recs 214 2 p6_1)]⟩
def qr.down.L1:Option DV:=Ce qr.down.E N f217 (Au f217) [1,1,1,0,1,0] [] M ⟨Ik 88 [(1,.ptr 1 0 0),(2,.ptr 2 0 0),(5,.ptr 5 0 0),(6,.oref 100006),(7,.int .i64 p7)],[(1,false,.box [.int .i64 r,.int .i64 c,.ints .arg .u64 l]),(2,false,.box [.int .i64 0,.int .i64 0,.nil]),(5,false,.box [.int .i64 r,.int .i64 c,.oref 106002]),(100006,false,.recs 214 2 p6),(106002,false,.ints 37 .u64 p2_2)]⟩
def qr.down.L2:Option DV:=Ce qr.down.E N f217 (Au f217) [1,1,1,0,1,0] [] M ⟨Ik 88 [(1,.ptr 1 0 0),(2,.ptr 2 0 0),(5,.ptr 5 0 0),(6,.oref 100006),(7,.int .i64 0)],[(1,false,.box [.int .i64 r,.int .i64 c,.ints .arg .u64 l]),(2,false,.box [.int .i64 0,.int .i64 0,.nil]),(5,false,.box [.int .i64 r,.int .i64 c,.ints .arg .u64 l]),(100006,false,.recs 214 2 [])]⟩
theorem qr.down.Ax:qr.down.L0 N M0 (M+1) r c l p12_1 p2_1 p7_1 p8 p9 p6_1=bif (Ba p12_1 r) then bif ((decide (0≤(Ac ((Ac (p12_1*c))+p7_1))))&&(decide ((Ac ((Ac (p12_1*c))+p7_1))<(length p2_1:Int)))) then bif (decide ((toNat (Ac ((Ac (p12_1*c))+p7_1)))<(length p2_1))) then qr.down.L0 N M0 M r c l (Ac (p12_1+1)) (List.set p2_1 (toNat (Ac ((Ac (p12_1*c))+p7_1))) 0) p7_1 p8 p9 p6_1 else none else none else bif (decide ((length p6_1)+1≤Abb)) then qr.down.L1 N M0 r c l (Ac (p7_1+1)) (p6_1++[[.ints .arg .u64 p8,.int .u64 p9]]) p2_1 else none:=by kernel_rfl
theorem qr.down.Cy:qr.down.L1 N (M+1) r c l p7 p6 p2_2=bif ((Ba p7 c)&&(Ba p7 (Ac (r-1)))) then bif (Gw r c p2_2 p7&&Cz (0≤p7∧p7≤r)) then bif (D7 (By c p2_2 p7 p7 (toNat (r-p7)))) then bif (((Bu (By c p2_2 p7 p7 (toNat (r-p7)))).2.2.2) !=(0:Int)) then some (.tup [.agg [.int .i64 0,.int .i64 0,.nil],.nil,.int .i64 2]) else bif (((Be r c p2_2&&Q8 r c p7 p7 ((Bu (By c p2_2 p7 p7 (toNat (r-p7)))).1))&&(Ak p2_2&&Ak ((Bu (By c p2_2 p7 p7 (toNat (r-p7)))).1)))&&Ao ((Bu (By c p2_2 p7 p7 (toNat (r-p7)))).2.1)) then bif ((decide (0≤(Ac ((Ac (p7*c))+p7))))&&(decide ((Ac ((Ac (p7*c))+p7))<(length (Ga (toNat r) (toNat c) p2_2 p7 p7 ((Bu (By c p2_2 p7 p7 (toNat (r-p7)))).1) ((Bu (By c p2_2 p7 p7 (toNat (r-p7)))).2.1)):Int)))) then bif (decide ((toNat (Ac ((Ac (p7*c))+p7)))<(length (Ga (toNat r) (toNat c) p2_2 p7 p7 ((Bu (By c p2_2 p7 p7 (toNat (r-p7)))).1) ((Bu (By c p2_2 p7 p7 (toNat (r-p7)))).2.1))))) then qr.down.L0 N M N r c l (Ac (p7+1)) (List.set (Ga (toNat r) (toNat c) p2_2 p7 p7 ((Bu (By c p2_2 p7 p7 (toNat (r-p7)))).1) ((Bu (By c p2_2 p7 p7 (toNat (r-p7)))).2.1)) (toNat (Ac ((Ac (p7*c))+p7))) ((Bu (By c p2_2 p7 p7 (toNat (r-p7)))).2.2.1)) p7 ((Bu (By c p2_2 p7 p7 (toNat (r-p7)))).1) ((Bu (By c p2_2 p7 p7 (toNat (r-p7)))).2.1) p6 else none else none else none else none else none else some (.tup [.agg [.int .i64 r,.int .i64 c,.ints (.own 106002 37) .u64 p2_2],.recs (.own 100006 214) 2 p6,.int .i64 0]) :=
 Eq.trans (by kernel_rfl)
 (Ay (Rt (Ba p7 c)) (Ay (Rt (Ba p7 c)) (Ay (N6 (Ba p7 c)) (Ay (N6 (Ba p7 c)) (Ay (Ank (Ba p7 c)) (Ay (X5 (Ba p7 c)) (C4 (tt1 _ _) rfl rfl)))))))
theorem qr.down.J0:qr.down.L2 N (M+1) r c l=bif ((Ba 0 c)&&(Ba 0 (Ac (r-1)))) then bif (Gw r c l 0&&Cz (0≤(0:Int)∧(0:Int)≤r)) then bif (D7 (By c l 0 0 (toNat (r-0)))) then bif (((Bu (By c l 0 0 (toNat (r-0)))).2.2.2) !=(0:Int)) then some (.tup [.agg [.int .i64 0,.int .i64 0,.nil],.nil,.int .i64 2]) else bif (((Be r c l&&Q8 r c 0 0 ((Bu (By c l 0 0 (toNat (r-0)))).1))&&(Ak l&&Ak ((Bu (By c l 0 0 (toNat (r-0)))).1)))&&Ao ((Bu (By c l 0 0 (toNat (r-0)))).2.1)) then bif ((decide (0≤(Ac ((Ac ((0:Int)*c))+0))))&&(decide ((Ac ((Ac ((0:Int)*c))+0))<(length (Ga (toNat r) (toNat c) l 0 0 ((Bu (By c l 0 0 (toNat (r-0)))).1) ((Bu (By c l 0 0 (toNat (r-0)))).2.1)):Int)))) then bif (decide ((toNat (Ac ((Ac ((0:Int)*c))+0)))<(length (Ga (toNat r) (toNat c) l 0 0 ((Bu (By c l 0 0 (toNat (r-0)))).1) ((Bu (By c l 0 0 (toNat (r-0)))).2.1))))) then qr.down.L0 N M N r c l 1 (List.set (Ga (toNat r) (toNat c) l 0 0 ((Bu (By c l 0 0 (toNat (r-0)))).1) ((Bu (By c l 0 0 (toNat (r-0)))).2.1)) (toNat (Ac ((Ac ((0:Int)*c))+0))) ((Bu (By c l 0 0 (toNat (r-0)))).2.2.1)) 0 ((Bu (By c l 0 0 (toNat (r-0)))).1) ((Bu (By c l 0 0 (toNat (r-0)))).2.1) [] else none else none else none else none else none else some (.tup [.agg [.int .i64 r,.int .i64 c,.ints .arg .u64 l],.recs (.own 100006 214) 2 [],.int .i64 0]) :=
 Eq.trans (by kernel_rfl)
 (Ay (Rt (Ba 0 c)) (Ay (Rt (Ba 0 c)) (Ay (N6 (Ba 0 c)) (Ay (N6 (Ba 0 c)) (Ay (Ank (Ba 0 c)) (Ay (X5 (Ba 0 c)) (C4 (tt1 _ _) rfl rfl)))))))
theorem qr.down.ev:Ci qr.down.E N f217 (Au f217) [.agg [.int .i64 r,.int .i64 c,.ints .arg .u64 l]] =
 qr.down.L2 N N r c l:=by kernel_rfl
end
abbrev _root_.Go.Proofs.S1.qr.down.Kn:=A8 prog 217 qr.down.spec
theorem qr.down.Ae (hk:A4 prog qr.down.Bi) (h:Hyp qr.down.E f217 qr.down.ts qr.down.pre qr.down.out):qr.down.Kn :=
 Ar (A5 hk _ _ _) func217 (by kernel_rfl) (by kernel_rfl) h
def qr.Du.hint:Nat→Option Bf
 | 0=>some { keep:=[2,3,5,6],objs:=[],boxes:=[2,3] }
 | _=>none
def qr.Du.Bi:List (Nat × Entry):=[(86,Cx.Check.spec),(219,Al.Apply.spec),(218,Aa.Hw.spec),(217,qr.down.spec),(150,Af.Finite.spec)]
def qr.Du.E:Env:=Abv (Bh qr.Du.Bi) (fun _=>false) qr.Du.hint (fun _=>none) (Am8 [(22,[.s .u64]),(37,[.i .u64])])
section
variable (N M:Nat) (r c:Int) (l:List Int) (p6:Int) (p2:List Int)
def qr.Du.L0:Option DV:=Ce qr.Du.E N f166 (Au f166) [1,0,1,1,1,1,1,1,0,0] [] M ⟨Ik 81 [(2,.ptr 2 0 0),(3,.ptr 3 0 0),(5,.recs .fresh 2 (P4 r c ([]++l))),(6,.int .i64 p6)],[(2,false,.box [.int .i64 ((Q0 r).1),.int .i64 ((Q0 r).2.1),.ints .fresh .u64 p2]),(3,false,.box [.int .i64 ((G0 r c ([]++l)).1),.int .i64 ((G0 r c ([]++l)).2.1),.ints .arg .u64 ((G0 r c ([]++l)).2.2.1)])]⟩
theorem qr.Du.Ax:qr.Du.L0 N (M+1) r c l p6 p2=bif (Ba p6 0) then bif (D7 p2) then bif ((!(Fm p2))||(D7 ((G0 r c ([]++l)).2.2.1))) then bif ((!(Fm p2))||(!(Fm ((G0 r c ([]++l)).2.2.1)))) then some (.tup [.agg [.int .i64 0,.int .i64 0,.nil],.agg [.int .i64 0,.int .i64 0,.nil],.int .i64 2]) else some (.tup [.agg [.int .i64 ((Q0 r).1),.int .i64 ((Q0 r).2.1),.ints .fresh .u64 p2],.agg [.int .i64 ((G0 r c ([]++l)).1),.int .i64 ((G0 r c ([]++l)).2.1),.ints .arg .u64 ((G0 r c ([]++l)).2.2.1)],.int .i64 0]) else none else none else bif ((decide (0≤p6))&&(decide (p6<(length (P4 r c ([]++l)):Int)))) then bif (isC (.s .u64) (getD (getD (P4 r c ([]++l)) (toNat p6) []) 0 .undef)) then bif ((decide (0≤p6))&&(decide (p6<(length (P4 r c ([]++l)):Int)))) then bif (isC (.i .u64) (getD (getD (P4 r c ([]++l)) (toNat p6) []) 1 .undef)) then bif (((Be ((Q0 r).1) ((Q0 r).2.1) p2&&Q8 ((Q0 r).1) ((Q0 r).2.1) p6 0 (Iv (getD (getD (P4 r c ([]++l)) (toNat p6) []) 0 .undef)))&&(Ak p2&&Ak (Iv (getD (getD (P4 r c ([]++l)) (toNat p6) []) 0 .undef))))&&Ao (Ol (getD (getD (P4 r c ([]++l)) (toNat p6) []) 1 .undef))) then qr.Du.L0 N M r c l (Ac (p6-1)) (Ga (toNat ((Q0 r).1)) (toNat ((Q0 r).2.1)) p2 p6 0 (Iv (getD (getD (P4 r c ([]++l)) (toNat p6) []) 0 .undef)) (Ol (getD (getD (P4 r c ([]++l)) (toNat p6) []) 1 .undef))) else none else none else none else none else none :=
 Eq.trans (by kernel_rfl)
 (Fe (Fe (Ay (Agx (Fm p2)) (Ay (Wz (Fm p2)) (C4 (Aqy _ _) (Ay (Wz (Fm p2)) (Ay (Agy (Fm p2)) (C4 (Avh _ _) rfl rfl))) rfl))) rfl) (C4 (Rj _ _) (C4 (Cr _) (C4 (Rj _ _) (C4 (Cr _) (C4 (Cr _) rfl rfl) rfl) rfl) rfl) rfl))
theorem qr.Du.ev:Ci qr.Du.E N f166 (Au f166) [.agg [.int .i64 r,.int .i64 c,.ints .arg .u64 l]]=bif (Ak l) then bif ((Da r c l) !=(0:Int)) then some (.tup [.agg [.int .i64 0,.int .i64 0,.nil],.agg [.int .i64 0,.int .i64 0,.nil],.int .i64 (Da r c l)]) else bif (decide (0+(length l)≤Kg)) then bif ((Be r c ([]++l)&&Fm ([]++l))&&Ak ([]++l)) then bif (((G0 r c ([]++l)).2.2.2) !=(0:Int)) then some (.tup [.agg [.int .i64 0,.int .i64 0,.nil],.agg [.int .i64 0,.int .i64 0,.nil],.int .i64 ((G0 r c ([]++l)).2.2.2)]) else qr.Du.L0 N N r c l (Ac ((length (P4 r c ([]++l)):Int)-1)) ((Q0 r).2.2.1) else none else none else none :=
 Eq.trans (by kernel_rfl)
 (Fe (Fe rfl (C4 (Cr _) (C4 (Cr _) rfl rfl) rfl)) rfl)
end
abbrev _root_.Go.Proofs.S1.qr.Du.Kn:=A8 prog 166 qr.Du.spec
theorem qr.Du.Ae (hk:A4 prog qr.Du.Bi) (h:Hyp qr.Du.E f166 qr.Du.ts qr.Du.pre qr.Du.out):qr.Du.Kn :=
 Ar (Afz hk _ _ _ _) func166 (by kernel_rfl) (by kernel_rfl) h
def qr.Lz.Bi:List (Nat × Entry):=[(124,Aa.Part.spec),(166,qr.Du.spec)]
def qr.Lz.E:Env:=Bn (Bh qr.Lz.Bi) (fun _=>false) (fun _=>none) (fun _=>none)
theorem qr.Lz.ev (N:Nat) (r c:Int) (l:List Int):Ci qr.Lz.E N f97 (Au f97) [.agg [.int .i64 r,.int .i64 c,.ints .arg .u64 l]]=bif (Ak l) then bif ((Hb r c l) !=(0:Int)) then some (.tup [.agg [.int .i64 0,.int .i64 0,.nil],.agg [.int .i64 0,.int .i64 0,.nil],.int .i64 (Hb r c l)]) else some (.tup [.agg [.int .i64 ((Ir ((qX r c l).1) ((qX r c l).2.1) ((qX r c l).2.2.1) 0 0 r (min r c)).1),.int .i64 ((Ir ((qX r c l).1) ((qX r c l).2.1) ((qX r c l).2.2.1) 0 0 r (min r c)).2.1),.ints .fresh .u64 ((Ir ((qX r c l).1) ((qX r c l).2.1) ((qX r c l).2.2.1) 0 0 r (min r c)).2.2.1)],.agg [.int .i64 ((Ir ((rX r c l).1) ((rX r c l).2.1) ((rX r c l).2.2.1) 0 0 (min r c) c).1),.int .i64 ((Ir ((rX r c l).1) ((rX r c l).2.1) ((rX r c l).2.2.1) 0 0 (min r c) c).2.1),.ints .fresh .u64 ((Ir ((rX r c l).1) ((rX r c l).2.1) ((rX r c l).2.2.1) 0 0 (min r c) c).2.2.1)],.int .i64 0]) else none:=by kernel_rfl
abbrev _root_.Go.Proofs.S1.qr.Lz.Kn:=A8 prog 97 qr.Lz.spec
theorem qr.Lz.Ae (hk:A4 prog qr.Lz.Bi) (h:Hyp qr.Lz.E f97 qr.Lz.ts qr.Lz.pre qr.Lz.out):qr.Lz.Kn :=
 Ar (A5 hk _ _ _) func97 (by kernel_rfl) (by kernel_rfl) h
def solve.G1.hint:Nat→Option Bf
 | 0=>some { keep:=[2,3,4,17,18],objs:=[],boxes:=[2,3,4] }
 | _=>none
def solve.G1.Bi:List (Nat × Entry):=[(86,Cx.Check.spec),(97,qr.Lz.spec),(98,qr.Fp.spec),(24,solve.Flat.spec),(36,solve.Hk.spec)]
def solve.G1.E:Env:=Bn (Bh solve.G1.Bi) (fun _=>false) solve.G1.hint (fun _=>none)
theorem solve.G1.ev (N:Nat) (r c:Int) (l:List Int) (p q:Int) (m:List Int):Ci solve.G1.E (N+4) f30 (Au f30) [.agg [.int .i64 r,.int .i64 c,.ints .arg .u64 l],.agg [.int .i64 p,.int .i64 q,.ints .arg .u64 m]]=bif (Ak l) then bif ((Da r c l) !=(0:Int)) then some (.tup [.agg [.int .i64 0,.int .i64 0,.nil],.int .i64 (Da r c l)]) else bif (Ak m) then bif ((Da p q m) !=(0:Int)) then some (.tup [.agg [.int .i64 0,.int .i64 0,.nil],.int .i64 (Da p q m)]) else bif ((Ba r c)||(r !=p)) then some (.tup [.agg [.int .i64 0,.int .i64 0,.nil],.int .i64 3]) else bif (Ak l) then bif ((Hb r c l) !=(0:Int)) then some (.tup [.agg [.int .i64 0,.int .i64 0,.nil],.int .i64 (Hb r c l)]) else bif (Ak ((N7 r c l).2.2.1)) then bif ((Ok ((N7 r c l).1) ((N7 r c l).2.1) ((N7 r c l).2.2.1)).1) then some (.tup [.agg [.int .i64 0,.int .i64 0,.nil],.int .i64 5]) else bif (Ak ((Jd r c l).2.2.1)&&Ak m) then bif (((Dw ((Jd r c l).1) ((Jd r c l).2.1) ((Jd r c l).2.2.1) p q m).2.2.2) !=(0:Int)) then some (.tup [.agg [.int .i64 0,.int .i64 0,.nil],.int .i64 ((Dw ((Jd r c l).1) ((Jd r c l).2.1) ((Jd r c l).2.2.1) p q m).2.2.2)]) else bif (Ak ((N7 r c l).2.2.1)&&Ak ((Dw ((Jd r c l).1) ((Jd r c l).2.1) ((Jd r c l).2.2.1) p q m).2.2.1)) then some (.tup [.agg [.int .i64 ((upX ((N7 r c l).1) ((N7 r c l).2.1) ((N7 r c l).2.2.1) ((Dw ((Jd r c l).1) ((Jd r c l).2.1) ((Jd r c l).2.2.1) p q m).1) ((Dw ((Jd r c l).1) ((Jd r c l).2.1) ((Jd r c l).2.2.1) p q m).2.1) ((Dw ((Jd r c l).1) ((Jd r c l).2.1) ((Jd r c l).2.2.1) p q m).2.2.1)).1),.int .i64 ((upX ((N7 r c l).1) ((N7 r c l).2.1) ((N7 r c l).2.2.1) ((Dw ((Jd r c l).1) ((Jd r c l).2.1) ((Jd r c l).2.2.1) p q m).1) ((Dw ((Jd r c l).1) ((Jd r c l).2.1) ((Jd r c l).2.2.1) p q m).2.1) ((Dw ((Jd r c l).1) ((Jd r c l).2.1) ((Jd r c l).2.2.1) p q m).2.2.1)).2.1),.ints .fresh .u64 ((upX ((N7 r c l).1) ((N7 r c l).2.1) ((N7 r c l).2.2.1) ((Dw ((Jd r c l).1) ((Jd r c l).2.1) ((Jd r c l).2.2.1) p q m).1) ((Dw ((Jd r c l).1) ((Jd r c l).2.1) ((Jd r c l).2.2.1) p q m).2.1) ((Dw ((Jd r c l).1) ((Jd r c l).2.1) ((Jd r c l).2.2.1) p q m).2.2.1)).2.2.1)],.int .i64 ((upX ((N7 r c l).1) ((N7 r c l).2.1) ((N7 r c l).2.2.1) ((Dw ((Jd r c l).1) ((Jd r c l).2.1) ((Jd r c l).2.2.1) p q m).1) ((Dw ((Jd r c l).1) ((Jd r c l).2.1) ((Jd r c l).2.2.1) p q m).2.1) ((Dw ((Jd r c l).1) ((Jd r c l).2.1) ((Jd r c l).2.2.1) p q m).2.2.1)).2.2.2)]) else none else none else none else none else none else none :=
 Eq.trans (by kernel_rfl)
 (Fe (Fe rfl (Fe (Fe rfl (Ay (Z0 (Ba r c)) (Ay (Yt (Ba r c)) (Ay (Z0 (Ba r c)) (Ay (Yt (Ba r c)) (Ay (tt8 (Ba r c)) (Ay (tt6 (Ba r c)) (C4 (tt5 _ _) rfl rfl)))))))) rfl)) rfl)
abbrev _root_.Go.Proofs.S1.solve.G1.Kn:=A8 prog 30 solve.G1.spec
theorem solve.G1.Ae (hk:A4 prog solve.G1.Bi) (h:Hyp solve.G1.E f30 solve.G1.ts solve.G1.pre solve.G1.out):solve.G1.Kn :=
 Ar (A5 hk _ _ _) func30 (by kernel_rfl) (by kernel_rfl) h
end EqQr
end Go.Proofs.S1
end
