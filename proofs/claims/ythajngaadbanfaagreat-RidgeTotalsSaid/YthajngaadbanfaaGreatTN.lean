/- A verified evaluator of the program's form and its use for this seat: S1PBes, S1EqLow, S1PLow, S1EqLse, S1PLse, S1PLseA, S1PRefL, S1PRef20, S1PMx, S1EqGg, S1PGg, S1EqRidge, S1PRidge, S1EqRef22, S1PRef22, S1EqLaw17, S1PLaw17, S1EqLaw22, S1PLaw22, S1EqTot, S1PTot. -/
import Derived.Test.YthajngaadbanfaaGreatTJ
import Derived.Test.YthajngaadbanfaaGreatTM
import Derived.Test.YthajngaadbanfaaGreatTE
import Derived.Test.YthajngaadbanfaaGreatTF
import Derived.Test.YthajngaadbanfaaGreatTL
set_option linter.unusedVariables false
set_option linter.unusedSimpArgs false
noncomputable section
open Int (toNat)
open List (length getD)
open Go.Proofs.Tryz
namespace Go.Proofs.S1
open Go Go.Den Go.Rnd Go.Proofs
open EqMat EqOf EqBes
theorem Aa.Ek.known:Aa.Ek.Kn:=Aa.Ek.Ad (.cons Aa.get.known .nil) fun i k r c l p q m hp=>by
 obtain ⟨h1,h2,h3,h4,h5⟩:=Aq.1 (show Oj r c l p q m i k=true from hp)
 refine ⟨0,Aa.Ek.out [.i i,.i k,.i r,.i c,.l l,.i p,.i q,.l m],[],?_,.int⟩
 show _=some (DV.int .u64 (Er c l q m i k))
 rw [Aa.Ek.ev,Av,An (x:=k-c) (by omega) (by omega)]
 unfold Er
 by_cases h:k<c
 ·rw [A5d h] at h5
  rw [A4r h,A4q,h5,A4q,A5d h]
 ·rw [A5c h] at h5
  rw [A4v h,A4u,h5,A4q,A5c h]
theorem of.Bt.inner (N:Nat) (r c:Int) (l:List Int) (p q:Int) (m:List Int) {A B:Nat} (hA:A≤6) (hB:B≤6) {F:Nat→Nat→Int} (hF:∀ i j:Nat,F i j=Er c l q m (i:Int) (j:Int)) {i:Nat} (hi:i<A) (hp:∀ j:Nat,j<B→Oj r c l p q m (i:Int) (j:Int)=true):∀ (k j M0 M:Nat),j+k=B→k<M →
 Aa.of.Bt.L1 N M0 M (A:Int) (B:Int) r c l p q m (i:Int) (i:Int) (j:Int) (B8 i B F++(List.range j).map (F i))=Aa.of.Bt.L0 N M0 (A:Int) (B:Int) r c l p q m ((i+1:Nat):Int) (B8 (i+1) B F):=by
 intro k
 induction k with
 | zero =>
   intro j M0 M hj hM
   obtain ⟨M,rfl⟩:∃ G,M=G+1:=⟨M-1,by omega⟩
   obtain rfl:j=B:=by omega
   rw [Aa.of.Bt.Ch,Av,A4v (by omega),A4u,An (by omega) (by omega),← Md]
   rfl
 | succ k ih =>
   intro j M0 M hj hM
   obtain ⟨M,rfl⟩:∃ G,M=G+1:=⟨M-1,by omega⟩
   have d:decide ((B8 i B F++(List.range j).map (F i)).length+1≤G8)=true:=by
    refine A4r ?_
    have:=A5m (show i≤6 by omega) hB
    rw [A5i,Cd,A5w,A5t]; unfold G8; omega
   rw [Aa.of.Bt.Ch,Av,A4r (by omega),A4q,hp j (by omega),A4q,d,A4q,An (by omega) (by omega),← hF i j]
   have:=ih (j+1) M0 M (by omega) (by omega)
   rw [Jt,← List.append_assoc] at this
   exact this
theorem of.Bt.outer (N:Nat) (r c:Int) (l:List Int) (p q:Int) (m:List Int) {A B:Nat} (hA:A≤6) (hB:B≤6) (hN:6<N) {F:Nat→Nat→Int} (hF:∀ i j:Nat,F i j=Er c l q m (i:Int) (j:Int)) (hp:∀ i j:Nat,i<A→j<B→Oj r c l p q m (i:Int) (j:Int)=true):∀ (k i M:Nat),i+k=A→k<M →
 Aa.of.Bt.L0 N M (A:Int) (B:Int) r c l p q m (i:Int) (B8 i B F)=some (.agg [.int .i64 (A:Int),.int .i64 (B:Int),.ints (.own 108002 tB) .u64 (B8 A B F)]):=by
 intro k
 induction k with
 | zero =>
   intro i M hi hM
   obtain ⟨M,rfl⟩:∃ G,M=G+1:=⟨M-1,by omega⟩
   obtain rfl:i=A:=by omega
   rw [Aa.of.Bt.Au,Av,A4v (by omega),A4u]
 | succ k ih =>
   intro i M hi hM
   obtain ⟨M,rfl⟩:∃ G,M=G+1:=⟨M-1,by omega⟩
   have n:=of.Bt.inner N r c l p q m hA hB hF (show i<A by omega) (fun j hj=>hp i j (by omega) hj) B 0 M N (by omega) (by omega)
   rw [List.range_zero,List.map_nil,List.append_nil] at n
   rw [Aa.of.Bt.Au,Av,A4r (by omega),A4q]
   exact n.trans (ih (i+1) M (by omega) (by omega))
theorem Aa.of.Bt.known:Aa.of.Bt.Kn:=Aa.of.Bt.Ad (.cons Aa.Ek.known .nil) fun a b r c l p q m hp=>by
 obtain ⟨h12,hy⟩:=Ac.1 (show (((Bp a&&Bp b)&&(A3 r c l&&A3 p q m))&&decide (a=r∧b=c+q∧p=r))=true from hp)
 obtain ⟨h1,hx⟩:=Ac.1 h12
 have h2:=Ac.2 ⟨hx,hy⟩
 obtain ⟨ha,hb⟩:=Ac.1 h1
 obtain ⟨A,rfl,hA⟩:=Fj ha
 obtain ⟨B,rfl,hB⟩:=Fj hb
 obtain ⟨h3,he⟩:=Ac.1 h2
 obtain ⟨hr,hm⟩:=Ac.1 h3
 obtain ⟨e1,e2,e3⟩:=A5g he
 have hs:=G2.1 hr
 have hp:∀ i j:Nat,i<A→j<B→Oj r c l p q m (i:Int) (j:Int)=true:=fun i j hi hj=>by
  refine Aq.2 ⟨by omega,by omega,by omega,by omega,?_⟩
  by_cases h:(j:Int)<c
  ·rw [A5d h]; exact Lc hr (by omega) (by omega) (by omega) (by omega) r
  ·rw [A5c h]; exact Lc hm (by omega) (by omega) (by omega) (by omega) p
 refine ⟨8,.agg [.int .i64 (A:Int),.int .i64 (B:Int),.ints (.own 108002 tB) .u64 (B8 A B fun (i j:Nat)=>Er c l q m (i:Int) (j:Int))],[108002],?_,Wk.Hc (.cons .int (.cons .int (.cons (.drop _ _ _ _ (List.mem_singleton.2 rfl)) .nil)))⟩
 rw [Aa.of.Bt.ev]
 have n:=of.Bt.outer 8 r c l p q m hA hB (by omega) (F:=fun (i j:Nat)=>Er c l q m (i:Int) (j:Int)) (fun _ _=>rfl) hp A 0 8 (by omega) (by omega)
 rw [La] at n
 exact n
theorem Aa.Bt.known:Aa.Bt.Kn:=Aa.Bt.Ad (.cons Aa.of.Bt.known (.cons Aa.two.known .nil)) fun r c l p q m _=>by
 show ∃ N dv drops,_=some dv∧Wk drops dv (R3 (Jk r c l p q m))
 unfold Jk
 by_cases h:(A3 r c l&&A3 p q m)=true
 ·obtain ⟨h1,h2⟩:=Ac.1 h
  obtain ⟨r1,c1,_⟩:=G2.1 h1
  obtain ⟨p1,q1,_⟩:=G2.1 h2
  have ew:Ab (c+q)=c+q:=An (by omega) (by omega)
  by_cases hc:r=p∧c+q≤6
  ·have e:((r !=p)||(Bi (6:Int) (c+q)))=false:=by rw [Av,hc.1]; simp; omega
   rw [A5d h,A5d hc]
   exact ⟨0,_,[],by rw [Aa.Bt.ev,ew,Py,h,e,(Jv h1).1,Jd.2 (show 0≤c+q∧c+q≤6 by omega),A4r ⟨rfl,rfl,hc.1.symm⟩]; rfl,Ol⟩
  ·have e:((r !=p)||(Bi (6:Int) (c+q)))=true:=by rw [Av]; simp; omega
   rw [A5d h,A5c hc]
   exact ⟨0,_,[],by rw [Aa.Bt.ev,ew,Py,h,e]; rfl,Iy⟩
 ·have e:(A3 r c l&&A3 p q m)=false:=by simpa using h
  rw [A5c h]
  exact ⟨0,_,[],by rw [Aa.Bt.ev,Py,e,Ajm e]; rfl,Iy⟩
theorem Ai2 {R C Q:Nat} {l m:List Int} :
 (B8 R (C+Q) fun (j1 j2:Nat)=>D8 (R:Int) ((B8 C R fun (j1 j2:Nat)=>D8 (C:Int) l (j2:Int) (j1:Int))++(B8 Q R fun (j1 j2:Nat)=>D8 (Q:Int) m (j2:Int) (j1:Int))) (j2:Int) (j1:Int)) =
 B8 R (C+Q) fun (j1 j2:Nat)=>Er (C:Int) l (Q:Int) m (j1:Int) (j2:Int):=by
 refine D6 fun i k hi hk=>?_
 rw [← Ajr (Cd C R _) (Cd Q R _),Mp hk hi]
 unfold Jr Er
 by_cases h:(k:Int)<(C:Int)
 ·rw [A5d h,A5d h,Mp (by omega) hi]
 ·have es:(k:Int)-(C:Int)=((k-C:Nat):Int):=by omega
  rw [A5c h,A5c h,es,Mp (by omega) hi]
theorem Am.Bt.known:Am.Bt.Kn:=Am.Bt.Ad (.cons Am.Stack.known (.cons Am.Cv.known .nil)) fun r c l p q m hp=>by
 obtain ⟨h1,h2⟩:=Ac.1 (show ((A3 r c l&&A3 p q m)&&decide (p=r∧c+q≤6))=true from hp)
 obtain ⟨hr,hm⟩:=Ac.1 h1
 obtain ⟨rfl,hcq⟩:=A5g h2
 obtain ⟨R,C,rfl,rfl,r6,c6,hl⟩:=Cu hr
 obtain ⟨P,Q,hP,rfl,p6,q6,hl2⟩:=Cu hm
 have ecq:(C:Int)+(Q:Int)=((C+Q:Nat):Int):=(Int.natCast_add _ _).symm
 have g1:A3 ((C+Q:Nat):Int) (R:Int) ((B8 C R fun (j1 j2:Nat)=>D8 (C:Int) l (j2:Int) (j1:Int))++(B8 Q R fun (j1 j2:Nat)=>D8 (Q:Int) m (j2:Int) (j1:Int)))=true :=
  Ew (by omega) r6 (by rw [A5i,Cd,Cd,A5u])
 refine ⟨0,.agg [.int .i64 (R:Int),.int .i64 ((C:Int)+(Q:Int)),.ints .fresh .u64 (B8 (toNat (R:Int)) (toNat ((C:Int)+(Q:Int))) fun (j1 j2:Nat)=>Er (C:Int) l (Q:Int) m (j1:Int) (j2:Int))],[],?_,Vi⟩
 rw [Am.Bt.ev,hr,A4q,hm,A4q,ecq,A4s,A4s,A4s,A4s,Me _ c6 r6,Me _ q6 r6,A4w,A4r rfl,A4w,A4q,g1,A4q,Ai2]
set_option maxRecDepth 100000
namespace EqLow
end EqLow
open EqLow
section
variable {n Q:Nat} {l m:List Int}
end
namespace EqLse
end EqLse
open EqLse
theorem Aha {r c:Int} {l:List Int} (h:A3 r c l=true):0≤r∧r≤6∧0≤c∧c≤6:=by
 obtain ⟨R,C,rfl,rfl,r6,c6,_⟩:=Cu h
 omega
theorem Anq {r c:Int} {l:List Int} {q:Int} {m:List Int} (al:Aj l=true) (am:Aj m=true) (i k:Int):Af (Jr r c l q m i k)=true:=by
 unfold Jr
 by_cases h:i<r
 ·rw [A5d h]; exact F7 al
 ·rw [A5c h]; exact F7 am
theorem Ac1 {r c:Int} {l:List Int} {p q:Int} {m:List Int} (al:Aj l=true) (am:Aj m=true):Aj (E0 r c l p q m).2.2.1=true:=by
 unfold E0
 by_cases h:(A3 r c l&&A3 p q m)=true
 ·rw [A5d h]
  by_cases h2:c=q∧r+p≤6
  ·rw [A5d h2]; exact (show Aj (B8 _ _ fun i k=>Jr r c l q m i k)=true from I9 fun _ _=>Anq al am _ _)
  ·rw [A5c h2]; exact Qx
 ·rw [A5c h]; exact Qx
open EqLse
section
variable {N:Nat} {r c p q a b u v:Int} {l m g h:List Int} {w one two done f y Q z:MX}
end
open EqRef14 EqLow
section
variable {n Q:Nat} {l m:List Int}
end
open EqRef20
def Mat (R C:Nat) (x:MX):Prop:=∃ l,x=((R:Int),(C:Int),l,0)∧R≤6∧C≤6∧l.length=R*C∧Aj l=true
def FM (x:MX):Prop:=D2 x.2.2.1=true
theorem Mat.mk {R C:Nat} {l:List Int} (r6:R≤6) (c6:C≤6) (hl:l.length=R*C) (al:Aj l=true):Mat R C ((R:Int),(C:Int),l,0):=⟨l,rfl,r6,c6,hl,al⟩
theorem Mat.Azf {r c:Int} {l:List Int} (h:Cj r c l=0) (al:Aj l=true):∃ R C:Nat,r=R∧c=C∧Mat R C (r,c,l,0)∧FM (r,c,l,0):=by
 obtain ⟨R,C,rfl,rfl,r6,c6,hl⟩:=Cu (Ki h).1
 exact ⟨R,C,rfl,rfl,.mk r6 c6 hl al,(Ki h).2⟩
section
variable {R C K:Nat} {x y:MX}
theorem Mat.len (h:Mat R C x):x.2.2.1.length≤36:=by
 obtain ⟨l,rfl,r6,c6,hl,_⟩:=h
 have:=A5m r6 c6
 show l.length≤36
 omega
end
namespace EqGg
end EqGg
open EqGg
def A2e (o:Option DV) (d:DV):Prop:=∃ dv drops,o=some dv∧Wk drops dv d
theorem Arx {E:Env} {fn:Func} {ds:List DV} {d:DV} (h:A2e (B0 E 0 fn (Ak fn) ds) d):Aul E fn ds d:=by
 obtain ⟨dv,drops,e1,e2⟩:=h
 exact ⟨0,dv,drops,e1,e2⟩
section
variable {N:Nat} {r c p q u v:Int} {l m h:List Int} {R Q T C W:MX}
end
def Az2 (o:Option DV) (x:MX):Prop:=A2e o (R3 x)
theorem Av0 {o:Option DV} {x:MX} (h:o=some (R3 x)):Az2 o x:=⟨_,[],h,Ol⟩
theorem Zk {o:Option DV} {e:Int} (h:o=some (Asd e)):Az2 o (M9 e):=⟨_,[],h,Iy⟩
section
variable {N:Nat} {r c p q:Int} {l m:List Int} {Q L S w o y:MX}
end
namespace EqRidge
def Ae.E6.Ba:List (Nat × Entry):=[(138,Ae.Mul.spec)]
def Ae.E6.E:Env:=Bg (Bb Ae.E6.Ba) (fun _=>false) (fun _=>none) (fun _=>none)
theorem Ae.E6.ev (N:Nat) (i x:Int) (l:List Int):B0 Ae.E6.E N f192 (Ak f192) [.int .i64 i,.cellp [.int .u64 x],.cellp [.ints .arg .u64 l]]=bif ((decide (0≤i))&&(decide (i<(length l:Int)))) then bif (Af x&&Af (getD l (toNat i) 0)) then some (.int .u64 (Ca x (getD l (toNat i) 0))) else none else none :=
 Eq.trans (by kernel_rfl)
 (Cw (Kb _ _) (Cw (Ct _) rfl rfl) rfl)
abbrev _root_.Go.Proofs.S1.Ae.E6.Kn:=A8 prog 192 Ae.E6.spec
theorem Ae.E6.Ad (hk:A1 prog Ae.E6.Ba) (h:Hyp Ae.E6.E f192 Ae.E6.ts Ae.E6.pre Ae.E6.out):Ae.E6.Kn :=
 Al (A4 hk _ _ _) func192 (by kernel_rfl) (by kernel_rfl) h
def Ae.each.Dx.hint:Nat→Option Bc
 | 0=>some { keep:=[1,5,7,8],objs:=[(0,5,100005,.ints 43 .u64 [])],boxes:=[] }
 | _=>none
def Ae.each.Dx.Ba:List (Nat × Entry):=[(192,Ae.E6.spec)]
def Ae.each.Dx.E:Env:=Bg (Bb Ae.each.Dx.Ba) (fun _=>false) Ae.each.Dx.hint (fun _=>none)
section
variable (N M:Nat) (n x:Int) (l:List Int) (p8:Int) (p5:List Int)
def Ae.each.Dx.L0:Option DV:=Cb Ae.each.Dx.E N f191 (Ak f191) [1,1,0,1,0] [] M ⟨Fo 19 [(1,.fn 192 [] [.cellp [.int .u64 x],.cellp [.ints .arg .u64 l]]),(5,.oref 100005),(7,.int .i64 n),(8,.int .i64 p8)],[(100005,false,.ints 43 .u64 p5)]⟩
theorem Ae.each.Dx.Au:Ae.each.Dx.L0 N (M+1) n x l p8 p5=bif (Bi p8 n) then bif ((B3 (0≤p8∧p8<length l)&&Aj l)&&Af x) then bif (decide ((length p5)+1≤G8)) then Ae.each.Dx.L0 N M n x l (Ab (p8+1)) (p5++[(Ca x (getD l (toNat p8) 0))]) else none else none else some (.ints (.own 100005 43) .u64 p5):=by kernel_rfl
theorem Ae.each.Dx.ev:B0 Ae.each.Dx.E N f191 (Ak f191) [.int .i64 n,.fn 192 [] [.cellp [.int .u64 x],.cellp [.ints .arg .u64 l]]] =
 Ae.each.Dx.L0 N N n x l 0 []:=by kernel_rfl
end
abbrev _root_.Go.Proofs.S1.Ae.each.Dx.Kn:=A8 prog 191 Ae.each.Dx.spec
theorem Ae.each.Dx.Ad (hk:A1 prog Ae.each.Dx.Ba) (h:Hyp Ae.each.Dx.E f191 Ae.each.Dx.ts Ae.each.Dx.pre Ae.each.Dx.out):Ae.each.Dx.Kn :=
 Al (A4 hk _ _ _) func191 (by kernel_rfl) (by kernel_rfl) h
def Ae.Dx.Ba:List (Nat × Entry):=[(191,Ae.each.Dx.spec)]
def Ae.Dx.E:Env:=Bg (Bb Ae.Dx.Ba) (fun _=>false) (fun _=>none) (fun _=>none)
theorem Ae.Dx.ev (N:Nat) (x:Int) (l:List Int):B0 Ae.Dx.E N f148 (Ak f148) [.int .u64 x,.ints .arg .u64 l]=bif (Bi 64 (length l:Int)) then some (.tup [.nil,.int .i64 3]) else bif (((B3 (0≤(length l:Int)∧(length l:Int)≤64∧(length l:Int)=length l))&&Aj l)&&Af x) then some (.tup [.ints .fresh .u64 (Fw x l),.int .i64 0]) else none:=by kernel_rfl
abbrev _root_.Go.Proofs.S1.Ae.Dx.Kn:=A8 prog 148 Ae.Dx.spec
theorem Ae.Dx.Ad (hk:A1 prog Ae.Dx.Ba) (h:Hyp Ae.Dx.E f148 Ae.Dx.ts Ae.Dx.pre Ae.Dx.out):Ae.Dx.Kn :=
 Al (A4 hk _ _ _) func148 (by kernel_rfl) (by kernel_rfl) h
def Bn.Cc.hint:Nat→Option Bc
 | 0=>some { keep:=[6,7,8],objs:=[],boxes:=[] }
 | _=>none
def Bn.Cc.Ba:List (Nat × Entry):=[(69,Cz.Check.spec)]
def Bn.Cc.E:Env:=Bg (Bb Bn.Cc.Ba) (fun _=>false) Bn.Cc.hint (fun _=>none)
theorem Bn.Cc.ev (N:Nat) (r c:Int) (l:List Int) (p q:Int) (m:List Int) (u v:Int) (h:List Int):B0 Bn.Cc.E (N+5) f76 (Ak f76) [.recs .arg 3 [[.int .i64 r,.int .i64 c,.ints .arg .u64 l],[.int .i64 p,.int .i64 q,.ints .arg .u64 m],[.int .i64 u,.int .i64 v,.ints .arg .u64 h]]]=bif (Aj l) then bif ((Cj r c l) !=(0:Int)) then some (.int .i64 (Cj r c l)) else bif (Aj m) then bif ((Cj p q m) !=(0:Int)) then some (.int .i64 (Cj p q m)) else bif (Aj h) then bif ((Cj u v h) !=(0:Int)) then some (.int .i64 (Cj u v h)) else some (.int .i64 0) else none else none else none:=by kernel_rfl
abbrev _root_.Go.Proofs.S1.Bn.Cc.Kn:=A8 prog 76 Bn.Cc.spec
theorem Bn.Cc.Ad (hk:A1 prog Bn.Cc.Ba) (h:Hyp Bn.Cc.E f76 Bn.Cc.ts Bn.Cc.pre Bn.Cc.out):Bn.Cc.Kn :=
 Al (A4 hk _ _ _) func76 (by kernel_rfl) (by kernel_rfl) h
def Bn.Nm.Ba:List (Nat × Entry):=[(61,Aa.Stack.spec),(149,Aa.A9.spec),(76,Bn.Cc.spec),(136,soft.Finite.spec),(150,solve.H7.spec),(66,Ae.Finite.spec),(148,Ae.Dx.spec)]
def Bn.Nm.E:Env:=Bg (Bb Bn.Nm.Ba) (fun _=>false) (fun _=>none) (fun _=>none)
theorem Bn.Nm.ev (N:Nat) (r c:Int) (l:List Int) (p q:Int) (m:List Int) (u v:Int) (h:List Int) (x:Int):B0 Bn.Nm.E N f88 (Ak f88) [.agg [.int .i64 r,.int .i64 c,.ints .arg .u64 l],.agg [.int .i64 p,.int .i64 q,.ints .arg .u64 m],.agg [.int .i64 u,.int .i64 v,.ints .arg .u64 h],.int .u64 x]=bif (Zd l m h) then bif ((O7 r c l p q m u v h) !=(0:Int)) then some (.tup [.agg [.int .i64 0,.int .i64 0,.nil],.int .i64 (O7 r c l p q m u v h)]) else bif (Af x) then bif (!(Dw x)) then some (.tup [.agg [.int .i64 0,.int .i64 0,.nil],.int .i64 4]) else bif ((((p !=r)||(q !=(1:Int)))||(v !=c))||(Bi 6 (Ab (r+u)))) then some (.tup [.agg [.int .i64 0,.int .i64 0,.nil],.int .i64 3]) else bif ((B4 h&&Af x)&&B3 (length h≤64)) then bif (B4 (Fw x h)) then bif (!(D2 (Fw x h))) then some (.tup [.agg [.int .i64 0,.int .i64 0,.nil],.int .i64 2]) else bif (Aj ((E0 r c l u v (Fw x h)).2.2.1)&&Aj ((E0 p q m ((Dr u 1).1) ((Dr u 1).2.1) ((Dr u 1).2.2.1)).2.2.1)) then some (.tup [.agg [.int .i64 ((O2 ((E0 r c l u v (Fw x h)).1) ((E0 r c l u v (Fw x h)).2.1) ((E0 r c l u v (Fw x h)).2.2.1) ((E0 p q m ((Dr u 1).1) ((Dr u 1).2.1) ((Dr u 1).2.2.1)).1) ((E0 p q m ((Dr u 1).1) ((Dr u 1).2.1) ((Dr u 1).2.2.1)).2.1) ((E0 p q m ((Dr u 1).1) ((Dr u 1).2.1) ((Dr u 1).2.2.1)).2.2.1)).1),.int .i64 ((O2 ((E0 r c l u v (Fw x h)).1) ((E0 r c l u v (Fw x h)).2.1) ((E0 r c l u v (Fw x h)).2.2.1) ((E0 p q m ((Dr u 1).1) ((Dr u 1).2.1) ((Dr u 1).2.2.1)).1) ((E0 p q m ((Dr u 1).1) ((Dr u 1).2.1) ((Dr u 1).2.2.1)).2.1) ((E0 p q m ((Dr u 1).1) ((Dr u 1).2.1) ((Dr u 1).2.2.1)).2.2.1)).2.1),.ints .fresh .u64 ((O2 ((E0 r c l u v (Fw x h)).1) ((E0 r c l u v (Fw x h)).2.1) ((E0 r c l u v (Fw x h)).2.2.1) ((E0 p q m ((Dr u 1).1) ((Dr u 1).2.1) ((Dr u 1).2.2.1)).1) ((E0 p q m ((Dr u 1).1) ((Dr u 1).2.1) ((Dr u 1).2.2.1)).2.1) ((E0 p q m ((Dr u 1).1) ((Dr u 1).2.1) ((Dr u 1).2.2.1)).2.2.1)).2.2.1)],.int .i64 ((O2 ((E0 r c l u v (Fw x h)).1) ((E0 r c l u v (Fw x h)).2.1) ((E0 r c l u v (Fw x h)).2.2.1) ((E0 p q m ((Dr u 1).1) ((Dr u 1).2.1) ((Dr u 1).2.2.1)).1) ((E0 p q m ((Dr u 1).1) ((Dr u 1).2.1) ((Dr u 1).2.2.1)).2.1) ((E0 p q m ((Dr u 1).1) ((Dr u 1).2.1) ((Dr u 1).2.2.1)).2.2.1)).2.2.2)]) else none else none else none else none else none :=
 Eq.trans (by kernel_rfl)
 (E1 (E1 rfl (E1 (E1 rfl (Ay (T3 (p !=r)) (Ay (Rv (p !=r)) (Ay (Rv (p !=r)) (Ay (Y5 (p !=r)) (Ay (Aeo (p !=r) (q !=(1:Int))) (Ay (Agm (p !=r) (q !=(1:Int))) (Ay (Aeo (p !=r) (q !=(1:Int))) (Ay (Agm (p !=r) (q !=(1:Int))) (Ay (Ayh (p !=r) (q !=(1:Int))) (Ay (Anb (p !=r) (q !=(1:Int))) (Ay (Agn (p !=r) (q !=(1:Int)) (v !=c)) (Ay (Aep (p !=r) (q !=(1:Int)) (v !=c)) (Ay (Agn (p !=r) (q !=(1:Int)) (v !=c)) (Ay (Aep (p !=r) (q !=(1:Int)) (v !=c)) (Ay (A02 (p !=r) (q !=(1:Int)) (v !=c)) (Ay (Aep (p !=r) (q !=(1:Int)) (v !=c)) (Ay (Anc (p !=r) (q !=(1:Int)) (v !=c)) (Cw (Ayg _ _ _ _) rfl rfl))))))))))))))))))) rfl)) rfl)
abbrev _root_.Go.Proofs.S1.Bn.Nm.Kn:=A8 prog 88 Bn.Nm.spec
theorem Bn.Nm.Ad (hk:A1 prog Bn.Nm.Ba) (h:Hyp Bn.Nm.E f88 Bn.Nm.ts Bn.Nm.pre Bn.Nm.out):Bn.Nm.Kn :=
 Al (A4 hk _ _ _) func88 (by kernel_rfl) (by kernel_rfl) h
end EqRidge
open EqRidge
theorem Zz (x:Int) (l:List Int):(Fw x l).length=l.length:=by unfold Fw; rw [A5w]
theorem Acy (x:Int) (l:List Int):Aj (Fw x l)=true:=Aq.2 fun y hy=>by
 obtain ⟨b,_,rfl⟩:=List.mem_map.1 hy
 exact Eu _ _
theorem Agr (x:Int) (l:List Int):(List.range l.length).map (fun j=>Ca x (l.getD j 0))=Fw x l:=by
 refine Wo (by rw [A5w,A5t,Zz]) fun j hj=>?_
 rw [A5w,A5t] at hj
 unfold Fw
 rw [A57,A57,List.getElem?_range hj,A47 hj]
 simp only [Option.map_some,A40,A47 hj,A6a]
theorem Ae.E6.known:Ae.E6.Kn:=Ae.E6.Ad (.cons Ae.Mul.known .nil) fun i x l hp=>by
 obtain ⟨h1,hx⟩:=Ac.1 (show ((B3 (0≤i∧i<length l)&&Aj l)&&Af x)=true from hp)
 obtain ⟨h2,al⟩:=Ac.1 h1
 have h3:=Aq.1 h2
 refine ⟨0,Ae.E6.out [.i i,.i x,.l l],[],?_,.int⟩
 rw [Ae.E6.ev,A4r h3.1,A4r h3.2,A4w,A4q,hx,Tw al (by omega),A4w,A4q]
 rfl
theorem Y8 (N:Nat) {x:Int} {l:List Int} (al:Aj l=true) (hx:Af x=true) (h64:l.length≤64):∀ (k i F:Nat),i+k=l.length→k<F →
 Ae.each.Dx.L0 N F (l.length:Int) x l (i:Int) ((List.range i).map fun j=>Ca x (l.getD j 0))=some (.ints (.own 100005 tB) .u64 (Fw x l)):=by
 intro k
 induction k with
 | zero =>
   intro i F hi hF
   obtain ⟨F,rfl⟩:∃ G,F=G+1:=⟨F-1,by omega⟩
   obtain rfl:i=l.length:=by omega
   rw [Ae.each.Dx.Au,Av,A4v (by omega),A4u,Agr]
 | succ k ih =>
   intro i F hi hF
   obtain ⟨F,rfl⟩:∃ G,F=G+1:=⟨F-1,by omega⟩
   have:=ih (i+1) F (by omega) (by omega)
   rw [Jt] at this
   rw [Ae.each.Dx.Au,Av,A4r (by omega),A4q,Aq.2 (show 0≤(i:Int)∧(i:Int)<(l.length:Int) by omega),al,hx,A4w,A4w,A4q,
    A4r (by rw [A5w,A5t]; unfold G8; omega),A4q,An (by omega) (by omega),A4s]
   exact this
theorem Ae.each.Dx.known:Ae.each.Dx.Kn:=Ae.each.Dx.Ad (.cons Ae.E6.known .nil) fun n x l hp=>by
 obtain ⟨h1,hx⟩:=Ac.1 (show ((B3 (0≤n∧n≤64∧n=length l)&&Aj l)&&Af x)=true from hp)
 obtain ⟨h2,al⟩:=Ac.1 h1
 obtain ⟨h3,h4,rfl⟩:=Aq.1 h2
 refine ⟨65,.ints (.own 100005 tB) .u64 (Fw x l),[100005],?_,.drop _ _ _ _ (List.mem_singleton.2 rfl)⟩
 rw [Ae.each.Dx.ev]
 exact Y8 65 al hx (by omega) l.length 0 65 (by omega) (by omega)
theorem Ae.Dx.known:Ae.Dx.Kn:=Ae.Dx.Ad (.cons Ae.each.Dx.known .nil) fun x l hp=>by
 obtain ⟨h1,h2⟩:=Ac.1 (show ((B4 l&&Af x)&&B3 (length l≤64))=true from hp)
 obtain ⟨ol,hx⟩:=Ac.1 h1
 have h2:=Aq.1 h2
 refine ⟨0,Ae.Dx.out [.i x,.l l],[],?_,Wk.Hs (.cons .O4 (.cons .int .nil))⟩
 rw [Ae.Dx.ev,Av,A4v (by omega),A4u,Aq.2 (show 0≤(l.length:Int)∧(l.length:Int)≤64∧(l.length:Int)=l.length by omega),Ad9 ol,hx,A4w,A4w,A4q]
 rfl
theorem Bn.Cc.known:Bn.Cc.Kn:=Bn.Cc.Ad (.cons Cz.Check.known .nil) fun r c l p q m u v h hp=>by
 obtain ⟨h1,ah⟩:=Ac.1 (show ((Aj l&&Aj m)&&Aj h)=true from hp)
 obtain ⟨al,am⟩:=Ac.1 h1
 refine ⟨0+5,.int .i64 (O7 r c l p q m u v h),[],?_,.int⟩
 rw [Bn.Cc.ev,al,am,ah,A4q,A4q,A4q]
 unfold O7
 by_cases k1:Cj r c l=0
 ·rw [H6 k1,A4u,A5c (fun h=>h k1)]
  by_cases k2:Cj p q m=0
  ·rw [H6 k2,A4u,A5c (fun h=>h k2)]
   by_cases k4:Cj u v h=0
   ·rw [H6 k4,A4u,k4]
   ·rw [Y7 k4,A4q]
  ·rw [Y7 k2,A4q,A5d k2]
 ·rw [Y7 k1,A4q,A5d k1]
theorem Apy {r c:Int} {l:List Int} {p q:Int} {m:List Int} {u v:Int} {h:List Int} (e:O7 r c l p q m u v h=0):Cj r c l=0∧Cj p q m=0∧Cj u v h=0:=by
 unfold O7 at e
 by_cases k1:Cj r c l=0
 ·rw [A5c (fun h=>h k1)] at e
  by_cases k2:Cj p q m=0
  ·rw [A5c (fun h=>h k2)] at e; exact ⟨k1,k2,e⟩
  ·rw [A5d k2] at e; exact absurd e k2
 ·rw [A5d k1] at e; exact absurd e k1
theorem An4 {r c p q u v:Int} (h:0≤r∧r≤6) (h':0≤u∧u≤6) :
 ((((p !=r)||(q !=(1:Int)))||(v !=c))||(Bi (6:Int) (Ab (r+u))))=decide (p≠r∨q≠1∨v≠c∨6<r+u):=by
 rw [An (by omega) (by omega),Av,A46]
 simp [or_assoc]
theorem Ax0 {l:List Int} (h:l.length≤36) (al:Aj l=true):B4 l=true:=Aq.2 ⟨by omega,Aq.1 al⟩
section
variable {r c p q u v x:Int} {l m h:List Int}
theorem Zh {e:Int} (k:Vz r c l p q m u v h x=e) (he:e≠0):Kz r c l p q m u v h x=M9 e:=by
 unfold Kz; rw [k,A5d he]
theorem Avs (k:Vz r c l p q m u v h x=0):Kz r c l p q m u v h x=Asz (A2c r c l u v h x) (Axz p q m u):=by
 unfold Kz; rw [A5c (fun h=>h k)]
theorem Ay7 (k:O7 r c l p q m u v h≠0):Vz r c l p q m u v h x=O7 r c l p q m u v h:=by unfold Vz; rw [A5d k]
theorem Ay6 (k:O7 r c l p q m u v h=0) (k2:Dw x=false):Vz r c l p q m u v h x=4:=by
 unfold Vz; rw [A5c (fun h=>h k),A5d k2]
theorem Ay5 (k:O7 r c l p q m u v h=0) (k2:Dw x=true) (k3:p≠r∨q≠1∨v≠c∨6<r+u):Vz r c l p q m u v h x=3:=by
 unfold Vz; rw [A5c (fun h=>h k),k2,A5c (by decide),A5d k3]
theorem Ay4 (k:O7 r c l p q m u v h=0) (k2:Dw x=true) (k3:¬ (p≠r∨q≠1∨v≠c∨6<r+u)) (k4:D2 (Fw x h)=false):Vz r c l p q m u v h x=2:=by
 unfold Vz; rw [A5c (fun h=>h k),k2,A5c (by decide),A5c k3,A5d k4]
theorem Ay3 (k:O7 r c l p q m u v h=0) (k2:Dw x=true) (k3:¬ (p≠r∨q≠1∨v≠c∨6<r+u)) (k4:D2 (Fw x h)=true):Vz r c l p q m u v h x=0:=by
 unfold Vz; rw [A5c (fun h=>h k),k2,A5c (by decide),A5c k3,k4,A5c (by decide)]
end
theorem Bn.Nm.known:Bn.Nm.Kn:=Bn.Nm.Ad (.cons Aa.Stack.known (.cons Aa.A9.known (.cons Bn.Cc.known (.cons soft.Finite.known (.cons solve.H7.known (.cons Ae.Finite.known (.cons Ae.Dx.known .nil))))))) fun r c l p q m u v h x hp=>Arx (by
 obtain ⟨h0,hx⟩:=Ac.1 (show (Zd l m h&&Af x)=true from hp)
 obtain ⟨h1,ah⟩:=Ac.1 (show ((Aj l&&Aj m)&&Aj h)=true from h0)
 obtain ⟨al,am⟩:=Ac.1 h1
 show Az2 _ (Kz r c l p q m u v h x)
 rw [Bn.Nm.ev,h0,A4q]
 by_cases k:O7 r c l p q m u v h=0
 ·obtain ⟨k1,k2,k3⟩:=Apy k
  rw [H6 k,A4u,hx,A4q]
  cases hf:Dw x with
  | false =>
    rw [A59,A4q,Zh (Ay6 k hf) (by decide)]
    exact Zk rfl
  | true =>
    have s1:=Aha (Ki k1).1
    have s3:=Aha (Ki k3).1
    rw [A5p,A4u,An4 ⟨s1.1,s1.2.1⟩ ⟨s3.1,s3.2.1⟩]
    by_cases ks:p≠r∨q≠1∨v≠c∨6<r+u
    ·rw [A4r ks,A4q,Zh (Ay5 k hf ks) (by decide)]
     exact Zk rfl
    ·obtain ⟨R,C,_,_,hm,_⟩:=Mat.Azf k3 ah
     have hl:h.length≤36:=hm.len
     rw [A4v ks,A4u,Ax0 hl ah,A4w,Aq.2 (show h.length≤64 by omega),A4w,A4q,Ax0 (by rw [Zz]; exact hl) (Acy x h),A4q]
     cases hg:D2 (Fw x h) with
     | false =>
       rw [A59,A4q,Zh (Ay4 k hf ks hg) (by decide)]
       exact Zk rfl
     | true =>
       have az:Aj (Dr u 1).2.2.1=true:=by
        unfold Dr
        split
        ·exact (show Aj (B8 _ _ fun _ _=>0)=true from I9 fun _ _=>Km)
        ·exact Qx
       rw [A5p,A4u,Avs (Ay3 k hf ks hg),Ac1 al (Acy x h),Ac1 am az,A4w,A4q]
       exact Av0 rfl
 ·rw [Y7 k,A4q,Zh (Ay7 k) k]
  exact Zk rfl)
namespace EqRef22
def Ci.Cc.Ba:List (Nat × Entry):=[(35,Ic.Check.spec)]
def Ci.Cc.E:Env:=Bg (Bb Ci.Cc.Ba) (fun _=>false) (fun _=>none) (fun _=>none)
theorem Ci.Cc.ev (N:Nat) (r c:Int) (l:List Int) (p q:Int) (m:List Int) (u v:Int) (h:List Int):B0 Ci.Cc.E N f83 (Ak f83) [.agg [.int .i64 r,.int .i64 c,.ints .arg .u64 l],.agg [.int .i64 p,.int .i64 q,.ints .arg .u64 m],.agg [.int .i64 u,.int .i64 v,.ints .arg .u64 h]]=bif (Aj l) then bif ((Cj r c l) !=(0:Int)) then bif (Aj l) then some (.int .i64 (Cj r c l)) else none else bif (Aj m) then bif ((Cj p q m) !=(0:Int)) then bif (Aj m) then some (.int .i64 (Cj p q m)) else none else bif (Aj h) then some (.int .i64 (Cj u v h)) else none else none else none:=by kernel_rfl
abbrev _root_.Go.Proofs.S1.Ci.Cc.Kn:=A8 prog 83 Ci.Cc.spec
theorem Ci.Cc.Ad (hk:A1 prog Ci.Cc.Ba) (h:Hyp Ci.Cc.E f83 Ci.Cc.ts Ci.Cc.pre Ci.Cc.out):Ci.Cc.Kn :=
 Al (A4 hk _ _ _) func83 (by kernel_rfl) (by kernel_rfl) h
end EqRef22
open EqRef22
theorem Ci.Cc.known:Ci.Cc.Kn:=Ci.Cc.Ad (.cons Ic.Check.known .nil) fun r c l p q m u v h hp=>by
 obtain ⟨h1,ah⟩:=Ac.1 (show ((Aj l&&Aj m)&&Aj h)=true from hp)
 obtain ⟨al,am⟩:=Ac.1 h1
 refine ⟨0,.int .i64 (O7 r c l p q m u v h),[],?_,.int⟩
 rw [Ci.Cc.ev,al,am,ah]
 simp only [A4q]
 unfold O7
 by_cases k1:Cj r c l=0
 ·rw [H6 k1,A4u,A5c (fun h=>h k1)]
  by_cases k2:Cj p q m=0
  ·rw [H6 k2,A4u,A5c (fun h=>h k2)]
  ·rw [Y7 k2,A4q,A5d k2]
 ·rw [Y7 k1,A4q,A5d k1]
namespace EqLaw17
end EqLaw17
open EqLaw17
namespace EqLaw22
def Db.one.Ba:List (Nat × Entry):=[]
def Db.one.E:Env:=Bg (Bb Db.one.Ba) (fun _=>false) (fun _=>none) (fun _=>none)
theorem Db.one.ev (N:Nat) (b:Int):B0 Db.one.E N f89 (Ak f89) [.int .u64 b]=some (.agg [.int .i64 1,.int .i64 1,.ints (.own 4 43) .u64 [b]]):=by kernel_rfl
abbrev _root_.Go.Proofs.S1.Db.one.Kn:=A8 prog 89 Db.one.spec
theorem Db.one.Ad (hk:A1 prog Db.one.Ba) (h:Hyp Db.one.E f89 Db.one.ts Db.one.pre Db.one.out):Db.one.Kn :=
 Al (A4 hk _ _ _) func89 (by kernel_rfl) (by kernel_rfl) h
def Db.Il.Ba:List (Nat × Entry):=[(89,Db.one.spec),(88,Bn.Nm.spec)]
def Db.Il.E:Env:=Bg (Bb Db.Il.Ba) (fun _=>false) (fun _=>none) (fun _=>none)
theorem Db.Il.ev (N:Nat):B0 Db.Il.E N f33 (Ak f33) []=bif (Zd ([(4607182418800017408:Int)]) ([(4611686018427387904:Int)]) []&&Af 4607182418800017408) then bif ((!((((Kz 1 1 ([(4607182418800017408:Int)]) 1 1 ([(4611686018427387904:Int)]) 0 1 [] 4607182418800017408).2.2.2)==(0:Int))&&((length ((Kz 1 1 ([(4607182418800017408:Int)]) 1 1 ([(4611686018427387904:Int)]) 0 1 [] 4607182418800017408).2.2.1):Int)==(1:Int))))||(decide ((0:Int)<(length ((Kz 1 1 ([(4607182418800017408:Int)]) 1 1 ([(4611686018427387904:Int)]) 0 1 [] 4607182418800017408).2.2.1):Int)))) then some (.bool (bif (bif (((Kz 1 1 ([(4607182418800017408:Int)]) 1 1 ([(4611686018427387904:Int)]) 0 1 [] 4607182418800017408).2.2.2)==(0:Int)) then ((length ((Kz 1 1 ([(4607182418800017408:Int)]) 1 1 ([(4611686018427387904:Int)]) 0 1 [] 4607182418800017408).2.2.1):Int)==(1:Int)) else false) then ((getD ((Kz 1 1 ([(4607182418800017408:Int)]) 1 1 ([(4611686018427387904:Int)]) 0 1 [] 4607182418800017408).2.2.1) 0 0)==(4611686018427387904:Int)) else false)) else none else none :=
 Eq.trans (by kernel_rfl)
 (E1 (Ay (R5 (((Kz 1 1 ([(4607182418800017408:Int)]) 1 1 ([(4611686018427387904:Int)]) 0 1 [] 4607182418800017408).2.2.2)==(0:Int))) (Ay (Oo (((Kz 1 1 ([(4607182418800017408:Int)]) 1 1 ([(4611686018427387904:Int)]) 0 1 [] 4607182418800017408).2.2.2)==(0:Int))) (Ay (Oo (((Kz 1 1 ([(4607182418800017408:Int)]) 1 1 ([(4611686018427387904:Int)]) 0 1 [] 4607182418800017408).2.2.2)==(0:Int))) (Ay (Oo (((Kz 1 1 ([(4607182418800017408:Int)]) 1 1 ([(4611686018427387904:Int)]) 0 1 [] 4607182418800017408).2.2.2)==(0:Int))) (Ay (W8 (((Kz 1 1 ([(4607182418800017408:Int)]) 1 1 ([(4611686018427387904:Int)]) 0 1 [] 4607182418800017408).2.2.2)==(0:Int))) (Ay (Aqw (((Kz 1 1 ([(4607182418800017408:Int)]) 1 1 ([(4611686018427387904:Int)]) 0 1 [] 4607182418800017408).2.2.2)==(0:Int)) ((length ((Kz 1 1 ([(4607182418800017408:Int)]) 1 1 ([(4611686018427387904:Int)]) 0 1 [] 4607182418800017408).2.2.1):Int)==(1:Int))) (Ay (Ajn (((Kz 1 1 ([(4607182418800017408:Int)]) 1 1 ([(4611686018427387904:Int)]) 0 1 [] 4607182418800017408).2.2.2)==(0:Int)) ((length ((Kz 1 1 ([(4607182418800017408:Int)]) 1 1 ([(4611686018427387904:Int)]) 0 1 [] 4607182418800017408).2.2.1):Int)==(1:Int))) (Cw (A3a _ _ _) (Ay (Ajn (((Kz 1 1 ([(4607182418800017408:Int)]) 1 1 ([(4611686018427387904:Int)]) 0 1 [] 4607182418800017408).2.2.2)==(0:Int)) ((length ((Kz 1 1 ([(4607182418800017408:Int)]) 1 1 ([(4611686018427387904:Int)]) 0 1 [] 4607182418800017408).2.2.1):Int)==(1:Int))) (Ay (Ajn (((Kz 1 1 ([(4607182418800017408:Int)]) 1 1 ([(4611686018427387904:Int)]) 0 1 [] 4607182418800017408).2.2.2)==(0:Int)) ((length ((Kz 1 1 ([(4607182418800017408:Int)]) 1 1 ([(4611686018427387904:Int)]) 0 1 [] 4607182418800017408).2.2.1):Int)==(1:Int))) (Ay (Au7 (((Kz 1 1 ([(4607182418800017408:Int)]) 1 1 ([(4611686018427387904:Int)]) 0 1 [] 4607182418800017408).2.2.2)==(0:Int)) ((length ((Kz 1 1 ([(4607182418800017408:Int)]) 1 1 ([(4611686018427387904:Int)]) 0 1 [] 4607182418800017408).2.2.1):Int)==(1:Int))) rfl))) rfl)))))))) rfl)
abbrev _root_.Go.Proofs.S1.Db.Il.Kn:=A8 prog 33 Db.Il.spec
theorem Db.Il.Ad (hk:A1 prog Db.Il.Ba) (h:Unit→Hyp Db.Il.E f33 Db.Il.ts Db.Il.pre Db.Il.out):Db.Il.Kn :=
 Al (A4 hk _ _ _) func33 (by kernel_rfl) (by kernel_rfl) (h ())
end EqLaw22
open EqLaw22
theorem Db.one.known:Db.one.Kn:=Db.one.Ad .nil fun b _ =>
 ⟨0,_,[4],Db.one.ev 0 b,R7 (List.mem_singleton.2 rfl)⟩
theorem Avr:Kz 1 1 [4607182418800017408] 1 1 [4611686018427387904] 0 1 [] 4607182418800017408=(1,1,[4611686018427387904],0):=by decide +kernel
theorem Amj {x:Int} (h:decide (0≤x∧x<18446744073709551616)=true):Aj [x]=true:=Aq.2 fun y hy=>by
 rw [List.mem_singleton.1 hy]; exact Aq.2 (A5g h)
theorem Db.Il.known:Db.Il.Kn:=Db.Il.Ad (.cons Db.one.known (.cons Bn.Nm.known .nil)) fun _ _=>by
 have a1:Zd [4607182418800017408] [4611686018427387904] []=true:=by
  unfold Zd
  rw [Amj (by decide),Amj (x:=4611686018427387904) (by decide),Qx]; rfl
 have a2:Af 4607182418800017408=true:=Aq.2 (by decide)
 refine ⟨0,Db.Il.out [],[],?_,.bool⟩
 rw [Db.Il.ev,a1,a2,Avr]
 rfl
theorem Zn {P:Prop} [Decidable P] {x y:MX} (h1:x.2.2.1.length≤36) (h2:y.2.2.1.length≤36):(if P then x else y).2.2.1.length≤36:=by
 by_cases k:P
 ·rw [A5d k]; exact h1
 ·rw [A5c k]; exact h2
namespace EqTot
def Bn.Cc.two.hint:Nat→Option Bc
 | 0=>some { keep:=[6,7,8],objs:=[],boxes:=[] }
 | _=>none
def Bn.Cc.two.Ba:List (Nat × Entry):=[(69,Cz.Check.spec)]
def Bn.Cc.two.E:Env:=Bg (Bb Bn.Cc.two.Ba) (fun _=>false) Bn.Cc.two.hint (fun _=>none)
theorem Bn.Cc.two.ev (N:Nat) (r c:Int) (l:List Int) (p q:Int) (m:List Int):B0 Bn.Cc.two.E (N+4) f76 (Ak f76) [.recs .arg 3 [[.int .i64 r,.int .i64 c,.ints .arg .u64 l],[.int .i64 p,.int .i64 q,.ints .arg .u64 m]]]=bif (Aj l) then bif ((Cj r c l) !=(0:Int)) then some (.int .i64 (Cj r c l)) else bif (Aj m) then bif ((Cj p q m) !=(0:Int)) then some (.int .i64 (Cj p q m)) else some (.int .i64 0) else none else none:=by kernel_rfl
abbrev _root_.Go.Proofs.S1.Bn.Cc.two.Kn:=A8 prog 76 Bn.Cc.two.spec
theorem Bn.Cc.two.Ad (hk:A1 prog Bn.Cc.two.Ba) (h:Hyp Bn.Cc.two.E f76 Bn.Cc.two.ts Bn.Cc.two.pre Bn.Cc.two.out):Bn.Cc.two.Kn :=
 Al (A4 hk _ _ _) func76 (by kernel_rfl) (by kernel_rfl) h
def Bn.Total.hint:Nat→Option Bc
 | 0=>some { keep:=[4,15,16,83,84,85],objs:=[(17,2,117002,.ints 43 .u64 [])],boxes:=[4,16] }
 | _=>none
def Bn.Total.Ba:List (Nat × Entry):=[(80,compare.Hn.spec),(78,compare.K3.spec),(77,Aa.Bt.spec),(68,Aa.D3.spec),(76,Bn.Cc.two.spec),(81,soft.Dn.spec),(64,B5.Az.spec),(82,Ae.Div.spec),(66,Ae.Finite.spec),(79,Ae.Br.spec)]
def Bn.Total.live:Nat→Option (List Nat)
 | 7=>some [2,3,4,7]
 | 8=>some [4,7,8]
 | 11=>some [4,7,11]
 | 21=>some [4,16]
 | _=>none
def Bn.Total.E:Env:=Bg (Bb Bn.Total.Ba) (fun _=>false) Bn.Total.hint Bn.Total.live
section
variable (N M:Nat) (r c:Int) (l:List Int) (p q:Int) (m:List Int) (p8 p8_1:Int) (p8_2:List Int) (p11 p11_1:Int) (p11_2:List Int) (p85:Int) (p2:List Int) (p10 p10_1:Int) (p10_2:List Int)
def Bn.Total.C7:Option DV:=cutAt Bn.Total.E N f31 (Ak f31) [1,1,1,1] [] ⟨Fo 105 [(2,.ptr 2 0 0),(3,.ptr 3 0 0),(4,.ptr 4 0 0),(7,.int .i64 c)],[(21,false,.recs 24 3 [[.int .i64 r,.int .i64 c,.ints .arg .u64 l],[.int .i64 p,.int .i64 q,.ints .arg .u64 m]]),(4,false,.box [.int .i64 0,.int .i64 0,.nil]),(3,false,.box [.int .i64 p,.int .i64 q,.ints .arg .u64 m]),(2,false,.box [.int .i64 r,.int .i64 c,.ints .arg .u64 l])]⟩
def Bn.Total.C8:Option DV:=cutAt Bn.Total.E N f31 (Ak f31) [1,1,1,1,1] [] ⟨Fo 105 [(4,.ptr 4 0 0),(7,.int .i64 c),(8,.ptr 8 0 0)],[(8,false,.box [.int .i64 p8,.int .i64 p8_1,.ints .fresh .u64 p8_2]),(21,false,.recs 24 3 [[.int .i64 r,.int .i64 c,.ints .arg .u64 l],[.int .i64 p,.int .i64 q,.ints .arg .u64 m]]),(4,false,.box [.int .i64 0,.int .i64 0,.nil]),(3,false,.box [.int .i64 p,.int .i64 q,.ints .arg .u64 m]),(2,false,.box [.int .i64 r,.int .i64 c,.ints .arg .u64 l])]⟩
def Bn.Total.C11:Option DV:=cutAt Bn.Total.E N f31 (Ak f31) [1,1,1,1,1,1,1] [] ⟨Fo 105 [(4,.ptr 4 0 0),(7,.int .i64 c),(11,.ptr 11 0 0)],[(11,false,.box [.int .i64 p11,.int .i64 p11_1,.ints .fresh .u64 p11_2]),(10,false,.box [.int .i64 p10,.int .i64 p10_1,.ints .arg .u64 p10_2]),(8,false,.box [.int .i64 p8,.int .i64 p8_1,.ints .fresh .u64 p8_2]),(21,false,.recs 24 3 [[.int .i64 r,.int .i64 c,.ints .arg .u64 l],[.int .i64 p,.int .i64 q,.ints .arg .u64 m]]),(4,false,.box [.int .i64 0,.int .i64 0,.nil]),(3,false,.box [.int .i64 p,.int .i64 q,.ints .arg .u64 m]),(2,false,.box [.int .i64 r,.int .i64 c,.ints .arg .u64 l])]⟩
def Bn.Total.L0:Option DV:=Cb Bn.Total.E N f31 (Ak f31) [1,1,1,1,1,1,1,1,1,1,1,0,1,0] [] M ⟨Fo 105 [(4,.ptr 4 0 0),(15,.int .u64 (getD (Cn p11_1 p11_2 c 0 (toNat (p11-0))) (toNat c) 0)),(16,.ptr 16 0 0),(83,.ints .fresh .u64 (List.take (toNat c) (Cn p11_1 p11_2 c 0 (toNat (p11-0))))),(84,.int .i64 (length (List.take (toNat c) (Cn p11_1 p11_2 c 0 (toNat (p11-0)))):Int)),(85,.int .i64 p85)],[(4,false,.box [.int .i64 0,.int .i64 0,.nil]),(16,false,.box [.int .i64 c,.int .i64 1,.oref 117002]),(117002,false,.ints 43 .u64 p2)]⟩
def Bn.Total.C21:Option DV:=cutAt Bn.Total.E N f31 (Ak f31) [1,1,1,1,1,1,1,1,1,1,1,1,0] [] ⟨Fo 105 [(4,.ptr 4 0 0),(16,.ptr 16 0 0)],[(4,false,.box [.int .i64 0,.int .i64 0,.nil]),(16,false,.box [.int .i64 c,.int .i64 1,.oref 117002]),(117002,false,.ints 43 .u64 p2)]⟩
theorem Bn.Total.Y4:Bn.Total.C7 N r c l p q m =
 Bn.Total.C8 N r c l p q m ((Jk r c l p q m).1) ((Jk r c l p q m).2.1) ((Jk r c l p q m).2.2.1):=(Dk _ _ _ _ _ _ _).trans (by kernel_rfl)
theorem Bn.Total.Aed:Bn.Total.C8 N r c l p q m p8 p8_1 p8_2=bif (Aj p8_2) then bif ((Jn p8 p8_1 p8_2) !=(0:Int)) then some (.tup [.agg [.int .i64 0,.int .i64 0,.nil],.int .i64 (Jn p8 p8_1 p8_2)]) else Bn.Total.C11 N r c l p q m p8 p8_1 p8_2 ((Gt p8 p8_1 p8_2).1) ((Gt p8 p8_1 p8_2).2.1) ((Gt p8 p8_1 p8_2).2.2.1) ((F9 p8 p8_1 p8_2).1) ((F9 p8 p8_1 p8_2).2.1) ((F9 p8 p8_1 p8_2).2.2.1) else none:=(Dk _ _ _ _ _ _ _).trans (by kernel_rfl)
theorem Bn.Total.Vh:Bn.Total.C11 N r c l p q m p8 p8_1 p8_2 p11 p11_1 p11_2 p10 p10_1 p10_2=bif (Hh p11 p11_1 p11_2 c&&B3 (0≤(0:Int)∧(0:Int)≤p11)) then bif ((decide (0≤c))&&(decide (c<(length (Cn p11_1 p11_2 c 0 (toNat (p11-0))):Int)))) then bif (Dd 4607182418800017408 (-20:Int)) then bif (Af (getD (Cn p11_1 p11_2 c 0 (toNat (p11-0))) (toNat c) 0)) then bif (Af (Bf 4607182418800017408 (-20:Int))&&Af (Gj (getD (Cn p11_1 p11_2 c 0 (toNat (p11-0))) (toNat c) 0))) then bif (!(decide (G7 (Bf 4607182418800017408 (-20:Int)) (Gj (getD (Cn p11_1 p11_2 c 0 (toNat (p11-0))) (toNat c) 0))<0))) then some (.tup [.agg [.int .i64 0,.int .i64 0,.nil],.int .i64 7]) else bif ((decide ((0:Int)≤c))&&(decide (c≤(length (Cn p11_1 p11_2 c 0 (toNat (p11-0))):Int)))) then Bn.Total.L0 N N c p11 p11_1 p11_2 0 [] else none else none else none else none else none else none :=
 Eq.trans ((Dk _ _ _ _ _ _ _).trans (by kernel_rfl))
 (E1 (E1 (E1 (E1 (E1 (E1 rfl (Cw (Kb _ _) rfl rfl)) rfl) rfl) rfl) rfl) rfl)
theorem Bn.Total.Au:Bn.Total.L0 N (M+1) c p11 p11_1 p11_2 p85 p2=bif (Bi p85 (length (List.take (toNat c) (Cn p11_1 p11_2 c 0 (toNat (p11-0)))):Int)) then bif ((decide (0≤p85))&&(decide (p85<(length (List.take (toNat c) (Cn p11_1 p11_2 c 0 (toNat (p11-0)))):Int)))) then bif (Af (getD (List.take (toNat c) (Cn p11_1 p11_2 c 0 (toNat (p11-0)))) (toNat p85) 0)&&Af (getD (Cn p11_1 p11_2 c 0 (toNat (p11-0))) (toNat c) 0)) then bif (Af (Es (getD (List.take (toNat c) (Cn p11_1 p11_2 c 0 (toNat (p11-0)))) (toNat p85) 0) (getD (Cn p11_1 p11_2 c 0 (toNat (p11-0))) (toNat c) 0))) then bif (decide ((length p2)+1≤G8)) then Bn.Total.L0 N M c p11 p11_1 p11_2 (Ab (p85+1)) (p2++[(Da (Es (getD (List.take (toNat c) (Cn p11_1 p11_2 c 0 (toNat (p11-0)))) (toNat p85) 0) (getD (Cn p11_1 p11_2 c 0 (toNat (p11-0))) (toNat c) 0)))]) else none else none else none else none else Bn.Total.C21 N c p2 :=
 Eq.trans (by kernel_rfl)
 (E1 (E1 (Cw (Ct _) (Cw (Ct _) (Cw (Ct _) rfl rfl) rfl) rfl) rfl) rfl)
theorem Bn.Total.Az4:Bn.Total.C21 N c p2=bif (B4 p2) then bif (!(D2 p2)) then some (.tup [.agg [.int .i64 0,.int .i64 0,.nil],.int .i64 2]) else some (.tup [.agg [.int .i64 c,.int .i64 1,.ints (.own 117002 43) .u64 p2],.int .i64 0]) else none:=(Dk _ _ _ _ _ _ _).trans (by kernel_rfl)
theorem Bn.Total.ev:B0 Bn.Total.E N f31 (Ak f31) [.agg [.int .i64 r,.int .i64 c,.ints .arg .u64 l],.agg [.int .i64 p,.int .i64 q,.ints .arg .u64 m]]=bif (Aj l&&Aj m) then bif ((Vb r c l p q m) !=(0:Int)) then some (.tup [.agg [.int .i64 0,.int .i64 0,.nil],.int .i64 (Vb r c l p q m)]) else bif ((((p !=r)||(q !=(1:Int)))||(c==(0:Int)))||(Bi 6 (Ab (c+1)))) then some (.tup [.agg [.int .i64 0,.int .i64 0,.nil],.int .i64 3]) else Bn.Total.C7 N r c l p q m else none :=
 Eq.trans (by kernel_rfl)
 (E1 (E1 rfl (Ay (T3 (p !=r)) (Ay (Rv (p !=r)) (Ay (Rv (p !=r)) (Ay (Y5 (p !=r)) (Ay (Aeo (p !=r) (q !=(1:Int))) (Ay (Agm (p !=r) (q !=(1:Int))) (Ay (Anb (p !=r) (q !=(1:Int))) (Ay (Agn (p !=r) (q !=(1:Int)) (c==(0:Int))) (Ay (Aep (p !=r) (q !=(1:Int)) (c==(0:Int))) (Ay (Aep (p !=r) (q !=(1:Int)) (c==(0:Int))) (Ay (Anc (p !=r) (q !=(1:Int)) (c==(0:Int))) (Cw (Ayg _ _ _ _) rfl rfl))))))))))))) rfl)
end
abbrev _root_.Go.Proofs.S1.Bn.Total.Kn:=A8 prog 31 Bn.Total.spec
theorem Bn.Total.Ad (hk:A1 prog Bn.Total.Ba) (h:Hyp Bn.Total.E f31 Bn.Total.ts Bn.Total.pre Bn.Total.out):Bn.Total.Kn :=
 Al (A4 hk _ _ _) func31 (by kernel_rfl) (by kernel_rfl) h
def Ci.Total.hint:Nat→Option Bc
 | 0=>some { keep:=[4,6,7,8,11,12],objs:=[],boxes:=[4,7,11] }
 | _=>none
def Ci.Total.Ba:List (Nat × Entry):=[(86,A6.Dn.spec),(84,Bq.Hn.spec),(19,Bq.Order.spec),(87,Ah.Div.spec),(74,Ah.Finite.spec),(85,Ah.Br.spec),(55,Am.At.spec),(36,Am.Bt.spec),(54,Am.Hj.arg.spec),(53,Am.A9.arg.spec),(37,Ao.Az.spec),(83,Ci.Cc.spec)]
def Ci.Total.live:Nat→Option (List Nat)
 | 6=>some [2,3,4,6]
 | 7=>some [4,6,7]
 | 9=>some [4,6,7]
 | 11=>some [4,6,7,8,9,10]
 | 18=>some [4,11]
 | _=>none
def Ci.Total.E:Env:=Bg (Bb Ci.Total.Ba) (fun _=>false) Ci.Total.hint Ci.Total.live
section
variable (N M:Nat) (r c:Int) (l:List Int) (p q:Int) (m:List Int) (p7 p7_1:Int) (p7_2:List Int) (p7_3 p7_4:Int) (p7_5 p7_6:List Int) (p7_7:Int) (p11_1:List Int) (p8 p12:Int) (p11:List Int) (p9:Int) (p10:Bool)
def Ci.Total.C6:Option DV:=cutAt Ci.Total.E N f32 (Ak f32) [1,1,1,1] [] ⟨Fo 97 [(2,.ptr 2 0 0),(3,.ptr 3 0 0),(4,.ptr 4 0 0),(6,.int .i64 c)],[(4,false,.box [.int .i64 0,.int .i64 0,.nil]),(3,false,.box [.int .i64 p,.int .i64 q,.ints .arg .u64 m]),(2,false,.box [.int .i64 r,.int .i64 c,.ints .arg .u64 l])]⟩
def Ci.Total.C7:Option DV:=cutAt Ci.Total.E N f32 (Ak f32) [1,1,1,1,1,0] [] ⟨Fo 97 [(4,.ptr 4 0 0),(6,.int .i64 c),(7,.ptr 7 0 0)],[(7,false,.box [.int .i64 p7,.int .i64 p7_1,.ints .arg .u64 p7_2,.int .i64 p7_3,.int .i64 p7_4,.ints .arg .u64 p7_5,.ints .fresh .u64 p7_6,.int .i64 p7_7]),(4,false,.box [.int .i64 0,.int .i64 0,.nil]),(3,false,.box [.int .i64 p,.int .i64 q,.ints .arg .u64 m]),(2,false,.box [.int .i64 r,.int .i64 c,.ints .arg .u64 l])]⟩
def Ci.Total.C9:Option DV:=cutAt Ci.Total.E N f32 (Ak f32) [1,1,1,1,1,1] [] ⟨Fo 97 [(4,.ptr 4 0 0),(6,.int .i64 c),(7,.ptr 7 0 0)],[(7,false,.box [.int .i64 p7,.int .i64 p7_1,.ints .arg .u64 p7_2,.int .i64 p7_3,.int .i64 p7_4,.ints .arg .u64 p7_5,.ints .fresh .u64 p7_6,.int .i64 p7_7]),(4,false,.box [.int .i64 0,.int .i64 0,.nil]),(3,false,.box [.int .i64 p,.int .i64 q,.ints .arg .u64 m]),(2,false,.box [.int .i64 r,.int .i64 c,.ints .arg .u64 l])]⟩
def Ci.Total.C11:Option DV:=cutAt Ci.Total.E N f32 (Ak f32) [1,1,1,1,1,1,1,1,0] [] ⟨Fo 97 [(4,.ptr 4 0 0),(6,.int .i64 c),(7,.ptr 7 0 0),(8,.int .u64 p8),(9,.int .i64 p9),(10,.bool p10)],[(7,false,.box [.int .i64 p7,.int .i64 p7_1,.ints .arg .u64 p7_2,.int .i64 p7_3,.int .i64 p7_4,.ints .arg .u64 p7_5,.ints .fresh .u64 p7_6,.int .i64 p7_7]),(4,false,.box [.int .i64 0,.int .i64 0,.nil]),(3,false,.box [.int .i64 p,.int .i64 q,.ints .arg .u64 m]),(2,false,.box [.int .i64 r,.int .i64 c,.ints .arg .u64 l])]⟩
def Ci.Total.L0:Option DV:=Cb Ci.Total.E N f32 (Ak f32) [1,1,1,1,1,1,1,1,1,1,0,1,0] [] M ⟨Fo 97 [(4,.ptr 4 0 0),(6,.int .i64 c),(7,.ptr 7 0 0),(8,.int .u64 p8),(11,.ptr 11 0 0),(12,.int .i64 p12)],[(4,false,.box [.int .i64 0,.int .i64 0,.nil]),(7,false,.box [.int .i64 p7,.int .i64 p7_1,.ints .arg .u64 p7_2,.int .i64 p7_3,.int .i64 p7_4,.ints .arg .u64 p7_5,.ints .fresh .u64 p7_6,.int .i64 p7_7]),(11,false,.box [.int .i64 c,.int .i64 1,.ints .arg .u64 p11])]⟩
def Ci.Total.C18:Option DV:=cutAt Ci.Total.E N f32 (Ak f32) [1,1,1,1,1,1,1,1,1,1,1,0] [] ⟨Fo 97 [(4,.ptr 4 0 0),(11,.ptr 11 0 0)],[(4,false,.box [.int .i64 0,.int .i64 0,.nil]),(7,false,.box [.int .i64 p7,.int .i64 p7_1,.ints .arg .u64 p7_2,.int .i64 p7_3,.int .i64 p7_4,.ints .arg .u64 p7_5,.ints .fresh .u64 p7_6,.int .i64 p7_7]),(11,false,.box [.int .i64 c,.int .i64 1,.ints .arg .u64 p11_1])]⟩
theorem Ci.Total.A2g:Ci.Total.C6 N r c l p q m=bif ((A3 r c l&&A3 p q m)&&decide (p=r∧c+q≤6)) then bif (A3 r (c+q) (B8 (toNat r) (toNat (c+q)) (fun j1 j2=>Er c l q m j1 j2))&&(Aj (B8 (toNat r) (toNat (c+q)) (fun j1 j2=>Er c l q m j1 j2))&&decide (D2 (B8 (toNat r) (toNat (c+q)) (fun j1 j2=>Er c l q m j1 j2))=true))) then Ci.Total.C7 N r c l p q m ((F9 r (c+q) (B8 (toNat r) (toNat (c+q)) (fun j1 j2=>Er c l q m j1 j2))).1) ((F9 r (c+q) (B8 (toNat r) (toNat (c+q)) (fun j1 j2=>Er c l q m j1 j2))).2.1) ((F9 r (c+q) (B8 (toNat r) (toNat (c+q)) (fun j1 j2=>Er c l q m j1 j2))).2.2.1) ((Gt r (c+q) (B8 (toNat r) (toNat (c+q)) (fun j1 j2=>Er c l q m j1 j2))).1) ((Gt r (c+q) (B8 (toNat r) (toNat (c+q)) (fun j1 j2=>Er c l q m j1 j2))).2.1) ((Gt r (c+q) (B8 (toNat r) (toNat (c+q)) (fun j1 j2=>Er c l q m j1 j2))).2.2.1) (Xa r (c+q) (B8 (toNat r) (toNat (c+q)) (fun j1 j2=>Er c l q m j1 j2))) (Jn r (c+q) (B8 (toNat r) (toNat (c+q)) (fun j1 j2=>Er c l q m j1 j2))) else none else none:=(Dk _ _ _ _ _ _ _).trans (by kernel_rfl)
theorem Ci.Total.Y4:Ci.Total.C7 N r c l p q m p7 p7_1 p7_2 p7_3 p7_4 p7_5 p7_6 p7_7=bif (p7_7 !=(0:Int)) then some (.tup [.agg [.int .i64 0,.int .i64 0,.nil],.int .i64 p7_7]) else Ci.Total.C9 N r c l p q m p7 p7_1 p7_2 p7_3 p7_4 p7_5 p7_6 p7_7:=(Dk _ _ _ _ _ _ _).trans (by kernel_rfl)
theorem Ci.Total.A2f:Ci.Total.C9 N r c l p q m p7 p7_1 p7_2 p7_3 p7_4 p7_5 p7_6 p7_7=bif (Em p7_3 p7_4 p7_5 c c) then bif (Af (D8 p7_4 p7_5 c c)) then bif (Dd 4607182418800017408 (-20:Int)) then bif (Af (Gj (D8 p7_4 p7_5 c c))&&Af (Bf 4607182418800017408 (-20:Int))) then Ci.Total.C11 N r c l p q m p7 p7_1 p7_2 p7_3 p7_4 p7_5 p7_6 p7_7 (D8 p7_4 p7_5 c c) (G7 (Gj (D8 p7_4 p7_5 c c)) (Bf 4607182418800017408 (-20:Int))) (Nu (Gj (D8 p7_4 p7_5 c c)) (Bf 4607182418800017408 (-20:Int))) else none else none else none else none:=(Dk _ _ _ _ _ _ _).trans (by kernel_rfl)
theorem Ci.Total.Vh:Ci.Total.C11 N r c l p q m p7 p7_1 p7_2 p7_3 p7_4 p7_5 p7_6 p7_7 p8 p9 p10=bif ((!p10)||(Ex p9 0)) then some (.tup [.agg [.int .i64 0,.int .i64 0,.nil],.int .i64 7]) else bif (Bp c&&Bp 1) then Ci.Total.L0 N N c p7 p7_1 p7_2 p7_3 p7_4 p7_5 p7_6 p7_7 p8 0 (B8 (toNat c) (toNat 1) (fun _ _=>0)) else none :=
 Eq.trans ((Dk _ _ _ _ _ _ _).trans (by kernel_rfl))
 (Ay (Un p10) (Ay (Pz p10) (Ay (Xc p10) (Cw (Ava _ _) rfl rfl))))
theorem Ci.Total.Au:Ci.Total.L0 N (M+1) c p7 p7_1 p7_2 p7_3 p7_4 p7_5 p7_6 p7_7 p8 p12 p11=bif (Bi p12 c) then bif (Em p7_3 p7_4 p7_5 p12 c) then bif (Af (D8 p7_4 p7_5 p12 c)&&Af p8) then bif (Af (Es (D8 p7_4 p7_5 p12 c) p8)) then bif (Em c 1 p11 p12 0) then Ci.Total.L0 N M c p7 p7_1 p7_2 p7_3 p7_4 p7_5 p7_6 p7_7 p8 (Ab (p12+1)) (List.set p11 (toNat (p12*1+0)) (Da (Es (D8 p7_4 p7_5 p12 c) p8))) else none else none else none else none else Ci.Total.C18 N c p7 p7_1 p7_2 p7_3 p7_4 p7_5 p7_6 p7_7 p11 :=
 Eq.trans (by kernel_rfl)
 (E1 (Cw (Ct _) (Cw (Ct _) (Cw (Ct _) (Cw (Ct _) rfl rfl) rfl) rfl) rfl) rfl)
theorem Ci.Total.Ab7:Ci.Total.C18 N c p7 p7_1 p7_2 p7_3 p7_4 p7_5 p7_6 p7_7 p11_1=bif (B4 p11_1) then bif (!(D2 p11_1)) then some (.tup [.agg [.int .i64 0,.int .i64 0,.nil],.int .i64 2]) else some (.tup [.agg [.int .i64 c,.int .i64 1,.ints .arg .u64 p11_1],.int .i64 0]) else none:=(Dk _ _ _ _ _ _ _).trans (by kernel_rfl)
theorem Ci.Total.ev:B0 Ci.Total.E N f32 (Ak f32) [.agg [.int .i64 r,.int .i64 c,.ints .arg .u64 l],.agg [.int .i64 p,.int .i64 q,.ints .arg .u64 m]]=bif (Zd l m []) then bif ((O7 r c l p q m 0 0 []) !=(0:Int)) then bif (Zd l m []) then some (.tup [.agg [.int .i64 0,.int .i64 0,.nil],.int .i64 (O7 r c l p q m 0 0 [])]) else none else bif ((((p !=r)||(q !=(1:Int)))||(c==(0:Int)))||(Ex 6 c)) then some (.tup [.agg [.int .i64 0,.int .i64 0,.nil],.int .i64 3]) else Ci.Total.C6 N r c l p q m else none :=
 Eq.trans (by kernel_rfl)
 (E1 (E1 rfl (Ay (T3 (p !=r)) (Ay (Rv (p !=r)) (Ay (Rv (p !=r)) (Ay (Y5 (p !=r)) (Ay (Aeo (p !=r) (q !=(1:Int))) (Ay (Agm (p !=r) (q !=(1:Int))) (Ay (Anb (p !=r) (q !=(1:Int))) (Ay (Agn (p !=r) (q !=(1:Int)) (c==(0:Int))) (Ay (Aep (p !=r) (q !=(1:Int)) (c==(0:Int))) (Ay (Anc (p !=r) (q !=(1:Int)) (c==(0:Int))) (Cw (Ayg _ _ _ _) rfl rfl)))))))))))) rfl)
end
abbrev _root_.Go.Proofs.S1.Ci.Total.Kn:=A8 prog 32 Ci.Total.spec
theorem Ci.Total.Ad (hk:A1 prog Ci.Total.Ba) (h:Hyp Ci.Total.E f32 Ci.Total.ts Ci.Total.pre Ci.Total.out):Ci.Total.Kn :=
 Al (A4 hk _ _ _) func32 (by kernel_rfl) (by kernel_rfl) h
def Db.Dl.Ba:List (Nat × Entry):=[(33,Db.Il.spec),(26,Am.Fg.spec),(32,Ci.Total.spec),(31,Bn.Total.spec)]
def Db.Dl.E:Env:=Bg (Bb Db.Dl.Ba) (fun _=>false) (fun _=>none) (fun _=>none)
theorem Db.Dl.ev (N:Nat) (r c:Int) (l:List Int) (p q:Int) (m:List Int):B0 Db.Dl.E N f7 (Ak f7) [.agg [.int .i64 r,.int .i64 c,.ints .arg .u64 l],.agg [.int .i64 p,.int .i64 q,.ints .arg .u64 m]]=bif (Aj l&&Aj m) then bif (Aj l&&Aj m) then bif ((!(((Gu r c l p q m).2.2.2)==((Gu r c l p q m).2.2.2)))||(Aao ((Gu r c l p q m).2.2.1))) then some (.bool (bif (bif (((Gu r c l p q m).2.2.2)==((Gu r c l p q m).2.2.2)) then (Yl ((Gu r c l p q m).1) ((Gu r c l p q m).2.1) ((Gu r c l p q m).2.2.1) ((Gu r c l p q m).1) ((Gu r c l p q m).2.1) ((Gu r c l p q m).2.2.1)) else false) then true else false)) else none else none else none :=
 Eq.trans (by kernel_rfl)
 (E1 (E1 (Ay (R5 (((Gu r c l p q m).2.2.2)==((Gu r c l p q m).2.2.2))) (Ay (R5 (((Gu r c l p q m).2.2.2)==((Gu r c l p q m).2.2.2))) (Cw (A29 _ _) (Ay (W8 (((Gu r c l p q m).2.2.2)==((Gu r c l p q m).2.2.2))) (Ay (Aqw (((Gu r c l p q m).2.2.2)==((Gu r c l p q m).2.2.2)) (Yl ((Gu r c l p q m).1) ((Gu r c l p q m).2.1) ((Gu r c l p q m).2.2.1) ((Gu r c l p q m).1) ((Gu r c l p q m).2.1) ((Gu r c l p q m).2.2.1))) (Ay (Au7 (((Gu r c l p q m).2.2.2)==((Gu r c l p q m).2.2.2)) (Yl ((Gu r c l p q m).1) ((Gu r c l p q m).2.1) ((Gu r c l p q m).2.2.1) ((Gu r c l p q m).1) ((Gu r c l p q m).2.1) ((Gu r c l p q m).2.2.1))) rfl))) rfl))) rfl) rfl)
abbrev _root_.Go.Proofs.S1.Db.Dl.Kn:=A8 prog 7 Db.Dl.spec
theorem Db.Dl.Ad (hk:A1 prog Db.Dl.Ba) (h:Hyp Db.Dl.E f7 Db.Dl.ts Db.Dl.pre Db.Dl.out):Db.Dl.Kn :=
 Al (A4 hk _ _ _) func7 (by kernel_rfl) (by kernel_rfl) h
end EqTot
open EqTot
theorem Bn.Cc.two.known:Bn.Cc.two.Kn:=Bn.Cc.two.Ad (.cons Cz.Check.known .nil) fun r c l p q m hp=>by
 obtain ⟨al,am⟩:=Ac.1 (show (Aj l&&Aj m)=true from hp)
 refine ⟨0+4,.int .i64 (Vb r c l p q m),[],?_,.int⟩
 rw [Bn.Cc.two.ev,al,am,A4q,A4q]
 unfold Vb
 by_cases k1:Cj r c l=0
 ·rw [H6 k1,A4u,A5c (fun h=>h k1)]
  by_cases k2:Cj p q m=0
  ·rw [H6 k2,A4u,k2]
  ·rw [Y7 k2,A4q]
 ·rw [Y7 k1,A4q,A5d k1]
theorem Aey {c b:Int} {l:List Int} {n j:Nat} (h:j<n):(Cn c l b 0 n).getD j 0=D8 c l (j:Int) b:=by
 unfold Cn
 rw [A40,A57,List.getElem?_range h]
 show D8 c l (0+(j:Int)) b=_
 rw [Int.zero_add]
theorem Ata {n:Nat} (f:Nat→Nat→Int):B8 n 1 f=(List.range n).map fun i=>f i 0:=by
 unfold B8
 rw [A5z]
 exact List.map_congr_left fun j _=>by rw [Nat.div_one,Nat.mod_one]
theorem Af1 {r c:Int} {l:List Int} (h:Cj r c l=0):A3 r c l=true∧D2 l=true:=by
 unfold Cj at h
 by_cases h1:A3 r c l=true
 ·rw [A5d h1] at h
  by_cases h2:D2 l=true
  ·exact ⟨h1,h2⟩
  ·rw [A5c h2] at h; cases h
 ·rw [A5c h1] at h; cases h
theorem Amo {c i k:Int} {l:List Int} (h:D2 l=true):Dw (D8 c l i k)=true:=by
 unfold D8
 rw [A40]
 rcases A5n (i*c+k).toNat l.length with g | g
 ·rw [A47 g]; exact List.all_eq_true.1 h _ (List.getElem_mem g)
 ·rw [A58 g]; rfl
def Fu (R C:Nat) (l m:List Int):List Int:=B8 R (C+1) fun i k=>Er (C:Int) l 1 m (i:Int) (k:Int)
theorem Abz (R C:Nat) (l m:List Int):(Fu R C l m).length=R*(C+1):=Cd _ _ _
theorem Amv {R C:Nat} {l m:List Int} (al:Aj l=true) (am:Aj m=true):Aj (Fu R C l m)=true:=I9 fun i k=>by
 unfold Er
 split
 ·exact F7 al
 ·exact F7 am
theorem At4 {R C:Nat} {l m:List Int} (al:D2 l=true) (am:D2 m=true):D2 (Fu R C l m)=true:=List.all_eq_true.2 fun x hx=>by
 obtain ⟨j,_,rfl⟩:=List.mem_map.1 hx
 show Dw (Er _ _ _ _ _ _)=true
 unfold Er
 split
 ·exact Amo al
 ·exact Amo am
def Anl (C:Nat) (V:List Int) (i:Nat):Int:=Da (Es (D8 ((C:Int)+1) V (i:Int) (C:Int)) (D8 ((C:Int)+1) V (C:Int) (C:Int)))
theorem Vk (C:Nat) (V:List Int):Zx (C:Int) V=(List.range C).map (Anl C V):=by
 unfold Zx; rw [A4s]; rfl
theorem Aq0 (C:Nat) (V:List Int):Aj (Zx (C:Int) V)=true:=by rw [Vk]; exact W3 fun _=>Oz (Ji _ _)
theorem Alq (C:Nat) (V:List Int):(Zx (C:Int) V).length=C:=by rw [Vk,A5w,A5t]
section
variable {C:Nat} {V:List Int} (c6:C<6) (hV:V.length=(C+1)*(C+1)) (aV:Aj V=true) (N:Nat)
include c6 aV
theorem Ayp:∀ (d k F:Nat),k+d=C→d<F →
 Bn.Total.L0 N F (C:Int) ((C:Int)+1) ((C:Int)+1) V (k:Int) ((List.range k).map (Anl C V))=Bn.Total.C21 N (C:Int) (Zx (C:Int) V):=by
 have e1:toNat (((C:Int)+1)-(0:Int))=C+1:=by omega
 have lt:(List.take C (Cn ((C:Int)+1) V (C:Int) 0 (C+1))).length=C:=by rw [List.length_take,Fs]; omega
 have eu:getD (Cn ((C:Int)+1) V (C:Int) 0 (C+1)) C 0=D8 ((C:Int)+1) V (C:Int) (C:Int):=Aey (by omega)
 intro d
 induction d with
 | zero =>
   intro k F hk hF
   obtain ⟨F,rfl⟩:∃ G,F=G+1:=⟨F-1,by omega⟩
   obtain rfl:k=C:=by omega
   rw [Bn.Total.Au,e1,A4s,lt,Av,A4v (by omega),A4u,Vk]
 | succ d ih =>
   intro k F hk hF
   obtain ⟨F,rfl⟩:∃ G,F=G+1:=⟨F-1,by omega⟩
   have ek:getD (List.take C (Cn ((C:Int)+1) V (C:Int) 0 (C+1))) k 0=D8 ((C:Int)+1) V (k:Int) (C:Int):=by
    rw [A40,List.getElem?_take_of_lt (by omega),← A40]
    exact Aey (by omega)
   have a1:decide ((0:Int)≤(k:Int))=true:=A4r (by omega)
   have a2:decide ((k:Int)<(C:Int))=true:=A4r (by omega)
   rw [Bn.Total.Au,e1,show toNat ((C:Nat):Int)=C from A4s C,lt,Av,a1,a2,A4q,A4w,A4q,show toNat ((k:Nat):Int)=k from A4s k,ek,eu,F7 aV,F7 aV,A4w,A4q,Ji,A4q,A4r (by rw [A5w,A5t]; unfold G8; omega),A4q,An (by omega) (by omega)]
   have:=ih (k+1) F (by omega) (by omega)
   rw [List.range_succ,List.map_append] at this
   exact this
include hV
theorem Avb (r c:Int) (l:List Int) (p q:Int) (m:List Int) (p8 p8_1:Int) (p8_2:List Int) (p10 p10_1:Int) (p10_2:List Int) (hN:6<N) (hc:c=(C:Int)) :
 ∃ dv,Bn.Total.C11 N r c l p q m p8 p8_1 p8_2 ((C:Int)+1) ((C:Int)+1) V p10 p10_1 p10_2=some dv∧Wk [117002] dv (R3 (Ank (C:Int) V)):=by
 subst hc
 have e1:toNat (((C:Int)+1)-(0:Int))=C+1:=by omega
 have eC:(C:Int)+1=((C+1:Nat):Int):=by omega
 have ln:(Cn ((C:Int)+1) V (C:Int) 0 (C+1)).length=C+1:=Fs ..
 have eu:getD (Cn ((C:Int)+1) V (C:Int) 0 (C+1)) C 0=D8 ((C:Int)+1) V (C:Int) (C:Int):=Aey (by omega)
 have cp:(Hh ((C:Int)+1) ((C:Int)+1) V (C:Int)&&B3 (0≤(0:Int)∧(0:Int)≤(C:Int)+1))=true:=by
  refine Ac.2 ⟨Ac.2 ⟨?_,Aq.2 (by omega)⟩,Aq.2 (by omega)⟩
  rw [eC]; exact Ew (by omega) (by omega) hV
 have sp:Dd (4607182418800017408:Int) (-20:Int)=true:=Ac.2 ⟨Lp,Aq.2 (by decide)⟩
 rw [Bn.Total.Vh,cp,A4q,e1,ln,A4r (show (0:Int)≤(C:Int) by omega),A4r (show (C:Int)<((C+1:Nat):Int) by omega),A4w,A4q,sp,A4q,show toNat ((C:Nat):Int)=C from A4s C,eu,F7 aV,A4q,Ha Lp,Ns,A4w,A4q]
 unfold Ank
 show ∃ dv,(bif !(Sl (Bf V8 (-20)) (Gj (D8 ((C:Int)+1) V (C:Int) (C:Int)))) then _ else _)=some dv∧_
 cases Sl (Bf V8 (-20)) (Gj (D8 ((C:Int)+1) V (C:Int) (C:Int))) with
 | false =>
   rw [A5c (by decide)]
   exact ⟨_,rfl,Iy⟩
 | true =>
   rw [A5d rfl,A5p,A4u,A4r (show (C:Int)≤((C+1:Nat):Int) by omega),A4w,A4q]
   have:=Ayp c6 aV N C 0 N (by omega) (by omega)
   have this:Bn.Total.L0 N N (C:Int) ((C:Int)+1) ((C:Int)+1) V (0:Int) []=_:=this
   rw [this,Bn.Total.Az4,Gi (Aq0 C V) (by rw [Alq]; omega),A4q]
   unfold T5
   cases D2 (Zx (C:Int) V) with
   | true =>
     rw [A5d rfl]
     exact ⟨_,rfl,Wk.Hs (.cons (R7 (List.mem_singleton.2 rfl)) (.cons .int .nil))⟩
   | false =>
     rw [A5c (by decide)]
     exact ⟨_,rfl,Iy⟩
end
theorem Bn.Total.known:Bn.Total.Kn:=Bn.Total.Ad (.cons compare.Hn.known (.cons compare.K3.known (.cons Aa.Bt.known (.cons Aa.D3.known (.cons Bn.Cc.two.known (.cons soft.Dn.known (.cons B5.Az.known (.cons Ae.Div.known (.cons Ae.Finite.known (.cons Ae.Br.known .nil)))))))))) fun r c l p q m hp=>by
 have hall:(Aj l&&Aj m)=true:=hp
 obtain ⟨al,am⟩:=Ac.1 hall
 show ∃ N dv drops,_=some dv∧Wk drops dv (R3 (Gu r c l p q m))
 unfold Gu
 by_cases k:Vb r c l p q m=0
 ·have k1:Cj r c l=0:=by
   unfold Vb at k
   by_cases h:Cj r c l=0
   ·exact h
   ·rw [A5d h] at k; exact k
  have k2:Cj p q m=0:=by unfold Vb at k; rw [A5c (fun h=>h k1)] at k; exact k
  obtain ⟨hr,_⟩:=Af1 k1
  obtain ⟨hm,_⟩:=Af1 k2
  rw [A5c (fun h=>h k)]
  obtain ⟨R,C,rfl,rfl,r6,c6,hl⟩:=Cu hr
  have ew:Ab ((C:Int)+1)=(C:Int)+1:=An (by omega) (by omega)
  by_cases g:p≠(R:Int)∨q≠1∨(C:Int)=0∨6≤(C:Int)
  ·rw [A5d g]
   have e:((((p !=(R:Int))||(q !=(1:Int)))||((C:Int)==(0:Int)))||(Bi (6:Int) ((C:Int)+1)))=true:=by
    rw [Av]
    simp only [Bool.or_eq_true,bne_iff_ne,beq_iff_eq,A4x]
    omega
   exact ⟨0,_,[],by rw [Bn.Total.ev,hall,A4q,H6 k,A4u,ew,e,A4q]; rfl,Iy⟩
  ·have g1:p=(R:Int)∧q=1∧(C:Int)≠0∧(C:Int)<6:=by omega
   obtain ⟨rfl,rfl,g3,g4⟩:=g1
   rw [A5c g]
   have e:((((((R:Int)) !=(R:Int))||(((1:Int)) !=(1:Int)))||((C:Int)==(0:Int)))||(Bi (6:Int) ((C:Int)+1)))=false:=by
    rw [Av,A4v (by omega),show ((R:Int) !=(R:Int))=false by simp,show ((C:Int)==(0:Int))=false by simpa using g3]
    rfl
   have eC:(C:Int)+1=((C+1:Nat):Int):=by omega
   have eb:Jk (R:Int) (C:Int) l (R:Int) 1 m=((R:Int),(C:Int)+1,Fu R C l m,0):=by
    unfold Jk Fu
    rw [hr,hm,A4w,A5d rfl,A5d ⟨rfl,by omega⟩,eC,A4s,A4s]
   have ab:=Amv (R:=R) (C:=C) al am
   have e0:B0 Bn.Total.E 8 Tryz.f31 (Ak Tryz.f31) [.agg [.int .i64 (R:Int),.int .i64 (C:Int),.ints .arg .u64 l],.agg [.int .i64 (R:Int),.int .i64 1,.ints .arg .u64 m]] =
    Bn.Total.C8 8 (R:Int) (C:Int) l (R:Int) 1 m (R:Int) ((C:Int)+1) (Fu R C l m):=by
    rw [Bn.Total.ev,hall,A4q,H6 k,A4u,ew,e,A4u,Bn.Total.Y4,eb]
   rw [eb]
   unfold Avc
   by_cases hE:Jn (R:Int) ((C:Int)+1) (Fu R C l m)=0
   ·rw [A5c (fun h=>h hE)]
    have hi:H5 R (C+1) ((Eg R (C+1) (Fu R C l m)).1,(Eg R (C+1) (Fu R C l m)).2.1,true):=H5.Ee 60 (Q1 (Abz R C l m) ab)
    have hV:(Nx R (C+1) (Fu R C l m)).length=(C+1)*(C+1):=F5 ..
    have aV:Aj (Nx R (C+1) (Fu R C l m))=true:=K2 hi.2.2
    obtain ⟨dv,h1,h2⟩:=Avb (by omega) hV aV 8 (R:Int) (C:Int) l (R:Int) 1 m (R:Int) ((C:Int)+1) (Fu R C l m) ((F9 (R:Int) ((C:Int)+1) (Fu R C l m)).1) ((F9 (R:Int) ((C:Int)+1) (Fu R C l m)).2.1) ((F9 (R:Int) ((C:Int)+1) (Fu R C l m)).2.2.1) (by decide) rfl
    have ev:Gt (R:Int) ((C:Int)+1) (Fu R C l m)=((C:Int)+1,(C:Int)+1,Nx R (C+1) (Fu R C l m),0):=by
     unfold Gt
     rw [A5c (fun h=>h hE),eC,A4s,A4s]
    refine ⟨8,dv,[117002],e0.trans ?_,?_⟩
    ·rw [Bn.Total.Aed,ab,A4q,H6 hE,A4u,ev]
     exact h1
    ·rw [A4s,eC,A4s]
     exact h2
   ·rw [A5d hE]
    exact ⟨8,_,[],e0.trans (by rw [Bn.Total.Aed,ab,A4q,Y7 hE,A4q]; rfl),Iy⟩
 ·rw [A5d k]
  exact ⟨0,_,[],by rw [Bn.Total.ev,hall,A4q,Y7 k,A4q]; rfl,Iy⟩
def Azy (x:MX):DV:=.tup [.agg [.int .i64 x.1,.int .i64 x.2.1,.ints .arg .u64 x.2.2.1],.int .i64 x.2.2.2]
theorem Zw {drops:List Nat} {e:Int}:Wk drops (Asd e) (Azy (M9 e)) :=
 Wk.Hs (.cons (Wk.Hc (.cons .int (.cons .int (.cons (.nil _ _) .nil)))) (.cons .int .nil))
section
variable {C:Nat} {V:List Int} (c6:C<6) (hV:V.length=(C+1)*(C+1)) (aV:Aj V=true) (N:Nat) (p7 p7_1:Int) (p7_2 p7_6:List Int) (p7_7:Int)
include c6 hV aV
theorem Avn:∀ (d k F:Nat),k+d=C→d<F →
 Ci.Total.L0 N F (C:Int) p7 p7_1 p7_2 ((C:Int)+1) ((C:Int)+1) V p7_6 p7_7 (D8 ((C:Int)+1) V (C:Int) (C:Int)) (k:Int) (fill C 1 (fun i _=>Anl C V i) (dR k 0)) =
  Ci.Total.C18 N (C:Int) p7 p7_1 p7_2 ((C:Int)+1) ((C:Int)+1) V p7_6 p7_7 (Zx (C:Int) V):=by
 have eC:(C:Int)+1=((C+1:Nat):Int):=by omega
 intro d
 induction d with
 | zero =>
   intro k F hk hF
   obtain ⟨F,rfl⟩:∃ G,F=G+1:=⟨F-1,by omega⟩
   obtain rfl:k=C:=by omega
   rw [Ci.Total.Au,Av,A4v (by omega),A4u,Abk (fun a b ha hb=>by simp only [dR,A4x]; omega),Ata,Vk]
 | succ d ih =>
   intro k F hk hF
   obtain ⟨F,rfl⟩:∃ G,F=G+1:=⟨F-1,by omega⟩
   have at1:Em ((C:Int)+1) ((C:Int)+1) V (k:Int) (C:Int)=true:=by
    rw [eC]; exact Fa (by omega) (by omega) hV (by omega) (by omega)
   have at2:Em (C:Int) (1:Int) (fill C 1 (fun i _=>Anl C V i) (dR k 0)) (k:Int) (0:Int)=true:=Fa (c:=1) (k:=0) (by omega) (by decide) (Pr _ _ _ _) (by omega) (by decide)
   have fs:=Wv (r:=C) (c:=1) (i:=k) (k:=0) (d:=dR k 0) (d':=dR (k+1) 0) (f:=fun i _=>Anl C V i) (x:=Anl C V k) (by decide) rfl (fun a b ha hb=>by simp only [dR,A4x]; omega)
   rw [Ci.Total.Au,Av,A4r (by omega),A4q,at1,A4q,F7 aV,F7 aV,A4w,A4q,Ji,A4q,at2,A4q,An (by omega) (by omega)]
   have:=ih (k+1) F (by omega) (by omega)
   rw [← fs] at this
   exact this
theorem Avo (r c:Int) (l:List Int) (p q:Int) (m:List Int) (hN:6<N) (hc:c=(C:Int)) :
 ∃ dv,Ci.Total.C9 N r c l p q m p7 p7_1 p7_2 ((C:Int)+1) ((C:Int)+1) V p7_6 p7_7=some dv∧Wk [] dv (Azy (Ank (C:Int) V)):=by
 subst hc
 have eC:(C:Int)+1=((C+1:Nat):Int):=by omega
 have at1:Em ((C:Int)+1) ((C:Int)+1) V (C:Int) (C:Int)=true:=by
  rw [eC]; exact Fa (by omega) (by omega) hV (by omega) (by omega)
 have sp:Dd (4607182418800017408:Int) (-20:Int)=true:=Ac.2 ⟨Lp,Aq.2 (by decide)⟩
 rw [Ci.Total.A2f,at1,A4q,F7 aV,A4q,sp,A4q,Ns,Ha Lp,A4w,A4q,Ci.Total.Vh,Fb]
 have em:((!(Nu (Gj (D8 ((C:Int)+1) V (C:Int) (C:Int))) (Bf (4607182418800017408:Int) (-20:Int))))||decide (G7 (Gj (D8 ((C:Int)+1) V (C:Int) (C:Int))) (Bf (4607182418800017408:Int) (-20:Int))≤0))=!(Sl (Bf V8 (-20)) (Gj (D8 ((C:Int)+1) V (C:Int) (C:Int)))):=by
  rw [← Qo]
  unfold Fx
  show _=!(Nu (Gj (D8 ((C:Int)+1) V (C:Int) (C:Int))) (Bf (4607182418800017408:Int) (-20:Int))&&decide (0<G7 (Gj (D8 ((C:Int)+1) V (C:Int) (C:Int))) (Bf (4607182418800017408:Int) (-20:Int))))
  rw [Bool.not_and]
  congr 1
  rw [← decide_not]
  exact decide_eq_decide.2 (by omega)
 rw [em]
 unfold Ank
 cases Sl (Bf V8 (-20)) (Gj (D8 ((C:Int)+1) V (C:Int) (C:Int))) with
 | false =>
   rw [A5c (by decide)]
   exact ⟨_,rfl,Zw⟩
 | true =>
   rw [A5d rfl,A5p,A4u,Ml (by omega),show Bp (1:Int)=true from Ml (n:=1) (by decide),A4w,A4q,A4s]
   have:=Avn c6 hV aV N p7 p7_1 p7_2 p7_6 p7_7 C 0 N (by omega) (by omega)
   rw [Tu (fun a b ha hb=>by simp only [dR,A4x]; omega)] at this
   have this:Ci.Total.L0 N N (C:Int) p7 p7_1 p7_2 ((C:Int)+1) ((C:Int)+1) V p7_6 p7_7 (D8 ((C:Int)+1) V (C:Int) (C:Int)) (0:Int) (B8 C (toNat (1:Int)) fun _ _=>0)=_:=this
   rw [this,Ci.Total.Ab7,Gi (Aq0 C V) (by rw [Alq]; omega),A4q]
   unfold T5
   cases D2 (Zx (C:Int) V) with
   | true =>
     rw [A5d rfl]
     exact ⟨_,rfl,Wk.Hs (.cons (Wk.Hc (.cons .int (.cons .int (.cons .W1 .nil)))) (.cons .int .nil))⟩
   | false =>
     rw [A5c (by decide)]
     exact ⟨_,rfl,Zw⟩
end
theorem Abv (r c:Int) (l:List Int) (p q:Int) (m:List Int):O7 r c l p q m 0 0 []=Vb r c l p q m:=by
 have e:Cj 0 0 []=0:=by decide +kernel
 unfold O7 Vb
 rw [e]
 by_cases h:Cj p q m=0
 ·rw [h]; simp
 ·rw [A5d h]
theorem Ci.Total.known:Ci.Total.Kn:=Ci.Total.Ad (.cons A6.Dn.known (.cons Bq.Hn.known (.cons Bq.Order.known (.cons Ah.Div.known (.cons Ah.Finite.known (.cons Ah.Br.known (.cons Am.At.known (.cons Am.Bt.known (.cons Am.Hj.arg.known (.cons Am.A9.arg.known (.cons Ao.Az.known (.cons Ci.Cc.known .nil)))))))))))) fun r c l p q m hp=>by
 have hall:(Aj l&&Aj m)=true:=hp
 obtain ⟨al,am⟩:=Ac.1 hall
 have a3:Zd l m []=true:=by unfold Zd; rw [al,am,Qx]; rfl
 show ∃ N dv drops,_=some dv∧Wk drops dv (Azy (Gu r c l p q m))
 unfold Gu
 by_cases k:Vb r c l p q m=0
 ·have k1:Cj r c l=0:=by
   unfold Vb at k
   by_cases h:Cj r c l=0
   ·exact h
   ·rw [A5d h] at k; exact k
  have k2:Cj p q m=0:=by unfold Vb at k; rw [A5c (fun h=>h k1)] at k; exact k
  obtain ⟨hr,fl⟩:=Af1 k1
  obtain ⟨hm,fm⟩:=Af1 k2
  rw [A5c (fun h=>h k)]
  obtain ⟨R,C,rfl,rfl,r6,c6,hl⟩:=Cu hr
  by_cases g:p≠(R:Int)∨q≠1∨(C:Int)=0∨6≤(C:Int)
  ·rw [A5d g]
   have e:((((p !=(R:Int))||(q !=(1:Int)))||((C:Int)==(0:Int)))||(Ex (6:Int) (C:Int)))=true:=by
    rw [Fb]
    simp only [Bool.or_eq_true,bne_iff_ne,beq_iff_eq,A4x]
    omega
   exact ⟨0,_,[],by rw [Ci.Total.ev,a3,A4q,Abv,H6 k,A4u,e,A4q]; rfl,Zw⟩
  ·have g1:p=(R:Int)∧q=1∧(C:Int)≠0∧(C:Int)<6:=by omega
   obtain ⟨rfl,rfl,g3,g4⟩:=g1
   rw [A5c g]
   have e:((((((R:Int)) !=(R:Int))||(((1:Int)) !=(1:Int)))||((C:Int)==(0:Int)))||(Ex (6:Int) (C:Int)))=false:=by
    rw [Fb,A4v (by omega),show ((R:Int) !=(R:Int))=false by simp,show ((C:Int)==(0:Int))=false by simpa using g3]
    rfl
   have eC:(C:Int)+1=((C+1:Nat):Int):=by omega
   have eb:Jk (R:Int) (C:Int) l (R:Int) 1 m=((R:Int),(C:Int)+1,Fu R C l m,0):=by
    unfold Jk Fu
    rw [hr,hm,A4w,A5d rfl,A5d ⟨rfl,by omega⟩,eC,A4s,A4s]
   have ab:=Amv (R:=R) (C:=C) al am
   have rb:A3 (R:Int) ((C+1:Nat):Int) (Fu R C l m)=true:=Ew r6 (by omega) (Abz R C l m)
   have e0:B0 Ci.Total.E 8 Tryz.f32 (Ak Tryz.f32) [.agg [.int .i64 (R:Int),.int .i64 (C:Int),.ints .arg .u64 l],.agg [.int .i64 (R:Int),.int .i64 1,.ints .arg .u64 m]] =
    Ci.Total.C7 8 (R:Int) (C:Int) l (R:Int) 1 m ((F9 (R:Int) ((C:Int)+1) (Fu R C l m)).1) ((F9 (R:Int) ((C:Int)+1) (Fu R C l m)).2.1) ((F9 (R:Int) ((C:Int)+1) (Fu R C l m)).2.2.1) ((Gt (R:Int) ((C:Int)+1) (Fu R C l m)).1) ((Gt (R:Int) ((C:Int)+1) (Fu R C l m)).2.1) ((Gt (R:Int) ((C:Int)+1) (Fu R C l m)).2.2.1) (Xa (R:Int) ((C:Int)+1) (Fu R C l m)) (Jn (R:Int) ((C:Int)+1) (Fu R C l m)):=by
    have eg:(B8 (toNat (R:Int)) (toNat ((C:Int)+1)) fun j1 j2=>Er (C:Int) l 1 m (j1:Int) (j2:Int))=Fu R C l m:=by rw [eC,A4s,A4s]; rfl
    rw [Ci.Total.ev,a3,A4q,Abv,H6 k,A4u,e,A4u,Ci.Total.A2g,eg,hr,hm,A4r ⟨rfl,by omega⟩,A4w,A4w,A4q,ab,At4 fl fm,eC,rb,A4r rfl,A4w,A4w,A4q]
   rw [eb]
   unfold Avc
   by_cases hE:Jn (R:Int) ((C:Int)+1) (Fu R C l m)=0
   ·rw [A5c (fun h=>h hE)]
    have hi:H5 R (C+1) ((Eg R (C+1) (Fu R C l m)).1,(Eg R (C+1) (Fu R C l m)).2.1,true):=H5.Ee 60 (Q1 (Abz R C l m) ab)
    have hV:(Nx R (C+1) (Fu R C l m)).length=(C+1)*(C+1):=F5 ..
    have aV:Aj (Nx R (C+1) (Fu R C l m))=true:=K2 hi.2.2
    obtain ⟨dv,h1,h2⟩:=Avo (by omega) hV aV 8 ((F9 (R:Int) ((C:Int)+1) (Fu R C l m)).1) ((F9 (R:Int) ((C:Int)+1) (Fu R C l m)).2.1) ((F9 (R:Int) ((C:Int)+1) (Fu R C l m)).2.2.1) (Xa (R:Int) ((C:Int)+1) (Fu R C l m)) (Jn (R:Int) ((C:Int)+1) (Fu R C l m)) (R:Int) (C:Int) l (R:Int) 1 m (by decide) rfl
    have ev:Gt (R:Int) ((C:Int)+1) (Fu R C l m)=((C:Int)+1,(C:Int)+1,Nx R (C+1) (Fu R C l m),0):=by
     unfold Gt
     rw [A5c (fun h=>h hE),eC,A4s,A4s]
    refine ⟨8,dv,[],e0.trans ?_,?_⟩
    ·rw [Ci.Total.Y4,H6 hE,A4u,ev]
     exact h1
    ·rw [A4s,eC,A4s]
     exact h2
   ·rw [A5d hE]
    exact ⟨8,_,[],e0.trans (by rw [Ci.Total.Y4,Y7 hE,A4q]; rfl),Zw⟩
 ·rw [A5d k]
  exact ⟨0,_,[],by rw [Ci.Total.ev,a3,A4q,Abv,Y7 k,A4q,A4q]; rfl,Zw⟩
theorem Ayq (r c:Int) (l:List Int) (p q:Int) (m:List Int):Aao (Gu r c l p q m).2.2.1=true:=by
 refine Aq.2 (A5x (m:=36) ?_ (by decide))
 unfold Gu
 refine Zn (Nat.zero_le _) ?_
 by_cases g:p≠r∨q≠1∨c=0∨6≤c
 ·rw [A5d g]; exact Nat.zero_le _
 ·rw [A5c g]
  unfold Avc Ank T5
  refine Zn (Nat.zero_le _) (Zn (Zn ?_ (Nat.zero_le _)) (Nat.zero_le _))
  show (Zx c _).length≤36
  unfold Zx
  rw [A5w,A5t]
  omega
theorem Db.Dl.known:Db.Dl.Kn:=Db.Dl.Ad (.cons Db.Il.known (.cons Am.Fg.known (.cons Ci.Total.known (.cons Bn.Total.known .nil)))) fun r c l p q m hp=>by
 have hall:(Aj l&&Aj m)=true:=hp
 refine ⟨0,.bool true,[],?_,.bool⟩
 rw [Db.Dl.ev,hall,A4q,A4q,Ayq,A52,A4q,A5q,A4q]
 have e:Yl (Gu r c l p q m).1 (Gu r c l p q m).2.1 (Gu r c l p q m).2.2.1 (Gu r c l p q m).1 (Gu r c l p q m).2.1 (Gu r c l p q m).2.2.1=true:=by unfold Yl; simp
 rw [e]
 rfl
end Go.Proofs.S1
end
