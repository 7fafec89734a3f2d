/- A verified evaluator of the program's form and its use for this seat: UprW, UprX, S1EqLaw17P, S1PLaw17P. -/
import Derived.Test.YtjbokjpbiobjpaaGreatTM
import Derived.Test.YtjbokjpbiobjpaaGreatTL
import Derived.Test.YtjbokjpbiobjpaaGreatTE
import Derived.Test.YtjbokjpbiobjpaaGreatTF
import Derived.Test.YtjbokjpbiobjpaaGreatTK
set_option linter.unusedVariables false
set_option linter.unusedSimpArgs false
noncomputable section
open Int (toNat)
open List (length getD)
open Go.Proofs.Tryz
namespace Go.Cv
open Go.Den Go.Proofs.S1
theorem Alu (c:Nat) (f:Nat→Rat):∀ r,sm (r*c) f=sm r fun i=>sm c fun j=>f (i*c+j)
 | 0=>by rw [Nat.zero_mul]; rfl
 | r+1=>by
   rw [Nat.succ_mul,Pw,Alu c f r]
   rfl
theorem Aew {r c:Nat} {l:List Int} (hl:l.length=r*c):J7 l=H4 r c l:=by
 unfold J7 H4 sq
 rw [Aey,hl,Alu,Y7]
 refine Bk c fun b _=>Bk r fun i _=>?_
 unfold cl D8
 rw [Zr]
theorem Atf (r c q:Nat) (l X h:List Int):Oi r c q l X h=sm q fun k=>sq c fun b=>sm r fun i=>cl c l b i*G6 c (cl c l) (cl q X k) (cl q h k) i:=by
 unfold Oi sq Zk G6
 simp only [Aey]
 rfl
theorem Aid {r c q:Nat} {l m:List Int} (r6:r≤6) (c6:c≤6) (hc:c≤r) (hl:l.length=r*c) (hm:m.length=r*q) (al:Ak l=true) (bA:Bl 60 l) (bB:Bl 60 m) (tB:TL 60 m)
 (dg:∀ i,i<c→Lo 100 (Co (c:Int) (Ex r c l) (i:Int) (i:Int)).toNat) :
 Oi r c q l (Y1 (c:Int) (Ex r c l) (q:Int) (Gd r c q l m) c q) m≤J7 l*(J7 l*J7 (Y1 (c:Int) (Ex r c l) (q:Int) (Gd r c q l m) c q)+J7 m)*tw (-70)+tw (-4000):=by
 have lX:(Y1 (c:Int) (Ex r c l) (q:Int) (Gd r c q l m) c q).length=c*q:=Cf _ _ _
 rw [Atf,Aew hl,Aew hm,Aew lX]
 generalize hX:Y1 (c:Int) (Ex r c l) (q:Int) (Gd r c q l m) c q=X
 have hx:∀ k i,k<q→i<c→cl q X k i=Wl r c q l m k i:=fun k i hk hi=>by rw [← hX]; exact Axd hk hi
 have h:=Rv (f:=fun k=>sq c fun b=>sm r fun i=>cl c l b i*G6 c (cl c l) (cl q X k) (cl q m k) i) (g:=fun k=>tw (-70)*(H4 r c l*(H4 r c l*sq c (cl q X k)+sq r (cl q m k)))) q fun k hk=>by
  have h1:=Aci r6 c6 hc hk al bA bB tB dg
  have e1:(sq c fun b=>sm r fun i=>cl c l b i*G6 c (cl c l) (cl q X k) (cl q m k) i)=sq c fun b=>sm r fun i=>cl c l b i*G6 c (cl c l) (Wl r c q l m k) (cl q m k) i:=by
   unfold sq
   refine Bk c fun b _=>?_
   have:(sm r fun i=>cl c l b i*G6 c (cl c l) (cl q X k) (cl q m k) i)=sm r fun i=>cl c l b i*G6 c (cl c l) (Wl r c q l m k) (cl q m k) i:=Bk r fun i _=>by
    unfold G6
    rw [Bk c (f:=fun j=>cl c l j i*cl q X k j) (g:=fun j=>cl c l j i*Wl r c q l m k j) fun j hj=>by rw [hx k j hk hj]]
   exact congrArg (fun z=>z*z) this
  have e2:sq c (cl q X k)=sq c (Wl r c q l m k):=by
   unfold sq
   exact Bk c fun j hj=>by rw [hx k j hk hj]
  exact (show (sq c fun b=>sm r fun i=>cl c l b i*G6 c (cl c l) (cl q X k) (cl q m k) i)≤tw (-70)*(H4 r c l*(H4 r c l*sq c (cl q X k)+sq r (cl q m k))) by
   rw [e1,e2]
   exact h1)
 have e:(sm q fun k=>tw (-70)*(H4 r c l*(H4 r c l*sq c (cl q X k)+sq r (cl q m k))))=H4 r c l*(H4 r c l*H4 c q X+H4 r q m)*tw (-70):=by
  unfold H4
  rw [F7,F7,Ha,F7]; grind
 rw [e] at h
 have:=Dp (-4000)
 grind
end Go.Cv
namespace Go.Cv
open Go.Den Go.Proofs.S1
structure Tm (r c:Nat) (l:List Int):Prop where
 r6:r≤6
 c6:c≤6
 len:l.length=r*c
 words:Ak l=true
 most:Bl 60 l
 least:TL 60 l
theorem Ax7 {r c:Int} {l:List Int} {k:Nat} (hr:Be r c l=true) (al:Ak l=true) (ht:Mb l (k:Int)=true) (hk:k≤60):∃ R C:Nat,r=R∧c=C∧Tm R C l:=by
 obtain ⟨R,C,e1,e2,r6,c6,hl⟩:=Ef hr
 exact ⟨R,C,e1,e2,r6,c6,hl,al,fun x hx=>((Anm ht).1 x hx).mono hk,fun x hx k0=>(Avm ht x hx k0).mono hk⟩
theorem Akj {r c p q:Nat} {l m:List Int} (A:Tm r c l) (B:Tm p q m) :
 A7 (r:Int) (c:Int) l (p:Int) (q:Int) m=Pu 3∨A7 (r:Int) (c:Int) l (p:Int) (q:Int) m=Pu 5 ∨
 ∃ X,c≤r∧p=r∧A7 (r:Int) (c:Int) l (p:Int) (q:Int) m=((c:Int),(q:Int),X,0)∧X.length=c*q∧Bl 990 X ∧
  Oi r c q l X m≤J7 l*(J7 l*J7 X+J7 m)*tw (-70)+tw (-4000):=by
 by_cases hs:(r:Int)<(c:Int)∨(r:Int)≠(p:Int)
 ·refine .inl ?_
  unfold A7
  rw [A57 (fun k=>k (Sn (E0 A.r6 A.c6 A.len) A.most.Nc)),A57 (fun k=>k (Sn (E0 B.r6 B.c6 B.len) B.most.Nc)),A58 hs]
 ·obtain rfl:p=r:=by omega
  have hc:c≤p:=by omega
  obtain ⟨h1,h2⟩:=Akl A.r6 A.c6 B.c6 hc A.len B.len A.words A.most A.least B.most
  cases hf:Wc (En (c:Int) (Ex p c l) c) with
  | true=>exact .inr (.inl (h1 hf))
  | false =>
    obtain ⟨dg,e,b⟩:=h2 hf
    exact .inr (.inr ⟨_,hc,rfl,e,Cf _ _ _,b,Aid A.r6 A.c6 hc A.len B.len A.words A.most B.most B.least dg⟩)
end Go.Cv
namespace Go.Proofs.S1
open Go Go.Den Go.Cv Go.Proofs
set_option maxRecDepth 100000
namespace EqLaw17P
def D0.Cp.Bi:List (Nat × Entry):=[(28,D0.Hd.spec),(42,Ai.Add.q.spec),(41,Ai.Mul.q.spec),(25,Aq.Check.spec),(44,Aq.A2.spec),(40,Aq.F0.spec),(39,Aq.Ew.spec),(43,Aq.Fo.spec),(30,solve.G1.spec)]
def D0.Cp.E:Env:=Bn (Bh D0.Cp.Bi) (fun _=>false) (fun _=>none) (fun _=>none)
theorem D0.Cp.ev (N:Nat) (r c:Int) (l:List Int) (p q:Int) (m:List Int):Ci D0.Cp.E N f6 (Au f6) [.agg [.int .i64 r,.int .i64 c,.ints .arg .u64 l],.agg [.int .i64 p,.int .i64 q,.ints .arg .u64 m]]=bif (Ak l&&Cz (0≤(60:Int)∧(60:Int)≤1000)) then bif ((!(Be r c l&&Mb l 60))||(Ak m&&Cz (0≤(60:Int)∧(60:Int)≤1000))) then bif ((!(Be r c l&&Mb l 60))||(!(Be p q m&&Mb m 60))) then some (.bool true) else bif (Ak l&&Ak m) then bif (((A7 r c l p q m).2.2.2) !=(0:Int)) then some (.bool (bif (bif (((A7 r c l p q m).2.2.2)==(3:Int)) then true else (((A7 r c l p q m).2.2.2)==(5:Int))) then true else false)) else bif (Ak ((A7 r c l p q m).2.2.1)) then bif ((((Da ((A7 r c l p q m).1) ((A7 r c l p q m).2.1) ((A7 r c l p q m).2.2.1)) !=(0:Int))||(((A7 r c l p q m).1) !=c))||(((A7 r c l p q m).2.1) !=q)) then some (.bool false) else bif (Ak l&&Be r c l) then bif (Ak ((A7 r c l p q m).2.2.1)&&Be ((A7 r c l p q m).1) ((A7 r c l p q m).2.1) ((A7 r c l p q m).2.2.1)) then bif (Q2 (J7 l)&&Q2 (J7 ((A7 r c l p q m).2.2.1))) then bif (Ak m&&Be p q m) then bif (Q2 (D9 (J7 l)*D9 (J7 ((A7 r c l p q m).2.2.1)))&&Q2 (J7 m)) then bif (Q2 (J7 l)&&Q2 (D9 (D9 (J7 l)*D9 (J7 ((A7 r c l p q m).2.2.1)))+D9 (J7 m))) then bif (((Be r c l&&Be ((A7 r c l p q m).1) ((A7 r c l p q m).2.1) ((A7 r c l p q m).2.2.1))&&(Be p q m&&(Ak l&&(Ak ((A7 r c l p q m).2.2.1)&&Ak m))))&&decide (((A7 r c l p q m).1)=c∧p=r∧q=((A7 r c l p q m).2.1))) then bif ((dSo (Oi (toNat r) (toNat c) (toNat ((A7 r c l p q m).2.1)) l ((A7 r c l p q m).2.2.1) m)&&dSo (D9 (J7 l)*D9 (D9 (D9 (J7 l)*D9 (J7 ((A7 r c l p q m).2.2.1)))+D9 (J7 m))))&&Cz (0≤(35:Int)∧(35:Int)≤1000)) then some (.bool (bif (decide (D9 (Oi (toNat r) (toNat c) (toNat ((A7 r c l p q m).2.1)) l ((A7 r c l p q m).2.2.1) m)≤D9 (D9 (J7 l)*D9 (D9 (D9 (J7 l)*D9 (J7 ((A7 r c l p q m).2.2.1)))+D9 (J7 m)))*tw (-2*35)+tw (-4000))) then true else false)) else none else none else none else none else none else none else none else none else none else none else none else none :=
 Eq.trans (by kernel_rfl)
 (Fe (Ay (Agx (Be r c l&&Mb l 60)) (C4 (Aqy _ _) (Ay (Wz (Be r c l&&Mb l 60)) (Ay (Agy (Be r c l&&Mb l 60)) (C4 (Avh _ _) rfl (Fe (Fe (Ay (Z0 (((A7 r c l p q m).2.2.2)==(3:Int))) (Ay (Yt (((A7 r c l p q m).2.2.2)==(3:Int))) (Ay (tt6 (((A7 r c l p q m).2.2.2)==(3:Int))) (Ay (A13 (((A7 r c l p q m).2.2.2)==(3:Int)) (((A7 r c l p q m).2.2.2)==(5:Int))) (Ay (A14 (((A7 r c l p q m).2.2.2)==(3:Int)) (((A7 r c l p q m).2.2.2)==(5:Int))) rfl))))) (Fe (Ay (Z0 ((Da ((A7 r c l p q m).1) ((A7 r c l p q m).2.1) ((A7 r c l p q m).2.2.1)) !=(0:Int))) (Ay (Yt ((Da ((A7 r c l p q m).1) ((A7 r c l p q m).2.1) ((A7 r c l p q m).2.2.1)) !=(0:Int))) (Ay (Z0 ((Da ((A7 r c l p q m).1) ((A7 r c l p q m).2.1) ((A7 r c l p q m).2.2.1)) !=(0:Int))) (Ay (Yt ((Da ((A7 r c l p q m).1) ((A7 r c l p q m).2.1) ((A7 r c l p q m).2.2.1)) !=(0:Int))) (Ay (tt8 ((Da ((A7 r c l p q m).1) ((A7 r c l p q m).2.1) ((A7 r c l p q m).2.2.1)) !=(0:Int))) (Ay (tt6 ((Da ((A7 r c l p q m).1) ((A7 r c l p q m).2.1) ((A7 r c l p q m).2.2.1)) !=(0:Int))) (Ay (Anj ((Da ((A7 r c l p q m).1) ((A7 r c l p q m).2.1) ((A7 r c l p q m).2.2.1)) !=(0:Int)) (((A7 r c l p q m).1) !=c)) (Ay (Aqx ((Da ((A7 r c l p q m).1) ((A7 r c l p q m).2.1) ((A7 r c l p q m).2.2.1)) !=(0:Int)) (((A7 r c l p q m).1) !=c)) (Ay (Anj ((Da ((A7 r c l p q m).1) ((A7 r c l p q m).2.1) ((A7 r c l p q m).2.2.1)) !=(0:Int)) (((A7 r c l p q m).1) !=c)) (Ay (Aqx ((Da ((A7 r c l p q m).1) ((A7 r c l p q m).2.1) ((A7 r c l p q m).2.2.1)) !=(0:Int)) (((A7 r c l p q m).1) !=c)) (Ay (Ays ((Da ((A7 r c l p q m).1) ((A7 r c l p q m).2.1) ((A7 r c l p q m).2.2.1)) !=(0:Int)) (((A7 r c l p q m).1) !=c)) (Ay (Ayv ((Da ((A7 r c l p q m).1) ((A7 r c l p q m).2.1) ((A7 r c l p q m).2.2.1)) !=(0:Int)) (((A7 r c l p q m).1) !=c)) (C4 (A12 _ _ _) rfl (Fe (C4 (Cr _) (C4 (Cr _) (C4 (Cr _) (C4 (Cr _) (C4 (Cr _) (C4 (Cr _) (C4 (Cr _) (Ay (A2a (decide (D9 (Oi (toNat r) (toNat c) (toNat ((A7 r c l p q m).2.1)) l ((A7 r c l p q m).2.2.1) m)≤D9 (D9 (J7 l)*D9 (D9 (D9 (J7 l)*D9 (J7 ((A7 r c l p q m).2.2.1)))+D9 (J7 m)))*tw (-2*35)+tw (-4000)))) (Ay (A2b (decide (D9 (Oi (toNat r) (toNat c) (toNat ((A7 r c l p q m).2.1)) l ((A7 r c l p q m).2.2.1) m)≤D9 (D9 (J7 l)*D9 (D9 (D9 (J7 l)*D9 (J7 ((A7 r c l p q m).2.2.1)))+D9 (J7 m)))*tw (-2*35)+tw (-4000)))) rfl)) rfl) rfl) rfl) rfl) rfl) rfl) rfl) rfl)))))))))))))) rfl)) rfl)))) rfl)) rfl)
abbrev _root_.Go.Proofs.S1.D0.Cp.Kn:=A8 prog 6 D0.Cp.spec
theorem D0.Cp.Ae (hk:A4 prog D0.Cp.Bi) (h:Hyp D0.Cp.E f6 D0.Cp.ts D0.Cp.pre D0.Cp.out):D0.Cp.Kn :=
 Ar (A5 hk _ _ _) func6 (by kernel_rfl) (by kernel_rfl) h
end EqLaw17P
open Go Go.Den Go.Cv Go.Proofs
open EqLaw17P
section
variable {x a b:List Int} (h1:a.length≤36) (h2:x.length≤36) (h3:b.length≤36)
include h1 h2 h3
theorem Asw:Dq (J7 a)∧Dq (J7 x)∧Dq (J7 b)∧Dq (J7 a*J7 x)∧Dq (J7 a*J7 x+J7 b)∧Ds (J7 a*(J7 a*J7 x+J7 b)):=by
 have A:=Dg.sq (x:=a) (by omega)
 have X:=Dg.sq (x:=x) (by omega)
 have B:=Dg.sq (x:=b) (by omega)
 have AX:=A.mul X
 have B':=(B.up 2148).wide (s:=8400) (by decide)
 have S:=AX.add B'
 have T:=A.mul S
 exact ⟨A.dq (by decide) (by decide) (by decide),X.dq (by decide) (by decide) (by decide),B.dq (by decide) (by decide) (by decide),AX.dq (by decide) (by decide) (by decide),S.dq (by decide) (by decide) (by decide),T.ds (by decide) (by decide) (by decide)⟩
end
theorem D0.Cp.known:D0.Cp.Kn:=D0.Cp.Ae (.cons D0.Hd.known (.cons Ai.Add.q.known (.cons Ai.Mul.q.known (.cons Aq.Check.known (.cons Aq.A2.known (.cons Aq.F0.known (.cons Aq.Ew.known (.cons Aq.Fo.known (.cons solve.G1.known .nil))))))))) fun r c l p q m hp=>by
 obtain ⟨al,am⟩:=Ag.1 (show (Ak l&&Ak m)=true from hp)
 refine ⟨0,.bool true,[],?_,.bool⟩
 have k1:Cz (0≤(60:Int)∧(60:Int)≤1000)=true:=As.2 (by decide)
 have k2:Cz (0≤(35:Int)∧(35:Int)≤1000)=true:=As.2 (by decide)
 rw [D0.Cp.ev,al,am,k1,k2,A5r,A5l,A6x,A5l]
 cases t1:Be r c l&&Mb l 60 with
 | false=>rfl
 | true =>
 cases t2:Be p q m&&Mb m 60 with
 | false=>rfl
 | true =>
 obtain ⟨hr,ht⟩:=Ag.1 t1
 obtain ⟨hr2,ht2⟩:=Ag.1 t2
 obtain ⟨R,C,rfl,rfl,A⟩:=Ax7 (k:=60) hr al ht (by decide)
 obtain ⟨P,Q,rfl,rfl,B⟩:=Ax7 (k:=60) hr2 am ht2 (by decide)
 have ax:=Ao4 (R:Int) (C:Int) l (P:Int) (Q:Int) m
 rcases Akj A B with e | e | ⟨X,hc,rfl,e,lX,bX,g⟩
 ·rw [e]; rfl
 ·rw [e]; rfl
 ·rw [e] at ax ⊢
  dsimp only at ax ⊢
  have rX:Be (C:Int) (Q:Int) X=true:=E0 A.c6 B.c6 lX
  have lA:l.length≤36:=I2 hr
  have lB:m.length≤36:=I2 hr2
  have l36:X.length≤36:=I2 rX
  obtain ⟨d1,d2,d3,d4,d5,d6⟩:=Asw lA l36 lB
  have dg:Ds (Oi P C Q l X m):=(Dg.A4u A.r6 A.c6 B.c6).ds (by decide) (by decide) (by decide)
  have cX:Da (C:Int) (Q:Int) X=0:=Sn rX bX.Nc
  have n1:((0:Int) !=0)=false:=rfl
  have n2:((C:Int) !=(C:Int))=false:=by simp
  have n3:((Q:Int) !=(Q:Int))=false:=by simp
  have e1:decide ((C:Int)=(C:Int)∧(P:Int)=(P:Int)∧(Q:Int)=(Q:Int))=true:=A5m ⟨rfl,rfl,rfl⟩
  have e2:(-2*(35:Int))=-70:=rfl
  rw [ax,cX,n1,n2,n3,hr,hr2,rX,e1,A5n,A5n,A5n,e2]
  simp only [Bool.or_self,A6k,A5r,A5l,A5p,Ez d1,Ez d2,Ez d3,Ez d4,Ez d5,Ez d6.dq,Ez dg.dq,E8 d1,E8 d2,E8 d3,E8 d4,E8 d5,Atv d6,Atv dg]
  rw [A5m g]
  rfl
end Go.Proofs.S1
end
