/- A verified evaluator of the program's form and its use for this seat: S1PQa, S1PQb, FacW, FacX, FacY, FroV, UpV, UpW, UpX, GradV, S1PExaA, S1PExaB, LeaV, LeaW, LeaX, LeaY, LeaZ, UprV, UprW, UprX, S1EqLaw17P, S1PLaw17P, RidU, S1EqLaw22P, S1PLaw22P. -/
import Derived.Test.YtjbokjpbiobjpaaGreatTM
import Derived.Test.YtjbokjpbiobjpaaGreatTL
import Derived.Test.YtjbokjpbiobjpaaGreatTE
import Derived.Test.YtjbokjpbiobjpaaGreatTF
set_option linter.unusedVariables false
set_option linter.unusedSimpArgs false
noncomputable section
open Int (toNat)
open List (length getD)
open Go.Proofs.Tryz
namespace Go.Proofs.S1
open Go Go.Den Go.Cv Go.Proofs
open EqRef11Q
theorem Abw {y:List (List DV)} {n i:Nat} (h:Sg y n=true) (hi:i<n):∃ z,Dg 2148 4300 100 z∧y.getD i []=dyR z:=by
 obtain ⟨_,h2,h3⟩:=Ao.1 h
 have:y.getD i []∈y:=by
  rw [A8h,A8o (by omega)]; exact List.getElem_mem (by omega)
 exact h3 _ this
theorem Av9 {z:Rat} (h:Dg 2148 4300 100 z):Dq z:=h.dq (by decide) (by decide) (by decide)
theorem Av8 {x:Int} {z:Rat} (h:Dg 2148 4300 100 z):Dq (Ek x*z):=by
 have:=(Dg.wv x).mul h
 exact this.dq (by decide) (by decide) (by decide)
section
variable {x:List Int} {y:List (List DV)} (ax:Ak x=true) (hy:Sg y x.length=true)
include ax hy
omit ax in
theorem Axw (i:Nat) (hi:i≤x.length):Dq (G3 i fun j=>Ek (x.getD j 0)*Uy (y.getD j [])):=by
 obtain ⟨h1,h2,h3⟩:=Ao.1 hy
 have h:∀ j,j<i→Dg 3222 6400 100 (Ek (x.getD j 0)*Uy (y.getD j [])):=fun j hj=>by
  obtain ⟨z,hz,e⟩:=Abw hy (show j<x.length by omega)
  rw [e,Aal (Av9 hz)]
  exact (Dg.wv _).mul hz
 exact (Dg.Qi (k:=64) (by omega) h).dq (by decide) (by decide) (by decide)
theorem Apj (N:Nat):∀ k i F,i+k=x.length→k<F→Au.G6.L1 N F x y (i:Int) (A2 (mQ (G3 i fun j=>Ek (x.getD j 0)*Uy (y.getD j [])))) (Ah (mQ (G3 i fun j=>Ek (x.getD j 0)*Uy (y.getD j [])))) (eQ (G3 i fun j=>Ek (x.getD j 0)*Uy (y.getD j [])))=some (dqO (Q8 x y)):=by
 intro k
 induction k with
 | zero =>
   intro i F hi hF
   obtain ⟨F,rfl⟩:∃ G,F=G+1:=⟨F-1,by omega⟩
   obtain rfl:i=x.length:=by omega
   rw [Au.G6.Cy,Aw,A8c (by omega),A8b]
   rfl
 | succ k ih =>
   intro i F hi hF
   obtain ⟨F,rfl⟩:∃ G,F=G+1:=⟨F-1,by omega⟩
   obtain ⟨z,hz,ez⟩:=Abw hy (show i<x.length by omega)
   obtain ⟨h1,h2,h3⟩:=Ao.1 hy
   have d1:=Vd (x.getD i 0)
   have d4:=Av9 hz
   have d2:=Av8 (x:=x.getD i 0) hz
   have d3:=Axw hy i (by omega)
   have e1:(i:Int)+1=((i+1:Nat):Int):=by omega
   have hu:=I8 ax (show i<x.length by omega)
   have c0:getD (dyR z) 0 .undef=.bool (A2 (mQ z)):=rfl
   have c1:getD (dyR z) 1 .undef=.ints .arg .u32 (Ah (mQ z)):=rfl
   have c2:getD (dyR z) 2 .undef=.int .i64 (eQ z):=rfl
   have b0:isC .b (.bool (A2 (mQ z)))=true:=rfl
   have b1:isC (.s .u32) (.ints .arg .u32 (Ah (mQ z)))=true:=rfl
   have b2:isC (.i .i64) (.int .i64 (eQ z))=true:=rfl
   have v0:M4 (.bool (A2 (mQ z)))=A2 (mQ z):=rfl
   have v1:Jl (.ints .arg .u32 (Ah (mQ z)))=Ah (mQ z):=rfl
   have v2:Pl (.int .i64 (eQ z))=eQ z:=rfl
   have es:(G3 i fun j=>Ek (x.getD j 0)*Uy (y.getD j []))+Ek (x.getD i 0)*z=G3 (i+1) fun j=>Ek (x.getD j 0)*Uy (y.getD j []):=by
    show _=(G3 i fun j=>Ek (x.getD j 0)*Uy (y.getD j []))+Ek (x.getD i 0)*Uy (y.getD i [])
    rw [ez,Aal d4]
   rw [Au.G6.Cy,Aw,A78 (show (i:Int)<(x.length:Int) by omega),A78 (show (i:Int)<(y.length:Int) by omega),A78 (show (0:Int)≤(i:Int) by omega),A79,Ar (by omega) (by omega),e1,ez,c0,c1,c2,b0,b1,b2,v0,v1,v2]
   simp only [hu,Fb d1,Fb d2,Fb d3,Fb d4,Fm d1,Fm d2,Fm d3,Fm d4,A8d,A77,es]
   exact ih (i+1) F (by omega) (by omega)
end
theorem Ak0 (N F:Nat) {x:List Int} {y:List (List DV)} (ax:Ak x=true) (hy:Sg y x.length=true) (h0:0<x.length):Au.G6.L0 N (F+1) x y=Au.G6.L1 N F x y 1 (A2 (mQ (G3 1 fun j=>Ek (x.getD j 0)*Uy (y.getD j [])))) (Ah (mQ (G3 1 fun j=>Ek (x.getD j 0)*Uy (y.getD j [])))) (eQ (G3 1 fun j=>Ek (x.getD j 0)*Uy (y.getD j []))):=by
 obtain ⟨_,h2,_⟩:=Ao.1 hy
 obtain ⟨z,hz,ez⟩:=Abw hy (show 0<x.length by omega)
 have d1:=Vd (x.getD 0 0)
 have d4:=Av9 hz
 have d2:=Av8 (x:=x.getD 0 0) hz
 have hu:=I8 ax (show 0<x.length by omega)
 have c0:getD (dyR z) 0 .undef=.bool (A2 (mQ z)):=rfl
 have c1:getD (dyR z) 1 .undef=.ints .arg .u32 (Ah (mQ z)):=rfl
 have c2:getD (dyR z) 2 .undef=.int .i64 (eQ z):=rfl
 have b0:isC .b (.bool (A2 (mQ z)))=true:=rfl
 have b1:isC (.s .u32) (.ints .arg .u32 (Ah (mQ z)))=true:=rfl
 have b2:isC (.i .i64) (.int .i64 (eQ z))=true:=rfl
 have v0:M4 (.bool (A2 (mQ z)))=A2 (mQ z):=rfl
 have v1:Jl (.ints .arg .u32 (Ah (mQ z)))=Ah (mQ z):=rfl
 have v2:Pl (.int .i64 (eQ z))=eQ z:=rfl
 have es:0+Ek (x.getD 0 0)*z=G3 1 fun j=>Ek (x.getD j 0)*Uy (y.getD j []):=by
  show _=0+Ek (x.getD 0 0)*Uy (y.getD 0 [])
  rw [ez,Aal d4]
 rw [Au.G6.A1,Aw,A78 (show (0:Int)<(x.length:Int) by omega),A78 (show (0:Int)<(y.length:Int) by omega),ez,c0,c1,c2,b0,b1,b2,v0,v1,v2]
 simp only [hu,Afy,Fb d1,Fb d2,Fb d4,Aa0,Fm d1,Fm d2,Fm d4,A8d,A77,es]
theorem Au.G6.known:Au.G6.Kn:=Au.G6.Ae (.cons Ai.Add.q.known (.cons Ai.Mul.q.known (.cons A4.Value.q.known .nil))) fun x y hp=>by
 obtain ⟨ax,hy⟩:=Af.1 (show (Ak x&&Sg y x.length)=true from hp)
 obtain ⟨hx,h2,h3⟩:=Ao.1 hy
 show ∃ N dv drops,_=some dv∧Wk drops dv (dqO (Q8 x y))
 by_cases h0:x.length=0
 ·refine ⟨1,.agg [.bool false,.nil,.int .i64 0],[],?_,?_⟩
  ·rw [Au.G6.ev,Au.G6.A1,Aw,A8c (by omega),A8b]
  ·have:Q8 x y=0:=by unfold Q8; rw [h0]; rfl
   rw [this]; exact wqN
 ·exact ⟨66,_,[],(Au.G6.ev 66 x y).trans ((Ak0 66 65 ax hy (by omega)).trans (Apj ax hy 66 (x.length-1) 1 65 (by omega) (by omega))),wqO⟩
theorem A16 {y:Rat} {k:Nat} (h:Ds y) (hk:k≤2000):Dq (y*tw (-(k:Int)))∧Dq (y*tw (-(k:Int))+tw (-4000)):=by
 obtain ⟨g,t,n,h1,h2,h3,h⟩:=h
 have s:=h.scale k
 refine ⟨s.dq (by omega) (by omega) (by omega),?_⟩
 have a:=s.up (20000-(g+k))
 rw [show g+k+(20000-(g+k))=20000 by omega] at a
 have b:=(Dg.tw 4000).up 16000
 have c:=(a.wide (s:=40000) (by omega)).add (b.wide (s:=40000) (by omega))
 exact c.dq (by omega) (by omega) (by omega)
theorem Au.F2.known:Au.F2.Kn:=Au.F2.Ae (.cons Ag.Of.known (.cons Ai.Add.q.known (.cons Ai.Compare.q.known (.cons Ai.Of.q.known (.cons Ai.Cq.q.known .nil))))) fun n a e m b f k hp=>by
 obtain ⟨h1,h2⟩:=Af.1 (show ((dsB n a e&&dsB m b f)&&Cr (0≤k∧k≤1000))=true from hp)
 obtain ⟨h3,h4⟩:=Af.1 h1
 obtain ⟨x,hx,rfl,rfl,rfl⟩:=Aop h3
 obtain ⟨y,hy,rfl,rfl,rfl⟩:=Aop h4
 have hk:=Ao.1 h2
 obtain ⟨j,rfl⟩:∃ j:Nat,k=j:=⟨k.toNat,by omega⟩
 have dx:=hx.dq
 have dy:=hy.dq
 obtain ⟨l1,l2⟩:=A16 (k:=2*j) hy (by omega)
 have ej:(-2*(j:Int))=-((2*j:Nat):Int):=by omega
 have e1:Ad ((0:Int)-Ad ((2:Int)*(j:Int)))=-((2*j:Nat):Int):=by
  rw [Ar (x:=2*(j:Int)) (by omega) (by omega),Ar (by omega) (by omega)]; omega
 have t4:Dq (tw (-4000)):=(Dg.tw 4000).dq (by decide) (by decide) (by decide)
 have v1:vQ (A2 1) (Ah 1) (-4000)=tw (-4000):=by
  unfold vQ
  rw [Ft]
  have:((1:Int):Rat)=1:=rfl
  rw [this]; grind
 refine ⟨0,Au.F2.out [.b (A2 (mQ x)),.l (Ah (mQ x)),.i (eQ x),.b (A2 (mQ y)),.l (Ah (mQ y)),.i (eQ y),.i (j:Int)],[],?_,.bool⟩
 show _=some (DV.bool (decide (vQ (A2 (mQ x)) (Ah (mQ x)) (eQ x)≤vQ (A2 (mQ y)) (Ah (mQ y)) (eQ y)*tw (-2*(j:Int))+tw (-4000))))
 have i1:Afa (1:Int)=true:=Ao.2 (by decide)
 have w1:Ll (A2 (1:Int)) (Ah (1:Int))=true:=Ix (by decide)
 have c1:Cr (-5000≤(-4000:Int)∧(-4000:Int)≤5000)=true:=Ao.2 (by decide)
 have c2:Cr (-2000≤-((2*j:Nat):Int)∧-((2*j:Nat):Int)≤2000)=true:=Ao.2 (by omega)
 rw [Au.F2.ev,e1,ej]
 simp only [Fb dx,Fb dy,v1,Fb l1,Fb l2,Fb t4,Fm dx,Fm dy,Fm l1,Fm l2,Fm t4,i1,w1,c1,c2,A8d,A77,Fe]
 congr 2
 exact decide_eq_decide.2 (Azt _ _)
open Go Go.Den Go.Cv Go.Proofs
open EqRef11Q
section
variable {C K:Nat} {l m h:List Int}
theorem Aya {R:Nat} (hl:l.length=R*C) {i j:Nat} (hi:i<R) (hj:j<C):(G7 (C:Int) l (i:Int)).getD j 0=Cp (C:Int) l (i:Int) (j:Int):=by
 rw [Abx hl hi,A8h,A9o,List.getElem?_range hj]
 rfl
theorem Lt {R:Nat} (hl:l.length=R*C) {i:Nat} (hi:i<R):(G7 (C:Int) l (i:Int)).length=C:=by
 rw [Abx hl hi,A9d,A9a]
theorem A43 {i:Int} (al:Ak l=true):Ak (G7 (C:Int) l i)=true:=by
 refine Ao.2 fun z hz=>?_
 unfold G7 at hz
 exact Ao.1 al z (List.mem_of_mem_take (List.mem_of_mem_drop hz))
theorem Air {b n j:Nat} (hj:j<n):(B4 (K:Int) m (b:Int) 0 n).getD j 0=Cp (K:Int) m (j:Int) (b:Int):=by
 rw [Ax5 hj,Int.zero_add]
theorem Aoe {R:Nat} (hl:l.length=R*C) {i k:Nat} (hi:i<R):dtL (G7 (C:Int) l (i:Int)) (B4 (K:Int) m (k:Int) 0 C)-Ek (Cp (K:Int) h (i:Int) (k:Int))=lkQ C l m h K i k:=by
 unfold dtL lkQ
 rw [Lt hl hi,Aej C fun j hj=>by rw [Aya hl hi hj,Air hj]]
theorem A5j (x y:List Int) (hx:x.length≤64):Dq (dtL x y):=Ak9 (k:=64) (m:=1) (fun j=>Dg.wv2 _ _) (by decide) (by decide) hx (by decide)
theorem A5d {i k:Nat} (hC:C≤6):Dq (lkQ C l m h K i k):=(Dg.lk hC).dq (by decide) (by decide) (by decide)
def F0 (C:Nat) (l m h:List Int) (K k i:Nat):List (List DV):=(List.range i).map fun j=>dyR (lkQ C l m h K j k)
theorem Ys (k i:Nat):(F0 C l m h K k i).length=i:=by unfold F0; rw [A9d,A9a]
theorem Acs (k i:Nat):F0 C l m h K k i++[dyR (lkQ C l m h K i k)]=F0 C l m h K k (i+1):=by
 unfold F0
 rw [List.range_succ,List.map_append]
 rfl
theorem Aq2 {k i j:Nat} (hj:j<i):(F0 C l m h K k i).getD j []=dyR (lkQ C l m h K j k):=by
 unfold F0
 rw [A8h,A9o,List.getElem?_range hj]
 rfl
theorem Au9 {k i:Nat} (hC:C≤6) (hi:i≤64):Sg (F0 C l m h K k i) i=true:=by
 refine Ao.2 ⟨hi,Ys k i,fun r hr=>?_⟩
 unfold F0 at hr
 obtain ⟨j,_,rfl⟩:=List.mem_map.1 hr
 exact ⟨_,((Dg.lk hC).mono (by decide)).wide (by decide),rfl⟩
def Un (R C:Nat) (l m h:List Int) (K k j:Nat):Rat:=(G3 R fun i=>Ek (Cp (C:Int) l (i:Int) (j:Int))*lkQ C l m h K i k)*(G3 R fun i=>Ek (Cp (C:Int) l (i:Int) (j:Int))*lkQ C l m h K i k)
theorem Ag8 {R j k:Nat} (hC:C≤6):Q8 (B4 (C:Int) l (j:Int) 0 R) (F0 C l m h K k R)=G3 R fun i=>Ek (Cp (C:Int) l (i:Int) (j:Int))*lkQ C l m h K i k:=by
 unfold Q8
 rw [Gz]
 exact Aej R fun i hi=>by rw [Air hi,Aq2 hi,Aal (A5d hC)]
theorem Avn {R j k:Nat} (hR:R≤6) (hC:C≤6):Dg 6444 12600 1764 (Un R C l m h K k j):=(Dg.grow hR hC).mul (Dg.grow hR hC)
theorem Avm {R:Nat} (hR:R≤6) (hC:C≤6) {j k:Nat} (hj:j≤6) (hk:k≤6):Dg 6444 12600 74088 ((G3 k fun a=>G3 C fun b=>Un R C l m h K a b)+G3 j fun b=>Un R C l m h K k b) :=
 (Dg.Qi (m:=10584) hk fun a _=>Dg.Qi (m:=1764) hC fun b _=>Avn hR hC).add (Dg.Qi (m:=1764) hj fun b _=>Avn hR hC)
end
section
variable {R C K:Nat} {l m h:List Int} (r6:R≤6) (c6:C≤6) (k6:K≤6) (hl:l.length=R*C) (hm:m.length=C*K) (hh:h.length=R*K) (al:Ak l=true) (am:Ak m=true) (ah:Ak h=true)
include r6 c6 k6 hl hm hh al am ah
theorem Ajs {i k:Nat} (hi:i<R) (hk:k<K):Rk (R:Int) (C:Int) l (i:Int)=true∧(G9 (C:Int) (K:Int) m (k:Int)&&Cr (0≤(0:Int)∧(0:Int)≤(C:Int)))=true ∧
 ((Ak (G7 (C:Int) l (i:Int))&&Ak (B4 (K:Int) m (k:Int) 0 C))&&Cr (length (G7 (C:Int) l (i:Int))=length (B4 (K:Int) m (k:Int) 0 C)∧length (G7 (C:Int) l (i:Int))≤64))=true ∧
 Ha (R:Int) (K:Int) h (i:Int) (k:Int)=true∧Al (Cp (K:Int) h (i:Int) (k:Int))=true ∧
 Dq (dtL (G7 (C:Int) l (i:Int)) (B4 (K:Int) m (k:Int) 0 C)):=by
 refine ⟨?_,?_,?_,Jn r6 k6 hh hi hk,Sa ah,A5j _ _ (by rw [Lt hl hi]; omega)⟩
 ·unfold Rk
  rw [Dw r6 c6 hl,A9k]
  exact Ao.2 ⟨by omega,by omega⟩
 ·unfold G9
  rw [Dw c6 k6 hm,A9k,Af]
  exact ⟨Ao.2 ⟨by omega,by omega⟩,Ao.2 ⟨by decide,by omega⟩⟩
 ·rw [A43 al,O9 am,A8d,A9k]
  exact Ao.2 ⟨by rw [Lt hl hi,Gz],by rw [Lt hl hi]; omega⟩
theorem Aza (N M0:Nat) {k:Nat} (hk:k<K):∀ d i F,i+d=R→d<F →
 Au.A6.L1 N M0 F (R:Int) (C:Int) l (C:Int) (K:Int) m (R:Int) (K:Int) h (i:Int) (F0 C l m h K k i) (k:Int)=Au.A6.L3 N M0 N (R:Int) (C:Int) l (C:Int) (K:Int) m (R:Int) (K:Int) h (k:Int) (F0 C l m h K k R):=by
 intro d
 induction d with
 | zero =>
   intro i F hi hF
   obtain ⟨F,rfl⟩:∃ G,F=G+1:=⟨F-1,by omega⟩
   obtain rfl:i=R:=by omega
   rw [Au.A6.Cy,Aw,A8c (by omega),A8b]
 | succ d ih =>
   intro i F hi hF
   obtain ⟨F,rfl⟩:∃ G,F=G+1:=⟨F-1,by omega⟩
   obtain ⟨p1,p2,p3,p4,p5,p6⟩:=Ajs r6 c6 k6 hl hm hh al am ah (show i<R by omega) hk
   have dw:=Vd (Cp (K:Int) h (i:Int) (k:Int))
   have e1:(i:Int)+1=((i+1:Nat):Int):=by omega
   have eC:toNat ((C:Int)-0)=C:=by rw [Int.sub_zero,A79]
   have lk:=Aoe (C:=C) (K:=K) (m:=m) (h:=h) (k:=k) hl (show i<R by omega)
   have ll:decide ((F0 C l m h K k i).length+1≤Acm)=true:=A78 (by rw [Ys]; unfold Acm; omega)
   rw [Au.A6.Cy,Aw,A78 (show (i:Int)<(R:Int) by omega),A77,p1,A77,p2,A77,eC,p3,A77,p4,A77,p5,A77,Fm p6,Fm dw,A8d,A77,ll,A77,Fb p6,Fb dw,lk,Ar (by omega) (by omega),e1]
   exact (congrArg (fun z=>Au.A6.L1 N M0 F (R:Int) (C:Int) l (C:Int) (K:Int) m (R:Int) (K:Int) h ((i+1:Nat):Int) z (k:Int)) (Acs k i)).trans (ih (i+1) F (by omega) (by omega))
theorem Ay9 (N M0:Nat) {k:Nat} (hk:k<K) (s:Rat):∀ d i F,i+d=R→d<F →
 Au.A6.L2 N M0 F (R:Int) (C:Int) l (C:Int) (K:Int) m (R:Int) (K:Int) h (i:Int) (F0 C l m h K k i) (k:Int) (A2 (mQ s)) (Ah (mQ s)) (eQ s)=Au.A6.L5 N M0 N (R:Int) (C:Int) l (C:Int) (K:Int) m (R:Int) (K:Int) h (k:Int) (A2 (mQ s)) (Ah (mQ s)) (eQ s) (F0 C l m h K k R):=by
 intro d
 induction d with
 | zero =>
   intro i F hi hF
   obtain ⟨F,rfl⟩:∃ G,F=G+1:=⟨F-1,by omega⟩
   obtain rfl:i=R:=by omega
   rw [Au.A6.Kp,Aw,A8c (by omega),A8b]
 | succ d ih =>
   intro i F hi hF
   obtain ⟨F,rfl⟩:∃ G,F=G+1:=⟨F-1,by omega⟩
   obtain ⟨p1,p2,p3,p4,p5,p6⟩:=Ajs r6 c6 k6 hl hm hh al am ah (show i<R by omega) hk
   have dw:=Vd (Cp (K:Int) h (i:Int) (k:Int))
   have e1:(i:Int)+1=((i+1:Nat):Int):=by omega
   have eC:toNat ((C:Int)-0)=C:=by rw [Int.sub_zero,A79]
   have lk:=Aoe (C:=C) (K:=K) (m:=m) (h:=h) (k:=k) hl (show i<R by omega)
   have ll:decide ((F0 C l m h K k i).length+1≤Acm)=true:=A78 (by rw [Ys]; unfold Acm; omega)
   rw [Au.A6.Kp,Aw,A78 (show (i:Int)<(R:Int) by omega),A77,p1,A77,p2,A77,eC,p3,A77,p4,A77,p5,A77,Fm p6,Fm dw,A8d,A77,ll,A77,Fb p6,Fb dw,lk,Ar (by omega) (by omega),e1]
   exact (congrArg (fun z=>Au.A6.L2 N M0 F (R:Int) (C:Int) l (C:Int) (K:Int) m (R:Int) (K:Int) h ((i+1:Nat):Int) z (k:Int) (A2 (mQ s)) (Ah (mQ s)) (eQ s)) (Acs k i)).trans (ih (i+1) F (by omega) (by omega))
omit k6 hm hh am ah in
theorem Ami {j k:Nat} (hj:j<C):(G9 (R:Int) (C:Int) l (j:Int)&&Cr (0≤(0:Int)∧(0:Int)≤(R:Int)))=true ∧
 (Ak (B4 (C:Int) l (j:Int) 0 R)&&Sg (F0 C l m h K k R) (length (B4 (C:Int) l (j:Int) 0 R)))=true∧Dq (G3 R fun i=>Ek (Cp (C:Int) l (i:Int) (j:Int))*lkQ C l m h K i k)∧Dq (Un R C l m h K k j):=by
 refine ⟨?_,?_,(Dg.grow r6 c6).dq (by decide) (by decide) (by decide),(Avn r6 c6).dq (by decide) (by decide) (by decide)⟩
 ·unfold G9
  rw [Dw r6 c6 hl,A9k,Af]
  exact ⟨Ao.2 ⟨by omega,by omega⟩,Ao.2 ⟨by decide,by omega⟩⟩
 ·rw [O9 al,Gz,Au9 c6 (by omega)]; rfl
omit hh am ah in
theorem Aoi (N M0:Nat) {k:Nat} (hk:k<K):∀ d j F,j+d=C→d<F→∀ s,s=(G3 k fun a=>G3 C fun b=>Un R C l m h K a b)+G3 j (fun b=>Un R C l m h K k b) →
 Au.A6.L4 N M0 F (R:Int) (C:Int) l (C:Int) (K:Int) m (R:Int) (K:Int) h (j:Int) (A2 (mQ s)) (Ah (mQ s)) (eQ s) (k:Int) (F0 C l m h K k R) =
 Au.A6.L6 N M0 (R:Int) (C:Int) l (C:Int) (K:Int) m (R:Int) (K:Int) h ((k+1:Nat):Int) (A2 (mQ (G3 (k+1) fun a=>G3 C fun b=>Un R C l m h K a b))) (Ah (mQ (G3 (k+1) fun a=>G3 C fun b=>Un R C l m h K a b))) (eQ (G3 (k+1) fun a=>G3 C fun b=>Un R C l m h K a b)):=by
 intro d
 induction d with
 | zero =>
   intro j F hj hF s hs
   obtain ⟨F,rfl⟩:∃ G,F=G+1:=⟨F-1,by omega⟩
   obtain rfl:j=C:=by omega
   have e:s=G3 (k+1) fun a=>G3 j fun b=>Un R j l m h K a b:=hs
   rw [Au.A6.Ao7,Aw,A8c (by omega),A8b,Ar (by omega) (by omega),e]
   rfl
 | succ d ih =>
   intro j F hj hF s hs
   obtain ⟨F,rfl⟩:∃ G,F=G+1:=⟨F-1,by omega⟩
   obtain ⟨p1,p2,p3,p4⟩:=Ami (k:=k) r6 c6 hl al (show j<C by omega)
   have ds:Dq s:=by rw [hs]; exact (Avm r6 c6 (by omega) (by omega)).dq (by decide) (by decide) (by decide)
   have e1:(j:Int)+1=((j+1:Nat):Int):=by omega
   have eR:toNat ((R:Int)-0)=R:=by rw [Int.sub_zero,A79]
   have eg:(G3 R fun i=>Ek (Cp (C:Int) l (i:Int) (j:Int))*lkQ C l m h K i k)*(G3 R fun i=>Ek (Cp (C:Int) l (i:Int) (j:Int))*lkQ C l m h K i k)=Un R C l m h K k j:=rfl
   rw [Au.A6.Ao7,Aw,A78 (show (j:Int)<(C:Int) by omega),A77,p1,A77,eR,p2,A77,Ag8 c6,Fm p3,A8d,A77,Fb p3,eg,Ahi ds,Fm p4,A8d,A77,Pv ds,Fb p4,Ar (by omega) (by omega),e1]
   refine ih (j+1) F (by omega) (by omega) _ ?_
   rw [hs]
   show _=_+(G3 j (fun b=>Un R C l m h K k b)+Un R C l m h K k j)
   grind
omit hh am ah in
theorem Ay8 (N M0 F:Nat) {k:Nat} (hk:k<K) (hF:C<F):∀ s,s=(G3 k fun a=>G3 C fun b=>Un R C l m h K a b) →
 Au.A6.L5 N M0 F (R:Int) (C:Int) l (C:Int) (K:Int) m (R:Int) (K:Int) h (k:Int) (A2 (mQ s)) (Ah (mQ s)) (eQ s) (F0 C l m h K k R) =
 Au.A6.L6 N M0 (R:Int) (C:Int) l (C:Int) (K:Int) m (R:Int) (K:Int) h ((k+1:Nat):Int) (A2 (mQ (G3 (k+1) fun a=>G3 C fun b=>Un R C l m h K a b))) (Ah (mQ (G3 (k+1) fun a=>G3 C fun b=>Un R C l m h K a b))) (eQ (G3 (k+1) fun a=>G3 C fun b=>Un R C l m h K a b)):=by
 intro s hs
 obtain ⟨F,rfl⟩:∃ G,F=G+1:=⟨F-1,by omega⟩
 by_cases h0:C=0
 ·have e:s=G3 (k+1) fun a=>G3 C fun b=>Un R C l m h K a b:=by
   rw [hs]
   show _=_+G3 C _
   subst h0
   show _=_+(0:Rat)
   grind
  rw [Au.A6.Ao6,Aw,A8c (by omega),A8b,Ar (by omega) (by omega),e]
  rfl
 ·obtain ⟨p1,p2,p3,p4⟩:=Ami (k:=k) r6 c6 hl al (show 0<C by omega)
  have ds:Dq s:=by
   have:=(Avm (l:=l) (m:=m) (h:=h) (K:=K) r6 c6 (j:=0) (k:=k) (by omega) (by omega)).dq (by decide) (by decide) (by decide)
   have e:s=(G3 k fun a=>G3 C fun b=>Un R C l m h K a b)+G3 0 fun b=>Un R C l m h K k b:=by
    rw [hs]; show _=_+(0:Rat); grind
   rw [e]; exact this
  have eR:toNat ((R:Int)-0)=R:=by rw [Int.sub_zero,A79]
  have p1:(G9 (R:Int) (C:Int) l 0&&Cr (0≤(0:Int)∧(0:Int)≤(R:Int)))=true:=p1
  have p2:(Ak (B4 (C:Int) l 0 0 R)&&Sg (F0 C l m h K k R) (length (B4 (C:Int) l 0 0 R)))=true:=p2
  have g0:Q8 (B4 (C:Int) l 0 0 R) (F0 C l m h K k R)=G3 R fun i=>Ek (Cp (C:Int) l (i:Int) ((0:Nat):Int))*lkQ C l m h K i k:=Ag8 (j:=0) c6
  have eg:(G3 R fun i=>Ek (Cp (C:Int) l (i:Int) ((0:Nat):Int))*lkQ C l m h K i k)*(G3 R fun i=>Ek (Cp (C:Int) l (i:Int) ((0:Nat):Int))*lkQ C l m h K i k)=Un R C l m h K k 0:=rfl
  rw [Au.A6.Ao6,Aw,A78 (show (0:Int)<(C:Int) by omega),A77,p1,A77,eR,p2,A77,g0,Fm p3,A8d,A77,Fb p3,eg,Ahi ds,Fm p4,A8d,A77,Pv ds,Fb p4]
  refine Aoi r6 c6 k6 hl hm al N M0 hk (C-1) 1 F (by omega) (by omega) _ ?_
  rw [hs]
  show _=_+((0:Rat)+Un R C l m h K k 0)
  grind
theorem Ay7 (N:Nat) (hN:7<N):∀ d k F,k+d=K→d<F →
 Au.A6.L6 N F (R:Int) (C:Int) l (C:Int) (K:Int) m (R:Int) (K:Int) h (k:Int) (A2 (mQ (G3 k fun a=>G3 C fun b=>Un R C l m h K a b))) (Ah (mQ (G3 k fun a=>G3 C fun b=>Un R C l m h K a b))) (eQ (G3 k fun a=>G3 C fun b=>Un R C l m h K a b)) =
 some (dqO (G3 K fun a=>G3 C fun b=>Un R C l m h K a b)):=by
 intro d
 induction d with
 | zero =>
   intro k F hk hF
   obtain ⟨F,rfl⟩:∃ G,F=G+1:=⟨F-1,by omega⟩
   obtain rfl:k=K:=by omega
   rw [Au.A6.Ao5,Aw,A8c (by omega),A8b]
   rfl
 | succ d ih =>
   intro k F hk hF
   obtain ⟨F,rfl⟩:∃ G,F=G+1:=⟨F-1,by omega⟩
   rw [Au.A6.Ao5,Aw,A78 (show (k:Int)<(K:Int) by omega),A77]
   exact (Ay9 r6 c6 k6 hl hm hh al am ah N F (show k<K by omega) _ R 0 N (by omega) (by omega)).trans
    ((Ay8 r6 c6 k6 hl hm al N F N (by omega) (by omega) _ rfl).trans (ih (k+1) F (by omega) (by omega)))
theorem Azb (N:Nat) (hN:7<N):∀ d k F,k+d=K→d<F→(G3 k fun a=>G3 C fun b=>Un R C l m h K a b)=0 →
 ∃ dv,Au.A6.L0 N F (R:Int) (C:Int) l (C:Int) (K:Int) m (R:Int) (K:Int) h (k:Int)=some dv∧Wk [] dv (dqO (G3 K fun a=>G3 C fun b=>Un R C l m h K a b)):=by
 intro d
 induction d with
 | zero =>
   intro k F hk hF h0
   obtain ⟨F,rfl⟩:∃ G,F=G+1:=⟨F-1,by omega⟩
   obtain rfl:k=K:=by omega
   refine ⟨_,by rw [Au.A6.A1,Aw,A8c (by omega),A8b],?_⟩
   rw [h0]; exact wqN
 | succ d ih =>
   intro k F hk hF h0
   obtain ⟨F,rfl⟩:∃ G,F=G+1:=⟨F-1,by omega⟩
   rw [Au.A6.A1,Aw,A78 (show (k:Int)<(K:Int) by omega),A77]
   have hL1:Au.A6.L1 N F N (R:Int) (C:Int) l (C:Int) (K:Int) m (R:Int) (K:Int) h 0 [] (k:Int)=Au.A6.L3 N F N (R:Int) (C:Int) l (C:Int) (K:Int) m (R:Int) (K:Int) h (k:Int) (F0 C l m h K k R):=Aza r6 c6 k6 hl hm hh al am ah N F (show k<K by omega) R 0 N (by omega) (by omega)
   rw [hL1]
   obtain ⟨G,hG⟩:∃ G,N=G+1:=⟨N-1,by omega⟩
   have hL3:Au.A6.L3 N F N (R:Int) (C:Int) l (C:Int) (K:Int) m (R:Int) (K:Int) h (k:Int) (F0 C l m h K k R)=Au.A6.L3 N F (G+1) (R:Int) (C:Int) l (C:Int) (K:Int) m (R:Int) (K:Int) h (k:Int) (F0 C l m h K k R):=congrArg (fun z=>Au.A6.L3 N F z (R:Int) (C:Int) l (C:Int) (K:Int) m (R:Int) (K:Int) h (k:Int) (F0 C l m h K k R)) hG
   rw [hL3,Au.A6.X5]
   by_cases c0:C=0
   ·rw [Aw,A8c (by omega),A8b,Ar (by omega) (by omega)]
    refine ih (k+1) F (by omega) (by omega) ?_
    show _+G3 C _=0
    rw [h0]
    subst c0
    show 0+(0:Rat)=0
    grind
   ·obtain ⟨p1,p2,p3,p4⟩:=Ami (k:=k) r6 c6 hl al (show 0<C by omega)
    have eR:toNat ((R:Int)-0)=R:=by rw [Int.sub_zero,A79]
    have p1:(G9 (R:Int) (C:Int) l 0&&Cr (0≤(0:Int)∧(0:Int)≤(R:Int)))=true:=p1
    have p2:(Ak (B4 (C:Int) l 0 0 R)&&Sg (F0 C l m h K k R) (length (B4 (C:Int) l 0 0 R)))=true:=p2
    have g0:Q8 (B4 (C:Int) l 0 0 R) (F0 C l m h K k R)=G3 R fun i=>Ek (Cp (C:Int) l (i:Int) ((0:Nat):Int))*lkQ C l m h K i k:=Ag8 (j:=0) c6
    have eg:(G3 R fun i=>Ek (Cp (C:Int) l (i:Int) ((0:Nat):Int))*lkQ C l m h K i k)*(G3 R fun i=>Ek (Cp (C:Int) l (i:Int) ((0:Nat):Int))*lkQ C l m h K i k)=Un R C l m h K k 0:=rfl
    have es:(0:Rat)+Un R C l m h K k 0=(G3 k fun a=>G3 C fun b=>Un R C l m h K a b)+G3 1 fun b=>Un R C l m h K k b:=by
     rw [h0]
     show _=0+((0:Rat)+Un R C l m h K k 0)
     grind
    rw [Aw,A78 (show (0:Int)<(C:Int) by omega),A77,p1,A77,eR,p2,A77,g0,Fm p3,A8d,A77,Fb p3,eg,Aa0,Fm p4,A8d,A77,Afy,Fb p4]
    have h4:=Aoi r6 c6 k6 hl hm al N F (show k<K by omega) (C-1) 1 G (by omega) (by omega) _ es
    have h6:=Ay7 r6 c6 k6 hl hm hh al am ah N hN d (k+1) F (by omega) (by omega)
    exact ⟨_,h4.trans h6,wqO⟩
end
theorem Avl (R C K:Nat) (l m h:List Int):Oa R C K l m h=G3 K fun a=>G3 C fun b=>Un R C l m h K a b:=rfl
theorem Au.A6.known:Au.A6.Kn:=Au.A6.Ae (.cons Ai.Add.q.known (.cons Ai.Mul.q.known (.cons Ai.Sub.q.known (.cons A4.Value.q.known (.cons A8.At.known (.cons A8.Ss.known (.cons A8.Row.known (.cons Au.Hn.q.known (.cons Au.G6.known .nil))))))))) fun r c l p q m u v h hp=>by
 obtain ⟨h1,h2⟩:=Af.1 (show (((Az r c l&&Az p q m)&&(Az u v h&&(Ak l&&(Ak m&&Ak h))))&&decide (p=c∧u=r∧v=q))=true from hp)
 obtain ⟨h3,h4⟩:=Af.1 h1
 obtain ⟨hl,hm⟩:=Af.1 h3
 obtain ⟨hh,h5⟩:=Af.1 h4
 obtain ⟨al,h6⟩:=Af.1 h5
 obtain ⟨am,ah⟩:=Af.1 h6
 obtain ⟨rfl,rfl,rfl⟩:=A8x h2
 obtain ⟨R,C,rfl,rfl,r6,c6,ll⟩:=Dl hl
 obtain ⟨P,K,eP,rfl,_,k6,lm⟩:=Dl hm
 obtain rfl:P=C:=by omega
 obtain ⟨U,V,eU,eV,_,_,lh⟩:=Dl hh
 obtain rfl:U=R:=by omega
 obtain rfl:V=K:=by omega
 obtain ⟨dv,e,w⟩:=Azb r6 c6 k6 ll lm lh al am ah 8 (by omega) V 0 8 (by omega) (by omega) rfl
 refine ⟨8,dv,[],(Au.A6.ev 8 _ _ _ _ _ _ _ _ _).trans e,?_⟩
 show Wk [] dv (dqO (Oa (toNat (U:Int)) (toNat (P:Int)) (toNat (V:Int)) l m h))
 rw [A79,A79,A79,Avl]
 exact w
end Go.Proofs.S1
namespace Go.Cv
open Go.Den
theorem Ayu {k:Nat} {x:List Int} (hk:k+4≤1000) (hx:Bl k x) (hl:x.length≤7) (h0:x.length≠0):(Bv x).2.2.2=0:=by
 unfold Bv
 have hf:=hx.Np
 rw [A8t (by omega),A8u hf]
 unfold Ai7
 by_cases h3:Gc (x.drop 1)=true
 ·rw [A8u h3]
 ·rw [A8t h3]
  have hs:=Uq h3
  obtain ⟨m1,-⟩:=Ae2 hf hl hs
  have hb:Bd (k+4) (G2 x).toNat:=by
   unfold G2
   rw [D1]
   exact Bd.scale (by omega) m1 (by have:=Avz hx hs; omega)
  rw [A8u (show Dk (G2 x)=true from hb.fin)]
theorem Aos {r c:Nat} (hr:r≤7):∀ (n j k:Nat) (l:List Int),Bl k l→Ak l=true→k+11*n≤990→j+n<r→∃ x,J2 r c n j l=some x
 | 0,_,_,l,_,_,_,_=>⟨(l,[]),rfl⟩
 | n+1,j,k,l,hl,al,hk,hj=>by
   have h1:(Bv (Dm r c l j)).2.2.2=0:=by
    have e:(Dm r c l j).length=r-j:=by unfold Dm; rw [Gz]
    exact Ayu (k:=k) (by omega) (Abq hl) (by omega) (by omega)
   obtain ⟨b1,-⟩:=Agz (by omega) hl al hr h1
   obtain ⟨x,hx⟩:=Aos (c:=c) hr n (j+1) (k+11) _ b1 (Uh al j) (by omega) (by omega)
   refine ⟨(x.1,((Bv (Dm r c l j)).1,(Bv (Dm r c l j)).2.1)::x.2),?_⟩
   unfold J2
   rw [A8u h1,hx]
   rfl
theorem Av4 {r c:Nat} (h:r≠0):0+Fy r c<r:=by unfold Fy; omega
theorem A2a {r c:Nat} {l:List Int} (hr:r≤6) (h:Bl 60 l) (al:Ak l=true):∃ x,I7 r c l=some x:=by
 unfold I7
 by_cases h0:r=0
 ·have:Fy r c=0:=by unfold Fy; omega
  rw [this]; exact ⟨_,rfl⟩
 ·have h5:Fy r c≤5:=by unfold Fy; omega
  exact Aos (by omega) _ 0 60 l h al (by omega) (Av4 h0)
def dl (a m:Nat):Rat:=if a=m then 1 else 0
section
variable {r c j k b K:Nat} {q v:List Int} {t:Int} {s:Rat}
theorem A09 (hn:j+(k+1)=r) (hr:r≤6) (hb:b<r) (aq:Ak q=true) (hq:Bl K q) (hK:K≤900) (vl:v.length=k+1) (mb1:Bl 1 v) (mb2:Bd 5 t.toNat) (M:Mi r (vx j (rv v)) (vR t.toNat)) (hs:Ln r (cl r q b) s) :
 Ln r (fun i=>cl r (Gp r r q (j:Int) 0 v t) b i-vH r (vx j (rv v)) (vR t.toNat) (cl r q b) i) (120*uR*s+100*Cb):=by
 subst hn
 have hsb:=hs.behind
 have vv:=M.vv
 rw [Ar8] at vv
 have A:=Afn (c:=((j+(k+1):Nat):Int)) (i:=(j:Int)) (b:=(b:Int)) (t:=t) (s:=s) vl (by omega) hK aq hq mb1 mb2 vv M.tb (hsb.congr fun m hm=>Abp hm)
 refine Ln.tail (s:=120*uR*s+100*Cb) (fun i hi=>?_) ?_
 ·rw [Ad6,A8u hi]
  unfold cl
  rw [Y4 (by omega) hb]
  unfold Hy
  rw [A8t (by omega)]; grind
 ·refine A.congr fun m hm=>?_
  rw [Ad6,A8t (by omega),Nat.add_sub_cancel_left]
  have e:vH (k+1) (rv v) (vR t.toNat) (fun m=>cl (j+(k+1)) q b (j+m)) m=vH (k+1) (rv v) (vR t.toNat) (rv (B4 ((j+(k+1):Nat):Int) q (b:Int) (j:Int) (k+1))) m:=Wc (fun m hm=>(Abp hm).symm) hm
  rw [e]
  unfold cl
  rw [Y4 (by omega) hb]
  unfold Hy
  rw [A8u (by omega),show (((j+m:Nat):Int)-(j:Int)).toNat=m by omega,Int.natCast_add j m]
end
structure Aw4 (r c n:Nat) (l R Q:List Int):Prop where
 q1:∀ m,m<r→Ln r (cl r Q m) (1+1000*uR*(n:Rat))
 q2:∀ a m,a<r→m<r→av ((sm r fun i=>cl r Q a i*cl r Q m i)-dl a m)≤1000*uR*(n:Rat)
 f1:∀ b s,b<c→tw (-900)≤s→Ln r (cl c l b) s→Ln r (cl c R b) ((1+1000*uR*(n:Rat))*s)
 f2:∀ b s,b<c→tw (-900)≤s→Ln r (cl c l b) s→Ln r (fun i=>cl c l b i-sm r fun m=>cl r Q m i*cl c R b m) (1400*uR*(n:Rat)*s)
theorem Adb {r a i:Nat} (ha:a<r) (hi:i<r):cl r (Mb r) a i=dl a i:=by
 unfold cl Mb
 rw [Jx hi ha]
 unfold V0 dl
 by_cases h:a=i
 ·rw [A8u (by omega),A8u h]; exact Aks
 ·rw [A8t (by omega),A8t h]; exact Jo false
theorem Avt (r c:Nat) (l:List Int):Aw4 r c 0 l l (Mb r):=by
 have z:((0:Nat):Rat)=0:=rfl
 have d:∀ a m,a<r→m<r→(sm r fun i=>cl r (Mb r) a i*cl r (Mb r) m i)=dl a m:=fun a m ha hm=>by
  rw [Ak7 (k:=a) ha fun i hi h=>by
   rw [Adb ha hi]
   unfold dl
   rw [A8t (by omega)]; grind]
  rw [Adb ha ha,Adb hm ha]
  unfold dl
  rw [A8u rfl]
  by_cases h:a=m
  ·rw [A8u h,A8u h.symm]; grind
  ·rw [A8t h,A8t (fun e=>h e.symm)]; grind
 refine ⟨fun m hm=>⟨by rw [z]; grind,?_⟩,fun a m ha hm=>?_,fun b s hb hs h=>h.mono (by rw [z]; grind),fun b s hb hs h=>?_⟩
 ·have:=d m m hm hm
  unfold sq
  rw [this,z]
  unfold dl
  rw [A8u rfl]; grind
 ·rw [d a m ha hm,z]
  have:av (dl a m-dl a m)=0:=by
   rw [Rat.sub_self]; decide
  rw [this]; grind
 ·refine ((Ln.zero r).congr fun i hi=>?_).mono (by rw [z]; grind)
  rw [Ak7 (k:=i) hi fun m hm hne=>by
   rw [Adb hm hi]
   unfold dl
   rw [A8t hne]; grind]
  rw [Adb hi hi]
  unfold dl
  rw [A8u rfl]; grind
end Go.Cv
namespace Go.Cv
open Go.Den
theorem A2d {s:Rat} (h:tw (-900)≤s):100*Cb≤uR*s:=by
 have h1:100*Cb≤uR*tw (-900):=by decide +kernel
 have h2:=I2 h
 grind
theorem A7e {u N s:Rat} (hu:0≤u) (hu2:u≤1 / 1000000) (hN:0≤N) (hN5:N≤5) (hs:0≤s):(1+250*u)*(1400*u*N*((1+456*u)*s))≤1400*u*N*s+20*u*s:=by
 have U:=Rat.mul_nonneg hu hs
 have p1:=Ee hN5 hu2 (by decide) hu
 have p2:=Rat.mul_le_mul_of_nonneg_right p1 U
 have p3:=Ee hu2 hu2 (by decide +kernel) hu
 have p4:=Rat.mul_le_mul_of_nonneg_right p3 U
 have p5:=Rat.mul_le_mul_of_nonneg_right hu2 (Rat.mul_nonneg (Rat.mul_nonneg hN hu) U)
 grind
theorem A47 {u N s:Rat} (hu:0≤u) (hu2:u≤1 / 1000000) (hN5:N≤5) (hs:0≤s):(1+1000*u*N)*((1+456*u)*s)≤(1+1000*u*(N+1))*s:=by
 have U:=Rat.mul_nonneg hu hs
 have p1:=Ee hN5 hu2 (by decide) hu
 have p2:=Rat.mul_le_mul_of_nonneg_right p1 U
 grind
theorem A7d {u N:Rat} (hu:0≤u) (hu2:u≤1 / 1000000) (hN:0≤N) (hN5:N≤5):1000*u*N≤1 / 100∧0≤u*N:=by
 have p1:=Ee hN5 hu2 (by decide) hu
 have:=Rat.mul_nonneg hu hN
 grind
section
variable {r c n:Nat} {l l1 R Q Q':List Int} {w:Nat→Rat} {t:Rat}
theorem Avs (n4:n≤5) (r9:r≤9) (M:Mi r w t)
 (hl:∀ b s,b<c→Ln r (cl c l b) s→Ln r (fun i=>cl c l1 b i-vH r w t (cl c l b) i) (205*uR*s+100*Cb))
 (hQ:∀ b s,b<r→Ln r (cl r Q' b) s→Ln r (fun i=>cl r Q b i-vH r w t (cl r Q' b) i) (120*uR*s+100*Cb))
 (ih:Aw4 r c n l1 R Q'):Aw4 r c (n+1) l R Q:=by
 have u0:=Rat.le_of_lt Fa
 have us:=Hi
 have e0:=Ex
 have N1:((n+1:Nat):Rat)=(n:Rat)+1:=Rat.natCast_add n 1
 have N0:(0:Rat)≤(n:Rat):=Mu n
 have N5:(n:Rat)≤5:=C0 n4
 obtain ⟨s1,s2⟩:=A7d u0 us N0 N5
 have e1:100*Cb≤uR:=by decide +kernel
 have hx:120*uR*(1+1000*uR*(n:Rat))+100*Cb≤123*uR:=by
  have:=I2 s1
  grind
 have e:=fun b (hb:b<r)=>(hQ b _ hb (ih.q1 b hb)).mono hx
 have hh:=fun b (hb:b<r)=>Afz M (ih.q1 b hb)
 have q1:∀ m,m<r→Ln r (cl r Q m) (1+1000*uR*((n:Rat)+1)):=fun m hm=>by
  refine (((e m hm).add (hh m hm)).congr fun i _=>by grind).mono ?_
  have:=I2 s1
  grind
 have s1':=fun (b:Nat) (s:Rat) (hb:b<c) (hs:tw (-900)≤s) (h:Ln r (cl c l b) s)=>by
  have h1:=(hl b s hb h).mono (t:=206*uR*s) (by have:=A2d hs; grind)
  have h2:Ln r (cl c l1 b) ((1+456*uR)*s):=((h1.add (Afz M h)).congr fun i _=>by grind).mono (by grind)
  exact And.intro h1 h2
 have ss:=fun (s:Rat) (hs:tw (-900)≤s)=>by
  have t0:=D0 (-900)
  have:=Rat.mul_nonneg u0 (show 0≤s by grind)
  exact (show 0≤s∧0≤uR*s∧tw (-900)≤(1+456*uR)*s by grind)
 refine ⟨by rw [N1]; exact q1,fun a m ha hm=>?_,fun b s hb hs h=>?_,fun b s hb hs h=>?_⟩
 ·rw [N1]
  have d:=Asi (r:=r) (v:=w) (t:=t) (a:=cl r Q' a) (cl r Q' m)
  have i2:=ih.q2 a m ha hm
  have da:=M.lv.dot (ih.q1 a ha)
  have dm:=M.lv.dot (ih.q1 m hm)
  have x1:=(hh a ha).dot (e m hm)
  have x2:=(e a ha).dot (q1 m hm)
  have es:(sm r fun i=>cl r Q a i*cl r Q m i)=(sm r fun i=>vH r w t (cl r Q' a) i*vH r w t (cl r Q' m) i)+((sm r fun i=>vH r w t (cl r Q' a) i*(cl r Q m i-vH r w t (cl r Q' m) i))+(sm r fun i=>(cl r Q a i-vH r w t (cl r Q' a) i)*cl r Q m i)):=by
   rw [← Ho,← Ho]
   exact Bo r fun i _=>by grind
  rw [es,d]
  clear es d
  have k1:av (t*(t*sq r w-2)*((sm r fun i=>w i*cl r Q' a i)*sm r fun i=>w i*cl r Q' m i))≤220*uR*(24 / 10):=by
   have b1:av (sm r fun i=>w i*cl r Q' a i)≤3 / 2*(101 / 100):=by have:=Li da; grind
   have b2:av (sm r fun i=>w i*cl r Q' m i)≤3 / 2*(101 / 100):=by have:=Li dm; grind
   have b3:=Ee b1 b2 (by decide +kernel) (Eo _)
   rw [← D9] at b3
   have b4:=Ee M.tt b3 (by grind) (Eo _)
   rw [← D9] at b4
   have:220*uR*(3 / 2*(101 / 100)*(3 / 2*(101 / 100)))≤220*uR*(24 / 10):=by grind
   exact Rat.le_trans b4 this
  have x1':=Li x1
  have x2':=Li x2
  have n1:(1+250*uR)*(1+1000*uR*(n:Rat))*(123*uR)≤126*uR:=by
   have h1:(1+250*uR)*(1+1000*uR*(n:Rat))≤102 / 100:=by
    have:=I2 s1
    grind
   have:=Rat.mul_le_mul_of_nonneg_right h1 (show 0≤123*uR by grind)
   grind
  have n2:123*uR*(1+1000*uR*((n:Rat)+1))≤126*uR:=by
   have h1:1+1000*uR*((n:Rat)+1)≤102 / 100:=by grind
   have:=Rat.mul_le_mul_of_nonneg_right h1 (show 0≤123*uR by grind)
   grind
  generalize (sm r fun i=>cl r Q' a i*cl r Q' m i)=A at *
  generalize t*(t*sq r w-2)*((sm r fun i=>w i*cl r Q' a i)*sm r fun i=>w i*cl r Q' m i)=B at *
  generalize (sm r fun i=>vH r w t (cl r Q' a) i*(cl r Q m i-vH r w t (cl r Q' m) i))=C at *
  generalize (sm r fun i=>(cl r Q a i-vH r w t (cl r Q' a) i)*cl r Q m i)=D at *
  have g1:=Iz (A-dl a m) (B+(C+D))
  have g2:=Iz B (C+D)
  have g3:=Iz C D
  have g4:A+B+(C+D)-dl a m=A-dl a m+(B+(C+D)):=by grind
  rw [g4]
  clear g4 da dm x1 x2 e hh q1 s1' ss hl hQ M ih
  grind
 ·rw [N1]
  obtain ⟨z1,z2,z3⟩:=ss s hs
  exact (ih.f1 b _ hb z3 (s1' b s hb hs h).2).mono (A47 u0 us N5 z1)
 ·rw [N1]
  obtain ⟨z1,z2,z3⟩:=ss s hs
  obtain ⟨h1,h2⟩:=s1' b s hb hs h
  have p1:=Axc M h
  have p2:=Afz M h1
  have p3:=Afz M (ih.f2 b _ hb z3 h2)
  have R1:=(ih.f1 b _ hb z3 h2).mono (A47 u0 us N5 z1)
  have p4:=A13 (e:=fun m i=>cl r Q m i-vH r w t (cl r Q' m) i) (show 0≤123*uR by grind) r9 e R1
  have hall:=((p1.sub p2).add p3).sub p4
  refine (hall.congr fun i hi=>?_).mono ?_
  ·have y1:=Asg (r:=r) (v:=w) (t:=t) (a:=cl c l1 b) (vH r w t (cl c l b)) i
   have y2:=Asg (r:=r) (v:=w) (t:=t) (a:=cl c l1 b) (fun i=>sm r fun m=>cl r Q' m i*cl c R b m) i
   have y3:=Asf (r:=r) (v:=w) (t:=t) (fun m=>cl r Q' m) (fun m=>cl c R b m) i r
   have y4:(sm r fun m=>cl r Q m i*cl c R b m)=(sm r fun m=>vH r w t (cl r Q' m) i*cl c R b m)+(sm r fun m=>(cl r Q m i-vH r w t (cl r Q' m) i)*cl c R b m):=by
    rw [← Ho]
    exact Bo r fun m _=>by grind
   rw [y1,y2,y4,y3]
   grind
  ·have q1:=A7e u0 us N0 N5 z1
   have q2:(1+250*uR)*(206*uR*s)≤210*uR*s:=by
    have:=Rat.mul_le_mul_of_nonneg_right us z2
    grind
   have q3:3*(123*uR)*((1+1000*uR*((n:Rat)+1))*s)≤380*uR*s:=by
    have h1:1+1000*uR*((n:Rat)+1)≤102 / 100:=by grind
    have:=Rat.mul_le_mul_of_nonneg_right h1 z2
    grind
   grind
end
end Go.Cv
namespace Go.Cv
open Go.Den
theorem Ax1 (n:Nat) (x:Nat→Rat):Ln n x (sq n x+1):=by
 have h0:=Nf n x
 refine ⟨by grind,?_⟩
 generalize sq n x=q at *
 have:=By q
 grind
theorem A2l {r c j k:Nat} {l:List Int} (hn:j+(k+1)=r) (hr:r≤6) (al:Ak l=true) (he:(Bv (Dm r c l j)).2.2.2=0):Mi r (vx j (rv (Bv (Dm r c l j)).1)) (vR (Bv (Dm r c l j)).2.1.toNat)∧(Bv (Dm r c l j)).1.length=k+1:=by
 have lc:(Dm r c l j).length=k+1:=by unfold Dm; rw [Gz]; omega
 have ac:Ak (Dm r c l j)=true:=O9 al
 have ml:=Q4 he
 subst hn
 exact ⟨Aqp (Acg lc (by omega) ac he (Ax1 _ _)),by omega⟩
theorem Aol {r c:Nat} (hr:r≤6):∀ (n j K:Nat) (l:List Int) (x:List Int × List (List Int × Int)),Bl K l→Ak l=true→K+11*n≤900→(∀ b i:Nat,b<j→b<i→i<r→cl c l b i=0)→j+n≤c→n=0∨j+n<r→J2 r c n j l=some x →
 Aw4 r c n l x.1 (Lg r j x.2 (Mb r))∧∀ b i:Nat,b<j+n→b<i→i<r→cl c x.1 b i=0
 | 0,j,K,l,x,_,_,_,hz,_,_,h=>by
   cases h
   exact ⟨Avt r c l,hz⟩
 | n+1,j,K,l,x,hK,al,hK9,hz,hc,hj,h=>by
   unfold J2 at h
   by_cases h1:(Bv (Dm r c l j)).2.2.2=0
   ·rw [A8u h1,Option.map_eq_some_iff] at h
    obtain ⟨y,hy,rfl⟩:=h
    have hj:j+(n+1)<r:=by omega
    obtain ⟨k,hk⟩:∃ k,j+(k+1)=r:=⟨r-j-1,by omega⟩
    obtain ⟨M,ml⟩:=A2l hk hr al h1
    obtain ⟨b1,b2,b3,b4⟩:=Agz (by omega) hK al (by omega) h1
    have al1:=Uh (r:=r) (c:=c) al j
    obtain ⟨ih1,ih2⟩:=Aol hr n (j+1) (K+11) (Ps r c l j) y b1 al1 (by omega) (Apo (by omega) hz) (by omega) (by omega) hy
    obtain ⟨d1,d2,d3⟩:=Ac9 (by omega) n (j+1) (K+11) _ y b1 al1 (by omega) hy
    have qb:=Adm (n:=r) y.2 (j+1) 0 (Mb r) d2 (Aoo r) (by omega)
    have qi:=(Xw r y.2 (j+1) (Mb r) (Aaz r) (by unfold Mb; exact Cf _ _ _)).1
    refine ⟨?_,fun b i hb=>ih2 b i (by omega)⟩
    exact Avs (by omega) (by omega) M (fun b s hb hs=>As6 hk hr (by omega) hb al hK (by omega) h1 hz hs)
     (fun b s hb hs=>A09 hk hr hb qi qb (by omega) ml b2 b3 M hs) ih1
   ·rw [A8t h1] at h; cases h
theorem Aml {r c:Nat} {l:List Int} (hr:r≤6) (hK:Bl 60 l) (al:Ak l=true) :
 Aw4 r c 5 l (H6 r c l) (Jy r c l)∧(∀ b i:Nat,b<c→b<i→i<r→cl c (H6 r c l) b i=0)∧Bl 115 (H6 r c l)∧Bl 55 (Jy r c l)∧(I7 r c l).isSome=true:=by
 obtain ⟨x,hx⟩:=A2a (c:=c) hr hK al
 have eR:H6 r c l=x.1:=by unfold H6; rw [hx]
 have eQ:Jy r c l=Lg r 0 x.2 (Mb r):=by unfold Jy; rw [hx]
 rw [eR,eQ]
 unfold I7 at hx
 have h5:Fy r c≤5:=by unfold Fy; omega
 have hz:Fy r c=0∨0+Fy r c<r:=by unfold Fy; omega
 obtain ⟨h1,h2⟩:=Aol hr (Fy r c) 0 60 l x hK al (by omega) (fun b i hb=>by omega) (by unfold Fy; omega) hz hx
 obtain ⟨d1,d2,d3⟩:=Ac9 (by omega) (Fy r c) 0 60 l x hK al (by omega) hx
 have qb:=Adm (n:=r) x.2 0 0 (Mb r) d2 (Aoo r) (by omega)
 have N:((Fy r c:Nat):Rat)≤((5:Nat):Rat):=C0 h5
 have u0:=Rat.le_of_lt Fa
 have uN:=I2 N
 refine ⟨⟨fun m hm=>(h1.q1 m hm).mono (by grind),fun a m ha hm=>Rat.le_trans (h1.q2 a m ha hm) (by grind),fun b s hb hs h=>(h1.f1 b s hb hs h).mono ?_,fun b s hb hs h=>(h1.f2 b s hb hs h).mono ?_⟩,fun b i hb hbi hi=>?_,d1.mono (by omega),qb.mono (by omega),?_⟩
 ·have:=Rat.mul_le_mul_of_nonneg_right uN h.1
  grind
 ·have:=Rat.mul_le_mul_of_nonneg_right uN h.1
  grind
 ·by_cases hb2:b<0+Fy r c
  ·exact h2 b i hb2 hbi hi
  ·exfalso
   unfold Fy at hb2
   omega
 ·show (J2 r c (Fy r c) 0 l).isSome=true
  rw [hx]; rfl
end Go.Cv
namespace Go.Cv
theorem Aah (f:Nat→Nat→Rat) (r:Nat):∀ c,(sm c fun b=>sm r fun i=>f b i)=sm r fun i=>sm c fun b=>f b i
 | 0=>by
   show (0:Rat)=sm r fun _=>0
   rw [I4]
 | c+1=>by
   show (sm c fun b=>sm r fun i=>f b i)+(sm r fun i=>f c i)=sm r fun i=>(sm c fun b=>f b i)+f c i
   rw [Aah f r c,← Ho]
def Fn (r c:Nat) (M:Nat→Nat→Rat) (S:Rat):Prop:=0≤S∧(sm c fun b=>sq r (M b))≤S*S
section
variable {r c:Nat} {M N:Nat→Nat→Rat} {S T t:Rat} {x y:Nat→Rat}
theorem Fn.of {s:Nat→Rat} (h:∀ b,b<c→Ln r (M b) (s b)) (hS:0≤S) (k:(sm c fun b=>s b*s b)≤S*S):Fn r c M S :=
 ⟨hS,Rat.le_trans (S3 c fun b hb=>(h b hb).2) k⟩
theorem Fn.same {x:Rat} (h:∀ b,b<c→Ln r (M b) x) (hx:0≤x) (c9:c≤9):Fn r c M (3*x):=by
 refine Fn.of (s:=fun _=>x) h (by grind) ?_
 rw [O8]
 have h2:(c:Rat)≤9:=C0 c9
 have:=Rat.mul_le_mul_of_nonneg_right h2 (By x)
 grind
theorem Fn.Asw (h:Fn r c M S):Fn c r (fun i b=>M b i) S:=by
 refine ⟨h.1,?_⟩
 have:=h.2
 unfold sq at this ⊢
 rw [Aah (fun b i=>M b i*M b i)] at this
 exact this
theorem Fn.mul (h:Fn r c M S) (hx:Ln c x t):Ln r (fun i=>sm c fun b=>M b i*x b) (S*t):=by
 refine ⟨Rat.mul_nonneg h.1 hx.1,?_⟩
 have h1:sq r (fun i=>sm c fun b=>M b i*x b)≤sm r fun i=>sq c x*sq c (fun b=>M b i):=S3 r fun i _=>by
  have:=cs (fun b=>M b i) x c
  grind
 rw [Gm] at h1
 have h2:=h.Asw.2
 have h3:=Ee h2 hx.2 (By S) (Nf c x)
 grind
theorem Fn.A0z (h:Fn r c M S) (hy:Ln r y t):Ln c (fun b=>sm r fun i=>M b i*y i) (S*t):=h.Asw.mul hy
theorem Fn.avs (h:Fn r c M S):Fn r c (fun b i=>av (M b i)) S:=by
 refine ⟨h.1,?_⟩
 have:=h.2
 unfold sq at this ⊢
 rw [Bo c (g:=fun b=>sm r fun i=>M b i*M b i) fun b _=>Bo r fun i _=>Lh _]
 exact this
theorem Fn.congr (h:Fn r c M S) (e:∀ b i,b<c→i<r→N b i=M b i):Fn r c N S:=by
 refine ⟨h.1,?_⟩
 have:=h.2
 unfold sq at this ⊢
 rw [Bo c (g:=fun b=>sm r fun i=>M b i*M b i) fun b hb=>Bo r fun i hi=>by rw [e b i hb hi]]
 exact this
theorem Fn.Nz {B:Rat} (hB:0≤B) (h:∀ b i,b<c→i<r→Ab (M b i) B) (c6:c≤6) (r6:r≤6):Fn r c M (6*B):=by
 refine ⟨by grind,?_⟩
 have sqa:∀ {y:Rat},Ab y B→y*y≤B*B:=fun {y} hy=>by
  unfold Ab at hy
  rcases (Rat.le_total:(0:Rat)≤y∨y≤0) with g | g
  ·exact Px g hy.2
  ·have:=Px (x:=-y) (y:=B) (by grind) (by grind)
   grind
 have h1:(sm c fun b=>sq r (M b))≤sm c fun _=>sm r fun _=>B*B:=S3 c fun b hb=>S3 r fun i hi=>sqa (h b i hb hi)
 rw [O8,O8] at h1
 have h2:(c:Rat)≤6:=C0 c6
 have h3:(r:Rat)≤6:=C0 r6
 have h4:=Ee h2 h3 (by decide) (Mu r)
 have:=Rat.mul_le_mul_of_nonneg_right h4 (By B)
 grind
end
theorem Aeq {q:Rat} (hq:0<q):∃ s:Rat,0<s∧q≤s*s∧s*s≤103 / 100*q:=by
 have hd:(0:Rat)<(q.den:Rat):=by
  have:=q.den_pos
  exact Rat.natCast_pos.2 this
 have hn:0<q.num:=by
  have h1:=Rat.num_nonneg.2 (Rat.le_of_lt hq)
  have h2:q.num≠0:=fun e=>by
   have:=Rat.num_eq_zero.1 e
   rw [this] at hq
   exact absurd hq (by decide)
  omega
 obtain ⟨N,hN⟩:∃ N:Nat,q.num=(N:Int):=⟨q.num.toNat,by omega⟩
 have e1:q*(q.den:Rat)=(N:Rat):=by
  have h:q=mkRat q.num q.den:=(Rat.mkRat_self q).symm
  rw [Rat.mkRat_eq_div,hN] at h
  have h2:q*(q.den:Rat)=((N:Int):Rat) / (q.den:Rat)*(q.den:Rat):=congrArg (·*(q.den:Rat)) h
  rw [h2,Ns (by grind)]
  exact Rat.intCast_natCast N
 have hN1:1≤N:=by omega
 have hD1:1≤q.den:=q.den_pos
 generalize q.den=D at *
 have hs:=Nm (N*D*10000)
 have h100:100≤Mj (N*D*10000):=Ag5 (by
  have:=A83 hN1 hD1
  omega)
 have e2:q*((100*(D:Rat))*(100*(D:Rat)))=((N*D*10000:Nat):Rat):=by
  rw [Rat.natCast_mul,Rat.natCast_mul]
  have:((10000:Nat):Rat)=10000:=rfl
  rw [this]
  grind
 generalize N*D*10000=n at *
 generalize Mj n=r at *
 have a1:=C0 (Nat.le_of_lt hs.2)
 have a2:=C0 hs.1
 have a3:=C0 h100
 rw [Rat.natCast_mul,Rat.natCast_add] at a1
 rw [Rat.natCast_mul] at a2
 have o1:((1:Nat):Rat)=1:=rfl
 have o2:((100:Nat):Rat)=100:=rfl
 rw [o1] at a1
 rw [o2] at a3
 have hp:0<100*(D:Rat):=by grind
 generalize 100*(D:Rat)=p at *
 generalize (r:Rat)=ρ at *
 generalize (n:Rat)=ν at *
 have pp:0<p*p:=Rat.mul_pos hp hp
 have hs':(ρ+1) / p*p=ρ+1:=by grind
 generalize (ρ+1) / p=s at *
 have hs0:0<s:=by
  rcases (Rat.le_total:s≤0∨0≤s) with h | h
  ·have:=Rat.mul_nonneg (show 0≤-s by grind) (Rat.le_of_lt hp)
   grind
  ·have:s≠0:=fun e=>by rw [e] at hs'; grind
   grind
 have e3:s*s*(p*p)=(ρ+1)*(ρ+1):=by
  have:s*s*(p*p)=(s*p)*(s*p):=by grind
  rw [this,hs']
 refine ⟨s,hs0,?_,?_⟩
 ·refine Rat.le_of_mul_le_mul_right ?_ pp
  rw [e2,e3]; exact a1
 ·refine Rat.le_of_mul_le_mul_right ?_ pp
  rw [show 103 / 100*q*(p*p)=103 / 100*(q*(p*p)) by grind,e2,e3]
  have b1:=Rat.mul_le_mul_of_nonneg_right a3 (show 0≤ρ by grind)
  grind
end Go.Cv
namespace Go.Cv
open Go.Den
theorem Akf {k a:Nat} (k3:Aj a≠3) (k4:Aj a≠4) (h:Ab (vR a) (tw k)):Bd k a:=by
 refine ⟨k3,k4,?_⟩
 rw [Z9,Agk (Qm _ _)] at h
 have h2:=Rat.mul_le_mul_of_nonneg_right h (Rat.le_of_lt (D0 1074))
 rw [show (Kg a:Rat)*tw (-1074)*tw 1074=(Kg a:Rat)*(tw (-1074)*tw 1074) by grind,← E3,← E3] at h2
 have e:(-1074:Int)+1074=0:=rfl
 have e2:(k:Int)+1074=((k+1074:Nat):Int):=rfl
 rw [e,T2,e2,J3] at h2
 exact Rat.natCast_le_natCast.1 (by grind)
theorem Lo.val {t a:Nat} (h:Lo t a):vR a≠0:=by
 intro e
 have h1:av (vR a)=0:=by rw [e]; decide
 unfold vR at h1
 rw [D9,D9] at h1
 have s1:av (Qt (Bp a))≠0:=by cases Bp a<;>decide +kernel
 have p1:av (tw (Av a))≠0:=by
  have:=D0 (Av a)
  rw [Rb (Rat.le_of_lt this)]; grind
 have m1:av ((An a:Nat):Rat)≠0:=by
  rw [Rb (Mu _)]
  intro h2
  exact h.m0 (Rat.natCast_inj.1 h2)
 rcases Rat.mul_eq_zero.1 h1 with h2 | h2
 ·rcases Rat.mul_eq_zero.1 h2 with h3 | h3
  ·exact s1 h3
  ·exact m1 h3
 ·exact p1 h2
section
variable {c:Int} {l:List Int} {i:Int} {p P:Nat}
theorem W9 (hl:Bl p l) (hp:p+P≤1000):∀ (xs:List Int) (s j:Int) (t:Nat),Bl P xs→Bm t (p+P) s.toNat→0<t→t+xs.length≤1000→Bm (t+xs.length) (p+P) (Pg c l i s j xs).toNat
 | [],s,j,t,_,hs,_,_=>hs
 | x::xs,s,j,t,hx,hs,h0,ht=>by
   simp only [List.length_cons] at ht ⊢
   have h1:Bd (p+P) (D6 (Cp c l i j) x).toNat:=by
    rw [I5]
    exact Bd.mul (by omega) (Nt hl) (hx x A9m)
   have h2:Bm (t+1) (p+P) (Eu s (D6 (Cp c l i j) x)).toNat:=by
    rw [Ri]
    exact Bm.add (by omega) (by omega) hp hs (Bm.minus (Lm (Ku _ _)) h1.bm)
   have:=W9 hl hp xs _ (j+1) (t+1) (fun z hz=>hx z (A9c _ hz)) h2 (by omega) (by omega)
   rw [show t+(xs.length+1)=t+1+xs.length by omega]
   exact this
theorem Ah9 {b:Nat→Int} {n t:Nat} (hl:Bl p l) (hb:∀ i,i<n→Bd p (b i).toNat) (hd:∀ i,i<n→Lo t (Cp c l (i:Int) (i:Int)).toNat) (hp:(p+t+3)*6≤1000):∀ k,k≤n→k≤6→Bl ((p+t+3)*k) (Rf c l b n k)
 | 0,_,_=>fun x hx=>by cases hx
 | k+1,hk,h6=>by
   have ih:=Ah9 hl hb hd hp k (by omega) (by omega)
   have hlen:=Mp c l b n k
   have e1:(p+t+3)*(k+1)=(p+t+3)*k+(p+t+3):=Nat.mul_succ _ _
   have e2:(p+t+3)*k≤(p+t+3)*5:=Nat.mul_le_mul_left _ (by omega)
   generalize (p+t+3)*k=P at *
   intro x hx
   rw [Rf] at hx
   rcases List.mem_cons.1 hx with hx | hx
   ·rw [hx,Qa]
    have h1:=W9 (c:=c) (i:=((n-1-k:Nat):Int)) hl (P:=P) (by omega) (Rf c l b n k) (b (n-1-k)) ((n-k:Nat):Int) 1 ih ((hb (n-1-k) (by omega)).mono (by omega)).bm (by decide) (by omega)
    have h2:=h1.bd (j:=3) (by omega)
    exact (Bd.div (by omega) h2 (hd (n-1-k) (by omega))).mono (by omega)
   ·exact (ih x hx).mono (by omega)
theorem Ajp (hl:Bl p l) (hp:p+P≤1000):∀ (xs:List Int) (s:Int) (j t:Nat) (T A a:Rat),Bl P xs→Bm t (p+P) s.toNat→0<t→t+xs.length≤1000→av T≤A→0≤a→a+(xs.length:Rat)≤20→Nr (vR s.toNat) T (3*a*uR*A+2*a*Cb) →
 Nr (vR (Pg c l i s (j:Int) xs).toNat) (T-sm xs.length fun m=>vR (Cp c l i ((j+m:Nat):Int)).toNat*rv xs m) (3*(a+(xs.length:Rat))*uR*(A+sm xs.length fun m=>av (vR (Cp c l i ((j+m:Nat):Int)).toNat)*av (rv xs m))+2*(a+(xs.length:Rat))*Cb)
 | [],s,j,t,T,A,a,_,_,_,_,_,_,_,h=>by
   have z:((([]:List Int).length:Nat):Rat)=0:=rfl
   have e:∀ f,sm ([]:List Int).length f=0:=fun f=>rfl
   rw [z,e,e,Rat.add_zero,Rat.add_zero,show T-0=T by grind]
   exact h
 | x::xs,s,j,t,T,A,a,hx,hs,h0,ht,hT,ha,ha2,h=>by
   have el:(((x::xs).length:Nat):Rat)=(xs.length:Rat)+1:=by
    rw [List.length_cons]; exact Rat.natCast_add _ 1
   simp only [List.length_cons] at ht
   rw [el] at ha2 ⊢
   have hln:=Mu xs.length
   have ba:=Nt (c:=c) (i:=i) (j:=(j:Int)) hl
   have bb:=hx x A9m
   have b2:=Bd.mul (show p+P≤1023 by omega) ba bb
   have lt2:=Lm (Ku (Cp c l i (j:Int)) x)
   rw [I5] at lt2
   have b3:=Bm.add (k:=p+P) (by omega) (by omega) hp hs (Bm.minus lt2 b2.bm)
   have m1:=Ug ba.1 ba.2.1 bb.1 bb.2.1 b2.1 (B:=av (vR (Cp c l i (j:Int)).toNat*vR x.toNat)) (Ib _)
   have u0:=Fa
   have e0:=Ex
   have m2:=We lt2 hs.1 hs.2.1 b2.1 b2.2.1 b3.1 (B:=A+(3*a*uR*A+2*a*Cb)+(av (vR (Cp c l i (j:Int)).toNat*vR x.toNat)+(uR*av (vR (Cp c l i (j:Int)).toNat*vR x.toNat)+Cb))) (by
    have n1:=J0 (z:=0) h
    have n3:=J0 (z:=0) m1
    have n4:=Iz (vR s.toNat) (-(vR (Hc (Cp c l i (j:Int)).toNat x.toNat).1))
    rw [Qp] at n4
    have n5:=Ib (vR s.toNat+-(vR (Hc (Cp c l i (j:Int)).toNat x.toNat).1))
    unfold Ab at *
    grind)
   obtain ⟨st,sT⟩:=Xo (z:=-(vR (Cp c l i (j:Int)).toNat*vR x.toNat)) (q:=-(vR (Hc (Cp c l i (j:Int)).toNat x.toNat).1)) ha (by grind) hT u0 Hi e0 h (by rw [Qp]; exact m1.neg) (by
    rw [Qp,show vR s.toNat+-(vR (Hc (Cp c l i (j:Int)).toNat x.toNat).1)=vR s.toNat-vR (Hc (Cp c l i (j:Int)).toNat x.toNat).1 by grind]
    exact m2)
   rw [Qp] at st sT
   have es1:(Eu s (D6 (Cp c l i (j:Int)) x)).toNat=(Abd s.toNat (Hc (Cp c l i (j:Int)).toNat x.toNat).1).1:=by rw [Ri,I5]
   have ih:=Ajp hl hp xs (Eu s (D6 (Cp c l i (j:Int)) x)) (j+1) (t+1) (T+-(vR (Cp c l i (j:Int)).toNat*vR x.toNat)) (A+av (vR (Cp c l i (j:Int)).toNat*vR x.toNat)) (a+1) (fun z hz=>hx z (A9c _ hz)) (by rw [es1]; exact b3) (by omega) (by omega) sT (by grind) (by grind) (by rw [es1]; exact st)
   have ej:∀ m:Nat,((j+1+m:Nat):Int)=((j+(m+1):Nat):Int):=fun m=>by omega
   have es:(sm (x::xs).length fun m=>vR (Cp c l i ((j+m:Nat):Int)).toNat*rv (x::xs) m)=vR (Cp c l i (j:Int)).toNat*vR x.toNat+sm xs.length fun m=>vR (Cp c l i ((j+1+m:Nat):Int)).toNat*rv xs m:=by
    rw [List.length_cons,Ke]
    exact congrArg (fun z=>vR (Cp c l i (j:Int)).toNat*vR x.toNat+z) (Bo xs.length (f:=fun m=>vR (Cp c l i ((j+(m+1):Nat):Int)).toNat*rv (x::xs) (m+1)) (g:=fun m=>vR (Cp c l i ((j+1+m:Nat):Int)).toNat*rv xs m) fun m _=>by rw [ej]; rfl)
   have es':(sm (x::xs).length fun m=>av (vR (Cp c l i ((j+m:Nat):Int)).toNat)*av (rv (x::xs) m))=av (vR (Cp c l i (j:Int)).toNat*vR x.toNat)+sm xs.length fun m=>av (vR (Cp c l i ((j+1+m:Nat):Int)).toNat)*av (rv xs m):=by
    rw [List.length_cons,Ke,D9]
    exact congrArg (fun z=>av (vR (Cp c l i (j:Int)).toNat)*av (vR x.toNat)+z) (Bo xs.length (f:=fun m=>av (vR (Cp c l i ((j+(m+1):Nat):Int)).toNat)*av (rv (x::xs) (m+1))) (g:=fun m=>av (vR (Cp c l i ((j+1+m:Nat):Int)).toNat)*av (rv xs m)) fun m _=>by rw [ej]; rfl)
   have eq:Pg c l i s (j:Int) (x::xs)=Pg c l i (Eu s (D6 (Cp c l i (j:Int)) x)) ((j+1:Nat):Int) xs:=rfl
   rw [es,es',eq]
   generalize (sm xs.length fun m=>vR (Cp c l i ((j+1+m:Nat):Int)).toNat*rv xs m)=Z1 at *
   generalize (sm xs.length fun m=>av (vR (Cp c l i ((j+1+m:Nat):Int)).toNat)*av (rv xs m))=Z2 at *
   generalize vR (Cp c l i (j:Int)).toNat*vR x.toNat=z at *
   rw [show T-(z+Z1)=T+-z-Z1 by grind,show A+(av z+Z2)=A+av z+Z2 by grind,show a+((xs.length:Rat)+1)=a+1+(xs.length:Rat) by grind]
   exact ih
end
end Go.Cv
namespace Go.Cv
open Go.Den
theorem Ax8 (l:List Int) (d m:Nat):rv (l.drop d) m=rv l (d+m):=by
 unfold rv
 rw [A8h,A8h,List.getElem?_drop]
section
variable {c n p t:Nat} {l:List Int} {b:Nat→Int}
theorem Ayb (h6:n≤6) (hl:Bl p l) (hb:∀ i,i<n→Bd p (b i).toNat) (hd:∀ i:Nat,i<n→Lo t (Cp (c:Int) l (i:Int) (i:Int)).toNat) (hp:(p+t+3)*6≤1000) (hz:∀ m i:Nat,m<i→i<n→cl c l m i=0) {i:Nat} (hi:i<n) :
 Nr (sm n fun m=>cl c l m i*rv (Rf (c:Int) l b n n) m) (vR (b i).toNat) (18*uR*(av (vR (b i).toNat)+sm n fun m=>av (cl c l m i)*av (rv (Rf (c:Int) l b n n) m))+(12+tw p)*Cb):=by
 have ub:=Ah9 (c:=(c:Int)) hl hb hd hp
 have ur:=Anf (c:=(c:Int)) (l:=l) (b:=b) hi
 obtain ⟨k,hk⟩:∃ k,n=i+(k+1):=⟨n-i-1,by omega⟩
 have et:=Aa9 (c:=(c:Int)) (l:=l) (b:=b) (n:=n) (k:=k) (by omega)
 rw [show n-k=i+1 by omega] at et
 have ubn:=ub n (A81 n) h6
 have ubk:=ub k (by omega) (by omega)
 have lk:(Rf (c:Int) l b n k).length=k:=Mp _ _ _ _ _
 have P6:(p+t+3)*k≤(p+t+3)*5:=Nat.mul_le_mul_left _ (by omega)
 have xi:=R8 ubn i
 rw [ur,et,Qa] at xi
 generalize hX:Rf (c:Int) l b n n=X at *
 have rx:∀ m,rv (Rf (c:Int) l b n k) m=rv X (i+(m+1)):=fun m=>by
  rw [← et,Ax8,show i+1+m=i+(m+1) by omega]
 generalize Rf (c:Int) l b n k=xs at *
 generalize hP:(p+t+3)*k=P at *
 have bi:=hb i hi
 have kR:(k:Rat)≤5:=C0 (show k≤5 by omega)
 have kn:=Mu k
 have z0:((0:Nat):Rat)=0:=rfl
 have h1:=Ajp (c:=(c:Int)) (i:=(i:Int)) hl (P:=P) (by omega) xs (b i) (i+1) 1 (vR (b i).toNat) (av (vR (b i).toNat)) 0 ubk (bi.mono (by omega)).bm (by decide) (by omega) Rat.le_refl Rat.le_refl (by rw [lk]; grind) (by unfold Nr; grind)
 have h2:=(W9 (c:=(c:Int)) (i:=(i:Int)) hl (P:=P) (by omega) xs (b i) ((i+1:Nat):Int) 1 ubk (bi.mono (by omega)).bm (by decide) (by omega)).bd (j:=3) (by omega)
 have di:=hd i hi
 have dn:=Nt (c:=(c:Int)) (i:=(i:Int)) (j:=(i:Int)) hl
 have dv:=di.val
 rw [lk] at h1
 generalize hs:Pg (c:Int) l (i:Int) (b i) ((i+1:Nat):Int) xs=s at *
 generalize hD:Cp (c:Int) l (i:Int) (i:Int)=D at *
 have h3:=Aa1 h2.1 h2.2.1 di.k3 di.k4 di.k0 xi.1 (q:=vR s.toNat / vR D.toNat) (B:=av (vR s.toNat / vR D.toNat)) (Ns dv) (Ib _)
 have ex:rv X i=vR (Sm s.toNat D.toNat).1:=by
  show vR (X.getD i 0).toNat=_
  rw [ur,et,Qa,hs]
 rw [← ex] at h3
 have ec:cl c l i i=vR D.toNat:=by unfold cl; rw [hD]
 have e1:(sm n fun m=>cl c l m i*rv X m)=vR D.toNat*rv X i+sm k fun m=>vR (Cp (c:Int) l (i:Int) ((i+1+m:Nat):Int)).toNat*rv xs m:=by
  rw [hk,Wj fun m hm=>by rw [hz m i hm hi]; grind,Ke,A9f,ec]
  refine congrArg (fun z=>vR D.toNat*rv X i+z) (Bo k fun m _=>?_)
  rw [rx]
  unfold cl
  rw [show i+1+m=i+(m+1) by omega]
 have e2:(sm n fun m=>av (cl c l m i)*av (rv X m))=av (vR D.toNat)*av (rv X i)+sm k fun m=>av (vR (Cp (c:Int) l (i:Int) ((i+1+m:Nat):Int)).toNat)*av (rv xs m):=by
  rw [hk,Wj fun m hm=>by rw [hz m i hm hi,show av 0=0 by decide]; grind,Ke,A9f,ec]
  refine congrArg (fun z=>av (vR D.toNat)*av (rv X i)+z) (Bo k fun m _=>?_)
  rw [rx]
  unfold cl
  rw [show i+1+m=i+(m+1) by omega]
 rw [e1,e2]
 have hn:0≤sm k fun m=>av (vR (Cp (c:Int) l (i:Int) ((i+1+m:Nat):Int)).toNat)*av (rv xs m):=Qv _ fun m _=>Rat.mul_nonneg (Eo _) (Eo _)
 have h4:Ab (sm k fun m=>vR (Cp (c:Int) l (i:Int) ((i+1+m:Nat):Int)).toNat*rv xs m) (sm k fun m=>av (vR (Cp (c:Int) l (i:Int) ((i+1+m:Nat):Int)).toNat)*av (rv xs m)):=by
  have:=Wl (f:=fun m=>vR (Cp (c:Int) l (i:Int) ((i+1+m:Nat):Int)).toNat*rv xs m) (g:=fun _=>0) (d:=fun m=>av (vR (Cp (c:Int) l (i:Int) ((i+1+m:Nat):Int)).toNat)*av (rv xs m)) k fun m _=>by
   rw [← D9]
   have:=Ib (vR (Cp (c:Int) l (i:Int) ((i+1+m:Nat):Int)).toNat*rv xs m)
   unfold Nr Ab at *
   grind
  rw [I4] at this
  unfold Nr Ab at *
  grind
 generalize (sm k fun m=>vR (Cp (c:Int) l (i:Int) ((i+1+m:Nat):Int)).toNat*rv xs m)=Z at *
 generalize (sm k fun m=>av (vR (Cp (c:Int) l (i:Int) ((i+1+m:Nat):Int)).toNat)*av (rv xs m))=W at *
 have dB:=Li (Adl dn)
 have dq:av (vR s.toNat / vR D.toNat)*av (vR D.toNat)=av (vR s.toNat):=by rw [← D9,Ns dv]
 have h5:Nr (vR D.toNat*rv X i) (vR s.toNat) (2*uR*av (vR s.toNat)+tw p*Cb):=by
  have h6:=Iq.1 h3
  have h7:=Ee h6 (Rat.le_refl (a:=av (vR D.toNat))) (Rat.le_trans (Eo _) h6) (Eo _)
  rw [← D9] at h7
  have h8:(rv X i-vR s.toNat / vR D.toNat)*vR D.toNat=vR D.toNat*rv X i-vR s.toNat:=by
   have:=Ns (a:=vR s.toNat) dv
   grind
  rw [h8] at h7
  refine Iq.2 (Rat.le_trans h7 ?_)
  have h9:=Rat.mul_le_mul_of_nonneg_left dB (Rat.le_of_lt Ex)
  generalize av (vR s.toNat / vR D.toNat)=q at *
  rw [← dq]
  grind
 clear h3 dq e1 e2 ex ec ur et hz hd ub ubn ubk hl rx xi h2 di dn bi
 have u0:=Fa
 have us:=Hi
 have e0:=Ex
 have an:=Eo (vR (b i).toNat)
 have sn:=J0 (z:=0) h1
 have sn2:=Iz (vR (b i).toNat) (-Z)
 rw [Qp] at sn2
 have zn:=Li h4
 generalize vR (b i).toNat=β at *
 generalize vR s.toNat=σ at *
 generalize vR D.toNat*rv X i=ξ at *
 have pn:=Rat.mul_nonneg (Rat.le_of_lt (D0 p)) (Rat.le_of_lt e0)
 have uA:0≤uR*(av β+W):=Rat.mul_nonneg (Rat.le_of_lt u0) (by grind)
 have k1:3*(0+(k:Rat))*uR*(av β+W)+2*(0+(k:Rat))*Cb≤15*(uR*(av β+W))+10*Cb:=by
  have g1:=Rat.mul_le_mul_of_nonneg_right kR uA
  have g2:=Rat.mul_le_mul_of_nonneg_right kR (Rat.le_of_lt e0)
  grind
 have k2:2*uR*av σ≤3*(uR*(av β+W))+Cb:=by
  have g3:av σ≤(av β+W)+(15*(uR*(av β+W))+10*Cb):=by
   have e:β-Z=β+-Z:=by grind
   rw [e] at sn
   grind
  have g4:=I2 g3
  have g5:=Rat.mul_le_mul_of_nonneg_right us uA
  have g6:=Rat.mul_le_mul_of_nonneg_right us (Rat.le_of_lt e0)
  grind
 have h1':=h1.mono k1
 have dx:0≤uR*(av (vR D.toNat)*av (rv X i)):=Rat.mul_nonneg (Rat.le_of_lt u0) (Rat.mul_nonneg (Eo _) (Eo _))
 generalize av (vR D.toNat)*av (rv X i)=δ at *
 clear h1 k1 sn sn2 zn h4 hb hn
 unfold Nr at *
 grind
end
end Go.Cv
namespace Go.Cv
open Go.Den
theorem A0k {a:Nat} (h:Ab (vR a) Cb):vR a=0:=by
 rw [Z9,Agk (Qm _ _)] at h
 have m0:Kg a=0:=by
  rcases Nat.eq_zero_or_pos (Kg a) with h0 | h0
  ·exact h0
  ·exfalso
   have h1:=C0 h0
   have o:((1:Nat):Rat)=1:=rfl
   have h2:=Rat.mul_le_mul_of_nonneg_right h1 (Rat.le_of_lt (D0 (-1074)))
   have e:tw (-1074)=2*Cb:=by decide +kernel
   have e0:=Ex
   rw [e] at h h2
   have h3:((1:Nat):Rat)≤(Kg a:Rat):=h1
   rw [o] at h2
   grind
 rw [Z9,m0]
 have z:((0:Nat):Rat)=0:=rfl
 rw [z]; grind
theorem Aa7:Ab 0 0:=by unfold Ab; grind
theorem An4 {x:Rat} (h:Nr x 0 (uR*0)):x=0:=by unfold Nr at h; grind
theorem Ae1 {a b:Nat} (a3:Aj a≠3) (a4:Aj a≠4) (b3:Aj b≠3) (b4:Aj b≠4) (hf:Aj (Hc a b).1≠3) (h:vR a*vR b=0):vR (Hc a b).1=0:=by
 have:=Ug a3 a4 b3 b4 hf (B:=0) (by rw [h]; exact Aa7)
 rw [h] at this
 exact A0k (by unfold Nr at this; unfold Ab; grind)
section
variable {c:Int} {l:List Int} {i:Int} {p P:Nat}
theorem Aco (hl:Bl p l) (hp:p+P≤1000):∀ (xs:List Int) (s j:Int) (t:Nat),Bl P xs→Bm t (p+P) s.toNat→0<t→t+xs.length≤1000→vR s.toNat=0→(∀ x∈xs,vR x.toNat=0)→vR (Pg c l i s j xs).toNat=0
 | [],s,j,t,_,_,_,_,h,_=>h
 | x::xs,s,j,t,hx,hs,h0,ht,h,hz=>by
   simp only [List.length_cons] at ht
   have ba:=Nt (c:=c) (i:=i) (j:=j) hl
   have bb:=hx x A9m
   have b2:=Bd.mul (show p+P≤1023 by omega) ba bb
   have lt2:=Lm (Ku (Cp c l i j) x)
   rw [I5] at lt2
   have b3:=Bm.add (k:=p+P) (by omega) (by omega) hp hs (Bm.minus lt2 b2.bm)
   have es1:(Eu s (D6 (Cp c l i j) x)).toNat=(Abd s.toNat (Hc (Cp c l i j).toNat x.toNat).1).1:=by rw [Ri,I5]
   refine Aco hl hp xs (Eu s (D6 (Cp c l i j) x)) (j+1) (t+1) (fun z hz=>hx z (A9c _ hz)) (by rw [es1]; exact b3) (by omega) (by omega) ?_ (fun y hy=>hz y (A9c _ hy))
   have m0:=Ae1 ba.1 ba.2.1 bb.1 bb.2.1 b2.1 (by rw [hz x A9m]; grind)
   rw [es1]
   have e0:vR s.toNat-vR (Hc (Cp c l i j).toNat x.toNat).1=0:=by rw [h,m0]; grind
   have:=We lt2 hs.1 hs.2.1 b2.1 b2.2.1 b3.1 (B:=0) (by rw [e0]; exact Aa7)
   rw [e0] at this
   exact An4 this
theorem Anc {b:Nat→Int} {n t:Nat} (hl:Bl p l) (hb:∀ i,i<n→Bd p (b i).toNat) (hd:∀ i,i<n→Lo t (Cp c l (i:Int) (i:Int)).toNat) (hp:(p+t+3)*6≤1000) (hz:∀ i,i<n→vR (b i).toNat=0):∀ k,k≤n→k≤6→∀ x∈Rf c l b n k,vR x.toNat=0
 | 0,_,_=>fun x hx=>by cases hx
 | k+1,hk,h6=>by
   have ih:=Anc hl hb hd hp hz k (by omega) (by omega)
   have ub:=Ah9 hl hb hd hp k (by omega) (by omega)
   have ub':=Ah9 hl hb hd hp (k+1) hk h6
   have hlen:=Mp c l b n k
   have e1:(p+t+3)*(k+1)=(p+t+3)*k+(p+t+3):=Nat.mul_succ _ _
   have e2:(p+t+3)*k≤(p+t+3)*5:=Nat.mul_le_mul_left _ (by omega)
   intro x hx
   have bx:=ub' x hx
   generalize (p+t+3)*k=P at *
   rw [Rf] at hx
   rcases List.mem_cons.1 hx with hx | hx
   ·have s0:=Aco (c:=c) (i:=((n-1-k:Nat):Int)) hl (P:=P) (by omega) (Rf c l b n k) (b (n-1-k)) ((n-k:Nat):Int) 1 ub ((hb (n-1-k) (by omega)).mono (by omega)).bm (by decide) (by omega) (hz (n-1-k) (by omega)) ih
    have h1:=(W9 (c:=c) (i:=((n-1-k:Nat):Int)) hl (P:=P) (by omega) (Rf c l b n k) (b (n-1-k)) ((n-k:Nat):Int) 1 ub ((hb (n-1-k) (by omega)).mono (by omega)).bm (by decide) (by omega)).bd (j:=3) (by omega)
    have di:=hd (n-1-k) (by omega)
    rw [hx,Qa] at bx ⊢
    have:=Aa1 h1.1 h1.2.1 di.k3 di.k4 di.k0 bx.1 (q:=0) (B:=0) (by rw [s0]; grind) Aa7
    exact A0k (by unfold Nr at this; unfold Ab; grind)
   ·exact ih x hx
end
section
variable {c n p t:Nat} {l:List Int} {b:Nat→Int} {T x B:Rat}
theorem A0t (h6:n≤6) (hl:Bl p l) (hb:∀ i,i<n→Bd p (b i).toNat) (hd:∀ i:Nat,i<n→Lo t (Cp (c:Int) l (i:Int) (i:Int)).toNat) (hp:(p+t+3)*6≤1000) (hz:∀ m i:Nat,m<i→i<n→cl c l m i=0)
 (hF:Fn n n (cl c l) T) (hx:Ln n (rv (Rf (c:Int) l b n n)) x) (hB:Ln n (fun i=>vR (b i).toNat) B) :
 Ln n (fun i=>(sm n fun m=>cl c l m i*rv (Rf (c:Int) l b n n) m)-vR (b i).toNat) (18*uR*(B+T*x)+3*((12+tw p)*Cb)):=by
 have u0:=Rat.le_of_lt Fa
 have pe:0≤(12+tw p)*Cb:=Rat.mul_nonneg (by have:=D0 p; grind) (Rat.le_of_lt Ex)
 have h1:=(hB.avs.add (hF.avs.mul hx.avs)).scale (c:=18*uR) (B:=18*uR) (by unfold Ab; grind)
 have h2:Ln n (fun _=>(12+tw p)*Cb) (3*((12+tw p)*Cb)):=Ln.Nz pe (fun _ _=>by unfold Ab; grind) (by omega)
 refine Ln.An3 (fun i hi=>?_) (h1.add h2)
 exact Iq.1 (Ayb h6 hl hb hd hp hz hi)
end
end Go.Cv
namespace Go.Cv
theorem Ahj (f y:Nat→Rat) (q:Nat→Nat→Rat) (r c:Nat):(sm r fun i=>f i*sm c fun k=>q k i*y k)=sm c fun k=>(sm r fun i=>f i*q k i)*y k:=by
 have e1:(sm r fun i=>f i*sm c fun k=>q k i*y k)=sm r fun i=>sm c fun k=>f i*q k i*y k:=Bo r fun i _=>by
  rw [← Gm]
  exact Bo c fun k _=>by grind
 rw [e1,← Aah (fun k i=>f i*q k i*y k)]
 refine Bo c fun k _=>?_
 have e2:(sm r fun i=>f i*q k i*y k)=y k*sm r fun i=>f i*q k i:=by
  rw [← Gm]
  exact Bo r fun i _=>by grind
 rw [e2]; grind
theorem Atf (f g:Nat→Rat) (n:Nat):sm n (fun i=>f i-g i)=sm n f-sm n g:=by
 have h:=Ho f (fun i=>-1*g i) n
 rw [Gm] at h
 rw [Bo n (g:=fun i=>f i+-1*g i) fun i _=>by grind,h]; grind
theorem Ak8 {c r:Nat} {f:Nat→Rat} (h:c≤r) (hz:∀ m,c≤m→m<r→f m=0):sm r f=sm c f:=by
 obtain ⟨d,rfl⟩:∃ d,r=c+d:=⟨r-c,by omega⟩
 rw [O7,Bo d (g:=fun _=>0) fun m hm=>hz (c+m) (by omega) (by omega),I4]
 grind
section
variable {r c:Nat} {M R q:Nat→Nat→Rat} {x b c1:Nat→Rat} {S X B P e:Rat}
def Hk (c:Nat) (M:Nat→Nat→Rat) (x b:Nat→Rat) (i:Nat):Rat:=(sm c fun k=>M k i*x k)-b i
def Xa (r:Nat) (M R q:Nat→Nat→Rat) (k i:Nat):Rat:=M k i-sm r fun m=>q m i*R k m
theorem Avj (c6:c≤6) (hc:c≤r) (hM:Fn r c M S) (hE:Fn r c (Xa r M R q) (7000*uR*S)) (hR:Fn r c R ((1+5000*uR)*S)) (hz:∀ k m,k<c→k<m→m<r→R k m=0)
 (q1:∀ m,m<r→Ln r (q m) (1+5000*uR)) (q2:∀ a m,a<r→m<r→av ((sm r fun i=>q a i*q m i)-dl a m)≤5000*uR)
 (hx:Ln c x X) (hb:Ln r b B) (hp:Ln c (fun i=>(sm c fun m=>R m i*x m)-c1 i) P) (he:Ln c (fun i=>c1 i-sm r fun j=>q i j*b j) e) :
 Ln c (fun k=>sm r fun i=>M k i*Hk c M x b i) ((1+5000*uR)*S*(30000*uR*((1+5000*uR)*S*X)+P+e+3*(1+5000*uR)*(7000*uR*S*X))+7000*uR*S*(S*X+B)):=by
 have u0:=Rat.le_of_lt Fa
 have colc:∀ k i,k<c→M k i=(sm c fun m=>q m i*R k m)+Xa r M R q k i:=fun k i hk=>by
  unfold Xa
  rw [← Ak8 (f:=fun m=>q m i*R k m) hc fun m h1 h2=>by rw [hz k m hk (by omega) h2]; grind]
  grind
 have lack:∀ i,Hk c M x b i=(sm c fun m=>q m i*sm c fun k=>R k m*x k)+(sm c fun k=>Xa r M R q k i*x k)-b i:=fun i=>by
  unfold Hk
  have e1:(sm c fun k=>M k i*x k)=(sm c fun k=>x k*sm c fun m=>R k m*q m i)+sm c fun k=>Xa r M R q k i*x k:=by
   rw [← Ho]
   refine Bo c fun k hk=>?_
   rw [colc k i hk,Bo c (f:=fun m=>q m i*R k m) (g:=fun m=>R k m*q m i) fun m _=>by grind]
   grind
  have e2:=Ahj x (fun m=>q m i) (fun m k=>R k m) c c
  have e3:(sm c fun m=>q m i*sm c fun k=>R k m*x k)=sm c fun m=>(sm c fun k=>x k*R k m)*q m i:=Bo c fun m _=>by
   rw [Bo c (f:=fun k=>R k m*x k) (g:=fun k=>x k*R k m) fun k _=>by grind]
   grind
  rw [e1,e2,e3]
 have hw:Ln r (Hk c M x b) (S*X+B):=(hM.mul hx).sub hb
 have hy:Ln c (fun m=>sm c fun k=>R k m*x k) ((1+5000*uR)*S*X):=by
  have h1:=hR.mul hx
  obtain ⟨d,hd⟩:∃ d,r=c+d:=⟨r-c,by omega⟩
  refine ⟨h1.1,Rat.le_trans ?_ h1.2⟩
  unfold sq
  rw [hd,O7]
  have:=Qv (f:=fun m=>(sm c fun k=>R k (c+m)*x k)*(sm c fun k=>R k (c+m)*x k)) d fun m _=>By _
  grind
 have hex:=hE.mul hx
 have hq:Fn r c q (3*(1+5000*uR)):=Fn.same (fun m hm=>q1 m (by omega)) (by grind) (by omega)
 have hD:Fn c c (fun k m=>(sm r fun i=>q m i*q k i)-dl m k) (6*(5000*uR)):=Fn.Nz (by grind) (fun k m hk hm=>by
  have:=q2 m k (by omega) (by omega)
  have h2:=Ib ((sm r fun i=>q m i*q k i)-dl m k)
  unfold Ab at *
  grind) c6 c6
 have hz2:∀ m,m<c→(sm r fun i=>q m i*Hk c M x b i)=(sm c fun k=>((sm r fun i=>q m i*q k i)-dl m k)*sm c fun j=>R j k*x j)+((sm c fun k=>R k m*x k)-c1 m)+(c1 m-sm r fun j=>q m j*b j)+sm r fun i=>q m i*sm c fun k=>Xa r M R q k i*x k:=fun m hm=>by
  have e1:(sm r fun i=>q m i*Hk c M x b i)=(sm r fun i=>q m i*sm c fun k=>q k i*sm c fun j=>R j k*x j)+((sm r fun i=>q m i*sm c fun k=>Xa r M R q k i*x k)-sm r fun i=>q m i*b i):=by
   rw [← Atf,← Ho]
   exact Bo r fun i _=>by rw [lack]; grind
  have e2:=Ahj (q m) (fun k=>sm c fun j=>R j k*x j) q r c
  have e3:(sm c fun k=>((sm r fun i=>q m i*q k i)-dl m k)*sm c fun j=>R j k*x j)=(sm c fun k=>(sm r fun i=>q m i*q k i)*sm c fun j=>R j k*x j)-sm c fun k=>dl m k*sm c fun j=>R j k*x j:=by
   rw [← Atf]
   exact Bo c fun k _=>by grind
  have e4:(sm c fun k=>dl m k*sm c fun j=>R j k*x j)=sm c fun j=>R j m*x j:=by
   rw [Ak7 (k:=m) hm fun k hk hne=>by
    unfold dl
    rw [A8t (fun e=>hne e.symm)]; grind]
   unfold dl
   rw [A8u rfl]; grind
  rw [e1,e2,e3,e4]; grind
 have hzl:Ln c (fun m=>sm r fun i=>q m i*Hk c M x b i) (30000*uR*((1+5000*uR)*S*X)+P+e+3*(1+5000*uR)*(7000*uR*S*X)):=by
  have h1:=(hD.mul hy).add hp
  have h2:=(h1.add he).add (hq.A0z hex)
  refine (h2.congr fun m hm=>hz2 m hm).mono ?_
  grind
 have hall:=(hR.A0z (r:=r) (y:=fun m=>if m<c then sm r fun i=>q m i*Hk c M x b i else 0) (t:=30000*uR*((1+5000*uR)*S*X)+P+e+3*(1+5000*uR)*(7000*uR*S*X)) (by
  refine ⟨hzl.1,Rat.le_trans ?_ hzl.2⟩
  unfold sq
  rw [Ak8 hc fun m h1 _=>by
   dsimp only
   rw [A8t (by omega)]; grind]
  exact S3 c fun m hm=>by
   dsimp only
   rw [A8u hm]; exact Rat.le_refl)).add (hE.A0z hw)
 refine hall.congr fun k hk=>?_
 have e1:(sm r fun i=>M k i*Hk c M x b i)=(sm r fun i=>Hk c M x b i*sm c fun m=>q m i*R k m)+sm r fun i=>Xa r M R q k i*Hk c M x b i:=by
  rw [← Ho]
  exact Bo r fun i _=>by rw [colc k i hk]; grind
 have e2:=Ahj (Hk c M x b) (R k) q r c
 have e3:(sm r fun m=>R k m*if m<c then sm r fun i=>q m i*Hk c M x b i else 0)=sm c fun m=>(sm r fun i=>Hk c M x b i*q m i)*R k m:=by
  rw [Ak8 hc fun m h1 _=>by rw [A8t (by omega)]; grind]
  refine Bo c fun m hm=>?_
  rw [A8u hm,Bo r (f:=fun i=>q m i*Hk c M x b i) (g:=fun i=>Hk c M x b i*q m i) fun i _=>by grind]
  grind
 rw [e1,e2,e3]
end
end Go.Cv
namespace Go.Proofs.S1
open Go Go.Den Go.Cv Go.Proofs
def BL (k:Nat) (l:List Int):Prop:=∀ x∈l,Bd k x.toNat
theorem Axv {k:Nat} {x:Int} (h:Aeg (k:Int) x=true):Bd k x.toNat:=by
 unfold Aeg at h
 rw [A8i,Bool.or_eq_true,A8i,A8e,A8e,A8e] at h
 obtain ⟨hf,h⟩:=h
 refine .A1w hf fun h0=>?_
 have kn:Aj x.toNat≠0:=fun e=>by
  unfold Aj at e
  unfold An at h0
  split at e
  ·split at e<;>omega
  ·split at e
   ·omega
   ·split at e
    ·omega
    ·rw [A8u (by omega)] at h0; omega
 rcases h with h | ⟨_,h⟩
 ·exact absurd (show Aj x.toNat=0 by unfold A7 at h; omega) kn
 ·unfold Bq E6 at h
  rw [A8u ⟨hf,kn⟩] at h
  exact h
theorem Aph {k:Nat} {l:List Int} (h:Ec l (k:Int)=true):BL k l∧Ff l=true:=by
 unfold Ec at h
 rw [List.all_eq_true] at h
 refine ⟨fun x hx=>Axv (h x hx),?_⟩
 unfold Ff
 rw [List.all_eq_true]
 exact fun x hx=>(Af.1 (h x hx)).1
open Go Go.Den Go.Cv Go.Proofs
end Go.Proofs.S1
namespace Go.Cv
open Go.Den Go.Proofs.S1
theorem Aok {c n:Nat} {l:List Int} (fl:Ff l=true) (hd:Xi (E1 (c:Int) l n)=false):∀ i,i<n→A7 (Cp (c:Int) l (i:Int) (i:Int))≠0:=by
 intro i hi k0
 have fin_a:∀ i:Nat,Aj (Cp (c:Int) l (i:Int) (i:Int)).toNat≠3∧Aj (Cp (c:Int) l (i:Int) (i:Int)).toNat≠4:=fun i=>by
  by_cases k:A7 (Cp (c:Int) l (i:Int) (i:Int))=0
  ·unfold A7 at k; omega
  ·exact Sj (Ma fl _ (at_mem k))
 have hdf:Ff (E1 (c:Int) l n)=true:=List.all_eq_true.2 fun x hx=>by
  obtain ⟨j,_,rfl⟩:=List.mem_map.1 hx
  have k:=fin_a j
  show Ii (toNat ((Dy _:Nat):Int))=true
  rw [A79,Lc,Yu]
  simp [k.1,k.2]
 obtain ⟨b3,b4,ba,hb⟩:=Xv hdf
 have hmem:∀ i:Nat,i<n→Tg (Cp (c:Int) l (i:Int) (i:Int))∈E1 (c:Int) l n:=fun i hi=>List.mem_map.2 ⟨i,List.mem_range.2 hi,rfl⟩
 have hs:=List.any_eq_false.1 hd _ (hmem i hi)
 have hs:Yk (Ch (Bg (E1 (c:Int) l n)) (-40)) (Tg (Cp (c:Int) l (i:Int) (i:Int)))<0:=by
  rcases Int.lt_or_le (Yk (Ch (Bg (E1 (c:Int) l n)) (-40)) (Tg (Cp (c:Int) l (i:Int) (i:Int)))) 0 with h | h
  ·exact h
  ·exact absurd h (by simpa using hs)
 have hsc:=D1 (Bg (E1 (c:Int) l n)) (-40)
 have nB:Bp (Bg (E1 (c:Int) l n)).toNat=false:=by
  unfold Bp
  refine A8c ?_
  unfold Dy at ba; omega
 have a0:=Iu (show Aj (Cp (c:Int) l (i:Int) (i:Int)).toNat=0 by unfold A7 at k0; omega)
 unfold Yk At1 at hs
 split at hs
 ·omega
 ·split at hs
  ·rename_i hlt
   have e2:(Tg (Cp (c:Int) l (i:Int) (i:Int))).toNat=Dy (Cp (c:Int) l (i:Int) (i:Int)).toNat:=A79 _
   rw [e2] at hlt
   have n2:Bp (Dy (Cp (c:Int) l (i:Int) (i:Int)).toNat)=false:=A8c (by unfold Dy; omega)
   have n1:Bp (Ch (Bg (E1 (c:Int) l n)) (-40)).toNat=false:=by rw [hsc,T9 b4,nB]
   unfold Jj at hlt
   rw [n1,n2] at hlt
   have hlt:(((Ch (Bg (E1 (c:Int) l n)) (-40)).toNat%2^63:Nat):Int)<((Dy (Cp (c:Int) l (i:Int) (i:Int)).toNat%2^63:Nat):Int):=hlt
   unfold Dy at hlt a0
   omega
  ·split at hs<;>omega
theorem Aze {r c:Nat} {l:List Int} (hr:r≤6) (hK:Bl 60 l) (al:Ak l=true) {i b:Nat} (hi:i<r) (hb:b<c):Bd 62 (Cp (c:Int) (H6 r c l) (i:Int) (b:Int)).toNat:=by
 obtain ⟨F,_,bR,_,_⟩:=Aml (c:=c) hr hK al
 have t0:=D0 60
 have h1:Ln r (cl c l b) (3*tw 60):=Ln.Nz (Rat.le_of_lt t0) (fun i _=>Adl (Nt hK)) (by omega)
 have h2:=(F.f1 b (3*tw 60) hb (by have:=Aea (show (-900:Int)≤60 by decide); grind) h1).at hi
 have k:=Nt (c:=(c:Int)) (i:=(i:Int)) (j:=(b:Int)) bR
 refine Akf k.1 k.2.1 ?_
 have e:tw ((62:Nat):Int)=4*tw 60:=by decide +kernel
 have u:(1+1000*uR*((5:Nat):Rat))*(3*tw 60)≤4*tw 60:=by decide +kernel
 rw [e]
 show Ab (cl c (H6 r c l) b i) _
 unfold Ab at *
 grind
end Go.Cv
namespace Go.Cv
open Go.Den Go.Proofs.S1
def E9 (r c:Nat) (l:List Int):List Int:=C4 c c fun i k=>Cp (c:Int) (H6 r c l) (i:Int) (k:Int)
def Aef (r c:Nat) (l:List Int):List Int:=C4 r c fun i k=>Cp (r:Int) (Jy r c l) (i:Int) (k:Int)
def Gs (r c q:Nat) (l m:List Int):List Int:=C4 c q fun i k=>M5 (G7 (r:Int) (C4 c r fun i k=>Cp (c:Int) (Aef r c l) (k:Int) (i:Int)) (i:Int)) (Sn (r:Int) (q:Int) m (k:Int))
theorem Aew {R C a b:Nat} {l:List Int} (hr:Az (R:Int) (C:Int) l=true) (ha:a≤R) (hb:b≤C):Jf (R:Int) (C:Int) l 0 0 (a:Int) (b:Int)=((a:Int),(b:Int),C4 a b fun i k=>Cp (C:Int) l (i:Int) (k:Int),0):=by
 unfold Jf
 rw [A8u hr,A8u (show Qy (R:Int) (C:Int) 0 0 (a:Int) (b:Int)=true from A78 (by omega)),A79,A79]
 have:(fun i k:Nat=>Cp (C:Int) l (0+(i:Int)) (0+(k:Int)))=fun i k:Nat=>Cp (C:Int) l (i:Int) (k:Int):=funext fun i=>funext fun k=>by rw [Int.zero_add,Int.zero_add]
 rw [this]
theorem Apd {R C:Nat} {l:List Int} (hr:Az (R:Int) (C:Int) l=true):Gr (R:Int) (C:Int) l=((C:Int),(R:Int),C4 C R fun i k=>Cp (C:Int) l (k:Int) (i:Int),0):=by
 unfold Gr
 rw [A8u hr,A79,A79]
theorem Auo {R C K:Nat} {l m:List Int} (hl:Az (R:Int) (K:Int) l=true) (hm:Az (K:Int) (C:Int) m=true):Vs (R:Int) (K:Int) l (K:Int) (C:Int) m=((R:Int),(C:Int),C4 R C fun i k=>M5 (G7 (K:Int) l (i:Int)) (Sn (K:Int) (C:Int) m (k:Int)),0):=by
 unfold Vs
 rw [hl,hm,A8d,A8u rfl,A8u rfl,A79,A79]
section
variable {r c q:Nat} {l m:List Int}
theorem Ac3 (r6:r≤6) (c6:c≤6) (hl:l.length=r*c) (al:Ak l=true) (bA:Bl 60 l):Hq (r:Int) (c:Int) l=0∧(H6 r c l).length=r*c∧(Jy r c l).length=r*r∧Ak (H6 r c l)=true∧Ak (Jy r c l)=true:=by
 obtain ⟨F,_,bR,bQ,hs⟩:=Aml (c:=c) r6 bA al
 obtain ⟨a1,a2⟩:=Aom al hl hs
 obtain ⟨a3,a4⟩:=Aon (c:=c) (l:=l) hs
 refine ⟨?_,a2,a4,a1,a3⟩
 unfold Hq
 rw [A8t (fun k=>k (Pm (Dw r6 c6 hl) bA.Np)),A79,A79,A8u]
 unfold Tp
 rw [hs,bQ.Np,bR.Np]; rfl
theorem Axr (r6:r≤6) (c6:c≤6) (hc:c≤r) (hl:l.length=r*c) (al:Ak l=true) (bA:Bl 60 l):O5 (r:Int) (c:Int) l=((c:Int),(c:Int),E9 r c l,0):=by
 obtain ⟨h0,hR,hQ,aR,aQ⟩:=Ac3 r6 c6 hl al bA
 unfold O5
 rw [A8t (fun k=>k h0),show min (r:Int) (c:Int)=(c:Int) by omega,A79,A79,Aew (Dw r6 c6 hR) hc (A81 c)]
 rfl
theorem Axs (r6:r≤6) (c6:c≤6) (hc:c≤r) (hl:l.length=r*c) (al:Ak l=true) (bA:Bl 60 l):J4 (r:Int) (c:Int) l=((r:Int),(c:Int),Aef r c l,0):=by
 obtain ⟨h0,hR,hQ,aR,aQ⟩:=Ac3 r6 c6 hl al bA
 unfold J4
 rw [A8t (fun k=>k h0),show min (r:Int) (c:Int)=(c:Int) by omega,A79,A79,Aew (Dw r6 r6 hQ) (A81 r) hc]
 rfl
theorem Apw (r6:r≤6) (c6:c≤6) (q6:q≤6) (hm:m.length=r*q):D7 (r:Int) (c:Int) (Aef r c l) (r:Int) (q:Int) m=((c:Int),(q:Int),Gs r c q l m,0):=by
 have h1:Az (r:Int) (c:Int) (Aef r c l)=true:=Dw r6 c6 (Cf _ _ _)
 unfold D7
 rw [Apd h1]
 rw [A8t (fun k=>k rfl),Auo (Dw c6 r6 (Cf _ _ _)) (Dw r6 q6 hm)]
 rfl
theorem Wd {i b:Nat} (hi:i<c) (hb:b<c):cl c (E9 r c l) b i=cl c (H6 r c l) b i:=by
 unfold cl E9
 rw [Jx hi hb]
theorem Abc (r6:r≤6) (hc:c≤r) (al:Ak l=true) (bA:Bl 60 l):Bl 62 (E9 r c l):=fun x hx=>by
 unfold E9 C4 at hx
 obtain ⟨j,hj,rfl⟩:=List.mem_map.1 hx
 have hj:=List.mem_range.1 hj
 have h0:0<c:=by
  rcases Nat.eq_zero_or_pos c with h | h
  ·subst h; omega
  ·exact h
 have h1:j / c<c:=Nat.div_lt_of_lt_mul hj
 have h2:j%c<c:=Nat.mod_lt _ h0
 exact Aze r6 bA al (by omega) h2
theorem Ain {i k:Nat} (hi:i<c) (hk:k<q) :
 Cp (q:Int) (Gs r c q l m) (i:Int) (k:Int)=M5 ((List.range r).map fun j:Nat=>Cp (r:Int) (Jy r c l) (j:Int) (i:Int)) ((List.range r).map fun j:Nat=>Cp (q:Int) m (j:Int) (k:Int)):=by
 unfold Gs
 rw [Jx hi hk,Abx (Cf _ _ _) hi]
 have e1:(List.range r).map (fun k:Nat=>Cp (r:Int) (C4 c r fun i k=>Cp (c:Int) (Aef r c l) (k:Int) (i:Int)) (i:Int) (k:Int))=(List.range r).map fun j:Nat=>Cp (r:Int) (Jy r c l) (j:Int) (i:Int):=List.map_congr_left fun j hj=>by
  have hj:=List.mem_range.1 hj
  rw [Jx hi hj]
  unfold Aef
  rw [Jx hj hi]
 rw [e1]
 unfold Sn
 rw [A79]
theorem Agm {n j:Nat} {f:Nat→Int} (hj:j<n):rv ((List.range n).map f) j=vR (f j).toNat:=by
 unfold rv
 rw [A8h,A9o,List.getElem?_range hj]
 rfl
theorem Aim (r6:r≤6) (hc:c≤r) (al:Ak l=true) (bA:Bl 60 l) (bB:Bl 60 m) {i k:Nat} {B:Rat} (hi:i<c) (hk:k<q) (hB:Ln r (cl q m k) B) :
 Nr (cl q (Gs r c q l m) k i) (sm r fun j=>cl r (Jy r c l) i j*cl q m k j) (21*uR*((1+5000*uR)*B)+14*Cb)∧Bd 125 (Cp (q:Int) (Gs r c q l m) (i:Int) (k:Int)).toNat:=by
 obtain ⟨F,_,_,bQ,_⟩:=Aml (c:=c) r6 bA al
 have five:((5:Nat):Rat)=5:=rfl
 have q1:=F.q1 i (by omega)
 rw [five] at q1
 have l1:((List.range r).map fun j:Nat=>Cp (r:Int) (Jy r c l) (j:Int) (i:Int)).length=r:=by rw [A9d,A9a]
 have l2:((List.range r).map fun j:Nat=>Cp (q:Int) m (j:Int) (k:Int)).length=r:=by rw [A9d,A9a]
 have L1:Ln r (rv ((List.range r).map fun j:Nat=>Cp (r:Int) (Jy r c l) (j:Int) (i:Int))) (1+5000*uR):=(q1.congr fun j hj=>Agm hj).mono (by grind)
 have L2:Ln r (rv ((List.range r).map fun j:Nat=>Cp (q:Int) m (j:Int) (k:Int))) B:=hB.congr fun j hj=>Agm hj
 have b1:Bl 55 ((List.range r).map fun j:Nat=>Cp (r:Int) (Jy r c l) (j:Int) (i:Int)):=Y3 fun j=>Nt bQ
 have b2:Bl 60 ((List.range r).map fun j:Nat=>Cp (q:Int) m (j:Int) (k:Int)):=Y3 fun j=>Nt bB
 have h:=Aot (j:=55) (k:=60) (by decide) (l1.trans l2.symm) (by omega) b1 b2 (by rw [l1]; exact L1) (by rw [l1]; exact L2)
 have hb:=Ahm (j:=55) (k:=60) (by decide) b1 b2 (by omega)
 have e:=Ain (r:=r) (l:=l) (m:=m) hi hk
 rw [← e] at h hb
 rw [l1] at h
 rw [Bo r (g:=fun j=>cl r (Jy r c l) i j*cl q m k j) fun j hj=>by rw [Agm hj,Agm hj]; rfl] at h
 exact ⟨h,hb.mono (by decide)⟩
theorem Agf (r6:r≤6) (hc:c≤r) (al:Ak l=true) (bA:Bl 60 l) (bB:Bl 60 m) {i k:Nat} (hi:i<c) (hk:k<q):Bd 62 (Cp (q:Int) (Gs r c q l m) (i:Int) (k:Int)).toNat:=by
 obtain ⟨F,_,_,bQ,_⟩:=Aml (c:=c) r6 bA al
 have five:((5:Nat):Rat)=5:=rfl
 have t0:=D0 60
 have h1:Ln r (cl q m k) (3*tw 60):=Ln.Nz (Rat.le_of_lt t0) (fun i _=>Adl (Nt bB)) (by omega)
 obtain ⟨h2,h3⟩:=Aim r6 hc al bA bB hi hk h1
 have q1:=F.q1 i (by omega)
 have d:=q1.dot h1
 refine Akf h3.1 h3.2.1 ?_
 have e:tw ((62:Nat):Int)=4*tw 60:=by decide +kernel
 have u:(1+1000*uR*((5:Nat):Rat))*(3*tw 60)+(21*uR*((1+5000*uR)*(3*tw 60))+14*Cb)≤4*tw 60:=by decide +kernel
 rw [e]
 show Ab (cl q (Gs r c q l m) k i) _
 unfold Ab Nr at *
 grind
end
end Go.Cv
namespace Go.Cv
open Go.Den Go.Proofs.S1
section
variable {r c q:Nat} {l m:List Int}
theorem Azk (hr:0<r) (hc0:0<c) (r6:r≤6) (tA:TL 60 l) (fl:Ff (E9 r c l)=true) (hd:Xi (E1 (c:Int) (E9 r c l) c)=false):∀ i,i<c→Lo 100 (Cp (c:Int) (E9 r c l) (i:Int) (i:Int)).toNat:=by
 have k0:=Aok fl hd 0 hc0
 have e:Cp (c:Int) (E9 r c l) ((0:Nat):Int) ((0:Nat):Int)=Cp (c:Int) (H6 r c l) 0 0:=by
  unfold E9
  rw [Jx hc0 hc0]
  rfl
 rw [e] at k0
 have l0:=Amm (t:=60) (by decide) hr hc0 (by omega) tA k0
 rw [← e] at l0
 exact Azl (t:=60) (by decide) fl hc0 l0 hd
theorem Amd (r6:r≤6) (c6:c≤6) (q6:q≤6) (hc:c≤r) (hl:l.length=r*c) (hm:m.length=r*q) (al:Ak l=true) (bA:Bl 60 l) (tA:TL 60 l) (bB:Bl 60 m) :
 (Xi (E1 (c:Int) (E9 r c l) c)=true→Hh (r:Int) (c:Int) l (r:Int) (q:Int) m=N9 5) ∧
 (Xi (E1 (c:Int) (E9 r c l) c)=false→(∀ i,i<c→Lo 100 (Cp (c:Int) (E9 r c l) (i:Int) (i:Int)).toNat) ∧
  Hh (r:Int) (c:Int) l (r:Int) (q:Int) m=((c:Int),(q:Int),upG (c:Int) (E9 r c l) (q:Int) (Gs r c q l m) c q,0)∧Bl 990 (upG (c:Int) (E9 r c l) (q:Int) (Gs r c q l m) c q)):=by
 obtain ⟨h0,hR,hQ,aR,aQ⟩:=Ac3 r6 c6 hl al bA
 have bT:=Abc r6 hc al bA
 have fT:=bT.Np
 have cT:Cs (c:Int) (c:Int) (E9 r c l)=0:=Pm (Dw c6 c6 (Cf _ _ _)) fT
 have ef:(Pk (c:Int) (c:Int) (E9 r c l)).1=Xi (E1 (c:Int) (E9 r c l) c):=by
  rw [Ara cT]
  unfold Aha
  rw [A79,Nat.min_self]
 have start:Hh (r:Int) (c:Int) l (r:Int) (q:Int) m=if (Pk (O5 (r:Int) (c:Int) l).1 (O5 (r:Int) (c:Int) l).2.1 (O5 (r:Int) (c:Int) l).2.2.1).1=true then N9 5 else Asl (J4 (r:Int) (c:Int) l) (O5 (r:Int) (c:Int) l) (r:Int) (q:Int) m:=by
  unfold Hh
  rw [A8t (fun k=>k (Pm (Dw r6 c6 hl) bA.Np)),A8t (fun k=>k (Pm (Dw r6 q6 hm) bB.Np)),A8t (by omega),A8t (fun k=>k h0)]
 rw [Axr r6 c6 hc hl al bA,Axs r6 c6 hc hl al bA] at start
 dsimp only at start
 rw [ef] at start
 refine ⟨fun h=>by rw [start,A8u h],fun h=>?_⟩
 rw [h,A8t (by decide)] at start
 have dg:∀ i,i<c→Lo 100 (Cp (c:Int) (E9 r c l) (i:Int) (i:Int)).toNat:=fun i hi=>Azk (by omega) (by omega) r6 tA fT h i hi
 have sb:∀ i k:Nat,i<c→k<q→Bd 62 (Cp (q:Int) (Gs r c q l m) (i:Int) (k:Int)).toNat:=fun i k hi hk=>Agf r6 hc al bA bB hi hk
 have bS:Bl 62 (Gs r c q l m):=fun x hx=>by
  have hx':=hx
  unfold Gs C4 at hx'
  obtain ⟨j,hj,-⟩:=List.mem_map.1 hx'
  have hj:=List.mem_range.1 hj
  obtain ⟨i,hi,rfl⟩:=List.mem_iff_getElem.1 hx
  have len:(Gs r c q l m).length=c*q:=Cf _ _ _
  rw [len] at hi
  have hq:0<q:=by
   rcases Nat.eq_zero_or_pos q with h | h
   ·subst h; omega
   ·exact h
  have h1:i / q<c:=Nat.div_lt_of_lt_mul (by rw [A8v]; exact hi)
  have h2:i%q<q:=Nat.mod_lt _ hq
  have:=sb (i / q) (i%q) h1 h2
  unfold Cp at this
  have e:((i / q:Nat):Int)*(q:Int)+((i%q:Nat):Int)=(i:Int):=by
   have:=Nat.div_add_mod i q
   rw [A8v] at this
   rw [← A8s,← Int.natCast_add,this]
  rw [e,A79,A8h,A8o (by omega)] at this
  exact this
 have kt:Xs (c:Int) (c:Int) (E9 r c l) (c:Int) (q:Int) (Gs r c q l m)=0:=by
  unfold Xs
  rw [A8t (fun k=>k cT),A8t (fun k=>k (Pm (Dw c6 q6 (Cf _ _ _)) bS.Np)),A8t (by omega),A79,A8t]
  intro hn
  unfold An5 at hn
  obtain ⟨i,hi,hk⟩:=List.any_eq_true.1 hn
  exact Aok fT h i (List.mem_range.1 hi) (A8x hk)
 have bU:Bl 990 (upG (c:Int) (E9 r c l) (q:Int) (Gs r c q l m) c q):=fun x hx=>by
  unfold upG C4 at hx
  obtain ⟨j,hj,rfl⟩:=List.mem_map.1 hx
  have hj:=List.mem_range.1 hj
  have hq:0<q:=by
   rcases Nat.eq_zero_or_pos q with h | h
   ·subst h; omega
   ·exact h
  have h2:j%q<q:=Nat.mod_lt _ hq
  have ub:=Ah9 (c:=(c:Int)) (l:=E9 r c l) (b:=fun i=>Cp (q:Int) (Gs r c q l m) (i:Int) ((j%q:Nat):Int)) (n:=c) (p:=62) (t:=100) bT (fun i hi=>sb i _ hi h2) dg (by decide) c (A81 c) c6
  exact (R8 ub _).mono (by omega)
 refine ⟨dg,?_,bU⟩
 rw [start]
 unfold Asl
 dsimp only
 rw [Apw r6 c6 q6 hm,A8t (fun k=>k rfl)]
 dsimp only
 unfold upX
 rw [A8t (fun k=>k kt),A79,A79]
 unfold Vz
 rw [bU.Np,A8u rfl]
end
end Go.Cv
namespace Go.Cv
open Go.Den Go.Proofs.S1
theorem Fn.scaled {r c:Nat} {M:Nat→Nat→Rat} {s:Nat→Rat} {S k:Rat} (hk:0≤k) (h:∀ b,b<c→Ln r (M b) (k*s b)) (hS:0≤S) (hs:(sm c fun b=>s b*s b)≤S*S):Fn r c M (k*S):=by
 refine Fn.of (s:=fun b=>k*s b) h (Rat.mul_nonneg hk hS) ?_
 have e:(sm c fun b=>k*s b*(k*s b))=k*k*sm c fun b=>s b*s b:=by
  rw [← Gm]
  exact Bo c fun b _=>by grind
 rw [e]
 have:=Rat.mul_le_mul_of_nonneg_left hs (By k)
 grind
theorem Fn.front {r c d:Nat} {M:Nat→Nat→Rat} {S:Rat} (h:Fn (d+r) c M S):Fn d c M S:=by
 refine ⟨h.1,Rat.le_trans (S3 c fun b _=>?_) h.2⟩
 unfold sq
 rw [O7]
 have:=Qv (f:=fun m=>M b (d+m)*M b (d+m)) r fun m _=>By _
 grind
theorem Aua {u S x B v e:Rat} (hu:0≤u) (hS:0≤S) (hx:0≤x) (hB:0≤B) (v0:0≤v) (hv:v≤101 / 100) (he:0≤e) (he2:e≤u*B) :
 v*S*(30000*u*(v*S*x)+(18*u*(3*(2*B)+v*S*x)+e)+(3*(21*u*(v*B))+e)+3*v*(7000*u*S*x))+7000*u*S*(S*x+B)≤u*S*(60000*(S*x)+8000*B):=by
 have Y:=Rat.mul_nonneg hu (Rat.mul_nonneg (Rat.mul_nonneg hS hS) hx)
 have Z:=Rat.mul_nonneg hu (Rat.mul_nonneg hS hB)
 have vv:=Ee hv hv (by decide +kernel) v0
 have y1:=Rat.mul_le_mul_of_nonneg_right vv Y
 have z1:=Rat.mul_le_mul_of_nonneg_right hv Z
 have z2:=Rat.mul_le_mul_of_nonneg_right vv Z
 have w1:=Rat.mul_le_mul_of_nonneg_left he2 hS
 have w2:=Rat.mul_le_mul_of_nonneg_right hv (Rat.mul_nonneg hS he)
 grind
section
variable {r c q k:Nat} {l m:List Int} {s:Nat→Rat} {S B x:Rat}
theorem Amc (r6:r≤6) (c6:c≤6) (hc:c≤r) (hk:k<q) (al:Ak l=true) (bA:Bl 60 l) (bB:Bl 60 m)
 (dg:∀ i,i<c→Lo 100 (Cp (c:Int) (E9 r c l) (i:Int) (i:Int)).toNat)
 (hs9:∀ b,b<c→tw (-900)≤s b) (hs:∀ b,b<c→Ln r (cl c l b) (s b)) (hS:0≤S) (hSs:(sm c fun b=>s b*s b)≤S*S)
 (hB:Ln r (cl q m k) B) (hB8:tw (-800)≤B) (hx:Ln c (rv (Rf (c:Int) (E9 r c l) (fun i=>Cp (q:Int) (Gs r c q l m) (i:Int) (k:Int)) c c)) x) :
 Ln c (fun b=>sm r fun i=>cl c l b i*Hk c (cl c l) (rv (Rf (c:Int) (E9 r c l) (fun i=>Cp (q:Int) (Gs r c q l m) (i:Int) (k:Int)) c c)) (cl q m k) i) (uR*S*(60000*(S*x)+8000*B)):=by
 obtain ⟨F,hz,_,_,_⟩:=Aml (c:=c) r6 bA al
 have five:((5:Nat):Rat)=5:=rfl
 have u0:=Rat.le_of_lt Fa
 have us:=Hi
 have e0:=Rat.le_of_lt Ex
 have B0:=hB.1
 have bT:=Abc r6 hc al bA
 have q1:=F.q1
 have q2:=F.q2
 have f1:=fun b hb=>F.f1 b (s b) hb (hs9 b hb) (hs b hb)
 have f2:=fun b hb=>F.f2 b (s b) hb (hs9 b hb) (hs b hb)
 rw [five] at q1 q2 f1 f2
 have v0:(0:Rat)≤1+5000*uR:=by grind
 have hM:Fn r c (cl c l) S:=Fn.of hs hS hSs
 have hE:Fn r c (Xa r (cl c l) (cl c (H6 r c l)) (cl r (Jy r c l))) (7000*uR*S):=Fn.scaled (by grind) (fun b hb=>(f2 b hb).mono (by grind)) hS hSs
 have hR:Fn r c (cl c (H6 r c l)) ((1+5000*uR)*S):=Fn.scaled v0 (fun b hb=>(f1 b hb).mono (by grind)) hS hSs
 have hT:Fn c c (cl c (E9 r c l)) ((1+5000*uR)*S):=by
  obtain ⟨d,hd⟩:∃ d,r=c+d:=⟨r-c,by omega⟩
  have h1:Fn (c+d) c (cl c (H6 r c l)) ((1+5000*uR)*S):=by rw [← hd]; exact hR
  exact h1.front.congr fun b i hb hi=>Wd hi hb
 have sv:=fun i (hi:i<c)=>Aim (k:=k) (l:=l) r6 hc al bA bB hi hk hB
 have ee:42*Cb≤3*((12+tw 62)*Cb):=by decide +kernel
 have eb:3*((12+tw 62)*Cb)≤uR*B:=by
  have h1:3*((12+tw 62)*Cb)≤uR*tw (-800):=by decide +kernel
  exact Rat.le_trans h1 (I2 hB8)
 have he:Ln c (fun i=>cl q (Gs r c q l m) k i-sm r fun j=>cl r (Jy r c l) i j*cl q m k j) (3*(21*uR*((1+5000*uR)*B))+3*((12+tw 62)*Cb)):=by
  refine (Ln.Nz (B:=21*uR*((1+5000*uR)*B)+14*Cb) ?_ (fun i hi=>?_) (by omega)).mono (by grind)
  ·have:=Rat.mul_nonneg u0 (Rat.mul_nonneg v0 B0); grind
  ·have:=(sv i hi).1
   unfold Nr at this; unfold Ab; grind
 have hcl:Ln c (fun i=>vR (Cp (q:Int) (Gs r c q l m) (i:Int) (k:Int)).toNat) (3*(2*B)):=by
  refine Ln.Nz (by grind) (fun i hi=>?_) (by omega)
  have h1:=(sv i hi).1
  have h2:=(q1 i (by omega)).dot hB
  have h3:(1+1000*uR*5)*B+(21*uR*((1+5000*uR)*B)+14*Cb)≤2*B:=by
   have g1:=Rat.mul_le_mul_of_nonneg_right us B0
   have g2:=Ee us g1 (by decide +kernel) (Rat.mul_nonneg u0 B0)
   grind
  show Ab (cl q (Gs r c q l m) k i) _
  unfold Ab Nr at *
  grind
 have hzT:∀ m i:Nat,m<i→i<c→cl c (E9 r c l) m i=0:=fun m i hm hi=>by
  rw [Wd hi (by omega)]
  exact hz m i (by omega) hm (by omega)
 have hp:=A0t (c:=c) (n:=c) (p:=62) (t:=100) (b:=fun i=>Cp (q:Int) (Gs r c q l m) (i:Int) (k:Int)) c6 bT (fun i hi=>Agf r6 hc al bA bB hi hk) dg (by decide) hzT hT hx hcl
 have x0:=hx.1
 generalize rv (Rf (c:Int) (E9 r c l) (fun i=>Cp (q:Int) (Gs r c q l m) (i:Int) (k:Int)) c c)=X at *
 have hp':Ln c (fun i=>(sm c fun m=>cl c (H6 r c l) m i*X m)-cl q (Gs r c q l m) k i) (18*uR*(3*(2*B)+(1+5000*uR)*S*x)+3*((12+tw 62)*Cb)):=by
  refine hp.congr fun i hi=>?_
  rw [Bo c (f:=fun m=>cl c (H6 r c l) m i*X m) (g:=fun m=>cl c (E9 r c l) m i*X m) fun m hm=>by rw [Wd hi hm]]
  rfl
 have h:=Avj c6 hc hM hE hR hz (fun m hm=>(q1 m hm).mono (by grind)) (fun a m ha hm=>Rat.le_trans (q2 a m ha hm) (by grind)) hx hB hp' he
 refine h.mono ?_
 have pe:0≤3*((12+tw 62)*Cb):=Rat.le_trans (by grind) ee
 exact Aua u0 hS x0 B0 v0 (by grind) pe eb
end
end Go.Cv
namespace Go.Cv
open Go.Den Go.Proofs.S1
theorem Aff {j k:Nat} (hjk:j+k≤1000):∀ (x y:List Int) (s t:Nat),x.length=y.length→Bl j x→Bl k y→Bm t (j+k) s→0<t→t+x.length≤1000→vR s=0→(∀ z∈y,vR z.toNat=0)→vR (U0 s x y)=0
 | [],[],s,t,_,_,_,_,_,_,h,_=>h
 | [],_::_,_,_,hl,_,_,_,_,_,_,_=>by simp at hl
 | _::_,[],_,_,hl,_,_,_,_,_,_,_=>by simp at hl
 | a::x,b::y,s,t,hl,hx,hy,hs,h0,ht,h,hz=>by
   simp only [List.length_cons] at ht hl
   have ba:=hx a A9m
   have bb:=hy b A9m
   have b2:=Bd.mul (show j+k≤1023 by omega) ba bb
   have b3:=Bm.add (k:=j+k) (by omega) (by omega) hjk hs b2.bm
   have m0:=Ae1 ba.1 ba.2.1 bb.1 bb.2.1 b2.1 (by rw [hz b A9m]; grind)
   have e0:vR s+vR (Hc a.toNat b.toNat).1=0:=by rw [h,m0]; grind
   have m2:=Aa5 hs.1 hs.2.1 b2.1 b2.2.1 b3.1 (B:=0) (by rw [e0]; exact Aa7)
   rw [e0] at m2
   exact Aff hjk x y _ (t+1) (by omega) (fun z hz=>hx z (A9c _ hz)) (fun z hz=>hy z (A9c _ hz)) b3 (by omega) (by omega) (An4 m2) (fun z h=>hz z (A9c _ h))
theorem Lo.lower {t a:Nat} (h:Lo t a):tw (-(t:Int))≤av (vR a):=by
 have h1:=Auz h.m0
 have h2:=Rat.mul_le_mul_of_nonneg_right h1 (Rat.le_of_lt (D0 (Av a)))
 rw [← E3] at h2
 have h3:=Aea h.log
 have h4:av (vR a)=((An a:Nat):Rat)*tw (Av a):=by
  unfold vR
  rw [D9,D9,Rb (Mu _),Rb (Rat.le_of_lt (D0 _))]
  have:av (Qt (Bp a))=1:=by cases Bp a<;>decide +kernel
  rw [this]; grind
 rw [h4]
 exact Rat.le_trans h3 h2
section
variable {r c q k:Nat} {l m:List Int}
theorem Apu (r6:r≤6) (al:Ak l=true) (bA:Bl 60 l) (bB:Bl 60 m) (hk:k<q) (hz:∀ j,j<r→cl q m k j=0) {i:Nat} (hi:i<c):vR (Cp (q:Int) (Gs r c q l m) (i:Int) (k:Int)).toNat=0:=by
 obtain ⟨F,_,_,bQ,_⟩:=Aml (c:=c) r6 bA al
 rw [Ain hi hk]
 have l1:((List.range r).map fun j:Nat=>Cp (r:Int) (Jy r c l) (j:Int) (i:Int)).length=r:=by rw [A9d,A9a]
 have l2:((List.range r).map fun j:Nat=>Cp (q:Int) m (j:Int) (k:Int)).length=r:=by rw [A9d,A9a]
 have e:(M5 ((List.range r).map fun j:Nat=>Cp (r:Int) (Jy r c l) (j:Int) (i:Int)) ((List.range r).map fun j:Nat=>Cp (q:Int) m (j:Int) (k:Int))).toNat=U0 0 ((List.range r).map fun j:Nat=>Cp (r:Int) (Jy r c l) (j:Int) (i:Int)) ((List.range r).map fun j:Nat=>Cp (q:Int) m (j:Int) (k:Int)):=A79 _
 rw [e]
 exact Aff (j:=55) (k:=60) (by decide) _ _ 0 1 (l1.trans l2.symm) (Y3 fun j=>Nt bQ) (Y3 fun j=>Nt bB) (Bd.zero false (55+60)).bm (by decide) (by omega) (Jo false) fun z hz'=>by
  obtain ⟨j,hj,rfl⟩:=List.mem_map.1 hz'
  exact hz j (List.mem_range.1 hj)
def Xq (r c q:Nat) (l m:List Int) (k i:Nat):Rat:=rv (Rf (c:Int) (E9 r c l) (fun i=>Cp (q:Int) (Gs r c q l m) (i:Int) (k:Int)) c c) i
theorem Ari (r6:r≤6) (c6:c≤6) (hc:c≤r) (al:Ak l=true) (bA:Bl 60 l) (bB:Bl 60 m) (hk:k<q)
 (dg:∀ i,i<c→Lo 100 (Cp (c:Int) (E9 r c l) (i:Int) (i:Int)).toNat) (hz:∀ j,j<r→cl q m k j=0) (i:Nat):Xq r c q l m k i=0:=by
 have bT:=Abc r6 hc al bA
 have h:=Anc (c:=(c:Int)) (l:=E9 r c l) (b:=fun i=>Cp (q:Int) (Gs r c q l m) (i:Int) (k:Int)) (n:=c) (p:=62) (t:=100) bT (fun i hi=>Agf r6 hc al bA bB hi hk) dg (by decide) (fun i hi=>Apu r6 al bA bB hk hz hi) c (A81 c) c6
 unfold Xq rv
 by_cases hi:i<(Rf (c:Int) (E9 r c l) (fun i=>Cp (q:Int) (Gs r c q l m) (i:Int) (k:Int)) c c).length
 ·rw [A8h,A8o hi]
  exact h _ (List.getElem_mem hi)
 ·rw [A8h,A9p (by omega)]
  exact Jo false
theorem Azp (hk:k<q) {i:Nat} (hi:i<c):cl q (upG (c:Int) (E9 r c l) (q:Int) (Gs r c q l m) c q) k i=Xq r c q l m k i:=by
 unfold cl upG
 rw [Jx hi hk]
 rfl
end
theorem roots {r:Nat} (f:Nat→Rat):∃ s,tw (-900)≤s∧Ln r f s∧s*s≤103 / 100*(sq r f+tw (-1800)):=by
 have t0:=D0 (-1800)
 have q0:=Nf r f
 obtain ⟨s,s0,h1,h2⟩:=Aeq (q:=sq r f+tw (-1800)) (by grind)
 refine ⟨s,Ph (Rat.le_of_lt s0) ?_,⟨Rat.le_of_lt s0,by grind⟩,h2⟩
 rw [← E3]
 have e:(-900:Int)+-900=-1800:=rfl
 rw [e]
 grind
theorem Arm {n:Nat} {P:Nat→Rat→Prop} (h:∀ b,b<n→∃ s,P b s):∃ s:Nat→Rat,∀ b,b<n→P b (s b) :=
 ⟨fun b=>if hb:b<n then Classical.choose (h b hb) else 0,fun b hb=>by
  dsimp only
  rw [dif_pos hb]
  exact Classical.choose_spec (h b hb)⟩
end Go.Cv
namespace Go.Cv
open Go.Den Go.Proofs.S1
theorem A1z {u S x B A X2 B2 G t:Rat} (hu2:u*u=tw (-106)) (hA:0≤A) (hX:0≤X2) (hS:S*S≤107 / 100*A) (hx:x*x≤103 / 100*(X2+t)) (hB:B*B≤103 / 100*(B2+t))
 (h1:A*t≤B2) (h2:t≤B2) (ht:0≤t) (hG:G≤(u*S*(60000*(S*x)+8000*B))*(u*S*(60000*(S*x)+8000*B))):G≤tw (-70)*(A*(A*X2+B2)):=by
 have W:=Rat.mul_nonneg hA hX
 have a1:=Ee hS hx (Rat.mul_nonneg (by decide +kernel) hA) (By x)
 have a2:S*S*(x*x)≤12 / 10*(A*X2+B2):=by grind
 have a3:B*B≤3*B2:=by grind
 have d:=By (60000*(S*x)-8000*B)
 have a4:(60000*(S*x)+8000*B)*(60000*(S*x)+8000*B)≤10000000000*(A*X2+B2):=by grind
 have a5:=Ee hS a4 (Rat.mul_nonneg (by decide +kernel) hA) (By _)
 have a6:=Rat.mul_le_mul_of_nonneg_left a5 (Rat.le_of_lt (D0 (-106)))
 rw [← hu2] at a6
 have e:(u*S*(60000*(S*x)+8000*B))*(u*S*(60000*(S*x)+8000*B))=u*u*(S*S*((60000*(S*x)+8000*B)*(60000*(S*x)+8000*B))):=by grind
 have n:tw (-106)*(107 / 100*10000000000)≤tw (-70):=by decide +kernel
 have a7:=Rat.mul_le_mul_of_nonneg_right n (show 0≤A*(A*X2+B2) from Rat.mul_nonneg hA (by grind))
 have e2:u*u*(107 / 100*A*(10000000000*(A*X2+B2)))=tw (-106)*(107 / 100*10000000000)*(A*(A*X2+B2)):=by rw [hu2]; grind
 rw [e2,← e] at a6
 exact Rat.le_trans hG (Rat.le_trans a6 a7)
theorem A46 {Q T A t w:Rat} (h1:Q≤103 / 100*(T+t)) (h2:T≤103 / 100*(A+6*t)) (h3:1000*t≤w) (h4:w≤A) (ht:0≤t):Q≤107 / 100*A:=by grind
theorem A45 {a q A t w y:Rat} (h:a*a≤101 / 100*y*(101 / 100*y)) (h2:y*y≤103 / 100*(q+t)) (h3:q≤A) (n:w+t≤a*a*(8 / 10)) (ht:0≤t) (hq:0≤q):w≤A:=by grind
section
variable {r c q k:Nat} {l m:List Int}
def Io (r c:Nat) (l:List Int):Rat:=sm c fun b=>sq r (cl c l b)
theorem Ate (r c:Nat) (l:List Int):0≤Io r c l:=Qv c fun _ _=>Nf _ _
theorem Atd (r6:r≤6) (c6:c≤6) (bA:Bl 60 l):Io r c l≤tw 126:=by
 have t0:=Rat.le_of_lt (D0 60)
 have h:Fn r c (cl c l) (6*tw 60):=Fn.Nz t0 (fun b i _ _=>Adl (Nt bA)) c6 r6
 refine Rat.le_trans h.2 ?_
 decide +kernel
theorem Adx (r6:r≤6) (c6:c≤6) (hc:c≤r) (hk:k<q) (al:Ak l=true) (bA:Bl 60 l) (bB:Bl 60 m) (tB:TL 60 m)
 (dg:∀ i,i<c→Lo 100 (Cp (c:Int) (E9 r c l) (i:Int) (i:Int)).toNat) :
 sq c (fun b=>sm r fun i=>cl c l b i*Hk c (cl c l) (Xq r c q l m k) (cl q m k) i)≤tw (-70)*(Io r c l*(Io r c l*sq c (Xq r c q l m k)+sq r (cl q m k))):=by
 have A0:=Ate r c l
 have X0:=Nf c (Xq r c q l m k)
 have B0:=Nf r (cl q m k)
 have R0:0≤tw (-70)*(Io r c l*(Io r c l*sq c (Xq r c q l m k)+sq r (cl q m k))) :=
  Rat.mul_nonneg (Rat.le_of_lt (D0 _)) (Rat.mul_nonneg A0 (by have:=Rat.mul_nonneg A0 X0; grind))
 by_cases c0:c=0
 ·subst c0; exact R0
 by_cases hz:∀ j,j<r→cl q m k j=0
 ·refine Rat.le_trans ?_ R0
  have xz:=Ari r6 c6 hc al bA bB hk dg hz
  have g:∀ b,(sm r fun i=>cl c l b i*Hk c (cl c l) (Xq r c q l m k) (cl q m k) i)=0:=fun b=>by
   rw [Bo r (g:=fun _=>0) fun i hi=>?_]
   ·exact I4 r
   ·unfold Hk
    rw [hz i hi,Bo c (g:=fun _=>0) fun j _=>by rw [xz]; grind]
    rw [I4]; grind
  unfold sq
  rw [Bo c (g:=fun _=>0) fun b _=>by
   dsimp only
   rw [g]; grind]
  rw [I4]; exact Rat.le_refl
 ·obtain ⟨j,hj⟩:=Classical.not_forall.1 hz
  obtain ⟨hj,hb⟩:j<r∧cl q m k j≠0:=by
   rcases A84 j r with h | h
   ·exact ⟨h,fun e=>hj fun _=>e⟩
   ·exact absurd (fun h2=>by omega) hj
  have t0:=D0 (-1800)
  obtain ⟨s,hs⟩:=Arm (n:=c) (P:=fun b s=>tw (-900)≤s∧Ln r (cl c l b) s∧s*s≤103 / 100*(sq r (cl c l b)+tw (-1800))) fun b _=>roots (cl c l b)
  have S0:0≤sm c fun b=>s b*s b:=Qv c fun b _=>By _
  obtain ⟨S,Sp,S1,S2⟩:=Aeq (q:=(sm c fun b=>s b*s b)+tw (-1800)) (by grind)
  obtain ⟨x,-,hx,x2⟩:=roots (r:=c) (Xq r c q l m k)
  obtain ⟨B,-,hB,hB2⟩:=roots (r:=r) (cl q m k)
  have hss:(sm c fun b=>s b*s b)≤103 / 100*(Io r c l+6*tw (-1800)):=by
   have h1:=S3 (f:=fun b=>s b*s b) (g:=fun b=>103 / 100*(sq r (cl c l b)+tw (-1800))) c fun b hb=>(hs b hb).2.2
   rw [Gm,Ho,O8] at h1
   have h2:=Rat.mul_le_mul_of_nonneg_right (C0 c6) (Rat.le_of_lt t0)
   have e6:((6:Nat):Rat)=6:=rfl
   rw [e6] at h2
   have e7:(sm c fun i=>sq r (cl c l i))=Io r c l:=rfl
   rw [e7] at h1
   grind
  have hbl:tw (-60)≤av (cl q m k j):=by
   have k0:A7 (Cp (q:Int) m (j:Int) (k:Int))≠0:=fun e=>hb (Sv (by unfold A7 at e; omega))
   exact (tB _ (at_mem k0) k0).lower
  have hB0:tw (-120)≤sq r (cl q m k):=by
   have h1:=Aag (f:=fun i=>cl q m k i*cl q m k i) hj fun i _=>By _
   have h2:=Ee hbl hbl (Eo _) (Rat.le_of_lt (D0 _))
   rw [← E3,Lh] at h2
   exact Rat.le_trans h2 h1
  have hA0:tw (-204)≤Io r c l:=by
   have h0:0<c:=by omega
   have h1:=(dg 0 h0).lower
   obtain ⟨F,_⟩:=Aml (c:=c) r6 bA al
   obtain ⟨a1,a2,a3⟩:=hs 0 h0
   have h2:=Li ((F.f1 0 (s 0) h0 a1 a2).at (show 0<r by omega))
   have h3:av (cl c (H6 r c l) 0 0)=av (vR (Cp (c:Int) (E9 r c l) ((0:Nat):Int) ((0:Nat):Int)).toNat):=by
    rw [← Wd h0 h0]; rfl
   rw [h3] at h2
   have h4:(1+1000*uR*((5:Nat):Rat))≤101 / 100:=by decide +kernel
   have h5:=Rat.mul_le_mul_of_nonneg_right h4 a2.1
   have h6:tw (-100)≤101 / 100*s 0:=Rat.le_trans h1 (Rat.le_trans h2 h5)
   have h7:=Ee h6 h6 (Rat.le_trans (Rat.le_of_lt (D0 _)) h6) (Rat.le_of_lt (D0 _))
   have h8:=Aag (f:=fun b=>sq r (cl c l b)) h0 fun b _=>Nf r (cl c l b)
   have h9:sq r (cl c l 0)≤Io r c l:=h8
   have n:tw (-204)+tw (-1800)≤tw (-100)*tw (-100)*(8 / 10):=by decide +kernel
   exact A45 h7 a3 h9 n (Rat.le_of_lt t0) (Nf _ _)
  have hA1:=Atd r6 c6 bA
  have hS:S*S≤107 / 100*Io r c l:=by
   have n:1000*tw (-1800)≤tw (-204):=by decide +kernel
   exact A46 S2 hss n hA0 (Rat.le_of_lt t0)
  have hSs:(sm c fun b=>s b*s b)≤S*S:=by
   clear hS hA1 hA0 hB0 hbl hss hs hx x2 hB hB2 hb
   grind
  have hAt:Io r c l*tw (-1800)≤sq r (cl q m k):=by
   have h1:=Rat.mul_le_mul_of_nonneg_right hA1 (Rat.le_of_lt t0)
   have n:tw 126*tw (-1800)≤tw (-120):=by decide +kernel
   exact Rat.le_trans h1 (Rat.le_trans n hB0)
  have ht:tw (-1800)≤sq r (cl q m k):=Rat.le_trans (Aea (by decide)) hB0
  have hB8:tw (-800)≤B:=by
   refine Ph hB.1 ?_
   rw [← E3]
   exact Rat.le_trans (Aea (by decide)) (Rat.le_trans hB0 hB.2)
  have h:=Amc r6 c6 hc hk al bA bB dg (fun b hb=>(hs b hb).1) (fun b hb=>(hs b hb).2.1) (Rat.le_of_lt Sp) hSs hB hB8 hx
  have hu:uR*uR=tw (-106):=by decide +kernel
  exact A1z hu A0 X0 hS x2 hB2 hAt ht (Rat.le_of_lt t0) h.2
end
end Go.Cv
namespace Go.Cv
open Go.Den Go.Proofs.S1
theorem Ann (c:Nat) (f:Nat→Rat):∀ r,sm (r*c) f=sm r fun i=>sm c fun j=>f (i*c+j)
 | 0=>by rw [Nat.zero_mul]; rfl
 | r+1=>by
   rw [Nat.succ_mul,O7,Ann c f r]
   rfl
theorem Agb {r c:Nat} {l:List Int} (hl:l.length=r*c):I3 l=Io r c l:=by
 unfold I3 Io sq
 rw [S4,hl,Ann,Aah]
 refine Bo c fun b _=>Bo r fun i _=>?_
 unfold cl Ek
 rw [Qd]
theorem Avk (r c q:Nat) (l X h:List Int):Oa r c q l X h=sm q fun k=>sq c fun b=>sm r fun i=>cl c l b i*Hk c (cl c l) (cl q X k) (cl q h k) i:=by
 unfold Oa sq lkQ Hk
 simp only [S4]
 rfl
theorem Ajy {r c q:Nat} {l m:List Int} (r6:r≤6) (c6:c≤6) (hc:c≤r) (hl:l.length=r*c) (hm:m.length=r*q) (al:Ak l=true) (bA:Bl 60 l) (bB:Bl 60 m) (tB:TL 60 m)
 (dg:∀ i,i<c→Lo 100 (Cp (c:Int) (E9 r c l) (i:Int) (i:Int)).toNat) :
 Oa r c q l (upG (c:Int) (E9 r c l) (q:Int) (Gs r c q l m) c q) m≤I3 l*(I3 l*I3 (upG (c:Int) (E9 r c l) (q:Int) (Gs r c q l m) c q)+I3 m)*tw (-70)+tw (-4000):=by
 have lX:(upG (c:Int) (E9 r c l) (q:Int) (Gs r c q l m) c q).length=c*q:=Cf _ _ _
 rw [Avk,Agb hl,Agb hm,Agb lX]
 generalize hX:upG (c:Int) (E9 r c l) (q:Int) (Gs r c q l m) c q=X
 have hx:∀ k i,k<q→i<c→cl q X k i=Xq r c q l m k i:=fun k i hk hi=>by rw [← hX]; exact Azp hk hi
 have h:=S3 (f:=fun k=>sq c fun b=>sm r fun i=>cl c l b i*Hk c (cl c l) (cl q X k) (cl q m k) i) (g:=fun k=>tw (-70)*(Io r c l*(Io r c l*sq c (cl q X k)+sq r (cl q m k)))) q fun k hk=>by
  have h1:=Adx r6 c6 hc hk al bA bB tB dg
  have e1:(sq c fun b=>sm r fun i=>cl c l b i*Hk c (cl c l) (cl q X k) (cl q m k) i)=sq c fun b=>sm r fun i=>cl c l b i*Hk c (cl c l) (Xq r c q l m k) (cl q m k) i:=by
   unfold sq
   refine Bo c fun b _=>?_
   have:(sm r fun i=>cl c l b i*Hk c (cl c l) (cl q X k) (cl q m k) i)=sm r fun i=>cl c l b i*Hk c (cl c l) (Xq r c q l m k) (cl q m k) i:=Bo r fun i _=>by
    unfold Hk
    rw [Bo c (f:=fun j=>cl c l j i*cl q X k j) (g:=fun j=>cl c l j i*Xq r c q l m k j) fun j hj=>by rw [hx k j hk hj]]
   exact congrArg (fun z=>z*z) this
  have e2:sq c (cl q X k)=sq c (Xq r c q l m k):=by
   unfold sq
   exact Bo c fun j hj=>by rw [hx k j hk hj]
  exact (show (sq c fun b=>sm r fun i=>cl c l b i*Hk c (cl c l) (cl q X k) (cl q m k) i)≤tw (-70)*(Io r c l*(Io r c l*sq c (cl q X k)+sq r (cl q m k))) by
   rw [e1,e2]
   exact h1)
 have e:(sm q fun k=>tw (-70)*(Io r c l*(Io r c l*sq c (cl q X k)+sq r (cl q m k))))=Io r c l*(Io r c l*Io c q X+Io r q m)*tw (-70):=by
  unfold Io
  rw [Gm,Gm,Ho,Gm]; grind
 rw [e] at h
 have:=D0 (-4000)
 grind
end Go.Cv
namespace Go.Cv
open Go.Den Go.Proofs.S1
structure Tm (r c:Nat) (l:List Int):Prop where
 r6:r≤6
 c6:c≤6
 len:l.length=r*c
 words:Ak l=true
 most:Bl 60 l
 least:TL 60 l
theorem Amb {r c p q:Nat} {l m:List Int} (A:Tm r c l) (B:Tm p q m) :
 Hh (r:Int) (c:Int) l (p:Int) (q:Int) m=N9 3∨Hh (r:Int) (c:Int) l (p:Int) (q:Int) m=N9 5 ∨
 ∃ X,c≤r∧p=r∧Hh (r:Int) (c:Int) l (p:Int) (q:Int) m=((c:Int),(q:Int),X,0)∧X.length=c*q∧Bl 990 X ∧
  Oa r c q l X m≤I3 l*(I3 l*I3 X+I3 m)*tw (-70)+tw (-4000):=by
 by_cases hs:(r:Int)<(c:Int)∨(r:Int)≠(p:Int)
 ·refine .inl ?_
  unfold Hh
  rw [A8t (fun k=>k (Pm (Dw A.r6 A.c6 A.len) A.most.Np)),A8t (fun k=>k (Pm (Dw B.r6 B.c6 B.len) B.most.Np)),A8u hs]
 ·obtain rfl:p=r:=by omega
  have hc:c≤p:=by omega
  obtain ⟨h1,h2⟩:=Amd A.r6 A.c6 B.c6 hc A.len B.len A.words A.most A.least B.most
  cases hf:Xi (E1 (c:Int) (E9 p c l) c) with
  | true=>exact .inr (.inl (h1 hf))
  | false =>
    obtain ⟨dg,e,b⟩:=h2 hf
    exact .inr (.inr ⟨_,hc,rfl,e,Cf _ _ _,b,Ajy A.r6 A.c6 hc A.len B.len A.words A.most B.most B.least dg⟩)
end Go.Cv
namespace Go.Proofs.S1
open Go Go.Den Go.Cv Go.Proofs
set_option maxRecDepth 100000
namespace EqLaw17P
end EqLaw17P
open Go Go.Den Go.Cv Go.Proofs
open EqLaw17P
section
variable {x a b:List Int} (h1:a.length≤36) (h2:x.length≤36) (h3:b.length≤36)
include h1 h2 h3
theorem Au0:Dq (I3 a)∧Dq (I3 x)∧Dq (I3 b)∧Dq (I3 a*I3 x)∧Dq (I3 a*I3 x+I3 b)∧Ds (I3 a*(I3 a*I3 x+I3 b)):=by
 have A:=Dg.sq (x:=a) (by omega)
 have X:=Dg.sq (x:=x) (by omega)
 have B:=Dg.sq (x:=b) (by omega)
 have AX:=A.mul X
 have B':=(B.up 2148).wide (s:=8400) (by decide)
 have S:=AX.add B'
 have T:=A.mul S
 exact ⟨A.dq (by decide) (by decide) (by decide),X.dq (by decide) (by decide) (by decide),B.dq (by decide) (by decide) (by decide),AX.dq (by decide) (by decide) (by decide),S.dq (by decide) (by decide) (by decide),T.ds (by decide) (by decide) (by decide)⟩
end
end Go.Proofs.S1
namespace Go.Cv
open Go.Den Go.Proofs.S1
theorem Lo.mul {s t a b:Nat} (hk:s+t≤1000) (ha:Lo s a) (hb:Lo t b) (k3:Aj (Hc a b).1≠3):Lo (s+t) (Hc a b).1:=by
 have a4:=ha.k4
 have b4:=hb.k4
 have a3:=ha.k3
 have b3:=hb.k3
 unfold Hc at k3 ⊢
 rw [A8t (by omega),A8t (by omega)] at k3 ⊢
 have h1:=A83 (Nat.log2_self_le ha.m0) (Nat.log2_self_le hb.m0)
 rw [← A8w] at h1
 have l1:=ha.log
 have l2:=hb.log
 exact .Rr _ hk h1 (by omega) k3
theorem Aib {x:Int} {h:List Int} (hx:Bd 20 x.toNat) (hx0:A7 x≠0→Lo 20 x.toNat) (b:Bl 20 h) (t:TL 20 h):Bl 40 (Ci x h)∧TL 40 (Ci x h):=by
 have bd:∀ y∈h,Bd 40 (Hc x.toNat y.toNat).1:=fun y hy=>(Bd.mul (j:=20) (k:=20) (by decide) hx (b y hy)).mono (by decide)
 refine ⟨fun z hz=>?_,fun z hz k0=>?_⟩
 ·obtain ⟨y,hy,rfl⟩:=List.mem_map.1 hz
  rw [I5]; exact bd y hy
 ·obtain ⟨y,hy,rfl⟩:=List.mem_map.1 hz
  have bz:=bd y hy
  have hy0:=b y hy
  rw [I5]
  have nz:Aj x.toNat≠0∧Aj y.toNat≠0:=by
   refine Classical.byContradiction fun k=>?_
   have hz:An x.toNat=0∨An y.toNat=0:=by
    by_cases kx:Aj x.toNat=0
    ·exact .inl ((Da hx.1 hx.2.1).2 kx)
    ·refine .inr ((Da hy0.1 hy0.2.1).2 ?_)
     exact Classical.byContradiction fun ky=>k ⟨kx,ky⟩
   have hp:An x.toNat*An y.toNat=0:=by
    rcases hz with hz | hz<;>rw [hz]
    ·exact Nat.zero_mul _
    ·exact Nat.mul_zero _
   have h4:=hx.2.1
   have h3:=hx.1
   have g4:=hy0.2.1
   have g3:=hy0.1
   have e0:Aj (Hc x.toNat y.toNat).1=0:=by
    unfold Hc
    rw [A8t (by omega),A8t (by omega),hp]
    have:B1 0 (Av x.toNat+Av y.toNat)=0:=by unfold B1; rw [A8u rfl]
    rw [this]
    have z:∀ s:Bool,Aj (Bx s 0)=0:=by decide
    exact z _
   rw [← I5] at e0
   unfold A7 at k0
   omega
  exact Lo.mul (by decide) (hx0 (fun k=>nz.1 (by unfold A7 at k; omega))) (t y hy (fun k=>nz.2 (by unfold A7 at k; omega))) bz.1
theorem Ax0 (a b:List Int):I3 (a++b)=I3 a+I3 b:=by
 unfold I3
 rw [S4,S4,S4,A8z,O7]
 congr 1
 ·exact Bo _ fun i hi=>by rw [A8h,A8h,List.getElem?_append_left hi]
 ·exact Bo _ fun i hi=>by rw [A8h,A8h,A9l (by omega),Nat.add_sub_cancel_left]
theorem Ar6:Ek 0=0:=Jo false
theorem Aij (n:Nat):I3 (List.replicate n 0)=0:=by
 unfold I3
 rw [S4,Bo _ (g:=fun _=>0) fun i hi=>?_]
 ·exact I4 _
 ·rw [List.length_replicate] at hi
  rw [A8h,List.getElem?_replicate,A8u hi]
  show Ek 0*Ek 0=0
  rw [Ar6]; grind
theorem Awl {k:Nat} {a b:List Int} (h:Bl k a) (g:Bl k b):Bl k (a++b):=fun x hx=>(List.mem_append.1 hx).elim (h x) (g x)
theorem As2 {k:Nat} {a b:List Int} (h:TL k a) (g:TL k b):TL k (a++b):=fun x hx=>(List.mem_append.1 hx).elim (h x) (g x)
theorem Am2 (k n:Nat):Bl k (List.replicate n 0):=fun x hx=>by rw [(List.mem_replicate.1 hx).2]; exact Wa k
theorem Akx (k n:Nat):TL k (List.replicate n 0):=fun x hx k0=>by rw [(List.mem_replicate.1 hx).2] at k0; exact absurd (by decide) k0
theorem Xy {a b:List Int} (h:Ak a=true) (g:Ak b=true):Ak (a++b)=true:=Ao.2 fun y hy=>(List.mem_append.1 hy).elim (Ao.1 h y) (Ao.1 g y)
theorem Alk {r c p q u v:Int} {l m h:List Int} {x:Int} (hr:Az r c l=true) (hr2:Az p q m=true) (hr3:Az u v h=true) (al:Ak l=true) (am:Ak m=true) (t1:Ec l 20=true) (t2:Ec m 20=true) (t3:Ec h 20=true) (tx:Ec [x] 20=true) :
 C3 r c l p q m u v h x=N9 3∨C3 r c l p q m u v h x=N9 5 ∨
 ∃ R C U:Nat,∃ X,r=R∧c=C∧p=R∧q=1∧u=U∧v=C∧R+U≤6∧C≤6∧C≤R+U∧l.length=R*C∧m.length=R*1∧h.length=U*C∧C3 r c l p q m u v h x=((C:Int),1,X,0)∧X.length=C*1∧Bl 990 X ∧
  Oa (R+U) C 1 (l++Ci x h) X (m++List.replicate U 0)≤I3 (l++Ci x h)*(I3 (l++Ci x h)*I3 X+I3 m)*tw (-70)+tw (-4000):=by
 have f:=fun {z:List Int} (h:Ec z 20=true)=>Aph (k:=20) h
 have hx:=(f tx).1 x (List.mem_singleton.2 rfl)
 have fx:Dk x=true:=hx.fin
 have hx0:A7 x≠0→Lo 20 x.toNat:=Aad (k:=20) tx x (List.mem_singleton.2 rfl)
 obtain ⟨bt,tt⟩:=Aib hx hx0 (f t3).1 (Aad (k:=20) t3)
 have ck:So r c l p q m u v h=0:=by
  unfold So
  rw [A8t (fun k=>k (Pm hr (f t1).2)),A8t (fun k=>k (Pm hr2 (f t2).2))]
  exact Pm hr3 (f t3).2
 by_cases ks:p≠r∨q≠1∨v≠c∨6<r+u
 ·exact .inl (Ud (Atr ck fx ks) (by decide))
 ·have k0:Tb r c l p q m u v h x=0:=by
   unfold Tb
   rw [A8t (fun k=>k ck),fx,A8t (by decide),A8t ks,bt.Np,A8t (by decide)]
  obtain ⟨R,C,rfl,rfl,r6,c6,hl⟩:=Dl hr
  obtain ⟨P,Q,rfl,rfl,p6,q6,hm⟩:=Dl hr2
  obtain ⟨U,V,rfl,rfl,u6,v6,hh⟩:=Dl hr3
  obtain rfl:P=R:=by omega
  obtain rfl:Q=1:=by omega
  obtain rfl:V=C:=by omega
  have hs:P+U≤6:=by omega
  have eX:C3 (P:Int) (V:Int) l (P:Int) ((1:Nat):Int) m (U:Int) (V:Int) h x=Hh ((P+U:Nat):Int) (V:Int) (l++Ci x h) ((P+U:Nat):Int) ((1:Nat):Int) (m++List.replicate U 0):=by
   have e2:Aio (P:Int) ((1:Nat):Int) m (U:Int)=_:=Apv hs hm
   rw [Ago k0,Awv hs c6 hl hh,e2,A79]
   rfl
  have A:Tm (P+U) V (l++Ci x h):=⟨hs,c6,by rw [A8z,Kq,hl,hh,A9b],Xy al (T4 x h),fun y hy=>(Awl (fun z hz=>((f t1).1 z hz).mono (by decide)) bt y hy).mono (by decide),fun y hy k=>(As2 (fun z hz k=>(Aad (k:=20) t1 z hz k).mono (by decide)) tt y hy k).mono (by decide)⟩
  have B:Tm (P+U) 1 (m++List.replicate U 0):=⟨hs,by decide,by rw [A8z,List.length_replicate,hm]; omega,Xy am (Ao.2 fun y hy=>by rw [(List.mem_replicate.1 hy).2]; exact Kl),Awl (fun z hz=>((f t2).1 z hz).mono (by decide)) (Am2 60 U),As2 (fun z hz k=>(Aad (k:=20) t2 z hz k).mono (by decide)) (Akx 60 U)⟩
  rcases Amb A B with e | e | ⟨X,hc,_,e,lX,bX,g⟩
  ·exact .inl (eX.trans e)
  ·exact .inr (.inl (eX.trans e))
  ·rw [Ax0 m,Aij,show I3 m+0=I3 m by grind] at g
   exact .inr (.inr ⟨P,V,U,X,rfl,rfl,rfl,rfl,rfl,rfl,hs,c6,hc,hl,hm,hh,eX.trans e,lX,bX,g⟩)
end Go.Cv
namespace Go.Proofs.S1
open Go Go.Den Go.Cv Go.Proofs
set_option maxRecDepth 100000
namespace EqLaw22P
def Cw.Ct.Bf:List (Nat × Entry):=[(68,Cw.Hs.spec),(42,Ai.Add.q.spec),(41,Ai.Mul.q.spec),(53,Ax.E2.spec),(25,Au.Check.spec),(44,Au.A6.spec),(40,Au.Gg.spec),(39,Au.E2.spec),(43,Au.F2.spec),(74,D4.Z0.spec),(73,D4.Nw.spec),(66,Dx.Ml.spec)]
def Cw.Ct.E:Env:=Bk (Be Cw.Ct.Bf) (fun _=>false) (fun _=>none) (fun _=>none)
theorem Cw.Ct.ev (N:Nat) (r c:Int) (l:List Int) (p q:Int) (m:List Int) (u v:Int) (h:List Int) (x:Int):B6 Cw.Ct.E N f21 (As f21) [.agg [.int .i64 r,.int .i64 c,.ints .arg .u64 l,.int .i64 p,.int .i64 q,.ints .arg .u64 m,.int .i64 u,.int .i64 v,.ints .arg .u64 h],.int .u64 x]=bif (Ak l&&Cr (0≤(20:Int)∧(20:Int)≤1000)) then bif ((!(Az r c l&&Ec l 20))||(Ak m&&Cr (0≤(20:Int)∧(20:Int)≤1000))) then bif (((!(Az r c l&&Ec l 20))||(!(Az p q m&&Ec m 20)))||(Ak h&&Cr (0≤(20:Int)∧(20:Int)≤1000))) then bif ((((!(Az r c l&&Ec l 20))||(!(Az p q m&&Ec m 20)))||(!(Az u v h&&Ec h 20)))||(Dp [x]&&Cr (0≤(20:Int)∧(20:Int)≤1000))) then bif ((((!(Az r c l&&Ec l 20))||(!(Az p q m&&Ec m 20)))||(!(Az u v h&&Ec h 20)))||(!(Ec [x] 20))) then some (.bool true) else bif (Adn l m h&&Al x) then bif (((C3 r c l p q m u v h x).2.2.2) !=(0:Int)) then some (.bool (bif (bif (((C3 r c l p q m u v h x).2.2.2)==(3:Int)) then true else (((C3 r c l p q m u v h x).2.2.2)==(5:Int))) then true else false)) else bif (Ak ((C3 r c l p q m u v h x).2.2.1)) then bif ((((Cs ((C3 r c l p q m u v h x).1) ((C3 r c l p q m u v h x).2.1) ((C3 r c l p q m u v h x).2.2.1)) !=(0:Int))||(((C3 r c l p q m u v h x).1) !=c))||(((C3 r c l p q m u v h x).2.1) !=(1:Int))) then some (.bool false) else bif (((Az r c l&&Az u v h)&&(Ak h&&Al x))&&decide (v=c)) then bif (Ak (l++Ci x h)&&Az (r+u) c (l++Ci x h)) then bif (Ak ((C3 r c l p q m u v h x).2.2.1)&&Az ((C3 r c l p q m u v h x).1) ((C3 r c l p q m u v h x).2.1) ((C3 r c l p q m u v h x).2.2.1)) then bif (R4 (I3 (l++Ci x h))&&R4 (I3 ((C3 r c l p q m u v h x).2.2.1))) then bif (Ak m&&Az p q m) then bif (R4 (El (I3 (l++Ci x h))*El (I3 ((C3 r c l p q m u v h x).2.2.1)))&&R4 (I3 m)) then bif (R4 (I3 (l++Ci x h))&&R4 (El (El (I3 (l++Ci x h))*El (I3 ((C3 r c l p q m u v h x).2.2.1)))+El (I3 m))) then bif ((Az p q m&&Br u)&&decide (q=1)) then bif (((Az (r+u) c (l++Ci x h)&&Az ((C3 r c l p q m u v h x).1) ((C3 r c l p q m u v h x).2.1) ((C3 r c l p q m u v h x).2.2.1))&&(Az (p+u) 1 (m++List.replicate (toNat u) 0)&&(Ak (l++Ci x h)&&(Ak ((C3 r c l p q m u v h x).2.2.1)&&Ak (m++List.replicate (toNat u) 0)))))&&decide (((C3 r c l p q m u v h x).1)=c∧(p+u)=(r+u)∧(1:Int)=((C3 r c l p q m u v h x).2.1))) then bif ((dSo (Oa (toNat (r+u)) (toNat c) (toNat ((C3 r c l p q m u v h x).2.1)) (l++Ci x h) ((C3 r c l p q m u v h x).2.2.1) (m++List.replicate (toNat u) 0))&&dSo (El (I3 (l++Ci x h))*El (El (El (I3 (l++Ci x h))*El (I3 ((C3 r c l p q m u v h x).2.2.1)))+El (I3 m))))&&Cr (0≤(35:Int)∧(35:Int)≤1000)) then some (.bool (bif (decide (El (Oa (toNat (r+u)) (toNat c) (toNat ((C3 r c l p q m u v h x).2.1)) (l++Ci x h) ((C3 r c l p q m u v h x).2.2.1) (m++List.replicate (toNat u) 0))≤El (El (I3 (l++Ci x h))*El (El (El (I3 (l++Ci x h))*El (I3 ((C3 r c l p q m u v h x).2.2.1)))+El (I3 m)))*tw (-2*35)+tw (-4000))) then true else false)) else none else none else none else none else none else none else none else none else none else none else none else none else none else none else none else none :=
 Eq.trans (by kernel_rfl)
 (Fg (Ay (Af4 (Az r c l&&Ec l 20)) (Ay (Ux (Az r c l&&Ec l 20)) (C5 (Asz _ _) (Ay (Ux (Az r c l&&Ec l 20)) (Ay (Af5 (Az r c l&&Ec l 20)) (Ay (Axo (Az r c l&&Ec l 20) (Az p q m&&Ec m 20)) (Ay (Ape (Az r c l&&Ec l 20) (Az p q m&&Ec m 20)) (C5 (A4i _ _ _) (Ay (Ape (Az r c l&&Ec l 20) (Az p q m&&Ec m 20)) (Ay (A39 (Az r c l&&Ec l 20) (Az p q m&&Ec m 20)) (Ay (A4w (Az r c l&&Ec l 20) (Az p q m&&Ec m 20) (Az u v h&&Ec h 20)) (Ay (A3t (Az r c l&&Ec l 20) (Az p q m&&Ec m 20) (Az u v h&&Ec h 20)) (C5 (A4j _ _ _ _) (Ay (A3t (Az r c l&&Ec l 20) (Az p q m&&Ec m 20) (Az u v h&&Ec h 20)) (Ay (A6i (Az r c l&&Ec l 20) (Az p q m&&Ec m 20) (Az u v h&&Ec h 20)) (C5 (A6j _ _ _ _) rfl (Fg (Fg (Ay (Za (((C3 r c l p q m u v h x).2.2.2)==(3:Int))) (Ay (Vh (((C3 r c l p q m u v h x).2.2.2)==(3:Int))) (Ay (tt6 (((C3 r c l p q m u v h x).2.2.2)==(3:Int))) (Ay (A4l (((C3 r c l p q m u v h x).2.2.2)==(3:Int)) (((C3 r c l p q m u v h x).2.2.2)==(5:Int))) (Ay (A4m (((C3 r c l p q m u v h x).2.2.2)==(3:Int)) (((C3 r c l p q m u v h x).2.2.2)==(5:Int))) rfl))))) (Fg (Ay (Za ((Cs ((C3 r c l p q m u v h x).1) ((C3 r c l p q m u v h x).2.1) ((C3 r c l p q m u v h x).2.2.1)) !=(0:Int))) (Ay (Vh ((Cs ((C3 r c l p q m u v h x).1) ((C3 r c l p q m u v h x).2.1) ((C3 r c l p q m u v h x).2.2.1)) !=(0:Int))) (Ay (Za ((Cs ((C3 r c l p q m u v h x).1) ((C3 r c l p q m u v h x).2.1) ((C3 r c l p q m u v h x).2.2.1)) !=(0:Int))) (Ay (Vh ((Cs ((C3 r c l p q m u v h x).1) ((C3 r c l p q m u v h x).2.1) ((C3 r c l p q m u v h x).2.2.1)) !=(0:Int))) (Ay (Vh ((Cs ((C3 r c l p q m u v h x).1) ((C3 r c l p q m u v h x).2.1) ((C3 r c l p q m u v h x).2.2.1)) !=(0:Int))) (Ay (tt8 ((Cs ((C3 r c l p q m u v h x).1) ((C3 r c l p q m u v h x).2.1) ((C3 r c l p q m u v h x).2.2.1)) !=(0:Int))) (Ay (tt6 ((Cs ((C3 r c l p q m u v h x).1) ((C3 r c l p q m u v h x).2.1) ((C3 r c l p q m u v h x).2.2.1)) !=(0:Int))) (Ay (Akv ((Cs ((C3 r c l p q m u v h x).1) ((C3 r c l p q m u v h x).2.1) ((C3 r c l p q m u v h x).2.2.1)) !=(0:Int)) (((C3 r c l p q m u v h x).1) !=c)) (Ay (Akw ((Cs ((C3 r c l p q m u v h x).1) ((C3 r c l p q m u v h x).2.1) ((C3 r c l p q m u v h x).2.2.1)) !=(0:Int)) (((C3 r c l p q m u v h x).1) !=c)) (Ay (Akw ((Cs ((C3 r c l p q m u v h x).1) ((C3 r c l p q m u v h x).2.1) ((C3 r c l p q m u v h x).2.2.1)) !=(0:Int)) (((C3 r c l p q m u v h x).1) !=c)) (Ay (Axl ((Cs ((C3 r c l p q m u v h x).1) ((C3 r c l p q m u v h x).2.1) ((C3 r c l p q m u v h x).2.2.1)) !=(0:Int)) (((C3 r c l p q m u v h x).1) !=c)) (C5 (A4k _ _ _) rfl (Fg (Fg (C5 (Cn _) (C5 (Cn _) (C5 (Cn _) (C5 (Cn _) (C5 (Cn _) (C5 (Cn _) (C5 (Cn _) (C5 (Cn _) (Ay (A4t (decide (El (Oa (toNat (r+u)) (toNat c) (toNat ((C3 r c l p q m u v h x).2.1)) (l++Ci x h) ((C3 r c l p q m u v h x).2.2.1) (m++List.replicate (toNat u) 0))≤El (El (I3 (l++Ci x h))*El (El (El (I3 (l++Ci x h))*El (I3 ((C3 r c l p q m u v h x).2.2.1)))+El (I3 m)))*tw (-2*35)+tw (-4000)))) (Ay (A4u (decide (El (Oa (toNat (r+u)) (toNat c) (toNat ((C3 r c l p q m u v h x).2.1)) (l++Ci x h) ((C3 r c l p q m u v h x).2.2.1) (m++List.replicate (toNat u) 0))≤El (El (I3 (l++Ci x h))*El (El (El (I3 (l++Ci x h))*El (I3 ((C3 r c l p q m u v h x).2.2.1)))+El (I3 m)))*tw (-2*35)+tw (-4000)))) rfl)) rfl) rfl) rfl) rfl) rfl) rfl) rfl) rfl) rfl) rfl))))))))))))) rfl)) rfl)))) rfl))))) rfl))))) rfl))) rfl)
abbrev _root_.Go.Proofs.S1.Cw.Ct.Kn:=A9 prog 21 Cw.Ct.spec
theorem Cw.Ct.Ae (hk:A3 prog Cw.Ct.Bf) (h:Hyp Cw.Ct.E f21 Cw.Ct.ts Cw.Ct.pre Cw.Ct.out):Cw.Ct.Kn :=
 Am (A5 hk _ _ _) func21 (by kernel_rfl) (by kernel_rfl) h
end EqLaw22P
open Go Go.Den Go.Cv Go.Proofs
open EqLaw22P
theorem Cw.Ct.known:Cw.Ct.Kn:=Cw.Ct.Ae (.cons Cw.Hs.known (.cons Ai.Add.q.known (.cons Ai.Mul.q.known (.cons Ax.E2.known (.cons Au.Check.known (.cons Au.A6.known (.cons Au.Gg.known (.cons Au.E2.known (.cons Au.F2.known (.cons D4.Z0.known (.cons D4.Nw.known (.cons Dx.Ml.known .nil)))))))))))) fun r c l p q m u v h x hp=>by
 obtain ⟨h0,hx⟩:=Af.1 (show (Adn l m h&&Al x)=true from hp)
 obtain ⟨h1,ah⟩:=Af.1 (show ((Ak l&&Ak m)&&Ak h)=true from h0)
 obtain ⟨al,am⟩:=Af.1 h1
 refine ⟨0,.bool true,[],?_,.bool⟩
 have k1:Cr (0≤(20:Int)∧(20:Int)≤1000)=true:=Ao.2 (by decide)
 have k2:Cr (0≤(35:Int)∧(35:Int)≤1000)=true:=Ao.2 (by decide)
 have ox:Dp [x]=true:=Mt (Ao.2 fun y hy=>by rw [List.mem_singleton.1 hy]; exact hx) (show 1≤1000 by decide)
 rw [Cw.Ct.ev,h0,hx,al,am,ah,ox,k1,k2,A8d,A77,A9j,A77,A9j,A77,A9j,A77]
 cases t1:Az r c l&&Ec l 20 with
 | false=>rfl
 | true =>
 cases t2:Az p q m&&Ec m 20 with
 | false=>rfl
 | true =>
 cases t3:Az u v h&&Ec h 20 with
 | false=>rfl
 | true =>
 cases t4:Ec [x] 20 with
 | false=>rfl
 | true =>
 obtain ⟨hr,ht⟩:=Af.1 t1
 obtain ⟨hr2,ht2⟩:=Af.1 t2
 obtain ⟨hr3,ht3⟩:=Af.1 t3
 have ax:Ak (C3 r c l p q m u v h x).2.2.1=true:=by
  by_cases k:Tb r c l p q m u v h x=0
  ·rw [Ago k]; exact Aq0 _ _ _ _ _ _
  ·rw [Ud rfl k]; exact Ao.2 fun y hy=>by cases hy
 rcases Alk hr hr2 hr3 al am ht ht2 ht3 t4 with e | e | ⟨R,C,U,X,rfl,rfl,rfl,rfl,rfl,rfl,hs,c6,hc,hl,hm,hh,e,lX,bX,g⟩
 ·rw [e]; rfl
 ·rw [e]; rfl
 ·rw [e] at ax ⊢
  dsimp only at ax ⊢
  have rX:Az (C:Int) 1 X=true:=Dw (c:=1) c6 (by decide) lX
  have ru:(R:Int)+(U:Int)=((R+U:Nat):Int):=by omega
  have lT:(l++Ci x h).length=(R+U)*C:=by rw [A8z,Kq,hl,hh,A9b]
  have lS:(m++List.replicate U 0).length=(R+U)*1:=by rw [A8z,List.length_replicate,hm]; omega
  have rA:Az ((R+U:Nat):Int) (C:Int) (l++Ci x h)=true:=Dw hs c6 lT
  have rS:Az ((R+U:Nat):Int) 1 (m++List.replicate U 0)=true:=Dw (c:=1) hs (by decide) lS
  have aA:Ak (l++Ci x h)=true:=Xy al (T4 x h)
  have aS:Ak (m++List.replicate U 0)=true:=Xy am (Ao.2 fun y hy=>by rw [(List.mem_replicate.1 hy).2]; exact Kl)
  have lA:=It rA
  have lB:m.length≤36:=It hr2
  have l36:X.length≤36:=It rX
  obtain ⟨d1,d2,d3,d4,d5,d6⟩:=Au0 lA l36 lB
  have dg:Ds (Oa (R+U) C 1 (l++Ci x h) X (m++List.replicate U 0)):=(Dg.A7h hs c6 (by decide)).ds (by decide) (by decide) (by decide)
  have cX:Cs (C:Int) 1 X=0:=Pm rX bX.Np
  have n1:((0:Int) !=0)=false:=rfl
  have n4:((1:Int) !=1)=false:=rfl
  have n2:((C:Int) !=(C:Int))=false:=by simp
  have e1:decide ((C:Int)=(C:Int)∧((R+U:Nat):Int)=((R+U:Nat):Int)∧(1:Int)=1)=true:=A78 ⟨rfl,rfl,rfl⟩
  have e2:(-2*(35:Int))=-70:=rfl
  have e3:decide ((C:Int)=(C:Int))=true:=A78 rfl
  have e4:decide ((1:Int)=1)=true:=rfl
  have z:Br (U:Int)=true:=Agd (by omega)
  have i1:toNat 1=1:=rfl
  rw [ru,ax,cX,n1,n2,n4,hr,hr2,hr3,rX,rA,aA,z,A79,rS,aS,e1,e2,e3,e4,A79,A79,i1]
  simp only [Bool.or_self,A86,A9q,A8d,A77,A8b,Fb d1,Fb d2,Fb d3,Fb d4,Fb d5,Fb d6.dq,Fb dg.dq,Fm d1,Fm d2,Fm d3,Fm d4,Fm d5,Av0 d6,Av0 dg]
  rw [A78 g]
  rfl
end Go.Proofs.S1
end
