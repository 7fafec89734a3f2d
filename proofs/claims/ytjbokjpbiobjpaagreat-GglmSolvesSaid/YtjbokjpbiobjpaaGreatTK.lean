/- A verified evaluator of the program's form and its use for this seat: S1PRef10, S1PFill, S1EqHouse, S1PHouse, S1PApply, S1EqSol, S1PTri, S1EqFew, S1PSol, S1EqQr, S1PQr, S1PQrA. -/
import Derived.Test.YtjbokjpbiobjpaaGreatTJ
import Derived.Test.YtjbokjpbiobjpaaGreatTE
import Derived.Test.YtjbokjpbiobjpaaGreatTF
import Derived.Test.YtjbokjpbiobjpaaGreatTI
set_option linter.unusedVariables false
set_option linter.unusedSimpArgs false
noncomputable section
open Int (toNat)
open List (length getD)
open Go.Proofs.Tryz
namespace Go.Proofs.S1
open Go Go.Den Go.Rnd Go.Proofs
open EqRef10
theorem Af.Hl.known:Af.Hl.Kn:=Af.Hl.Ac .nil fun r c l _=>by
 refine ⟨0,Af.Hl.out [.i r,.i c,.l l],[],?_,.bool⟩
 have e:(bif (bif (bif (bif (Es (0:Int) r) then (Es r (6:Int)) else false) then (Es (0:Int) c) else false) then (Es c (6:Int)) else false) then ((length l:Int)==(Ab (r*c))) else false)=A0 r c l:=by
  have:=Ahi r c l
  have h:(bif (bif (bif (bif (Es (0:Int) r) then (Es r (6:Int)) else false) then (Es (0:Int) c) else false) then (Es c (6:Int)) else false) then ((length l:Int)==(Ab (r*c))) else false)=!(((!(Bv r))||(!(Bv c)))||((length l:Int) !=(Ab (r*c)))):=by
   unfold Bv bne
   rw [Ej,Ej,Ej,Ej]
   cases decide (0≤r)<;>cases decide (r≤6)<;>cases decide (0≤c)<;>cases decide (c≤6)<;>cases ((length l:Int)==(Ab (r*c)))<;>rfl
  rw [h,this,Bool.not_not]
 rw [Af.Hl.ev,e]; rfl
theorem Af.At.known:Af.At.Kn:=Af.At.Ac .nil fun r c l i k hp=>by
 obtain ⟨e,h1,h2⟩:=Ib (R:=r) (show Cj r c l i k=true from hp)
 refine ⟨0,Af.At.out [.i r,.i c,.l l,.i i,.i k],[],?_,.int⟩
 rw [Af.At.ev,e,A05 h1,A05 h2]
 rfl
theorem Tf {drops:List Nat} {i:Nat} {e:TypeId} {a b:Int} {l:List Int} (h:i∈drops):Wk drops (.agg [.int .i64 a,.int .i64 b,.ints (.own i e) .u64 l]) (.agg [.int .i64 a,.int .i64 b,.ints .fresh .u64 l]) :=
 Wk.Gy (.cons .int (.cons .int (.cons (.drop _ _ _ _ h) .nil)))
theorem Ue {drops:List Nat} {a b:Int} {l:List Int}:Wk drops (.agg [.int .i64 a,.int .i64 b,.ints .fresh .u64 l]) (.agg [.int .i64 a,.int .i64 b,.ints .fresh .u64 l]) :=
 Wk.Gy (.cons .int (.cons .int (.cons .Mb .nil)))
theorem Af.Bn.known:Af.Bn.Kn:=Af.Bn.Ac .nil fun a b hp=>by
 obtain ⟨ha,hb⟩:=Ad.1 (show (Bv a&&Bv b)=true from hp)
 obtain ⟨A,rfl,hA⟩:=E9 ha
 obtain ⟨B,rfl,hB⟩:=E9 hb
 have hm:=Ja (a:=(A:Int)) (b:=(B:Int)) (by omega) (by omega) (by omega) (by omega)
 have e:((A:Int)*(B:Int)).toNat=A*B:=by rw [← A1p,A06]
 refine ⟨0,.agg [.int .i64 (A:Int),.int .i64 (B:Int),.ints (.own 10 tB) .u64 (Cx A B fun _ _=>0)],[10],?_,Tf (List.mem_singleton.2 rfl)⟩
 rw [Af.Bn.ev,An (by omega) (by omega),A05 hm.1,A05 (Int.le_refl _),A05 (show (A:Int)*(B:Int)≤(Gw:Int) by unfold Gw; omega),e,Tw]
 rfl
theorem Af.Fp.known:Af.Fp.Kn:=Af.Fp.Ac .nil fun r c l i k b hp=>by
 obtain ⟨_,_,_,_,_,_,_,h8⟩:=Au.1 (show Cj r c l i k=true from hp)
 obtain ⟨e,g1,g2⟩:=Ib (R:=r) (show Cj r c l i k=true from hp)
 refine ⟨0,.agg [.int .i64 r,.int .i64 c,.ints (.own 13 tB) .u64 (List.set l (i*c+k).toNat b)],[13],?_,Tf (List.mem_singleton.2 rfl)⟩
 rw [Af.Fp.ev,e,List.nil_append,A05 (show 0+l.length≤Gw by unfold Gw; omega),A05 g1,A05 g2,A05 (show (i*c+k).toNat<l.length by omega)]
 rfl
theorem Aaf {r c i k:Nat} (hk:k<c) {d d':Nat→Nat→Bool} {f:Nat→Nat→Int} {x:Int} (hx:x=f i k)
 (h:∀ a b,a<r→b<c→(d' a b=true↔d a b=true∨(a=i∧b=k))) :
 List.set (Cx r c fun a b=>if d a b=true then f a b else 0) (toNat ((i:Int)*(c:Int)+(k:Int))) x=Cx r c fun a b=>if d' a b=true then f a b else 0:=by
 have e:((i:Int)*(c:Int)+(k:Int)).toNat=i*c+k:=by rw [← A1p,← Int.natCast_add,A06]
 rw [e,Vn hk]
 refine D7 fun a b ha hb=>?_
 have h:=h a b ha hb
 by_cases hab:a=i∧b=k
 ·rw [A1r hab,A1r (h.2 (.inr hab)),hx,hab.1,hab.2]
 ·rw [A1q hab]
  by_cases hd:d a b=true
  ·rw [A1r hd,A1r (h.2 (.inl hd))]
  ·rw [A1q hd,A1q (fun k=>(h.1 k).elim hd hab)]
theorem Af.L5.known:Af.L5.Kn:=Af.L5.Ac .nil fun r c l hp=>by
 have hp:=Au.1 (show Gp l=true from hp)
 refine ⟨0,.agg [.int .i64 r,.int .i64 c,.ints (.own 10 tB) .u64 l],[10],?_,Tf (List.mem_singleton.2 rfl)⟩
 rw [Af.L5.ev,List.nil_append,A05 (show 0+l.length≤Gw by unfold Gw; omega)]
 rfl
theorem Al2 (r c:Int) (l:List Int) (p q:Int) (m:List Int):(bif (bif (r==p) then (c==q) else false) then (Uv l m) else false)=Ee r c l p q m:=by
 unfold Ee Uv
 have e1:(r==p)=decide (r=p):=by rw [A1k]; simp
 have e2:(c==q)=decide (c=q):=by rw [A1k]; simp
 rw [e1,e2]
 cases decide (r=p)<;>cases decide (c=q)<;>cases decide (l=m)<;>rfl
theorem Af.Cn.known:Af.Cn.Kn:=Af.Cn.Ac (.cons Ai.Cn.known .nil) fun r c l p q m hp=>by
 have hp:Gp l=true:=hp
 refine ⟨0,Af.Cn.out [.i r,.i c,.l l,.i p,.i q,.l m],[],?_,.bool⟩
 rw [Af.Cn.ev,hp,A2g,A04,Al2]
 rfl
theorem Adm (N:Nat) {R C K f:Nat} {l:List Int} (r6:R≤6) (c6:C≤6) (hl:l.length=R*C) (hk:K<C):∀ (k i F:Nat),f+i+k=R→k<F →
 Af.Pp.L0 N F (R:Int) (C:Int) l (K:Int) ((f+i:Nat):Int) (C0 (C:Int) l (K:Int) (f:Int) i)=some (.ints (.own 100007 tB) .u64 (C0 (C:Int) l (K:Int) (f:Int) (R-f))):=by
 intro k
 induction k with
 | zero =>
   intro i F hi hF
   obtain ⟨F,rfl⟩:∃ G,F=G+1:=⟨F-1,by omega⟩
   rw [Af.Pp.Av,Aw,A09 (by omega),A08,show R-f=i by omega]
 | succ k ih =>
   intro i F hi hF
   obtain ⟨F,rfl⟩:∃ G,F=G+1:=⟨F-1,by omega⟩
   have d:decide ((C0 (C:Int) l (K:Int) (f:Int) i).length+1≤Gw)=true:=A05 (by rw [Gm]; unfold Gw; omega)
   rw [Af.Pp.Av,Aw,A05 (by omega),A04,C3 r6 c6 hl (show f+i<R by omega) hk,A04,d,A04,An (by omega) (by omega)]
   have:=ih (i+1) F (by omega) (by omega)
   unfold C0 at this ⊢
   rw [List.range_succ,List.map_append] at this
   exact this
theorem Af.Pp.known:Af.Pp.Kn:=Af.Pp.Ac (.cons Af.At.known .nil) fun r c l k f hp=>by
 obtain ⟨h0,hf⟩:=Ad.1 (show (Hi r c l k&&Co (0≤f∧f≤r))=true from hp)
 have hf:=Au.1 hf
 obtain ⟨hr,hi⟩:=Ad.1 h0
 have hi:=Au.1 hi
 obtain ⟨R,C,rfl,rfl,r6,c6,hl⟩:=Ck hr
 obtain ⟨K,rfl⟩:∃ j:Nat,k=j:=⟨k.toNat,by omega⟩
 obtain ⟨f,rfl⟩:∃ j:Nat,f=j:=⟨f.toNat,by omega⟩
 refine ⟨8,.ints (.own 100007 tB) .u64 (C0 (C:Int) l (K:Int) (f:Int) (R-f)),[100007],?_,?_⟩
 ·rw [Af.Pp.ev]
  exact Adm 8 r6 c6 hl (by omega) (R-f) 0 8 (by omega) (by omega)
 ·show Wk _ _ (DV.ints .fresh .u64 (C0 (C:Int) l (K:Int) (f:Int) (toNat ((R:Int)-(f:Int)))))
  rw [show toNat ((R:Int)-(f:Int))=R-f by omega]
  exact .drop _ _ _ _ (List.mem_singleton.2 rfl)
theorem Af.Row.known:Af.Row.Kn:=Af.Row.Ac .nil fun r c l i hp=>by
 obtain ⟨hr,hi⟩:=Ad.1 (show Py r c l i=true from hp)
 have hi:=Au.1 hi
 obtain ⟨R,C,rfl,rfl,r6,c6,hl⟩:=Ck hr
 obtain ⟨I,rfl⟩:∃ k:Nat,i=k:=⟨i.toNat,by omega⟩
 have hm:=Ja (a:=(I:Int)) (b:=(C:Int)) (by omega) (by omega) (by omega) (by omega)
 have hm2:=Ja (a:=(I:Int)+1) (b:=(C:Int)) (by omega) (by omega) (by omega) (by omega)
 have hle:(I+1)*C≤R*C:=A1g C (by omega)
 have hle2:I*C≤(I+1)*C:=A1g C (by omega)
 have e1:(I:Int)*(C:Int)=((I*C:Nat):Int):=(A1p _ _).symm
 have e2:((I:Int)+1)*(C:Int)=(((I+1)*C:Nat):Int):=by rw [A1p]; rfl
 refine ⟨0,Af.Row.out [.i (R:Int),.i (C:Int),.l l,.i (I:Int)],[],?_,.Qv⟩
 rw [Af.Row.ev,An (x:=(I:Int)+1) (by omega) (by omega),An (x:=(I:Int)*(C:Int)) (by omega) (by omega),An (x:=((I:Int)+1)*(C:Int)) (by omega) (by omega)]
 have d1:decide ((0:Int)≤(I:Int)*(C:Int))=true:=A05 (by omega)
 have d2:decide ((I:Int)*(C:Int)≤((I:Int)+1)*(C:Int))=true:=A05 (by rw [e1,e2]; omega)
 have d3:decide ((0:Int)≤((I:Int)+1)*(C:Int))=true:=A05 (by omega)
 have d4:decide (((I:Int)+1)*(C:Int)≤(l.length:Int))=true:=A05 (by rw [e2]; omega)
 rw [d1,d2,d3,d4]
 rfl
open EqRef10
def dR (i k a b:Nat):Bool:=decide (a<i∨(a=i∧b<k))
def dC (i k a b:Nat):Bool:=decide (b<i∨(b=i∧a<k))
def fill (r c:Nat) (f:Nat→Nat→Int) (d:Nat→Nat→Bool):List Int:=Cx r c fun a b=>if d a b=true then f a b else 0
theorem Oe (r c:Nat) (f:Nat→Nat→Int) (d:Nat→Nat→Bool):(fill r c f d).length=r*c:=Ca _ _ _
theorem Vq {r c i k:Nat} (hk:k<c) {d d':Nat→Nat→Bool} {f:Nat→Nat→Int} {x:Int} (hx:x=f i k) (h:∀ a b,a<r→b<c→(d' a b=true↔d a b=true∨(a=i∧b=k))) :
 List.set (fill r c f d) (toNat ((i:Int)*(c:Int)+(k:Int))) x=fill r c f d':=Aaf hk hx h
theorem Tx {r c:Nat} {f:Nat→Nat→Int} {d d':Nat→Nat→Bool} (h:∀ a b,a<r→b<c→(d a b=true↔d' a b=true)):fill r c f d=fill r c f d':=by
 refine D7 fun a b ha hb=>?_
 have:=h a b ha hb
 by_cases hd:d a b=true
 ·rw [A1r hd,A1r (this.1 hd)]
 ·rw [A1q hd,A1q (fun k=>hd (this.2 k))]
theorem Z6 {r c:Nat} {f:Nat→Nat→Int} {d:Nat→Nat→Bool} (h:∀ a b,a<r→b<c→d a b=true):fill r c f d=Cx r c f :=
 D7 fun a b ha hb=>by rw [A1r (h a b ha hb)]
theorem Si {r c:Nat} {f:Nat→Nat→Int} {d:Nat→Nat→Bool} (h:∀ a b,a<r→b<c→¬ d a b=true):fill r c f d=Cx r c fun _ _=>0 :=
 D7 fun a b ha hb=>by rw [A1q (h a b ha hb)]
theorem Aed.inner (N:Nat) {R C Q:Nat} {l:List Int} {p:Int} {m:List Int} (h6:R≤6∧C≤6∧Q≤6) (hl:l.length=R*C) (hr:A0 (R:Int) (C:Int) l=true) (hm:A0 p (Q:Int) m=true) (ep:p=(C:Int)) (al:Ag l=true) (am:Ag m=true) {F:Nat→Nat→Int} (hF:F=fun (i j:Nat)=>Ms (Jr (C:Int) l (i:Int)) (Pm p (Q:Int) m (j:Int))) {i:Nat} (hi:i<R):∀ (k j M0 M:Nat),j+k=Q→k<M →
 Af.Mul.L1 N M0 M (R:Int) (C:Int) l p (Q:Int) m (j:Int) (fill R Q F (dR i j)) (i:Int)=Af.Mul.L0 N M0 (R:Int) (C:Int) l p (Q:Int) m ((i+1:Nat):Int) (fill R Q F (dR (i+1) 0)):=by
 intro k
 induction k with
 | zero =>
   intro j M0 M hj hM
   obtain ⟨M,rfl⟩:∃ G,M=G+1:=⟨M-1,by omega⟩
   have e:fill R Q F (dR i j)=fill R Q F (dR (i+1) 0):=Tx fun a b ha hb=>by simp only [dR,A1b]; omega
   rw [Af.Mul.B6,Aw,A09 (by omega),A08,An (by omega) (by omega),e]
   rfl
 | succ k ih =>
   intro j M0 M hj hM
   obtain ⟨M,rfl⟩:∃ G,M=G+1:=⟨M-1,by omega⟩
   have c1:Py (R:Int) (C:Int) l (i:Int)=true:=Ad.2 ⟨hr,Au.2 (by omega)⟩
   have c2:Hi p (Q:Int) m (j:Int)=true:=Ad.2 ⟨hm,Au.2 (by omega)⟩
   have c3:Pk (Jr (C:Int) l (i:Int)) (Pm p (Q:Int) m (j:Int))=true:=Sh.2 ⟨by rw [Pw hl hi,ep,Aah],by rw [Pw hl hi]; omega⟩
   have c9:Cj (R:Int) (Q:Int) (fill R Q F (dR i j)) (i:Int) (j:Int)=true:=C3 (by omega) (by omega) (Oe _ _ _ _) (by omega) (by omega)
   rw [Af.Mul.B6,Aw,A05 (by omega),A04,c1,A04,c2,X9 (show 0≤p by omega),A1a,A04,Ak8,c3,Akg al,Ak9 am,A1a,A1a,A04,c9,A04,An (x:=(j:Int)+1) (by omega) (by omega),Vq (d':=dR i (j+1)) (by omega) (by rw [hF]) (fun a b ha hb=>by simp only [dR,A1b]; omega)]
   exact ih (j+1) M0 M (by omega) (by omega)
theorem Aed.outer (N:Nat) (hN:6<N) {R C Q:Nat} {l:List Int} {p:Int} {m:List Int} (h6:R≤6∧C≤6∧Q≤6) (hl:l.length=R*C) (hr:A0 (R:Int) (C:Int) l=true) (hm:A0 p (Q:Int) m=true) (ep:p=(C:Int)) (al:Ag l=true) (am:Ag m=true) {F:Nat→Nat→Int} (hF:F=fun (i j:Nat)=>Ms (Jr (C:Int) l (i:Int)) (Pm p (Q:Int) m (j:Int))):∀ (k i M:Nat),i+k=R→k<M →
 Af.Mul.L0 N M (R:Int) (C:Int) l p (Q:Int) m (i:Int) (fill R Q F (dR i 0))=some (.agg [.int .i64 (R:Int),.int .i64 (Q:Int),.ints .fresh .u64 (Cx R Q F)]):=by
 intro k
 induction k with
 | zero =>
   intro i M hi hM
   obtain ⟨M,rfl⟩:∃ G,M=G+1:=⟨M-1,by omega⟩
   rw [Af.Mul.Av,Aw,A09 (by omega),A08,Z6 (fun a b ha hb=>by simp only [dR,A1b]; omega)]
 | succ k ih =>
   intro i M hi hM
   obtain ⟨M,rfl⟩:∃ G,M=G+1:=⟨M-1,by omega⟩
   have n:=Aed.inner N h6 hl hr hm ep al am hF (show i<R by omega) Q 0 M N (by omega) (by omega)
   rw [Af.Mul.Av,Aw,A05 (by omega),A04]
   exact n.trans (ih (i+1) M (by omega) (by omega))
theorem Z8.inner (N:Nat) {r c x y:Int} {l:List Int} {A B:Nat} (h6:A≤6∧B≤6) (hr:A0 r c l=true) (hp:E7 r c x y (A:Int) (B:Int)=true) {F:Nat→Nat→Int} (hF:F=fun (i j:Nat)=>D0 c l (x+(i:Int)) (y+(j:Int))) {i:Nat} (hi:i<A):∀ (k j M0 M:Nat),j+k=B→k<M →
 Af.Part.L1 N M0 M r c l x y (A:Int) (B:Int) (j:Int) (fill A B F (dR i j)) (i:Int)=Af.Part.L0 N M0 r c l x y (A:Int) (B:Int) ((i+1:Nat):Int) (fill A B F (dR (i+1) 0)):=by
 intro k
 induction k with
 | zero =>
   intro j M0 M hj hM
   obtain ⟨M,rfl⟩:∃ G,M=G+1:=⟨M-1,by omega⟩
   have e:fill A B F (dR i j)=fill A B F (dR (i+1) 0):=Tx fun a b ha hb=>by simp only [dR,A1b]; omega
   rw [Af.Part.B6,Aw,A09 (by omega),A08,An (by omega) (by omega),e]
   rfl
 | succ k ih =>
   intro j M0 M hj hM
   obtain ⟨M,rfl⟩:∃ G,M=G+1:=⟨M-1,by omega⟩
   have hs:=J7.1 hr
   have hq:=A1u hp
   have c1:Cj r c l (x+(i:Int)) (y+(j:Int))=true:=Lx hr (by omega) (by omega) (by omega) (by omega) r
   have c9:Cj (A:Int) (B:Int) (fill A B F (dR i j)) (i:Int) (j:Int)=true:=C3 (by omega) (by omega) (Oe _ _ _ _) (by omega) (by omega)
   rw [Af.Part.B6,Aw,A05 (by omega),A04,An (x:=x+(i:Int)) (by omega) (by omega),An (x:=y+(j:Int)) (by omega) (by omega),c1,A04,c9,A04,An (x:=(j:Int)+1) (by omega) (by omega),Vq (d':=dR i (j+1)) (by omega) (by rw [hF]) (fun a b ha hb=>by simp only [dR,A1b]; omega)]
   exact ih (j+1) M0 M (by omega) (by omega)
theorem Z8.outer (N:Nat) (hN:6<N) {r c x y:Int} {l:List Int} {A B:Nat} (h6:A≤6∧B≤6) (hr:A0 r c l=true) (hp:E7 r c x y (A:Int) (B:Int)=true) {F:Nat→Nat→Int} (hF:F=fun (i j:Nat)=>D0 c l (x+(i:Int)) (y+(j:Int))):∀ (k i M:Nat),i+k=A→k<M →
 Af.Part.L0 N M r c l x y (A:Int) (B:Int) (i:Int) (fill A B F (dR i 0))=some (.agg [.int .i64 (A:Int),.int .i64 (B:Int),.ints .fresh .u64 (Cx A B F)]):=by
 intro k
 induction k with
 | zero =>
   intro i M hi hM
   obtain ⟨M,rfl⟩:∃ G,M=G+1:=⟨M-1,by omega⟩
   rw [Af.Part.Av,Aw,A09 (by omega),A08,Z6 (fun a b ha hb=>by simp only [dR,A1b]; omega)]
 | succ k ih =>
   intro i M hi hM
   obtain ⟨M,rfl⟩:∃ G,M=G+1:=⟨M-1,by omega⟩
   have n:=Z8.inner N h6 hr hp hF (show i<A by omega) B 0 M N (by omega) (by omega)
   rw [Af.Part.Av,Aw,A05 (by omega),A04]
   exact n.trans (ih (i+1) M (by omega) (by omega))
theorem Z7.inner (N:Nat) {R C:Nat} {l:List Int} (h6:R≤6∧C≤6) (hl:l.length=R*C) {F:Nat→Nat→Int} (hF:F=fun (i j:Nat)=>D0 (C:Int) l (j:Int) (i:Int)) {i:Nat} (hi:i<R):∀ (k j M0 M:Nat),j+k=C→k<M →
 Af.Cb.L1 N M0 M (R:Int) (C:Int) l (j:Int) (fill C R F (dC i j)) (i:Int)=Af.Cb.L0 N M0 (R:Int) (C:Int) l ((i+1:Nat):Int) (fill C R F (dC (i+1) 0)):=by
 intro k
 induction k with
 | zero =>
   intro j M0 M hj hM
   obtain ⟨M,rfl⟩:∃ G,M=G+1:=⟨M-1,by omega⟩
   have e:fill C R F (dC i j)=fill C R F (dC (i+1) 0):=Tx fun a b ha hb=>by simp only [dC,A1b]; omega
   rw [Af.Cb.B6,Aw,A09 (by omega),A08,An (by omega) (by omega),e]
   rfl
 | succ k ih =>
   intro j M0 M hj hM
   obtain ⟨M,rfl⟩:∃ G,M=G+1:=⟨M-1,by omega⟩
   have c1:Cj (R:Int) (C:Int) l (i:Int) (j:Int)=true:=C3 h6.1 h6.2 hl hi (by omega)
   have c9:Cj (C:Int) (R:Int) (fill C R F (dC i j)) (j:Int) (i:Int)=true:=C3 (by omega) (by omega) (Oe _ _ _ _) (by omega) (by omega)
   rw [Af.Cb.B6,Aw,A05 (by omega),A04,c1,A04,c9,A04,An (x:=(j:Int)+1) (by omega) (by omega),Vq (d':=dC i (j+1)) (by omega) (by rw [hF]) (fun a b ha hb=>by simp only [dC,A1b]; omega)]
   exact ih (j+1) M0 M (by omega) (by omega)
theorem Z7.outer (N:Nat) (hN:6<N) {R C:Nat} {l:List Int} (h6:R≤6∧C≤6) (hl:l.length=R*C) {F:Nat→Nat→Int} (hF:F=fun (i j:Nat)=>D0 (C:Int) l (j:Int) (i:Int)):∀ (k i M:Nat),i+k=R→k<M →
 Af.Cb.L0 N M (R:Int) (C:Int) l (i:Int) (fill C R F (dC i 0))=some (.agg [.int .i64 (C:Int),.int .i64 (R:Int),.ints .fresh .u64 (Cx C R F)]):=by
 intro k
 induction k with
 | zero =>
   intro i M hi hM
   obtain ⟨M,rfl⟩:∃ G,M=G+1:=⟨M-1,by omega⟩
   rw [Af.Cb.Av,Aw,A09 (by omega),A08,Z6 (fun a b ha hb=>by simp only [dC,A1b]; omega)]
 | succ k ih =>
   intro i M hi hM
   obtain ⟨M,rfl⟩:∃ G,M=G+1:=⟨M-1,by omega⟩
   have n:=Z7.inner N h6 hl hF (show i<R by omega) C 0 M N (by omega) (by omega)
   rw [Af.Cb.Av,Aw,A05 (by omega),A04]
   exact n.trans (ih (i+1) M (by omega) (by omega))
theorem Af.Cb.known:Af.Cb.Kn:=Af.Cb.Ac (.cons Af.At.known (.cons Af.Fp.known (.cons Af.Bn.known .nil))) fun r c l hp=>by
 have hr:A0 r c l=true:=hp
 obtain ⟨R,C,rfl,rfl,r6,c6,hl⟩:=Ck hr
 refine ⟨8,.agg [.int .i64 (C:Int),.int .i64 (R:Int),.ints .fresh .u64 (Cx C R fun (i j:Nat)=>D0 (C:Int) l (j:Int) (i:Int))],[],?_,Ue⟩
 have n:=Z7.outer 8 (by omega) ⟨r6,c6⟩ hl rfl R 0 8 (by omega) (by omega)
 rw [Si (fun a b ha hb=>by simp only [dC,A1b]; omega)] at n
 rw [Af.Cb.ev,R0 r6,R0 c6,A1a,A04,A06,A06]
 exact n
theorem Af.Part.known:Af.Part.Kn:=Af.Part.Ac (.cons Af.At.known (.cons Af.Fp.known (.cons Af.Bn.known .nil))) fun r c l x y a b hp=>by
 obtain ⟨hr,hq⟩:=Ad.1 (show (A0 r c l&&E7 r c x y a b)=true from hp)
 obtain ⟨s1,s2⟩:=Y5 hr hq
 obtain ⟨A,rfl,hA⟩:=E9 s1
 obtain ⟨B,rfl,hB⟩:=E9 s2
 refine ⟨8,.agg [.int .i64 (A:Int),.int .i64 (B:Int),.ints .fresh .u64 (Cx A B fun (i j:Nat)=>D0 c l (x+(i:Int)) (y+(j:Int)))],[],?_,Ue⟩
 have n:=Z8.outer 8 (by omega) ⟨hA,hB⟩ hr hq rfl A 0 8 (by omega) (by omega)
 rw [Si (fun a b ha hb=>by simp only [dR,A1b]; omega)] at n
 rw [Af.Part.ev,s1,s2,A1a,A04,A06,A06]
 exact n
theorem Af.Mul.known:Af.Mul.Kn:=Af.Mul.Ac (.cons Ai.Hu.known (.cons Af.Pp.known (.cons Af.Row.known (.cons Af.Fp.known (.cons Af.Bn.known .nil))))) fun r c l p q m hp=>by
 obtain ⟨h1,h2⟩:=Ad.1 (show ((A0 r c l&&A0 p q m)&&((Ag l&&Ag m)&&decide (c=p)))=true from hp)
 obtain ⟨hr,hm⟩:=Ad.1 h1
 obtain ⟨h3,h4⟩:=Ad.1 h2
 obtain ⟨al,am⟩:=Ad.1 h3
 have ec:=A1u h4
 obtain ⟨R,C,rfl,rfl,r6,c6,hl⟩:=Ck hr
 obtain ⟨P,Q,rfl,rfl,p6,q6,_⟩:=Ck hm
 refine ⟨8,.agg [.int .i64 (R:Int),.int .i64 (Q:Int),.ints .fresh .u64 (Cx R Q fun (i j:Nat)=>Ms (Jr (C:Int) l (i:Int)) (Pm (P:Int) (Q:Int) m (j:Int)))],[],?_,Ue⟩
 have n:=Aed.outer 8 (by omega) ⟨r6,c6,q6⟩ hl hr hm ec.symm al am rfl R 0 8 (by omega) (by omega)
 rw [Si (fun a b ha hb=>by simp only [dR,A1b]; omega)] at n
 rw [Af.Mul.ev,R0 r6,R0 q6,A1a,A04,A06,A06]
 exact n
theorem Att (N:Nat) {n:Nat} (h6:n≤6):∀ (k i M:Nat),i+k=n→k<M →
 Af.Ew.L0 N M (n:Int) (i:Int) (fill n n (fun (a b:Nat)=>N0 (a:Int) (b:Int)) fun a b=>decide (a=b∧a<i))=some (.agg [.int .i64 (n:Int),.int .i64 (n:Int),.ints .fresh .u64 (Cx n n fun (a b:Nat)=>N0 (a:Int) (b:Int))]):=by
 intro k
 induction k with
 | zero =>
   intro i M hi hM
   obtain ⟨M,rfl⟩:∃ G,M=G+1:=⟨M-1,by omega⟩
   have e:fill n n (fun (a b:Nat)=>N0 (a:Int) (b:Int)) (fun a b=>decide (a=b∧a<i))=Cx n n fun (a b:Nat)=>N0 (a:Int) (b:Int):=by
    refine D7 fun a b ha hb=>?_
    by_cases h:a=b
    ·rw [A1r (A05 ⟨h,by omega⟩)]
    ·rw [A1q (fun k=>h (A1u k).1)]
     unfold N0
     rw [A1q (by omega)]
   rw [Af.Ew.Av,Aw,A09 (by omega),A08,e]
 | succ k ih =>
   intro i M hi hM
   obtain ⟨M,rfl⟩:∃ G,M=G+1:=⟨M-1,by omega⟩
   have c9:Cj (n:Int) (n:Int) (fill n n (fun (a b:Nat)=>N0 (a:Int) (b:Int)) fun a b=>decide (a=b∧a<i)) (i:Int) (i:Int)=true:=C3 h6 h6 (Oe _ _ _ _) (by omega) (by omega)
   have one:(4607182418800017408:Int)=(fun (a b:Nat)=>N0 (a:Int) (b:Int)) i i:=(A1r rfl).symm
   rw [Af.Ew.Av,Aw,A05 (by omega),A04,c9,A04,An (by omega) (by omega),Vq (d':=fun a b=>decide (a=b∧a<i+1)) (by omega) one (fun a b ha hb=>by simp only [A1b]; omega)]
   exact ih (i+1) M (by omega) (by omega)
theorem Af.Ew.known:Af.Ew.Kn:=Af.Ew.Ac (.cons Af.Fp.known (.cons Af.Bn.known .nil)) fun n hp=>by
 have hp:Bv n=true:=hp
 obtain ⟨n,rfl,h6⟩:=E9 hp
 refine ⟨8,.agg [.int .i64 (n:Int),.int .i64 (n:Int),.ints .fresh .u64 (Cx n n fun (a b:Nat)=>N0 (a:Int) (b:Int))],[],?_,Ue⟩
 have e:=Att 8 h6 n 0 8 (by omega) (by omega)
 rw [Si (fun a b ha hb=>by simp only [A1b]; omega)] at e
 rw [Af.Ew.ev,hp,A1a,A04,A06]
 exact e
set_option maxRecDepth 100000
namespace EqHouse
def Ar.Bw.hint:Nat→Option Bg
 | 0=>some { keep:=[5,6,7],objs:=[],boxes:=[] }
 | _=>none
def Ar.Bw.Bc:List (Nat × Entry):=[(155,soft.Kind.spec)]
def Ar.Bw.E:Env:=Be (Bb Ar.Bw.Bc) (fun _=>false) Ar.Bw.hint (fun _=>none)
section
variable (N M:Nat) (x:List Int) (p7:Int)
def Ar.Bw.L0:Option DV:=Bx Ar.Bw.E N f252 (Am f252) [1,0,1,0] [] M ⟨E5 15 [(5,.ints .arg .u64 x),(6,.int .i64 (length x:Int)),(7,.int .i64 p7)],[]⟩
theorem Ar.Bw.Av:Ar.Bw.L0 N (M+1) x p7=bif (Bd p7 (length x:Int)) then bif ((decide (0≤p7))&&(decide (p7<(length x:Int)))) then bif (Ak (getD x (toNat p7) 0)) then bif ((Bk (getD x (toNat p7) 0)) !=(0:Int)) then some (.bool false) else Ar.Bw.L0 N M x (Ab (p7+1)) else none else none else some (.bool true):=by kernel_rfl
theorem Ar.Bw.ev:Bu Ar.Bw.E N f252 (Am f252) [.ints .arg .u64 x] =
 Ar.Bw.L0 N N x 0:=by kernel_rfl
end
abbrev _root_.Go.Proofs.S1.Ar.Bw.Kn:=A7 prog 252 Ar.Bw.spec
theorem Ar.Bw.Ac (hk:A1 prog Ar.Bw.Bc) (h:Hyp Ar.Bw.E f252 Ar.Bw.ts Ar.Bw.pre Ar.Bw.out):Ar.Bw.Kn :=
 Al (A2 hk _ _ _) func252 (by kernel_rfl) (by kernel_rfl) h
def Ar.lead.hint:Nat→Option Bg
 | 0=>some { keep:=[5,6,7],objs:=[],boxes:=[] }
 | _=>none
def Ar.lead.Bc:List (Nat × Entry):=[(155,soft.Kind.spec)]
def Ar.lead.E:Env:=Be (Bb Ar.lead.Bc) (fun _=>false) Ar.lead.hint (fun _=>none)
section
variable (N M:Nat) (x:List Int) (p7:Int)
def Ar.lead.L0:Option DV:=Bx Ar.lead.E N f258 (Am f258) [1,0,1,0] [] M ⟨E5 16 [(5,.ints .arg .u64 x),(6,.int .i64 (length x:Int)),(7,.int .i64 p7)],[]⟩
theorem Ar.lead.Av:Ar.lead.L0 N (M+1) x p7=bif (Bd p7 (length x:Int)) then bif ((decide (0≤p7))&&(decide (p7<(length x:Int)))) then bif (Ak (getD x (toNat p7) 0)) then bif ((Bk (getD x (toNat p7) 0)) !=(0:Int)) then some (.int .u64 (getD x (toNat p7) 0)) else Ar.lead.L0 N M x (Ab (p7+1)) else none else none else some (.int .u64 0):=by kernel_rfl
theorem Ar.lead.ev:Bu Ar.lead.E N f258 (Am f258) [.ints .arg .u64 x] =
 Ar.lead.L0 N N x 0:=by kernel_rfl
end
abbrev _root_.Go.Proofs.S1.Ar.lead.Kn:=A7 prog 258 Ar.lead.spec
theorem Ar.lead.Ac (hk:A1 prog Ar.lead.Bc) (h:Hyp Ar.lead.E f258 Ar.lead.ts Ar.lead.pre Ar.lead.out):Ar.lead.Kn :=
 Al (A2 hk _ _ _) func258 (by kernel_rfl) (by kernel_rfl) h
def Ar.Dq.hint:Nat→Option Bg
 | 0=>some { keep:=[1,5,8,9,10],objs:=[(0,5,100005,.ints 37 .u64 [])],boxes:=[] }
 | _=>none
def Ar.Dq.Bc:List (Nat × Entry):=[(88,Ah.Bt.spec)]
def Ar.Dq.E:Env:=Be (Bb Ar.Dq.Bc) (fun _=>false) Ar.Dq.hint (fun _=>none)
section
variable (N M:Nat) (x:List Int) (k p10:Int) (p5:List Int)
def Ar.Dq.L0:Option DV:=Bx Ar.Dq.E N f256 (Am f256) [1,1,0,1,0] [] M ⟨E5 22 [(1,.int .i64 k),(5,.oref 100005),(8,.ints .arg .u64 x),(9,.int .i64 (length x:Int)),(10,.int .i64 p10)],[(100005,false,.ints 37 .u64 p5)]⟩
theorem Ar.Dq.Av:Ar.Dq.L0 N (M+1) x k p10 p5=bif (Bd p10 (length x:Int)) then bif ((decide (0≤p10))&&(decide (p10<(length x:Int)))) then bif (Ds (getD x (toNat p10) 0) k) then bif (decide ((length p5)+1≤Gw)) then Ar.Dq.L0 N M x k (Ab (p10+1)) (p5++[(B3 (getD x (toNat p10) 0) k)]) else none else none else none else some (.ints (.own 100005 37) .u64 p5):=by kernel_rfl
theorem Ar.Dq.ev:Bu Ar.Dq.E N f256 (Am f256) [.ints .arg .u64 x,.int .i64 k] =
 Ar.Dq.L0 N N x k 0 []:=by kernel_rfl
end
abbrev _root_.Go.Proofs.S1.Ar.Dq.Kn:=A7 prog 256 Ar.Dq.spec
theorem Ar.Dq.Ac (hk:A1 prog Ar.Dq.Bc) (h:Hyp Ar.Dq.E f256 Ar.Dq.ts Ar.Dq.pre Ar.Dq.out):Ar.Dq.Kn :=
 Al (A2 hk _ _ _) func256 (by kernel_rfl) (by kernel_rfl) h
def Ar.Fu.Bc:List (Nat × Entry):=[]
def Ar.Fu.E:Env:=Be (Bb Ar.Fu.Bc) (fun _=>false) (fun _=>none) (fun _=>none)
theorem Ar.Fu.ev (N:Nat) (i:Int):Bu Ar.Fu.E N f254 (Am f254) [.int .i64 i]=some (.int .u64 0):=by kernel_rfl
abbrev _root_.Go.Proofs.S1.Ar.Fu.Kn:=A7 prog 254 Ar.Fu.spec
theorem Ar.Fu.Ac (hk:A1 prog Ar.Fu.Bc) (h:Hyp Ar.Fu.E f254 Ar.Fu.ts Ar.Fu.pre Ar.Fu.out):Ar.Fu.Kn :=
 Al (A2 hk _ _ _) func254 (by kernel_rfl) (by kernel_rfl) h
def Ar.Ft.Bc:List (Nat × Entry):=[(158,Ah.Div.spec)]
def Ar.Ft.E:Env:=Be (Bb Ar.Ft.Bc) (fun _=>false) (fun _=>none) (fun _=>none)
theorem Ar.Ft.ev (N:Nat) (i:Int) (y:List Int) (d:Int):Bu Ar.Ft.E N f259 (Am f259) [.int .i64 i,.cellp [.ints .arg .u64 y],.cellp [.int .u64 d]]=bif ((decide (0≤i))&&(decide (i<(length y:Int)))) then bif (Ak (getD y (toNat i) 0)&&Ak d) then some (.int .u64 (Ez (getD y (toNat i) 0) d)) else none else none :=
 Eq.trans (by kernel_rfl)
 (Cp (I9 (decide (0≤i)) (decide (i<(length y:Int)))) (Cp (Cd (Ak (getD y (toNat i) 0)&&Ak d)) rfl rfl) rfl)
abbrev _root_.Go.Proofs.S1.Ar.Ft.Kn:=A7 prog 259 Ar.Ft.spec
theorem Ar.Ft.Ac (hk:A1 prog Ar.Ft.Bc) (h:Hyp Ar.Ft.E f259 Ar.Ft.ts Ar.Ft.pre Ar.Ft.out):Ar.Ft.Kn :=
 Al (A2 hk _ _ _) func259 (by kernel_rfl) (by kernel_rfl) h
def Ar.row.Zero.hint:Nat→Option Bg
 | 0=>some { keep:=[0,1,5,6],objs:=[(0,5,100005,.ints 37 .u64 [])],boxes:=[] }
 | _=>none
def Ar.row.Zero.Bc:List (Nat × Entry):=[(254,Ar.Fu.spec)]
def Ar.row.Zero.E:Env:=Be (Bb Ar.row.Zero.Bc) (fun _=>false) Ar.row.Zero.hint (fun _=>none)
section
variable (N M:Nat) (n p6:Int) (p5:List Int)
def Ar.row.Zero.L0:Option DV:=Bx Ar.row.Zero.E N f253 (Am f253) [1,1,0,1,0] [] M ⟨E5 23 [(0,.int .i64 n),(1,.fn 254 [] []),(5,.oref 100005),(6,.int .i64 p6)],[(100005,false,.ints 37 .u64 p5)]⟩
theorem Ar.row.Zero.Av:Ar.row.Zero.L0 N (M+1) n p6 p5=bif (Bd p6 n) then bif (decide ((length p5)+1≤Gw)) then Ar.row.Zero.L0 N M n (Ab (p6+1)) (p5++[(0:Int)]) else none else bif (((decide ((0:Int)≤n))&&(decide (n≤n)))&&((decide ((0:Int)≤n))&&(decide (n≤(length p5:Int))))) then some (.ints .fresh .u64 (List.take (toNat (n-0)) (List.drop 0 p5))) else none :=
 Eq.trans (by kernel_rfl)
 (Ec rfl (Cp (Au2 (decide ((0:Int)≤n)) (decide (n≤n)) (decide (n≤(length p5:Int)))) rfl rfl))
theorem Ar.row.Zero.ev:Bu Ar.row.Zero.E N f253 (Am f253) [.int .i64 n,.fn 254 [] []] =
 Ar.row.Zero.L0 N N n 1 [(4607182418800017408:Int)]:=by kernel_rfl
end
abbrev _root_.Go.Proofs.S1.Ar.row.Zero.Kn:=A7 prog 253 Ar.row.Zero.spec
theorem Ar.row.Zero.Ac (hk:A1 prog Ar.row.Zero.Bc) (h:Hyp Ar.row.Zero.E f253 Ar.row.Zero.ts Ar.row.Zero.pre Ar.row.Zero.out):Ar.row.Zero.Kn :=
 Al (A2 hk _ _ _) func253 (by kernel_rfl) (by kernel_rfl) h
def Ar.row.Div.hint:Nat→Option Bg
 | 0=>some { keep:=[0,1,5,6],objs:=[(0,5,100005,.ints 37 .u64 [])],boxes:=[] }
 | _=>none
def Ar.row.Div.Bc:List (Nat × Entry):=[(259,Ar.Ft.spec)]
def Ar.row.Div.E:Env:=Be (Bb Ar.row.Div.Bc) (fun _=>false) Ar.row.Div.hint (fun _=>none)
section
variable (N M:Nat) (n:Int) (y:List Int) (d p6:Int) (p5:List Int)
def Ar.row.Div.L0:Option DV:=Bx Ar.row.Div.E N f253 (Am f253) [1,1,0,1,0] [] M ⟨E5 23 [(0,.int .i64 n),(1,.fn 259 [] [.cellp [.ints .arg .u64 y],.cellp [.int .u64 d]]),(5,.oref 100005),(6,.int .i64 p6)],[(100005,false,.ints 37 .u64 p5)]⟩
theorem Ar.row.Div.Av:Ar.row.Div.L0 N (M+1) n y d p6 p5=bif (Bd p6 n) then bif ((Co (0≤p6∧p6<length y)&&Ag y)&&Ak d) then bif (decide ((length p5)+1≤Gw)) then Ar.row.Div.L0 N M n y d (Ab (p6+1)) (p5++[(Ez (getD y (toNat p6) 0) d)]) else none else none else bif (((decide ((0:Int)≤n))&&(decide (n≤n)))&&((decide ((0:Int)≤n))&&(decide (n≤(length p5:Int))))) then some (.ints .fresh .u64 (List.take (toNat (n-0)) (List.drop 0 p5))) else none :=
 Eq.trans (by kernel_rfl)
 (Ec rfl (Cp (Au2 (decide ((0:Int)≤n)) (decide (n≤n)) (decide (n≤(length p5:Int)))) rfl rfl))
theorem Ar.row.Div.ev:Bu Ar.row.Div.E N f253 (Am f253) [.int .i64 n,.fn 259 [] [.cellp [.ints .arg .u64 y],.cellp [.int .u64 d]]] =
 Ar.row.Div.L0 N N n y d 1 [(4607182418800017408:Int)]:=by kernel_rfl
end
abbrev _root_.Go.Proofs.S1.Ar.row.Div.Kn:=A7 prog 253 Ar.row.Div.spec
theorem Ar.row.Div.Ac (hk:A1 prog Ar.row.Div.Bc) (h:Hyp Ar.row.Div.E f253 Ar.row.Div.ts Ar.row.Div.pre Ar.row.Div.out):Ar.row.Div.Kn :=
 Al (A2 hk _ _ _) func253 (by kernel_rfl) (by kernel_rfl) h
def Ar.Dw.Bc:List (Nat × Entry):=[(255,compare.K3.spec),(258,Ar.lead.spec),(252,Ar.Bw.spec),(253,(Awn [.i .i64,.fn 254 []] Ar.row.Zero.spec Ar.row.Div.spec)),(256,Ar.Dq.spec),(148,soft.Finite.spec),(233,soft.Dp.spec),(213,soft.Sign.spec),(89,Ah.Br.spec),(158,Ah.Div.spec),(150,Ah.Finite.spec),(257,Ah.Norm.spec),(88,Ah.Bt.spec),(156,Ah.Sub.spec)]
def Ar.Dw.E:Env:=Be (Bb Ar.Dw.Bc) (fun _=>false) (fun _=>none) (fun _=>none)
theorem Ar.Dw.ev (N:Nat) (x:List Int):Bu Ar.Dw.E N f245 (Am f245) [.ints .arg .u64 x]=bif (((length x:Int)==(0:Int))||(Bd 64 (length x:Int))) then some (.tup [.nil,.int .u64 0,.int .u64 0,.int .i64 3]) else bif (Cy x) then bif (!(Dj x)) then some (.tup [.nil,.int .u64 0,.int .u64 0,.int .i64 4]) else bif (decide ((1:Int)≤(length x:Int))) then bif (Cy (List.drop 1 x)) then bif (En (List.drop 1 x)) then bif (Co (1≤(length x:Int)∧(length x:Int)≤64)) then bif (decide ((0:Int)<(length x:Int))) then some (.tup [.ints .fresh .u64 (Jq (toNat (length x:Int)) (fun _=>0)),.int .u64 0,.int .u64 (getD x 0 0),.int .i64 0]) else none else none else bif (Cy x) then bif (Ak (Bl x)) then bif (Cy x&&Co (length x≤1000∧-2300≤(Ab (0-(Bz (Bl x))))∧(Ab (0-(Bz (Bl x))))≤2300)) then bif (Cy (Bs x (Ab (0-(Bz (Bl x)))))&&Co (length (Bs x (Ab (0-(Bz (Bl x)))))≤64)) then bif (Cy x) then bif (Ak (Pf x)) then bif (!(D4 (Pf x))) then bif (Ak (Dz (Bs x (Ab (0-(Bz (Bl x))))))) then bif (Ds (Dk (Dz (Bs x (Ab (0-(Bz (Bl x))))))) (Bz (Bl x))) then bif (Ak (B3 (Dk (Dz (Bs x (Ab (0-(Bz (Bl x))))))) (Bz (Bl x)))) then bif (!(Dg (B3 (Dk (Dz (Bs x (Ab (0-(Bz (Bl x))))))) (Bz (Bl x))))) then some (.tup [.nil,.int .u64 0,.int .u64 0,.int .i64 2]) else bif (decide ((0:Int)<(length (Bs x (Ab (0-(Bz (Bl x))))):Int))) then bif (Ak (getD (Bs x (Ab (0-(Bz (Bl x))))) 0 0)&&Ak (Dk (Dz (Bs x (Ab (0-(Bz (Bl x)))))))) then bif ((Co (1≤(length (Bs x (Ab (0-(Bz (Bl x))))):Int)∧(length (Bs x (Ab (0-(Bz (Bl x))))):Int)≤64∧(length (Bs x (Ab (0-(Bz (Bl x))))):Int)=length (Bs x (Ab (0-(Bz (Bl x))))))&&Ag (Bs x (Ab (0-(Bz (Bl x))))))&&Ak (Dl (getD (Bs x (Ab (0-(Bz (Bl x))))) 0 0) (Dk (Dz (Bs x (Ab (0-(Bz (Bl x))))))))) then bif (decide ((0:Int)<(length (Bs x (Ab (0-(Bz (Bl x))))):Int))) then bif (Ak (Dk (Dz (Bs x (Ab (0-(Bz (Bl x)))))))&&Ak (getD (Bs x (Ab (0-(Bz (Bl x))))) 0 0)) then bif (Ak (Dl (Dk (Dz (Bs x (Ab (0-(Bz (Bl x))))))) (getD (Bs x (Ab (0-(Bz (Bl x))))) 0 0))&&Ak (Dk (Dz (Bs x (Ab (0-(Bz (Bl x)))))))) then some (.tup [.ints .fresh .u64 (Jq (toNat (length (Bs x (Ab (0-(Bz (Bl x))))):Int)) (fun j=>Ez (getD (Bs x (Ab (0-(Bz (Bl x))))) j 0) (Dl (getD (Bs x (Ab (0-(Bz (Bl x))))) 0 0) (Dk (Dz (Bs x (Ab (0-(Bz (Bl x)))))))))),.int .u64 (Ez (Dl (Dk (Dz (Bs x (Ab (0-(Bz (Bl x))))))) (getD (Bs x (Ab (0-(Bz (Bl x))))) 0 0)) (Dk (Dz (Bs x (Ab (0-(Bz (Bl x)))))))),.int .u64 (B3 (Dk (Dz (Bs x (Ab (0-(Bz (Bl x))))))) (Bz (Bl x))),.int .i64 0]) else none else none else none else none else none else none else none else none else none else bif (Ds (Dz (Bs x (Ab (0-(Bz (Bl x)))))) (Bz (Bl x))) then bif (Ak (B3 (Dz (Bs x (Ab (0-(Bz (Bl x)))))) (Bz (Bl x)))) then bif (!(Dg (B3 (Dz (Bs x (Ab (0-(Bz (Bl x)))))) (Bz (Bl x))))) then some (.tup [.nil,.int .u64 0,.int .u64 0,.int .i64 2]) else bif (decide ((0:Int)<(length (Bs x (Ab (0-(Bz (Bl x))))):Int))) then bif (Ak (getD (Bs x (Ab (0-(Bz (Bl x))))) 0 0)&&Ak (Dz (Bs x (Ab (0-(Bz (Bl x))))))) then bif ((Co (1≤(length (Bs x (Ab (0-(Bz (Bl x))))):Int)∧(length (Bs x (Ab (0-(Bz (Bl x))))):Int)≤64∧(length (Bs x (Ab (0-(Bz (Bl x))))):Int)=length (Bs x (Ab (0-(Bz (Bl x))))))&&Ag (Bs x (Ab (0-(Bz (Bl x))))))&&Ak (Dl (getD (Bs x (Ab (0-(Bz (Bl x))))) 0 0) (Dz (Bs x (Ab (0-(Bz (Bl x)))))))) then bif (decide ((0:Int)<(length (Bs x (Ab (0-(Bz (Bl x))))):Int))) then bif (Ak (Dz (Bs x (Ab (0-(Bz (Bl x))))))&&Ak (getD (Bs x (Ab (0-(Bz (Bl x))))) 0 0)) then bif (Ak (Dl (Dz (Bs x (Ab (0-(Bz (Bl x)))))) (getD (Bs x (Ab (0-(Bz (Bl x))))) 0 0))&&Ak (Dz (Bs x (Ab (0-(Bz (Bl x))))))) then some (.tup [.ints .fresh .u64 (Jq (toNat (length (Bs x (Ab (0-(Bz (Bl x))))):Int)) (fun j=>Ez (getD (Bs x (Ab (0-(Bz (Bl x))))) j 0) (Dl (getD (Bs x (Ab (0-(Bz (Bl x))))) 0 0) (Dz (Bs x (Ab (0-(Bz (Bl x))))))))),.int .u64 (Ez (Dl (Dz (Bs x (Ab (0-(Bz (Bl x)))))) (getD (Bs x (Ab (0-(Bz (Bl x))))) 0 0)) (Dz (Bs x (Ab (0-(Bz (Bl x))))))),.int .u64 (B3 (Dz (Bs x (Ab (0-(Bz (Bl x)))))) (Bz (Bl x))),.int .i64 0]) else none else none else none else none else none else none else none else none else none else none else none else none else none else none else none else none else none :=
 Eq.trans (by kernel_rfl)
 (Ax (Uc ((length x:Int)==(0:Int))) (Ax (Sr ((length x:Int)==(0:Int))) (Ax (Sr ((length x:Int)==(0:Int))) (Ax (Ye ((length x:Int)==(0:Int))) (Cp (tt5 ((length x:Int)==(0:Int)) (Bd 64 (length x:Int))) rfl (Ec (Ec rfl (Cp (Azm (decide ((1:Int)≤(length x:Int)))) (Ec (Ec (Cp (Cd (Co (1≤(length x:Int)∧(length x:Int)≤64))) (Cp (Cd (decide ((0:Int)<(length x:Int)))) rfl rfl) rfl) rfl) rfl) rfl)) rfl))))))
abbrev _root_.Go.Proofs.S1.Ar.Dw.Kn:=A7 prog 245 Ar.Dw.spec
theorem Ar.Dw.Ac (hk:A1 prog Ar.Dw.Bc) (h:Hyp Ar.Dw.E f245 Ar.Dw.ts Ar.Dw.pre Ar.Dw.out):Ar.Dw.Kn :=
 Al (A2 hk _ _ _) func245 (by kernel_rfl) (by kernel_rfl) h
def Ar.Apply.hint:Nat→Option Bg
 | 0=>some { keep:=[1,3,4,5,10,13,14],objs:=[(14,2,114002,.ints 37 .u64 [])],boxes:=[5,10,13] }
 | 2=>some { keep:=[1,3,4,5,10,13,14,18,90,91,92],objs:=[(14,2,114002,.ints 37 .u64 [])],boxes:=[5,10,13] }
 | _=>none
def Ar.Apply.Bc:List (Nat × Entry):=[(160,Aa.Check.spec),(191,Aa.D3.spec),(189,Ah.Hu.spec),(157,Ah.Mul.spec),(156,Ah.Sub.spec)]
def Ar.Apply.E:Env:=Be (Bb Ar.Apply.Bc) (fun _=>false) Ar.Apply.hint (fun _=>none)
section
variable (N M0 M:Nat) (r c:Int) (l:List Int) (i k:Int) (v:List Int) (t p92:Int) (p2:List Int) (p14_1 p18:Int) (p90:List Int) (p91 p14:Int) (p2_1:List Int)
def Ar.Apply.L0:Option DV:=Bx Ar.Apply.E N f219 (Am f219) [1,1,1,1,0,1,0] [] M ⟨E5 118 [(1,.int .i64 i),(3,.ints .arg .u64 v),(4,.int .u64 t),(5,.ptr 5 0 0),(10,.ptr 10 0 0),(13,.ptr 13 0 0),(14,.int .i64 p14)],[(5,false,.box [.int .i64 r,.int .i64 c,.ints .arg .u64 l]),(10,false,.box [.int .i64 0,.int .i64 0,.nil]),(13,false,.box [.int .i64 r,.int .i64 c,.oref 114002]),(114002,false,.ints 37 .u64 p2_1)]⟩
def Ar.Apply.L1:Option DV:=Bx Ar.Apply.E N f219 (Am f219) [1,1,1,1,0,1,0,0,1,0,0,1,1,1,1,0] [M0] M ⟨E5 118 [(1,.int .i64 i),(3,.ints .arg .u64 v),(4,.int .u64 t),(5,.ptr 5 0 0),(10,.ptr 10 0 0),(13,.ptr 13 0 0),(14,.int .i64 p14_1),(18,.int .u64 p18),(90,.ints .fresh .u64 p90),(91,.int .i64 p91),(92,.int .i64 p92)],[(5,false,.box [.int .i64 r,.int .i64 c,.ints .arg .u64 l]),(10,false,.box [.int .i64 0,.int .i64 0,.nil]),(13,false,.box [.int .i64 r,.int .i64 c,.oref 114002]),(114002,false,.ints 37 .u64 p2)]⟩
theorem Ar.Apply.Av:Ar.Apply.L0 N (M+1) r c l i v t p14 p2_1=bif (Bd p14 c) then bif (Hi r c l p14&&Co (0≤i∧i≤r)) then bif (((decide ((0:Int)≤(length v:Int)))&&(decide ((length v:Int)≤(length v:Int))))&&((decide ((0:Int)≤(length v:Int)))&&(decide ((length v:Int)≤(length (C0 c l p14 i (toNat (r-i))):Int))))) then bif ((Pk v (List.take (toNat (length v:Int)) (C0 c l p14 i (toNat (r-i))))&&Ag v)&&Ag (List.take (toNat (length v:Int)) (C0 c l p14 i (toNat (r-i))))) then bif (Ak t&&Ak (Ms v (List.take (toNat (length v:Int)) (C0 c l p14 i (toNat (r-i)))))) then Ar.Apply.L1 N M N r c l i v t 0 p2_1 p14 (D5 t (Ms v (List.take (toNat (length v:Int)) (C0 c l p14 i (toNat (r-i)))))) (List.take (toNat (length v:Int)) (C0 c l p14 i (toNat (r-i)))) (length (List.take (toNat (length v:Int)) (C0 c l p14 i (toNat (r-i)))):Int) else none else none else none else none else some (.tup [.agg [.int .i64 r,.int .i64 c,.ints (.own 114002 37) .u64 p2_1],.int .i64 0]) :=
 Eq.trans (by kernel_rfl)
 (Ec (Ec (Cp (Au2 (decide ((0:Int)≤(length v:Int))) (decide ((length v:Int)≤(length v:Int))) (decide ((length v:Int)≤(length (C0 c l p14 i (toNat (r-i))):Int)))) rfl rfl) rfl) rfl)
theorem Ar.Apply.B6:Ar.Apply.L1 N M0 (M+1) r c l i v t p92 p2 p14_1 p18 p90 p91=bif (Bd p92 p91) then bif ((decide (0≤p92))&&(decide (p92<(length p90:Int)))) then bif ((decide (0≤p92))&&(decide (p92<(length v:Int)))) then bif (Ak p18&&Ak (getD v (toNat p92) 0)) then bif (Ak (getD p90 (toNat p92) 0)&&Ak (D5 p18 (getD v (toNat p92) 0))) then bif ((decide (0≤(Ab ((Ab ((Ab (i+p92))*c))+p14_1))))&&(decide ((Ab ((Ab ((Ab (i+p92))*c))+p14_1))<(length p2:Int)))) then bif (decide ((toNat (Ab ((Ab ((Ab (i+p92))*c))+p14_1)))<(length p2))) then Ar.Apply.L1 N M0 M r c l i v t (Ab (p92+1)) (List.set p2 (toNat (Ab ((Ab ((Ab (i+p92))*c))+p14_1))) (Dl (getD p90 (toNat p92) 0) (D5 p18 (getD v (toNat p92) 0)))) p14_1 p18 p90 p91 else none else none else none else none else none else none else Ar.Apply.L0 N M0 r c l i v t (Ab (p14_1+1)) p2 :=
 Eq.trans (by kernel_rfl)
 (Ec (Ec (Cp (I9 (decide (0≤p92)) (decide (p92<(length v:Int)))) (Cp (Cd (Ak p18&&Ak (getD v (toNat p92) 0))) (Cp (Cd (Ak (getD p90 (toNat p92) 0)&&Ak (D5 p18 (getD v (toNat p92) 0)))) (Cp (I9 (decide (0≤(Ab ((Ab ((Ab (i+p92))*c))+p14_1)))) (decide ((Ab ((Ab ((Ab (i+p92))*c))+p14_1))<(length p2:Int)))) (Cp (Cd (decide ((toNat (Ab ((Ab ((Ab (i+p92))*c))+p14_1)))<(length p2)))) rfl rfl) rfl) rfl) rfl) rfl) rfl) rfl)
theorem Ar.Apply.ev:Bu Ar.Apply.E N f219 (Am f219) [.agg [.int .i64 r,.int .i64 c,.ints .arg .u64 l],.int .i64 i,.int .i64 k,.ints .arg .u64 v,.int .u64 t]=bif ((Le r c l) !=(0:Int)) then some (.tup [.agg [.int .i64 0,.int .i64 0,.nil],.int .i64 (Le r c l)]) else bif (((((Bd i 0)||(Bd r (length v:Int)))||(Bd (Ab (r-(length v:Int))) i))||(Bd k 0))||(Bd c k)) then some (.tup [.agg [.int .i64 0,.int .i64 0,.nil],.int .i64 3]) else bif (decide (0+(length l)≤Gw)) then Ar.Apply.L0 N N r c l i v t k ([]++l) else none :=
 Eq.trans (by kernel_rfl)
 (Ec rfl (Ax (Uc (Bd i 0)) (Ax (Sr (Bd i 0)) (Ax (Uc (Bd i 0)) (Ax (Sr (Bd i 0)) (Ax (tt8 (Bd i 0)) (Ax (Ye (Bd i 0)) (Ax (Alq (Bd i 0) (Bd r (length v:Int))) (Ax (Alq (Bd i 0) (Bd r (length v:Int))) (Ax (Ac0 (Bd i 0) (Bd r (length v:Int))) (Ax (Alq (Bd i 0) (Bd r (length v:Int))) (Ax (Ac0 (Bd i 0) (Bd r (length v:Int))) (Ax (Axj (Bd i 0) (Bd r (length v:Int))) (Ax (Axj (Bd i 0) (Bd r (length v:Int))) (Ax (Ar6 (Bd i 0) (Bd r (length v:Int))) (Ax (Alr (Bd i 0) (Bd r (length v:Int)) (Bd (Ab (r-(length v:Int))) i)) (Ax (Als (Bd i 0) (Bd r (length v:Int)) (Bd (Ab (r-(length v:Int))) i)) (Ax (Ar7 (Bd i 0) (Bd r (length v:Int)) (Bd (Ab (r-(length v:Int))) i)) (Ax (Aau (Bd i 0) (Bd r (length v:Int)) (Bd (Ab (r-(length v:Int))) i) (Bd k 0)) (Ax (Aau (Bd i 0) (Bd r (length v:Int)) (Bd (Ab (r-(length v:Int))) i) (Bd k 0)) (Ax (Aav (Bd i 0) (Bd r (length v:Int)) (Bd (Ab (r-(length v:Int))) i) (Bd k 0)) (Ax (Alu (Bd i 0) (Bd r (length v:Int)) (Bd (Ab (r-(length v:Int))) i) (Bd k 0)) (Ax (Ar8 (Bd i 0) (Bd r (length v:Int)) (Bd (Ab (r-(length v:Int))) i) (Bd k 0)) (Cp (Au1 (Bd i 0) (Bd r (length v:Int)) (Bd (Ab (r-(length v:Int))) i) (Bd k 0) (Bd c k)) rfl (Cp (Cd (decide (0+(length l)≤Gw))) rfl rfl)))))))))))))))))))))))))
end
abbrev _root_.Go.Proofs.S1.Ar.Apply.Kn:=A7 prog 219 Ar.Apply.spec
theorem Ar.Apply.Ac (hk:A1 prog Ar.Apply.Bc) (h:Hyp Ar.Apply.E f219 Ar.Apply.ts Ar.Apply.pre Ar.Apply.out):Ar.Apply.Kn :=
 Al (A2 hk _ _ _) func219 (by kernel_rfl) (by kernel_rfl) h
end EqHouse
open EqHouse
theorem X5 (x:Int):((Bk x) !=(0:Int))=!(decide (Bk x=0)):=by
 rw [A1k]; simp
theorem Ady (N:Nat) {x:List Int} (hx:Cy x=true):∀ (k i F:Nat),i+k=x.length→k<F→Ar.Bw.L0 N F x (i:Int)=some (.bool (En (x.drop i))):=by
 obtain ⟨hl,hu⟩:=Ip hx
 intro k
 induction k with
 | zero =>
   intro i F hi hF
   obtain ⟨F,rfl⟩:∃ G,F=G+1:=⟨F-1,by omega⟩
   rw [Ar.Bw.Av,Aw,A09 (by omega),A08,A1i (by omega)]; rfl
 | succ k ih =>
   intro i F hi hF
   obtain ⟨F,rfl⟩:∃ G,F=G+1:=⟨F-1,by omega⟩
   rw [Ar.Bw.Av,Aw,A05 (show (i:Int)<(x.length:Int) by omega),A04,A05 (show (0:Int)≤(i:Int) by omega),A1a,A04,A06,hu i (by omega),A04,X5,Hh (by omega)]
   unfold En
   rw [List.all_cons]
   cases decide (Bk (x.getD i 0)=0) with
   | false=>rfl
   | true =>
     rw [A13,A08,A2h,An (by omega) (by omega)]
     exact ih (i+1) F (by omega) (by omega)
theorem Ar.Bw.known:Ar.Bw.Kn:=Ar.Bw.Ac (.cons soft.Kind.known .nil) fun x hp=>by
 refine ⟨x.length+1,Ar.Bw.out [.l x],[],?_,.bool⟩
 rw [Ar.Bw.ev]
 exact Ady (x.length+1) hp x.length 0 (x.length+1) (by omega) (by omega)
theorem Am2 (N:Nat) {x:List Int} (hx:Cy x=true):∀ (k i F:Nat),i+k=x.length→k<F→Ar.lead.L0 N F x (i:Int)=some (.int .u64 (Pf (x.drop i))):=by
 obtain ⟨hl,hu⟩:=Ip hx
 intro k
 induction k with
 | zero =>
   intro i F hi hF
   obtain ⟨F,rfl⟩:∃ G,F=G+1:=⟨F-1,by omega⟩
   rw [Ar.lead.Av,Aw,A09 (by omega),A08,A1i (by omega)]; rfl
 | succ k ih =>
   intro i F hi hF
   obtain ⟨F,rfl⟩:∃ G,F=G+1:=⟨F-1,by omega⟩
   rw [Ar.lead.Av,Aw,A05 (show (i:Int)<(x.length:Int) by omega),A04,A05 (show (0:Int)≤(i:Int) by omega),A1a,A04,A06,hu i (by omega),A04,X5,Hh (by omega),Pf]
   by_cases h:Bk (x.getD i 0)=0
   ·rw [A05 h,A1r h,A13,A08,An (by omega) (by omega)]
    exact ih (i+1) F (by omega) (by omega)
   ·rw [A09 h,A1q h]; rfl
theorem Ar.lead.known:Ar.lead.Kn:=Ar.lead.Ac (.cons soft.Kind.known .nil) fun x hp=>by
 refine ⟨x.length+1,Ar.lead.out [.l x],[],?_,.int⟩
 rw [Ar.lead.ev]
 exact Am2 (x.length+1) hp x.length 0 (x.length+1) (by omega) (by omega)
theorem Yh {x:List Int} {i:Nat} (h:i<x.length) (f:Int→Int):(x.take (i+1)).map f=(x.take i).map f++[f (x.getD i 0)]:=by
 rw [List.take_succ_eq_append_getElem h,List.map_append,A1e,A1l h]; rfl
theorem Ada (N:Nat) {x:List Int} {e:Int} (hx:Cy x=true) (hl:x.length≤1000) (he:-2300≤e∧e≤2300):∀ (k i F:Nat),i+k=x.length→k<F →
 Ar.Dq.L0 N F x e (i:Int) ((x.take i).map fun b=>B3 b e)=some (.ints (.own 100005 tB) .u64 (Bs x e)):=by
 obtain ⟨_,hu⟩:=Ip hx
 intro k
 induction k with
 | zero =>
   intro i F hi hF
   obtain ⟨F,rfl⟩:∃ G,F=G+1:=⟨F-1,by omega⟩
   rw [Ar.Dq.Av,Aw,A09 (by omega),A08,List.take_of_length_le (by omega)]; rfl
 | succ k ih =>
   intro i F hi hF
   obtain ⟨F,rfl⟩:∃ G,F=G+1:=⟨F-1,by omega⟩
   rw [Ar.Dq.Av,Aw,A05 (show (i:Int)<(x.length:Int) by omega),A04,A05 (show (0:Int)≤(i:Int) by omega),A1a,A04,A06,
    show Ds (getD x i 0) e=true from Ad.2 ⟨hu i (by omega),Au.2 he⟩,A04,A05 (by rw [A2a,List.length_take]; unfold Gw; omega),A04,An (by omega) (by omega)]
   have:=ih (i+1) F (by omega) (by omega)
   rw [Yh (by omega)] at this
   exact this
theorem Ar.Dq.known:Ar.Dq.Kn:=Ar.Dq.Ac (.cons Ah.Bt.known .nil) fun x k hp=>by
 obtain ⟨h1,h2⟩:=Ad.1 hp
 have h2:=Au.1 h2
 refine ⟨x.length+1,.ints (.own 100005 tB) .u64 (Bs x k),[100005],?_,.drop _ _ _ _ (List.mem_singleton.2 rfl)⟩
 rw [Ar.Dq.ev]
 exact Ada (x.length+1) h1 h2.1 h2.2 x.length 0 (x.length+1) (by omega) (by omega)
theorem Ar.Fu.known:Ar.Fu.Kn:=Ar.Fu.Ac .nil fun i _=>⟨0,Ar.Fu.out [.i i],[],by rw [Ar.Fu.ev]; rfl,.int⟩
theorem Ar.Ft.known:Ar.Ft.Kn:=Ar.Ft.Ac (.cons Ah.Div.known .nil) fun i y d hp=>by
 obtain ⟨h1,h2⟩:=Ad.1 (show ((Co (0≤i∧i<length y)&&Ag y)&&Ak d)=true from hp)
 obtain ⟨h3,h4⟩:=Ad.1 h1
 have h3:=Au.1 h3
 refine ⟨0,Ar.Ft.out [.i i,.l y,.i d],[],?_,.int⟩
 rw [Ar.Ft.ev,A05 h3.1,A05 h3.2,I7 h4,h2]; rfl
theorem J6 (n i:Nat) (f:Nat→Int) (h:i+1=n):Jq n f=Avt::(List.range i).map fun j=>f (j+1):=by unfold Jq; rw [show n-1=i by omega]
theorem Akf {n:Nat} (f:Nat→Int) (h:n≠0):(((decide ((0:Int)≤(n:Int)))&&(decide ((n:Int)≤(n:Int))))&&((decide ((0:Int)≤(n:Int)))&&(decide ((n:Int)≤(length (Jq n f):Int)))))=true ∧
 List.take (toNat ((n:Int)-(0:Int))) (List.drop 0 (Jq n f))=Jq n f:=by
 have:=Px h f
 refine ⟨?_,?_⟩
 ·rw [A05 (by omega),A05 (by omega),A05 (by omega)]; rfl
 ·rw [List.drop_zero,List.take_of_length_le (by omega)]
theorem Aax (N:Nat) {n:Nat} (h64:n≤64) (h0:n≠0):∀ (k i F:Nat),i+1+k=n→k<F →
 Ar.row.Zero.L0 N F (n:Int) ((i+1:Nat):Int) (Jq (i+1) fun _=>0)=some (.ints .fresh .u64 (Jq n fun _=>0)):=by
 intro k
 induction k with
 | zero =>
   intro i F hi hF
   obtain ⟨F,rfl⟩:∃ G,F=G+1:=⟨F-1,by omega⟩
   obtain rfl:i+1=n:=by omega
   obtain ⟨e1,e2⟩:=Akf (fun _=>0) h0
   rw [Ar.row.Zero.Av,Aw,A09 (by omega),A08,e1,A04,e2]
 | succ k ih =>
   intro i F hi hF
   obtain ⟨F,rfl⟩:∃ G,F=G+1:=⟨F-1,by omega⟩
   rw [Ar.row.Zero.Av,Aw,A05 (by omega),A04,A05 (by rw [Px (by omega)]; unfold Gw; omega),A04,An (by omega) (by omega)]
   have:=ih (i+1) F (by omega) (by omega)
   rw [J6 (i+1+1) (i+1) _ rfl,Ih] at this
   rw [J6 (i+1) i _ rfl]
   exact this
theorem Ar.row.Zero.known:Ar.row.Zero.Kn:=Ar.row.Zero.Ac (.cons Ar.Fu.known .nil) fun n hp=>by
 have hp:=Au.1 (show Co (1≤n∧n≤64)=true from hp)
 obtain ⟨m,rfl⟩:∃ m:Nat,n=m:=⟨n.toNat,by omega⟩
 refine ⟨65,Ar.row.Zero.out [.i m],[],?_,.Mb⟩
 show _=some (DV.ints .fresh .u64 (Jq (toNat (m:Int)) fun _=>0))
 rw [Ar.row.Zero.ev,A06]
 exact Aax 65 (by omega) (by omega) (m-1) 0 65 (by omega) (by omega)
theorem Ade (N:Nat) {n:Nat} {y:List Int} {d:Int} (h64:n≤64) (h0:n≠0) (hy:n=y.length) (al:Ag y=true) (hd:Ak d=true):∀ (k i F:Nat),i+1+k=n→k<F →
 Ar.row.Div.L0 N F (n:Int) y d ((i+1:Nat):Int) (Jq (i+1) fun j=>Ez (y.getD j 0) d)=some (.ints .fresh .u64 (Jq n fun j=>Ez (y.getD j 0) d)):=by
 intro k
 induction k with
 | zero =>
   intro i F hi hF
   obtain ⟨F,rfl⟩:∃ G,F=G+1:=⟨F-1,by omega⟩
   obtain rfl:i+1=n:=by omega
   obtain ⟨e1,e2⟩:=Akf (fun j=>Ez (y.getD j 0) d) h0
   rw [Ar.row.Div.Av,Aw,A09 (by omega),A08,e1,A04,e2]
 | succ k ih =>
   intro i F hi hF
   obtain ⟨F,rfl⟩:∃ G,F=G+1:=⟨F-1,by omega⟩
   rw [Ar.row.Div.Av,Aw,A05 (by omega),A04,Au.2 (show 0≤((i+1:Nat):Int)∧((i+1:Nat):Int)<(y.length:Int) by omega),al,hd,A1a,A1a,A04,A05 (by rw [Px (by omega)]; unfold Gw; omega),A04,An (by omega) (by omega),A06]
   have:=ih (i+1) F (by omega) (by omega)
   rw [J6 (i+1+1) (i+1) _ rfl,Ih] at this
   rw [J6 (i+1) i _ rfl]
   exact this
theorem Ar.row.Div.known:Ar.row.Div.Kn:=Ar.row.Div.Ac (.cons Ar.Ft.known .nil) fun n y d hp=>by
 obtain ⟨h1,h2⟩:=Ad.1 (show ((Co (1≤n∧n≤64∧n=length y)&&Ag y)&&Ak d)=true from hp)
 obtain ⟨h3,h4⟩:=Ad.1 h1
 have h3:=Au.1 h3
 obtain ⟨m,rfl⟩:∃ m:Nat,n=m:=⟨n.toNat,by omega⟩
 refine ⟨65,Ar.row.Div.out [.i m,.l y,.i d],[],?_,.Mb⟩
 show _=some (DV.ints .fresh .u64 (Jq (toNat (m:Int)) fun j=>Ez (getD y j 0) d))
 rw [Ar.row.Div.ev,A06]
 exact Ade 65 (by omega) (by omega) (by omega) h4 h2 (m-1) 0 65 (by omega) (by omega)
theorem R3 {x:List Int} {k:Int} {j:Nat} (h:j<x.length):(Bs x k).getD j 0=B3 (x.getD j 0) k:=by
 unfold Bs
 rw [A1e,A2l,A1l h,A1e,A1l h]; rfl
theorem Abj (x:List Int) (k:Int):(Bs x k).length=x.length:=by unfold Bs; rw [A2a]
theorem Abk {x:List Int} (k:Int) (h:Ag x=true):Ag (Bs x k)=true:=Sk fun y hy=>by
 obtain ⟨b,hb,rfl⟩:=List.mem_map.1 hy
 exact Ig (Au.1 h b hb)
theorem X4:∀ {x:List Int},Ag x=true→Ak (Pf x)=true
 | [],_=>I8
 | b::l,h=>by
   unfold Pf
   split
   ·exact X4 (Sk fun y hy=>Au.1 h y (A19 _ hy))
   ·exact Au.1 h b A2j
theorem W0 {x:List Int} (h:Cy x=true):Ag x=true:=Au.2 (Au.1 h).2
theorem Hb {drops:List Nat} {g:Ahx}:Wk drops .nil (.ints g .u64 []):=.nil g .u64
theorem Abm {n:Nat} {f g:Nat→Int} (h:∀ j,j<n→f j=g j):Jq n f=Jq n g:=by
 unfold Jq
 congr 1
 exact List.map_congr_left fun j hj=>h _ (by have:=List.mem_range.1 hj; omega)
theorem Ar.Dw.known:Ar.Dw.Kn:=Ar.Dw.Ac (.cons compare.K3.known (.cons Ar.lead.known (.cons Ar.Bw.known (.cons (A7.alt Ar.row.Zero.known Ar.row.Div.known) (.cons Ar.Dq.known (.cons soft.Finite.known (.cons soft.Dp.known (.cons soft.Sign.known (.cons Ah.Br.known (.cons Ah.Div.known (.cons Ah.Finite.known (.cons Ah.Norm.known (.cons Ah.Bt.known (.cons Ah.Sub.known .nil)))))))))))))) fun x hp=>by
 have hx:Cy x=true:=hp
 have al:=W0 hx
 have he:=Aaa (Bl x)
 show ∃ N dv drops,_=some dv∧Wk drops dv (DV.tup [.ints .fresh .u64 (Cr x).1,.int .u64 (Cr x).2.1,.int .u64 (Cr x).2.2.1,.int .i64 (Cr x).2.2.2])
 unfold Cr
 by_cases h1:x.length=0∨64<x.length
 ·rw [A1r h1]
  refine ⟨0,.tup [.nil,.int .u64 0,.int .u64 0,.int .i64 3],[],?_,Wk.Gv (.cons Hb (.cons .int (.cons .int (.cons .int .nil))))⟩
  have:(((length x:Int)==(0:Int))||(Bd (64:Int) (length x:Int)))=true:=by
   rw [Aw,Bool.or_eq_true,beq_iff_eq,A1b]; omega
  rw [Ar.Dw.ev,this,A04]
 have c1:(((length x:Int)==(0:Int))||(Bd (64:Int) (length x:Int)))=false:=by
  rw [Aw,Bool.or_eq_false_iff,A1z,A1n]; omega
 rw [A1q h1]
 by_cases h2:Dj x=true
 ·rw [A1r h2]
  unfold J0
  have ok1:Cy (x.drop 1)=true:=I1 (Sk fun y hy=>Au.1 al y (List.mem_of_mem_drop hy)) (by rw [List.length_drop]; omega)
  have d1:decide ((1:Int)≤(x.length:Int))=true:=A05 (by omega)
  have d0:decide ((0:Int)<(x.length:Int))=true:=A05 (by omega)
  by_cases h3:En (x.drop 1)=true
  ·rw [A1r h3]
   refine ⟨0,.tup [.ints .fresh .u64 (Jq x.length fun _=>0),.int .u64 0,.int .u64 (x.getD 0 0),.int .i64 0],[],?_,Wk.Gv (.cons .Mb (.cons .int (.cons .int (.cons .int .nil))))⟩
   rw [Ar.Dw.ev,c1,A08,hx,A04,h2,A13,A08,d1,A04,ok1,A04,h3,A04,Au.2 (show 1≤(x.length:Int)∧(x.length:Int)≤64 by omega),A04,d0,A04,A06]
  ·rw [A1q h3]
   have h3:En (x.drop 1)=false:=by simpa using h3
   have ew:Ab (0-Bz (Bl x))=-Bz (Bl x):=by rw [An (by omega) (by omega)]; omega
   have ly:=Abj x (-Bz (Bl x))
   have ay:=Abk (-Bz (Bl x)) al
   have oky:Cy (Bs x (-Bz (Bl x)))=true:=I1 ay (by omega)
   have gy:=R3 (x:=x) (k:=-Bz (Bl x)) (j:=0) (by omega)
   have iy:=I7 ay 0
   have key:∀ mu:Int,muI x=mu→Ak mu=true→∀ b:Bool,Dg (Fh x)=b→∃ dv:DV,(bif (!b) then
    some (.tup [.nil,.int .u64 (0:Int),.int .u64 (0:Int),.int .i64 (2:Int)])
    else some (.tup [.ints .fresh .u64 (Jq (toNat (length (Bs x (-Bz (Bl x))):Int)) (fun j=>Ez (getD (Bs x (-Bz (Bl x))) j 0) (Dl (getD (Bs x (-Bz (Bl x))) 0 0) mu))),.int .u64 (Ez (Dl mu (getD (Bs x (-Bz (Bl x))) 0 0)) mu),.int .u64 (B3 mu (Bz (Bl x))),.int .i64 (0:Int)]))=some dv ∧
    Wk [] dv (DV.tup [.ints .fresh .u64 (if Dg (Fh x)=true then (Sv x,Tq x,Fh x,(0:Int)) else ([],0,0,2)).1,.int .u64 (if Dg (Fh x)=true then (Sv x,Tq x,Fh x,(0:Int)) else ([],0,0,2)).2.1,.int .u64 (if Dg (Fh x)=true then (Sv x,Tq x,Fh x,(0:Int)) else ([],0,0,2)).2.2.1,.int .i64 (if Dg (Fh x)=true then (Sv x,Tq x,Fh x,(0:Int)) else ([],0,0,2)).2.2.2]):=by
    intro mu hmu _ b hb
    rw [hb]
    cases b with
    | false=>exact ⟨_,rfl,Wk.Gv (.cons Hb (.cons .int (.cons .int (.cons .int .nil))))⟩
    | true =>
      refine ⟨_,rfl,?_⟩
      rw [A1r rfl]
      dsimp only
      have e1:Jq (toNat (length (Bs x (-Bz (Bl x))):Int)) (fun j=>Ez (getD (Bs x (-Bz (Bl x))) j 0) (Dl (getD (Bs x (-Bz (Bl x))) 0 0) mu))=Sv x:=by
       unfold Sv
       rw [A06,ly,gy,← hmu]
       exact Abm fun j hj=>by rw [R3 hj]; rfl
      have e2:Ez (Dl mu (getD (Bs x (-Bz (Bl x))) 0 0)) mu=Tq x:=by
       unfold Tq
       rw [gy,hmu]; rfl
      have e3:B3 mu (Bz (Bl x))=Fh x:=by unfold Fh; rw [hmu]
      rw [e1,e2,e3]
      exact Wk.Gv (.cons .Mb (.cons .int (.cons .int (.cons .int .nil))))
   have dz:decide ((0:Int)<((Bs x (-Bz (Bl x))).length:Int))=true:=A05 (by omega)
   have cz':Co (1≤((Bs x (-Bz (Bl x))).length:Int)∧((Bs x (-Bz (Bl x))).length:Int)≤64∧True)=true:=Au.2 ⟨by omega,by omega,trivial⟩
   have p1:Co (x.length≤1000∧-2300≤-Bz (Bl x)∧-Bz (Bl x)≤2300)=true:=Au.2 (by omega)
   have p2:Co ((Bs x (-Bz (Bl x))).length≤64)=true:=Au.2 (by omega)
   have sp:∀ mu:Int,Ak mu=true→Ds mu (Bz (Bl x))=true:=fun mu h=>Ad.2 ⟨h,Au.2 (by omega)⟩
   have ny:=X0 (Bs x (-Bz (Bl x)))
   cases hn:D4 (Pf x) with
   | true =>
     have hm:muI x=Dz (Bs x (-Bz (Bl x))):=by unfold muI; rw [A1r hn]
     obtain ⟨dv,k1,k2⟩:=key _ hm ny (Dg (Fh x)) rfl
     refine ⟨0,dv,[],?_,k2⟩
     rw [← k1]
     have eb:Fh x=B3 (Dz (Bs x (-Bz (Bl x)))) (Bz (Bl x)):=by unfold Fh; rw [hm]
     rw [Ar.Dw.ev,ew,eb]
     simp only [c1,A08,hx,A04,h2,A13,d1,ok1,h3,Oo,p1,oky,p2,A1a,X4 al,hn,sp _ ny,Ig ny,dz,cz',ay,iy,ny,K5 iy ny,K5 ny iy]
   | false =>
     have hm:muI x=Dk (Dz (Bs x (-Bz (Bl x)))):=by unfold muI; rw [A1q (by rw [hn]; decide)]
     have my:=Zi ny
     obtain ⟨dv,k1,k2⟩:=key _ hm my (Dg (Fh x)) rfl
     refine ⟨0,dv,[],?_,k2⟩
     rw [← k1]
     have eb:Fh x=B3 (Dk (Dz (Bs x (-Bz (Bl x))))) (Bz (Bl x)):=by unfold Fh; rw [hm]
     rw [Ar.Dw.ev,ew,eb]
     simp only [c1,A08,hx,A04,h2,A13,d1,ok1,h3,Oo,p1,oky,p2,A1a,X4 al,hn,A2n,sp _ my,Ig my,dz,cz',ay,iy,ny,my,K5 iy my,K5 my iy]
 ·rw [A1q h2]
  have h2:Dj x=false:=by simpa using h2
  refine ⟨0,.tup [.nil,.int .u64 0,.int .u64 0,.int .i64 4],[],?_,Wk.Gv (.cons Hb (.cons .int (.cons .int (.cons .int .nil))))⟩
  rw [Ar.Dw.ev,c1,A08,hx,A04,h2,A2n,A04]
open EqHouse
def apD (i k c j a b:Nat):Bool:=decide (k≤b∧i≤a∧(b<c∨(b=c∧a<i+j)))
def apS (R C:Nat) (l:List Int) (i k:Nat) (v:List Int) (t:Int) (c j:Nat):List Int :=
 Cx R C fun a b=>if apD i k c j a b=true∧a<i+v.length then Qj (C:Int) l (i:Int) (k:Int) v t (a:Int) (b:Int) else D0 (C:Int) l (a:Int) (b:Int)
section
variable {R C i k:Nat} {l v:List Int} {t:Int}
theorem Alf (c j:Nat):(apS R C l i k v t c j).length=R*C:=Ca _ _ _
theorem Ahn (h:l.length=R*C):apS R C l i k v t k 0=l:=by
 unfold apS
 conv=>rhs; rw [← Ab9 h]
 refine D7 fun a b ha hb=>?_
 rw [A1q]
 rintro ⟨h,_⟩
 have:=A1u h
 omega
theorem Aho (c:Nat):apS R C l i k v t c v.length=apS R C l i k v t (c+1) 0:=by
 unfold apS
 refine D7 fun a b ha hb=>?_
 have:(apD i k c v.length a b=true∧a<i+v.length)↔(apD i k (c+1) 0 a b=true∧a<i+v.length):=by
  unfold apD
  rw [A1b,A1b]
  omega
 by_cases h:apD i k c v.length a b=true∧a<i+v.length
 ·rw [A1r h,A1r (this.1 h)]
 ·rw [A1q h,A1q (fun hh=>h (this.2 hh))]
theorem Alg:apS R C l i k v t C 0=Fk R C l (i:Int) (k:Int) v t:=by
 unfold apS Fk
 refine D7 fun a b ha hb=>?_
 by_cases h:apD i k C 0 a b=true∧a<i+v.length
 ·rw [A1r h]
 ·rw [A1q h]
  unfold Qj
  rw [A1q]
  intro hh
  refine h ⟨?_,by omega⟩
  unfold apD
  rw [A1b]; omega
theorem Ale {c j:Nat} (hc:c<C) (hk:k≤c) (hj:j<v.length) {x:Int} (hx:x=Qj (C:Int) l (i:Int) (k:Int) v t ((i+j:Nat):Int) (c:Int)) :
 List.set (apS R C l i k v t c j) ((i+j)*C+c) x=apS R C l i k v t c (j+1):=by
 unfold apS
 rw [Vn hc]
 refine D7 fun a b ha hb=>?_
 by_cases h:a=i+j∧b=c
 ·obtain ⟨rfl,rfl⟩:=h
  rw [A1r ⟨rfl,rfl⟩,A1r ⟨by unfold apD; rw [A1b]; omega,by omega⟩,hx]
 ·rw [A1q h]
  have:(apD i k c j a b=true∧a<i+v.length)↔(apD i k c (j+1) a b=true∧a<i+v.length):=by
   unfold apD
   rw [A1b,A1b]
   omega
  by_cases h2:apD i k c j a b=true∧a<i+v.length
  ·rw [A1r h2,A1r (this.1 h2)]
  ·rw [A1q h2,A1q (fun hh=>h2 (this.2 hh))]
theorem Ahm {c j:Nat} (hk:k≤c) (hj:j<v.length):Qj (C:Int) l (i:Int) (k:Int) v t ((i+j:Nat):Int) (c:Int) =
 Dl ((C0 (C:Int) l (c:Int) (i:Int) v.length).getD j 0) (D5 (T6 (C:Int) l (i:Int) v t (c:Int)) (v.getD j 0)):=by
 unfold Qj
 rw [A1r ⟨by omega,by omega,by omega⟩]
 have e1:(((i+j:Nat):Int)-(i:Int)).toNat=j:=by omega
 have e2:(C0 (C:Int) l (c:Int) (i:Int) v.length).getD j 0=D0 (C:Int) l ((i+j:Nat):Int) (c:Int):=by
  unfold C0
  rw [A1e,A2l,List.getElem?_range hj]
  show D0 (C:Int) l ((i:Int)+(j:Int)) (c:Int)=_
  rw [← Int.natCast_add]
 rw [e1,e2]
theorem Afp {c b i:Int} {l:List Int} {m n:Nat} (h:m≤n):List.take m (C0 c l b i n)=C0 c l b i m:=by
 unfold C0
 rw [← List.map_take,List.take_range,Nat.min_eq_left h]
theorem Ajt (N M0:Nat) (r6:R≤6) (c6:C≤6) (al:Ag l=true) (av:Ag v=true) (hv:i+v.length≤R) {c:Nat} (hc:c<C) (hk:k≤c):∀ (cnt j F:Nat),j+cnt=v.length→cnt<F →
 Ar.Apply.L1 N M0 F (R:Int) (C:Int) l (i:Int) v t (j:Int) (apS R C l i k v t c j) (c:Int) (T6 (C:Int) l (i:Int) v t (c:Int)) (C0 (C:Int) l (c:Int) (i:Int) v.length) (v.length:Int) =
 Ar.Apply.L0 N M0 (R:Int) (C:Int) l (i:Int) v t ((c+1:Nat):Int) (apS R C l i k v t (c+1) 0):=by
 intro cnt
 induction cnt with
 | zero =>
   intro j F hj hF
   obtain ⟨F,rfl⟩:∃ G,F=G+1:=⟨F-1,by omega⟩
   obtain rfl:j=v.length:=by omega
   rw [Ar.Apply.B6,Aw,A09 (by omega),A08,An (by omega) (by omega),Aho]
   rfl
 | succ cnt ih =>
   intro j F hj hF
   obtain ⟨F,rfl⟩:∃ G,F=G+1:=⟨F-1,by omega⟩
   have hm:=Ja (a:=((i+j:Nat):Int)) (b:=(C:Int)) (by omega) (by omega) (by omega) (by omega)
   have hpl:=M6 (show i+j<R by omega) hc
   have e1:Ab ((i:Int)+(j:Int))=((i+j:Nat):Int):=by rw [An (by omega) (by omega)]; omega
   have e2:Ab (((i+j:Nat):Int)*(C:Int))=(((i+j)*C:Nat):Int):=by rw [An (by omega) (by omega)]; exact (A1p _ _).symm
   have h36:=A10 r6 c6
   have e3:Ab ((((i+j)*C:Nat):Int)+(c:Int))=(((i+j)*C+c:Nat):Int):=by rw [An (by omega) (by omega)]; omega
   have hlen:=Alf (R:=R) (C:=C) (l:=l) (i:=i) (k:=k) (v:=v) (t:=t) c j
   have sl:=Gm (C:Int) (c:Int) (i:Int) v.length l
   rw [Ar.Apply.B6,Aw,A05 (show (j:Int)<(v.length:Int) by omega),A04,e1,e2,e3,sl,A05 (show (0:Int)≤(j:Int) by omega),A05 (show (j:Int)<(v.length:Int) by omega),A1a,A04,A06,A06]
   have a1:=I7 av j
   have a2:=I7 (Pu (c:=(C:Int)) (b:=(c:Int)) (i:=(i:Int)) (n:=v.length) al) j
   have a3:Ak (T6 (C:Int) l (i:Int) v t (c:Int))=true:=Il _ _
   rw [A04,a3,a1,A1a,A04,a2,Il,A1a,A04,A05 (by omega),A05 (by omega),A1a,A04,A05 (by omega),A04,
    Ale hc hk (by omega) (Ahm hk (by omega)).symm,An (by omega) (by omega)]
   exact ih (j+1) F (by omega) (by omega)
theorem Aju (N:Nat) (r6:R≤6) (c6:C≤6) (hN:7<N) (hr:A0 (R:Int) (C:Int) l=true) (al:Ag l=true) (av:Ag v=true) (ht:Ak t=true) (hv:i+v.length≤R):∀ (cnt c F:Nat),c+cnt=C→k≤c→cnt<F →
 Ar.Apply.L0 N F (R:Int) (C:Int) l (i:Int) v t (c:Int) (apS R C l i k v t c 0) =
 some (.tup [.agg [.int .i64 (R:Int),.int .i64 (C:Int),.ints (.own 114002 tB) .u64 (Fk R C l (i:Int) (k:Int) v t)],.int .i64 (0:Int)]):=by
 intro cnt
 induction cnt with
 | zero =>
   intro c F hc hk hF
   obtain ⟨F,rfl⟩:∃ G,F=G+1:=⟨F-1,by omega⟩
   obtain rfl:c=C:=by omega
   rw [Ar.Apply.Av,Aw,A09 (by omega),A08,Alg]
 | succ cnt ih =>
   intro c F hc hk hF
   obtain ⟨F,rfl⟩:∃ G,F=G+1:=⟨F-1,by omega⟩
   have cp:Hi (R:Int) (C:Int) l (c:Int)=true:=Ad.2 ⟨hr,Au.2 (by omega)⟩
   have e0:toNat ((R:Int)-(i:Int))=R-i:=by omega
   have st:=Afp (c:=(C:Int)) (b:=(c:Int)) (i:=(i:Int)) (l:=l) (m:=v.length) (n:=R-i) (by omega)
   have sl:=Gm (C:Int) (c:Int) (i:Int) v.length l
   have sl2:=Gm (C:Int) (c:Int) (i:Int) (R-i) l
   have sa:=Pu (c:=(C:Int)) (b:=(c:Int)) (i:=(i:Int)) (n:=v.length) al
   have ft:Pk v (C0 (C:Int) l (c:Int) (i:Int) v.length)=true:=Sh.2 ⟨by omega,by omega⟩
   rw [Ar.Apply.Av,Aw,A05 (by omega),A04,cp,Au.2 (show 0≤(i:Int)∧(i:Int)≤(R:Int) by omega),A1a,A04,e0,A06,st,sl2,sl,
    A05 (show (0:Int)≤(v.length:Int) by omega),A05 (show (v.length:Int)≤(v.length:Int) by omega),A05 (show (v.length:Int)≤((R-i:Nat):Int) by omega),A1a,A1a,A04,ft,av,sa,A1a,A1a,A04,ht,Vu,A1a,A04]
   have:=Ajt (t:=t) N F r6 c6 al av hv (show c<C by omega) hk v.length 0 N (by omega) (by omega)
   exact this.trans (ih (c+1) F (by omega) (by omega) (by omega))
end
theorem Ar.Apply.known:Ar.Apply.Kn:=Ar.Apply.Ac (.cons Aa.Check.known (.cons Aa.D3.known (.cons Ah.Hu.known (.cons Ah.Mul.known (.cons Ah.Sub.known .nil))))) fun r c l i k v t hp=>by
 obtain ⟨h1,ht⟩:=Ad.1 (show (((A0 r c l&&Ic r c i k v)&&(Ag l&&Ag v))&&Ak t)=true from hp)
 obtain ⟨h2,h3⟩:=Ad.1 h1
 obtain ⟨hr,hb⟩:=Ad.1 h2
 obtain ⟨al,av⟩:=Ad.1 h3
 have hb:=A1u hb
 have hc:Le r c l=0:=by unfold Le; rw [A1r hr]
 have h36:=O1 hr
 obtain ⟨R,C,rfl,rfl,r6,c6,hl⟩:=Ck hr
 obtain ⟨i,rfl⟩:∃ j:Nat,i=j:=⟨i.toNat,by omega⟩
 obtain ⟨k,rfl⟩:∃ j:Nat,k=j:=⟨k.toNat,by omega⟩
 refine ⟨8,Ar.Apply.out [.i (R:Int),.i (C:Int),.l l,.i (i:Int),.i (k:Int),.l v,.i t],[],?_,Wk.Gv (.cons (Wk.Gy (.cons .int (.cons .int (.cons (.keep _ _ _ _ List.not_mem_nil) .nil)))) (.cons .int .nil))⟩
 show _=some (DV.tup [.agg [.int .i64 (R:Int),.int .i64 (C:Int),.ints (.own 114002 tB) .u64 (Fk (toNat (R:Int)) (toNat (C:Int)) l (i:Int) (k:Int) v t)],.int .i64 0])
 have hlt:(((((Bd (i:Int) (0:Int))||(Bd (R:Int) (length v:Int)))||(Bd (Ab ((R:Int)-(length v:Int))) (i:Int)))||(Bd (k:Int) (0:Int)))||(Bd (C:Int) (k:Int)))=false:=by
  rw [Aw,Aw,Aw,Aw,Aw,An (by omega) (by omega),A09 (by omega),A09 (by omega),A09 (by omega),A09 (by omega),A09 (by omega)]; rfl
 rw [Ar.Apply.ev,hc,show ((0:Int) !=(0:Int))=false from rfl,A08,hlt,A08,A05 (show 0+l.length≤Gw by unfold Gw; omega),A04,List.nil_append,A06,A06]
 have:=Aju (R:=R) (C:=C) (i:=i) (k:=k) (l:=l) (v:=v) (t:=t) 8 r6 c6 (by omega) hr al av ht (by omega) (C-k) k 8 (by omega) (by omega) (by omega)
 rw [Ahn hl] at this
 exact this
namespace EqSol
def solve.check.hint:Nat→Option Bg
 | 0=>some { keep:=[2,3,11,12],objs:=[],boxes:=[2,3] }
 | 2=>some { keep:=[2,34,35],objs:=[],boxes:=[2] }
 | _=>none
def solve.check.Bc:List (Nat × Entry):=[(86,Cu.Check.spec),(155,soft.Kind.spec)]
def solve.check.E:Env:=Be (Bb solve.check.Bc) (fun _=>false) solve.check.hint (fun _=>none)
section
variable (N M:Nat) (r c:Int) (l:List Int) (p q:Int) (m:List Int) (p35:Int)
def solve.check.L0:Option DV:=Bx solve.check.E N f75 (Am f75) [1,1,1,0,1,0] [] M ⟨E5 51 [(2,.ptr 2 0 0),(34,.int .i64 r),(35,.int .i64 p35)],[(2,false,.box [.int .i64 r,.int .i64 c,.ints .arg .u64 l])]⟩
theorem solve.check.Av:solve.check.L0 (N+4) (M+1) r c l p35=bif (Bd p35 r) then bif ((decide (0≤(Ab ((Ab (p35*c))+p35))))&&(decide ((Ab ((Ab (p35*c))+p35))<(length l:Int)))) then bif (Ak (getD l (toNat (Ab ((Ab (p35*c))+p35))) 0)) then bif ((Bk (getD l (toNat (Ab ((Ab (p35*c))+p35))) 0))==(0:Int)) then some (.int .i64 5) else solve.check.L0 (N+4) M r c l (Ab (p35+1)) else none else none else some (.int .i64 0):=by kernel_rfl
theorem solve.check.ev:Bu solve.check.E (N+4) f75 (Am f75) [.agg [.int .i64 r,.int .i64 c,.ints .arg .u64 l],.agg [.int .i64 p,.int .i64 q,.ints .arg .u64 m]]=bif (Ag l) then bif ((B4 r c l) !=(0:Int)) then some (.int .i64 (B4 r c l)) else bif (Ag m) then bif ((B4 p q m) !=(0:Int)) then some (.int .i64 (B4 p q m)) else bif ((r !=c)||(r !=p)) then some (.int .i64 3) else solve.check.L0 (N+4) (N+4) r c l (0:Int) else none else none :=
 Eq.trans (by kernel_rfl)
 (Ec (Ec rfl (Ec (Ec rfl (Ax (Uc (r !=c)) (Ax (Sr (r !=c)) (Ax (Uc (r !=c)) (Ax (Sr (r !=c)) (Ax (tt8 (r !=c)) (Ax (Ye (r !=c)) (Cp (tt5 (r !=c) (r !=p)) rfl rfl)))))))) rfl)) rfl)
end
abbrev _root_.Go.Proofs.S1.solve.check.Kn:=A7 prog 75 solve.check.spec
theorem solve.check.Ac (hk:A1 prog solve.check.Bc) (h:Hyp solve.check.E f75 solve.check.ts solve.check.pre solve.check.out):solve.check.Kn :=
 Al (A2 hk _ _ _) func75 (by kernel_rfl) (by kernel_rfl) h
def Dc.Db.up.Bc:List (Nat × Entry):=[]
def Dc.Db.up.E:Env:=Be (Bb Dc.Db.up.Bc) (fun _=>false) (fun _=>none) (fun _=>none)
theorem Dc.Db.up.ev (N:Nat) (n k:Int):Bu Dc.Db.up.E N f103 (Am f103) [.int .i64 n,.int .i64 k]=some (.int .i64 (Ab ((Ab (n-1))-k))):=by kernel_rfl
abbrev _root_.Go.Proofs.S1.Dc.Db.up.Kn:=A7 prog 103 Dc.Db.up.spec
theorem Dc.Db.up.Ac (hk:A1 prog Dc.Db.up.Bc) (h:Hyp Dc.Db.up.E f103 Dc.Db.up.ts Dc.Db.up.pre Dc.Db.up.out):Dc.Db.up.Kn :=
 Al (A2 hk _ _ _) func103 (by kernel_rfl) (by kernel_rfl) h
def solve.Ek.Bc:List (Nat × Entry):=[]
def solve.Ek.E:Env:=Be (Bb solve.Ek.Bc) (fun _=>false) (fun _=>none) (fun _=>none)
theorem solve.Ek.ev (N:Nat) (i k:Int):Bu solve.Ek.E N f104 (Am f104) [.int .i64 i,.int .i64 k]=some (.bool (Bd i k)):=by kernel_rfl
abbrev _root_.Go.Proofs.S1.solve.Ek.Kn:=A7 prog 104 solve.Ek.spec
theorem solve.Ek.Ac (hk:A1 prog solve.Ek.Bc) (h:Hyp solve.Ek.E f104 solve.Ek.ts solve.Ek.pre solve.Ek.out):solve.Ek.Kn :=
 Al (A2 hk _ _ _) func104 (by kernel_rfl) (by kernel_rfl) h
def Aa.of.Bn.own.hint:Nat→Option Bg
 | 0=>some { keep:=[1,2,6,7,13,14],objs:=[(8,2,108002,.ints 37 .u64 [])],boxes:=[6,7] }
 | 2=>some { keep:=[1,2,6,7,8,13,14,17,18],objs:=[(8,2,108002,.ints 37 .u64 [])],boxes:=[6,7] }
 | _=>none
def Aa.of.Bn.own.Bc:List (Nat × Entry):=[(205,Aa.Ed.spec)]
def Aa.of.Bn.own.E:Env:=Be (Bb Aa.of.Bn.own.Bc) (fun _=>false) Aa.of.Bn.own.hint (fun _=>none)
abbrev _root_.Go.Proofs.S1.Aa.of.Bn.own.Kn:=A7 prog 187 Aa.of.Bn.own.spec
theorem Aa.of.Bn.own.Ac (hk:A1 prog Aa.of.Bn.own.Bc) (h:Hyp Aa.of.Bn.own.E f187 Aa.of.Bn.own.ts Aa.of.Bn.own.pre Aa.of.Bn.own.out):Aa.of.Bn.own.Kn :=
 Al (A2 hk _ _ _) func187 (by kernel_rfl) (by kernel_rfl) h
def Aa.Bn.own.Bc:List (Nat × Entry):=[(187,Aa.of.Bn.own.spec),(204,Aa.size.spec)]
def Aa.Bn.own.E:Env:=Be (Bb Aa.Bn.own.Bc) (fun n=>Nat.beq n 17) (fun _=>none) (fun _=>none)
theorem Aa.Bn.own.ev (N:Nat) (a b:Int):Bu Aa.Bn.own.E N f151 (Am f151) [.int .i64 a,.int .i64 b]=bif ((!(Bv a))||(!(Bv b))) then some (.tup [.agg [.int .i64 0,.int .i64 0,.nil],.int .i64 3]) else bif (Bv a&&Bv b) then some (.tup [.agg [.int .i64 a,.int .i64 b,.ints (.own 1136 37) .u64 (Cx (toNat a) (toNat b) (fun _ _=>0))],.int .i64 0]) else none :=
 Eq.trans (by kernel_rfl)
 (Ax (Aaw (Bv a)) (Ax (Q0 (Bv a)) (Ax (Q0 (Bv a)) (Ax (Ac1 (Bv a)) (Cp (Asa (Bv a) (Bv b)) rfl rfl)))))
abbrev _root_.Go.Proofs.S1.Aa.Bn.own.Kn:=A7 prog 151 Aa.Bn.own.spec
theorem Aa.Bn.own.Ac (hk:A1 prog Aa.Bn.own.Bc) (h:Hyp Aa.Bn.own.E f151 Aa.Bn.own.ts Aa.Bn.own.pre Aa.Bn.own.out):Aa.Bn.own.Kn :=
 Al (A2 hk _ _ _) func151 (by kernel_rfl) (by kernel_rfl) h
def solve.A4.Up.hint:Nat→Option Bg
 | 0=>some { keep:=[2,3,4,5,8,10,11,28,29],objs:=[(12,2,112002,.ints 37 .u64 [])],boxes:=[4,5,8,11] }
 | 2=>some { keep:=[2,3,4,5,8,10,11,13,28,29,32,33],objs:=[(12,2,112002,.ints 37 .u64 [])],boxes:=[4,5,8,11] }
 | 4=>some { keep:=[2,3,4,5,8,10,11,13,15,16,28,29,32,33,49,50],objs:=[(12,2,112002,.ints 37 .u64 [])],boxes:=[4,5,8,11] }
 | _=>none
def solve.A4.Up.Bc:List (Nat × Entry):=[(103,Dc.Db.up.spec),(151,Aa.Bn.own.spec),(104,solve.Ek.spec),(158,Ah.Div.spec),(150,Ah.Finite.spec),(157,Ah.Mul.spec),(156,Ah.Sub.spec)]
def solve.A4.Up.E:Env:=Be (Bb solve.A4.Up.Bc) (fun n=>Nat.beq n 24) solve.A4.Up.hint (fun _=>none)
section
variable (N M0 M1 M:Nat) (r c:Int) (l:List Int) (p q:Int) (m:List Int) (n p16 p50 p13_1 p15 p29_2 p33_1:Int) (p2_1:List Int) (p33:Int) (p2:List Int) (p13 p29_1 p29:Int) (p2_2:List Int)
def solve.A4.Up.L0:Option DV:=Bx solve.A4.Up.E N f76 (Am f76) [1,1,1,0,1,0] [] M ⟨E5 108 [(2,.fn 103 [.int .i64 n] []),(3,.fn 104 [] []),(4,.ptr 4 0 0),(5,.ptr 5 0 0),(8,.ptr 8 0 0),(10,.int .i64 r),(11,.ptr 11 0 0),(28,.int .i64 q),(29,.int .i64 p29)],[(4,false,.box [.int .i64 r,.int .i64 c,.ints .arg .u64 l]),(5,false,.box [.int .i64 p,.int .i64 q,.ints .arg .u64 m]),(8,false,.box [.int .i64 0,.int .i64 0,.nil]),(11,false,.box [.int .i64 r,.int .i64 q,.oref 112002]),(112002,false,.ints 37 .u64 p2_2)]⟩
def solve.A4.Up.L1:Option DV:=Bx solve.A4.Up.E N f76 (Am f76) [1,1,1,0,1,0,0,1,1,0,0,1,0,1,1,0] [M0] M ⟨E5 108 [(2,.fn 103 [.int .i64 n] []),(3,.fn 104 [] []),(4,.ptr 4 0 0),(5,.ptr 5 0 0),(8,.ptr 8 0 0),(10,.int .i64 r),(11,.ptr 11 0 0),(13,.int .i64 p13),(28,.int .i64 q),(29,.int .i64 p29_1),(32,.int .i64 r),(33,.int .i64 p33)],[(4,false,.box [.int .i64 r,.int .i64 c,.ints .arg .u64 l]),(5,false,.box [.int .i64 p,.int .i64 q,.ints .arg .u64 m]),(8,false,.box [.int .i64 0,.int .i64 0,.nil]),(11,false,.box [.int .i64 r,.int .i64 q,.oref 112002]),(112002,false,.ints 37 .u64 p2)]⟩
def solve.A4.Up.L2:Option DV:=Bx solve.A4.Up.E N f76 (Am f76) [1,1,1,0,1,0,0,1,1,0,0,1,0,1,1,0,0,1,1,0,0,1,1,1,0,1,0] [M0,M1] M ⟨E5 108 [(2,.fn 103 [.int .i64 n] []),(3,.fn 104 [] []),(4,.ptr 4 0 0),(5,.ptr 5 0 0),(8,.ptr 8 0 0),(10,.int .i64 r),(11,.ptr 11 0 0),(13,.int .i64 p13_1),(15,.int .i64 p15),(16,.int .u64 p16),(28,.int .i64 q),(29,.int .i64 p29_2),(32,.int .i64 r),(33,.int .i64 p33_1),(49,.int .i64 r),(50,.int .i64 p50)],[(4,false,.box [.int .i64 r,.int .i64 c,.ints .arg .u64 l]),(5,false,.box [.int .i64 p,.int .i64 q,.ints .arg .u64 m]),(8,false,.box [.int .i64 0,.int .i64 0,.nil]),(11,false,.box [.int .i64 r,.int .i64 q,.oref 112002]),(112002,false,.ints 37 .u64 p2_1)]⟩
theorem solve.A4.Up.Av:solve.A4.Up.L0 N (M+1) r c l p q m n p29 p2_2=bif (Bd p29 q) then solve.A4.Up.L1 N M N r c l p q m n 0 p2_2 p29 p29 else bif (Cy p2_2) then bif (!(Dj p2_2)) then some (.tup [.agg [.int .i64 0,.int .i64 0,.nil],.int .i64 2]) else some (.tup [.agg [.int .i64 r,.int .i64 q,.ints (.own 112002 37) .u64 p2_2],.int .i64 0]) else none:=by kernel_rfl
theorem solve.A4.Up.B6:solve.A4.Up.L1 N M0 (M+1) r c l p q m n p33 p2 p13 p29_1=bif (Bd p33 r) then bif (Co (0≤p33∧p33<n∧n≤10)) then bif ((decide (0≤(Ab ((Ab ((n-1-p33)*q))+p13))))&&(decide ((Ab ((Ab ((n-1-p33)*q))+p13))<(length m:Int)))) then solve.A4.Up.L2 N M0 M N r c l p q m n (getD m (toNat (Ab ((Ab ((n-1-p33)*q))+p13))) 0) 0 p13 (n-1-p33) p29_1 p33 p2 else none else none else solve.A4.Up.L0 N M0 r c l p q m n (Ab (p29_1+1)) p2:=by kernel_rfl
theorem solve.A4.Up.Fl:solve.A4.Up.L2 N M0 M1 (M+1) r c l p q m n p16 p50 p13_1 p15 p29_2 p33_1 p2_1=bif (Bd p50 r) then bif (decide (p15<p50)) then bif ((decide (0≤(Ab ((Ab (p15*r))+p50))))&&(decide ((Ab ((Ab (p15*r))+p50))<(length l:Int)))) then bif ((decide (0≤(Ab ((Ab (p50*q))+p13_1))))&&(decide ((Ab ((Ab (p50*q))+p13_1))<(length p2_1:Int)))) then bif (decide ((toNat (Ab ((Ab (p50*q))+p13_1)))<(length p2_1))) then bif (Ak (getD l (toNat (Ab ((Ab (p15*r))+p50))) 0)&&Ak (getD p2_1 (toNat (Ab ((Ab (p50*q))+p13_1))) 0)) then bif (Ak p16&&Ak (D5 (getD l (toNat (Ab ((Ab (p15*r))+p50))) 0) (getD p2_1 (toNat (Ab ((Ab (p50*q))+p13_1))) 0))) then solve.A4.Up.L2 N M0 M1 M r c l p q m n (Dl p16 (D5 (getD l (toNat (Ab ((Ab (p15*r))+p50))) 0) (getD p2_1 (toNat (Ab ((Ab (p50*q))+p13_1))) 0))) (Ab (p50+1)) p13_1 p15 p29_2 p33_1 p2_1 else none else none else none else none else none else solve.A4.Up.L2 N M0 M1 M r c l p q m n p16 (Ab (p50+1)) p13_1 p15 p29_2 p33_1 p2_1 else bif ((decide (0≤(Ab ((Ab (p15*r))+p15))))&&(decide ((Ab ((Ab (p15*r))+p15))<(length l:Int)))) then bif (Ak p16&&Ak (getD l (toNat (Ab ((Ab (p15*r))+p15))) 0)) then bif ((decide (0≤(Ab ((Ab (p15*q))+p13_1))))&&(decide ((Ab ((Ab (p15*q))+p13_1))<(length p2_1:Int)))) then bif (decide ((toNat (Ab ((Ab (p15*q))+p13_1)))<(length p2_1))) then solve.A4.Up.L1 N M0 M1 r c l p q m n (Ab (p33_1+1)) (List.set p2_1 (toNat (Ab ((Ab (p15*q))+p13_1))) (Ez p16 (getD l (toNat (Ab ((Ab (p15*r))+p15))) 0))) p13_1 p29_2 else none else none else none else none :=
 Eq.trans (by kernel_rfl)
 (Ec (Ec (Cp (I9 (decide (0≤(Ab ((Ab (p15*r))+p50)))) (decide ((Ab ((Ab (p15*r))+p50))<(length l:Int)))) (Cp (I9 (decide (0≤(Ab ((Ab (p50*q))+p13_1)))) (decide ((Ab ((Ab (p50*q))+p13_1))<(length p2_1:Int)))) (Cp (Cd (decide ((toNat (Ab ((Ab (p50*q))+p13_1)))<(length p2_1)))) (Cp (Cd (Ak (getD l (toNat (Ab ((Ab (p15*r))+p50))) 0)&&Ak (getD p2_1 (toNat (Ab ((Ab (p50*q))+p13_1))) 0))) (Cp (Cd (Ak p16&&Ak (D5 (getD l (toNat (Ab ((Ab (p15*r))+p50))) 0) (getD p2_1 (toNat (Ab ((Ab (p50*q))+p13_1))) 0)))) rfl rfl) rfl) rfl) rfl) rfl) rfl) (Cp (I9 (decide (0≤(Ab ((Ab (p15*r))+p15)))) (decide ((Ab ((Ab (p15*r))+p15))<(length l:Int)))) (Cp (Cd (Ak p16&&Ak (getD l (toNat (Ab ((Ab (p15*r))+p15))) 0))) (Cp (I9 (decide (0≤(Ab ((Ab (p15*q))+p13_1)))) (decide ((Ab ((Ab (p15*q))+p13_1))<(length p2_1:Int)))) (Cp (Cd (decide ((toNat (Ab ((Ab (p15*q))+p13_1)))<(length p2_1)))) rfl rfl) rfl) rfl) rfl))
theorem solve.A4.Up.ev:Bu solve.A4.Up.E N f76 (Am f76) [.agg [.int .i64 r,.int .i64 c,.ints .arg .u64 l],.agg [.int .i64 p,.int .i64 q,.ints .arg .u64 m],.fn 103 [.int .i64 n] [],.fn 104 [] []]=bif (Bv r&&Bv q) then solve.A4.Up.L0 N N r c l p q m n 0 (Cx (toNat r) (toNat q) (fun _ _=>0)) else none:=by kernel_rfl
end
abbrev _root_.Go.Proofs.S1.solve.A4.Up.Kn:=A7 prog 76 solve.A4.Up.spec
theorem solve.A4.Up.Ac (hk:A1 prog solve.A4.Up.Bc) (h:Hyp solve.A4.Up.E f76 solve.A4.Up.ts solve.A4.Up.pre solve.A4.Up.out):solve.A4.Up.Kn :=
 Al (A2 hk _ _ _) func76 (by kernel_rfl) (by kernel_rfl) h
def solve.Cq.Bc:List (Nat × Entry):=[(75,solve.check.spec),(76,solve.A4.Up.spec)]
def solve.Cq.E:Env:=Be (Bb solve.Cq.Bc) (fun _=>false) (fun _=>none) (fun _=>none)
theorem solve.Cq.ev (N:Nat) (r c:Int) (l:List Int) (p q:Int) (m:List Int):Bu solve.Cq.E N f36 (Am f36) [.agg [.int .i64 r,.int .i64 c,.ints .arg .u64 l],.agg [.int .i64 p,.int .i64 q,.ints .arg .u64 m]]=bif (Ag l&&Ag m) then bif ((Ld r c l p q m) !=(0:Int)) then some (.tup [.agg [.int .i64 0,.int .i64 0,.nil],.int .i64 (Ld r c l p q m)]) else bif (Q1 r c l p q m&&decide (r=r)) then some (.tup [.agg [.int .i64 ((Gx r q (upG c l q m (toNat r) (toNat q))).1),.int .i64 ((Gx r q (upG c l q m (toNat r) (toNat q))).2.1),.ints .fresh .u64 ((Gx r q (upG c l q m (toNat r) (toNat q))).2.2.1)],.int .i64 ((Gx r q (upG c l q m (toNat r) (toNat q))).2.2.2)]) else none else none:=by kernel_rfl
abbrev _root_.Go.Proofs.S1.solve.Cq.Kn:=A7 prog 36 solve.Cq.spec
theorem solve.Cq.Ac (hk:A1 prog solve.Cq.Bc) (h:Hyp solve.Cq.E f36 solve.Cq.ts solve.Cq.pre solve.Cq.out):solve.Cq.Kn :=
 Al (A2 hk _ _ _) func36 (by kernel_rfl) (by kernel_rfl) h
def solve.Flat.hint:Nat→Option Bg
 | 0=>some { keep:=[1,5,6],objs:=[(0,5,100005,.ints 37 .u64 [])],boxes:=[1] }
 | 2=>some { keep:=[7,44,45,46],objs:=[(0,44,100044,.ints 37 .u64 [])],boxes:=[] }
 | _=>none
def solve.Flat.Bc:List (Nat × Entry):=[(86,Cu.Check.spec),(87,compare.G7.spec),(90,compare.Lh.spec),(89,Ah.Br.spec),(88,Ah.Bt.spec)]
def solve.Flat.E:Env:=Be (Bb solve.Flat.Bc) (fun _=>false) solve.Flat.hint (fun _=>none)
section
variable (N M:Nat) (r c:Int) (l:List Int) (p6:Int) (p5:List Int) (p46:Int)
def solve.Flat.L0:Option DV:=Bx solve.Flat.E N f24 (Am f24) [1,1,1,0,1,0] [] M ⟨E5 55 [(1,.ptr 1 0 0),(5,.oref 100005),(6,.int .i64 p6)],[(1,false,.box [.int .i64 r,.int .i64 c,.ints .arg .u64 l]),(100005,false,.ints 37 .u64 p5)]⟩
def solve.Flat.L1:Option DV:=Bx solve.Flat.E N f24 (Am f24) [1,1,1,1,1,0,1,0] [] M ⟨E5 55 [(7,.int .u64 (B3 (Bl p5) (-40:Int))),(44,.oref 100044),(45,.int .i64 (length p5:Int)),(46,.int .i64 p46)],[(100044,false,.ints 37 .u64 p5)]⟩
theorem solve.Flat.Av:solve.Flat.L0 N (M+1) r c l p6 p5=bif ((Bd p6 r)&&(Bd p6 c)) then bif ((decide (0≤(Ab ((Ab (p6*c))+p6))))&&(decide ((Ab ((Ab (p6*c))+p6))<(length l:Int)))) then bif (Ak (getD l (toNat (Ab ((Ab (p6*c))+p6))) 0)) then bif (decide ((length p5)+1≤Gw)) then solve.Flat.L0 N M r c l (Ab (p6+1)) (p5++[(Jt (getD l (toNat (Ab ((Ab (p6*c))+p6))) 0))]) else none else none else none else bif (Cy p5) then bif (Ds (Bl p5) (-40:Int)) then solve.Flat.L1 N N p5 (0:Int) else none else none :=
 Eq.trans (by kernel_rfl)
 (Ax (Oj (Bd p6 r)) (Ax (Oj (Bd p6 r)) (Ax (L7 (Bd p6 r)) (Ax (Ac2 (Bd p6 r)) (Ax (Th (Bd p6 r)) (Cp (tt1 (Bd p6 r) (Bd p6 c)) rfl rfl))))))
theorem solve.Flat.B6:solve.Flat.L1 N (M+1) p5 p46=bif (Bd p46 (length p5:Int)) then bif ((decide (0≤p46))&&(decide (p46<(length p5:Int)))) then bif (decide ((toNat p46)<(length p5))) then bif (Ak (B3 (Bl p5) (-40:Int))&&Ak (getD p5 (toNat p46) 0)) then bif (!(decide (Tn (B3 (Bl p5) (-40:Int)) (getD p5 (toNat p46) 0)<0))) then some (.tup [.bool true,.int .i64 0]) else solve.Flat.L1 N M p5 (Ab (p46+1)) else none else none else none else some (.tup [.bool false,.int .i64 0]):=by kernel_rfl
theorem solve.Flat.ev:Bu solve.Flat.E N f24 (Am f24) [.agg [.int .i64 r,.int .i64 c,.ints .arg .u64 l]]=bif (Ag l) then bif ((B4 r c l) !=(0:Int)) then some (.tup [.bool false,.int .i64 (B4 r c l)]) else solve.Flat.L0 N N r c l 0 [] else none:=by kernel_rfl
end
abbrev _root_.Go.Proofs.S1.solve.Flat.Kn:=A7 prog 24 solve.Flat.spec
theorem solve.Flat.Ac (hk:A1 prog solve.Flat.Bc) (h:Hyp solve.Flat.E f24 solve.Flat.ts solve.Flat.pre solve.Flat.out):solve.Flat.Kn :=
 Al (A2 hk _ _ _) func24 (by kernel_rfl) (by kernel_rfl) h
end EqSol
open EqSol
theorem solve.Ek.known:solve.Ek.Kn:=solve.Ek.Ac .nil fun i k _=>by
 refine ⟨0,solve.Ek.out [.i i,.i k],[],?_,.bool⟩
 rw [solve.Ek.ev,Aw]; rfl
theorem Apb.known:Dc.Db.up.Kn:=Dc.Db.up.Ac .nil fun n k hp=>by
 have hp:=Au.1 (show Co (0≤k∧k<n∧n≤10)=true from hp)
 refine ⟨0,Dc.Db.up.out [.i n,.i k],[],?_,.int⟩
 rw [Dc.Db.up.ev,An (x:=n-1) (by omega) (by omega),An (by omega) (by omega)]; rfl
theorem Aa.of.Bn.own.known:Aa.of.Bn.own.Kn:=Aa.of.Bn.own.Ac (.cons Aa.Ed.known .nil) fun a b hp=>by
 have h1:(Bv a&&Bv b)=true:=hp
 obtain ⟨ha,hb⟩:=Ad.1 h1
 obtain ⟨A,rfl,hA⟩:=E9 ha
 obtain ⟨B,rfl,hB⟩:=E9 hb
 refine ⟨8,.agg [.int .i64 (A:Int),.int .i64 (B:Int),.ints (.own 108002 tB) .u64 (Cx A B fun (i j:Nat)=>(0:Int))],[],?_,Wk.Gy (.cons .int (.cons .int (.cons (.keep _ _ _ _ List.not_mem_nil) .nil)))⟩
 have n:=of.Bn.outer 8 hA hB (by omega) (F:=fun (i j:Nat)=>(0:Int)) (fun _ _=>rfl) A 0 8 (by omega) (by omega)
 rw [M7] at n
 exact (EqOf.Aa.of.Bn.ev 8 (A:Int) (B:Int)).trans n
theorem Aa.Bn.own.known:Aa.Bn.own.Kn:=Aa.Bn.own.Ac (.cons Aa.of.Bn.own.known (.cons Aa.size.known .nil)) fun a b hp=>by
 have hp:(Bv a&&Bv b)=true:=hp
 obtain ⟨ha,hb⟩:=Ad.1 hp
 refine ⟨0,Aa.Bn.own.out [.i a,.i b],[],?_,?_⟩
 ·rw [Aa.Bn.own.ev,ha,hb]; rfl
 ·exact Wk.Gv (.cons (Wk.Gy (.cons .int (.cons .int (.cons (.keep _ _ _ _ List.not_mem_nil) .nil)))) (.cons .int .nil))
section
variable {n Q:Nat} {l m:List Int}
def upF (n Q:Nat) (l m:List Int) (i j:Nat):Int:=(upL (n:Int) l (fun i=>D0 (Q:Int) m (i:Int) (j:Int)) n n).getD i 0
def upD (n j k a b:Nat):Bool:=decide (b<j∨(b=j∧n-k≤a))
def Sp (n Q:Nat) (l m:List Int) (j k:Nat):List Int:=Cx n Q fun a b=>if upD n j k a b=true then upF n Q l m a b else 0
theorem Ah7 (i j:Nat):Ak (upF n Q l m i j)=true:=Vo (Ah6 _ _ _ _ _) i
theorem Aoc (j k:Nat):Ag (Sp n Q l m j k)=true:=Ia fun a b=>by
 split
 ·exact Ah7 _ _
 ·exact Ce (n:=0) (by decide)
theorem Aj5 {j k t:Nat} (ht:t<n) (hj:j<Q) (hk:n-k≤t):D0 (Q:Int) (Sp n Q l m j k) (t:Int) (j:Int)=upF n Q l m t j:=by
 unfold Sp
 have hd:upD n j k t j=true:=A05 (.inr ⟨rfl,hk⟩)
 rw [Ak1 ht hj,hd,A1r rfl]
theorem Uh (j k:Nat):(Sp n Q l m j k).length=n*Q:=Ca _ _ _
theorem Aoa (N:Nat) (n6:n≤6) (q6:Q≤6) (hl:l.length=n*n) (al:Ag l=true) {i j k:Nat} (hi:i+k+1=n) (hj:j<Q) (M0 M1:Nat) (p29 p33:Int) :
 ∀ (cnt t F:Nat) (s:Int),t+cnt=n→cnt<F→i+1≤t→Ak s=true →
 solve.A4.Up.L2 N M0 M1 F (n:Int) (n:Int) l (n:Int) (Q:Int) m (n:Int) s (t:Int) (j:Int) (i:Int) p29 p33 (Sp n Q l m j k) =
 solve.A4.Up.L1 N M0 M1 (n:Int) (n:Int) l (n:Int) (Q:Int) m (n:Int) (Ab (p33+(1:Int))) (List.set (Sp n Q l m j k) (toNat ((i:Int)*(Q:Int)+(j:Int))) (Ez (Ob (n:Int) l (i:Int) s (t:Int) ((upL (n:Int) l (fun i=>D0 (Q:Int) m (i:Int) (j:Int)) n n).drop t)) (D0 (n:Int) l (i:Int) (i:Int)))) (j:Int) p29:=by
 intro cnt
 induction cnt with
 | zero =>
   intro t F s ht hF hit hs
   obtain ⟨F,rfl⟩:∃ G,F=G+1:=⟨F-1,by omega⟩
   obtain ⟨e1,g1,g2⟩:=Ib (R:=(n:Int)) (C3 n6 n6 hl (show i<n by omega) (show i<n by omega))
   obtain ⟨e2,g3,g4⟩:=Ib (R:=(n:Int)) (C3 n6 q6 (Uh (l:=l) (m:=m) j k) (show i<n by omega) hj)
   rw [A1i (by rw [Nc]; omega),Ob]
   rw [solve.A4.Up.Fl,Aw,A09 (show ¬ (t:Int)<(n:Int) by omega),A08,e1,A05 g1,A05 g2,A1a,A04,hs,show Ak (getD l (toNat ((i:Int)*(n:Int)+(i:Int))) 0)=true from Fx (c:=(n:Int)) al,A1a,A04,
    e2,A05 g3,A05 g4,A1a,A04,A05 (show toNat ((i:Int)*(Q:Int)+(j:Int))<(Sp n Q l m j k).length by omega),A04]
   rfl
 | succ cnt ih =>
   intro t F s ht hF hit hs
   obtain ⟨F,rfl⟩:∃ G,F=G+1:=⟨F-1,by omega⟩
   obtain ⟨e1,g1,g2⟩:=Ib (R:=(n:Int)) (C3 n6 n6 hl (show i<n by omega) (show t<n by omega))
   obtain ⟨e2,g3,g4⟩:=Ib (R:=(n:Int)) (C3 n6 q6 (Uh (l:=l) (m:=m) j k) (show t<n by omega) hj)
   have hx:getD (Sp n Q l m j k) (toNat ((t:Int)*(Q:Int)+(j:Int))) 0=upF n Q l m t j:=Aj5 (by omega) hj (by omega)
   rw [solve.A4.Up.Fl,Aw,A05 (show (t:Int)<(n:Int) by omega),A04,A05 (show (i:Int)<(t:Int) by omega),A04,e1,A05 g1,A05 g2,A1a,A04,
    e2,A05 g3,A05 g4,A1a,A04,A05 (show toNat ((t:Int)*(Q:Int)+(j:Int))<(Sp n Q l m j k).length by omega),A04,hx,
    show Ak (getD l (toNat ((i:Int)*(n:Int)+(t:Int))) 0)=true from Fx (c:=(n:Int)) al,Ah7,A1a,A04,hs,Il,A1a,A04,An (x:=(t:Int)+1) (by omega) (by omega)]
   have:=ih (t+1) F (Dl s (D5 (D0 (n:Int) l (i:Int) (t:Int)) (upF n Q l m t j))) (by omega) (by omega) (by omega) (K5 hs (Il _ _))
   rw [Wo (by rw [Nc]; omega)]
   exact this
theorem Ar1 (N:Nat) (n6:n≤6) {i j k:Nat} (hi:i<n) (M0 M1:Nat) (p29 p33 s:Int):∀ (cnt t F:Nat),t+cnt=i+1 →
 solve.A4.Up.L2 N M0 M1 (F+cnt) (n:Int) (n:Int) l (n:Int) (Q:Int) m (n:Int) s (t:Int) (j:Int) (i:Int) p29 p33 (Sp n Q l m j k) =
 solve.A4.Up.L2 N M0 M1 F (n:Int) (n:Int) l (n:Int) (Q:Int) m (n:Int) s ((i+1:Nat):Int) (j:Int) (i:Int) p29 p33 (Sp n Q l m j k):=by
 intro cnt
 induction cnt with
 | zero =>
   intro t F ht
   obtain rfl:t=i+1:=by omega
   rfl
 | succ cnt ih =>
   intro t F ht
   rw [← Nat.add_assoc,solve.A4.Up.Fl,Aw,A05 (show (t:Int)<(n:Int) by omega),A04,A09 (show ¬ (i:Int)<(t:Int) by omega),A08,An (by omega) (by omega)]
   exact ih (t+1) F (by omega)
theorem Aj4 {i j k:Nat} (hi:i+k+1=n) (hj:j<Q) {x:Int} (hx:x=upF n Q l m i j):List.set (Sp n Q l m j k) (toNat ((i:Int)*(Q:Int)+(j:Int))) x=Sp n Q l m j (k+1):=by
 refine Aaf hj hx fun a b ha hb=>?_
 unfold upD
 rw [A1b,A1b]
 omega
theorem Ar2 (N:Nat) (n6:n≤6) (q6:Q≤6) (hN:7<N) (hl:l.length=n*n) (hm:m.length=n*Q) (al:Ag l=true) (am:Ag m=true) {j:Nat} (hj:j<Q) (M0:Nat):∀ (cnt k F:Nat),k+cnt=n→cnt<F →
 solve.A4.Up.L1 N M0 F (n:Int) (n:Int) l (n:Int) (Q:Int) m (n:Int) (k:Int) (Sp n Q l m j k) (j:Int) (j:Int) =
 solve.A4.Up.L0 N M0 (n:Int) (n:Int) l (n:Int) (Q:Int) m (n:Int) ((j+1:Nat):Int) (Sp n Q l m j n):=by
 intro cnt
 induction cnt with
 | zero =>
   intro k F hk hF
   obtain ⟨F,rfl⟩:∃ G,F=G+1:=⟨F-1,by omega⟩
   obtain rfl:k=n:=by omega
   rw [solve.A4.Up.B6,Aw,A09 (by omega),A08,An (by omega) (by omega)]
   rfl
 | succ cnt ih =>
   intro k F hk hF
   obtain ⟨F,rfl⟩:∃ G,F=G+1:=⟨F-1,by omega⟩
   obtain ⟨i,hi⟩:∃ i:Nat,i+k+1=n:=⟨n-k-1,by omega⟩
   have ei:(n:Int)-1-(k:Int)=(i:Int):=by omega
   obtain ⟨e2,g3,g4⟩:=Ib (R:=(n:Int)) (C3 n6 q6 hm (show i<n by omega) hj)
   rw [solve.A4.Up.B6,Aw,A05 (show (k:Int)<(n:Int) by omega),A04,Au.2 (show 0≤(k:Int)∧(k:Int)<(n:Int)∧(n:Int)≤10 by omega),A04,ei,e2,A05 g3,A05 g4,A1a,A04]
   obtain ⟨G,rfl⟩:∃ G,N=G+(i+1):=⟨N-(i+1),by omega⟩
   have hs:=Ar1 (n:=n) (Q:=Q) (l:=l) (m:=m) (G+(i+1)) n6 (i:=i) (j:=j) (k:=k) (by omega) M0 F (j:Int) (k:Int) (D0 (Q:Int) m (i:Int) (j:Int)) (i+1) 0 G (by omega)
   have hr:=Aoa (n:=n) (Q:=Q) (l:=l) (m:=m) (G+(i+1)) n6 q6 hl al hi hj M0 F (j:Int) (k:Int) (n-(i+1)) (i+1) G (D0 (Q:Int) m (i:Int) (j:Int)) (by omega) (by omega) (by omega) (Fx (c:=(Q:Int)) am)
   rw [Aj4 hi hj (Aj7 (show i<n by omega)).symm,An (by omega) (by omega)] at hr
   exact (hs.trans hr).trans (ih (k+1) F (by omega) (by omega))
theorem Ae4 (j:Nat):Sp n Q l m j n=Sp n Q l m (j+1) 0:=by
 unfold Sp
 refine D7 fun a b ha hb=>?_
 have:upD n j n a b=upD n (j+1) 0 a b:=by
  unfold upD
  rw [decide_eq_decide]
  omega
 rw [this]
theorem Ae3:Sp n Q l m 0 0=Cx n Q fun _ _=>0:=by
 unfold Sp
 refine D7 fun a b ha hb=>?_
 have:upD n 0 0 a b=false:=A09 (by omega)
 rw [this]; rfl
theorem Aj6:Sp n Q l m Q 0=upG (n:Int) l (Q:Int) m n Q:=by
 unfold Sp upG
 refine D7 fun a b ha hb=>?_
 have:upD n Q 0 a b=true:=A05 (.inl hb)
 rw [this]; rfl
theorem Ar3 (N:Nat) (n6:n≤6) (q6:Q≤6) (hN:7<N) (hl:l.length=n*n) (hm:m.length=n*Q) (al:Ag l=true) (am:Ag m=true):∀ (cnt j F:Nat),j+cnt=Q→cnt<F →
 solve.A4.Up.L0 N F (n:Int) (n:Int) l (n:Int) (Q:Int) m (n:Int) (j:Int) (Sp n Q l m j 0) =
 bif Dj (Sp n Q l m Q 0) then some (.tup [.agg [.int .i64 (n:Int),.int .i64 (Q:Int),.ints (.own 112002 tB) .u64 (Sp n Q l m Q 0)],.int .i64 (0:Int)]) else some (Af8 2):=by
 intro cnt
 induction cnt with
 | zero =>
   intro j F hj hF
   obtain ⟨F,rfl⟩:∃ G,F=G+1:=⟨F-1,by omega⟩
   obtain rfl:j=Q:=by omega
   have h36:=A10 n6 q6
   rw [solve.A4.Up.Av,Aw,A09 (by omega),A08,I1 (Aoc _ _) (by rw [Uh]; omega),A04]
   cases Dj (Sp n j l m j 0)<;>rfl
 | succ cnt ih =>
   intro j F hj hF
   obtain ⟨F,rfl⟩:∃ G,F=G+1:=⟨F-1,by omega⟩
   have hr:=Ar2 N n6 q6 hN hl hm al am (show j<Q by omega) F n 0 N (by omega) (by omega)
   rw [Ae4] at hr
   rw [solve.A4.Up.Av,Aw,A05 (show (j:Int)<(Q:Int) by omega),A04]
   exact hr.trans (ih (j+1) F (by omega) (by omega))
end
theorem solve.A4.Up.known:solve.A4.Up.Kn:=solve.A4.Up.Ac (.cons Apb.known (.cons Aa.Bn.own.known (.cons solve.Ek.known (.cons Ah.Div.known (.cons Ah.Finite.known (.cons Ah.Mul.known (.cons Ah.Sub.known .nil))))))) fun r c l p q m n hp=>by
 show ∃ N dv drops,_=some dv∧Wk drops dv (Su (Gx r q (upG c l q m (toNat r) (toNat q))))
 obtain ⟨h1,hn⟩:=Ad.1 (show (Q1 r c l p q m&&decide (n=r))=true from hp)
 obtain ⟨h2,h3⟩:=Ad.1 h1
 obtain ⟨hr,hm⟩:=Ad.1 h2
 obtain ⟨h4,h5⟩:=Ad.1 h3
 obtain ⟨al,am⟩:=Ad.1 h4
 obtain ⟨rfl,rfl⟩:=Au.1 h5
 obtain rfl:=A1u hn
 have s1:=(Fj hr).1
 have s2:=(Fj hm).2
 obtain ⟨R,C,rfl,hC,r6,c6,hl⟩:=Ck hr
 obtain ⟨P,Q,hP,rfl,p6,q6,hl2⟩:=Ck hm
 obtain rfl:R=C:=by omega
 obtain rfl:R=P:=by omega
 have h:=Ar3 (n:=R) (Q:=Q) (l:=l) (m:=m) 8 r6 q6 (by omega) hl hl2 al am Q 0 8 (by omega) (by omega)
 rw [Ae3,Aj6,show ((0:Nat):Int)=0 from rfl] at h
 rw [A06,A06]
 unfold Gx
 cases hf:Dj (upG (R:Int) l (Q:Int) m R Q) with
 | true =>
   rw [hf,A04] at h
   rw [A1r rfl]
   refine ⟨8,.tup [.agg [.int .i64 (R:Int),.int .i64 (Q:Int),.ints (.own 112002 tB) .u64 (upG (R:Int) l (Q:Int) m R Q)],.int .i64 0],[112002],?_,Wk.Gv (.cons (Tf (List.mem_singleton.2 rfl)) (.cons .int .nil))⟩
   rw [solve.A4.Up.ev,s1,s2,A1a,A04,A06,A06]
   exact h
 | false =>
   rw [hf,A08] at h
   rw [A1q (by decide)]
   refine ⟨8,Af8 2,[],?_,N3⟩
   rw [solve.A4.Up.ev,s1,s2,A1a,A04,A06,A06]
   exact h
namespace EqFew
def qr.Fi.Bc:List (Nat × Entry):=[(123,Aa.Mul.spec),(167,Aa.Cb.spec)]
def qr.Fi.E:Env:=Be (Bb qr.Fi.Bc) (fun _=>false) (fun _=>none) (fun _=>none)
theorem qr.Fi.ev (N:Nat) (r c:Int) (l:List Int) (p q:Int) (m:List Int):Bu qr.Fi.E N f98 (Am f98) [.agg [.int .i64 r,.int .i64 c,.ints .arg .u64 l],.agg [.int .i64 p,.int .i64 q,.ints .arg .u64 m]]=bif (((Ap r c l).2.2.2) !=(0:Int)) then some (.tup [.agg [.int .i64 0,.int .i64 0,.nil],.int .i64 ((Ap r c l).2.2.2)]) else bif (Ag ((Ap r c l).2.2.1)&&Ag m) then some (.tup [.agg [.int .i64 ((Fo ((Ap r c l).1) ((Ap r c l).2.1) ((Ap r c l).2.2.1) p q m).1),.int .i64 ((Fo ((Ap r c l).1) ((Ap r c l).2.1) ((Ap r c l).2.2.1) p q m).2.1),.ints .fresh .u64 ((Fo ((Ap r c l).1) ((Ap r c l).2.1) ((Ap r c l).2.2.1) p q m).2.2.1)],.int .i64 ((Fo ((Ap r c l).1) ((Ap r c l).2.1) ((Ap r c l).2.2.1) p q m).2.2.2)]) else none:=by kernel_rfl
abbrev _root_.Go.Proofs.S1.qr.Fi.Kn:=A7 prog 98 qr.Fi.spec
theorem qr.Fi.Ac (hk:A1 prog qr.Fi.Bc) (h:Hyp qr.Fi.E f98 qr.Fi.ts qr.Fi.pre qr.Fi.out):qr.Fi.Kn :=
 Al (A2 hk _ _ _) func98 (by kernel_rfl) (by kernel_rfl) h
end EqFew
open EqSol EqFew
theorem Y2 {n i:Nat} (h:i<n):(List.range n).drop i=i::(List.range n).drop (i+1):=by
 rw [List.drop_eq_getElem_cons (by rw [A17]; exact h),List.getElem_range]
theorem Gt {r c:Int} {l:List Int} (h:B4 r c l=0):A0 r c l=true∧Dj l=true:=by
 unfold B4 at h
 by_cases h1:A0 r c l=true
 ·rw [A1r h1] at h
  by_cases h2:Dj l=true
  ·exact ⟨h1,h2⟩
  ·rw [A1q h2] at h; exact absurd h (by decide)
 ·rw [A1q h1] at h; exact absurd h (by decide)
theorem Aai {r c:Int} {l:List Int} (h1:A0 r c l=true) (h2:Dj l=true):B4 r c l=0:=by unfold B4; rw [A1r h1,A1r h2]
theorem Pa {x:Int} (h:x≠0):(x !=(0:Int))=true:=by simpa using h
theorem E0 {x:Int} (h:x=0):(x !=(0:Int))=false:=by rw [h]; rfl
theorem Ajp (N:Nat) {n:Nat} {l:List Int} (n6:n≤6) (hl:l.length=n*n) (al:Ag l=true):∀ (cnt i F:Nat),i+cnt=n→cnt<F →
 solve.check.L0 (N+4) F (n:Int) (n:Int) l (i:Int)=some (.int .i64 (if ((List.range n).drop i).any (fun i:Nat=>decide (Bk (D0 (n:Int) l (i:Int) (i:Int))=0))=true then 5 else 0)):=by
 intro cnt
 induction cnt with
 | zero =>
   intro i F hi hF
   obtain ⟨F,rfl⟩:∃ G,F=G+1:=⟨F-1,by omega⟩
   rw [solve.check.Av,Aw,A09 (by omega),A08,A1i (by rw [A17]; omega)]; rfl
 | succ cnt ih =>
   intro i F hi hF
   obtain ⟨F,rfl⟩:∃ G,F=G+1:=⟨F-1,by omega⟩
   obtain ⟨e1,g1,g2⟩:=Ib (R:=(n:Int)) (C3 n6 n6 hl (show i<n by omega) (show i<n by omega))
   have hx:getD l (toNat ((i:Int)*(n:Int)+(i:Int))) 0=D0 (n:Int) l (i:Int) (i:Int):=rfl
   rw [solve.check.Av,Aw,A05 (show (i:Int)<(n:Int) by omega),A04,e1,A05 g1,A05 g2,A1a,A04,hx,Fx al,A04,Y2 (by omega),List.any_cons]
   by_cases hk:Bk (D0 (n:Int) l (i:Int) (i:Int))=0
   ·have e:(Bk (D0 (n:Int) l (i:Int) (i:Int))==(0:Int))=true:=by rw [hk]; rfl
    rw [e,A04,A05 hk]; rfl
   ·have e:(Bk (D0 (n:Int) l (i:Int) (i:Int))==(0:Int))=false:=by simpa using hk
    rw [e,A08,A09 hk,Bool.false_or,An (by omega) (by omega)]
    exact ih (i+1) F (by omega) (by omega)
theorem Aum {r c p:Int}:((r !=c)||(r !=p))=decide (r≠c∨r≠p):=by
 rw [A1k]; simp
theorem solve.check.known:solve.check.Kn:=solve.check.Ac (.cons Cu.Check.known (.cons soft.Kind.known .nil)) fun r c l p q m hp=>by
 obtain ⟨al,am⟩:=Ad.1 (show (Ag l&&Ag m)=true from hp)
 refine ⟨14,solve.check.out [.i r,.i c,.l l,.i p,.i q,.l m],[],?_,.int⟩
 show _=some (DV.int .i64 (Ld r c l p q m))
 rw [show (14:Nat)=10+4 from rfl,solve.check.ev,al,A04,am,A04,Aum]
 unfold Ld
 by_cases h1:B4 r c l=0
 ·rw [E0 h1,A08,A1q (by rw [h1]; decide)]
  by_cases h2:B4 p q m=0
  ·rw [E0 h2,A08,A1q (by rw [h2]; decide)]
   by_cases h3:r≠c∨r≠p
   ·rw [A05 h3,A04,A1r h3]
   ·rw [A09 h3,A08,A1q h3]
    obtain rfl:r=c:=Decidable.byContradiction fun h=>h3 (.inl h)
    obtain ⟨R,C,rfl,hC,r6,c6,hl⟩:=Ck (Gt h1).1
    obtain rfl:R=C:=by omega
    rw [A06]
    exact Ajp 10 r6 hl al R 0 14 (by omega) (by omega)
  ·rw [Pa h2,A04,A1r h2]
 ·rw [Pa h1,A04,A1r h1]
theorem Na {r c:Int} {l:List Int} {p q:Int} {m:List Int} (h:Ld r c l p q m=0):A0 r c l=true∧A0 p q m=true∧r=c∧r=p:=by
 unfold Ld at h
 by_cases h1:B4 r c l=0
 ·rw [A1q (by rw [h1]; decide)] at h
  by_cases h2:B4 p q m=0
  ·rw [A1q (by rw [h2]; decide)] at h
   by_cases h3:r≠c∨r≠p
   ·rw [A1r h3] at h; exact absurd h (by decide)
   ·exact ⟨(Gt h1).1,(Gt h2).1,Decidable.byContradiction fun h=>h3 (.inl h),Decidable.byContradiction fun h=>h3 (.inr h)⟩
  ·rw [A1r h2] at h; exact absurd h h2
 ·rw [A1r h1] at h; exact absurd h h1
theorem solve.Cq.known:solve.Cq.Kn:=solve.Cq.Ac (.cons solve.check.known (.cons solve.A4.Up.known .nil)) fun r c l p q m hp=>by
 have hp:(Ag l&&Ag m)=true:=hp
 show ∃ N dv drops,_=some dv∧Wk drops dv (Su (Sz r c l p q m))
 unfold Sz
 by_cases h:Ld r c l p q m=0
 ·obtain ⟨h1,h2,h3,h4⟩:=Na h
  have ht:Q1 r c l p q m=true:=Ad.2 ⟨Ad.2 ⟨h1,h2⟩,Ad.2 ⟨hp,Au.2 ⟨h3,h4⟩⟩⟩
  rw [A1q (by rw [h]; decide)]
  exact ⟨0,_,[],by rw [solve.Cq.ev,hp,A04,E0 h,A08,ht,A05 rfl]; rfl,Pq⟩
 ·rw [A1r h]
  exact ⟨0,_,[],by rw [solve.Cq.ev,hp,A04,Pa h,A04]; rfl,N3⟩
theorem Aov {b:Nat} {n:Int} (h:b<2^64):(G1 b n).1<2^64:=by
 unfold G1
 by_cases h4:Ao b=4
 ·rw [A1r h4]; exact (by decide:Qw<2^64)
 rw [A1q h4]
 by_cases h3:Ao b=3∨Ao b=0
 ·rw [A1r h3]; exact h
 rw [A1q h3]
 exact Un _ _ _
theorem Ig {b n:Int} (h:Ak b=true):Ak (B3 b n)=true:=by
 obtain ⟨x,rfl,hx⟩:=Bo h
 exact Ce (Aov (by rw [A06]; exact hx))
theorem Aan:∀ (l:List Int) (m:Nat),m<2^64→Aao l m<2^64
 | [],m,h=>h
 | x::l,m,h=>by
   unfold Aao
   split
   ·exact (by decide:Qw<2^64)
   ·have h2:Hj x.toNat<2^63:=Acs x.toNat
    exact Aan l _ (by omega)
theorem Oo (l:List Int):Ak (Bl l)=true:=Ce (Aan l 0 (by decide))
theorem Tu (x:Int):Ak (Jt x)=true:=Ce (Nat.lt_trans (Acs x.toNat) (by decide))
theorem Am6 (N:Nat) {d:List Int} (hd:Cy d=true) (h7:d.length≤1000):∀ (cnt i F:Nat),i+cnt=d.length→cnt<F →
 solve.Flat.L1 N F d (i:Int)=some (.tup [.bool ((d.drop i).any fun x=>!(decide (Tn (B3 (Bl d) (-40)) x<0))),.int .i64 0]):=by
 obtain ⟨_,hu⟩:=Ip hd
 intro cnt
 induction cnt with
 | zero =>
   intro i F hi hF
   obtain ⟨F,rfl⟩:∃ G,F=G+1:=⟨F-1,by omega⟩
   rw [solve.Flat.B6,Aw,A09 (by omega),A08,A1i (by omega)]; rfl
 | succ cnt ih =>
   intro i F hi hF
   obtain ⟨F,rfl⟩:∃ G,F=G+1:=⟨F-1,by omega⟩
   rw [solve.Flat.B6,Aw,A05 (show (i:Int)<(d.length:Int) by omega),A04,A05 (show (0:Int)≤(i:Int) by omega),A1a,A04,A06,A05 (show i<d.length by omega),A04,
    Ig (Oo d),hu i (by omega),A1a,A04,Hh (by omega),List.any_cons]
   cases decide (Tn (B3 (Bl d) (-40)) (d.getD i 0)<0) with
   | false=>rfl
   | true =>
     rw [A13,A08,Bool.false_or,An (by omega) (by omega)]
     exact ih (i+1) F (by omega) (by omega)
theorem At1 (c:Int) (l:List Int) (n:Nat):Ag (K4 c l n)=true:=Au.2 fun x hx=>by
 obtain ⟨j,_,rfl⟩:=List.mem_map.1 hx
 exact Tu _
theorem I6 (c:Int) (l:List Int) (n:Nat):(K4 c l n).length=n:=by unfold K4; rw [A2a,A17]
theorem Am7 (N:Nat) {R C:Nat} {l:List Int} (r6:R≤6) (c6:C≤6) (hN:7<N) (hl:l.length=R*C) (al:Ag l=true):∀ (cnt i F:Nat),i+cnt=min R C→cnt<F →
 solve.Flat.L0 N F (R:Int) (C:Int) l (i:Int) (K4 (C:Int) l i)=some (.tup [.bool (Aqo (K4 (C:Int) l (min R C))),.int .i64 0]):=by
 intro cnt
 induction cnt with
 | zero =>
   intro i F hi hF
   obtain ⟨F,rfl⟩:∃ G,F=G+1:=⟨F-1,by omega⟩
   obtain rfl:i=min R C:=by omega
   have hlt:(Bd (((min R C:Nat)):Int) (R:Int)&&Bd (((min R C:Nat)):Int) (C:Int))=false:=by
    rw [Aw,Aw,Bool.and_eq_false_iff,A1n,A1n]; omega
   have ok:=I1 (At1 (C:Int) l (min R C)) (by rw [I6]; omega)
   have sp:Ds (Bl (K4 (C:Int) l (min R C))) (-40:Int)=true:=Ad.2 ⟨Oo _,Au.2 (by omega)⟩
   rw [solve.Flat.Av,hlt,A08,ok,A04,sp,A04]
   exact Am6 N ok (by rw [I6]; omega) (min R C) 0 N (by rw [I6]; omega) (by omega)
 | succ cnt ih =>
   intro i F hi hF
   obtain ⟨F,rfl⟩:∃ G,F=G+1:=⟨F-1,by omega⟩
   obtain ⟨e1,g1,g2⟩:=Ib (R:=(R:Int)) (C3 r6 c6 hl (show i<R by omega) (show i<C by omega))
   have hx:getD l (toNat ((i:Int)*(C:Int)+(i:Int))) 0=D0 (C:Int) l (i:Int) (i:Int):=rfl
   rw [solve.Flat.Av,Aw,Aw,A05 (show (i:Int)<(R:Int) by omega),A05 (show (i:Int)<(C:Int) by omega),A1a,A04,e1,A05 g1,A05 g2,A1a,A04,hx,Fx al,A04,
    I6,A05 (show i+1≤Gw by unfold Gw; omega),A04,An (by omega) (by omega)]
   have:=ih (i+1) F (by omega) (by omega)
   unfold K4 at this ⊢
   rw [Ih] at this
   exact this
theorem solve.Flat.known:solve.Flat.Kn:=solve.Flat.Ac (.cons Cu.Check.known (.cons compare.G7.known (.cons compare.Lh.known (.cons Ah.Br.known (.cons Ah.Bt.known .nil))))) fun r c l hp=>by
 have hp:Ag l=true:=hp
 refine ⟨8,solve.Flat.out [.i r,.i c,.l l],[],?_,Wk.Gv (.cons .bool (.cons .int .nil))⟩
 show _=some (DV.tup [.bool (Jv r c l).1,.int .i64 (Jv r c l).2])
 rw [solve.Flat.ev,hp,A04]
 unfold Jv Wq
 by_cases h1:B4 r c l=0
 ·obtain ⟨R,C,rfl,rfl,r6,c6,hl⟩:=Ck (Gt h1).1
  rw [E0 h1,A08,A1q (by rw [h1]; decide),A06,A06]
  exact Am7 8 r6 c6 (by omega) hl hp (min R C) 0 8 (by omega) (by omega)
 ·rw [Pa h1,A04,A1r h1]
theorem N6 {r c:Int} {l:List Int} (al:Ag l=true) (x y a b:Int):Ag (Az r c l x y a b).2.2.1=true:=by
 unfold Az
 split
 ·split
  ·dsimp only
   exact Ia fun i k=>Fx al
  ·exact Au.2 fun x h=>by cases h
 ·exact Au.2 fun x h=>by cases h
theorem Rz {r c:Int} {l:List Int} (al:Ag l=true):Ag (Ap r c l).2.2.1=true:=by
 unfold Ap
 split
 ·dsimp only
  exact Ia fun i k=>Fx al
 ·exact Au.2 fun x h=>by cases h
theorem Vu (x y:List Int):Ak (Ms x y)=true:=Ce (Aeg x y 0 (by decide))
theorem Ad2 (r c:Int) (l:List Int) (p q:Int) (m:List Int):Ag (Fo r c l p q m).2.2.1=true:=by
 unfold Fo
 split
 ·split
  ·dsimp only
   exact Ia fun i k=>Vu _ _
  ·exact Au.2 fun x h=>by cases h
 ·exact Au.2 fun x h=>by cases h
theorem Mw (r c:Int) (l:List Int) (p q:Int) (m:List Int):Ag (E8 r c l p q m).2.2.1=true:=by
 unfold E8
 split
 ·exact Au.2 fun x h=>by cases h
 ·exact Ad2 _ _ _ _ _ _
theorem qr.Fi.known:qr.Fi.Kn:=qr.Fi.Ac (.cons Aa.Mul.known (.cons Aa.Cb.known .nil)) fun r c l p q m hp=>by
 obtain ⟨al,am⟩:=Ad.1 (show (Ag l&&Ag m)=true from hp)
 show ∃ N dv drops,_=some dv∧Wk drops dv (Su (E8 r c l p q m))
 unfold E8
 by_cases h:(Ap r c l).2.2.2=0
 ·rw [A1q (by rw [h]; decide)]
  exact ⟨0,_,[],by rw [qr.Fi.ev,E0 h,A08,Rz al,am]; rfl,Pq⟩
 ·rw [A1r h]
  exact ⟨0,_,[],by rw [qr.Fi.ev,Pa h,A04]; rfl,N3⟩
namespace EqQr
def qr.down.hint:Nat→Option Bg
 | 0=>some { keep:=[1,2,5,6,7],objs:=[(0,6,100006,.recs 214 2 []),(6,2,106002,.ints 37 .u64 [])],boxes:=[1,2,5] }
 | 2=>some { keep:=[1,2,5,6,7,8,9,12],objs:=[(6,2,106002,.ints 37 .u64 []),(0,6,100006,.recs 214 2 [])],boxes:=[1,2,5] }
 | _=>none
def qr.down.Bc:List (Nat × Entry):=[(219,Ar.Apply.spec),(245,Ar.Dw.spec),(191,Aa.D3.spec)]
def qr.down.E:Env:=Be (Bb qr.down.Bc) (fun n=>Nat.beq n 46) qr.down.hint (fun _=>none)
section
variable (N M0 M:Nat) (r c:Int) (l:List Int) (p7:Int) (p6:List (List DV)) (p2_2:List Int) (p12_1:Int) (p2_1:List Int) (p7_1:Int) (p8:List Int) (p9:Int) (p6_1:List (List DV))
def qr.down.L0:Option DV:=Bx qr.down.E N f217 (Am f217) [1,1,1,0,1,0,0,1,0,0,1,1,1,1,0,1,0] [M0] M ⟨E5 88 [(1,.ptr 1 0 0),(2,.ptr 2 0 0),(5,.ptr 5 0 0),(6,.oref 100006),(7,.int .i64 p7_1),(8,.ints .fresh .u64 p8),(9,.int .u64 p9),(12,.int .i64 p12_1)],[(1,false,.box [.int .i64 r,.int .i64 c,.ints .arg .u64 l]),(2,false,.box [.int .i64 0,.int .i64 0,.nil]),(5,false,.box [.int .i64 r,.int .i64 c,.oref 106002]),(106002,false,.ints 37 .u64 p2_1),(100006,false,.recs 214 2 p6_1)]⟩
def qr.down.L1:Option DV:=Bx qr.down.E N f217 (Am f217) [1,1,1,0,1,0] [] M ⟨E5 88 [(1,.ptr 1 0 0),(2,.ptr 2 0 0),(5,.ptr 5 0 0),(6,.oref 100006),(7,.int .i64 p7)],[(1,false,.box [.int .i64 r,.int .i64 c,.ints .arg .u64 l]),(2,false,.box [.int .i64 0,.int .i64 0,.nil]),(5,false,.box [.int .i64 r,.int .i64 c,.oref 106002]),(100006,false,.recs 214 2 p6),(106002,false,.ints 37 .u64 p2_2)]⟩
def qr.down.L2:Option DV:=Bx qr.down.E N f217 (Am f217) [1,1,1,0,1,0] [] M ⟨E5 88 [(1,.ptr 1 0 0),(2,.ptr 2 0 0),(5,.ptr 5 0 0),(6,.oref 100006),(7,.int .i64 0)],[(1,false,.box [.int .i64 r,.int .i64 c,.ints .arg .u64 l]),(2,false,.box [.int .i64 0,.int .i64 0,.nil]),(5,false,.box [.int .i64 r,.int .i64 c,.ints .arg .u64 l]),(100006,false,.recs 214 2 [])]⟩
theorem qr.down.Av:qr.down.L0 N M0 (M+1) r c l p12_1 p2_1 p7_1 p8 p9 p6_1=bif (Bd p12_1 r) then bif ((decide (0≤(Ab ((Ab (p12_1*c))+p7_1))))&&(decide ((Ab ((Ab (p12_1*c))+p7_1))<(length p2_1:Int)))) then bif (decide ((toNat (Ab ((Ab (p12_1*c))+p7_1)))<(length p2_1))) then qr.down.L0 N M0 M r c l (Ab (p12_1+1)) (List.set p2_1 (toNat (Ab ((Ab (p12_1*c))+p7_1))) 0) p7_1 p8 p9 p6_1 else none else none else bif (decide ((length p6_1)+1≤Ags)) then qr.down.L1 N M0 r c l (Ab (p7_1+1)) (p6_1++[[.ints .arg .u64 p8,.int .u64 p9]]) p2_1 else none:=by kernel_rfl
theorem qr.down.B6:qr.down.L1 N (M+1) r c l p7 p6 p2_2=bif ((Bd p7 c)&&(Bd p7 (Ab (r-1)))) then bif (Hi r c p2_2 p7&&Co (0≤p7∧p7≤r)) then bif (Cy (C0 c p2_2 p7 p7 (toNat (r-p7)))) then bif (((Cr (C0 c p2_2 p7 p7 (toNat (r-p7)))).2.2.2) !=(0:Int)) then some (.tup [.agg [.int .i64 0,.int .i64 0,.nil],.nil,.int .i64 2]) else bif (((A0 r c p2_2&&Ic r c p7 p7 ((Cr (C0 c p2_2 p7 p7 (toNat (r-p7)))).1))&&(Ag p2_2&&Ag ((Cr (C0 c p2_2 p7 p7 (toNat (r-p7)))).1)))&&Ak ((Cr (C0 c p2_2 p7 p7 (toNat (r-p7)))).2.1)) then bif ((decide (0≤(Ab ((Ab (p7*c))+p7))))&&(decide ((Ab ((Ab (p7*c))+p7))<(length (Fk (toNat r) (toNat c) p2_2 p7 p7 ((Cr (C0 c p2_2 p7 p7 (toNat (r-p7)))).1) ((Cr (C0 c p2_2 p7 p7 (toNat (r-p7)))).2.1)):Int)))) then bif (decide ((toNat (Ab ((Ab (p7*c))+p7)))<(length (Fk (toNat r) (toNat c) p2_2 p7 p7 ((Cr (C0 c p2_2 p7 p7 (toNat (r-p7)))).1) ((Cr (C0 c p2_2 p7 p7 (toNat (r-p7)))).2.1))))) then qr.down.L0 N M N r c l (Ab (p7+1)) (List.set (Fk (toNat r) (toNat c) p2_2 p7 p7 ((Cr (C0 c p2_2 p7 p7 (toNat (r-p7)))).1) ((Cr (C0 c p2_2 p7 p7 (toNat (r-p7)))).2.1)) (toNat (Ab ((Ab (p7*c))+p7))) ((Cr (C0 c p2_2 p7 p7 (toNat (r-p7)))).2.2.1)) p7 ((Cr (C0 c p2_2 p7 p7 (toNat (r-p7)))).1) ((Cr (C0 c p2_2 p7 p7 (toNat (r-p7)))).2.1) p6 else none else none else none else none else none else some (.tup [.agg [.int .i64 r,.int .i64 c,.ints (.own 106002 37) .u64 p2_2],.recs (.own 100006 214) 2 p6,.int .i64 0]) :=
 Eq.trans (by kernel_rfl)
 (Ax (Oj (Bd p7 c)) (Ax (Oj (Bd p7 c)) (Ax (L7 (Bd p7 c)) (Ax (L7 (Bd p7 c)) (Ax (Ac2 (Bd p7 c)) (Ax (Th (Bd p7 c)) (Cp (tt1 (Bd p7 c) (Bd p7 (Ab (r-1)))) rfl rfl)))))))
theorem qr.down.Fl:qr.down.L2 N (M+1) r c l=bif ((Bd 0 c)&&(Bd 0 (Ab (r-1)))) then bif (Hi r c l 0&&Co (0≤(0:Int)∧(0:Int)≤r)) then bif (Cy (C0 c l 0 0 (toNat (r-0)))) then bif (((Cr (C0 c l 0 0 (toNat (r-0)))).2.2.2) !=(0:Int)) then some (.tup [.agg [.int .i64 0,.int .i64 0,.nil],.nil,.int .i64 2]) else bif (((A0 r c l&&Ic r c 0 0 ((Cr (C0 c l 0 0 (toNat (r-0)))).1))&&(Ag l&&Ag ((Cr (C0 c l 0 0 (toNat (r-0)))).1)))&&Ak ((Cr (C0 c l 0 0 (toNat (r-0)))).2.1)) then bif ((decide (0≤(Ab ((Ab ((0:Int)*c))+0))))&&(decide ((Ab ((Ab ((0:Int)*c))+0))<(length (Fk (toNat r) (toNat c) l 0 0 ((Cr (C0 c l 0 0 (toNat (r-0)))).1) ((Cr (C0 c l 0 0 (toNat (r-0)))).2.1)):Int)))) then bif (decide ((toNat (Ab ((Ab ((0:Int)*c))+0)))<(length (Fk (toNat r) (toNat c) l 0 0 ((Cr (C0 c l 0 0 (toNat (r-0)))).1) ((Cr (C0 c l 0 0 (toNat (r-0)))).2.1))))) then qr.down.L0 N M N r c l 1 (List.set (Fk (toNat r) (toNat c) l 0 0 ((Cr (C0 c l 0 0 (toNat (r-0)))).1) ((Cr (C0 c l 0 0 (toNat (r-0)))).2.1)) (toNat (Ab ((Ab ((0:Int)*c))+0))) ((Cr (C0 c l 0 0 (toNat (r-0)))).2.2.1)) 0 ((Cr (C0 c l 0 0 (toNat (r-0)))).1) ((Cr (C0 c l 0 0 (toNat (r-0)))).2.1) [] else none else none else none else none else none else some (.tup [.agg [.int .i64 r,.int .i64 c,.ints .arg .u64 l],.recs (.own 100006 214) 2 [],.int .i64 0]) :=
 Eq.trans (by kernel_rfl)
 (Ax (Oj (Bd 0 c)) (Ax (Oj (Bd 0 c)) (Ax (L7 (Bd 0 c)) (Ax (L7 (Bd 0 c)) (Ax (Ac2 (Bd 0 c)) (Ax (Th (Bd 0 c)) (Cp (tt1 (Bd 0 c) (Bd 0 (Ab (r-1)))) rfl rfl)))))))
theorem qr.down.ev:Bu qr.down.E N f217 (Am f217) [.agg [.int .i64 r,.int .i64 c,.ints .arg .u64 l]] =
 qr.down.L2 N N r c l:=by kernel_rfl
end
abbrev _root_.Go.Proofs.S1.qr.down.Kn:=A7 prog 217 qr.down.spec
theorem qr.down.Ac (hk:A1 prog qr.down.Bc) (h:Hyp qr.down.E f217 qr.down.ts qr.down.pre qr.down.out):qr.down.Kn :=
 Al (A2 hk _ _ _) func217 (by kernel_rfl) (by kernel_rfl) h
def qr.By.hint:Nat→Option Bg
 | 0=>some { keep:=[2,3,5,6],objs:=[],boxes:=[2,3] }
 | _=>none
def qr.By.Bc:List (Nat × Entry):=[(86,Cu.Check.spec),(219,Ar.Apply.spec),(218,Aa.Ew.spec),(217,qr.down.spec),(150,Ah.Finite.spec)]
def qr.By.E:Env:=Ws (Bb qr.By.Bc) (fun _=>false) qr.By.hint (fun _=>none) (Ahr [(22,[.s .u64]),(37,[.i .u64])])
section
variable (N M:Nat) (r c:Int) (l:List Int) (p6:Int) (p2:List Int)
def qr.By.L0:Option DV:=Bx qr.By.E N f166 (Am f166) [1,0,1,1,1,1,1,1,0,0] [] M ⟨E5 81 [(2,.ptr 2 0 0),(3,.ptr 3 0 0),(5,.recs .fresh 2 (Lb r c ([]++l))),(6,.int .i64 p6)],[(2,false,.box [.int .i64 ((Nr r).1),.int .i64 ((Nr r).2.1),.ints .fresh .u64 p2]),(3,false,.box [.int .i64 ((Gk r c ([]++l)).1),.int .i64 ((Gk r c ([]++l)).2.1),.ints .arg .u64 ((Gk r c ([]++l)).2.2.1)])]⟩
theorem qr.By.Av:qr.By.L0 N (M+1) r c l p6 p2=bif (Bd p6 0) then bif (Cy p2) then bif ((!(Dj p2))||(Cy ((Gk r c ([]++l)).2.2.1))) then bif ((!(Dj p2))||(!(Dj ((Gk r c ([]++l)).2.2.1)))) then some (.tup [.agg [.int .i64 0,.int .i64 0,.nil],.agg [.int .i64 0,.int .i64 0,.nil],.int .i64 2]) else some (.tup [.agg [.int .i64 ((Nr r).1),.int .i64 ((Nr r).2.1),.ints .fresh .u64 p2],.agg [.int .i64 ((Gk r c ([]++l)).1),.int .i64 ((Gk r c ([]++l)).2.1),.ints .arg .u64 ((Gk r c ([]++l)).2.2.1)],.int .i64 0]) else none else none else bif ((decide (0≤p6))&&(decide (p6<(length (Lb r c ([]++l)):Int)))) then bif (isC (.s .u64) (getD (getD (Lb r c ([]++l)) (toNat p6) []) 0 .undef)) then bif ((decide (0≤p6))&&(decide (p6<(length (Lb r c ([]++l)):Int)))) then bif (isC (.i .u64) (getD (getD (Lb r c ([]++l)) (toNat p6) []) 1 .undef)) then bif (((A0 ((Nr r).1) ((Nr r).2.1) p2&&Ic ((Nr r).1) ((Nr r).2.1) p6 0 (Mc (getD (getD (Lb r c ([]++l)) (toNat p6) []) 0 .undef)))&&(Ag p2&&Ag (Mc (getD (getD (Lb r c ([]++l)) (toNat p6) []) 0 .undef))))&&Ak (Aac (getD (getD (Lb r c ([]++l)) (toNat p6) []) 1 .undef))) then qr.By.L0 N M r c l (Ab (p6-1)) (Fk (toNat ((Nr r).1)) (toNat ((Nr r).2.1)) p2 p6 0 (Mc (getD (getD (Lb r c ([]++l)) (toNat p6) []) 0 .undef)) (Aac (getD (getD (Lb r c ([]++l)) (toNat p6) []) 1 .undef))) else none else none else none else none else none :=
 Eq.trans (by kernel_rfl)
 (Ec (Ec (Ax (Aaw (Dj p2)) (Ax (Q0 (Dj p2)) (Cp (Aol (Dj p2) (Cy ((Gk r c ([]++l)).2.2.1))) (Ax (Q0 (Dj p2)) (Ax (Ac1 (Dj p2)) (Cp (Asa (Dj p2) (Dj ((Gk r c ([]++l)).2.2.1))) rfl rfl))) rfl))) rfl) (Cp (I9 (decide (0≤p6)) (decide (p6<(length (Lb r c ([]++l)):Int)))) (Cp (Cd (isC (.s .u64) (getD (getD (Lb r c ([]++l)) (toNat p6) []) 0 .undef))) (Cp (I9 (decide (0≤p6)) (decide (p6<(length (Lb r c ([]++l)):Int)))) (Cp (Cd (isC (.i .u64) (getD (getD (Lb r c ([]++l)) (toNat p6) []) 1 .undef))) (Cp (Cd (((A0 ((Nr r).1) ((Nr r).2.1) p2&&Ic ((Nr r).1) ((Nr r).2.1) p6 0 (Mc (getD (getD (Lb r c ([]++l)) (toNat p6) []) 0 .undef)))&&(Ag p2&&Ag (Mc (getD (getD (Lb r c ([]++l)) (toNat p6) []) 0 .undef))))&&Ak (Aac (getD (getD (Lb r c ([]++l)) (toNat p6) []) 1 .undef)))) rfl rfl) rfl) rfl) rfl) rfl))
theorem qr.By.ev:Bu qr.By.E N f166 (Am f166) [.agg [.int .i64 r,.int .i64 c,.ints .arg .u64 l]]=bif (Ag l) then bif ((B4 r c l) !=(0:Int)) then some (.tup [.agg [.int .i64 0,.int .i64 0,.nil],.agg [.int .i64 0,.int .i64 0,.nil],.int .i64 (B4 r c l)]) else bif (decide (0+(length l)≤Gw)) then bif ((A0 r c ([]++l)&&Dj ([]++l))&&Ag ([]++l)) then bif (((Gk r c ([]++l)).2.2.2) !=(0:Int)) then some (.tup [.agg [.int .i64 0,.int .i64 0,.nil],.agg [.int .i64 0,.int .i64 0,.nil],.int .i64 ((Gk r c ([]++l)).2.2.2)]) else qr.By.L0 N N r c l (Ab ((length (Lb r c ([]++l)):Int)-1)) ((Nr r).2.2.1) else none else none else none :=
 Eq.trans (by kernel_rfl)
 (Ec (Ec rfl (Cp (Cd (decide (0+(length l)≤Gw))) (Cp (Cd ((A0 r c ([]++l)&&Dj ([]++l))&&Ag ([]++l))) rfl rfl) rfl)) rfl)
end
abbrev _root_.Go.Proofs.S1.qr.By.Kn:=A7 prog 166 qr.By.spec
theorem qr.By.Ac (hk:A1 prog qr.By.Bc) (h:Hyp qr.By.E f166 qr.By.ts qr.By.pre qr.By.out):qr.By.Kn :=
 Al (X6 hk _ _ _ _) func166 (by kernel_rfl) (by kernel_rfl) h
end EqQr
open EqQr
def clS (R C:Nat) (l:List Int) (j:Nat) (x:Int) (i:Nat):List Int:=Cx R C fun a b=>if b=j∧j≤a∧a<i then (if a=j then x else 0) else D0 (C:Int) l (a:Int) (b:Int)
section
variable {R C j:Nat} {l:List Int} {x:Int}
theorem Alb (i:Nat):(clS R C l j x i).length=R*C:=Ca _ _ _
theorem Ww (hl:l.length=R*C) (hj:j<C):List.set l (j*C+j) x=clS R C l j x (j+1):=by
 unfold clS
 conv=>lhs; rw [← Ab9 hl]
 rw [Vn hj]
 refine D7 fun a b ha hb=>?_
 by_cases h:a=j∧b=j
 ·rw [A1r h,A1r (by omega),A1r h.1]
 ·rw [A1q h,A1q (by omega)]
theorem Ala {i:Nat} (hj:j<C) (hi:j<i):List.set (clS R C l j x i) (i*C+j) 0=clS R C l j x (i+1):=by
 unfold clS
 rw [Vn hj]
 refine D7 fun a b ha hb=>?_
 by_cases h:a=i∧b=j
 ·rw [A1r h,A1r (by omega),A1q (by omega)]
 ·rw [A1q h]
  by_cases h2:b=j∧j≤a∧a<i
  ·rw [A1r h2,A1r (show b=j∧j≤a∧a<i+1 by omega)]
  ·rw [A1q h2,A1q (by omega)]
theorem Alc:clS R C l j x R=Nt R C l j x:=by
 unfold clS Nt
 refine D7 fun a b ha hb=>?_
 by_cases h:b=j∧j≤a
 ·rw [A1r h,A1r (by omega)]
 ·rw [A1q h,A1q (by omega)]
end
theorem Ze {C i j:Nat} (hi:i≤6) (hC:C≤6) (hj:j≤6):Ab (Ab ((i:Int)*(C:Int))+(j:Int))=((i*C+j:Nat):Int):=by
 have h36:=A10 hi hC
 rw [An (x:=(i:Int)*(C:Int)) (by rw [← A1p]; omega) (by rw [← A1p]; omega),← A1p,An (by omega) (by omega)]
 omega
section
variable {R C:Nat}
theorem Aad (N M0:Nat) (l0:List Int) (r6:R≤6) (c6:C≤6) {j:Nat} (hj:j<C) (l:List Int) (x:Int) (v:List Int) (t:Int) (ms:List (List DV)) (hms:ms.length≤100):∀ (cnt i F:Nat),i+cnt=R→j<i→cnt<F →
 qr.down.L0 N M0 F (R:Int) (C:Int) l0 (i:Int) (clS R C l j x i) (j:Int) v t ms=qr.down.L1 N M0 (R:Int) (C:Int) l0 ((j+1:Nat):Int) (ms++[[.ints .arg .u64 v,.int .u64 t]]) (Nt R C l j x):=by
 intro cnt
 induction cnt with
 | zero =>
   intro i F hi hji hF
   obtain ⟨F,rfl⟩:∃ G,F=G+1:=⟨F-1,by omega⟩
   obtain rfl:i=R:=by omega
   rw [qr.down.Av,Aw,A09 (by omega),A08,A05 (by unfold Ags; omega),A04,An (by omega) (by omega),Alc]
   rfl
 | succ cnt ih =>
   intro i F hi hji hF
   obtain ⟨F,rfl⟩:∃ G,F=G+1:=⟨F-1,by omega⟩
   have hlen:=Alb (R:=R) (C:=C) (l:=l) (j:=j) (x:=x) i
   have hp:=M6 (show i<R by omega) hj
   rw [qr.down.Av,Aw,A05 (by omega),A04,Ze (by omega) c6 (by omega),A05 (by omega),A05 (by omega),A1a,A04,A06,A05 (by omega),A04,Ala hj hji,An (by omega) (by omega)]
   exact ih (i+1) F (by omega) (by omega) (by omega)
def Td (r c:Nat) (ms:List (List DV)):Option (List Int × List (List Int × Int))→DV
 | none=>.tup [.agg [.int .i64 0,.int .i64 0,.nil],.nil,.int .i64 2]
 | some x=>.tup [.agg [.int .i64 (r:Int),.int .i64 (c:Int),.ints (.own 106002 tB) .u64 x.1],.recs (.own 100006 tMR) 2 (ms++Zf x.2),.int .i64 0]
theorem Ang (N:Nat) (hN:7<N) (l0:List Int) (r6:R≤6) (c6:C≤6):∀ (cnt j F:Nat) (l:List Int) (ms:List (List DV)),j+cnt=It R C→cnt<F→l.length=R*C→Ag l=true→ms.length=j →
 qr.down.L1 N F (R:Int) (C:Int) l0 (j:Int) ms l=some (Td R C ms (Ns R C cnt j l)):=by
 intro cnt
 induction cnt with
 | zero =>
   intro j F l ms hj hF hl al hms
   obtain ⟨F,rfl⟩:∃ G,F=G+1:=⟨F-1,by omega⟩
   unfold It at hj
   have hlt:(Bd (j:Int) (C:Int)&&Bd (j:Int) (Ab ((R:Int)-1)))=false:=by
    rw [Aw,Aw,An (by omega) (by omega),Bool.and_eq_false_iff,A1n,A1n]; omega
   rw [qr.down.B6,hlt,A08]
   simp [Ns,Td,Zf]
 | succ cnt ih =>
   intro j F l ms hj hF hl al hms
   obtain ⟨F,rfl⟩:∃ G,F=G+1:=⟨F-1,by omega⟩
   have hj0:=hj
   unfold It at hj
   have hr:=Kj r6 c6 hl
   have hlt:(Bd (j:Int) (C:Int)&&Bd (j:Int) (Ab ((R:Int)-1)))=true:=by
    rw [Aw,Aw,An (by omega) (by omega),A05 (by omega),A05 (by omega)]; rfl
   have cp:Hi (R:Int) (C:Int) l (j:Int)=true:=Ad.2 ⟨hr,Au.2 (by omega)⟩
   have ec:C0 (C:Int) l (j:Int) (j:Int) (toNat ((R:Int)-(j:Int)))=Fg R C l j:=by unfold Fg; rw [show toNat ((R:Int)-(j:Int))=R-j by omega]
   have ca:Ag (Fg R C l j)=true:=Pu al
   have cl:(Fg R C l j).length=R-j:=Gm _ _ _ _ _
   rw [qr.down.B6,hlt,A04,cp,Au.2 (show 0≤(j:Int)∧(j:Int)≤(R:Int) by omega),A1a,A04,ec,I1 ca (by omega),A04]
   unfold Ns
   by_cases he:(Cr (Fg R C l j)).2.2.2=0
   ·have hml:=Vb he
    have hma:=Vc ca
    have hap:Ic (R:Int) (C:Int) (j:Int) (j:Int) (Cr (Fg R C l j)).1=true:=A05 (by omega)
    have hp:=M6 (show j<R by omega) (show j<C by omega)
    have hlen:=Ll R C l (j:Int) (j:Int) (Cr (Fg R C l j)).1 (Cr (Fg R C l j)).2.1
    have hg:=Aad N F l0 r6 c6 (show j<C by omega) (Fk R C l (j:Int) (j:Int) (Cr (Fg R C l j)).1 (Cr (Fg R C l j)).2.1) (Cr (Fg R C l j)).2.2.1 (Cr (Fg R C l j)).1 (Cr (Fg R C l j)).2.1 ms (by omega) (R-(j+1)) (j+1) N (by omega) (by omega) (by omega)
    have hn:=ih (j+1) F (Zg R C l j) (ms++[[.ints .arg .u64 (Cr (Fg R C l j)).1,.int .u64 (Cr (Fg R C l j)).2.1]]) (by omega) (by omega) (N9 _ _ _ _) (X2 al j) (by rw [A1w,hms]; rfl)
    rw [E0 he,A08,hr,hap,al,hma.1,hma.2.1,A1a,A1a,A1a,A04,Ze (by omega) c6 (by omega),A06,A06,A06,A05 (by omega),A05 (by omega),A1a,A04,A05 (by omega),A04,
     Ww hlen (by omega),An (by omega) (by omega),A1r he]
    refine (hg.trans hn).trans ?_
    show some (Td R C _ (Ns R C cnt (j+1) (Zg R C l j)))=some (Td R C ms _)
    cases Ns R C cnt (j+1) (Zg R C l j) with
    | none=>rfl
    | some x=>simp [Td,Zf]
   ·rw [Pa he,A04,A1q he]; rfl
theorem Aji (N:Nat) (hN:7<N) {l:List Int} (r6:R≤6) (c6:C≤6) (hl:l.length=R*C) (al:Ag l=true) (h0:It R C≠0) :
 qr.down.L2 N N (R:Int) (C:Int) l=some (Td R C [] (Kv R C l)):=by
 obtain ⟨cnt,hc⟩:∃ cnt,It R C=cnt+1:=⟨It R C-1,by omega⟩
 obtain ⟨F,rfl⟩:∃ G,N=G+1:=⟨N-1,by omega⟩
 have hj:=hc
 unfold It at hj
 have hr:=Kj r6 c6 hl
 have hlt:(Bd (0:Int) (C:Int)&&Bd (0:Int) (Ab ((R:Int)-1)))=true:=by
  rw [Aw,Aw,An (by omega) (by omega),A05 (by omega),A05 (by omega)]; rfl
 have cp:Hi (R:Int) (C:Int) l (0:Int)=true:=Ad.2 ⟨hr,Au.2 (by omega)⟩
 have ec:C0 (C:Int) l (0:Int) (0:Int) (toNat ((R:Int)-(0:Int)))=Fg R C l 0:=by unfold Fg; rw [show toNat ((R:Int)-(0:Int))=R-0 by omega]; rfl
 have ca:Ag (Fg R C l 0)=true:=Pu al
 have cl:(Fg R C l 0).length=R-0:=Gm _ _ _ _ _
 unfold Kv
 rw [hc,qr.down.Fl,hlt,A04,cp,Au.2 (show 0≤(0:Int)∧(0:Int)≤(R:Int) by omega),A1a,A04,ec,I1 ca (by omega),A04]
 unfold Ns
 by_cases he:(Cr (Fg R C l 0)).2.2.2=0
 ·have hml:=Vb he
  have hma:=Vc ca
  have hap:Ic (R:Int) (C:Int) (0:Int) (0:Int) (Cr (Fg R C l 0)).1=true:=A05 (by omega)
  have hp:=M6 (show 0<R by omega) (show 0<C by omega)
  have hlen:=Ll R C l (0:Int) (0:Int) (Cr (Fg R C l 0)).1 (Cr (Fg R C l 0)).2.1
  have hg:=Aad (F+1) F l r6 c6 (show 0<C by omega) (Fk R C l (0:Int) (0:Int) (Cr (Fg R C l 0)).1 (Cr (Fg R C l 0)).2.1) (Cr (Fg R C l 0)).2.2.1 (Cr (Fg R C l 0)).1 (Cr (Fg R C l 0)).2.1 [] (Nat.zero_le _) (R-1) 1 (F+1) (by omega) (by omega) (by omega)
  have hn:=Ang (R:=R) (C:=C) (F+1) hN l r6 c6 cnt 1 F (Zg R C l 0) [[.ints .arg .u64 (Cr (Fg R C l 0)).1,.int .u64 (Cr (Fg R C l 0)).2.1]] (by omega) (by unfold It at hc; omega) (N9 _ _ _ _) (X2 al 0) rfl
  have mc:=Ze (i:=0) (C:=C) (j:=0) (by omega) c6 (by omega)
  have mc:Ab (Ab ((0:Int)*(C:Int))+(0:Int))=((0*C+0:Nat):Int):=mc
  rw [E0 he,A08,hr,hap,al,hma.1,hma.2.1,A1a,A1a,A1a,A04,mc,A06,A06,A06,A05 (by omega),A05 (by omega),A1a,A04,A05 (by omega),A04,
   Ww hlen (by omega),A1r he]
  refine (hg.trans hn).trans ?_
  show some (Td R C _ (Ns R C cnt 1 (Zg R C l 0)))=some (Td R C [] _)
  cases Ns R C cnt (0+1) (Zg R C l 0) with
  | none=>rfl
  | some x=>simp [Td,Zf]
 ·rw [Pa he,A04,A1q he]; rfl
end
theorem qr.down.known:qr.down.Kn:=qr.down.Ac (.cons Ar.Apply.known (.cons Ar.Dw.known (.cons Aa.D3.known .nil))) fun r c l hp=>by
 obtain ⟨h1,al⟩:=Ad.1 (show ((A0 r c l&&Dj l)&&Ag l)=true from hp)
 obtain ⟨hr,hf⟩:=Ad.1 h1
 obtain ⟨R,C,rfl,rfl,r6,c6,hl⟩:=Ck hr
 by_cases h0:It R C=0
 ·have hx:Kv R C l=some (l,[]):=by unfold Kv; rw [h0]; rfl
  refine ⟨8,.tup [.agg [.int .i64 (R:Int),.int .i64 (C:Int),.ints .arg .u64 l],.recs (.own 100006 tMR) 2 [],.int .i64 0],[100006],?_,?_⟩
  ·unfold It at h0
   have hlt:(Bd (0:Int) (C:Int)&&Bd (0:Int) (Ab ((R:Int)-1)))=false:=by
    rw [Aw,Aw,An (by omega) (by omega),Bool.and_eq_false_iff,A1n,A1n]; omega
   rw [qr.down.ev,show (8:Nat)=7+1 from rfl,qr.down.Fl,hlt,A08]
  ·show Wk _ _ (DV.tup [.agg [.int .i64 (Gk (R:Int) (C:Int) l).1,.int .i64 (Gk (R:Int) (C:Int) l).2.1,.ints .arg .u64 (Gk (R:Int) (C:Int) l).2.2.1],.recs .fresh 2 (Lb (R:Int) (C:Int) l),.int .i64 (Gk (R:Int) (C:Int) l).2.2.2])
   unfold Gk Lb Qd
   rw [A06,A06,hx]
   exact Wk.Gv (.cons (Wk.Gy (.cons .int (.cons .int (.cons .Qv .nil)))) (.cons (.dropR _ _ _ _ (List.mem_singleton.2 rfl)) (.cons .int .nil)))
 ·refine ⟨8,Td R C [] (Kv R C l),[106002,100006],?_,?_⟩
  ·rw [qr.down.ev]
   exact Aji 8 (by omega) r6 c6 hl al h0
  ·show Wk _ _ (DV.tup [.agg [.int .i64 (Gk (R:Int) (C:Int) l).1,.int .i64 (Gk (R:Int) (C:Int) l).2.1,.ints .arg .u64 (Gk (R:Int) (C:Int) l).2.2.1],.recs .fresh 2 (Lb (R:Int) (C:Int) l),.int .i64 (Gk (R:Int) (C:Int) l).2.2.2])
   unfold Gk Lb Qd
   rw [A06,A06]
   cases Kv R C l with
   | none=>exact Wk.Gv (.cons (Wk.Gy (.cons .int (.cons .int (.cons Hb .nil)))) (.cons (.nilR _ _) (.cons .int .nil)))
   | some x=>exact Wk.Gv (.cons (Wk.Gy (.cons .int (.cons .int (.cons (.dropA _ _ _ _ A2j) .nil)))) (.cons (.dropR _ _ _ _ (A19 _ A2j)) (.cons .int .nil)))
open EqQr
def Abz (e:Int):DV:=.tup [.agg [.int .i64 0,.int .i64 0,.nil],.agg [.int .i64 0,.int .i64 0,.nil],.int .i64 e]
theorem Wj {r:Nat}:∀ {j:Nat} {ms:List (List Int × Int)},Ab1 r j ms→∀ i:Nat,i<ms.length→Ag (ms.getD i ([],0)).1=true∧Ak (ms.getD i ([],0)).2=true∧(ms.getD i ([],0)).1.length+(j+i)=r
 | _,[],_,i,h=>absurd h (Nat.not_lt_zero _)
 | j,m::ms,hm,0,_=>hm.1
 | j,m::ms,hm,i+1,h=>by
   have:=Wj hm.2 i (by simpa using h)
   rw [show j+(i+1)=j+1+i by omega]
   exact this
theorem Apu {ms:List (List Int × Int)} {i:Nat} (h:i<ms.length):getD (Zf ms) i []=[.ints .arg .u64 (ms.getD i ([],0)).1,.int .u64 (ms.getD i ([],0)).2]:=by
 unfold Zf
 rw [A1e,A2l,A1l h,A1e,A1l h]; rfl
theorem Af9 (ms:List (List Int × Int)):(Zf ms).length=ms.length:=by unfold Zf; rw [A2a]
theorem Aco {n i:Nat} {ms:List (List Int × Int)} (h:i<ms.length) (q:List Int):H0 n i (ms.drop i) q=Fk n n (H0 n (i+1) (ms.drop (i+1)) q) (i:Int) 0 (ms.getD i ([],0)).1 (ms.getD i ([],0)).2:=by
 rw [List.drop_eq_getElem_cons h,H0,A1e,A1l h]; rfl
theorem Ajf {R:Nat} (h:R≤6):Nr (R:Int)=((R:Int),(R:Int),Jg R,0):=by
 unfold Nr Jg
 rw [A1r (R0 h),A06]
theorem Aot {n:Nat} (h:n≤6):n*n≤36:=A10 h h
theorem Aha (N:Nat) {R C:Nat} {l:List Int} (r6:R≤6) {x:List Int × List (List Int × Int)} (hx:Kv R C l=some x) (hm:Ab1 R 0 x.2) (hxr:Ag x.1=true) (hxl:x.1.length≤36):∀ (j F:Nat),j≤x.2.length→j<F →
 qr.By.L0 N F (R:Int) (C:Int) l ((j:Int)-1) (H0 R j (x.2.drop j) (Jg R)) =
 bif Nq R C l then some (.tup [.agg [.int .i64 (R:Int),.int .i64 (R:Int),.ints .fresh .u64 (Ty R C l)],.agg [.int .i64 (R:Int),.int .i64 (C:Int),.ints .arg .u64 (Qd R C l)],.int .i64 0])
 else some (Abz 2):=by
 have hq:Ty R C l=H0 R 0 x.2 (Jg R):=by unfold Ty; rw [hx]
 have hr:Qd R C l=x.1:=by unfold Qd; rw [hx]
 have hd:Gk (R:Int) (C:Int) ([]++l)=((R:Int),(C:Int),x.1,0):=by
  unfold Gk
  rw [List.nil_append,A06,A06,hx,hr]; rfl
 have hmd:Lb (R:Int) (C:Int) ([]++l)=Zf x.2:=by
  unfold Lb
  rw [List.nil_append,A06,A06,hx]
 have h36:=Aot r6
 intro j
 induction j with
 | zero =>
   intro F _ hF
   obtain ⟨F,rfl⟩:∃ G,F=G+1:=⟨F-1,by omega⟩
   have hb:=Sj R x.2 0 (Jg R) (Vs R) (by unfold Jg; exact Ca _ _ _)
   have ok1:Cy (H0 R 0 x.2 (Jg R))=true:=I1 hb.1 (by omega)
   have ok2:Cy x.1=true:=I1 hxr (by omega)
   have hfo:Nq R C l=(Dj (H0 R 0 x.2 (Jg R))&&Dj x.1):=by unfold Nq; rw [hx,hq,hr]; rfl
   rw [qr.By.Av,Aw,A05 (by omega),A04,List.drop_zero,ok1,A04,hd,Ajf r6,ok2,A2g,A04,hfo,hq,hr]
   cases Dj (H0 R 0 x.2 (Jg R)) with
   | false=>rfl
   | true=>cases Dj x.1<;>rfl
 | succ j ih =>
   intro F hj hF
   obtain ⟨F,rfl⟩:∃ G,F=G+1:=⟨F-1,by omega⟩
   have ej:(((j+1:Nat):Int))-1=(j:Int):=by omega
   have hg:=Wj hm j (by omega)
   have hb:=Sj R (x.2.drop (j+1)) (j+1) (Jg R) (Vs R) (by unfold Jg; exact Ca _ _ _)
   have hr1:=Kj r6 r6 hb.2
   have hap:Ic (R:Int) (R:Int) (j:Int) 0 (x.2.getD j ([],0)).1=true:=A05 (by omega)
   have hmg:=Apu (ms:=x.2) (i:=j) (by omega)
   rw [qr.By.Av,ej,Aw,A09 (show ¬ (j:Int)<0 by omega),A08,hmd,Af9,A05 (show (0:Int)≤(j:Int) by omega),A05 (show (j:Int)<(x.2.length:Int) by omega),A1a,A04,A06,hmg,Ajf r6]
   show (bif true then bif true then bif true then (bif (((A0 (R:Int) (R:Int) (H0 R (j+1) (x.2.drop (j+1)) (Jg R))&&Ic (R:Int) (R:Int) (j:Int) (0:Int) (x.2.getD j ([],0)).1)&&(Ag (H0 R (j+1) (x.2.drop (j+1)) (Jg R))&&Ag (x.2.getD j ([],0)).1))&&Ak (x.2.getD j ([],0)).2) then
    qr.By.L0 N F (R:Int) (C:Int) l (Ab ((j:Int)-(1:Int))) (Fk (toNat (R:Int)) (toNat (R:Int)) (H0 R (j+1) (x.2.drop (j+1)) (Jg R)) (j:Int) (0:Int) (x.2.getD j ([],0)).1 (x.2.getD j ([],0)).2) else none) else none else none else none)=_
   rw [A04,A04,A04,hr1,hap,hb.1,hg.1,hg.2.1,A1a,A1a,A1a,A04,A06,An (by omega) (by omega),← Aco (by omega)]
   exact ih F (by omega) (by omega)
theorem Ahf {R C:Nat} {l:List Int} (hl:l.length=R*C) (al:Ag l=true) {x:List Int × List (List Int × Int)} (hx:Kv R C l=some x):Ag x.1=true∧x.1.length=R*C∧x.2.length=It R C∧Ab1 R 0 x.2 :=
 Aae R C (It R C) 0 l x al hl (by unfold It; omega) hx
theorem Qe {r c:Int} {l:List Int} (h:B4 r c l=0):Gs r c l=if Nq r.toNat c.toNat l=true then 0 else 2:=by
 unfold Gs; rw [A1q (by rw [h]; decide)]
theorem Ahc {r c:Int} {l:List Int} (h:B4 r c l≠0):Gs r c l=B4 r c l:=by unfold Gs; rw [A1r h]
theorem Tl {r c:Int} {l:List Int} {e:Int} (h:Gs r c l=e) (he:e≠0):qX r c l=Ga e∧rX r c l=Ga e:=by unfold qX rX; rw [h,A1r he,A1r he]; exact ⟨rfl,rfl⟩
theorem Uy {r c:Int} {l:List Int} (h:Gs r c l=0):qX r c l=(r,r,Ty r.toNat c.toNat l,0)∧rX r c l=(r,c,Qd r.toNat c.toNat l,0):=by unfold qX rX; rw [h]; exact ⟨rfl,rfl⟩
theorem Acv {drops:List Nat} {e:Int} {g h:Ahx}:Wk drops (Abz e) (DV.tup [.agg [.int .i64 (Ga e).1,.int .i64 (Ga e).2.1,.ints g .u64 (Ga e).2.2.1],.agg [.int .i64 (Ga e).1,.int .i64 (Ga e).2.1,.ints h .u64 (Ga e).2.2.1],.int .i64 e]) :=
 Wk.Gv (.cons (Wk.Gy (.cons .int (.cons .int (.cons Hb .nil)))) (.cons (Wk.Gy (.cons .int (.cons .int (.cons Hb .nil)))) (.cons .int .nil)))
theorem qr.By.known:qr.By.Kn:=qr.By.Ac (.cons Cu.Check.known (.cons Ar.Apply.known (.cons Aa.Ew.known (.cons qr.down.known (.cons Ah.Finite.known .nil))))) fun r c l hp=>by
 have al:Ag l=true:=hp
 show ∃ N dv drops,_=some dv∧Wk drops dv (DV.tup [.agg [.int .i64 (qX r c l).1,.int .i64 (qX r c l).2.1,.ints .arg .u64 (qX r c l).2.2.1],.agg [.int .i64 (rX r c l).1,.int .i64 (rX r c l).2.1,.ints .arg .u64 (rX r c l).2.2.1],.int .i64 (Gs r c l)])
 by_cases h1:B4 r c l=0
 ·obtain ⟨hr,hf⟩:=Gt h1
  have h36:=O1 hr
  obtain ⟨R,C,rfl,rfl,r6,c6,hl⟩:=Ck hr
  have d0:decide (0+l.length≤Gw)=true:=A05 (by unfold Gw; omega)
  cases hx:Kv R C l with
  | none =>
    have hfo:Nq R C l=false:=by unfold Nq; rw [hx]; rfl
    have he:Gs (R:Int) (C:Int) l=2:=by rw [Qe h1,A06,A06,hfo]; rfl
    obtain ⟨e1,e2⟩:=Tl he (by decide)
    have hd:Gk (R:Int) (C:Int) ([]++l)=Ga 2:=by
     unfold Gk
     rw [List.nil_append,A06,A06,hx]; rfl
    rw [e1,e2,he]
    exact ⟨0,Abz 2,[],by rw [qr.By.ev,al,A04,E0 h1,A08,d0,A04,hd,List.nil_append,hr,hf,al,A1a,A1a,A04,show ((Ga 2).2.2.2 !=(0:Int))=true from rfl,A04]; rfl,Acv⟩
  | some x =>
    obtain ⟨x1,x2,x3,x4⟩:=Ahf hl al hx
    have hd:Gk (R:Int) (C:Int) ([]++l)=((R:Int),(C:Int),x.1,0):=by
     unfold Gk Qd
     rw [List.nil_append,A06,A06,hx]; rfl
    have hmd:Lb (R:Int) (C:Int) ([]++l)=Zf x.2:=by
     unfold Lb
     rw [List.nil_append,A06,A06,hx]
    have hn:x.2.length≤6:=by rw [x3]; unfold It; omega
    have hloop:=Aha 8 r6 hx x4 x1 (by rw [x2]; exact A10 r6 c6) x.2.length 8 (A1y _) (by omega)
    rw [A1i (A1y _)] at hloop
    have hrun:=qr.By.ev 8 (R:Int) (C:Int) l
    rw [al,A04,E0 h1,A08,d0,A04,hd,hmd,Af9,List.nil_append,hr,hf,al,A1a,A1a,A04,show (((R:Int),(C:Int),x.1,(0:Int)).2.2.2 !=(0:Int))=false from rfl,A08,Ajf r6,An (by omega) (by omega)] at hrun
    have hrun:=hrun.trans hloop
    cases hfo:Nq R C l with
    | false =>
      have he:Gs (R:Int) (C:Int) l=2:=by rw [Qe h1,A06,A06,hfo]; rfl
      obtain ⟨e1,e2⟩:=Tl he (by decide)
      rw [hfo,A08] at hrun
      rw [e1,e2,he]
      exact ⟨8,Abz 2,[],hrun,Acv⟩
    | true =>
      have he:Gs (R:Int) (C:Int) l=0:=by rw [Qe h1,A06,A06,hfo]; rfl
      obtain ⟨e1,e2⟩:=Uy he
      rw [hfo,A04] at hrun
      rw [e1,e2,he,A06,A06]
      exact ⟨8,_,[],hrun,Wk.Gv (.cons (Wk.Gy (.cons .int (.cons .int (.cons (.fresh _ _) .nil)))) (.cons (Wk.Gy (.cons .int (.cons .int (.cons .Qv .nil)))) (.cons .int .nil)))⟩
 ·have he:=Ahc h1
  obtain ⟨e1,e2⟩:=Tl he h1
  rw [e1,e2,he]
  exact ⟨0,Abz (B4 r c l),[],by rw [qr.By.ev,al,A04,Pa h1,A04]; rfl,Acv⟩
theorem Ajo {r c:Int} {l:List Int} (h:Gs r c l=0):B4 r c l=0:=by
 by_cases h1:B4 r c l=0
 ·exact h1
 ·rw [Ahc h1] at h; exact absurd h h1
theorem Ahb {r c:Int} {l:List Int} (al:Ag l=true) (h:Gs r c l=0):∃ R C:Nat,r=R∧c=C∧R≤6∧C≤6∧l.length=R*C∧Ag (Ty R C l)=true∧(Ty R C l).length=R*R∧Ag (Qd R C l)=true∧(Qd R C l).length=R*C∧Dj (Ty R C l)=true∧Dj (Qd R C l)=true:=by
 have h1:=Ajo h
 rw [Qe h1] at h
 obtain ⟨R,C,rfl,rfl,r6,c6,hl⟩:=Ck (Gt h1).1
 rw [A06,A06] at h
 by_cases ho:Nq R C l=true
 ·unfold Nq at ho
  obtain ⟨o1,o2⟩:=Ad.1 ho
  obtain ⟨o3,o4⟩:=Ad.1 o2
  obtain ⟨q1,q2⟩:=Atv o1
  obtain ⟨g1,g2⟩:=Atu al hl o1
  exact ⟨R,C,rfl,rfl,r6,c6,hl,q1,q2,g1,g2,o3,o4⟩
 ·rw [A1q ho] at h; exact absurd h (by decide)
theorem Awb {r c:Int} {l:List Int} (al:Ag l=true) (h:Gs r c l=0):Ag (Ty r.toNat c.toNat l)=true∧Ag (Qd r.toNat c.toNat l)=true:=by
 obtain ⟨R,C,rfl,rfl,_,_,_,q1,_,g1,_,_,_⟩:=Ahb al h
 rw [A06,A06]
 exact ⟨q1,g1⟩
end Go.Proofs.S1
end
