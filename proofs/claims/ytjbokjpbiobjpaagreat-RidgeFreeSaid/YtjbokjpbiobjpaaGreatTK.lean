/- A verified evaluator of the program's form and its use for this seat: S1PRef10, S1PFill, S1EqHouse, S1PHouse, S1PApply, S1EqSol, S1PTri, S1EqFew, S1PSol, S1EqQr, S1PQr. -/
import Derived.Test.YtjbokjpbiobjpaaGreatTJ
import Derived.Test.YtjbokjpbiobjpaaGreatTF
import Derived.Test.YtjbokjpbiobjpaaGreatTI
import Derived.Test.YtjbokjpbiobjpaaGreatTE
set_option linter.unusedVariables false
set_option linter.unusedSimpArgs false
noncomputable section
open Int (toNat)
open List (length getD)
open Go.Proofs.Tryz
namespace Go.Proofs.S1
open Go Go.Den Go.Rnd Go.Proofs
open EqRef10
theorem Ak.Hl.known:Ak.Hl.Kn:=Ak.Hl.Ac .nil fun r c l _=>by
 refine ⟨0,Ak.Hl.out [.i r,.i c,.l l],[],?_,.bool⟩
 have e:(bif (bif (bif (bif (Em (0:Int) r) then (Em r (6:Int)) else false) then (Em (0:Int) c) else false) then (Em c (6:Int)) else false) then ((length l:Int)==(Ab (r*c))) else false)=A2 r c l:=by
  have:=Ahm r c l
  have h:(bif (bif (bif (bif (Em (0:Int) r) then (Em r (6:Int)) else false) then (Em (0:Int) c) else false) then (Em c (6:Int)) else false) then ((length l:Int)==(Ab (r*c))) else false)=!(((!(Bh r))||(!(Bh c)))||((length l:Int) !=(Ab (r*c)))):=by
   unfold Bh bne
   rw [Es,Es,Es,Es]
   cases decide (0≤r)<;>cases decide (r≤6)<;>cases decide (0≤c)<;>cases decide (c≤6)<;>cases ((length l:Int)==(Ab (r*c)))<;>rfl
  rw [h,this,Bool.not_not]
 rw [Ak.Hl.ev,e]; rfl
theorem Ak.At.known:Ak.At.Kn:=Ak.At.Ac .nil fun r c l i k hp=>by
 obtain ⟨e,h1,h2⟩:=Lj (R:=r) (show C0 r c l i k=true from hp)
 refine ⟨0,Ak.At.out [.i r,.i c,.l l,.i i,.i k],[],?_,.int⟩
 rw [Ak.At.ev,e,A1i h1,A1i h2]
 rfl
theorem Ym {drops:List Nat} {i:Nat} {e:TypeId} {a b:Int} {l:List Int} (h:i∈drops):Wk drops (.agg [.int .i64 a,.int .i64 b,.ints (.own i e) .u64 l]) (.agg [.int .i64 a,.int .i64 b,.ints .fresh .u64 l]) :=
 Wk.Hk (.cons .int (.cons .int (.cons (.drop _ _ _ _ h) .nil)))
theorem Uc {drops:List Nat} {a b:Int} {l:List Int}:Wk drops (.agg [.int .i64 a,.int .i64 b,.ints .fresh .u64 l]) (.agg [.int .i64 a,.int .i64 b,.ints .fresh .u64 l]) :=
 Wk.Hk (.cons .int (.cons .int (.cons .Ov .nil)))
theorem Ak.Bb.known:Ak.Bb.Kn:=Ak.Bb.Ac .nil fun a b hp=>by
 obtain ⟨ha,hb⟩:=Ae.1 (show (Bh a&&Bh b)=true from hp)
 obtain ⟨A,rfl,hA⟩:=Ew ha
 obtain ⟨B,rfl,hB⟩:=Ew hb
 have hm:=Jy (a:=(A:Int)) (b:=(B:Int)) (by omega) (by omega) (by omega) (by omega)
 have e:((A:Int)*(B:Int)).toNat=A*B:=by rw [← A12,A1j]
 refine ⟨0,.agg [.int .i64 (A:Int),.int .i64 (B:Int),.ints (.own 10 tB) .u64 (Bv A B fun _ _=>0)],[10],?_,Ym (List.mem_singleton.2 rfl)⟩
 rw [Ak.Bb.ev,Am (by omega) (by omega),A1i hm.1,A1i (Int.le_refl _),A1i (show (A:Int)*(B:Int)≤(G0:Int) by unfold G0; omega),e,Qb]
 rfl
theorem Ak.Fx.known:Ak.Fx.Kn:=Ak.Fx.Ac .nil fun r c l i k b hp=>by
 obtain ⟨_,_,_,_,_,_,_,h8⟩:=Ar.1 (show C0 r c l i k=true from hp)
 obtain ⟨e,g1,g2⟩:=Lj (R:=r) (show C0 r c l i k=true from hp)
 refine ⟨0,.agg [.int .i64 r,.int .i64 c,.ints (.own 13 tB) .u64 (List.set l (i*c+k).toNat b)],[13],?_,Ym (List.mem_singleton.2 rfl)⟩
 rw [Ak.Fx.ev,e,List.nil_append,A1i (show 0+l.length≤G0 by unfold G0; omega),A1i g1,A1i g2,A1i (show (i*c+k).toNat<l.length by omega)]
 rfl
theorem Ahj {r c i k:Nat} (hk:k<c) {d d':Nat→Nat→Bool} {f:Nat→Nat→Int} {x:Int} (hx:x=f i k)
 (h:∀ a b,a<r→b<c→(d' a b=true↔d a b=true∨(a=i∧b=k))) :
 List.set (Bv r c fun a b=>if d a b=true then f a b else 0) (toNat ((i:Int)*(c:Int)+(k:Int))) x=Bv r c fun a b=>if d' a b=true then f a b else 0:=by
 have e:((i:Int)*(c:Int)+(k:Int)).toNat=i*c+k:=by rw [← A12,← Int.natCast_add,A1j]
 rw [e,Vl hk]
 refine Ed fun a b ha hb=>?_
 have h:=h a b ha hb
 by_cases hab:a=i∧b=k
 ·rw [A14 hab,A14 (h.2 (.inr hab)),hx,hab.1,hab.2]
 ·rw [A13 hab]
  by_cases hd:d a b=true
  ·rw [A14 hd,A14 (h.2 (.inl hd))]
  ·rw [A13 hd,A13 (fun k=>(h.1 k).elim hd hab)]
theorem Ady (N:Nat) {R C K f:Nat} {l:List Int} (r6:R≤6) (c6:C≤6) (hl:l.length=R*C) (hk:K<C):∀ (k i F:Nat),f+i+k=R→k<F →
 Ak.Po.L0 N F (R:Int) (C:Int) l (K:Int) ((f+i:Nat):Int) (Ct (C:Int) l (K:Int) (f:Int) i)=some (.ints (.own 100007 tB) .u64 (Ct (C:Int) l (K:Int) (f:Int) (R-f))):=by
 intro k
 induction k with
 | zero =>
   intro i F hi hF
   obtain ⟨F,rfl⟩:∃ G,F=G+1:=⟨F-1,by omega⟩
   rw [Ak.Po.Av,Au,A1m (by omega),A1l,show R-f=i by omega]
 | succ k ih =>
   intro i F hi hF
   obtain ⟨F,rfl⟩:∃ G,F=G+1:=⟨F-1,by omega⟩
   have d:decide ((Ct (C:Int) l (K:Int) (f:Int) i).length+1≤G0)=true:=A1i (by rw [Gk]; unfold G0; omega)
   rw [Ak.Po.Av,Au,A1i (by omega),A1h,D1 r6 c6 hl (show f+i<R by omega) hk,A1h,d,A1h,Am (by omega) (by omega)]
   have:=ih (i+1) F (by omega) (by omega)
   unfold Ct at this ⊢
   rw [List.range_succ,List.map_append] at this
   exact this
theorem Ak.Po.known:Ak.Po.Kn:=Ak.Po.Ac (.cons Ak.At.known .nil) fun r c l k f hp=>by
 obtain ⟨h0,hf⟩:=Ae.1 (show (Hj r c l k&&Cz (0≤f∧f≤r))=true from hp)
 have hf:=Ar.1 hf
 obtain ⟨hr,hi⟩:=Ae.1 h0
 have hi:=Ar.1 hi
 obtain ⟨R,C,rfl,rfl,r6,c6,hl⟩:=Ci hr
 obtain ⟨K,rfl⟩:∃ j:Nat,k=j:=⟨k.toNat,by omega⟩
 obtain ⟨f,rfl⟩:∃ j:Nat,f=j:=⟨f.toNat,by omega⟩
 refine ⟨8,.ints (.own 100007 tB) .u64 (Ct (C:Int) l (K:Int) (f:Int) (R-f)),[100007],?_,?_⟩
 ·rw [Ak.Po.ev]
  exact Ady 8 r6 c6 hl (by omega) (R-f) 0 8 (by omega) (by omega)
 ·show Wk _ _ (DV.ints .fresh .u64 (Ct (C:Int) l (K:Int) (f:Int) (toNat ((R:Int)-(f:Int)))))
  rw [show toNat ((R:Int)-(f:Int))=R-f by omega]
  exact .drop _ _ _ _ (List.mem_singleton.2 rfl)
theorem Ak.Row.known:Ak.Row.Kn:=Ak.Row.Ac .nil fun r c l i hp=>by
 obtain ⟨hr,hi⟩:=Ae.1 (show Pw r c l i=true from hp)
 have hi:=Ar.1 hi
 obtain ⟨R,C,rfl,rfl,r6,c6,hl⟩:=Ci hr
 obtain ⟨I,rfl⟩:∃ k:Nat,i=k:=⟨i.toNat,by omega⟩
 have hm:=Jy (a:=(I:Int)) (b:=(C:Int)) (by omega) (by omega) (by omega) (by omega)
 have hm2:=Jy (a:=(I:Int)+1) (b:=(C:Int)) (by omega) (by omega) (by omega) (by omega)
 have hle:(I+1)*C≤R*C:=A1t C (by omega)
 have hle2:I*C≤(I+1)*C:=A1t C (by omega)
 have e1:(I:Int)*(C:Int)=((I*C:Nat):Int):=(A12 _ _).symm
 have e2:((I:Int)+1)*(C:Int)=(((I+1)*C:Nat):Int):=by rw [A12]; rfl
 refine ⟨0,Ak.Row.out [.i (R:Int),.i (C:Int),.l l,.i (I:Int)],[],?_,.X0⟩
 rw [Ak.Row.ev,Am (x:=(I:Int)+1) (by omega) (by omega),Am (x:=(I:Int)*(C:Int)) (by omega) (by omega),Am (x:=((I:Int)+1)*(C:Int)) (by omega) (by omega)]
 have d1:decide ((0:Int)≤(I:Int)*(C:Int))=true:=A1i (by omega)
 have d2:decide ((I:Int)*(C:Int)≤((I:Int)+1)*(C:Int))=true:=A1i (by rw [e1,e2]; omega)
 have d3:decide ((0:Int)≤((I:Int)+1)*(C:Int))=true:=A1i (by omega)
 have d4:decide (((I:Int)+1)*(C:Int)≤(l.length:Int))=true:=A1i (by rw [e2]; omega)
 rw [d1,d2,d3,d4]
 rfl
open EqRef10
def dR (i k a b:Nat):Bool:=decide (a<i∨(a=i∧b<k))
def dC (i k a b:Nat):Bool:=decide (b<i∨(b=i∧a<k))
def fill (r c:Nat) (f:Nat→Nat→Int) (d:Nat→Nat→Bool):List Int:=Bv r c fun a b=>if d a b=true then f a b else 0
theorem Oi (r c:Nat) (f:Nat→Nat→Int) (d:Nat→Nat→Bool):(fill r c f d).length=r*c:=Cc _ _ _
theorem Vn {r c i k:Nat} (hk:k<c) {d d':Nat→Nat→Bool} {f:Nat→Nat→Int} {x:Int} (hx:x=f i k) (h:∀ a b,a<r→b<c→(d' a b=true↔d a b=true∨(a=i∧b=k))) :
 List.set (fill r c f d) (toNat ((i:Int)*(c:Int)+(k:Int))) x=fill r c f d':=Ahj hk hx h
theorem Ty {r c:Nat} {f:Nat→Nat→Int} {d d':Nat→Nat→Bool} (h:∀ a b,a<r→b<c→(d a b=true↔d' a b=true)):fill r c f d=fill r c f d':=by
 refine Ed fun a b ha hb=>?_
 have:=h a b ha hb
 by_cases hd:d a b=true
 ·rw [A14 hd,A14 (this.1 hd)]
 ·rw [A13 hd,A13 (fun k=>hd (this.2 k))]
theorem Aah {r c:Nat} {f:Nat→Nat→Int} {d:Nat→Nat→Bool} (h:∀ a b,a<r→b<c→d a b=true):fill r c f d=Bv r c f :=
 Ed fun a b ha hb=>by rw [A14 (h a b ha hb)]
theorem Sk {r c:Nat} {f:Nat→Nat→Int} {d:Nat→Nat→Bool} (h:∀ a b,a<r→b<c→¬ d a b=true):fill r c f d=Bv r c fun _ _=>0 :=
 Ed fun a b ha hb=>by rw [A13 (h a b ha hb)]
theorem Aek.inner (N:Nat) {R C Q:Nat} {l:List Int} {p:Int} {m:List Int} (h6:R≤6∧C≤6∧Q≤6) (hl:l.length=R*C) (hr:A2 (R:Int) (C:Int) l=true) (hm:A2 p (Q:Int) m=true) (ep:p=(C:Int)) (al:Ai l=true) (am:Ai m=true) {F:Nat→Nat→Int} (hF:F=fun (i j:Nat)=>Je (G6 (C:Int) l (i:Int)) (Kv p (Q:Int) m (j:Int))) {i:Nat} (hi:i<R):∀ (k j M0 M:Nat),j+k=Q→k<M →
 Ak.Mul.L1 N M0 M (R:Int) (C:Int) l p (Q:Int) m (j:Int) (fill R Q F (dR i j)) (i:Int)=Ak.Mul.L0 N M0 (R:Int) (C:Int) l p (Q:Int) m ((i+1:Nat):Int) (fill R Q F (dR (i+1) 0)):=by
 intro k
 induction k with
 | zero =>
   intro j M0 M hj hM
   obtain ⟨M,rfl⟩:∃ G,M=G+1:=⟨M-1,by omega⟩
   have e:fill R Q F (dR i j)=fill R Q F (dR (i+1) 0):=Ty fun a b ha hb=>by simp only [dR,A1o]; omega
   rw [Ak.Mul.B8,Au,A1m (by omega),A1l,Am (by omega) (by omega),e]
   rfl
 | succ k ih =>
   intro j M0 M hj hM
   obtain ⟨M,rfl⟩:∃ G,M=G+1:=⟨M-1,by omega⟩
   have c1:Pw (R:Int) (C:Int) l (i:Int)=true:=Ae.2 ⟨hr,Ar.2 (by omega)⟩
   have c2:Hj p (Q:Int) m (j:Int)=true:=Ae.2 ⟨hm,Ar.2 (by omega)⟩
   have c3:Pk (G6 (C:Int) l (i:Int)) (Kv p (Q:Int) m (j:Int))=true:=Sj.2 ⟨by rw [Pu hl hi,ep,Aat],by rw [Pu hl hi]; omega⟩
   have c9:C0 (R:Int) (Q:Int) (fill R Q F (dR i j)) (i:Int) (j:Int)=true:=D1 (by omega) (by omega) (Oi _ _ _ _) (by omega) (by omega)
   rw [Ak.Mul.B8,Au,A1i (by omega),A1h,c1,A1h,c2,Yk (show 0≤p by omega),A1n,A1h,Alm,c3,Akl al,Aln am,A1n,A1n,A1h,c9,A1h,Am (x:=(j:Int)+1) (by omega) (by omega),Vn (d':=dR i (j+1)) (by omega) (by rw [hF]) (fun a b ha hb=>by simp only [dR,A1o]; omega)]
   exact ih (j+1) M0 M (by omega) (by omega)
theorem Aek.outer (N:Nat) (hN:6<N) {R C Q:Nat} {l:List Int} {p:Int} {m:List Int} (h6:R≤6∧C≤6∧Q≤6) (hl:l.length=R*C) (hr:A2 (R:Int) (C:Int) l=true) (hm:A2 p (Q:Int) m=true) (ep:p=(C:Int)) (al:Ai l=true) (am:Ai m=true) {F:Nat→Nat→Int} (hF:F=fun (i j:Nat)=>Je (G6 (C:Int) l (i:Int)) (Kv p (Q:Int) m (j:Int))):∀ (k i M:Nat),i+k=R→k<M →
 Ak.Mul.L0 N M (R:Int) (C:Int) l p (Q:Int) m (i:Int) (fill R Q F (dR i 0))=some (.agg [.int .i64 (R:Int),.int .i64 (Q:Int),.ints .fresh .u64 (Bv R Q F)]):=by
 intro k
 induction k with
 | zero =>
   intro i M hi hM
   obtain ⟨M,rfl⟩:∃ G,M=G+1:=⟨M-1,by omega⟩
   rw [Ak.Mul.Av,Au,A1m (by omega),A1l,Aah (fun a b ha hb=>by simp only [dR,A1o]; omega)]
 | succ k ih =>
   intro i M hi hM
   obtain ⟨M,rfl⟩:∃ G,M=G+1:=⟨M-1,by omega⟩
   have n:=Aek.inner N h6 hl hr hm ep al am hF (show i<R by omega) Q 0 M N (by omega) (by omega)
   rw [Ak.Mul.Av,Au,A1i (by omega),A1h]
   exact n.trans (ih (i+1) M (by omega) (by omega))
theorem Aaj.inner (N:Nat) {r c x y:Int} {l:List Int} {A B:Nat} (h6:A≤6∧B≤6) (hr:A2 r c l=true) (hp:Ic r c x y (A:Int) (B:Int)=true) {F:Nat→Nat→Int} (hF:F=fun (i j:Nat)=>Eb c l (x+(i:Int)) (y+(j:Int))) {i:Nat} (hi:i<A):∀ (k j M0 M:Nat),j+k=B→k<M →
 Ak.Part.L1 N M0 M r c l x y (A:Int) (B:Int) (j:Int) (fill A B F (dR i j)) (i:Int)=Ak.Part.L0 N M0 r c l x y (A:Int) (B:Int) ((i+1:Nat):Int) (fill A B F (dR (i+1) 0)):=by
 intro k
 induction k with
 | zero =>
   intro j M0 M hj hM
   obtain ⟨M,rfl⟩:∃ G,M=G+1:=⟨M-1,by omega⟩
   have e:fill A B F (dR i j)=fill A B F (dR (i+1) 0):=Ty fun a b ha hb=>by simp only [dR,A1o]; omega
   rw [Ak.Part.B8,Au,A1m (by omega),A1l,Am (by omega) (by omega),e]
   rfl
 | succ k ih =>
   intro j M0 M hj hM
   obtain ⟨M,rfl⟩:∃ G,M=G+1:=⟨M-1,by omega⟩
   have hs:=Il.1 hr
   have hq:=A17 hp
   have c1:C0 r c l (x+(i:Int)) (y+(j:Int))=true:=L5 hr (by omega) (by omega) (by omega) (by omega) r
   have c9:C0 (A:Int) (B:Int) (fill A B F (dR i j)) (i:Int) (j:Int)=true:=D1 (by omega) (by omega) (Oi _ _ _ _) (by omega) (by omega)
   rw [Ak.Part.B8,Au,A1i (by omega),A1h,Am (x:=x+(i:Int)) (by omega) (by omega),Am (x:=y+(j:Int)) (by omega) (by omega),c1,A1h,c9,A1h,Am (x:=(j:Int)+1) (by omega) (by omega),Vn (d':=dR i (j+1)) (by omega) (by rw [hF]) (fun a b ha hb=>by simp only [dR,A1o]; omega)]
   exact ih (j+1) M0 M (by omega) (by omega)
theorem Aaj.outer (N:Nat) (hN:6<N) {r c x y:Int} {l:List Int} {A B:Nat} (h6:A≤6∧B≤6) (hr:A2 r c l=true) (hp:Ic r c x y (A:Int) (B:Int)=true) {F:Nat→Nat→Int} (hF:F=fun (i j:Nat)=>Eb c l (x+(i:Int)) (y+(j:Int))):∀ (k i M:Nat),i+k=A→k<M →
 Ak.Part.L0 N M r c l x y (A:Int) (B:Int) (i:Int) (fill A B F (dR i 0))=some (.agg [.int .i64 (A:Int),.int .i64 (B:Int),.ints .fresh .u64 (Bv A B F)]):=by
 intro k
 induction k with
 | zero =>
   intro i M hi hM
   obtain ⟨M,rfl⟩:∃ G,M=G+1:=⟨M-1,by omega⟩
   rw [Ak.Part.Av,Au,A1m (by omega),A1l,Aah (fun a b ha hb=>by simp only [dR,A1o]; omega)]
 | succ k ih =>
   intro i M hi hM
   obtain ⟨M,rfl⟩:∃ G,M=G+1:=⟨M-1,by omega⟩
   have n:=Aaj.inner N h6 hr hp hF (show i<A by omega) B 0 M N (by omega) (by omega)
   rw [Ak.Part.Av,Au,A1i (by omega),A1h]
   exact n.trans (ih (i+1) M (by omega) (by omega))
theorem Aai.inner (N:Nat) {R C:Nat} {l:List Int} (h6:R≤6∧C≤6) (hl:l.length=R*C) {F:Nat→Nat→Int} (hF:F=fun (i j:Nat)=>Eb (C:Int) l (j:Int) (i:Int)) {i:Nat} (hi:i<R):∀ (k j M0 M:Nat),j+k=C→k<M →
 Ak.Cl.L1 N M0 M (R:Int) (C:Int) l (j:Int) (fill C R F (dC i j)) (i:Int)=Ak.Cl.L0 N M0 (R:Int) (C:Int) l ((i+1:Nat):Int) (fill C R F (dC (i+1) 0)):=by
 intro k
 induction k with
 | zero =>
   intro j M0 M hj hM
   obtain ⟨M,rfl⟩:∃ G,M=G+1:=⟨M-1,by omega⟩
   have e:fill C R F (dC i j)=fill C R F (dC (i+1) 0):=Ty fun a b ha hb=>by simp only [dC,A1o]; omega
   rw [Ak.Cl.B8,Au,A1m (by omega),A1l,Am (by omega) (by omega),e]
   rfl
 | succ k ih =>
   intro j M0 M hj hM
   obtain ⟨M,rfl⟩:∃ G,M=G+1:=⟨M-1,by omega⟩
   have c1:C0 (R:Int) (C:Int) l (i:Int) (j:Int)=true:=D1 h6.1 h6.2 hl hi (by omega)
   have c9:C0 (C:Int) (R:Int) (fill C R F (dC i j)) (j:Int) (i:Int)=true:=D1 (by omega) (by omega) (Oi _ _ _ _) (by omega) (by omega)
   rw [Ak.Cl.B8,Au,A1i (by omega),A1h,c1,A1h,c9,A1h,Am (x:=(j:Int)+1) (by omega) (by omega),Vn (d':=dC i (j+1)) (by omega) (by rw [hF]) (fun a b ha hb=>by simp only [dC,A1o]; omega)]
   exact ih (j+1) M0 M (by omega) (by omega)
theorem Aai.outer (N:Nat) (hN:6<N) {R C:Nat} {l:List Int} (h6:R≤6∧C≤6) (hl:l.length=R*C) {F:Nat→Nat→Int} (hF:F=fun (i j:Nat)=>Eb (C:Int) l (j:Int) (i:Int)):∀ (k i M:Nat),i+k=R→k<M →
 Ak.Cl.L0 N M (R:Int) (C:Int) l (i:Int) (fill C R F (dC i 0))=some (.agg [.int .i64 (C:Int),.int .i64 (R:Int),.ints .fresh .u64 (Bv C R F)]):=by
 intro k
 induction k with
 | zero =>
   intro i M hi hM
   obtain ⟨M,rfl⟩:∃ G,M=G+1:=⟨M-1,by omega⟩
   rw [Ak.Cl.Av,Au,A1m (by omega),A1l,Aah (fun a b ha hb=>by simp only [dC,A1o]; omega)]
 | succ k ih =>
   intro i M hi hM
   obtain ⟨M,rfl⟩:∃ G,M=G+1:=⟨M-1,by omega⟩
   have n:=Aai.inner N h6 hl hF (show i<R by omega) C 0 M N (by omega) (by omega)
   rw [Ak.Cl.Av,Au,A1i (by omega),A1h]
   exact n.trans (ih (i+1) M (by omega) (by omega))
theorem Ak.Cl.known:Ak.Cl.Kn:=Ak.Cl.Ac (.cons Ak.At.known (.cons Ak.Fx.known (.cons Ak.Bb.known .nil))) fun r c l hp=>by
 have hr:A2 r c l=true:=hp
 obtain ⟨R,C,rfl,rfl,r6,c6,hl⟩:=Ci hr
 refine ⟨8,.agg [.int .i64 (C:Int),.int .i64 (R:Int),.ints .fresh .u64 (Bv C R fun (i j:Nat)=>Eb (C:Int) l (j:Int) (i:Int))],[],?_,Uc⟩
 have n:=Aai.outer 8 (by omega) ⟨r6,c6⟩ hl rfl R 0 8 (by omega) (by omega)
 rw [Sk (fun a b ha hb=>by simp only [dC,A1o]; omega)] at n
 rw [Ak.Cl.ev,Mn r6,Mn c6,A1n,A1h,A1j,A1j]
 exact n
theorem Ak.Part.known:Ak.Part.Kn:=Ak.Part.Ac (.cons Ak.At.known (.cons Ak.Fx.known (.cons Ak.Bb.known .nil))) fun r c l x y a b hp=>by
 obtain ⟨hr,hq⟩:=Ae.1 (show (A2 r c l&&Ic r c x y a b)=true from hp)
 obtain ⟨s1,s2⟩:=Zi hr hq
 obtain ⟨A,rfl,hA⟩:=Ew s1
 obtain ⟨B,rfl,hB⟩:=Ew s2
 refine ⟨8,.agg [.int .i64 (A:Int),.int .i64 (B:Int),.ints .fresh .u64 (Bv A B fun (i j:Nat)=>Eb c l (x+(i:Int)) (y+(j:Int)))],[],?_,Uc⟩
 have n:=Aaj.outer 8 (by omega) ⟨hA,hB⟩ hr hq rfl A 0 8 (by omega) (by omega)
 rw [Sk (fun a b ha hb=>by simp only [dR,A1o]; omega)] at n
 rw [Ak.Part.ev,s1,s2,A1n,A1h,A1j,A1j]
 exact n
theorem Ak.Mul.known:Ak.Mul.Kn:=Ak.Mul.Ac (.cons Aj.Ht.known (.cons Ak.Po.known (.cons Ak.Row.known (.cons Ak.Fx.known (.cons Ak.Bb.known .nil))))) fun r c l p q m hp=>by
 obtain ⟨h1,h2⟩:=Ae.1 (show ((A2 r c l&&A2 p q m)&&((Ai l&&Ai m)&&decide (c=p)))=true from hp)
 obtain ⟨hr,hm⟩:=Ae.1 h1
 obtain ⟨h3,h4⟩:=Ae.1 h2
 obtain ⟨al,am⟩:=Ae.1 h3
 have ec:=A17 h4
 obtain ⟨R,C,rfl,rfl,r6,c6,hl⟩:=Ci hr
 obtain ⟨P,Q,rfl,rfl,p6,q6,_⟩:=Ci hm
 refine ⟨8,.agg [.int .i64 (R:Int),.int .i64 (Q:Int),.ints .fresh .u64 (Bv R Q fun (i j:Nat)=>Je (G6 (C:Int) l (i:Int)) (Kv (P:Int) (Q:Int) m (j:Int)))],[],?_,Uc⟩
 have n:=Aek.outer 8 (by omega) ⟨r6,c6,q6⟩ hl hr hm ec.symm al am rfl R 0 8 (by omega) (by omega)
 rw [Sk (fun a b ha hb=>by simp only [dR,A1o]; omega)] at n
 rw [Ak.Mul.ev,Mn r6,Mn q6,A1n,A1h,A1j,A1j]
 exact n
theorem Auf (N:Nat) {n:Nat} (h6:n≤6):∀ (k i M:Nat),i+k=n→k<M →
 Ak.Ep.L0 N M (n:Int) (i:Int) (fill n n (fun (a b:Nat)=>N3 (a:Int) (b:Int)) fun a b=>decide (a=b∧a<i))=some (.agg [.int .i64 (n:Int),.int .i64 (n:Int),.ints .fresh .u64 (Bv n n fun (a b:Nat)=>N3 (a:Int) (b:Int))]):=by
 intro k
 induction k with
 | zero =>
   intro i M hi hM
   obtain ⟨M,rfl⟩:∃ G,M=G+1:=⟨M-1,by omega⟩
   have e:fill n n (fun (a b:Nat)=>N3 (a:Int) (b:Int)) (fun a b=>decide (a=b∧a<i))=Bv n n fun (a b:Nat)=>N3 (a:Int) (b:Int):=by
    refine Ed fun a b ha hb=>?_
    by_cases h:a=b
    ·rw [A14 (A1i ⟨h,by omega⟩)]
    ·rw [A13 (fun k=>h (A17 k).1)]
     unfold N3
     rw [A13 (by omega)]
   rw [Ak.Ep.Av,Au,A1m (by omega),A1l,e]
 | succ k ih =>
   intro i M hi hM
   obtain ⟨M,rfl⟩:∃ G,M=G+1:=⟨M-1,by omega⟩
   have c9:C0 (n:Int) (n:Int) (fill n n (fun (a b:Nat)=>N3 (a:Int) (b:Int)) fun a b=>decide (a=b∧a<i)) (i:Int) (i:Int)=true:=D1 h6 h6 (Oi _ _ _ _) (by omega) (by omega)
   have one:(4607182418800017408:Int)=(fun (a b:Nat)=>N3 (a:Int) (b:Int)) i i:=(A14 rfl).symm
   rw [Ak.Ep.Av,Au,A1i (by omega),A1h,c9,A1h,Am (by omega) (by omega),Vn (d':=fun a b=>decide (a=b∧a<i+1)) (by omega) one (fun a b ha hb=>by simp only [A1o]; omega)]
   exact ih (i+1) M (by omega) (by omega)
theorem Ak.Ep.known:Ak.Ep.Kn:=Ak.Ep.Ac (.cons Ak.Fx.known (.cons Ak.Bb.known .nil)) fun n hp=>by
 have hp:Bh n=true:=hp
 obtain ⟨n,rfl,h6⟩:=Ew hp
 refine ⟨8,.agg [.int .i64 (n:Int),.int .i64 (n:Int),.ints .fresh .u64 (Bv n n fun (a b:Nat)=>N3 (a:Int) (b:Int))],[],?_,Uc⟩
 have e:=Auf 8 h6 n 0 8 (by omega) (by omega)
 rw [Sk (fun a b ha hb=>by simp only [A1o]; omega)] at e
 rw [Ak.Ep.ev,hp,A1n,A1h,A1j]
 exact e
set_option maxRecDepth 100000
namespace EqHouse
def Ao.Bt.hint:Nat→Option Be
 | 0=>some { keep:=[5,6,7],objs:=[],boxes:=[] }
 | _=>none
def Ao.Bt.A9:List (Nat × Entry):=[(155,soft.Kind.spec)]
def Ao.Bt.E:Env:=Ba (A8 Ao.Bt.A9) (fun _=>false) Ao.Bt.hint (fun _=>none)
section
variable (N M:Nat) (x:List Int) (p7:Int)
def Ao.Bt.L0:Option DV:=B2 Ao.Bt.E N f252 (An f252) [1,0,1,0] [] M ⟨Gz 15 [(5,.ints .arg .u64 x),(6,.int .i64 (length x:Int)),(7,.int .i64 p7)],[]⟩
theorem Ao.Bt.Av:Ao.Bt.L0 N (M+1) x p7=bif (A6 p7 (length x:Int)) then bif ((decide (0≤p7))&&(decide (p7<(length x:Int)))) then bif (Af (getD x (toNat p7) 0)) then bif ((A5 (getD x (toNat p7) 0)) !=(0:Int)) then some (.bool false) else Ao.Bt.L0 N M x (Ab (p7+1)) else none else none else some (.bool true):=by kernel_rfl
theorem Ao.Bt.ev:Bw Ao.Bt.E N f252 (An f252) [.ints .arg .u64 x] =
 Ao.Bt.L0 N N x 0:=by kernel_rfl
end
abbrev _root_.Go.Proofs.S1.Ao.Bt.Kn:=A4 prog 252 Ao.Bt.spec
theorem Ao.Bt.Ac (hk:Az prog Ao.Bt.A9) (h:Hyp Ao.Bt.E f252 Ao.Bt.ts Ao.Bt.pre Ao.Bt.out):Ao.Bt.Kn :=
 Al (A0 hk _ _ _) func252 (by kernel_rfl) (by kernel_rfl) h
def Ao.lead.hint:Nat→Option Be
 | 0=>some { keep:=[5,6,7],objs:=[],boxes:=[] }
 | _=>none
def Ao.lead.A9:List (Nat × Entry):=[(155,soft.Kind.spec)]
def Ao.lead.E:Env:=Ba (A8 Ao.lead.A9) (fun _=>false) Ao.lead.hint (fun _=>none)
section
variable (N M:Nat) (x:List Int) (p7:Int)
def Ao.lead.L0:Option DV:=B2 Ao.lead.E N f258 (An f258) [1,0,1,0] [] M ⟨Gz 16 [(5,.ints .arg .u64 x),(6,.int .i64 (length x:Int)),(7,.int .i64 p7)],[]⟩
theorem Ao.lead.Av:Ao.lead.L0 N (M+1) x p7=bif (A6 p7 (length x:Int)) then bif ((decide (0≤p7))&&(decide (p7<(length x:Int)))) then bif (Af (getD x (toNat p7) 0)) then bif ((A5 (getD x (toNat p7) 0)) !=(0:Int)) then some (.int .u64 (getD x (toNat p7) 0)) else Ao.lead.L0 N M x (Ab (p7+1)) else none else none else some (.int .u64 0):=by kernel_rfl
theorem Ao.lead.ev:Bw Ao.lead.E N f258 (An f258) [.ints .arg .u64 x] =
 Ao.lead.L0 N N x 0:=by kernel_rfl
end
abbrev _root_.Go.Proofs.S1.Ao.lead.Kn:=A4 prog 258 Ao.lead.spec
theorem Ao.lead.Ac (hk:Az prog Ao.lead.A9) (h:Hyp Ao.lead.E f258 Ao.lead.ts Ao.lead.pre Ao.lead.out):Ao.lead.Kn :=
 Al (A0 hk _ _ _) func258 (by kernel_rfl) (by kernel_rfl) h
def Ao.Df.hint:Nat→Option Be
 | 0=>some { keep:=[1,5,8,9,10],objs:=[(0,5,100005,.ints 37 .u64 [])],boxes:=[] }
 | _=>none
def Ao.Df.A9:List (Nat × Entry):=[(88,Ad.Br.spec)]
def Ao.Df.E:Env:=Ba (A8 Ao.Df.A9) (fun _=>false) Ao.Df.hint (fun _=>none)
section
variable (N M:Nat) (x:List Int) (k p10:Int) (p5:List Int)
def Ao.Df.L0:Option DV:=B2 Ao.Df.E N f256 (An f256) [1,1,0,1,0] [] M ⟨Gz 22 [(1,.int .i64 k),(5,.oref 100005),(8,.ints .arg .u64 x),(9,.int .i64 (length x:Int)),(10,.int .i64 p10)],[(100005,false,.ints 37 .u64 p5)]⟩
theorem Ao.Df.Av:Ao.Df.L0 N (M+1) x k p10 p5=bif (A6 p10 (length x:Int)) then bif ((decide (0≤p10))&&(decide (p10<(length x:Int)))) then bif (Di (getD x (toNat p10) 0) k) then bif (decide ((length p5)+1≤G0)) then Ao.Df.L0 N M x k (Ab (p10+1)) (p5++[(Bp (getD x (toNat p10) 0) k)]) else none else none else none else some (.ints (.own 100005 37) .u64 p5):=by kernel_rfl
theorem Ao.Df.ev:Bw Ao.Df.E N f256 (An f256) [.ints .arg .u64 x,.int .i64 k] =
 Ao.Df.L0 N N x k 0 []:=by kernel_rfl
end
abbrev _root_.Go.Proofs.S1.Ao.Df.Kn:=A4 prog 256 Ao.Df.spec
theorem Ao.Df.Ac (hk:Az prog Ao.Df.A9) (h:Hyp Ao.Df.E f256 Ao.Df.ts Ao.Df.pre Ao.Df.out):Ao.Df.Kn :=
 Al (A0 hk _ _ _) func256 (by kernel_rfl) (by kernel_rfl) h
def Ao.Fm.A9:List (Nat × Entry):=[]
def Ao.Fm.E:Env:=Ba (A8 Ao.Fm.A9) (fun _=>false) (fun _=>none) (fun _=>none)
theorem Ao.Fm.ev (N:Nat) (i:Int):Bw Ao.Fm.E N f254 (An f254) [.int .i64 i]=some (.int .u64 0):=by kernel_rfl
abbrev _root_.Go.Proofs.S1.Ao.Fm.Kn:=A4 prog 254 Ao.Fm.spec
theorem Ao.Fm.Ac (hk:Az prog Ao.Fm.A9) (h:Hyp Ao.Fm.E f254 Ao.Fm.ts Ao.Fm.pre Ao.Fm.out):Ao.Fm.Kn :=
 Al (A0 hk _ _ _) func254 (by kernel_rfl) (by kernel_rfl) h
def Ao.Fl.A9:List (Nat × Entry):=[(158,Ad.Div.spec)]
def Ao.Fl.E:Env:=Ba (A8 Ao.Fl.A9) (fun _=>false) (fun _=>none) (fun _=>none)
theorem Ao.Fl.ev (N:Nat) (i:Int) (y:List Int) (d:Int):Bw Ao.Fl.E N f259 (An f259) [.int .i64 i,.cellp [.ints .arg .u64 y],.cellp [.int .u64 d]]=bif ((decide (0≤i))&&(decide (i<(length y:Int)))) then bif (Af (getD y (toNat i) 0)&&Af d) then some (.int .u64 (E4 (getD y (toNat i) 0) d)) else none else none :=
 Eq.trans (by kernel_rfl)
 (C9 (Nh (decide (0≤i)) (decide (i<(length y:Int)))) (C9 (Cy (Af (getD y (toNat i) 0)&&Af d)) rfl rfl) rfl)
abbrev _root_.Go.Proofs.S1.Ao.Fl.Kn:=A4 prog 259 Ao.Fl.spec
theorem Ao.Fl.Ac (hk:Az prog Ao.Fl.A9) (h:Hyp Ao.Fl.E f259 Ao.Fl.ts Ao.Fl.pre Ao.Fl.out):Ao.Fl.Kn :=
 Al (A0 hk _ _ _) func259 (by kernel_rfl) (by kernel_rfl) h
def Ao.row.Zero.hint:Nat→Option Be
 | 0=>some { keep:=[0,1,5,6],objs:=[(0,5,100005,.ints 37 .u64 [])],boxes:=[] }
 | _=>none
def Ao.row.Zero.A9:List (Nat × Entry):=[(254,Ao.Fm.spec)]
def Ao.row.Zero.E:Env:=Ba (A8 Ao.row.Zero.A9) (fun _=>false) Ao.row.Zero.hint (fun _=>none)
section
variable (N M:Nat) (n p6:Int) (p5:List Int)
def Ao.row.Zero.L0:Option DV:=B2 Ao.row.Zero.E N f253 (An f253) [1,1,0,1,0] [] M ⟨Gz 23 [(0,.int .i64 n),(1,.fn 254 [] []),(5,.oref 100005),(6,.int .i64 p6)],[(100005,false,.ints 37 .u64 p5)]⟩
theorem Ao.row.Zero.Av:Ao.row.Zero.L0 N (M+1) n p6 p5=bif (A6 p6 n) then bif (decide ((length p5)+1≤G0)) then Ao.row.Zero.L0 N M n (Ab (p6+1)) (p5++[(0:Int)]) else none else bif (((decide ((0:Int)≤n))&&(decide (n≤n)))&&((decide ((0:Int)≤n))&&(decide (n≤(length p5:Int))))) then some (.ints .fresh .u64 (List.take (toNat (n-0)) (List.drop 0 p5))) else none :=
 Eq.trans (by kernel_rfl)
 (Et rfl (C9 (Avu (decide ((0:Int)≤n)) (decide (n≤n)) (decide (n≤(length p5:Int)))) rfl rfl))
theorem Ao.row.Zero.ev:Bw Ao.row.Zero.E N f253 (An f253) [.int .i64 n,.fn 254 [] []] =
 Ao.row.Zero.L0 N N n 1 [(4607182418800017408:Int)]:=by kernel_rfl
end
abbrev _root_.Go.Proofs.S1.Ao.row.Zero.Kn:=A4 prog 253 Ao.row.Zero.spec
theorem Ao.row.Zero.Ac (hk:Az prog Ao.row.Zero.A9) (h:Hyp Ao.row.Zero.E f253 Ao.row.Zero.ts Ao.row.Zero.pre Ao.row.Zero.out):Ao.row.Zero.Kn :=
 Al (A0 hk _ _ _) func253 (by kernel_rfl) (by kernel_rfl) h
def Ao.row.Div.hint:Nat→Option Be
 | 0=>some { keep:=[0,1,5,6],objs:=[(0,5,100005,.ints 37 .u64 [])],boxes:=[] }
 | _=>none
def Ao.row.Div.A9:List (Nat × Entry):=[(259,Ao.Fl.spec)]
def Ao.row.Div.E:Env:=Ba (A8 Ao.row.Div.A9) (fun _=>false) Ao.row.Div.hint (fun _=>none)
section
variable (N M:Nat) (n:Int) (y:List Int) (d p6:Int) (p5:List Int)
def Ao.row.Div.L0:Option DV:=B2 Ao.row.Div.E N f253 (An f253) [1,1,0,1,0] [] M ⟨Gz 23 [(0,.int .i64 n),(1,.fn 259 [] [.cellp [.ints .arg .u64 y],.cellp [.int .u64 d]]),(5,.oref 100005),(6,.int .i64 p6)],[(100005,false,.ints 37 .u64 p5)]⟩
theorem Ao.row.Div.Av:Ao.row.Div.L0 N (M+1) n y d p6 p5=bif (A6 p6 n) then bif ((Cz (0≤p6∧p6<length y)&&Ai y)&&Af d) then bif (decide ((length p5)+1≤G0)) then Ao.row.Div.L0 N M n y d (Ab (p6+1)) (p5++[(E4 (getD y (toNat p6) 0) d)]) else none else none else bif (((decide ((0:Int)≤n))&&(decide (n≤n)))&&((decide ((0:Int)≤n))&&(decide (n≤(length p5:Int))))) then some (.ints .fresh .u64 (List.take (toNat (n-0)) (List.drop 0 p5))) else none :=
 Eq.trans (by kernel_rfl)
 (Et rfl (C9 (Avu (decide ((0:Int)≤n)) (decide (n≤n)) (decide (n≤(length p5:Int)))) rfl rfl))
theorem Ao.row.Div.ev:Bw Ao.row.Div.E N f253 (An f253) [.int .i64 n,.fn 259 [] [.cellp [.ints .arg .u64 y],.cellp [.int .u64 d]]] =
 Ao.row.Div.L0 N N n y d 1 [(4607182418800017408:Int)]:=by kernel_rfl
end
abbrev _root_.Go.Proofs.S1.Ao.row.Div.Kn:=A4 prog 253 Ao.row.Div.spec
theorem Ao.row.Div.Ac (hk:Az prog Ao.row.Div.A9) (h:Hyp Ao.row.Div.E f253 Ao.row.Div.ts Ao.row.Div.pre Ao.row.Div.out):Ao.row.Div.Kn :=
 Al (A0 hk _ _ _) func253 (by kernel_rfl) (by kernel_rfl) h
def Ao.Dl.A9:List (Nat × Entry):=[(255,compare.Ku.spec),(258,Ao.lead.spec),(252,Ao.Bt.spec),(253,(Aw6 [.i .i64,.fn 254 []] Ao.row.Zero.spec Ao.row.Div.spec)),(256,Ao.Df.spec),(148,soft.Finite.spec),(233,soft.De.spec),(213,soft.Sign.spec),(89,Ad.Bq.spec),(158,Ad.Div.spec),(150,Ad.Finite.spec),(257,Ad.Norm.spec),(88,Ad.Br.spec),(156,Ad.Sub.spec)]
def Ao.Dl.E:Env:=Ba (A8 Ao.Dl.A9) (fun _=>false) (fun _=>none) (fun _=>none)
theorem Ao.Dl.ev (N:Nat) (x:List Int):Bw Ao.Dl.E N f245 (An f245) [.ints .arg .u64 x]=bif (((length x:Int)==(0:Int))||(A6 64 (length x:Int))) then some (.tup [.nil,.int .u64 0,.int .u64 0,.int .i64 3]) else bif (Cp x) then bif (!(C2 x)) then some (.tup [.nil,.int .u64 0,.int .u64 0,.int .i64 4]) else bif (decide ((1:Int)≤(length x:Int))) then bif (Cp (List.drop 1 x)) then bif (Dr (List.drop 1 x)) then bif (Cz (1≤(length x:Int)∧(length x:Int)≤64)) then bif (decide ((0:Int)<(length x:Int))) then some (.tup [.ints .fresh .u64 (I7 (toNat (length x:Int)) (fun _=>0)),.int .u64 0,.int .u64 (getD x 0 0),.int .i64 0]) else none else none else bif (Cp x) then bif (Af (Bg x)) then bif (Cp x&&Cz (length x≤1000∧-2300≤(Ab (0-(Bs (Bg x))))∧(Ab (0-(Bs (Bg x))))≤2300)) then bif (Cp (Bo x (Ab (0-(Bs (Bg x)))))&&Cz (length (Bo x (Ab (0-(Bs (Bg x)))))≤64)) then bif (Cp x) then bif (Af (Mj x)) then bif (!(D0 (Mj x))) then bif (Af (Da (Bo x (Ab (0-(Bs (Bg x))))))) then bif (Di (Cr (Da (Bo x (Ab (0-(Bs (Bg x))))))) (Bs (Bg x))) then bif (Af (Bp (Cr (Da (Bo x (Ab (0-(Bs (Bg x))))))) (Bs (Bg x)))) then bif (!(Ck (Bp (Cr (Da (Bo x (Ab (0-(Bs (Bg x))))))) (Bs (Bg x))))) then some (.tup [.nil,.int .u64 0,.int .u64 0,.int .i64 2]) else bif (decide ((0:Int)<(length (Bo x (Ab (0-(Bs (Bg x))))):Int))) then bif (Af (getD (Bo x (Ab (0-(Bs (Bg x))))) 0 0)&&Af (Cr (Da (Bo x (Ab (0-(Bs (Bg x)))))))) then bif ((Cz (1≤(length (Bo x (Ab (0-(Bs (Bg x))))):Int)∧(length (Bo x (Ab (0-(Bs (Bg x))))):Int)≤64∧(length (Bo x (Ab (0-(Bs (Bg x))))):Int)=length (Bo x (Ab (0-(Bs (Bg x))))))&&Ai (Bo x (Ab (0-(Bs (Bg x))))))&&Af (Ec (getD (Bo x (Ab (0-(Bs (Bg x))))) 0 0) (Cr (Da (Bo x (Ab (0-(Bs (Bg x))))))))) then bif (decide ((0:Int)<(length (Bo x (Ab (0-(Bs (Bg x))))):Int))) then bif (Af (Cr (Da (Bo x (Ab (0-(Bs (Bg x)))))))&&Af (getD (Bo x (Ab (0-(Bs (Bg x))))) 0 0)) then bif (Af (Ec (Cr (Da (Bo x (Ab (0-(Bs (Bg x))))))) (getD (Bo x (Ab (0-(Bs (Bg x))))) 0 0))&&Af (Cr (Da (Bo x (Ab (0-(Bs (Bg x)))))))) then some (.tup [.ints .fresh .u64 (I7 (toNat (length (Bo x (Ab (0-(Bs (Bg x))))):Int)) (fun j=>E4 (getD (Bo x (Ab (0-(Bs (Bg x))))) j 0) (Ec (getD (Bo x (Ab (0-(Bs (Bg x))))) 0 0) (Cr (Da (Bo x (Ab (0-(Bs (Bg x)))))))))),.int .u64 (E4 (Ec (Cr (Da (Bo x (Ab (0-(Bs (Bg x))))))) (getD (Bo x (Ab (0-(Bs (Bg x))))) 0 0)) (Cr (Da (Bo x (Ab (0-(Bs (Bg x)))))))),.int .u64 (Bp (Cr (Da (Bo x (Ab (0-(Bs (Bg x))))))) (Bs (Bg x))),.int .i64 0]) else none else none else none else none else none else none else none else none else none else bif (Di (Da (Bo x (Ab (0-(Bs (Bg x)))))) (Bs (Bg x))) then bif (Af (Bp (Da (Bo x (Ab (0-(Bs (Bg x)))))) (Bs (Bg x)))) then bif (!(Ck (Bp (Da (Bo x (Ab (0-(Bs (Bg x)))))) (Bs (Bg x))))) then some (.tup [.nil,.int .u64 0,.int .u64 0,.int .i64 2]) else bif (decide ((0:Int)<(length (Bo x (Ab (0-(Bs (Bg x))))):Int))) then bif (Af (getD (Bo x (Ab (0-(Bs (Bg x))))) 0 0)&&Af (Da (Bo x (Ab (0-(Bs (Bg x))))))) then bif ((Cz (1≤(length (Bo x (Ab (0-(Bs (Bg x))))):Int)∧(length (Bo x (Ab (0-(Bs (Bg x))))):Int)≤64∧(length (Bo x (Ab (0-(Bs (Bg x))))):Int)=length (Bo x (Ab (0-(Bs (Bg x))))))&&Ai (Bo x (Ab (0-(Bs (Bg x))))))&&Af (Ec (getD (Bo x (Ab (0-(Bs (Bg x))))) 0 0) (Da (Bo x (Ab (0-(Bs (Bg x)))))))) then bif (decide ((0:Int)<(length (Bo x (Ab (0-(Bs (Bg x))))):Int))) then bif (Af (Da (Bo x (Ab (0-(Bs (Bg x))))))&&Af (getD (Bo x (Ab (0-(Bs (Bg x))))) 0 0)) then bif (Af (Ec (Da (Bo x (Ab (0-(Bs (Bg x)))))) (getD (Bo x (Ab (0-(Bs (Bg x))))) 0 0))&&Af (Da (Bo x (Ab (0-(Bs (Bg x))))))) then some (.tup [.ints .fresh .u64 (I7 (toNat (length (Bo x (Ab (0-(Bs (Bg x))))):Int)) (fun j=>E4 (getD (Bo x (Ab (0-(Bs (Bg x))))) j 0) (Ec (getD (Bo x (Ab (0-(Bs (Bg x))))) 0 0) (Da (Bo x (Ab (0-(Bs (Bg x))))))))),.int .u64 (E4 (Ec (Da (Bo x (Ab (0-(Bs (Bg x)))))) (getD (Bo x (Ab (0-(Bs (Bg x))))) 0 0)) (Da (Bo x (Ab (0-(Bs (Bg x))))))),.int .u64 (Bp (Da (Bo x (Ab (0-(Bs (Bg x)))))) (Bs (Bg x))),.int .i64 0]) else none else none else none else none else none else none else none else none else none else none else none else none else none else none else none else none else none :=
 Eq.trans (by kernel_rfl)
 (Ax (S8 ((length x:Int)==(0:Int))) (Ax (Qx ((length x:Int)==(0:Int))) (Ax (Qx ((length x:Int)==(0:Int))) (Ax (X2 ((length x:Int)==(0:Int))) (C9 (tt5 ((length x:Int)==(0:Int)) (A6 64 (length x:Int))) rfl (Et (Et rfl (C9 (Az6 (decide ((1:Int)≤(length x:Int)))) (Et (Et (C9 (Cy (Cz (1≤(length x:Int)∧(length x:Int)≤64))) (C9 (Cy (decide ((0:Int)<(length x:Int)))) rfl rfl) rfl) rfl) rfl) rfl)) rfl))))))
abbrev _root_.Go.Proofs.S1.Ao.Dl.Kn:=A4 prog 245 Ao.Dl.spec
theorem Ao.Dl.Ac (hk:Az prog Ao.Dl.A9) (h:Hyp Ao.Dl.E f245 Ao.Dl.ts Ao.Dl.pre Ao.Dl.out):Ao.Dl.Kn :=
 Al (A0 hk _ _ _) func245 (by kernel_rfl) (by kernel_rfl) h
def Ao.Apply.hint:Nat→Option Be
 | 0=>some { keep:=[1,3,4,5,10,13,14],objs:=[(14,2,114002,.ints 37 .u64 [])],boxes:=[5,10,13] }
 | 2=>some { keep:=[1,3,4,5,10,13,14,18,90,91,92],objs:=[(14,2,114002,.ints 37 .u64 [])],boxes:=[5,10,13] }
 | _=>none
def Ao.Apply.A9:List (Nat × Entry):=[(160,Aa.Check.spec),(191,Aa.Dx.spec),(189,Ad.Ht.spec),(157,Ad.Mul.spec),(156,Ad.Sub.spec)]
def Ao.Apply.E:Env:=Ba (A8 Ao.Apply.A9) (fun _=>false) Ao.Apply.hint (fun _=>none)
section
variable (N M0 M:Nat) (r c:Int) (l:List Int) (i k:Int) (v:List Int) (t p92:Int) (p2:List Int) (p14_1 p18:Int) (p90:List Int) (p91 p14:Int) (p2_1:List Int)
def Ao.Apply.L0:Option DV:=B2 Ao.Apply.E N f219 (An f219) [1,1,1,1,0,1,0] [] M ⟨Gz 118 [(1,.int .i64 i),(3,.ints .arg .u64 v),(4,.int .u64 t),(5,.ptr 5 0 0),(10,.ptr 10 0 0),(13,.ptr 13 0 0),(14,.int .i64 p14)],[(5,false,.box [.int .i64 r,.int .i64 c,.ints .arg .u64 l]),(10,false,.box [.int .i64 0,.int .i64 0,.nil]),(13,false,.box [.int .i64 r,.int .i64 c,.oref 114002]),(114002,false,.ints 37 .u64 p2_1)]⟩
def Ao.Apply.L1:Option DV:=B2 Ao.Apply.E N f219 (An f219) [1,1,1,1,0,1,0,0,1,0,0,1,1,1,1,0] [M0] M ⟨Gz 118 [(1,.int .i64 i),(3,.ints .arg .u64 v),(4,.int .u64 t),(5,.ptr 5 0 0),(10,.ptr 10 0 0),(13,.ptr 13 0 0),(14,.int .i64 p14_1),(18,.int .u64 p18),(90,.ints .fresh .u64 p90),(91,.int .i64 p91),(92,.int .i64 p92)],[(5,false,.box [.int .i64 r,.int .i64 c,.ints .arg .u64 l]),(10,false,.box [.int .i64 0,.int .i64 0,.nil]),(13,false,.box [.int .i64 r,.int .i64 c,.oref 114002]),(114002,false,.ints 37 .u64 p2)]⟩
theorem Ao.Apply.Av:Ao.Apply.L0 N (M+1) r c l i v t p14 p2_1=bif (A6 p14 c) then bif (Hj r c l p14&&Cz (0≤i∧i≤r)) then bif (((decide ((0:Int)≤(length v:Int)))&&(decide ((length v:Int)≤(length v:Int))))&&((decide ((0:Int)≤(length v:Int)))&&(decide ((length v:Int)≤(length (Ct c l p14 i (toNat (r-i))):Int))))) then bif ((Pk v (List.take (toNat (length v:Int)) (Ct c l p14 i (toNat (r-i))))&&Ai v)&&Ai (List.take (toNat (length v:Int)) (Ct c l p14 i (toNat (r-i))))) then bif (Af t&&Af (Je v (List.take (toNat (length v:Int)) (Ct c l p14 i (toNat (r-i)))))) then Ao.Apply.L1 N M N r c l i v t 0 p2_1 p14 (C5 t (Je v (List.take (toNat (length v:Int)) (Ct c l p14 i (toNat (r-i)))))) (List.take (toNat (length v:Int)) (Ct c l p14 i (toNat (r-i)))) (length (List.take (toNat (length v:Int)) (Ct c l p14 i (toNat (r-i)))):Int) else none else none else none else none else some (.tup [.agg [.int .i64 r,.int .i64 c,.ints (.own 114002 37) .u64 p2_1],.int .i64 0]) :=
 Eq.trans (by kernel_rfl)
 (Et (Et (C9 (Avu (decide ((0:Int)≤(length v:Int))) (decide ((length v:Int)≤(length v:Int))) (decide ((length v:Int)≤(length (Ct c l p14 i (toNat (r-i))):Int)))) rfl rfl) rfl) rfl)
theorem Ao.Apply.B8:Ao.Apply.L1 N M0 (M+1) r c l i v t p92 p2 p14_1 p18 p90 p91=bif (A6 p92 p91) then bif ((decide (0≤p92))&&(decide (p92<(length p90:Int)))) then bif ((decide (0≤p92))&&(decide (p92<(length v:Int)))) then bif (Af p18&&Af (getD v (toNat p92) 0)) then bif (Af (getD p90 (toNat p92) 0)&&Af (C5 p18 (getD v (toNat p92) 0))) then bif ((decide (0≤(Ab ((Ab ((Ab (i+p92))*c))+p14_1))))&&(decide ((Ab ((Ab ((Ab (i+p92))*c))+p14_1))<(length p2:Int)))) then bif (decide ((toNat (Ab ((Ab ((Ab (i+p92))*c))+p14_1)))<(length p2))) then Ao.Apply.L1 N M0 M r c l i v t (Ab (p92+1)) (List.set p2 (toNat (Ab ((Ab ((Ab (i+p92))*c))+p14_1))) (Ec (getD p90 (toNat p92) 0) (C5 p18 (getD v (toNat p92) 0)))) p14_1 p18 p90 p91 else none else none else none else none else none else none else Ao.Apply.L0 N M0 r c l i v t (Ab (p14_1+1)) p2 :=
 Eq.trans (by kernel_rfl)
 (Et (Et (C9 (Nh (decide (0≤p92)) (decide (p92<(length v:Int)))) (C9 (Cy (Af p18&&Af (getD v (toNat p92) 0))) (C9 (Cy (Af (getD p90 (toNat p92) 0)&&Af (C5 p18 (getD v (toNat p92) 0)))) (C9 (Nh (decide (0≤(Ab ((Ab ((Ab (i+p92))*c))+p14_1)))) (decide ((Ab ((Ab ((Ab (i+p92))*c))+p14_1))<(length p2:Int)))) (C9 (Cy (decide ((toNat (Ab ((Ab ((Ab (i+p92))*c))+p14_1)))<(length p2)))) rfl rfl) rfl) rfl) rfl) rfl) rfl) rfl)
theorem Ao.Apply.ev:Bw Ao.Apply.E N f219 (An f219) [.agg [.int .i64 r,.int .i64 c,.ints .arg .u64 l],.int .i64 i,.int .i64 k,.ints .arg .u64 v,.int .u64 t]=bif ((Lb r c l) !=(0:Int)) then some (.tup [.agg [.int .i64 0,.int .i64 0,.nil],.int .i64 (Lb r c l)]) else bif (((((A6 i 0)||(A6 r (length v:Int)))||(A6 (Ab (r-(length v:Int))) i))||(A6 k 0))||(A6 c k)) then some (.tup [.agg [.int .i64 0,.int .i64 0,.nil],.int .i64 3]) else bif (decide (0+(length l)≤G0)) then Ao.Apply.L0 N N r c l i v t k ([]++l) else none :=
 Eq.trans (by kernel_rfl)
 (Et rfl (Ax (S8 (A6 i 0)) (Ax (Qx (A6 i 0)) (Ax (S8 (A6 i 0)) (Ax (Qx (A6 i 0)) (Ax (tt8 (A6 i 0)) (Ax (X2 (A6 i 0)) (Ax (Afg (A6 i 0) (A6 r (length v:Int))) (Ax (Afg (A6 i 0) (A6 r (length v:Int))) (Ax (Aib (A6 i 0) (A6 r (length v:Int))) (Ax (Afg (A6 i 0) (A6 r (length v:Int))) (Ax (Aib (A6 i 0) (A6 r (length v:Int))) (Ax (Ass (A6 i 0) (A6 r (length v:Int))) (Ax (Ass (A6 i 0) (A6 r (length v:Int))) (Ax (Asv (A6 i 0) (A6 r (length v:Int))) (Ax (Al5 (A6 i 0) (A6 r (length v:Int)) (A6 (Ab (r-(length v:Int))) i)) (Ax (Afh (A6 i 0) (A6 r (length v:Int)) (A6 (Ab (r-(length v:Int))) i)) (Ax (Asw (A6 i 0) (A6 r (length v:Int)) (A6 (Ab (r-(length v:Int))) i)) (Ax (Asx (A6 i 0) (A6 r (length v:Int)) (A6 (Ab (r-(length v:Int))) i) (A6 k 0)) (Ax (Asx (A6 i 0) (A6 r (length v:Int)) (A6 (Ab (r-(length v:Int))) i) (A6 k 0)) (Ax (Ax8 (A6 i 0) (A6 r (length v:Int)) (A6 (Ab (r-(length v:Int))) i) (A6 k 0)) (Ax (Ax9 (A6 i 0) (A6 r (length v:Int)) (A6 (Ab (r-(length v:Int))) i) (A6 k 0)) (Ax (Aya (A6 i 0) (A6 r (length v:Int)) (A6 (Ab (r-(length v:Int))) i) (A6 k 0)) (C9 (Az5 (A6 i 0) (A6 r (length v:Int)) (A6 (Ab (r-(length v:Int))) i) (A6 k 0) (A6 c k)) rfl (C9 (Cy (decide (0+(length l)≤G0))) rfl rfl)))))))))))))))))))))))))
end
abbrev _root_.Go.Proofs.S1.Ao.Apply.Kn:=A4 prog 219 Ao.Apply.spec
theorem Ao.Apply.Ac (hk:Az prog Ao.Apply.A9) (h:Hyp Ao.Apply.E f219 Ao.Apply.ts Ao.Apply.pre Ao.Apply.out):Ao.Apply.Kn :=
 Al (A0 hk _ _ _) func219 (by kernel_rfl) (by kernel_rfl) h
end EqHouse
open EqHouse
theorem Yf (x:Int):((A5 x) !=(0:Int))=!(decide (A5 x=0)):=by
 rw [A1x]; simp
theorem Ad5 (N:Nat) {x:List Int} (hx:Cp x=true):∀ (k i F:Nat),i+k=x.length→k<F→Ao.Bt.L0 N F x (i:Int)=some (.bool (Dr (x.drop i))):=by
 obtain ⟨hl,hu⟩:=Iq hx
 intro k
 induction k with
 | zero =>
   intro i F hi hF
   obtain ⟨F,rfl⟩:∃ G,F=G+1:=⟨F-1,by omega⟩
   rw [Ao.Bt.Av,Au,A1m (by omega),A1l,A1v (by omega)]; rfl
 | succ k ih =>
   intro i F hi hF
   obtain ⟨F,rfl⟩:∃ G,F=G+1:=⟨F-1,by omega⟩
   rw [Ao.Bt.Av,Au,A1i (show (i:Int)<(x.length:Int) by omega),A1h,A1i (show (0:Int)≤(i:Int) by omega),A1n,A1h,A1j,hu i (by omega),A1h,Yf,Hi (by omega)]
   unfold Dr
   rw [List.all_cons]
   cases decide (A5 (x.getD i 0)=0) with
   | false=>rfl
   | true =>
     rw [A2g,A1l,A2u,Am (by omega) (by omega)]
     exact ih (i+1) F (by omega) (by omega)
theorem Ao.Bt.known:Ao.Bt.Kn:=Ao.Bt.Ac (.cons soft.Kind.known .nil) fun x hp=>by
 refine ⟨x.length+1,Ao.Bt.out [.l x],[],?_,.bool⟩
 rw [Ao.Bt.ev]
 exact Ad5 (x.length+1) hp x.length 0 (x.length+1) (by omega) (by omega)
theorem Ank (N:Nat) {x:List Int} (hx:Cp x=true):∀ (k i F:Nat),i+k=x.length→k<F→Ao.lead.L0 N F x (i:Int)=some (.int .u64 (Mj (x.drop i))):=by
 obtain ⟨hl,hu⟩:=Iq hx
 intro k
 induction k with
 | zero =>
   intro i F hi hF
   obtain ⟨F,rfl⟩:∃ G,F=G+1:=⟨F-1,by omega⟩
   rw [Ao.lead.Av,Au,A1m (by omega),A1l,A1v (by omega)]; rfl
 | succ k ih =>
   intro i F hi hF
   obtain ⟨F,rfl⟩:∃ G,F=G+1:=⟨F-1,by omega⟩
   rw [Ao.lead.Av,Au,A1i (show (i:Int)<(x.length:Int) by omega),A1h,A1i (show (0:Int)≤(i:Int) by omega),A1n,A1h,A1j,hu i (by omega),A1h,Yf,Hi (by omega),Mj]
   by_cases h:A5 (x.getD i 0)=0
   ·rw [A1i h,A14 h,A2g,A1l,Am (by omega) (by omega)]
    exact ih (i+1) F (by omega) (by omega)
   ·rw [A1m h,A13 h]; rfl
theorem Ao.lead.known:Ao.lead.Kn:=Ao.lead.Ac (.cons soft.Kind.known .nil) fun x hp=>by
 refine ⟨x.length+1,Ao.lead.out [.l x],[],?_,.int⟩
 rw [Ao.lead.ev]
 exact Ank (x.length+1) hp x.length 0 (x.length+1) (by omega) (by omega)
theorem Yr {x:List Int} {i:Nat} (h:i<x.length) (f:Int→Int):(x.take (i+1)).map f=(x.take i).map f++[f (x.getD i 0)]:=by
 rw [List.take_succ_eq_append_getElem h,List.map_append,A1r,A1y h]; rfl
theorem Adp (N:Nat) {x:List Int} {e:Int} (hx:Cp x=true) (hl:x.length≤1000) (he:-2300≤e∧e≤2300):∀ (k i F:Nat),i+k=x.length→k<F →
 Ao.Df.L0 N F x e (i:Int) ((x.take i).map fun b=>Bp b e)=some (.ints (.own 100005 tB) .u64 (Bo x e)):=by
 obtain ⟨_,hu⟩:=Iq hx
 intro k
 induction k with
 | zero =>
   intro i F hi hF
   obtain ⟨F,rfl⟩:∃ G,F=G+1:=⟨F-1,by omega⟩
   rw [Ao.Df.Av,Au,A1m (by omega),A1l,List.take_of_length_le (by omega)]; rfl
 | succ k ih =>
   intro i F hi hF
   obtain ⟨F,rfl⟩:∃ G,F=G+1:=⟨F-1,by omega⟩
   rw [Ao.Df.Av,Au,A1i (show (i:Int)<(x.length:Int) by omega),A1h,A1i (show (0:Int)≤(i:Int) by omega),A1n,A1h,A1j,
    show Di (getD x i 0) e=true from Ae.2 ⟨hu i (by omega),Ar.2 he⟩,A1h,A1i (by rw [A2n,List.length_take]; unfold G0; omega),A1h,Am (by omega) (by omega)]
   have:=ih (i+1) F (by omega) (by omega)
   rw [Yr (by omega)] at this
   exact this
theorem Ao.Df.known:Ao.Df.Kn:=Ao.Df.Ac (.cons Ad.Br.known .nil) fun x k hp=>by
 obtain ⟨h1,h2⟩:=Ae.1 hp
 have h2:=Ar.1 h2
 refine ⟨x.length+1,.ints (.own 100005 tB) .u64 (Bo x k),[100005],?_,.drop _ _ _ _ (List.mem_singleton.2 rfl)⟩
 rw [Ao.Df.ev]
 exact Adp (x.length+1) h1 h2.1 h2.2 x.length 0 (x.length+1) (by omega) (by omega)
theorem Ao.Fm.known:Ao.Fm.Kn:=Ao.Fm.Ac .nil fun i _=>⟨0,Ao.Fm.out [.i i],[],by rw [Ao.Fm.ev]; rfl,.int⟩
theorem Ao.Fl.known:Ao.Fl.Kn:=Ao.Fl.Ac (.cons Ad.Div.known .nil) fun i y d hp=>by
 obtain ⟨h1,h2⟩:=Ae.1 (show ((Cz (0≤i∧i<length y)&&Ai y)&&Af d)=true from hp)
 obtain ⟨h3,h4⟩:=Ae.1 h1
 have h3:=Ar.1 h3
 refine ⟨0,Ao.Fl.out [.i i,.l y,.i d],[],?_,.int⟩
 rw [Ao.Fl.ev,A1i h3.1,A1i h3.2,Ij h4,h2]; rfl
theorem J0 (n i:Nat) (f:Nat→Int) (h:i+1=n):I7 n f=Awi::(List.range i).map fun j=>f (j+1):=by unfold I7; rw [show n-1=i by omega]
theorem Akk {n:Nat} (f:Nat→Int) (h:n≠0):(((decide ((0:Int)≤(n:Int)))&&(decide ((n:Int)≤(n:Int))))&&((decide ((0:Int)≤(n:Int)))&&(decide ((n:Int)≤(length (I7 n f):Int)))))=true ∧
 List.take (toNat ((n:Int)-(0:Int))) (List.drop 0 (I7 n f))=I7 n f:=by
 have:=Pv h f
 refine ⟨?_,?_⟩
 ·rw [A1i (by omega),A1i (by omega),A1i (by omega)]; rfl
 ·rw [List.drop_zero,List.take_of_length_le (by omega)]
theorem Aa3 (N:Nat) {n:Nat} (h64:n≤64) (h0:n≠0):∀ (k i F:Nat),i+1+k=n→k<F →
 Ao.row.Zero.L0 N F (n:Int) ((i+1:Nat):Int) (I7 (i+1) fun _=>0)=some (.ints .fresh .u64 (I7 n fun _=>0)):=by
 intro k
 induction k with
 | zero =>
   intro i F hi hF
   obtain ⟨F,rfl⟩:∃ G,F=G+1:=⟨F-1,by omega⟩
   obtain rfl:i+1=n:=by omega
   obtain ⟨e1,e2⟩:=Akk (fun _=>0) h0
   rw [Ao.row.Zero.Av,Au,A1m (by omega),A1l,e1,A1h,e2]
 | succ k ih =>
   intro i F hi hF
   obtain ⟨F,rfl⟩:∃ G,F=G+1:=⟨F-1,by omega⟩
   rw [Ao.row.Zero.Av,Au,A1i (by omega),A1h,A1i (by rw [Pv (by omega)]; unfold G0; omega),A1h,Am (by omega) (by omega)]
   have:=ih (i+1) F (by omega) (by omega)
   rw [J0 (i+1+1) (i+1) _ rfl,He] at this
   rw [J0 (i+1) i _ rfl]
   exact this
theorem Ao.row.Zero.known:Ao.row.Zero.Kn:=Ao.row.Zero.Ac (.cons Ao.Fm.known .nil) fun n hp=>by
 have hp:=Ar.1 (show Cz (1≤n∧n≤64)=true from hp)
 obtain ⟨m,rfl⟩:∃ m:Nat,n=m:=⟨n.toNat,by omega⟩
 refine ⟨65,Ao.row.Zero.out [.i m],[],?_,.Ov⟩
 show _=some (DV.ints .fresh .u64 (I7 (toNat (m:Int)) fun _=>0))
 rw [Ao.row.Zero.ev,A1j]
 exact Aa3 65 (by omega) (by omega) (m-1) 0 65 (by omega) (by omega)
theorem Ads (N:Nat) {n:Nat} {y:List Int} {d:Int} (h64:n≤64) (h0:n≠0) (hy:n=y.length) (al:Ai y=true) (hd:Af d=true):∀ (k i F:Nat),i+1+k=n→k<F →
 Ao.row.Div.L0 N F (n:Int) y d ((i+1:Nat):Int) (I7 (i+1) fun j=>E4 (y.getD j 0) d)=some (.ints .fresh .u64 (I7 n fun j=>E4 (y.getD j 0) d)):=by
 intro k
 induction k with
 | zero =>
   intro i F hi hF
   obtain ⟨F,rfl⟩:∃ G,F=G+1:=⟨F-1,by omega⟩
   obtain rfl:i+1=n:=by omega
   obtain ⟨e1,e2⟩:=Akk (fun j=>E4 (y.getD j 0) d) h0
   rw [Ao.row.Div.Av,Au,A1m (by omega),A1l,e1,A1h,e2]
 | succ k ih =>
   intro i F hi hF
   obtain ⟨F,rfl⟩:∃ G,F=G+1:=⟨F-1,by omega⟩
   rw [Ao.row.Div.Av,Au,A1i (by omega),A1h,Ar.2 (show 0≤((i+1:Nat):Int)∧((i+1:Nat):Int)<(y.length:Int) by omega),al,hd,A1n,A1n,A1h,A1i (by rw [Pv (by omega)]; unfold G0; omega),A1h,Am (by omega) (by omega),A1j]
   have:=ih (i+1) F (by omega) (by omega)
   rw [J0 (i+1+1) (i+1) _ rfl,He] at this
   rw [J0 (i+1) i _ rfl]
   exact this
theorem Ao.row.Div.known:Ao.row.Div.Kn:=Ao.row.Div.Ac (.cons Ao.Fl.known .nil) fun n y d hp=>by
 obtain ⟨h1,h2⟩:=Ae.1 (show ((Cz (1≤n∧n≤64∧n=length y)&&Ai y)&&Af d)=true from hp)
 obtain ⟨h3,h4⟩:=Ae.1 h1
 have h3:=Ar.1 h3
 obtain ⟨m,rfl⟩:∃ m:Nat,n=m:=⟨n.toNat,by omega⟩
 refine ⟨65,Ao.row.Div.out [.i m,.l y,.i d],[],?_,.Ov⟩
 show _=some (DV.ints .fresh .u64 (I7 (toNat (m:Int)) fun j=>E4 (getD y j 0) d))
 rw [Ao.row.Div.ev,A1j]
 exact Ads 65 (by omega) (by omega) (by omega) h4 h2 (m-1) 0 65 (by omega) (by omega)
theorem R4 {x:List Int} {k:Int} {j:Nat} (h:j<x.length):(Bo x k).getD j 0=Bp (x.getD j 0) k:=by
 unfold Bo
 rw [A1r,A2y,A1y h,A1r,A1y h]; rfl
theorem Abr (x:List Int) (k:Int):(Bo x k).length=x.length:=by unfold Bo; rw [A2n]
theorem Abt {x:List Int} (k:Int) (h:Ai x=true):Ai (Bo x k)=true:=Ss fun y hy=>by
 obtain ⟨b,hb,rfl⟩:=List.mem_map.1 hy
 exact Hd (Ar.1 h b hb)
theorem Ye:∀ {x:List Int},Ai x=true→Af (Mj x)=true
 | [],_=>G7
 | b::l,h=>by
   unfold Mj
   split
   ·exact Ye (Ss fun y hy=>Ar.1 h y (A2m _ hy))
   ·exact Ar.1 h b A2w
theorem Sr {x:List Int} (h:Cp x=true):Ai x=true:=Ar.2 (Ar.1 h).2
theorem Ml {drops:List Nat} {g:Ah2}:Wk drops .nil (.ints g .u64 []):=.nil g .u64
theorem Abv {n:Nat} {f g:Nat→Int} (h:∀ j,j<n→f j=g j):I7 n f=I7 n g:=by
 unfold I7
 congr 1
 exact List.map_congr_left fun j hj=>h _ (by have:=List.mem_range.1 hj; omega)
theorem Ao.Dl.known:Ao.Dl.Kn:=Ao.Dl.Ac (.cons compare.Ku.known (.cons Ao.lead.known (.cons Ao.Bt.known (.cons (A4.alt Ao.row.Zero.known Ao.row.Div.known) (.cons Ao.Df.known (.cons soft.Finite.known (.cons soft.De.known (.cons soft.Sign.known (.cons Ad.Bq.known (.cons Ad.Div.known (.cons Ad.Finite.known (.cons Ad.Norm.known (.cons Ad.Br.known (.cons Ad.Sub.known .nil)))))))))))))) fun x hp=>by
 have hx:Cp x=true:=hp
 have al:=Sr hx
 have he:=Aam (Bg x)
 show ∃ N dv drops,_=some dv∧Wk drops dv (DV.tup [.ints .fresh .u64 (Cf x).1,.int .u64 (Cf x).2.1,.int .u64 (Cf x).2.2.1,.int .i64 (Cf x).2.2.2])
 unfold Cf
 by_cases h1:x.length=0∨64<x.length
 ·rw [A14 h1]
  refine ⟨0,.tup [.nil,.int .u64 0,.int .u64 0,.int .i64 3],[],?_,Wk.Ha (.cons Ml (.cons .int (.cons .int (.cons .int .nil))))⟩
  have:(((length x:Int)==(0:Int))||(A6 (64:Int) (length x:Int)))=true:=by
   rw [Au,Bool.or_eq_true,beq_iff_eq,A1o]; omega
  rw [Ao.Dl.ev,this,A1h]
 have c1:(((length x:Int)==(0:Int))||(A6 (64:Int) (length x:Int)))=false:=by
  rw [Au,Bool.or_eq_false_iff,A2c,A10]; omega
 rw [A13 h1]
 by_cases h2:C2 x=true
 ·rw [A14 h2]
  unfold Jm
  have ok1:Cp (x.drop 1)=true:=Jj (Ss fun y hy=>Ar.1 al y (List.mem_of_mem_drop hy)) (by rw [List.length_drop]; omega)
  have d1:decide ((1:Int)≤(x.length:Int))=true:=A1i (by omega)
  have d0:decide ((0:Int)<(x.length:Int))=true:=A1i (by omega)
  by_cases h3:Dr (x.drop 1)=true
  ·rw [A14 h3]
   refine ⟨0,.tup [.ints .fresh .u64 (I7 x.length fun _=>0),.int .u64 0,.int .u64 (x.getD 0 0),.int .i64 0],[],?_,Wk.Ha (.cons .Ov (.cons .int (.cons .int (.cons .int .nil))))⟩
   rw [Ao.Dl.ev,c1,A1l,hx,A1h,h2,A2g,A1l,d1,A1h,ok1,A1h,h3,A1h,Ar.2 (show 1≤(x.length:Int)∧(x.length:Int)≤64 by omega),A1h,d0,A1h,A1j]
  ·rw [A13 h3]
   have h3:Dr (x.drop 1)=false:=by simpa using h3
   have ew:Ab (0-Bs (Bg x))=-Bs (Bg x):=by rw [Am (by omega) (by omega)]; omega
   have ly:=Abr x (-Bs (Bg x))
   have ay:=Abt (-Bs (Bg x)) al
   have oky:Cp (Bo x (-Bs (Bg x)))=true:=Jj ay (by omega)
   have gy:=R4 (x:=x) (k:=-Bs (Bg x)) (j:=0) (by omega)
   have iy:=Ij ay 0
   have key:∀ mu:Int,Xv x=mu→Af mu=true→∀ b:Bool,Ck (Eu x)=b→∃ dv:DV,(bif (!b) then
    some (.tup [.nil,.int .u64 (0:Int),.int .u64 (0:Int),.int .i64 (2:Int)])
    else some (.tup [.ints .fresh .u64 (I7 (toNat (length (Bo x (-Bs (Bg x))):Int)) (fun j=>E4 (getD (Bo x (-Bs (Bg x))) j 0) (Ec (getD (Bo x (-Bs (Bg x))) 0 0) mu))),.int .u64 (E4 (Ec mu (getD (Bo x (-Bs (Bg x))) 0 0)) mu),.int .u64 (Bp mu (Bs (Bg x))),.int .i64 (0:Int)]))=some dv ∧
    Wk [] dv (DV.tup [.ints .fresh .u64 (if Ck (Eu x)=true then (P6 x,Qv x,Eu x,(0:Int)) else ([],0,0,2)).1,.int .u64 (if Ck (Eu x)=true then (P6 x,Qv x,Eu x,(0:Int)) else ([],0,0,2)).2.1,.int .u64 (if Ck (Eu x)=true then (P6 x,Qv x,Eu x,(0:Int)) else ([],0,0,2)).2.2.1,.int .i64 (if Ck (Eu x)=true then (P6 x,Qv x,Eu x,(0:Int)) else ([],0,0,2)).2.2.2]):=by
    intro mu hmu _ b hb
    rw [hb]
    cases b with
    | false=>exact ⟨_,rfl,Wk.Ha (.cons Ml (.cons .int (.cons .int (.cons .int .nil))))⟩
    | true =>
      refine ⟨_,rfl,?_⟩
      rw [A14 rfl]
      dsimp only
      have e1:I7 (toNat (length (Bo x (-Bs (Bg x))):Int)) (fun j=>E4 (getD (Bo x (-Bs (Bg x))) j 0) (Ec (getD (Bo x (-Bs (Bg x))) 0 0) mu))=P6 x:=by
       unfold P6
       rw [A1j,ly,gy,← hmu]
       exact Abv fun j hj=>by rw [R4 hj]; rfl
      have e2:E4 (Ec mu (getD (Bo x (-Bs (Bg x))) 0 0)) mu=Qv x:=by
       unfold Qv
       rw [gy,hmu]; rfl
      have e3:Bp mu (Bs (Bg x))=Eu x:=by unfold Eu; rw [hmu]
      rw [e1,e2,e3]
      exact Wk.Ha (.cons .Ov (.cons .int (.cons .int (.cons .int .nil))))
   have dz:decide ((0:Int)<((Bo x (-Bs (Bg x))).length:Int))=true:=A1i (by omega)
   have cz':Cz (1≤((Bo x (-Bs (Bg x))).length:Int)∧((Bo x (-Bs (Bg x))).length:Int)≤64∧True)=true:=Ar.2 ⟨by omega,by omega,trivial⟩
   have p1:Cz (x.length≤1000∧-2300≤-Bs (Bg x)∧-Bs (Bg x)≤2300)=true:=Ar.2 (by omega)
   have p2:Cz ((Bo x (-Bs (Bg x))).length≤64)=true:=Ar.2 (by omega)
   have sp:∀ mu:Int,Af mu=true→Di mu (Bs (Bg x))=true:=fun mu h=>Ae.2 ⟨h,Ar.2 (by omega)⟩
   have ny:=Yb (Bo x (-Bs (Bg x)))
   cases hn:D0 (Mj x) with
   | true =>
     have hm:Xv x=Da (Bo x (-Bs (Bg x))):=by unfold Xv; rw [A14 hn]
     obtain ⟨dv,k1,k2⟩:=key _ hm ny (Ck (Eu x)) rfl
     refine ⟨0,dv,[],?_,k2⟩
     rw [← k1]
     have eb:Eu x=Bp (Da (Bo x (-Bs (Bg x)))) (Bs (Bg x)):=by unfold Eu; rw [hm]
     rw [Ao.Dl.ev,ew,eb]
     simp only [c1,A1l,hx,A1h,h2,A2g,d1,ok1,h3,Oy,p1,oky,p2,A1n,Ye al,hn,sp _ ny,Hd ny,dz,cz',ay,iy,ny,Oq iy ny,Oq ny iy]
   | false =>
     have hm:Xv x=Cr (Da (Bo x (-Bs (Bg x)))):=by unfold Xv; rw [A13 (by rw [hn]; decide)]
     have my:=Zw ny
     obtain ⟨dv,k1,k2⟩:=key _ hm my (Ck (Eu x)) rfl
     refine ⟨0,dv,[],?_,k2⟩
     rw [← k1]
     have eb:Eu x=Bp (Cr (Da (Bo x (-Bs (Bg x))))) (Bs (Bg x)):=by unfold Eu; rw [hm]
     rw [Ao.Dl.ev,ew,eb]
     simp only [c1,A1l,hx,A1h,h2,A2g,d1,ok1,h3,Oy,p1,oky,p2,A1n,Ye al,hn,A20,sp _ my,Hd my,dz,cz',ay,iy,ny,my,Oq iy my,Oq my iy]
 ·rw [A13 h2]
  have h2:C2 x=false:=by simpa using h2
  refine ⟨0,.tup [.nil,.int .u64 0,.int .u64 0,.int .i64 4],[],?_,Wk.Ha (.cons Ml (.cons .int (.cons .int (.cons .int .nil))))⟩
  rw [Ao.Dl.ev,c1,A1l,hx,A1h,h2,A20,A1h]
open EqHouse
def apD (i k c j a b:Nat):Bool:=decide (k≤b∧i≤a∧(b<c∨(b=c∧a<i+j)))
def apS (R C:Nat) (l:List Int) (i k:Nat) (v:List Int) (t:Int) (c j:Nat):List Int :=
 Bv R C fun a b=>if apD i k c j a b=true∧a<i+v.length then Mh (C:Int) l (i:Int) (k:Int) v t (a:Int) (b:Int) else Eb (C:Int) l (a:Int) (b:Int)
section
variable {R C i k:Nat} {l v:List Int} {t:Int}
theorem Alv (c j:Nat):(apS R C l i k v t c j).length=R*C:=Cc _ _ _
theorem Aht (h:l.length=R*C):apS R C l i k v t k 0=l:=by
 unfold apS
 conv=>rhs; rw [← Wq h]
 refine Ed fun a b ha hb=>?_
 rw [A13]
 rintro ⟨h,_⟩
 have:=A17 h
 omega
theorem Ahu (c:Nat):apS R C l i k v t c v.length=apS R C l i k v t (c+1) 0:=by
 unfold apS
 refine Ed fun a b ha hb=>?_
 have:(apD i k c v.length a b=true∧a<i+v.length)↔(apD i k (c+1) 0 a b=true∧a<i+v.length):=by
  unfold apD
  rw [A1o,A1o]
  omega
 by_cases h:apD i k c v.length a b=true∧a<i+v.length
 ·rw [A14 h,A14 (this.1 h)]
 ·rw [A13 h,A13 (fun hh=>h (this.2 hh))]
theorem Alw:apS R C l i k v t C 0=E2 R C l (i:Int) (k:Int) v t:=by
 unfold apS E2
 refine Ed fun a b ha hb=>?_
 by_cases h:apD i k C 0 a b=true∧a<i+v.length
 ·rw [A14 h]
 ·rw [A13 h]
  unfold Mh
  rw [A13]
  intro hh
  refine h ⟨?_,by omega⟩
  unfold apD
  rw [A1o]; omega
theorem Alu {c j:Nat} (hc:c<C) (hk:k≤c) (hj:j<v.length) {x:Int} (hx:x=Mh (C:Int) l (i:Int) (k:Int) v t ((i+j:Nat):Int) (c:Int)) :
 List.set (apS R C l i k v t c j) ((i+j)*C+c) x=apS R C l i k v t c (j+1):=by
 unfold apS
 rw [Vl hc]
 refine Ed fun a b ha hb=>?_
 by_cases h:a=i+j∧b=c
 ·obtain ⟨rfl,rfl⟩:=h
  rw [A14 ⟨rfl,rfl⟩,A14 ⟨by unfold apD; rw [A1o]; omega,by omega⟩,hx]
 ·rw [A13 h]
  have:(apD i k c j a b=true∧a<i+v.length)↔(apD i k c (j+1) a b=true∧a<i+v.length):=by
   unfold apD
   rw [A1o,A1o]
   omega
  by_cases h2:apD i k c j a b=true∧a<i+v.length
  ·rw [A14 h2,A14 (this.1 h2)]
  ·rw [A13 h2,A13 (fun hh=>h2 (this.2 hh))]
theorem Ahs {c j:Nat} (hk:k≤c) (hj:j<v.length):Mh (C:Int) l (i:Int) (k:Int) v t ((i+j:Nat):Int) (c:Int) =
 Ec ((Ct (C:Int) l (c:Int) (i:Int) v.length).getD j 0) (C5 (Rp (C:Int) l (i:Int) v t (c:Int)) (v.getD j 0)):=by
 unfold Mh
 rw [A14 ⟨by omega,by omega,by omega⟩]
 have e1:(((i+j:Nat):Int)-(i:Int)).toNat=j:=by omega
 have e2:(Ct (C:Int) l (c:Int) (i:Int) v.length).getD j 0=Eb (C:Int) l ((i+j:Nat):Int) (c:Int):=by
  unfold Ct
  rw [A1r,A2y,List.getElem?_range hj]
  show Eb (C:Int) l ((i:Int)+(j:Int)) (c:Int)=_
  rw [← Int.natCast_add]
 rw [e1,e2]
theorem Afw {c b i:Int} {l:List Int} {m n:Nat} (h:m≤n):List.take m (Ct c l b i n)=Ct c l b i m:=by
 unfold Ct
 rw [← List.map_take,List.take_range,Nat.min_eq_left h]
theorem Aj0 (N M0:Nat) (r6:R≤6) (c6:C≤6) (al:Ai l=true) (av:Ai v=true) (hv:i+v.length≤R) {c:Nat} (hc:c<C) (hk:k≤c):∀ (cnt j F:Nat),j+cnt=v.length→cnt<F →
 Ao.Apply.L1 N M0 F (R:Int) (C:Int) l (i:Int) v t (j:Int) (apS R C l i k v t c j) (c:Int) (Rp (C:Int) l (i:Int) v t (c:Int)) (Ct (C:Int) l (c:Int) (i:Int) v.length) (v.length:Int) =
 Ao.Apply.L0 N M0 (R:Int) (C:Int) l (i:Int) v t ((c+1:Nat):Int) (apS R C l i k v t (c+1) 0):=by
 intro cnt
 induction cnt with
 | zero =>
   intro j F hj hF
   obtain ⟨F,rfl⟩:∃ G,F=G+1:=⟨F-1,by omega⟩
   obtain rfl:j=v.length:=by omega
   rw [Ao.Apply.B8,Au,A1m (by omega),A1l,Am (by omega) (by omega),Ahu]
   rfl
 | succ cnt ih =>
   intro j F hj hF
   obtain ⟨F,rfl⟩:∃ G,F=G+1:=⟨F-1,by omega⟩
   have hm:=Jy (a:=((i+j:Nat):Int)) (b:=(C:Int)) (by omega) (by omega) (by omega) (by omega)
   have hpl:=K3 (show i+j<R by omega) hc
   have e1:Ab ((i:Int)+(j:Int))=((i+j:Nat):Int):=by rw [Am (by omega) (by omega)]; omega
   have e2:Ab (((i+j:Nat):Int)*(C:Int))=(((i+j)*C:Nat):Int):=by rw [Am (by omega) (by omega)]; exact (A12 _ _).symm
   have h36:=A2d r6 c6
   have e3:Ab ((((i+j)*C:Nat):Int)+(c:Int))=(((i+j)*C+c:Nat):Int):=by rw [Am (by omega) (by omega)]; omega
   have hlen:=Alv (R:=R) (C:=C) (l:=l) (i:=i) (k:=k) (v:=v) (t:=t) c j
   have sl:=Gk (C:Int) (c:Int) (i:Int) v.length l
   rw [Ao.Apply.B8,Au,A1i (show (j:Int)<(v.length:Int) by omega),A1h,e1,e2,e3,sl,A1i (show (0:Int)≤(j:Int) by omega),A1i (show (j:Int)<(v.length:Int) by omega),A1n,A1h,A1j,A1j]
   have a1:=Ij av j
   have a2:=Ij (Nk (c:=(C:Int)) (b:=(c:Int)) (i:=(i:Int)) (n:=v.length) al) j
   have a3:Af (Rp (C:Int) l (i:Int) v t (c:Int))=true:=Io _ _
   rw [A1h,a3,a1,A1n,A1h,a2,Io,A1n,A1h,A1i (by omega),A1i (by omega),A1n,A1h,A1i (by omega),A1h,
    Alu hc hk (by omega) (Ahs hk (by omega)).symm,Am (by omega) (by omega)]
   exact ih (j+1) F (by omega) (by omega)
theorem Aj1 (N:Nat) (r6:R≤6) (c6:C≤6) (hN:7<N) (hr:A2 (R:Int) (C:Int) l=true) (al:Ai l=true) (av:Ai v=true) (ht:Af t=true) (hv:i+v.length≤R):∀ (cnt c F:Nat),c+cnt=C→k≤c→cnt<F →
 Ao.Apply.L0 N F (R:Int) (C:Int) l (i:Int) v t (c:Int) (apS R C l i k v t c 0) =
 some (.tup [.agg [.int .i64 (R:Int),.int .i64 (C:Int),.ints (.own 114002 tB) .u64 (E2 R C l (i:Int) (k:Int) v t)],.int .i64 (0:Int)]):=by
 intro cnt
 induction cnt with
 | zero =>
   intro c F hc hk hF
   obtain ⟨F,rfl⟩:∃ G,F=G+1:=⟨F-1,by omega⟩
   obtain rfl:c=C:=by omega
   rw [Ao.Apply.Av,Au,A1m (by omega),A1l,Alw]
 | succ cnt ih =>
   intro c F hc hk hF
   obtain ⟨F,rfl⟩:∃ G,F=G+1:=⟨F-1,by omega⟩
   have cp:Hj (R:Int) (C:Int) l (c:Int)=true:=Ae.2 ⟨hr,Ar.2 (by omega)⟩
   have e0:toNat ((R:Int)-(i:Int))=R-i:=by omega
   have st:=Afw (c:=(C:Int)) (b:=(c:Int)) (i:=(i:Int)) (l:=l) (m:=v.length) (n:=R-i) (by omega)
   have sl:=Gk (C:Int) (c:Int) (i:Int) v.length l
   have sl2:=Gk (C:Int) (c:Int) (i:Int) (R-i) l
   have sa:=Nk (c:=(C:Int)) (b:=(c:Int)) (i:=(i:Int)) (n:=v.length) al
   have ft:Pk v (Ct (C:Int) l (c:Int) (i:Int) v.length)=true:=Sj.2 ⟨by omega,by omega⟩
   rw [Ao.Apply.Av,Au,A1i (by omega),A1h,cp,Ar.2 (show 0≤(i:Int)∧(i:Int)≤(R:Int) by omega),A1n,A1h,e0,A1j,st,sl2,sl,
    A1i (show (0:Int)≤(v.length:Int) by omega),A1i (show (v.length:Int)≤(v.length:Int) by omega),A1i (show (v.length:Int)≤((R-i:Nat):Int) by omega),A1n,A1n,A1h,ft,av,sa,A1n,A1n,A1h,ht,Sn,A1n,A1h]
   have:=Aj0 (t:=t) N F r6 c6 al av hv (show c<C by omega) hk v.length 0 N (by omega) (by omega)
   exact this.trans (ih (c+1) F (by omega) (by omega) (by omega))
end
theorem Ao.Apply.known:Ao.Apply.Kn:=Ao.Apply.Ac (.cons Aa.Check.known (.cons Aa.Dx.known (.cons Ad.Ht.known (.cons Ad.Mul.known (.cons Ad.Sub.known .nil))))) fun r c l i k v t hp=>by
 obtain ⟨h1,ht⟩:=Ae.1 (show (((A2 r c l&&H5 r c i k v)&&(Ai l&&Ai v))&&Af t)=true from hp)
 obtain ⟨h2,h3⟩:=Ae.1 h1
 obtain ⟨hr,hb⟩:=Ae.1 h2
 obtain ⟨al,av⟩:=Ae.1 h3
 have hb:=A17 hb
 have hc:Lb r c l=0:=by unfold Lb; rw [A14 hr]
 have h36:=Na hr
 obtain ⟨R,C,rfl,rfl,r6,c6,hl⟩:=Ci hr
 obtain ⟨i,rfl⟩:∃ j:Nat,i=j:=⟨i.toNat,by omega⟩
 obtain ⟨k,rfl⟩:∃ j:Nat,k=j:=⟨k.toNat,by omega⟩
 refine ⟨8,Ao.Apply.out [.i (R:Int),.i (C:Int),.l l,.i (i:Int),.i (k:Int),.l v,.i t],[],?_,Wk.Ha (.cons (Wk.Hk (.cons .int (.cons .int (.cons (.keep _ _ _ _ List.not_mem_nil) .nil)))) (.cons .int .nil))⟩
 show _=some (DV.tup [.agg [.int .i64 (R:Int),.int .i64 (C:Int),.ints (.own 114002 tB) .u64 (E2 (toNat (R:Int)) (toNat (C:Int)) l (i:Int) (k:Int) v t)],.int .i64 0])
 have hlt:(((((A6 (i:Int) (0:Int))||(A6 (R:Int) (length v:Int)))||(A6 (Ab ((R:Int)-(length v:Int))) (i:Int)))||(A6 (k:Int) (0:Int)))||(A6 (C:Int) (k:Int)))=false:=by
  rw [Au,Au,Au,Au,Au,Am (by omega) (by omega),A1m (by omega),A1m (by omega),A1m (by omega),A1m (by omega),A1m (by omega)]; rfl
 rw [Ao.Apply.ev,hc,show ((0:Int) !=(0:Int))=false from rfl,A1l,hlt,A1l,A1i (show 0+l.length≤G0 by unfold G0; omega),A1h,List.nil_append,A1j,A1j]
 have:=Aj1 (R:=R) (C:=C) (i:=i) (k:=k) (l:=l) (v:=v) (t:=t) 8 r6 c6 (by omega) hr al av ht (by omega) (C-k) k 8 (by omega) (by omega) (by omega)
 rw [Aht hl] at this
 exact this
namespace EqSol
def solve.check.hint:Nat→Option Be
 | 0=>some { keep:=[2,3,11,12],objs:=[],boxes:=[2,3] }
 | 2=>some { keep:=[2,34,35],objs:=[],boxes:=[2] }
 | _=>none
def solve.check.A9:List (Nat × Entry):=[(86,Cs.Check.spec),(155,soft.Kind.spec)]
def solve.check.E:Env:=Ba (A8 solve.check.A9) (fun _=>false) solve.check.hint (fun _=>none)
section
variable (N M:Nat) (r c:Int) (l:List Int) (p q:Int) (m:List Int) (p35:Int)
def solve.check.L0:Option DV:=B2 solve.check.E N f75 (An f75) [1,1,1,0,1,0] [] M ⟨Gz 51 [(2,.ptr 2 0 0),(34,.int .i64 r),(35,.int .i64 p35)],[(2,false,.box [.int .i64 r,.int .i64 c,.ints .arg .u64 l])]⟩
theorem solve.check.Av:solve.check.L0 (N+4) (M+1) r c l p35=bif (A6 p35 r) then bif ((decide (0≤(Ab ((Ab (p35*c))+p35))))&&(decide ((Ab ((Ab (p35*c))+p35))<(length l:Int)))) then bif (Af (getD l (toNat (Ab ((Ab (p35*c))+p35))) 0)) then bif ((A5 (getD l (toNat (Ab ((Ab (p35*c))+p35))) 0))==(0:Int)) then some (.int .i64 5) else solve.check.L0 (N+4) M r c l (Ab (p35+1)) else none else none else some (.int .i64 0):=by kernel_rfl
theorem solve.check.ev:Bw solve.check.E (N+4) f75 (An f75) [.agg [.int .i64 r,.int .i64 c,.ints .arg .u64 l],.agg [.int .i64 p,.int .i64 q,.ints .arg .u64 m]]=bif (Ai l) then bif ((B9 r c l) !=(0:Int)) then some (.int .i64 (B9 r c l)) else bif (Ai m) then bif ((B9 p q m) !=(0:Int)) then some (.int .i64 (B9 p q m)) else bif ((r !=c)||(r !=p)) then some (.int .i64 3) else solve.check.L0 (N+4) (N+4) r c l (0:Int) else none else none :=
 Eq.trans (by kernel_rfl)
 (Et (Et rfl (Et (Et rfl (Ax (S8 (r !=c)) (Ax (Qx (r !=c)) (Ax (S8 (r !=c)) (Ax (Qx (r !=c)) (Ax (tt8 (r !=c)) (Ax (X2 (r !=c)) (C9 (tt5 (r !=c) (r !=p)) rfl rfl)))))))) rfl)) rfl)
end
abbrev _root_.Go.Proofs.S1.solve.check.Kn:=A4 prog 75 solve.check.spec
theorem solve.check.Ac (hk:Az prog solve.check.A9) (h:Hyp solve.check.E f75 solve.check.ts solve.check.pre solve.check.out):solve.check.Kn :=
 Al (A0 hk _ _ _) func75 (by kernel_rfl) (by kernel_rfl) h
def F5.F4.up.A9:List (Nat × Entry):=[]
def F5.F4.up.E:Env:=Ba (A8 F5.F4.up.A9) (fun _=>false) (fun _=>none) (fun _=>none)
theorem F5.F4.up.ev (N:Nat) (n k:Int):Bw F5.F4.up.E N f103 (An f103) [.int .i64 n,.int .i64 k]=some (.int .i64 (Ab ((Ab (n-1))-k))):=by kernel_rfl
abbrev _root_.Go.Proofs.S1.F5.F4.up.Kn:=A4 prog 103 F5.F4.up.spec
theorem F5.F4.up.Ac (hk:Az prog F5.F4.up.A9) (h:Hyp F5.F4.up.E f103 F5.F4.up.ts F5.F4.up.pre F5.F4.up.out):F5.F4.up.Kn :=
 Al (A0 hk _ _ _) func103 (by kernel_rfl) (by kernel_rfl) h
def solve.Ef.A9:List (Nat × Entry):=[]
def solve.Ef.E:Env:=Ba (A8 solve.Ef.A9) (fun _=>false) (fun _=>none) (fun _=>none)
theorem solve.Ef.ev (N:Nat) (i k:Int):Bw solve.Ef.E N f104 (An f104) [.int .i64 i,.int .i64 k]=some (.bool (A6 i k)):=by kernel_rfl
abbrev _root_.Go.Proofs.S1.solve.Ef.Kn:=A4 prog 104 solve.Ef.spec
theorem solve.Ef.Ac (hk:Az prog solve.Ef.A9) (h:Hyp solve.Ef.E f104 solve.Ef.ts solve.Ef.pre solve.Ef.out):solve.Ef.Kn :=
 Al (A0 hk _ _ _) func104 (by kernel_rfl) (by kernel_rfl) h
def Aa.of.Bb.own.hint:Nat→Option Be
 | 0=>some { keep:=[1,2,6,7,13,14],objs:=[(8,2,108002,.ints 37 .u64 [])],boxes:=[6,7] }
 | 2=>some { keep:=[1,2,6,7,8,13,14,17,18],objs:=[(8,2,108002,.ints 37 .u64 [])],boxes:=[6,7] }
 | _=>none
def Aa.of.Bb.own.A9:List (Nat × Entry):=[(205,Aa.D9.spec)]
def Aa.of.Bb.own.E:Env:=Ba (A8 Aa.of.Bb.own.A9) (fun _=>false) Aa.of.Bb.own.hint (fun _=>none)
abbrev _root_.Go.Proofs.S1.Aa.of.Bb.own.Kn:=A4 prog 187 Aa.of.Bb.own.spec
theorem Aa.of.Bb.own.Ac (hk:Az prog Aa.of.Bb.own.A9) (h:Hyp Aa.of.Bb.own.E f187 Aa.of.Bb.own.ts Aa.of.Bb.own.pre Aa.of.Bb.own.out):Aa.of.Bb.own.Kn :=
 Al (A0 hk _ _ _) func187 (by kernel_rfl) (by kernel_rfl) h
def Aa.Bb.own.A9:List (Nat × Entry):=[(187,Aa.of.Bb.own.spec),(204,Aa.size.spec)]
def Aa.Bb.own.E:Env:=Ba (A8 Aa.Bb.own.A9) (fun n=>Nat.beq n 17) (fun _=>none) (fun _=>none)
theorem Aa.Bb.own.ev (N:Nat) (a b:Int):Bw Aa.Bb.own.E N f151 (An f151) [.int .i64 a,.int .i64 b]=bif ((!(Bh a))||(!(Bh b))) then some (.tup [.agg [.int .i64 0,.int .i64 0,.nil],.int .i64 3]) else bif (Bh a&&Bh b) then some (.tup [.agg [.int .i64 a,.int .i64 b,.ints (.own 1136 37) .u64 (Bv (toNat a) (toNat b) (fun _ _=>0))],.int .i64 0]) else none :=
 Eq.trans (by kernel_rfl)
 (Ax (Ade (Bh a)) (Ax (S3 (Bh a)) (Ax (S3 (Bh a)) (Ax (Adf (Bh a)) (C9 (Ao1 (Bh a) (Bh b)) rfl rfl)))))
abbrev _root_.Go.Proofs.S1.Aa.Bb.own.Kn:=A4 prog 151 Aa.Bb.own.spec
theorem Aa.Bb.own.Ac (hk:Az prog Aa.Bb.own.A9) (h:Hyp Aa.Bb.own.E f151 Aa.Bb.own.ts Aa.Bb.own.pre Aa.Bb.own.out):Aa.Bb.own.Kn :=
 Al (A0 hk _ _ _) func151 (by kernel_rfl) (by kernel_rfl) h
def solve.Bu.Up.hint:Nat→Option Be
 | 0=>some { keep:=[2,3,4,5,8,10,11,28,29],objs:=[(12,2,112002,.ints 37 .u64 [])],boxes:=[4,5,8,11] }
 | 2=>some { keep:=[2,3,4,5,8,10,11,13,28,29,32,33],objs:=[(12,2,112002,.ints 37 .u64 [])],boxes:=[4,5,8,11] }
 | 4=>some { keep:=[2,3,4,5,8,10,11,13,15,16,28,29,32,33,49,50],objs:=[(12,2,112002,.ints 37 .u64 [])],boxes:=[4,5,8,11] }
 | _=>none
def solve.Bu.Up.A9:List (Nat × Entry):=[(103,F5.F4.up.spec),(151,Aa.Bb.own.spec),(104,solve.Ef.spec),(158,Ad.Div.spec),(150,Ad.Finite.spec),(157,Ad.Mul.spec),(156,Ad.Sub.spec)]
def solve.Bu.Up.E:Env:=Ba (A8 solve.Bu.Up.A9) (fun n=>Nat.beq n 24) solve.Bu.Up.hint (fun _=>none)
section
variable (N M0 M1 M:Nat) (r c:Int) (l:List Int) (p q:Int) (m:List Int) (n p16 p50 p13_1 p15 p29_2 p33_1:Int) (p2_1:List Int) (p33:Int) (p2:List Int) (p13 p29_1 p29:Int) (p2_2:List Int)
def solve.Bu.Up.L0:Option DV:=B2 solve.Bu.Up.E N f76 (An f76) [1,1,1,0,1,0] [] M ⟨Gz 108 [(2,.fn 103 [.int .i64 n] []),(3,.fn 104 [] []),(4,.ptr 4 0 0),(5,.ptr 5 0 0),(8,.ptr 8 0 0),(10,.int .i64 r),(11,.ptr 11 0 0),(28,.int .i64 q),(29,.int .i64 p29)],[(4,false,.box [.int .i64 r,.int .i64 c,.ints .arg .u64 l]),(5,false,.box [.int .i64 p,.int .i64 q,.ints .arg .u64 m]),(8,false,.box [.int .i64 0,.int .i64 0,.nil]),(11,false,.box [.int .i64 r,.int .i64 q,.oref 112002]),(112002,false,.ints 37 .u64 p2_2)]⟩
def solve.Bu.Up.L1:Option DV:=B2 solve.Bu.Up.E N f76 (An f76) [1,1,1,0,1,0,0,1,1,0,0,1,0,1,1,0] [M0] M ⟨Gz 108 [(2,.fn 103 [.int .i64 n] []),(3,.fn 104 [] []),(4,.ptr 4 0 0),(5,.ptr 5 0 0),(8,.ptr 8 0 0),(10,.int .i64 r),(11,.ptr 11 0 0),(13,.int .i64 p13),(28,.int .i64 q),(29,.int .i64 p29_1),(32,.int .i64 r),(33,.int .i64 p33)],[(4,false,.box [.int .i64 r,.int .i64 c,.ints .arg .u64 l]),(5,false,.box [.int .i64 p,.int .i64 q,.ints .arg .u64 m]),(8,false,.box [.int .i64 0,.int .i64 0,.nil]),(11,false,.box [.int .i64 r,.int .i64 q,.oref 112002]),(112002,false,.ints 37 .u64 p2)]⟩
def solve.Bu.Up.L2:Option DV:=B2 solve.Bu.Up.E N f76 (An f76) [1,1,1,0,1,0,0,1,1,0,0,1,0,1,1,0,0,1,1,0,0,1,1,1,0,1,0] [M0,M1] M ⟨Gz 108 [(2,.fn 103 [.int .i64 n] []),(3,.fn 104 [] []),(4,.ptr 4 0 0),(5,.ptr 5 0 0),(8,.ptr 8 0 0),(10,.int .i64 r),(11,.ptr 11 0 0),(13,.int .i64 p13_1),(15,.int .i64 p15),(16,.int .u64 p16),(28,.int .i64 q),(29,.int .i64 p29_2),(32,.int .i64 r),(33,.int .i64 p33_1),(49,.int .i64 r),(50,.int .i64 p50)],[(4,false,.box [.int .i64 r,.int .i64 c,.ints .arg .u64 l]),(5,false,.box [.int .i64 p,.int .i64 q,.ints .arg .u64 m]),(8,false,.box [.int .i64 0,.int .i64 0,.nil]),(11,false,.box [.int .i64 r,.int .i64 q,.oref 112002]),(112002,false,.ints 37 .u64 p2_1)]⟩
theorem solve.Bu.Up.Av:solve.Bu.Up.L0 N (M+1) r c l p q m n p29 p2_2=bif (A6 p29 q) then solve.Bu.Up.L1 N M N r c l p q m n 0 p2_2 p29 p29 else bif (Cp p2_2) then bif (!(C2 p2_2)) then some (.tup [.agg [.int .i64 0,.int .i64 0,.nil],.int .i64 2]) else some (.tup [.agg [.int .i64 r,.int .i64 q,.ints (.own 112002 37) .u64 p2_2],.int .i64 0]) else none:=by kernel_rfl
theorem solve.Bu.Up.B8:solve.Bu.Up.L1 N M0 (M+1) r c l p q m n p33 p2 p13 p29_1=bif (A6 p33 r) then bif (Cz (0≤p33∧p33<n∧n≤10)) then bif ((decide (0≤(Ab ((Ab ((n-1-p33)*q))+p13))))&&(decide ((Ab ((Ab ((n-1-p33)*q))+p13))<(length m:Int)))) then solve.Bu.Up.L2 N M0 M N r c l p q m n (getD m (toNat (Ab ((Ab ((n-1-p33)*q))+p13))) 0) 0 p13 (n-1-p33) p29_1 p33 p2 else none else none else solve.Bu.Up.L0 N M0 r c l p q m n (Ab (p29_1+1)) p2:=by kernel_rfl
theorem solve.Bu.Up.H7:solve.Bu.Up.L2 N M0 M1 (M+1) r c l p q m n p16 p50 p13_1 p15 p29_2 p33_1 p2_1=bif (A6 p50 r) then bif (decide (p15<p50)) then bif ((decide (0≤(Ab ((Ab (p15*r))+p50))))&&(decide ((Ab ((Ab (p15*r))+p50))<(length l:Int)))) then bif ((decide (0≤(Ab ((Ab (p50*q))+p13_1))))&&(decide ((Ab ((Ab (p50*q))+p13_1))<(length p2_1:Int)))) then bif (decide ((toNat (Ab ((Ab (p50*q))+p13_1)))<(length p2_1))) then bif (Af (getD l (toNat (Ab ((Ab (p15*r))+p50))) 0)&&Af (getD p2_1 (toNat (Ab ((Ab (p50*q))+p13_1))) 0)) then bif (Af p16&&Af (C5 (getD l (toNat (Ab ((Ab (p15*r))+p50))) 0) (getD p2_1 (toNat (Ab ((Ab (p50*q))+p13_1))) 0))) then solve.Bu.Up.L2 N M0 M1 M r c l p q m n (Ec p16 (C5 (getD l (toNat (Ab ((Ab (p15*r))+p50))) 0) (getD p2_1 (toNat (Ab ((Ab (p50*q))+p13_1))) 0))) (Ab (p50+1)) p13_1 p15 p29_2 p33_1 p2_1 else none else none else none else none else none else solve.Bu.Up.L2 N M0 M1 M r c l p q m n p16 (Ab (p50+1)) p13_1 p15 p29_2 p33_1 p2_1 else bif ((decide (0≤(Ab ((Ab (p15*r))+p15))))&&(decide ((Ab ((Ab (p15*r))+p15))<(length l:Int)))) then bif (Af p16&&Af (getD l (toNat (Ab ((Ab (p15*r))+p15))) 0)) then bif ((decide (0≤(Ab ((Ab (p15*q))+p13_1))))&&(decide ((Ab ((Ab (p15*q))+p13_1))<(length p2_1:Int)))) then bif (decide ((toNat (Ab ((Ab (p15*q))+p13_1)))<(length p2_1))) then solve.Bu.Up.L1 N M0 M1 r c l p q m n (Ab (p33_1+1)) (List.set p2_1 (toNat (Ab ((Ab (p15*q))+p13_1))) (E4 p16 (getD l (toNat (Ab ((Ab (p15*r))+p15))) 0))) p13_1 p29_2 else none else none else none else none :=
 Eq.trans (by kernel_rfl)
 (Et (Et (C9 (Nh (decide (0≤(Ab ((Ab (p15*r))+p50)))) (decide ((Ab ((Ab (p15*r))+p50))<(length l:Int)))) (C9 (Nh (decide (0≤(Ab ((Ab (p50*q))+p13_1)))) (decide ((Ab ((Ab (p50*q))+p13_1))<(length p2_1:Int)))) (C9 (Cy (decide ((toNat (Ab ((Ab (p50*q))+p13_1)))<(length p2_1)))) (C9 (Cy (Af (getD l (toNat (Ab ((Ab (p15*r))+p50))) 0)&&Af (getD p2_1 (toNat (Ab ((Ab (p50*q))+p13_1))) 0))) (C9 (Cy (Af p16&&Af (C5 (getD l (toNat (Ab ((Ab (p15*r))+p50))) 0) (getD p2_1 (toNat (Ab ((Ab (p50*q))+p13_1))) 0)))) rfl rfl) rfl) rfl) rfl) rfl) rfl) (C9 (Nh (decide (0≤(Ab ((Ab (p15*r))+p15)))) (decide ((Ab ((Ab (p15*r))+p15))<(length l:Int)))) (C9 (Cy (Af p16&&Af (getD l (toNat (Ab ((Ab (p15*r))+p15))) 0))) (C9 (Nh (decide (0≤(Ab ((Ab (p15*q))+p13_1)))) (decide ((Ab ((Ab (p15*q))+p13_1))<(length p2_1:Int)))) (C9 (Cy (decide ((toNat (Ab ((Ab (p15*q))+p13_1)))<(length p2_1)))) rfl rfl) rfl) rfl) rfl))
theorem solve.Bu.Up.ev:Bw solve.Bu.Up.E N f76 (An f76) [.agg [.int .i64 r,.int .i64 c,.ints .arg .u64 l],.agg [.int .i64 p,.int .i64 q,.ints .arg .u64 m],.fn 103 [.int .i64 n] [],.fn 104 [] []]=bif (Bh r&&Bh q) then solve.Bu.Up.L0 N N r c l p q m n 0 (Bv (toNat r) (toNat q) (fun _ _=>0)) else none:=by kernel_rfl
end
abbrev _root_.Go.Proofs.S1.solve.Bu.Up.Kn:=A4 prog 76 solve.Bu.Up.spec
theorem solve.Bu.Up.Ac (hk:Az prog solve.Bu.Up.A9) (h:Hyp solve.Bu.Up.E f76 solve.Bu.Up.ts solve.Bu.Up.pre solve.Bu.Up.out):solve.Bu.Up.Kn :=
 Al (A0 hk _ _ _) func76 (by kernel_rfl) (by kernel_rfl) h
def solve.Ch.A9:List (Nat × Entry):=[(75,solve.check.spec),(76,solve.Bu.Up.spec)]
def solve.Ch.E:Env:=Ba (A8 solve.Ch.A9) (fun _=>false) (fun _=>none) (fun _=>none)
theorem solve.Ch.ev (N:Nat) (r c:Int) (l:List Int) (p q:Int) (m:List Int):Bw solve.Ch.E N f36 (An f36) [.agg [.int .i64 r,.int .i64 c,.ints .arg .u64 l],.agg [.int .i64 p,.int .i64 q,.ints .arg .u64 m]]=bif (Ai l&&Ai m) then bif ((Mg r c l p q m) !=(0:Int)) then some (.tup [.agg [.int .i64 0,.int .i64 0,.nil],.int .i64 (Mg r c l p q m)]) else bif (Adg r c l p q m&&decide (r=r)) then some (.tup [.agg [.int .i64 ((Kj r q (upG c l q m (toNat r) (toNat q))).1),.int .i64 ((Kj r q (upG c l q m (toNat r) (toNat q))).2.1),.ints .fresh .u64 ((Kj r q (upG c l q m (toNat r) (toNat q))).2.2.1)],.int .i64 ((Kj r q (upG c l q m (toNat r) (toNat q))).2.2.2)]) else none else none:=by kernel_rfl
abbrev _root_.Go.Proofs.S1.solve.Ch.Kn:=A4 prog 36 solve.Ch.spec
theorem solve.Ch.Ac (hk:Az prog solve.Ch.A9) (h:Hyp solve.Ch.E f36 solve.Ch.ts solve.Ch.pre solve.Ch.out):solve.Ch.Kn :=
 Al (A0 hk _ _ _) func36 (by kernel_rfl) (by kernel_rfl) h
def solve.Flat.hint:Nat→Option Be
 | 0=>some { keep:=[1,5,6],objs:=[(0,5,100005,.ints 37 .u64 [])],boxes:=[1] }
 | 2=>some { keep:=[7,44,45,46],objs:=[(0,44,100044,.ints 37 .u64 [])],boxes:=[] }
 | _=>none
def solve.Flat.A9:List (Nat × Entry):=[(86,Cs.Check.spec),(87,compare.G1.spec),(90,compare.Lf.spec),(89,Ad.Bq.spec),(88,Ad.Br.spec)]
def solve.Flat.E:Env:=Ba (A8 solve.Flat.A9) (fun _=>false) solve.Flat.hint (fun _=>none)
section
variable (N M:Nat) (r c:Int) (l:List Int) (p6:Int) (p5:List Int) (p46:Int)
def solve.Flat.L0:Option DV:=B2 solve.Flat.E N f24 (An f24) [1,1,1,0,1,0] [] M ⟨Gz 55 [(1,.ptr 1 0 0),(5,.oref 100005),(6,.int .i64 p6)],[(1,false,.box [.int .i64 r,.int .i64 c,.ints .arg .u64 l]),(100005,false,.ints 37 .u64 p5)]⟩
def solve.Flat.L1:Option DV:=B2 solve.Flat.E N f24 (An f24) [1,1,1,1,1,0,1,0] [] M ⟨Gz 55 [(7,.int .u64 (Bp (Bg p5) (-40:Int))),(44,.oref 100044),(45,.int .i64 (length p5:Int)),(46,.int .i64 p46)],[(100044,false,.ints 37 .u64 p5)]⟩
theorem solve.Flat.Av:solve.Flat.L0 N (M+1) r c l p6 p5=bif ((A6 p6 r)&&(A6 p6 c)) then bif ((decide (0≤(Ab ((Ab (p6*c))+p6))))&&(decide ((Ab ((Ab (p6*c))+p6))<(length l:Int)))) then bif (Af (getD l (toNat (Ab ((Ab (p6*c))+p6))) 0)) then bif (decide ((length p5)+1≤G0)) then solve.Flat.L0 N M r c l (Ab (p6+1)) (p5++[(It (getD l (toNat (Ab ((Ab (p6*c))+p6))) 0))]) else none else none else none else bif (Cp p5) then bif (Di (Bg p5) (-40:Int)) then solve.Flat.L1 N N p5 (0:Int) else none else none :=
 Eq.trans (by kernel_rfl)
 (Ax (Qq (A6 p6 r)) (Ax (Qq (A6 p6 r)) (Ax (Ma (A6 p6 r)) (Ax (Afi (A6 p6 r)) (Ax (Uf (A6 p6 r)) (C9 (tt1 (A6 p6 r) (A6 p6 c)) rfl rfl))))))
theorem solve.Flat.B8:solve.Flat.L1 N (M+1) p5 p46=bif (A6 p46 (length p5:Int)) then bif ((decide (0≤p46))&&(decide (p46<(length p5:Int)))) then bif (decide ((toNat p46)<(length p5))) then bif (Af (Bp (Bg p5) (-40:Int))&&Af (getD p5 (toNat p46) 0)) then bif (!(decide (Tp (Bp (Bg p5) (-40:Int)) (getD p5 (toNat p46) 0)<0))) then some (.tup [.bool true,.int .i64 0]) else solve.Flat.L1 N M p5 (Ab (p46+1)) else none else none else none else some (.tup [.bool false,.int .i64 0]):=by kernel_rfl
theorem solve.Flat.ev:Bw solve.Flat.E N f24 (An f24) [.agg [.int .i64 r,.int .i64 c,.ints .arg .u64 l]]=bif (Ai l) then bif ((B9 r c l) !=(0:Int)) then some (.tup [.bool false,.int .i64 (B9 r c l)]) else solve.Flat.L0 N N r c l 0 [] else none:=by kernel_rfl
end
abbrev _root_.Go.Proofs.S1.solve.Flat.Kn:=A4 prog 24 solve.Flat.spec
theorem solve.Flat.Ac (hk:Az prog solve.Flat.A9) (h:Hyp solve.Flat.E f24 solve.Flat.ts solve.Flat.pre solve.Flat.out):solve.Flat.Kn :=
 Al (A0 hk _ _ _) func24 (by kernel_rfl) (by kernel_rfl) h
end EqSol
open EqSol
theorem solve.Ef.known:solve.Ef.Kn:=solve.Ef.Ac .nil fun i k _=>by
 refine ⟨0,solve.Ef.out [.i i,.i k],[],?_,.bool⟩
 rw [solve.Ef.ev,Au]; rfl
theorem Apx.known:F5.F4.up.Kn:=F5.F4.up.Ac .nil fun n k hp=>by
 have hp:=Ar.1 (show Cz (0≤k∧k<n∧n≤10)=true from hp)
 refine ⟨0,F5.F4.up.out [.i n,.i k],[],?_,.int⟩
 rw [F5.F4.up.ev,Am (x:=n-1) (by omega) (by omega),Am (by omega) (by omega)]; rfl
theorem Aa.of.Bb.own.known:Aa.of.Bb.own.Kn:=Aa.of.Bb.own.Ac (.cons Aa.D9.known .nil) fun a b hp=>by
 have h1:(Bh a&&Bh b)=true:=hp
 obtain ⟨ha,hb⟩:=Ae.1 h1
 obtain ⟨A,rfl,hA⟩:=Ew ha
 obtain ⟨B,rfl,hB⟩:=Ew hb
 refine ⟨8,.agg [.int .i64 (A:Int),.int .i64 (B:Int),.ints (.own 108002 tB) .u64 (Bv A B fun (i j:Nat)=>(0:Int))],[],?_,Wk.Hk (.cons .int (.cons .int (.cons (.keep _ _ _ _ List.not_mem_nil) .nil)))⟩
 have n:=of.Bb.outer 8 hA hB (by omega) (F:=fun (i j:Nat)=>(0:Int)) (fun _ _=>rfl) A 0 8 (by omega) (by omega)
 rw [K8] at n
 exact (EqOf.Aa.of.Bb.ev 8 (A:Int) (B:Int)).trans n
theorem Aa.Bb.own.known:Aa.Bb.own.Kn:=Aa.Bb.own.Ac (.cons Aa.of.Bb.own.known (.cons Aa.size.known .nil)) fun a b hp=>by
 have hp:(Bh a&&Bh b)=true:=hp
 obtain ⟨ha,hb⟩:=Ae.1 hp
 refine ⟨0,Aa.Bb.own.out [.i a,.i b],[],?_,?_⟩
 ·rw [Aa.Bb.own.ev,ha,hb]; rfl
 ·exact Wk.Ha (.cons (Wk.Hk (.cons .int (.cons .int (.cons (.keep _ _ _ _ List.not_mem_nil) .nil)))) (.cons .int .nil))
section
variable {n Q:Nat} {l m:List Int}
def upF (n Q:Nat) (l m:List Int) (i j:Nat):Int:=(Yn (n:Int) l (fun i=>Eb (Q:Int) m (i:Int) (j:Int)) n n).getD i 0
def upD (n j k a b:Nat):Bool:=decide (b<j∨(b=j∧n-k≤a))
def Sz (n Q:Nat) (l m:List Int) (j k:Nat):List Int:=Bv n Q fun a b=>if upD n j k a b=true then upF n Q l m a b else 0
theorem Ah8 (i j:Nat):Af (upF n Q l m i j)=true:=Yh (Ah7 _ _ _ _ _) i
theorem Aor (j k:Nat):Ai (Sz n Q l m j k)=true:=Gq fun a b=>by
 split
 ·exact Ah8 _ _
 ·exact B5 (n:=0) (by decide)
theorem Aka {j k t:Nat} (ht:t<n) (hj:j<Q) (hk:n-k≤t):Eb (Q:Int) (Sz n Q l m j k) (t:Int) (j:Int)=upF n Q l m t j:=by
 unfold Sz
 have hd:upD n j k t j=true:=A1i (.inr ⟨rfl,hk⟩)
 rw [Auc ht hj,hd,A14 rfl]
theorem Ud (j k:Nat):(Sz n Q l m j k).length=n*Q:=Cc _ _ _
theorem Aop (N:Nat) (n6:n≤6) (q6:Q≤6) (hl:l.length=n*n) (al:Ai l=true) {i j k:Nat} (hi:i+k+1=n) (hj:j<Q) (M0 M1:Nat) (p29 p33:Int) :
 ∀ (cnt t F:Nat) (s:Int),t+cnt=n→cnt<F→i+1≤t→Af s=true →
 solve.Bu.Up.L2 N M0 M1 F (n:Int) (n:Int) l (n:Int) (Q:Int) m (n:Int) s (t:Int) (j:Int) (i:Int) p29 p33 (Sz n Q l m j k) =
 solve.Bu.Up.L1 N M0 M1 (n:Int) (n:Int) l (n:Int) (Q:Int) m (n:Int) (Ab (p33+(1:Int))) (List.set (Sz n Q l m j k) (toNat ((i:Int)*(Q:Int)+(j:Int))) (E4 (Oe (n:Int) l (i:Int) s (t:Int) ((Yn (n:Int) l (fun i=>Eb (Q:Int) m (i:Int) (j:Int)) n n).drop t)) (Eb (n:Int) l (i:Int) (i:Int)))) (j:Int) p29:=by
 intro cnt
 induction cnt with
 | zero =>
   intro t F s ht hF hit hs
   obtain ⟨F,rfl⟩:∃ G,F=G+1:=⟨F-1,by omega⟩
   obtain ⟨e1,g1,g2⟩:=Lj (R:=(n:Int)) (D1 n6 n6 hl (show i<n by omega) (show i<n by omega))
   obtain ⟨e2,g3,g4⟩:=Lj (R:=(n:Int)) (D1 n6 q6 (Ud (l:=l) (m:=m) j k) (show i<n by omega) hj)
   rw [A1v (by rw [Nf]; omega),Oe]
   rw [solve.Bu.Up.H7,Au,A1m (show ¬ (t:Int)<(n:Int) by omega),A1l,e1,A1i g1,A1i g2,A1n,A1h,hs,show Af (getD l (toNat ((i:Int)*(n:Int)+(i:Int))) 0)=true from Ip (c:=(n:Int)) al,A1n,A1h,
    e2,A1i g3,A1i g4,A1n,A1h,A1i (show toNat ((i:Int)*(Q:Int)+(j:Int))<(Sz n Q l m j k).length by omega),A1h]
   rfl
 | succ cnt ih =>
   intro t F s ht hF hit hs
   obtain ⟨F,rfl⟩:∃ G,F=G+1:=⟨F-1,by omega⟩
   obtain ⟨e1,g1,g2⟩:=Lj (R:=(n:Int)) (D1 n6 n6 hl (show i<n by omega) (show t<n by omega))
   obtain ⟨e2,g3,g4⟩:=Lj (R:=(n:Int)) (D1 n6 q6 (Ud (l:=l) (m:=m) j k) (show t<n by omega) hj)
   have hx:getD (Sz n Q l m j k) (toNat ((t:Int)*(Q:Int)+(j:Int))) 0=upF n Q l m t j:=Aka (by omega) hj (by omega)
   rw [solve.Bu.Up.H7,Au,A1i (show (t:Int)<(n:Int) by omega),A1h,A1i (show (i:Int)<(t:Int) by omega),A1h,e1,A1i g1,A1i g2,A1n,A1h,
    e2,A1i g3,A1i g4,A1n,A1h,A1i (show toNat ((t:Int)*(Q:Int)+(j:Int))<(Sz n Q l m j k).length by omega),A1h,hx,
    show Af (getD l (toNat ((i:Int)*(n:Int)+(t:Int))) 0)=true from Ip (c:=(n:Int)) al,Ah8,A1n,A1h,hs,Io,A1n,A1h,Am (x:=(t:Int)+1) (by omega) (by omega)]
   have:=ih (t+1) F (Ec s (C5 (Eb (n:Int) l (i:Int) (t:Int)) (upF n Q l m t j))) (by omega) (by omega) (by omega) (Oq hs (Io _ _))
   rw [Ace (by rw [Nf]; omega)]
   exact this
theorem Asn (N:Nat) (n6:n≤6) {i j k:Nat} (hi:i<n) (M0 M1:Nat) (p29 p33 s:Int):∀ (cnt t F:Nat),t+cnt=i+1 →
 solve.Bu.Up.L2 N M0 M1 (F+cnt) (n:Int) (n:Int) l (n:Int) (Q:Int) m (n:Int) s (t:Int) (j:Int) (i:Int) p29 p33 (Sz n Q l m j k) =
 solve.Bu.Up.L2 N M0 M1 F (n:Int) (n:Int) l (n:Int) (Q:Int) m (n:Int) s ((i+1:Nat):Int) (j:Int) (i:Int) p29 p33 (Sz n Q l m j k):=by
 intro cnt
 induction cnt with
 | zero =>
   intro t F ht
   obtain rfl:t=i+1:=by omega
   rfl
 | succ cnt ih =>
   intro t F ht
   rw [← Nat.add_assoc,solve.Bu.Up.H7,Au,A1i (show (t:Int)<(n:Int) by omega),A1h,A1m (show ¬ (i:Int)<(t:Int) by omega),A1l,Am (by omega) (by omega)]
   exact ih (t+1) F (by omega)
theorem Aj9 {i j k:Nat} (hi:i+k+1=n) (hj:j<Q) {x:Int} (hx:x=upF n Q l m i j):List.set (Sz n Q l m j k) (toNat ((i:Int)*(Q:Int)+(j:Int))) x=Sz n Q l m j (k+1):=by
 refine Ahj hj hx fun a b ha hb=>?_
 unfold upD
 rw [A1o,A1o]
 omega
theorem Aso (N:Nat) (n6:n≤6) (q6:Q≤6) (hN:7<N) (hl:l.length=n*n) (hm:m.length=n*Q) (al:Ai l=true) (am:Ai m=true) {j:Nat} (hj:j<Q) (M0:Nat):∀ (cnt k F:Nat),k+cnt=n→cnt<F →
 solve.Bu.Up.L1 N M0 F (n:Int) (n:Int) l (n:Int) (Q:Int) m (n:Int) (k:Int) (Sz n Q l m j k) (j:Int) (j:Int) =
 solve.Bu.Up.L0 N M0 (n:Int) (n:Int) l (n:Int) (Q:Int) m (n:Int) ((j+1:Nat):Int) (Sz n Q l m j n):=by
 intro cnt
 induction cnt with
 | zero =>
   intro k F hk hF
   obtain ⟨F,rfl⟩:∃ G,F=G+1:=⟨F-1,by omega⟩
   obtain rfl:k=n:=by omega
   rw [solve.Bu.Up.B8,Au,A1m (by omega),A1l,Am (by omega) (by omega)]
   rfl
 | succ cnt ih =>
   intro k F hk hF
   obtain ⟨F,rfl⟩:∃ G,F=G+1:=⟨F-1,by omega⟩
   obtain ⟨i,hi⟩:∃ i:Nat,i+k+1=n:=⟨n-k-1,by omega⟩
   have ei:(n:Int)-1-(k:Int)=(i:Int):=by omega
   obtain ⟨e2,g3,g4⟩:=Lj (R:=(n:Int)) (D1 n6 q6 hm (show i<n by omega) hj)
   rw [solve.Bu.Up.B8,Au,A1i (show (k:Int)<(n:Int) by omega),A1h,Ar.2 (show 0≤(k:Int)∧(k:Int)<(n:Int)∧(n:Int)≤10 by omega),A1h,ei,e2,A1i g3,A1i g4,A1n,A1h]
   obtain ⟨G,rfl⟩:∃ G,N=G+(i+1):=⟨N-(i+1),by omega⟩
   have hs:=Asn (n:=n) (Q:=Q) (l:=l) (m:=m) (G+(i+1)) n6 (i:=i) (j:=j) (k:=k) (by omega) M0 F (j:Int) (k:Int) (Eb (Q:Int) m (i:Int) (j:Int)) (i+1) 0 G (by omega)
   have hr:=Aop (n:=n) (Q:=Q) (l:=l) (m:=m) (G+(i+1)) n6 q6 hl al hi hj M0 F (j:Int) (k:Int) (n-(i+1)) (i+1) G (Eb (Q:Int) m (i:Int) (j:Int)) (by omega) (by omega) (by omega) (Ip (c:=(Q:Int)) am)
   rw [Aj9 hi hj (Akc (show i<n by omega)).symm,Am (by omega) (by omega)] at hr
   exact (hs.trans hr).trans (ih (k+1) F (by omega) (by omega))
theorem Afd (j:Nat):Sz n Q l m j n=Sz n Q l m (j+1) 0:=by
 unfold Sz
 refine Ed fun a b ha hb=>?_
 have:upD n j n a b=upD n (j+1) 0 a b:=by
  unfold upD
  rw [decide_eq_decide]
  omega
 rw [this]
theorem Afc:Sz n Q l m 0 0=Bv n Q fun _ _=>0:=by
 unfold Sz
 refine Ed fun a b ha hb=>?_
 have:upD n 0 0 a b=false:=A1m (by omega)
 rw [this]; rfl
theorem Akb:Sz n Q l m Q 0=upG (n:Int) l (Q:Int) m n Q:=by
 unfold Sz upG
 refine Ed fun a b ha hb=>?_
 have:upD n Q 0 a b=true:=A1i (.inl hb)
 rw [this]; rfl
theorem Asp (N:Nat) (n6:n≤6) (q6:Q≤6) (hN:7<N) (hl:l.length=n*n) (hm:m.length=n*Q) (al:Ai l=true) (am:Ai m=true):∀ (cnt j F:Nat),j+cnt=Q→cnt<F →
 solve.Bu.Up.L0 N F (n:Int) (n:Int) l (n:Int) (Q:Int) m (n:Int) (j:Int) (Sz n Q l m j 0) =
 bif C2 (Sz n Q l m Q 0) then some (.tup [.agg [.int .i64 (n:Int),.int .i64 (Q:Int),.ints (.own 112002 tB) .u64 (Sz n Q l m Q 0)],.int .i64 (0:Int)]) else some (Ap9 2):=by
 intro cnt
 induction cnt with
 | zero =>
   intro j F hj hF
   obtain ⟨F,rfl⟩:∃ G,F=G+1:=⟨F-1,by omega⟩
   obtain rfl:j=Q:=by omega
   have h36:=A2d n6 q6
   rw [solve.Bu.Up.Av,Au,A1m (by omega),A1l,Jj (Aor _ _) (by rw [Ud]; omega),A1h]
   cases C2 (Sz n j l m j 0)<;>rfl
 | succ cnt ih =>
   intro j F hj hF
   obtain ⟨F,rfl⟩:∃ G,F=G+1:=⟨F-1,by omega⟩
   have hr:=Aso N n6 q6 hN hl hm al am (show j<Q by omega) F n 0 N (by omega) (by omega)
   rw [Afd] at hr
   rw [solve.Bu.Up.Av,Au,A1i (show (j:Int)<(Q:Int) by omega),A1h]
   exact hr.trans (ih (j+1) F (by omega) (by omega))
end
theorem solve.Bu.Up.known:solve.Bu.Up.Kn:=solve.Bu.Up.Ac (.cons Apx.known (.cons Aa.Bb.own.known (.cons solve.Ef.known (.cons Ad.Div.known (.cons Ad.Finite.known (.cons Ad.Mul.known (.cons Ad.Sub.known .nil))))))) fun r c l p q m n hp=>by
 show ∃ N dv drops,_=some dv∧Wk drops dv (To (Kj r q (upG c l q m (toNat r) (toNat q))))
 obtain ⟨h1,hn⟩:=Ae.1 (show (Adg r c l p q m&&decide (n=r))=true from hp)
 obtain ⟨h2,h3⟩:=Ae.1 h1
 obtain ⟨hr,hm⟩:=Ae.1 h2
 obtain ⟨h4,h5⟩:=Ae.1 h3
 obtain ⟨al,am⟩:=Ae.1 h4
 obtain ⟨rfl,rfl⟩:=Ar.1 h5
 obtain rfl:=A17 hn
 have s1:=(Iz hr).1
 have s2:=(Iz hm).2
 obtain ⟨R,C,rfl,hC,r6,c6,hl⟩:=Ci hr
 obtain ⟨P,Q,hP,rfl,p6,q6,hl2⟩:=Ci hm
 obtain rfl:R=C:=by omega
 obtain rfl:R=P:=by omega
 have h:=Asp (n:=R) (Q:=Q) (l:=l) (m:=m) 8 r6 q6 (by omega) hl hl2 al am Q 0 8 (by omega) (by omega)
 rw [Afc,Akb,show ((0:Nat):Int)=0 from rfl] at h
 rw [A1j,A1j]
 unfold Kj
 cases hf:C2 (upG (R:Int) l (Q:Int) m R Q) with
 | true =>
   rw [hf,A1h] at h
   rw [A14 rfl]
   refine ⟨8,.tup [.agg [.int .i64 (R:Int),.int .i64 (Q:Int),.ints (.own 112002 tB) .u64 (upG (R:Int) l (Q:Int) m R Q)],.int .i64 0],[112002],?_,Wk.Ha (.cons (Ym (List.mem_singleton.2 rfl)) (.cons .int .nil))⟩
   rw [solve.Bu.Up.ev,s1,s2,A1n,A1h,A1j,A1j]
   exact h
 | false =>
   rw [hf,A1l] at h
   rw [A13 (by decide)]
   refine ⟨8,Ap9 2,[],?_,J8⟩
   rw [solve.Bu.Up.ev,s1,s2,A1n,A1h,A1j,A1j]
   exact h
namespace EqFew
def qr.Fi.A9:List (Nat × Entry):=[(123,Aa.Mul.spec),(167,Aa.Cl.spec)]
def qr.Fi.E:Env:=Ba (A8 qr.Fi.A9) (fun _=>false) (fun _=>none) (fun _=>none)
theorem qr.Fi.ev (N:Nat) (r c:Int) (l:List Int) (p q:Int) (m:List Int):Bw qr.Fi.E N f98 (An f98) [.agg [.int .i64 r,.int .i64 c,.ints .arg .u64 l],.agg [.int .i64 p,.int .i64 q,.ints .arg .u64 m]]=bif (((Fe r c l).2.2.2) !=(0:Int)) then some (.tup [.agg [.int .i64 0,.int .i64 0,.nil],.int .i64 ((Fe r c l).2.2.2)]) else bif (Ai ((Fe r c l).2.2.1)&&Ai m) then some (.tup [.agg [.int .i64 ((N2 ((Fe r c l).1) ((Fe r c l).2.1) ((Fe r c l).2.2.1) p q m).1),.int .i64 ((N2 ((Fe r c l).1) ((Fe r c l).2.1) ((Fe r c l).2.2.1) p q m).2.1),.ints .fresh .u64 ((N2 ((Fe r c l).1) ((Fe r c l).2.1) ((Fe r c l).2.2.1) p q m).2.2.1)],.int .i64 ((N2 ((Fe r c l).1) ((Fe r c l).2.1) ((Fe r c l).2.2.1) p q m).2.2.2)]) else none:=by kernel_rfl
abbrev _root_.Go.Proofs.S1.qr.Fi.Kn:=A4 prog 98 qr.Fi.spec
theorem qr.Fi.Ac (hk:Az prog qr.Fi.A9) (h:Hyp qr.Fi.E f98 qr.Fi.ts qr.Fi.pre qr.Fi.out):qr.Fi.Kn :=
 Al (A0 hk _ _ _) func98 (by kernel_rfl) (by kernel_rfl) h
end EqFew
open EqSol EqFew
theorem Ze {n i:Nat} (h:i<n):(List.range n).drop i=i::(List.range n).drop (i+1):=by
 rw [List.drop_eq_getElem_cons (by rw [A2k]; exact h),List.getElem_range]
theorem Ej {r c:Int} {l:List Int} (h:B9 r c l=0):A2 r c l=true∧C2 l=true:=by
 unfold B9 at h
 by_cases h1:A2 r c l=true
 ·rw [A14 h1] at h
  by_cases h2:C2 l=true
  ·exact ⟨h1,h2⟩
  ·rw [A13 h2] at h; exact absurd h (by decide)
 ·rw [A13 h1] at h; exact absurd h (by decide)
theorem Arz {r c:Int} {l:List Int} (h1:A2 r c l=true) (h2:C2 l=true):B9 r c l=0:=by unfold B9; rw [A14 h1,A14 h2]
theorem Vw {x:Int} (h:x≠0):(x !=(0:Int))=true:=by simpa using h
theorem G9 {x:Int} (h:x=0):(x !=(0:Int))=false:=by rw [h]; rfl
theorem Ajw (N:Nat) {n:Nat} {l:List Int} (n6:n≤6) (hl:l.length=n*n) (al:Ai l=true):∀ (cnt i F:Nat),i+cnt=n→cnt<F →
 solve.check.L0 (N+4) F (n:Int) (n:Int) l (i:Int)=some (.int .i64 (if ((List.range n).drop i).any (fun i:Nat=>decide (A5 (Eb (n:Int) l (i:Int) (i:Int))=0))=true then 5 else 0)):=by
 intro cnt
 induction cnt with
 | zero =>
   intro i F hi hF
   obtain ⟨F,rfl⟩:∃ G,F=G+1:=⟨F-1,by omega⟩
   rw [solve.check.Av,Au,A1m (by omega),A1l,A1v (by rw [A2k]; omega)]; rfl
 | succ cnt ih =>
   intro i F hi hF
   obtain ⟨F,rfl⟩:∃ G,F=G+1:=⟨F-1,by omega⟩
   obtain ⟨e1,g1,g2⟩:=Lj (R:=(n:Int)) (D1 n6 n6 hl (show i<n by omega) (show i<n by omega))
   have hx:getD l (toNat ((i:Int)*(n:Int)+(i:Int))) 0=Eb (n:Int) l (i:Int) (i:Int):=rfl
   rw [solve.check.Av,Au,A1i (show (i:Int)<(n:Int) by omega),A1h,e1,A1i g1,A1i g2,A1n,A1h,hx,Ip al,A1h,Ze (by omega),List.any_cons]
   by_cases hk:A5 (Eb (n:Int) l (i:Int) (i:Int))=0
   ·have e:(A5 (Eb (n:Int) l (i:Int) (i:Int))==(0:Int))=true:=by rw [hk]; rfl
    rw [e,A1h,A1i hk]; rfl
   ·have e:(A5 (Eb (n:Int) l (i:Int) (i:Int))==(0:Int))=false:=by simpa using hk
    rw [e,A1l,A1m hk,Bool.false_or,Am (by omega) (by omega)]
    exact ih (i+1) F (by omega) (by omega)
theorem Avc {r c p:Int}:((r !=c)||(r !=p))=decide (r≠c∨r≠p):=by
 rw [A1x]; simp
theorem solve.check.known:solve.check.Kn:=solve.check.Ac (.cons Cs.Check.known (.cons soft.Kind.known .nil)) fun r c l p q m hp=>by
 obtain ⟨al,am⟩:=Ae.1 (show (Ai l&&Ai m)=true from hp)
 refine ⟨14,solve.check.out [.i r,.i c,.l l,.i p,.i q,.l m],[],?_,.int⟩
 show _=some (DV.int .i64 (Mg r c l p q m))
 rw [show (14:Nat)=10+4 from rfl,solve.check.ev,al,A1h,am,A1h,Avc]
 unfold Mg
 by_cases h1:B9 r c l=0
 ·rw [G9 h1,A1l,A13 (by rw [h1]; decide)]
  by_cases h2:B9 p q m=0
  ·rw [G9 h2,A1l,A13 (by rw [h2]; decide)]
   by_cases h3:r≠c∨r≠p
   ·rw [A1i h3,A1h,A14 h3]
   ·rw [A1m h3,A1l,A13 h3]
    obtain rfl:r=c:=Decidable.byContradiction fun h=>h3 (.inl h)
    obtain ⟨R,C,rfl,hC,r6,c6,hl⟩:=Ci (Ej h1).1
    obtain rfl:R=C:=by omega
    rw [A1j]
    exact Ajw 10 r6 hl al R 0 14 (by omega) (by omega)
  ·rw [Vw h2,A1h,A14 h2]
 ·rw [Vw h1,A1h,A14 h1]
theorem So {r c:Int} {l:List Int} {p q:Int} {m:List Int} (h:Mg r c l p q m=0):A2 r c l=true∧A2 p q m=true∧r=c∧r=p:=by
 unfold Mg at h
 by_cases h1:B9 r c l=0
 ·rw [A13 (by rw [h1]; decide)] at h
  by_cases h2:B9 p q m=0
  ·rw [A13 (by rw [h2]; decide)] at h
   by_cases h3:r≠c∨r≠p
   ·rw [A14 h3] at h; exact absurd h (by decide)
   ·exact ⟨(Ej h1).1,(Ej h2).1,Decidable.byContradiction fun h=>h3 (.inl h),Decidable.byContradiction fun h=>h3 (.inr h)⟩
  ·rw [A14 h2] at h; exact absurd h h2
 ·rw [A14 h1] at h; exact absurd h h1
theorem solve.Ch.known:solve.Ch.Kn:=solve.Ch.Ac (.cons solve.check.known (.cons solve.Bu.Up.known .nil)) fun r c l p q m hp=>by
 have hp:(Ai l&&Ai m)=true:=hp
 show ∃ N dv drops,_=some dv∧Wk drops dv (To (Ua r c l p q m))
 unfold Ua
 by_cases h:Mg r c l p q m=0
 ·obtain ⟨h1,h2,h3,h4⟩:=So h
  have ht:Adg r c l p q m=true:=Ae.2 ⟨Ae.2 ⟨h1,h2⟩,Ae.2 ⟨hp,Ar.2 ⟨h3,h4⟩⟩⟩
  rw [A13 (by rw [h]; decide)]
  exact ⟨0,_,[],by rw [solve.Ch.ev,hp,A1h,G9 h,A1l,ht,A1i rfl]; rfl,On⟩
 ·rw [A14 h]
  exact ⟨0,_,[],by rw [solve.Ch.ev,hp,A1h,Vw h,A1h]; rfl,J8⟩
theorem Apc {b:Nat} {n:Int} (h:b<2^64):(E5 b n).1<2^64:=by
 unfold E5
 by_cases h4:Ah b=4
 ·rw [A14 h4]; exact (by decide:Le<2^64)
 rw [A13 h4]
 by_cases h3:Ah b=3∨Ah b=0
 ·rw [A14 h3]; exact h
 rw [A13 h3]
 exact Ul _ _ _
theorem Hd {b n:Int} (h:Af b=true):Af (Bp b n)=true:=by
 obtain ⟨x,rfl,hx⟩:=Bm h
 exact B5 (Apc (by rw [A1j]; exact hx))
theorem Aax:∀ (l:List Int) (m:Nat),m<2^64→Ld l m<2^64
 | [],m,h=>h
 | x::l,m,h=>by
   unfold Ld
   split
   ·exact (by decide:Le<2^64)
   ·have h2:E3 x.toNat<2^63:=Ac5 x.toNat
    exact Aax l _ (by omega)
theorem Oy (l:List Int):Af (Bg l)=true:=B5 (Aax l 0 (by decide))
theorem Tv (x:Int):Af (It x)=true:=B5 (Nat.lt_trans (Ac5 x.toNat) (by decide))
theorem Anp (N:Nat) {d:List Int} (hd:Cp d=true) (h7:d.length≤1000):∀ (cnt i F:Nat),i+cnt=d.length→cnt<F →
 solve.Flat.L1 N F d (i:Int)=some (.tup [.bool ((d.drop i).any fun x=>!(decide (Tp (Bp (Bg d) (-40)) x<0))),.int .i64 0]):=by
 obtain ⟨_,hu⟩:=Iq hd
 intro cnt
 induction cnt with
 | zero =>
   intro i F hi hF
   obtain ⟨F,rfl⟩:∃ G,F=G+1:=⟨F-1,by omega⟩
   rw [solve.Flat.B8,Au,A1m (by omega),A1l,A1v (by omega)]; rfl
 | succ cnt ih =>
   intro i F hi hF
   obtain ⟨F,rfl⟩:∃ G,F=G+1:=⟨F-1,by omega⟩
   rw [solve.Flat.B8,Au,A1i (show (i:Int)<(d.length:Int) by omega),A1h,A1i (show (0:Int)≤(i:Int) by omega),A1n,A1h,A1j,A1i (show i<d.length by omega),A1h,
    Hd (Oy d),hu i (by omega),A1n,A1h,Hi (by omega),List.any_cons]
   cases decide (Tp (Bp (Bg d) (-40)) (d.getD i 0)<0) with
   | false=>rfl
   | true =>
     rw [A2g,A1l,Bool.false_or,Am (by omega) (by omega)]
     exact ih (i+1) F (by omega) (by omega)
theorem Aun (c:Int) (l:List Int) (n:Nat):Ai (J5 c l n)=true:=Ar.2 fun x hx=>by
 obtain ⟨j,_,rfl⟩:=List.mem_map.1 hx
 exact Tv _
theorem I5 (c:Int) (l:List Int) (n:Nat):(J5 c l n).length=n:=by unfold J5; rw [A2n,A2k]
theorem Anr (N:Nat) {R C:Nat} {l:List Int} (r6:R≤6) (c6:C≤6) (hN:7<N) (hl:l.length=R*C) (al:Ai l=true):∀ (cnt i F:Nat),i+cnt=min R C→cnt<F →
 solve.Flat.L0 N F (R:Int) (C:Int) l (i:Int) (J5 (C:Int) l i)=some (.tup [.bool (Ard (J5 (C:Int) l (min R C))),.int .i64 0]):=by
 intro cnt
 induction cnt with
 | zero =>
   intro i F hi hF
   obtain ⟨F,rfl⟩:∃ G,F=G+1:=⟨F-1,by omega⟩
   obtain rfl:i=min R C:=by omega
   have hlt:(A6 (((min R C:Nat)):Int) (R:Int)&&A6 (((min R C:Nat)):Int) (C:Int))=false:=by
    rw [Au,Au,Bool.and_eq_false_iff,A10,A10]; omega
   have ok:=Jj (Aun (C:Int) l (min R C)) (by rw [I5]; omega)
   have sp:Di (Bg (J5 (C:Int) l (min R C))) (-40:Int)=true:=Ae.2 ⟨Oy _,Ar.2 (by omega)⟩
   rw [solve.Flat.Av,hlt,A1l,ok,A1h,sp,A1h]
   exact Anp N ok (by rw [I5]; omega) (min R C) 0 N (by rw [I5]; omega) (by omega)
 | succ cnt ih =>
   intro i F hi hF
   obtain ⟨F,rfl⟩:∃ G,F=G+1:=⟨F-1,by omega⟩
   obtain ⟨e1,g1,g2⟩:=Lj (R:=(R:Int)) (D1 r6 c6 hl (show i<R by omega) (show i<C by omega))
   have hx:getD l (toNat ((i:Int)*(C:Int)+(i:Int))) 0=Eb (C:Int) l (i:Int) (i:Int):=rfl
   rw [solve.Flat.Av,Au,Au,A1i (show (i:Int)<(R:Int) by omega),A1i (show (i:Int)<(C:Int) by omega),A1n,A1h,e1,A1i g1,A1i g2,A1n,A1h,hx,Ip al,A1h,
    I5,A1i (show i+1≤G0 by unfold G0; omega),A1h,Am (by omega) (by omega)]
   have:=ih (i+1) F (by omega) (by omega)
   unfold J5 at this ⊢
   rw [He] at this
   exact this
theorem solve.Flat.known:solve.Flat.Kn:=solve.Flat.Ac (.cons Cs.Check.known (.cons compare.G1.known (.cons compare.Lf.known (.cons Ad.Bq.known (.cons Ad.Br.known .nil))))) fun r c l hp=>by
 have hp:Ai l=true:=hp
 refine ⟨8,solve.Flat.out [.i r,.i c,.l l],[],?_,Wk.Ha (.cons .bool (.cons .int .nil))⟩
 show _=some (DV.tup [.bool (Lz r c l).1,.int .i64 (Lz r c l).2])
 rw [solve.Flat.ev,hp,A1h]
 unfold Lz Qd
 by_cases h1:B9 r c l=0
 ·obtain ⟨R,C,rfl,rfl,r6,c6,hl⟩:=Ci (Ej h1).1
  rw [G9 h1,A1l,A13 (by rw [h1]; decide),A1j,A1j]
  exact Anr 8 r6 c6 (by omega) hl hp (min R C) 0 8 (by omega) (by omega)
 ·rw [Vw h1,A1h,A14 h1]
theorem Aku {r c:Int} {l:List Int} (al:Ai l=true) (x y a b:Int):Ai (Hu r c l x y a b).2.2.1=true:=by
 unfold Hu
 split
 ·split
  ·dsimp only
   exact Gq fun i k=>Ip al
  ·exact Ar.2 fun x h=>by cases h
 ·exact Ar.2 fun x h=>by cases h
theorem Asr {r c:Int} {l:List Int} (al:Ai l=true):Ai (Fe r c l).2.2.1=true:=by
 unfold Fe
 split
 ·dsimp only
  exact Gq fun i k=>Ip al
 ·exact Ar.2 fun x h=>by cases h
theorem Sn (x y:List Int):Af (Je x y)=true:=B5 (Aen x y 0 (by decide))
theorem Aec (r c:Int) (l:List Int) (p q:Int) (m:List Int):Ai (N2 r c l p q m).2.2.1=true:=by
 unfold N2
 split
 ·split
  ·dsimp only
   exact Gq fun i k=>Sn _ _
  ·exact Ar.2 fun x h=>by cases h
 ·exact Ar.2 fun x h=>by cases h
theorem Vy (r c:Int) (l:List Int) (p q:Int) (m:List Int):Ai (C8 r c l p q m).2.2.1=true:=by
 unfold C8
 split
 ·exact Ar.2 fun x h=>by cases h
 ·exact Aec _ _ _ _ _ _
theorem qr.Fi.known:qr.Fi.Kn:=qr.Fi.Ac (.cons Aa.Mul.known (.cons Aa.Cl.known .nil)) fun r c l p q m hp=>by
 obtain ⟨al,am⟩:=Ae.1 (show (Ai l&&Ai m)=true from hp)
 show ∃ N dv drops,_=some dv∧Wk drops dv (To (C8 r c l p q m))
 unfold C8
 by_cases h:(Fe r c l).2.2.2=0
 ·rw [A13 (by rw [h]; decide)]
  exact ⟨0,_,[],by rw [qr.Fi.ev,G9 h,A1l,Asr al,am]; rfl,On⟩
 ·rw [A14 h]
  exact ⟨0,_,[],by rw [qr.Fi.ev,Vw h,A1h]; rfl,J8⟩
namespace EqQr
def qr.down.hint:Nat→Option Be
 | 0=>some { keep:=[1,2,5,6,7],objs:=[(0,6,100006,.recs 214 2 []),(6,2,106002,.ints 37 .u64 [])],boxes:=[1,2,5] }
 | 2=>some { keep:=[1,2,5,6,7,8,9,12],objs:=[(6,2,106002,.ints 37 .u64 []),(0,6,100006,.recs 214 2 [])],boxes:=[1,2,5] }
 | _=>none
def qr.down.A9:List (Nat × Entry):=[(219,Ao.Apply.spec),(245,Ao.Dl.spec),(191,Aa.Dx.spec)]
def qr.down.E:Env:=Ba (A8 qr.down.A9) (fun n=>Nat.beq n 46) qr.down.hint (fun _=>none)
section
variable (N M0 M:Nat) (r c:Int) (l:List Int) (p7:Int) (p6:List (List DV)) (p2_2:List Int) (p12_1:Int) (p2_1:List Int) (p7_1:Int) (p8:List Int) (p9:Int) (p6_1:List (List DV))
def qr.down.L0:Option DV:=B2 qr.down.E N f217 (An f217) [1,1,1,0,1,0,0,1,0,0,1,1,1,1,0,1,0] [M0] M ⟨Gz 88 [(1,.ptr 1 0 0),(2,.ptr 2 0 0),(5,.ptr 5 0 0),(6,.oref 100006),(7,.int .i64 p7_1),(8,.ints .fresh .u64 p8),(9,.int .u64 p9),(12,.int .i64 p12_1)],[(1,false,.box [.int .i64 r,.int .i64 c,.ints .arg .u64 l]),(2,false,.box [.int .i64 0,.int .i64 0,.nil]),(5,false,.box [.int .i64 r,.int .i64 c,.oref 106002]),(106002,false,.ints 37 .u64 p2_1),(100006,false,.recs 214 2 p6_1)]⟩
def qr.down.L1:Option DV:=B2 qr.down.E N f217 (An f217) [1,1,1,0,1,0] [] M ⟨Gz 88 [(1,.ptr 1 0 0),(2,.ptr 2 0 0),(5,.ptr 5 0 0),(6,.oref 100006),(7,.int .i64 p7)],[(1,false,.box [.int .i64 r,.int .i64 c,.ints .arg .u64 l]),(2,false,.box [.int .i64 0,.int .i64 0,.nil]),(5,false,.box [.int .i64 r,.int .i64 c,.oref 106002]),(100006,false,.recs 214 2 p6),(106002,false,.ints 37 .u64 p2_2)]⟩
def qr.down.L2:Option DV:=B2 qr.down.E N f217 (An f217) [1,1,1,0,1,0] [] M ⟨Gz 88 [(1,.ptr 1 0 0),(2,.ptr 2 0 0),(5,.ptr 5 0 0),(6,.oref 100006),(7,.int .i64 0)],[(1,false,.box [.int .i64 r,.int .i64 c,.ints .arg .u64 l]),(2,false,.box [.int .i64 0,.int .i64 0,.nil]),(5,false,.box [.int .i64 r,.int .i64 c,.ints .arg .u64 l]),(100006,false,.recs 214 2 [])]⟩
theorem qr.down.Av:qr.down.L0 N M0 (M+1) r c l p12_1 p2_1 p7_1 p8 p9 p6_1=bif (A6 p12_1 r) then bif ((decide (0≤(Ab ((Ab (p12_1*c))+p7_1))))&&(decide ((Ab ((Ab (p12_1*c))+p7_1))<(length p2_1:Int)))) then bif (decide ((toNat (Ab ((Ab (p12_1*c))+p7_1)))<(length p2_1))) then qr.down.L0 N M0 M r c l (Ab (p12_1+1)) (List.set p2_1 (toNat (Ab ((Ab (p12_1*c))+p7_1))) 0) p7_1 p8 p9 p6_1 else none else none else bif (decide ((length p6_1)+1≤Agu)) then qr.down.L1 N M0 r c l (Ab (p7_1+1)) (p6_1++[[.ints .arg .u64 p8,.int .u64 p9]]) p2_1 else none:=by kernel_rfl
theorem qr.down.B8:qr.down.L1 N (M+1) r c l p7 p6 p2_2=bif ((A6 p7 c)&&(A6 p7 (Ab (r-1)))) then bif (Hj r c p2_2 p7&&Cz (0≤p7∧p7≤r)) then bif (Cp (Ct c p2_2 p7 p7 (toNat (r-p7)))) then bif (((Cf (Ct c p2_2 p7 p7 (toNat (r-p7)))).2.2.2) !=(0:Int)) then some (.tup [.agg [.int .i64 0,.int .i64 0,.nil],.nil,.int .i64 2]) else bif (((A2 r c p2_2&&H5 r c p7 p7 ((Cf (Ct c p2_2 p7 p7 (toNat (r-p7)))).1))&&(Ai p2_2&&Ai ((Cf (Ct c p2_2 p7 p7 (toNat (r-p7)))).1)))&&Af ((Cf (Ct c p2_2 p7 p7 (toNat (r-p7)))).2.1)) then bif ((decide (0≤(Ab ((Ab (p7*c))+p7))))&&(decide ((Ab ((Ab (p7*c))+p7))<(length (E2 (toNat r) (toNat c) p2_2 p7 p7 ((Cf (Ct c p2_2 p7 p7 (toNat (r-p7)))).1) ((Cf (Ct c p2_2 p7 p7 (toNat (r-p7)))).2.1)):Int)))) then bif (decide ((toNat (Ab ((Ab (p7*c))+p7)))<(length (E2 (toNat r) (toNat c) p2_2 p7 p7 ((Cf (Ct c p2_2 p7 p7 (toNat (r-p7)))).1) ((Cf (Ct c p2_2 p7 p7 (toNat (r-p7)))).2.1))))) then qr.down.L0 N M N r c l (Ab (p7+1)) (List.set (E2 (toNat r) (toNat c) p2_2 p7 p7 ((Cf (Ct c p2_2 p7 p7 (toNat (r-p7)))).1) ((Cf (Ct c p2_2 p7 p7 (toNat (r-p7)))).2.1)) (toNat (Ab ((Ab (p7*c))+p7))) ((Cf (Ct c p2_2 p7 p7 (toNat (r-p7)))).2.2.1)) p7 ((Cf (Ct c p2_2 p7 p7 (toNat (r-p7)))).1) ((Cf (Ct c p2_2 p7 p7 (toNat (r-p7)))).2.1) p6 else none else none else none else none else none else some (.tup [.agg [.int .i64 r,.int .i64 c,.ints (.own 106002 37) .u64 p2_2],.recs (.own 100006 214) 2 p6,.int .i64 0]) :=
 Eq.trans (by kernel_rfl)
 (Ax (Qq (A6 p7 c)) (Ax (Qq (A6 p7 c)) (Ax (Ma (A6 p7 c)) (Ax (Ma (A6 p7 c)) (Ax (Afi (A6 p7 c)) (Ax (Uf (A6 p7 c)) (C9 (tt1 (A6 p7 c) (A6 p7 (Ab (r-1)))) rfl rfl)))))))
theorem qr.down.H7:qr.down.L2 N (M+1) r c l=bif ((A6 0 c)&&(A6 0 (Ab (r-1)))) then bif (Hj r c l 0&&Cz (0≤(0:Int)∧(0:Int)≤r)) then bif (Cp (Ct c l 0 0 (toNat (r-0)))) then bif (((Cf (Ct c l 0 0 (toNat (r-0)))).2.2.2) !=(0:Int)) then some (.tup [.agg [.int .i64 0,.int .i64 0,.nil],.nil,.int .i64 2]) else bif (((A2 r c l&&H5 r c 0 0 ((Cf (Ct c l 0 0 (toNat (r-0)))).1))&&(Ai l&&Ai ((Cf (Ct c l 0 0 (toNat (r-0)))).1)))&&Af ((Cf (Ct c l 0 0 (toNat (r-0)))).2.1)) then bif ((decide (0≤(Ab ((Ab ((0:Int)*c))+0))))&&(decide ((Ab ((Ab ((0:Int)*c))+0))<(length (E2 (toNat r) (toNat c) l 0 0 ((Cf (Ct c l 0 0 (toNat (r-0)))).1) ((Cf (Ct c l 0 0 (toNat (r-0)))).2.1)):Int)))) then bif (decide ((toNat (Ab ((Ab ((0:Int)*c))+0)))<(length (E2 (toNat r) (toNat c) l 0 0 ((Cf (Ct c l 0 0 (toNat (r-0)))).1) ((Cf (Ct c l 0 0 (toNat (r-0)))).2.1))))) then qr.down.L0 N M N r c l 1 (List.set (E2 (toNat r) (toNat c) l 0 0 ((Cf (Ct c l 0 0 (toNat (r-0)))).1) ((Cf (Ct c l 0 0 (toNat (r-0)))).2.1)) (toNat (Ab ((Ab ((0:Int)*c))+0))) ((Cf (Ct c l 0 0 (toNat (r-0)))).2.2.1)) 0 ((Cf (Ct c l 0 0 (toNat (r-0)))).1) ((Cf (Ct c l 0 0 (toNat (r-0)))).2.1) [] else none else none else none else none else none else some (.tup [.agg [.int .i64 r,.int .i64 c,.ints .arg .u64 l],.recs (.own 100006 214) 2 [],.int .i64 0]) :=
 Eq.trans (by kernel_rfl)
 (Ax (Qq (A6 0 c)) (Ax (Qq (A6 0 c)) (Ax (Ma (A6 0 c)) (Ax (Ma (A6 0 c)) (Ax (Afi (A6 0 c)) (Ax (Uf (A6 0 c)) (C9 (tt1 (A6 0 c) (A6 0 (Ab (r-1)))) rfl rfl)))))))
theorem qr.down.ev:Bw qr.down.E N f217 (An f217) [.agg [.int .i64 r,.int .i64 c,.ints .arg .u64 l]] =
 qr.down.L2 N N r c l:=by kernel_rfl
end
abbrev _root_.Go.Proofs.S1.qr.down.Kn:=A4 prog 217 qr.down.spec
theorem qr.down.Ac (hk:Az prog qr.down.A9) (h:Hyp qr.down.E f217 qr.down.ts qr.down.pre qr.down.out):qr.down.Kn :=
 Al (A0 hk _ _ _) func217 (by kernel_rfl) (by kernel_rfl) h
def qr.By.hint:Nat→Option Be
 | 0=>some { keep:=[2,3,5,6],objs:=[],boxes:=[2,3] }
 | _=>none
def qr.By.A9:List (Nat × Entry):=[(86,Cs.Check.spec),(219,Ao.Apply.spec),(218,Aa.Ep.spec),(217,qr.down.spec),(150,Ad.Finite.spec)]
def qr.By.E:Env:=Wt (A8 qr.By.A9) (fun _=>false) qr.By.hint (fun _=>none) (Ahx [(22,[.s .u64]),(37,[.i .u64])])
section
variable (N M:Nat) (r c:Int) (l:List Int) (p6:Int) (p2:List Int)
def qr.By.L0:Option DV:=B2 qr.By.E N f166 (An f166) [1,0,1,1,1,1,1,1,0,0] [] M ⟨Gz 81 [(2,.ptr 2 0 0),(3,.ptr 3 0 0),(5,.recs .fresh 2 (K6 r c ([]++l))),(6,.int .i64 p6)],[(2,false,.box [.int .i64 ((Nt r).1),.int .i64 ((Nt r).2.1),.ints .fresh .u64 p2]),(3,false,.box [.int .i64 ((Gj r c ([]++l)).1),.int .i64 ((Gj r c ([]++l)).2.1),.ints .arg .u64 ((Gj r c ([]++l)).2.2.1)])]⟩
theorem qr.By.Av:qr.By.L0 N (M+1) r c l p6 p2=bif (A6 p6 0) then bif (Cp p2) then bif ((!(C2 p2))||(Cp ((Gj r c ([]++l)).2.2.1))) then bif ((!(C2 p2))||(!(C2 ((Gj r c ([]++l)).2.2.1)))) then some (.tup [.agg [.int .i64 0,.int .i64 0,.nil],.agg [.int .i64 0,.int .i64 0,.nil],.int .i64 2]) else some (.tup [.agg [.int .i64 ((Nt r).1),.int .i64 ((Nt r).2.1),.ints .fresh .u64 p2],.agg [.int .i64 ((Gj r c ([]++l)).1),.int .i64 ((Gj r c ([]++l)).2.1),.ints .arg .u64 ((Gj r c ([]++l)).2.2.1)],.int .i64 0]) else none else none else bif ((decide (0≤p6))&&(decide (p6<(length (K6 r c ([]++l)):Int)))) then bif (isC (.s .u64) (getD (getD (K6 r c ([]++l)) (toNat p6) []) 0 .undef)) then bif ((decide (0≤p6))&&(decide (p6<(length (K6 r c ([]++l)):Int)))) then bif (isC (.i .u64) (getD (getD (K6 r c ([]++l)) (toNat p6) []) 1 .undef)) then bif (((A2 ((Nt r).1) ((Nt r).2.1) p2&&H5 ((Nt r).1) ((Nt r).2.1) p6 0 (Mf (getD (getD (K6 r c ([]++l)) (toNat p6) []) 0 .undef)))&&(Ai p2&&Ai (Mf (getD (getD (K6 r c ([]++l)) (toNat p6) []) 0 .undef))))&&Af (Aao (getD (getD (K6 r c ([]++l)) (toNat p6) []) 1 .undef))) then qr.By.L0 N M r c l (Ab (p6-1)) (E2 (toNat ((Nt r).1)) (toNat ((Nt r).2.1)) p2 p6 0 (Mf (getD (getD (K6 r c ([]++l)) (toNat p6) []) 0 .undef)) (Aao (getD (getD (K6 r c ([]++l)) (toNat p6) []) 1 .undef))) else none else none else none else none else none :=
 Eq.trans (by kernel_rfl)
 (Et (Et (Ax (Ade (C2 p2)) (Ax (S3 (C2 p2)) (C9 (Ao0 (C2 p2) (Cp ((Gj r c ([]++l)).2.2.1))) (Ax (S3 (C2 p2)) (Ax (Adf (C2 p2)) (C9 (Ao1 (C2 p2) (C2 ((Gj r c ([]++l)).2.2.1))) rfl rfl))) rfl))) rfl) (C9 (Nh (decide (0≤p6)) (decide (p6<(length (K6 r c ([]++l)):Int)))) (C9 (Cy (isC (.s .u64) (getD (getD (K6 r c ([]++l)) (toNat p6) []) 0 .undef))) (C9 (Nh (decide (0≤p6)) (decide (p6<(length (K6 r c ([]++l)):Int)))) (C9 (Cy (isC (.i .u64) (getD (getD (K6 r c ([]++l)) (toNat p6) []) 1 .undef))) (C9 (Cy (((A2 ((Nt r).1) ((Nt r).2.1) p2&&H5 ((Nt r).1) ((Nt r).2.1) p6 0 (Mf (getD (getD (K6 r c ([]++l)) (toNat p6) []) 0 .undef)))&&(Ai p2&&Ai (Mf (getD (getD (K6 r c ([]++l)) (toNat p6) []) 0 .undef))))&&Af (Aao (getD (getD (K6 r c ([]++l)) (toNat p6) []) 1 .undef)))) rfl rfl) rfl) rfl) rfl) rfl))
theorem qr.By.ev:Bw qr.By.E N f166 (An f166) [.agg [.int .i64 r,.int .i64 c,.ints .arg .u64 l]]=bif (Ai l) then bif ((B9 r c l) !=(0:Int)) then some (.tup [.agg [.int .i64 0,.int .i64 0,.nil],.agg [.int .i64 0,.int .i64 0,.nil],.int .i64 (B9 r c l)]) else bif (decide (0+(length l)≤G0)) then bif ((A2 r c ([]++l)&&C2 ([]++l))&&Ai ([]++l)) then bif (((Gj r c ([]++l)).2.2.2) !=(0:Int)) then some (.tup [.agg [.int .i64 0,.int .i64 0,.nil],.agg [.int .i64 0,.int .i64 0,.nil],.int .i64 ((Gj r c ([]++l)).2.2.2)]) else qr.By.L0 N N r c l (Ab ((length (K6 r c ([]++l)):Int)-1)) ((Nt r).2.2.1) else none else none else none :=
 Eq.trans (by kernel_rfl)
 (Et (Et rfl (C9 (Cy (decide (0+(length l)≤G0))) (C9 (Cy ((A2 r c ([]++l)&&C2 ([]++l))&&Ai ([]++l))) rfl rfl) rfl)) rfl)
end
abbrev _root_.Go.Proofs.S1.qr.By.Kn:=A4 prog 166 qr.By.spec
theorem qr.By.Ac (hk:Az prog qr.By.A9) (h:Hyp qr.By.E f166 qr.By.ts qr.By.pre qr.By.out):qr.By.Kn :=
 Al (Yi hk _ _ _ _) func166 (by kernel_rfl) (by kernel_rfl) h
def qr.Fq.A9:List (Nat × Entry):=[(124,Aa.Part.spec),(166,qr.By.spec)]
def qr.Fq.E:Env:=Ba (A8 qr.Fq.A9) (fun _=>false) (fun _=>none) (fun _=>none)
theorem qr.Fq.ev (N:Nat) (r c:Int) (l:List Int):Bw qr.Fq.E N f97 (An f97) [.agg [.int .i64 r,.int .i64 c,.ints .arg .u64 l]]=bif (Ai l) then bif ((E0 r c l) !=(0:Int)) then some (.tup [.agg [.int .i64 0,.int .i64 0,.nil],.agg [.int .i64 0,.int .i64 0,.nil],.int .i64 (E0 r c l)]) else some (.tup [.agg [.int .i64 ((Hu ((qX r c l).1) ((qX r c l).2.1) ((qX r c l).2.2.1) 0 0 r (min r c)).1),.int .i64 ((Hu ((qX r c l).1) ((qX r c l).2.1) ((qX r c l).2.2.1) 0 0 r (min r c)).2.1),.ints .fresh .u64 ((Hu ((qX r c l).1) ((qX r c l).2.1) ((qX r c l).2.2.1) 0 0 r (min r c)).2.2.1)],.agg [.int .i64 ((Hu ((rX r c l).1) ((rX r c l).2.1) ((rX r c l).2.2.1) 0 0 (min r c) c).1),.int .i64 ((Hu ((rX r c l).1) ((rX r c l).2.1) ((rX r c l).2.2.1) 0 0 (min r c) c).2.1),.ints .fresh .u64 ((Hu ((rX r c l).1) ((rX r c l).2.1) ((rX r c l).2.2.1) 0 0 (min r c) c).2.2.1)],.int .i64 0]) else none:=by kernel_rfl
abbrev _root_.Go.Proofs.S1.qr.Fq.Kn:=A4 prog 97 qr.Fq.spec
theorem qr.Fq.Ac (hk:Az prog qr.Fq.A9) (h:Hyp qr.Fq.E f97 qr.Fq.ts qr.Fq.pre qr.Fq.out):qr.Fq.Kn :=
 Al (A0 hk _ _ _) func97 (by kernel_rfl) (by kernel_rfl) h
def solve.Dv.hint:Nat→Option Be
 | 0=>some { keep:=[2,3,4,17,18],objs:=[],boxes:=[2,3,4] }
 | _=>none
def solve.Dv.A9:List (Nat × Entry):=[(86,Cs.Check.spec),(97,qr.Fq.spec),(98,qr.Fi.spec),(24,solve.Flat.spec),(36,solve.Ch.spec)]
def solve.Dv.E:Env:=Ba (A8 solve.Dv.A9) (fun _=>false) solve.Dv.hint (fun _=>none)
theorem solve.Dv.ev (N:Nat) (r c:Int) (l:List Int) (p q:Int) (m:List Int):Bw solve.Dv.E (N+4) f30 (An f30) [.agg [.int .i64 r,.int .i64 c,.ints .arg .u64 l],.agg [.int .i64 p,.int .i64 q,.ints .arg .u64 m]]=bif (Ai l) then bif ((B9 r c l) !=(0:Int)) then some (.tup [.agg [.int .i64 0,.int .i64 0,.nil],.int .i64 (B9 r c l)]) else bif (Ai m) then bif ((B9 p q m) !=(0:Int)) then some (.tup [.agg [.int .i64 0,.int .i64 0,.nil],.int .i64 (B9 p q m)]) else bif ((A6 r c)||(r !=p)) then some (.tup [.agg [.int .i64 0,.int .i64 0,.nil],.int .i64 3]) else bif (Ai l) then bif ((E0 r c l) !=(0:Int)) then some (.tup [.agg [.int .i64 0,.int .i64 0,.nil],.int .i64 (E0 r c l)]) else bif (Ai ((H8 r c l).2.2.1)) then bif ((Lz ((H8 r c l).1) ((H8 r c l).2.1) ((H8 r c l).2.2.1)).1) then some (.tup [.agg [.int .i64 0,.int .i64 0,.nil],.int .i64 5]) else bif (Ai ((D8 r c l).2.2.1)&&Ai m) then bif (((C8 ((D8 r c l).1) ((D8 r c l).2.1) ((D8 r c l).2.2.1) p q m).2.2.2) !=(0:Int)) then some (.tup [.agg [.int .i64 0,.int .i64 0,.nil],.int .i64 ((C8 ((D8 r c l).1) ((D8 r c l).2.1) ((D8 r c l).2.2.1) p q m).2.2.2)]) else bif (Ai ((H8 r c l).2.2.1)&&Ai ((C8 ((D8 r c l).1) ((D8 r c l).2.1) ((D8 r c l).2.2.1) p q m).2.2.1)) then some (.tup [.agg [.int .i64 ((Ua ((H8 r c l).1) ((H8 r c l).2.1) ((H8 r c l).2.2.1) ((C8 ((D8 r c l).1) ((D8 r c l).2.1) ((D8 r c l).2.2.1) p q m).1) ((C8 ((D8 r c l).1) ((D8 r c l).2.1) ((D8 r c l).2.2.1) p q m).2.1) ((C8 ((D8 r c l).1) ((D8 r c l).2.1) ((D8 r c l).2.2.1) p q m).2.2.1)).1),.int .i64 ((Ua ((H8 r c l).1) ((H8 r c l).2.1) ((H8 r c l).2.2.1) ((C8 ((D8 r c l).1) ((D8 r c l).2.1) ((D8 r c l).2.2.1) p q m).1) ((C8 ((D8 r c l).1) ((D8 r c l).2.1) ((D8 r c l).2.2.1) p q m).2.1) ((C8 ((D8 r c l).1) ((D8 r c l).2.1) ((D8 r c l).2.2.1) p q m).2.2.1)).2.1),.ints .fresh .u64 ((Ua ((H8 r c l).1) ((H8 r c l).2.1) ((H8 r c l).2.2.1) ((C8 ((D8 r c l).1) ((D8 r c l).2.1) ((D8 r c l).2.2.1) p q m).1) ((C8 ((D8 r c l).1) ((D8 r c l).2.1) ((D8 r c l).2.2.1) p q m).2.1) ((C8 ((D8 r c l).1) ((D8 r c l).2.1) ((D8 r c l).2.2.1) p q m).2.2.1)).2.2.1)],.int .i64 ((Ua ((H8 r c l).1) ((H8 r c l).2.1) ((H8 r c l).2.2.1) ((C8 ((D8 r c l).1) ((D8 r c l).2.1) ((D8 r c l).2.2.1) p q m).1) ((C8 ((D8 r c l).1) ((D8 r c l).2.1) ((D8 r c l).2.2.1) p q m).2.1) ((C8 ((D8 r c l).1) ((D8 r c l).2.1) ((D8 r c l).2.2.1) p q m).2.2.1)).2.2.2)]) else none else none else none else none else none else none :=
 Eq.trans (by kernel_rfl)
 (Et (Et rfl (Et (Et rfl (Ax (S8 (A6 r c)) (Ax (Qx (A6 r c)) (Ax (S8 (A6 r c)) (Ax (Qx (A6 r c)) (Ax (tt8 (A6 r c)) (Ax (X2 (A6 r c)) (C9 (tt5 (A6 r c) (r !=p)) rfl rfl)))))))) rfl)) rfl)
abbrev _root_.Go.Proofs.S1.solve.Dv.Kn:=A4 prog 30 solve.Dv.spec
theorem solve.Dv.Ac (hk:Az prog solve.Dv.A9) (h:Hyp solve.Dv.E f30 solve.Dv.ts solve.Dv.pre solve.Dv.out):solve.Dv.Kn :=
 Al (A0 hk _ _ _) func30 (by kernel_rfl) (by kernel_rfl) h
end EqQr
open EqQr
def clS (R C:Nat) (l:List Int) (j:Nat) (x:Int) (i:Nat):List Int:=Bv R C fun a b=>if b=j∧j≤a∧a<i then (if a=j then x else 0) else Eb (C:Int) l (a:Int) (b:Int)
section
variable {R C j:Nat} {l:List Int} {x:Int}
theorem Alp (i:Nat):(clS R C l j x i).length=R*C:=Cc _ _ _
theorem Wx (hl:l.length=R*C) (hj:j<C):List.set l (j*C+j) x=clS R C l j x (j+1):=by
 unfold clS
 conv=>lhs; rw [← Wq hl]
 rw [Vl hj]
 refine Ed fun a b ha hb=>?_
 by_cases h:a=j∧b=j
 ·rw [A14 h,A14 (by omega),A14 h.1]
 ·rw [A13 h,A13 (by omega)]
theorem Alo {i:Nat} (hj:j<C) (hi:j<i):List.set (clS R C l j x i) (i*C+j) 0=clS R C l j x (i+1):=by
 unfold clS
 rw [Vl hj]
 refine Ed fun a b ha hb=>?_
 by_cases h:a=i∧b=j
 ·rw [A14 h,A14 (by omega),A13 (by omega)]
 ·rw [A13 h]
  by_cases h2:b=j∧j≤a∧a<i
  ·rw [A14 h2,A14 (show b=j∧j≤a∧a<i+1 by omega)]
  ·rw [A13 h2,A13 (by omega)]
theorem Alq:clS R C l j x R=La R C l j x:=by
 unfold clS La
 refine Ed fun a b ha hb=>?_
 by_cases h:b=j∧j≤a
 ·rw [A14 h,A14 (by omega)]
 ·rw [A13 h,A13 (by omega)]
end
theorem Zt {C i j:Nat} (hi:i≤6) (hC:C≤6) (hj:j≤6):Ab (Ab ((i:Int)*(C:Int))+(j:Int))=((i*C+j:Nat):Int):=by
 have h36:=A2d hi hC
 rw [Am (x:=(i:Int)*(C:Int)) (by rw [← A12]; omega) (by rw [← A12]; omega),← A12,Am (by omega) (by omega)]
 omega
section
variable {R C:Nat}
theorem Aap (N M0:Nat) (l0:List Int) (r6:R≤6) (c6:C≤6) {j:Nat} (hj:j<C) (l:List Int) (x:Int) (v:List Int) (t:Int) (ms:List (List DV)) (hms:ms.length≤100):∀ (cnt i F:Nat),i+cnt=R→j<i→cnt<F →
 qr.down.L0 N M0 F (R:Int) (C:Int) l0 (i:Int) (clS R C l j x i) (j:Int) v t ms=qr.down.L1 N M0 (R:Int) (C:Int) l0 ((j+1:Nat):Int) (ms++[[.ints .arg .u64 v,.int .u64 t]]) (La R C l j x):=by
 intro cnt
 induction cnt with
 | zero =>
   intro i F hi hji hF
   obtain ⟨F,rfl⟩:∃ G,F=G+1:=⟨F-1,by omega⟩
   obtain rfl:i=R:=by omega
   rw [qr.down.Av,Au,A1m (by omega),A1l,A1i (by unfold Agu; omega),A1h,Am (by omega) (by omega),Alq]
   rfl
 | succ cnt ih =>
   intro i F hi hji hF
   obtain ⟨F,rfl⟩:∃ G,F=G+1:=⟨F-1,by omega⟩
   have hlen:=Alp (R:=R) (C:=C) (l:=l) (j:=j) (x:=x) i
   have hp:=K3 (show i<R by omega) hj
   rw [qr.down.Av,Au,A1i (by omega),A1h,Zt (by omega) c6 (by omega),A1i (by omega),A1i (by omega),A1n,A1h,A1j,A1i (by omega),A1h,Alo hj hji,Am (by omega) (by omega)]
   exact ih (i+1) F (by omega) (by omega) (by omega)
def Ti (r c:Nat) (ms:List (List DV)):Option (List Int × List (List Int × Int))→DV
 | none=>.tup [.agg [.int .i64 0,.int .i64 0,.nil],.nil,.int .i64 2]
 | some x=>.tup [.agg [.int .i64 (r:Int),.int .i64 (c:Int),.ints (.own 106002 tB) .u64 x.1],.recs (.own 100006 tMR) 2 (ms++Zu x.2),.int .i64 0]
theorem Anw (N:Nat) (hN:7<N) (l0:List Int) (r6:R≤6) (c6:C≤6):∀ (cnt j F:Nat) (l:List Int) (ms:List (List DV)),j+cnt=Ih R C→cnt<F→l.length=R*C→Ai l=true→ms.length=j →
 qr.down.L1 N F (R:Int) (C:Int) l0 (j:Int) ms l=some (Ti R C ms (J4 R C cnt j l)):=by
 intro cnt
 induction cnt with
 | zero =>
   intro j F l ms hj hF hl al hms
   obtain ⟨F,rfl⟩:∃ G,F=G+1:=⟨F-1,by omega⟩
   unfold Ih at hj
   have hlt:(A6 (j:Int) (C:Int)&&A6 (j:Int) (Ab ((R:Int)-1)))=false:=by
    rw [Au,Au,Am (by omega) (by omega),Bool.and_eq_false_iff,A10,A10]; omega
   rw [qr.down.B8,hlt,A1l]
   simp [J4,Ti,Zu]
 | succ cnt ih =>
   intro j F l ms hj hF hl al hms
   obtain ⟨F,rfl⟩:∃ G,F=G+1:=⟨F-1,by omega⟩
   have hj0:=hj
   unfold Ih at hj
   have hr:=Ft r6 c6 hl
   have hlt:(A6 (j:Int) (C:Int)&&A6 (j:Int) (Ab ((R:Int)-1)))=true:=by
    rw [Au,Au,Am (by omega) (by omega),A1i (by omega),A1i (by omega)]; rfl
   have cp:Hj (R:Int) (C:Int) l (j:Int)=true:=Ae.2 ⟨hr,Ar.2 (by omega)⟩
   have ec:Ct (C:Int) l (j:Int) (j:Int) (toNat ((R:Int)-(j:Int)))=Ev R C l j:=by unfold Ev; rw [show toNat ((R:Int)-(j:Int))=R-j by omega]
   have ca:Ai (Ev R C l j)=true:=Nk al
   have cl:(Ev R C l j).length=R-j:=Gk _ _ _ _ _
   rw [qr.down.B8,hlt,A1h,cp,Ar.2 (show 0≤(j:Int)∧(j:Int)≤(R:Int) by omega),A1n,A1h,ec,Jj ca (by omega),A1h]
   unfold J4
   by_cases he:(Cf (Ev R C l j)).2.2.2=0
   ·have hml:=Vb he
    have hma:=Vc ca
    have hap:H5 (R:Int) (C:Int) (j:Int) (j:Int) (Cf (Ev R C l j)).1=true:=A1i (by omega)
    have hp:=K3 (show j<R by omega) (show j<C by omega)
    have hlen:=Lk R C l (j:Int) (j:Int) (Cf (Ev R C l j)).1 (Cf (Ev R C l j)).2.1
    have hg:=Aap N F l0 r6 c6 (show j<C by omega) (E2 R C l (j:Int) (j:Int) (Cf (Ev R C l j)).1 (Cf (Ev R C l j)).2.1) (Cf (Ev R C l j)).2.2.1 (Cf (Ev R C l j)).1 (Cf (Ev R C l j)).2.1 ms (by omega) (R-(j+1)) (j+1) N (by omega) (by omega) (by omega)
    have hn:=ih (j+1) F (Wj R C l j) (ms++[[.ints .arg .u64 (Cf (Ev R C l j)).1,.int .u64 (Cf (Ev R C l j)).2.1]]) (by omega) (by omega) (Oc _ _ _ _) (Va al j) (by rw [A19,hms]; rfl)
    rw [G9 he,A1l,hr,hap,al,hma.1,hma.2.1,A1n,A1n,A1n,A1h,Zt (by omega) c6 (by omega),A1j,A1j,A1j,A1i (by omega),A1i (by omega),A1n,A1h,A1i (by omega),A1h,
     Wx hlen (by omega),Am (by omega) (by omega),A14 he]
    refine (hg.trans hn).trans ?_
    show some (Ti R C _ (J4 R C cnt (j+1) (Wj R C l j)))=some (Ti R C ms _)
    cases J4 R C cnt (j+1) (Wj R C l j) with
    | none=>rfl
    | some x=>simp [Ti,Zu]
   ·rw [Vw he,A1h,A13 he]; rfl
theorem Ajq (N:Nat) (hN:7<N) {l:List Int} (r6:R≤6) (c6:C≤6) (hl:l.length=R*C) (al:Ai l=true) (h0:Ih R C≠0) :
 qr.down.L2 N N (R:Int) (C:Int) l=some (Ti R C [] (Jg R C l)):=by
 obtain ⟨cnt,hc⟩:∃ cnt,Ih R C=cnt+1:=⟨Ih R C-1,by omega⟩
 obtain ⟨F,rfl⟩:∃ G,N=G+1:=⟨N-1,by omega⟩
 have hj:=hc
 unfold Ih at hj
 have hr:=Ft r6 c6 hl
 have hlt:(A6 (0:Int) (C:Int)&&A6 (0:Int) (Ab ((R:Int)-1)))=true:=by
  rw [Au,Au,Am (by omega) (by omega),A1i (by omega),A1i (by omega)]; rfl
 have cp:Hj (R:Int) (C:Int) l (0:Int)=true:=Ae.2 ⟨hr,Ar.2 (by omega)⟩
 have ec:Ct (C:Int) l (0:Int) (0:Int) (toNat ((R:Int)-(0:Int)))=Ev R C l 0:=by unfold Ev; rw [show toNat ((R:Int)-(0:Int))=R-0 by omega]; rfl
 have ca:Ai (Ev R C l 0)=true:=Nk al
 have cl:(Ev R C l 0).length=R-0:=Gk _ _ _ _ _
 unfold Jg
 rw [hc,qr.down.H7,hlt,A1h,cp,Ar.2 (show 0≤(0:Int)∧(0:Int)≤(R:Int) by omega),A1n,A1h,ec,Jj ca (by omega),A1h]
 unfold J4
 by_cases he:(Cf (Ev R C l 0)).2.2.2=0
 ·have hml:=Vb he
  have hma:=Vc ca
  have hap:H5 (R:Int) (C:Int) (0:Int) (0:Int) (Cf (Ev R C l 0)).1=true:=A1i (by omega)
  have hp:=K3 (show 0<R by omega) (show 0<C by omega)
  have hlen:=Lk R C l (0:Int) (0:Int) (Cf (Ev R C l 0)).1 (Cf (Ev R C l 0)).2.1
  have hg:=Aap (F+1) F l r6 c6 (show 0<C by omega) (E2 R C l (0:Int) (0:Int) (Cf (Ev R C l 0)).1 (Cf (Ev R C l 0)).2.1) (Cf (Ev R C l 0)).2.2.1 (Cf (Ev R C l 0)).1 (Cf (Ev R C l 0)).2.1 [] (Nat.zero_le _) (R-1) 1 (F+1) (by omega) (by omega) (by omega)
  have hn:=Anw (R:=R) (C:=C) (F+1) hN l r6 c6 cnt 1 F (Wj R C l 0) [[.ints .arg .u64 (Cf (Ev R C l 0)).1,.int .u64 (Cf (Ev R C l 0)).2.1]] (by omega) (by unfold Ih at hc; omega) (Oc _ _ _ _) (Va al 0) rfl
  have mc:=Zt (i:=0) (C:=C) (j:=0) (by omega) c6 (by omega)
  have mc:Ab (Ab ((0:Int)*(C:Int))+(0:Int))=((0*C+0:Nat):Int):=mc
  rw [G9 he,A1l,hr,hap,al,hma.1,hma.2.1,A1n,A1n,A1n,A1h,mc,A1j,A1j,A1j,A1i (by omega),A1i (by omega),A1n,A1h,A1i (by omega),A1h,
   Wx hlen (by omega),A14 he]
  refine (hg.trans hn).trans ?_
  show some (Ti R C _ (J4 R C cnt 1 (Wj R C l 0)))=some (Ti R C [] _)
  cases J4 R C cnt (0+1) (Wj R C l 0) with
  | none=>rfl
  | some x=>simp [Ti,Zu]
 ·rw [Vw he,A1h,A13 he]; rfl
end
theorem qr.down.known:qr.down.Kn:=qr.down.Ac (.cons Ao.Apply.known (.cons Ao.Dl.known (.cons Aa.Dx.known .nil))) fun r c l hp=>by
 obtain ⟨h1,al⟩:=Ae.1 (show ((A2 r c l&&C2 l)&&Ai l)=true from hp)
 obtain ⟨hr,hf⟩:=Ae.1 h1
 obtain ⟨R,C,rfl,rfl,r6,c6,hl⟩:=Ci hr
 by_cases h0:Ih R C=0
 ·have hx:Jg R C l=some (l,[]):=by unfold Jg; rw [h0]; rfl
  refine ⟨8,.tup [.agg [.int .i64 (R:Int),.int .i64 (C:Int),.ints .arg .u64 l],.recs (.own 100006 tMR) 2 [],.int .i64 0],[100006],?_,?_⟩
  ·unfold Ih at h0
   have hlt:(A6 (0:Int) (C:Int)&&A6 (0:Int) (Ab ((R:Int)-1)))=false:=by
    rw [Au,Au,Am (by omega) (by omega),Bool.and_eq_false_iff,A10,A10]; omega
   rw [qr.down.ev,show (8:Nat)=7+1 from rfl,qr.down.H7,hlt,A1l]
  ·show Wk _ _ (DV.tup [.agg [.int .i64 (Gj (R:Int) (C:Int) l).1,.int .i64 (Gj (R:Int) (C:Int) l).2.1,.ints .arg .u64 (Gj (R:Int) (C:Int) l).2.2.1],.recs .fresh 2 (K6 (R:Int) (C:Int) l),.int .i64 (Gj (R:Int) (C:Int) l).2.2.2])
   unfold Gj K6 Jo
   rw [A1j,A1j,hx]
   exact Wk.Ha (.cons (Wk.Hk (.cons .int (.cons .int (.cons .X0 .nil)))) (.cons (.dropR _ _ _ _ (List.mem_singleton.2 rfl)) (.cons .int .nil)))
 ·refine ⟨8,Ti R C [] (Jg R C l),[106002,100006],?_,?_⟩
  ·rw [qr.down.ev]
   exact Ajq 8 (by omega) r6 c6 hl al h0
  ·show Wk _ _ (DV.tup [.agg [.int .i64 (Gj (R:Int) (C:Int) l).1,.int .i64 (Gj (R:Int) (C:Int) l).2.1,.ints .arg .u64 (Gj (R:Int) (C:Int) l).2.2.1],.recs .fresh 2 (K6 (R:Int) (C:Int) l),.int .i64 (Gj (R:Int) (C:Int) l).2.2.2])
   unfold Gj K6 Jo
   rw [A1j,A1j]
   cases Jg R C l with
   | none=>exact Wk.Ha (.cons (Wk.Hk (.cons .int (.cons .int (.cons Ml .nil)))) (.cons (.nilR _ _) (.cons .int .nil)))
   | some x=>exact Wk.Ha (.cons (Wk.Hk (.cons .int (.cons .int (.cons (.dropA _ _ _ _ A2w) .nil)))) (.cons (.dropR _ _ _ _ (A2m _ A2w)) (.cons .int .nil)))
end Go.Proofs.S1
end
