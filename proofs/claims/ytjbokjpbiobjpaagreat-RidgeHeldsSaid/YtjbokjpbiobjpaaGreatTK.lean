/- A verified evaluator of the program's form and its use for this seat: S1POf, S1PMatA, S1EqRef10, S1PRef10, S1PFill, S1EqHouse, S1PHouse, S1PApply, S1EqSol. -/
import Derived.Test.YtjbokjpbiobjpaaGreatTI
import Derived.Test.YtjbokjpbiobjpaaGreatTJ
import Derived.Test.YtjbokjpbiobjpaaGreatTE
import Derived.Test.YtjbokjpbiobjpaaGreatTF
set_option linter.unusedVariables false
set_option linter.unusedSimpArgs false
noncomputable section
namespace Go.Proofs.S1
open Go Go.Den Go.Rnd Go.Proofs
open EqOf
theorem of.Bf.inner (N:Nat)  {A B:Nat} (hA:A≤6) (hB:B≤6) {F:Nat→Nat→Int} (hF:∀ i j:Nat,F i j=(0:Int)) {i:Nat} (hi:i<A):∀ (k j M0 M:Nat),j+k=B→k<M →
    Aa.of.Bf.L1 N M0 M (A:Int) (B:Int) (i:Int) (i:Int) (j:Int) (B5 i B F++(List.range j).map (F i))=Aa.of.Bf.L0 N M0 (A:Int) (B:Int) ((i+1:Nat):Int) (B5 (i+1) B F):=by
  intro k
  induction k with
  | zero =>
    intro j M0 M hj hM
    obtain ⟨M,rfl⟩:∃ G,M=G+1:=⟨M-1,by omega⟩
    obtain rfl:j=B:=by omega
    rw [Aa.of.Bf.B7,As,Axy (by omega),Axx,Am (by omega) (by omega),← Mk]
    rfl
  | succ k ih =>
    intro j M0 M hj hM
    obtain ⟨M,rfl⟩:∃ G,M=G+1:=⟨M-1,by omega⟩
    have d:decide ((B5 i B F++(List.range j).map (F i)).length+1≤Gp)=true:=by
      refine Axu ?_
      have:=Nat.mul_le_mul (show i≤6 by omega) hB
      rw [List.length_append,B8,List.length_map,List.length_range]; unfold Gp; omega
    rw [Aa.of.Bf.B7,As,Axu (by omega),Axt,d,Axt,Am (by omega) (by omega),← hF i j]
    have:=ih (j+1) M0 M (by omega) (by omega)
    rw [Gz,← List.append_assoc] at this
    exact this
theorem of.Bf.outer (N:Nat)  {A B:Nat} (hA:A≤6) (hB:B≤6) (hN:6<N) {F:Nat→Nat→Int} (hF:∀ i j:Nat,F i j=(0:Int)):∀ (k i M:Nat),i+k=A→k<M →
    Aa.of.Bf.L0 N M (A:Int) (B:Int) (i:Int) (B5 i B F)=some (.agg [.int .i64 (A:Int),.int .i64 (B:Int),.ints (.own 108002 tB) .u64 (B5 A B F)]):=by
  intro k
  induction k with
  | zero =>
    intro i M hi hM
    obtain ⟨M,rfl⟩:∃ G,M=G+1:=⟨M-1,by omega⟩
    obtain rfl:i=A:=by omega
    rw [Aa.of.Bf.Au,As,Axy (by omega),Axx]
  | succ k ih =>
    intro i M hi hM
    obtain ⟨M,rfl⟩:∃ G,M=G+1:=⟨M-1,by omega⟩
    have n:=of.Bf.inner N hA hB hF (show i<A by omega) B 0 M N (by omega) (by omega)
    rw [List.range_zero,List.map_nil,List.append_nil] at n
    rw [Aa.of.Bf.Au,As,Axu (by omega),Axt]
    exact n.trans (ih (i+1) M (by omega) (by omega))
theorem Aa.of.Bf.known:Aa.of.Bf.Kn:=Aa.of.Bf.Ac (.cons Aa.Ed.known .nil) fun a b hp=>by
  have h1:(Bg a&&Bg b)=true:=hp
  obtain ⟨ha,hb⟩:=Ad.1 h1
  obtain ⟨A,rfl,hA⟩:=Ek ha
  obtain ⟨B,rfl,hB⟩:=Ek hb
  refine ⟨8,.agg [.int .i64 (A:Int),.int .i64 (B:Int),.ints (.own 108002 tB) .u64 (B5 A B fun (i j:Nat)=>(0:Int))],[108002],?_,Wk.G6 (.cons .int (.cons .int (.cons (.drop _ _ _ _ (List.mem_singleton.2 rfl)) .nil)))⟩
  rw [Aa.of.Bf.ev]
  have n:=of.Bf.outer 8 hA hB (by omega) (F:=fun (i j:Nat)=>(0:Int)) (fun _ _=>rfl) A 0 8 (by omega) (by omega)
  rw [Kq] at n
  exact n
theorem of.Ew.inner (N:Nat)  {A B:Nat} (hA:A≤6) (hB:B≤6) {F:Nat→Nat→Int} (hF:∀ i j:Nat,F i j=Nc (i:Int) (j:Int)) {i:Nat} (hi:i<A):∀ (k j M0 M:Nat),j+k=B→k<M →
    Aa.of.Ew.L1 N M0 M (A:Int) (B:Int) (i:Int) (i:Int) (j:Int) (B5 i B F++(List.range j).map (F i))=Aa.of.Ew.L0 N M0 (A:Int) (B:Int) ((i+1:Nat):Int) (B5 (i+1) B F):=by
  intro k
  induction k with
  | zero =>
    intro j M0 M hj hM
    obtain ⟨M,rfl⟩:∃ G,M=G+1:=⟨M-1,by omega⟩
    obtain rfl:j=B:=by omega
    rw [Aa.of.Ew.B7,As,Axy (by omega),Axx,Am (by omega) (by omega),← Mk]
    rfl
  | succ k ih =>
    intro j M0 M hj hM
    obtain ⟨M,rfl⟩:∃ G,M=G+1:=⟨M-1,by omega⟩
    have d:decide ((B5 i B F++(List.range j).map (F i)).length+1≤Gp)=true:=by
      refine Axu ?_
      have:=Nat.mul_le_mul (show i≤6 by omega) hB
      rw [List.length_append,B8,List.length_map,List.length_range]; unfold Gp; omega
    rw [Aa.of.Ew.B7,As,Axu (by omega),Axt,d,Axt,Am (by omega) (by omega),← hF i j]
    have:=ih (j+1) M0 M (by omega) (by omega)
    rw [Gz,← List.append_assoc] at this
    exact this
theorem of.Ew.outer (N:Nat)  {A B:Nat} (hA:A≤6) (hB:B≤6) (hN:6<N) {F:Nat→Nat→Int} (hF:∀ i j:Nat,F i j=Nc (i:Int) (j:Int)):∀ (k i M:Nat),i+k=A→k<M →
    Aa.of.Ew.L0 N M (A:Int) (B:Int) (i:Int) (B5 i B F)=some (.agg [.int .i64 (A:Int),.int .i64 (B:Int),.ints (.own 108002 tB) .u64 (B5 A B F)]):=by
  intro k
  induction k with
  | zero =>
    intro i M hi hM
    obtain ⟨M,rfl⟩:∃ G,M=G+1:=⟨M-1,by omega⟩
    obtain rfl:i=A:=by omega
    rw [Aa.of.Ew.Au,As,Axy (by omega),Axx]
  | succ k ih =>
    intro i M hi hM
    obtain ⟨M,rfl⟩:∃ G,M=G+1:=⟨M-1,by omega⟩
    have n:=of.Ew.inner N hA hB hF (show i<A by omega) B 0 M N (by omega) (by omega)
    rw [List.range_zero,List.map_nil,List.append_nil] at n
    rw [Aa.of.Ew.Au,As,Axu (by omega),Axt]
    exact n.trans (ih (i+1) M (by omega) (by omega))
theorem Aa.of.Ew.known:Aa.of.Ew.Kn:=Aa.of.Ew.Ac (.cons Aa.Ie.known .nil) fun a b hp=>by
  have h1:(Bg a&&Bg b)=true:=hp
  obtain ⟨ha,hb⟩:=Ad.1 h1
  obtain ⟨A,rfl,hA⟩:=Ek ha
  obtain ⟨B,rfl,hB⟩:=Ek hb
  refine ⟨8,.agg [.int .i64 (A:Int),.int .i64 (B:Int),.ints (.own 108002 tB) .u64 (B5 A B fun (i j:Nat)=>Nc (i:Int) (j:Int))],[108002],?_,Wk.G6 (.cons .int (.cons .int (.cons (.drop _ _ _ _ (List.mem_singleton.2 rfl)) .nil)))⟩
  rw [Aa.of.Ew.ev]
  have n:=of.Ew.outer 8 hA hB (by omega) (F:=fun (i j:Nat)=>Nc (i:Int) (j:Int)) (fun _ _=>rfl) A 0 8 (by omega) (by omega)
  rw [Kq] at n
  exact n
theorem of.Cn.inner (N:Nat) (r c:Int) (l:List Int) {A B:Nat} (hA:A≤6) (hB:B≤6) {F:Nat→Nat→Int} (hF:∀ i j:Nat,F i j=D6 c l (j:Int) (i:Int)) {i:Nat} (hi:i<A) (hp:∀ j:Nat,j<B→Cw r c l (j:Int) (i:Int)=true):∀ (k j M0 M:Nat),j+k=B→k<M →
    Aa.of.Cn.L1 N M0 M (A:Int) (B:Int) r c l (i:Int) (i:Int) (j:Int) (B5 i B F++(List.range j).map (F i))=Aa.of.Cn.L0 N M0 (A:Int) (B:Int) r c l ((i+1:Nat):Int) (B5 (i+1) B F):=by
  intro k
  induction k with
  | zero =>
    intro j M0 M hj hM
    obtain ⟨M,rfl⟩:∃ G,M=G+1:=⟨M-1,by omega⟩
    obtain rfl:j=B:=by omega
    rw [Aa.of.Cn.B7,As,Axy (by omega),Axx,Am (by omega) (by omega),← Mk]
    rfl
  | succ k ih =>
    intro j M0 M hj hM
    obtain ⟨M,rfl⟩:∃ G,M=G+1:=⟨M-1,by omega⟩
    have d:decide ((B5 i B F++(List.range j).map (F i)).length+1≤Gp)=true:=by
      refine Axu ?_
      have:=Nat.mul_le_mul (show i≤6 by omega) hB
      rw [List.length_append,B8,List.length_map,List.length_range]; unfold Gp; omega
    rw [Aa.of.Cn.B7,As,Axu (by omega),Axt,hp j (by omega),Axt,d,Axt,Am (by omega) (by omega),← hF i j]
    have:=ih (j+1) M0 M (by omega) (by omega)
    rw [Gz,← List.append_assoc] at this
    exact this
theorem of.Cn.outer (N:Nat) (r c:Int) (l:List Int) {A B:Nat} (hA:A≤6) (hB:B≤6) (hN:6<N) {F:Nat→Nat→Int} (hF:∀ i j:Nat,F i j=D6 c l (j:Int) (i:Int)) (hp:∀ i j:Nat,i<A→j<B→Cw r c l (j:Int) (i:Int)=true):∀ (k i M:Nat),i+k=A→k<M →
    Aa.of.Cn.L0 N M (A:Int) (B:Int) r c l (i:Int) (B5 i B F)=some (.agg [.int .i64 (A:Int),.int .i64 (B:Int),.ints (.own 108002 tB) .u64 (B5 A B F)]):=by
  intro k
  induction k with
  | zero =>
    intro i M hi hM
    obtain ⟨M,rfl⟩:∃ G,M=G+1:=⟨M-1,by omega⟩
    obtain rfl:i=A:=by omega
    rw [Aa.of.Cn.Au,As,Axy (by omega),Axx]
  | succ k ih =>
    intro i M hi hM
    obtain ⟨M,rfl⟩:∃ G,M=G+1:=⟨M-1,by omega⟩
    have n:=of.Cn.inner N r c l hA hB hF (show i<A by omega) (fun j hj=>hp i j (by omega) hj) B 0 M N (by omega) (by omega)
    rw [List.range_zero,List.map_nil,List.append_nil] at n
    rw [Aa.of.Cn.Au,As,Axu (by omega),Axt]
    exact n.trans (ih (i+1) M (by omega) (by omega))
theorem Aa.of.Cn.known:Aa.of.Cn.Kn:=Aa.of.Cn.Ac (.cons Aa.Fv.known .nil) fun a b r c l hp=>by
  obtain ⟨h12,hy⟩:=Ad.1 (show (((Bg a&&Bg b)&&A0 r c l)&&decide (a=c∧b=r))=true from hp)
  obtain ⟨h1,hx⟩:=Ad.1 h12
  have h2:=Ad.2 ⟨hx,hy⟩
  obtain ⟨ha,hb⟩:=Ad.1 h1
  obtain ⟨A,rfl,hA⟩:=Ek ha
  obtain ⟨B,rfl,hB⟩:=Ek hb
  obtain ⟨hr,he⟩:=Ad.1 h2
  obtain ⟨e1,e2⟩:=of_decide_eq_true he
  have hp:∀ i j:Nat,i<A→j<B→Cw r c l (j:Int) (i:Int)=true:=fun i j hi hj=>Ld hr (by omega) (by omega) (by omega) (by omega) r
  refine ⟨8,.agg [.int .i64 (A:Int),.int .i64 (B:Int),.ints (.own 108002 tB) .u64 (B5 A B fun (i j:Nat)=>D6 c l (j:Int) (i:Int))],[108002],?_,Wk.G6 (.cons .int (.cons .int (.cons (.drop _ _ _ _ (List.mem_singleton.2 rfl)) .nil)))⟩
  rw [Aa.of.Cn.ev]
  have n:=of.Cn.outer 8 r c l hA hB (by omega) (F:=fun (i j:Nat)=>D6 c l (j:Int) (i:Int)) (fun _ _=>rfl) hp A 0 8 (by omega) (by omega)
  rw [Kq] at n
  exact n
theorem of.Part.inner (N:Nat) (r c:Int) (l:List Int) (x y:Int) {A B:Nat} (hA:A≤6) (hB:B≤6) {F:Nat→Nat→Int} (hF:∀ i j:Nat,F i j=D6 c l (x+(i:Int)) (y+(j:Int))) {i:Nat} (hi:i<A) (hp:∀ j:Nat,j<B→(Cw r c l (x+(i:Int)) (y+(j:Int))&&U6 x y (i:Int) (j:Int))=true):∀ (k j M0 M:Nat),j+k=B→k<M →
    Aa.of.Part.L1 N M0 M (A:Int) (B:Int) r c l x y (i:Int) (i:Int) (j:Int) (B5 i B F++(List.range j).map (F i))=Aa.of.Part.L0 N M0 (A:Int) (B:Int) r c l x y ((i+1:Nat):Int) (B5 (i+1) B F):=by
  intro k
  induction k with
  | zero =>
    intro j M0 M hj hM
    obtain ⟨M,rfl⟩:∃ G,M=G+1:=⟨M-1,by omega⟩
    obtain rfl:j=B:=by omega
    rw [Aa.of.Part.B7,As,Axy (by omega),Axx,Am (by omega) (by omega),← Mk]
    rfl
  | succ k ih =>
    intro j M0 M hj hM
    obtain ⟨M,rfl⟩:∃ G,M=G+1:=⟨M-1,by omega⟩
    have d:decide ((B5 i B F++(List.range j).map (F i)).length+1≤Gp)=true:=by
      refine Axu ?_
      have:=Nat.mul_le_mul (show i≤6 by omega) hB
      rw [List.length_append,B8,List.length_map,List.length_range]; unfold Gp; omega
    rw [Aa.of.Part.B7,As,Axu (by omega),Axt,hp j (by omega),Axt,d,Axt,Am (by omega) (by omega),← hF i j]
    have:=ih (j+1) M0 M (by omega) (by omega)
    rw [Gz,← List.append_assoc] at this
    exact this
theorem of.Part.outer (N:Nat) (r c:Int) (l:List Int) (x y:Int) {A B:Nat} (hA:A≤6) (hB:B≤6) (hN:6<N) {F:Nat→Nat→Int} (hF:∀ i j:Nat,F i j=D6 c l (x+(i:Int)) (y+(j:Int))) (hp:∀ i j:Nat,i<A→j<B→(Cw r c l (x+(i:Int)) (y+(j:Int))&&U6 x y (i:Int) (j:Int))=true):∀ (k i M:Nat),i+k=A→k<M →
    Aa.of.Part.L0 N M (A:Int) (B:Int) r c l x y (i:Int) (B5 i B F)=some (.agg [.int .i64 (A:Int),.int .i64 (B:Int),.ints (.own 108002 tB) .u64 (B5 A B F)]):=by
  intro k
  induction k with
  | zero =>
    intro i M hi hM
    obtain ⟨M,rfl⟩:∃ G,M=G+1:=⟨M-1,by omega⟩
    obtain rfl:i=A:=by omega
    rw [Aa.of.Part.Au,As,Axy (by omega),Axx]
  | succ k ih =>
    intro i M hi hM
    obtain ⟨M,rfl⟩:∃ G,M=G+1:=⟨M-1,by omega⟩
    have n:=of.Part.inner N r c l x y hA hB hF (show i<A by omega) (fun j hj=>hp i j (by omega) hj) B 0 M N (by omega) (by omega)
    rw [List.range_zero,List.map_nil,List.append_nil] at n
    rw [Aa.of.Part.Au,As,Axu (by omega),Axt]
    exact n.trans (ih (i+1) M (by omega) (by omega))
theorem Aa.of.Part.known:Aa.of.Part.Kn:=Aa.of.Part.Ac (.cons Aa.Fx.known .nil) fun a b r c l x y hp=>by
  obtain ⟨h12,hy⟩:=Ad.1 (show (((Bg a&&Bg b)&&A0 r c l)&&Hs r c x y a b)=true from hp)
  obtain ⟨h1,hx⟩:=Ad.1 h12
  have h2:=Ad.2 ⟨hx,hy⟩
  obtain ⟨ha,hb⟩:=Ad.1 h1
  obtain ⟨A,rfl,hA⟩:=Ek ha
  obtain ⟨B,rfl,hB⟩:=Ek hb
  obtain ⟨hr,he⟩:=Ad.1 h2
  have he:=of_decide_eq_true he
  have hs:=Hv.1 hr
  have hp:∀ i j:Nat,i<A→j<B→(Cw r c l (x+(i:Int)) (y+(j:Int))&&U6 x y (i:Int) (j:Int))=true:=fun i j hi hj =>
    Ad.2 ⟨Ld hr (by omega) (by omega) (by omega) (by omega) r,Ar.2 (by omega)⟩
  refine ⟨8,.agg [.int .i64 (A:Int),.int .i64 (B:Int),.ints (.own 108002 tB) .u64 (B5 A B fun (i j:Nat)=>D6 c l (x+(i:Int)) (y+(j:Int)))],[108002],?_,Wk.G6 (.cons .int (.cons .int (.cons (.drop _ _ _ _ (List.mem_singleton.2 rfl)) .nil)))⟩
  rw [Aa.of.Part.ev]
  have n:=of.Part.outer 8 r c l x y hA hB (by omega) (F:=fun (i j:Nat)=>D6 c l (x+(i:Int)) (y+(j:Int))) (fun _ _=>rfl) hp A 0 8 (by omega) (by omega)
  rw [Kq] at n
  exact n
theorem of.Stack.inner (N:Nat) (r c:Int) (l:List Int) (p q:Int) (m:List Int) {A B:Nat} (hA:A≤6) (hB:B≤6) {F:Nat→Nat→Int} (hF:∀ i j:Nat,F i j=I4 r c l q m (i:Int) (j:Int)) {i:Nat} (hi:i<A) (hp:∀ j:Nat,j<B→Mo r c l p q m (i:Int) (j:Int)=true):∀ (k j M0 M:Nat),j+k=B→k<M →
    Aa.of.Stack.L1 N M0 M (A:Int) (B:Int) r c l p q m (i:Int) (i:Int) (j:Int) (B5 i B F++(List.range j).map (F i))=Aa.of.Stack.L0 N M0 (A:Int) (B:Int) r c l p q m ((i+1:Nat):Int) (B5 (i+1) B F):=by
  intro k
  induction k with
  | zero =>
    intro j M0 M hj hM
    obtain ⟨M,rfl⟩:∃ G,M=G+1:=⟨M-1,by omega⟩
    obtain rfl:j=B:=by omega
    rw [Aa.of.Stack.B7,As,Axy (by omega),Axx,Am (by omega) (by omega),← Mk]
    rfl
  | succ k ih =>
    intro j M0 M hj hM
    obtain ⟨M,rfl⟩:∃ G,M=G+1:=⟨M-1,by omega⟩
    have d:decide ((B5 i B F++(List.range j).map (F i)).length+1≤Gp)=true:=by
      refine Axu ?_
      have:=Nat.mul_le_mul (show i≤6 by omega) hB
      rw [List.length_append,B8,List.length_map,List.length_range]; unfold Gp; omega
    rw [Aa.of.Stack.B7,As,Axu (by omega),Axt,hp j (by omega),Axt,d,Axt,Am (by omega) (by omega),← hF i j]
    have:=ih (j+1) M0 M (by omega) (by omega)
    rw [Gz,← List.append_assoc] at this
    exact this
theorem of.Stack.outer (N:Nat) (r c:Int) (l:List Int) (p q:Int) (m:List Int) {A B:Nat} (hA:A≤6) (hB:B≤6) (hN:6<N) {F:Nat→Nat→Int} (hF:∀ i j:Nat,F i j=I4 r c l q m (i:Int) (j:Int)) (hp:∀ i j:Nat,i<A→j<B→Mo r c l p q m (i:Int) (j:Int)=true):∀ (k i M:Nat),i+k=A→k<M →
    Aa.of.Stack.L0 N M (A:Int) (B:Int) r c l p q m (i:Int) (B5 i B F)=some (.agg [.int .i64 (A:Int),.int .i64 (B:Int),.ints (.own 108002 tB) .u64 (B5 A B F)]):=by
  intro k
  induction k with
  | zero =>
    intro i M hi hM
    obtain ⟨M,rfl⟩:∃ G,M=G+1:=⟨M-1,by omega⟩
    obtain rfl:i=A:=by omega
    rw [Aa.of.Stack.Au,As,Axy (by omega),Axx]
  | succ k ih =>
    intro i M hi hM
    obtain ⟨M,rfl⟩:∃ G,M=G+1:=⟨M-1,by omega⟩
    have n:=of.Stack.inner N r c l p q m hA hB hF (show i<A by omega) (fun j hj=>hp i j (by omega) hj) B 0 M N (by omega) (by omega)
    rw [List.range_zero,List.map_nil,List.append_nil] at n
    rw [Aa.of.Stack.Au,As,Axu (by omega),Axt]
    exact n.trans (ih (i+1) M (by omega) (by omega))
theorem Aa.of.Stack.known:Aa.of.Stack.Kn:=Aa.of.Stack.Ac (.cons Aa.Es.known .nil) fun a b r c l p q m hp=>by
  obtain ⟨h12,hy⟩:=Ad.1 (show (((Bg a&&Bg b)&&(A0 r c l&&A0 p q m))&&decide (a=r+p∧b=c∧q=c))=true from hp)
  obtain ⟨h1,hx⟩:=Ad.1 h12
  have h2:=Ad.2 ⟨hx,hy⟩
  obtain ⟨ha,hb⟩:=Ad.1 h1
  obtain ⟨A,rfl,hA⟩:=Ek ha
  obtain ⟨B,rfl,hB⟩:=Ek hb
  obtain ⟨h3,he⟩:=Ad.1 h2
  obtain ⟨hr,hm⟩:=Ad.1 h3
  obtain ⟨e1,e2,e3⟩:=of_decide_eq_true he
  have hs:=Hv.1 hr
  have hp:∀ i j:Nat,i<A→j<B→Mo r c l p q m (i:Int) (j:Int)=true:=fun i j hi hj=>by
    refine Ar.2 ⟨by omega,by omega,by omega,by omega,?_⟩
    by_cases h:(i:Int)<r
    · rw [if_pos h]; exact Ld hr (by omega) (by omega) (by omega) (by omega) r
    · rw [if_neg h]; exact Ld hm (by omega) (by omega) (by omega) (by omega) p
  refine ⟨8,.agg [.int .i64 (A:Int),.int .i64 (B:Int),.ints (.own 108002 tB) .u64 (B5 A B fun (i j:Nat)=>I4 r c l q m (i:Int) (j:Int))],[108002],?_,Wk.G6 (.cons .int (.cons .int (.cons (.drop _ _ _ _ (List.mem_singleton.2 rfl)) .nil)))⟩
  rw [Aa.of.Stack.ev]
  have n:=of.Stack.outer 8 r c l p q m hA hB (by omega) (F:=fun (i j:Nat)=>I4 r c l q m (i:Int) (j:Int)) (fun _ _=>rfl) hp A 0 8 (by omega) (by omega)
  rw [Kq] at n
  exact n
theorem of.Mul.inner (N:Nat) (r c:Int) (l:List Int) (p q:Int) (m:List Int) {A B:Nat} (hA:A≤6) (hB:B≤6) {F:Nat→Nat→Int} (hF:∀ i j:Nat,F i j=I9 (G8 c l (i:Int)) (Kd p q m (j:Int))) {i:Nat} (hi:i<A) (hp:∀ j:Nat,j<B→Sr r c l p q m (i:Int) (j:Int)=true):∀ (k j M0 M:Nat),j+k=B→k<M →
    Aa.of.Mul.L1 N M0 M (A:Int) (B:Int) r c l p q m (i:Int) (i:Int) (j:Int) (B5 i B F++(List.range j).map (F i))=Aa.of.Mul.L0 N M0 (A:Int) (B:Int) r c l p q m ((i+1:Nat):Int) (B5 (i+1) B F):=by
  intro k
  induction k with
  | zero =>
    intro j M0 M hj hM
    obtain ⟨M,rfl⟩:∃ G,M=G+1:=⟨M-1,by omega⟩
    obtain rfl:j=B:=by omega
    rw [Aa.of.Mul.B7,As,Axy (by omega),Axx,Am (by omega) (by omega),← Mk]
    rfl
  | succ k ih =>
    intro j M0 M hj hM
    obtain ⟨M,rfl⟩:∃ G,M=G+1:=⟨M-1,by omega⟩
    have d:decide ((B5 i B F++(List.range j).map (F i)).length+1≤Gp)=true:=by
      refine Axu ?_
      have:=Nat.mul_le_mul (show i≤6 by omega) hB
      rw [List.length_append,B8,List.length_map,List.length_range]; unfold Gp; omega
    rw [Aa.of.Mul.B7,As,Axu (by omega),Axt,hp j (by omega),Axt,d,Axt,Am (by omega) (by omega),← hF i j]
    have:=ih (j+1) M0 M (by omega) (by omega)
    rw [Gz,← List.append_assoc] at this
    exact this
theorem of.Mul.outer (N:Nat) (r c:Int) (l:List Int) (p q:Int) (m:List Int) {A B:Nat} (hA:A≤6) (hB:B≤6) (hN:6<N) {F:Nat→Nat→Int} (hF:∀ i j:Nat,F i j=I9 (G8 c l (i:Int)) (Kd p q m (j:Int))) (hp:∀ i j:Nat,i<A→j<B→Sr r c l p q m (i:Int) (j:Int)=true):∀ (k i M:Nat),i+k=A→k<M →
    Aa.of.Mul.L0 N M (A:Int) (B:Int) r c l p q m (i:Int) (B5 i B F)=some (.agg [.int .i64 (A:Int),.int .i64 (B:Int),.ints (.own 108002 tB) .u64 (B5 A B F)]):=by
  intro k
  induction k with
  | zero =>
    intro i M hi hM
    obtain ⟨M,rfl⟩:∃ G,M=G+1:=⟨M-1,by omega⟩
    obtain rfl:i=A:=by omega
    rw [Aa.of.Mul.Au,As,Axy (by omega),Axx]
  | succ k ih =>
    intro i M hi hM
    obtain ⟨M,rfl⟩:∃ G,M=G+1:=⟨M-1,by omega⟩
    have n:=of.Mul.inner N r c l p q m hA hB hF (show i<A by omega) (fun j hj=>hp i j (by omega) hj) B 0 M N (by omega) (by omega)
    rw [List.range_zero,List.map_nil,List.append_nil] at n
    rw [Aa.of.Mul.Au,As,Axu (by omega),Axt]
    exact n.trans (ih (i+1) M (by omega) (by omega))
theorem Aa.of.Mul.known:Aa.of.Mul.Kn:=Aa.of.Mul.Ac (.cons Aa.H9.known .nil) fun a b r c l p q m hp=>by
  obtain ⟨h12,hy⟩:=Ad.1 (show (((Bg a&&Bg b)&&((A0 r c l&&A0 p q m)&&(Ai l&&Ai m)))&&decide (a=r∧b=q∧c=p))=true from hp)
  obtain ⟨h1,hx⟩:=Ad.1 h12
  have h2:=Ad.2 ⟨hx,hy⟩
  obtain ⟨ha,hb⟩:=Ad.1 h1
  obtain ⟨A,rfl,hA⟩:=Ek ha
  obtain ⟨B,rfl,hB⟩:=Ek hb
  obtain ⟨h3,he⟩:=Ad.1 h2
  obtain ⟨h4,h5⟩:=Ad.1 h3
  obtain ⟨hr,hm⟩:=Ad.1 h4
  obtain ⟨e1,e2,e3⟩:=of_decide_eq_true he
  have hp:∀ i j:Nat,i<A→j<B→Sr r c l p q m (i:Int) (j:Int)=true:=fun i j hi hj =>
    Ad.2 ⟨Ad.2 ⟨Ad.2 ⟨hr,Ar.2 (by omega)⟩,Ad.2 ⟨hm,Ar.2 (by omega)⟩⟩,Ad.2 ⟨h5,Ar.2 e3⟩⟩
  refine ⟨8,.agg [.int .i64 (A:Int),.int .i64 (B:Int),.ints (.own 108002 tB) .u64 (B5 A B fun (i j:Nat)=>I9 (G8 c l (i:Int)) (Kd p q m (j:Int)))],[108002],?_,Wk.G6 (.cons .int (.cons .int (.cons (.drop _ _ _ _ (List.mem_singleton.2 rfl)) .nil)))⟩
  rw [Aa.of.Mul.ev]
  have n:=of.Mul.outer 8 r c l p q m hA hB (by omega) (F:=fun (i j:Nat)=>I9 (G8 c l (i:Int)) (Kd p q m (j:Int))) (fun _ _=>rfl) hp A 0 8 (by omega) (by omega)
  rw [Kq] at n
  exact n
open EqOf
def So (x:MX):DV:=.tup [.agg [.int .i64 x.1,.int .i64 x.2.1,.ints .fresh .u64 x.2.2.1],.int .i64 x.2.2.2]
def Akf (e:Int):DV:=.tup [.agg [.int .i64 0,.int .i64 0,.nil],.int .i64 e]
theorem Nt {drops:List Nat} {x:MX}:Wk drops (So x) (So x) :=
  Wk.Gw (.cons (Wk.G6 (.cons .int (.cons .int (.cons .Ny .nil)))) (.cons .int .nil))
theorem Jt {drops:List Nat} {e:Int}:Wk drops (Akf e) (So (Ke e)) :=
  Wk.Gw (.cons (Wk.G6 (.cons .int (.cons .int (.cons (.nil _ _) .nil)))) (.cons .int .nil))
theorem Aa.Bf.known:Aa.Bf.Kn:=Aa.Bf.Ac (.cons Aa.of.Bf.known (.cons Aa.size.known .nil)) fun a b _=>by
  show ∃ N dv drops,_=some dv∧Wk drops dv (So (Cx a b))
  unfold Cx
  by_cases h:(Bg a&&Bg b)=true
  · obtain ⟨h1,h2⟩:=Ad.1 h
    rw [if_pos h]
    exact ⟨0,_,[],by rw [Aa.Bf.ev,h1,h2]; rfl,Nt⟩
  · have e:((!(Bg a))||(!(Bg b)))=true:=by
      cases h1:Bg a<;>cases h2:Bg b<;>simp_all
    rw [if_neg h]
    exact ⟨0,_,[],by rw [Aa.Bf.ev,e]; rfl,Jt⟩
theorem Aa.Ew.known:Aa.Ew.Kn:=Aa.Ew.Ac (.cons Aa.of.Ew.known (.cons Aa.size.known .nil)) fun n _=>by
  show ∃ N dv drops,_=some dv∧Wk drops dv (So (Mw n))
  unfold Mw
  by_cases h:Bg n=true
  · rw [if_pos h]
    exact ⟨0,_,[],by rw [Aa.Ew.ev,h]; rfl,Nt⟩
  · have e:Bg n=false:=by simpa using h
    rw [if_neg h]
    exact ⟨0,_,[],by rw [Aa.Ew.ev,e]; rfl,Jt⟩
theorem Il {r c:Int} {l:List Int} (h:A0 r c l=true):Bg r=true∧Bg c=true:=by
  obtain ⟨h1,h2,_⟩:=Hv.1 h
  exact ⟨Ij.2 h1,Ij.2 h2⟩
theorem Aa.Cn.known:Aa.Cn.Kn:=Aa.Cn.Ac (.cons Aa.Check.known (.cons Aa.of.Cn.known .nil)) fun r c l _=>by
  show ∃ N dv drops,_=some dv∧Wk drops dv (So (Fm r c l))
  unfold Fm
  by_cases h:A0 r c l=true
  · obtain ⟨h1,h2⟩:=Il h
    rw [if_pos h]
    exact ⟨0,_,[],by rw [Aa.Cn.ev,S5,h,h1,h2,Axu ⟨rfl,rfl⟩]; rfl,Nt⟩
  · have e:A0 r c l=false:=by simpa using h
    have ec:Ks r c l=1:=by unfold Ks; rw [e]; rfl
    rw [if_neg h]
    exact ⟨0,_,[],by rw [Aa.Cn.ev,S5,e,ec]; rfl,Jt⟩
theorem Aaq {r c x y a b:Int} (hr:0≤r∧r≤6) (hc:0≤c∧c≤6) :
    ((((((((A4 x (0:Int))||(A4 y (0:Int)))||(A4 a (0:Int)))||(A4 b (0:Int)))||(A4 r x))||(A4 c y))||(A4 (Ab (r-x)) a))||(A4 (Ab (c-y)) b))=!(Hs r c x y a b):=by
  unfold Hs
  simp only [As]
  by_cases h:0≤x∧0≤y∧x≤r∧y≤c
  · rw [Am (x:=r-x) (by omega) (by omega),Am (x:=c-y) (by omega) (by omega),Ax9]
    simp only [Bool.or_eq_true,Ax0,Bool.not_eq_true',Ayc]
    omega
  · have e:decide (0≤x∧0≤y∧0≤a∧0≤b∧x≤r∧y≤c∧a≤r-x∧b≤c-y)=false:=Axy (by omega)
    rw [e,Ax9]
    simp only [Bool.or_eq_true,Ax0,Bool.not_false,iff_true]
    omega
theorem X7 {r c x y a b:Int} {l:List Int} (h:A0 r c l=true) (hp:Hs r c x y a b=true):Bg a=true∧Bg b=true:=by
  obtain ⟨h1,h2,_⟩:=Hv.1 h
  have:=of_decide_eq_true hp
  exact ⟨Ij.2 (by omega),Ij.2 (by omega)⟩
theorem Aa.Part.known:Aa.Part.Kn:=Aa.Part.Ac (.cons Aa.Check.known (.cons Aa.of.Part.known .nil)) fun r c l x y a b _=>by
  show ∃ N dv drops,_=some dv∧Wk drops dv (So (Im r c l x y a b))
  unfold Im
  by_cases h:A0 r c l=true
  · obtain ⟨h1,h2,_⟩:=Hv.1 h
    by_cases hp:Hs r c x y a b=true
    · obtain ⟨s1,s2⟩:=X7 h hp
      rw [if_pos h,if_pos hp]
      exact ⟨0,_,[],by rw [Aa.Part.ev,S5,Aaq h1 h2,h,hp,s1,s2]; rfl,Nt⟩
    · have e:Hs r c x y a b=false:=by simpa using hp
      rw [if_pos h,if_neg hp]
      exact ⟨0,_,[],by rw [Aa.Part.ev,S5,Aaq h1 h2,h,e]; rfl,Jt⟩
  · have e:A0 r c l=false:=by simpa using h
    have ec:Ks r c l=1:=by unfold Ks; rw [e]; rfl
    rw [if_neg h]
    exact ⟨0,_,[],by rw [Aa.Part.ev,S5,e,ec]; rfl,Jt⟩
theorem U1 (r c:Int) (l:List Int) (p q:Int) (m:List Int):((Xh r c l p q m) !=(0:Int))=!(A0 r c l&&A0 p q m):=by
  unfold Xh
  cases A0 r c l&&A0 p q m<;>rfl
theorem Al4 {r c:Int} {l:List Int} {p q:Int} {m:List Int} (h:(A0 r c l&&A0 p q m)=false):Xh r c l p q m=1:=by
  unfold Xh; rw [h]; rfl
theorem Aa.Mul.known:Aa.Mul.Kn:=Aa.Mul.Ac (.cons Aa.of.Mul.known (.cons Aa.two.known .nil)) fun r c l p q m hp=>by
  show ∃ N dv drops,_=some dv∧Wk drops dv (So (R3 r c l p q m))
  unfold R3
  have hp:(Ai l&&Ai m)=true:=hp
  by_cases h:(A0 r c l&&A0 p q m)=true
  · obtain ⟨h1,h2⟩:=Ad.1 h
    by_cases hc:c=p
    · have e:(c !=p)=false:=by rw [hc]; simp
      rw [if_pos h,if_pos hc]
      exact ⟨0,_,[],by rw [Aa.Mul.ev,U1,h,e,(Il h1).1,(Il h2).2,hp,Axu ⟨rfl,rfl,hc⟩]; rfl,Nt⟩
    · have e:(c !=p)=true:=by simpa using hc
      rw [if_pos h,if_neg hc]
      exact ⟨0,_,[],by rw [Aa.Mul.ev,U1,h,e]; rfl,Jt⟩
  · have e:(A0 r c l&&A0 p q m)=false:=by simpa using h
    rw [if_neg h]
    exact ⟨0,_,[],by rw [Aa.Mul.ev,U1,e,Al4 e]; rfl,Jt⟩
theorem Aa.Stack.known:Aa.Stack.Kn:=Aa.Stack.Ac (.cons Aa.of.Stack.known (.cons Aa.two.known .nil)) fun r c l p q m _=>by
  show ∃ N dv drops,_=some dv∧Wk drops dv (So (Dw r c l p q m))
  unfold Dw
  by_cases h:(A0 r c l&&A0 p q m)=true
  · obtain ⟨h1,h2⟩:=Ad.1 h
    obtain ⟨r1,c1,_⟩:=Hv.1 h1
    obtain ⟨p1,q1,_⟩:=Hv.1 h2
    have ew:Ab (r+p)=r+p:=Am (by omega) (by omega)
    by_cases hc:c=q∧r+p≤6
    · have e:((c !=q)||(A4 (6:Int) (r+p)))=false:=by rw [As,hc.1]; simp; omega
      rw [if_pos h,if_pos hc]
      exact ⟨0,_,[],by rw [Aa.Stack.ev,ew,U1,h,e,(Il h1).2,Ij.2 (show 0≤r+p∧r+p≤6 by omega),Axu ⟨rfl,rfl,hc.1.symm⟩]; rfl,Nt⟩
    · have e:((c !=q)||(A4 (6:Int) (r+p)))=true:=by rw [As]; simp; omega
      rw [if_pos h,if_neg hc]
      exact ⟨0,_,[],by rw [Aa.Stack.ev,ew,U1,h,e]; rfl,Jt⟩
  · have e:(A0 r c l&&A0 p q m)=false:=by simpa using h
    rw [if_neg h]
    exact ⟨0,_,[],by rw [Aa.Stack.ev,U1,e,Al4 e]; rfl,Jt⟩
set_option maxRecDepth 100000
namespace EqRef10
def Aj.H8.A6:List (Nat × Entry):=[]
def Aj.H8.E:Env:=A9 (A5 Aj.H8.A6) (fun _=>false) (fun _=>none) (fun _=>none)
theorem Aj.H8.ev (N:Nat) (r c:Int) (l:List Int):Bp Aj.H8.E N Tryz.f91 (An Tryz.f91) [.agg [.int .i64 r,.int .i64 c,.ints .arg .u64 l]]=some (.bool (bif (bif (bif (bif (Ee 0 r) then (Ee r 6) else false) then (Ee 0 c) else false) then (Ee c 6) else false) then ((List.length l:Int)==(Ab (r*c))) else false)) :=
  Eq.trans (by kernel_rfl)
  (Aw (O1 (Ee 0 r)) (Aw (Lv (Ee 0 r)) (Aw (Lv (Ee 0 r)) (Aw (Ti (Ee 0 r)) (Aw (Al7 (Ee 0 r) (Ee r 6)) (Aw (Age (Ee 0 r) (Ee r 6)) (Aw (Age (Ee 0 r) (Ee r 6)) (Aw (Apo (Ee 0 r) (Ee r 6)) (Aw (Awq (Ee 0 r) (Ee r 6) (Ee 0 c)) (Aw (Aup (Ee 0 r) (Ee r 6) (Ee 0 c)) (Aw (Aup (Ee 0 r) (Ee r 6) (Ee 0 c)) (Aw (Awr (Ee 0 r) (Ee r 6) (Ee 0 c)) (Aw (Ash (Ee 0 r) (Ee r 6) (Ee 0 c) (Ee c 6)) (Aw (Apq (Ee 0 r) (Ee r 6) (Ee 0 c) (Ee c 6)) (Aw (Apq (Ee 0 r) (Ee r 6) (Ee 0 c) (Ee c 6)) (Aw (Ash (Ee 0 r) (Ee r 6) (Ee 0 c) (Ee c 6)) (Aw (Apq (Ee 0 r) (Ee r 6) (Ee 0 c) (Ee c 6)) (Aw (Ash (Ee 0 r) (Ee r 6) (Ee 0 c) (Ee c 6)) (Aw (Apq (Ee 0 r) (Ee r 6) (Ee 0 c) (Ee c 6)) (Aw (Auq (Ee 0 r) (Ee r 6) (Ee 0 c) (Ee c 6)) (Aw (Auq (Ee 0 r) (Ee r 6) (Ee 0 c) (Ee c 6)) (Aw (Aws (Ee 0 r) (Ee r 6) (Ee 0 c) (Ee c 6)) rfl))))))))))))))))))))))
abbrev _root_.Go.Proofs.S1.Aj.H8.Kn:=A3 Tryz.prog 91 Aj.H8.spec
theorem Aj.H8.Ac (hk:Ax Tryz.prog Aj.H8.A6) (h:∀ (r c:Int) (l:List Int),Aj.H8.pre [.i r,.i c,.l l]=true→A8 Aj.H8.E Tryz.f91 [.agg [.int .i64 r,.int .i64 c,.ints .arg .u64 l]] (Aj.H8.out [.i r,.i c,.l l])):Aj.H8.Kn :=
  Ak (Az hk _ _ _) Tryz.func91 (by kernel_rfl) (by kernel_rfl) h
def Aj.At.A6:List (Nat × Entry):=[]
def Aj.At.E:Env:=A9 (A5 Aj.At.A6) (fun _=>false) (fun _=>none) (fun _=>none)
theorem Aj.At.ev (N:Nat) (r c:Int) (l:List Int) (i k:Int):Bp Aj.At.E N Tryz.f80 (An Tryz.f80) [.agg [.int .i64 r,.int .i64 c,.ints .arg .u64 l],.int .i64 i,.int .i64 k]=bif ((decide (0≤(Ab ((Ab (i*c))+k))))&&(decide ((Ab ((Ab (i*c))+k))<(List.length l:Int)))) then some (.int .u64 (List.getD l (Int.toNat (Ab ((Ab (i*c))+k))) 0)) else none:=by kernel_rfl
abbrev _root_.Go.Proofs.S1.Aj.At.Kn:=A3 Tryz.prog 80 Aj.At.spec
theorem Aj.At.Ac (hk:Ax Tryz.prog Aj.At.A6) (h:∀ (r c:Int) (l:List Int) (i k:Int),Aj.At.pre [.i r,.i c,.l l,.i i,.i k]=true→A8 Aj.At.E Tryz.f80 [.agg [.int .i64 r,.int .i64 c,.ints .arg .u64 l],.int .i64 i,.int .i64 k] (Aj.At.out [.i r,.i c,.l l,.i i,.i k])):Aj.At.Kn :=
  Ak (Az hk _ _ _) Tryz.func80 (by kernel_rfl) (by kernel_rfl) h
def Aj.Bf.A6:List (Nat × Entry):=[]
def Aj.Bf.E:Env:=A9 (A5 Aj.Bf.A6) (fun _=>false) (fun _=>none) (fun _=>none)
theorem Aj.Bf.ev (N:Nat) (a b:Int):Bp Aj.Bf.E N Tryz.f35 (An Tryz.f35) [.int .i64 a,.int .i64 b]=bif (((decide ((0:Int)≤(Ab (a*b))))&&(decide ((Ab (a*b))≤(Ab (a*b)))))&&(decide ((Ab (a*b))≤Gp))) then some (.agg [.int .i64 a,.int .i64 b,.ints (.own 10 37) .u64 (List.replicate (Int.toNat (Ab (a*b))) 0)]) else none:=by kernel_rfl
abbrev _root_.Go.Proofs.S1.Aj.Bf.Kn:=A3 Tryz.prog 35 Aj.Bf.spec
theorem Aj.Bf.Ac (hk:Ax Tryz.prog Aj.Bf.A6) (h:∀ (a b:Int),Aj.Bf.pre [.i a,.i b]=true→A8 Aj.Bf.E Tryz.f35 [.int .i64 a,.int .i64 b] (Aj.Bf.out [.i a,.i b])):Aj.Bf.Kn :=
  Ak (Az hk _ _ _) Tryz.func35 (by kernel_rfl) (by kernel_rfl) h
def Aj.F8.A6:List (Nat × Entry):=[]
def Aj.F8.E:Env:=A9 (A5 Aj.F8.A6) (fun _=>false) (fun _=>none) (fun _=>none)
theorem Aj.F8.ev (N:Nat) (r c:Int) (l:List Int) (i k b:Int):Bp Aj.F8.E N Tryz.f83 (An Tryz.f83) [.agg [.int .i64 r,.int .i64 c,.ints .arg .u64 l],.int .i64 i,.int .i64 k,.int .u64 b]=bif (decide (0+(List.length l)≤Gp)) then bif ((decide (0≤(Ab ((Ab (i*c))+k))))&&(decide ((Ab ((Ab (i*c))+k))<(List.length ([]++l):Int)))) then bif (decide ((Int.toNat (Ab ((Ab (i*c))+k)))<(List.length ([]++l)))) then some (.agg [.int .i64 r,.int .i64 c,.ints (.own 13 37) .u64 (List.set ([]++l) (Int.toNat (Ab ((Ab (i*c))+k))) b)]) else none else none else none:=by kernel_rfl
abbrev _root_.Go.Proofs.S1.Aj.F8.Kn:=A3 Tryz.prog 83 Aj.F8.spec
theorem Aj.F8.Ac (hk:Ax Tryz.prog Aj.F8.A6) (h:∀ (r c:Int) (l:List Int) (i k b:Int),Aj.F8.pre [.i r,.i c,.l l,.i i,.i k,.i b]=true→A8 Aj.F8.E Tryz.f83 [.agg [.int .i64 r,.int .i64 c,.ints .arg .u64 l],.int .i64 i,.int .i64 k,.int .u64 b] (Aj.F8.out [.i r,.i c,.l l,.i i,.i k,.i b])):Aj.F8.Kn :=
  Ak (Az hk _ _ _) Tryz.func83 (by kernel_rfl) (by kernel_rfl) h
def Aj.Ew.hint:Nat→Option Ba
  | 0=>some { keep:=[0,2,3,4],objs:=[],boxes:=[2,3] }
  | _=>none
def Aj.Ew.A6:List (Nat × Entry):=[(83,Aj.F8.spec),(35,Aj.Bf.spec)]
def Aj.Ew.E:Env:=A9 (A5 Aj.Ew.A6) (fun _=>false) Aj.Ew.hint (fun _=>none)
def Aj.Ew.L0 (N M:Nat) (n p4:Int) (p3:List Int):Option DV:=Bz Aj.Ew.E N Tryz.f33 (An Tryz.f33) [1,1,0,1,0] [] M ⟨Gl 18 [(0,.int .i64 n),(2,.ptr 2 0 0),(3,.ptr 3 0 0),(4,.int .i64 p4)],[(2,false,.box [.int .i64 0,.int .i64 0,.nil]),(3,false,.box [.int .i64 n,.int .i64 n,.ints .fresh .u64 p3])]⟩
theorem Aj.Ew.Au (N M:Nat) (n p4:Int) (p3:List Int):Aj.Ew.L0 N (M+1) n p4 p3=bif (A4 p4 n) then bif (Cw n n p3 p4 p4) then Aj.Ew.L0 N M n (Ab (p4+1)) (List.set p3 (Int.toNat (p4*n+p4)) 4607182418800017408) else none else some (.agg [.int .i64 n,.int .i64 n,.ints .fresh .u64 p3]):=by kernel_rfl
theorem Aj.Ew.ev (N:Nat) (n:Int):Bp Aj.Ew.E N Tryz.f33 (An Tryz.f33) [.int .i64 n]=bif (Bg n&&Bg n) then Aj.Ew.L0 N N n 0 (B5 (Int.toNat n) (Int.toNat n) (fun _ _=>0)) else none:=by kernel_rfl
abbrev _root_.Go.Proofs.S1.Aj.Ew.Kn:=A3 Tryz.prog 33 Aj.Ew.spec
theorem Aj.Ew.Ac (hk:Ax Tryz.prog Aj.Ew.A6) (h:∀ (n:Int),Aj.Ew.pre [.i n]=true→A8 Aj.Ew.E Tryz.f33 [.int .i64 n] (Aj.Ew.out [.i n])):Aj.Ew.Kn :=
  Ak (Az hk _ _ _) Tryz.func33 (by kernel_rfl) (by kernel_rfl) h
def Aj.Ev.A6:List (Nat × Entry):=[(99,Ag.Ev.spec)]
def Aj.Ev.E:Env:=A9 (A5 Aj.Ev.A6) (fun _=>false) (fun _=>none) (fun _=>none)
theorem Aj.Ev.ev (N:Nat) (r c:Int) (l:List Int) (p q:Int) (m:List Int):Bp Aj.Ev.E N Tryz.f31 (An Tryz.f31) [.agg [.int .i64 r,.int .i64 c,.ints .arg .u64 l],.agg [.int .i64 p,.int .i64 q,.ints .arg .u64 m]]=bif ((!((r==p)&&(c==q)))||(Mt l)) then some (.bool (bif (bif (r==p) then (c==q) else false) then (Tu l m) else false)) else none :=
  Eq.trans (by kernel_rfl)
  (Aw (O1 (r==p)) (Aw (Lv (r==p)) (Aw (O1 (r==p)) (Aw (Lv (r==p)) (Aw (Abu (r==p)) (Aw (Ti (r==p)) (Aw (Al7 (r==p) (c==q)) (Aw (Age (r==p) (c==q)) (Aw (Al7 (r==p) (c==q)) (Aw (Age (r==p) (c==q)) (C2 (Awp (r==p) (c==q) (Mt l)) (Aw (Apo (r==p) (c==q)) rfl) rfl)))))))))))
abbrev _root_.Go.Proofs.S1.Aj.Ev.Kn:=A3 Tryz.prog 31 Aj.Ev.spec
theorem Aj.Ev.Ac (hk:Ax Tryz.prog Aj.Ev.A6) (h:∀ (r c:Int) (l:List Int) (p q:Int) (m:List Int),Aj.Ev.pre [.i r,.i c,.l l,.i p,.i q,.l m]=true→A8 Aj.Ev.E Tryz.f31 [.agg [.int .i64 r,.int .i64 c,.ints .arg .u64 l],.agg [.int .i64 p,.int .i64 q,.ints .arg .u64 m]] (Aj.Ev.out [.i r,.i c,.l l,.i p,.i q,.l m])):Aj.Ev.Kn :=
  Ak (Az hk _ _ _) Tryz.func31 (by kernel_rfl) (by kernel_rfl) h
def Aj.Row.A6:List (Nat × Entry):=[]
def Aj.Row.E:Env:=A9 (A5 Aj.Row.A6) (fun _=>false) (fun _=>none) (fun _=>none)
theorem Aj.Row.ev (N:Nat) (r c:Int) (l:List Int) (i:Int):Bp Aj.Row.E N Tryz.f107 (An Tryz.f107) [.agg [.int .i64 r,.int .i64 c,.ints .arg .u64 l],.int .i64 i]=bif (((decide ((0:Int)≤(Ab (i*c))))&&(decide ((Ab (i*c))≤(Ab ((Ab (i+1))*c)))))&&((decide ((0:Int)≤(Ab ((Ab (i+1))*c))))&&(decide ((Ab ((Ab (i+1))*c))≤(List.length l:Int))))) then some (.ints .arg .u64 (List.drop (Int.toNat (Ab (i*c))) (List.take (Int.toNat (Ab ((Ab (i+1))*c))) l))) else none :=
  Eq.trans (by kernel_rfl)
  (C2 (Aux (decide ((0:Int)≤(Ab (i*c)))) (decide ((Ab (i*c))≤(Ab ((Ab (i+1))*c)))) (decide ((0:Int)≤(Ab ((Ab (i+1))*c)))) (decide ((Ab ((Ab (i+1))*c))≤(List.length l:Int)))) rfl rfl)
abbrev _root_.Go.Proofs.S1.Aj.Row.Kn:=A3 Tryz.prog 107 Aj.Row.spec
theorem Aj.Row.Ac (hk:Ax Tryz.prog Aj.Row.A6) (h:∀ (r c:Int) (l:List Int) (i:Int),Aj.Row.pre [.i r,.i c,.l l,.i i]=true→A8 Aj.Row.E Tryz.f107 [.agg [.int .i64 r,.int .i64 c,.ints .arg .u64 l],.int .i64 i] (Aj.Row.out [.i r,.i c,.l l,.i i])):Aj.Row.Kn :=
  Ak (Az hk _ _ _) Tryz.func107 (by kernel_rfl) (by kernel_rfl) h
def Aj.Pz.hint:Nat→Option Ba
  | 0=>some { keep:=[1,3,7,8],objs:=[(0,7,100007,.ints 37 .u64 [])],boxes:=[3] }
  | _=>none
def Aj.Pz.A6:List (Nat × Entry):=[(80,Aj.At.spec)]
def Aj.Pz.E:Env:=A9 (A5 Aj.Pz.A6) (fun _=>false) Aj.Pz.hint (fun _=>none)
def Aj.Pz.L0 (N M:Nat) (r c:Int) (l:List Int) (k p8:Int) (p7:List Int):Option DV:=Bz Aj.Pz.E N Tryz.f108 (An Tryz.f108) [1,1,0,1,0] [] M ⟨Gl 25 [(1,.int .i64 k),(3,.ptr 3 0 0),(7,.oref 100007),(8,.int .i64 p8)],[(3,false,.box [.int .i64 r,.int .i64 c,.ints .arg .u64 l]),(100007,false,.ints 37 .u64 p7)]⟩
theorem Aj.Pz.Au (N M:Nat) (r c:Int) (l:List Int) (k p8:Int) (p7:List Int):Aj.Pz.L0 N (M+1) r c l k p8 p7=bif (A4 p8 r) then bif (Cw r c l p8 k) then bif (decide ((List.length p7)+1≤Gp)) then Aj.Pz.L0 N M r c l k (Ab (p8+1)) (p7++[(D6 c l p8 k)]) else none else none else some (.ints (.own 100007 37) .u64 p7):=by kernel_rfl
theorem Aj.Pz.ev (N:Nat) (r c:Int) (l:List Int) (k f:Int):Bp Aj.Pz.E N Tryz.f108 (An Tryz.f108) [.agg [.int .i64 r,.int .i64 c,.ints .arg .u64 l],.int .i64 k,.int .i64 f] =
  Aj.Pz.L0 N N r c l k f []:=by kernel_rfl
abbrev _root_.Go.Proofs.S1.Aj.Pz.Kn:=A3 Tryz.prog 108 Aj.Pz.spec
theorem Aj.Pz.Ac (hk:Ax Tryz.prog Aj.Pz.A6) (h:∀ (r c:Int) (l:List Int) (k f:Int),Aj.Pz.pre [.i r,.i c,.l l,.i k,.i f]=true→A8 Aj.Pz.E Tryz.f108 [.agg [.int .i64 r,.int .i64 c,.ints .arg .u64 l],.int .i64 k,.int .i64 f] (Aj.Pz.out [.i r,.i c,.l l,.i k,.i f])):Aj.Pz.Kn :=
  Ak (Az hk _ _ _) Tryz.func108 (by kernel_rfl) (by kernel_rfl) h
def Aj.Mul.hint:Nat→Option Ba
  | 0=>some { keep:=[2,3,4,5,6],objs:=[],boxes:=[2,3,4,5] }
  | 2=>some { keep:=[2,3,4,5,6,7],objs:=[],boxes:=[2,3,4,5] }
  | _=>none
def Aj.Mul.A6:List (Nat × Entry):=[(118,Ag.Hz.spec),(108,Aj.Pz.spec),(107,Aj.Row.spec),(83,Aj.F8.spec),(35,Aj.Bf.spec)]
def Aj.Mul.E:Env:=A9 (A5 Aj.Mul.A6) (fun _=>false) Aj.Mul.hint (fun _=>none)
def Aj.Mul.L0 (N M:Nat) (r c:Int) (l:List Int) (p q:Int) (m:List Int) (p6:Int) (p5_1:List Int):Option DV:=Bz Aj.Mul.E N Tryz.f45 (An Tryz.f45) [1,1,0,1,0] [] M ⟨Gl 37 [(2,.ptr 2 0 0),(3,.ptr 3 0 0),(4,.ptr 4 0 0),(5,.ptr 5 0 0),(6,.int .i64 p6)],[(2,false,.box [.int .i64 r,.int .i64 c,.ints .arg .u64 l]),(3,false,.box [.int .i64 p,.int .i64 q,.ints .arg .u64 m]),(4,false,.box [.int .i64 0,.int .i64 0,.nil]),(5,false,.box [.int .i64 r,.int .i64 q,.ints .fresh .u64 p5_1])]⟩
def Aj.Mul.L1 (N M0 M:Nat) (r c:Int) (l:List Int) (p q:Int) (m:List Int) (p7:Int) (p5:List Int) (p6_1:Int):Option DV:=Bz Aj.Mul.E N Tryz.f45 (An Tryz.f45) [1,1,0,1,0,0,1,0,0,1,0] [M0] M ⟨Gl 37 [(2,.ptr 2 0 0),(3,.ptr 3 0 0),(4,.ptr 4 0 0),(5,.ptr 5 0 0),(6,.int .i64 p6_1),(7,.int .i64 p7)],[(2,false,.box [.int .i64 r,.int .i64 c,.ints .arg .u64 l]),(3,false,.box [.int .i64 p,.int .i64 q,.ints .arg .u64 m]),(4,false,.box [.int .i64 0,.int .i64 0,.nil]),(5,false,.box [.int .i64 r,.int .i64 q,.ints .fresh .u64 p5])]⟩
theorem Aj.Mul.Au (N M:Nat) (r c:Int) (l:List Int) (p q:Int) (m:List Int) (p6:Int) (p5_1:List Int):Aj.Mul.L0 N (M+1) r c l p q m p6 p5_1=bif (A4 p6 r) then Aj.Mul.L1 N M N r c l p q m 0 p5_1 p6 else some (.agg [.int .i64 r,.int .i64 q,.ints .fresh .u64 p5_1]):=by kernel_rfl
theorem Aj.Mul.B7 (N M0 M:Nat) (r c:Int) (l:List Int) (p q:Int) (m:List Int) (p7:Int) (p5:List Int) (p6_1:Int):Aj.Mul.L1 N M0 (M+1) r c l p q m p7 p5 p6_1=bif (A4 p7 q) then bif (O8 r c l p6_1) then bif (G4 p q m p7&&Cu (0≤(0:Int)∧(0:Int)≤p)) then bif ((Ow (G8 c l p6_1) (Cp q m p7 0 (Int.toNat (p-0)))&&Ai (G8 c l p6_1))&&Ai (Cp q m p7 0 (Int.toNat (p-0)))) then bif (Cw r q p5 p6_1 p7) then Aj.Mul.L1 N M0 M r c l p q m (Ab (p7+1)) (List.set p5 (Int.toNat (p6_1*q+p7)) (I9 (G8 c l p6_1) (Cp q m p7 0 (Int.toNat (p-0))))) p6_1 else none else none else none else none else Aj.Mul.L0 N M0 r c l p q m (Ab (p6_1+1)) p5 :=
  Eq.trans (by kernel_rfl)
  (Ej (C2 (Cs (O8 r c l p6_1)) (C2 (Cs (G4 p q m p7&&Cu (0≤(0:Int)∧(0:Int)≤p))) (C2 (Cs ((Ow (G8 c l p6_1) (Cp q m p7 0 (Int.toNat (p-0)))&&Ai (G8 c l p6_1))&&Ai (Cp q m p7 0 (Int.toNat (p-0))))) (C2 (Cs (Cw r q p5 p6_1 p7)) rfl rfl) rfl) rfl) rfl) rfl)
theorem Aj.Mul.ev (N:Nat) (r c:Int) (l:List Int) (p q:Int) (m:List Int):Bp Aj.Mul.E N Tryz.f45 (An Tryz.f45) [.agg [.int .i64 r,.int .i64 c,.ints .arg .u64 l],.agg [.int .i64 p,.int .i64 q,.ints .arg .u64 m]]=bif (Bg r&&Bg q) then Aj.Mul.L0 N N r c l p q m 0 (B5 (Int.toNat r) (Int.toNat q) (fun _ _=>0)) else none:=by kernel_rfl
abbrev _root_.Go.Proofs.S1.Aj.Mul.Kn:=A3 Tryz.prog 45 Aj.Mul.spec
theorem Aj.Mul.Ac (hk:Ax Tryz.prog Aj.Mul.A6) (h:∀ (r c:Int) (l:List Int) (p q:Int) (m:List Int),Aj.Mul.pre [.i r,.i c,.l l,.i p,.i q,.l m]=true→A8 Aj.Mul.E Tryz.f45 [.agg [.int .i64 r,.int .i64 c,.ints .arg .u64 l],.agg [.int .i64 p,.int .i64 q,.ints .arg .u64 m]] (Aj.Mul.out [.i r,.i c,.l l,.i p,.i q,.l m])):Aj.Mul.Kn :=
  Ak (Az hk _ _ _) Tryz.func45 (by kernel_rfl) (by kernel_rfl) h
def Aj.Cn.hint:Nat→Option Ba
  | 0=>some { keep:=[1,2,3,4],objs:=[],boxes:=[1,2,3] }
  | 2=>some { keep:=[1,2,3,4,5],objs:=[],boxes:=[1,2,3] }
  | _=>none
def Aj.Cn.A6:List (Nat × Entry):=[(80,Aj.At.spec),(83,Aj.F8.spec),(35,Aj.Bf.spec)]
def Aj.Cn.E:Env:=A9 (A5 Aj.Cn.A6) (fun _=>false) Aj.Cn.hint (fun _=>none)
def Aj.Cn.L0 (N M:Nat) (r c:Int) (l:List Int) (p4:Int) (p3_1:List Int):Option DV:=Bz Aj.Cn.E N Tryz.f37 (An Tryz.f37) [1,1,0,1,0] [] M ⟨Gl 32 [(1,.ptr 1 0 0),(2,.ptr 2 0 0),(3,.ptr 3 0 0),(4,.int .i64 p4)],[(1,false,.box [.int .i64 r,.int .i64 c,.ints .arg .u64 l]),(2,false,.box [.int .i64 0,.int .i64 0,.nil]),(3,false,.box [.int .i64 c,.int .i64 r,.ints .fresh .u64 p3_1])]⟩
def Aj.Cn.L1 (N M0 M:Nat) (r c:Int) (l:List Int) (p5:Int) (p3:List Int) (p4_1:Int):Option DV:=Bz Aj.Cn.E N Tryz.f37 (An Tryz.f37) [1,1,0,1,0,0,1,0,0,1,0] [M0] M ⟨Gl 32 [(1,.ptr 1 0 0),(2,.ptr 2 0 0),(3,.ptr 3 0 0),(4,.int .i64 p4_1),(5,.int .i64 p5)],[(1,false,.box [.int .i64 r,.int .i64 c,.ints .arg .u64 l]),(2,false,.box [.int .i64 0,.int .i64 0,.nil]),(3,false,.box [.int .i64 c,.int .i64 r,.ints .fresh .u64 p3])]⟩
theorem Aj.Cn.Au (N M:Nat) (r c:Int) (l:List Int) (p4:Int) (p3_1:List Int):Aj.Cn.L0 N (M+1) r c l p4 p3_1=bif (A4 p4 r) then Aj.Cn.L1 N M N r c l 0 p3_1 p4 else some (.agg [.int .i64 c,.int .i64 r,.ints .fresh .u64 p3_1]):=by kernel_rfl
theorem Aj.Cn.B7 (N M0 M:Nat) (r c:Int) (l:List Int) (p5:Int) (p3:List Int) (p4_1:Int):Aj.Cn.L1 N M0 (M+1) r c l p5 p3 p4_1=bif (A4 p5 c) then bif (Cw r c l p4_1 p5) then bif (Cw c r p3 p5 p4_1) then Aj.Cn.L1 N M0 M r c l (Ab (p5+1)) (List.set p3 (Int.toNat (p5*r+p4_1)) (D6 c l p4_1 p5)) p4_1 else none else none else Aj.Cn.L0 N M0 r c l (Ab (p4_1+1)) p3 :=
  Eq.trans (by kernel_rfl)
  (Ej (C2 (Cs (Cw r c l p4_1 p5)) (C2 (Cs (Cw c r p3 p5 p4_1)) rfl rfl) rfl) rfl)
theorem Aj.Cn.ev (N:Nat) (r c:Int) (l:List Int):Bp Aj.Cn.E N Tryz.f37 (An Tryz.f37) [.agg [.int .i64 r,.int .i64 c,.ints .arg .u64 l]]=bif (Bg c&&Bg r) then Aj.Cn.L0 N N r c l 0 (B5 (Int.toNat c) (Int.toNat r) (fun _ _=>0)) else none:=by kernel_rfl
abbrev _root_.Go.Proofs.S1.Aj.Cn.Kn:=A3 Tryz.prog 37 Aj.Cn.spec
theorem Aj.Cn.Ac (hk:Ax Tryz.prog Aj.Cn.A6) (h:∀ (r c:Int) (l:List Int),Aj.Cn.pre [.i r,.i c,.l l]=true→A8 Aj.Cn.E Tryz.f37 [.agg [.int .i64 r,.int .i64 c,.ints .arg .u64 l]] (Aj.Cn.out [.i r,.i c,.l l])):Aj.Cn.Kn :=
  Ak (Az hk _ _ _) Tryz.func37 (by kernel_rfl) (by kernel_rfl) h
def Aj.Part.hint:Nat→Option Ba
  | 0=>some { keep:=[1,2,3,4,5,10,11,12],objs:=[],boxes:=[5,10,11] }
  | 2=>some { keep:=[1,2,3,4,5,10,11,12,13],objs:=[],boxes:=[5,10,11] }
  | _=>none
def Aj.Part.A6:List (Nat × Entry):=[(80,Aj.At.spec),(83,Aj.F8.spec),(35,Aj.Bf.spec)]
def Aj.Part.E:Env:=A9 (A5 Aj.Part.A6) (fun _=>false) Aj.Part.hint (fun _=>none)
def Aj.Part.L0 (N M:Nat) (r c:Int) (l:List Int) (x y:Int) (a b p12:Int) (p11_1:List Int):Option DV:=Bz Aj.Part.E N Tryz.f128 (An Tryz.f128) [1,1,0,1,0] [] M ⟨Gl 40 [(1,.int .i64 x),(2,.int .i64 y),(3,.int .i64 a),(4,.int .i64 b),(5,.ptr 5 0 0),(10,.ptr 10 0 0),(11,.ptr 11 0 0),(12,.int .i64 p12)],[(5,false,.box [.int .i64 r,.int .i64 c,.ints .arg .u64 l]),(10,false,.box [.int .i64 0,.int .i64 0,.nil]),(11,false,.box [.int .i64 a,.int .i64 b,.ints .fresh .u64 p11_1])]⟩
def Aj.Part.L1 (N M0 M:Nat) (r c:Int) (l:List Int) (x y:Int) (a b p13:Int) (p11:List Int) (p12_1:Int):Option DV:=Bz Aj.Part.E N Tryz.f128 (An Tryz.f128) [1,1,0,1,0,0,1,0,0,1,0] [M0] M ⟨Gl 40 [(1,.int .i64 x),(2,.int .i64 y),(3,.int .i64 a),(4,.int .i64 b),(5,.ptr 5 0 0),(10,.ptr 10 0 0),(11,.ptr 11 0 0),(12,.int .i64 p12_1),(13,.int .i64 p13)],[(5,false,.box [.int .i64 r,.int .i64 c,.ints .arg .u64 l]),(10,false,.box [.int .i64 0,.int .i64 0,.nil]),(11,false,.box [.int .i64 a,.int .i64 b,.ints .fresh .u64 p11])]⟩
theorem Aj.Part.Au (N M:Nat) (r c:Int) (l:List Int) (x y:Int) (a b p12:Int) (p11_1:List Int):Aj.Part.L0 N (M+1) r c l x y a b p12 p11_1=bif (A4 p12 a) then Aj.Part.L1 N M N r c l x y a b 0 p11_1 p12 else some (.agg [.int .i64 a,.int .i64 b,.ints .fresh .u64 p11_1]):=by kernel_rfl
theorem Aj.Part.B7 (N M0 M:Nat) (r c:Int) (l:List Int) (x y:Int) (a b p13:Int) (p11:List Int) (p12_1:Int):Aj.Part.L1 N M0 (M+1) r c l x y a b p13 p11 p12_1=bif (A4 p13 b) then bif (Cw r c l (Ab (x+p12_1)) (Ab (y+p13))) then bif (Cw a b p11 p12_1 p13) then Aj.Part.L1 N M0 M r c l x y a b (Ab (p13+1)) (List.set p11 (Int.toNat (p12_1*b+p13)) (D6 c l (Ab (x+p12_1)) (Ab (y+p13)))) p12_1 else none else none else Aj.Part.L0 N M0 r c l x y a b (Ab (p12_1+1)) p11 :=
  Eq.trans (by kernel_rfl)
  (Ej (C2 (Cs (Cw r c l (Ab (x+p12_1)) (Ab (y+p13)))) (C2 (Cs (Cw a b p11 p12_1 p13)) rfl rfl) rfl) rfl)
theorem Aj.Part.ev (N:Nat) (r c:Int) (l:List Int) (x y:Int) (a b:Int):Bp Aj.Part.E N Tryz.f128 (An Tryz.f128) [.agg [.int .i64 r,.int .i64 c,.ints .arg .u64 l],.int .i64 x,.int .i64 y,.int .i64 a,.int .i64 b]=bif (Bg a&&Bg b) then Aj.Part.L0 N N r c l x y a b 0 (B5 (Int.toNat a) (Int.toNat b) (fun _ _=>0)) else none:=by kernel_rfl
abbrev _root_.Go.Proofs.S1.Aj.Part.Kn:=A3 Tryz.prog 128 Aj.Part.spec
theorem Aj.Part.Ac (hk:Ax Tryz.prog Aj.Part.A6) (h:∀ (r c:Int) (l:List Int) (x y:Int) (a b:Int),Aj.Part.pre [.i r,.i c,.l l,.i x,.i y,.i a,.i b]=true→A8 Aj.Part.E Tryz.f128 [.agg [.int .i64 r,.int .i64 c,.ints .arg .u64 l],.int .i64 x,.int .i64 y,.int .i64 a,.int .i64 b] (Aj.Part.out [.i r,.i c,.l l,.i x,.i y,.i a,.i b])):Aj.Part.Kn :=
  Ak (Az hk _ _ _) Tryz.func128 (by kernel_rfl) (by kernel_rfl) h
abbrev _root_.Go.Proofs.S1.Aj.F8.arg.Kn:Prop:=A3 Tryz.prog 83 Aj.F8.arg.spec
abbrev _root_.Go.Proofs.S1.Aj.Ew.arg.Kn:Prop:=A3 Tryz.prog 33 Aj.Ew.arg.spec
end EqRef10
open EqRef10
theorem Aj.H8.known:Aj.H8.Kn:=Aj.H8.Ac .nil fun r c l _=>by
  refine ⟨0,Aj.H8.out [.i r,.i c,.l l],[],?_,.bool⟩
  have e:(bif (bif (bif (bif (Ee (0:Int) r) then (Ee r (6:Int)) else false) then (Ee (0:Int) c) else false) then (Ee c (6:Int)) else false) then ((List.length l:Int)==(Ab (r*c))) else false)=A0 r c l:=by
    have:=Afs r c l
    have h:(bif (bif (bif (bif (Ee (0:Int) r) then (Ee r (6:Int)) else false) then (Ee (0:Int) c) else false) then (Ee c (6:Int)) else false) then ((List.length l:Int)==(Ab (r*c))) else false)=!(((!(Bg r))||(!(Bg c)))||((List.length l:Int) !=(Ab (r*c)))):=by
      unfold Bg bne
      rw [Ei,Ei,Ei,Ei]
      cases decide (0≤r)<;>cases decide (r≤6)<;>cases decide (0≤c)<;>cases decide (c≤6)<;>cases ((List.length l:Int)==(Ab (r*c)))<;>rfl
    rw [h,this,Bool.not_not]
  rw [Aj.H8.ev,e]; rfl
theorem Aj.At.known:Aj.At.Kn:=Aj.At.Ac .nil fun r c l i k hp=>by
  obtain ⟨e,h1,h2⟩:=K0 (R:=r) (show Cw r c l i k=true from hp)
  refine ⟨0,Aj.At.out [.i r,.i c,.l l,.i i,.i k],[],?_,.int⟩
  rw [Aj.At.ev,e,Axu h1,Axu h2]
  rfl
theorem Xg {drops:List Nat} {i:Nat} {e:TypeId} {a b:Int} {l:List Int} (h:i∈drops):Wk drops (.agg [.int .i64 a,.int .i64 b,.ints (.own i e) .u64 l]) (.agg [.int .i64 a,.int .i64 b,.ints .fresh .u64 l]) :=
  Wk.G6 (.cons .int (.cons .int (.cons (.drop _ _ _ _ h) .nil)))
theorem Te {drops:List Nat} {a b:Int} {l:List Int}:Wk drops (.agg [.int .i64 a,.int .i64 b,.ints .fresh .u64 l]) (.agg [.int .i64 a,.int .i64 b,.ints .fresh .u64 l]) :=
  Wk.G6 (.cons .int (.cons .int (.cons .Ny .nil)))
theorem Aj.Bf.known:Aj.Bf.Kn:=Aj.Bf.Ac .nil fun a b hp=>by
  obtain ⟨ha,hb⟩:=Ad.1 (show (Bg a&&Bg b)=true from hp)
  obtain ⟨A,rfl,hA⟩:=Ek ha
  obtain ⟨B,rfl,hB⟩:=Ek hb
  have hm:=Jk (a:=(A:Int)) (b:=(B:Int)) (by omega) (by omega) (by omega) (by omega)
  have e:((A:Int)*(B:Int)).toNat=A*B:=by rw [← Aye,Axv]
  refine ⟨0,.agg [.int .i64 (A:Int),.int .i64 (B:Int),.ints (.own 10 tB) .u64 (B5 A B fun _ _=>0)],[10],?_,Xg (List.mem_singleton.2 rfl)⟩
  rw [Aj.Bf.ev,Am (by omega) (by omega),Axu hm.1,Axu (Int.le_refl _),Axu (show (A:Int)*(B:Int)≤(Gp:Int) by unfold Gp; omega),e,Sz]
  rfl
theorem Aj.F8.known:Aj.F8.Kn:=Aj.F8.Ac .nil fun r c l i k b hp=>by
  obtain ⟨_,_,_,_,_,_,_,h8⟩:=Ar.1 (show Cw r c l i k=true from hp)
  obtain ⟨e,g1,g2⟩:=K0 (R:=r) (show Cw r c l i k=true from hp)
  refine ⟨0,.agg [.int .i64 r,.int .i64 c,.ints (.own 13 tB) .u64 (List.set l (i*c+k).toNat b)],[13],?_,Xg (List.mem_singleton.2 rfl)⟩
  rw [Aj.F8.ev,e,List.nil_append,Axu (show 0+l.length≤Gp by unfold Gp; omega),Axu g1,Axu g2,Axu (show (i*c+k).toNat<l.length by omega)]
  rfl
theorem Afq {r c i k:Nat} (hk:k<c) {d d':Nat→Nat→Bool} {f:Nat→Nat→Int} {x:Int} (hx:x=f i k)
    (h:∀ a b,a<r→b<c→(d' a b=true↔d a b=true∨(a=i∧b=k))) :
    List.set (B5 r c fun a b=>if d a b=true then f a b else 0) (Int.toNat ((i:Int)*(c:Int)+(k:Int))) x=B5 r c fun a b=>if d' a b=true then f a b else 0:=by
  have e:((i:Int)*(c:Int)+(k:Int)).toNat=i*c+k:=by rw [← Aye,← Int.natCast_add,Axv]
  rw [e,Uo hk]
  refine D4 fun a b ha hb=>?_
  have h:=h a b ha hb
  by_cases hab:a=i∧b=k
  · rw [if_pos hab,if_pos (h.2 (.inr hab)),hx,hab.1,hab.2]
  · rw [if_neg hab]
    by_cases hd:d a b=true
    · rw [if_pos hd,if_pos (h.2 (.inl hd))]
    · rw [if_neg hd,if_neg (fun k=>(h.1 k).elim hd hab)]
theorem Aju (r c:Int) (l:List Int) (p q:Int) (m:List Int):(bif (bif (r==p) then (c==q) else false) then (Tu l m) else false)=V3 r c l p q m:=by
  unfold V3 Tu
  have e1:(r==p)=decide (r=p):=by rw [Ax9]; simp
  have e2:(c==q)=decide (c=q):=by rw [Ax9]; simp
  rw [e1,e2]
  cases decide (r=p)<;>cases decide (c=q)<;>cases decide (l=m)<;>rfl
theorem Aj.Ev.known:Aj.Ev.Kn:=Aj.Ev.Ac (.cons Ag.Ev.known .nil) fun r c l p q m hp=>by
  have hp:Mt l=true:=hp
  refine ⟨0,Aj.Ev.out [.i r,.i c,.l l,.i p,.i q,.l m],[],?_,.bool⟩
  rw [Aj.Ev.ev,hp,Bool.or_true,Axt,Aju]
  rfl
theorem Acb (N:Nat) {R C K f:Nat} {l:List Int} (r6:R≤6) (c6:C≤6) (hl:l.length=R*C) (hk:K<C):∀ (k i F:Nat),f+i+k=R→k<F →
    Aj.Pz.L0 N F (R:Int) (C:Int) l (K:Int) ((f+i:Nat):Int) (Cp (C:Int) l (K:Int) (f:Int) i)=some (.ints (.own 100007 tB) .u64 (Cp (C:Int) l (K:Int) (f:Int) (R-f))):=by
  intro k
  induction k with
  | zero =>
    intro i F hi hF
    obtain ⟨F,rfl⟩:∃ G,F=G+1:=⟨F-1,by omega⟩
    rw [Aj.Pz.Au,As,Axy (by omega),Axx,show R-f=i by omega]
  | succ k ih =>
    intro i F hi hF
    obtain ⟨F,rfl⟩:∃ G,F=G+1:=⟨F-1,by omega⟩
    have d:decide ((Cp (C:Int) l (K:Int) (f:Int) i).length+1≤Gp)=true:=Axu (by rw [Ga]; unfold Gp; omega)
    rw [Aj.Pz.Au,As,Axu (by omega),Axt,Dq r6 c6 hl (show f+i<R by omega) hk,Axt,d,Axt,Am (by omega) (by omega)]
    have:=ih (i+1) F (by omega) (by omega)
    unfold Cp at this ⊢
    rw [List.range_succ,List.map_append] at this
    exact this
theorem Aj.Pz.known:Aj.Pz.Kn:=Aj.Pz.Ac (.cons Aj.At.known .nil) fun r c l k f hp=>by
  obtain ⟨h0,hf⟩:=Ad.1 (show (G4 r c l k&&Cu (0≤f∧f≤r))=true from hp)
  have hf:=Ar.1 hf
  obtain ⟨hr,hi⟩:=Ad.1 h0
  have hi:=Ar.1 hi
  obtain ⟨R,C,rfl,rfl,r6,c6,hl⟩:=Cc hr
  obtain ⟨K,rfl⟩:∃ j:Nat,k=j:=⟨k.toNat,by omega⟩
  obtain ⟨f,rfl⟩:∃ j:Nat,f=j:=⟨f.toNat,by omega⟩
  refine ⟨8,.ints (.own 100007 tB) .u64 (Cp (C:Int) l (K:Int) (f:Int) (R-f)),[100007],?_,?_⟩
  · rw [Aj.Pz.ev]
    exact Acb 8 r6 c6 hl (by omega) (R-f) 0 8 (by omega) (by omega)
  · show Wk _ _ (DV.ints .fresh .u64 (Cp (C:Int) l (K:Int) (f:Int) (Int.toNat ((R:Int)-(f:Int)))))
    rw [show Int.toNat ((R:Int)-(f:Int))=R-f by omega]
    exact .drop _ _ _ _ (List.mem_singleton.2 rfl)
theorem Aj.Row.known:Aj.Row.Kn:=Aj.Row.Ac .nil fun r c l i hp=>by
  obtain ⟨hr,hi⟩:=Ad.1 (show O8 r c l i=true from hp)
  have hi:=Ar.1 hi
  obtain ⟨R,C,rfl,rfl,r6,c6,hl⟩:=Cc hr
  obtain ⟨I,rfl⟩:∃ k:Nat,i=k:=⟨i.toNat,by omega⟩
  have hm:=Jk (a:=(I:Int)) (b:=(C:Int)) (by omega) (by omega) (by omega) (by omega)
  have hm2:=Jk (a:=(I:Int)+1) (b:=(C:Int)) (by omega) (by omega) (by omega) (by omega)
  have hle:(I+1)*C≤R*C:=Ax5 C (by omega)
  have hle2:I*C≤(I+1)*C:=Ax5 C (by omega)
  have e1:(I:Int)*(C:Int)=((I*C:Nat):Int):=(Aye _ _).symm
  have e2:((I:Int)+1)*(C:Int)=(((I+1)*C:Nat):Int):=by rw [Aye]; rfl
  refine ⟨0,Aj.Row.out [.i (R:Int),.i (C:Int),.l l,.i (I:Int)],[],?_,.Wr⟩
  rw [Aj.Row.ev,Am (x:=(I:Int)+1) (by omega) (by omega),Am (x:=(I:Int)*(C:Int)) (by omega) (by omega),Am (x:=((I:Int)+1)*(C:Int)) (by omega) (by omega)]
  have d1:decide ((0:Int)≤(I:Int)*(C:Int))=true:=Axu (by omega)
  have d2:decide ((I:Int)*(C:Int)≤((I:Int)+1)*(C:Int))=true:=Axu (by rw [e1,e2]; omega)
  have d3:decide ((0:Int)≤((I:Int)+1)*(C:Int))=true:=Axu (by omega)
  have d4:decide (((I:Int)+1)*(C:Int)≤(l.length:Int))=true:=Axu (by rw [e2]; omega)
  rw [d1,d2,d3,d4]
  rfl
open EqRef10
def dR (i k a b:Nat):Bool:=decide (a<i∨(a=i∧b<k))
def dC (i k a b:Nat):Bool:=decide (b<i∨(b=i∧a<k))
def fill (r c:Nat) (f:Nat→Nat→Int) (d:Nat→Nat→Bool):List Int:=B5 r c fun a b=>if d a b=true then f a b else 0
theorem Np (r c:Nat) (f:Nat→Nat→Int) (d:Nat→Nat→Bool):(fill r c f d).length=r*c:=B8 _ _ _
theorem Ur {r c i k:Nat} (hk:k<c) {d d':Nat→Nat→Bool} {f:Nat→Nat→Int} {x:Int} (hx:x=f i k) (h:∀ a b,a<r→b<c→(d' a b=true↔d a b=true∨(a=i∧b=k))) :
    List.set (fill r c f d) (Int.toNat ((i:Int)*(c:Int)+(k:Int))) x=fill r c f d':=Afq hk hx h
theorem S2 {r c:Nat} {f:Nat→Nat→Int} {d d':Nat→Nat→Bool} (h:∀ a b,a<r→b<c→(d a b=true↔d' a b=true)):fill r c f d=fill r c f d':=by
  refine D4 fun a b ha hb=>?_
  have:=h a b ha hb
  by_cases hd:d a b=true
  · rw [if_pos hd,if_pos (this.1 hd)]
  · rw [if_neg hd,if_neg (fun k=>hd (this.2 k))]
theorem Y5 {r c:Nat} {f:Nat→Nat→Int} {d:Nat→Nat→Bool} (h:∀ a b,a<r→b<c→d a b=true):fill r c f d=B5 r c f :=
  D4 fun a b ha hb=>by rw [if_pos (h a b ha hb)]
theorem Rn {r c:Nat} {f:Nat→Nat→Int} {d:Nat→Nat→Bool} (h:∀ a b,a<r→b<c→¬ d a b=true):fill r c f d=B5 r c fun _ _=>0 :=
  D4 fun a b ha hb=>by rw [if_neg (h a b ha hb)]
theorem Acv.inner (N:Nat) {R C Q:Nat} {l:List Int} {p:Int} {m:List Int} (h6:R≤6∧C≤6∧Q≤6) (hl:l.length=R*C) (hr:A0 (R:Int) (C:Int) l=true) (hm:A0 p (Q:Int) m=true) (ep:p=(C:Int)) (al:Ai l=true) (am:Ai m=true) {F:Nat→Nat→Int} (hF:F=fun (i j:Nat)=>I9 (G8 (C:Int) l (i:Int)) (Kd p (Q:Int) m (j:Int))) {i:Nat} (hi:i<R):∀ (k j M0 M:Nat),j+k=Q→k<M →
    Aj.Mul.L1 N M0 M (R:Int) (C:Int) l p (Q:Int) m (j:Int) (fill R Q F (dR i j)) (i:Int)=Aj.Mul.L0 N M0 (R:Int) (C:Int) l p (Q:Int) m ((i+1:Nat):Int) (fill R Q F (dR (i+1) 0)):=by
  intro k
  induction k with
  | zero =>
    intro j M0 M hj hM
    obtain ⟨M,rfl⟩:∃ G,M=G+1:=⟨M-1,by omega⟩
    have e:fill R Q F (dR i j)=fill R Q F (dR (i+1) 0):=S2 fun a b ha hb=>by simp only [dR,Ax0]; omega
    rw [Aj.Mul.B7,As,Axy (by omega),Axx,Am (by omega) (by omega),e]
    rfl
  | succ k ih =>
    intro j M0 M hj hM
    obtain ⟨M,rfl⟩:∃ G,M=G+1:=⟨M-1,by omega⟩
    have c1:O8 (R:Int) (C:Int) l (i:Int)=true:=Ad.2 ⟨hr,Ar.2 (by omega)⟩
    have c2:G4 p (Q:Int) m (j:Int)=true:=Ad.2 ⟨hm,Ar.2 (by omega)⟩
    have c3:Ow (G8 (C:Int) l (i:Int)) (Kd p (Q:Int) m (j:Int))=true:=Rm.2 ⟨by rw [O6 hl hi,ep,Zg],by rw [O6 hl hi]; omega⟩
    have c9:Cw (R:Int) (Q:Int) (fill R Q F (dR i j)) (i:Int) (j:Int)=true:=Dq (by omega) (by omega) (Np _ _ _ _) (by omega) (by omega)
    rw [Aj.Mul.B7,As,Axu (by omega),Axt,c1,Axt,c2,Xe (show 0≤p by omega),Axz,Axt,Ai4,c3,Aie al,Ai5 am,Axz,Axz,Axt,c9,Axt,Am (x:=(j:Int)+1) (by omega) (by omega),Ur (d':=dR i (j+1)) (by omega) (by rw [hF]) (fun a b ha hb=>by simp only [dR,Ax0]; omega)]
    exact ih (j+1) M0 M (by omega) (by omega)
theorem Acv.outer (N:Nat) (hN:6<N) {R C Q:Nat} {l:List Int} {p:Int} {m:List Int} (h6:R≤6∧C≤6∧Q≤6) (hl:l.length=R*C) (hr:A0 (R:Int) (C:Int) l=true) (hm:A0 p (Q:Int) m=true) (ep:p=(C:Int)) (al:Ai l=true) (am:Ai m=true) {F:Nat→Nat→Int} (hF:F=fun (i j:Nat)=>I9 (G8 (C:Int) l (i:Int)) (Kd p (Q:Int) m (j:Int))):∀ (k i M:Nat),i+k=R→k<M →
    Aj.Mul.L0 N M (R:Int) (C:Int) l p (Q:Int) m (i:Int) (fill R Q F (dR i 0))=some (.agg [.int .i64 (R:Int),.int .i64 (Q:Int),.ints .fresh .u64 (B5 R Q F)]):=by
  intro k
  induction k with
  | zero =>
    intro i M hi hM
    obtain ⟨M,rfl⟩:∃ G,M=G+1:=⟨M-1,by omega⟩
    rw [Aj.Mul.Au,As,Axy (by omega),Axx,Y5 (fun a b ha hb=>by simp only [dR,Ax0]; omega)]
  | succ k ih =>
    intro i M hi hM
    obtain ⟨M,rfl⟩:∃ G,M=G+1:=⟨M-1,by omega⟩
    have n:=Acv.inner N h6 hl hr hm ep al am hF (show i<R by omega) Q 0 M N (by omega) (by omega)
    rw [Aj.Mul.Au,As,Axu (by omega),Axt]
    exact n.trans (ih (i+1) M (by omega) (by omega))
theorem Y7.inner (N:Nat) {r c x y:Int} {l:List Int} {A B:Nat} (h6:A≤6∧B≤6) (hr:A0 r c l=true) (hp:Hs r c x y (A:Int) (B:Int)=true) {F:Nat→Nat→Int} (hF:F=fun (i j:Nat)=>D6 c l (x+(i:Int)) (y+(j:Int))) {i:Nat} (hi:i<A):∀ (k j M0 M:Nat),j+k=B→k<M →
    Aj.Part.L1 N M0 M r c l x y (A:Int) (B:Int) (j:Int) (fill A B F (dR i j)) (i:Int)=Aj.Part.L0 N M0 r c l x y (A:Int) (B:Int) ((i+1:Nat):Int) (fill A B F (dR (i+1) 0)):=by
  intro k
  induction k with
  | zero =>
    intro j M0 M hj hM
    obtain ⟨M,rfl⟩:∃ G,M=G+1:=⟨M-1,by omega⟩
    have e:fill A B F (dR i j)=fill A B F (dR (i+1) 0):=S2 fun a b ha hb=>by simp only [dR,Ax0]; omega
    rw [Aj.Part.B7,As,Axy (by omega),Axx,Am (by omega) (by omega),e]
    rfl
  | succ k ih =>
    intro j M0 M hj hM
    obtain ⟨M,rfl⟩:∃ G,M=G+1:=⟨M-1,by omega⟩
    have hs:=Hv.1 hr
    have hq:=of_decide_eq_true hp
    have c1:Cw r c l (x+(i:Int)) (y+(j:Int))=true:=Ld hr (by omega) (by omega) (by omega) (by omega) r
    have c9:Cw (A:Int) (B:Int) (fill A B F (dR i j)) (i:Int) (j:Int)=true:=Dq (by omega) (by omega) (Np _ _ _ _) (by omega) (by omega)
    rw [Aj.Part.B7,As,Axu (by omega),Axt,Am (x:=x+(i:Int)) (by omega) (by omega),Am (x:=y+(j:Int)) (by omega) (by omega),c1,Axt,c9,Axt,Am (x:=(j:Int)+1) (by omega) (by omega),Ur (d':=dR i (j+1)) (by omega) (by rw [hF]) (fun a b ha hb=>by simp only [dR,Ax0]; omega)]
    exact ih (j+1) M0 M (by omega) (by omega)
theorem Y7.outer (N:Nat) (hN:6<N) {r c x y:Int} {l:List Int} {A B:Nat} (h6:A≤6∧B≤6) (hr:A0 r c l=true) (hp:Hs r c x y (A:Int) (B:Int)=true) {F:Nat→Nat→Int} (hF:F=fun (i j:Nat)=>D6 c l (x+(i:Int)) (y+(j:Int))):∀ (k i M:Nat),i+k=A→k<M →
    Aj.Part.L0 N M r c l x y (A:Int) (B:Int) (i:Int) (fill A B F (dR i 0))=some (.agg [.int .i64 (A:Int),.int .i64 (B:Int),.ints .fresh .u64 (B5 A B F)]):=by
  intro k
  induction k with
  | zero =>
    intro i M hi hM
    obtain ⟨M,rfl⟩:∃ G,M=G+1:=⟨M-1,by omega⟩
    rw [Aj.Part.Au,As,Axy (by omega),Axx,Y5 (fun a b ha hb=>by simp only [dR,Ax0]; omega)]
  | succ k ih =>
    intro i M hi hM
    obtain ⟨M,rfl⟩:∃ G,M=G+1:=⟨M-1,by omega⟩
    have n:=Y7.inner N h6 hr hp hF (show i<A by omega) B 0 M N (by omega) (by omega)
    rw [Aj.Part.Au,As,Axu (by omega),Axt]
    exact n.trans (ih (i+1) M (by omega) (by omega))
theorem Y6.inner (N:Nat) {R C:Nat} {l:List Int} (h6:R≤6∧C≤6) (hl:l.length=R*C) {F:Nat→Nat→Int} (hF:F=fun (i j:Nat)=>D6 (C:Int) l (j:Int) (i:Int)) {i:Nat} (hi:i<R):∀ (k j M0 M:Nat),j+k=C→k<M →
    Aj.Cn.L1 N M0 M (R:Int) (C:Int) l (j:Int) (fill C R F (dC i j)) (i:Int)=Aj.Cn.L0 N M0 (R:Int) (C:Int) l ((i+1:Nat):Int) (fill C R F (dC (i+1) 0)):=by
  intro k
  induction k with
  | zero =>
    intro j M0 M hj hM
    obtain ⟨M,rfl⟩:∃ G,M=G+1:=⟨M-1,by omega⟩
    have e:fill C R F (dC i j)=fill C R F (dC (i+1) 0):=S2 fun a b ha hb=>by simp only [dC,Ax0]; omega
    rw [Aj.Cn.B7,As,Axy (by omega),Axx,Am (by omega) (by omega),e]
    rfl
  | succ k ih =>
    intro j M0 M hj hM
    obtain ⟨M,rfl⟩:∃ G,M=G+1:=⟨M-1,by omega⟩
    have c1:Cw (R:Int) (C:Int) l (i:Int) (j:Int)=true:=Dq h6.1 h6.2 hl hi (by omega)
    have c9:Cw (C:Int) (R:Int) (fill C R F (dC i j)) (j:Int) (i:Int)=true:=Dq (by omega) (by omega) (Np _ _ _ _) (by omega) (by omega)
    rw [Aj.Cn.B7,As,Axu (by omega),Axt,c1,Axt,c9,Axt,Am (x:=(j:Int)+1) (by omega) (by omega),Ur (d':=dC i (j+1)) (by omega) (by rw [hF]) (fun a b ha hb=>by simp only [dC,Ax0]; omega)]
    exact ih (j+1) M0 M (by omega) (by omega)
theorem Y6.outer (N:Nat) (hN:6<N) {R C:Nat} {l:List Int} (h6:R≤6∧C≤6) (hl:l.length=R*C) {F:Nat→Nat→Int} (hF:F=fun (i j:Nat)=>D6 (C:Int) l (j:Int) (i:Int)):∀ (k i M:Nat),i+k=R→k<M →
    Aj.Cn.L0 N M (R:Int) (C:Int) l (i:Int) (fill C R F (dC i 0))=some (.agg [.int .i64 (C:Int),.int .i64 (R:Int),.ints .fresh .u64 (B5 C R F)]):=by
  intro k
  induction k with
  | zero =>
    intro i M hi hM
    obtain ⟨M,rfl⟩:∃ G,M=G+1:=⟨M-1,by omega⟩
    rw [Aj.Cn.Au,As,Axy (by omega),Axx,Y5 (fun a b ha hb=>by simp only [dC,Ax0]; omega)]
  | succ k ih =>
    intro i M hi hM
    obtain ⟨M,rfl⟩:∃ G,M=G+1:=⟨M-1,by omega⟩
    have n:=Y6.inner N h6 hl hF (show i<R by omega) C 0 M N (by omega) (by omega)
    rw [Aj.Cn.Au,As,Axu (by omega),Axt]
    exact n.trans (ih (i+1) M (by omega) (by omega))
theorem Aj.Cn.known:Aj.Cn.Kn:=Aj.Cn.Ac (.cons Aj.At.known (.cons Aj.F8.known (.cons Aj.Bf.known .nil))) fun r c l hp=>by
  have hr:A0 r c l=true:=hp
  obtain ⟨R,C,rfl,rfl,r6,c6,hl⟩:=Cc hr
  refine ⟨8,.agg [.int .i64 (C:Int),.int .i64 (R:Int),.ints .fresh .u64 (B5 C R fun (i j:Nat)=>D6 (C:Int) l (j:Int) (i:Int))],[],?_,Te⟩
  have n:=Y6.outer 8 (by omega) ⟨r6,c6⟩ hl rfl R 0 8 (by omega) (by omega)
  rw [Rn (fun a b ha hb=>by simp only [dC,Ax0]; omega)] at n
  rw [Aj.Cn.ev,Nh r6,Nh c6,Axz,Axt,Axv,Axv]
  exact n
theorem Aj.Part.known:Aj.Part.Kn:=Aj.Part.Ac (.cons Aj.At.known (.cons Aj.F8.known (.cons Aj.Bf.known .nil))) fun r c l x y a b hp=>by
  obtain ⟨hr,hq⟩:=Ad.1 (show (A0 r c l&&Hs r c x y a b)=true from hp)
  obtain ⟨s1,s2⟩:=X7 hr hq
  obtain ⟨A,rfl,hA⟩:=Ek s1
  obtain ⟨B,rfl,hB⟩:=Ek s2
  refine ⟨8,.agg [.int .i64 (A:Int),.int .i64 (B:Int),.ints .fresh .u64 (B5 A B fun (i j:Nat)=>D6 c l (x+(i:Int)) (y+(j:Int)))],[],?_,Te⟩
  have n:=Y7.outer 8 (by omega) ⟨hA,hB⟩ hr hq rfl A 0 8 (by omega) (by omega)
  rw [Rn (fun a b ha hb=>by simp only [dR,Ax0]; omega)] at n
  rw [Aj.Part.ev,s1,s2,Axz,Axt,Axv,Axv]
  exact n
theorem Aj.Mul.known:Aj.Mul.Kn:=Aj.Mul.Ac (.cons Ag.Hz.known (.cons Aj.Pz.known (.cons Aj.Row.known (.cons Aj.F8.known (.cons Aj.Bf.known .nil))))) fun r c l p q m hp=>by
  obtain ⟨h1,h2⟩:=Ad.1 (show ((A0 r c l&&A0 p q m)&&((Ai l&&Ai m)&&decide (c=p)))=true from hp)
  obtain ⟨hr,hm⟩:=Ad.1 h1
  obtain ⟨h3,h4⟩:=Ad.1 h2
  obtain ⟨al,am⟩:=Ad.1 h3
  have ec:=of_decide_eq_true h4
  obtain ⟨R,C,rfl,rfl,r6,c6,hl⟩:=Cc hr
  obtain ⟨P,Q,rfl,rfl,p6,q6,_⟩:=Cc hm
  refine ⟨8,.agg [.int .i64 (R:Int),.int .i64 (Q:Int),.ints .fresh .u64 (B5 R Q fun (i j:Nat)=>I9 (G8 (C:Int) l (i:Int)) (Kd (P:Int) (Q:Int) m (j:Int)))],[],?_,Te⟩
  have n:=Acv.outer 8 (by omega) ⟨r6,c6,q6⟩ hl hr hm ec.symm al am rfl R 0 8 (by omega) (by omega)
  rw [Rn (fun a b ha hb=>by simp only [dR,Ax0]; omega)] at n
  rw [Aj.Mul.ev,Nh r6,Nh q6,Axz,Axt,Axv,Axv]
  exact n
theorem Aq3 (N:Nat) {n:Nat} (h6:n≤6):∀ (k i M:Nat),i+k=n→k<M →
    Aj.Ew.L0 N M (n:Int) (i:Int) (fill n n (fun (a b:Nat)=>Nc (a:Int) (b:Int)) fun a b=>decide (a=b∧a<i))=some (.agg [.int .i64 (n:Int),.int .i64 (n:Int),.ints .fresh .u64 (B5 n n fun (a b:Nat)=>Nc (a:Int) (b:Int))]):=by
  intro k
  induction k with
  | zero =>
    intro i M hi hM
    obtain ⟨M,rfl⟩:∃ G,M=G+1:=⟨M-1,by omega⟩
    have e:fill n n (fun (a b:Nat)=>Nc (a:Int) (b:Int)) (fun a b=>decide (a=b∧a<i))=B5 n n fun (a b:Nat)=>Nc (a:Int) (b:Int):=by
      refine D4 fun a b ha hb=>?_
      by_cases h:a=b
      · rw [if_pos (Axu ⟨h,by omega⟩)]
      · rw [if_neg (fun k=>h (of_decide_eq_true k).1)]
        unfold Nc
        rw [if_neg (by omega)]
    rw [Aj.Ew.Au,As,Axy (by omega),Axx,e]
  | succ k ih =>
    intro i M hi hM
    obtain ⟨M,rfl⟩:∃ G,M=G+1:=⟨M-1,by omega⟩
    have c9:Cw (n:Int) (n:Int) (fill n n (fun (a b:Nat)=>Nc (a:Int) (b:Int)) fun a b=>decide (a=b∧a<i)) (i:Int) (i:Int)=true:=Dq h6 h6 (Np _ _ _ _) (by omega) (by omega)
    have one:(4607182418800017408:Int)=(fun (a b:Nat)=>Nc (a:Int) (b:Int)) i i:=(if_pos rfl).symm
    rw [Aj.Ew.Au,As,Axu (by omega),Axt,c9,Axt,Am (by omega) (by omega),Ur (d':=fun a b=>decide (a=b∧a<i+1)) (by omega) one (fun a b ha hb=>by simp only [Ax0]; omega)]
    exact ih (i+1) M (by omega) (by omega)
theorem Aj.Ew.known:Aj.Ew.Kn:=Aj.Ew.Ac (.cons Aj.F8.known (.cons Aj.Bf.known .nil)) fun n hp=>by
  have hp:Bg n=true:=hp
  obtain ⟨n,rfl,h6⟩:=Ek hp
  refine ⟨8,.agg [.int .i64 (n:Int),.int .i64 (n:Int),.ints .fresh .u64 (B5 n n fun (a b:Nat)=>Nc (a:Int) (b:Int))],[],?_,Te⟩
  have e:=Aq3 8 h6 n 0 8 (by omega) (by omega)
  rw [Rn (fun a b ha hb=>by simp only [Ax0]; omega)] at e
  rw [Aj.Ew.ev,hp,Axz,Axt,Axv]
  exact e
namespace EqHouse
def Aq.By.hint:Nat→Option Ba
  | 0=>some { keep:=[5,6,7],objs:=[],boxes:=[] }
  | _=>none
def Aq.By.A6:List (Nat × Entry):=[(155,soft.Kind.spec)]
def Aq.By.E:Env:=A9 (A5 Aq.By.A6) (fun _=>false) Aq.By.hint (fun _=>none)
def Aq.By.L0 (N M:Nat) (x:List Int) (p7:Int):Option DV:=Bz Aq.By.E N Tryz.f252 (An Tryz.f252) [1,0,1,0] [] M ⟨Gl 15 [(5,.ints .arg .u64 x),(6,.int .i64 (List.length x:Int)),(7,.int .i64 p7)],[]⟩
theorem Aq.By.Au (N M:Nat) (x:List Int) (p7:Int):Aq.By.L0 N (M+1) x p7=bif (A4 p7 (List.length x:Int)) then bif ((decide (0≤p7))&&(decide (p7<(List.length x:Int)))) then bif (Af (List.getD x (Int.toNat p7) 0)) then bif ((Bd (List.getD x (Int.toNat p7) 0)) !=(0:Int)) then some (.bool false) else Aq.By.L0 N M x (Ab (p7+1)) else none else none else some (.bool true):=by kernel_rfl
theorem Aq.By.ev (N:Nat) (x:List Int):Bp Aq.By.E N Tryz.f252 (An Tryz.f252) [.ints .arg .u64 x] =
  Aq.By.L0 N N x 0:=by kernel_rfl
abbrev _root_.Go.Proofs.S1.Aq.By.Kn:=A3 Tryz.prog 252 Aq.By.spec
theorem Aq.By.Ac (hk:Ax Tryz.prog Aq.By.A6) (h:∀ (x:List Int),Aq.By.pre [.l x]=true→A8 Aq.By.E Tryz.f252 [.ints .arg .u64 x] (Aq.By.out [.l x])):Aq.By.Kn :=
  Ak (Az hk _ _ _) Tryz.func252 (by kernel_rfl) (by kernel_rfl) h
def Aq.lead.hint:Nat→Option Ba
  | 0=>some { keep:=[5,6,7],objs:=[],boxes:=[] }
  | _=>none
def Aq.lead.A6:List (Nat × Entry):=[(155,soft.Kind.spec)]
def Aq.lead.E:Env:=A9 (A5 Aq.lead.A6) (fun _=>false) Aq.lead.hint (fun _=>none)
def Aq.lead.L0 (N M:Nat) (x:List Int) (p7:Int):Option DV:=Bz Aq.lead.E N Tryz.f258 (An Tryz.f258) [1,0,1,0] [] M ⟨Gl 16 [(5,.ints .arg .u64 x),(6,.int .i64 (List.length x:Int)),(7,.int .i64 p7)],[]⟩
theorem Aq.lead.Au (N M:Nat) (x:List Int) (p7:Int):Aq.lead.L0 N (M+1) x p7=bif (A4 p7 (List.length x:Int)) then bif ((decide (0≤p7))&&(decide (p7<(List.length x:Int)))) then bif (Af (List.getD x (Int.toNat p7) 0)) then bif ((Bd (List.getD x (Int.toNat p7) 0)) !=(0:Int)) then some (.int .u64 (List.getD x (Int.toNat p7) 0)) else Aq.lead.L0 N M x (Ab (p7+1)) else none else none else some (.int .u64 0):=by kernel_rfl
theorem Aq.lead.ev (N:Nat) (x:List Int):Bp Aq.lead.E N Tryz.f258 (An Tryz.f258) [.ints .arg .u64 x] =
  Aq.lead.L0 N N x 0:=by kernel_rfl
abbrev _root_.Go.Proofs.S1.Aq.lead.Kn:=A3 Tryz.prog 258 Aq.lead.spec
theorem Aq.lead.Ac (hk:Ax Tryz.prog Aq.lead.A6) (h:∀ (x:List Int),Aq.lead.pre [.l x]=true→A8 Aq.lead.E Tryz.f258 [.ints .arg .u64 x] (Aq.lead.out [.l x])):Aq.lead.Kn :=
  Ak (Az hk _ _ _) Tryz.func258 (by kernel_rfl) (by kernel_rfl) h
def Aq.Dg.hint:Nat→Option Ba
  | 0=>some { keep:=[1,5,8,9,10],objs:=[(0,5,100005,.ints 37 .u64 [])],boxes:=[] }
  | _=>none
def Aq.Dg.A6:List (Nat × Entry):=[(88,Ae.Br.spec)]
def Aq.Dg.E:Env:=A9 (A5 Aq.Dg.A6) (fun _=>false) Aq.Dg.hint (fun _=>none)
def Aq.Dg.L0 (N M:Nat) (x:List Int) (k p10:Int) (p5:List Int):Option DV:=Bz Aq.Dg.E N Tryz.f256 (An Tryz.f256) [1,1,0,1,0] [] M ⟨Gl 22 [(1,.int .i64 k),(5,.oref 100005),(8,.ints .arg .u64 x),(9,.int .i64 (List.length x:Int)),(10,.int .i64 p10)],[(100005,false,.ints 37 .u64 p5)]⟩
theorem Aq.Dg.Au (N M:Nat) (x:List Int) (k p10:Int) (p5:List Int):Aq.Dg.L0 N (M+1) x k p10 p5=bif (A4 p10 (List.length x:Int)) then bif ((decide (0≤p10))&&(decide (p10<(List.length x:Int)))) then bif (Db (List.getD x (Int.toNat p10) 0) k) then bif (decide ((List.length p5)+1≤Gp)) then Aq.Dg.L0 N M x k (Ab (p10+1)) (p5++[(Bw (List.getD x (Int.toNat p10) 0) k)]) else none else none else none else some (.ints (.own 100005 37) .u64 p5):=by kernel_rfl
theorem Aq.Dg.ev (N:Nat) (x:List Int) (k:Int):Bp Aq.Dg.E N Tryz.f256 (An Tryz.f256) [.ints .arg .u64 x,.int .i64 k] =
  Aq.Dg.L0 N N x k 0 []:=by kernel_rfl
abbrev _root_.Go.Proofs.S1.Aq.Dg.Kn:=A3 Tryz.prog 256 Aq.Dg.spec
theorem Aq.Dg.Ac (hk:Ax Tryz.prog Aq.Dg.A6) (h:∀ (x:List Int) (k:Int),Aq.Dg.pre [.l x,.i k]=true→A8 Aq.Dg.E Tryz.f256 [.ints .arg .u64 x,.int .i64 k] (Aq.Dg.out [.l x,.i k])):Aq.Dg.Kn :=
  Ak (Az hk _ _ _) Tryz.func256 (by kernel_rfl) (by kernel_rfl) h
def Aq.Fz.A6:List (Nat × Entry):=[]
def Aq.Fz.E:Env:=A9 (A5 Aq.Fz.A6) (fun _=>false) (fun _=>none) (fun _=>none)
theorem Aq.Fz.ev (N:Nat) (i:Int):Bp Aq.Fz.E N Tryz.f254 (An Tryz.f254) [.int .i64 i]=some (.int .u64 0):=by kernel_rfl
abbrev _root_.Go.Proofs.S1.Aq.Fz.Kn:=A3 Tryz.prog 254 Aq.Fz.spec
theorem Aq.Fz.Ac (hk:Ax Tryz.prog Aq.Fz.A6) (h:∀ (i:Int),Aq.Fz.pre [.i i]=true→A8 Aq.Fz.E Tryz.f254 [.int .i64 i] (Aq.Fz.out [.i i])):Aq.Fz.Kn :=
  Ak (Az hk _ _ _) Tryz.func254 (by kernel_rfl) (by kernel_rfl) h
def Aq.Fy.A6:List (Nat × Entry):=[(158,Ae.Div.spec)]
def Aq.Fy.E:Env:=A9 (A5 Aq.Fy.A6) (fun _=>false) (fun _=>none) (fun _=>none)
theorem Aq.Fy.ev (N:Nat) (i:Int) (y:List Int) (d:Int):Bp Aq.Fy.E N Tryz.f259 (An Tryz.f259) [.int .i64 i,.cellp [.ints .arg .u64 y],.cellp [.int .u64 d]]=bif ((decide (0≤i))&&(decide (i<(List.length y:Int)))) then bif (Af (List.getD y (Int.toNat i) 0)&&Af d) then some (.int .u64 (Fa (List.getD y (Int.toNat i) 0) d)) else none else none :=
  Eq.trans (by kernel_rfl)
  (C2 (Lk (decide (0≤i)) (decide (i<(List.length y:Int)))) (C2 (Cs (Af (List.getD y (Int.toNat i) 0)&&Af d)) rfl rfl) rfl)
abbrev _root_.Go.Proofs.S1.Aq.Fy.Kn:=A3 Tryz.prog 259 Aq.Fy.spec
theorem Aq.Fy.Ac (hk:Ax Tryz.prog Aq.Fy.A6) (h:∀ (i:Int) (y:List Int) (d:Int),Aq.Fy.pre [.i i,.l y,.i d]=true→A8 Aq.Fy.E Tryz.f259 [.int .i64 i,.cellp [.ints .arg .u64 y],.cellp [.int .u64 d]] (Aq.Fy.out [.i i,.l y,.i d])):Aq.Fy.Kn :=
  Ak (Az hk _ _ _) Tryz.func259 (by kernel_rfl) (by kernel_rfl) h
def Aq.row.Zero.hint:Nat→Option Ba
  | 0=>some { keep:=[0,1,5,6],objs:=[(0,5,100005,.ints 37 .u64 [])],boxes:=[] }
  | _=>none
def Aq.row.Zero.A6:List (Nat × Entry):=[(254,Aq.Fz.spec)]
def Aq.row.Zero.E:Env:=A9 (A5 Aq.row.Zero.A6) (fun _=>false) Aq.row.Zero.hint (fun _=>none)
def Aq.row.Zero.L0 (N M:Nat) (n p6:Int) (p5:List Int):Option DV:=Bz Aq.row.Zero.E N Tryz.f253 (An Tryz.f253) [1,1,0,1,0] [] M ⟨Gl 23 [(0,.int .i64 n),(1,.fn 254 [] []),(5,.oref 100005),(6,.int .i64 p6)],[(100005,false,.ints 37 .u64 p5)]⟩
theorem Aq.row.Zero.Au (N M:Nat) (n p6:Int) (p5:List Int):Aq.row.Zero.L0 N (M+1) n p6 p5=bif (A4 p6 n) then bif (decide ((List.length p5)+1≤Gp)) then Aq.row.Zero.L0 N M n (Ab (p6+1)) (p5++[(0:Int)]) else none else bif (((decide ((0:Int)≤n))&&(decide (n≤n)))&&((decide ((0:Int)≤n))&&(decide (n≤(List.length p5:Int))))) then some (.ints .fresh .u64 (List.take (Int.toNat (n-0)) (List.drop 0 p5))) else none :=
  Eq.trans (by kernel_rfl)
  (Ej rfl (C2 (Asg (decide ((0:Int)≤n)) (decide (n≤n)) (decide (n≤(List.length p5:Int)))) rfl rfl))
theorem Aq.row.Zero.ev (N:Nat) (n:Int):Bp Aq.row.Zero.E N Tryz.f253 (An Tryz.f253) [.int .i64 n,.fn 254 [] []] =
  Aq.row.Zero.L0 N N n 1 [(4607182418800017408:Int)]:=by kernel_rfl
abbrev _root_.Go.Proofs.S1.Aq.row.Zero.Kn:=A3 Tryz.prog 253 Aq.row.Zero.spec
theorem Aq.row.Zero.Ac (hk:Ax Tryz.prog Aq.row.Zero.A6) (h:∀ (n:Int),Aq.row.Zero.pre [.i n]=true→A8 Aq.row.Zero.E Tryz.f253 [.int .i64 n,.fn 254 [] []] (Aq.row.Zero.out [.i n])):Aq.row.Zero.Kn :=
  Ak (Az hk _ _ _) Tryz.func253 (by kernel_rfl) (by kernel_rfl) h
def Aq.row.Div.hint:Nat→Option Ba
  | 0=>some { keep:=[0,1,5,6],objs:=[(0,5,100005,.ints 37 .u64 [])],boxes:=[] }
  | _=>none
def Aq.row.Div.A6:List (Nat × Entry):=[(259,Aq.Fy.spec)]
def Aq.row.Div.E:Env:=A9 (A5 Aq.row.Div.A6) (fun _=>false) Aq.row.Div.hint (fun _=>none)
def Aq.row.Div.L0 (N M:Nat) (n:Int) (y:List Int) (d p6:Int) (p5:List Int):Option DV:=Bz Aq.row.Div.E N Tryz.f253 (An Tryz.f253) [1,1,0,1,0] [] M ⟨Gl 23 [(0,.int .i64 n),(1,.fn 259 [] [.cellp [.ints .arg .u64 y],.cellp [.int .u64 d]]),(5,.oref 100005),(6,.int .i64 p6)],[(100005,false,.ints 37 .u64 p5)]⟩
theorem Aq.row.Div.Au (N M:Nat) (n:Int) (y:List Int) (d p6:Int) (p5:List Int):Aq.row.Div.L0 N (M+1) n y d p6 p5=bif (A4 p6 n) then bif ((Cu (0≤p6∧p6<List.length y)&&Ai y)&&Af d) then bif (decide ((List.length p5)+1≤Gp)) then Aq.row.Div.L0 N M n y d (Ab (p6+1)) (p5++[(Fa (List.getD y (Int.toNat p6) 0) d)]) else none else none else bif (((decide ((0:Int)≤n))&&(decide (n≤n)))&&((decide ((0:Int)≤n))&&(decide (n≤(List.length p5:Int))))) then some (.ints .fresh .u64 (List.take (Int.toNat (n-0)) (List.drop 0 p5))) else none :=
  Eq.trans (by kernel_rfl)
  (Ej rfl (C2 (Asg (decide ((0:Int)≤n)) (decide (n≤n)) (decide (n≤(List.length p5:Int)))) rfl rfl))
theorem Aq.row.Div.ev (N:Nat) (n:Int) (y:List Int) (d:Int):Bp Aq.row.Div.E N Tryz.f253 (An Tryz.f253) [.int .i64 n,.fn 259 [] [.cellp [.ints .arg .u64 y],.cellp [.int .u64 d]]] =
  Aq.row.Div.L0 N N n y d 1 [(4607182418800017408:Int)]:=by kernel_rfl
abbrev _root_.Go.Proofs.S1.Aq.row.Div.Kn:=A3 Tryz.prog 253 Aq.row.Div.spec
theorem Aq.row.Div.Ac (hk:Ax Tryz.prog Aq.row.Div.A6) (h:∀ (n:Int) (y:List Int) (d:Int),Aq.row.Div.pre [.i n,.l y,.i d]=true→A8 Aq.row.Div.E Tryz.f253 [.int .i64 n,.fn 259 [] [.cellp [.ints .arg .u64 y],.cellp [.int .u64 d]]] (Aq.row.Div.out [.i n,.l y,.i d])):Aq.row.Div.Kn :=
  Ak (Az hk _ _ _) Tryz.func253 (by kernel_rfl) (by kernel_rfl) h
def Aq.Dl.A6:List (Nat × Entry):=[(255,compare.Lj.spec),(258,Aq.lead.spec),(252,Aq.By.spec),(253,(Atr [.i .i64,.fn 254 []] Aq.row.Zero.spec Aq.row.Div.spec)),(256,Aq.Dg.spec),(148,soft.Finite.spec),(233,soft.Dk.spec),(213,soft.Sign.spec),(89,Ae.Bn.spec),(158,Ae.Div.spec),(150,Ae.Finite.spec),(257,Ae.Norm.spec),(88,Ae.Br.spec),(156,Ae.Sub.spec)]
def Aq.Dl.E:Env:=A9 (A5 Aq.Dl.A6) (fun _=>false) (fun _=>none) (fun _=>none)
theorem Aq.Dl.ev (N:Nat) (x:List Int):Bp Aq.Dl.E N Tryz.f245 (An Tryz.f245) [.ints .arg .u64 x]=bif (((List.length x:Int)==(0:Int))||(A4 64 (List.length x:Int))) then some (.tup [.nil,.int .u64 0,.int .u64 0,.int .i64 3]) else bif (Ck x) then bif (!(Da x)) then some (.tup [.nil,.int .u64 0,.int .u64 0,.int .i64 4]) else bif (decide ((1:Int)≤(List.length x:Int))) then bif (Ck (List.drop 1 x)) then bif (Ea (List.drop 1 x)) then bif (Cu (1≤(List.length x:Int)∧(List.length x:Int)≤64)) then bif (decide ((0:Int)<(List.length x:Int))) then some (.tup [.ints .fresh .u64 (I6 (Int.toNat (List.length x:Int)) (fun _=>0)),.int .u64 0,.int .u64 (List.getD x 0 0),.int .i64 0]) else none else none else bif (Ck x) then bif (Af (Be x)) then bif (Ck x&&Cu (List.length x≤1000∧-2300≤(Ab (0-(Bq (Be x))))∧(Ab (0-(Bq (Be x))))≤2300)) then bif (Ck (Bm x (Ab (0-(Bq (Be x)))))&&Cu (List.length (Bm x (Ab (0-(Bq (Be x)))))≤64)) then bif (Ck x) then bif (Af (Oo x)) then bif (!(Dp (Oo x))) then bif (Af (Df (Bm x (Ab (0-(Bq (Be x))))))) then bif (Db (C5 (Df (Bm x (Ab (0-(Bq (Be x))))))) (Bq (Be x))) then bif (Af (Bw (C5 (Df (Bm x (Ab (0-(Bq (Be x))))))) (Bq (Be x)))) then bif (!(Cq (Bw (C5 (Df (Bm x (Ab (0-(Bq (Be x))))))) (Bq (Be x))))) then some (.tup [.nil,.int .u64 0,.int .u64 0,.int .i64 2]) else bif (decide ((0:Int)<(List.length (Bm x (Ab (0-(Bq (Be x))))):Int))) then bif (Af (List.getD (Bm x (Ab (0-(Bq (Be x))))) 0 0)&&Af (C5 (Df (Bm x (Ab (0-(Bq (Be x)))))))) then bif ((Cu (1≤(List.length (Bm x (Ab (0-(Bq (Be x))))):Int)∧(List.length (Bm x (Ab (0-(Bq (Be x))))):Int)≤64∧(List.length (Bm x (Ab (0-(Bq (Be x))))):Int)=List.length (Bm x (Ab (0-(Bq (Be x))))))&&Ai (Bm x (Ab (0-(Bq (Be x))))))&&Af (Eu (List.getD (Bm x (Ab (0-(Bq (Be x))))) 0 0) (C5 (Df (Bm x (Ab (0-(Bq (Be x))))))))) then bif (decide ((0:Int)<(List.length (Bm x (Ab (0-(Bq (Be x))))):Int))) then bif (Af (C5 (Df (Bm x (Ab (0-(Bq (Be x)))))))&&Af (List.getD (Bm x (Ab (0-(Bq (Be x))))) 0 0)) then bif (Af (Eu (C5 (Df (Bm x (Ab (0-(Bq (Be x))))))) (List.getD (Bm x (Ab (0-(Bq (Be x))))) 0 0))&&Af (C5 (Df (Bm x (Ab (0-(Bq (Be x)))))))) then some (.tup [.ints .fresh .u64 (I6 (Int.toNat (List.length (Bm x (Ab (0-(Bq (Be x))))):Int)) (fun j=>Fa (List.getD (Bm x (Ab (0-(Bq (Be x))))) j 0) (Eu (List.getD (Bm x (Ab (0-(Bq (Be x))))) 0 0) (C5 (Df (Bm x (Ab (0-(Bq (Be x)))))))))),.int .u64 (Fa (Eu (C5 (Df (Bm x (Ab (0-(Bq (Be x))))))) (List.getD (Bm x (Ab (0-(Bq (Be x))))) 0 0)) (C5 (Df (Bm x (Ab (0-(Bq (Be x)))))))),.int .u64 (Bw (C5 (Df (Bm x (Ab (0-(Bq (Be x))))))) (Bq (Be x))),.int .i64 0]) else none else none else none else none else none else none else none else none else none else bif (Db (Df (Bm x (Ab (0-(Bq (Be x)))))) (Bq (Be x))) then bif (Af (Bw (Df (Bm x (Ab (0-(Bq (Be x)))))) (Bq (Be x)))) then bif (!(Cq (Bw (Df (Bm x (Ab (0-(Bq (Be x)))))) (Bq (Be x))))) then some (.tup [.nil,.int .u64 0,.int .u64 0,.int .i64 2]) else bif (decide ((0:Int)<(List.length (Bm x (Ab (0-(Bq (Be x))))):Int))) then bif (Af (List.getD (Bm x (Ab (0-(Bq (Be x))))) 0 0)&&Af (Df (Bm x (Ab (0-(Bq (Be x))))))) then bif ((Cu (1≤(List.length (Bm x (Ab (0-(Bq (Be x))))):Int)∧(List.length (Bm x (Ab (0-(Bq (Be x))))):Int)≤64∧(List.length (Bm x (Ab (0-(Bq (Be x))))):Int)=List.length (Bm x (Ab (0-(Bq (Be x))))))&&Ai (Bm x (Ab (0-(Bq (Be x))))))&&Af (Eu (List.getD (Bm x (Ab (0-(Bq (Be x))))) 0 0) (Df (Bm x (Ab (0-(Bq (Be x)))))))) then bif (decide ((0:Int)<(List.length (Bm x (Ab (0-(Bq (Be x))))):Int))) then bif (Af (Df (Bm x (Ab (0-(Bq (Be x))))))&&Af (List.getD (Bm x (Ab (0-(Bq (Be x))))) 0 0)) then bif (Af (Eu (Df (Bm x (Ab (0-(Bq (Be x)))))) (List.getD (Bm x (Ab (0-(Bq (Be x))))) 0 0))&&Af (Df (Bm x (Ab (0-(Bq (Be x))))))) then some (.tup [.ints .fresh .u64 (I6 (Int.toNat (List.length (Bm x (Ab (0-(Bq (Be x))))):Int)) (fun j=>Fa (List.getD (Bm x (Ab (0-(Bq (Be x))))) j 0) (Eu (List.getD (Bm x (Ab (0-(Bq (Be x))))) 0 0) (Df (Bm x (Ab (0-(Bq (Be x))))))))),.int .u64 (Fa (Eu (Df (Bm x (Ab (0-(Bq (Be x)))))) (List.getD (Bm x (Ab (0-(Bq (Be x))))) 0 0)) (Df (Bm x (Ab (0-(Bq (Be x))))))),.int .u64 (Bw (Df (Bm x (Ab (0-(Bq (Be x)))))) (Bq (Be x))),.int .i64 0]) else none else none else none else none else none else none else none else none else none else none else none else none else none else none else none else none else none :=
  Eq.trans (by kernel_rfl)
  (Aw (R7 ((List.length x:Int)==(0:Int))) (Aw (P2 ((List.length x:Int)==(0:Int))) (Aw (P2 ((List.length x:Int)==(0:Int))) (Aw (Wt ((List.length x:Int)==(0:Int))) (C2 (tt5 ((List.length x:Int)==(0:Int)) (A4 64 (List.length x:Int))) rfl (Ej (Ej rfl (C2 (Awl (decide ((1:Int)≤(List.length x:Int)))) (Ej (Ej (C2 (Cs (Cu (1≤(List.length x:Int)∧(List.length x:Int)≤64))) (C2 (Cs (decide ((0:Int)<(List.length x:Int)))) rfl rfl) rfl) rfl) rfl) rfl)) rfl))))))
abbrev _root_.Go.Proofs.S1.Aq.Dl.Kn:=A3 Tryz.prog 245 Aq.Dl.spec
theorem Aq.Dl.Ac (hk:Ax Tryz.prog Aq.Dl.A6) (h:∀ (x:List Int),Aq.Dl.pre [.l x]=true→A8 Aq.Dl.E Tryz.f245 [.ints .arg .u64 x] (Aq.Dl.out [.l x])):Aq.Dl.Kn :=
  Ak (Az hk _ _ _) Tryz.func245 (by kernel_rfl) (by kernel_rfl) h
def Aq.Apply.hint:Nat→Option Ba
  | 0=>some { keep:=[1,3,4,5,10,13,14],objs:=[(14,2,114002,.ints 37 .u64 [])],boxes:=[5,10,13] }
  | 2=>some { keep:=[1,3,4,5,10,13,14,18,90,91,92],objs:=[(14,2,114002,.ints 37 .u64 [])],boxes:=[5,10,13] }
  | _=>none
def Aq.Apply.A6:List (Nat × Entry):=[(160,Aa.Check.spec),(191,Aa.Dz.spec),(189,Ae.Hz.spec),(157,Ae.Mul.spec),(156,Ae.Sub.spec)]
def Aq.Apply.E:Env:=A9 (A5 Aq.Apply.A6) (fun _=>false) Aq.Apply.hint (fun _=>none)
def Aq.Apply.L0 (N M:Nat) (r c:Int) (l:List Int) (i:Int) (v:List Int) (t p14:Int) (p2_1:List Int):Option DV:=Bz Aq.Apply.E N Tryz.f219 (An Tryz.f219) [1,1,1,1,0,1,0] [] M ⟨Gl 118 [(1,.int .i64 i),(3,.ints .arg .u64 v),(4,.int .u64 t),(5,.ptr 5 0 0),(10,.ptr 10 0 0),(13,.ptr 13 0 0),(14,.int .i64 p14)],[(5,false,.box [.int .i64 r,.int .i64 c,.ints .arg .u64 l]),(10,false,.box [.int .i64 0,.int .i64 0,.nil]),(13,false,.box [.int .i64 r,.int .i64 c,.oref 114002]),(114002,false,.ints 37 .u64 p2_1)]⟩
def Aq.Apply.L1 (N M0 M:Nat) (r c:Int) (l:List Int) (i:Int) (v:List Int) (t p92:Int) (p2:List Int) (p14_1 p18:Int) (p90:List Int) (p91:Int):Option DV:=Bz Aq.Apply.E N Tryz.f219 (An Tryz.f219) [1,1,1,1,0,1,0,0,1,0,0,1,1,1,1,0] [M0] M ⟨Gl 118 [(1,.int .i64 i),(3,.ints .arg .u64 v),(4,.int .u64 t),(5,.ptr 5 0 0),(10,.ptr 10 0 0),(13,.ptr 13 0 0),(14,.int .i64 p14_1),(18,.int .u64 p18),(90,.ints .fresh .u64 p90),(91,.int .i64 p91),(92,.int .i64 p92)],[(5,false,.box [.int .i64 r,.int .i64 c,.ints .arg .u64 l]),(10,false,.box [.int .i64 0,.int .i64 0,.nil]),(13,false,.box [.int .i64 r,.int .i64 c,.oref 114002]),(114002,false,.ints 37 .u64 p2)]⟩
theorem Aq.Apply.Au (N M:Nat) (r c:Int) (l:List Int) (i:Int) (v:List Int) (t p14:Int) (p2_1:List Int):Aq.Apply.L0 N (M+1) r c l i v t p14 p2_1=bif (A4 p14 c) then bif (G4 r c l p14&&Cu (0≤i∧i≤r)) then bif (((decide ((0:Int)≤(List.length v:Int)))&&(decide ((List.length v:Int)≤(List.length v:Int))))&&((decide ((0:Int)≤(List.length v:Int)))&&(decide ((List.length v:Int)≤(List.length (Cp c l p14 i (Int.toNat (r-i))):Int))))) then bif ((Ow v (List.take (Int.toNat (List.length v:Int)) (Cp c l p14 i (Int.toNat (r-i))))&&Ai v)&&Ai (List.take (Int.toNat (List.length v:Int)) (Cp c l p14 i (Int.toNat (r-i))))) then bif (Af t&&Af (I9 v (List.take (Int.toNat (List.length v:Int)) (Cp c l p14 i (Int.toNat (r-i)))))) then Aq.Apply.L1 N M N r c l i v t 0 p2_1 p14 (D1 t (I9 v (List.take (Int.toNat (List.length v:Int)) (Cp c l p14 i (Int.toNat (r-i)))))) (List.take (Int.toNat (List.length v:Int)) (Cp c l p14 i (Int.toNat (r-i)))) (List.length (List.take (Int.toNat (List.length v:Int)) (Cp c l p14 i (Int.toNat (r-i)))):Int) else none else none else none else none else some (.tup [.agg [.int .i64 r,.int .i64 c,.ints (.own 114002 37) .u64 p2_1],.int .i64 0]) :=
  Eq.trans (by kernel_rfl)
  (Ej (Ej (C2 (Asg (decide ((0:Int)≤(List.length v:Int))) (decide ((List.length v:Int)≤(List.length v:Int))) (decide ((List.length v:Int)≤(List.length (Cp c l p14 i (Int.toNat (r-i))):Int)))) rfl rfl) rfl) rfl)
theorem Aq.Apply.B7 (N M0 M:Nat) (r c:Int) (l:List Int) (i:Int) (v:List Int) (t p92:Int) (p2:List Int) (p14_1 p18:Int) (p90:List Int) (p91:Int):Aq.Apply.L1 N M0 (M+1) r c l i v t p92 p2 p14_1 p18 p90 p91=bif (A4 p92 p91) then bif ((decide (0≤p92))&&(decide (p92<(List.length p90:Int)))) then bif ((decide (0≤p92))&&(decide (p92<(List.length v:Int)))) then bif (Af p18&&Af (List.getD v (Int.toNat p92) 0)) then bif (Af (List.getD p90 (Int.toNat p92) 0)&&Af (D1 p18 (List.getD v (Int.toNat p92) 0))) then bif ((decide (0≤(Ab ((Ab ((Ab (i+p92))*c))+p14_1))))&&(decide ((Ab ((Ab ((Ab (i+p92))*c))+p14_1))<(List.length p2:Int)))) then bif (decide ((Int.toNat (Ab ((Ab ((Ab (i+p92))*c))+p14_1)))<(List.length p2))) then Aq.Apply.L1 N M0 M r c l i v t (Ab (p92+1)) (List.set p2 (Int.toNat (Ab ((Ab ((Ab (i+p92))*c))+p14_1))) (Eu (List.getD p90 (Int.toNat p92) 0) (D1 p18 (List.getD v (Int.toNat p92) 0)))) p14_1 p18 p90 p91 else none else none else none else none else none else none else Aq.Apply.L0 N M0 r c l i v t (Ab (p14_1+1)) p2 :=
  Eq.trans (by kernel_rfl)
  (Ej (Ej (C2 (Lk (decide (0≤p92)) (decide (p92<(List.length v:Int)))) (C2 (Cs (Af p18&&Af (List.getD v (Int.toNat p92) 0))) (C2 (Cs (Af (List.getD p90 (Int.toNat p92) 0)&&Af (D1 p18 (List.getD v (Int.toNat p92) 0)))) (C2 (Lk (decide (0≤(Ab ((Ab ((Ab (i+p92))*c))+p14_1)))) (decide ((Ab ((Ab ((Ab (i+p92))*c))+p14_1))<(List.length p2:Int)))) (C2 (Cs (decide ((Int.toNat (Ab ((Ab ((Ab (i+p92))*c))+p14_1)))<(List.length p2)))) rfl rfl) rfl) rfl) rfl) rfl) rfl) rfl)
theorem Aq.Apply.ev (N:Nat) (r c:Int) (l:List Int) (i k:Int) (v:List Int) (t:Int):Bp Aq.Apply.E N Tryz.f219 (An Tryz.f219) [.agg [.int .i64 r,.int .i64 c,.ints .arg .u64 l],.int .i64 i,.int .i64 k,.ints .arg .u64 v,.int .u64 t]=bif ((Ks r c l) !=(0:Int)) then some (.tup [.agg [.int .i64 0,.int .i64 0,.nil],.int .i64 (Ks r c l)]) else bif (((((A4 i 0)||(A4 r (List.length v:Int)))||(A4 (Ab (r-(List.length v:Int))) i))||(A4 k 0))||(A4 c k)) then some (.tup [.agg [.int .i64 0,.int .i64 0,.nil],.int .i64 3]) else bif (decide (0+(List.length l)≤Gp)) then Aq.Apply.L0 N N r c l i v t k ([]++l) else none :=
  Eq.trans (by kernel_rfl)
  (Ej rfl (Aw (R7 (A4 i 0)) (Aw (P2 (A4 i 0)) (Aw (R7 (A4 i 0)) (Aw (P2 (A4 i 0)) (Aw (tt8 (A4 i 0)) (Aw (Wt (A4 i 0)) (Aw (Adq (A4 i 0) (A4 r (List.length v:Int))) (Aw (Adq (A4 i 0) (A4 r (List.length v:Int))) (Aw (Agf (A4 i 0) (A4 r (List.length v:Int))) (Aw (Adq (A4 i 0) (A4 r (List.length v:Int))) (Aw (Agf (A4 i 0) (A4 r (List.length v:Int))) (Aw (Apm (A4 i 0) (A4 r (List.length v:Int))) (Aw (Apm (A4 i 0) (A4 r (List.length v:Int))) (Aw (Apr (A4 i 0) (A4 r (List.length v:Int))) (Aw (Ajj (A4 i 0) (A4 r (List.length v:Int)) (A4 (Ab (r-(List.length v:Int))) i)) (Aw (Adr (A4 i 0) (A4 r (List.length v:Int)) (A4 (Ab (r-(List.length v:Int))) i)) (Aw (Aps (A4 i 0) (A4 r (List.length v:Int)) (A4 (Ab (r-(List.length v:Int))) i)) (Aw (Apt (A4 i 0) (A4 r (List.length v:Int)) (A4 (Ab (r-(List.length v:Int))) i) (A4 k 0)) (Aw (Apt (A4 i 0) (A4 r (List.length v:Int)) (A4 (Ab (r-(List.length v:Int))) i) (A4 k 0)) (Aw (Aur (A4 i 0) (A4 r (List.length v:Int)) (A4 (Ab (r-(List.length v:Int))) i) (A4 k 0)) (Aw (Aus (A4 i 0) (A4 r (List.length v:Int)) (A4 (Ab (r-(List.length v:Int))) i) (A4 k 0)) (Aw (Aut (A4 i 0) (A4 r (List.length v:Int)) (A4 (Ab (r-(List.length v:Int))) i) (A4 k 0)) (C2 (Awk (A4 i 0) (A4 r (List.length v:Int)) (A4 (Ab (r-(List.length v:Int))) i) (A4 k 0) (A4 c k)) rfl (C2 (Cs (decide (0+(List.length l)≤Gp))) rfl rfl)))))))))))))))))))))))))
abbrev _root_.Go.Proofs.S1.Aq.Apply.Kn:=A3 Tryz.prog 219 Aq.Apply.spec
theorem Aq.Apply.Ac (hk:Ax Tryz.prog Aq.Apply.A6) (h:∀ (r c:Int) (l:List Int) (i k:Int) (v:List Int) (t:Int),Aq.Apply.pre [.i r,.i c,.l l,.i i,.i k,.l v,.i t]=true→A8 Aq.Apply.E Tryz.f219 [.agg [.int .i64 r,.int .i64 c,.ints .arg .u64 l],.int .i64 i,.int .i64 k,.ints .arg .u64 v,.int .u64 t] (Aq.Apply.out [.i r,.i c,.l l,.i i,.i k,.l v,.i t])):Aq.Apply.Kn :=
  Ak (Az hk _ _ _) Tryz.func219 (by kernel_rfl) (by kernel_rfl) h
end EqHouse
open EqHouse
theorem W7 (x:Int):((Bd x) !=(0:Int))=!(decide (Bd x=0)):=by
  rw [Ax9]; simp
theorem Aci (N:Nat) {x:List Int} (hx:Ck x=true):∀ (k i F:Nat),i+k=x.length→k<F→Aq.By.L0 N F x (i:Int)=some (.bool (Ea (x.drop i))):=by
  obtain ⟨hl,hu⟩:=H3 hx
  intro k
  induction k with
  | zero =>
    intro i F hi hF
    obtain ⟨F,rfl⟩:∃ G,F=G+1:=⟨F-1,by omega⟩
    rw [Aq.By.Au,As,Axy (by omega),Axx,Ax7 (by omega)]; rfl
  | succ k ih =>
    intro i F hi hF
    obtain ⟨F,rfl⟩:∃ G,F=G+1:=⟨F-1,by omega⟩
    rw [Aq.By.Au,As,Axu (show (i:Int)<(x.length:Int) by omega),Axt,Axu (show (0:Int)≤(i:Int) by omega),Axz,Axt,Axv,hu i (by omega),Axt,W7,G3 (by omega)]
    unfold Ea
    rw [List.all_cons]
    cases decide (Bd (x.getD i 0)=0) with
    | false=>rfl
    | true =>
      rw [Bool.not_true,Axx,Bool.true_and,Am (by omega) (by omega)]
      exact ih (i+1) F (by omega) (by omega)
theorem Aq.By.known:Aq.By.Kn:=Aq.By.Ac (.cons soft.Kind.known .nil) fun x hp=>by
  refine ⟨x.length+1,Aq.By.out [.l x],[],?_,.bool⟩
  rw [Aq.By.ev]
  exact Aci (x.length+1) hp x.length 0 (x.length+1) (by omega) (by omega)
theorem Akw (N:Nat) {x:List Int} (hx:Ck x=true):∀ (k i F:Nat),i+k=x.length→k<F→Aq.lead.L0 N F x (i:Int)=some (.int .u64 (Oo (x.drop i))):=by
  obtain ⟨hl,hu⟩:=H3 hx
  intro k
  induction k with
  | zero =>
    intro i F hi hF
    obtain ⟨F,rfl⟩:∃ G,F=G+1:=⟨F-1,by omega⟩
    rw [Aq.lead.Au,As,Axy (by omega),Axx,Ax7 (by omega)]; rfl
  | succ k ih =>
    intro i F hi hF
    obtain ⟨F,rfl⟩:∃ G,F=G+1:=⟨F-1,by omega⟩
    rw [Aq.lead.Au,As,Axu (show (i:Int)<(x.length:Int) by omega),Axt,Axu (show (0:Int)≤(i:Int) by omega),Axz,Axt,Axv,hu i (by omega),Axt,W7,G3 (by omega),Oo]
    by_cases h:Bd (x.getD i 0)=0
    · rw [Axu h,if_pos h,Bool.not_true,Axx,Am (by omega) (by omega)]
      exact ih (i+1) F (by omega) (by omega)
    · rw [Axy h,if_neg h]; rfl
theorem Aq.lead.known:Aq.lead.Kn:=Aq.lead.Ac (.cons soft.Kind.known .nil) fun x hp=>by
  refine ⟨x.length+1,Aq.lead.out [.l x],[],?_,.int⟩
  rw [Aq.lead.ev]
  exact Akw (x.length+1) hp x.length 0 (x.length+1) (by omega) (by omega)
theorem Xj {x:List Int} {i:Nat} (h:i<x.length) (f:Int→Int):(x.take (i+1)).map f=(x.take i).map f++[f (x.getD i 0)]:=by
  rw [List.take_succ_eq_append_getElem h,List.map_append,Ax3,Aya h]; rfl
theorem Ab2 (N:Nat) {x:List Int} {e:Int} (hx:Ck x=true) (hl:x.length≤1000) (he:-2300≤e∧e≤2300):∀ (k i F:Nat),i+k=x.length→k<F →
    Aq.Dg.L0 N F x e (i:Int) ((x.take i).map fun b=>Bw b e)=some (.ints (.own 100005 tB) .u64 (Bm x e)):=by
  obtain ⟨_,hu⟩:=H3 hx
  intro k
  induction k with
  | zero =>
    intro i F hi hF
    obtain ⟨F,rfl⟩:∃ G,F=G+1:=⟨F-1,by omega⟩
    rw [Aq.Dg.Au,As,Axy (by omega),Axx,List.take_of_length_le (by omega)]; rfl
  | succ k ih =>
    intro i F hi hF
    obtain ⟨F,rfl⟩:∃ G,F=G+1:=⟨F-1,by omega⟩
    rw [Aq.Dg.Au,As,Axu (show (i:Int)<(x.length:Int) by omega),Axt,Axu (show (0:Int)≤(i:Int) by omega),Axz,Axt,Axv,
      show Db (List.getD x i 0) e=true from Ad.2 ⟨hu i (by omega),Ar.2 he⟩,Axt,Axu (by rw [List.length_map,List.length_take]; unfold Gp; omega),Axt,Am (by omega) (by omega)]
    have:=ih (i+1) F (by omega) (by omega)
    rw [Xj (by omega)] at this
    exact this
theorem Aq.Dg.known:Aq.Dg.Kn:=Aq.Dg.Ac (.cons Ae.Br.known .nil) fun x k hp=>by
  obtain ⟨h1,h2⟩:=Ad.1 hp
  have h2:=Ar.1 h2
  refine ⟨x.length+1,.ints (.own 100005 tB) .u64 (Bm x k),[100005],?_,.drop _ _ _ _ (List.mem_singleton.2 rfl)⟩
  rw [Aq.Dg.ev]
  exact Ab2 (x.length+1) h1 h2.1 h2.2 x.length 0 (x.length+1) (by omega) (by omega)
theorem Aq.Fz.known:Aq.Fz.Kn:=Aq.Fz.Ac .nil fun i _=>⟨0,Aq.Fz.out [.i i],[],by rw [Aq.Fz.ev]; rfl,.int⟩
theorem Aq.Fy.known:Aq.Fy.Kn:=Aq.Fy.Ac (.cons Ae.Div.known .nil) fun i y d hp=>by
  obtain ⟨h1,h2⟩:=Ad.1 (show ((Cu (0≤i∧i<List.length y)&&Ai y)&&Af d)=true from hp)
  obtain ⟨h3,h4⟩:=Ad.1 h1
  have h3:=Ar.1 h3
  refine ⟨0,Aq.Fy.out [.i i,.l y,.i d],[],?_,.int⟩
  rw [Aq.Fy.ev,Axu h3.1,Axu h3.2,It h4,h2]; rfl
theorem Jm (n i:Nat) (f:Nat→Int) (h:i+1=n):I6 n f=As3::(List.range i).map fun j=>f (j+1):=by unfold I6; rw [show n-1=i by omega]
theorem Aid {n:Nat} (f:Nat→Int) (h:n≠0):(((decide ((0:Int)≤(n:Int)))&&(decide ((n:Int)≤(n:Int))))&&((decide ((0:Int)≤(n:Int)))&&(decide ((n:Int)≤(List.length (I6 n f):Int)))))=true ∧
    List.take (Int.toNat ((n:Int)-(0:Int))) (List.drop 0 (I6 n f))=I6 n f:=by
  have:=O7 h f
  refine ⟨?_,?_⟩
  · rw [Axu (by omega),Axu (by omega),Axu (by omega)]; rfl
  · rw [List.drop_zero,List.take_of_length_le (by omega)]
theorem Zs (N:Nat) {n:Nat} (h64:n≤64) (h0:n≠0):∀ (k i F:Nat),i+1+k=n→k<F →
    Aq.row.Zero.L0 N F (n:Int) ((i+1:Nat):Int) (I6 (i+1) fun _=>0)=some (.ints .fresh .u64 (I6 n fun _=>0)):=by
  intro k
  induction k with
  | zero =>
    intro i F hi hF
    obtain ⟨F,rfl⟩:∃ G,F=G+1:=⟨F-1,by omega⟩
    obtain rfl:i+1=n:=by omega
    obtain ⟨e1,e2⟩:=Aid (fun _=>0) h0
    rw [Aq.row.Zero.Au,As,Axy (by omega),Axx,e1,Axt,e2]
  | succ k ih =>
    intro i F hi hF
    obtain ⟨F,rfl⟩:∃ G,F=G+1:=⟨F-1,by omega⟩
    rw [Aq.row.Zero.Au,As,Axu (by omega),Axt,Axu (by rw [O7 (by omega)]; unfold Gp; omega),Axt,Am (by omega) (by omega)]
    have:=ih (i+1) F (by omega) (by omega)
    rw [Jm (i+1+1) (i+1) _ rfl,Gz] at this
    rw [Jm (i+1) i _ rfl]
    exact this
theorem Aq.row.Zero.known:Aq.row.Zero.Kn:=Aq.row.Zero.Ac (.cons Aq.Fz.known .nil) fun n hp=>by
  have hp:=Ar.1 (show Cu (1≤n∧n≤64)=true from hp)
  obtain ⟨m,rfl⟩:∃ m:Nat,n=m:=⟨n.toNat,by omega⟩
  refine ⟨65,Aq.row.Zero.out [.i m],[],?_,.Ny⟩
  show _=some (DV.ints .fresh .u64 (I6 (Int.toNat (m:Int)) fun _=>0))
  rw [Aq.row.Zero.ev,Axv]
  exact Zs 65 (by omega) (by omega) (m-1) 0 65 (by omega) (by omega)
theorem Ab5 (N:Nat) {n:Nat} {y:List Int} {d:Int} (h64:n≤64) (h0:n≠0) (hy:n=y.length) (al:Ai y=true) (hd:Af d=true):∀ (k i F:Nat),i+1+k=n→k<F →
    Aq.row.Div.L0 N F (n:Int) y d ((i+1:Nat):Int) (I6 (i+1) fun j=>Fa (y.getD j 0) d)=some (.ints .fresh .u64 (I6 n fun j=>Fa (y.getD j 0) d)):=by
  intro k
  induction k with
  | zero =>
    intro i F hi hF
    obtain ⟨F,rfl⟩:∃ G,F=G+1:=⟨F-1,by omega⟩
    obtain rfl:i+1=n:=by omega
    obtain ⟨e1,e2⟩:=Aid (fun j=>Fa (y.getD j 0) d) h0
    rw [Aq.row.Div.Au,As,Axy (by omega),Axx,e1,Axt,e2]
  | succ k ih =>
    intro i F hi hF
    obtain ⟨F,rfl⟩:∃ G,F=G+1:=⟨F-1,by omega⟩
    rw [Aq.row.Div.Au,As,Axu (by omega),Axt,Ar.2 (show 0≤((i+1:Nat):Int)∧((i+1:Nat):Int)<(y.length:Int) by omega),al,hd,Axz,Axz,Axt,Axu (by rw [O7 (by omega)]; unfold Gp; omega),Axt,Am (by omega) (by omega),Axv]
    have:=ih (i+1) F (by omega) (by omega)
    rw [Jm (i+1+1) (i+1) _ rfl,Gz] at this
    rw [Jm (i+1) i _ rfl]
    exact this
theorem Aq.row.Div.known:Aq.row.Div.Kn:=Aq.row.Div.Ac (.cons Aq.Fy.known .nil) fun n y d hp=>by
  obtain ⟨h1,h2⟩:=Ad.1 (show ((Cu (1≤n∧n≤64∧n=List.length y)&&Ai y)&&Af d)=true from hp)
  obtain ⟨h3,h4⟩:=Ad.1 h1
  have h3:=Ar.1 h3
  obtain ⟨m,rfl⟩:∃ m:Nat,n=m:=⟨n.toNat,by omega⟩
  refine ⟨65,Aq.row.Div.out [.i m,.l y,.i d],[],?_,.Ny⟩
  show _=some (DV.ints .fresh .u64 (I6 (Int.toNat (m:Int)) fun j=>Fa (List.getD y j 0) d))
  rw [Aq.row.Div.ev,Axv]
  exact Ab5 65 (by omega) (by omega) (by omega) h4 h2 (m-1) 0 65 (by omega) (by omega)
theorem Q9 {x:List Int} {k:Int} {j:Nat} (h:j<x.length):(Bm x k).getD j 0=Bw (x.getD j 0) k:=by
  unfold Bm
  rw [Ax3,List.getElem?_map,Aya h,Ax3,Aya h]; rfl
theorem Aag (x:List Int) (k:Int):(Bm x k).length=x.length:=by unfold Bm; rw [List.length_map]
theorem Aah {x:List Int} (k:Int) (h:Ai x=true):Ai (Bm x k)=true:=Rt fun y hy=>by
  obtain ⟨b,hb,rfl⟩:=List.mem_map.1 hy
  exact Hr (Ar.1 h b hb)
theorem W6:∀ {x:List Int},Ai x=true→Af (Oo x)=true
  | [],_=>H0
  | b::l,h=>by
    unfold Oo
    split
    · exact W6 (Rt fun y hy=>Ar.1 h y (List.mem_cons_of_mem _ hy))
    · exact Ar.1 h b List.mem_cons_self
theorem Rs {x:List Int} (h:Ck x=true):Ai x=true:=Ar.2 (Ar.1 h).2
theorem Lu {drops:List Nat} {g:Af6}:Wk drops .nil (.ints g .u64 []):=.nil g .u64
theorem Aak {n:Nat} {f g:Nat→Int} (h:∀ j,j<n→f j=g j):I6 n f=I6 n g:=by
  unfold I6
  congr 1
  exact List.map_congr_left fun j hj=>h _ (by have:=List.mem_range.1 hj; omega)
theorem Aq.Dl.known:Aq.Dl.Kn:=Aq.Dl.Ac (.cons compare.Lj.known (.cons Aq.lead.known (.cons Aq.By.known (.cons (A3.alt Aq.row.Zero.known Aq.row.Div.known) (.cons Aq.Dg.known (.cons soft.Finite.known (.cons soft.Dk.known (.cons soft.Sign.known (.cons Ae.Bn.known (.cons Ae.Div.known (.cons Ae.Finite.known (.cons Ae.Norm.known (.cons Ae.Br.known (.cons Ae.Sub.known .nil)))))))))))))) fun x hp=>by
  have hx:Ck x=true:=hp
  have al:=Rs hx
  have he:=Za (Be x)
  show ∃ N dv drops,_=some dv∧Wk drops dv (DV.tup [.ints .fresh .u64 (Cg x).1,.int .u64 (Cg x).2.1,.int .u64 (Cg x).2.2.1,.int .i64 (Cg x).2.2.2])
  unfold Cg
  by_cases h1:x.length=0∨64<x.length
  · rw [if_pos h1]
    refine ⟨0,.tup [.nil,.int .u64 0,.int .u64 0,.int .i64 3],[],?_,Wk.Gw (.cons Lu (.cons .int (.cons .int (.cons .int .nil))))⟩
    have:(((List.length x:Int)==(0:Int))||(A4 (64:Int) (List.length x:Int)))=true:=by
      rw [As,Bool.or_eq_true,beq_iff_eq,Ax0]; omega
    rw [Aq.Dl.ev,this,Axt]
  have c1:(((List.length x:Int)==(0:Int))||(A4 (64:Int) (List.length x:Int)))=false:=by
    rw [As,Bool.or_eq_false_iff,beq_eq_false_iff_ne,Ayc]; omega
  rw [if_neg h1]
  by_cases h2:Da x=true
  · rw [if_pos h2]
    unfold Jh
    have ok1:Ck (x.drop 1)=true:=I5 (Rt fun y hy=>Ar.1 al y (List.mem_of_mem_drop hy)) (by rw [List.length_drop]; omega)
    have d1:decide ((1:Int)≤(x.length:Int))=true:=Axu (by omega)
    have d0:decide ((0:Int)<(x.length:Int))=true:=Axu (by omega)
    by_cases h3:Ea (x.drop 1)=true
    · rw [if_pos h3]
      refine ⟨0,.tup [.ints .fresh .u64 (I6 x.length fun _=>0),.int .u64 0,.int .u64 (x.getD 0 0),.int .i64 0],[],?_,Wk.Gw (.cons .Ny (.cons .int (.cons .int (.cons .int .nil))))⟩
      rw [Aq.Dl.ev,c1,Axx,hx,Axt,h2,Bool.not_true,Axx,d1,Axt,ok1,Axt,h3,Axt,Ar.2 (show 1≤(x.length:Int)∧(x.length:Int)≤64 by omega),Axt,d0,Axt,Axv]
    · rw [if_neg h3]
      have h3:Ea (x.drop 1)=false:=by simpa using h3
      have ew:Ab (0-Bq (Be x))=-Bq (Be x):=by rw [Am (by omega) (by omega)]; omega
      have ly:=Aag x (-Bq (Be x))
      have ay:=Aah (-Bq (Be x)) al
      have oky:Ck (Bm x (-Bq (Be x)))=true:=I5 ay (by omega)
      have gy:=Q9 (x:=x) (k:=-Bq (Be x)) (j:=0) (by omega)
      have iy:=It ay 0
      have key:∀ mu:Int,muI x=mu→Af mu=true→∀ b:Bool,Cq (E4 x)=b→∃ dv:DV,(bif (!b) then
              some (.tup [.nil,.int .u64 (0:Int),.int .u64 (0:Int),.int .i64 (2:Int)])
            else some (.tup [.ints .fresh .u64 (I6 (Int.toNat (List.length (Bm x (-Bq (Be x))):Int)) (fun j=>Fa (List.getD (Bm x (-Bq (Be x))) j 0) (Eu (List.getD (Bm x (-Bq (Be x))) 0 0) mu))),.int .u64 (Fa (Eu mu (List.getD (Bm x (-Bq (Be x))) 0 0)) mu),.int .u64 (Bw mu (Bq (Be x))),.int .i64 (0:Int)]))=some dv ∧
          Wk [] dv (DV.tup [.ints .fresh .u64 (if Cq (E4 x)=true then (R4 x,Ss x,E4 x,(0:Int)) else ([],0,0,2)).1,.int .u64 (if Cq (E4 x)=true then (R4 x,Ss x,E4 x,(0:Int)) else ([],0,0,2)).2.1,.int .u64 (if Cq (E4 x)=true then (R4 x,Ss x,E4 x,(0:Int)) else ([],0,0,2)).2.2.1,.int .i64 (if Cq (E4 x)=true then (R4 x,Ss x,E4 x,(0:Int)) else ([],0,0,2)).2.2.2]):=by
        intro mu hmu _ b hb
        rw [hb]
        cases b with
        | false=>exact ⟨_,rfl,Wk.Gw (.cons Lu (.cons .int (.cons .int (.cons .int .nil))))⟩
        | true =>
          refine ⟨_,rfl,?_⟩
          rw [if_pos rfl]
          dsimp only
          have e1:I6 (Int.toNat (List.length (Bm x (-Bq (Be x))):Int)) (fun j=>Fa (List.getD (Bm x (-Bq (Be x))) j 0) (Eu (List.getD (Bm x (-Bq (Be x))) 0 0) mu))=R4 x:=by
            unfold R4
            rw [Axv,ly,gy,← hmu]
            exact Aak fun j hj=>by rw [Q9 hj]; rfl
          have e2:Fa (Eu mu (List.getD (Bm x (-Bq (Be x))) 0 0)) mu=Ss x:=by
            unfold Ss
            rw [gy,hmu]; rfl
          have e3:Bw mu (Bq (Be x))=E4 x:=by unfold E4; rw [hmu]
          rw [e1,e2,e3]
          exact Wk.Gw (.cons .Ny (.cons .int (.cons .int (.cons .int .nil))))
      have dz:decide ((0:Int)<((Bm x (-Bq (Be x))).length:Int))=true:=Axu (by omega)
      have cz':Cu (1≤((Bm x (-Bq (Be x))).length:Int)∧((Bm x (-Bq (Be x))).length:Int)≤64∧True)=true:=Ar.2 ⟨by omega,by omega,trivial⟩
      have p1:Cu (x.length≤1000∧-2300≤-Bq (Be x)∧-Bq (Be x)≤2300)=true:=Ar.2 (by omega)
      have p2:Cu ((Bm x (-Bq (Be x))).length≤64)=true:=Ar.2 (by omega)
      have sp:∀ mu:Int,Af mu=true→Db mu (Bq (Be x))=true:=fun mu h=>Ad.2 ⟨h,Ar.2 (by omega)⟩
      have ny:=W3 (Bm x (-Bq (Be x)))
      cases hn:Dp (Oo x) with
      | true =>
        have hm:muI x=Df (Bm x (-Bq (Be x))):=by unfold muI; rw [if_pos hn]
        obtain ⟨dv,k1,k2⟩:=key _ hm ny (Cq (E4 x)) rfl
        refine ⟨0,dv,[],?_,k2⟩
        rw [← k1]
        have eb:E4 x=Bw (Df (Bm x (-Bq (Be x)))) (Bq (Be x)):=by unfold E4; rw [hm]
        rw [Aq.Dl.ev,ew,eb]
        simp only [c1,Axx,hx,Axt,h2,Bool.not_true,d1,ok1,h3,N2,p1,oky,p2,Axz,W6 al,hn,sp _ ny,Hr ny,dz,cz',ay,iy,ny,Nv iy ny,Nv ny iy]
      | false =>
        have hm:muI x=C5 (Df (Bm x (-Bq (Be x)))):=by unfold muI; rw [if_neg (by rw [hn]; decide)]
        have my:=Yk ny
        obtain ⟨dv,k1,k2⟩:=key _ hm my (Cq (E4 x)) rfl
        refine ⟨0,dv,[],?_,k2⟩
        rw [← k1]
        have eb:E4 x=Bw (C5 (Df (Bm x (-Bq (Be x))))) (Bq (Be x)):=by unfold E4; rw [hm]
        rw [Aq.Dl.ev,ew,eb]
        simp only [c1,Axx,hx,Axt,h2,Bool.not_true,d1,ok1,h3,N2,p1,oky,p2,Axz,W6 al,hn,Bool.not_false,sp _ my,Hr my,dz,cz',ay,iy,ny,my,Nv iy my,Nv my iy]
  · rw [if_neg h2]
    have h2:Da x=false:=by simpa using h2
    refine ⟨0,.tup [.nil,.int .u64 0,.int .u64 0,.int .i64 4],[],?_,Wk.Gw (.cons Lu (.cons .int (.cons .int (.cons .int .nil))))⟩
    rw [Aq.Dl.ev,c1,Axx,hx,Axt,h2,Bool.not_false,Axt]
open EqHouse
def apD (i k c j a b:Nat):Bool:=decide (k≤b∧i≤a∧(b<c∨(b=c∧a<i+j)))
def apS (R C:Nat) (l:List Int) (i k:Nat) (v:List Int) (t:Int) (c j:Nat):List Int :=
  B5 R C fun a b=>if apD i k c j a b=true∧a<i+v.length then Pq (C:Int) l (i:Int) (k:Int) v t (a:Int) (b:Int) else D6 (C:Int) l (a:Int) (b:Int)
section
variable {R C i k:Nat} {l v:List Int} {t:Int}
theorem Ajb (c j:Nat):(apS R C l i k v t c j).length=R*C:=B8 _ _ _
theorem Afy (h:l.length=R*C):apS R C l i k v t k 0=l:=by
  unfold apS
  conv=>rhs; rw [← Vm h]
  refine D4 fun a b ha hb=>?_
  rw [if_neg]
  rintro ⟨h,_⟩
  have:=of_decide_eq_true h
  omega
theorem Afz (c:Nat):apS R C l i k v t c v.length=apS R C l i k v t (c+1) 0:=by
  unfold apS
  refine D4 fun a b ha hb=>?_
  have:(apD i k c v.length a b=true∧a<i+v.length)↔(apD i k (c+1) 0 a b=true∧a<i+v.length):=by
    unfold apD
    rw [Ax0,Ax0]
    omega
  by_cases h:apD i k c v.length a b=true∧a<i+v.length
  · rw [if_pos h,if_pos (this.1 h)]
  · rw [if_neg h,if_neg (fun hh=>h (this.2 hh))]
theorem Ajc:apS R C l i k v t C 0=E7 R C l (i:Int) (k:Int) v t:=by
  unfold apS E7
  refine D4 fun a b ha hb=>?_
  by_cases h:apD i k C 0 a b=true∧a<i+v.length
  · rw [if_pos h]
  · rw [if_neg h]
    unfold Pq
    rw [if_neg]
    intro hh
    refine h ⟨?_,by omega⟩
    unfold apD
    rw [Ax0]; omega
theorem Aja {c j:Nat} (hc:c<C) (hk:k≤c) (hj:j<v.length) {x:Int} (hx:x=Pq (C:Int) l (i:Int) (k:Int) v t ((i+j:Nat):Int) (c:Int)) :
    List.set (apS R C l i k v t c j) ((i+j)*C+c) x=apS R C l i k v t c (j+1):=by
  unfold apS
  rw [Uo hc]
  refine D4 fun a b ha hb=>?_
  by_cases h:a=i+j∧b=c
  · obtain ⟨rfl,rfl⟩:=h
    rw [if_pos ⟨rfl,rfl⟩,if_pos ⟨by unfold apD; rw [Ax0]; omega,by omega⟩,hx]
  · rw [if_neg h]
    have:(apD i k c j a b=true∧a<i+v.length)↔(apD i k c (j+1) a b=true∧a<i+v.length):=by
      unfold apD
      rw [Ax0,Ax0]
      omega
    by_cases h2:apD i k c j a b=true∧a<i+v.length
    · rw [if_pos h2,if_pos (this.1 h2)]
    · rw [if_neg h2,if_neg (fun hh=>h2 (this.2 hh))]
theorem Afx {c j:Nat} (hk:k≤c) (hj:j<v.length):Pq (C:Int) l (i:Int) (k:Int) v t ((i+j:Nat):Int) (c:Int) =
    Eu ((Cp (C:Int) l (c:Int) (i:Int) v.length).getD j 0) (D1 (Ta (C:Int) l (i:Int) v t (c:Int)) (v.getD j 0)):=by
  unfold Pq
  rw [if_pos ⟨by omega,by omega,by omega⟩]
  have e1:(((i+j:Nat):Int)-(i:Int)).toNat=j:=by omega
  have e2:(Cp (C:Int) l (c:Int) (i:Int) v.length).getD j 0=D6 (C:Int) l ((i+j:Nat):Int) (c:Int):=by
    unfold Cp
    rw [Ax3,List.getElem?_map,List.getElem?_range hj]
    show D6 (C:Int) l ((i:Int)+(j:Int)) (c:Int)=_
    rw [← Int.natCast_add]
  rw [e1,e2]
theorem Ad7 {c b i:Int} {l:List Int} {m n:Nat} (h:m≤n):List.take m (Cp c l b i n)=Cp c l b i m:=by
  unfold Cp
  rw [← List.map_take,List.take_range,Nat.min_eq_left h]
theorem Ahu (N M0:Nat) (r6:R≤6) (c6:C≤6) (al:Ai l=true) (av:Ai v=true) (hv:i+v.length≤R) {c:Nat} (hc:c<C) (hk:k≤c):∀ (cnt j F:Nat),j+cnt=v.length→cnt<F →
    Aq.Apply.L1 N M0 F (R:Int) (C:Int) l (i:Int) v t (j:Int) (apS R C l i k v t c j) (c:Int) (Ta (C:Int) l (i:Int) v t (c:Int)) (Cp (C:Int) l (c:Int) (i:Int) v.length) (v.length:Int) =
    Aq.Apply.L0 N M0 (R:Int) (C:Int) l (i:Int) v t ((c+1:Nat):Int) (apS R C l i k v t (c+1) 0):=by
  intro cnt
  induction cnt with
  | zero =>
    intro j F hj hF
    obtain ⟨F,rfl⟩:∃ G,F=G+1:=⟨F-1,by omega⟩
    obtain rfl:j=v.length:=by omega
    rw [Aq.Apply.B7,As,Axy (by omega),Axx,Am (by omega) (by omega),Afz]
    rfl
  | succ cnt ih =>
    intro j F hj hF
    obtain ⟨F,rfl⟩:∃ G,F=G+1:=⟨F-1,by omega⟩
    have hm:=Jk (a:=((i+j:Nat):Int)) (b:=(C:Int)) (by omega) (by omega) (by omega) (by omega)
    have hpl:=Kk (show i+j<R by omega) hc
    have e1:Ab ((i:Int)+(j:Int))=((i+j:Nat):Int):=by rw [Am (by omega) (by omega)]; omega
    have e2:Ab (((i+j:Nat):Int)*(C:Int))=(((i+j)*C:Nat):Int):=by rw [Am (by omega) (by omega)]; exact (Aye _ _).symm
    have h36:=Nat.mul_le_mul r6 c6
    have e3:Ab ((((i+j)*C:Nat):Int)+(c:Int))=(((i+j)*C+c:Nat):Int):=by rw [Am (by omega) (by omega)]; omega
    have hlen:=Ajb (R:=R) (C:=C) (l:=l) (i:=i) (k:=k) (v:=v) (t:=t) c j
    have sl:=Ga (C:Int) (c:Int) (i:Int) v.length l
    rw [Aq.Apply.B7,As,Axu (show (j:Int)<(v.length:Int) by omega),Axt,e1,e2,e3,sl,Axu (show (0:Int)≤(j:Int) by omega),Axu (show (j:Int)<(v.length:Int) by omega),Axz,Axt,Axv,Axv]
    have a1:=It av j
    have a2:=It (O4 (c:=(C:Int)) (b:=(c:Int)) (i:=(i:Int)) (n:=v.length) al) j
    have a3:Af (Ta (C:Int) l (i:Int) v t (c:Int))=true:=Jg _ _
    rw [Axt,a3,a1,Axz,Axt,a2,Jg,Axz,Axt,Axu (by omega),Axu (by omega),Axz,Axt,Axu (by omega),Axt,
      Aja hc hk (by omega) (Afx hk (by omega)).symm,Am (by omega) (by omega)]
    exact ih (j+1) F (by omega) (by omega)
theorem Ahv (N:Nat) (r6:R≤6) (c6:C≤6) (hN:7<N) (hr:A0 (R:Int) (C:Int) l=true) (al:Ai l=true) (av:Ai v=true) (ht:Af t=true) (hv:i+v.length≤R):∀ (cnt c F:Nat),c+cnt=C→k≤c→cnt<F →
    Aq.Apply.L0 N F (R:Int) (C:Int) l (i:Int) v t (c:Int) (apS R C l i k v t c 0) =
    some (.tup [.agg [.int .i64 (R:Int),.int .i64 (C:Int),.ints (.own 114002 tB) .u64 (E7 R C l (i:Int) (k:Int) v t)],.int .i64 (0:Int)]):=by
  intro cnt
  induction cnt with
  | zero =>
    intro c F hc hk hF
    obtain ⟨F,rfl⟩:∃ G,F=G+1:=⟨F-1,by omega⟩
    obtain rfl:c=C:=by omega
    rw [Aq.Apply.Au,As,Axy (by omega),Axx,Ajc]
  | succ cnt ih =>
    intro c F hc hk hF
    obtain ⟨F,rfl⟩:∃ G,F=G+1:=⟨F-1,by omega⟩
    have cp:G4 (R:Int) (C:Int) l (c:Int)=true:=Ad.2 ⟨hr,Ar.2 (by omega)⟩
    have e0:Int.toNat ((R:Int)-(i:Int))=R-i:=by omega
    have st:=Ad7 (c:=(C:Int)) (b:=(c:Int)) (i:=(i:Int)) (l:=l) (m:=v.length) (n:=R-i) (by omega)
    have sl:=Ga (C:Int) (c:Int) (i:Int) v.length l
    have sl2:=Ga (C:Int) (c:Int) (i:Int) (R-i) l
    have sa:=O4 (c:=(C:Int)) (b:=(c:Int)) (i:=(i:Int)) (n:=v.length) al
    have ft:Ow v (Cp (C:Int) l (c:Int) (i:Int) v.length)=true:=Rm.2 ⟨by omega,by omega⟩
    rw [Aq.Apply.Au,As,Axu (by omega),Axt,cp,Ar.2 (show 0≤(i:Int)∧(i:Int)≤(R:Int) by omega),Axz,Axt,e0,Axv,st,sl2,sl,
      Axu (show (0:Int)≤(v.length:Int) by omega),Axu (show (v.length:Int)≤(v.length:Int) by omega),Axu (show (v.length:Int)≤((R-i:Nat):Int) by omega),Axz,Axz,Axt,ft,av,sa,Axz,Axz,Axt,ht,Rp,Axz,Axt]
    have:=Ahu (t:=t) N F r6 c6 al av hv (show c<C by omega) hk v.length 0 N (by omega) (by omega)
    exact this.trans (ih (c+1) F (by omega) (by omega) (by omega))
end
theorem Aq.Apply.known:Aq.Apply.Kn:=Aq.Apply.Ac (.cons Aa.Check.known (.cons Aa.Dz.known (.cons Ae.Hz.known (.cons Ae.Mul.known (.cons Ae.Sub.known .nil))))) fun r c l i k v t hp=>by
  obtain ⟨h1,ht⟩:=Ad.1 (show (((A0 r c l&&Hl r c i k v)&&(Ai l&&Ai v))&&Af t)=true from hp)
  obtain ⟨h2,h3⟩:=Ad.1 h1
  obtain ⟨hr,hb⟩:=Ad.1 h2
  obtain ⟨al,av⟩:=Ad.1 h3
  have hb:=of_decide_eq_true hb
  have hc:Ks r c l=0:=by unfold Ks; rw [if_pos hr]
  have h36:=Kh hr
  obtain ⟨R,C,rfl,rfl,r6,c6,hl⟩:=Cc hr
  obtain ⟨i,rfl⟩:∃ j:Nat,i=j:=⟨i.toNat,by omega⟩
  obtain ⟨k,rfl⟩:∃ j:Nat,k=j:=⟨k.toNat,by omega⟩
  refine ⟨8,Aq.Apply.out [.i (R:Int),.i (C:Int),.l l,.i (i:Int),.i (k:Int),.l v,.i t],[],?_,Wk.Gw (.cons (Wk.G6 (.cons .int (.cons .int (.cons (.keep _ _ _ _ List.not_mem_nil) .nil)))) (.cons .int .nil))⟩
  show _=some (DV.tup [.agg [.int .i64 (R:Int),.int .i64 (C:Int),.ints (.own 114002 tB) .u64 (E7 (Int.toNat (R:Int)) (Int.toNat (C:Int)) l (i:Int) (k:Int) v t)],.int .i64 0])
  have hlt:(((((A4 (i:Int) (0:Int))||(A4 (R:Int) (List.length v:Int)))||(A4 (Ab ((R:Int)-(List.length v:Int))) (i:Int)))||(A4 (k:Int) (0:Int)))||(A4 (C:Int) (k:Int)))=false:=by
    rw [As,As,As,As,As,Am (by omega) (by omega),Axy (by omega),Axy (by omega),Axy (by omega),Axy (by omega),Axy (by omega)]; rfl
  rw [Aq.Apply.ev,hc,show ((0:Int) !=(0:Int))=false from rfl,Axx,hlt,Axx,Axu (show 0+l.length≤Gp by unfold Gp; omega),Axt,List.nil_append,Axv,Axv]
  have:=Ahv (R:=R) (C:=C) (i:=i) (k:=k) (l:=l) (v:=v) (t:=t) 8 r6 c6 (by omega) hr al av ht (by omega) (C-k) k 8 (by omega) (by omega) (by omega)
  rw [Afy hl] at this
  exact this
namespace EqSol
def solve.check.hint:Nat→Option Ba
  | 0=>some { keep:=[2,3,11,12],objs:=[],boxes:=[2,3] }
  | 2=>some { keep:=[2,34,35],objs:=[],boxes:=[2] }
  | _=>none
def solve.check.A6:List (Nat × Entry):=[(86,Ct.Check.spec),(155,soft.Kind.spec)]
def solve.check.E:Env:=A9 (A5 solve.check.A6) (fun _=>false) solve.check.hint (fun _=>none)
def solve.check.L0 (N M:Nat) (r c:Int) (l:List Int) (p35:Int):Option DV:=Bz solve.check.E N Tryz.f75 (An Tryz.f75) [1,1,1,0,1,0] [] M ⟨Gl 51 [(2,.ptr 2 0 0),(34,.int .i64 r),(35,.int .i64 p35)],[(2,false,.box [.int .i64 r,.int .i64 c,.ints .arg .u64 l])]⟩
theorem solve.check.Au (N M:Nat) (r c:Int) (l:List Int) (p35:Int):solve.check.L0 (N+4) (M+1) r c l p35=bif (A4 p35 r) then bif ((decide (0≤(Ab ((Ab (p35*c))+p35))))&&(decide ((Ab ((Ab (p35*c))+p35))<(List.length l:Int)))) then bif (Af (List.getD l (Int.toNat (Ab ((Ab (p35*c))+p35))) 0)) then bif ((Bd (List.getD l (Int.toNat (Ab ((Ab (p35*c))+p35))) 0))==(0:Int)) then some (.int .i64 5) else solve.check.L0 (N+4) M r c l (Ab (p35+1)) else none else none else some (.int .i64 0):=by kernel_rfl
theorem solve.check.ev (N:Nat) (r c:Int) (l:List Int) (p q:Int) (m:List Int):Bp solve.check.E (N+4) Tryz.f75 (An Tryz.f75) [.agg [.int .i64 r,.int .i64 c,.ints .arg .u64 l],.agg [.int .i64 p,.int .i64 q,.ints .arg .u64 m]]=bif (Ai l) then bif ((Cd r c l) !=(0:Int)) then some (.int .i64 (Cd r c l)) else bif (Ai m) then bif ((Cd p q m) !=(0:Int)) then some (.int .i64 (Cd p q m)) else bif ((r !=c)||(r !=p)) then some (.int .i64 3) else solve.check.L0 (N+4) (N+4) r c l (0:Int) else none else none :=
  Eq.trans (by kernel_rfl)
  (Ej (Ej rfl (Ej (Ej rfl (Aw (R7 (r !=c)) (Aw (P2 (r !=c)) (Aw (R7 (r !=c)) (Aw (P2 (r !=c)) (Aw (tt8 (r !=c)) (Aw (Wt (r !=c)) (C2 (tt5 (r !=c) (r !=p)) rfl rfl)))))))) rfl)) rfl)
abbrev _root_.Go.Proofs.S1.solve.check.Kn:=A3 Tryz.prog 75 solve.check.spec
theorem solve.check.Ac (hk:Ax Tryz.prog solve.check.A6) (h:∀ (r c:Int) (l:List Int) (p q:Int) (m:List Int),solve.check.pre [.i r,.i c,.l l,.i p,.i q,.l m]=true→A8 solve.check.E Tryz.f75 [.agg [.int .i64 r,.int .i64 c,.ints .arg .u64 l],.agg [.int .i64 p,.int .i64 q,.ints .arg .u64 m]] (solve.check.out [.i r,.i c,.l l,.i p,.i q,.l m])):solve.check.Kn :=
  Ak (Az hk _ _ _) Tryz.func75 (by kernel_rfl) (by kernel_rfl) h
def Gj.Gi.up.A6:List (Nat × Entry):=[]
def Gj.Gi.up.E:Env:=A9 (A5 Gj.Gi.up.A6) (fun _=>false) (fun _=>none) (fun _=>none)
theorem Gj.Gi.up.ev (N:Nat) (n k:Int):Bp Gj.Gi.up.E N Tryz.f103 (An Tryz.f103) [.int .i64 n,.int .i64 k]=some (.int .i64 (Ab ((Ab (n-1))-k))):=by kernel_rfl
abbrev _root_.Go.Proofs.S1.Gj.Gi.up.Kn:=A3 Tryz.prog 103 Gj.Gi.up.spec
theorem Gj.Gi.up.Ac (hk:Ax Tryz.prog Gj.Gi.up.A6) (h:∀ (n k:Int),Gj.Gi.up.pre [.i n,.i k]=true→A8 Gj.Gi.up.E Tryz.f103 [.int .i64 n,.int .i64 k] (Gj.Gi.up.out [.i n,.i k])):Gj.Gi.up.Kn :=
  Ak (Az hk _ _ _) Tryz.func103 (by kernel_rfl) (by kernel_rfl) h
def solve.Ep.A6:List (Nat × Entry):=[]
def solve.Ep.E:Env:=A9 (A5 solve.Ep.A6) (fun _=>false) (fun _=>none) (fun _=>none)
theorem solve.Ep.ev (N:Nat) (i k:Int):Bp solve.Ep.E N Tryz.f104 (An Tryz.f104) [.int .i64 i,.int .i64 k]=some (.bool (A4 i k)):=by kernel_rfl
abbrev _root_.Go.Proofs.S1.solve.Ep.Kn:=A3 Tryz.prog 104 solve.Ep.spec
theorem solve.Ep.Ac (hk:Ax Tryz.prog solve.Ep.A6) (h:∀ (i k:Int),solve.Ep.pre [.i i,.i k]=true→A8 solve.Ep.E Tryz.f104 [.int .i64 i,.int .i64 k] (solve.Ep.out [.i i,.i k])):solve.Ep.Kn :=
  Ak (Az hk _ _ _) Tryz.func104 (by kernel_rfl) (by kernel_rfl) h
def Aa.of.Bf.own.hint:Nat→Option Ba
  | 0=>some { keep:=[1,2,6,7,13,14],objs:=[(8,2,108002,.ints 37 .u64 [])],boxes:=[6,7] }
  | 2=>some { keep:=[1,2,6,7,8,13,14,17,18],objs:=[(8,2,108002,.ints 37 .u64 [])],boxes:=[6,7] }
  | _=>none
def Aa.of.Bf.own.A6:List (Nat × Entry):=[(205,Aa.Ed.spec)]
def Aa.of.Bf.own.E:Env:=A9 (A5 Aa.of.Bf.own.A6) (fun _=>false) Aa.of.Bf.own.hint (fun _=>none)
abbrev _root_.Go.Proofs.S1.Aa.of.Bf.own.Kn:=A3 Tryz.prog 187 Aa.of.Bf.own.spec
theorem Aa.of.Bf.own.Ac (hk:Ax Tryz.prog Aa.of.Bf.own.A6) (h:∀ (a b:Int),Aa.of.Bf.own.pre [.i a,.i b]=true→A8 Aa.of.Bf.own.E Tryz.f187 [.int .i64 a,.int .i64 b,.fn 205 [] []] (Aa.of.Bf.own.out [.i a,.i b])):Aa.of.Bf.own.Kn :=
  Ak (Az hk _ _ _) Tryz.func187 (by kernel_rfl) (by kernel_rfl) h
def Aa.Bf.own.A6:List (Nat × Entry):=[(187,Aa.of.Bf.own.spec),(204,Aa.size.spec)]
def Aa.Bf.own.E:Env:=A9 (A5 Aa.Bf.own.A6) (fun n=>Nat.beq n 17) (fun _=>none) (fun _=>none)
theorem Aa.Bf.own.ev (N:Nat) (a b:Int):Bp Aa.Bf.own.E N Tryz.f151 (An Tryz.f151) [.int .i64 a,.int .i64 b]=bif ((!(Bg a))||(!(Bg b))) then some (.tup [.agg [.int .i64 0,.int .i64 0,.nil],.int .i64 3]) else bif (Bg a&&Bg b) then some (.tup [.agg [.int .i64 a,.int .i64 b,.ints (.own 1136 37) .u64 (B5 (Int.toNat a) (Int.toNat b) (fun _ _=>0))],.int .i64 0]) else none :=
  Eq.trans (by kernel_rfl)
  (Aw (Abr (Bg a)) (Aw (R0 (Bg a)) (Aw (R0 (Bg a)) (Aw (Abt (Bg a)) (C2 (Al9 (Bg a) (Bg b)) rfl rfl)))))
abbrev _root_.Go.Proofs.S1.Aa.Bf.own.Kn:=A3 Tryz.prog 151 Aa.Bf.own.spec
theorem Aa.Bf.own.Ac (hk:Ax Tryz.prog Aa.Bf.own.A6) (h:∀ (a b:Int),Aa.Bf.own.pre [.i a,.i b]=true→A8 Aa.Bf.own.E Tryz.f151 [.int .i64 a,.int .i64 b] (Aa.Bf.own.out [.i a,.i b])):Aa.Bf.own.Kn :=
  Ak (Az hk _ _ _) Tryz.func151 (by kernel_rfl) (by kernel_rfl) h
def solve.Bv.Up.hint:Nat→Option Ba
  | 0=>some { keep:=[2,3,4,5,8,10,11,28,29],objs:=[(12,2,112002,.ints 37 .u64 [])],boxes:=[4,5,8,11] }
  | 2=>some { keep:=[2,3,4,5,8,10,11,13,28,29,32,33],objs:=[(12,2,112002,.ints 37 .u64 [])],boxes:=[4,5,8,11] }
  | 4=>some { keep:=[2,3,4,5,8,10,11,13,15,16,28,29,32,33,49,50],objs:=[(12,2,112002,.ints 37 .u64 [])],boxes:=[4,5,8,11] }
  | _=>none
def solve.Bv.Up.A6:List (Nat × Entry):=[(103,Gj.Gi.up.spec),(151,Aa.Bf.own.spec),(104,solve.Ep.spec),(158,Ae.Div.spec),(150,Ae.Finite.spec),(157,Ae.Mul.spec),(156,Ae.Sub.spec)]
def solve.Bv.Up.E:Env:=A9 (A5 solve.Bv.Up.A6) (fun n=>Nat.beq n 24) solve.Bv.Up.hint (fun _=>none)
def solve.Bv.Up.L0 (N M:Nat) (r c:Int) (l:List Int) (p q:Int) (m:List Int) (n p29:Int) (p2_2:List Int):Option DV:=Bz solve.Bv.Up.E N Tryz.f76 (An Tryz.f76) [1,1,1,0,1,0] [] M ⟨Gl 108 [(2,.fn 103 [.int .i64 n] []),(3,.fn 104 [] []),(4,.ptr 4 0 0),(5,.ptr 5 0 0),(8,.ptr 8 0 0),(10,.int .i64 r),(11,.ptr 11 0 0),(28,.int .i64 q),(29,.int .i64 p29)],[(4,false,.box [.int .i64 r,.int .i64 c,.ints .arg .u64 l]),(5,false,.box [.int .i64 p,.int .i64 q,.ints .arg .u64 m]),(8,false,.box [.int .i64 0,.int .i64 0,.nil]),(11,false,.box [.int .i64 r,.int .i64 q,.oref 112002]),(112002,false,.ints 37 .u64 p2_2)]⟩
def solve.Bv.Up.L1 (N M0 M:Nat) (r c:Int) (l:List Int) (p q:Int) (m:List Int) (n p33:Int) (p2:List Int) (p13 p29_1:Int):Option DV:=Bz solve.Bv.Up.E N Tryz.f76 (An Tryz.f76) [1,1,1,0,1,0,0,1,1,0,0,1,0,1,1,0] [M0] M ⟨Gl 108 [(2,.fn 103 [.int .i64 n] []),(3,.fn 104 [] []),(4,.ptr 4 0 0),(5,.ptr 5 0 0),(8,.ptr 8 0 0),(10,.int .i64 r),(11,.ptr 11 0 0),(13,.int .i64 p13),(28,.int .i64 q),(29,.int .i64 p29_1),(32,.int .i64 r),(33,.int .i64 p33)],[(4,false,.box [.int .i64 r,.int .i64 c,.ints .arg .u64 l]),(5,false,.box [.int .i64 p,.int .i64 q,.ints .arg .u64 m]),(8,false,.box [.int .i64 0,.int .i64 0,.nil]),(11,false,.box [.int .i64 r,.int .i64 q,.oref 112002]),(112002,false,.ints 37 .u64 p2)]⟩
def solve.Bv.Up.L2 (N M0 M1 M:Nat) (r c:Int) (l:List Int) (p q:Int) (m:List Int) (n p16:Int) (p50 p13_1:Int) (p15 p29_2 p33_1:Int) (p2_1:List Int):Option DV:=Bz solve.Bv.Up.E N Tryz.f76 (An Tryz.f76) [1,1,1,0,1,0,0,1,1,0,0,1,0,1,1,0,0,1,1,0,0,1,1,1,0,1,0] [M0,M1] M ⟨Gl 108 [(2,.fn 103 [.int .i64 n] []),(3,.fn 104 [] []),(4,.ptr 4 0 0),(5,.ptr 5 0 0),(8,.ptr 8 0 0),(10,.int .i64 r),(11,.ptr 11 0 0),(13,.int .i64 p13_1),(15,.int .i64 p15),(16,.int .u64 p16),(28,.int .i64 q),(29,.int .i64 p29_2),(32,.int .i64 r),(33,.int .i64 p33_1),(49,.int .i64 r),(50,.int .i64 p50)],[(4,false,.box [.int .i64 r,.int .i64 c,.ints .arg .u64 l]),(5,false,.box [.int .i64 p,.int .i64 q,.ints .arg .u64 m]),(8,false,.box [.int .i64 0,.int .i64 0,.nil]),(11,false,.box [.int .i64 r,.int .i64 q,.oref 112002]),(112002,false,.ints 37 .u64 p2_1)]⟩
theorem solve.Bv.Up.Au (N M:Nat) (r c:Int) (l:List Int) (p q:Int) (m:List Int) (n p29:Int) (p2_2:List Int):solve.Bv.Up.L0 N (M+1) r c l p q m n p29 p2_2=bif (A4 p29 q) then solve.Bv.Up.L1 N M N r c l p q m n 0 p2_2 p29 p29 else bif (Ck p2_2) then bif (!(Da p2_2)) then some (.tup [.agg [.int .i64 0,.int .i64 0,.nil],.int .i64 2]) else some (.tup [.agg [.int .i64 r,.int .i64 q,.ints (.own 112002 37) .u64 p2_2],.int .i64 0]) else none:=by kernel_rfl
theorem solve.Bv.Up.B7 (N M0 M:Nat) (r c:Int) (l:List Int) (p q:Int) (m:List Int) (n p33:Int) (p2:List Int) (p13 p29_1:Int):solve.Bv.Up.L1 N M0 (M+1) r c l p q m n p33 p2 p13 p29_1=bif (A4 p33 r) then bif (Cu (0≤p33∧p33<n∧n≤10)) then bif ((decide (0≤(Ab ((Ab ((n-1-p33)*q))+p13))))&&(decide ((Ab ((Ab ((n-1-p33)*q))+p13))<(List.length m:Int)))) then solve.Bv.Up.L2 N M0 M N r c l p q m n (List.getD m (Int.toNat (Ab ((Ab ((n-1-p33)*q))+p13))) 0) 0 p13 (n-1-p33) p29_1 p33 p2 else none else none else solve.Bv.Up.L0 N M0 r c l p q m n (Ab (p29_1+1)) p2:=by kernel_rfl
theorem solve.Bv.Up.Hn (N M0 M1 M:Nat) (r c:Int) (l:List Int) (p q:Int) (m:List Int) (n p16:Int) (p50 p13_1:Int) (p15 p29_2 p33_1:Int) (p2_1:List Int):solve.Bv.Up.L2 N M0 M1 (M+1) r c l p q m n p16 p50 p13_1 p15 p29_2 p33_1 p2_1=bif (A4 p50 r) then bif (decide (p15<p50)) then bif ((decide (0≤(Ab ((Ab (p15*r))+p50))))&&(decide ((Ab ((Ab (p15*r))+p50))<(List.length l:Int)))) then bif ((decide (0≤(Ab ((Ab (p50*q))+p13_1))))&&(decide ((Ab ((Ab (p50*q))+p13_1))<(List.length p2_1:Int)))) then bif (decide ((Int.toNat (Ab ((Ab (p50*q))+p13_1)))<(List.length p2_1))) then bif (Af (List.getD l (Int.toNat (Ab ((Ab (p15*r))+p50))) 0)&&Af (List.getD p2_1 (Int.toNat (Ab ((Ab (p50*q))+p13_1))) 0)) then bif (Af p16&&Af (D1 (List.getD l (Int.toNat (Ab ((Ab (p15*r))+p50))) 0) (List.getD p2_1 (Int.toNat (Ab ((Ab (p50*q))+p13_1))) 0))) then solve.Bv.Up.L2 N M0 M1 M r c l p q m n (Eu p16 (D1 (List.getD l (Int.toNat (Ab ((Ab (p15*r))+p50))) 0) (List.getD p2_1 (Int.toNat (Ab ((Ab (p50*q))+p13_1))) 0))) (Ab (p50+1)) p13_1 p15 p29_2 p33_1 p2_1 else none else none else none else none else none else solve.Bv.Up.L2 N M0 M1 M r c l p q m n p16 (Ab (p50+1)) p13_1 p15 p29_2 p33_1 p2_1 else bif ((decide (0≤(Ab ((Ab (p15*r))+p15))))&&(decide ((Ab ((Ab (p15*r))+p15))<(List.length l:Int)))) then bif (Af p16&&Af (List.getD l (Int.toNat (Ab ((Ab (p15*r))+p15))) 0)) then bif ((decide (0≤(Ab ((Ab (p15*q))+p13_1))))&&(decide ((Ab ((Ab (p15*q))+p13_1))<(List.length p2_1:Int)))) then bif (decide ((Int.toNat (Ab ((Ab (p15*q))+p13_1)))<(List.length p2_1))) then solve.Bv.Up.L1 N M0 M1 r c l p q m n (Ab (p33_1+1)) (List.set p2_1 (Int.toNat (Ab ((Ab (p15*q))+p13_1))) (Fa p16 (List.getD l (Int.toNat (Ab ((Ab (p15*r))+p15))) 0))) p13_1 p29_2 else none else none else none else none :=
  Eq.trans (by kernel_rfl)
  (Ej (Ej (C2 (Lk (decide (0≤(Ab ((Ab (p15*r))+p50)))) (decide ((Ab ((Ab (p15*r))+p50))<(List.length l:Int)))) (C2 (Lk (decide (0≤(Ab ((Ab (p50*q))+p13_1)))) (decide ((Ab ((Ab (p50*q))+p13_1))<(List.length p2_1:Int)))) (C2 (Cs (decide ((Int.toNat (Ab ((Ab (p50*q))+p13_1)))<(List.length p2_1)))) (C2 (Cs (Af (List.getD l (Int.toNat (Ab ((Ab (p15*r))+p50))) 0)&&Af (List.getD p2_1 (Int.toNat (Ab ((Ab (p50*q))+p13_1))) 0))) (C2 (Cs (Af p16&&Af (D1 (List.getD l (Int.toNat (Ab ((Ab (p15*r))+p50))) 0) (List.getD p2_1 (Int.toNat (Ab ((Ab (p50*q))+p13_1))) 0)))) rfl rfl) rfl) rfl) rfl) rfl) rfl) (C2 (Lk (decide (0≤(Ab ((Ab (p15*r))+p15)))) (decide ((Ab ((Ab (p15*r))+p15))<(List.length l:Int)))) (C2 (Cs (Af p16&&Af (List.getD l (Int.toNat (Ab ((Ab (p15*r))+p15))) 0))) (C2 (Lk (decide (0≤(Ab ((Ab (p15*q))+p13_1)))) (decide ((Ab ((Ab (p15*q))+p13_1))<(List.length p2_1:Int)))) (C2 (Cs (decide ((Int.toNat (Ab ((Ab (p15*q))+p13_1)))<(List.length p2_1)))) rfl rfl) rfl) rfl) rfl))
theorem solve.Bv.Up.ev (N:Nat) (r c:Int) (l:List Int) (p q:Int) (m:List Int) (n:Int):Bp solve.Bv.Up.E N Tryz.f76 (An Tryz.f76) [.agg [.int .i64 r,.int .i64 c,.ints .arg .u64 l],.agg [.int .i64 p,.int .i64 q,.ints .arg .u64 m],.fn 103 [.int .i64 n] [],.fn 104 [] []]=bif (Bg r&&Bg q) then solve.Bv.Up.L0 N N r c l p q m n 0 (B5 (Int.toNat r) (Int.toNat q) (fun _ _=>0)) else none:=by kernel_rfl
abbrev _root_.Go.Proofs.S1.solve.Bv.Up.Kn:=A3 Tryz.prog 76 solve.Bv.Up.spec
theorem solve.Bv.Up.Ac (hk:Ax Tryz.prog solve.Bv.Up.A6) (h:∀ (r c:Int) (l:List Int) (p q:Int) (m:List Int) (n:Int),solve.Bv.Up.pre [.i r,.i c,.l l,.i p,.i q,.l m,.i n]=true→A8 solve.Bv.Up.E Tryz.f76 [.agg [.int .i64 r,.int .i64 c,.ints .arg .u64 l],.agg [.int .i64 p,.int .i64 q,.ints .arg .u64 m],.fn 103 [.int .i64 n] [],.fn 104 [] []] (solve.Bv.Up.out [.i r,.i c,.l l,.i p,.i q,.l m,.i n])):solve.Bv.Up.Kn :=
  Ak (Az hk _ _ _) Tryz.func76 (by kernel_rfl) (by kernel_rfl) h
def solve.Cl.A6:List (Nat × Entry):=[(75,solve.check.spec),(76,solve.Bv.Up.spec)]
def solve.Cl.E:Env:=A9 (A5 solve.Cl.A6) (fun _=>false) (fun _=>none) (fun _=>none)
theorem solve.Cl.ev (N:Nat) (r c:Int) (l:List Int) (p q:Int) (m:List Int):Bp solve.Cl.E N Tryz.f36 (An Tryz.f36) [.agg [.int .i64 r,.int .i64 c,.ints .arg .u64 l],.agg [.int .i64 p,.int .i64 q,.ints .arg .u64 m]]=bif (Ai l&&Ai m) then bif ((N1 r c l p q m) !=(0:Int)) then some (.tup [.agg [.int .i64 0,.int .i64 0,.nil],.int .i64 (N1 r c l p q m)]) else bif (Abv r c l p q m&&decide (r=r)) then some (.tup [.agg [.int .i64 ((Kc r q (upG c l q m (Int.toNat r) (Int.toNat q))).1),.int .i64 ((Kc r q (upG c l q m (Int.toNat r) (Int.toNat q))).2.1),.ints .fresh .u64 ((Kc r q (upG c l q m (Int.toNat r) (Int.toNat q))).2.2.1)],.int .i64 ((Kc r q (upG c l q m (Int.toNat r) (Int.toNat q))).2.2.2)]) else none else none:=by kernel_rfl
abbrev _root_.Go.Proofs.S1.solve.Cl.Kn:=A3 Tryz.prog 36 solve.Cl.spec
theorem solve.Cl.Ac (hk:Ax Tryz.prog solve.Cl.A6) (h:∀ (r c:Int) (l:List Int) (p q:Int) (m:List Int),solve.Cl.pre [.i r,.i c,.l l,.i p,.i q,.l m]=true→A8 solve.Cl.E Tryz.f36 [.agg [.int .i64 r,.int .i64 c,.ints .arg .u64 l],.agg [.int .i64 p,.int .i64 q,.ints .arg .u64 m]] (solve.Cl.out [.i r,.i c,.l l,.i p,.i q,.l m])):solve.Cl.Kn :=
  Ak (Az hk _ _ _) Tryz.func36 (by kernel_rfl) (by kernel_rfl) h
def solve.Flat.hint:Nat→Option Ba
  | 0=>some { keep:=[1,5,6],objs:=[(0,5,100005,.ints 37 .u64 [])],boxes:=[1] }
  | 2=>some { keep:=[7,44,45,46],objs:=[(0,44,100044,.ints 37 .u64 [])],boxes:=[] }
  | _=>none
def solve.Flat.A6:List (Nat × Entry):=[(86,Ct.Check.spec),(87,compare.Ho.spec),(90,compare.Md.spec),(89,Ae.Bn.spec),(88,Ae.Br.spec)]
def solve.Flat.E:Env:=A9 (A5 solve.Flat.A6) (fun _=>false) solve.Flat.hint (fun _=>none)
def solve.Flat.L0 (N M:Nat) (r c:Int) (l:List Int) (p6:Int) (p5:List Int):Option DV:=Bz solve.Flat.E N Tryz.f24 (An Tryz.f24) [1,1,1,0,1,0] [] M ⟨Gl 55 [(1,.ptr 1 0 0),(5,.oref 100005),(6,.int .i64 p6)],[(1,false,.box [.int .i64 r,.int .i64 c,.ints .arg .u64 l]),(100005,false,.ints 37 .u64 p5)]⟩
def solve.Flat.L1 (N M:Nat) (p5:List Int) (p46:Int):Option DV:=Bz solve.Flat.E N Tryz.f24 (An Tryz.f24) [1,1,1,1,1,0,1,0] [] M ⟨Gl 55 [(7,.int .u64 (Bw (Be p5) (-40:Int))),(44,.oref 100044),(45,.int .i64 (List.length p5:Int)),(46,.int .i64 p46)],[(100044,false,.ints 37 .u64 p5)]⟩
theorem solve.Flat.Au (N M:Nat) (r c:Int) (l:List Int) (p6:Int) (p5:List Int):solve.Flat.L0 N (M+1) r c l p6 p5=bif ((A4 p6 r)&&(A4 p6 c)) then bif ((decide (0≤(Ab ((Ab (p6*c))+p6))))&&(decide ((Ab ((Ab (p6*c))+p6))<(List.length l:Int)))) then bif (Af (List.getD l (Int.toNat (Ab ((Ab (p6*c))+p6))) 0)) then bif (decide ((List.length p5)+1≤Gp)) then solve.Flat.L0 N M r c l (Ab (p6+1)) (p5++[(I7 (List.getD l (Int.toNat (Ab ((Ab (p6*c))+p6))) 0))]) else none else none else none else bif (Ck p5) then bif (Db (Be p5) (-40:Int)) then solve.Flat.L1 N N p5 (0:Int) else none else none :=
  Eq.trans (by kernel_rfl)
  (Aw (O1 (A4 p6 r)) (Aw (O1 (A4 p6 r)) (Aw (Lv (A4 p6 r)) (Aw (Abu (A4 p6 r)) (Aw (Ti (A4 p6 r)) (C2 (tt1 (A4 p6 r) (A4 p6 c)) rfl rfl))))))
theorem solve.Flat.B7 (N M:Nat) (p5:List Int) (p46:Int):solve.Flat.L1 N (M+1) p5 p46=bif (A4 p46 (List.length p5:Int)) then bif ((decide (0≤p46))&&(decide (p46<(List.length p5:Int)))) then bif (decide ((Int.toNat p46)<(List.length p5))) then bif (Af (Bw (Be p5) (-40:Int))&&Af (List.getD p5 (Int.toNat p46) 0)) then bif (!(decide (Sp (Bw (Be p5) (-40:Int)) (List.getD p5 (Int.toNat p46) 0)<0))) then some (.tup [.bool true,.int .i64 0]) else solve.Flat.L1 N M p5 (Ab (p46+1)) else none else none else none else some (.tup [.bool false,.int .i64 0]):=by kernel_rfl
theorem solve.Flat.ev (N:Nat) (r c:Int) (l:List Int):Bp solve.Flat.E N Tryz.f24 (An Tryz.f24) [.agg [.int .i64 r,.int .i64 c,.ints .arg .u64 l]]=bif (Ai l) then bif ((Cd r c l) !=(0:Int)) then some (.tup [.bool false,.int .i64 (Cd r c l)]) else solve.Flat.L0 N N r c l 0 [] else none:=by kernel_rfl
abbrev _root_.Go.Proofs.S1.solve.Flat.Kn:=A3 Tryz.prog 24 solve.Flat.spec
theorem solve.Flat.Ac (hk:Ax Tryz.prog solve.Flat.A6) (h:∀ (r c:Int) (l:List Int),solve.Flat.pre [.i r,.i c,.l l]=true→A8 solve.Flat.E Tryz.f24 [.agg [.int .i64 r,.int .i64 c,.ints .arg .u64 l]] (solve.Flat.out [.i r,.i c,.l l])):solve.Flat.Kn :=
  Ak (Az hk _ _ _) Tryz.func24 (by kernel_rfl) (by kernel_rfl) h
end EqSol
end Go.Proofs.S1
end
