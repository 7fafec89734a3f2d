/- A verified evaluator of the program's form and its use for this seat: S1POf, S1PMatA, S1EqRef10, S1PRef10, S1PFill, S1EqHouse, S1PHouse, S1PApply, S1EqSol. -/
import Derived.Test.YtjbokjpbiobjpaaGreatTI
import Derived.Test.YtjbokjpbiobjpaaGreatTJ
import Derived.Test.YtjbokjpbiobjpaaGreatTE
import Derived.Test.YtjbokjpbiobjpaaGreatTF
set_option linter.unusedVariables false
set_option linter.unusedSimpArgs false
noncomputable section
namespace Go.Proofs.S1
open Go Go.Den Go.Rnd Go.Proofs
open EqOf
theorem of.Bf.inner (N:Nat)  {A B:Nat} (hA:A≤6) (hB:B≤6) {F:Nat→Nat→Int} (hF:∀ i j:Nat,F i j=(0:Int)) {i:Nat} (hi:i<A):∀ (k j M0 M:Nat),j+k=B→k<M →
    Aa.of.Bf.L1 N M0 M (A:Int) (B:Int) (i:Int) (i:Int) (j:Int) (B7 i B F++(List.range j).map (F i))=Aa.of.Bf.L0 N M0 (A:Int) (B:Int) ((i+1:Nat):Int) (B7 (i+1) B F):=by
  intro k
  induction k with
  | zero =>
    intro j M0 M hj hM
    obtain ⟨M,rfl⟩:∃ G,M=G+1:=⟨M-1,by omega⟩
    obtain rfl:j=B:=by omega
    rw [Aa.of.Bf.B9,As,Ayx (by omega),Ayw,Al (by omega) (by omega),← Ms]
    rfl
  | succ k ih =>
    intro j M0 M hj hM
    obtain ⟨M,rfl⟩:∃ G,M=G+1:=⟨M-1,by omega⟩
    have d:decide ((B7 i B F++(List.range j).map (F i)).length+1≤Gt)=true:=by
      refine Ayt ?_
      have:=Nat.mul_le_mul (show i≤6 by omega) hB
      rw [List.length_append,Ca,List.length_map,List.length_range]; unfold Gt; omega
    rw [Aa.of.Bf.B9,As,Ayt (by omega),Ays,d,Ays,Al (by omega) (by omega),← hF i j]
    have:=ih (j+1) M0 M (by omega) (by omega)
    rw [G1,← List.append_assoc] at this
    exact this
theorem of.Bf.outer (N:Nat)  {A B:Nat} (hA:A≤6) (hB:B≤6) (hN:6<N) {F:Nat→Nat→Int} (hF:∀ i j:Nat,F i j=(0:Int)):∀ (k i M:Nat),i+k=A→k<M →
    Aa.of.Bf.L0 N M (A:Int) (B:Int) (i:Int) (B7 i B F)=some (.agg [.int .i64 (A:Int),.int .i64 (B:Int),.ints (.own 108002 tB) .u64 (B7 A B F)]):=by
  intro k
  induction k with
  | zero =>
    intro i M hi hM
    obtain ⟨M,rfl⟩:∃ G,M=G+1:=⟨M-1,by omega⟩
    obtain rfl:i=A:=by omega
    rw [Aa.of.Bf.Ar,As,Ayx (by omega),Ayw]
  | succ k ih =>
    intro i M hi hM
    obtain ⟨M,rfl⟩:∃ G,M=G+1:=⟨M-1,by omega⟩
    have n:=of.Bf.inner N hA hB hF (show i<A by omega) B 0 M N (by omega) (by omega)
    rw [List.range_zero,List.map_nil,List.append_nil] at n
    rw [Aa.of.Bf.Ar,As,Ayt (by omega),Ays]
    exact n.trans (ih (i+1) M (by omega) (by omega))
theorem Aa.of.Bf.known:Aa.of.Bf.Kn:=Aa.of.Bf.Ac (.cons Aa.Ei.known .nil) fun a b hp=>by
  have h1:(Bg a&&Bg b)=true:=hp
  obtain ⟨ha,hb⟩:=Ad.1 h1
  obtain ⟨A,rfl,hA⟩:=Em ha
  obtain ⟨B,rfl,hB⟩:=Em hb
  refine ⟨8,.agg [.int .i64 (A:Int),.int .i64 (B:Int),.ints (.own 108002 tB) .u64 (B7 A B fun (i j:Nat)=>(0:Int))],[108002],?_,Wk.G8 (.cons .int (.cons .int (.cons (.drop _ _ _ _ (List.mem_singleton.2 rfl)) .nil)))⟩
  rw [Aa.of.Bf.ev]
  have n:=of.Bf.outer 8 hA hB (by omega) (F:=fun (i j:Nat)=>(0:Int)) (fun _ _=>rfl) A 0 8 (by omega) (by omega)
  rw [K0] at n
  exact n
theorem of.Ey.inner (N:Nat)  {A B:Nat} (hA:A≤6) (hB:B≤6) {F:Nat→Nat→Int} (hF:∀ i j:Nat,F i j=Nk (i:Int) (j:Int)) {i:Nat} (hi:i<A):∀ (k j M0 M:Nat),j+k=B→k<M →
    Aa.of.Ey.L1 N M0 M (A:Int) (B:Int) (i:Int) (i:Int) (j:Int) (B7 i B F++(List.range j).map (F i))=Aa.of.Ey.L0 N M0 (A:Int) (B:Int) ((i+1:Nat):Int) (B7 (i+1) B F):=by
  intro k
  induction k with
  | zero =>
    intro j M0 M hj hM
    obtain ⟨M,rfl⟩:∃ G,M=G+1:=⟨M-1,by omega⟩
    obtain rfl:j=B:=by omega
    rw [Aa.of.Ey.B9,As,Ayx (by omega),Ayw,Al (by omega) (by omega),← Ms]
    rfl
  | succ k ih =>
    intro j M0 M hj hM
    obtain ⟨M,rfl⟩:∃ G,M=G+1:=⟨M-1,by omega⟩
    have d:decide ((B7 i B F++(List.range j).map (F i)).length+1≤Gt)=true:=by
      refine Ayt ?_
      have:=Nat.mul_le_mul (show i≤6 by omega) hB
      rw [List.length_append,Ca,List.length_map,List.length_range]; unfold Gt; omega
    rw [Aa.of.Ey.B9,As,Ayt (by omega),Ays,d,Ays,Al (by omega) (by omega),← hF i j]
    have:=ih (j+1) M0 M (by omega) (by omega)
    rw [G1,← List.append_assoc] at this
    exact this
theorem of.Ey.outer (N:Nat)  {A B:Nat} (hA:A≤6) (hB:B≤6) (hN:6<N) {F:Nat→Nat→Int} (hF:∀ i j:Nat,F i j=Nk (i:Int) (j:Int)):∀ (k i M:Nat),i+k=A→k<M →
    Aa.of.Ey.L0 N M (A:Int) (B:Int) (i:Int) (B7 i B F)=some (.agg [.int .i64 (A:Int),.int .i64 (B:Int),.ints (.own 108002 tB) .u64 (B7 A B F)]):=by
  intro k
  induction k with
  | zero =>
    intro i M hi hM
    obtain ⟨M,rfl⟩:∃ G,M=G+1:=⟨M-1,by omega⟩
    obtain rfl:i=A:=by omega
    rw [Aa.of.Ey.Ar,As,Ayx (by omega),Ayw]
  | succ k ih =>
    intro i M hi hM
    obtain ⟨M,rfl⟩:∃ G,M=G+1:=⟨M-1,by omega⟩
    have n:=of.Ey.inner N hA hB hF (show i<A by omega) B 0 M N (by omega) (by omega)
    rw [List.range_zero,List.map_nil,List.append_nil] at n
    rw [Aa.of.Ey.Ar,As,Ayt (by omega),Ays]
    exact n.trans (ih (i+1) M (by omega) (by omega))
theorem Aa.of.Ey.known:Aa.of.Ey.Kn:=Aa.of.Ey.Ac (.cons Aa.Ii.known .nil) fun a b hp=>by
  have h1:(Bg a&&Bg b)=true:=hp
  obtain ⟨ha,hb⟩:=Ad.1 h1
  obtain ⟨A,rfl,hA⟩:=Em ha
  obtain ⟨B,rfl,hB⟩:=Em hb
  refine ⟨8,.agg [.int .i64 (A:Int),.int .i64 (B:Int),.ints (.own 108002 tB) .u64 (B7 A B fun (i j:Nat)=>Nk (i:Int) (j:Int))],[108002],?_,Wk.G8 (.cons .int (.cons .int (.cons (.drop _ _ _ _ (List.mem_singleton.2 rfl)) .nil)))⟩
  rw [Aa.of.Ey.ev]
  have n:=of.Ey.outer 8 hA hB (by omega) (F:=fun (i j:Nat)=>Nk (i:Int) (j:Int)) (fun _ _=>rfl) A 0 8 (by omega) (by omega)
  rw [K0] at n
  exact n
theorem of.Cs.inner (N:Nat) (r c:Int) (l:List Int) {A B:Nat} (hA:A≤6) (hB:B≤6) {F:Nat→Nat→Int} (hF:∀ i j:Nat,F i j=D9 c l (j:Int) (i:Int)) {i:Nat} (hi:i<A) (hp:∀ j:Nat,j<B→C2 r c l (j:Int) (i:Int)=true):∀ (k j M0 M:Nat),j+k=B→k<M →
    Aa.of.Cs.L1 N M0 M (A:Int) (B:Int) r c l (i:Int) (i:Int) (j:Int) (B7 i B F++(List.range j).map (F i))=Aa.of.Cs.L0 N M0 (A:Int) (B:Int) r c l ((i+1:Nat):Int) (B7 (i+1) B F):=by
  intro k
  induction k with
  | zero =>
    intro j M0 M hj hM
    obtain ⟨M,rfl⟩:∃ G,M=G+1:=⟨M-1,by omega⟩
    obtain rfl:j=B:=by omega
    rw [Aa.of.Cs.B9,As,Ayx (by omega),Ayw,Al (by omega) (by omega),← Ms]
    rfl
  | succ k ih =>
    intro j M0 M hj hM
    obtain ⟨M,rfl⟩:∃ G,M=G+1:=⟨M-1,by omega⟩
    have d:decide ((B7 i B F++(List.range j).map (F i)).length+1≤Gt)=true:=by
      refine Ayt ?_
      have:=Nat.mul_le_mul (show i≤6 by omega) hB
      rw [List.length_append,Ca,List.length_map,List.length_range]; unfold Gt; omega
    rw [Aa.of.Cs.B9,As,Ayt (by omega),Ays,hp j (by omega),Ays,d,Ays,Al (by omega) (by omega),← hF i j]
    have:=ih (j+1) M0 M (by omega) (by omega)
    rw [G1,← List.append_assoc] at this
    exact this
theorem of.Cs.outer (N:Nat) (r c:Int) (l:List Int) {A B:Nat} (hA:A≤6) (hB:B≤6) (hN:6<N) {F:Nat→Nat→Int} (hF:∀ i j:Nat,F i j=D9 c l (j:Int) (i:Int)) (hp:∀ i j:Nat,i<A→j<B→C2 r c l (j:Int) (i:Int)=true):∀ (k i M:Nat),i+k=A→k<M →
    Aa.of.Cs.L0 N M (A:Int) (B:Int) r c l (i:Int) (B7 i B F)=some (.agg [.int .i64 (A:Int),.int .i64 (B:Int),.ints (.own 108002 tB) .u64 (B7 A B F)]):=by
  intro k
  induction k with
  | zero =>
    intro i M hi hM
    obtain ⟨M,rfl⟩:∃ G,M=G+1:=⟨M-1,by omega⟩
    obtain rfl:i=A:=by omega
    rw [Aa.of.Cs.Ar,As,Ayx (by omega),Ayw]
  | succ k ih =>
    intro i M hi hM
    obtain ⟨M,rfl⟩:∃ G,M=G+1:=⟨M-1,by omega⟩
    have n:=of.Cs.inner N r c l hA hB hF (show i<A by omega) (fun j hj=>hp i j (by omega) hj) B 0 M N (by omega) (by omega)
    rw [List.range_zero,List.map_nil,List.append_nil] at n
    rw [Aa.of.Cs.Ar,As,Ayt (by omega),Ays]
    exact n.trans (ih (i+1) M (by omega) (by omega))
theorem Aa.of.Cs.known:Aa.of.Cs.Kn:=Aa.of.Cs.Ac (.cons Aa.Fy.known .nil) fun a b r c l hp=>by
  obtain ⟨h12,hy⟩:=Ad.1 (show (((Bg a&&Bg b)&&A0 r c l)&&decide (a=c∧b=r))=true from hp)
  obtain ⟨h1,hx⟩:=Ad.1 h12
  have h2:=Ad.2 ⟨hx,hy⟩
  obtain ⟨ha,hb⟩:=Ad.1 h1
  obtain ⟨A,rfl,hA⟩:=Em ha
  obtain ⟨B,rfl,hB⟩:=Em hb
  obtain ⟨hr,he⟩:=Ad.1 h2
  obtain ⟨e1,e2⟩:=of_decide_eq_true he
  have hp:∀ i j:Nat,i<A→j<B→C2 r c l (j:Int) (i:Int)=true:=fun i j hi hj=>Ln hr (by omega) (by omega) (by omega) (by omega) r
  refine ⟨8,.agg [.int .i64 (A:Int),.int .i64 (B:Int),.ints (.own 108002 tB) .u64 (B7 A B fun (i j:Nat)=>D9 c l (j:Int) (i:Int))],[108002],?_,Wk.G8 (.cons .int (.cons .int (.cons (.drop _ _ _ _ (List.mem_singleton.2 rfl)) .nil)))⟩
  rw [Aa.of.Cs.ev]
  have n:=of.Cs.outer 8 r c l hA hB (by omega) (F:=fun (i j:Nat)=>D9 c l (j:Int) (i:Int)) (fun _ _=>rfl) hp A 0 8 (by omega) (by omega)
  rw [K0] at n
  exact n
theorem of.Part.inner (N:Nat) (r c:Int) (l:List Int) (x y:Int) {A B:Nat} (hA:A≤6) (hB:B≤6) {F:Nat→Nat→Int} (hF:∀ i j:Nat,F i j=D9 c l (x+(i:Int)) (y+(j:Int))) {i:Nat} (hi:i<A) (hp:∀ j:Nat,j<B→(C2 r c l (x+(i:Int)) (y+(j:Int))&&Vh x y (i:Int) (j:Int))=true):∀ (k j M0 M:Nat),j+k=B→k<M →
    Aa.of.Part.L1 N M0 M (A:Int) (B:Int) r c l x y (i:Int) (i:Int) (j:Int) (B7 i B F++(List.range j).map (F i))=Aa.of.Part.L0 N M0 (A:Int) (B:Int) r c l x y ((i+1:Nat):Int) (B7 (i+1) B F):=by
  intro k
  induction k with
  | zero =>
    intro j M0 M hj hM
    obtain ⟨M,rfl⟩:∃ G,M=G+1:=⟨M-1,by omega⟩
    obtain rfl:j=B:=by omega
    rw [Aa.of.Part.B9,As,Ayx (by omega),Ayw,Al (by omega) (by omega),← Ms]
    rfl
  | succ k ih =>
    intro j M0 M hj hM
    obtain ⟨M,rfl⟩:∃ G,M=G+1:=⟨M-1,by omega⟩
    have d:decide ((B7 i B F++(List.range j).map (F i)).length+1≤Gt)=true:=by
      refine Ayt ?_
      have:=Nat.mul_le_mul (show i≤6 by omega) hB
      rw [List.length_append,Ca,List.length_map,List.length_range]; unfold Gt; omega
    rw [Aa.of.Part.B9,As,Ayt (by omega),Ays,hp j (by omega),Ays,d,Ays,Al (by omega) (by omega),← hF i j]
    have:=ih (j+1) M0 M (by omega) (by omega)
    rw [G1,← List.append_assoc] at this
    exact this
theorem of.Part.outer (N:Nat) (r c:Int) (l:List Int) (x y:Int) {A B:Nat} (hA:A≤6) (hB:B≤6) (hN:6<N) {F:Nat→Nat→Int} (hF:∀ i j:Nat,F i j=D9 c l (x+(i:Int)) (y+(j:Int))) (hp:∀ i j:Nat,i<A→j<B→(C2 r c l (x+(i:Int)) (y+(j:Int))&&Vh x y (i:Int) (j:Int))=true):∀ (k i M:Nat),i+k=A→k<M →
    Aa.of.Part.L0 N M (A:Int) (B:Int) r c l x y (i:Int) (B7 i B F)=some (.agg [.int .i64 (A:Int),.int .i64 (B:Int),.ints (.own 108002 tB) .u64 (B7 A B F)]):=by
  intro k
  induction k with
  | zero =>
    intro i M hi hM
    obtain ⟨M,rfl⟩:∃ G,M=G+1:=⟨M-1,by omega⟩
    obtain rfl:i=A:=by omega
    rw [Aa.of.Part.Ar,As,Ayx (by omega),Ayw]
  | succ k ih =>
    intro i M hi hM
    obtain ⟨M,rfl⟩:∃ G,M=G+1:=⟨M-1,by omega⟩
    have n:=of.Part.inner N r c l x y hA hB hF (show i<A by omega) (fun j hj=>hp i j (by omega) hj) B 0 M N (by omega) (by omega)
    rw [List.range_zero,List.map_nil,List.append_nil] at n
    rw [Aa.of.Part.Ar,As,Ayt (by omega),Ays]
    exact n.trans (ih (i+1) M (by omega) (by omega))
theorem Aa.of.Part.known:Aa.of.Part.Kn:=Aa.of.Part.Ac (.cons Aa.F0.known .nil) fun a b r c l x y hp=>by
  obtain ⟨h12,hy⟩:=Ad.1 (show (((Bg a&&Bg b)&&A0 r c l)&&Hv r c x y a b)=true from hp)
  obtain ⟨h1,hx⟩:=Ad.1 h12
  have h2:=Ad.2 ⟨hx,hy⟩
  obtain ⟨ha,hb⟩:=Ad.1 h1
  obtain ⟨A,rfl,hA⟩:=Em ha
  obtain ⟨B,rfl,hB⟩:=Em hb
  obtain ⟨hr,he⟩:=Ad.1 h2
  have he:=of_decide_eq_true he
  have hs:=Hy.1 hr
  have hp:∀ i j:Nat,i<A→j<B→(C2 r c l (x+(i:Int)) (y+(j:Int))&&Vh x y (i:Int) (j:Int))=true:=fun i j hi hj =>
    Ad.2 ⟨Ln hr (by omega) (by omega) (by omega) (by omega) r,Aq.2 (by omega)⟩
  refine ⟨8,.agg [.int .i64 (A:Int),.int .i64 (B:Int),.ints (.own 108002 tB) .u64 (B7 A B fun (i j:Nat)=>D9 c l (x+(i:Int)) (y+(j:Int)))],[108002],?_,Wk.G8 (.cons .int (.cons .int (.cons (.drop _ _ _ _ (List.mem_singleton.2 rfl)) .nil)))⟩
  rw [Aa.of.Part.ev]
  have n:=of.Part.outer 8 r c l x y hA hB (by omega) (F:=fun (i j:Nat)=>D9 c l (x+(i:Int)) (y+(j:Int))) (fun _ _=>rfl) hp A 0 8 (by omega) (by omega)
  rw [K0] at n
  exact n
theorem of.Stack.inner (N:Nat) (r c:Int) (l:List Int) (p q:Int) (m:List Int) {A B:Nat} (hA:A≤6) (hB:B≤6) {F:Nat→Nat→Int} (hF:∀ i j:Nat,F i j=Ja r c l q m (i:Int) (j:Int)) {i:Nat} (hi:i<A) (hp:∀ j:Nat,j<B→Mw r c l p q m (i:Int) (j:Int)=true):∀ (k j M0 M:Nat),j+k=B→k<M →
    Aa.of.Stack.L1 N M0 M (A:Int) (B:Int) r c l p q m (i:Int) (i:Int) (j:Int) (B7 i B F++(List.range j).map (F i))=Aa.of.Stack.L0 N M0 (A:Int) (B:Int) r c l p q m ((i+1:Nat):Int) (B7 (i+1) B F):=by
  intro k
  induction k with
  | zero =>
    intro j M0 M hj hM
    obtain ⟨M,rfl⟩:∃ G,M=G+1:=⟨M-1,by omega⟩
    obtain rfl:j=B:=by omega
    rw [Aa.of.Stack.B9,As,Ayx (by omega),Ayw,Al (by omega) (by omega),← Ms]
    rfl
  | succ k ih =>
    intro j M0 M hj hM
    obtain ⟨M,rfl⟩:∃ G,M=G+1:=⟨M-1,by omega⟩
    have d:decide ((B7 i B F++(List.range j).map (F i)).length+1≤Gt)=true:=by
      refine Ayt ?_
      have:=Nat.mul_le_mul (show i≤6 by omega) hB
      rw [List.length_append,Ca,List.length_map,List.length_range]; unfold Gt; omega
    rw [Aa.of.Stack.B9,As,Ayt (by omega),Ays,hp j (by omega),Ays,d,Ays,Al (by omega) (by omega),← hF i j]
    have:=ih (j+1) M0 M (by omega) (by omega)
    rw [G1,← List.append_assoc] at this
    exact this
theorem of.Stack.outer (N:Nat) (r c:Int) (l:List Int) (p q:Int) (m:List Int) {A B:Nat} (hA:A≤6) (hB:B≤6) (hN:6<N) {F:Nat→Nat→Int} (hF:∀ i j:Nat,F i j=Ja r c l q m (i:Int) (j:Int)) (hp:∀ i j:Nat,i<A→j<B→Mw r c l p q m (i:Int) (j:Int)=true):∀ (k i M:Nat),i+k=A→k<M →
    Aa.of.Stack.L0 N M (A:Int) (B:Int) r c l p q m (i:Int) (B7 i B F)=some (.agg [.int .i64 (A:Int),.int .i64 (B:Int),.ints (.own 108002 tB) .u64 (B7 A B F)]):=by
  intro k
  induction k with
  | zero =>
    intro i M hi hM
    obtain ⟨M,rfl⟩:∃ G,M=G+1:=⟨M-1,by omega⟩
    obtain rfl:i=A:=by omega
    rw [Aa.of.Stack.Ar,As,Ayx (by omega),Ayw]
  | succ k ih =>
    intro i M hi hM
    obtain ⟨M,rfl⟩:∃ G,M=G+1:=⟨M-1,by omega⟩
    have n:=of.Stack.inner N r c l p q m hA hB hF (show i<A by omega) (fun j hj=>hp i j (by omega) hj) B 0 M N (by omega) (by omega)
    rw [List.range_zero,List.map_nil,List.append_nil] at n
    rw [Aa.of.Stack.Ar,As,Ayt (by omega),Ays]
    exact n.trans (ih (i+1) M (by omega) (by omega))
theorem Aa.of.Stack.known:Aa.of.Stack.Kn:=Aa.of.Stack.Ac (.cons Aa.Eu.known .nil) fun a b r c l p q m hp=>by
  obtain ⟨h12,hy⟩:=Ad.1 (show (((Bg a&&Bg b)&&(A0 r c l&&A0 p q m))&&decide (a=r+p∧b=c∧q=c))=true from hp)
  obtain ⟨h1,hx⟩:=Ad.1 h12
  have h2:=Ad.2 ⟨hx,hy⟩
  obtain ⟨ha,hb⟩:=Ad.1 h1
  obtain ⟨A,rfl,hA⟩:=Em ha
  obtain ⟨B,rfl,hB⟩:=Em hb
  obtain ⟨h3,he⟩:=Ad.1 h2
  obtain ⟨hr,hm⟩:=Ad.1 h3
  obtain ⟨e1,e2,e3⟩:=of_decide_eq_true he
  have hs:=Hy.1 hr
  have hp:∀ i j:Nat,i<A→j<B→Mw r c l p q m (i:Int) (j:Int)=true:=fun i j hi hj=>by
    refine Aq.2 ⟨by omega,by omega,by omega,by omega,?_⟩
    by_cases h:(i:Int)<r
    · rw [if_pos h]; exact Ln hr (by omega) (by omega) (by omega) (by omega) r
    · rw [if_neg h]; exact Ln hm (by omega) (by omega) (by omega) (by omega) p
  refine ⟨8,.agg [.int .i64 (A:Int),.int .i64 (B:Int),.ints (.own 108002 tB) .u64 (B7 A B fun (i j:Nat)=>Ja r c l q m (i:Int) (j:Int))],[108002],?_,Wk.G8 (.cons .int (.cons .int (.cons (.drop _ _ _ _ (List.mem_singleton.2 rfl)) .nil)))⟩
  rw [Aa.of.Stack.ev]
  have n:=of.Stack.outer 8 r c l p q m hA hB (by omega) (F:=fun (i j:Nat)=>Ja r c l q m (i:Int) (j:Int)) (fun _ _=>rfl) hp A 0 8 (by omega) (by omega)
  rw [K0] at n
  exact n
theorem of.Mul.inner (N:Nat) (r c:Int) (l:List Int) (p q:Int) (m:List Int) {A B:Nat} (hA:A≤6) (hB:B≤6) {F:Nat→Nat→Int} (hF:∀ i j:Nat,F i j=Jg (Ha c l (i:Int)) (Kk p q m (j:Int))) {i:Nat} (hi:i<A) (hp:∀ j:Nat,j<B→S2 r c l p q m (i:Int) (j:Int)=true):∀ (k j M0 M:Nat),j+k=B→k<M →
    Aa.of.Mul.L1 N M0 M (A:Int) (B:Int) r c l p q m (i:Int) (i:Int) (j:Int) (B7 i B F++(List.range j).map (F i))=Aa.of.Mul.L0 N M0 (A:Int) (B:Int) r c l p q m ((i+1:Nat):Int) (B7 (i+1) B F):=by
  intro k
  induction k with
  | zero =>
    intro j M0 M hj hM
    obtain ⟨M,rfl⟩:∃ G,M=G+1:=⟨M-1,by omega⟩
    obtain rfl:j=B:=by omega
    rw [Aa.of.Mul.B9,As,Ayx (by omega),Ayw,Al (by omega) (by omega),← Ms]
    rfl
  | succ k ih =>
    intro j M0 M hj hM
    obtain ⟨M,rfl⟩:∃ G,M=G+1:=⟨M-1,by omega⟩
    have d:decide ((B7 i B F++(List.range j).map (F i)).length+1≤Gt)=true:=by
      refine Ayt ?_
      have:=Nat.mul_le_mul (show i≤6 by omega) hB
      rw [List.length_append,Ca,List.length_map,List.length_range]; unfold Gt; omega
    rw [Aa.of.Mul.B9,As,Ayt (by omega),Ays,hp j (by omega),Ays,d,Ays,Al (by omega) (by omega),← hF i j]
    have:=ih (j+1) M0 M (by omega) (by omega)
    rw [G1,← List.append_assoc] at this
    exact this
theorem of.Mul.outer (N:Nat) (r c:Int) (l:List Int) (p q:Int) (m:List Int) {A B:Nat} (hA:A≤6) (hB:B≤6) (hN:6<N) {F:Nat→Nat→Int} (hF:∀ i j:Nat,F i j=Jg (Ha c l (i:Int)) (Kk p q m (j:Int))) (hp:∀ i j:Nat,i<A→j<B→S2 r c l p q m (i:Int) (j:Int)=true):∀ (k i M:Nat),i+k=A→k<M →
    Aa.of.Mul.L0 N M (A:Int) (B:Int) r c l p q m (i:Int) (B7 i B F)=some (.agg [.int .i64 (A:Int),.int .i64 (B:Int),.ints (.own 108002 tB) .u64 (B7 A B F)]):=by
  intro k
  induction k with
  | zero =>
    intro i M hi hM
    obtain ⟨M,rfl⟩:∃ G,M=G+1:=⟨M-1,by omega⟩
    obtain rfl:i=A:=by omega
    rw [Aa.of.Mul.Ar,As,Ayx (by omega),Ayw]
  | succ k ih =>
    intro i M hi hM
    obtain ⟨M,rfl⟩:∃ G,M=G+1:=⟨M-1,by omega⟩
    have n:=of.Mul.inner N r c l p q m hA hB hF (show i<A by omega) (fun j hj=>hp i j (by omega) hj) B 0 M N (by omega) (by omega)
    rw [List.range_zero,List.map_nil,List.append_nil] at n
    rw [Aa.of.Mul.Ar,As,Ayt (by omega),Ays]
    exact n.trans (ih (i+1) M (by omega) (by omega))
theorem Aa.of.Mul.known:Aa.of.Mul.Kn:=Aa.of.Mul.Ac (.cons Aa.Ic.known .nil) fun a b r c l p q m hp=>by
  obtain ⟨h12,hy⟩:=Ad.1 (show (((Bg a&&Bg b)&&((A0 r c l&&A0 p q m)&&(Ah l&&Ah m)))&&decide (a=r∧b=q∧c=p))=true from hp)
  obtain ⟨h1,hx⟩:=Ad.1 h12
  have h2:=Ad.2 ⟨hx,hy⟩
  obtain ⟨ha,hb⟩:=Ad.1 h1
  obtain ⟨A,rfl,hA⟩:=Em ha
  obtain ⟨B,rfl,hB⟩:=Em hb
  obtain ⟨h3,he⟩:=Ad.1 h2
  obtain ⟨h4,h5⟩:=Ad.1 h3
  obtain ⟨hr,hm⟩:=Ad.1 h4
  obtain ⟨e1,e2,e3⟩:=of_decide_eq_true he
  have hp:∀ i j:Nat,i<A→j<B→S2 r c l p q m (i:Int) (j:Int)=true:=fun i j hi hj =>
    Ad.2 ⟨Ad.2 ⟨Ad.2 ⟨hr,Aq.2 (by omega)⟩,Ad.2 ⟨hm,Aq.2 (by omega)⟩⟩,Ad.2 ⟨h5,Aq.2 e3⟩⟩
  refine ⟨8,.agg [.int .i64 (A:Int),.int .i64 (B:Int),.ints (.own 108002 tB) .u64 (B7 A B fun (i j:Nat)=>Jg (Ha c l (i:Int)) (Kk p q m (j:Int)))],[108002],?_,Wk.G8 (.cons .int (.cons .int (.cons (.drop _ _ _ _ (List.mem_singleton.2 rfl)) .nil)))⟩
  rw [Aa.of.Mul.ev]
  have n:=of.Mul.outer 8 r c l p q m hA hB (by omega) (F:=fun (i j:Nat)=>Jg (Ha c l (i:Int)) (Kk p q m (j:Int))) (fun _ _=>rfl) hp A 0 8 (by omega) (by omega)
  rw [K0] at n
  exact n
open EqOf
def Sx (x:MX):DV:=.tup [.agg [.int .i64 x.1,.int .i64 x.2.1,.ints .fresh .u64 x.2.2.1],.int .i64 x.2.2.2]
def Akx (e:Int):DV:=.tup [.agg [.int .i64 0,.int .i64 0,.nil],.int .i64 e]
theorem N0 {drops:List Nat} {x:MX}:Wk drops (Sx x) (Sx x) :=
  Wk.Gp (.cons (Wk.G8 (.cons .int (.cons .int (.cons .N6 .nil)))) (.cons .int .nil))
theorem J0 {drops:List Nat} {e:Int}:Wk drops (Akx e) (Sx (Kl e)) :=
  Wk.Gp (.cons (Wk.G8 (.cons .int (.cons .int (.cons (.nil _ _) .nil)))) (.cons .int .nil))
theorem Aa.Bf.known:Aa.Bf.Kn:=Aa.Bf.Ac (.cons Aa.of.Bf.known (.cons Aa.size.known .nil)) fun a b _=>by
  show ∃ N dv drops,_=some dv∧Wk drops dv (Sx (C3 a b))
  unfold C3
  by_cases h:(Bg a&&Bg b)=true
  · obtain ⟨h1,h2⟩:=Ad.1 h
    rw [if_pos h]
    exact ⟨0,_,[],by rw [Aa.Bf.ev,h1,h2]; rfl,N0⟩
  · have e:((!(Bg a))||(!(Bg b)))=true:=by
      cases h1:Bg a<;>cases h2:Bg b<;>simp_all
    rw [if_neg h]
    exact ⟨0,_,[],by rw [Aa.Bf.ev,e]; rfl,J0⟩
theorem Aa.Ey.known:Aa.Ey.Kn:=Aa.Ey.Ac (.cons Aa.of.Ey.known (.cons Aa.size.known .nil)) fun n _=>by
  show ∃ N dv drops,_=some dv∧Wk drops dv (Sx (M8 n))
  unfold M8
  by_cases h:Bg n=true
  · rw [if_pos h]
    exact ⟨0,_,[],by rw [Aa.Ey.ev,h]; rfl,N0⟩
  · have e:Bg n=false:=by simpa using h
    rw [if_neg h]
    exact ⟨0,_,[],by rw [Aa.Ey.ev,e]; rfl,J0⟩
theorem Ip {r c:Int} {l:List Int} (h:A0 r c l=true):Bg r=true∧Bg c=true:=by
  obtain ⟨h1,h2,_⟩:=Hy.1 h
  exact ⟨Im.2 h1,Im.2 h2⟩
theorem Aa.Cs.known:Aa.Cs.Kn:=Aa.Cs.Ac (.cons Aa.Check.known (.cons Aa.of.Cs.known .nil)) fun r c l _=>by
  show ∃ N dv drops,_=some dv∧Wk drops dv (Sx (Fq r c l))
  unfold Fq
  by_cases h:A0 r c l=true
  · obtain ⟨h1,h2⟩:=Ip h
    rw [if_pos h]
    exact ⟨0,_,[],by rw [Aa.Cs.ev,Tf,h,h1,h2,Ayt ⟨rfl,rfl⟩]; rfl,N0⟩
  · have e:A0 r c l=false:=by simpa using h
    have ec:K1 r c l=1:=by unfold K1; rw [e]; rfl
    rw [if_neg h]
    exact ⟨0,_,[],by rw [Aa.Cs.ev,Tf,e,ec]; rfl,J0⟩
theorem Aa5 {r c x y a b:Int} (hr:0≤r∧r≤6) (hc:0≤c∧c≤6) :
    ((((((((A4 x (0:Int))||(A4 y (0:Int)))||(A4 a (0:Int)))||(A4 b (0:Int)))||(A4 r x))||(A4 c y))||(A4 (Ab (r-x)) a))||(A4 (Ab (c-y)) b))=!(Hv r c x y a b):=by
  unfold Hv
  simp only [As]
  by_cases h:0≤x∧0≤y∧x≤r∧y≤c
  · rw [Al (x:=r-x) (by omega) (by omega),Al (x:=c-y) (by omega) (by omega),Ay8]
    simp only [Bool.or_eq_true,Ayz,Bool.not_eq_true',Azb]
    omega
  · have e:decide (0≤x∧0≤y∧0≤a∧0≤b∧x≤r∧y≤c∧a≤r-x∧b≤c-y)=false:=Ayx (by omega)
    rw [e,Ay8]
    simp only [Bool.or_eq_true,Ayz,Bool.not_false,iff_true]
    omega
theorem Yj {r c x y a b:Int} {l:List Int} (h:A0 r c l=true) (hp:Hv r c x y a b=true):Bg a=true∧Bg b=true:=by
  obtain ⟨h1,h2,_⟩:=Hy.1 h
  have:=of_decide_eq_true hp
  exact ⟨Im.2 (by omega),Im.2 (by omega)⟩
theorem Aa.Part.known:Aa.Part.Kn:=Aa.Part.Ac (.cons Aa.Check.known (.cons Aa.of.Part.known .nil)) fun r c l x y a b _=>by
  show ∃ N dv drops,_=some dv∧Wk drops dv (Sx (Iq r c l x y a b))
  unfold Iq
  by_cases h:A0 r c l=true
  · obtain ⟨h1,h2,_⟩:=Hy.1 h
    by_cases hp:Hv r c x y a b=true
    · obtain ⟨s1,s2⟩:=Yj h hp
      rw [if_pos h,if_pos hp]
      exact ⟨0,_,[],by rw [Aa.Part.ev,Tf,Aa5 h1 h2,h,hp,s1,s2]; rfl,N0⟩
    · have e:Hv r c x y a b=false:=by simpa using hp
      rw [if_pos h,if_neg hp]
      exact ⟨0,_,[],by rw [Aa.Part.ev,Tf,Aa5 h1 h2,h,e]; rfl,J0⟩
  · have e:A0 r c l=false:=by simpa using h
    have ec:K1 r c l=1:=by unfold K1; rw [e]; rfl
    rw [if_neg h]
    exact ⟨0,_,[],by rw [Aa.Part.ev,Tf,e,ec]; rfl,J0⟩
theorem Vc (r c:Int) (l:List Int) (p q:Int) (m:List Int):((Xr r c l p q m) !=(0:Int))=!(A0 r c l&&A0 p q m):=by
  unfold Xr
  cases A0 r c l&&A0 p q m<;>rfl
theorem Aml {r c:Int} {l:List Int} {p q:Int} {m:List Int} (h:(A0 r c l&&A0 p q m)=false):Xr r c l p q m=1:=by
  unfold Xr; rw [h]; rfl
theorem Aa.Mul.known:Aa.Mul.Kn:=Aa.Mul.Ac (.cons Aa.of.Mul.known (.cons Aa.two.known .nil)) fun r c l p q m hp=>by
  show ∃ N dv drops,_=some dv∧Wk drops dv (Sx (Sa r c l p q m))
  unfold Sa
  have hp:(Ah l&&Ah m)=true:=hp
  by_cases h:(A0 r c l&&A0 p q m)=true
  · obtain ⟨h1,h2⟩:=Ad.1 h
    by_cases hc:c=p
    · have e:(c !=p)=false:=by rw [hc]; simp
      rw [if_pos h,if_pos hc]
      exact ⟨0,_,[],by rw [Aa.Mul.ev,Vc,h,e,(Ip h1).1,(Ip h2).2,hp,Ayt ⟨rfl,rfl,hc⟩]; rfl,N0⟩
    · have e:(c !=p)=true:=by simpa using hc
      rw [if_pos h,if_neg hc]
      exact ⟨0,_,[],by rw [Aa.Mul.ev,Vc,h,e]; rfl,J0⟩
  · have e:(A0 r c l&&A0 p q m)=false:=by simpa using h
    rw [if_neg h]
    exact ⟨0,_,[],by rw [Aa.Mul.ev,Vc,e,Aml e]; rfl,J0⟩
theorem Aa.Stack.known:Aa.Stack.Kn:=Aa.Stack.Ac (.cons Aa.of.Stack.known (.cons Aa.two.known .nil)) fun r c l p q m _=>by
  show ∃ N dv drops,_=some dv∧Wk drops dv (Sx (D0 r c l p q m))
  unfold D0
  by_cases h:(A0 r c l&&A0 p q m)=true
  · obtain ⟨h1,h2⟩:=Ad.1 h
    obtain ⟨r1,c1,_⟩:=Hy.1 h1
    obtain ⟨p1,q1,_⟩:=Hy.1 h2
    have ew:Ab (r+p)=r+p:=Al (by omega) (by omega)
    by_cases hc:c=q∧r+p≤6
    · have e:((c !=q)||(A4 (6:Int) (r+p)))=false:=by rw [As,hc.1]; simp; omega
      rw [if_pos h,if_pos hc]
      exact ⟨0,_,[],by rw [Aa.Stack.ev,ew,Vc,h,e,(Ip h1).2,Im.2 (show 0≤r+p∧r+p≤6 by omega),Ayt ⟨rfl,rfl,hc.1.symm⟩]; rfl,N0⟩
    · have e:((c !=q)||(A4 (6:Int) (r+p)))=true:=by rw [As]; simp; omega
      rw [if_pos h,if_neg hc]
      exact ⟨0,_,[],by rw [Aa.Stack.ev,ew,Vc,h,e]; rfl,J0⟩
  · have e:(A0 r c l&&A0 p q m)=false:=by simpa using h
    rw [if_neg h]
    exact ⟨0,_,[],by rw [Aa.Stack.ev,Vc,e,Aml e]; rfl,J0⟩
set_option maxRecDepth 100000
namespace EqRef10
def Aj.Ib.A6:List (Nat × Entry):=[]
def Aj.Ib.E:Env:=A9 (A5 Aj.Ib.A6) (fun _=>false) (fun _=>none) (fun _=>none)
theorem Aj.Ib.ev (N:Nat) (r c:Int) (l:List Int):Bq Aj.Ib.E N Tryz.f91 (An Tryz.f91) [.agg [.int .i64 r,.int .i64 c,.ints .arg .u64 l]]=some (.bool (bif (bif (bif (bif (D6 0 r) then (D6 r 6) else false) then (D6 0 c) else false) then (D6 c 6) else false) then ((List.length l:Int)==(Ab (r*c))) else false)) :=
  Eq.trans (by kernel_rfl)
  (Av (N2 (D6 0 r)) (Av (Lt (D6 0 r)) (Av (Lt (D6 0 r)) (Av (Sr (D6 0 r)) (Av (Agr (D6 0 r) (D6 r 6)) (Av (Ags (D6 0 r) (D6 r 6)) (Av (Ags (D6 0 r) (D6 r 6)) (Av (Aj0 (D6 0 r) (D6 r 6)) (Av (Axp (D6 0 r) (D6 r 6) (D6 0 c)) (Av (Au8 (D6 0 r) (D6 r 6) (D6 0 c)) (Av (Au8 (D6 0 r) (D6 r 6) (D6 0 c)) (Av (Axq (D6 0 r) (D6 r 6) (D6 0 c)) (Av (As1 (D6 0 r) (D6 r 6) (D6 0 c) (D6 c 6)) (Av (Ap7 (D6 0 r) (D6 r 6) (D6 0 c) (D6 c 6)) (Av (Ap7 (D6 0 r) (D6 r 6) (D6 0 c) (D6 c 6)) (Av (As1 (D6 0 r) (D6 r 6) (D6 0 c) (D6 c 6)) (Av (Ap7 (D6 0 r) (D6 r 6) (D6 0 c) (D6 c 6)) (Av (As1 (D6 0 r) (D6 r 6) (D6 0 c) (D6 c 6)) (Av (Ap7 (D6 0 r) (D6 r 6) (D6 0 c) (D6 c 6)) (Av (Au9 (D6 0 r) (D6 r 6) (D6 0 c) (D6 c 6)) (Av (Au9 (D6 0 r) (D6 r 6) (D6 0 c) (D6 c 6)) (Av (Axr (D6 0 r) (D6 r 6) (D6 0 c) (D6 c 6)) rfl))))))))))))))))))))))
abbrev _root_.Go.Proofs.S1.Aj.Ib.Kn:=A3 Tryz.prog 91 Aj.Ib.spec
theorem Aj.Ib.Ac (hk:Ax Tryz.prog Aj.Ib.A6) (h:∀ (r c:Int) (l:List Int),Aj.Ib.pre [.i r,.i c,.l l]=true→A8 Aj.Ib.E Tryz.f91 [.agg [.int .i64 r,.int .i64 c,.ints .arg .u64 l]] (Aj.Ib.out [.i r,.i c,.l l])):Aj.Ib.Kn :=
  Ak (Az hk _ _ _) Tryz.func91 (by kernel_rfl) (by kernel_rfl) h
def Aj.At.A6:List (Nat × Entry):=[]
def Aj.At.E:Env:=A9 (A5 Aj.At.A6) (fun _=>false) (fun _=>none) (fun _=>none)
theorem Aj.At.ev (N:Nat) (r c:Int) (l:List Int) (i k:Int):Bq Aj.At.E N Tryz.f80 (An Tryz.f80) [.agg [.int .i64 r,.int .i64 c,.ints .arg .u64 l],.int .i64 i,.int .i64 k]=bif ((decide (0≤(Ab ((Ab (i*c))+k))))&&(decide ((Ab ((Ab (i*c))+k))<(List.length l:Int)))) then some (.int .u64 (List.getD l (Int.toNat (Ab ((Ab (i*c))+k))) 0)) else none:=by kernel_rfl
abbrev _root_.Go.Proofs.S1.Aj.At.Kn:=A3 Tryz.prog 80 Aj.At.spec
theorem Aj.At.Ac (hk:Ax Tryz.prog Aj.At.A6) (h:∀ (r c:Int) (l:List Int) (i k:Int),Aj.At.pre [.i r,.i c,.l l,.i i,.i k]=true→A8 Aj.At.E Tryz.f80 [.agg [.int .i64 r,.int .i64 c,.ints .arg .u64 l],.int .i64 i,.int .i64 k] (Aj.At.out [.i r,.i c,.l l,.i i,.i k])):Aj.At.Kn :=
  Ak (Az hk _ _ _) Tryz.func80 (by kernel_rfl) (by kernel_rfl) h
def Aj.Bf.A6:List (Nat × Entry):=[]
def Aj.Bf.E:Env:=A9 (A5 Aj.Bf.A6) (fun _=>false) (fun _=>none) (fun _=>none)
theorem Aj.Bf.ev (N:Nat) (a b:Int):Bq Aj.Bf.E N Tryz.f35 (An Tryz.f35) [.int .i64 a,.int .i64 b]=bif (((decide ((0:Int)≤(Ab (a*b))))&&(decide ((Ab (a*b))≤(Ab (a*b)))))&&(decide ((Ab (a*b))≤Gt))) then some (.agg [.int .i64 a,.int .i64 b,.ints (.own 10 37) .u64 (List.replicate (Int.toNat (Ab (a*b))) 0)]) else none:=by kernel_rfl
abbrev _root_.Go.Proofs.S1.Aj.Bf.Kn:=A3 Tryz.prog 35 Aj.Bf.spec
theorem Aj.Bf.Ac (hk:Ax Tryz.prog Aj.Bf.A6) (h:∀ (a b:Int),Aj.Bf.pre [.i a,.i b]=true→A8 Aj.Bf.E Tryz.f35 [.int .i64 a,.int .i64 b] (Aj.Bf.out [.i a,.i b])):Aj.Bf.Kn :=
  Ak (Az hk _ _ _) Tryz.func35 (by kernel_rfl) (by kernel_rfl) h
def Aj.Ga.A6:List (Nat × Entry):=[]
def Aj.Ga.E:Env:=A9 (A5 Aj.Ga.A6) (fun _=>false) (fun _=>none) (fun _=>none)
theorem Aj.Ga.ev (N:Nat) (r c:Int) (l:List Int) (i k b:Int):Bq Aj.Ga.E N Tryz.f83 (An Tryz.f83) [.agg [.int .i64 r,.int .i64 c,.ints .arg .u64 l],.int .i64 i,.int .i64 k,.int .u64 b]=bif (decide (0+(List.length l)≤Gt)) then bif ((decide (0≤(Ab ((Ab (i*c))+k))))&&(decide ((Ab ((Ab (i*c))+k))<(List.length ([]++l):Int)))) then bif (decide ((Int.toNat (Ab ((Ab (i*c))+k)))<(List.length ([]++l)))) then some (.agg [.int .i64 r,.int .i64 c,.ints (.own 13 37) .u64 (List.set ([]++l) (Int.toNat (Ab ((Ab (i*c))+k))) b)]) else none else none else none:=by kernel_rfl
abbrev _root_.Go.Proofs.S1.Aj.Ga.Kn:=A3 Tryz.prog 83 Aj.Ga.spec
theorem Aj.Ga.Ac (hk:Ax Tryz.prog Aj.Ga.A6) (h:∀ (r c:Int) (l:List Int) (i k b:Int),Aj.Ga.pre [.i r,.i c,.l l,.i i,.i k,.i b]=true→A8 Aj.Ga.E Tryz.f83 [.agg [.int .i64 r,.int .i64 c,.ints .arg .u64 l],.int .i64 i,.int .i64 k,.int .u64 b] (Aj.Ga.out [.i r,.i c,.l l,.i i,.i k,.i b])):Aj.Ga.Kn :=
  Ak (Az hk _ _ _) Tryz.func83 (by kernel_rfl) (by kernel_rfl) h
def Aj.Ey.hint:Nat→Option Ba
  | 0=>some { keep:=[0,2,3,4],objs:=[],boxes:=[2,3] }
  | _=>none
def Aj.Ey.A6:List (Nat × Entry):=[(83,Aj.Ga.spec),(35,Aj.Bf.spec)]
def Aj.Ey.E:Env:=A9 (A5 Aj.Ey.A6) (fun _=>false) Aj.Ey.hint (fun _=>none)
def Aj.Ey.L0 (N M:Nat) (n p4:Int) (p3:List Int):Option DV:=B0 Aj.Ey.E N Tryz.f33 (An Tryz.f33) [1,1,0,1,0] [] M ⟨Gj 18 [(0,.int .i64 n),(2,.ptr 2 0 0),(3,.ptr 3 0 0),(4,.int .i64 p4)],[(2,false,.box [.int .i64 0,.int .i64 0,.nil]),(3,false,.box [.int .i64 n,.int .i64 n,.ints .fresh .u64 p3])]⟩
theorem Aj.Ey.Ar (N M:Nat) (n p4:Int) (p3:List Int):Aj.Ey.L0 N (M+1) n p4 p3=bif (A4 p4 n) then bif (C2 n n p3 p4 p4) then Aj.Ey.L0 N M n (Ab (p4+1)) (List.set p3 (Int.toNat (p4*n+p4)) 4607182418800017408) else none else some (.agg [.int .i64 n,.int .i64 n,.ints .fresh .u64 p3]):=by kernel_rfl
theorem Aj.Ey.ev (N:Nat) (n:Int):Bq Aj.Ey.E N Tryz.f33 (An Tryz.f33) [.int .i64 n]=bif (Bg n&&Bg n) then Aj.Ey.L0 N N n 0 (B7 (Int.toNat n) (Int.toNat n) (fun _ _=>0)) else none:=by kernel_rfl
abbrev _root_.Go.Proofs.S1.Aj.Ey.Kn:=A3 Tryz.prog 33 Aj.Ey.spec
theorem Aj.Ey.Ac (hk:Ax Tryz.prog Aj.Ey.A6) (h:∀ (n:Int),Aj.Ey.pre [.i n]=true→A8 Aj.Ey.E Tryz.f33 [.int .i64 n] (Aj.Ey.out [.i n])):Aj.Ey.Kn :=
  Ak (Az hk _ _ _) Tryz.func33 (by kernel_rfl) (by kernel_rfl) h
def Aj.Ex.A6:List (Nat × Entry):=[(99,Ag.Ex.spec)]
def Aj.Ex.E:Env:=A9 (A5 Aj.Ex.A6) (fun _=>false) (fun _=>none) (fun _=>none)
theorem Aj.Ex.ev (N:Nat) (r c:Int) (l:List Int) (p q:Int) (m:List Int):Bq Aj.Ex.E N Tryz.f31 (An Tryz.f31) [.agg [.int .i64 r,.int .i64 c,.ints .arg .u64 l],.agg [.int .i64 p,.int .i64 q,.ints .arg .u64 m]]=bif ((!((r==p)&&(c==q)))||(Lg l)) then some (.bool (bif (bif (r==p) then (c==q) else false) then (T4 l m) else false)) else none :=
  Eq.trans (by kernel_rfl)
  (Av (N2 (r==p)) (Av (Lt (r==p)) (Av (N2 (r==p)) (Av (Lt (r==p)) (Av (Xs (r==p)) (Av (Sr (r==p)) (Av (Agr (r==p) (c==q)) (Av (Ags (r==p) (c==q)) (Av (Agr (r==p) (c==q)) (Av (Ags (r==p) (c==q)) (C0 (Axo (r==p) (c==q) (Lg l)) (Av (Aj0 (r==p) (c==q)) rfl) rfl)))))))))))
abbrev _root_.Go.Proofs.S1.Aj.Ex.Kn:=A3 Tryz.prog 31 Aj.Ex.spec
theorem Aj.Ex.Ac (hk:Ax Tryz.prog Aj.Ex.A6) (h:∀ (r c:Int) (l:List Int) (p q:Int) (m:List Int),Aj.Ex.pre [.i r,.i c,.l l,.i p,.i q,.l m]=true→A8 Aj.Ex.E Tryz.f31 [.agg [.int .i64 r,.int .i64 c,.ints .arg .u64 l],.agg [.int .i64 p,.int .i64 q,.ints .arg .u64 m]] (Aj.Ex.out [.i r,.i c,.l l,.i p,.i q,.l m])):Aj.Ex.Kn :=
  Ak (Az hk _ _ _) Tryz.func31 (by kernel_rfl) (by kernel_rfl) h
def Aj.Row.A6:List (Nat × Entry):=[]
def Aj.Row.E:Env:=A9 (A5 Aj.Row.A6) (fun _=>false) (fun _=>none) (fun _=>none)
theorem Aj.Row.ev (N:Nat) (r c:Int) (l:List Int) (i:Int):Bq Aj.Row.E N Tryz.f107 (An Tryz.f107) [.agg [.int .i64 r,.int .i64 c,.ints .arg .u64 l],.int .i64 i]=bif (((decide ((0:Int)≤(Ab (i*c))))&&(decide ((Ab (i*c))≤(Ab ((Ab (i+1))*c)))))&&((decide ((0:Int)≤(Ab ((Ab (i+1))*c))))&&(decide ((Ab ((Ab (i+1))*c))≤(List.length l:Int))))) then some (.ints .arg .u64 (List.drop (Int.toNat (Ab (i*c))) (List.take (Int.toNat (Ab ((Ab (i+1))*c))) l))) else none :=
  Eq.trans (by kernel_rfl)
  (C0 (Avg (decide ((0:Int)≤(Ab (i*c)))) (decide ((Ab (i*c))≤(Ab ((Ab (i+1))*c)))) (decide ((0:Int)≤(Ab ((Ab (i+1))*c)))) (decide ((Ab ((Ab (i+1))*c))≤(List.length l:Int)))) rfl rfl)
abbrev _root_.Go.Proofs.S1.Aj.Row.Kn:=A3 Tryz.prog 107 Aj.Row.spec
theorem Aj.Row.Ac (hk:Ax Tryz.prog Aj.Row.A6) (h:∀ (r c:Int) (l:List Int) (i:Int),Aj.Row.pre [.i r,.i c,.l l,.i i]=true→A8 Aj.Row.E Tryz.f107 [.agg [.int .i64 r,.int .i64 c,.ints .arg .u64 l],.int .i64 i] (Aj.Row.out [.i r,.i c,.l l,.i i])):Aj.Row.Kn :=
  Ak (Az hk _ _ _) Tryz.func107 (by kernel_rfl) (by kernel_rfl) h
def Aj.P7.hint:Nat→Option Ba
  | 0=>some { keep:=[1,3,7,8],objs:=[(0,7,100007,.ints 37 .u64 [])],boxes:=[3] }
  | _=>none
def Aj.P7.A6:List (Nat × Entry):=[(80,Aj.At.spec)]
def Aj.P7.E:Env:=A9 (A5 Aj.P7.A6) (fun _=>false) Aj.P7.hint (fun _=>none)
def Aj.P7.L0 (N M:Nat) (r c:Int) (l:List Int) (k p8:Int) (p7:List Int):Option DV:=B0 Aj.P7.E N Tryz.f108 (An Tryz.f108) [1,1,0,1,0] [] M ⟨Gj 25 [(1,.int .i64 k),(3,.ptr 3 0 0),(7,.oref 100007),(8,.int .i64 p8)],[(3,false,.box [.int .i64 r,.int .i64 c,.ints .arg .u64 l]),(100007,false,.ints 37 .u64 p7)]⟩
theorem Aj.P7.Ar (N M:Nat) (r c:Int) (l:List Int) (k p8:Int) (p7:List Int):Aj.P7.L0 N (M+1) r c l k p8 p7=bif (A4 p8 r) then bif (C2 r c l p8 k) then bif (decide ((List.length p7)+1≤Gt)) then Aj.P7.L0 N M r c l k (Ab (p8+1)) (p7++[(D9 c l p8 k)]) else none else none else some (.ints (.own 100007 37) .u64 p7):=by kernel_rfl
theorem Aj.P7.ev (N:Nat) (r c:Int) (l:List Int) (k f:Int):Bq Aj.P7.E N Tryz.f108 (An Tryz.f108) [.agg [.int .i64 r,.int .i64 c,.ints .arg .u64 l],.int .i64 k,.int .i64 f] =
  Aj.P7.L0 N N r c l k f []:=by kernel_rfl
abbrev _root_.Go.Proofs.S1.Aj.P7.Kn:=A3 Tryz.prog 108 Aj.P7.spec
theorem Aj.P7.Ac (hk:Ax Tryz.prog Aj.P7.A6) (h:∀ (r c:Int) (l:List Int) (k f:Int),Aj.P7.pre [.i r,.i c,.l l,.i k,.i f]=true→A8 Aj.P7.E Tryz.f108 [.agg [.int .i64 r,.int .i64 c,.ints .arg .u64 l],.int .i64 k,.int .i64 f] (Aj.P7.out [.i r,.i c,.l l,.i k,.i f])):Aj.P7.Kn :=
  Ak (Az hk _ _ _) Tryz.func108 (by kernel_rfl) (by kernel_rfl) h
def Aj.Mul.hint:Nat→Option Ba
  | 0=>some { keep:=[2,3,4,5,6],objs:=[],boxes:=[2,3,4,5] }
  | 2=>some { keep:=[2,3,4,5,6,7],objs:=[],boxes:=[2,3,4,5] }
  | _=>none
def Aj.Mul.A6:List (Nat × Entry):=[(118,Ag.H3.spec),(108,Aj.P7.spec),(107,Aj.Row.spec),(83,Aj.Ga.spec),(35,Aj.Bf.spec)]
def Aj.Mul.E:Env:=A9 (A5 Aj.Mul.A6) (fun _=>false) Aj.Mul.hint (fun _=>none)
def Aj.Mul.L0 (N M:Nat) (r c:Int) (l:List Int) (p q:Int) (m:List Int) (p6:Int) (p5_1:List Int):Option DV:=B0 Aj.Mul.E N Tryz.f45 (An Tryz.f45) [1,1,0,1,0] [] M ⟨Gj 37 [(2,.ptr 2 0 0),(3,.ptr 3 0 0),(4,.ptr 4 0 0),(5,.ptr 5 0 0),(6,.int .i64 p6)],[(2,false,.box [.int .i64 r,.int .i64 c,.ints .arg .u64 l]),(3,false,.box [.int .i64 p,.int .i64 q,.ints .arg .u64 m]),(4,false,.box [.int .i64 0,.int .i64 0,.nil]),(5,false,.box [.int .i64 r,.int .i64 q,.ints .fresh .u64 p5_1])]⟩
def Aj.Mul.L1 (N M0 M:Nat) (r c:Int) (l:List Int) (p q:Int) (m:List Int) (p7:Int) (p5:List Int) (p6_1:Int):Option DV:=B0 Aj.Mul.E N Tryz.f45 (An Tryz.f45) [1,1,0,1,0,0,1,0,0,1,0] [M0] M ⟨Gj 37 [(2,.ptr 2 0 0),(3,.ptr 3 0 0),(4,.ptr 4 0 0),(5,.ptr 5 0 0),(6,.int .i64 p6_1),(7,.int .i64 p7)],[(2,false,.box [.int .i64 r,.int .i64 c,.ints .arg .u64 l]),(3,false,.box [.int .i64 p,.int .i64 q,.ints .arg .u64 m]),(4,false,.box [.int .i64 0,.int .i64 0,.nil]),(5,false,.box [.int .i64 r,.int .i64 q,.ints .fresh .u64 p5])]⟩
theorem Aj.Mul.Ar (N M:Nat) (r c:Int) (l:List Int) (p q:Int) (m:List Int) (p6:Int) (p5_1:List Int):Aj.Mul.L0 N (M+1) r c l p q m p6 p5_1=bif (A4 p6 r) then Aj.Mul.L1 N M N r c l p q m 0 p5_1 p6 else some (.agg [.int .i64 r,.int .i64 q,.ints .fresh .u64 p5_1]):=by kernel_rfl
theorem Aj.Mul.B9 (N M0 M:Nat) (r c:Int) (l:List Int) (p q:Int) (m:List Int) (p7:Int) (p5:List Int) (p6_1:Int):Aj.Mul.L1 N M0 (M+1) r c l p q m p7 p5 p6_1=bif (A4 p7 q) then bif (Pg r c l p6_1) then bif (G6 p q m p7&&Cz (0≤(0:Int)∧(0:Int)≤p)) then bif ((O3 (Ha c l p6_1) (Cu q m p7 0 (Int.toNat (p-0)))&&Ah (Ha c l p6_1))&&Ah (Cu q m p7 0 (Int.toNat (p-0)))) then bif (C2 r q p5 p6_1 p7) then Aj.Mul.L1 N M0 M r c l p q m (Ab (p7+1)) (List.set p5 (Int.toNat (p6_1*q+p7)) (Jg (Ha c l p6_1) (Cu q m p7 0 (Int.toNat (p-0))))) p6_1 else none else none else none else none else Aj.Mul.L0 N M0 r c l p q m (Ab (p6_1+1)) p5 :=
  Eq.trans (by kernel_rfl)
  (Eh (C0 (Cx (Pg r c l p6_1)) (C0 (Cx (G6 p q m p7&&Cz (0≤(0:Int)∧(0:Int)≤p))) (C0 (Cx ((O3 (Ha c l p6_1) (Cu q m p7 0 (Int.toNat (p-0)))&&Ah (Ha c l p6_1))&&Ah (Cu q m p7 0 (Int.toNat (p-0))))) (C0 (Cx (C2 r q p5 p6_1 p7)) rfl rfl) rfl) rfl) rfl) rfl)
theorem Aj.Mul.ev (N:Nat) (r c:Int) (l:List Int) (p q:Int) (m:List Int):Bq Aj.Mul.E N Tryz.f45 (An Tryz.f45) [.agg [.int .i64 r,.int .i64 c,.ints .arg .u64 l],.agg [.int .i64 p,.int .i64 q,.ints .arg .u64 m]]=bif (Bg r&&Bg q) then Aj.Mul.L0 N N r c l p q m 0 (B7 (Int.toNat r) (Int.toNat q) (fun _ _=>0)) else none:=by kernel_rfl
abbrev _root_.Go.Proofs.S1.Aj.Mul.Kn:=A3 Tryz.prog 45 Aj.Mul.spec
theorem Aj.Mul.Ac (hk:Ax Tryz.prog Aj.Mul.A6) (h:∀ (r c:Int) (l:List Int) (p q:Int) (m:List Int),Aj.Mul.pre [.i r,.i c,.l l,.i p,.i q,.l m]=true→A8 Aj.Mul.E Tryz.f45 [.agg [.int .i64 r,.int .i64 c,.ints .arg .u64 l],.agg [.int .i64 p,.int .i64 q,.ints .arg .u64 m]] (Aj.Mul.out [.i r,.i c,.l l,.i p,.i q,.l m])):Aj.Mul.Kn :=
  Ak (Az hk _ _ _) Tryz.func45 (by kernel_rfl) (by kernel_rfl) h
def Aj.Cs.hint:Nat→Option Ba
  | 0=>some { keep:=[1,2,3,4],objs:=[],boxes:=[1,2,3] }
  | 2=>some { keep:=[1,2,3,4,5],objs:=[],boxes:=[1,2,3] }
  | _=>none
def Aj.Cs.A6:List (Nat × Entry):=[(80,Aj.At.spec),(83,Aj.Ga.spec),(35,Aj.Bf.spec)]
def Aj.Cs.E:Env:=A9 (A5 Aj.Cs.A6) (fun _=>false) Aj.Cs.hint (fun _=>none)
def Aj.Cs.L0 (N M:Nat) (r c:Int) (l:List Int) (p4:Int) (p3_1:List Int):Option DV:=B0 Aj.Cs.E N Tryz.f37 (An Tryz.f37) [1,1,0,1,0] [] M ⟨Gj 32 [(1,.ptr 1 0 0),(2,.ptr 2 0 0),(3,.ptr 3 0 0),(4,.int .i64 p4)],[(1,false,.box [.int .i64 r,.int .i64 c,.ints .arg .u64 l]),(2,false,.box [.int .i64 0,.int .i64 0,.nil]),(3,false,.box [.int .i64 c,.int .i64 r,.ints .fresh .u64 p3_1])]⟩
def Aj.Cs.L1 (N M0 M:Nat) (r c:Int) (l:List Int) (p5:Int) (p3:List Int) (p4_1:Int):Option DV:=B0 Aj.Cs.E N Tryz.f37 (An Tryz.f37) [1,1,0,1,0,0,1,0,0,1,0] [M0] M ⟨Gj 32 [(1,.ptr 1 0 0),(2,.ptr 2 0 0),(3,.ptr 3 0 0),(4,.int .i64 p4_1),(5,.int .i64 p5)],[(1,false,.box [.int .i64 r,.int .i64 c,.ints .arg .u64 l]),(2,false,.box [.int .i64 0,.int .i64 0,.nil]),(3,false,.box [.int .i64 c,.int .i64 r,.ints .fresh .u64 p3])]⟩
theorem Aj.Cs.Ar (N M:Nat) (r c:Int) (l:List Int) (p4:Int) (p3_1:List Int):Aj.Cs.L0 N (M+1) r c l p4 p3_1=bif (A4 p4 r) then Aj.Cs.L1 N M N r c l 0 p3_1 p4 else some (.agg [.int .i64 c,.int .i64 r,.ints .fresh .u64 p3_1]):=by kernel_rfl
theorem Aj.Cs.B9 (N M0 M:Nat) (r c:Int) (l:List Int) (p5:Int) (p3:List Int) (p4_1:Int):Aj.Cs.L1 N M0 (M+1) r c l p5 p3 p4_1=bif (A4 p5 c) then bif (C2 r c l p4_1 p5) then bif (C2 c r p3 p5 p4_1) then Aj.Cs.L1 N M0 M r c l (Ab (p5+1)) (List.set p3 (Int.toNat (p5*r+p4_1)) (D9 c l p4_1 p5)) p4_1 else none else none else Aj.Cs.L0 N M0 r c l (Ab (p4_1+1)) p3 :=
  Eq.trans (by kernel_rfl)
  (Eh (C0 (Cx (C2 r c l p4_1 p5)) (C0 (Cx (C2 c r p3 p5 p4_1)) rfl rfl) rfl) rfl)
theorem Aj.Cs.ev (N:Nat) (r c:Int) (l:List Int):Bq Aj.Cs.E N Tryz.f37 (An Tryz.f37) [.agg [.int .i64 r,.int .i64 c,.ints .arg .u64 l]]=bif (Bg c&&Bg r) then Aj.Cs.L0 N N r c l 0 (B7 (Int.toNat c) (Int.toNat r) (fun _ _=>0)) else none:=by kernel_rfl
abbrev _root_.Go.Proofs.S1.Aj.Cs.Kn:=A3 Tryz.prog 37 Aj.Cs.spec
theorem Aj.Cs.Ac (hk:Ax Tryz.prog Aj.Cs.A6) (h:∀ (r c:Int) (l:List Int),Aj.Cs.pre [.i r,.i c,.l l]=true→A8 Aj.Cs.E Tryz.f37 [.agg [.int .i64 r,.int .i64 c,.ints .arg .u64 l]] (Aj.Cs.out [.i r,.i c,.l l])):Aj.Cs.Kn :=
  Ak (Az hk _ _ _) Tryz.func37 (by kernel_rfl) (by kernel_rfl) h
def Aj.Part.hint:Nat→Option Ba
  | 0=>some { keep:=[1,2,3,4,5,10,11,12],objs:=[],boxes:=[5,10,11] }
  | 2=>some { keep:=[1,2,3,4,5,10,11,12,13],objs:=[],boxes:=[5,10,11] }
  | _=>none
def Aj.Part.A6:List (Nat × Entry):=[(80,Aj.At.spec),(83,Aj.Ga.spec),(35,Aj.Bf.spec)]
def Aj.Part.E:Env:=A9 (A5 Aj.Part.A6) (fun _=>false) Aj.Part.hint (fun _=>none)
def Aj.Part.L0 (N M:Nat) (r c:Int) (l:List Int) (x y:Int) (a b p12:Int) (p11_1:List Int):Option DV:=B0 Aj.Part.E N Tryz.f128 (An Tryz.f128) [1,1,0,1,0] [] M ⟨Gj 40 [(1,.int .i64 x),(2,.int .i64 y),(3,.int .i64 a),(4,.int .i64 b),(5,.ptr 5 0 0),(10,.ptr 10 0 0),(11,.ptr 11 0 0),(12,.int .i64 p12)],[(5,false,.box [.int .i64 r,.int .i64 c,.ints .arg .u64 l]),(10,false,.box [.int .i64 0,.int .i64 0,.nil]),(11,false,.box [.int .i64 a,.int .i64 b,.ints .fresh .u64 p11_1])]⟩
def Aj.Part.L1 (N M0 M:Nat) (r c:Int) (l:List Int) (x y:Int) (a b p13:Int) (p11:List Int) (p12_1:Int):Option DV:=B0 Aj.Part.E N Tryz.f128 (An Tryz.f128) [1,1,0,1,0,0,1,0,0,1,0] [M0] M ⟨Gj 40 [(1,.int .i64 x),(2,.int .i64 y),(3,.int .i64 a),(4,.int .i64 b),(5,.ptr 5 0 0),(10,.ptr 10 0 0),(11,.ptr 11 0 0),(12,.int .i64 p12_1),(13,.int .i64 p13)],[(5,false,.box [.int .i64 r,.int .i64 c,.ints .arg .u64 l]),(10,false,.box [.int .i64 0,.int .i64 0,.nil]),(11,false,.box [.int .i64 a,.int .i64 b,.ints .fresh .u64 p11])]⟩
theorem Aj.Part.Ar (N M:Nat) (r c:Int) (l:List Int) (x y:Int) (a b p12:Int) (p11_1:List Int):Aj.Part.L0 N (M+1) r c l x y a b p12 p11_1=bif (A4 p12 a) then Aj.Part.L1 N M N r c l x y a b 0 p11_1 p12 else some (.agg [.int .i64 a,.int .i64 b,.ints .fresh .u64 p11_1]):=by kernel_rfl
theorem Aj.Part.B9 (N M0 M:Nat) (r c:Int) (l:List Int) (x y:Int) (a b p13:Int) (p11:List Int) (p12_1:Int):Aj.Part.L1 N M0 (M+1) r c l x y a b p13 p11 p12_1=bif (A4 p13 b) then bif (C2 r c l (Ab (x+p12_1)) (Ab (y+p13))) then bif (C2 a b p11 p12_1 p13) then Aj.Part.L1 N M0 M r c l x y a b (Ab (p13+1)) (List.set p11 (Int.toNat (p12_1*b+p13)) (D9 c l (Ab (x+p12_1)) (Ab (y+p13)))) p12_1 else none else none else Aj.Part.L0 N M0 r c l x y a b (Ab (p12_1+1)) p11 :=
  Eq.trans (by kernel_rfl)
  (Eh (C0 (Cx (C2 r c l (Ab (x+p12_1)) (Ab (y+p13)))) (C0 (Cx (C2 a b p11 p12_1 p13)) rfl rfl) rfl) rfl)
theorem Aj.Part.ev (N:Nat) (r c:Int) (l:List Int) (x y:Int) (a b:Int):Bq Aj.Part.E N Tryz.f128 (An Tryz.f128) [.agg [.int .i64 r,.int .i64 c,.ints .arg .u64 l],.int .i64 x,.int .i64 y,.int .i64 a,.int .i64 b]=bif (Bg a&&Bg b) then Aj.Part.L0 N N r c l x y a b 0 (B7 (Int.toNat a) (Int.toNat b) (fun _ _=>0)) else none:=by kernel_rfl
abbrev _root_.Go.Proofs.S1.Aj.Part.Kn:=A3 Tryz.prog 128 Aj.Part.spec
theorem Aj.Part.Ac (hk:Ax Tryz.prog Aj.Part.A6) (h:∀ (r c:Int) (l:List Int) (x y:Int) (a b:Int),Aj.Part.pre [.i r,.i c,.l l,.i x,.i y,.i a,.i b]=true→A8 Aj.Part.E Tryz.f128 [.agg [.int .i64 r,.int .i64 c,.ints .arg .u64 l],.int .i64 x,.int .i64 y,.int .i64 a,.int .i64 b] (Aj.Part.out [.i r,.i c,.l l,.i x,.i y,.i a,.i b])):Aj.Part.Kn :=
  Ak (Az hk _ _ _) Tryz.func128 (by kernel_rfl) (by kernel_rfl) h
abbrev _root_.Go.Proofs.S1.Aj.Ga.arg.Kn:Prop:=A3 Tryz.prog 83 Aj.Ga.arg.spec
abbrev _root_.Go.Proofs.S1.Aj.Ey.arg.Kn:Prop:=A3 Tryz.prog 33 Aj.Ey.arg.spec
end EqRef10
open EqRef10
theorem Aj.Ib.known:Aj.Ib.Kn:=Aj.Ib.Ac .nil fun r c l _=>by
  refine ⟨0,Aj.Ib.out [.i r,.i c,.l l],[],?_,.bool⟩
  have e:(bif (bif (bif (bif (D6 (0:Int) r) then (D6 r (6:Int)) else false) then (D6 (0:Int) c) else false) then (D6 c (6:Int)) else false) then ((List.length l:Int)==(Ab (r*c))) else false)=A0 r c l:=by
    have:=Af6 r c l
    have h:(bif (bif (bif (bif (D6 (0:Int) r) then (D6 r (6:Int)) else false) then (D6 (0:Int) c) else false) then (D6 c (6:Int)) else false) then ((List.length l:Int)==(Ab (r*c))) else false)=!(((!(Bg r))||(!(Bg c)))||((List.length l:Int) !=(Ab (r*c)))):=by
      unfold Bg bne
      rw [Ef,Ef,Ef,Ef]
      cases decide (0≤r)<;>cases decide (r≤6)<;>cases decide (0≤c)<;>cases decide (c≤6)<;>cases ((List.length l:Int)==(Ab (r*c)))<;>rfl
    rw [h,this,Bool.not_not]
  rw [Aj.Ib.ev,e]; rfl
theorem Aj.At.known:Aj.At.Kn:=Aj.At.Ac .nil fun r c l i k hp=>by
  obtain ⟨e,h1,h2⟩:=K8 (R:=r) (show C2 r c l i k=true from hp)
  refine ⟨0,Aj.At.out [.i r,.i c,.l l,.i i,.i k],[],?_,.int⟩
  rw [Aj.At.ev,e,Ayt h1,Ayt h2]
  rfl
theorem Xq {drops:List Nat} {i:Nat} {e:TypeId} {a b:Int} {l:List Int} (h:i∈drops):Wk drops (.agg [.int .i64 a,.int .i64 b,.ints (.own i e) .u64 l]) (.agg [.int .i64 a,.int .i64 b,.ints .fresh .u64 l]) :=
  Wk.G8 (.cons .int (.cons .int (.cons (.drop _ _ _ _ h) .nil)))
theorem Tp {drops:List Nat} {a b:Int} {l:List Int}:Wk drops (.agg [.int .i64 a,.int .i64 b,.ints .fresh .u64 l]) (.agg [.int .i64 a,.int .i64 b,.ints .fresh .u64 l]) :=
  Wk.G8 (.cons .int (.cons .int (.cons .N6 .nil)))
theorem Aj.Bf.known:Aj.Bf.Kn:=Aj.Bf.Ac .nil fun a b hp=>by
  obtain ⟨ha,hb⟩:=Ad.1 (show (Bg a&&Bg b)=true from hp)
  obtain ⟨A,rfl,hA⟩:=Em ha
  obtain ⟨B,rfl,hB⟩:=Em hb
  have hm:=Jr (a:=(A:Int)) (b:=(B:Int)) (by omega) (by omega) (by omega) (by omega)
  have e:((A:Int)*(B:Int)).toNat=A*B:=by rw [← Azd,Ayu]
  refine ⟨0,.agg [.int .i64 (A:Int),.int .i64 (B:Int),.ints (.own 10 tB) .u64 (B7 A B fun _ _=>0)],[10],?_,Xq (List.mem_singleton.2 rfl)⟩
  rw [Aj.Bf.ev,Al (by omega) (by omega),Ayt hm.1,Ayt (Int.le_refl _),Ayt (show (A:Int)*(B:Int)≤(Gt:Int) by unfold Gt; omega),e,S9]
  rfl
theorem Aj.Ga.known:Aj.Ga.Kn:=Aj.Ga.Ac .nil fun r c l i k b hp=>by
  obtain ⟨_,_,_,_,_,_,_,h8⟩:=Aq.1 (show C2 r c l i k=true from hp)
  obtain ⟨e,g1,g2⟩:=K8 (R:=r) (show C2 r c l i k=true from hp)
  refine ⟨0,.agg [.int .i64 r,.int .i64 c,.ints (.own 13 tB) .u64 (List.set l (i*c+k).toNat b)],[13],?_,Xq (List.mem_singleton.2 rfl)⟩
  rw [Aj.Ga.ev,e,List.nil_append,Ayt (show 0+l.length≤Gt by unfold Gt; omega),Ayt g1,Ayt g2,Ayt (show (i*c+k).toNat<l.length by omega)]
  rfl
theorem Af4 {r c i k:Nat} (hk:k<c) {d d':Nat→Nat→Bool} {f:Nat→Nat→Int} {x:Int} (hx:x=f i k)
    (h:∀ a b,a<r→b<c→(d' a b=true↔d a b=true∨(a=i∧b=k))) :
    List.set (B7 r c fun a b=>if d a b=true then f a b else 0) (Int.toNat ((i:Int)*(c:Int)+(k:Int))) x=B7 r c fun a b=>if d' a b=true then f a b else 0:=by
  have e:((i:Int)*(c:Int)+(k:Int)).toNat=i*c+k:=by rw [← Azd,← Int.natCast_add,Ayu]
  rw [e,Uz hk]
  refine D7 fun a b ha hb=>?_
  have h:=h a b ha hb
  by_cases hab:a=i∧b=k
  · rw [if_pos hab,if_pos (h.2 (.inr hab)),hx,hab.1,hab.2]
  · rw [if_neg hab]
    by_cases hd:d a b=true
    · rw [if_pos hd,if_pos (h.2 (.inl hd))]
    · rw [if_neg hd,if_neg (fun k=>(h.1 k).elim hd hab)]
theorem Akc (r c:Int) (l:List Int) (p q:Int) (m:List Int):(bif (bif (r==p) then (c==q) else false) then (T4 l m) else false)=X5 r c l p q m:=by
  unfold X5 T4
  have e1:(r==p)=decide (r=p):=by rw [Ay8]; simp
  have e2:(c==q)=decide (c=q):=by rw [Ay8]; simp
  rw [e1,e2]
  cases decide (r=p)<;>cases decide (c=q)<;>cases decide (l=m)<;>rfl
theorem Aj.Ex.known:Aj.Ex.Kn:=Aj.Ex.Ac (.cons Ag.Ex.known .nil) fun r c l p q m hp=>by
  have hp:Lg l=true:=hp
  refine ⟨0,Aj.Ex.out [.i r,.i c,.l l,.i p,.i q,.l m],[],?_,.bool⟩
  rw [Aj.Ex.ev,hp,Bool.or_true,Ays,Akc]
  rfl
theorem Acr (N:Nat) {R C K f:Nat} {l:List Int} (r6:R≤6) (c6:C≤6) (hl:l.length=R*C) (hk:K<C):∀ (k i F:Nat),f+i+k=R→k<F →
    Aj.P7.L0 N F (R:Int) (C:Int) l (K:Int) ((f+i:Nat):Int) (Cu (C:Int) l (K:Int) (f:Int) i)=some (.ints (.own 100007 tB) .u64 (Cu (C:Int) l (K:Int) (f:Int) (R-f))):=by
  intro k
  induction k with
  | zero =>
    intro i F hi hF
    obtain ⟨F,rfl⟩:∃ G,F=G+1:=⟨F-1,by omega⟩
    rw [Aj.P7.Ar,As,Ayx (by omega),Ayw,show R-f=i by omega]
  | succ k ih =>
    intro i F hi hF
    obtain ⟨F,rfl⟩:∃ G,F=G+1:=⟨F-1,by omega⟩
    have d:decide ((Cu (C:Int) l (K:Int) (f:Int) i).length+1≤Gt)=true:=Ayt (by rw [Gd]; unfold Gt; omega)
    rw [Aj.P7.Ar,As,Ayt (by omega),Ays,Du r6 c6 hl (show f+i<R by omega) hk,Ays,d,Ays,Al (by omega) (by omega)]
    have:=ih (i+1) F (by omega) (by omega)
    unfold Cu at this ⊢
    rw [List.range_succ,List.map_append] at this
    exact this
theorem Aj.P7.known:Aj.P7.Kn:=Aj.P7.Ac (.cons Aj.At.known .nil) fun r c l k f hp=>by
  obtain ⟨h0,hf⟩:=Ad.1 (show (G6 r c l k&&Cz (0≤f∧f≤r))=true from hp)
  have hf:=Aq.1 hf
  obtain ⟨hr,hi⟩:=Ad.1 h0
  have hi:=Aq.1 hi
  obtain ⟨R,C,rfl,rfl,r6,c6,hl⟩:=Ce hr
  obtain ⟨K,rfl⟩:∃ j:Nat,k=j:=⟨k.toNat,by omega⟩
  obtain ⟨f,rfl⟩:∃ j:Nat,f=j:=⟨f.toNat,by omega⟩
  refine ⟨8,.ints (.own 100007 tB) .u64 (Cu (C:Int) l (K:Int) (f:Int) (R-f)),[100007],?_,?_⟩
  · rw [Aj.P7.ev]
    exact Acr 8 r6 c6 hl (by omega) (R-f) 0 8 (by omega) (by omega)
  · show Wk _ _ (DV.ints .fresh .u64 (Cu (C:Int) l (K:Int) (f:Int) (Int.toNat ((R:Int)-(f:Int)))))
    rw [show Int.toNat ((R:Int)-(f:Int))=R-f by omega]
    exact .drop _ _ _ _ (List.mem_singleton.2 rfl)
theorem Aj.Row.known:Aj.Row.Kn:=Aj.Row.Ac .nil fun r c l i hp=>by
  obtain ⟨hr,hi⟩:=Ad.1 (show Pg r c l i=true from hp)
  have hi:=Aq.1 hi
  obtain ⟨R,C,rfl,rfl,r6,c6,hl⟩:=Ce hr
  obtain ⟨I,rfl⟩:∃ k:Nat,i=k:=⟨i.toNat,by omega⟩
  have hm:=Jr (a:=(I:Int)) (b:=(C:Int)) (by omega) (by omega) (by omega) (by omega)
  have hm2:=Jr (a:=(I:Int)+1) (b:=(C:Int)) (by omega) (by omega) (by omega) (by omega)
  have hle:(I+1)*C≤R*C:=Ay4 C (by omega)
  have hle2:I*C≤(I+1)*C:=Ay4 C (by omega)
  have e1:(I:Int)*(C:Int)=((I*C:Nat):Int):=(Azd _ _).symm
  have e2:((I:Int)+1)*(C:Int)=(((I+1)*C:Nat):Int):=by rw [Azd]; rfl
  refine ⟨0,Aj.Row.out [.i (R:Int),.i (C:Int),.l l,.i (I:Int)],[],?_,.W2⟩
  rw [Aj.Row.ev,Al (x:=(I:Int)+1) (by omega) (by omega),Al (x:=(I:Int)*(C:Int)) (by omega) (by omega),Al (x:=((I:Int)+1)*(C:Int)) (by omega) (by omega)]
  have d1:decide ((0:Int)≤(I:Int)*(C:Int))=true:=Ayt (by omega)
  have d2:decide ((I:Int)*(C:Int)≤((I:Int)+1)*(C:Int))=true:=Ayt (by rw [e1,e2]; omega)
  have d3:decide ((0:Int)≤((I:Int)+1)*(C:Int))=true:=Ayt (by omega)
  have d4:decide (((I:Int)+1)*(C:Int)≤(l.length:Int))=true:=Ayt (by rw [e2]; omega)
  rw [d1,d2,d3,d4]
  rfl
open EqRef10
def dR (i k a b:Nat):Bool:=decide (a<i∨(a=i∧b<k))
def dC (i k a b:Nat):Bool:=decide (b<i∨(b=i∧a<k))
def fill (r c:Nat) (f:Nat→Nat→Int) (d:Nat→Nat→Bool):List Int:=B7 r c fun a b=>if d a b=true then f a b else 0
theorem Nw (r c:Nat) (f:Nat→Nat→Int) (d:Nat→Nat→Bool):(fill r c f d).length=r*c:=Ca _ _ _
theorem U1 {r c i k:Nat} (hk:k<c) {d d':Nat→Nat→Bool} {f:Nat→Nat→Int} {x:Int} (hx:x=f i k) (h:∀ a b,a<r→b<c→(d' a b=true↔d a b=true∨(a=i∧b=k))) :
    List.set (fill r c f d) (Int.toNat ((i:Int)*(c:Int)+(k:Int))) x=fill r c f d':=Af4 hk hx h
theorem Ta {r c:Nat} {f:Nat→Nat→Int} {d d':Nat→Nat→Bool} (h:∀ a b,a<r→b<c→(d a b=true↔d' a b=true)):fill r c f d=fill r c f d':=by
  refine D7 fun a b ha hb=>?_
  have:=h a b ha hb
  by_cases hd:d a b=true
  · rw [if_pos hd,if_pos (this.1 hd)]
  · rw [if_neg hd,if_neg (fun k=>hd (this.2 k))]
theorem Zj {r c:Nat} {f:Nat→Nat→Int} {d:Nat→Nat→Bool} (h:∀ a b,a<r→b<c→d a b=true):fill r c f d=B7 r c f :=
  D7 fun a b ha hb=>by rw [if_pos (h a b ha hb)]
theorem Rv {r c:Nat} {f:Nat→Nat→Int} {d:Nat→Nat→Bool} (h:∀ a b,a<r→b<c→¬ d a b=true):fill r c f d=B7 r c fun _ _=>0 :=
  D7 fun a b ha hb=>by rw [if_neg (h a b ha hb)]
theorem Ada.inner (N:Nat) {R C Q:Nat} {l:List Int} {p:Int} {m:List Int} (h6:R≤6∧C≤6∧Q≤6) (hl:l.length=R*C) (hr:A0 (R:Int) (C:Int) l=true) (hm:A0 p (Q:Int) m=true) (ep:p=(C:Int)) (al:Ah l=true) (am:Ah m=true) {F:Nat→Nat→Int} (hF:F=fun (i j:Nat)=>Jg (Ha (C:Int) l (i:Int)) (Kk p (Q:Int) m (j:Int))) {i:Nat} (hi:i<R):∀ (k j M0 M:Nat),j+k=Q→k<M →
    Aj.Mul.L1 N M0 M (R:Int) (C:Int) l p (Q:Int) m (j:Int) (fill R Q F (dR i j)) (i:Int)=Aj.Mul.L0 N M0 (R:Int) (C:Int) l p (Q:Int) m ((i+1:Nat):Int) (fill R Q F (dR (i+1) 0)):=by
  intro k
  induction k with
  | zero =>
    intro j M0 M hj hM
    obtain ⟨M,rfl⟩:∃ G,M=G+1:=⟨M-1,by omega⟩
    have e:fill R Q F (dR i j)=fill R Q F (dR (i+1) 0):=Ta fun a b ha hb=>by simp only [dR,Ayz]; omega
    rw [Aj.Mul.B9,As,Ayx (by omega),Ayw,Al (by omega) (by omega),e]
    rfl
  | succ k ih =>
    intro j M0 M hj hM
    obtain ⟨M,rfl⟩:∃ G,M=G+1:=⟨M-1,by omega⟩
    have c1:Pg (R:Int) (C:Int) l (i:Int)=true:=Ad.2 ⟨hr,Aq.2 (by omega)⟩
    have c2:G6 p (Q:Int) m (j:Int)=true:=Ad.2 ⟨hm,Aq.2 (by omega)⟩
    have c3:O3 (Ha (C:Int) l (i:Int)) (Kk p (Q:Int) m (j:Int))=true:=Ru.2 ⟨by rw [Pe hl hi,ep,Zt],by rw [Pe hl hi]; omega⟩
    have c9:C2 (R:Int) (Q:Int) (fill R Q F (dR i j)) (i:Int) (j:Int)=true:=Du (by omega) (by omega) (Nw _ _ _ _) (by omega) (by omega)
    rw [Aj.Mul.B9,As,Ayt (by omega),Ays,c1,Ays,c2,Xo (show 0≤p by omega),Ayy,Ays,Ajl,c3,Aiv al,Ajm am,Ayy,Ayy,Ays,c9,Ays,Al (x:=(j:Int)+1) (by omega) (by omega),U1 (d':=dR i (j+1)) (by omega) (by rw [hF]) (fun a b ha hb=>by simp only [dR,Ayz]; omega)]
    exact ih (j+1) M0 M (by omega) (by omega)
theorem Ada.outer (N:Nat) (hN:6<N) {R C Q:Nat} {l:List Int} {p:Int} {m:List Int} (h6:R≤6∧C≤6∧Q≤6) (hl:l.length=R*C) (hr:A0 (R:Int) (C:Int) l=true) (hm:A0 p (Q:Int) m=true) (ep:p=(C:Int)) (al:Ah l=true) (am:Ah m=true) {F:Nat→Nat→Int} (hF:F=fun (i j:Nat)=>Jg (Ha (C:Int) l (i:Int)) (Kk p (Q:Int) m (j:Int))):∀ (k i M:Nat),i+k=R→k<M →
    Aj.Mul.L0 N M (R:Int) (C:Int) l p (Q:Int) m (i:Int) (fill R Q F (dR i 0))=some (.agg [.int .i64 (R:Int),.int .i64 (Q:Int),.ints .fresh .u64 (B7 R Q F)]):=by
  intro k
  induction k with
  | zero =>
    intro i M hi hM
    obtain ⟨M,rfl⟩:∃ G,M=G+1:=⟨M-1,by omega⟩
    rw [Aj.Mul.Ar,As,Ayx (by omega),Ayw,Zj (fun a b ha hb=>by simp only [dR,Ayz]; omega)]
  | succ k ih =>
    intro i M hi hM
    obtain ⟨M,rfl⟩:∃ G,M=G+1:=⟨M-1,by omega⟩
    have n:=Ada.inner N h6 hl hr hm ep al am hF (show i<R by omega) Q 0 M N (by omega) (by omega)
    rw [Aj.Mul.Ar,As,Ayt (by omega),Ays]
    exact n.trans (ih (i+1) M (by omega) (by omega))
theorem Zl.inner (N:Nat) {r c x y:Int} {l:List Int} {A B:Nat} (h6:A≤6∧B≤6) (hr:A0 r c l=true) (hp:Hv r c x y (A:Int) (B:Int)=true) {F:Nat→Nat→Int} (hF:F=fun (i j:Nat)=>D9 c l (x+(i:Int)) (y+(j:Int))) {i:Nat} (hi:i<A):∀ (k j M0 M:Nat),j+k=B→k<M →
    Aj.Part.L1 N M0 M r c l x y (A:Int) (B:Int) (j:Int) (fill A B F (dR i j)) (i:Int)=Aj.Part.L0 N M0 r c l x y (A:Int) (B:Int) ((i+1:Nat):Int) (fill A B F (dR (i+1) 0)):=by
  intro k
  induction k with
  | zero =>
    intro j M0 M hj hM
    obtain ⟨M,rfl⟩:∃ G,M=G+1:=⟨M-1,by omega⟩
    have e:fill A B F (dR i j)=fill A B F (dR (i+1) 0):=Ta fun a b ha hb=>by simp only [dR,Ayz]; omega
    rw [Aj.Part.B9,As,Ayx (by omega),Ayw,Al (by omega) (by omega),e]
    rfl
  | succ k ih =>
    intro j M0 M hj hM
    obtain ⟨M,rfl⟩:∃ G,M=G+1:=⟨M-1,by omega⟩
    have hs:=Hy.1 hr
    have hq:=of_decide_eq_true hp
    have c1:C2 r c l (x+(i:Int)) (y+(j:Int))=true:=Ln hr (by omega) (by omega) (by omega) (by omega) r
    have c9:C2 (A:Int) (B:Int) (fill A B F (dR i j)) (i:Int) (j:Int)=true:=Du (by omega) (by omega) (Nw _ _ _ _) (by omega) (by omega)
    rw [Aj.Part.B9,As,Ayt (by omega),Ays,Al (x:=x+(i:Int)) (by omega) (by omega),Al (x:=y+(j:Int)) (by omega) (by omega),c1,Ays,c9,Ays,Al (x:=(j:Int)+1) (by omega) (by omega),U1 (d':=dR i (j+1)) (by omega) (by rw [hF]) (fun a b ha hb=>by simp only [dR,Ayz]; omega)]
    exact ih (j+1) M0 M (by omega) (by omega)
theorem Zl.outer (N:Nat) (hN:6<N) {r c x y:Int} {l:List Int} {A B:Nat} (h6:A≤6∧B≤6) (hr:A0 r c l=true) (hp:Hv r c x y (A:Int) (B:Int)=true) {F:Nat→Nat→Int} (hF:F=fun (i j:Nat)=>D9 c l (x+(i:Int)) (y+(j:Int))):∀ (k i M:Nat),i+k=A→k<M →
    Aj.Part.L0 N M r c l x y (A:Int) (B:Int) (i:Int) (fill A B F (dR i 0))=some (.agg [.int .i64 (A:Int),.int .i64 (B:Int),.ints .fresh .u64 (B7 A B F)]):=by
  intro k
  induction k with
  | zero =>
    intro i M hi hM
    obtain ⟨M,rfl⟩:∃ G,M=G+1:=⟨M-1,by omega⟩
    rw [Aj.Part.Ar,As,Ayx (by omega),Ayw,Zj (fun a b ha hb=>by simp only [dR,Ayz]; omega)]
  | succ k ih =>
    intro i M hi hM
    obtain ⟨M,rfl⟩:∃ G,M=G+1:=⟨M-1,by omega⟩
    have n:=Zl.inner N h6 hr hp hF (show i<A by omega) B 0 M N (by omega) (by omega)
    rw [Aj.Part.Ar,As,Ayt (by omega),Ays]
    exact n.trans (ih (i+1) M (by omega) (by omega))
theorem Zk.inner (N:Nat) {R C:Nat} {l:List Int} (h6:R≤6∧C≤6) (hl:l.length=R*C) {F:Nat→Nat→Int} (hF:F=fun (i j:Nat)=>D9 (C:Int) l (j:Int) (i:Int)) {i:Nat} (hi:i<R):∀ (k j M0 M:Nat),j+k=C→k<M →
    Aj.Cs.L1 N M0 M (R:Int) (C:Int) l (j:Int) (fill C R F (dC i j)) (i:Int)=Aj.Cs.L0 N M0 (R:Int) (C:Int) l ((i+1:Nat):Int) (fill C R F (dC (i+1) 0)):=by
  intro k
  induction k with
  | zero =>
    intro j M0 M hj hM
    obtain ⟨M,rfl⟩:∃ G,M=G+1:=⟨M-1,by omega⟩
    have e:fill C R F (dC i j)=fill C R F (dC (i+1) 0):=Ta fun a b ha hb=>by simp only [dC,Ayz]; omega
    rw [Aj.Cs.B9,As,Ayx (by omega),Ayw,Al (by omega) (by omega),e]
    rfl
  | succ k ih =>
    intro j M0 M hj hM
    obtain ⟨M,rfl⟩:∃ G,M=G+1:=⟨M-1,by omega⟩
    have c1:C2 (R:Int) (C:Int) l (i:Int) (j:Int)=true:=Du h6.1 h6.2 hl hi (by omega)
    have c9:C2 (C:Int) (R:Int) (fill C R F (dC i j)) (j:Int) (i:Int)=true:=Du (by omega) (by omega) (Nw _ _ _ _) (by omega) (by omega)
    rw [Aj.Cs.B9,As,Ayt (by omega),Ays,c1,Ays,c9,Ays,Al (x:=(j:Int)+1) (by omega) (by omega),U1 (d':=dC i (j+1)) (by omega) (by rw [hF]) (fun a b ha hb=>by simp only [dC,Ayz]; omega)]
    exact ih (j+1) M0 M (by omega) (by omega)
theorem Zk.outer (N:Nat) (hN:6<N) {R C:Nat} {l:List Int} (h6:R≤6∧C≤6) (hl:l.length=R*C) {F:Nat→Nat→Int} (hF:F=fun (i j:Nat)=>D9 (C:Int) l (j:Int) (i:Int)):∀ (k i M:Nat),i+k=R→k<M →
    Aj.Cs.L0 N M (R:Int) (C:Int) l (i:Int) (fill C R F (dC i 0))=some (.agg [.int .i64 (C:Int),.int .i64 (R:Int),.ints .fresh .u64 (B7 C R F)]):=by
  intro k
  induction k with
  | zero =>
    intro i M hi hM
    obtain ⟨M,rfl⟩:∃ G,M=G+1:=⟨M-1,by omega⟩
    rw [Aj.Cs.Ar,As,Ayx (by omega),Ayw,Zj (fun a b ha hb=>by simp only [dC,Ayz]; omega)]
  | succ k ih =>
    intro i M hi hM
    obtain ⟨M,rfl⟩:∃ G,M=G+1:=⟨M-1,by omega⟩
    have n:=Zk.inner N h6 hl hF (show i<R by omega) C 0 M N (by omega) (by omega)
    rw [Aj.Cs.Ar,As,Ayt (by omega),Ays]
    exact n.trans (ih (i+1) M (by omega) (by omega))
theorem Aj.Cs.known:Aj.Cs.Kn:=Aj.Cs.Ac (.cons Aj.At.known (.cons Aj.Ga.known (.cons Aj.Bf.known .nil))) fun r c l hp=>by
  have hr:A0 r c l=true:=hp
  obtain ⟨R,C,rfl,rfl,r6,c6,hl⟩:=Ce hr
  refine ⟨8,.agg [.int .i64 (C:Int),.int .i64 (R:Int),.ints .fresh .u64 (B7 C R fun (i j:Nat)=>D9 (C:Int) l (j:Int) (i:Int))],[],?_,Tp⟩
  have n:=Zk.outer 8 (by omega) ⟨r6,c6⟩ hl rfl R 0 8 (by omega) (by omega)
  rw [Rv (fun a b ha hb=>by simp only [dC,Ayz]; omega)] at n
  rw [Aj.Cs.ev,No r6,No c6,Ayy,Ays,Ayu,Ayu]
  exact n
theorem Aj.Part.known:Aj.Part.Kn:=Aj.Part.Ac (.cons Aj.At.known (.cons Aj.Ga.known (.cons Aj.Bf.known .nil))) fun r c l x y a b hp=>by
  obtain ⟨hr,hq⟩:=Ad.1 (show (A0 r c l&&Hv r c x y a b)=true from hp)
  obtain ⟨s1,s2⟩:=Yj hr hq
  obtain ⟨A,rfl,hA⟩:=Em s1
  obtain ⟨B,rfl,hB⟩:=Em s2
  refine ⟨8,.agg [.int .i64 (A:Int),.int .i64 (B:Int),.ints .fresh .u64 (B7 A B fun (i j:Nat)=>D9 c l (x+(i:Int)) (y+(j:Int)))],[],?_,Tp⟩
  have n:=Zl.outer 8 (by omega) ⟨hA,hB⟩ hr hq rfl A 0 8 (by omega) (by omega)
  rw [Rv (fun a b ha hb=>by simp only [dR,Ayz]; omega)] at n
  rw [Aj.Part.ev,s1,s2,Ayy,Ays,Ayu,Ayu]
  exact n
theorem Aj.Mul.known:Aj.Mul.Kn:=Aj.Mul.Ac (.cons Ag.H3.known (.cons Aj.P7.known (.cons Aj.Row.known (.cons Aj.Ga.known (.cons Aj.Bf.known .nil))))) fun r c l p q m hp=>by
  obtain ⟨h1,h2⟩:=Ad.1 (show ((A0 r c l&&A0 p q m)&&((Ah l&&Ah m)&&decide (c=p)))=true from hp)
  obtain ⟨hr,hm⟩:=Ad.1 h1
  obtain ⟨h3,h4⟩:=Ad.1 h2
  obtain ⟨al,am⟩:=Ad.1 h3
  have ec:=of_decide_eq_true h4
  obtain ⟨R,C,rfl,rfl,r6,c6,hl⟩:=Ce hr
  obtain ⟨P,Q,rfl,rfl,p6,q6,_⟩:=Ce hm
  refine ⟨8,.agg [.int .i64 (R:Int),.int .i64 (Q:Int),.ints .fresh .u64 (B7 R Q fun (i j:Nat)=>Jg (Ha (C:Int) l (i:Int)) (Kk (P:Int) (Q:Int) m (j:Int)))],[],?_,Tp⟩
  have n:=Ada.outer 8 (by omega) ⟨r6,c6,q6⟩ hl hr hm ec.symm al am rfl R 0 8 (by omega) (by omega)
  rw [Rv (fun a b ha hb=>by simp only [dR,Ayz]; omega)] at n
  rw [Aj.Mul.ev,No r6,No q6,Ayy,Ays,Ayu,Ayu]
  exact n
theorem Arl (N:Nat) {n:Nat} (h6:n≤6):∀ (k i M:Nat),i+k=n→k<M →
    Aj.Ey.L0 N M (n:Int) (i:Int) (fill n n (fun (a b:Nat)=>Nk (a:Int) (b:Int)) fun a b=>decide (a=b∧a<i))=some (.agg [.int .i64 (n:Int),.int .i64 (n:Int),.ints .fresh .u64 (B7 n n fun (a b:Nat)=>Nk (a:Int) (b:Int))]):=by
  intro k
  induction k with
  | zero =>
    intro i M hi hM
    obtain ⟨M,rfl⟩:∃ G,M=G+1:=⟨M-1,by omega⟩
    have e:fill n n (fun (a b:Nat)=>Nk (a:Int) (b:Int)) (fun a b=>decide (a=b∧a<i))=B7 n n fun (a b:Nat)=>Nk (a:Int) (b:Int):=by
      refine D7 fun a b ha hb=>?_
      by_cases h:a=b
      · rw [if_pos (Ayt ⟨h,by omega⟩)]
      · rw [if_neg (fun k=>h (of_decide_eq_true k).1)]
        unfold Nk
        rw [if_neg (by omega)]
    rw [Aj.Ey.Ar,As,Ayx (by omega),Ayw,e]
  | succ k ih =>
    intro i M hi hM
    obtain ⟨M,rfl⟩:∃ G,M=G+1:=⟨M-1,by omega⟩
    have c9:C2 (n:Int) (n:Int) (fill n n (fun (a b:Nat)=>Nk (a:Int) (b:Int)) fun a b=>decide (a=b∧a<i)) (i:Int) (i:Int)=true:=Du h6 h6 (Nw _ _ _ _) (by omega) (by omega)
    have one:(4607182418800017408:Int)=(fun (a b:Nat)=>Nk (a:Int) (b:Int)) i i:=(if_pos rfl).symm
    rw [Aj.Ey.Ar,As,Ayt (by omega),Ays,c9,Ays,Al (by omega) (by omega),U1 (d':=fun a b=>decide (a=b∧a<i+1)) (by omega) one (fun a b ha hb=>by simp only [Ayz]; omega)]
    exact ih (i+1) M (by omega) (by omega)
theorem Aj.Ey.known:Aj.Ey.Kn:=Aj.Ey.Ac (.cons Aj.Ga.known (.cons Aj.Bf.known .nil)) fun n hp=>by
  have hp:Bg n=true:=hp
  obtain ⟨n,rfl,h6⟩:=Em hp
  refine ⟨8,.agg [.int .i64 (n:Int),.int .i64 (n:Int),.ints .fresh .u64 (B7 n n fun (a b:Nat)=>Nk (a:Int) (b:Int))],[],?_,Tp⟩
  have e:=Arl 8 h6 n 0 8 (by omega) (by omega)
  rw [Rv (fun a b ha hb=>by simp only [Ayz]; omega)] at e
  rw [Aj.Ey.ev,hp,Ayy,Ays,Ayu]
  exact e
namespace EqHouse
def Au.Bz.hint:Nat→Option Ba
  | 0=>some { keep:=[5,6,7],objs:=[],boxes:=[] }
  | _=>none
def Au.Bz.A6:List (Nat × Entry):=[(155,soft.Kind.spec)]
def Au.Bz.E:Env:=A9 (A5 Au.Bz.A6) (fun _=>false) Au.Bz.hint (fun _=>none)
def Au.Bz.L0 (N M:Nat) (x:List Int) (p7:Int):Option DV:=B0 Au.Bz.E N Tryz.f252 (An Tryz.f252) [1,0,1,0] [] M ⟨Gj 15 [(5,.ints .arg .u64 x),(6,.int .i64 (List.length x:Int)),(7,.int .i64 p7)],[]⟩
theorem Au.Bz.Ar (N M:Nat) (x:List Int) (p7:Int):Au.Bz.L0 N (M+1) x p7=bif (A4 p7 (List.length x:Int)) then bif ((decide (0≤p7))&&(decide (p7<(List.length x:Int)))) then bif (Af (List.getD x (Int.toNat p7) 0)) then bif ((Bd (List.getD x (Int.toNat p7) 0)) !=(0:Int)) then some (.bool false) else Au.Bz.L0 N M x (Ab (p7+1)) else none else none else some (.bool true):=by kernel_rfl
theorem Au.Bz.ev (N:Nat) (x:List Int):Bq Au.Bz.E N Tryz.f252 (An Tryz.f252) [.ints .arg .u64 x] =
  Au.Bz.L0 N N x 0:=by kernel_rfl
abbrev _root_.Go.Proofs.S1.Au.Bz.Kn:=A3 Tryz.prog 252 Au.Bz.spec
theorem Au.Bz.Ac (hk:Ax Tryz.prog Au.Bz.A6) (h:∀ (x:List Int),Au.Bz.pre [.l x]=true→A8 Au.Bz.E Tryz.f252 [.ints .arg .u64 x] (Au.Bz.out [.l x])):Au.Bz.Kn :=
  Ak (Az hk _ _ _) Tryz.func252 (by kernel_rfl) (by kernel_rfl) h
def Au.lead.hint:Nat→Option Ba
  | 0=>some { keep:=[5,6,7],objs:=[],boxes:=[] }
  | _=>none
def Au.lead.A6:List (Nat × Entry):=[(155,soft.Kind.spec)]
def Au.lead.E:Env:=A9 (A5 Au.lead.A6) (fun _=>false) Au.lead.hint (fun _=>none)
def Au.lead.L0 (N M:Nat) (x:List Int) (p7:Int):Option DV:=B0 Au.lead.E N Tryz.f258 (An Tryz.f258) [1,0,1,0] [] M ⟨Gj 16 [(5,.ints .arg .u64 x),(6,.int .i64 (List.length x:Int)),(7,.int .i64 p7)],[]⟩
theorem Au.lead.Ar (N M:Nat) (x:List Int) (p7:Int):Au.lead.L0 N (M+1) x p7=bif (A4 p7 (List.length x:Int)) then bif ((decide (0≤p7))&&(decide (p7<(List.length x:Int)))) then bif (Af (List.getD x (Int.toNat p7) 0)) then bif ((Bd (List.getD x (Int.toNat p7) 0)) !=(0:Int)) then some (.int .u64 (List.getD x (Int.toNat p7) 0)) else Au.lead.L0 N M x (Ab (p7+1)) else none else none else some (.int .u64 0):=by kernel_rfl
theorem Au.lead.ev (N:Nat) (x:List Int):Bq Au.lead.E N Tryz.f258 (An Tryz.f258) [.ints .arg .u64 x] =
  Au.lead.L0 N N x 0:=by kernel_rfl
abbrev _root_.Go.Proofs.S1.Au.lead.Kn:=A3 Tryz.prog 258 Au.lead.spec
theorem Au.lead.Ac (hk:Ax Tryz.prog Au.lead.A6) (h:∀ (x:List Int),Au.lead.pre [.l x]=true→A8 Au.lead.E Tryz.f258 [.ints .arg .u64 x] (Au.lead.out [.l x])):Au.lead.Kn :=
  Ak (Az hk _ _ _) Tryz.func258 (by kernel_rfl) (by kernel_rfl) h
def Au.Dl.hint:Nat→Option Ba
  | 0=>some { keep:=[1,5,8,9,10],objs:=[(0,5,100005,.ints 37 .u64 [])],boxes:=[] }
  | _=>none
def Au.Dl.A6:List (Nat × Entry):=[(88,Ae.Bs.spec)]
def Au.Dl.E:Env:=A9 (A5 Au.Dl.A6) (fun _=>false) Au.Dl.hint (fun _=>none)
def Au.Dl.L0 (N M:Nat) (x:List Int) (k p10:Int) (p5:List Int):Option DV:=B0 Au.Dl.E N Tryz.f256 (An Tryz.f256) [1,1,0,1,0] [] M ⟨Gj 22 [(1,.int .i64 k),(5,.oref 100005),(8,.ints .arg .u64 x),(9,.int .i64 (List.length x:Int)),(10,.int .i64 p10)],[(100005,false,.ints 37 .u64 p5)]⟩
theorem Au.Dl.Ar (N M:Nat) (x:List Int) (k p10:Int) (p5:List Int):Au.Dl.L0 N (M+1) x k p10 p5=bif (A4 p10 (List.length x:Int)) then bif ((decide (0≤p10))&&(decide (p10<(List.length x:Int)))) then bif (Dh (List.getD x (Int.toNat p10) 0) k) then bif (decide ((List.length p5)+1≤Gt)) then Au.Dl.L0 N M x k (Ab (p10+1)) (p5++[(By (List.getD x (Int.toNat p10) 0) k)]) else none else none else none else some (.ints (.own 100005 37) .u64 p5):=by kernel_rfl
theorem Au.Dl.ev (N:Nat) (x:List Int) (k:Int):Bq Au.Dl.E N Tryz.f256 (An Tryz.f256) [.ints .arg .u64 x,.int .i64 k] =
  Au.Dl.L0 N N x k 0 []:=by kernel_rfl
abbrev _root_.Go.Proofs.S1.Au.Dl.Kn:=A3 Tryz.prog 256 Au.Dl.spec
theorem Au.Dl.Ac (hk:Ax Tryz.prog Au.Dl.A6) (h:∀ (x:List Int) (k:Int),Au.Dl.pre [.l x,.i k]=true→A8 Au.Dl.E Tryz.f256 [.ints .arg .u64 x,.int .i64 k] (Au.Dl.out [.l x,.i k])):Au.Dl.Kn :=
  Ak (Az hk _ _ _) Tryz.func256 (by kernel_rfl) (by kernel_rfl) h
def Au.F2.A6:List (Nat × Entry):=[]
def Au.F2.E:Env:=A9 (A5 Au.F2.A6) (fun _=>false) (fun _=>none) (fun _=>none)
theorem Au.F2.ev (N:Nat) (i:Int):Bq Au.F2.E N Tryz.f254 (An Tryz.f254) [.int .i64 i]=some (.int .u64 0):=by kernel_rfl
abbrev _root_.Go.Proofs.S1.Au.F2.Kn:=A3 Tryz.prog 254 Au.F2.spec
theorem Au.F2.Ac (hk:Ax Tryz.prog Au.F2.A6) (h:∀ (i:Int),Au.F2.pre [.i i]=true→A8 Au.F2.E Tryz.f254 [.int .i64 i] (Au.F2.out [.i i])):Au.F2.Kn :=
  Ak (Az hk _ _ _) Tryz.func254 (by kernel_rfl) (by kernel_rfl) h
def Au.F1.A6:List (Nat × Entry):=[(158,Ae.Div.spec)]
def Au.F1.E:Env:=A9 (A5 Au.F1.A6) (fun _=>false) (fun _=>none) (fun _=>none)
theorem Au.F1.ev (N:Nat) (i:Int) (y:List Int) (d:Int):Bq Au.F1.E N Tryz.f259 (An Tryz.f259) [.int .i64 i,.cellp [.ints .arg .u64 y],.cellp [.int .u64 d]]=bif ((decide (0≤i))&&(decide (i<(List.length y:Int)))) then bif (Af (List.getD y (Int.toNat i) 0)&&Af d) then some (.int .u64 (Fc (List.getD y (Int.toNat i) 0) d)) else none else none :=
  Eq.trans (by kernel_rfl)
  (C0 (Ko (decide (0≤i)) (decide (i<(List.length y:Int)))) (C0 (Cx (Af (List.getD y (Int.toNat i) 0)&&Af d)) rfl rfl) rfl)
abbrev _root_.Go.Proofs.S1.Au.F1.Kn:=A3 Tryz.prog 259 Au.F1.spec
theorem Au.F1.Ac (hk:Ax Tryz.prog Au.F1.A6) (h:∀ (i:Int) (y:List Int) (d:Int),Au.F1.pre [.i i,.l y,.i d]=true→A8 Au.F1.E Tryz.f259 [.int .i64 i,.cellp [.ints .arg .u64 y],.cellp [.int .u64 d]] (Au.F1.out [.i i,.l y,.i d])):Au.F1.Kn :=
  Ak (Az hk _ _ _) Tryz.func259 (by kernel_rfl) (by kernel_rfl) h
def Au.row.Zero.hint:Nat→Option Ba
  | 0=>some { keep:=[0,1,5,6],objs:=[(0,5,100005,.ints 37 .u64 [])],boxes:=[] }
  | _=>none
def Au.row.Zero.A6:List (Nat × Entry):=[(254,Au.F2.spec)]
def Au.row.Zero.E:Env:=A9 (A5 Au.row.Zero.A6) (fun _=>false) Au.row.Zero.hint (fun _=>none)
def Au.row.Zero.L0 (N M:Nat) (n p6:Int) (p5:List Int):Option DV:=B0 Au.row.Zero.E N Tryz.f253 (An Tryz.f253) [1,1,0,1,0] [] M ⟨Gj 23 [(0,.int .i64 n),(1,.fn 254 [] []),(5,.oref 100005),(6,.int .i64 p6)],[(100005,false,.ints 37 .u64 p5)]⟩
theorem Au.row.Zero.Ar (N M:Nat) (n p6:Int) (p5:List Int):Au.row.Zero.L0 N (M+1) n p6 p5=bif (A4 p6 n) then bif (decide ((List.length p5)+1≤Gt)) then Au.row.Zero.L0 N M n (Ab (p6+1)) (p5++[(0:Int)]) else none else bif (((decide ((0:Int)≤n))&&(decide (n≤n)))&&((decide ((0:Int)≤n))&&(decide (n≤(List.length p5:Int))))) then some (.ints .fresh .u64 (List.take (Int.toNat (n-0)) (List.drop 0 p5))) else none :=
  Eq.trans (by kernel_rfl)
  (Eh rfl (C0 (As0 (decide ((0:Int)≤n)) (decide (n≤n)) (decide (n≤(List.length p5:Int)))) rfl rfl))
theorem Au.row.Zero.ev (N:Nat) (n:Int):Bq Au.row.Zero.E N Tryz.f253 (An Tryz.f253) [.int .i64 n,.fn 254 [] []] =
  Au.row.Zero.L0 N N n 1 [(4607182418800017408:Int)]:=by kernel_rfl
abbrev _root_.Go.Proofs.S1.Au.row.Zero.Kn:=A3 Tryz.prog 253 Au.row.Zero.spec
theorem Au.row.Zero.Ac (hk:Ax Tryz.prog Au.row.Zero.A6) (h:∀ (n:Int),Au.row.Zero.pre [.i n]=true→A8 Au.row.Zero.E Tryz.f253 [.int .i64 n,.fn 254 [] []] (Au.row.Zero.out [.i n])):Au.row.Zero.Kn :=
  Ak (Az hk _ _ _) Tryz.func253 (by kernel_rfl) (by kernel_rfl) h
def Au.row.Div.hint:Nat→Option Ba
  | 0=>some { keep:=[0,1,5,6],objs:=[(0,5,100005,.ints 37 .u64 [])],boxes:=[] }
  | _=>none
def Au.row.Div.A6:List (Nat × Entry):=[(259,Au.F1.spec)]
def Au.row.Div.E:Env:=A9 (A5 Au.row.Div.A6) (fun _=>false) Au.row.Div.hint (fun _=>none)
def Au.row.Div.L0 (N M:Nat) (n:Int) (y:List Int) (d p6:Int) (p5:List Int):Option DV:=B0 Au.row.Div.E N Tryz.f253 (An Tryz.f253) [1,1,0,1,0] [] M ⟨Gj 23 [(0,.int .i64 n),(1,.fn 259 [] [.cellp [.ints .arg .u64 y],.cellp [.int .u64 d]]),(5,.oref 100005),(6,.int .i64 p6)],[(100005,false,.ints 37 .u64 p5)]⟩
theorem Au.row.Div.Ar (N M:Nat) (n:Int) (y:List Int) (d p6:Int) (p5:List Int):Au.row.Div.L0 N (M+1) n y d p6 p5=bif (A4 p6 n) then bif ((Cz (0≤p6∧p6<List.length y)&&Ah y)&&Af d) then bif (decide ((List.length p5)+1≤Gt)) then Au.row.Div.L0 N M n y d (Ab (p6+1)) (p5++[(Fc (List.getD y (Int.toNat p6) 0) d)]) else none else none else bif (((decide ((0:Int)≤n))&&(decide (n≤n)))&&((decide ((0:Int)≤n))&&(decide (n≤(List.length p5:Int))))) then some (.ints .fresh .u64 (List.take (Int.toNat (n-0)) (List.drop 0 p5))) else none :=
  Eq.trans (by kernel_rfl)
  (Eh rfl (C0 (As0 (decide ((0:Int)≤n)) (decide (n≤n)) (decide (n≤(List.length p5:Int)))) rfl rfl))
theorem Au.row.Div.ev (N:Nat) (n:Int) (y:List Int) (d:Int):Bq Au.row.Div.E N Tryz.f253 (An Tryz.f253) [.int .i64 n,.fn 259 [] [.cellp [.ints .arg .u64 y],.cellp [.int .u64 d]]] =
  Au.row.Div.L0 N N n y d 1 [(4607182418800017408:Int)]:=by kernel_rfl
abbrev _root_.Go.Proofs.S1.Au.row.Div.Kn:=A3 Tryz.prog 253 Au.row.Div.spec
theorem Au.row.Div.Ac (hk:Ax Tryz.prog Au.row.Div.A6) (h:∀ (n:Int) (y:List Int) (d:Int),Au.row.Div.pre [.i n,.l y,.i d]=true→A8 Au.row.Div.E Tryz.f253 [.int .i64 n,.fn 259 [] [.cellp [.ints .arg .u64 y],.cellp [.int .u64 d]]] (Au.row.Div.out [.i n,.l y,.i d])):Au.row.Div.Kn :=
  Ak (Az hk _ _ _) Tryz.func253 (by kernel_rfl) (by kernel_rfl) h
def Au.Dq.A6:List (Nat × Entry):=[(255,compare.Lu.spec),(258,Au.lead.spec),(252,Au.Bz.spec),(253,(Aua [.i .i64,.fn 254 []] Au.row.Zero.spec Au.row.Div.spec)),(256,Au.Dl.spec),(148,soft.Finite.spec),(233,soft.Dp.spec),(213,soft.Sign.spec),(89,Ae.Bo.spec),(158,Ae.Div.spec),(150,Ae.Finite.spec),(257,Ae.Norm.spec),(88,Ae.Bs.spec),(156,Ae.Sub.spec)]
def Au.Dq.E:Env:=A9 (A5 Au.Dq.A6) (fun _=>false) (fun _=>none) (fun _=>none)
theorem Au.Dq.ev (N:Nat) (x:List Int):Bq Au.Dq.E N Tryz.f245 (An Tryz.f245) [.ints .arg .u64 x]=bif (((List.length x:Int)==(0:Int))||(A4 64 (List.length x:Int))) then some (.tup [.nil,.int .u64 0,.int .u64 0,.int .i64 3]) else bif (Cl x) then bif (!(Df x)) then some (.tup [.nil,.int .u64 0,.int .u64 0,.int .i64 4]) else bif (decide ((1:Int)≤(List.length x:Int))) then bif (Cl (List.drop 1 x)) then bif (Ed (List.drop 1 x)) then bif (Cz (1≤(List.length x:Int)∧(List.length x:Int)≤64)) then bif (decide ((0:Int)<(List.length x:Int))) then some (.tup [.ints .fresh .u64 (Jd (Int.toNat (List.length x:Int)) (fun _=>0)),.int .u64 0,.int .u64 (List.getD x 0 0),.int .i64 0]) else none else none else bif (Cl x) then bif (Af (Be x)) then bif (Cl x&&Cz (List.length x≤1000∧-2300≤(Ab (0-(Br (Be x))))∧(Ab (0-(Br (Be x))))≤2300)) then bif (Cl (Bn x (Ab (0-(Br (Be x)))))&&Cz (List.length (Bn x (Ab (0-(Br (Be x)))))≤64)) then bif (Cl x) then bif (Af (Oy x)) then bif (!(Dt (Oy x))) then bif (Af (Dk (Bn x (Ab (0-(Br (Be x))))))) then bif (Dh (Db (Dk (Bn x (Ab (0-(Br (Be x))))))) (Br (Be x))) then bif (Af (By (Db (Dk (Bn x (Ab (0-(Br (Be x))))))) (Br (Be x)))) then bif (!(Cv (By (Db (Dk (Bn x (Ab (0-(Br (Be x))))))) (Br (Be x))))) then some (.tup [.nil,.int .u64 0,.int .u64 0,.int .i64 2]) else bif (decide ((0:Int)<(List.length (Bn x (Ab (0-(Br (Be x))))):Int))) then bif (Af (List.getD (Bn x (Ab (0-(Br (Be x))))) 0 0)&&Af (Db (Dk (Bn x (Ab (0-(Br (Be x)))))))) then bif ((Cz (1≤(List.length (Bn x (Ab (0-(Br (Be x))))):Int)∧(List.length (Bn x (Ab (0-(Br (Be x))))):Int)≤64∧(List.length (Bn x (Ab (0-(Br (Be x))))):Int)=List.length (Bn x (Ab (0-(Br (Be x))))))&&Ah (Bn x (Ab (0-(Br (Be x))))))&&Af (Ew (List.getD (Bn x (Ab (0-(Br (Be x))))) 0 0) (Db (Dk (Bn x (Ab (0-(Br (Be x))))))))) then bif (decide ((0:Int)<(List.length (Bn x (Ab (0-(Br (Be x))))):Int))) then bif (Af (Db (Dk (Bn x (Ab (0-(Br (Be x)))))))&&Af (List.getD (Bn x (Ab (0-(Br (Be x))))) 0 0)) then bif (Af (Ew (Db (Dk (Bn x (Ab (0-(Br (Be x))))))) (List.getD (Bn x (Ab (0-(Br (Be x))))) 0 0))&&Af (Db (Dk (Bn x (Ab (0-(Br (Be x)))))))) then some (.tup [.ints .fresh .u64 (Jd (Int.toNat (List.length (Bn x (Ab (0-(Br (Be x))))):Int)) (fun j=>Fc (List.getD (Bn x (Ab (0-(Br (Be x))))) j 0) (Ew (List.getD (Bn x (Ab (0-(Br (Be x))))) 0 0) (Db (Dk (Bn x (Ab (0-(Br (Be x)))))))))),.int .u64 (Fc (Ew (Db (Dk (Bn x (Ab (0-(Br (Be x))))))) (List.getD (Bn x (Ab (0-(Br (Be x))))) 0 0)) (Db (Dk (Bn x (Ab (0-(Br (Be x)))))))),.int .u64 (By (Db (Dk (Bn x (Ab (0-(Br (Be x))))))) (Br (Be x))),.int .i64 0]) else none else none else none else none else none else none else none else none else none else bif (Dh (Dk (Bn x (Ab (0-(Br (Be x)))))) (Br (Be x))) then bif (Af (By (Dk (Bn x (Ab (0-(Br (Be x)))))) (Br (Be x)))) then bif (!(Cv (By (Dk (Bn x (Ab (0-(Br (Be x)))))) (Br (Be x))))) then some (.tup [.nil,.int .u64 0,.int .u64 0,.int .i64 2]) else bif (decide ((0:Int)<(List.length (Bn x (Ab (0-(Br (Be x))))):Int))) then bif (Af (List.getD (Bn x (Ab (0-(Br (Be x))))) 0 0)&&Af (Dk (Bn x (Ab (0-(Br (Be x))))))) then bif ((Cz (1≤(List.length (Bn x (Ab (0-(Br (Be x))))):Int)∧(List.length (Bn x (Ab (0-(Br (Be x))))):Int)≤64∧(List.length (Bn x (Ab (0-(Br (Be x))))):Int)=List.length (Bn x (Ab (0-(Br (Be x))))))&&Ah (Bn x (Ab (0-(Br (Be x))))))&&Af (Ew (List.getD (Bn x (Ab (0-(Br (Be x))))) 0 0) (Dk (Bn x (Ab (0-(Br (Be x)))))))) then bif (decide ((0:Int)<(List.length (Bn x (Ab (0-(Br (Be x))))):Int))) then bif (Af (Dk (Bn x (Ab (0-(Br (Be x))))))&&Af (List.getD (Bn x (Ab (0-(Br (Be x))))) 0 0)) then bif (Af (Ew (Dk (Bn x (Ab (0-(Br (Be x)))))) (List.getD (Bn x (Ab (0-(Br (Be x))))) 0 0))&&Af (Dk (Bn x (Ab (0-(Br (Be x))))))) then some (.tup [.ints .fresh .u64 (Jd (Int.toNat (List.length (Bn x (Ab (0-(Br (Be x))))):Int)) (fun j=>Fc (List.getD (Bn x (Ab (0-(Br (Be x))))) j 0) (Ew (List.getD (Bn x (Ab (0-(Br (Be x))))) 0 0) (Dk (Bn x (Ab (0-(Br (Be x))))))))),.int .u64 (Fc (Ew (Dk (Bn x (Ab (0-(Br (Be x)))))) (List.getD (Bn x (Ab (0-(Br (Be x))))) 0 0)) (Dk (Bn x (Ab (0-(Br (Be x))))))),.int .u64 (By (Dk (Bn x (Ab (0-(Br (Be x)))))) (Br (Be x))),.int .i64 0]) else none else none else none else none else none else none else none else none else none else none else none else none else none else none else none else none else none :=
  Eq.trans (by kernel_rfl)
  (Av (Se ((List.length x:Int)==(0:Int))) (Av (Qa ((List.length x:Int)==(0:Int))) (Av (Qa ((List.length x:Int)==(0:Int))) (Av (W4 ((List.length x:Int)==(0:Int))) (C0 (tt5 ((List.length x:Int)==(0:Int)) (A4 64 (List.length x:Int))) rfl (Eh (Eh rfl (C0 (Axl (decide ((1:Int)≤(List.length x:Int)))) (Eh (Eh (C0 (Cx (Cz (1≤(List.length x:Int)∧(List.length x:Int)≤64))) (C0 (Cx (decide ((0:Int)<(List.length x:Int)))) rfl rfl) rfl) rfl) rfl) rfl)) rfl))))))
abbrev _root_.Go.Proofs.S1.Au.Dq.Kn:=A3 Tryz.prog 245 Au.Dq.spec
theorem Au.Dq.Ac (hk:Ax Tryz.prog Au.Dq.A6) (h:∀ (x:List Int),Au.Dq.pre [.l x]=true→A8 Au.Dq.E Tryz.f245 [.ints .arg .u64 x] (Au.Dq.out [.l x])):Au.Dq.Kn :=
  Ak (Az hk _ _ _) Tryz.func245 (by kernel_rfl) (by kernel_rfl) h
def Au.Apply.hint:Nat→Option Ba
  | 0=>some { keep:=[1,3,4,5,10,13,14],objs:=[(14,2,114002,.ints 37 .u64 [])],boxes:=[5,10,13] }
  | 2=>some { keep:=[1,3,4,5,10,13,14,18,90,91,92],objs:=[(14,2,114002,.ints 37 .u64 [])],boxes:=[5,10,13] }
  | _=>none
def Au.Apply.A6:List (Nat × Entry):=[(160,Aa.Check.spec),(191,Aa.D1.spec),(189,Ae.H3.spec),(157,Ae.Mul.spec),(156,Ae.Sub.spec)]
def Au.Apply.E:Env:=A9 (A5 Au.Apply.A6) (fun _=>false) Au.Apply.hint (fun _=>none)
def Au.Apply.L0 (N M:Nat) (r c:Int) (l:List Int) (i:Int) (v:List Int) (t p14:Int) (p2_1:List Int):Option DV:=B0 Au.Apply.E N Tryz.f219 (An Tryz.f219) [1,1,1,1,0,1,0] [] M ⟨Gj 118 [(1,.int .i64 i),(3,.ints .arg .u64 v),(4,.int .u64 t),(5,.ptr 5 0 0),(10,.ptr 10 0 0),(13,.ptr 13 0 0),(14,.int .i64 p14)],[(5,false,.box [.int .i64 r,.int .i64 c,.ints .arg .u64 l]),(10,false,.box [.int .i64 0,.int .i64 0,.nil]),(13,false,.box [.int .i64 r,.int .i64 c,.oref 114002]),(114002,false,.ints 37 .u64 p2_1)]⟩
def Au.Apply.L1 (N M0 M:Nat) (r c:Int) (l:List Int) (i:Int) (v:List Int) (t p92:Int) (p2:List Int) (p14_1 p18:Int) (p90:List Int) (p91:Int):Option DV:=B0 Au.Apply.E N Tryz.f219 (An Tryz.f219) [1,1,1,1,0,1,0,0,1,0,0,1,1,1,1,0] [M0] M ⟨Gj 118 [(1,.int .i64 i),(3,.ints .arg .u64 v),(4,.int .u64 t),(5,.ptr 5 0 0),(10,.ptr 10 0 0),(13,.ptr 13 0 0),(14,.int .i64 p14_1),(18,.int .u64 p18),(90,.ints .fresh .u64 p90),(91,.int .i64 p91),(92,.int .i64 p92)],[(5,false,.box [.int .i64 r,.int .i64 c,.ints .arg .u64 l]),(10,false,.box [.int .i64 0,.int .i64 0,.nil]),(13,false,.box [.int .i64 r,.int .i64 c,.oref 114002]),(114002,false,.ints 37 .u64 p2)]⟩
theorem Au.Apply.Ar (N M:Nat) (r c:Int) (l:List Int) (i:Int) (v:List Int) (t p14:Int) (p2_1:List Int):Au.Apply.L0 N (M+1) r c l i v t p14 p2_1=bif (A4 p14 c) then bif (G6 r c l p14&&Cz (0≤i∧i≤r)) then bif (((decide ((0:Int)≤(List.length v:Int)))&&(decide ((List.length v:Int)≤(List.length v:Int))))&&((decide ((0:Int)≤(List.length v:Int)))&&(decide ((List.length v:Int)≤(List.length (Cu c l p14 i (Int.toNat (r-i))):Int))))) then bif ((O3 v (List.take (Int.toNat (List.length v:Int)) (Cu c l p14 i (Int.toNat (r-i))))&&Ah v)&&Ah (List.take (Int.toNat (List.length v:Int)) (Cu c l p14 i (Int.toNat (r-i))))) then bif (Af t&&Af (Jg v (List.take (Int.toNat (List.length v:Int)) (Cu c l p14 i (Int.toNat (r-i)))))) then Au.Apply.L1 N M N r c l i v t 0 p2_1 p14 (D3 t (Jg v (List.take (Int.toNat (List.length v:Int)) (Cu c l p14 i (Int.toNat (r-i)))))) (List.take (Int.toNat (List.length v:Int)) (Cu c l p14 i (Int.toNat (r-i)))) (List.length (List.take (Int.toNat (List.length v:Int)) (Cu c l p14 i (Int.toNat (r-i)))):Int) else none else none else none else none else some (.tup [.agg [.int .i64 r,.int .i64 c,.ints (.own 114002 37) .u64 p2_1],.int .i64 0]) :=
  Eq.trans (by kernel_rfl)
  (Eh (Eh (C0 (As0 (decide ((0:Int)≤(List.length v:Int))) (decide ((List.length v:Int)≤(List.length v:Int))) (decide ((List.length v:Int)≤(List.length (Cu c l p14 i (Int.toNat (r-i))):Int)))) rfl rfl) rfl) rfl)
theorem Au.Apply.B9 (N M0 M:Nat) (r c:Int) (l:List Int) (i:Int) (v:List Int) (t p92:Int) (p2:List Int) (p14_1 p18:Int) (p90:List Int) (p91:Int):Au.Apply.L1 N M0 (M+1) r c l i v t p92 p2 p14_1 p18 p90 p91=bif (A4 p92 p91) then bif ((decide (0≤p92))&&(decide (p92<(List.length p90:Int)))) then bif ((decide (0≤p92))&&(decide (p92<(List.length v:Int)))) then bif (Af p18&&Af (List.getD v (Int.toNat p92) 0)) then bif (Af (List.getD p90 (Int.toNat p92) 0)&&Af (D3 p18 (List.getD v (Int.toNat p92) 0))) then bif ((decide (0≤(Ab ((Ab ((Ab (i+p92))*c))+p14_1))))&&(decide ((Ab ((Ab ((Ab (i+p92))*c))+p14_1))<(List.length p2:Int)))) then bif (decide ((Int.toNat (Ab ((Ab ((Ab (i+p92))*c))+p14_1)))<(List.length p2))) then Au.Apply.L1 N M0 M r c l i v t (Ab (p92+1)) (List.set p2 (Int.toNat (Ab ((Ab ((Ab (i+p92))*c))+p14_1))) (Ew (List.getD p90 (Int.toNat p92) 0) (D3 p18 (List.getD v (Int.toNat p92) 0)))) p14_1 p18 p90 p91 else none else none else none else none else none else none else Au.Apply.L0 N M0 r c l i v t (Ab (p14_1+1)) p2 :=
  Eq.trans (by kernel_rfl)
  (Eh (Eh (C0 (Ko (decide (0≤p92)) (decide (p92<(List.length v:Int)))) (C0 (Cx (Af p18&&Af (List.getD v (Int.toNat p92) 0))) (C0 (Cx (Af (List.getD p90 (Int.toNat p92) 0)&&Af (D3 p18 (List.getD v (Int.toNat p92) 0)))) (C0 (Ko (decide (0≤(Ab ((Ab ((Ab (i+p92))*c))+p14_1)))) (decide ((Ab ((Ab ((Ab (i+p92))*c))+p14_1))<(List.length p2:Int)))) (C0 (Cx (decide ((Int.toNat (Ab ((Ab ((Ab (i+p92))*c))+p14_1)))<(List.length p2)))) rfl rfl) rfl) rfl) rfl) rfl) rfl) rfl)
theorem Au.Apply.ev (N:Nat) (r c:Int) (l:List Int) (i k:Int) (v:List Int) (t:Int):Bq Au.Apply.E N Tryz.f219 (An Tryz.f219) [.agg [.int .i64 r,.int .i64 c,.ints .arg .u64 l],.int .i64 i,.int .i64 k,.ints .arg .u64 v,.int .u64 t]=bif ((K1 r c l) !=(0:Int)) then some (.tup [.agg [.int .i64 0,.int .i64 0,.nil],.int .i64 (K1 r c l)]) else bif (((((A4 i 0)||(A4 r (List.length v:Int)))||(A4 (Ab (r-(List.length v:Int))) i))||(A4 k 0))||(A4 c k)) then some (.tup [.agg [.int .i64 0,.int .i64 0,.nil],.int .i64 3]) else bif (decide (0+(List.length l)≤Gt)) then Au.Apply.L0 N N r c l i v t k ([]++l) else none :=
  Eq.trans (by kernel_rfl)
  (Eh rfl (Av (Se (A4 i 0)) (Av (Qa (A4 i 0)) (Av (Se (A4 i 0)) (Av (Qa (A4 i 0)) (Av (tt8 (A4 i 0)) (Av (W4 (A4 i 0)) (Av (Ad5 (A4 i 0) (A4 r (List.length v:Int))) (Av (Ad5 (A4 i 0) (A4 r (List.length v:Int))) (Av (Agt (A4 i 0) (A4 r (List.length v:Int))) (Av (Ad5 (A4 i 0) (A4 r (List.length v:Int))) (Av (Agt (A4 i 0) (A4 r (List.length v:Int))) (Av (Ap5 (A4 i 0) (A4 r (List.length v:Int))) (Av (Ap5 (A4 i 0) (A4 r (List.length v:Int))) (Av (Ap8 (A4 i 0) (A4 r (List.length v:Int))) (Av (Aj1 (A4 i 0) (A4 r (List.length v:Int)) (A4 (Ab (r-(List.length v:Int))) i)) (Av (Ad6 (A4 i 0) (A4 r (List.length v:Int)) (A4 (Ab (r-(List.length v:Int))) i)) (Av (Ap9 (A4 i 0) (A4 r (List.length v:Int)) (A4 (Ab (r-(List.length v:Int))) i)) (Av (Aqa (A4 i 0) (A4 r (List.length v:Int)) (A4 (Ab (r-(List.length v:Int))) i) (A4 k 0)) (Av (Aqa (A4 i 0) (A4 r (List.length v:Int)) (A4 (Ab (r-(List.length v:Int))) i) (A4 k 0)) (Av (Ava (A4 i 0) (A4 r (List.length v:Int)) (A4 (Ab (r-(List.length v:Int))) i) (A4 k 0)) (Av (Avb (A4 i 0) (A4 r (List.length v:Int)) (A4 (Ab (r-(List.length v:Int))) i) (A4 k 0)) (Av (Avc (A4 i 0) (A4 r (List.length v:Int)) (A4 (Ab (r-(List.length v:Int))) i) (A4 k 0)) (C0 (Axk (A4 i 0) (A4 r (List.length v:Int)) (A4 (Ab (r-(List.length v:Int))) i) (A4 k 0) (A4 c k)) rfl (C0 (Cx (decide (0+(List.length l)≤Gt))) rfl rfl)))))))))))))))))))))))))
abbrev _root_.Go.Proofs.S1.Au.Apply.Kn:=A3 Tryz.prog 219 Au.Apply.spec
theorem Au.Apply.Ac (hk:Ax Tryz.prog Au.Apply.A6) (h:∀ (r c:Int) (l:List Int) (i k:Int) (v:List Int) (t:Int),Au.Apply.pre [.i r,.i c,.l l,.i i,.i k,.l v,.i t]=true→A8 Au.Apply.E Tryz.f219 [.agg [.int .i64 r,.int .i64 c,.ints .arg .u64 l],.int .i64 i,.int .i64 k,.ints .arg .u64 v,.int .u64 t] (Au.Apply.out [.i r,.i c,.l l,.i i,.i k,.l v,.i t])):Au.Apply.Kn :=
  Ak (Az hk _ _ _) Tryz.func219 (by kernel_rfl) (by kernel_rfl) h
end EqHouse
open EqHouse
theorem Xi (x:Int):((Bd x) !=(0:Int))=!(decide (Bd x=0)):=by
  rw [Ay8]; simp
theorem Acy (N:Nat) {x:List Int} (hx:Cl x=true):∀ (k i F:Nat),i+k=x.length→k<F→Au.Bz.L0 N F x (i:Int)=some (.bool (Ed (x.drop i))):=by
  obtain ⟨hl,hu⟩:=H6 hx
  intro k
  induction k with
  | zero =>
    intro i F hi hF
    obtain ⟨F,rfl⟩:∃ G,F=G+1:=⟨F-1,by omega⟩
    rw [Au.Bz.Ar,As,Ayx (by omega),Ayw,Ay6 (by omega)]; rfl
  | succ k ih =>
    intro i F hi hF
    obtain ⟨F,rfl⟩:∃ G,F=G+1:=⟨F-1,by omega⟩
    rw [Au.Bz.Ar,As,Ayt (show (i:Int)<(x.length:Int) by omega),Ays,Ayt (show (0:Int)≤(i:Int) by omega),Ayy,Ays,Ayu,hu i (by omega),Ays,Xi,G5 (by omega)]
    unfold Ed
    rw [List.all_cons]
    cases decide (Bd (x.getD i 0)=0) with
    | false=>rfl
    | true =>
      rw [Bool.not_true,Ayw,Bool.true_and,Al (by omega) (by omega)]
      exact ih (i+1) F (by omega) (by omega)
theorem Au.Bz.known:Au.Bz.Kn:=Au.Bz.Ac (.cons soft.Kind.known .nil) fun x hp=>by
  refine ⟨x.length+1,Au.Bz.out [.l x],[],?_,.bool⟩
  rw [Au.Bz.ev]
  exact Acy (x.length+1) hp x.length 0 (x.length+1) (by omega) (by omega)
theorem Ale (N:Nat) {x:List Int} (hx:Cl x=true):∀ (k i F:Nat),i+k=x.length→k<F→Au.lead.L0 N F x (i:Int)=some (.int .u64 (Oy (x.drop i))):=by
  obtain ⟨hl,hu⟩:=H6 hx
  intro k
  induction k with
  | zero =>
    intro i F hi hF
    obtain ⟨F,rfl⟩:∃ G,F=G+1:=⟨F-1,by omega⟩
    rw [Au.lead.Ar,As,Ayx (by omega),Ayw,Ay6 (by omega)]; rfl
  | succ k ih =>
    intro i F hi hF
    obtain ⟨F,rfl⟩:∃ G,F=G+1:=⟨F-1,by omega⟩
    rw [Au.lead.Ar,As,Ayt (show (i:Int)<(x.length:Int) by omega),Ays,Ayt (show (0:Int)≤(i:Int) by omega),Ayy,Ays,Ayu,hu i (by omega),Ays,Xi,G5 (by omega),Oy]
    by_cases h:Bd (x.getD i 0)=0
    · rw [Ayt h,if_pos h,Bool.not_true,Ayw,Al (by omega) (by omega)]
      exact ih (i+1) F (by omega) (by omega)
    · rw [Ayx h,if_neg h]; rfl
theorem Au.lead.known:Au.lead.Kn:=Au.lead.Ac (.cons soft.Kind.known .nil) fun x hp=>by
  refine ⟨x.length+1,Au.lead.out [.l x],[],?_,.int⟩
  rw [Au.lead.ev]
  exact Ale (x.length+1) hp x.length 0 (x.length+1) (by omega) (by omega)
theorem Xu {x:List Int} {i:Nat} (h:i<x.length) (f:Int→Int):(x.take (i+1)).map f=(x.take i).map f++[f (x.getD i 0)]:=by
  rw [List.take_succ_eq_append_getElem h,List.map_append,Ay2,Ay9 h]; rfl
theorem Aci (N:Nat) {x:List Int} {e:Int} (hx:Cl x=true) (hl:x.length≤1000) (he:-2300≤e∧e≤2300):∀ (k i F:Nat),i+k=x.length→k<F →
    Au.Dl.L0 N F x e (i:Int) ((x.take i).map fun b=>By b e)=some (.ints (.own 100005 tB) .u64 (Bn x e)):=by
  obtain ⟨_,hu⟩:=H6 hx
  intro k
  induction k with
  | zero =>
    intro i F hi hF
    obtain ⟨F,rfl⟩:∃ G,F=G+1:=⟨F-1,by omega⟩
    rw [Au.Dl.Ar,As,Ayx (by omega),Ayw,List.take_of_length_le (by omega)]; rfl
  | succ k ih =>
    intro i F hi hF
    obtain ⟨F,rfl⟩:∃ G,F=G+1:=⟨F-1,by omega⟩
    rw [Au.Dl.Ar,As,Ayt (show (i:Int)<(x.length:Int) by omega),Ays,Ayt (show (0:Int)≤(i:Int) by omega),Ayy,Ays,Ayu,
      show Dh (List.getD x i 0) e=true from Ad.2 ⟨hu i (by omega),Aq.2 he⟩,Ays,Ayt (by rw [List.length_map,List.length_take]; unfold Gt; omega),Ays,Al (by omega) (by omega)]
    have:=ih (i+1) F (by omega) (by omega)
    rw [Xu (by omega)] at this
    exact this
theorem Au.Dl.known:Au.Dl.Kn:=Au.Dl.Ac (.cons Ae.Bs.known .nil) fun x k hp=>by
  obtain ⟨h1,h2⟩:=Ad.1 hp
  have h2:=Aq.1 h2
  refine ⟨x.length+1,.ints (.own 100005 tB) .u64 (Bn x k),[100005],?_,.drop _ _ _ _ (List.mem_singleton.2 rfl)⟩
  rw [Au.Dl.ev]
  exact Aci (x.length+1) h1 h2.1 h2.2 x.length 0 (x.length+1) (by omega) (by omega)
theorem Au.F2.known:Au.F2.Kn:=Au.F2.Ac .nil fun i _=>⟨0,Au.F2.out [.i i],[],by rw [Au.F2.ev]; rfl,.int⟩
theorem Au.F1.known:Au.F1.Kn:=Au.F1.Ac (.cons Ae.Div.known .nil) fun i y d hp=>by
  obtain ⟨h1,h2⟩:=Ad.1 (show ((Cz (0≤i∧i<List.length y)&&Ah y)&&Af d)=true from hp)
  obtain ⟨h3,h4⟩:=Ad.1 h1
  have h3:=Aq.1 h3
  refine ⟨0,Au.F1.out [.i i,.l y,.i d],[],?_,.int⟩
  rw [Au.F1.ev,Ayt h3.1,Ayt h3.2,Ix h4,h2]; rfl
theorem Jt (n i:Nat) (f:Nat→Int) (h:i+1=n):Jd n f=Atm::(List.range i).map fun j=>f (j+1):=by unfold Jd; rw [show n-1=i by omega]
theorem Aiu {n:Nat} (f:Nat→Int) (h:n≠0):(((decide ((0:Int)≤(n:Int)))&&(decide ((n:Int)≤(n:Int))))&&((decide ((0:Int)≤(n:Int)))&&(decide ((n:Int)≤(List.length (Jd n f):Int)))))=true ∧
    List.take (Int.toNat ((n:Int)-(0:Int))) (List.drop 0 (Jd n f))=Jd n f:=by
  have:=Pf h f
  refine ⟨?_,?_⟩
  · rw [Ayt (by omega),Ayt (by omega),Ayt (by omega)]; rfl
  · rw [List.drop_zero,List.take_of_length_le (by omega)]
theorem Z5 (N:Nat) {n:Nat} (h64:n≤64) (h0:n≠0):∀ (k i F:Nat),i+1+k=n→k<F →
    Au.row.Zero.L0 N F (n:Int) ((i+1:Nat):Int) (Jd (i+1) fun _=>0)=some (.ints .fresh .u64 (Jd n fun _=>0)):=by
  intro k
  induction k with
  | zero =>
    intro i F hi hF
    obtain ⟨F,rfl⟩:∃ G,F=G+1:=⟨F-1,by omega⟩
    obtain rfl:i+1=n:=by omega
    obtain ⟨e1,e2⟩:=Aiu (fun _=>0) h0
    rw [Au.row.Zero.Ar,As,Ayx (by omega),Ayw,e1,Ays,e2]
  | succ k ih =>
    intro i F hi hF
    obtain ⟨F,rfl⟩:∃ G,F=G+1:=⟨F-1,by omega⟩
    rw [Au.row.Zero.Ar,As,Ayt (by omega),Ays,Ayt (by rw [Pf (by omega)]; unfold Gt; omega),Ays,Al (by omega) (by omega)]
    have:=ih (i+1) F (by omega) (by omega)
    rw [Jt (i+1+1) (i+1) _ rfl,G1] at this
    rw [Jt (i+1) i _ rfl]
    exact this
theorem Au.row.Zero.known:Au.row.Zero.Kn:=Au.row.Zero.Ac (.cons Au.F2.known .nil) fun n hp=>by
  have hp:=Aq.1 (show Cz (1≤n∧n≤64)=true from hp)
  obtain ⟨m,rfl⟩:∃ m:Nat,n=m:=⟨n.toNat,by omega⟩
  refine ⟨65,Au.row.Zero.out [.i m],[],?_,.N6⟩
  show _=some (DV.ints .fresh .u64 (Jd (Int.toNat (m:Int)) fun _=>0))
  rw [Au.row.Zero.ev,Ayu]
  exact Z5 65 (by omega) (by omega) (m-1) 0 65 (by omega) (by omega)
theorem Acl (N:Nat) {n:Nat} {y:List Int} {d:Int} (h64:n≤64) (h0:n≠0) (hy:n=y.length) (al:Ah y=true) (hd:Af d=true):∀ (k i F:Nat),i+1+k=n→k<F →
    Au.row.Div.L0 N F (n:Int) y d ((i+1:Nat):Int) (Jd (i+1) fun j=>Fc (y.getD j 0) d)=some (.ints .fresh .u64 (Jd n fun j=>Fc (y.getD j 0) d)):=by
  intro k
  induction k with
  | zero =>
    intro i F hi hF
    obtain ⟨F,rfl⟩:∃ G,F=G+1:=⟨F-1,by omega⟩
    obtain rfl:i+1=n:=by omega
    obtain ⟨e1,e2⟩:=Aiu (fun j=>Fc (y.getD j 0) d) h0
    rw [Au.row.Div.Ar,As,Ayx (by omega),Ayw,e1,Ays,e2]
  | succ k ih =>
    intro i F hi hF
    obtain ⟨F,rfl⟩:∃ G,F=G+1:=⟨F-1,by omega⟩
    rw [Au.row.Div.Ar,As,Ayt (by omega),Ays,Aq.2 (show 0≤((i+1:Nat):Int)∧((i+1:Nat):Int)<(y.length:Int) by omega),al,hd,Ayy,Ayy,Ays,Ayt (by rw [Pf (by omega)]; unfold Gt; omega),Ays,Al (by omega) (by omega),Ayu]
    have:=ih (i+1) F (by omega) (by omega)
    rw [Jt (i+1+1) (i+1) _ rfl,G1] at this
    rw [Jt (i+1) i _ rfl]
    exact this
theorem Au.row.Div.known:Au.row.Div.Kn:=Au.row.Div.Ac (.cons Au.F1.known .nil) fun n y d hp=>by
  obtain ⟨h1,h2⟩:=Ad.1 (show ((Cz (1≤n∧n≤64∧n=List.length y)&&Ah y)&&Af d)=true from hp)
  obtain ⟨h3,h4⟩:=Ad.1 h1
  have h3:=Aq.1 h3
  obtain ⟨m,rfl⟩:∃ m:Nat,n=m:=⟨n.toNat,by omega⟩
  refine ⟨65,Au.row.Div.out [.i m,.l y,.i d],[],?_,.N6⟩
  show _=some (DV.ints .fresh .u64 (Jd (Int.toNat (m:Int)) fun j=>Fc (List.getD y j 0) d))
  rw [Au.row.Div.ev,Ayu]
  exact Acl 65 (by omega) (by omega) (by omega) h4 h2 (m-1) 0 65 (by omega) (by omega)
theorem Rh {x:List Int} {k:Int} {j:Nat} (h:j<x.length):(Bn x k).getD j 0=By (x.getD j 0) k:=by
  unfold Bn
  rw [Ay2,List.getElem?_map,Ay9 h,Ay2,Ay9 h]; rfl
theorem Aav (x:List Int) (k:Int):(Bn x k).length=x.length:=by unfold Bn; rw [List.length_map]
theorem Aaw {x:List Int} (k:Int) (h:Ah x=true):Ah (Bn x k)=true:=R0 fun y hy=>by
  obtain ⟨b,hb,rfl⟩:=List.mem_map.1 hy
  exact Hu (Aq.1 h b hb)
theorem Xh:∀ {x:List Int},Ah x=true→Af (Oy x)=true
  | [],_=>H4
  | b::l,h=>by
    unfold Oy
    split
    · exact Xh (R0 fun y hy=>Aq.1 h y (List.mem_cons_of_mem _ hy))
    · exact Aq.1 h b List.mem_cons_self
theorem O8 {x:List Int} (h:Cl x=true):Ah x=true:=Aq.2 (Aq.1 h).2
theorem L7 {drops:List Nat} {g:Agj}:Wk drops .nil (.ints g .u64 []):=.nil g .u64
theorem Aaz {n:Nat} {f g:Nat→Int} (h:∀ j,j<n→f j=g j):Jd n f=Jd n g:=by
  unfold Jd
  congr 1
  exact List.map_congr_left fun j hj=>h _ (by have:=List.mem_range.1 hj; omega)
theorem Au.Dq.known:Au.Dq.Kn:=Au.Dq.Ac (.cons compare.Lu.known (.cons Au.lead.known (.cons Au.Bz.known (.cons (A3.alt Au.row.Zero.known Au.row.Div.known) (.cons Au.Dl.known (.cons soft.Finite.known (.cons soft.Dp.known (.cons soft.Sign.known (.cons Ae.Bo.known (.cons Ae.Div.known (.cons Ae.Finite.known (.cons Ae.Norm.known (.cons Ae.Bs.known (.cons Ae.Sub.known .nil)))))))))))))) fun x hp=>by
  have hx:Cl x=true:=hp
  have al:=O8 hx
  have he:=Zo (Be x)
  show ∃ N dv drops,_=some dv∧Wk drops dv (DV.tup [.ints .fresh .u64 (Cm x).1,.int .u64 (Cm x).2.1,.int .u64 (Cm x).2.2.1,.int .i64 (Cm x).2.2.2])
  unfold Cm
  by_cases h1:x.length=0∨64<x.length
  · rw [if_pos h1]
    refine ⟨0,.tup [.nil,.int .u64 0,.int .u64 0,.int .i64 3],[],?_,Wk.Gp (.cons L7 (.cons .int (.cons .int (.cons .int .nil))))⟩
    have:(((List.length x:Int)==(0:Int))||(A4 (64:Int) (List.length x:Int)))=true:=by
      rw [As,Bool.or_eq_true,beq_iff_eq,Ayz]; omega
    rw [Au.Dq.ev,this,Ays]
  have c1:(((List.length x:Int)==(0:Int))||(A4 (64:Int) (List.length x:Int)))=false:=by
    rw [As,Bool.or_eq_false_iff,beq_eq_false_iff_ne,Azb]; omega
  rw [if_neg h1]
  by_cases h2:Df x=true
  · rw [if_pos h2]
    unfold Jo
    have ok1:Cl (x.drop 1)=true:=Jb (R0 fun y hy=>Aq.1 al y (List.mem_of_mem_drop hy)) (by rw [List.length_drop]; omega)
    have d1:decide ((1:Int)≤(x.length:Int))=true:=Ayt (by omega)
    have d0:decide ((0:Int)<(x.length:Int))=true:=Ayt (by omega)
    by_cases h3:Ed (x.drop 1)=true
    · rw [if_pos h3]
      refine ⟨0,.tup [.ints .fresh .u64 (Jd x.length fun _=>0),.int .u64 0,.int .u64 (x.getD 0 0),.int .i64 0],[],?_,Wk.Gp (.cons .N6 (.cons .int (.cons .int (.cons .int .nil))))⟩
      rw [Au.Dq.ev,c1,Ayw,hx,Ays,h2,Bool.not_true,Ayw,d1,Ays,ok1,Ays,h3,Ays,Aq.2 (show 1≤(x.length:Int)∧(x.length:Int)≤64 by omega),Ays,d0,Ays,Ayu]
    · rw [if_neg h3]
      have h3:Ed (x.drop 1)=false:=by simpa using h3
      have ew:Ab (0-Br (Be x))=-Br (Be x):=by rw [Al (by omega) (by omega)]; omega
      have ly:=Aav x (-Br (Be x))
      have ay:=Aaw (-Br (Be x)) al
      have oky:Cl (Bn x (-Br (Be x)))=true:=Jb ay (by omega)
      have gy:=Rh (x:=x) (k:=-Br (Be x)) (j:=0) (by omega)
      have iy:=Ix ay 0
      have key:∀ mu:Int,muI x=mu→Af mu=true→∀ b:Bool,Cv (E6 x)=b→∃ dv:DV,(bif (!b) then
              some (.tup [.nil,.int .u64 (0:Int),.int .u64 (0:Int),.int .i64 (2:Int)])
            else some (.tup [.ints .fresh .u64 (Jd (Int.toNat (List.length (Bn x (-Br (Be x))):Int)) (fun j=>Fc (List.getD (Bn x (-Br (Be x))) j 0) (Ew (List.getD (Bn x (-Br (Be x))) 0 0) mu))),.int .u64 (Fc (Ew mu (List.getD (Bn x (-Br (Be x))) 0 0)) mu),.int .u64 (By mu (Br (Be x))),.int .i64 (0:Int)]))=some dv ∧
          Wk [] dv (DV.tup [.ints .fresh .u64 (if Cv (E6 x)=true then (Sb x,S3 x,E6 x,(0:Int)) else ([],0,0,2)).1,.int .u64 (if Cv (E6 x)=true then (Sb x,S3 x,E6 x,(0:Int)) else ([],0,0,2)).2.1,.int .u64 (if Cv (E6 x)=true then (Sb x,S3 x,E6 x,(0:Int)) else ([],0,0,2)).2.2.1,.int .i64 (if Cv (E6 x)=true then (Sb x,S3 x,E6 x,(0:Int)) else ([],0,0,2)).2.2.2]):=by
        intro mu hmu _ b hb
        rw [hb]
        cases b with
        | false=>exact ⟨_,rfl,Wk.Gp (.cons L7 (.cons .int (.cons .int (.cons .int .nil))))⟩
        | true =>
          refine ⟨_,rfl,?_⟩
          rw [if_pos rfl]
          dsimp only
          have e1:Jd (Int.toNat (List.length (Bn x (-Br (Be x))):Int)) (fun j=>Fc (List.getD (Bn x (-Br (Be x))) j 0) (Ew (List.getD (Bn x (-Br (Be x))) 0 0) mu))=Sb x:=by
            unfold Sb
            rw [Ayu,ly,gy,← hmu]
            exact Aaz fun j hj=>by rw [Rh hj]; rfl
          have e2:Fc (Ew mu (List.getD (Bn x (-Br (Be x))) 0 0)) mu=S3 x:=by
            unfold S3
            rw [gy,hmu]; rfl
          have e3:By mu (Br (Be x))=E6 x:=by unfold E6; rw [hmu]
          rw [e1,e2,e3]
          exact Wk.Gp (.cons .N6 (.cons .int (.cons .int (.cons .int .nil))))
      have dz:decide ((0:Int)<((Bn x (-Br (Be x))).length:Int))=true:=Ayt (by omega)
      have cz':Cz (1≤((Bn x (-Br (Be x))).length:Int)∧((Bn x (-Br (Be x))).length:Int)≤64∧True)=true:=Aq.2 ⟨by omega,by omega,trivial⟩
      have p1:Cz (x.length≤1000∧-2300≤-Br (Be x)∧-Br (Be x)≤2300)=true:=Aq.2 (by omega)
      have p2:Cz ((Bn x (-Br (Be x))).length≤64)=true:=Aq.2 (by omega)
      have sp:∀ mu:Int,Af mu=true→Dh mu (Br (Be x))=true:=fun mu h=>Ad.2 ⟨h,Aq.2 (by omega)⟩
      have ny:=Xe (Bn x (-Br (Be x)))
      cases hn:Dt (Oy x) with
      | true =>
        have hm:muI x=Dk (Bn x (-Br (Be x))):=by unfold muI; rw [if_pos hn]
        obtain ⟨dv,k1,k2⟩:=key _ hm ny (Cv (E6 x)) rfl
        refine ⟨0,dv,[],?_,k2⟩
        rw [← k1]
        have eb:E6 x=By (Dk (Bn x (-Br (Be x)))) (Br (Be x)):=by unfold E6; rw [hm]
        rw [Au.Dq.ev,ew,eb]
        simp only [c1,Ayw,hx,Ays,h2,Bool.not_true,d1,ok1,h3,Oa,p1,oky,p2,Ayy,Xh al,hn,sp _ ny,Hu ny,dz,cz',ay,iy,ny,N3 iy ny,N3 ny iy]
      | false =>
        have hm:muI x=Db (Dk (Bn x (-Br (Be x)))):=by unfold muI; rw [if_neg (by rw [hn]; decide)]
        have my:=Yw ny
        obtain ⟨dv,k1,k2⟩:=key _ hm my (Cv (E6 x)) rfl
        refine ⟨0,dv,[],?_,k2⟩
        rw [← k1]
        have eb:E6 x=By (Db (Dk (Bn x (-Br (Be x))))) (Br (Be x)):=by unfold E6; rw [hm]
        rw [Au.Dq.ev,ew,eb]
        simp only [c1,Ayw,hx,Ays,h2,Bool.not_true,d1,ok1,h3,Oa,p1,oky,p2,Ayy,Xh al,hn,Bool.not_false,sp _ my,Hu my,dz,cz',ay,iy,ny,my,N3 iy my,N3 my iy]
  · rw [if_neg h2]
    have h2:Df x=false:=by simpa using h2
    refine ⟨0,.tup [.nil,.int .u64 0,.int .u64 0,.int .i64 4],[],?_,Wk.Gp (.cons L7 (.cons .int (.cons .int (.cons .int .nil))))⟩
    rw [Au.Dq.ev,c1,Ayw,hx,Ays,h2,Bool.not_false,Ays]
open EqHouse
def apD (i k c j a b:Nat):Bool:=decide (k≤b∧i≤a∧(b<c∨(b=c∧a<i+j)))
def apS (R C:Nat) (l:List Int) (i k:Nat) (v:List Int) (t:Int) (c j:Nat):List Int :=
  B7 R C fun a b=>if apD i k c j a b=true∧a<i+v.length then P0 (C:Int) l (i:Int) (k:Int) v t (a:Int) (b:Int) else D9 (C:Int) l (a:Int) (b:Int)
section
variable {R C i k:Nat} {l v:List Int} {t:Int}
theorem Ajs (c j:Nat):(apS R C l i k v t c j).length=R*C:=Ca _ _ _
theorem Agc (h:l.length=R*C):apS R C l i k v t k 0=l:=by
  unfold apS
  conv=>rhs; rw [← Vy h]
  refine D7 fun a b ha hb=>?_
  rw [if_neg]
  rintro ⟨h,_⟩
  have:=of_decide_eq_true h
  omega
theorem Agd (c:Nat):apS R C l i k v t c v.length=apS R C l i k v t (c+1) 0:=by
  unfold apS
  refine D7 fun a b ha hb=>?_
  have:(apD i k c v.length a b=true∧a<i+v.length)↔(apD i k (c+1) 0 a b=true∧a<i+v.length):=by
    unfold apD
    rw [Ayz,Ayz]
    omega
  by_cases h:apD i k c v.length a b=true∧a<i+v.length
  · rw [if_pos h,if_pos (this.1 h)]
  · rw [if_neg h,if_neg (fun hh=>h (this.2 hh))]
theorem Ajt:apS R C l i k v t C 0=E9 R C l (i:Int) (k:Int) v t:=by
  unfold apS E9
  refine D7 fun a b ha hb=>?_
  by_cases h:apD i k C 0 a b=true∧a<i+v.length
  · rw [if_pos h]
  · rw [if_neg h]
    unfold P0
    rw [if_neg]
    intro hh
    refine h ⟨?_,by omega⟩
    unfold apD
    rw [Ayz]; omega
theorem Ajr {c j:Nat} (hc:c<C) (hk:k≤c) (hj:j<v.length) {x:Int} (hx:x=P0 (C:Int) l (i:Int) (k:Int) v t ((i+j:Nat):Int) (c:Int)) :
    List.set (apS R C l i k v t c j) ((i+j)*C+c) x=apS R C l i k v t c (j+1):=by
  unfold apS
  rw [Uz hc]
  refine D7 fun a b ha hb=>?_
  by_cases h:a=i+j∧b=c
  · obtain ⟨rfl,rfl⟩:=h
    rw [if_pos ⟨rfl,rfl⟩,if_pos ⟨by unfold apD; rw [Ayz]; omega,by omega⟩,hx]
  · rw [if_neg h]
    have:(apD i k c j a b=true∧a<i+v.length)↔(apD i k c (j+1) a b=true∧a<i+v.length):=by
      unfold apD
      rw [Ayz,Ayz]
      omega
    by_cases h2:apD i k c j a b=true∧a<i+v.length
    · rw [if_pos h2,if_pos (this.1 h2)]
    · rw [if_neg h2,if_neg (fun hh=>h2 (this.2 hh))]
theorem Agb {c j:Nat} (hk:k≤c) (hj:j<v.length):P0 (C:Int) l (i:Int) (k:Int) v t ((i+j:Nat):Int) (c:Int) =
    Ew ((Cu (C:Int) l (c:Int) (i:Int) v.length).getD j 0) (D3 (Tk (C:Int) l (i:Int) v t (c:Int)) (v.getD j 0)):=by
  unfold P0
  rw [if_pos ⟨by omega,by omega,by omega⟩]
  have e1:(((i+j:Nat):Int)-(i:Int)).toNat=j:=by omega
  have e2:(Cu (C:Int) l (c:Int) (i:Int) v.length).getD j 0=D9 (C:Int) l ((i+j:Nat):Int) (c:Int):=by
    unfold Cu
    rw [Ay2,List.getElem?_map,List.getElem?_range hj]
    show D9 (C:Int) l ((i:Int)+(j:Int)) (c:Int)=_
    rw [← Int.natCast_add]
  rw [e1,e2]
theorem Aem {c b i:Int} {l:List Int} {m n:Nat} (h:m≤n):List.take m (Cu c l b i n)=Cu c l b i m:=by
  unfold Cu
  rw [← List.map_take,List.take_range,Nat.min_eq_left h]
theorem Aia (N M0:Nat) (r6:R≤6) (c6:C≤6) (al:Ah l=true) (av:Ah v=true) (hv:i+v.length≤R) {c:Nat} (hc:c<C) (hk:k≤c):∀ (cnt j F:Nat),j+cnt=v.length→cnt<F →
    Au.Apply.L1 N M0 F (R:Int) (C:Int) l (i:Int) v t (j:Int) (apS R C l i k v t c j) (c:Int) (Tk (C:Int) l (i:Int) v t (c:Int)) (Cu (C:Int) l (c:Int) (i:Int) v.length) (v.length:Int) =
    Au.Apply.L0 N M0 (R:Int) (C:Int) l (i:Int) v t ((c+1:Nat):Int) (apS R C l i k v t (c+1) 0):=by
  intro cnt
  induction cnt with
  | zero =>
    intro j F hj hF
    obtain ⟨F,rfl⟩:∃ G,F=G+1:=⟨F-1,by omega⟩
    obtain rfl:j=v.length:=by omega
    rw [Au.Apply.B9,As,Ayx (by omega),Ayw,Al (by omega) (by omega),Agd]
    rfl
  | succ cnt ih =>
    intro j F hj hF
    obtain ⟨F,rfl⟩:∃ G,F=G+1:=⟨F-1,by omega⟩
    have hm:=Jr (a:=((i+j:Nat):Int)) (b:=(C:Int)) (by omega) (by omega) (by omega) (by omega)
    have hpl:=Ku (show i+j<R by omega) hc
    have e1:Ab ((i:Int)+(j:Int))=((i+j:Nat):Int):=by rw [Al (by omega) (by omega)]; omega
    have e2:Ab (((i+j:Nat):Int)*(C:Int))=(((i+j)*C:Nat):Int):=by rw [Al (by omega) (by omega)]; exact (Azd _ _).symm
    have h36:=Nat.mul_le_mul r6 c6
    have e3:Ab ((((i+j)*C:Nat):Int)+(c:Int))=(((i+j)*C+c:Nat):Int):=by rw [Al (by omega) (by omega)]; omega
    have hlen:=Ajs (R:=R) (C:=C) (l:=l) (i:=i) (k:=k) (v:=v) (t:=t) c j
    have sl:=Gd (C:Int) (c:Int) (i:Int) v.length l
    rw [Au.Apply.B9,As,Ayt (show (j:Int)<(v.length:Int) by omega),Ays,e1,e2,e3,sl,Ayt (show (0:Int)≤(j:Int) by omega),Ayt (show (j:Int)<(v.length:Int) by omega),Ayy,Ays,Ayu,Ayu]
    have a1:=Ix av j
    have a2:=Ix (Pc (c:=(C:Int)) (b:=(c:Int)) (i:=(i:Int)) (n:=v.length) al) j
    have a3:Af (Tk (C:Int) l (i:Int) v t (c:Int))=true:=Jn _ _
    rw [Ays,a3,a1,Ayy,Ays,a2,Jn,Ayy,Ays,Ayt (by omega),Ayt (by omega),Ayy,Ays,Ayt (by omega),Ays,
      Ajr hc hk (by omega) (Agb hk (by omega)).symm,Al (by omega) (by omega)]
    exact ih (j+1) F (by omega) (by omega)
theorem Aib (N:Nat) (r6:R≤6) (c6:C≤6) (hN:7<N) (hr:A0 (R:Int) (C:Int) l=true) (al:Ah l=true) (av:Ah v=true) (ht:Af t=true) (hv:i+v.length≤R):∀ (cnt c F:Nat),c+cnt=C→k≤c→cnt<F →
    Au.Apply.L0 N F (R:Int) (C:Int) l (i:Int) v t (c:Int) (apS R C l i k v t c 0) =
    some (.tup [.agg [.int .i64 (R:Int),.int .i64 (C:Int),.ints (.own 114002 tB) .u64 (E9 R C l (i:Int) (k:Int) v t)],.int .i64 (0:Int)]):=by
  intro cnt
  induction cnt with
  | zero =>
    intro c F hc hk hF
    obtain ⟨F,rfl⟩:∃ G,F=G+1:=⟨F-1,by omega⟩
    obtain rfl:c=C:=by omega
    rw [Au.Apply.Ar,As,Ayx (by omega),Ayw,Ajt]
  | succ cnt ih =>
    intro c F hc hk hF
    obtain ⟨F,rfl⟩:∃ G,F=G+1:=⟨F-1,by omega⟩
    have cp:G6 (R:Int) (C:Int) l (c:Int)=true:=Ad.2 ⟨hr,Aq.2 (by omega)⟩
    have e0:Int.toNat ((R:Int)-(i:Int))=R-i:=by omega
    have st:=Aem (c:=(C:Int)) (b:=(c:Int)) (i:=(i:Int)) (l:=l) (m:=v.length) (n:=R-i) (by omega)
    have sl:=Gd (C:Int) (c:Int) (i:Int) v.length l
    have sl2:=Gd (C:Int) (c:Int) (i:Int) (R-i) l
    have sa:=Pc (c:=(C:Int)) (b:=(c:Int)) (i:=(i:Int)) (n:=v.length) al
    have ft:O3 v (Cu (C:Int) l (c:Int) (i:Int) v.length)=true:=Ru.2 ⟨by omega,by omega⟩
    rw [Au.Apply.Ar,As,Ayt (by omega),Ays,cp,Aq.2 (show 0≤(i:Int)∧(i:Int)≤(R:Int) by omega),Ayy,Ays,e0,Ayu,st,sl2,sl,
      Ayt (show (0:Int)≤(v.length:Int) by omega),Ayt (show (v.length:Int)≤(v.length:Int) by omega),Ayt (show (v.length:Int)≤((R-i:Nat):Int) by omega),Ayy,Ayy,Ays,ft,av,sa,Ayy,Ayy,Ays,ht,Rx,Ayy,Ays]
    have:=Aia (t:=t) N F r6 c6 al av hv (show c<C by omega) hk v.length 0 N (by omega) (by omega)
    exact this.trans (ih (c+1) F (by omega) (by omega) (by omega))
end
theorem Au.Apply.known:Au.Apply.Kn:=Au.Apply.Ac (.cons Aa.Check.known (.cons Aa.D1.known (.cons Ae.H3.known (.cons Ae.Mul.known (.cons Ae.Sub.known .nil))))) fun r c l i k v t hp=>by
  obtain ⟨h1,ht⟩:=Ad.1 (show (((A0 r c l&&Ho r c i k v)&&(Ah l&&Ah v))&&Af t)=true from hp)
  obtain ⟨h2,h3⟩:=Ad.1 h1
  obtain ⟨hr,hb⟩:=Ad.1 h2
  obtain ⟨al,av⟩:=Ad.1 h3
  have hb:=of_decide_eq_true hb
  have hc:K1 r c l=0:=by unfold K1; rw [if_pos hr]
  have h36:=Kq hr
  obtain ⟨R,C,rfl,rfl,r6,c6,hl⟩:=Ce hr
  obtain ⟨i,rfl⟩:∃ j:Nat,i=j:=⟨i.toNat,by omega⟩
  obtain ⟨k,rfl⟩:∃ j:Nat,k=j:=⟨k.toNat,by omega⟩
  refine ⟨8,Au.Apply.out [.i (R:Int),.i (C:Int),.l l,.i (i:Int),.i (k:Int),.l v,.i t],[],?_,Wk.Gp (.cons (Wk.G8 (.cons .int (.cons .int (.cons (.keep _ _ _ _ List.not_mem_nil) .nil)))) (.cons .int .nil))⟩
  show _=some (DV.tup [.agg [.int .i64 (R:Int),.int .i64 (C:Int),.ints (.own 114002 tB) .u64 (E9 (Int.toNat (R:Int)) (Int.toNat (C:Int)) l (i:Int) (k:Int) v t)],.int .i64 0])
  have hlt:(((((A4 (i:Int) (0:Int))||(A4 (R:Int) (List.length v:Int)))||(A4 (Ab ((R:Int)-(List.length v:Int))) (i:Int)))||(A4 (k:Int) (0:Int)))||(A4 (C:Int) (k:Int)))=false:=by
    rw [As,As,As,As,As,Al (by omega) (by omega),Ayx (by omega),Ayx (by omega),Ayx (by omega),Ayx (by omega),Ayx (by omega)]; rfl
  rw [Au.Apply.ev,hc,show ((0:Int) !=(0:Int))=false from rfl,Ayw,hlt,Ayw,Ayt (show 0+l.length≤Gt by unfold Gt; omega),Ays,List.nil_append,Ayu,Ayu]
  have:=Aib (R:=R) (C:=C) (i:=i) (k:=k) (l:=l) (v:=v) (t:=t) 8 r6 c6 (by omega) hr al av ht (by omega) (C-k) k 8 (by omega) (by omega) (by omega)
  rw [Agc hl] at this
  exact this
namespace EqSol
def solve.check.hint:Nat→Option Ba
  | 0=>some { keep:=[2,3,11,12],objs:=[],boxes:=[2,3] }
  | 2=>some { keep:=[2,34,35],objs:=[],boxes:=[2] }
  | _=>none
def solve.check.A6:List (Nat × Entry):=[(86,Cy.Check.spec),(155,soft.Kind.spec)]
def solve.check.E:Env:=A9 (A5 solve.check.A6) (fun _=>false) solve.check.hint (fun _=>none)
def solve.check.L0 (N M:Nat) (r c:Int) (l:List Int) (p35:Int):Option DV:=B0 solve.check.E N Tryz.f75 (An Tryz.f75) [1,1,1,0,1,0] [] M ⟨Gj 51 [(2,.ptr 2 0 0),(34,.int .i64 r),(35,.int .i64 p35)],[(2,false,.box [.int .i64 r,.int .i64 c,.ints .arg .u64 l])]⟩
theorem solve.check.Ar (N M:Nat) (r c:Int) (l:List Int) (p35:Int):solve.check.L0 (N+4) (M+1) r c l p35=bif (A4 p35 r) then bif ((decide (0≤(Ab ((Ab (p35*c))+p35))))&&(decide ((Ab ((Ab (p35*c))+p35))<(List.length l:Int)))) then bif (Af (List.getD l (Int.toNat (Ab ((Ab (p35*c))+p35))) 0)) then bif ((Bd (List.getD l (Int.toNat (Ab ((Ab (p35*c))+p35))) 0))==(0:Int)) then some (.int .i64 5) else solve.check.L0 (N+4) M r c l (Ab (p35+1)) else none else none else some (.int .i64 0):=by kernel_rfl
theorem solve.check.ev (N:Nat) (r c:Int) (l:List Int) (p q:Int) (m:List Int):Bq solve.check.E (N+4) Tryz.f75 (An Tryz.f75) [.agg [.int .i64 r,.int .i64 c,.ints .arg .u64 l],.agg [.int .i64 p,.int .i64 q,.ints .arg .u64 m]]=bif (Ah l) then bif ((Cg r c l) !=(0:Int)) then some (.int .i64 (Cg r c l)) else bif (Ah m) then bif ((Cg p q m) !=(0:Int)) then some (.int .i64 (Cg p q m)) else bif ((r !=c)||(r !=p)) then some (.int .i64 3) else solve.check.L0 (N+4) (N+4) r c l (0:Int) else none else none :=
  Eq.trans (by kernel_rfl)
  (Eh (Eh rfl (Eh (Eh rfl (Av (Se (r !=c)) (Av (Qa (r !=c)) (Av (Se (r !=c)) (Av (Qa (r !=c)) (Av (tt8 (r !=c)) (Av (W4 (r !=c)) (C0 (tt5 (r !=c) (r !=p)) rfl rfl)))))))) rfl)) rfl)
abbrev _root_.Go.Proofs.S1.solve.check.Kn:=A3 Tryz.prog 75 solve.check.spec
theorem solve.check.Ac (hk:Ax Tryz.prog solve.check.A6) (h:∀ (r c:Int) (l:List Int) (p q:Int) (m:List Int),solve.check.pre [.i r,.i c,.l l,.i p,.i q,.l m]=true→A8 solve.check.E Tryz.f75 [.agg [.int .i64 r,.int .i64 c,.ints .arg .u64 l],.agg [.int .i64 p,.int .i64 q,.ints .arg .u64 m]] (solve.check.out [.i r,.i c,.l l,.i p,.i q,.l m])):solve.check.Kn :=
  Ak (Az hk _ _ _) Tryz.func75 (by kernel_rfl) (by kernel_rfl) h
def Gn.Gm.up.A6:List (Nat × Entry):=[]
def Gn.Gm.up.E:Env:=A9 (A5 Gn.Gm.up.A6) (fun _=>false) (fun _=>none) (fun _=>none)
theorem Gn.Gm.up.ev (N:Nat) (n k:Int):Bq Gn.Gm.up.E N Tryz.f103 (An Tryz.f103) [.int .i64 n,.int .i64 k]=some (.int .i64 (Ab ((Ab (n-1))-k))):=by kernel_rfl
abbrev _root_.Go.Proofs.S1.Gn.Gm.up.Kn:=A3 Tryz.prog 103 Gn.Gm.up.spec
theorem Gn.Gm.up.Ac (hk:Ax Tryz.prog Gn.Gm.up.A6) (h:∀ (n k:Int),Gn.Gm.up.pre [.i n,.i k]=true→A8 Gn.Gm.up.E Tryz.f103 [.int .i64 n,.int .i64 k] (Gn.Gm.up.out [.i n,.i k])):Gn.Gm.up.Kn :=
  Ak (Az hk _ _ _) Tryz.func103 (by kernel_rfl) (by kernel_rfl) h
def solve.Es.A6:List (Nat × Entry):=[]
def solve.Es.E:Env:=A9 (A5 solve.Es.A6) (fun _=>false) (fun _=>none) (fun _=>none)
theorem solve.Es.ev (N:Nat) (i k:Int):Bq solve.Es.E N Tryz.f104 (An Tryz.f104) [.int .i64 i,.int .i64 k]=some (.bool (A4 i k)):=by kernel_rfl
abbrev _root_.Go.Proofs.S1.solve.Es.Kn:=A3 Tryz.prog 104 solve.Es.spec
theorem solve.Es.Ac (hk:Ax Tryz.prog solve.Es.A6) (h:∀ (i k:Int),solve.Es.pre [.i i,.i k]=true→A8 solve.Es.E Tryz.f104 [.int .i64 i,.int .i64 k] (solve.Es.out [.i i,.i k])):solve.Es.Kn :=
  Ak (Az hk _ _ _) Tryz.func104 (by kernel_rfl) (by kernel_rfl) h
def Aa.of.Bf.own.hint:Nat→Option Ba
  | 0=>some { keep:=[1,2,6,7,13,14],objs:=[(8,2,108002,.ints 37 .u64 [])],boxes:=[6,7] }
  | 2=>some { keep:=[1,2,6,7,8,13,14,17,18],objs:=[(8,2,108002,.ints 37 .u64 [])],boxes:=[6,7] }
  | _=>none
def Aa.of.Bf.own.A6:List (Nat × Entry):=[(205,Aa.Ei.spec)]
def Aa.of.Bf.own.E:Env:=A9 (A5 Aa.of.Bf.own.A6) (fun _=>false) Aa.of.Bf.own.hint (fun _=>none)
abbrev _root_.Go.Proofs.S1.Aa.of.Bf.own.Kn:=A3 Tryz.prog 187 Aa.of.Bf.own.spec
theorem Aa.of.Bf.own.Ac (hk:Ax Tryz.prog Aa.of.Bf.own.A6) (h:∀ (a b:Int),Aa.of.Bf.own.pre [.i a,.i b]=true→A8 Aa.of.Bf.own.E Tryz.f187 [.int .i64 a,.int .i64 b,.fn 205 [] []] (Aa.of.Bf.own.out [.i a,.i b])):Aa.of.Bf.own.Kn :=
  Ak (Az hk _ _ _) Tryz.func187 (by kernel_rfl) (by kernel_rfl) h
def Aa.Bf.own.A6:List (Nat × Entry):=[(187,Aa.of.Bf.own.spec),(204,Aa.size.spec)]
def Aa.Bf.own.E:Env:=A9 (A5 Aa.Bf.own.A6) (fun n=>Nat.beq n 17) (fun _=>none) (fun _=>none)
theorem Aa.Bf.own.ev (N:Nat) (a b:Int):Bq Aa.Bf.own.E N Tryz.f151 (An Tryz.f151) [.int .i64 a,.int .i64 b]=bif ((!(Bg a))||(!(Bg b))) then some (.tup [.agg [.int .i64 0,.int .i64 0,.nil],.int .i64 3]) else bif (Bg a&&Bg b) then some (.tup [.agg [.int .i64 a,.int .i64 b,.ints (.own 1136 37) .u64 (B7 (Int.toNat a) (Int.toNat b) (fun _ _=>0))],.int .i64 0]) else none :=
  Eq.trans (by kernel_rfl)
  (Av (Ab8 (Bg a)) (Av (R8 (Bg a)) (Av (R8 (Bg a)) (Av (Ab9 (Bg a)) (C0 (Amp (Bg a) (Bg b)) rfl rfl)))))
abbrev _root_.Go.Proofs.S1.Aa.Bf.own.Kn:=A3 Tryz.prog 151 Aa.Bf.own.spec
theorem Aa.Bf.own.Ac (hk:Ax Tryz.prog Aa.Bf.own.A6) (h:∀ (a b:Int),Aa.Bf.own.pre [.i a,.i b]=true→A8 Aa.Bf.own.E Tryz.f151 [.int .i64 a,.int .i64 b] (Aa.Bf.own.out [.i a,.i b])):Aa.Bf.own.Kn :=
  Ak (Az hk _ _ _) Tryz.func151 (by kernel_rfl) (by kernel_rfl) h
def solve.Bx.Up.hint:Nat→Option Ba
  | 0=>some { keep:=[2,3,4,5,8,10,11,28,29],objs:=[(12,2,112002,.ints 37 .u64 [])],boxes:=[4,5,8,11] }
  | 2=>some { keep:=[2,3,4,5,8,10,11,13,28,29,32,33],objs:=[(12,2,112002,.ints 37 .u64 [])],boxes:=[4,5,8,11] }
  | 4=>some { keep:=[2,3,4,5,8,10,11,13,15,16,28,29,32,33,49,50],objs:=[(12,2,112002,.ints 37 .u64 [])],boxes:=[4,5,8,11] }
  | _=>none
def solve.Bx.Up.A6:List (Nat × Entry):=[(103,Gn.Gm.up.spec),(151,Aa.Bf.own.spec),(104,solve.Es.spec),(158,Ae.Div.spec),(150,Ae.Finite.spec),(157,Ae.Mul.spec),(156,Ae.Sub.spec)]
def solve.Bx.Up.E:Env:=A9 (A5 solve.Bx.Up.A6) (fun n=>Nat.beq n 24) solve.Bx.Up.hint (fun _=>none)
def solve.Bx.Up.L0 (N M:Nat) (r c:Int) (l:List Int) (p q:Int) (m:List Int) (n p29:Int) (p2_2:List Int):Option DV:=B0 solve.Bx.Up.E N Tryz.f76 (An Tryz.f76) [1,1,1,0,1,0] [] M ⟨Gj 108 [(2,.fn 103 [.int .i64 n] []),(3,.fn 104 [] []),(4,.ptr 4 0 0),(5,.ptr 5 0 0),(8,.ptr 8 0 0),(10,.int .i64 r),(11,.ptr 11 0 0),(28,.int .i64 q),(29,.int .i64 p29)],[(4,false,.box [.int .i64 r,.int .i64 c,.ints .arg .u64 l]),(5,false,.box [.int .i64 p,.int .i64 q,.ints .arg .u64 m]),(8,false,.box [.int .i64 0,.int .i64 0,.nil]),(11,false,.box [.int .i64 r,.int .i64 q,.oref 112002]),(112002,false,.ints 37 .u64 p2_2)]⟩
def solve.Bx.Up.L1 (N M0 M:Nat) (r c:Int) (l:List Int) (p q:Int) (m:List Int) (n p33:Int) (p2:List Int) (p13 p29_1:Int):Option DV:=B0 solve.Bx.Up.E N Tryz.f76 (An Tryz.f76) [1,1,1,0,1,0,0,1,1,0,0,1,0,1,1,0] [M0] M ⟨Gj 108 [(2,.fn 103 [.int .i64 n] []),(3,.fn 104 [] []),(4,.ptr 4 0 0),(5,.ptr 5 0 0),(8,.ptr 8 0 0),(10,.int .i64 r),(11,.ptr 11 0 0),(13,.int .i64 p13),(28,.int .i64 q),(29,.int .i64 p29_1),(32,.int .i64 r),(33,.int .i64 p33)],[(4,false,.box [.int .i64 r,.int .i64 c,.ints .arg .u64 l]),(5,false,.box [.int .i64 p,.int .i64 q,.ints .arg .u64 m]),(8,false,.box [.int .i64 0,.int .i64 0,.nil]),(11,false,.box [.int .i64 r,.int .i64 q,.oref 112002]),(112002,false,.ints 37 .u64 p2)]⟩
def solve.Bx.Up.L2 (N M0 M1 M:Nat) (r c:Int) (l:List Int) (p q:Int) (m:List Int) (n p16:Int) (p50 p13_1:Int) (p15 p29_2 p33_1:Int) (p2_1:List Int):Option DV:=B0 solve.Bx.Up.E N Tryz.f76 (An Tryz.f76) [1,1,1,0,1,0,0,1,1,0,0,1,0,1,1,0,0,1,1,0,0,1,1,1,0,1,0] [M0,M1] M ⟨Gj 108 [(2,.fn 103 [.int .i64 n] []),(3,.fn 104 [] []),(4,.ptr 4 0 0),(5,.ptr 5 0 0),(8,.ptr 8 0 0),(10,.int .i64 r),(11,.ptr 11 0 0),(13,.int .i64 p13_1),(15,.int .i64 p15),(16,.int .u64 p16),(28,.int .i64 q),(29,.int .i64 p29_2),(32,.int .i64 r),(33,.int .i64 p33_1),(49,.int .i64 r),(50,.int .i64 p50)],[(4,false,.box [.int .i64 r,.int .i64 c,.ints .arg .u64 l]),(5,false,.box [.int .i64 p,.int .i64 q,.ints .arg .u64 m]),(8,false,.box [.int .i64 0,.int .i64 0,.nil]),(11,false,.box [.int .i64 r,.int .i64 q,.oref 112002]),(112002,false,.ints 37 .u64 p2_1)]⟩
theorem solve.Bx.Up.Ar (N M:Nat) (r c:Int) (l:List Int) (p q:Int) (m:List Int) (n p29:Int) (p2_2:List Int):solve.Bx.Up.L0 N (M+1) r c l p q m n p29 p2_2=bif (A4 p29 q) then solve.Bx.Up.L1 N M N r c l p q m n 0 p2_2 p29 p29 else bif (Cl p2_2) then bif (!(Df p2_2)) then some (.tup [.agg [.int .i64 0,.int .i64 0,.nil],.int .i64 2]) else some (.tup [.agg [.int .i64 r,.int .i64 q,.ints (.own 112002 37) .u64 p2_2],.int .i64 0]) else none:=by kernel_rfl
theorem solve.Bx.Up.B9 (N M0 M:Nat) (r c:Int) (l:List Int) (p q:Int) (m:List Int) (n p33:Int) (p2:List Int) (p13 p29_1:Int):solve.Bx.Up.L1 N M0 (M+1) r c l p q m n p33 p2 p13 p29_1=bif (A4 p33 r) then bif (Cz (0≤p33∧p33<n∧n≤10)) then bif ((decide (0≤(Ab ((Ab ((n-1-p33)*q))+p13))))&&(decide ((Ab ((Ab ((n-1-p33)*q))+p13))<(List.length m:Int)))) then solve.Bx.Up.L2 N M0 M N r c l p q m n (List.getD m (Int.toNat (Ab ((Ab ((n-1-p33)*q))+p13))) 0) 0 p13 (n-1-p33) p29_1 p33 p2 else none else none else solve.Bx.Up.L0 N M0 r c l p q m n (Ab (p29_1+1)) p2:=by kernel_rfl
theorem solve.Bx.Up.Hq (N M0 M1 M:Nat) (r c:Int) (l:List Int) (p q:Int) (m:List Int) (n p16:Int) (p50 p13_1:Int) (p15 p29_2 p33_1:Int) (p2_1:List Int):solve.Bx.Up.L2 N M0 M1 (M+1) r c l p q m n p16 p50 p13_1 p15 p29_2 p33_1 p2_1=bif (A4 p50 r) then bif (decide (p15<p50)) then bif ((decide (0≤(Ab ((Ab (p15*r))+p50))))&&(decide ((Ab ((Ab (p15*r))+p50))<(List.length l:Int)))) then bif ((decide (0≤(Ab ((Ab (p50*q))+p13_1))))&&(decide ((Ab ((Ab (p50*q))+p13_1))<(List.length p2_1:Int)))) then bif (decide ((Int.toNat (Ab ((Ab (p50*q))+p13_1)))<(List.length p2_1))) then bif (Af (List.getD l (Int.toNat (Ab ((Ab (p15*r))+p50))) 0)&&Af (List.getD p2_1 (Int.toNat (Ab ((Ab (p50*q))+p13_1))) 0)) then bif (Af p16&&Af (D3 (List.getD l (Int.toNat (Ab ((Ab (p15*r))+p50))) 0) (List.getD p2_1 (Int.toNat (Ab ((Ab (p50*q))+p13_1))) 0))) then solve.Bx.Up.L2 N M0 M1 M r c l p q m n (Ew p16 (D3 (List.getD l (Int.toNat (Ab ((Ab (p15*r))+p50))) 0) (List.getD p2_1 (Int.toNat (Ab ((Ab (p50*q))+p13_1))) 0))) (Ab (p50+1)) p13_1 p15 p29_2 p33_1 p2_1 else none else none else none else none else none else solve.Bx.Up.L2 N M0 M1 M r c l p q m n p16 (Ab (p50+1)) p13_1 p15 p29_2 p33_1 p2_1 else bif ((decide (0≤(Ab ((Ab (p15*r))+p15))))&&(decide ((Ab ((Ab (p15*r))+p15))<(List.length l:Int)))) then bif (Af p16&&Af (List.getD l (Int.toNat (Ab ((Ab (p15*r))+p15))) 0)) then bif ((decide (0≤(Ab ((Ab (p15*q))+p13_1))))&&(decide ((Ab ((Ab (p15*q))+p13_1))<(List.length p2_1:Int)))) then bif (decide ((Int.toNat (Ab ((Ab (p15*q))+p13_1)))<(List.length p2_1))) then solve.Bx.Up.L1 N M0 M1 r c l p q m n (Ab (p33_1+1)) (List.set p2_1 (Int.toNat (Ab ((Ab (p15*q))+p13_1))) (Fc p16 (List.getD l (Int.toNat (Ab ((Ab (p15*r))+p15))) 0))) p13_1 p29_2 else none else none else none else none :=
  Eq.trans (by kernel_rfl)
  (Eh (Eh (C0 (Ko (decide (0≤(Ab ((Ab (p15*r))+p50)))) (decide ((Ab ((Ab (p15*r))+p50))<(List.length l:Int)))) (C0 (Ko (decide (0≤(Ab ((Ab (p50*q))+p13_1)))) (decide ((Ab ((Ab (p50*q))+p13_1))<(List.length p2_1:Int)))) (C0 (Cx (decide ((Int.toNat (Ab ((Ab (p50*q))+p13_1)))<(List.length p2_1)))) (C0 (Cx (Af (List.getD l (Int.toNat (Ab ((Ab (p15*r))+p50))) 0)&&Af (List.getD p2_1 (Int.toNat (Ab ((Ab (p50*q))+p13_1))) 0))) (C0 (Cx (Af p16&&Af (D3 (List.getD l (Int.toNat (Ab ((Ab (p15*r))+p50))) 0) (List.getD p2_1 (Int.toNat (Ab ((Ab (p50*q))+p13_1))) 0)))) rfl rfl) rfl) rfl) rfl) rfl) rfl) (C0 (Ko (decide (0≤(Ab ((Ab (p15*r))+p15)))) (decide ((Ab ((Ab (p15*r))+p15))<(List.length l:Int)))) (C0 (Cx (Af p16&&Af (List.getD l (Int.toNat (Ab ((Ab (p15*r))+p15))) 0))) (C0 (Ko (decide (0≤(Ab ((Ab (p15*q))+p13_1)))) (decide ((Ab ((Ab (p15*q))+p13_1))<(List.length p2_1:Int)))) (C0 (Cx (decide ((Int.toNat (Ab ((Ab (p15*q))+p13_1)))<(List.length p2_1)))) rfl rfl) rfl) rfl) rfl))
theorem solve.Bx.Up.ev (N:Nat) (r c:Int) (l:List Int) (p q:Int) (m:List Int) (n:Int):Bq solve.Bx.Up.E N Tryz.f76 (An Tryz.f76) [.agg [.int .i64 r,.int .i64 c,.ints .arg .u64 l],.agg [.int .i64 p,.int .i64 q,.ints .arg .u64 m],.fn 103 [.int .i64 n] [],.fn 104 [] []]=bif (Bg r&&Bg q) then solve.Bx.Up.L0 N N r c l p q m n 0 (B7 (Int.toNat r) (Int.toNat q) (fun _ _=>0)) else none:=by kernel_rfl
abbrev _root_.Go.Proofs.S1.solve.Bx.Up.Kn:=A3 Tryz.prog 76 solve.Bx.Up.spec
theorem solve.Bx.Up.Ac (hk:Ax Tryz.prog solve.Bx.Up.A6) (h:∀ (r c:Int) (l:List Int) (p q:Int) (m:List Int) (n:Int),solve.Bx.Up.pre [.i r,.i c,.l l,.i p,.i q,.l m,.i n]=true→A8 solve.Bx.Up.E Tryz.f76 [.agg [.int .i64 r,.int .i64 c,.ints .arg .u64 l],.agg [.int .i64 p,.int .i64 q,.ints .arg .u64 m],.fn 103 [.int .i64 n] [],.fn 104 [] []] (solve.Bx.Up.out [.i r,.i c,.l l,.i p,.i q,.l m,.i n])):solve.Bx.Up.Kn :=
  Ak (Az hk _ _ _) Tryz.func76 (by kernel_rfl) (by kernel_rfl) h
def solve.Cq.A6:List (Nat × Entry):=[(75,solve.check.spec),(76,solve.Bx.Up.spec)]
def solve.Cq.E:Env:=A9 (A5 solve.Cq.A6) (fun _=>false) (fun _=>none) (fun _=>none)
theorem solve.Cq.ev (N:Nat) (r c:Int) (l:List Int) (p q:Int) (m:List Int):Bq solve.Cq.E N Tryz.f36 (An Tryz.f36) [.agg [.int .i64 r,.int .i64 c,.ints .arg .u64 l],.agg [.int .i64 p,.int .i64 q,.ints .arg .u64 m]]=bif (Ah l&&Ah m) then bif ((N9 r c l p q m) !=(0:Int)) then some (.tup [.agg [.int .i64 0,.int .i64 0,.nil],.int .i64 (N9 r c l p q m)]) else bif (Aca r c l p q m&&decide (r=r)) then some (.tup [.agg [.int .i64 ((Kj r q (upG c l q m (Int.toNat r) (Int.toNat q))).1),.int .i64 ((Kj r q (upG c l q m (Int.toNat r) (Int.toNat q))).2.1),.ints .fresh .u64 ((Kj r q (upG c l q m (Int.toNat r) (Int.toNat q))).2.2.1)],.int .i64 ((Kj r q (upG c l q m (Int.toNat r) (Int.toNat q))).2.2.2)]) else none else none:=by kernel_rfl
abbrev _root_.Go.Proofs.S1.solve.Cq.Kn:=A3 Tryz.prog 36 solve.Cq.spec
theorem solve.Cq.Ac (hk:Ax Tryz.prog solve.Cq.A6) (h:∀ (r c:Int) (l:List Int) (p q:Int) (m:List Int),solve.Cq.pre [.i r,.i c,.l l,.i p,.i q,.l m]=true→A8 solve.Cq.E Tryz.f36 [.agg [.int .i64 r,.int .i64 c,.ints .arg .u64 l],.agg [.int .i64 p,.int .i64 q,.ints .arg .u64 m]] (solve.Cq.out [.i r,.i c,.l l,.i p,.i q,.l m])):solve.Cq.Kn :=
  Ak (Az hk _ _ _) Tryz.func36 (by kernel_rfl) (by kernel_rfl) h
def solve.Flat.hint:Nat→Option Ba
  | 0=>some { keep:=[1,5,6],objs:=[(0,5,100005,.ints 37 .u64 [])],boxes:=[1] }
  | 2=>some { keep:=[7,44,45,46],objs:=[(0,44,100044,.ints 37 .u64 [])],boxes:=[] }
  | _=>none
def solve.Flat.A6:List (Nat × Entry):=[(86,Cy.Check.spec),(87,compare.Hr.spec),(90,compare.Ml.spec),(89,Ae.Bo.spec),(88,Ae.Bs.spec)]
def solve.Flat.E:Env:=A9 (A5 solve.Flat.A6) (fun _=>false) solve.Flat.hint (fun _=>none)
def solve.Flat.L0 (N M:Nat) (r c:Int) (l:List Int) (p6:Int) (p5:List Int):Option DV:=B0 solve.Flat.E N Tryz.f24 (An Tryz.f24) [1,1,1,0,1,0] [] M ⟨Gj 55 [(1,.ptr 1 0 0),(5,.oref 100005),(6,.int .i64 p6)],[(1,false,.box [.int .i64 r,.int .i64 c,.ints .arg .u64 l]),(100005,false,.ints 37 .u64 p5)]⟩
def solve.Flat.L1 (N M:Nat) (p5:List Int) (p46:Int):Option DV:=B0 solve.Flat.E N Tryz.f24 (An Tryz.f24) [1,1,1,1,1,0,1,0] [] M ⟨Gj 55 [(7,.int .u64 (By (Be p5) (-40:Int))),(44,.oref 100044),(45,.int .i64 (List.length p5:Int)),(46,.int .i64 p46)],[(100044,false,.ints 37 .u64 p5)]⟩
theorem solve.Flat.Ar (N M:Nat) (r c:Int) (l:List Int) (p6:Int) (p5:List Int):solve.Flat.L0 N (M+1) r c l p6 p5=bif ((A4 p6 r)&&(A4 p6 c)) then bif ((decide (0≤(Ab ((Ab (p6*c))+p6))))&&(decide ((Ab ((Ab (p6*c))+p6))<(List.length l:Int)))) then bif (Af (List.getD l (Int.toNat (Ab ((Ab (p6*c))+p6))) 0)) then bif (decide ((List.length p5)+1≤Gt)) then solve.Flat.L0 N M r c l (Ab (p6+1)) (p5++[(Je (List.getD l (Int.toNat (Ab ((Ab (p6*c))+p6))) 0))]) else none else none else none else bif (Cl p5) then bif (Dh (Be p5) (-40:Int)) then solve.Flat.L1 N N p5 (0:Int) else none else none :=
  Eq.trans (by kernel_rfl)
  (Av (N2 (A4 p6 r)) (Av (N2 (A4 p6 r)) (Av (Lt (A4 p6 r)) (Av (Xs (A4 p6 r)) (Av (Sr (A4 p6 r)) (C0 (tt1 (A4 p6 r) (A4 p6 c)) rfl rfl))))))
theorem solve.Flat.B9 (N M:Nat) (p5:List Int) (p46:Int):solve.Flat.L1 N (M+1) p5 p46=bif (A4 p46 (List.length p5:Int)) then bif ((decide (0≤p46))&&(decide (p46<(List.length p5:Int)))) then bif (decide ((Int.toNat p46)<(List.length p5))) then bif (Af (By (Be p5) (-40:Int))&&Af (List.getD p5 (Int.toNat p46) 0)) then bif (!(decide (Sy (By (Be p5) (-40:Int)) (List.getD p5 (Int.toNat p46) 0)<0))) then some (.tup [.bool true,.int .i64 0]) else solve.Flat.L1 N M p5 (Ab (p46+1)) else none else none else none else some (.tup [.bool false,.int .i64 0]):=by kernel_rfl
theorem solve.Flat.ev (N:Nat) (r c:Int) (l:List Int):Bq solve.Flat.E N Tryz.f24 (An Tryz.f24) [.agg [.int .i64 r,.int .i64 c,.ints .arg .u64 l]]=bif (Ah l) then bif ((Cg r c l) !=(0:Int)) then some (.tup [.bool false,.int .i64 (Cg r c l)]) else solve.Flat.L0 N N r c l 0 [] else none:=by kernel_rfl
abbrev _root_.Go.Proofs.S1.solve.Flat.Kn:=A3 Tryz.prog 24 solve.Flat.spec
theorem solve.Flat.Ac (hk:Ax Tryz.prog solve.Flat.A6) (h:∀ (r c:Int) (l:List Int),solve.Flat.pre [.i r,.i c,.l l]=true→A8 solve.Flat.E Tryz.f24 [.agg [.int .i64 r,.int .i64 c,.ints .arg .u64 l]] (solve.Flat.out [.i r,.i c,.l l])):solve.Flat.Kn :=
  Ak (Az hk _ _ _) Tryz.func24 (by kernel_rfl) (by kernel_rfl) h
end EqSol
end Go.Proofs.S1
end
