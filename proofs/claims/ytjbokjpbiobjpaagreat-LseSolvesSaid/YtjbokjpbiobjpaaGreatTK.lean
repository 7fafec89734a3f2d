/- A verified evaluator of the program's form and its use for this seat: S1POf, S1PMatA, S1EqRef10, S1PRef10, S1PFill, S1EqHouse, S1PHouse, S1PApply, S1EqSol. -/
import Derived.Test.YtjbokjpbiobjpaaGreatTI
import Derived.Test.YtjbokjpbiobjpaaGreatTJ
import Derived.Test.YtjbokjpbiobjpaaGreatTE
import Derived.Test.YtjbokjpbiobjpaaGreatTF
set_option linter.unusedVariables false
set_option linter.unusedSimpArgs false
noncomputable section
namespace Go.Proofs.S1
open Go Go.Den Go.Rnd Go.Proofs
open EqOf
theorem of.Bm.inner (N:Nat)  {A B:Nat} (hA:A≤6) (hB:B≤6) {F:Nat→Nat→Int} (hF:∀ i j:Nat,F i j=(0:Int)) {i:Nat} (hi:i<A):∀ (k j M0 M:Nat),j+k=B→k<M →
    Aa.of.Bm.L1 N M0 M (A:Int) (B:Int) (i:Int) (i:Int) (j:Int) (Bg i B F++(List.range j).map (F i))=Aa.of.Bm.L0 N M0 (A:Int) (B:Int) ((i+1:Nat):Int) (Bg (i+1) B F):=by
  intro k
  induction k with
  | zero =>
    intro j M0 M hj hM
    obtain ⟨M,rfl⟩:∃ G,M=G+1:=⟨M-1,by omega⟩
    obtain rfl:j=B:=by omega
    rw [Aa.of.Bm.B2,Aq,Azb (by omega),Aza,Am (by omega) (by omega),← K9]
    rfl
  | succ k ih =>
    intro j M0 M hj hM
    obtain ⟨M,rfl⟩:∃ G,M=G+1:=⟨M-1,by omega⟩
    have d:decide ((Bg i B F++(List.range j).map (F i)).length+1≤Gu)=true:=by
      refine Ay7 ?_
      have:=Nat.mul_le_mul (show i≤6 by omega) hB
      rw [List.length_append,Ca,List.length_map,List.length_range]; unfold Gu; omega
    rw [Aa.of.Bm.B2,Aq,Ay7 (by omega),Ay6,d,Ay6,Am (by omega) (by omega),← hF i j]
    have:=ih (j+1) M0 M (by omega) (by omega)
    rw [Hd,← List.append_assoc] at this
    exact this
theorem of.Bm.outer (N:Nat)  {A B:Nat} (hA:A≤6) (hB:B≤6) (hN:6<N) {F:Nat→Nat→Int} (hF:∀ i j:Nat,F i j=(0:Int)):∀ (k i M:Nat),i+k=A→k<M →
    Aa.of.Bm.L0 N M (A:Int) (B:Int) (i:Int) (Bg i B F)=some (.agg [.int .i64 (A:Int),.int .i64 (B:Int),.ints (.own 108002 tB) .u64 (Bg A B F)]):=by
  intro k
  induction k with
  | zero =>
    intro i M hi hM
    obtain ⟨M,rfl⟩:∃ G,M=G+1:=⟨M-1,by omega⟩
    obtain rfl:i=A:=by omega
    rw [Aa.of.Bm.Au,Aq,Azb (by omega),Aza]
  | succ k ih =>
    intro i M hi hM
    obtain ⟨M,rfl⟩:∃ G,M=G+1:=⟨M-1,by omega⟩
    have n:=of.Bm.inner N hA hB hF (show i<A by omega) B 0 M N (by omega) (by omega)
    rw [List.range_zero,List.map_nil,List.append_nil] at n
    rw [Aa.of.Bm.Au,Aq,Ay7 (by omega),Ay6]
    exact n.trans (ih (i+1) M (by omega) (by omega))
theorem of.Fc.inner (N:Nat)  {A B:Nat} (hA:A≤6) (hB:B≤6) {F:Nat→Nat→Int} (hF:∀ i j:Nat,F i j=Ns (i:Int) (j:Int)) {i:Nat} (hi:i<A):∀ (k j M0 M:Nat),j+k=B→k<M →
    Aa.of.Fc.L1 N M0 M (A:Int) (B:Int) (i:Int) (i:Int) (j:Int) (Bg i B F++(List.range j).map (F i))=Aa.of.Fc.L0 N M0 (A:Int) (B:Int) ((i+1:Nat):Int) (Bg (i+1) B F):=by
  intro k
  induction k with
  | zero =>
    intro j M0 M hj hM
    obtain ⟨M,rfl⟩:∃ G,M=G+1:=⟨M-1,by omega⟩
    obtain rfl:j=B:=by omega
    rw [Aa.of.Fc.B2,Aq,Azb (by omega),Aza,Am (by omega) (by omega),← K9]
    rfl
  | succ k ih =>
    intro j M0 M hj hM
    obtain ⟨M,rfl⟩:∃ G,M=G+1:=⟨M-1,by omega⟩
    have d:decide ((Bg i B F++(List.range j).map (F i)).length+1≤Gu)=true:=by
      refine Ay7 ?_
      have:=Nat.mul_le_mul (show i≤6 by omega) hB
      rw [List.length_append,Ca,List.length_map,List.length_range]; unfold Gu; omega
    rw [Aa.of.Fc.B2,Aq,Ay7 (by omega),Ay6,d,Ay6,Am (by omega) (by omega),← hF i j]
    have:=ih (j+1) M0 M (by omega) (by omega)
    rw [Hd,← List.append_assoc] at this
    exact this
theorem of.Fc.outer (N:Nat)  {A B:Nat} (hA:A≤6) (hB:B≤6) (hN:6<N) {F:Nat→Nat→Int} (hF:∀ i j:Nat,F i j=Ns (i:Int) (j:Int)):∀ (k i M:Nat),i+k=A→k<M →
    Aa.of.Fc.L0 N M (A:Int) (B:Int) (i:Int) (Bg i B F)=some (.agg [.int .i64 (A:Int),.int .i64 (B:Int),.ints (.own 108002 tB) .u64 (Bg A B F)]):=by
  intro k
  induction k with
  | zero =>
    intro i M hi hM
    obtain ⟨M,rfl⟩:∃ G,M=G+1:=⟨M-1,by omega⟩
    obtain rfl:i=A:=by omega
    rw [Aa.of.Fc.Au,Aq,Azb (by omega),Aza]
  | succ k ih =>
    intro i M hi hM
    obtain ⟨M,rfl⟩:∃ G,M=G+1:=⟨M-1,by omega⟩
    have n:=of.Fc.inner N hA hB hF (show i<A by omega) B 0 M N (by omega) (by omega)
    rw [List.range_zero,List.map_nil,List.append_nil] at n
    rw [Aa.of.Fc.Au,Aq,Ay7 (by omega),Ay6]
    exact n.trans (ih (i+1) M (by omega) (by omega))
theorem Aa.of.Fc.known:Aa.of.Fc.Kn:=Aa.of.Fc.Ac (.cons Aa.Iw.known .nil) fun a b hp=>by
  have h1:(Bn a&&Bn b)=true:=hp
  obtain ⟨ha,hb⟩:=Ad.1 h1
  obtain ⟨A,rfl,hA⟩:=Et ha
  obtain ⟨B,rfl,hB⟩:=Et hb
  refine ⟨8,.agg [.int .i64 (A:Int),.int .i64 (B:Int),.ints (.own 108002 tB) .u64 (Bg A B fun (i j:Nat)=>Ns (i:Int) (j:Int))],[108002],?_,Wk.G2 (.cons .int (.cons .int (.cons (.drop _ _ _ _ (List.mem_singleton.2 rfl)) .nil)))⟩
  rw [Aa.of.Fc.ev]
  have n:=of.Fc.outer 8 hA hB (by omega) (F:=fun (i j:Nat)=>Ns (i:Int) (j:Int)) (fun _ _=>rfl) A 0 8 (by omega) (by omega)
  rw [K8] at n
  exact n
theorem of.Co.inner (N:Nat) (r c:Int) (l:List Int) {A B:Nat} (hA:A≤6) (hB:B≤6) {F:Nat→Nat→Int} (hF:∀ i j:Nat,F i j=Cj c l (j:Int) (i:Int)) {i:Nat} (hi:i<A) (hp:∀ j:Nat,j<B→Cd r c l (j:Int) (i:Int)=true):∀ (k j M0 M:Nat),j+k=B→k<M →
    Aa.of.Co.L1 N M0 M (A:Int) (B:Int) r c l (i:Int) (i:Int) (j:Int) (Bg i B F++(List.range j).map (F i))=Aa.of.Co.L0 N M0 (A:Int) (B:Int) r c l ((i+1:Nat):Int) (Bg (i+1) B F):=by
  intro k
  induction k with
  | zero =>
    intro j M0 M hj hM
    obtain ⟨M,rfl⟩:∃ G,M=G+1:=⟨M-1,by omega⟩
    obtain rfl:j=B:=by omega
    rw [Aa.of.Co.B2,Aq,Azb (by omega),Aza,Am (by omega) (by omega),← K9]
    rfl
  | succ k ih =>
    intro j M0 M hj hM
    obtain ⟨M,rfl⟩:∃ G,M=G+1:=⟨M-1,by omega⟩
    have d:decide ((Bg i B F++(List.range j).map (F i)).length+1≤Gu)=true:=by
      refine Ay7 ?_
      have:=Nat.mul_le_mul (show i≤6 by omega) hB
      rw [List.length_append,Ca,List.length_map,List.length_range]; unfold Gu; omega
    rw [Aa.of.Co.B2,Aq,Ay7 (by omega),Ay6,hp j (by omega),Ay6,d,Ay6,Am (by omega) (by omega),← hF i j]
    have:=ih (j+1) M0 M (by omega) (by omega)
    rw [Hd,← List.append_assoc] at this
    exact this
theorem of.Co.outer (N:Nat) (r c:Int) (l:List Int) {A B:Nat} (hA:A≤6) (hB:B≤6) (hN:6<N) {F:Nat→Nat→Int} (hF:∀ i j:Nat,F i j=Cj c l (j:Int) (i:Int)) (hp:∀ i j:Nat,i<A→j<B→Cd r c l (j:Int) (i:Int)=true):∀ (k i M:Nat),i+k=A→k<M →
    Aa.of.Co.L0 N M (A:Int) (B:Int) r c l (i:Int) (Bg i B F)=some (.agg [.int .i64 (A:Int),.int .i64 (B:Int),.ints (.own 108002 tB) .u64 (Bg A B F)]):=by
  intro k
  induction k with
  | zero =>
    intro i M hi hM
    obtain ⟨M,rfl⟩:∃ G,M=G+1:=⟨M-1,by omega⟩
    obtain rfl:i=A:=by omega
    rw [Aa.of.Co.Au,Aq,Azb (by omega),Aza]
  | succ k ih =>
    intro i M hi hM
    obtain ⟨M,rfl⟩:∃ G,M=G+1:=⟨M-1,by omega⟩
    have n:=of.Co.inner N r c l hA hB hF (show i<A by omega) (fun j hj=>hp i j (by omega) hj) B 0 M N (by omega) (by omega)
    rw [List.range_zero,List.map_nil,List.append_nil] at n
    rw [Aa.of.Co.Au,Aq,Ay7 (by omega),Ay6]
    exact n.trans (ih (i+1) M (by omega) (by omega))
theorem Aa.of.Co.known:Aa.of.Co.Kn:=Aa.of.Co.Ac (.cons Aa.Gc.known .nil) fun a b r c l hp=>by
  obtain ⟨h12,hy⟩:=Ad.1 (show (((Bn a&&Bn b)&&Av r c l)&&decide (a=c∧b=r))=true from hp)
  obtain ⟨h1,hx⟩:=Ad.1 h12
  have h2:=Ad.2 ⟨hx,hy⟩
  obtain ⟨ha,hb⟩:=Ad.1 h1
  obtain ⟨A,rfl,hA⟩:=Et ha
  obtain ⟨B,rfl,hB⟩:=Et hb
  obtain ⟨hr,he⟩:=Ad.1 h2
  obtain ⟨e1,e2⟩:=of_decide_eq_true he
  have hp:∀ i j:Nat,i<A→j<B→Cd r c l (j:Int) (i:Int)=true:=fun i j hi hj=>I9 hr (by omega) (by omega) (by omega) (by omega) r
  refine ⟨8,.agg [.int .i64 (A:Int),.int .i64 (B:Int),.ints (.own 108002 tB) .u64 (Bg A B fun (i j:Nat)=>Cj c l (j:Int) (i:Int))],[108002],?_,Wk.G2 (.cons .int (.cons .int (.cons (.drop _ _ _ _ (List.mem_singleton.2 rfl)) .nil)))⟩
  rw [Aa.of.Co.ev]
  have n:=of.Co.outer 8 r c l hA hB (by omega) (F:=fun (i j:Nat)=>Cj c l (j:Int) (i:Int)) (fun _ _=>rfl) hp A 0 8 (by omega) (by omega)
  rw [K8] at n
  exact n
theorem of.Part.inner (N:Nat) (r c:Int) (l:List Int) (x y:Int) {A B:Nat} (hA:A≤6) (hB:B≤6) {F:Nat→Nat→Int} (hF:∀ i j:Nat,F i j=Cj c l (x+(i:Int)) (y+(j:Int))) {i:Nat} (hi:i<A) (hp:∀ j:Nat,j<B→(Cd r c l (x+(i:Int)) (y+(j:Int))&&Vs x y (i:Int) (j:Int))=true):∀ (k j M0 M:Nat),j+k=B→k<M →
    Aa.of.Part.L1 N M0 M (A:Int) (B:Int) r c l x y (i:Int) (i:Int) (j:Int) (Bg i B F++(List.range j).map (F i))=Aa.of.Part.L0 N M0 (A:Int) (B:Int) r c l x y ((i+1:Nat):Int) (Bg (i+1) B F):=by
  intro k
  induction k with
  | zero =>
    intro j M0 M hj hM
    obtain ⟨M,rfl⟩:∃ G,M=G+1:=⟨M-1,by omega⟩
    obtain rfl:j=B:=by omega
    rw [Aa.of.Part.B2,Aq,Azb (by omega),Aza,Am (by omega) (by omega),← K9]
    rfl
  | succ k ih =>
    intro j M0 M hj hM
    obtain ⟨M,rfl⟩:∃ G,M=G+1:=⟨M-1,by omega⟩
    have d:decide ((Bg i B F++(List.range j).map (F i)).length+1≤Gu)=true:=by
      refine Ay7 ?_
      have:=Nat.mul_le_mul (show i≤6 by omega) hB
      rw [List.length_append,Ca,List.length_map,List.length_range]; unfold Gu; omega
    rw [Aa.of.Part.B2,Aq,Ay7 (by omega),Ay6,hp j (by omega),Ay6,d,Ay6,Am (by omega) (by omega),← hF i j]
    have:=ih (j+1) M0 M (by omega) (by omega)
    rw [Hd,← List.append_assoc] at this
    exact this
theorem of.Part.outer (N:Nat) (r c:Int) (l:List Int) (x y:Int) {A B:Nat} (hA:A≤6) (hB:B≤6) (hN:6<N) {F:Nat→Nat→Int} (hF:∀ i j:Nat,F i j=Cj c l (x+(i:Int)) (y+(j:Int))) (hp:∀ i j:Nat,i<A→j<B→(Cd r c l (x+(i:Int)) (y+(j:Int))&&Vs x y (i:Int) (j:Int))=true):∀ (k i M:Nat),i+k=A→k<M →
    Aa.of.Part.L0 N M (A:Int) (B:Int) r c l x y (i:Int) (Bg i B F)=some (.agg [.int .i64 (A:Int),.int .i64 (B:Int),.ints (.own 108002 tB) .u64 (Bg A B F)]):=by
  intro k
  induction k with
  | zero =>
    intro i M hi hM
    obtain ⟨M,rfl⟩:∃ G,M=G+1:=⟨M-1,by omega⟩
    obtain rfl:i=A:=by omega
    rw [Aa.of.Part.Au,Aq,Azb (by omega),Aza]
  | succ k ih =>
    intro i M hi hM
    obtain ⟨M,rfl⟩:∃ G,M=G+1:=⟨M-1,by omega⟩
    have n:=of.Part.inner N r c l x y hA hB hF (show i<A by omega) (fun j hj=>hp i j (by omega) hj) B 0 M N (by omega) (by omega)
    rw [List.range_zero,List.map_nil,List.append_nil] at n
    rw [Aa.of.Part.Au,Aq,Ay7 (by omega),Ay6]
    exact n.trans (ih (i+1) M (by omega) (by omega))
theorem Aa.of.Part.known:Aa.of.Part.Kn:=Aa.of.Part.Ac (.cons Aa.Ge.known .nil) fun a b r c l x y hp=>by
  obtain ⟨h12,hy⟩:=Ad.1 (show (((Bn a&&Bn b)&&Av r c l)&&Gk r c x y a b)=true from hp)
  obtain ⟨h1,hx⟩:=Ad.1 h12
  have h2:=Ad.2 ⟨hx,hy⟩
  obtain ⟨ha,hb⟩:=Ad.1 h1
  obtain ⟨A,rfl,hA⟩:=Et ha
  obtain ⟨B,rfl,hB⟩:=Et hb
  obtain ⟨hr,he⟩:=Ad.1 h2
  have he:=of_decide_eq_true he
  have hs:=He.1 hr
  have hp:∀ i j:Nat,i<A→j<B→(Cd r c l (x+(i:Int)) (y+(j:Int))&&Vs x y (i:Int) (j:Int))=true:=fun i j hi hj =>
    Ad.2 ⟨I9 hr (by omega) (by omega) (by omega) (by omega) r,Aw.2 (by omega)⟩
  refine ⟨8,.agg [.int .i64 (A:Int),.int .i64 (B:Int),.ints (.own 108002 tB) .u64 (Bg A B fun (i j:Nat)=>Cj c l (x+(i:Int)) (y+(j:Int)))],[108002],?_,Wk.G2 (.cons .int (.cons .int (.cons (.drop _ _ _ _ (List.mem_singleton.2 rfl)) .nil)))⟩
  rw [Aa.of.Part.ev]
  have n:=of.Part.outer 8 r c l x y hA hB (by omega) (F:=fun (i j:Nat)=>Cj c l (x+(i:Int)) (y+(j:Int))) (fun _ _=>rfl) hp A 0 8 (by omega) (by omega)
  rw [K8] at n
  exact n
theorem of.Stack.inner (N:Nat) (r c:Int) (l:List Int) (p q:Int) (m:List Int) {A B:Nat} (hA:A≤6) (hB:B≤6) {F:Nat→Nat→Int} (hF:∀ i j:Nat,F i j=Jm r c l q m (i:Int) (j:Int)) {i:Nat} (hi:i<A) (hp:∀ j:Nat,j<B→M9 r c l p q m (i:Int) (j:Int)=true):∀ (k j M0 M:Nat),j+k=B→k<M →
    Aa.of.Stack.L1 N M0 M (A:Int) (B:Int) r c l p q m (i:Int) (i:Int) (j:Int) (Bg i B F++(List.range j).map (F i))=Aa.of.Stack.L0 N M0 (A:Int) (B:Int) r c l p q m ((i+1:Nat):Int) (Bg (i+1) B F):=by
  intro k
  induction k with
  | zero =>
    intro j M0 M hj hM
    obtain ⟨M,rfl⟩:∃ G,M=G+1:=⟨M-1,by omega⟩
    obtain rfl:j=B:=by omega
    rw [Aa.of.Stack.B2,Aq,Azb (by omega),Aza,Am (by omega) (by omega),← K9]
    rfl
  | succ k ih =>
    intro j M0 M hj hM
    obtain ⟨M,rfl⟩:∃ G,M=G+1:=⟨M-1,by omega⟩
    have d:decide ((Bg i B F++(List.range j).map (F i)).length+1≤Gu)=true:=by
      refine Ay7 ?_
      have:=Nat.mul_le_mul (show i≤6 by omega) hB
      rw [List.length_append,Ca,List.length_map,List.length_range]; unfold Gu; omega
    rw [Aa.of.Stack.B2,Aq,Ay7 (by omega),Ay6,hp j (by omega),Ay6,d,Ay6,Am (by omega) (by omega),← hF i j]
    have:=ih (j+1) M0 M (by omega) (by omega)
    rw [Hd,← List.append_assoc] at this
    exact this
theorem of.Stack.outer (N:Nat) (r c:Int) (l:List Int) (p q:Int) (m:List Int) {A B:Nat} (hA:A≤6) (hB:B≤6) (hN:6<N) {F:Nat→Nat→Int} (hF:∀ i j:Nat,F i j=Jm r c l q m (i:Int) (j:Int)) (hp:∀ i j:Nat,i<A→j<B→M9 r c l p q m (i:Int) (j:Int)=true):∀ (k i M:Nat),i+k=A→k<M →
    Aa.of.Stack.L0 N M (A:Int) (B:Int) r c l p q m (i:Int) (Bg i B F)=some (.agg [.int .i64 (A:Int),.int .i64 (B:Int),.ints (.own 108002 tB) .u64 (Bg A B F)]):=by
  intro k
  induction k with
  | zero =>
    intro i M hi hM
    obtain ⟨M,rfl⟩:∃ G,M=G+1:=⟨M-1,by omega⟩
    obtain rfl:i=A:=by omega
    rw [Aa.of.Stack.Au,Aq,Azb (by omega),Aza]
  | succ k ih =>
    intro i M hi hM
    obtain ⟨M,rfl⟩:∃ G,M=G+1:=⟨M-1,by omega⟩
    have n:=of.Stack.inner N r c l p q m hA hB hF (show i<A by omega) (fun j hj=>hp i j (by omega) hj) B 0 M N (by omega) (by omega)
    rw [List.range_zero,List.map_nil,List.append_nil] at n
    rw [Aa.of.Stack.Au,Aq,Ay7 (by omega),Ay6]
    exact n.trans (ih (i+1) M (by omega) (by omega))
theorem Aa.of.Stack.known:Aa.of.Stack.Kn:=Aa.of.Stack.Ac (.cons Aa.E7.known .nil) fun a b r c l p q m hp=>by
  obtain ⟨h12,hy⟩:=Ad.1 (show (((Bn a&&Bn b)&&(Av r c l&&Av p q m))&&decide (a=r+p∧b=c∧q=c))=true from hp)
  obtain ⟨h1,hx⟩:=Ad.1 h12
  have h2:=Ad.2 ⟨hx,hy⟩
  obtain ⟨ha,hb⟩:=Ad.1 h1
  obtain ⟨A,rfl,hA⟩:=Et ha
  obtain ⟨B,rfl,hB⟩:=Et hb
  obtain ⟨h3,he⟩:=Ad.1 h2
  obtain ⟨hr,hm⟩:=Ad.1 h3
  obtain ⟨e1,e2,e3⟩:=of_decide_eq_true he
  have hs:=He.1 hr
  have hp:∀ i j:Nat,i<A→j<B→M9 r c l p q m (i:Int) (j:Int)=true:=fun i j hi hj=>by
    refine Aw.2 ⟨by omega,by omega,by omega,by omega,?_⟩
    by_cases h:(i:Int)<r
    · rw [if_pos h]; exact I9 hr (by omega) (by omega) (by omega) (by omega) r
    · rw [if_neg h]; exact I9 hm (by omega) (by omega) (by omega) (by omega) p
  refine ⟨8,.agg [.int .i64 (A:Int),.int .i64 (B:Int),.ints (.own 108002 tB) .u64 (Bg A B fun (i j:Nat)=>Jm r c l q m (i:Int) (j:Int))],[108002],?_,Wk.G2 (.cons .int (.cons .int (.cons (.drop _ _ _ _ (List.mem_singleton.2 rfl)) .nil)))⟩
  rw [Aa.of.Stack.ev]
  have n:=of.Stack.outer 8 r c l p q m hA hB (by omega) (F:=fun (i j:Nat)=>Jm r c l q m (i:Int) (j:Int)) (fun _ _=>rfl) hp A 0 8 (by omega) (by omega)
  rw [K8] at n
  exact n
theorem of.Mul.inner (N:Nat) (r c:Int) (l:List Int) (p q:Int) (m:List Int) {A B:Nat} (hA:A≤6) (hB:B≤6) {F:Nat→Nat→Int} (hF:∀ i j:Nat,F i j=G1 (Fw c l (i:Int)) (Hk p q m (j:Int))) {i:Nat} (hi:i<A) (hp:∀ j:Nat,j<B→Tc r c l p q m (i:Int) (j:Int)=true):∀ (k j M0 M:Nat),j+k=B→k<M →
    Aa.of.Mul.L1 N M0 M (A:Int) (B:Int) r c l p q m (i:Int) (i:Int) (j:Int) (Bg i B F++(List.range j).map (F i))=Aa.of.Mul.L0 N M0 (A:Int) (B:Int) r c l p q m ((i+1:Nat):Int) (Bg (i+1) B F):=by
  intro k
  induction k with
  | zero =>
    intro j M0 M hj hM
    obtain ⟨M,rfl⟩:∃ G,M=G+1:=⟨M-1,by omega⟩
    obtain rfl:j=B:=by omega
    rw [Aa.of.Mul.B2,Aq,Azb (by omega),Aza,Am (by omega) (by omega),← K9]
    rfl
  | succ k ih =>
    intro j M0 M hj hM
    obtain ⟨M,rfl⟩:∃ G,M=G+1:=⟨M-1,by omega⟩
    have d:decide ((Bg i B F++(List.range j).map (F i)).length+1≤Gu)=true:=by
      refine Ay7 ?_
      have:=Nat.mul_le_mul (show i≤6 by omega) hB
      rw [List.length_append,Ca,List.length_map,List.length_range]; unfold Gu; omega
    rw [Aa.of.Mul.B2,Aq,Ay7 (by omega),Ay6,hp j (by omega),Ay6,d,Ay6,Am (by omega) (by omega),← hF i j]
    have:=ih (j+1) M0 M (by omega) (by omega)
    rw [Hd,← List.append_assoc] at this
    exact this
theorem of.Mul.outer (N:Nat) (r c:Int) (l:List Int) (p q:Int) (m:List Int) {A B:Nat} (hA:A≤6) (hB:B≤6) (hN:6<N) {F:Nat→Nat→Int} (hF:∀ i j:Nat,F i j=G1 (Fw c l (i:Int)) (Hk p q m (j:Int))) (hp:∀ i j:Nat,i<A→j<B→Tc r c l p q m (i:Int) (j:Int)=true):∀ (k i M:Nat),i+k=A→k<M →
    Aa.of.Mul.L0 N M (A:Int) (B:Int) r c l p q m (i:Int) (Bg i B F)=some (.agg [.int .i64 (A:Int),.int .i64 (B:Int),.ints (.own 108002 tB) .u64 (Bg A B F)]):=by
  intro k
  induction k with
  | zero =>
    intro i M hi hM
    obtain ⟨M,rfl⟩:∃ G,M=G+1:=⟨M-1,by omega⟩
    obtain rfl:i=A:=by omega
    rw [Aa.of.Mul.Au,Aq,Azb (by omega),Aza]
  | succ k ih =>
    intro i M hi hM
    obtain ⟨M,rfl⟩:∃ G,M=G+1:=⟨M-1,by omega⟩
    have n:=of.Mul.inner N r c l p q m hA hB hF (show i<A by omega) (fun j hj=>hp i j (by omega) hj) B 0 M N (by omega) (by omega)
    rw [List.range_zero,List.map_nil,List.append_nil] at n
    rw [Aa.of.Mul.Au,Aq,Ay7 (by omega),Ay6]
    exact n.trans (ih (i+1) M (by omega) (by omega))
theorem Aa.of.Mul.known:Aa.of.Mul.Kn:=Aa.of.Mul.Ac (.cons Aa.Is.known .nil) fun a b r c l p q m hp=>by
  obtain ⟨h12,hy⟩:=Ad.1 (show (((Bn a&&Bn b)&&((Av r c l&&Av p q m)&&(Ae l&&Ae m)))&&decide (a=r∧b=q∧c=p))=true from hp)
  obtain ⟨h1,hx⟩:=Ad.1 h12
  have h2:=Ad.2 ⟨hx,hy⟩
  obtain ⟨ha,hb⟩:=Ad.1 h1
  obtain ⟨A,rfl,hA⟩:=Et ha
  obtain ⟨B,rfl,hB⟩:=Et hb
  obtain ⟨h3,he⟩:=Ad.1 h2
  obtain ⟨h4,h5⟩:=Ad.1 h3
  obtain ⟨hr,hm⟩:=Ad.1 h4
  obtain ⟨e1,e2,e3⟩:=of_decide_eq_true he
  have hp:∀ i j:Nat,i<A→j<B→Tc r c l p q m (i:Int) (j:Int)=true:=fun i j hi hj =>
    Ad.2 ⟨Ad.2 ⟨Ad.2 ⟨hr,Aw.2 (by omega)⟩,Ad.2 ⟨hm,Aw.2 (by omega)⟩⟩,Ad.2 ⟨h5,Aw.2 e3⟩⟩
  refine ⟨8,.agg [.int .i64 (A:Int),.int .i64 (B:Int),.ints (.own 108002 tB) .u64 (Bg A B fun (i j:Nat)=>G1 (Fw c l (i:Int)) (Hk p q m (j:Int)))],[108002],?_,Wk.G2 (.cons .int (.cons .int (.cons (.drop _ _ _ _ (List.mem_singleton.2 rfl)) .nil)))⟩
  rw [Aa.of.Mul.ev]
  have n:=of.Mul.outer 8 r c l p q m hA hB (by omega) (F:=fun (i j:Nat)=>G1 (Fw c l (i:Int)) (Hk p q m (j:Int))) (fun _ _=>rfl) hp A 0 8 (by omega) (by omega)
  rw [K8] at n
  exact n
open EqOf
def S9 (x:MX):DV:=.tup [.agg [.int .i64 x.1,.int .i64 x.2.1,.ints .fresh .u64 x.2.2.1],.int .i64 x.2.2.2]
def Ahu (e:Int):DV:=.tup [.agg [.int .i64 0,.int .i64 0,.nil],.int .i64 e]
theorem Oa {drops:List Nat} {x:MX}:Wk drops (S9 x) (S9 x) :=
  Wk.G6 (.cons (Wk.G2 (.cons .int (.cons .int (.cons .P2 .nil)))) (.cons .int .nil))
theorem Jo {drops:List Nat} {e:Int}:Wk drops (Ahu e) (S9 (Ij e)) :=
  Wk.G6 (.cons (Wk.G2 (.cons .int (.cons .int (.cons (.nil _ _) .nil)))) (.cons .int .nil))
theorem Aa.Fc.known:Aa.Fc.Kn:=Aa.Fc.Ac (.cons Aa.of.Fc.known (.cons Aa.size.known .nil)) fun n _=>by
  show ∃ N dv drops,_=some dv∧Wk drops dv (S9 (Ni n))
  unfold Ni
  by_cases h:Bn n=true
  · rw [if_pos h]
    exact ⟨0,_,[],by rw [Aa.Fc.ev,h]; rfl,Oa⟩
  · have e:Bn n=false:=by simpa using h
    rw [if_neg h]
    exact ⟨0,_,[],by rw [Aa.Fc.ev,e]; rfl,Jo⟩
theorem E1 {r c:Int} {l:List Int} (h:Av r c l=true):Bn r=true∧Bn c=true:=by
  obtain ⟨h1,h2,_⟩:=He.1 h
  exact ⟨I1.2 h1,I1.2 h2⟩
theorem Aa.Co.known:Aa.Co.Kn:=Aa.Co.Ac (.cons Aa.Check.known (.cons Aa.of.Co.known .nil)) fun r c l _=>by
  show ∃ N dv drops,_=some dv∧Wk drops dv (S9 (Cx r c l))
  unfold Cx
  by_cases h:Av r c l=true
  · obtain ⟨h1,h2⟩:=E1 h
    rw [if_pos h]
    exact ⟨0,_,[],by rw [Aa.Co.ev,Tn,h,h1,h2,Ay7 ⟨rfl,rfl⟩]; rfl,Oa⟩
  · have e:Av r c l=false:=by simpa using h
    have ec:La r c l=1:=by unfold La; rw [e]; rfl
    rw [if_neg h]
    exact ⟨0,_,[],by rw [Aa.Co.ev,Tn,e,ec]; rfl,Jo⟩
theorem Aa3 {r c x y a b:Int} (hr:0≤r∧r≤6) (hc:0≤c∧c≤6) :
    ((((((((A6 x (0:Int))||(A6 y (0:Int)))||(A6 a (0:Int)))||(A6 b (0:Int)))||(A6 r x))||(A6 c y))||(A6 (Ab (r-x)) a))||(A6 (Ab (c-y)) b))=!(Gk r c x y a b):=by
  unfold Gk
  simp only [Aq]
  by_cases h:0≤x∧0≤y∧x≤r∧y≤c
  · rw [Am (x:=r-x) (by omega) (by omega),Am (x:=c-y) (by omega) (by omega),Azm]
    simp only [Bool.or_eq_true,Azd,Bool.not_eq_true',Azp]
    omega
  · have e:decide (0≤x∧0≤y∧0≤a∧0≤b∧x≤r∧y≤c∧a≤r-x∧b≤c-y)=false:=Azb (by omega)
    rw [e,Azm]
    simp only [Bool.or_eq_true,Azd,Bool.not_false,iff_true]
    omega
theorem Yh {r c x y a b:Int} {l:List Int} (h:Av r c l=true) (hp:Gk r c x y a b=true):Bn a=true∧Bn b=true:=by
  obtain ⟨h1,h2,_⟩:=He.1 h
  have:=of_decide_eq_true hp
  exact ⟨I1.2 (by omega),I1.2 (by omega)⟩
theorem Aa.Part.known:Aa.Part.Kn:=Aa.Part.Ac (.cons Aa.Check.known (.cons Aa.of.Part.known .nil)) fun r c l x y a b _=>by
  show ∃ N dv drops,_=some dv∧Wk drops dv (S9 (F4 r c l x y a b))
  unfold F4
  by_cases h:Av r c l=true
  · obtain ⟨h1,h2,_⟩:=He.1 h
    by_cases hp:Gk r c x y a b=true
    · obtain ⟨s1,s2⟩:=Yh h hp
      rw [if_pos h,if_pos hp]
      exact ⟨0,_,[],by rw [Aa.Part.ev,Tn,Aa3 h1 h2,h,hp,s1,s2]; rfl,Oa⟩
    · have e:Gk r c x y a b=false:=by simpa using hp
      rw [if_pos h,if_neg hp]
      exact ⟨0,_,[],by rw [Aa.Part.ev,Tn,Aa3 h1 h2,h,e]; rfl,Jo⟩
  · have e:Av r c l=false:=by simpa using h
    have ec:La r c l=1:=by unfold La; rw [e]; rfl
    rw [if_neg h]
    exact ⟨0,_,[],by rw [Aa.Part.ev,Tn,e,ec]; rfl,Jo⟩
theorem Pj (r c:Int) (l:List Int) (p q:Int) (m:List Int):((Vl r c l p q m) !=(0:Int))=!(Av r c l&&Av p q m):=by
  unfold Vl
  cases Av r c l&&Av p q m<;>rfl
theorem Ag9 {r c:Int} {l:List Int} {p q:Int} {m:List Int} (h:(Av r c l&&Av p q m)=false):Vl r c l p q m=1:=by
  unfold Vl; rw [h]; rfl
theorem Aa.Mul.known:Aa.Mul.Kn:=Aa.Mul.Ac (.cons Aa.of.Mul.known (.cons Aa.two.known .nil)) fun r c l p q m hp=>by
  show ∃ N dv drops,_=some dv∧Wk drops dv (S9 (Fa r c l p q m))
  unfold Fa
  have hp:(Ae l&&Ae m)=true:=hp
  by_cases h:(Av r c l&&Av p q m)=true
  · obtain ⟨h1,h2⟩:=Ad.1 h
    by_cases hc:c=p
    · have e:(c !=p)=false:=by rw [hc]; simp
      rw [if_pos h,if_pos hc]
      exact ⟨0,_,[],by rw [Aa.Mul.ev,Pj,h,e,(E1 h1).1,(E1 h2).2,hp,Ay7 ⟨rfl,rfl,hc⟩]; rfl,Oa⟩
    · have e:(c !=p)=true:=by simpa using hc
      rw [if_pos h,if_neg hc]
      exact ⟨0,_,[],by rw [Aa.Mul.ev,Pj,h,e]; rfl,Jo⟩
  · have e:(Av r c l&&Av p q m)=false:=by simpa using h
    rw [if_neg h]
    exact ⟨0,_,[],by rw [Aa.Mul.ev,Pj,e,Ag9 e]; rfl,Jo⟩
theorem Aa.Stack.known:Aa.Stack.Kn:=Aa.Stack.Ac (.cons Aa.of.Stack.known (.cons Aa.two.known .nil)) fun r c l p q m _=>by
  show ∃ N dv drops,_=some dv∧Wk drops dv (S9 (Ch r c l p q m))
  unfold Ch
  by_cases h:(Av r c l&&Av p q m)=true
  · obtain ⟨h1,h2⟩:=Ad.1 h
    obtain ⟨r1,c1,_⟩:=He.1 h1
    obtain ⟨p1,q1,_⟩:=He.1 h2
    have ew:Ab (r+p)=r+p:=Am (by omega) (by omega)
    by_cases hc:c=q∧r+p≤6
    · have e:((c !=q)||(A6 (6:Int) (r+p)))=false:=by rw [Aq,hc.1]; simp; omega
      rw [if_pos h,if_pos hc]
      exact ⟨0,_,[],by rw [Aa.Stack.ev,ew,Pj,h,e,(E1 h1).2,I1.2 (show 0≤r+p∧r+p≤6 by omega),Ay7 ⟨rfl,rfl,hc.1.symm⟩]; rfl,Oa⟩
    · have e:((c !=q)||(A6 (6:Int) (r+p)))=true:=by rw [Aq]; simp; omega
      rw [if_pos h,if_neg hc]
      exact ⟨0,_,[],by rw [Aa.Stack.ev,ew,Pj,h,e]; rfl,Jo⟩
  · have e:(Av r c l&&Av p q m)=false:=by simpa using h
    rw [if_neg h]
    exact ⟨0,_,[],by rw [Aa.Stack.ev,Pj,e,Ag9 e]; rfl,Jo⟩
set_option maxRecDepth 100000
namespace EqRef10
def Af.Ir.A8:List (Nat × Entry):=[]
def Af.Ir.E:Env:=A9 (A7 Af.Ir.A8) (fun _=>false) (fun _=>none) (fun _=>none)
theorem Af.Ir.ev (N:Nat) (r c:Int) (l:List Int):Bp Af.Ir.E N Tryz.f91 (Al Tryz.f91) [.agg [.int .i64 r,.int .i64 c,.ints .arg .u64 l]]=some (.bool (bif (bif (bif (bif (Ep 0 r) then (Ep r 6) else false) then (Ep 0 c) else false) then (Ep c 6) else false) then ((List.length l:Int)==(Ab (r*c))) else false)) :=
  Eq.trans (by kernel_rfl)
  (Ar (On (Ep 0 r)) (Ar (Mb (Ep 0 r)) (Ar (Mb (Ep 0 r)) (Ar (Tw (Ep 0 r)) (Ar (Anj (Ep 0 r) (Ep r 6)) (Ar (Ahb (Ep 0 r) (Ep r 6)) (Ar (Ahb (Ep 0 r) (Ep r 6)) (Ar (Aq3 (Ep 0 r) (Ep r 6)) (Ar (Ax8 (Ep 0 r) (Ep r 6) (Ep 0 c)) (Ar (Av9 (Ep 0 r) (Ep r 6) (Ep 0 c)) (Ar (Av9 (Ep 0 r) (Ep r 6) (Ep 0 c)) (Ar (Ax9 (Ep 0 r) (Ep r 6) (Ep 0 c)) (Ar (At6 (Ep 0 r) (Ep r 6) (Ep 0 c) (Ep c 6)) (Ar (Aq4 (Ep 0 r) (Ep r 6) (Ep 0 c) (Ep c 6)) (Ar (Aq4 (Ep 0 r) (Ep r 6) (Ep 0 c) (Ep c 6)) (Ar (At6 (Ep 0 r) (Ep r 6) (Ep 0 c) (Ep c 6)) (Ar (Aq4 (Ep 0 r) (Ep r 6) (Ep 0 c) (Ep c 6)) (Ar (At6 (Ep 0 r) (Ep r 6) (Ep 0 c) (Ep c 6)) (Ar (Aq4 (Ep 0 r) (Ep r 6) (Ep 0 c) (Ep c 6)) (Ar (Awa (Ep 0 r) (Ep r 6) (Ep 0 c) (Ep c 6)) (Ar (Awa (Ep 0 r) (Ep r 6) (Ep 0 c) (Ep c 6)) (Ar (Aya (Ep 0 r) (Ep r 6) (Ep 0 c) (Ep c 6)) rfl))))))))))))))))))))))
abbrev _root_.Go.Proofs.S1.Af.Ir.Kn:=A5 Tryz.prog 91 Af.Ir.spec
theorem Af.Ir.Ac (hk:Ay Tryz.prog Af.Ir.A8) (h:∀ (r c:Int) (l:List Int),Af.Ir.pre [.i r,.i c,.l l]=true→Ba Af.Ir.E Tryz.f91 [.agg [.int .i64 r,.int .i64 c,.ints .arg .u64 l]] (Af.Ir.out [.i r,.i c,.l l])):Af.Ir.Kn :=
  Aj (A1 hk _ _ _) Tryz.func91 (by kernel_rfl) (by kernel_rfl) h
def Af.At.A8:List (Nat × Entry):=[]
def Af.At.E:Env:=A9 (A7 Af.At.A8) (fun _=>false) (fun _=>none) (fun _=>none)
theorem Af.At.ev (N:Nat) (r c:Int) (l:List Int) (i k:Int):Bp Af.At.E N Tryz.f80 (Al Tryz.f80) [.agg [.int .i64 r,.int .i64 c,.ints .arg .u64 l],.int .i64 i,.int .i64 k]=bif ((decide (0≤(Ab ((Ab (i*c))+k))))&&(decide ((Ab ((Ab (i*c))+k))<(List.length l:Int)))) then some (.int .u64 (List.getD l (Int.toNat (Ab ((Ab (i*c))+k))) 0)) else none:=by kernel_rfl
abbrev _root_.Go.Proofs.S1.Af.At.Kn:=A5 Tryz.prog 80 Af.At.spec
theorem Af.At.Ac (hk:Ay Tryz.prog Af.At.A8) (h:∀ (r c:Int) (l:List Int) (i k:Int),Af.At.pre [.i r,.i c,.l l,.i i,.i k]=true→Ba Af.At.E Tryz.f80 [.agg [.int .i64 r,.int .i64 c,.ints .arg .u64 l],.int .i64 i,.int .i64 k] (Af.At.out [.i r,.i c,.l l,.i i,.i k])):Af.At.Kn :=
  Aj (A1 hk _ _ _) Tryz.func80 (by kernel_rfl) (by kernel_rfl) h
def Af.Bm.A8:List (Nat × Entry):=[]
def Af.Bm.E:Env:=A9 (A7 Af.Bm.A8) (fun _=>false) (fun _=>none) (fun _=>none)
theorem Af.Bm.ev (N:Nat) (a b:Int):Bp Af.Bm.E N Tryz.f35 (Al Tryz.f35) [.int .i64 a,.int .i64 b]=bif (((decide ((0:Int)≤(Ab (a*b))))&&(decide ((Ab (a*b))≤(Ab (a*b)))))&&(decide ((Ab (a*b))≤Gu))) then some (.agg [.int .i64 a,.int .i64 b,.ints (.own 10 37) .u64 (List.replicate (Int.toNat (Ab (a*b))) 0)]) else none:=by kernel_rfl
abbrev _root_.Go.Proofs.S1.Af.Bm.Kn:=A5 Tryz.prog 35 Af.Bm.spec
theorem Af.Bm.Ac (hk:Ay Tryz.prog Af.Bm.A8) (h:∀ (a b:Int),Af.Bm.pre [.i a,.i b]=true→Ba Af.Bm.E Tryz.f35 [.int .i64 a,.int .i64 b] (Af.Bm.out [.i a,.i b])):Af.Bm.Kn :=
  Aj (A1 hk _ _ _) Tryz.func35 (by kernel_rfl) (by kernel_rfl) h
def Af.F5.A8:List (Nat × Entry):=[]
def Af.F5.E:Env:=A9 (A7 Af.F5.A8) (fun _=>false) (fun _=>none) (fun _=>none)
theorem Af.F5.ev (N:Nat) (r c:Int) (l:List Int) (i k b:Int):Bp Af.F5.E N Tryz.f83 (Al Tryz.f83) [.agg [.int .i64 r,.int .i64 c,.ints .arg .u64 l],.int .i64 i,.int .i64 k,.int .u64 b]=bif (decide (0+(List.length l)≤Gu)) then bif ((decide (0≤(Ab ((Ab (i*c))+k))))&&(decide ((Ab ((Ab (i*c))+k))<(List.length ([]++l):Int)))) then bif (decide ((Int.toNat (Ab ((Ab (i*c))+k)))<(List.length ([]++l)))) then some (.agg [.int .i64 r,.int .i64 c,.ints (.own 13 37) .u64 (List.set ([]++l) (Int.toNat (Ab ((Ab (i*c))+k))) b)]) else none else none else none:=by kernel_rfl
abbrev _root_.Go.Proofs.S1.Af.F5.Kn:=A5 Tryz.prog 83 Af.F5.spec
theorem Af.F5.Ac (hk:Ay Tryz.prog Af.F5.A8) (h:∀ (r c:Int) (l:List Int) (i k b:Int),Af.F5.pre [.i r,.i c,.l l,.i i,.i k,.i b]=true→Ba Af.F5.E Tryz.f83 [.agg [.int .i64 r,.int .i64 c,.ints .arg .u64 l],.int .i64 i,.int .i64 k,.int .u64 b] (Af.F5.out [.i r,.i c,.l l,.i i,.i k,.i b])):Af.F5.Kn :=
  Aj (A1 hk _ _ _) Tryz.func83 (by kernel_rfl) (by kernel_rfl) h
def Af.Fc.hint:Nat→Option Bb
  | 0=>some { keep:=[0,2,3,4],objs:=[],boxes:=[2,3] }
  | _=>none
def Af.Fc.A8:List (Nat × Entry):=[(83,Af.F5.spec),(35,Af.Bm.spec)]
def Af.Fc.E:Env:=A9 (A7 Af.Fc.A8) (fun _=>false) Af.Fc.hint (fun _=>none)
def Af.Fc.L0 (N M:Nat) (n p4:Int) (p3:List Int):Option DV:=Bv Af.Fc.E N Tryz.f33 (Al Tryz.f33) [1,1,0,1,0] [] M ⟨Ft 18 [(0,.int .i64 n),(2,.ptr 2 0 0),(3,.ptr 3 0 0),(4,.int .i64 p4)],[(2,false,.box [.int .i64 0,.int .i64 0,.nil]),(3,false,.box [.int .i64 n,.int .i64 n,.ints .fresh .u64 p3])]⟩
theorem Af.Fc.Au (N M:Nat) (n p4:Int) (p3:List Int):Af.Fc.L0 N (M+1) n p4 p3=bif (A6 p4 n) then bif (Cd n n p3 p4 p4) then Af.Fc.L0 N M n (Ab (p4+1)) (List.set p3 (Int.toNat (p4*n+p4)) 4607182418800017408) else none else some (.agg [.int .i64 n,.int .i64 n,.ints .fresh .u64 p3]):=by kernel_rfl
theorem Af.Fc.ev (N:Nat) (n:Int):Bp Af.Fc.E N Tryz.f33 (Al Tryz.f33) [.int .i64 n]=bif (Bn n&&Bn n) then Af.Fc.L0 N N n 0 (Bg (Int.toNat n) (Int.toNat n) (fun _ _=>0)) else none:=by kernel_rfl
abbrev _root_.Go.Proofs.S1.Af.Fc.Kn:=A5 Tryz.prog 33 Af.Fc.spec
theorem Af.Fc.Ac (hk:Ay Tryz.prog Af.Fc.A8) (h:∀ (n:Int),Af.Fc.pre [.i n]=true→Ba Af.Fc.E Tryz.f33 [.int .i64 n] (Af.Fc.out [.i n])):Af.Fc.Kn :=
  Aj (A1 hk _ _ _) Tryz.func33 (by kernel_rfl) (by kernel_rfl) h
def Af.Fb.A8:List (Nat × Entry):=[(99,Ak.Fb.spec)]
def Af.Fb.E:Env:=A9 (A7 Af.Fb.A8) (fun _=>false) (fun _=>none) (fun _=>none)
theorem Af.Fb.ev (N:Nat) (r c:Int) (l:List Int) (p q:Int) (m:List Int):Bp Af.Fb.E N Tryz.f31 (Al Tryz.f31) [.agg [.int .i64 r,.int .i64 c,.ints .arg .u64 l],.agg [.int .i64 p,.int .i64 q,.ints .arg .u64 m]]=bif ((!((r==p)&&(c==q)))||(F1 l)) then some (.bool (bif (bif (r==p) then (c==q) else false) then (Uc l m) else false)) else none :=
  Eq.trans (by kernel_rfl)
  (Ar (On (r==p)) (Ar (Mb (r==p)) (Ar (On (r==p)) (Ar (Mb (r==p)) (Ar (Ab8 (r==p)) (Ar (Tw (r==p)) (Ar (Anj (r==p) (c==q)) (Ar (Ahb (r==p) (c==q)) (Ar (Anj (r==p) (c==q)) (Ar (Ahb (r==p) (c==q)) (Cq (Ax7 (r==p) (c==q) (F1 l)) (Ar (Aq3 (r==p) (c==q)) rfl) rfl)))))))))))
abbrev _root_.Go.Proofs.S1.Af.Fb.Kn:=A5 Tryz.prog 31 Af.Fb.spec
theorem Af.Fb.Ac (hk:Ay Tryz.prog Af.Fb.A8) (h:∀ (r c:Int) (l:List Int) (p q:Int) (m:List Int),Af.Fb.pre [.i r,.i c,.l l,.i p,.i q,.l m]=true→Ba Af.Fb.E Tryz.f31 [.agg [.int .i64 r,.int .i64 c,.ints .arg .u64 l],.agg [.int .i64 p,.int .i64 q,.ints .arg .u64 m]] (Af.Fb.out [.i r,.i c,.l l,.i p,.i q,.l m])):Af.Fb.Kn :=
  Aj (A1 hk _ _ _) Tryz.func31 (by kernel_rfl) (by kernel_rfl) h
def Af.Np.A8:List (Nat × Entry):=[]
def Af.Np.E:Env:=A9 (A7 Af.Np.A8) (fun _=>false) (fun _=>none) (fun _=>none)
theorem Af.Np.ev (N:Nat) (r c:Int) (l:List Int):Bp Af.Np.E N Tryz.f29 (Al Tryz.f29) [.agg [.int .i64 r,.int .i64 c,.ints .arg .u64 l]]=bif (decide (0+(List.length l)≤Gu)) then some (.agg [.int .i64 r,.int .i64 c,.ints (.own 10 37) .u64 ([]++l)]) else none :=
  Eq.trans (by kernel_rfl)
  (Cq (Ci (decide (0+(List.length l)≤Gu))) rfl rfl)
abbrev _root_.Go.Proofs.S1.Af.Np.Kn:=A5 Tryz.prog 29 Af.Np.spec
theorem Af.Np.Ac (hk:Ay Tryz.prog Af.Np.A8) (h:∀ (r c:Int) (l:List Int),Af.Np.pre [.i r,.i c,.l l]=true→Ba Af.Np.E Tryz.f29 [.agg [.int .i64 r,.int .i64 c,.ints .arg .u64 l]] (Af.Np.out [.i r,.i c,.l l])):Af.Np.Kn :=
  Aj (A1 hk _ _ _) Tryz.func29 (by kernel_rfl) (by kernel_rfl) h
def Af.Row.A8:List (Nat × Entry):=[]
def Af.Row.E:Env:=A9 (A7 Af.Row.A8) (fun _=>false) (fun _=>none) (fun _=>none)
theorem Af.Row.ev (N:Nat) (r c:Int) (l:List Int) (i:Int):Bp Af.Row.E N Tryz.f107 (Al Tryz.f107) [.agg [.int .i64 r,.int .i64 c,.ints .arg .u64 l],.int .i64 i]=bif (((decide ((0:Int)≤(Ab (i*c))))&&(decide ((Ab (i*c))≤(Ab ((Ab (i+1))*c)))))&&((decide ((0:Int)≤(Ab ((Ab (i+1))*c))))&&(decide ((Ab ((Ab (i+1))*c))≤(List.length l:Int))))) then some (.ints .arg .u64 (List.drop (Int.toNat (Ab (i*c))) (List.take (Int.toNat (Ab ((Ab (i+1))*c))) l))) else none :=
  Eq.trans (by kernel_rfl)
  (Cq (Awd (decide ((0:Int)≤(Ab (i*c)))) (decide ((Ab (i*c))≤(Ab ((Ab (i+1))*c)))) (decide ((0:Int)≤(Ab ((Ab (i+1))*c)))) (decide ((Ab ((Ab (i+1))*c))≤(List.length l:Int)))) rfl rfl)
abbrev _root_.Go.Proofs.S1.Af.Row.Kn:=A5 Tryz.prog 107 Af.Row.spec
theorem Af.Row.Ac (hk:Ay Tryz.prog Af.Row.A8) (h:∀ (r c:Int) (l:List Int) (i:Int),Af.Row.pre [.i r,.i c,.l l,.i i]=true→Ba Af.Row.E Tryz.f107 [.agg [.int .i64 r,.int .i64 c,.ints .arg .u64 l],.int .i64 i] (Af.Row.out [.i r,.i c,.l l,.i i])):Af.Row.Kn :=
  Aj (A1 hk _ _ _) Tryz.func107 (by kernel_rfl) (by kernel_rfl) h
def Af.Qk.hint:Nat→Option Bb
  | 0=>some { keep:=[1,3,7,8],objs:=[(0,7,100007,.ints 37 .u64 [])],boxes:=[3] }
  | _=>none
def Af.Qk.A8:List (Nat × Entry):=[(80,Af.At.spec)]
def Af.Qk.E:Env:=A9 (A7 Af.Qk.A8) (fun _=>false) Af.Qk.hint (fun _=>none)
def Af.Qk.L0 (N M:Nat) (r c:Int) (l:List Int) (k p8:Int) (p7:List Int):Option DV:=Bv Af.Qk.E N Tryz.f108 (Al Tryz.f108) [1,1,0,1,0] [] M ⟨Ft 25 [(1,.int .i64 k),(3,.ptr 3 0 0),(7,.oref 100007),(8,.int .i64 p8)],[(3,false,.box [.int .i64 r,.int .i64 c,.ints .arg .u64 l]),(100007,false,.ints 37 .u64 p7)]⟩
theorem Af.Qk.Au (N M:Nat) (r c:Int) (l:List Int) (k p8:Int) (p7:List Int):Af.Qk.L0 N (M+1) r c l k p8 p7=bif (A6 p8 r) then bif (Cd r c l p8 k) then bif (decide ((List.length p7)+1≤Gu)) then Af.Qk.L0 N M r c l k (Ab (p8+1)) (p7++[(Cj c l p8 k)]) else none else none else some (.ints (.own 100007 37) .u64 p7):=by kernel_rfl
theorem Af.Qk.ev (N:Nat) (r c:Int) (l:List Int) (k f:Int):Bp Af.Qk.E N Tryz.f108 (Al Tryz.f108) [.agg [.int .i64 r,.int .i64 c,.ints .arg .u64 l],.int .i64 k,.int .i64 f] =
  Af.Qk.L0 N N r c l k f []:=by kernel_rfl
abbrev _root_.Go.Proofs.S1.Af.Qk.Kn:=A5 Tryz.prog 108 Af.Qk.spec
theorem Af.Qk.Ac (hk:Ay Tryz.prog Af.Qk.A8) (h:∀ (r c:Int) (l:List Int) (k f:Int),Af.Qk.pre [.i r,.i c,.l l,.i k,.i f]=true→Ba Af.Qk.E Tryz.f108 [.agg [.int .i64 r,.int .i64 c,.ints .arg .u64 l],.int .i64 k,.int .i64 f] (Af.Qk.out [.i r,.i c,.l l,.i k,.i f])):Af.Qk.Kn :=
  Aj (A1 hk _ _ _) Tryz.func108 (by kernel_rfl) (by kernel_rfl) h
def Af.Mul.hint:Nat→Option Bb
  | 0=>some { keep:=[2,3,4,5,6],objs:=[],boxes:=[2,3,4,5] }
  | 2=>some { keep:=[2,3,4,5,6,7],objs:=[],boxes:=[2,3,4,5] }
  | _=>none
def Af.Mul.A8:List (Nat × Entry):=[(118,Ak.Ig.spec),(108,Af.Qk.spec),(107,Af.Row.spec),(83,Af.F5.spec),(35,Af.Bm.spec)]
def Af.Mul.E:Env:=A9 (A7 Af.Mul.A8) (fun _=>false) Af.Mul.hint (fun _=>none)
def Af.Mul.L0 (N M:Nat) (r c:Int) (l:List Int) (p q:Int) (m:List Int) (p6:Int) (p5_1:List Int):Option DV:=Bv Af.Mul.E N Tryz.f45 (Al Tryz.f45) [1,1,0,1,0] [] M ⟨Ft 37 [(2,.ptr 2 0 0),(3,.ptr 3 0 0),(4,.ptr 4 0 0),(5,.ptr 5 0 0),(6,.int .i64 p6)],[(2,false,.box [.int .i64 r,.int .i64 c,.ints .arg .u64 l]),(3,false,.box [.int .i64 p,.int .i64 q,.ints .arg .u64 m]),(4,false,.box [.int .i64 0,.int .i64 0,.nil]),(5,false,.box [.int .i64 r,.int .i64 q,.ints .fresh .u64 p5_1])]⟩
def Af.Mul.L1 (N M0 M:Nat) (r c:Int) (l:List Int) (p q:Int) (m:List Int) (p7:Int) (p5:List Int) (p6_1:Int):Option DV:=Bv Af.Mul.E N Tryz.f45 (Al Tryz.f45) [1,1,0,1,0,0,1,0,0,1,0] [M0] M ⟨Ft 37 [(2,.ptr 2 0 0),(3,.ptr 3 0 0),(4,.ptr 4 0 0),(5,.ptr 5 0 0),(6,.int .i64 p6_1),(7,.int .i64 p7)],[(2,false,.box [.int .i64 r,.int .i64 c,.ints .arg .u64 l]),(3,false,.box [.int .i64 p,.int .i64 q,.ints .arg .u64 m]),(4,false,.box [.int .i64 0,.int .i64 0,.nil]),(5,false,.box [.int .i64 r,.int .i64 q,.ints .fresh .u64 p5])]⟩
theorem Af.Mul.Au (N M:Nat) (r c:Int) (l:List Int) (p q:Int) (m:List Int) (p6:Int) (p5_1:List Int):Af.Mul.L0 N (M+1) r c l p q m p6 p5_1=bif (A6 p6 r) then Af.Mul.L1 N M N r c l p q m 0 p5_1 p6 else some (.agg [.int .i64 r,.int .i64 q,.ints .fresh .u64 p5_1]):=by kernel_rfl
theorem Af.Mul.B2 (N M0 M:Nat) (r c:Int) (l:List Int) (p q:Int) (m:List Int) (p7:Int) (p5:List Int) (p6_1:Int):Af.Mul.L1 N M0 (M+1) r c l p q m p7 p5 p6_1=bif (A6 p7 q) then bif (Pp r c l p6_1) then bif (Hj p q m p7&&Dh (0≤(0:Int)∧(0:Int)≤p)) then bif ((Pc (Fw c l p6_1) (Cu q m p7 0 (Int.toNat (p-0)))&&Ae (Fw c l p6_1))&&Ae (Cu q m p7 0 (Int.toNat (p-0)))) then bif (Cd r q p5 p6_1 p7) then Af.Mul.L1 N M0 M r c l p q m (Ab (p7+1)) (List.set p5 (Int.toNat (p6_1*q+p7)) (G1 (Fw c l p6_1) (Cu q m p7 0 (Int.toNat (p-0))))) p6_1 else none else none else none else none else Af.Mul.L0 N M0 r c l p q m (Ab (p6_1+1)) p5 :=
  Eq.trans (by kernel_rfl)
  (Ea (Cq (Ci (Pp r c l p6_1)) (Cq (Ci (Hj p q m p7&&Dh (0≤(0:Int)∧(0:Int)≤p))) (Cq (Ci ((Pc (Fw c l p6_1) (Cu q m p7 0 (Int.toNat (p-0)))&&Ae (Fw c l p6_1))&&Ae (Cu q m p7 0 (Int.toNat (p-0))))) (Cq (Ci (Cd r q p5 p6_1 p7)) rfl rfl) rfl) rfl) rfl) rfl)
theorem Af.Mul.ev (N:Nat) (r c:Int) (l:List Int) (p q:Int) (m:List Int):Bp Af.Mul.E N Tryz.f45 (Al Tryz.f45) [.agg [.int .i64 r,.int .i64 c,.ints .arg .u64 l],.agg [.int .i64 p,.int .i64 q,.ints .arg .u64 m]]=bif (Bn r&&Bn q) then Af.Mul.L0 N N r c l p q m 0 (Bg (Int.toNat r) (Int.toNat q) (fun _ _=>0)) else none:=by kernel_rfl
abbrev _root_.Go.Proofs.S1.Af.Mul.Kn:=A5 Tryz.prog 45 Af.Mul.spec
theorem Af.Mul.Ac (hk:Ay Tryz.prog Af.Mul.A8) (h:∀ (r c:Int) (l:List Int) (p q:Int) (m:List Int),Af.Mul.pre [.i r,.i c,.l l,.i p,.i q,.l m]=true→Ba Af.Mul.E Tryz.f45 [.agg [.int .i64 r,.int .i64 c,.ints .arg .u64 l],.agg [.int .i64 p,.int .i64 q,.ints .arg .u64 m]] (Af.Mul.out [.i r,.i c,.l l,.i p,.i q,.l m])):Af.Mul.Kn :=
  Aj (A1 hk _ _ _) Tryz.func45 (by kernel_rfl) (by kernel_rfl) h
def Af.Co.hint:Nat→Option Bb
  | 0=>some { keep:=[1,2,3,4],objs:=[],boxes:=[1,2,3] }
  | 2=>some { keep:=[1,2,3,4,5],objs:=[],boxes:=[1,2,3] }
  | _=>none
def Af.Co.A8:List (Nat × Entry):=[(80,Af.At.spec),(83,Af.F5.spec),(35,Af.Bm.spec)]
def Af.Co.E:Env:=A9 (A7 Af.Co.A8) (fun _=>false) Af.Co.hint (fun _=>none)
def Af.Co.L0 (N M:Nat) (r c:Int) (l:List Int) (p4:Int) (p3_1:List Int):Option DV:=Bv Af.Co.E N Tryz.f37 (Al Tryz.f37) [1,1,0,1,0] [] M ⟨Ft 32 [(1,.ptr 1 0 0),(2,.ptr 2 0 0),(3,.ptr 3 0 0),(4,.int .i64 p4)],[(1,false,.box [.int .i64 r,.int .i64 c,.ints .arg .u64 l]),(2,false,.box [.int .i64 0,.int .i64 0,.nil]),(3,false,.box [.int .i64 c,.int .i64 r,.ints .fresh .u64 p3_1])]⟩
def Af.Co.L1 (N M0 M:Nat) (r c:Int) (l:List Int) (p5:Int) (p3:List Int) (p4_1:Int):Option DV:=Bv Af.Co.E N Tryz.f37 (Al Tryz.f37) [1,1,0,1,0,0,1,0,0,1,0] [M0] M ⟨Ft 32 [(1,.ptr 1 0 0),(2,.ptr 2 0 0),(3,.ptr 3 0 0),(4,.int .i64 p4_1),(5,.int .i64 p5)],[(1,false,.box [.int .i64 r,.int .i64 c,.ints .arg .u64 l]),(2,false,.box [.int .i64 0,.int .i64 0,.nil]),(3,false,.box [.int .i64 c,.int .i64 r,.ints .fresh .u64 p3])]⟩
theorem Af.Co.Au (N M:Nat) (r c:Int) (l:List Int) (p4:Int) (p3_1:List Int):Af.Co.L0 N (M+1) r c l p4 p3_1=bif (A6 p4 r) then Af.Co.L1 N M N r c l 0 p3_1 p4 else some (.agg [.int .i64 c,.int .i64 r,.ints .fresh .u64 p3_1]):=by kernel_rfl
theorem Af.Co.B2 (N M0 M:Nat) (r c:Int) (l:List Int) (p5:Int) (p3:List Int) (p4_1:Int):Af.Co.L1 N M0 (M+1) r c l p5 p3 p4_1=bif (A6 p5 c) then bif (Cd r c l p4_1 p5) then bif (Cd c r p3 p5 p4_1) then Af.Co.L1 N M0 M r c l (Ab (p5+1)) (List.set p3 (Int.toNat (p5*r+p4_1)) (Cj c l p4_1 p5)) p4_1 else none else none else Af.Co.L0 N M0 r c l (Ab (p4_1+1)) p3 :=
  Eq.trans (by kernel_rfl)
  (Ea (Cq (Ci (Cd r c l p4_1 p5)) (Cq (Ci (Cd c r p3 p5 p4_1)) rfl rfl) rfl) rfl)
theorem Af.Co.ev (N:Nat) (r c:Int) (l:List Int):Bp Af.Co.E N Tryz.f37 (Al Tryz.f37) [.agg [.int .i64 r,.int .i64 c,.ints .arg .u64 l]]=bif (Bn c&&Bn r) then Af.Co.L0 N N r c l 0 (Bg (Int.toNat c) (Int.toNat r) (fun _ _=>0)) else none:=by kernel_rfl
abbrev _root_.Go.Proofs.S1.Af.Co.Kn:=A5 Tryz.prog 37 Af.Co.spec
theorem Af.Co.Ac (hk:Ay Tryz.prog Af.Co.A8) (h:∀ (r c:Int) (l:List Int),Af.Co.pre [.i r,.i c,.l l]=true→Ba Af.Co.E Tryz.f37 [.agg [.int .i64 r,.int .i64 c,.ints .arg .u64 l]] (Af.Co.out [.i r,.i c,.l l])):Af.Co.Kn :=
  Aj (A1 hk _ _ _) Tryz.func37 (by kernel_rfl) (by kernel_rfl) h
def Af.Part.hint:Nat→Option Bb
  | 0=>some { keep:=[1,2,3,4,5,10,11,12],objs:=[],boxes:=[5,10,11] }
  | 2=>some { keep:=[1,2,3,4,5,10,11,12,13],objs:=[],boxes:=[5,10,11] }
  | _=>none
def Af.Part.A8:List (Nat × Entry):=[(80,Af.At.spec),(83,Af.F5.spec),(35,Af.Bm.spec)]
def Af.Part.E:Env:=A9 (A7 Af.Part.A8) (fun _=>false) Af.Part.hint (fun _=>none)
def Af.Part.L0 (N M:Nat) (r c:Int) (l:List Int) (x y:Int) (a b p12:Int) (p11_1:List Int):Option DV:=Bv Af.Part.E N Tryz.f128 (Al Tryz.f128) [1,1,0,1,0] [] M ⟨Ft 40 [(1,.int .i64 x),(2,.int .i64 y),(3,.int .i64 a),(4,.int .i64 b),(5,.ptr 5 0 0),(10,.ptr 10 0 0),(11,.ptr 11 0 0),(12,.int .i64 p12)],[(5,false,.box [.int .i64 r,.int .i64 c,.ints .arg .u64 l]),(10,false,.box [.int .i64 0,.int .i64 0,.nil]),(11,false,.box [.int .i64 a,.int .i64 b,.ints .fresh .u64 p11_1])]⟩
def Af.Part.L1 (N M0 M:Nat) (r c:Int) (l:List Int) (x y:Int) (a b p13:Int) (p11:List Int) (p12_1:Int):Option DV:=Bv Af.Part.E N Tryz.f128 (Al Tryz.f128) [1,1,0,1,0,0,1,0,0,1,0] [M0] M ⟨Ft 40 [(1,.int .i64 x),(2,.int .i64 y),(3,.int .i64 a),(4,.int .i64 b),(5,.ptr 5 0 0),(10,.ptr 10 0 0),(11,.ptr 11 0 0),(12,.int .i64 p12_1),(13,.int .i64 p13)],[(5,false,.box [.int .i64 r,.int .i64 c,.ints .arg .u64 l]),(10,false,.box [.int .i64 0,.int .i64 0,.nil]),(11,false,.box [.int .i64 a,.int .i64 b,.ints .fresh .u64 p11])]⟩
theorem Af.Part.Au (N M:Nat) (r c:Int) (l:List Int) (x y:Int) (a b p12:Int) (p11_1:List Int):Af.Part.L0 N (M+1) r c l x y a b p12 p11_1=bif (A6 p12 a) then Af.Part.L1 N M N r c l x y a b 0 p11_1 p12 else some (.agg [.int .i64 a,.int .i64 b,.ints .fresh .u64 p11_1]):=by kernel_rfl
theorem Af.Part.B2 (N M0 M:Nat) (r c:Int) (l:List Int) (x y:Int) (a b p13:Int) (p11:List Int) (p12_1:Int):Af.Part.L1 N M0 (M+1) r c l x y a b p13 p11 p12_1=bif (A6 p13 b) then bif (Cd r c l (Ab (x+p12_1)) (Ab (y+p13))) then bif (Cd a b p11 p12_1 p13) then Af.Part.L1 N M0 M r c l x y a b (Ab (p13+1)) (List.set p11 (Int.toNat (p12_1*b+p13)) (Cj c l (Ab (x+p12_1)) (Ab (y+p13)))) p12_1 else none else none else Af.Part.L0 N M0 r c l x y a b (Ab (p12_1+1)) p11 :=
  Eq.trans (by kernel_rfl)
  (Ea (Cq (Ci (Cd r c l (Ab (x+p12_1)) (Ab (y+p13)))) (Cq (Ci (Cd a b p11 p12_1 p13)) rfl rfl) rfl) rfl)
theorem Af.Part.ev (N:Nat) (r c:Int) (l:List Int) (x y:Int) (a b:Int):Bp Af.Part.E N Tryz.f128 (Al Tryz.f128) [.agg [.int .i64 r,.int .i64 c,.ints .arg .u64 l],.int .i64 x,.int .i64 y,.int .i64 a,.int .i64 b]=bif (Bn a&&Bn b) then Af.Part.L0 N N r c l x y a b 0 (Bg (Int.toNat a) (Int.toNat b) (fun _ _=>0)) else none:=by kernel_rfl
abbrev _root_.Go.Proofs.S1.Af.Part.Kn:=A5 Tryz.prog 128 Af.Part.spec
theorem Af.Part.Ac (hk:Ay Tryz.prog Af.Part.A8) (h:∀ (r c:Int) (l:List Int) (x y:Int) (a b:Int),Af.Part.pre [.i r,.i c,.l l,.i x,.i y,.i a,.i b]=true→Ba Af.Part.E Tryz.f128 [.agg [.int .i64 r,.int .i64 c,.ints .arg .u64 l],.int .i64 x,.int .i64 y,.int .i64 a,.int .i64 b] (Af.Part.out [.i r,.i c,.l l,.i x,.i y,.i a,.i b])):Af.Part.Kn :=
  Aj (A1 hk _ _ _) Tryz.func128 (by kernel_rfl) (by kernel_rfl) h
abbrev _root_.Go.Proofs.S1.Af.F5.arg.Kn:Prop:=A5 Tryz.prog 83 Af.F5.arg.spec
abbrev _root_.Go.Proofs.S1.Af.Fc.arg.Kn:Prop:=A5 Tryz.prog 33 Af.Fc.arg.spec
end EqRef10
open EqRef10
theorem Af.Ir.known:Af.Ir.Kn:=Af.Ir.Ac .nil fun r c l _=>by
  refine ⟨0,Af.Ir.out [.i r,.i c,.l l],[],?_,.bool⟩
  have e:(bif (bif (bif (bif (Ep (0:Int) r) then (Ep r (6:Int)) else false) then (Ep (0:Int) c) else false) then (Ep c (6:Int)) else false) then ((List.length l:Int)==(Ab (r*c))) else false)=Av r c l:=by
    have:=Agi r c l
    have h:(bif (bif (bif (bif (Ep (0:Int) r) then (Ep r (6:Int)) else false) then (Ep (0:Int) c) else false) then (Ep c (6:Int)) else false) then ((List.length l:Int)==(Ab (r*c))) else false)=!(((!(Bn r))||(!(Bn c)))||((List.length l:Int) !=(Ab (r*c)))):=by
      unfold Bn bne
      rw [Ev,Ev,Ev,Ev]
      cases decide (0≤r)<;>cases decide (r≤6)<;>cases decide (0≤c)<;>cases decide (c≤6)<;>cases ((List.length l:Int)==(Ab (r*c)))<;>rfl
    rw [h,this,Bool.not_not]
  rw [Af.Ir.ev,e]; rfl
theorem Af.At.known:Af.At.Kn:=Af.At.Ac .nil fun r c l i k hp=>by
  obtain ⟨e,h1,h2⟩:=Hz (R:=r) (show Cd r c l i k=true from hp)
  refine ⟨0,Af.At.out [.i r,.i c,.l l,.i i,.i k],[],?_,.int⟩
  rw [Af.At.ev,e,Ay7 h1,Ay7 h2]
  rfl
theorem Qo {drops:List Nat} {i:Nat} {e:TypeId} {a b:Int} {l:List Int} (h:i∈drops):Wk drops (.agg [.int .i64 a,.int .i64 b,.ints (.own i e) .u64 l]) (.agg [.int .i64 a,.int .i64 b,.ints .fresh .u64 l]) :=
  Wk.G2 (.cons .int (.cons .int (.cons (.drop _ _ _ _ h) .nil)))
theorem Tx {drops:List Nat} {a b:Int} {l:List Int}:Wk drops (.agg [.int .i64 a,.int .i64 b,.ints .fresh .u64 l]) (.agg [.int .i64 a,.int .i64 b,.ints .fresh .u64 l]) :=
  Wk.G2 (.cons .int (.cons .int (.cons .P2 .nil)))
theorem Af.Bm.known:Af.Bm.Kn:=Af.Bm.Ac .nil fun a b hp=>by
  obtain ⟨ha,hb⟩:=Ad.1 (show (Bn a&&Bn b)=true from hp)
  obtain ⟨A,rfl,hA⟩:=Et ha
  obtain ⟨B,rfl,hB⟩:=Et hb
  have hm:=Je (a:=(A:Int)) (b:=(B:Int)) (by omega) (by omega) (by omega) (by omega)
  have e:((A:Int)*(B:Int)).toNat=A*B:=by rw [← Azr,Ay8]
  refine ⟨0,.agg [.int .i64 (A:Int),.int .i64 (B:Int),.ints (.own 10 tB) .u64 (Bg A B fun _ _=>0)],[10],?_,Qo (List.mem_singleton.2 rfl)⟩
  rw [Af.Bm.ev,Am (by omega) (by omega),Ay7 hm.1,Ay7 (Int.le_refl _),Ay7 (show (A:Int)*(B:Int)≤(Gu:Int) by unfold Gu; omega),e,Tj]
  rfl
theorem Af.F5.known:Af.F5.Kn:=Af.F5.Ac .nil fun r c l i k b hp=>by
  obtain ⟨_,_,_,_,_,_,_,h8⟩:=Aw.1 (show Cd r c l i k=true from hp)
  obtain ⟨e,g1,g2⟩:=Hz (R:=r) (show Cd r c l i k=true from hp)
  refine ⟨0,.agg [.int .i64 r,.int .i64 c,.ints (.own 13 tB) .u64 (List.set l (i*c+k).toNat b)],[13],?_,Qo (List.mem_singleton.2 rfl)⟩
  rw [Af.F5.ev,e,List.nil_append,Ay7 (show 0+l.length≤Gu by unfold Gu; omega),Ay7 g1,Ay7 g2,Ay7 (show (i*c+k).toNat<l.length by omega)]
  rfl
theorem Zr {r c i k:Nat} (hk:k<c) {d d':Nat→Nat→Bool} {f:Nat→Nat→Int} {x:Int} (hx:x=f i k)
    (h:∀ a b,a<r→b<c→(d' a b=true↔d a b=true∨(a=i∧b=k))) :
    List.set (Bg r c fun a b=>if d a b=true then f a b else 0) (Int.toNat ((i:Int)*(c:Int)+(k:Int))) x=Bg r c fun a b=>if d' a b=true then f a b else 0:=by
  have e:((i:Int)*(c:Int)+(k:Int)).toNat=i*c+k:=by rw [← Azr,← Int.natCast_add,Ay8]
  rw [e,U4 hk]
  refine Dx fun a b ha hb=>?_
  have h:=h a b ha hb
  by_cases hab:a=i∧b=k
  · rw [if_pos hab,if_pos (h.2 (.inr hab)),hx,hab.1,hab.2]
  · rw [if_neg hab]
    by_cases hd:d a b=true
    · rw [if_pos hd,if_pos (h.2 (.inl hd))]
    · rw [if_neg hd,if_neg (fun k=>(h.1 k).elim hd hab)]
theorem Af.Np.known:Af.Np.Kn:=Af.Np.Ac .nil fun r c l hp=>by
  have hp:=Aw.1 (show F1 l=true from hp)
  refine ⟨0,.agg [.int .i64 r,.int .i64 c,.ints (.own 10 tB) .u64 l],[10],?_,Qo (List.mem_singleton.2 rfl)⟩
  rw [Af.Np.ev,List.nil_append,Ay7 (show 0+l.length≤Gu by unfold Gu; omega)]
  rfl
theorem Ak1 (r c:Int) (l:List Int) (p q:Int) (m:List Int):(bif (bif (r==p) then (c==q) else false) then (Uc l m) else false)=Dg r c l p q m:=by
  unfold Dg Uc
  have e1:(r==p)=decide (r=p):=by rw [Azm]; simp
  have e2:(c==q)=decide (c=q):=by rw [Azm]; simp
  rw [e1,e2]
  cases decide (r=p)<;>cases decide (c=q)<;>cases decide (l=m)<;>rfl
theorem Af.Fb.known:Af.Fb.Kn:=Af.Fb.Ac (.cons Ak.Fb.known .nil) fun r c l p q m hp=>by
  have hp:F1 l=true:=hp
  refine ⟨0,Af.Fb.out [.i r,.i c,.l l,.i p,.i q,.l m],[],?_,.bool⟩
  rw [Af.Fb.ev,hp,Bool.or_true,Ay6,Ak1]
  rfl
theorem Acs (N:Nat) {R C K f:Nat} {l:List Int} (r6:R≤6) (c6:C≤6) (hl:l.length=R*C) (hk:K<C):∀ (k i F:Nat),f+i+k=R→k<F →
    Af.Qk.L0 N F (R:Int) (C:Int) l (K:Int) ((f+i:Nat):Int) (Cu (C:Int) l (K:Int) (f:Int) i)=some (.ints (.own 100007 tB) .u64 (Cu (C:Int) l (K:Int) (f:Int) (R-f))):=by
  intro k
  induction k with
  | zero =>
    intro i F hi hF
    obtain ⟨F,rfl⟩:∃ G,F=G+1:=⟨F-1,by omega⟩
    rw [Af.Qk.Au,Aq,Azb (by omega),Aza,show R-f=i by omega]
  | succ k ih =>
    intro i F hi hF
    obtain ⟨F,rfl⟩:∃ G,F=G+1:=⟨F-1,by omega⟩
    have d:decide ((Cu (C:Int) l (K:Int) (f:Int) i).length+1≤Gu)=true:=Ay7 (by rw [Gr]; unfold Gu; omega)
    rw [Af.Qk.Au,Aq,Ay7 (by omega),Ay6,Cy r6 c6 hl (show f+i<R by omega) hk,Ay6,d,Ay6,Am (by omega) (by omega)]
    have:=ih (i+1) F (by omega) (by omega)
    unfold Cu at this ⊢
    rw [List.range_succ,List.map_append] at this
    exact this
theorem Af.Qk.known:Af.Qk.Kn:=Af.Qk.Ac (.cons Af.At.known .nil) fun r c l k f hp=>by
  obtain ⟨h0,hf⟩:=Ad.1 (show (Hj r c l k&&Dh (0≤f∧f≤r))=true from hp)
  have hf:=Aw.1 hf
  obtain ⟨hr,hi⟩:=Ad.1 h0
  have hi:=Aw.1 hi
  obtain ⟨R,C,rfl,rfl,r6,c6,hl⟩:=B8 hr
  obtain ⟨K,rfl⟩:∃ j:Nat,k=j:=⟨k.toNat,by omega⟩
  obtain ⟨f,rfl⟩:∃ j:Nat,f=j:=⟨f.toNat,by omega⟩
  refine ⟨8,.ints (.own 100007 tB) .u64 (Cu (C:Int) l (K:Int) (f:Int) (R-f)),[100007],?_,?_⟩
  · rw [Af.Qk.ev]
    exact Acs 8 r6 c6 hl (by omega) (R-f) 0 8 (by omega) (by omega)
  · show Wk _ _ (DV.ints .fresh .u64 (Cu (C:Int) l (K:Int) (f:Int) (Int.toNat ((R:Int)-(f:Int)))))
    rw [show Int.toNat ((R:Int)-(f:Int))=R-f by omega]
    exact .drop _ _ _ _ (List.mem_singleton.2 rfl)
theorem Af.Row.known:Af.Row.Kn:=Af.Row.Ac .nil fun r c l i hp=>by
  obtain ⟨hr,hi⟩:=Ad.1 (show Pp r c l i=true from hp)
  have hi:=Aw.1 hi
  obtain ⟨R,C,rfl,rfl,r6,c6,hl⟩:=B8 hr
  obtain ⟨I,rfl⟩:∃ k:Nat,i=k:=⟨i.toNat,by omega⟩
  have hm:=Je (a:=(I:Int)) (b:=(C:Int)) (by omega) (by omega) (by omega) (by omega)
  have hm2:=Je (a:=(I:Int)+1) (b:=(C:Int)) (by omega) (by omega) (by omega) (by omega)
  have hle:(I+1)*C≤R*C:=Azi C (by omega)
  have hle2:I*C≤(I+1)*C:=Azi C (by omega)
  have e1:(I:Int)*(C:Int)=((I*C:Nat):Int):=(Azr _ _).symm
  have e2:((I:Int)+1)*(C:Int)=(((I+1)*C:Nat):Int):=by rw [Azr]; rfl
  refine ⟨0,Af.Row.out [.i (R:Int),.i (C:Int),.l l,.i (I:Int)],[],?_,.Rh⟩
  rw [Af.Row.ev,Am (x:=(I:Int)+1) (by omega) (by omega),Am (x:=(I:Int)*(C:Int)) (by omega) (by omega),Am (x:=((I:Int)+1)*(C:Int)) (by omega) (by omega)]
  have d1:decide ((0:Int)≤(I:Int)*(C:Int))=true:=Ay7 (by omega)
  have d2:decide ((I:Int)*(C:Int)≤((I:Int)+1)*(C:Int))=true:=Ay7 (by rw [e1,e2]; omega)
  have d3:decide ((0:Int)≤((I:Int)+1)*(C:Int))=true:=Ay7 (by omega)
  have d4:decide (((I:Int)+1)*(C:Int)≤(l.length:Int))=true:=Ay7 (by rw [e2]; omega)
  rw [d1,d2,d3,d4]
  rfl
open EqRef10
def dR (i k a b:Nat):Bool:=decide (a<i∨(a=i∧b<k))
def dC (i k a b:Nat):Bool:=decide (b<i∨(b=i∧a<k))
def fill (r c:Nat) (f:Nat→Nat→Int) (d:Nat→Nat→Bool):List Int:=Bg r c fun a b=>if d a b=true then f a b else 0
theorem N3 (r c:Nat) (f:Nat→Nat→Int) (d:Nat→Nat→Bool):(fill r c f d).length=r*c:=Ca _ _ _
theorem U8 {r c i k:Nat} (hk:k<c) {d d':Nat→Nat→Bool} {f:Nat→Nat→Int} {x:Int} (hx:x=f i k) (h:∀ a b,a<r→b<c→(d' a b=true↔d a b=true∨(a=i∧b=k))) :
    List.set (fill r c f d) (Int.toNat ((i:Int)*(c:Int)+(k:Int))) x=fill r c f d':=Zr hk hx h
theorem Tk {r c:Nat} {f:Nat→Nat→Int} {d d':Nat→Nat→Bool} (h:∀ a b,a<r→b<c→(d a b=true↔d' a b=true)):fill r c f d=fill r c f d':=by
  refine Dx fun a b ha hb=>?_
  have:=h a b ha hb
  by_cases hd:d a b=true
  · rw [if_pos hd,if_pos (this.1 hd)]
  · rw [if_neg hd,if_neg (fun k=>hd (this.2 k))]
theorem Zi {r c:Nat} {f:Nat→Nat→Int} {d:Nat→Nat→Bool} (h:∀ a b,a<r→b<c→d a b=true):fill r c f d=Bg r c f :=
  Dx fun a b ha hb=>by rw [if_pos (h a b ha hb)]
theorem Sb {r c:Nat} {f:Nat→Nat→Int} {d:Nat→Nat→Bool} (h:∀ a b,a<r→b<c→¬ d a b=true):fill r c f d=Bg r c fun _ _=>0 :=
  Dx fun a b ha hb=>by rw [if_neg (h a b ha hb)]
theorem Adh.inner (N:Nat) {R C Q:Nat} {l:List Int} {p:Int} {m:List Int} (h6:R≤6∧C≤6∧Q≤6) (hl:l.length=R*C) (hr:Av (R:Int) (C:Int) l=true) (hm:Av p (Q:Int) m=true) (ep:p=(C:Int)) (al:Ae l=true) (am:Ae m=true) {F:Nat→Nat→Int} (hF:F=fun (i j:Nat)=>G1 (Fw (C:Int) l (i:Int)) (Hk p (Q:Int) m (j:Int))) {i:Nat} (hi:i<R):∀ (k j M0 M:Nat),j+k=Q→k<M →
    Af.Mul.L1 N M0 M (R:Int) (C:Int) l p (Q:Int) m (j:Int) (fill R Q F (dR i j)) (i:Int)=Af.Mul.L0 N M0 (R:Int) (C:Int) l p (Q:Int) m ((i+1:Nat):Int) (fill R Q F (dR (i+1) 0)):=by
  intro k
  induction k with
  | zero =>
    intro j M0 M hj hM
    obtain ⟨M,rfl⟩:∃ G,M=G+1:=⟨M-1,by omega⟩
    have e:fill R Q F (dR i j)=fill R Q F (dR (i+1) 0):=Tk fun a b ha hb=>by simp only [dR,Azd]; omega
    rw [Af.Mul.B2,Aq,Azb (by omega),Aza,Am (by omega) (by omega),e]
    rfl
  | succ k ih =>
    intro j M0 M hj hM
    obtain ⟨M,rfl⟩:∃ G,M=G+1:=⟨M-1,by omega⟩
    have c1:Pp (R:Int) (C:Int) l (i:Int)=true:=Ad.2 ⟨hr,Aw.2 (by omega)⟩
    have c2:Hj p (Q:Int) m (j:Int)=true:=Ad.2 ⟨hm,Aw.2 (by omega)⟩
    have c3:Pc (Fw (C:Int) l (i:Int)) (Hk p (Q:Int) m (j:Int))=true:=Sa.2 ⟨by rw [Pn hl hi,ep,Zt],by rw [Pn hl hi]; omega⟩
    have c9:Cd (R:Int) (Q:Int) (fill R Q F (dR i j)) (i:Int) (j:Int)=true:=Cy (by omega) (by omega) (N3 _ _ _ _) (by omega) (by omega)
    rw [Af.Mul.B2,Aq,Ay7 (by omega),Ay6,c1,Ay6,c2,Xt (show 0≤p by omega),Azc,Ay6,Aj9,c3,Ajf al,Aka am,Azc,Azc,Ay6,c9,Ay6,Am (x:=(j:Int)+1) (by omega) (by omega),U8 (d':=dR i (j+1)) (by omega) (by rw [hF]) (fun a b ha hb=>by simp only [dR,Azd]; omega)]
    exact ih (j+1) M0 M (by omega) (by omega)
theorem Adh.outer (N:Nat) (hN:6<N) {R C Q:Nat} {l:List Int} {p:Int} {m:List Int} (h6:R≤6∧C≤6∧Q≤6) (hl:l.length=R*C) (hr:Av (R:Int) (C:Int) l=true) (hm:Av p (Q:Int) m=true) (ep:p=(C:Int)) (al:Ae l=true) (am:Ae m=true) {F:Nat→Nat→Int} (hF:F=fun (i j:Nat)=>G1 (Fw (C:Int) l (i:Int)) (Hk p (Q:Int) m (j:Int))):∀ (k i M:Nat),i+k=R→k<M →
    Af.Mul.L0 N M (R:Int) (C:Int) l p (Q:Int) m (i:Int) (fill R Q F (dR i 0))=some (.agg [.int .i64 (R:Int),.int .i64 (Q:Int),.ints .fresh .u64 (Bg R Q F)]):=by
  intro k
  induction k with
  | zero =>
    intro i M hi hM
    obtain ⟨M,rfl⟩:∃ G,M=G+1:=⟨M-1,by omega⟩
    rw [Af.Mul.Au,Aq,Azb (by omega),Aza,Zi (fun a b ha hb=>by simp only [dR,Azd]; omega)]
  | succ k ih =>
    intro i M hi hM
    obtain ⟨M,rfl⟩:∃ G,M=G+1:=⟨M-1,by omega⟩
    have n:=Adh.inner N h6 hl hr hm ep al am hF (show i<R by omega) Q 0 M N (by omega) (by omega)
    rw [Af.Mul.Au,Aq,Ay7 (by omega),Ay6]
    exact n.trans (ih (i+1) M (by omega) (by omega))
theorem Zk.inner (N:Nat) {r c x y:Int} {l:List Int} {A B:Nat} (h6:A≤6∧B≤6) (hr:Av r c l=true) (hp:Gk r c x y (A:Int) (B:Int)=true) {F:Nat→Nat→Int} (hF:F=fun (i j:Nat)=>Cj c l (x+(i:Int)) (y+(j:Int))) {i:Nat} (hi:i<A):∀ (k j M0 M:Nat),j+k=B→k<M →
    Af.Part.L1 N M0 M r c l x y (A:Int) (B:Int) (j:Int) (fill A B F (dR i j)) (i:Int)=Af.Part.L0 N M0 r c l x y (A:Int) (B:Int) ((i+1:Nat):Int) (fill A B F (dR (i+1) 0)):=by
  intro k
  induction k with
  | zero =>
    intro j M0 M hj hM
    obtain ⟨M,rfl⟩:∃ G,M=G+1:=⟨M-1,by omega⟩
    have e:fill A B F (dR i j)=fill A B F (dR (i+1) 0):=Tk fun a b ha hb=>by simp only [dR,Azd]; omega
    rw [Af.Part.B2,Aq,Azb (by omega),Aza,Am (by omega) (by omega),e]
    rfl
  | succ k ih =>
    intro j M0 M hj hM
    obtain ⟨M,rfl⟩:∃ G,M=G+1:=⟨M-1,by omega⟩
    have hs:=He.1 hr
    have hq:=of_decide_eq_true hp
    have c1:Cd r c l (x+(i:Int)) (y+(j:Int))=true:=I9 hr (by omega) (by omega) (by omega) (by omega) r
    have c9:Cd (A:Int) (B:Int) (fill A B F (dR i j)) (i:Int) (j:Int)=true:=Cy (by omega) (by omega) (N3 _ _ _ _) (by omega) (by omega)
    rw [Af.Part.B2,Aq,Ay7 (by omega),Ay6,Am (x:=x+(i:Int)) (by omega) (by omega),Am (x:=y+(j:Int)) (by omega) (by omega),c1,Ay6,c9,Ay6,Am (x:=(j:Int)+1) (by omega) (by omega),U8 (d':=dR i (j+1)) (by omega) (by rw [hF]) (fun a b ha hb=>by simp only [dR,Azd]; omega)]
    exact ih (j+1) M0 M (by omega) (by omega)
theorem Zk.outer (N:Nat) (hN:6<N) {r c x y:Int} {l:List Int} {A B:Nat} (h6:A≤6∧B≤6) (hr:Av r c l=true) (hp:Gk r c x y (A:Int) (B:Int)=true) {F:Nat→Nat→Int} (hF:F=fun (i j:Nat)=>Cj c l (x+(i:Int)) (y+(j:Int))):∀ (k i M:Nat),i+k=A→k<M →
    Af.Part.L0 N M r c l x y (A:Int) (B:Int) (i:Int) (fill A B F (dR i 0))=some (.agg [.int .i64 (A:Int),.int .i64 (B:Int),.ints .fresh .u64 (Bg A B F)]):=by
  intro k
  induction k with
  | zero =>
    intro i M hi hM
    obtain ⟨M,rfl⟩:∃ G,M=G+1:=⟨M-1,by omega⟩
    rw [Af.Part.Au,Aq,Azb (by omega),Aza,Zi (fun a b ha hb=>by simp only [dR,Azd]; omega)]
  | succ k ih =>
    intro i M hi hM
    obtain ⟨M,rfl⟩:∃ G,M=G+1:=⟨M-1,by omega⟩
    have n:=Zk.inner N h6 hr hp hF (show i<A by omega) B 0 M N (by omega) (by omega)
    rw [Af.Part.Au,Aq,Ay7 (by omega),Ay6]
    exact n.trans (ih (i+1) M (by omega) (by omega))
theorem Zj.inner (N:Nat) {R C:Nat} {l:List Int} (h6:R≤6∧C≤6) (hl:l.length=R*C) {F:Nat→Nat→Int} (hF:F=fun (i j:Nat)=>Cj (C:Int) l (j:Int) (i:Int)) {i:Nat} (hi:i<R):∀ (k j M0 M:Nat),j+k=C→k<M →
    Af.Co.L1 N M0 M (R:Int) (C:Int) l (j:Int) (fill C R F (dC i j)) (i:Int)=Af.Co.L0 N M0 (R:Int) (C:Int) l ((i+1:Nat):Int) (fill C R F (dC (i+1) 0)):=by
  intro k
  induction k with
  | zero =>
    intro j M0 M hj hM
    obtain ⟨M,rfl⟩:∃ G,M=G+1:=⟨M-1,by omega⟩
    have e:fill C R F (dC i j)=fill C R F (dC (i+1) 0):=Tk fun a b ha hb=>by simp only [dC,Azd]; omega
    rw [Af.Co.B2,Aq,Azb (by omega),Aza,Am (by omega) (by omega),e]
    rfl
  | succ k ih =>
    intro j M0 M hj hM
    obtain ⟨M,rfl⟩:∃ G,M=G+1:=⟨M-1,by omega⟩
    have c1:Cd (R:Int) (C:Int) l (i:Int) (j:Int)=true:=Cy h6.1 h6.2 hl hi (by omega)
    have c9:Cd (C:Int) (R:Int) (fill C R F (dC i j)) (j:Int) (i:Int)=true:=Cy (by omega) (by omega) (N3 _ _ _ _) (by omega) (by omega)
    rw [Af.Co.B2,Aq,Ay7 (by omega),Ay6,c1,Ay6,c9,Ay6,Am (x:=(j:Int)+1) (by omega) (by omega),U8 (d':=dC i (j+1)) (by omega) (by rw [hF]) (fun a b ha hb=>by simp only [dC,Azd]; omega)]
    exact ih (j+1) M0 M (by omega) (by omega)
theorem Zj.outer (N:Nat) (hN:6<N) {R C:Nat} {l:List Int} (h6:R≤6∧C≤6) (hl:l.length=R*C) {F:Nat→Nat→Int} (hF:F=fun (i j:Nat)=>Cj (C:Int) l (j:Int) (i:Int)):∀ (k i M:Nat),i+k=R→k<M →
    Af.Co.L0 N M (R:Int) (C:Int) l (i:Int) (fill C R F (dC i 0))=some (.agg [.int .i64 (C:Int),.int .i64 (R:Int),.ints .fresh .u64 (Bg C R F)]):=by
  intro k
  induction k with
  | zero =>
    intro i M hi hM
    obtain ⟨M,rfl⟩:∃ G,M=G+1:=⟨M-1,by omega⟩
    rw [Af.Co.Au,Aq,Azb (by omega),Aza,Zi (fun a b ha hb=>by simp only [dC,Azd]; omega)]
  | succ k ih =>
    intro i M hi hM
    obtain ⟨M,rfl⟩:∃ G,M=G+1:=⟨M-1,by omega⟩
    have n:=Zj.inner N h6 hl hF (show i<R by omega) C 0 M N (by omega) (by omega)
    rw [Af.Co.Au,Aq,Ay7 (by omega),Ay6]
    exact n.trans (ih (i+1) M (by omega) (by omega))
theorem Af.Co.known:Af.Co.Kn:=Af.Co.Ac (.cons Af.At.known (.cons Af.F5.known (.cons Af.Bm.known .nil))) fun r c l hp=>by
  have hr:Av r c l=true:=hp
  obtain ⟨R,C,rfl,rfl,r6,c6,hl⟩:=B8 hr
  refine ⟨8,.agg [.int .i64 (C:Int),.int .i64 (R:Int),.ints .fresh .u64 (Bg C R fun (i j:Nat)=>Cj (C:Int) l (j:Int) (i:Int))],[],?_,Tx⟩
  have n:=Zj.outer 8 (by omega) ⟨r6,c6⟩ hl rfl R 0 8 (by omega) (by omega)
  rw [Sb (fun a b ha hb=>by simp only [dC,Azd]; omega)] at n
  rw [Af.Co.ev,Rt r6,Rt c6,Azc,Ay6,Ay8,Ay8]
  exact n
theorem Af.Part.known:Af.Part.Kn:=Af.Part.Ac (.cons Af.At.known (.cons Af.F5.known (.cons Af.Bm.known .nil))) fun r c l x y a b hp=>by
  obtain ⟨hr,hq⟩:=Ad.1 (show (Av r c l&&Gk r c x y a b)=true from hp)
  obtain ⟨s1,s2⟩:=Yh hr hq
  obtain ⟨A,rfl,hA⟩:=Et s1
  obtain ⟨B,rfl,hB⟩:=Et s2
  refine ⟨8,.agg [.int .i64 (A:Int),.int .i64 (B:Int),.ints .fresh .u64 (Bg A B fun (i j:Nat)=>Cj c l (x+(i:Int)) (y+(j:Int)))],[],?_,Tx⟩
  have n:=Zk.outer 8 (by omega) ⟨hA,hB⟩ hr hq rfl A 0 8 (by omega) (by omega)
  rw [Sb (fun a b ha hb=>by simp only [dR,Azd]; omega)] at n
  rw [Af.Part.ev,s1,s2,Azc,Ay6,Ay8,Ay8]
  exact n
theorem Af.Mul.known:Af.Mul.Kn:=Af.Mul.Ac (.cons Ak.Ig.known (.cons Af.Qk.known (.cons Af.Row.known (.cons Af.F5.known (.cons Af.Bm.known .nil))))) fun r c l p q m hp=>by
  obtain ⟨h1,h2⟩:=Ad.1 (show ((Av r c l&&Av p q m)&&((Ae l&&Ae m)&&decide (c=p)))=true from hp)
  obtain ⟨hr,hm⟩:=Ad.1 h1
  obtain ⟨h3,h4⟩:=Ad.1 h2
  obtain ⟨al,am⟩:=Ad.1 h3
  have ec:=of_decide_eq_true h4
  obtain ⟨R,C,rfl,rfl,r6,c6,hl⟩:=B8 hr
  obtain ⟨P,Q,rfl,rfl,p6,q6,_⟩:=B8 hm
  refine ⟨8,.agg [.int .i64 (R:Int),.int .i64 (Q:Int),.ints .fresh .u64 (Bg R Q fun (i j:Nat)=>G1 (Fw (C:Int) l (i:Int)) (Hk (P:Int) (Q:Int) m (j:Int)))],[],?_,Tx⟩
  have n:=Adh.outer 8 (by omega) ⟨r6,c6,q6⟩ hl hr hm ec.symm al am rfl R 0 8 (by omega) (by omega)
  rw [Sb (fun a b ha hb=>by simp only [dR,Azd]; omega)] at n
  rw [Af.Mul.ev,Rt r6,Rt q6,Azc,Ay6,Ay8,Ay8]
  exact n
theorem Asw (N:Nat) {n:Nat} (h6:n≤6):∀ (k i M:Nat),i+k=n→k<M →
    Af.Fc.L0 N M (n:Int) (i:Int) (fill n n (fun (a b:Nat)=>Ns (a:Int) (b:Int)) fun a b=>decide (a=b∧a<i))=some (.agg [.int .i64 (n:Int),.int .i64 (n:Int),.ints .fresh .u64 (Bg n n fun (a b:Nat)=>Ns (a:Int) (b:Int))]):=by
  intro k
  induction k with
  | zero =>
    intro i M hi hM
    obtain ⟨M,rfl⟩:∃ G,M=G+1:=⟨M-1,by omega⟩
    have e:fill n n (fun (a b:Nat)=>Ns (a:Int) (b:Int)) (fun a b=>decide (a=b∧a<i))=Bg n n fun (a b:Nat)=>Ns (a:Int) (b:Int):=by
      refine Dx fun a b ha hb=>?_
      by_cases h:a=b
      · rw [if_pos (Ay7 ⟨h,by omega⟩)]
      · rw [if_neg (fun k=>h (of_decide_eq_true k).1)]
        unfold Ns
        rw [if_neg (by omega)]
    rw [Af.Fc.Au,Aq,Azb (by omega),Aza,e]
  | succ k ih =>
    intro i M hi hM
    obtain ⟨M,rfl⟩:∃ G,M=G+1:=⟨M-1,by omega⟩
    have c9:Cd (n:Int) (n:Int) (fill n n (fun (a b:Nat)=>Ns (a:Int) (b:Int)) fun a b=>decide (a=b∧a<i)) (i:Int) (i:Int)=true:=Cy h6 h6 (N3 _ _ _ _) (by omega) (by omega)
    have one:(4607182418800017408:Int)=(fun (a b:Nat)=>Ns (a:Int) (b:Int)) i i:=(if_pos rfl).symm
    rw [Af.Fc.Au,Aq,Ay7 (by omega),Ay6,c9,Ay6,Am (by omega) (by omega),U8 (d':=fun a b=>decide (a=b∧a<i+1)) (by omega) one (fun a b ha hb=>by simp only [Azd]; omega)]
    exact ih (i+1) M (by omega) (by omega)
theorem Af.Fc.known:Af.Fc.Kn:=Af.Fc.Ac (.cons Af.F5.known (.cons Af.Bm.known .nil)) fun n hp=>by
  have hp:Bn n=true:=hp
  obtain ⟨n,rfl,h6⟩:=Et hp
  refine ⟨8,.agg [.int .i64 (n:Int),.int .i64 (n:Int),.ints .fresh .u64 (Bg n n fun (a b:Nat)=>Ns (a:Int) (b:Int))],[],?_,Tx⟩
  have e:=Asw 8 h6 n 0 8 (by omega) (by omega)
  rw [Sb (fun a b ha hb=>by simp only [Azd]; omega)] at e
  rw [Af.Fc.ev,hp,Azc,Ay6,Ay8]
  exact e
namespace EqHouse
def As.Bz.hint:Nat→Option Bb
  | 0=>some { keep:=[5,6,7],objs:=[],boxes:=[] }
  | _=>none
def As.Bz.A8:List (Nat × Entry):=[(155,soft.Kind.spec)]
def As.Bz.E:Env:=A9 (A7 As.Bz.A8) (fun _=>false) As.Bz.hint (fun _=>none)
def As.Bz.L0 (N M:Nat) (x:List Int) (p7:Int):Option DV:=Bv As.Bz.E N Tryz.f252 (Al Tryz.f252) [1,0,1,0] [] M ⟨Ft 15 [(5,.ints .arg .u64 x),(6,.int .i64 (List.length x:Int)),(7,.int .i64 p7)],[]⟩
theorem As.Bz.Au (N M:Nat) (x:List Int) (p7:Int):As.Bz.L0 N (M+1) x p7=bif (A6 p7 (List.length x:Int)) then bif ((decide (0≤p7))&&(decide (p7<(List.length x:Int)))) then bif (Ag (List.getD x (Int.toNat p7) 0)) then bif ((Be (List.getD x (Int.toNat p7) 0)) !=(0:Int)) then some (.bool false) else As.Bz.L0 N M x (Ab (p7+1)) else none else none else some (.bool true):=by kernel_rfl
theorem As.Bz.ev (N:Nat) (x:List Int):Bp As.Bz.E N Tryz.f252 (Al Tryz.f252) [.ints .arg .u64 x] =
  As.Bz.L0 N N x 0:=by kernel_rfl
abbrev _root_.Go.Proofs.S1.As.Bz.Kn:=A5 Tryz.prog 252 As.Bz.spec
theorem As.Bz.Ac (hk:Ay Tryz.prog As.Bz.A8) (h:∀ (x:List Int),As.Bz.pre [.l x]=true→Ba As.Bz.E Tryz.f252 [.ints .arg .u64 x] (As.Bz.out [.l x])):As.Bz.Kn :=
  Aj (A1 hk _ _ _) Tryz.func252 (by kernel_rfl) (by kernel_rfl) h
def As.lead.hint:Nat→Option Bb
  | 0=>some { keep:=[5,6,7],objs:=[],boxes:=[] }
  | _=>none
def As.lead.A8:List (Nat × Entry):=[(155,soft.Kind.spec)]
def As.lead.E:Env:=A9 (A7 As.lead.A8) (fun _=>false) As.lead.hint (fun _=>none)
def As.lead.L0 (N M:Nat) (x:List Int) (p7:Int):Option DV:=Bv As.lead.E N Tryz.f258 (Al Tryz.f258) [1,0,1,0] [] M ⟨Ft 16 [(5,.ints .arg .u64 x),(6,.int .i64 (List.length x:Int)),(7,.int .i64 p7)],[]⟩
theorem As.lead.Au (N M:Nat) (x:List Int) (p7:Int):As.lead.L0 N (M+1) x p7=bif (A6 p7 (List.length x:Int)) then bif ((decide (0≤p7))&&(decide (p7<(List.length x:Int)))) then bif (Ag (List.getD x (Int.toNat p7) 0)) then bif ((Be (List.getD x (Int.toNat p7) 0)) !=(0:Int)) then some (.int .u64 (List.getD x (Int.toNat p7) 0)) else As.lead.L0 N M x (Ab (p7+1)) else none else none else some (.int .u64 0):=by kernel_rfl
theorem As.lead.ev (N:Nat) (x:List Int):Bp As.lead.E N Tryz.f258 (Al Tryz.f258) [.ints .arg .u64 x] =
  As.lead.L0 N N x 0:=by kernel_rfl
abbrev _root_.Go.Proofs.S1.As.lead.Kn:=A5 Tryz.prog 258 As.lead.spec
theorem As.lead.Ac (hk:Ay Tryz.prog As.lead.A8) (h:∀ (x:List Int),As.lead.pre [.l x]=true→Ba As.lead.E Tryz.f258 [.ints .arg .u64 x] (As.lead.out [.l x])):As.lead.Kn :=
  Aj (A1 hk _ _ _) Tryz.func258 (by kernel_rfl) (by kernel_rfl) h
def As.Dr.hint:Nat→Option Bb
  | 0=>some { keep:=[1,5,8,9,10],objs:=[(0,5,100005,.ints 37 .u64 [])],boxes:=[] }
  | _=>none
def As.Dr.A8:List (Nat × Entry):=[(88,Ah.Bt.spec)]
def As.Dr.E:Env:=A9 (A7 As.Dr.A8) (fun _=>false) As.Dr.hint (fun _=>none)
def As.Dr.L0 (N M:Nat) (x:List Int) (k p10:Int) (p5:List Int):Option DV:=Bv As.Dr.E N Tryz.f256 (Al Tryz.f256) [1,1,0,1,0] [] M ⟨Ft 22 [(1,.int .i64 k),(5,.oref 100005),(8,.ints .arg .u64 x),(9,.int .i64 (List.length x:Int)),(10,.int .i64 p10)],[(100005,false,.ints 37 .u64 p5)]⟩
theorem As.Dr.Au (N M:Nat) (x:List Int) (k p10:Int) (p5:List Int):As.Dr.L0 N (M+1) x k p10 p5=bif (A6 p10 (List.length x:Int)) then bif ((decide (0≤p10))&&(decide (p10<(List.length x:Int)))) then bif (Dj (List.getD x (Int.toNat p10) 0) k) then bif (decide ((List.length p5)+1≤Gu)) then As.Dr.L0 N M x k (Ab (p10+1)) (p5++[(By (List.getD x (Int.toNat p10) 0) k)]) else none else none else none else some (.ints (.own 100005 37) .u64 p5):=by kernel_rfl
theorem As.Dr.ev (N:Nat) (x:List Int) (k:Int):Bp As.Dr.E N Tryz.f256 (Al Tryz.f256) [.ints .arg .u64 x,.int .i64 k] =
  As.Dr.L0 N N x k 0 []:=by kernel_rfl
abbrev _root_.Go.Proofs.S1.As.Dr.Kn:=A5 Tryz.prog 256 As.Dr.spec
theorem As.Dr.Ac (hk:Ay Tryz.prog As.Dr.A8) (h:∀ (x:List Int) (k:Int),As.Dr.pre [.l x,.i k]=true→Ba As.Dr.E Tryz.f256 [.ints .arg .u64 x,.int .i64 k] (As.Dr.out [.l x,.i k])):As.Dr.Kn :=
  Aj (A1 hk _ _ _) Tryz.func256 (by kernel_rfl) (by kernel_rfl) h
def As.Gg.A8:List (Nat × Entry):=[]
def As.Gg.E:Env:=A9 (A7 As.Gg.A8) (fun _=>false) (fun _=>none) (fun _=>none)
theorem As.Gg.ev (N:Nat) (i:Int):Bp As.Gg.E N Tryz.f254 (Al Tryz.f254) [.int .i64 i]=some (.int .u64 0):=by kernel_rfl
abbrev _root_.Go.Proofs.S1.As.Gg.Kn:=A5 Tryz.prog 254 As.Gg.spec
theorem As.Gg.Ac (hk:Ay Tryz.prog As.Gg.A8) (h:∀ (i:Int),As.Gg.pre [.i i]=true→Ba As.Gg.E Tryz.f254 [.int .i64 i] (As.Gg.out [.i i])):As.Gg.Kn :=
  Aj (A1 hk _ _ _) Tryz.func254 (by kernel_rfl) (by kernel_rfl) h
def As.Gf.A8:List (Nat × Entry):=[(158,Ah.Div.spec)]
def As.Gf.E:Env:=A9 (A7 As.Gf.A8) (fun _=>false) (fun _=>none) (fun _=>none)
theorem As.Gf.ev (N:Nat) (i:Int) (y:List Int) (d:Int):Bp As.Gf.E N Tryz.f259 (Al Tryz.f259) [.int .i64 i,.cellp [.ints .arg .u64 y],.cellp [.int .u64 d]]=bif ((decide (0≤i))&&(decide (i<(List.length y:Int)))) then bif (Ag (List.getD y (Int.toNat i) 0)&&Ag d) then some (.int .u64 (Ew (List.getD y (Int.toNat i) 0) d)) else none else none :=
  Eq.trans (by kernel_rfl)
  (Cq (Jw (decide (0≤i)) (decide (i<(List.length y:Int)))) (Cq (Ci (Ag (List.getD y (Int.toNat i) 0)&&Ag d)) rfl rfl) rfl)
abbrev _root_.Go.Proofs.S1.As.Gf.Kn:=A5 Tryz.prog 259 As.Gf.spec
theorem As.Gf.Ac (hk:Ay Tryz.prog As.Gf.A8) (h:∀ (i:Int) (y:List Int) (d:Int),As.Gf.pre [.i i,.l y,.i d]=true→Ba As.Gf.E Tryz.f259 [.int .i64 i,.cellp [.ints .arg .u64 y],.cellp [.int .u64 d]] (As.Gf.out [.i i,.l y,.i d])):As.Gf.Kn :=
  Aj (A1 hk _ _ _) Tryz.func259 (by kernel_rfl) (by kernel_rfl) h
def As.row.Zero.hint:Nat→Option Bb
  | 0=>some { keep:=[0,1,5,6],objs:=[(0,5,100005,.ints 37 .u64 [])],boxes:=[] }
  | _=>none
def As.row.Zero.A8:List (Nat × Entry):=[(254,As.Gg.spec)]
def As.row.Zero.E:Env:=A9 (A7 As.row.Zero.A8) (fun _=>false) As.row.Zero.hint (fun _=>none)
def As.row.Zero.L0 (N M:Nat) (n p6:Int) (p5:List Int):Option DV:=Bv As.row.Zero.E N Tryz.f253 (Al Tryz.f253) [1,1,0,1,0] [] M ⟨Ft 23 [(0,.int .i64 n),(1,.fn 254 [] []),(5,.oref 100005),(6,.int .i64 p6)],[(100005,false,.ints 37 .u64 p5)]⟩
theorem As.row.Zero.Au (N M:Nat) (n p6:Int) (p5:List Int):As.row.Zero.L0 N (M+1) n p6 p5=bif (A6 p6 n) then bif (decide ((List.length p5)+1≤Gu)) then As.row.Zero.L0 N M n (Ab (p6+1)) (p5++[(0:Int)]) else none else bif (((decide ((0:Int)≤n))&&(decide (n≤n)))&&((decide ((0:Int)≤n))&&(decide (n≤(List.length p5:Int))))) then some (.ints .fresh .u64 (List.take (Int.toNat (n-0)) (List.drop 0 p5))) else none :=
  Eq.trans (by kernel_rfl)
  (Ea rfl (Cq (At5 (decide ((0:Int)≤n)) (decide (n≤n)) (decide (n≤(List.length p5:Int)))) rfl rfl))
theorem As.row.Zero.ev (N:Nat) (n:Int):Bp As.row.Zero.E N Tryz.f253 (Al Tryz.f253) [.int .i64 n,.fn 254 [] []] =
  As.row.Zero.L0 N N n 1 [(4607182418800017408:Int)]:=by kernel_rfl
abbrev _root_.Go.Proofs.S1.As.row.Zero.Kn:=A5 Tryz.prog 253 As.row.Zero.spec
theorem As.row.Zero.Ac (hk:Ay Tryz.prog As.row.Zero.A8) (h:∀ (n:Int),As.row.Zero.pre [.i n]=true→Ba As.row.Zero.E Tryz.f253 [.int .i64 n,.fn 254 [] []] (As.row.Zero.out [.i n])):As.row.Zero.Kn :=
  Aj (A1 hk _ _ _) Tryz.func253 (by kernel_rfl) (by kernel_rfl) h
def As.row.Div.hint:Nat→Option Bb
  | 0=>some { keep:=[0,1,5,6],objs:=[(0,5,100005,.ints 37 .u64 [])],boxes:=[] }
  | _=>none
def As.row.Div.A8:List (Nat × Entry):=[(259,As.Gf.spec)]
def As.row.Div.E:Env:=A9 (A7 As.row.Div.A8) (fun _=>false) As.row.Div.hint (fun _=>none)
def As.row.Div.L0 (N M:Nat) (n:Int) (y:List Int) (d p6:Int) (p5:List Int):Option DV:=Bv As.row.Div.E N Tryz.f253 (Al Tryz.f253) [1,1,0,1,0] [] M ⟨Ft 23 [(0,.int .i64 n),(1,.fn 259 [] [.cellp [.ints .arg .u64 y],.cellp [.int .u64 d]]),(5,.oref 100005),(6,.int .i64 p6)],[(100005,false,.ints 37 .u64 p5)]⟩
theorem As.row.Div.Au (N M:Nat) (n:Int) (y:List Int) (d p6:Int) (p5:List Int):As.row.Div.L0 N (M+1) n y d p6 p5=bif (A6 p6 n) then bif ((Dh (0≤p6∧p6<List.length y)&&Ae y)&&Ag d) then bif (decide ((List.length p5)+1≤Gu)) then As.row.Div.L0 N M n y d (Ab (p6+1)) (p5++[(Ew (List.getD y (Int.toNat p6) 0) d)]) else none else none else bif (((decide ((0:Int)≤n))&&(decide (n≤n)))&&((decide ((0:Int)≤n))&&(decide (n≤(List.length p5:Int))))) then some (.ints .fresh .u64 (List.take (Int.toNat (n-0)) (List.drop 0 p5))) else none :=
  Eq.trans (by kernel_rfl)
  (Ea rfl (Cq (At5 (decide ((0:Int)≤n)) (decide (n≤n)) (decide (n≤(List.length p5:Int)))) rfl rfl))
theorem As.row.Div.ev (N:Nat) (n:Int) (y:List Int) (d:Int):Bp As.row.Div.E N Tryz.f253 (Al Tryz.f253) [.int .i64 n,.fn 259 [] [.cellp [.ints .arg .u64 y],.cellp [.int .u64 d]]] =
  As.row.Div.L0 N N n y d 1 [(4607182418800017408:Int)]:=by kernel_rfl
abbrev _root_.Go.Proofs.S1.As.row.Div.Kn:=A5 Tryz.prog 253 As.row.Div.spec
theorem As.row.Div.Ac (hk:Ay Tryz.prog As.row.Div.A8) (h:∀ (n:Int) (y:List Int) (d:Int),As.row.Div.pre [.i n,.l y,.i d]=true→Ba As.row.Div.E Tryz.f253 [.int .i64 n,.fn 259 [] [.cellp [.ints .arg .u64 y],.cellp [.int .u64 d]]] (As.row.Div.out [.i n,.l y,.i d])):As.row.Div.Kn :=
  Aj (A1 hk _ _ _) Tryz.func253 (by kernel_rfl) (by kernel_rfl) h
def As.Dy.A8:List (Nat × Entry):=[(255,compare.L4.spec),(258,As.lead.spec),(252,As.Bz.spec),(253,(Avb [.i .i64,.fn 254 []] As.row.Zero.spec As.row.Div.spec)),(256,As.Dr.spec),(148,soft.Finite.spec),(233,soft.Dv.spec),(213,soft.Sign.spec),(89,Ah.Bq.spec),(158,Ah.Div.spec),(150,Ah.Finite.spec),(257,Ah.Norm.spec),(88,Ah.Bt.spec),(156,Ah.Sub.spec)]
def As.Dy.E:Env:=A9 (A7 As.Dy.A8) (fun _=>false) (fun _=>none) (fun _=>none)
theorem As.Dy.ev (N:Nat) (x:List Int):Bp As.Dy.E N Tryz.f245 (Al Tryz.f245) [.ints .arg .u64 x]=bif (((List.length x:Int)==(0:Int))||(A6 64 (List.length x:Int))) then some (.tup [.nil,.int .u64 0,.int .u64 0,.int .i64 3]) else bif (Cz x) then bif (!(Di x)) then some (.tup [.nil,.int .u64 0,.int .u64 0,.int .i64 4]) else bif (decide ((1:Int)≤(List.length x:Int))) then bif (Cz (List.drop 1 x)) then bif (Eh (List.drop 1 x)) then bif (Dh (1≤(List.length x:Int)∧(List.length x:Int)≤64)) then bif (decide ((0:Int)<(List.length x:Int))) then some (.tup [.ints .fresh .u64 (Jp (Int.toNat (List.length x:Int)) (fun _=>0)),.int .u64 0,.int .u64 (List.getD x 0 0),.int .i64 0]) else none else none else bif (Cz x) then bif (Ag (Bf x)) then bif (Cz x&&Dh (List.length x≤1000∧-2300≤(Ab (0-(Bs (Bf x))))∧(Ab (0-(Bs (Bf x))))≤2300)) then bif (Cz (Bo x (Ab (0-(Bs (Bf x)))))&&Dh (List.length (Bo x (Ab (0-(Bs (Bf x)))))≤64)) then bif (Cz x) then bif (Ag (O8 x)) then bif (!(D0 (O8 x))) then bif (Ag (Dq (Bo x (Ab (0-(Bs (Bf x))))))) then bif (Dj (Dd (Dq (Bo x (Ab (0-(Bs (Bf x))))))) (Bs (Bf x))) then bif (Ag (By (Dd (Dq (Bo x (Ab (0-(Bs (Bf x))))))) (Bs (Bf x)))) then bif (!(Da (By (Dd (Dq (Bo x (Ab (0-(Bs (Bf x))))))) (Bs (Bf x))))) then some (.tup [.nil,.int .u64 0,.int .u64 0,.int .i64 2]) else bif (decide ((0:Int)<(List.length (Bo x (Ab (0-(Bs (Bf x))))):Int))) then bif (Ag (List.getD (Bo x (Ab (0-(Bs (Bf x))))) 0 0)&&Ag (Dd (Dq (Bo x (Ab (0-(Bs (Bf x)))))))) then bif ((Dh (1≤(List.length (Bo x (Ab (0-(Bs (Bf x))))):Int)∧(List.length (Bo x (Ab (0-(Bs (Bf x))))):Int)≤64∧(List.length (Bo x (Ab (0-(Bs (Bf x))))):Int)=List.length (Bo x (Ab (0-(Bs (Bf x))))))&&Ae (Bo x (Ab (0-(Bs (Bf x))))))&&Ag (Db (List.getD (Bo x (Ab (0-(Bs (Bf x))))) 0 0) (Dd (Dq (Bo x (Ab (0-(Bs (Bf x))))))))) then bif (decide ((0:Int)<(List.length (Bo x (Ab (0-(Bs (Bf x))))):Int))) then bif (Ag (Dd (Dq (Bo x (Ab (0-(Bs (Bf x)))))))&&Ag (List.getD (Bo x (Ab (0-(Bs (Bf x))))) 0 0)) then bif (Ag (Db (Dd (Dq (Bo x (Ab (0-(Bs (Bf x))))))) (List.getD (Bo x (Ab (0-(Bs (Bf x))))) 0 0))&&Ag (Dd (Dq (Bo x (Ab (0-(Bs (Bf x)))))))) then some (.tup [.ints .fresh .u64 (Jp (Int.toNat (List.length (Bo x (Ab (0-(Bs (Bf x))))):Int)) (fun j=>Ew (List.getD (Bo x (Ab (0-(Bs (Bf x))))) j 0) (Db (List.getD (Bo x (Ab (0-(Bs (Bf x))))) 0 0) (Dd (Dq (Bo x (Ab (0-(Bs (Bf x)))))))))),.int .u64 (Ew (Db (Dd (Dq (Bo x (Ab (0-(Bs (Bf x))))))) (List.getD (Bo x (Ab (0-(Bs (Bf x))))) 0 0)) (Dd (Dq (Bo x (Ab (0-(Bs (Bf x)))))))),.int .u64 (By (Dd (Dq (Bo x (Ab (0-(Bs (Bf x))))))) (Bs (Bf x))),.int .i64 0]) else none else none else none else none else none else none else none else none else none else bif (Dj (Dq (Bo x (Ab (0-(Bs (Bf x)))))) (Bs (Bf x))) then bif (Ag (By (Dq (Bo x (Ab (0-(Bs (Bf x)))))) (Bs (Bf x)))) then bif (!(Da (By (Dq (Bo x (Ab (0-(Bs (Bf x)))))) (Bs (Bf x))))) then some (.tup [.nil,.int .u64 0,.int .u64 0,.int .i64 2]) else bif (decide ((0:Int)<(List.length (Bo x (Ab (0-(Bs (Bf x))))):Int))) then bif (Ag (List.getD (Bo x (Ab (0-(Bs (Bf x))))) 0 0)&&Ag (Dq (Bo x (Ab (0-(Bs (Bf x))))))) then bif ((Dh (1≤(List.length (Bo x (Ab (0-(Bs (Bf x))))):Int)∧(List.length (Bo x (Ab (0-(Bs (Bf x))))):Int)≤64∧(List.length (Bo x (Ab (0-(Bs (Bf x))))):Int)=List.length (Bo x (Ab (0-(Bs (Bf x))))))&&Ae (Bo x (Ab (0-(Bs (Bf x))))))&&Ag (Db (List.getD (Bo x (Ab (0-(Bs (Bf x))))) 0 0) (Dq (Bo x (Ab (0-(Bs (Bf x)))))))) then bif (decide ((0:Int)<(List.length (Bo x (Ab (0-(Bs (Bf x))))):Int))) then bif (Ag (Dq (Bo x (Ab (0-(Bs (Bf x))))))&&Ag (List.getD (Bo x (Ab (0-(Bs (Bf x))))) 0 0)) then bif (Ag (Db (Dq (Bo x (Ab (0-(Bs (Bf x)))))) (List.getD (Bo x (Ab (0-(Bs (Bf x))))) 0 0))&&Ag (Dq (Bo x (Ab (0-(Bs (Bf x))))))) then some (.tup [.ints .fresh .u64 (Jp (Int.toNat (List.length (Bo x (Ab (0-(Bs (Bf x))))):Int)) (fun j=>Ew (List.getD (Bo x (Ab (0-(Bs (Bf x))))) j 0) (Db (List.getD (Bo x (Ab (0-(Bs (Bf x))))) 0 0) (Dq (Bo x (Ab (0-(Bs (Bf x))))))))),.int .u64 (Ew (Db (Dq (Bo x (Ab (0-(Bs (Bf x)))))) (List.getD (Bo x (Ab (0-(Bs (Bf x))))) 0 0)) (Dq (Bo x (Ab (0-(Bs (Bf x))))))),.int .u64 (By (Dq (Bo x (Ab (0-(Bs (Bf x)))))) (Bs (Bf x))),.int .i64 0]) else none else none else none else none else none else none else none else none else none else none else none else none else none else none else none else none else none :=
  Eq.trans (by kernel_rfl)
  (Ar (Rs ((List.length x:Int)==(0:Int))) (Ar (Pg ((List.length x:Int)==(0:Int))) (Ar (Pg ((List.length x:Int)==(0:Int))) (Ar (Xb ((List.length x:Int)==(0:Int))) (Cq (tt5 ((List.length x:Int)==(0:Int)) (A6 64 (List.length x:Int))) rfl (Ea (Ea rfl (Cq (Ax4 (decide ((1:Int)≤(List.length x:Int)))) (Ea (Ea (Cq (Ci (Dh (1≤(List.length x:Int)∧(List.length x:Int)≤64))) (Cq (Ci (decide ((0:Int)<(List.length x:Int)))) rfl rfl) rfl) rfl) rfl) rfl)) rfl))))))
abbrev _root_.Go.Proofs.S1.As.Dy.Kn:=A5 Tryz.prog 245 As.Dy.spec
theorem As.Dy.Ac (hk:Ay Tryz.prog As.Dy.A8) (h:∀ (x:List Int),As.Dy.pre [.l x]=true→Ba As.Dy.E Tryz.f245 [.ints .arg .u64 x] (As.Dy.out [.l x])):As.Dy.Kn :=
  Aj (A1 hk _ _ _) Tryz.func245 (by kernel_rfl) (by kernel_rfl) h
def As.Apply.hint:Nat→Option Bb
  | 0=>some { keep:=[1,3,4,5,10,13,14],objs:=[(14,2,114002,.ints 37 .u64 [])],boxes:=[5,10,13] }
  | 2=>some { keep:=[1,3,4,5,10,13,14,18,90,91,92],objs:=[(14,2,114002,.ints 37 .u64 [])],boxes:=[5,10,13] }
  | _=>none
def As.Apply.A8:List (Nat × Entry):=[(160,Aa.Check.spec),(191,Aa.D8.spec),(189,Ah.Ig.spec),(157,Ah.Mul.spec),(156,Ah.Sub.spec)]
def As.Apply.E:Env:=A9 (A7 As.Apply.A8) (fun _=>false) As.Apply.hint (fun _=>none)
def As.Apply.L0 (N M:Nat) (r c:Int) (l:List Int) (i:Int) (v:List Int) (t p14:Int) (p2_1:List Int):Option DV:=Bv As.Apply.E N Tryz.f219 (Al Tryz.f219) [1,1,1,1,0,1,0] [] M ⟨Ft 118 [(1,.int .i64 i),(3,.ints .arg .u64 v),(4,.int .u64 t),(5,.ptr 5 0 0),(10,.ptr 10 0 0),(13,.ptr 13 0 0),(14,.int .i64 p14)],[(5,false,.box [.int .i64 r,.int .i64 c,.ints .arg .u64 l]),(10,false,.box [.int .i64 0,.int .i64 0,.nil]),(13,false,.box [.int .i64 r,.int .i64 c,.oref 114002]),(114002,false,.ints 37 .u64 p2_1)]⟩
def As.Apply.L1 (N M0 M:Nat) (r c:Int) (l:List Int) (i:Int) (v:List Int) (t p92:Int) (p2:List Int) (p14_1 p18:Int) (p90:List Int) (p91:Int):Option DV:=Bv As.Apply.E N Tryz.f219 (Al Tryz.f219) [1,1,1,1,0,1,0,0,1,0,0,1,1,1,1,0] [M0] M ⟨Ft 118 [(1,.int .i64 i),(3,.ints .arg .u64 v),(4,.int .u64 t),(5,.ptr 5 0 0),(10,.ptr 10 0 0),(13,.ptr 13 0 0),(14,.int .i64 p14_1),(18,.int .u64 p18),(90,.ints .fresh .u64 p90),(91,.int .i64 p91),(92,.int .i64 p92)],[(5,false,.box [.int .i64 r,.int .i64 c,.ints .arg .u64 l]),(10,false,.box [.int .i64 0,.int .i64 0,.nil]),(13,false,.box [.int .i64 r,.int .i64 c,.oref 114002]),(114002,false,.ints 37 .u64 p2)]⟩
theorem As.Apply.Au (N M:Nat) (r c:Int) (l:List Int) (i:Int) (v:List Int) (t p14:Int) (p2_1:List Int):As.Apply.L0 N (M+1) r c l i v t p14 p2_1=bif (A6 p14 c) then bif (Hj r c l p14&&Dh (0≤i∧i≤r)) then bif (((decide ((0:Int)≤(List.length v:Int)))&&(decide ((List.length v:Int)≤(List.length v:Int))))&&((decide ((0:Int)≤(List.length v:Int)))&&(decide ((List.length v:Int)≤(List.length (Cu c l p14 i (Int.toNat (r-i))):Int))))) then bif ((Pc v (List.take (Int.toNat (List.length v:Int)) (Cu c l p14 i (Int.toNat (r-i))))&&Ae v)&&Ae (List.take (Int.toNat (List.length v:Int)) (Cu c l p14 i (Int.toNat (r-i))))) then bif (Ag t&&Ag (G1 v (List.take (Int.toNat (List.length v:Int)) (Cu c l p14 i (Int.toNat (r-i)))))) then As.Apply.L1 N M N r c l i v t 0 p2_1 p14 (D1 t (G1 v (List.take (Int.toNat (List.length v:Int)) (Cu c l p14 i (Int.toNat (r-i)))))) (List.take (Int.toNat (List.length v:Int)) (Cu c l p14 i (Int.toNat (r-i)))) (List.length (List.take (Int.toNat (List.length v:Int)) (Cu c l p14 i (Int.toNat (r-i)))):Int) else none else none else none else none else some (.tup [.agg [.int .i64 r,.int .i64 c,.ints (.own 114002 37) .u64 p2_1],.int .i64 0]) :=
  Eq.trans (by kernel_rfl)
  (Ea (Ea (Cq (At5 (decide ((0:Int)≤(List.length v:Int))) (decide ((List.length v:Int)≤(List.length v:Int))) (decide ((List.length v:Int)≤(List.length (Cu c l p14 i (Int.toNat (r-i))):Int)))) rfl rfl) rfl) rfl)
theorem As.Apply.B2 (N M0 M:Nat) (r c:Int) (l:List Int) (i:Int) (v:List Int) (t p92:Int) (p2:List Int) (p14_1 p18:Int) (p90:List Int) (p91:Int):As.Apply.L1 N M0 (M+1) r c l i v t p92 p2 p14_1 p18 p90 p91=bif (A6 p92 p91) then bif ((decide (0≤p92))&&(decide (p92<(List.length p90:Int)))) then bif ((decide (0≤p92))&&(decide (p92<(List.length v:Int)))) then bif (Ag p18&&Ag (List.getD v (Int.toNat p92) 0)) then bif (Ag (List.getD p90 (Int.toNat p92) 0)&&Ag (D1 p18 (List.getD v (Int.toNat p92) 0))) then bif ((decide (0≤(Ab ((Ab ((Ab (i+p92))*c))+p14_1))))&&(decide ((Ab ((Ab ((Ab (i+p92))*c))+p14_1))<(List.length p2:Int)))) then bif (decide ((Int.toNat (Ab ((Ab ((Ab (i+p92))*c))+p14_1)))<(List.length p2))) then As.Apply.L1 N M0 M r c l i v t (Ab (p92+1)) (List.set p2 (Int.toNat (Ab ((Ab ((Ab (i+p92))*c))+p14_1))) (Db (List.getD p90 (Int.toNat p92) 0) (D1 p18 (List.getD v (Int.toNat p92) 0)))) p14_1 p18 p90 p91 else none else none else none else none else none else none else As.Apply.L0 N M0 r c l i v t (Ab (p14_1+1)) p2 :=
  Eq.trans (by kernel_rfl)
  (Ea (Ea (Cq (Jw (decide (0≤p92)) (decide (p92<(List.length v:Int)))) (Cq (Ci (Ag p18&&Ag (List.getD v (Int.toNat p92) 0))) (Cq (Ci (Ag (List.getD p90 (Int.toNat p92) 0)&&Ag (D1 p18 (List.getD v (Int.toNat p92) 0)))) (Cq (Jw (decide (0≤(Ab ((Ab ((Ab (i+p92))*c))+p14_1)))) (decide ((Ab ((Ab ((Ab (i+p92))*c))+p14_1))<(List.length p2:Int)))) (Cq (Ci (decide ((Int.toNat (Ab ((Ab ((Ab (i+p92))*c))+p14_1)))<(List.length p2)))) rfl rfl) rfl) rfl) rfl) rfl) rfl) rfl)
theorem As.Apply.ev (N:Nat) (r c:Int) (l:List Int) (i k:Int) (v:List Int) (t:Int):Bp As.Apply.E N Tryz.f219 (Al Tryz.f219) [.agg [.int .i64 r,.int .i64 c,.ints .arg .u64 l],.int .i64 i,.int .i64 k,.ints .arg .u64 v,.int .u64 t]=bif ((La r c l) !=(0:Int)) then some (.tup [.agg [.int .i64 0,.int .i64 0,.nil],.int .i64 (La r c l)]) else bif (((((A6 i 0)||(A6 r (List.length v:Int)))||(A6 (Ab (r-(List.length v:Int))) i))||(A6 k 0))||(A6 c k)) then some (.tup [.agg [.int .i64 0,.int .i64 0,.nil],.int .i64 3]) else bif (decide (0+(List.length l)≤Gu)) then As.Apply.L0 N N r c l i v t k ([]++l) else none :=
  Eq.trans (by kernel_rfl)
  (Ea rfl (Ar (Rs (A6 i 0)) (Ar (Pg (A6 i 0)) (Ar (Rs (A6 i 0)) (Ar (Pg (A6 i 0)) (Ar (tt8 (A6 i 0)) (Ar (Xb (A6 i 0)) (Ar (Aeb (A6 i 0) (A6 r (List.length v:Int))) (Ar (Aeb (A6 i 0) (A6 r (List.length v:Int))) (Ar (Ab4 (A6 i 0) (A6 r (List.length v:Int))) (Ar (Aeb (A6 i 0) (A6 r (List.length v:Int))) (Ar (Ab4 (A6 i 0) (A6 r (List.length v:Int))) (Ar (Aq1 (A6 i 0) (A6 r (List.length v:Int))) (Ar (Aq1 (A6 i 0) (A6 r (List.length v:Int))) (Ar (Aq5 (A6 i 0) (A6 r (List.length v:Int))) (Ar (Aq6 (A6 i 0) (A6 r (List.length v:Int)) (A6 (Ab (r-(List.length v:Int))) i)) (Ar (Aec (A6 i 0) (A6 r (List.length v:Int)) (A6 (Ab (r-(List.length v:Int))) i)) (Ar (Aq7 (A6 i 0) (A6 r (List.length v:Int)) (A6 (Ab (r-(List.length v:Int))) i)) (Ar (Ako (A6 i 0) (A6 r (List.length v:Int)) (A6 (Ab (r-(List.length v:Int))) i) (A6 k 0)) (Ar (Ako (A6 i 0) (A6 r (List.length v:Int)) (A6 (Ab (r-(List.length v:Int))) i) (A6 k 0)) (Ar (Aed (A6 i 0) (A6 r (List.length v:Int)) (A6 (Ab (r-(List.length v:Int))) i) (A6 k 0)) (Ar (Awb (A6 i 0) (A6 r (List.length v:Int)) (A6 (Ab (r-(List.length v:Int))) i) (A6 k 0)) (Ar (Aq8 (A6 i 0) (A6 r (List.length v:Int)) (A6 (Ab (r-(List.length v:Int))) i) (A6 k 0)) (Cq (Ax3 (A6 i 0) (A6 r (List.length v:Int)) (A6 (Ab (r-(List.length v:Int))) i) (A6 k 0) (A6 c k)) rfl (Cq (Ci (decide (0+(List.length l)≤Gu))) rfl rfl)))))))))))))))))))))))))
abbrev _root_.Go.Proofs.S1.As.Apply.Kn:=A5 Tryz.prog 219 As.Apply.spec
theorem As.Apply.Ac (hk:Ay Tryz.prog As.Apply.A8) (h:∀ (r c:Int) (l:List Int) (i k:Int) (v:List Int) (t:Int),As.Apply.pre [.i r,.i c,.l l,.i i,.i k,.l v,.i t]=true→Ba As.Apply.E Tryz.f219 [.agg [.int .i64 r,.int .i64 c,.ints .arg .u64 l],.int .i64 i,.int .i64 k,.ints .arg .u64 v,.int .u64 t] (As.Apply.out [.i r,.i c,.l l,.i i,.i k,.l v,.i t])):As.Apply.Kn :=
  Aj (A1 hk _ _ _) Tryz.func219 (by kernel_rfl) (by kernel_rfl) h
end EqHouse
open EqHouse
theorem Xn (x:Int):((Be x) !=(0:Int))=!(decide (Be x=0)):=by
  rw [Azm]; simp
theorem Ac0 (N:Nat) {x:List Int} (hx:Cz x=true):∀ (k i F:Nat),i+k=x.length→k<F→As.Bz.L0 N F x (i:Int)=some (.bool (Eh (x.drop i))):=by
  obtain ⟨hl,hu⟩:=Ii hx
  intro k
  induction k with
  | zero =>
    intro i F hi hF
    obtain ⟨F,rfl⟩:∃ G,F=G+1:=⟨F-1,by omega⟩
    rw [As.Bz.Au,Aq,Azb (by omega),Aza,Azk (by omega)]; rfl
  | succ k ih =>
    intro i F hi hF
    obtain ⟨F,rfl⟩:∃ G,F=G+1:=⟨F-1,by omega⟩
    rw [As.Bz.Au,Aq,Ay7 (show (i:Int)<(x.length:Int) by omega),Ay6,Ay7 (show (0:Int)≤(i:Int) by omega),Azc,Ay6,Ay8,hu i (by omega),Ay6,Xn,Hi (by omega)]
    unfold Eh
    rw [List.all_cons]
    cases decide (Be (x.getD i 0)=0) with
    | false=>rfl
    | true =>
      rw [Bool.not_true,Aza,Bool.true_and,Am (by omega) (by omega)]
      exact ih (i+1) F (by omega) (by omega)
theorem As.Bz.known:As.Bz.Kn:=As.Bz.Ac (.cons soft.Kind.known .nil) fun x hp=>by
  refine ⟨x.length+1,As.Bz.out [.l x],[],?_,.bool⟩
  rw [As.Bz.ev]
  exact Ac0 (x.length+1) hp x.length 0 (x.length+1) (by omega) (by omega)
theorem Al5 (N:Nat) {x:List Int} (hx:Cz x=true):∀ (k i F:Nat),i+k=x.length→k<F→As.lead.L0 N F x (i:Int)=some (.int .u64 (O8 (x.drop i))):=by
  obtain ⟨hl,hu⟩:=Ii hx
  intro k
  induction k with
  | zero =>
    intro i F hi hF
    obtain ⟨F,rfl⟩:∃ G,F=G+1:=⟨F-1,by omega⟩
    rw [As.lead.Au,Aq,Azb (by omega),Aza,Azk (by omega)]; rfl
  | succ k ih =>
    intro i F hi hF
    obtain ⟨F,rfl⟩:∃ G,F=G+1:=⟨F-1,by omega⟩
    rw [As.lead.Au,Aq,Ay7 (show (i:Int)<(x.length:Int) by omega),Ay6,Ay7 (show (0:Int)≤(i:Int) by omega),Azc,Ay6,Ay8,hu i (by omega),Ay6,Xn,Hi (by omega),O8]
    by_cases h:Be (x.getD i 0)=0
    · rw [Ay7 h,if_pos h,Bool.not_true,Aza,Am (by omega) (by omega)]
      exact ih (i+1) F (by omega) (by omega)
    · rw [Azb h,if_neg h]; rfl
theorem As.lead.known:As.lead.Kn:=As.lead.Ac (.cons soft.Kind.known .nil) fun x hp=>by
  refine ⟨x.length+1,As.lead.out [.l x],[],?_,.int⟩
  rw [As.lead.ev]
  exact Al5 (x.length+1) hp x.length 0 (x.length+1) (by omega) (by omega)
theorem Xw {x:List Int} {i:Nat} (h:i<x.length) (f:Int→Int):(x.take (i+1)).map f=(x.take i).map f++[f (x.getD i 0)]:=by
  rw [List.take_succ_eq_append_getElem h,List.map_append,Azg,Azn h]; rfl
theorem Ach (N:Nat) {x:List Int} {e:Int} (hx:Cz x=true) (hl:x.length≤1000) (he:-2300≤e∧e≤2300):∀ (k i F:Nat),i+k=x.length→k<F →
    As.Dr.L0 N F x e (i:Int) ((x.take i).map fun b=>By b e)=some (.ints (.own 100005 tB) .u64 (Bo x e)):=by
  obtain ⟨_,hu⟩:=Ii hx
  intro k
  induction k with
  | zero =>
    intro i F hi hF
    obtain ⟨F,rfl⟩:∃ G,F=G+1:=⟨F-1,by omega⟩
    rw [As.Dr.Au,Aq,Azb (by omega),Aza,List.take_of_length_le (by omega)]; rfl
  | succ k ih =>
    intro i F hi hF
    obtain ⟨F,rfl⟩:∃ G,F=G+1:=⟨F-1,by omega⟩
    rw [As.Dr.Au,Aq,Ay7 (show (i:Int)<(x.length:Int) by omega),Ay6,Ay7 (show (0:Int)≤(i:Int) by omega),Azc,Ay6,Ay8,
      show Dj (List.getD x i 0) e=true from Ad.2 ⟨hu i (by omega),Aw.2 he⟩,Ay6,Ay7 (by rw [List.length_map,List.length_take]; unfold Gu; omega),Ay6,Am (by omega) (by omega)]
    have:=ih (i+1) F (by omega) (by omega)
    rw [Xw (by omega)] at this
    exact this
theorem As.Dr.known:As.Dr.Kn:=As.Dr.Ac (.cons Ah.Bt.known .nil) fun x k hp=>by
  obtain ⟨h1,h2⟩:=Ad.1 hp
  have h2:=Aw.1 h2
  refine ⟨x.length+1,.ints (.own 100005 tB) .u64 (Bo x k),[100005],?_,.drop _ _ _ _ (List.mem_singleton.2 rfl)⟩
  rw [As.Dr.ev]
  exact Ach (x.length+1) h1 h2.1 h2.2 x.length 0 (x.length+1) (by omega) (by omega)
theorem As.Gg.known:As.Gg.Kn:=As.Gg.Ac .nil fun i _=>⟨0,As.Gg.out [.i i],[],by rw [As.Gg.ev]; rfl,.int⟩
theorem As.Gf.known:As.Gf.Kn:=As.Gf.Ac (.cons Ah.Div.known .nil) fun i y d hp=>by
  obtain ⟨h1,h2⟩:=Ad.1 (show ((Dh (0≤i∧i<List.length y)&&Ae y)&&Ag d)=true from hp)
  obtain ⟨h3,h4⟩:=Ad.1 h1
  have h3:=Aw.1 h3
  refine ⟨0,As.Gf.out [.i i,.l y,.i d],[],?_,.int⟩
  rw [As.Gf.ev,Ay7 h3.1,Ay7 h3.2,Ja h4,h2]; rfl
theorem J4 (n i:Nat) (f:Nat→Int) (h:i+1=n):Jp n f=Auq::(List.range i).map fun j=>f (j+1):=by unfold Jp; rw [show n-1=i by omega]
theorem Aje {n:Nat} (f:Nat→Int) (h:n≠0):(((decide ((0:Int)≤(n:Int)))&&(decide ((n:Int)≤(n:Int))))&&((decide ((0:Int)≤(n:Int)))&&(decide ((n:Int)≤(List.length (Jp n f):Int)))))=true ∧
    List.take (Int.toNat ((n:Int)-(0:Int))) (List.drop 0 (Jp n f))=Jp n f:=by
  have:=Po h f
  refine ⟨?_,?_⟩
  · rw [Ay7 (by omega),Ay7 (by omega),Ay7 (by omega)]; rfl
  · rw [List.drop_zero,List.take_of_length_le (by omega)]
theorem Z7 (N:Nat) {n:Nat} (h64:n≤64) (h0:n≠0):∀ (k i F:Nat),i+1+k=n→k<F →
    As.row.Zero.L0 N F (n:Int) ((i+1:Nat):Int) (Jp (i+1) fun _=>0)=some (.ints .fresh .u64 (Jp n fun _=>0)):=by
  intro k
  induction k with
  | zero =>
    intro i F hi hF
    obtain ⟨F,rfl⟩:∃ G,F=G+1:=⟨F-1,by omega⟩
    obtain rfl:i+1=n:=by omega
    obtain ⟨e1,e2⟩:=Aje (fun _=>0) h0
    rw [As.row.Zero.Au,Aq,Azb (by omega),Aza,e1,Ay6,e2]
  | succ k ih =>
    intro i F hi hF
    obtain ⟨F,rfl⟩:∃ G,F=G+1:=⟨F-1,by omega⟩
    rw [As.row.Zero.Au,Aq,Ay7 (by omega),Ay6,Ay7 (by rw [Po (by omega)]; unfold Gu; omega),Ay6,Am (by omega) (by omega)]
    have:=ih (i+1) F (by omega) (by omega)
    rw [J4 (i+1+1) (i+1) _ rfl,Hd] at this
    rw [J4 (i+1) i _ rfl]
    exact this
theorem As.row.Zero.known:As.row.Zero.Kn:=As.row.Zero.Ac (.cons As.Gg.known .nil) fun n hp=>by
  have hp:=Aw.1 (show Dh (1≤n∧n≤64)=true from hp)
  obtain ⟨m,rfl⟩:∃ m:Nat,n=m:=⟨n.toNat,by omega⟩
  refine ⟨65,As.row.Zero.out [.i m],[],?_,.P2⟩
  show _=some (DV.ints .fresh .u64 (Jp (Int.toNat (m:Int)) fun _=>0))
  rw [As.row.Zero.ev,Ay8]
  exact Z7 65 (by omega) (by omega) (m-1) 0 65 (by omega) (by omega)
theorem Ack (N:Nat) {n:Nat} {y:List Int} {d:Int} (h64:n≤64) (h0:n≠0) (hy:n=y.length) (al:Ae y=true) (hd:Ag d=true):∀ (k i F:Nat),i+1+k=n→k<F →
    As.row.Div.L0 N F (n:Int) y d ((i+1:Nat):Int) (Jp (i+1) fun j=>Ew (y.getD j 0) d)=some (.ints .fresh .u64 (Jp n fun j=>Ew (y.getD j 0) d)):=by
  intro k
  induction k with
  | zero =>
    intro i F hi hF
    obtain ⟨F,rfl⟩:∃ G,F=G+1:=⟨F-1,by omega⟩
    obtain rfl:i+1=n:=by omega
    obtain ⟨e1,e2⟩:=Aje (fun j=>Ew (y.getD j 0) d) h0
    rw [As.row.Div.Au,Aq,Azb (by omega),Aza,e1,Ay6,e2]
  | succ k ih =>
    intro i F hi hF
    obtain ⟨F,rfl⟩:∃ G,F=G+1:=⟨F-1,by omega⟩
    rw [As.row.Div.Au,Aq,Ay7 (by omega),Ay6,Aw.2 (show 0≤((i+1:Nat):Int)∧((i+1:Nat):Int)<(y.length:Int) by omega),al,hd,Azc,Azc,Ay6,Ay7 (by rw [Po (by omega)]; unfold Gu; omega),Ay6,Am (by omega) (by omega),Ay8]
    have:=ih (i+1) F (by omega) (by omega)
    rw [J4 (i+1+1) (i+1) _ rfl,Hd] at this
    rw [J4 (i+1) i _ rfl]
    exact this
theorem As.row.Div.known:As.row.Div.Kn:=As.row.Div.Ac (.cons As.Gf.known .nil) fun n y d hp=>by
  obtain ⟨h1,h2⟩:=Ad.1 (show ((Dh (1≤n∧n≤64∧n=List.length y)&&Ae y)&&Ag d)=true from hp)
  obtain ⟨h3,h4⟩:=Ad.1 h1
  have h3:=Aw.1 h3
  obtain ⟨m,rfl⟩:∃ m:Nat,n=m:=⟨n.toNat,by omega⟩
  refine ⟨65,As.row.Div.out [.i m,.l y,.i d],[],?_,.P2⟩
  show _=some (DV.ints .fresh .u64 (Jp (Int.toNat (m:Int)) fun j=>Ew (List.getD y j 0) d))
  rw [As.row.Div.ev,Ay8]
  exact Ack 65 (by omega) (by omega) (by omega) h4 h2 (m-1) 0 65 (by omega) (by omega)
theorem Rv {x:List Int} {k:Int} {j:Nat} (h:j<x.length):(Bo x k).getD j 0=By (x.getD j 0) k:=by
  unfold Bo
  rw [Azg,List.getElem?_map,Azn h,Azg,Azn h]; rfl
theorem Aau (x:List Int) (k:Int):(Bo x k).length=x.length:=by unfold Bo; rw [List.length_map]
theorem Aav {x:List Int} (k:Int) (h:Ae x=true):Ae (Bo x k)=true:=Sd fun y hy=>by
  obtain ⟨b,hb,rfl⟩:=List.mem_map.1 hy
  exact H6 (Aw.1 h b hb)
theorem Xm:∀ {x:List Int},Ae x=true→Ag (O8 x)=true
  | [],_=>Jd
  | b::l,h=>by
    unfold O8
    split
    · exact Xm (Sd fun y hy=>Aw.1 h y (List.mem_cons_of_mem _ hy))
    · exact Aw.1 h b List.mem_cons_self
theorem Abx {x:List Int} (h:Cz x=true):Ae x=true:=Aw.2 (Aw.1 h).2
theorem Mf {drops:List Nat} {g:Agw}:Wk drops .nil (.ints g .u64 []):=.nil g .u64
theorem Aax {n:Nat} {f g:Nat→Int} (h:∀ j,j<n→f j=g j):Jp n f=Jp n g:=by
  unfold Jp
  congr 1
  exact List.map_congr_left fun j hj=>h _ (by have:=List.mem_range.1 hj; omega)
theorem As.Dy.known:As.Dy.Kn:=As.Dy.Ac (.cons compare.L4.known (.cons As.lead.known (.cons As.Bz.known (.cons (A5.alt As.row.Zero.known As.row.Div.known) (.cons As.Dr.known (.cons soft.Finite.known (.cons soft.Dv.known (.cons soft.Sign.known (.cons Ah.Bq.known (.cons Ah.Div.known (.cons Ah.Finite.known (.cons Ah.Norm.known (.cons Ah.Bt.known (.cons Ah.Sub.known .nil)))))))))))))) fun x hp=>by
  have hx:Cz x=true:=hp
  have al:=Abx hx
  have he:=Zm (Bf x)
  show ∃ N dv drops,_=some dv∧Wk drops dv (DV.tup [.ints .fresh .u64 (Ck x).1,.int .u64 (Ck x).2.1,.int .u64 (Ck x).2.2.1,.int .i64 (Ck x).2.2.2])
  unfold Ck
  by_cases h1:x.length=0∨64<x.length
  · rw [if_pos h1]
    refine ⟨0,.tup [.nil,.int .u64 0,.int .u64 0,.int .i64 3],[],?_,Wk.G6 (.cons Mf (.cons .int (.cons .int (.cons .int .nil))))⟩
    have:(((List.length x:Int)==(0:Int))||(A6 (64:Int) (List.length x:Int)))=true:=by
      rw [Aq,Bool.or_eq_true,beq_iff_eq,Azd]; omega
    rw [As.Dy.ev,this,Ay6]
  have c1:(((List.length x:Int)==(0:Int))||(A6 (64:Int) (List.length x:Int)))=false:=by
    rw [Aq,Bool.or_eq_false_iff,beq_eq_false_iff_ne,Azp]; omega
  rw [if_neg h1]
  by_cases h2:Di x=true
  · rw [if_pos h2]
    unfold Jz
    have ok1:Cz (x.drop 1)=true:=I3 (Sd fun y hy=>Aw.1 al y (List.mem_of_mem_drop hy)) (by rw [List.length_drop]; omega)
    have d1:decide ((1:Int)≤(x.length:Int))=true:=Ay7 (by omega)
    have d0:decide ((0:Int)<(x.length:Int))=true:=Ay7 (by omega)
    by_cases h3:Eh (x.drop 1)=true
    · rw [if_pos h3]
      refine ⟨0,.tup [.ints .fresh .u64 (Jp x.length fun _=>0),.int .u64 0,.int .u64 (x.getD 0 0),.int .i64 0],[],?_,Wk.G6 (.cons .P2 (.cons .int (.cons .int (.cons .int .nil))))⟩
      rw [As.Dy.ev,c1,Aza,hx,Ay6,h2,Bool.not_true,Aza,d1,Ay6,ok1,Ay6,h3,Ay6,Aw.2 (show 1≤(x.length:Int)∧(x.length:Int)≤64 by omega),Ay6,d0,Ay6,Ay8]
    · rw [if_neg h3]
      have h3:Eh (x.drop 1)=false:=by simpa using h3
      have ew:Ab (0-Bs (Bf x))=-Bs (Bf x):=by rw [Am (by omega) (by omega)]; omega
      have ly:=Aau x (-Bs (Bf x))
      have ay:=Aav (-Bs (Bf x)) al
      have oky:Cz (Bo x (-Bs (Bf x)))=true:=I3 ay (by omega)
      have gy:=Rv (x:=x) (k:=-Bs (Bf x)) (j:=0) (by omega)
      have iy:=Ja ay 0
      have key:∀ mu:Int,muI x=mu→Ag mu=true→∀ b:Bool,Da (Fl x)=b→∃ dv:DV,(bif (!b) then
              some (.tup [.nil,.int .u64 (0:Int),.int .u64 (0:Int),.int .i64 (2:Int)])
            else some (.tup [.ints .fresh .u64 (Jp (Int.toNat (List.length (Bo x (-Bs (Bf x))):Int)) (fun j=>Ew (List.getD (Bo x (-Bs (Bf x))) j 0) (Db (List.getD (Bo x (-Bs (Bf x))) 0 0) mu))),.int .u64 (Ew (Db mu (List.getD (Bo x (-Bs (Bf x))) 0 0)) mu),.int .u64 (By mu (Bs (Bf x))),.int .i64 (0:Int)]))=some dv ∧
          Wk [] dv (DV.tup [.ints .fresh .u64 (if Da (Fl x)=true then (Sk x,Td x,Fl x,(0:Int)) else ([],0,0,2)).1,.int .u64 (if Da (Fl x)=true then (Sk x,Td x,Fl x,(0:Int)) else ([],0,0,2)).2.1,.int .u64 (if Da (Fl x)=true then (Sk x,Td x,Fl x,(0:Int)) else ([],0,0,2)).2.2.1,.int .i64 (if Da (Fl x)=true then (Sk x,Td x,Fl x,(0:Int)) else ([],0,0,2)).2.2.2]):=by
        intro mu hmu _ b hb
        rw [hb]
        cases b with
        | false=>exact ⟨_,rfl,Wk.G6 (.cons Mf (.cons .int (.cons .int (.cons .int .nil))))⟩
        | true =>
          refine ⟨_,rfl,?_⟩
          rw [if_pos rfl]
          dsimp only
          have e1:Jp (Int.toNat (List.length (Bo x (-Bs (Bf x))):Int)) (fun j=>Ew (List.getD (Bo x (-Bs (Bf x))) j 0) (Db (List.getD (Bo x (-Bs (Bf x))) 0 0) mu))=Sk x:=by
            unfold Sk
            rw [Ay8,ly,gy,← hmu]
            exact Aax fun j hj=>by rw [Rv hj]; rfl
          have e2:Ew (Db mu (List.getD (Bo x (-Bs (Bf x))) 0 0)) mu=Td x:=by
            unfold Td
            rw [gy,hmu]; rfl
          have e3:By mu (Bs (Bf x))=Fl x:=by unfold Fl; rw [hmu]
          rw [e1,e2,e3]
          exact Wk.G6 (.cons .P2 (.cons .int (.cons .int (.cons .int .nil))))
      have dz:decide ((0:Int)<((Bo x (-Bs (Bf x))).length:Int))=true:=Ay7 (by omega)
      have cz':Dh (1≤((Bo x (-Bs (Bf x))).length:Int)∧((Bo x (-Bs (Bf x))).length:Int)≤64∧True)=true:=Aw.2 ⟨by omega,by omega,trivial⟩
      have p1:Dh (x.length≤1000∧-2300≤-Bs (Bf x)∧-Bs (Bf x)≤2300)=true:=Aw.2 (by omega)
      have p2:Dh ((Bo x (-Bs (Bf x))).length≤64)=true:=Aw.2 (by omega)
      have sp:∀ mu:Int,Ag mu=true→Dj mu (Bs (Bf x))=true:=fun mu h=>Ad.2 ⟨h,Aw.2 (by omega)⟩
      have ny:=Xj (Bo x (-Bs (Bf x)))
      cases hn:D0 (O8 x) with
      | true =>
        have hm:muI x=Dq (Bo x (-Bs (Bf x))):=by unfold muI; rw [if_pos hn]
        obtain ⟨dv,k1,k2⟩:=key _ hm ny (Da (Fl x)) rfl
        refine ⟨0,dv,[],?_,k2⟩
        rw [← k1]
        have eb:Fl x=By (Dq (Bo x (-Bs (Bf x)))) (Bs (Bf x)):=by unfold Fl; rw [hm]
        rw [As.Dy.ev,ew,eb]
        simp only [c1,Aza,hx,Ay6,h2,Bool.not_true,d1,ok1,h3,Oi,p1,oky,p2,Azc,Xm al,hn,sp _ ny,H6 ny,dz,cz',ay,iy,ny,Kz iy ny,Kz ny iy]
      | false =>
        have hm:muI x=Dd (Dq (Bo x (-Bs (Bf x)))):=by unfold muI; rw [if_neg (by rw [hn]; decide)]
        have my:=Yu ny
        obtain ⟨dv,k1,k2⟩:=key _ hm my (Da (Fl x)) rfl
        refine ⟨0,dv,[],?_,k2⟩
        rw [← k1]
        have eb:Fl x=By (Dd (Dq (Bo x (-Bs (Bf x))))) (Bs (Bf x)):=by unfold Fl; rw [hm]
        rw [As.Dy.ev,ew,eb]
        simp only [c1,Aza,hx,Ay6,h2,Bool.not_true,d1,ok1,h3,Oi,p1,oky,p2,Azc,Xm al,hn,Bool.not_false,sp _ my,H6 my,dz,cz',ay,iy,ny,my,Kz iy my,Kz my iy]
  · rw [if_neg h2]
    have h2:Di x=false:=by simpa using h2
    refine ⟨0,.tup [.nil,.int .u64 0,.int .u64 0,.int .i64 4],[],?_,Wk.G6 (.cons Mf (.cons .int (.cons .int (.cons .int .nil))))⟩
    rw [As.Dy.ev,c1,Aza,hx,Ay6,h2,Bool.not_false,Ay6]
open EqHouse
def apD (i k c j a b:Nat):Bool:=decide (k≤b∧i≤a∧(b<c∨(b=c∧a<i+j)))
def apS (R C:Nat) (l:List Int) (i k:Nat) (v:List Int) (t:Int) (c j:Nat):List Int :=
  Bg R C fun a b=>if apD i k c j a b=true∧a<i+v.length then Qa (C:Int) l (i:Int) (k:Int) v t (a:Int) (b:Int) else Cj (C:Int) l (a:Int) (b:Int)
section
variable {R C i k:Nat} {l v:List Int} {t:Int}
theorem Akg (c j:Nat):(apS R C l i k v t c j).length=R*C:=Ca _ _ _
theorem Ago (h:l.length=R*C):apS R C l i k v t k 0=l:=by
  unfold apS
  conv=>rhs; rw [← Wa h]
  refine Dx fun a b ha hb=>?_
  rw [if_neg]
  rintro ⟨h,_⟩
  have:=of_decide_eq_true h
  omega
theorem Agp (c:Nat):apS R C l i k v t c v.length=apS R C l i k v t (c+1) 0:=by
  unfold apS
  refine Dx fun a b ha hb=>?_
  have:(apD i k c v.length a b=true∧a<i+v.length)↔(apD i k (c+1) 0 a b=true∧a<i+v.length):=by
    unfold apD
    rw [Azd,Azd]
    omega
  by_cases h:apD i k c v.length a b=true∧a<i+v.length
  · rw [if_pos h,if_pos (this.1 h)]
  · rw [if_neg h,if_neg (fun hh=>h (this.2 hh))]
theorem Akh:apS R C l i k v t C 0=Fo R C l (i:Int) (k:Int) v t:=by
  unfold apS Fo
  refine Dx fun a b ha hb=>?_
  by_cases h:apD i k C 0 a b=true∧a<i+v.length
  · rw [if_pos h]
  · rw [if_neg h]
    unfold Qa
    rw [if_neg]
    intro hh
    refine h ⟨?_,by omega⟩
    unfold apD
    rw [Azd]; omega
theorem Akf {c j:Nat} (hc:c<C) (hk:k≤c) (hj:j<v.length) {x:Int} (hx:x=Qa (C:Int) l (i:Int) (k:Int) v t ((i+j:Nat):Int) (c:Int)) :
    List.set (apS R C l i k v t c j) ((i+j)*C+c) x=apS R C l i k v t c (j+1):=by
  unfold apS
  rw [U4 hc]
  refine Dx fun a b ha hb=>?_
  by_cases h:a=i+j∧b=c
  · obtain ⟨rfl,rfl⟩:=h
    rw [if_pos ⟨rfl,rfl⟩,if_pos ⟨by unfold apD; rw [Azd]; omega,by omega⟩,hx]
  · rw [if_neg h]
    have:(apD i k c j a b=true∧a<i+v.length)↔(apD i k c (j+1) a b=true∧a<i+v.length):=by
      unfold apD
      rw [Azd,Azd]
      omega
    by_cases h2:apD i k c j a b=true∧a<i+v.length
    · rw [if_pos h2,if_pos (this.1 h2)]
    · rw [if_neg h2,if_neg (fun hh=>h2 (this.2 hh))]
theorem Agn {c j:Nat} (hk:k≤c) (hj:j<v.length):Qa (C:Int) l (i:Int) (k:Int) v t ((i+j:Nat):Int) (c:Int) =
    Db ((Cu (C:Int) l (c:Int) (i:Int) v.length).getD j 0) (D1 (Ts (C:Int) l (i:Int) v t (c:Int)) (v.getD j 0)):=by
  unfold Qa
  rw [if_pos ⟨by omega,by omega,by omega⟩]
  have e1:(((i+j:Nat):Int)-(i:Int)).toNat=j:=by omega
  have e2:(Cu (C:Int) l (c:Int) (i:Int) v.length).getD j 0=Cj (C:Int) l ((i+j:Nat):Int) (c:Int):=by
    unfold Cu
    rw [Azg,List.getElem?_map,List.getElem?_range hj]
    show Cj (C:Int) l ((i:Int)+(j:Int)) (c:Int)=_
    rw [← Int.natCast_add]
  rw [e1,e2]
theorem Aet {c b i:Int} {l:List Int} {m n:Nat} (h:m≤n):List.take m (Cu c l b i n)=Cu c l b i m:=by
  unfold Cu
  rw [← List.map_take,List.take_range,Nat.min_eq_left h]
theorem Ais (N M0:Nat) (r6:R≤6) (c6:C≤6) (al:Ae l=true) (av:Ae v=true) (hv:i+v.length≤R) {c:Nat} (hc:c<C) (hk:k≤c):∀ (cnt j F:Nat),j+cnt=v.length→cnt<F →
    As.Apply.L1 N M0 F (R:Int) (C:Int) l (i:Int) v t (j:Int) (apS R C l i k v t c j) (c:Int) (Ts (C:Int) l (i:Int) v t (c:Int)) (Cu (C:Int) l (c:Int) (i:Int) v.length) (v.length:Int) =
    As.Apply.L0 N M0 (R:Int) (C:Int) l (i:Int) v t ((c+1:Nat):Int) (apS R C l i k v t (c+1) 0):=by
  intro cnt
  induction cnt with
  | zero =>
    intro j F hj hF
    obtain ⟨F,rfl⟩:∃ G,F=G+1:=⟨F-1,by omega⟩
    obtain rfl:j=v.length:=by omega
    rw [As.Apply.B2,Aq,Azb (by omega),Aza,Am (by omega) (by omega),Agp]
    rfl
  | succ cnt ih =>
    intro j F hj hF
    obtain ⟨F,rfl⟩:∃ G,F=G+1:=⟨F-1,by omega⟩
    have hm:=Je (a:=((i+j:Nat):Int)) (b:=(C:Int)) (by omega) (by omega) (by omega) (by omega)
    have hpl:=K3 (show i+j<R by omega) hc
    have e1:Ab ((i:Int)+(j:Int))=((i+j:Nat):Int):=by rw [Am (by omega) (by omega)]; omega
    have e2:Ab (((i+j:Nat):Int)*(C:Int))=(((i+j)*C:Nat):Int):=by rw [Am (by omega) (by omega)]; exact (Azr _ _).symm
    have h36:=Nat.mul_le_mul r6 c6
    have e3:Ab ((((i+j)*C:Nat):Int)+(c:Int))=(((i+j)*C+c:Nat):Int):=by rw [Am (by omega) (by omega)]; omega
    have hlen:=Akg (R:=R) (C:=C) (l:=l) (i:=i) (k:=k) (v:=v) (t:=t) c j
    have sl:=Gr (C:Int) (c:Int) (i:Int) v.length l
    rw [As.Apply.B2,Aq,Ay7 (show (j:Int)<(v.length:Int) by omega),Ay6,e1,e2,e3,sl,Ay7 (show (0:Int)≤(j:Int) by omega),Ay7 (show (j:Int)<(v.length:Int) by omega),Azc,Ay6,Ay8,Ay8]
    have a1:=Ja av j
    have a2:=Ja (Pl (c:=(C:Int)) (b:=(c:Int)) (i:=(i:Int)) (n:=v.length) al) j
    have a3:Ag (Ts (C:Int) l (i:Int) v t (c:Int))=true:=Ia _ _
    rw [Ay6,a3,a1,Azc,Ay6,a2,Ia,Azc,Ay6,Ay7 (by omega),Ay7 (by omega),Azc,Ay6,Ay7 (by omega),Ay6,
      Akf hc hk (by omega) (Agn hk (by omega)).symm,Am (by omega) (by omega)]
    exact ih (j+1) F (by omega) (by omega)
theorem Ait (N:Nat) (r6:R≤6) (c6:C≤6) (hN:7<N) (hr:Av (R:Int) (C:Int) l=true) (al:Ae l=true) (av:Ae v=true) (ht:Ag t=true) (hv:i+v.length≤R):∀ (cnt c F:Nat),c+cnt=C→k≤c→cnt<F →
    As.Apply.L0 N F (R:Int) (C:Int) l (i:Int) v t (c:Int) (apS R C l i k v t c 0) =
    some (.tup [.agg [.int .i64 (R:Int),.int .i64 (C:Int),.ints (.own 114002 tB) .u64 (Fo R C l (i:Int) (k:Int) v t)],.int .i64 (0:Int)]):=by
  intro cnt
  induction cnt with
  | zero =>
    intro c F hc hk hF
    obtain ⟨F,rfl⟩:∃ G,F=G+1:=⟨F-1,by omega⟩
    obtain rfl:c=C:=by omega
    rw [As.Apply.Au,Aq,Azb (by omega),Aza,Akh]
  | succ cnt ih =>
    intro c F hc hk hF
    obtain ⟨F,rfl⟩:∃ G,F=G+1:=⟨F-1,by omega⟩
    have cp:Hj (R:Int) (C:Int) l (c:Int)=true:=Ad.2 ⟨hr,Aw.2 (by omega)⟩
    have e0:Int.toNat ((R:Int)-(i:Int))=R-i:=by omega
    have st:=Aet (c:=(C:Int)) (b:=(c:Int)) (i:=(i:Int)) (l:=l) (m:=v.length) (n:=R-i) (by omega)
    have sl:=Gr (C:Int) (c:Int) (i:Int) v.length l
    have sl2:=Gr (C:Int) (c:Int) (i:Int) (R-i) l
    have sa:=Pl (c:=(C:Int)) (b:=(c:Int)) (i:=(i:Int)) (n:=v.length) al
    have ft:Pc v (Cu (C:Int) l (c:Int) (i:Int) v.length)=true:=Sa.2 ⟨by omega,by omega⟩
    rw [As.Apply.Au,Aq,Ay7 (by omega),Ay6,cp,Aw.2 (show 0≤(i:Int)∧(i:Int)≤(R:Int) by omega),Azc,Ay6,e0,Ay8,st,sl2,sl,
      Ay7 (show (0:Int)≤(v.length:Int) by omega),Ay7 (show (v.length:Int)≤(v.length:Int) by omega),Ay7 (show (v.length:Int)≤((R-i:Nat):Int) by omega),Azc,Azc,Ay6,ft,av,sa,Azc,Azc,Ay6,ht,N4,Azc,Ay6]
    have:=Ais (t:=t) N F r6 c6 al av hv (show c<C by omega) hk v.length 0 N (by omega) (by omega)
    exact this.trans (ih (c+1) F (by omega) (by omega) (by omega))
end
theorem As.Apply.known:As.Apply.Kn:=As.Apply.Ac (.cons Aa.Check.known (.cons Aa.D8.known (.cons Ah.Ig.known (.cons Ah.Mul.known (.cons Ah.Sub.known .nil))))) fun r c l i k v t hp=>by
  obtain ⟨h1,ht⟩:=Ad.1 (show (((Av r c l&&H0 r c i k v)&&(Ae l&&Ae v))&&Ag t)=true from hp)
  obtain ⟨h2,h3⟩:=Ad.1 h1
  obtain ⟨hr,hb⟩:=Ad.1 h2
  obtain ⟨al,av⟩:=Ad.1 h3
  have hb:=of_decide_eq_true hb
  have hc:La r c l=0:=by unfold La; rw [if_pos hr]
  have h36:=Ov hr
  obtain ⟨R,C,rfl,rfl,r6,c6,hl⟩:=B8 hr
  obtain ⟨i,rfl⟩:∃ j:Nat,i=j:=⟨i.toNat,by omega⟩
  obtain ⟨k,rfl⟩:∃ j:Nat,k=j:=⟨k.toNat,by omega⟩
  refine ⟨8,As.Apply.out [.i (R:Int),.i (C:Int),.l l,.i (i:Int),.i (k:Int),.l v,.i t],[],?_,Wk.G6 (.cons (Wk.G2 (.cons .int (.cons .int (.cons (.keep _ _ _ _ List.not_mem_nil) .nil)))) (.cons .int .nil))⟩
  show _=some (DV.tup [.agg [.int .i64 (R:Int),.int .i64 (C:Int),.ints (.own 114002 tB) .u64 (Fo (Int.toNat (R:Int)) (Int.toNat (C:Int)) l (i:Int) (k:Int) v t)],.int .i64 0])
  have hlt:(((((A6 (i:Int) (0:Int))||(A6 (R:Int) (List.length v:Int)))||(A6 (Ab ((R:Int)-(List.length v:Int))) (i:Int)))||(A6 (k:Int) (0:Int)))||(A6 (C:Int) (k:Int)))=false:=by
    rw [Aq,Aq,Aq,Aq,Aq,Am (by omega) (by omega),Azb (by omega),Azb (by omega),Azb (by omega),Azb (by omega),Azb (by omega)]; rfl
  rw [As.Apply.ev,hc,show ((0:Int) !=(0:Int))=false from rfl,Aza,hlt,Aza,Ay7 (show 0+l.length≤Gu by unfold Gu; omega),Ay6,List.nil_append,Ay8,Ay8]
  have:=Ait (R:=R) (C:=C) (i:=i) (k:=k) (l:=l) (v:=v) (t:=t) 8 r6 c6 (by omega) hr al av ht (by omega) (C-k) k 8 (by omega) (by omega) (by omega)
  rw [Ago hl] at this
  exact this
namespace EqSol
def solve.check.hint:Nat→Option Bb
  | 0=>some { keep:=[2,3,11,12],objs:=[],boxes:=[2,3] }
  | 2=>some { keep:=[2,34,35],objs:=[],boxes:=[2] }
  | _=>none
def solve.check.A8:List (Nat × Entry):=[(86,Cv.Check.spec),(155,soft.Kind.spec)]
def solve.check.E:Env:=A9 (A7 solve.check.A8) (fun _=>false) solve.check.hint (fun _=>none)
def solve.check.L0 (N M:Nat) (r c:Int) (l:List Int) (p35:Int):Option DV:=Bv solve.check.E N Tryz.f75 (Al Tryz.f75) [1,1,1,0,1,0] [] M ⟨Ft 51 [(2,.ptr 2 0 0),(34,.int .i64 r),(35,.int .i64 p35)],[(2,false,.box [.int .i64 r,.int .i64 c,.ints .arg .u64 l])]⟩
theorem solve.check.Au (N M:Nat) (r c:Int) (l:List Int) (p35:Int):solve.check.L0 (N+4) (M+1) r c l p35=bif (A6 p35 r) then bif ((decide (0≤(Ab ((Ab (p35*c))+p35))))&&(decide ((Ab ((Ab (p35*c))+p35))<(List.length l:Int)))) then bif (Ag (List.getD l (Int.toNat (Ab ((Ab (p35*c))+p35))) 0)) then bif ((Be (List.getD l (Int.toNat (Ab ((Ab (p35*c))+p35))) 0))==(0:Int)) then some (.int .i64 5) else solve.check.L0 (N+4) M r c l (Ab (p35+1)) else none else none else some (.int .i64 0):=by kernel_rfl
theorem solve.check.ev (N:Nat) (r c:Int) (l:List Int) (p q:Int) (m:List Int):Bp solve.check.E (N+4) Tryz.f75 (Al Tryz.f75) [.agg [.int .i64 r,.int .i64 c,.ints .arg .u64 l],.agg [.int .i64 p,.int .i64 q,.ints .arg .u64 m]]=bif (Ae l) then bif ((B1 r c l) !=(0:Int)) then some (.int .i64 (B1 r c l)) else bif (Ae m) then bif ((B1 p q m) !=(0:Int)) then some (.int .i64 (B1 p q m)) else bif ((r !=c)||(r !=p)) then some (.int .i64 3) else solve.check.L0 (N+4) (N+4) r c l (0:Int) else none else none :=
  Eq.trans (by kernel_rfl)
  (Ea (Ea rfl (Ea (Ea rfl (Ar (Rs (r !=c)) (Ar (Pg (r !=c)) (Ar (Rs (r !=c)) (Ar (Pg (r !=c)) (Ar (tt8 (r !=c)) (Ar (Xb (r !=c)) (Cq (tt5 (r !=c) (r !=p)) rfl rfl)))))))) rfl)) rfl)
abbrev _root_.Go.Proofs.S1.solve.check.Kn:=A5 Tryz.prog 75 solve.check.spec
theorem solve.check.Ac (hk:Ay Tryz.prog solve.check.A8) (h:∀ (r c:Int) (l:List Int) (p q:Int) (m:List Int),solve.check.pre [.i r,.i c,.l l,.i p,.i q,.l m]=true→Ba solve.check.E Tryz.f75 [.agg [.int .i64 r,.int .i64 c,.ints .arg .u64 l],.agg [.int .i64 p,.int .i64 q,.ints .arg .u64 m]] (solve.check.out [.i r,.i c,.l l,.i p,.i q,.l m])):solve.check.Kn :=
  Aj (A1 hk _ _ _) Tryz.func75 (by kernel_rfl) (by kernel_rfl) h
def Dl.Dk.up.A8:List (Nat × Entry):=[]
def Dl.Dk.up.E:Env:=A9 (A7 Dl.Dk.up.A8) (fun _=>false) (fun _=>none) (fun _=>none)
theorem Dl.Dk.up.ev (N:Nat) (n k:Int):Bp Dl.Dk.up.E N Tryz.f103 (Al Tryz.f103) [.int .i64 n,.int .i64 k]=some (.int .i64 (Ab ((Ab (n-1))-k))):=by kernel_rfl
abbrev _root_.Go.Proofs.S1.Dl.Dk.up.Kn:=A5 Tryz.prog 103 Dl.Dk.up.spec
theorem Dl.Dk.up.Ac (hk:Ay Tryz.prog Dl.Dk.up.A8) (h:∀ (n k:Int),Dl.Dk.up.pre [.i n,.i k]=true→Ba Dl.Dk.up.E Tryz.f103 [.int .i64 n,.int .i64 k] (Dl.Dk.up.out [.i n,.i k])):Dl.Dk.up.Kn :=
  Aj (A1 hk _ _ _) Tryz.func103 (by kernel_rfl) (by kernel_rfl) h
def solve.E6.A8:List (Nat × Entry):=[]
def solve.E6.E:Env:=A9 (A7 solve.E6.A8) (fun _=>false) (fun _=>none) (fun _=>none)
theorem solve.E6.ev (N:Nat) (i k:Int):Bp solve.E6.E N Tryz.f104 (Al Tryz.f104) [.int .i64 i,.int .i64 k]=some (.bool (A6 i k)):=by kernel_rfl
abbrev _root_.Go.Proofs.S1.solve.E6.Kn:=A5 Tryz.prog 104 solve.E6.spec
theorem solve.E6.Ac (hk:Ay Tryz.prog solve.E6.A8) (h:∀ (i k:Int),solve.E6.pre [.i i,.i k]=true→Ba solve.E6.E Tryz.f104 [.int .i64 i,.int .i64 k] (solve.E6.out [.i i,.i k])):solve.E6.Kn :=
  Aj (A1 hk _ _ _) Tryz.func104 (by kernel_rfl) (by kernel_rfl) h
def Aa.of.Bm.own.hint:Nat→Option Bb
  | 0=>some { keep:=[1,2,6,7,13,14],objs:=[(8,2,108002,.ints 37 .u64 [])],boxes:=[6,7] }
  | 2=>some { keep:=[1,2,6,7,8,13,14,17,18],objs:=[(8,2,108002,.ints 37 .u64 [])],boxes:=[6,7] }
  | _=>none
def Aa.of.Bm.own.A8:List (Nat × Entry):=[(205,Aa.E0.spec)]
def Aa.of.Bm.own.E:Env:=A9 (A7 Aa.of.Bm.own.A8) (fun _=>false) Aa.of.Bm.own.hint (fun _=>none)
abbrev _root_.Go.Proofs.S1.Aa.of.Bm.own.Kn:=A5 Tryz.prog 187 Aa.of.Bm.own.spec
theorem Aa.of.Bm.own.Ac (hk:Ay Tryz.prog Aa.of.Bm.own.A8) (h:∀ (a b:Int),Aa.of.Bm.own.pre [.i a,.i b]=true→Ba Aa.of.Bm.own.E Tryz.f187 [.int .i64 a,.int .i64 b,.fn 205 [] []] (Aa.of.Bm.own.out [.i a,.i b])):Aa.of.Bm.own.Kn :=
  Aj (A1 hk _ _ _) Tryz.func187 (by kernel_rfl) (by kernel_rfl) h
def Aa.Bm.own.A8:List (Nat × Entry):=[(187,Aa.of.Bm.own.spec),(204,Aa.size.spec)]
def Aa.Bm.own.E:Env:=A9 (A7 Aa.Bm.own.A8) (fun n=>Nat.beq n 17) (fun _=>none) (fun _=>none)
theorem Aa.Bm.own.ev (N:Nat) (a b:Int):Bp Aa.Bm.own.E N Tryz.f151 (Al Tryz.f151) [.int .i64 a,.int .i64 b]=bif ((!(Bn a))||(!(Bn b))) then some (.tup [.agg [.int .i64 0,.int .i64 0,.nil],.int .i64 3]) else bif (Bn a&&Bn b) then some (.tup [.agg [.int .i64 a,.int .i64 b,.ints (.own 1136 37) .u64 (Bg (Int.toNat a) (Int.toNat b) (fun _ _=>0))],.int .i64 0]) else none :=
  Eq.trans (by kernel_rfl)
  (Ar (Z6 (Bn a)) (Ar (Qq (Bn a)) (Ar (Qq (Bn a)) (Ar (Ab7 (Bn a)) (Cq (Ara (Bn a) (Bn b)) rfl rfl)))))
abbrev _root_.Go.Proofs.S1.Aa.Bm.own.Kn:=A5 Tryz.prog 151 Aa.Bm.own.spec
theorem Aa.Bm.own.Ac (hk:Ay Tryz.prog Aa.Bm.own.A8) (h:∀ (a b:Int),Aa.Bm.own.pre [.i a,.i b]=true→Ba Aa.Bm.own.E Tryz.f151 [.int .i64 a,.int .i64 b] (Aa.Bm.own.out [.i a,.i b])):Aa.Bm.own.Kn :=
  Aj (A1 hk _ _ _) Tryz.func151 (by kernel_rfl) (by kernel_rfl) h
def solve.A2.Up.hint:Nat→Option Bb
  | 0=>some { keep:=[2,3,4,5,8,10,11,28,29],objs:=[(12,2,112002,.ints 37 .u64 [])],boxes:=[4,5,8,11] }
  | 2=>some { keep:=[2,3,4,5,8,10,11,13,28,29,32,33],objs:=[(12,2,112002,.ints 37 .u64 [])],boxes:=[4,5,8,11] }
  | 4=>some { keep:=[2,3,4,5,8,10,11,13,15,16,28,29,32,33,49,50],objs:=[(12,2,112002,.ints 37 .u64 [])],boxes:=[4,5,8,11] }
  | _=>none
def solve.A2.Up.A8:List (Nat × Entry):=[(103,Dl.Dk.up.spec),(151,Aa.Bm.own.spec),(104,solve.E6.spec),(158,Ah.Div.spec),(150,Ah.Finite.spec),(157,Ah.Mul.spec),(156,Ah.Sub.spec)]
def solve.A2.Up.E:Env:=A9 (A7 solve.A2.Up.A8) (fun n=>Nat.beq n 24) solve.A2.Up.hint (fun _=>none)
def solve.A2.Up.L0 (N M:Nat) (r c:Int) (l:List Int) (p q:Int) (m:List Int) (n p29:Int) (p2_2:List Int):Option DV:=Bv solve.A2.Up.E N Tryz.f76 (Al Tryz.f76) [1,1,1,0,1,0] [] M ⟨Ft 108 [(2,.fn 103 [.int .i64 n] []),(3,.fn 104 [] []),(4,.ptr 4 0 0),(5,.ptr 5 0 0),(8,.ptr 8 0 0),(10,.int .i64 r),(11,.ptr 11 0 0),(28,.int .i64 q),(29,.int .i64 p29)],[(4,false,.box [.int .i64 r,.int .i64 c,.ints .arg .u64 l]),(5,false,.box [.int .i64 p,.int .i64 q,.ints .arg .u64 m]),(8,false,.box [.int .i64 0,.int .i64 0,.nil]),(11,false,.box [.int .i64 r,.int .i64 q,.oref 112002]),(112002,false,.ints 37 .u64 p2_2)]⟩
def solve.A2.Up.L1 (N M0 M:Nat) (r c:Int) (l:List Int) (p q:Int) (m:List Int) (n p33:Int) (p2:List Int) (p13 p29_1:Int):Option DV:=Bv solve.A2.Up.E N Tryz.f76 (Al Tryz.f76) [1,1,1,0,1,0,0,1,1,0,0,1,0,1,1,0] [M0] M ⟨Ft 108 [(2,.fn 103 [.int .i64 n] []),(3,.fn 104 [] []),(4,.ptr 4 0 0),(5,.ptr 5 0 0),(8,.ptr 8 0 0),(10,.int .i64 r),(11,.ptr 11 0 0),(13,.int .i64 p13),(28,.int .i64 q),(29,.int .i64 p29_1),(32,.int .i64 r),(33,.int .i64 p33)],[(4,false,.box [.int .i64 r,.int .i64 c,.ints .arg .u64 l]),(5,false,.box [.int .i64 p,.int .i64 q,.ints .arg .u64 m]),(8,false,.box [.int .i64 0,.int .i64 0,.nil]),(11,false,.box [.int .i64 r,.int .i64 q,.oref 112002]),(112002,false,.ints 37 .u64 p2)]⟩
def solve.A2.Up.L2 (N M0 M1 M:Nat) (r c:Int) (l:List Int) (p q:Int) (m:List Int) (n p16:Int) (p50 p13_1:Int) (p15 p29_2 p33_1:Int) (p2_1:List Int):Option DV:=Bv solve.A2.Up.E N Tryz.f76 (Al Tryz.f76) [1,1,1,0,1,0,0,1,1,0,0,1,0,1,1,0,0,1,1,0,0,1,1,1,0,1,0] [M0,M1] M ⟨Ft 108 [(2,.fn 103 [.int .i64 n] []),(3,.fn 104 [] []),(4,.ptr 4 0 0),(5,.ptr 5 0 0),(8,.ptr 8 0 0),(10,.int .i64 r),(11,.ptr 11 0 0),(13,.int .i64 p13_1),(15,.int .i64 p15),(16,.int .u64 p16),(28,.int .i64 q),(29,.int .i64 p29_2),(32,.int .i64 r),(33,.int .i64 p33_1),(49,.int .i64 r),(50,.int .i64 p50)],[(4,false,.box [.int .i64 r,.int .i64 c,.ints .arg .u64 l]),(5,false,.box [.int .i64 p,.int .i64 q,.ints .arg .u64 m]),(8,false,.box [.int .i64 0,.int .i64 0,.nil]),(11,false,.box [.int .i64 r,.int .i64 q,.oref 112002]),(112002,false,.ints 37 .u64 p2_1)]⟩
theorem solve.A2.Up.Au (N M:Nat) (r c:Int) (l:List Int) (p q:Int) (m:List Int) (n p29:Int) (p2_2:List Int):solve.A2.Up.L0 N (M+1) r c l p q m n p29 p2_2=bif (A6 p29 q) then solve.A2.Up.L1 N M N r c l p q m n 0 p2_2 p29 p29 else bif (Cz p2_2) then bif (!(Di p2_2)) then some (.tup [.agg [.int .i64 0,.int .i64 0,.nil],.int .i64 2]) else some (.tup [.agg [.int .i64 r,.int .i64 q,.ints (.own 112002 37) .u64 p2_2],.int .i64 0]) else none:=by kernel_rfl
theorem solve.A2.Up.B2 (N M0 M:Nat) (r c:Int) (l:List Int) (p q:Int) (m:List Int) (n p33:Int) (p2:List Int) (p13 p29_1:Int):solve.A2.Up.L1 N M0 (M+1) r c l p q m n p33 p2 p13 p29_1=bif (A6 p33 r) then bif (Dh (0≤p33∧p33<n∧n≤10)) then bif ((decide (0≤(Ab ((Ab ((n-1-p33)*q))+p13))))&&(decide ((Ab ((Ab ((n-1-p33)*q))+p13))<(List.length m:Int)))) then solve.A2.Up.L2 N M0 M N r c l p q m n (List.getD m (Int.toNat (Ab ((Ab ((n-1-p33)*q))+p13))) 0) 0 p13 (n-1-p33) p29_1 p33 p2 else none else none else solve.A2.Up.L0 N M0 r c l p q m n (Ab (p29_1+1)) p2:=by kernel_rfl
theorem solve.A2.Up.Fp (N M0 M1 M:Nat) (r c:Int) (l:List Int) (p q:Int) (m:List Int) (n p16:Int) (p50 p13_1:Int) (p15 p29_2 p33_1:Int) (p2_1:List Int):solve.A2.Up.L2 N M0 M1 (M+1) r c l p q m n p16 p50 p13_1 p15 p29_2 p33_1 p2_1=bif (A6 p50 r) then bif (decide (p15<p50)) then bif ((decide (0≤(Ab ((Ab (p15*r))+p50))))&&(decide ((Ab ((Ab (p15*r))+p50))<(List.length l:Int)))) then bif ((decide (0≤(Ab ((Ab (p50*q))+p13_1))))&&(decide ((Ab ((Ab (p50*q))+p13_1))<(List.length p2_1:Int)))) then bif (decide ((Int.toNat (Ab ((Ab (p50*q))+p13_1)))<(List.length p2_1))) then bif (Ag (List.getD l (Int.toNat (Ab ((Ab (p15*r))+p50))) 0)&&Ag (List.getD p2_1 (Int.toNat (Ab ((Ab (p50*q))+p13_1))) 0)) then bif (Ag p16&&Ag (D1 (List.getD l (Int.toNat (Ab ((Ab (p15*r))+p50))) 0) (List.getD p2_1 (Int.toNat (Ab ((Ab (p50*q))+p13_1))) 0))) then solve.A2.Up.L2 N M0 M1 M r c l p q m n (Db p16 (D1 (List.getD l (Int.toNat (Ab ((Ab (p15*r))+p50))) 0) (List.getD p2_1 (Int.toNat (Ab ((Ab (p50*q))+p13_1))) 0))) (Ab (p50+1)) p13_1 p15 p29_2 p33_1 p2_1 else none else none else none else none else none else solve.A2.Up.L2 N M0 M1 M r c l p q m n p16 (Ab (p50+1)) p13_1 p15 p29_2 p33_1 p2_1 else bif ((decide (0≤(Ab ((Ab (p15*r))+p15))))&&(decide ((Ab ((Ab (p15*r))+p15))<(List.length l:Int)))) then bif (Ag p16&&Ag (List.getD l (Int.toNat (Ab ((Ab (p15*r))+p15))) 0)) then bif ((decide (0≤(Ab ((Ab (p15*q))+p13_1))))&&(decide ((Ab ((Ab (p15*q))+p13_1))<(List.length p2_1:Int)))) then bif (decide ((Int.toNat (Ab ((Ab (p15*q))+p13_1)))<(List.length p2_1))) then solve.A2.Up.L1 N M0 M1 r c l p q m n (Ab (p33_1+1)) (List.set p2_1 (Int.toNat (Ab ((Ab (p15*q))+p13_1))) (Ew p16 (List.getD l (Int.toNat (Ab ((Ab (p15*r))+p15))) 0))) p13_1 p29_2 else none else none else none else none :=
  Eq.trans (by kernel_rfl)
  (Ea (Ea (Cq (Jw (decide (0≤(Ab ((Ab (p15*r))+p50)))) (decide ((Ab ((Ab (p15*r))+p50))<(List.length l:Int)))) (Cq (Jw (decide (0≤(Ab ((Ab (p50*q))+p13_1)))) (decide ((Ab ((Ab (p50*q))+p13_1))<(List.length p2_1:Int)))) (Cq (Ci (decide ((Int.toNat (Ab ((Ab (p50*q))+p13_1)))<(List.length p2_1)))) (Cq (Ci (Ag (List.getD l (Int.toNat (Ab ((Ab (p15*r))+p50))) 0)&&Ag (List.getD p2_1 (Int.toNat (Ab ((Ab (p50*q))+p13_1))) 0))) (Cq (Ci (Ag p16&&Ag (D1 (List.getD l (Int.toNat (Ab ((Ab (p15*r))+p50))) 0) (List.getD p2_1 (Int.toNat (Ab ((Ab (p50*q))+p13_1))) 0)))) rfl rfl) rfl) rfl) rfl) rfl) rfl) (Cq (Jw (decide (0≤(Ab ((Ab (p15*r))+p15)))) (decide ((Ab ((Ab (p15*r))+p15))<(List.length l:Int)))) (Cq (Ci (Ag p16&&Ag (List.getD l (Int.toNat (Ab ((Ab (p15*r))+p15))) 0))) (Cq (Jw (decide (0≤(Ab ((Ab (p15*q))+p13_1)))) (decide ((Ab ((Ab (p15*q))+p13_1))<(List.length p2_1:Int)))) (Cq (Ci (decide ((Int.toNat (Ab ((Ab (p15*q))+p13_1)))<(List.length p2_1)))) rfl rfl) rfl) rfl) rfl))
theorem solve.A2.Up.ev (N:Nat) (r c:Int) (l:List Int) (p q:Int) (m:List Int) (n:Int):Bp solve.A2.Up.E N Tryz.f76 (Al Tryz.f76) [.agg [.int .i64 r,.int .i64 c,.ints .arg .u64 l],.agg [.int .i64 p,.int .i64 q,.ints .arg .u64 m],.fn 103 [.int .i64 n] [],.fn 104 [] []]=bif (Bn r&&Bn q) then solve.A2.Up.L0 N N r c l p q m n 0 (Bg (Int.toNat r) (Int.toNat q) (fun _ _=>0)) else none:=by kernel_rfl
abbrev _root_.Go.Proofs.S1.solve.A2.Up.Kn:=A5 Tryz.prog 76 solve.A2.Up.spec
theorem solve.A2.Up.Ac (hk:Ay Tryz.prog solve.A2.Up.A8) (h:∀ (r c:Int) (l:List Int) (p q:Int) (m:List Int) (n:Int),solve.A2.Up.pre [.i r,.i c,.l l,.i p,.i q,.l m,.i n]=true→Ba solve.A2.Up.E Tryz.f76 [.agg [.int .i64 r,.int .i64 c,.ints .arg .u64 l],.agg [.int .i64 p,.int .i64 q,.ints .arg .u64 m],.fn 103 [.int .i64 n] [],.fn 104 [] []] (solve.A2.Up.out [.i r,.i c,.l l,.i p,.i q,.l m,.i n])):solve.A2.Up.Kn :=
  Aj (A1 hk _ _ _) Tryz.func76 (by kernel_rfl) (by kernel_rfl) h
def solve.Cp.A8:List (Nat × Entry):=[(75,solve.check.spec),(76,solve.A2.Up.spec)]
def solve.Cp.E:Env:=A9 (A7 solve.Cp.A8) (fun _=>false) (fun _=>none) (fun _=>none)
theorem solve.Cp.ev (N:Nat) (r c:Int) (l:List Int) (p q:Int) (m:List Int):Bp solve.Cp.E N Tryz.f36 (Al Tryz.f36) [.agg [.int .i64 r,.int .i64 c,.ints .arg .u64 l],.agg [.int .i64 p,.int .i64 q,.ints .arg .u64 m]]=bif (Ae l&&Ae m) then bif ((Lv r c l p q m) !=(0:Int)) then some (.tup [.agg [.int .i64 0,.int .i64 0,.nil],.int .i64 (Lv r c l p q m)]) else bif (Qr r c l p q m&&decide (r=r)) then some (.tup [.agg [.int .i64 ((G0 r q (upG c l q m (Int.toNat r) (Int.toNat q))).1),.int .i64 ((G0 r q (upG c l q m (Int.toNat r) (Int.toNat q))).2.1),.ints .fresh .u64 ((G0 r q (upG c l q m (Int.toNat r) (Int.toNat q))).2.2.1)],.int .i64 ((G0 r q (upG c l q m (Int.toNat r) (Int.toNat q))).2.2.2)]) else none else none:=by kernel_rfl
abbrev _root_.Go.Proofs.S1.solve.Cp.Kn:=A5 Tryz.prog 36 solve.Cp.spec
theorem solve.Cp.Ac (hk:Ay Tryz.prog solve.Cp.A8) (h:∀ (r c:Int) (l:List Int) (p q:Int) (m:List Int),solve.Cp.pre [.i r,.i c,.l l,.i p,.i q,.l m]=true→Ba solve.Cp.E Tryz.f36 [.agg [.int .i64 r,.int .i64 c,.ints .arg .u64 l],.agg [.int .i64 p,.int .i64 q,.ints .arg .u64 m]] (solve.Cp.out [.i r,.i c,.l l,.i p,.i q,.l m])):solve.Cp.Kn :=
  Aj (A1 hk _ _ _) Tryz.func36 (by kernel_rfl) (by kernel_rfl) h
def solve.Flat.hint:Nat→Option Bb
  | 0=>some { keep:=[1,5,6],objs:=[(0,5,100005,.ints 37 .u64 [])],boxes:=[1] }
  | 2=>some { keep:=[7,44,45,46],objs:=[(0,44,100044,.ints 37 .u64 [])],boxes:=[] }
  | _=>none
def solve.Flat.A8:List (Nat × Entry):=[(86,Cv.Check.spec),(87,compare.H3.spec),(90,compare.Ms.spec),(89,Ah.Bq.spec),(88,Ah.Bt.spec)]
def solve.Flat.E:Env:=A9 (A7 solve.Flat.A8) (fun _=>false) solve.Flat.hint (fun _=>none)
def solve.Flat.L0 (N M:Nat) (r c:Int) (l:List Int) (p6:Int) (p5:List Int):Option DV:=Bv solve.Flat.E N Tryz.f24 (Al Tryz.f24) [1,1,1,0,1,0] [] M ⟨Ft 55 [(1,.ptr 1 0 0),(5,.oref 100005),(6,.int .i64 p6)],[(1,false,.box [.int .i64 r,.int .i64 c,.ints .arg .u64 l]),(100005,false,.ints 37 .u64 p5)]⟩
def solve.Flat.L1 (N M:Nat) (p5:List Int) (p46:Int):Option DV:=Bv solve.Flat.E N Tryz.f24 (Al Tryz.f24) [1,1,1,1,1,0,1,0] [] M ⟨Ft 55 [(7,.int .u64 (By (Bf p5) (-40:Int))),(44,.oref 100044),(45,.int .i64 (List.length p5:Int)),(46,.int .i64 p46)],[(100044,false,.ints 37 .u64 p5)]⟩
theorem solve.Flat.Au (N M:Nat) (r c:Int) (l:List Int) (p6:Int) (p5:List Int):solve.Flat.L0 N (M+1) r c l p6 p5=bif ((A6 p6 r)&&(A6 p6 c)) then bif ((decide (0≤(Ab ((Ab (p6*c))+p6))))&&(decide ((Ab ((Ab (p6*c))+p6))<(List.length l:Int)))) then bif (Ag (List.getD l (Int.toNat (Ab ((Ab (p6*c))+p6))) 0)) then bif (decide ((List.length p5)+1≤Gu)) then solve.Flat.L0 N M r c l (Ab (p6+1)) (p5++[(Jq (List.getD l (Int.toNat (Ab ((Ab (p6*c))+p6))) 0))]) else none else none else none else bif (Cz p5) then bif (Dj (Bf p5) (-40:Int)) then solve.Flat.L1 N N p5 (0:Int) else none else none :=
  Eq.trans (by kernel_rfl)
  (Ar (On (A6 p6 r)) (Ar (On (A6 p6 r)) (Ar (Mb (A6 p6 r)) (Ar (Ab8 (A6 p6 r)) (Ar (Tw (A6 p6 r)) (Cq (tt1 (A6 p6 r) (A6 p6 c)) rfl rfl))))))
theorem solve.Flat.B2 (N M:Nat) (p5:List Int) (p46:Int):solve.Flat.L1 N (M+1) p5 p46=bif (A6 p46 (List.length p5:Int)) then bif ((decide (0≤p46))&&(decide (p46<(List.length p5:Int)))) then bif (decide ((Int.toNat p46)<(List.length p5))) then bif (Ag (By (Bf p5) (-40:Int))&&Ag (List.getD p5 (Int.toNat p46) 0)) then bif (!(decide (Ta (By (Bf p5) (-40:Int)) (List.getD p5 (Int.toNat p46) 0)<0))) then some (.tup [.bool true,.int .i64 0]) else solve.Flat.L1 N M p5 (Ab (p46+1)) else none else none else none else some (.tup [.bool false,.int .i64 0]):=by kernel_rfl
theorem solve.Flat.ev (N:Nat) (r c:Int) (l:List Int):Bp solve.Flat.E N Tryz.f24 (Al Tryz.f24) [.agg [.int .i64 r,.int .i64 c,.ints .arg .u64 l]]=bif (Ae l) then bif ((B1 r c l) !=(0:Int)) then some (.tup [.bool false,.int .i64 (B1 r c l)]) else solve.Flat.L0 N N r c l 0 [] else none:=by kernel_rfl
abbrev _root_.Go.Proofs.S1.solve.Flat.Kn:=A5 Tryz.prog 24 solve.Flat.spec
theorem solve.Flat.Ac (hk:Ay Tryz.prog solve.Flat.A8) (h:∀ (r c:Int) (l:List Int),solve.Flat.pre [.i r,.i c,.l l]=true→Ba solve.Flat.E Tryz.f24 [.agg [.int .i64 r,.int .i64 c,.ints .arg .u64 l]] (solve.Flat.out [.i r,.i c,.l l])):solve.Flat.Kn :=
  Aj (A1 hk _ _ _) Tryz.func24 (by kernel_rfl) (by kernel_rfl) h
end EqSol
end Go.Proofs.S1
end
