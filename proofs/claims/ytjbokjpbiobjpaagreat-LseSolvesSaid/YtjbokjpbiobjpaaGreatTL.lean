/- A verified evaluator of the program's form and its use for this seat: S1PTri, S1EqFew, S1PSol, S1EqQr, S1PQr, S1PQrA, S1EqRef17, S1PRef17, S1EqRef14, S1PRef13, S1PRef14. -/
import Derived.Test.YtjbokjpbiobjpaaGreatTI
import Derived.Test.YtjbokjpbiobjpaaGreatTK
import Derived.Test.YtjbokjpbiobjpaaGreatTF
import Derived.Test.YtjbokjpbiobjpaaGreatTE
import Derived.Test.YtjbokjpbiobjpaaGreatTJ
set_option linter.unusedVariables false
set_option linter.unusedSimpArgs false
noncomputable section
namespace Go.Proofs.S1
open Go Go.Den Go.Rnd Go.Proofs
open EqSol
theorem solve.E6.known:solve.E6.Kn:=solve.E6.Ac .nil fun i k _=>by
  refine ⟨0,solve.E6.out [.i i,.i k],[],?_,.bool⟩
  rw [solve.E6.ev,Aq]; rfl
theorem Aob.known:Dl.Dk.up.Kn:=Dl.Dk.up.Ac .nil fun n k hp=>by
  have hp:=Aw.1 (show Dh (0≤k∧k<n∧n≤10)=true from hp)
  refine ⟨0,Dl.Dk.up.out [.i n,.i k],[],?_,.int⟩
  rw [Dl.Dk.up.ev,Am (x:=n-1) (by omega) (by omega),Am (by omega) (by omega)]; rfl
theorem Aa.of.Bm.own.known:Aa.of.Bm.own.Kn:=Aa.of.Bm.own.Ac (.cons Aa.E0.known .nil) fun a b hp=>by
  have h1:(Bn a&&Bn b)=true:=hp
  obtain ⟨ha,hb⟩:=Ad.1 h1
  obtain ⟨A,rfl,hA⟩:=Et ha
  obtain ⟨B,rfl,hB⟩:=Et hb
  refine ⟨8,.agg [.int .i64 (A:Int),.int .i64 (B:Int),.ints (.own 108002 tB) .u64 (Bg A B fun (i j:Nat)=>(0:Int))],[],?_,Wk.G2 (.cons .int (.cons .int (.cons (.keep _ _ _ _ List.not_mem_nil) .nil)))⟩
  have n:=of.Bm.outer 8 hA hB (by omega) (F:=fun (i j:Nat)=>(0:Int)) (fun _ _=>rfl) A 0 8 (by omega) (by omega)
  rw [K8] at n
  exact (EqOf.Aa.of.Bm.ev 8 (A:Int) (B:Int)).trans n
theorem Aa.Bm.own.known:Aa.Bm.own.Kn:=Aa.Bm.own.Ac (.cons Aa.of.Bm.own.known (.cons Aa.size.known .nil)) fun a b hp=>by
  have hp:(Bn a&&Bn b)=true:=hp
  obtain ⟨ha,hb⟩:=Ad.1 hp
  refine ⟨0,Aa.Bm.own.out [.i a,.i b],[],?_,?_⟩
  · rw [Aa.Bm.own.ev,ha,hb]; rfl
  · exact Wk.G6 (.cons (Wk.G2 (.cons .int (.cons .int (.cons (.keep _ _ _ _ List.not_mem_nil) .nil)))) (.cons .int .nil))
section
variable {n Q:Nat} {l m:List Int}
def upF (n Q:Nat) (l m:List Int) (i j:Nat):Int:=(upL (n:Int) l (fun i=>Cj (Q:Int) m (i:Int) (j:Int)) n n).getD i 0
def upD (n j k a b:Nat):Bool:=decide (b<j∨(b=j∧n-k≤a))
def Sh (n Q:Nat) (l m:List Int) (j k:Nat):List Int:=Bg n Q fun a b=>if upD n j k a b=true then upF n Q l m a b else 0
theorem Ag7 (i j:Nat):Ag (upF n Q l m i j)=true:=U5 (Ag6 _ _ _ _ _) i
theorem Anc (j k:Nat):Ae (Sh n Q l m j k)=true:=Ez fun a b=>by
  split
  · exact Ag7 _ _
  · exact Cb (n:=0) (by decide)
theorem Ai4 {j k t:Nat} (ht:t<n) (hj:j<Q) (hk:n-k≤t):Cj (Q:Int) (Sh n Q l m j k) (t:Int) (j:Int)=upF n Q l m t j:=by
  unfold Sh
  have hd:upD n j k t j=true:=Ay7 (.inr ⟨rfl,hk⟩)
  rw [Aj1 ht hj,hd,if_pos rfl]
theorem Ty (j k:Nat):(Sh n Q l m j k).length=n*Q:=Ca _ _ _
theorem Am9 (N:Nat) (n6:n≤6) (q6:Q≤6) (hl:l.length=n*n) (al:Ae l=true) {i j k:Nat} (hi:i+k+1=n) (hj:j<Q) (M0 M1:Nat) (p29 p33:Int) :
    ∀ (cnt t F:Nat) (s:Int),t+cnt=n→cnt<F→i+1≤t→Ag s=true →
    solve.A2.Up.L2 N M0 M1 F (n:Int) (n:Int) l (n:Int) (Q:Int) m (n:Int) s (t:Int) (j:Int) (i:Int) p29 p33 (Sh n Q l m j k) =
    solve.A2.Up.L1 N M0 M1 (n:Int) (n:Int) l (n:Int) (Q:Int) m (n:Int) (Ab (p33+(1:Int))) (List.set (Sh n Q l m j k) (Int.toNat ((i:Int)*(Q:Int)+(j:Int))) (Ew (N0 (n:Int) l (i:Int) s (t:Int) ((upL (n:Int) l (fun i=>Cj (Q:Int) m (i:Int) (j:Int)) n n).drop t)) (Cj (n:Int) l (i:Int) (i:Int)))) (j:Int) p29:=by
  intro cnt
  induction cnt with
  | zero =>
    intro t F s ht hF hit hs
    obtain ⟨F,rfl⟩:∃ G,F=G+1:=⟨F-1,by omega⟩
    obtain ⟨e1,g1,g2⟩:=Hz (R:=(n:Int)) (Cy n6 n6 hl (show i<n by omega) (show i<n by omega))
    obtain ⟨e2,g3,g4⟩:=Hz (R:=(n:Int)) (Cy n6 q6 (Ty (l:=l) (m:=m) j k) (show i<n by omega) hj)
    rw [Azk (by rw [M7]; omega),N0]
    rw [solve.A2.Up.Fp,Aq,Azb (show ¬ (t:Int)<(n:Int) by omega),Aza,e1,Ay7 g1,Ay7 g2,Azc,Ay6,hs,show Ag (List.getD l (Int.toNat ((i:Int)*(n:Int)+(i:Int))) 0)=true from Ey (c:=(n:Int)) al,Azc,Ay6,
      e2,Ay7 g3,Ay7 g4,Azc,Ay6,Ay7 (show Int.toNat ((i:Int)*(Q:Int)+(j:Int))<(Sh n Q l m j k).length by omega),Ay6]
    rfl
  | succ cnt ih =>
    intro t F s ht hF hit hs
    obtain ⟨F,rfl⟩:∃ G,F=G+1:=⟨F-1,by omega⟩
    obtain ⟨e1,g1,g2⟩:=Hz (R:=(n:Int)) (Cy n6 n6 hl (show i<n by omega) (show t<n by omega))
    obtain ⟨e2,g3,g4⟩:=Hz (R:=(n:Int)) (Cy n6 q6 (Ty (l:=l) (m:=m) j k) (show t<n by omega) hj)
    have hx:List.getD (Sh n Q l m j k) (Int.toNat ((t:Int)*(Q:Int)+(j:Int))) 0=upF n Q l m t j:=Ai4 (by omega) hj (by omega)
    rw [solve.A2.Up.Fp,Aq,Ay7 (show (t:Int)<(n:Int) by omega),Ay6,Ay7 (show (i:Int)<(t:Int) by omega),Ay6,e1,Ay7 g1,Ay7 g2,Azc,Ay6,
      e2,Ay7 g3,Ay7 g4,Azc,Ay6,Ay7 (show Int.toNat ((t:Int)*(Q:Int)+(j:Int))<(Sh n Q l m j k).length by omega),Ay6,hx,
      show Ag (List.getD l (Int.toNat ((i:Int)*(n:Int)+(t:Int))) 0)=true from Ey (c:=(n:Int)) al,Ag7,Azc,Ay6,hs,Ia,Azc,Ay6,Am (x:=(t:Int)+1) (by omega) (by omega)]
    have:=ih (t+1) F (Db s (D1 (Cj (n:Int) l (i:Int) (t:Int)) (upF n Q l m t j))) (by omega) (by omega) (by omega) (Kz hs (Ia _ _))
    rw [V7 (by rw [M7]; omega)]
    exact this
theorem Aqx (N:Nat) (n6:n≤6) {i j k:Nat} (hi:i<n) (M0 M1:Nat) (p29 p33 s:Int):∀ (cnt t F:Nat),t+cnt=i+1 →
    solve.A2.Up.L2 N M0 M1 (F+cnt) (n:Int) (n:Int) l (n:Int) (Q:Int) m (n:Int) s (t:Int) (j:Int) (i:Int) p29 p33 (Sh n Q l m j k) =
    solve.A2.Up.L2 N M0 M1 F (n:Int) (n:Int) l (n:Int) (Q:Int) m (n:Int) s ((i+1:Nat):Int) (j:Int) (i:Int) p29 p33 (Sh n Q l m j k):=by
  intro cnt
  induction cnt with
  | zero =>
    intro t F ht
    obtain rfl:t=i+1:=by omega
    rfl
  | succ cnt ih =>
    intro t F ht
    rw [← Nat.add_assoc,solve.A2.Up.Fp,Aq,Ay7 (show (t:Int)<(n:Int) by omega),Ay6,Azb (show ¬ (i:Int)<(t:Int) by omega),Aza,Am (by omega) (by omega)]
    exact ih (t+1) F (by omega)
theorem Ai3 {i j k:Nat} (hi:i+k+1=n) (hj:j<Q) {x:Int} (hx:x=upF n Q l m i j):List.set (Sh n Q l m j k) (Int.toNat ((i:Int)*(Q:Int)+(j:Int))) x=Sh n Q l m j (k+1):=by
  refine Zr hj hx fun a b ha hb=>?_
  unfold upD
  rw [Azd,Azd]
  omega
theorem Aqy (N:Nat) (n6:n≤6) (q6:Q≤6) (hN:7<N) (hl:l.length=n*n) (hm:m.length=n*Q) (al:Ae l=true) (am:Ae m=true) {j:Nat} (hj:j<Q) (M0:Nat):∀ (cnt k F:Nat),k+cnt=n→cnt<F →
    solve.A2.Up.L1 N M0 F (n:Int) (n:Int) l (n:Int) (Q:Int) m (n:Int) (k:Int) (Sh n Q l m j k) (j:Int) (j:Int) =
    solve.A2.Up.L0 N M0 (n:Int) (n:Int) l (n:Int) (Q:Int) m (n:Int) ((j+1:Nat):Int) (Sh n Q l m j n):=by
  intro cnt
  induction cnt with
  | zero =>
    intro k F hk hF
    obtain ⟨F,rfl⟩:∃ G,F=G+1:=⟨F-1,by omega⟩
    obtain rfl:k=n:=by omega
    rw [solve.A2.Up.B2,Aq,Azb (by omega),Aza,Am (by omega) (by omega)]
    rfl
  | succ cnt ih =>
    intro k F hk hF
    obtain ⟨F,rfl⟩:∃ G,F=G+1:=⟨F-1,by omega⟩
    obtain ⟨i,hi⟩:∃ i:Nat,i+k+1=n:=⟨n-k-1,by omega⟩
    have ei:(n:Int)-1-(k:Int)=(i:Int):=by omega
    obtain ⟨e2,g3,g4⟩:=Hz (R:=(n:Int)) (Cy n6 q6 hm (show i<n by omega) hj)
    rw [solve.A2.Up.B2,Aq,Ay7 (show (k:Int)<(n:Int) by omega),Ay6,Aw.2 (show 0≤(k:Int)∧(k:Int)<(n:Int)∧(n:Int)≤10 by omega),Ay6,ei,e2,Ay7 g3,Ay7 g4,Azc,Ay6]
    obtain ⟨G,rfl⟩:∃ G,N=G+(i+1):=⟨N-(i+1),by omega⟩
    have hs:=Aqx (n:=n) (Q:=Q) (l:=l) (m:=m) (G+(i+1)) n6 (i:=i) (j:=j) (k:=k) (by omega) M0 F (j:Int) (k:Int) (Cj (Q:Int) m (i:Int) (j:Int)) (i+1) 0 G (by omega)
    have hr:=Am9 (n:=n) (Q:=Q) (l:=l) (m:=m) (G+(i+1)) n6 q6 hl al hi hj M0 F (j:Int) (k:Int) (n-(i+1)) (i+1) G (Cj (Q:Int) m (i:Int) (j:Int)) (by omega) (by omega) (by omega) (Ey (c:=(Q:Int)) am)
    rw [Ai3 hi hj (Ai6 (show i<n by omega)).symm,Am (by omega) (by omega)] at hr
    exact (hs.trans hr).trans (ih (k+1) F (by omega) (by omega))
theorem Ad8 (j:Nat):Sh n Q l m j n=Sh n Q l m (j+1) 0:=by
  unfold Sh
  refine Dx fun a b ha hb=>?_
  have:upD n j n a b=upD n (j+1) 0 a b:=by
    unfold upD
    rw [decide_eq_decide]
    omega
  rw [this]
theorem Ad7:Sh n Q l m 0 0=Bg n Q fun _ _=>0:=by
  unfold Sh
  refine Dx fun a b ha hb=>?_
  have:upD n 0 0 a b=false:=Azb (by omega)
  rw [this]; rfl
theorem Ai5:Sh n Q l m Q 0=upG (n:Int) l (Q:Int) m n Q:=by
  unfold Sh upG
  refine Dx fun a b ha hb=>?_
  have:upD n Q 0 a b=true:=Ay7 (.inl hb)
  rw [this]; rfl
theorem Aqz (N:Nat) (n6:n≤6) (q6:Q≤6) (hN:7<N) (hl:l.length=n*n) (hm:m.length=n*Q) (al:Ae l=true) (am:Ae m=true):∀ (cnt j F:Nat),j+cnt=Q→cnt<F →
    solve.A2.Up.L0 N F (n:Int) (n:Int) l (n:Int) (Q:Int) m (n:Int) (j:Int) (Sh n Q l m j 0) =
    bif Di (Sh n Q l m Q 0) then some (.tup [.agg [.int .i64 (n:Int),.int .i64 (Q:Int),.ints (.own 112002 tB) .u64 (Sh n Q l m Q 0)],.int .i64 (0:Int)]) else some (Ahu 2):=by
  intro cnt
  induction cnt with
  | zero =>
    intro j F hj hF
    obtain ⟨F,rfl⟩:∃ G,F=G+1:=⟨F-1,by omega⟩
    obtain rfl:j=Q:=by omega
    have h36:=Nat.mul_le_mul n6 q6
    rw [solve.A2.Up.Au,Aq,Azb (by omega),Aza,I3 (Anc _ _) (by rw [Ty]; omega),Ay6]
    cases Di (Sh n j l m j 0)<;>rfl
  | succ cnt ih =>
    intro j F hj hF
    obtain ⟨F,rfl⟩:∃ G,F=G+1:=⟨F-1,by omega⟩
    have hr:=Aqy N n6 q6 hN hl hm al am (show j<Q by omega) F n 0 N (by omega) (by omega)
    rw [Ad8] at hr
    rw [solve.A2.Up.Au,Aq,Ay7 (show (j:Int)<(Q:Int) by omega),Ay6]
    exact hr.trans (ih (j+1) F (by omega) (by omega))
end
theorem solve.A2.Up.known:solve.A2.Up.Kn:=solve.A2.Up.Ac (.cons Aob.known (.cons Aa.Bm.own.known (.cons solve.E6.known (.cons Ah.Div.known (.cons Ah.Finite.known (.cons Ah.Mul.known (.cons Ah.Sub.known .nil))))))) fun r c l p q m n hp=>by
  show ∃ N dv drops,_=some dv∧Wk drops dv (S9 (G0 r q (upG c l q m (Int.toNat r) (Int.toNat q))))
  obtain ⟨h1,hn⟩:=Ad.1 (show (Qr r c l p q m&&decide (n=r))=true from hp)
  obtain ⟨h2,h3⟩:=Ad.1 h1
  obtain ⟨hr,hm⟩:=Ad.1 h2
  obtain ⟨h4,h5⟩:=Ad.1 h3
  obtain ⟨al,am⟩:=Ad.1 h4
  obtain ⟨rfl,rfl⟩:=Aw.1 h5
  obtain rfl:=of_decide_eq_true hn
  have s1:=(E1 hr).1
  have s2:=(E1 hm).2
  obtain ⟨R,C,rfl,hC,r6,c6,hl⟩:=B8 hr
  obtain ⟨P,Q,hP,rfl,p6,q6,hl2⟩:=B8 hm
  obtain rfl:R=C:=by omega
  obtain rfl:R=P:=by omega
  have h:=Aqz (n:=R) (Q:=Q) (l:=l) (m:=m) 8 r6 q6 (by omega) hl hl2 al am Q 0 8 (by omega) (by omega)
  rw [Ad7,Ai5,show ((0:Nat):Int)=0 from rfl] at h
  rw [Ay8,Ay8]
  unfold G0
  cases hf:Di (upG (R:Int) l (Q:Int) m R Q) with
  | true =>
    rw [hf,Ay6] at h
    rw [if_pos rfl]
    refine ⟨8,.tup [.agg [.int .i64 (R:Int),.int .i64 (Q:Int),.ints (.own 112002 tB) .u64 (upG (R:Int) l (Q:Int) m R Q)],.int .i64 0],[112002],?_,Wk.G6 (.cons (Qo (List.mem_singleton.2 rfl)) (.cons .int .nil))⟩
    rw [solve.A2.Up.ev,s1,s2,Azc,Ay6,Ay8,Ay8]
    exact h
  | false =>
    rw [hf,Aza] at h
    rw [if_neg (by decide)]
    refine ⟨8,Ahu 2,[],?_,Jo⟩
    rw [solve.A2.Up.ev,s1,s2,Azc,Ay6,Ay8,Ay8]
    exact h
set_option maxRecDepth 100000
namespace EqFew
def qr.Gb.A8:List (Nat × Entry):=[(123,Aa.Mul.spec),(167,Aa.Co.spec)]
def qr.Gb.E:Env:=A9 (A7 qr.Gb.A8) (fun _=>false) (fun _=>none) (fun _=>none)
theorem qr.Gb.ev (N:Nat) (r c:Int) (l:List Int) (p q:Int) (m:List Int):Bp qr.Gb.E N Tryz.f98 (Al Tryz.f98) [.agg [.int .i64 r,.int .i64 c,.ints .arg .u64 l],.agg [.int .i64 p,.int .i64 q,.ints .arg .u64 m]]=bif (((Cx r c l).2.2.2) !=(0:Int)) then some (.tup [.agg [.int .i64 0,.int .i64 0,.nil],.int .i64 ((Cx r c l).2.2.2)]) else bif (Ae ((Cx r c l).2.2.1)&&Ae m) then some (.tup [.agg [.int .i64 ((Fa ((Cx r c l).1) ((Cx r c l).2.1) ((Cx r c l).2.2.1) p q m).1),.int .i64 ((Fa ((Cx r c l).1) ((Cx r c l).2.1) ((Cx r c l).2.2.1) p q m).2.1),.ints .fresh .u64 ((Fa ((Cx r c l).1) ((Cx r c l).2.1) ((Cx r c l).2.2.1) p q m).2.2.1)],.int .i64 ((Fa ((Cx r c l).1) ((Cx r c l).2.1) ((Cx r c l).2.2.1) p q m).2.2.2)]) else none:=by kernel_rfl
abbrev _root_.Go.Proofs.S1.qr.Gb.Kn:=A5 Tryz.prog 98 qr.Gb.spec
theorem qr.Gb.Ac (hk:Ay Tryz.prog qr.Gb.A8) (h:∀ (r c:Int) (l:List Int) (p q:Int) (m:List Int),qr.Gb.pre [.i r,.i c,.l l,.i p,.i q,.l m]=true→Ba qr.Gb.E Tryz.f98 [.agg [.int .i64 r,.int .i64 c,.ints .arg .u64 l],.agg [.int .i64 p,.int .i64 q,.ints .arg .u64 m]] (qr.Gb.out [.i r,.i c,.l l,.i p,.i q,.l m])):qr.Gb.Kn :=
  Aj (A1 hk _ _ _) Tryz.func98 (by kernel_rfl) (by kernel_rfl) h
end EqFew
open EqSol EqFew
theorem Yf {n i:Nat} (h:i<n):(List.range n).drop i=i::(List.range n).drop (i+1):=by
  rw [List.drop_eq_getElem_cons (by rw [List.length_range]; exact h),List.getElem_range]
theorem Ex {r c:Int} {l:List Int} (h:B1 r c l=0):Av r c l=true∧Di l=true:=by
  unfold B1 at h
  by_cases h1:Av r c l=true
  · rw [if_pos h1] at h
    by_cases h2:Di l=true
    · exact ⟨h1,h2⟩
    · rw [if_neg h2] at h; exact absurd h (by decide)
  · rw [if_neg h1] at h; exact absurd h (by decide)
theorem Adr {r c:Int} {l:List Int} (h1:Av r c l=true) (h2:Di l=true):B1 r c l=0:=by unfold B1; rw [if_pos h1,if_pos h2]
theorem Od {x:Int} (h:x≠0):(x !=(0:Int))=true:=by simpa using h
theorem En {x:Int} (h:x=0):(x !=(0:Int))=false:=by rw [h]; rfl
theorem Aio (N:Nat) {n:Nat} {l:List Int} (n6:n≤6) (hl:l.length=n*n) (al:Ae l=true):∀ (cnt i F:Nat),i+cnt=n→cnt<F →
    solve.check.L0 (N+4) F (n:Int) (n:Int) l (i:Int)=some (.int .i64 (if ((List.range n).drop i).any (fun i:Nat=>decide (Be (Cj (n:Int) l (i:Int) (i:Int))=0))=true then 5 else 0)):=by
  intro cnt
  induction cnt with
  | zero =>
    intro i F hi hF
    obtain ⟨F,rfl⟩:∃ G,F=G+1:=⟨F-1,by omega⟩
    rw [solve.check.Au,Aq,Azb (by omega),Aza,Azk (by rw [List.length_range]; omega)]; rfl
  | succ cnt ih =>
    intro i F hi hF
    obtain ⟨F,rfl⟩:∃ G,F=G+1:=⟨F-1,by omega⟩
    obtain ⟨e1,g1,g2⟩:=Hz (R:=(n:Int)) (Cy n6 n6 hl (show i<n by omega) (show i<n by omega))
    have hx:List.getD l (Int.toNat ((i:Int)*(n:Int)+(i:Int))) 0=Cj (n:Int) l (i:Int) (i:Int):=rfl
    rw [solve.check.Au,Aq,Ay7 (show (i:Int)<(n:Int) by omega),Ay6,e1,Ay7 g1,Ay7 g2,Azc,Ay6,hx,Ey al,Ay6,Yf (by omega),List.any_cons]
    by_cases hk:Be (Cj (n:Int) l (i:Int) (i:Int))=0
    · have e:(Be (Cj (n:Int) l (i:Int) (i:Int))==(0:Int))=true:=by rw [hk]; rfl
      rw [e,Ay6,Ay7 hk]; rfl
    · have e:(Be (Cj (n:Int) l (i:Int) (i:Int))==(0:Int))=false:=by simpa using hk
      rw [e,Aza,Azb hk,Bool.false_or,Am (by omega) (by omega)]
      exact ih (i+1) F (by omega) (by omega)
theorem Ato {r c p:Int}:((r !=c)||(r !=p))=decide (r≠c∨r≠p):=by
  rw [Azm]; simp
theorem solve.check.known:solve.check.Kn:=solve.check.Ac (.cons Cv.Check.known (.cons soft.Kind.known .nil)) fun r c l p q m hp=>by
  obtain ⟨al,am⟩:=Ad.1 (show (Ae l&&Ae m)=true from hp)
  refine ⟨14,solve.check.out [.i r,.i c,.l l,.i p,.i q,.l m],[],?_,.int⟩
  show _=some (DV.int .i64 (Lv r c l p q m))
  rw [show (14:Nat)=10+4 from rfl,solve.check.ev,al,Ay6,am,Ay6,Ato]
  unfold Lv
  by_cases h1:B1 r c l=0
  · rw [En h1,Aza,if_neg (by rw [h1]; decide)]
    by_cases h2:B1 p q m=0
    · rw [En h2,Aza,if_neg (by rw [h2]; decide)]
      by_cases h3:r≠c∨r≠p
      · rw [Ay7 h3,Ay6,if_pos h3]
      · rw [Azb h3,Aza,if_neg h3]
        obtain rfl:r=c:=Decidable.byContradiction fun h=>h3 (.inl h)
        obtain ⟨R,C,rfl,hC,r6,c6,hl⟩:=B8 (Ex h1).1
        obtain rfl:R=C:=by omega
        rw [Ay8]
        exact Aio 10 r6 hl al R 0 14 (by omega) (by omega)
    · rw [Od h2,Ay6,if_pos h2]
  · rw [Od h1,Ay6,if_pos h1]
theorem M4 {r c:Int} {l:List Int} {p q:Int} {m:List Int} (h:Lv r c l p q m=0):Av r c l=true∧Av p q m=true∧r=c∧r=p:=by
  unfold Lv at h
  by_cases h1:B1 r c l=0
  · rw [if_neg (by rw [h1]; decide)] at h
    by_cases h2:B1 p q m=0
    · rw [if_neg (by rw [h2]; decide)] at h
      by_cases h3:r≠c∨r≠p
      · rw [if_pos h3] at h; exact absurd h (by decide)
      · exact ⟨(Ex h1).1,(Ex h2).1,Decidable.byContradiction fun h=>h3 (.inl h),Decidable.byContradiction fun h=>h3 (.inr h)⟩
    · rw [if_pos h2] at h; exact absurd h h2
  · rw [if_pos h1] at h; exact absurd h h1
theorem solve.Cp.known:solve.Cp.Kn:=solve.Cp.Ac (.cons solve.check.known (.cons solve.A2.Up.known .nil)) fun r c l p q m hp=>by
  have hp:(Ae l&&Ae m)=true:=hp
  show ∃ N dv drops,_=some dv∧Wk drops dv (S9 (Wm r c l p q m))
  unfold Wm
  by_cases h:Lv r c l p q m=0
  · obtain ⟨h1,h2,h3,h4⟩:=M4 h
    have ht:Qr r c l p q m=true:=Ad.2 ⟨Ad.2 ⟨h1,h2⟩,Ad.2 ⟨hp,Aw.2 ⟨h3,h4⟩⟩⟩
    rw [if_neg (by rw [h]; decide)]
    exact ⟨0,_,[],by rw [solve.Cp.ev,hp,Ay6,En h,Aza,ht,Ay7 rfl]; rfl,Oa⟩
  · rw [if_pos h]
    exact ⟨0,_,[],by rw [solve.Cp.ev,hp,Ay6,Od h,Ay6]; rfl,Jo⟩
theorem Anu {b:Nat} {n:Int} (h:b<2^64):(Gz b n).1<2^64:=by
  unfold Gz
  by_cases h4:An b=4
  · rw [if_pos h4]; exact (by decide:Ql<2^64)
  rw [if_neg h4]
  by_cases h3:An b=3∨An b=0
  · rw [if_pos h3]; exact h
  rw [if_neg h3]
  exact T5 _ _ _
theorem H6 {b n:Int} (h:Ag b=true):Ag (By b n)=true:=by
  obtain ⟨x,rfl,hx⟩:=Bl h
  exact Cb (Anu (by rw [Ay8]; exact hx))
theorem Zx:∀ (l:List Int) (m:Nat),m<2^64→Zy l m<2^64
  | [],m,h=>h
  | x::l,m,h=>by
    unfold Zy
    split
    · exact (by decide:Ql<2^64)
    · have h2:Hl x.toNat<2^63:=Ab0 x.toNat
      exact Zx l _ (by omega)
theorem Oi (l:List Int):Ag (Bf l)=true:=Cb (Zx l 0 (by decide))
theorem Th (x:Int):Ag (Jq x)=true:=Cb (Nat.lt_trans (Ab0 x.toNat) (by decide))
theorem Al9 (N:Nat) {d:List Int} (hd:Cz d=true) (h7:d.length≤1000):∀ (cnt i F:Nat),i+cnt=d.length→cnt<F →
    solve.Flat.L1 N F d (i:Int)=some (.tup [.bool ((d.drop i).any fun x=>!(decide (Ta (By (Bf d) (-40)) x<0))),.int .i64 0]):=by
  obtain ⟨_,hu⟩:=Ii hd
  intro cnt
  induction cnt with
  | zero =>
    intro i F hi hF
    obtain ⟨F,rfl⟩:∃ G,F=G+1:=⟨F-1,by omega⟩
    rw [solve.Flat.B2,Aq,Azb (by omega),Aza,Azk (by omega)]; rfl
  | succ cnt ih =>
    intro i F hi hF
    obtain ⟨F,rfl⟩:∃ G,F=G+1:=⟨F-1,by omega⟩
    rw [solve.Flat.B2,Aq,Ay7 (show (i:Int)<(d.length:Int) by omega),Ay6,Ay7 (show (0:Int)≤(i:Int) by omega),Azc,Ay6,Ay8,Ay7 (show i<d.length by omega),Ay6,
      H6 (Oi d),hu i (by omega),Azc,Ay6,Hi (by omega),List.any_cons]
    cases decide (Ta (By (Bf d) (-40)) (d.getD i 0)<0) with
    | false=>rfl
    | true =>
      rw [Bool.not_true,Aza,Bool.false_or,Am (by omega) (by omega)]
      exact ih (i+1) F (by omega) (by omega)
theorem As2 (c:Int) (l:List Int) (n:Nat):Ae (Ky c l n)=true:=Aw.2 fun x hx=>by
  obtain ⟨j,_,rfl⟩:=List.mem_map.1 hx
  exact Th _
theorem I8 (c:Int) (l:List Int) (n:Nat):(Ky c l n).length=n:=by unfold Ky; rw [List.length_map,List.length_range]
theorem Ama (N:Nat) {R C:Nat} {l:List Int} (r6:R≤6) (c6:C≤6) (hN:7<N) (hl:l.length=R*C) (al:Ae l=true):∀ (cnt i F:Nat),i+cnt=min R C→cnt<F →
    solve.Flat.L0 N F (R:Int) (C:Int) l (i:Int) (Ky (C:Int) l i)=some (.tup [.bool (Apq (Ky (C:Int) l (min R C))),.int .i64 0]):=by
  intro cnt
  induction cnt with
  | zero =>
    intro i F hi hF
    obtain ⟨F,rfl⟩:∃ G,F=G+1:=⟨F-1,by omega⟩
    obtain rfl:i=min R C:=by omega
    have hlt:(A6 (((min R C:Nat)):Int) (R:Int)&&A6 (((min R C:Nat)):Int) (C:Int))=false:=by
      rw [Aq,Aq,Bool.and_eq_false_iff,Azp,Azp]; omega
    have ok:=I3 (As2 (C:Int) l (min R C)) (by rw [I8]; omega)
    have sp:Dj (Bf (Ky (C:Int) l (min R C))) (-40:Int)=true:=Ad.2 ⟨Oi _,Aw.2 (by omega)⟩
    rw [solve.Flat.Au,hlt,Aza,ok,Ay6,sp,Ay6]
    exact Al9 N ok (by rw [I8]; omega) (min R C) 0 N (by rw [I8]; omega) (by omega)
  | succ cnt ih =>
    intro i F hi hF
    obtain ⟨F,rfl⟩:∃ G,F=G+1:=⟨F-1,by omega⟩
    obtain ⟨e1,g1,g2⟩:=Hz (R:=(R:Int)) (Cy r6 c6 hl (show i<R by omega) (show i<C by omega))
    have hx:List.getD l (Int.toNat ((i:Int)*(C:Int)+(i:Int))) 0=Cj (C:Int) l (i:Int) (i:Int):=rfl
    rw [solve.Flat.Au,Aq,Aq,Ay7 (show (i:Int)<(R:Int) by omega),Ay7 (show (i:Int)<(C:Int) by omega),Azc,Ay6,e1,Ay7 g1,Ay7 g2,Azc,Ay6,hx,Ey al,Ay6,
      I8,Ay7 (show i+1≤Gu by unfold Gu; omega),Ay6,Am (by omega) (by omega)]
    have:=ih (i+1) F (by omega) (by omega)
    unfold Ky at this ⊢
    rw [Hd] at this
    exact this
theorem solve.Flat.known:solve.Flat.Kn:=solve.Flat.Ac (.cons Cv.Check.known (.cons compare.H3.known (.cons compare.Ms.known (.cons Ah.Bq.known (.cons Ah.Bt.known .nil))))) fun r c l hp=>by
  have hp:Ae l=true:=hp
  refine ⟨8,solve.Flat.out [.i r,.i c,.l l],[],?_,Wk.G6 (.cons .bool (.cons .int .nil))⟩
  show _=some (DV.tup [.bool (Ko r c l).1,.int .i64 (Ko r c l).2])
  rw [solve.Flat.ev,hp,Ay6]
  unfold Ko Nh
  by_cases h1:B1 r c l=0
  · obtain ⟨R,C,rfl,rfl,r6,c6,hl⟩:=B8 (Ex h1).1
    rw [En h1,Aza,if_neg (by rw [h1]; decide),Ay8,Ay8]
    exact Ama 8 r6 c6 (by omega) hl hp (min R C) 0 8 (by omega) (by omega)
  · rw [Od h1,Ay6,if_pos h1]
theorem Uh {r c:Int} {l:List Int} (al:Ae l=true) (x y a b:Int):Ae (F4 r c l x y a b).2.2.1=true:=by
  unfold F4
  split
  · split
    · dsimp only
      exact Ez fun i k=>Ey al
    · exact Aw.2 fun x h=>by cases h
  · exact Aw.2 fun x h=>by cases h
theorem T0 {r c:Int} {l:List Int} (al:Ae l=true):Ae (Cx r c l).2.2.1=true:=by
  unfold Cx
  split
  · dsimp only
    exact Ez fun i k=>Ey al
  · exact Aw.2 fun x h=>by cases h
theorem N4 (x y:List Int):Ag (G1 x y)=true:=Cb (Adk x y 0 (by decide))
theorem Pz (r c:Int) (l:List Int) (p q:Int) (m:List Int):Ae (Fa r c l p q m).2.2.1=true:=by
  unfold Fa
  split
  · split
    · dsimp only
      exact Ez fun i k=>N4 _ _
    · exact Aw.2 fun x h=>by cases h
  · exact Aw.2 fun x h=>by cases h
theorem Akn (r c:Int) (l:List Int) (p q:Int) (m:List Int):Ae (Dm r c l p q m).2.2.1=true:=by
  unfold Dm
  split
  · exact Aw.2 fun x h=>by cases h
  · exact Pz _ _ _ _ _ _
theorem qr.Gb.known:qr.Gb.Kn:=qr.Gb.Ac (.cons Aa.Mul.known (.cons Aa.Co.known .nil)) fun r c l p q m hp=>by
  obtain ⟨al,am⟩:=Ad.1 (show (Ae l&&Ae m)=true from hp)
  show ∃ N dv drops,_=some dv∧Wk drops dv (S9 (Dm r c l p q m))
  unfold Dm
  by_cases h:(Cx r c l).2.2.2=0
  · rw [if_neg (by rw [h]; decide)]
    exact ⟨0,_,[],by rw [qr.Gb.ev,En h,Aza,T0 al,am]; rfl,Oa⟩
  · rw [if_pos h]
    exact ⟨0,_,[],by rw [qr.Gb.ev,Od h,Ay6]; rfl,Jo⟩
namespace EqQr
def qr.down.hint:Nat→Option Bb
  | 0=>some { keep:=[1,2,5,6,7],objs:=[(0,6,100006,.recs 214 2 []),(6,2,106002,.ints 37 .u64 [])],boxes:=[1,2,5] }
  | 2=>some { keep:=[1,2,5,6,7,8,9,12],objs:=[(6,2,106002,.ints 37 .u64 []),(0,6,100006,.recs 214 2 [])],boxes:=[1,2,5] }
  | _=>none
def qr.down.A8:List (Nat × Entry):=[(219,As.Apply.spec),(245,As.Dy.spec),(191,Aa.D8.spec)]
def qr.down.E:Env:=A9 (A7 qr.down.A8) (fun n=>Nat.beq n 46) qr.down.hint (fun _=>none)
def qr.down.L0 (N M0 M:Nat) (r c:Int) (l:List Int) (p12_1:Int) (p2_1:List Int) (p7_1:Int) (p8:List Int) (p9:Int) (p6_1:List (List DV)):Option DV:=Bv qr.down.E N Tryz.f217 (Al Tryz.f217) [1,1,1,0,1,0,0,1,0,0,1,1,1,1,0,1,0] [M0] M ⟨Ft 88 [(1,.ptr 1 0 0),(2,.ptr 2 0 0),(5,.ptr 5 0 0),(6,.oref 100006),(7,.int .i64 p7_1),(8,.ints .fresh .u64 p8),(9,.int .u64 p9),(12,.int .i64 p12_1)],[(1,false,.box [.int .i64 r,.int .i64 c,.ints .arg .u64 l]),(2,false,.box [.int .i64 0,.int .i64 0,.nil]),(5,false,.box [.int .i64 r,.int .i64 c,.oref 106002]),(106002,false,.ints 37 .u64 p2_1),(100006,false,.recs 214 2 p6_1)]⟩
def qr.down.L1 (N M:Nat) (r c:Int) (l:List Int) (p7:Int) (p6:List (List DV)) (p2_2:List Int):Option DV:=Bv qr.down.E N Tryz.f217 (Al Tryz.f217) [1,1,1,0,1,0] [] M ⟨Ft 88 [(1,.ptr 1 0 0),(2,.ptr 2 0 0),(5,.ptr 5 0 0),(6,.oref 100006),(7,.int .i64 p7)],[(1,false,.box [.int .i64 r,.int .i64 c,.ints .arg .u64 l]),(2,false,.box [.int .i64 0,.int .i64 0,.nil]),(5,false,.box [.int .i64 r,.int .i64 c,.oref 106002]),(100006,false,.recs 214 2 p6),(106002,false,.ints 37 .u64 p2_2)]⟩
def qr.down.L2 (N M:Nat) (r c:Int) (l:List Int):Option DV:=Bv qr.down.E N Tryz.f217 (Al Tryz.f217) [1,1,1,0,1,0] [] M ⟨Ft 88 [(1,.ptr 1 0 0),(2,.ptr 2 0 0),(5,.ptr 5 0 0),(6,.oref 100006),(7,.int .i64 0)],[(1,false,.box [.int .i64 r,.int .i64 c,.ints .arg .u64 l]),(2,false,.box [.int .i64 0,.int .i64 0,.nil]),(5,false,.box [.int .i64 r,.int .i64 c,.ints .arg .u64 l]),(100006,false,.recs 214 2 [])]⟩
theorem qr.down.Au (N M0 M:Nat) (r c:Int) (l:List Int) (p12_1:Int) (p2_1:List Int) (p7_1:Int) (p8:List Int) (p9:Int) (p6_1:List (List DV)):qr.down.L0 N M0 (M+1) r c l p12_1 p2_1 p7_1 p8 p9 p6_1=bif (A6 p12_1 r) then bif ((decide (0≤(Ab ((Ab (p12_1*c))+p7_1))))&&(decide ((Ab ((Ab (p12_1*c))+p7_1))<(List.length p2_1:Int)))) then bif (decide ((Int.toNat (Ab ((Ab (p12_1*c))+p7_1)))<(List.length p2_1))) then qr.down.L0 N M0 M r c l (Ab (p12_1+1)) (List.set p2_1 (Int.toNat (Ab ((Ab (p12_1*c))+p7_1))) 0) p7_1 p8 p9 p6_1 else none else none else bif (decide ((List.length p6_1)+1≤Afu)) then qr.down.L1 N M0 r c l (Ab (p7_1+1)) (p6_1++[[.ints .arg .u64 p8,.int .u64 p9]]) p2_1 else none:=by kernel_rfl
theorem qr.down.B2 (N M:Nat) (r c:Int) (l:List Int) (p7:Int) (p6:List (List DV)) (p2_2:List Int):qr.down.L1 N (M+1) r c l p7 p6 p2_2=bif ((A6 p7 c)&&(A6 p7 (Ab (r-1)))) then bif (Hj r c p2_2 p7&&Dh (0≤p7∧p7≤r)) then bif (Cz (Cu c p2_2 p7 p7 (Int.toNat (r-p7)))) then bif (((Ck (Cu c p2_2 p7 p7 (Int.toNat (r-p7)))).2.2.2) !=(0:Int)) then some (.tup [.agg [.int .i64 0,.int .i64 0,.nil],.nil,.int .i64 2]) else bif (((Av r c p2_2&&H0 r c p7 p7 ((Ck (Cu c p2_2 p7 p7 (Int.toNat (r-p7)))).1))&&(Ae p2_2&&Ae ((Ck (Cu c p2_2 p7 p7 (Int.toNat (r-p7)))).1)))&&Ag ((Ck (Cu c p2_2 p7 p7 (Int.toNat (r-p7)))).2.1)) then bif ((decide (0≤(Ab ((Ab (p7*c))+p7))))&&(decide ((Ab ((Ab (p7*c))+p7))<(List.length (Fo (Int.toNat r) (Int.toNat c) p2_2 p7 p7 ((Ck (Cu c p2_2 p7 p7 (Int.toNat (r-p7)))).1) ((Ck (Cu c p2_2 p7 p7 (Int.toNat (r-p7)))).2.1)):Int)))) then bif (decide ((Int.toNat (Ab ((Ab (p7*c))+p7)))<(List.length (Fo (Int.toNat r) (Int.toNat c) p2_2 p7 p7 ((Ck (Cu c p2_2 p7 p7 (Int.toNat (r-p7)))).1) ((Ck (Cu c p2_2 p7 p7 (Int.toNat (r-p7)))).2.1))))) then qr.down.L0 N M N r c l (Ab (p7+1)) (List.set (Fo (Int.toNat r) (Int.toNat c) p2_2 p7 p7 ((Ck (Cu c p2_2 p7 p7 (Int.toNat (r-p7)))).1) ((Ck (Cu c p2_2 p7 p7 (Int.toNat (r-p7)))).2.1)) (Int.toNat (Ab ((Ab (p7*c))+p7))) ((Ck (Cu c p2_2 p7 p7 (Int.toNat (r-p7)))).2.2.1)) p7 ((Ck (Cu c p2_2 p7 p7 (Int.toNat (r-p7)))).1) ((Ck (Cu c p2_2 p7 p7 (Int.toNat (r-p7)))).2.1) p6 else none else none else none else none else none else some (.tup [.agg [.int .i64 r,.int .i64 c,.ints (.own 106002 37) .u64 p2_2],.recs (.own 100006 214) 2 p6,.int .i64 0]) :=
  Eq.trans (by kernel_rfl)
  (Ar (On (A6 p7 c)) (Ar (On (A6 p7 c)) (Ar (Mb (A6 p7 c)) (Ar (Mb (A6 p7 c)) (Ar (Ab8 (A6 p7 c)) (Ar (Tw (A6 p7 c)) (Cq (tt1 (A6 p7 c) (A6 p7 (Ab (r-1)))) rfl rfl)))))))
theorem qr.down.Fp (N M:Nat) (r c:Int) (l:List Int):qr.down.L2 N (M+1) r c l=bif ((A6 0 c)&&(A6 0 (Ab (r-1)))) then bif (Hj r c l 0&&Dh (0≤(0:Int)∧(0:Int)≤r)) then bif (Cz (Cu c l 0 0 (Int.toNat (r-0)))) then bif (((Ck (Cu c l 0 0 (Int.toNat (r-0)))).2.2.2) !=(0:Int)) then some (.tup [.agg [.int .i64 0,.int .i64 0,.nil],.nil,.int .i64 2]) else bif (((Av r c l&&H0 r c 0 0 ((Ck (Cu c l 0 0 (Int.toNat (r-0)))).1))&&(Ae l&&Ae ((Ck (Cu c l 0 0 (Int.toNat (r-0)))).1)))&&Ag ((Ck (Cu c l 0 0 (Int.toNat (r-0)))).2.1)) then bif ((decide (0≤(Ab ((Ab ((0:Int)*c))+0))))&&(decide ((Ab ((Ab ((0:Int)*c))+0))<(List.length (Fo (Int.toNat r) (Int.toNat c) l 0 0 ((Ck (Cu c l 0 0 (Int.toNat (r-0)))).1) ((Ck (Cu c l 0 0 (Int.toNat (r-0)))).2.1)):Int)))) then bif (decide ((Int.toNat (Ab ((Ab ((0:Int)*c))+0)))<(List.length (Fo (Int.toNat r) (Int.toNat c) l 0 0 ((Ck (Cu c l 0 0 (Int.toNat (r-0)))).1) ((Ck (Cu c l 0 0 (Int.toNat (r-0)))).2.1))))) then qr.down.L0 N M N r c l 1 (List.set (Fo (Int.toNat r) (Int.toNat c) l 0 0 ((Ck (Cu c l 0 0 (Int.toNat (r-0)))).1) ((Ck (Cu c l 0 0 (Int.toNat (r-0)))).2.1)) (Int.toNat (Ab ((Ab ((0:Int)*c))+0))) ((Ck (Cu c l 0 0 (Int.toNat (r-0)))).2.2.1)) 0 ((Ck (Cu c l 0 0 (Int.toNat (r-0)))).1) ((Ck (Cu c l 0 0 (Int.toNat (r-0)))).2.1) [] else none else none else none else none else none else some (.tup [.agg [.int .i64 r,.int .i64 c,.ints .arg .u64 l],.recs (.own 100006 214) 2 [],.int .i64 0]) :=
  Eq.trans (by kernel_rfl)
  (Ar (On (A6 0 c)) (Ar (On (A6 0 c)) (Ar (Mb (A6 0 c)) (Ar (Mb (A6 0 c)) (Ar (Ab8 (A6 0 c)) (Ar (Tw (A6 0 c)) (Cq (tt1 (A6 0 c) (A6 0 (Ab (r-1)))) rfl rfl)))))))
theorem qr.down.ev (N:Nat) (r c:Int) (l:List Int):Bp qr.down.E N Tryz.f217 (Al Tryz.f217) [.agg [.int .i64 r,.int .i64 c,.ints .arg .u64 l]] =
  qr.down.L2 N N r c l:=by kernel_rfl
abbrev _root_.Go.Proofs.S1.qr.down.Kn:=A5 Tryz.prog 217 qr.down.spec
theorem qr.down.Ac (hk:Ay Tryz.prog qr.down.A8) (h:∀ (r c:Int) (l:List Int),qr.down.pre [.i r,.i c,.l l]=true→Ba qr.down.E Tryz.f217 [.agg [.int .i64 r,.int .i64 c,.ints .arg .u64 l]] (qr.down.out [.i r,.i c,.l l])):qr.down.Kn :=
  Aj (A1 hk _ _ _) Tryz.func217 (by kernel_rfl) (by kernel_rfl) h
def qr.B0.hint:Nat→Option Bb
  | 0=>some { keep:=[2,3,5,6],objs:=[],boxes:=[2,3] }
  | _=>none
def qr.B0.A8:List (Nat × Entry):=[(86,Cv.Check.spec),(219,As.Apply.spec),(218,Aa.Fc.spec),(217,qr.down.spec),(150,Ah.Finite.spec)]
def qr.B0.E:Env:=Wc (A7 qr.B0.A8) (fun _=>false) qr.B0.hint (fun _=>none) (Ags [(22,[.s .u64]),(37,[.i .u64])])
def qr.B0.L0 (N M:Nat) (r c:Int) (l:List Int) (p6:Int) (p2:List Int):Option DV:=Bv qr.B0.E N Tryz.f166 (Al Tryz.f166) [1,0,1,1,1,1,1,1,0,0] [] M ⟨Ft 81 [(2,.ptr 2 0 0),(3,.ptr 3 0 0),(5,.recs .fresh 2 (K6 r c ([]++l))),(6,.int .i64 p6)],[(2,false,.box [.int .i64 ((Ni r).1),.int .i64 ((Ni r).2.1),.ints .fresh .u64 p2]),(3,false,.box [.int .i64 ((Gn r c ([]++l)).1),.int .i64 ((Gn r c ([]++l)).2.1),.ints .arg .u64 ((Gn r c ([]++l)).2.2.1)])]⟩
theorem qr.B0.Au (N M:Nat) (r c:Int) (l:List Int) (p6:Int) (p2:List Int):qr.B0.L0 N (M+1) r c l p6 p2=bif (A6 p6 0) then bif (Cz p2) then bif ((!(Di p2))||(Cz ((Gn r c ([]++l)).2.2.1))) then bif ((!(Di p2))||(!(Di ((Gn r c ([]++l)).2.2.1)))) then some (.tup [.agg [.int .i64 0,.int .i64 0,.nil],.agg [.int .i64 0,.int .i64 0,.nil],.int .i64 2]) else some (.tup [.agg [.int .i64 ((Ni r).1),.int .i64 ((Ni r).2.1),.ints .fresh .u64 p2],.agg [.int .i64 ((Gn r c ([]++l)).1),.int .i64 ((Gn r c ([]++l)).2.1),.ints .arg .u64 ((Gn r c ([]++l)).2.2.1)],.int .i64 0]) else none else none else bif ((decide (0≤p6))&&(decide (p6<(List.length (K6 r c ([]++l)):Int)))) then bif (isC (.s .u64) (List.getD (List.getD (K6 r c ([]++l)) (Int.toNat p6) []) 0 .undef)) then bif ((decide (0≤p6))&&(decide (p6<(List.length (K6 r c ([]++l)):Int)))) then bif (isC (.i .u64) (List.getD (List.getD (K6 r c ([]++l)) (Int.toNat p6) []) 1 .undef)) then bif (((Av ((Ni r).1) ((Ni r).2.1) p2&&H0 ((Ni r).1) ((Ni r).2.1) p6 0 (L9 (List.getD (List.getD (K6 r c ([]++l)) (Int.toNat p6) []) 0 .undef)))&&(Ae p2&&Ae (L9 (List.getD (List.getD (K6 r c ([]++l)) (Int.toNat p6) []) 0 .undef))))&&Ag (Zo (List.getD (List.getD (K6 r c ([]++l)) (Int.toNat p6) []) 1 .undef))) then qr.B0.L0 N M r c l (Ab (p6-1)) (Fo (Int.toNat ((Ni r).1)) (Int.toNat ((Ni r).2.1)) p2 p6 0 (L9 (List.getD (List.getD (K6 r c ([]++l)) (Int.toNat p6) []) 0 .undef)) (Zo (List.getD (List.getD (K6 r c ([]++l)) (Int.toNat p6) []) 1 .undef))) else none else none else none else none else none :=
  Eq.trans (by kernel_rfl)
  (Ea (Ea (Ar (Z6 (Di p2)) (Ar (Qq (Di p2)) (Cq (Anm (Di p2) (Cz ((Gn r c ([]++l)).2.2.1))) (Ar (Qq (Di p2)) (Ar (Ab7 (Di p2)) (Cq (Ara (Di p2) (Di ((Gn r c ([]++l)).2.2.1))) rfl rfl))) rfl))) rfl) (Cq (Jw (decide (0≤p6)) (decide (p6<(List.length (K6 r c ([]++l)):Int)))) (Cq (Ci (isC (.s .u64) (List.getD (List.getD (K6 r c ([]++l)) (Int.toNat p6) []) 0 .undef))) (Cq (Jw (decide (0≤p6)) (decide (p6<(List.length (K6 r c ([]++l)):Int)))) (Cq (Ci (isC (.i .u64) (List.getD (List.getD (K6 r c ([]++l)) (Int.toNat p6) []) 1 .undef))) (Cq (Ci (((Av ((Ni r).1) ((Ni r).2.1) p2&&H0 ((Ni r).1) ((Ni r).2.1) p6 0 (L9 (List.getD (List.getD (K6 r c ([]++l)) (Int.toNat p6) []) 0 .undef)))&&(Ae p2&&Ae (L9 (List.getD (List.getD (K6 r c ([]++l)) (Int.toNat p6) []) 0 .undef))))&&Ag (Zo (List.getD (List.getD (K6 r c ([]++l)) (Int.toNat p6) []) 1 .undef)))) rfl rfl) rfl) rfl) rfl) rfl))
theorem qr.B0.ev (N:Nat) (r c:Int) (l:List Int):Bp qr.B0.E N Tryz.f166 (Al Tryz.f166) [.agg [.int .i64 r,.int .i64 c,.ints .arg .u64 l]]=bif (Ae l) then bif ((B1 r c l) !=(0:Int)) then some (.tup [.agg [.int .i64 0,.int .i64 0,.nil],.agg [.int .i64 0,.int .i64 0,.nil],.int .i64 (B1 r c l)]) else bif (decide (0+(List.length l)≤Gu)) then bif ((Av r c ([]++l)&&Di ([]++l))&&Ae ([]++l)) then bif (((Gn r c ([]++l)).2.2.2) !=(0:Int)) then some (.tup [.agg [.int .i64 0,.int .i64 0,.nil],.agg [.int .i64 0,.int .i64 0,.nil],.int .i64 ((Gn r c ([]++l)).2.2.2)]) else qr.B0.L0 N N r c l (Ab ((List.length (K6 r c ([]++l)):Int)-1)) ((Ni r).2.2.1) else none else none else none :=
  Eq.trans (by kernel_rfl)
  (Ea (Ea rfl (Cq (Ci (decide (0+(List.length l)≤Gu))) (Cq (Ci ((Av r c ([]++l)&&Di ([]++l))&&Ae ([]++l))) rfl rfl) rfl)) rfl)
abbrev _root_.Go.Proofs.S1.qr.B0.Kn:=A5 Tryz.prog 166 qr.B0.spec
theorem qr.B0.Ac (hk:Ay Tryz.prog qr.B0.A8) (h:∀ (r c:Int) (l:List Int),qr.B0.pre [.i r,.i c,.l l]=true→Ba qr.B0.E Tryz.f166 [.agg [.int .i64 r,.int .i64 c,.ints .arg .u64 l]] (qr.B0.out [.i r,.i c,.l l])):qr.B0.Kn :=
  Aj (Xo hk _ _ _ _) Tryz.func166 (by kernel_rfl) (by kernel_rfl) h
def qr.Gq.A8:List (Nat × Entry):=[(124,Aa.Part.spec),(166,qr.B0.spec)]
def qr.Gq.E:Env:=A9 (A7 qr.Gq.A8) (fun _=>false) (fun _=>none) (fun _=>none)
theorem qr.Gq.ev (N:Nat) (r c:Int) (l:List Int):Bp qr.Gq.E N Tryz.f97 (Al Tryz.f97) [.agg [.int .i64 r,.int .i64 c,.ints .arg .u64 l]]=bif (Ae l) then bif ((Ei r c l) !=(0:Int)) then some (.tup [.agg [.int .i64 0,.int .i64 0,.nil],.agg [.int .i64 0,.int .i64 0,.nil],.int .i64 (Ei r c l)]) else some (.tup [.agg [.int .i64 ((F4 ((qX r c l).1) ((qX r c l).2.1) ((qX r c l).2.2.1) 0 0 r (min r c)).1),.int .i64 ((F4 ((qX r c l).1) ((qX r c l).2.1) ((qX r c l).2.2.1) 0 0 r (min r c)).2.1),.ints .fresh .u64 ((F4 ((qX r c l).1) ((qX r c l).2.1) ((qX r c l).2.2.1) 0 0 r (min r c)).2.2.1)],.agg [.int .i64 ((F4 ((rX r c l).1) ((rX r c l).2.1) ((rX r c l).2.2.1) 0 0 (min r c) c).1),.int .i64 ((F4 ((rX r c l).1) ((rX r c l).2.1) ((rX r c l).2.2.1) 0 0 (min r c) c).2.1),.ints .fresh .u64 ((F4 ((rX r c l).1) ((rX r c l).2.1) ((rX r c l).2.2.1) 0 0 (min r c) c).2.2.1)],.int .i64 0]) else none:=by kernel_rfl
abbrev _root_.Go.Proofs.S1.qr.Gq.Kn:=A5 Tryz.prog 97 qr.Gq.spec
theorem qr.Gq.Ac (hk:Ay Tryz.prog qr.Gq.A8) (h:∀ (r c:Int) (l:List Int),qr.Gq.pre [.i r,.i c,.l l]=true→Ba qr.Gq.E Tryz.f97 [.agg [.int .i64 r,.int .i64 c,.ints .arg .u64 l]] (qr.Gq.out [.i r,.i c,.l l])):qr.Gq.Kn :=
  Aj (A1 hk _ _ _) Tryz.func97 (by kernel_rfl) (by kernel_rfl) h
def solve.Eb.hint:Nat→Option Bb
  | 0=>some { keep:=[2,3,4,17,18],objs:=[],boxes:=[2,3,4] }
  | _=>none
def solve.Eb.A8:List (Nat × Entry):=[(86,Cv.Check.spec),(97,qr.Gq.spec),(98,qr.Gb.spec),(24,solve.Flat.spec),(36,solve.Cp.spec)]
def solve.Eb.E:Env:=A9 (A7 solve.Eb.A8) (fun _=>false) solve.Eb.hint (fun _=>none)
theorem solve.Eb.ev (N:Nat) (r c:Int) (l:List Int) (p q:Int) (m:List Int):Bp solve.Eb.E (N+4) Tryz.f30 (Al Tryz.f30) [.agg [.int .i64 r,.int .i64 c,.ints .arg .u64 l],.agg [.int .i64 p,.int .i64 q,.ints .arg .u64 m]]=bif (Ae l) then bif ((B1 r c l) !=(0:Int)) then some (.tup [.agg [.int .i64 0,.int .i64 0,.nil],.int .i64 (B1 r c l)]) else bif (Ae m) then bif ((B1 p q m) !=(0:Int)) then some (.tup [.agg [.int .i64 0,.int .i64 0,.nil],.int .i64 (B1 p q m)]) else bif ((A6 r c)||(r !=p)) then some (.tup [.agg [.int .i64 0,.int .i64 0,.nil],.int .i64 3]) else bif (Ae l) then bif ((Ei r c l) !=(0:Int)) then some (.tup [.agg [.int .i64 0,.int .i64 0,.nil],.int .i64 (Ei r c l)]) else bif (Ae ((H9 r c l).2.2.1)) then bif ((Ko ((H9 r c l).1) ((H9 r c l).2.1) ((H9 r c l).2.2.1)).1) then some (.tup [.agg [.int .i64 0,.int .i64 0,.nil],.int .i64 5]) else bif (Ae ((Ed r c l).2.2.1)&&Ae m) then bif (((Dm ((Ed r c l).1) ((Ed r c l).2.1) ((Ed r c l).2.2.1) p q m).2.2.2) !=(0:Int)) then some (.tup [.agg [.int .i64 0,.int .i64 0,.nil],.int .i64 ((Dm ((Ed r c l).1) ((Ed r c l).2.1) ((Ed r c l).2.2.1) p q m).2.2.2)]) else bif (Ae ((H9 r c l).2.2.1)&&Ae ((Dm ((Ed r c l).1) ((Ed r c l).2.1) ((Ed r c l).2.2.1) p q m).2.2.1)) then some (.tup [.agg [.int .i64 ((Wm ((H9 r c l).1) ((H9 r c l).2.1) ((H9 r c l).2.2.1) ((Dm ((Ed r c l).1) ((Ed r c l).2.1) ((Ed r c l).2.2.1) p q m).1) ((Dm ((Ed r c l).1) ((Ed r c l).2.1) ((Ed r c l).2.2.1) p q m).2.1) ((Dm ((Ed r c l).1) ((Ed r c l).2.1) ((Ed r c l).2.2.1) p q m).2.2.1)).1),.int .i64 ((Wm ((H9 r c l).1) ((H9 r c l).2.1) ((H9 r c l).2.2.1) ((Dm ((Ed r c l).1) ((Ed r c l).2.1) ((Ed r c l).2.2.1) p q m).1) ((Dm ((Ed r c l).1) ((Ed r c l).2.1) ((Ed r c l).2.2.1) p q m).2.1) ((Dm ((Ed r c l).1) ((Ed r c l).2.1) ((Ed r c l).2.2.1) p q m).2.2.1)).2.1),.ints .fresh .u64 ((Wm ((H9 r c l).1) ((H9 r c l).2.1) ((H9 r c l).2.2.1) ((Dm ((Ed r c l).1) ((Ed r c l).2.1) ((Ed r c l).2.2.1) p q m).1) ((Dm ((Ed r c l).1) ((Ed r c l).2.1) ((Ed r c l).2.2.1) p q m).2.1) ((Dm ((Ed r c l).1) ((Ed r c l).2.1) ((Ed r c l).2.2.1) p q m).2.2.1)).2.2.1)],.int .i64 ((Wm ((H9 r c l).1) ((H9 r c l).2.1) ((H9 r c l).2.2.1) ((Dm ((Ed r c l).1) ((Ed r c l).2.1) ((Ed r c l).2.2.1) p q m).1) ((Dm ((Ed r c l).1) ((Ed r c l).2.1) ((Ed r c l).2.2.1) p q m).2.1) ((Dm ((Ed r c l).1) ((Ed r c l).2.1) ((Ed r c l).2.2.1) p q m).2.2.1)).2.2.2)]) else none else none else none else none else none else none :=
  Eq.trans (by kernel_rfl)
  (Ea (Ea rfl (Ea (Ea rfl (Ar (Rs (A6 r c)) (Ar (Pg (A6 r c)) (Ar (Rs (A6 r c)) (Ar (Pg (A6 r c)) (Ar (tt8 (A6 r c)) (Ar (Xb (A6 r c)) (Cq (tt5 (A6 r c) (r !=p)) rfl rfl)))))))) rfl)) rfl)
abbrev _root_.Go.Proofs.S1.solve.Eb.Kn:=A5 Tryz.prog 30 solve.Eb.spec
theorem solve.Eb.Ac (hk:Ay Tryz.prog solve.Eb.A8) (h:∀ (r c:Int) (l:List Int) (p q:Int) (m:List Int),solve.Eb.pre [.i r,.i c,.l l,.i p,.i q,.l m]=true→Ba solve.Eb.E Tryz.f30 [.agg [.int .i64 r,.int .i64 c,.ints .arg .u64 l],.agg [.int .i64 p,.int .i64 q,.ints .arg .u64 m]] (solve.Eb.out [.i r,.i c,.l l,.i p,.i q,.l m])):solve.Eb.Kn :=
  Aj (A1 hk _ _ _) Tryz.func30 (by kernel_rfl) (by kernel_rfl) h
end EqQr
open EqQr
def clS (R C:Nat) (l:List Int) (j:Nat) (x:Int) (i:Nat):List Int:=Bg R C fun a b=>if b=j∧j≤a∧a<i then (if a=j then x else 0) else Cj (C:Int) l (a:Int) (b:Int)
section
variable {R C j:Nat} {l:List Int} {x:Int}
theorem Akc (i:Nat):(clS R C l j x i).length=R*C:=Ca _ _ _
theorem Wg (hl:l.length=R*C) (hj:j<C):List.set l (j*C+j) x=clS R C l j x (j+1):=by
  unfold clS
  conv=>lhs; rw [← Wa hl]
  rw [U4 hj]
  refine Dx fun a b ha hb=>?_
  by_cases h:a=j∧b=j
  · rw [if_pos h,if_pos (by omega),if_pos h.1]
  · rw [if_neg h,if_neg (by omega)]
theorem Akb {i:Nat} (hj:j<C) (hi:j<i):List.set (clS R C l j x i) (i*C+j) 0=clS R C l j x (i+1):=by
  unfold clS
  rw [U4 hj]
  refine Dx fun a b ha hb=>?_
  by_cases h:a=i∧b=j
  · rw [if_pos h,if_pos (by omega),if_neg (by omega)]
  · rw [if_neg h]
    by_cases h2:b=j∧j≤a∧a<i
    · rw [if_pos h2,if_pos (show b=j∧j≤a∧a<i+1 by omega)]
    · rw [if_neg h2,if_neg (by omega)]
theorem Akd:clS R C l j x R=Nk R C l j x:=by
  unfold clS Nk
  refine Dx fun a b ha hb=>?_
  by_cases h:b=j∧j≤a
  · rw [if_pos h,if_pos (by omega)]
  · rw [if_neg h,if_neg (by omega)]
end
theorem Yq {C i j:Nat} (hi:i≤6) (hC:C≤6) (hj:j≤6):Ab (Ab ((i:Int)*(C:Int))+(j:Int))=((i*C+j:Nat):Int):=by
  have h36:=Nat.mul_le_mul hi hC
  rw [Am (x:=(i:Int)*(C:Int)) (by rw [← Azr]; omega) (by rw [← Azr]; omega),← Azr,Am (by omega) (by omega)]
  omega
section
variable {R C:Nat}
theorem Zp (N M0:Nat) (l0:List Int) (r6:R≤6) (c6:C≤6) {j:Nat} (hj:j<C) (l:List Int) (x:Int) (v:List Int) (t:Int) (ms:List (List DV)) (hms:ms.length≤100):∀ (cnt i F:Nat),i+cnt=R→j<i→cnt<F →
    qr.down.L0 N M0 F (R:Int) (C:Int) l0 (i:Int) (clS R C l j x i) (j:Int) v t ms=qr.down.L1 N M0 (R:Int) (C:Int) l0 ((j+1:Nat):Int) (ms++[[.ints .arg .u64 v,.int .u64 t]]) (Nk R C l j x):=by
  intro cnt
  induction cnt with
  | zero =>
    intro i F hi hji hF
    obtain ⟨F,rfl⟩:∃ G,F=G+1:=⟨F-1,by omega⟩
    obtain rfl:i=R:=by omega
    rw [qr.down.Au,Aq,Azb (by omega),Aza,Ay7 (by unfold Afu; omega),Ay6,Am (by omega) (by omega),Akd]
    rfl
  | succ cnt ih =>
    intro i F hi hji hF
    obtain ⟨F,rfl⟩:∃ G,F=G+1:=⟨F-1,by omega⟩
    have hlen:=Akc (R:=R) (C:=C) (l:=l) (j:=j) (x:=x) i
    have hp:=K3 (show i<R by omega) hj
    rw [qr.down.Au,Aq,Ay7 (by omega),Ay6,Yq (by omega) c6 (by omega),Ay7 (by omega),Ay7 (by omega),Azc,Ay6,Ay8,Ay7 (by omega),Ay6,Akb hj hji,Am (by omega) (by omega)]
    exact ih (i+1) F (by omega) (by omega) (by omega)
def Sz (r c:Nat) (ms:List (List DV)):Option (List Int × List (List Int × Int))→DV
  | none=>.tup [.agg [.int .i64 0,.int .i64 0,.nil],.nil,.int .i64 2]
  | some x=>.tup [.agg [.int .i64 (r:Int),.int .i64 (c:Int),.ints (.own 106002 tB) .u64 x.1],.recs (.own 100006 tMR) 2 (ms++Yr x.2),.int .i64 0]
theorem Amg (N:Nat) (hN:7<N) (l0:List Int) (r6:R≤6) (c6:C≤6):∀ (cnt j F:Nat) (l:List Int) (ms:List (List DV)),j+cnt=Im R C→cnt<F→l.length=R*C→Ae l=true→ms.length=j →
    qr.down.L1 N F (R:Int) (C:Int) l0 (j:Int) ms l=some (Sz R C ms (Nj R C cnt j l)):=by
  intro cnt
  induction cnt with
  | zero =>
    intro j F l ms hj hF hl al hms
    obtain ⟨F,rfl⟩:∃ G,F=G+1:=⟨F-1,by omega⟩
    unfold Im at hj
    have hlt:(A6 (j:Int) (C:Int)&&A6 (j:Int) (Ab ((R:Int)-1)))=false:=by
      rw [Aq,Aq,Am (by omega) (by omega),Bool.and_eq_false_iff,Azp,Azp]; omega
    rw [qr.down.B2,hlt,Aza]
    simp [Nj,Sz,Yr]
  | succ cnt ih =>
    intro j F l ms hj hF hl al hms
    obtain ⟨F,rfl⟩:∃ G,F=G+1:=⟨F-1,by omega⟩
    have hj0:=hj
    unfold Im at hj
    have hr:=Ef r6 c6 hl
    have hlt:(A6 (j:Int) (C:Int)&&A6 (j:Int) (Ab ((R:Int)-1)))=true:=by
      rw [Aq,Aq,Am (by omega) (by omega),Ay7 (by omega),Ay7 (by omega)]; rfl
    have cp:Hj (R:Int) (C:Int) l (j:Int)=true:=Ad.2 ⟨hr,Aw.2 (by omega)⟩
    have ec:Cu (C:Int) l (j:Int) (j:Int) (Int.toNat ((R:Int)-(j:Int)))=Fk R C l j:=by unfold Fk; rw [show Int.toNat ((R:Int)-(j:Int))=R-j by omega]
    have ca:Ae (Fk R C l j)=true:=Pl al
    have cl:(Fk R C l j).length=R-j:=Gr _ _ _ _ _
    rw [qr.down.B2,hlt,Ay6,cp,Aw.2 (show 0≤(j:Int)∧(j:Int)≤(R:Int) by omega),Azc,Ay6,ec,I3 ca (by omega),Ay6]
    unfold Nj
    by_cases he:(Ck (Fk R C l j)).2.2.2=0
    · have hml:=Ut he
      have hma:=Uu ca
      have hap:H0 (R:Int) (C:Int) (j:Int) (j:Int) (Ck (Fk R C l j)).1=true:=Ay7 (by omega)
      have hp:=K3 (show j<R by omega) (show j<C by omega)
      have hlen:=Lh R C l (j:Int) (j:Int) (Ck (Fk R C l j)).1 (Ck (Fk R C l j)).2.1
      have hg:=Zp N F l0 r6 c6 (show j<C by omega) (Fo R C l (j:Int) (j:Int) (Ck (Fk R C l j)).1 (Ck (Fk R C l j)).2.1) (Ck (Fk R C l j)).2.2.1 (Ck (Fk R C l j)).1 (Ck (Fk R C l j)).2.1 ms (by omega) (R-(j+1)) (j+1) N (by omega) (by omega) (by omega)
      have hn:=ih (j+1) F (Ys R C l j) (ms++[[.ints .arg .u64 (Ck (Fk R C l j)).1,.int .u64 (Ck (Fk R C l j)).2.1]]) (by omega) (by omega) (Ny _ _ _ _) (Xk al j) (by rw [List.length_append,hms]; rfl)
      rw [En he,Aza,hr,hap,al,hma.1,hma.2.1,Azc,Azc,Azc,Ay6,Yq (by omega) c6 (by omega),Ay8,Ay8,Ay8,Ay7 (by omega),Ay7 (by omega),Azc,Ay6,Ay7 (by omega),Ay6,
        Wg hlen (by omega),Am (by omega) (by omega),if_pos he]
      refine (hg.trans hn).trans ?_
      show some (Sz R C _ (Nj R C cnt (j+1) (Ys R C l j)))=some (Sz R C ms _)
      cases Nj R C cnt (j+1) (Ys R C l j) with
      | none=>rfl
      | some x=>simp [Sz,Yr]
    · rw [Od he,Ay6,if_neg he]; rfl
theorem Aih (N:Nat) (hN:7<N) {l:List Int} (r6:R≤6) (c6:C≤6) (hl:l.length=R*C) (al:Ae l=true) (h0:Im R C≠0) :
    qr.down.L2 N N (R:Int) (C:Int) l=some (Sz R C [] (Kq R C l)):=by
  obtain ⟨cnt,hc⟩:∃ cnt,Im R C=cnt+1:=⟨Im R C-1,by omega⟩
  obtain ⟨F,rfl⟩:∃ G,N=G+1:=⟨N-1,by omega⟩
  have hj:=hc
  unfold Im at hj
  have hr:=Ef r6 c6 hl
  have hlt:(A6 (0:Int) (C:Int)&&A6 (0:Int) (Ab ((R:Int)-1)))=true:=by
    rw [Aq,Aq,Am (by omega) (by omega),Ay7 (by omega),Ay7 (by omega)]; rfl
  have cp:Hj (R:Int) (C:Int) l (0:Int)=true:=Ad.2 ⟨hr,Aw.2 (by omega)⟩
  have ec:Cu (C:Int) l (0:Int) (0:Int) (Int.toNat ((R:Int)-(0:Int)))=Fk R C l 0:=by unfold Fk; rw [show Int.toNat ((R:Int)-(0:Int))=R-0 by omega]; rfl
  have ca:Ae (Fk R C l 0)=true:=Pl al
  have cl:(Fk R C l 0).length=R-0:=Gr _ _ _ _ _
  unfold Kq
  rw [hc,qr.down.Fp,hlt,Ay6,cp,Aw.2 (show 0≤(0:Int)∧(0:Int)≤(R:Int) by omega),Azc,Ay6,ec,I3 ca (by omega),Ay6]
  unfold Nj
  by_cases he:(Ck (Fk R C l 0)).2.2.2=0
  · have hml:=Ut he
    have hma:=Uu ca
    have hap:H0 (R:Int) (C:Int) (0:Int) (0:Int) (Ck (Fk R C l 0)).1=true:=Ay7 (by omega)
    have hp:=K3 (show 0<R by omega) (show 0<C by omega)
    have hlen:=Lh R C l (0:Int) (0:Int) (Ck (Fk R C l 0)).1 (Ck (Fk R C l 0)).2.1
    have hg:=Zp (F+1) F l r6 c6 (show 0<C by omega) (Fo R C l (0:Int) (0:Int) (Ck (Fk R C l 0)).1 (Ck (Fk R C l 0)).2.1) (Ck (Fk R C l 0)).2.2.1 (Ck (Fk R C l 0)).1 (Ck (Fk R C l 0)).2.1 [] (Nat.zero_le _) (R-1) 1 (F+1) (by omega) (by omega) (by omega)
    have hn:=Amg (R:=R) (C:=C) (F+1) hN l r6 c6 cnt 1 F (Ys R C l 0) [[.ints .arg .u64 (Ck (Fk R C l 0)).1,.int .u64 (Ck (Fk R C l 0)).2.1]] (by omega) (by unfold Im at hc; omega) (Ny _ _ _ _) (Xk al 0) rfl
    have mc:=Yq (i:=0) (C:=C) (j:=0) (by omega) c6 (by omega)
    have mc:Ab (Ab ((0:Int)*(C:Int))+(0:Int))=((0*C+0:Nat):Int):=mc
    rw [En he,Aza,hr,hap,al,hma.1,hma.2.1,Azc,Azc,Azc,Ay6,mc,Ay8,Ay8,Ay8,Ay7 (by omega),Ay7 (by omega),Azc,Ay6,Ay7 (by omega),Ay6,
      Wg hlen (by omega),if_pos he]
    refine (hg.trans hn).trans ?_
    show some (Sz R C _ (Nj R C cnt 1 (Ys R C l 0)))=some (Sz R C [] _)
    cases Nj R C cnt (0+1) (Ys R C l 0) with
    | none=>rfl
    | some x=>simp [Sz,Yr]
  · rw [Od he,Ay6,if_neg he]; rfl
end
theorem qr.down.known:qr.down.Kn:=qr.down.Ac (.cons As.Apply.known (.cons As.Dy.known (.cons Aa.D8.known .nil))) fun r c l hp=>by
  obtain ⟨h1,al⟩:=Ad.1 (show ((Av r c l&&Di l)&&Ae l)=true from hp)
  obtain ⟨hr,hf⟩:=Ad.1 h1
  obtain ⟨R,C,rfl,rfl,r6,c6,hl⟩:=B8 hr
  by_cases h0:Im R C=0
  · have hx:Kq R C l=some (l,[]):=by unfold Kq; rw [h0]; rfl
    refine ⟨8,.tup [.agg [.int .i64 (R:Int),.int .i64 (C:Int),.ints .arg .u64 l],.recs (.own 100006 tMR) 2 [],.int .i64 0],[100006],?_,?_⟩
    · unfold Im at h0
      have hlt:(A6 (0:Int) (C:Int)&&A6 (0:Int) (Ab ((R:Int)-1)))=false:=by
        rw [Aq,Aq,Am (by omega) (by omega),Bool.and_eq_false_iff,Azp,Azp]; omega
      rw [qr.down.ev,show (8:Nat)=7+1 from rfl,qr.down.Fp,hlt,Aza]
    · show Wk _ _ (DV.tup [.agg [.int .i64 (Gn (R:Int) (C:Int) l).1,.int .i64 (Gn (R:Int) (C:Int) l).2.1,.ints .arg .u64 (Gn (R:Int) (C:Int) l).2.2.1],.recs .fresh 2 (K6 (R:Int) (C:Int) l),.int .i64 (Gn (R:Int) (C:Int) l).2.2.2])
      unfold Gn K6 Ix
      rw [Ay8,Ay8,hx]
      exact Wk.G6 (.cons (Wk.G2 (.cons .int (.cons .int (.cons .Rh .nil)))) (.cons (.dropR _ _ _ _ (List.mem_singleton.2 rfl)) (.cons .int .nil)))
  · refine ⟨8,Sz R C [] (Kq R C l),[106002,100006],?_,?_⟩
    · rw [qr.down.ev]
      exact Aih 8 (by omega) r6 c6 hl al h0
    · show Wk _ _ (DV.tup [.agg [.int .i64 (Gn (R:Int) (C:Int) l).1,.int .i64 (Gn (R:Int) (C:Int) l).2.1,.ints .arg .u64 (Gn (R:Int) (C:Int) l).2.2.1],.recs .fresh 2 (K6 (R:Int) (C:Int) l),.int .i64 (Gn (R:Int) (C:Int) l).2.2.2])
      unfold Gn K6 Ix
      rw [Ay8,Ay8]
      cases Kq R C l with
      | none=>exact Wk.G6 (.cons (Wk.G2 (.cons .int (.cons .int (.cons Mf .nil)))) (.cons (.nilR _ _) (.cons .int .nil)))
      | some x=>exact Wk.G6 (.cons (Wk.G2 (.cons .int (.cons .int (.cons (.dropA _ _ _ _ List.mem_cons_self) .nil)))) (.cons (.dropR _ _ _ _ (List.mem_cons_of_mem _ List.mem_cons_self)) (.cons .int .nil)))
open EqQr
def Yn (e:Int):DV:=.tup [.agg [.int .i64 0,.int .i64 0,.nil],.agg [.int .i64 0,.int .i64 0,.nil],.int .i64 e]
theorem V3 {r:Nat}:∀ {j:Nat} {ms:List (List Int × Int)},Aa9 r j ms→∀ i:Nat,i<ms.length→Ae (ms.getD i ([],0)).1=true∧Ag (ms.getD i ([],0)).2=true∧(ms.getD i ([],0)).1.length+(j+i)=r
  | _,[],_,i,h=>absurd h (Nat.not_lt_zero _)
  | j,m::ms,hm,0,_=>hm.1
  | j,m::ms,hm,i+1,h=>by
    have:=V3 hm.2 i (by simpa using h)
    rw [show j+(i+1)=j+1+i by omega]
    exact this
theorem Aot {ms:List (List Int × Int)} {i:Nat} (h:i<ms.length):List.getD (Yr ms) i []=[.ints .arg .u64 (ms.getD i ([],0)).1,.int .u64 (ms.getD i ([],0)).2]:=by
  unfold Yr
  rw [Azg,List.getElem?_map,Azn h,Azg,Azn h]; rfl
theorem Afc (ms:List (List Int × Int)):(Yr ms).length=ms.length:=by unfold Yr; rw [List.length_map]
theorem Abv {n i:Nat} {ms:List (List Int × Int)} (h:i<ms.length) (q:List Int):Hq n i (ms.drop i) q=Fo n n (Hq n (i+1) (ms.drop (i+1)) q) (i:Int) 0 (ms.getD i ([],0)).1 (ms.getD i ([],0)).2:=by
  rw [List.drop_eq_getElem_cons h,Hq,Azg,Azn h]; rfl
theorem Aif {R:Nat} (h:R≤6):Ni (R:Int)=((R:Int),(R:Int),Jj R,0):=by
  unfold Ni Jj
  rw [if_pos (Rt h),Ay8]
theorem Ans {n:Nat} (h:n≤6):n*n≤36:=Nat.mul_le_mul h h
theorem Agb (N:Nat) {R C:Nat} {l:List Int} (r6:R≤6) {x:List Int × List (List Int × Int)} (hx:Kq R C l=some x) (hm:Aa9 R 0 x.2) (hxr:Ae x.1=true) (hxl:x.1.length≤36):∀ (j F:Nat),j≤x.2.length→j<F →
    qr.B0.L0 N F (R:Int) (C:Int) l ((j:Int)-1) (Hq R j (x.2.drop j) (Jj R)) =
    bif Lt R C l then some (.tup [.agg [.int .i64 (R:Int),.int .i64 (R:Int),.ints .fresh .u64 (L8 R C l)],.agg [.int .i64 (R:Int),.int .i64 (C:Int),.ints .arg .u64 (Ix R C l)],.int .i64 0])
    else some (Yn 2):=by
  have hq:L8 R C l=Hq R 0 x.2 (Jj R):=by unfold L8; rw [hx]
  have hr:Ix R C l=x.1:=by unfold Ix; rw [hx]
  have hd:Gn (R:Int) (C:Int) ([]++l)=((R:Int),(C:Int),x.1,0):=by
    unfold Gn
    rw [List.nil_append,Ay8,Ay8,hx,hr]; rfl
  have hmd:K6 (R:Int) (C:Int) ([]++l)=Yr x.2:=by
    unfold K6
    rw [List.nil_append,Ay8,Ay8,hx]
  have h36:=Ans r6
  intro j
  induction j with
  | zero =>
    intro F _ hF
    obtain ⟨F,rfl⟩:∃ G,F=G+1:=⟨F-1,by omega⟩
    have hb:=Sc R x.2 0 (Jj R) (Vb R) (by unfold Jj; exact Ca _ _ _)
    have ok1:Cz (Hq R 0 x.2 (Jj R))=true:=I3 hb.1 (by omega)
    have ok2:Cz x.1=true:=I3 hxr (by omega)
    have hfo:Lt R C l=(Di (Hq R 0 x.2 (Jj R))&&Di x.1):=by unfold Lt; rw [hx,hq,hr]; rfl
    rw [qr.B0.Au,Aq,Ay7 (by omega),Ay6,List.drop_zero,ok1,Ay6,hd,Aif r6,ok2,Bool.or_true,Ay6,hfo,hq,hr]
    cases Di (Hq R 0 x.2 (Jj R)) with
    | false=>rfl
    | true=>cases Di x.1<;>rfl
  | succ j ih =>
    intro F hj hF
    obtain ⟨F,rfl⟩:∃ G,F=G+1:=⟨F-1,by omega⟩
    have ej:(((j+1:Nat):Int))-1=(j:Int):=by omega
    have hg:=V3 hm j (by omega)
    have hb:=Sc R (x.2.drop (j+1)) (j+1) (Jj R) (Vb R) (by unfold Jj; exact Ca _ _ _)
    have hr1:=Ef r6 r6 hb.2
    have hap:H0 (R:Int) (R:Int) (j:Int) 0 (x.2.getD j ([],0)).1=true:=Ay7 (by omega)
    have hmg:=Aot (ms:=x.2) (i:=j) (by omega)
    rw [qr.B0.Au,ej,Aq,Azb (show ¬ (j:Int)<0 by omega),Aza,hmd,Afc,Ay7 (show (0:Int)≤(j:Int) by omega),Ay7 (show (j:Int)<(x.2.length:Int) by omega),Azc,Ay6,Ay8,hmg,Aif r6]
    show (bif true then bif true then bif true then (bif (((Av (R:Int) (R:Int) (Hq R (j+1) (x.2.drop (j+1)) (Jj R))&&H0 (R:Int) (R:Int) (j:Int) (0:Int) (x.2.getD j ([],0)).1)&&(Ae (Hq R (j+1) (x.2.drop (j+1)) (Jj R))&&Ae (x.2.getD j ([],0)).1))&&Ag (x.2.getD j ([],0)).2) then
      qr.B0.L0 N F (R:Int) (C:Int) l (Ab ((j:Int)-(1:Int))) (Fo (Int.toNat (R:Int)) (Int.toNat (R:Int)) (Hq R (j+1) (x.2.drop (j+1)) (Jj R)) (j:Int) (0:Int) (x.2.getD j ([],0)).1 (x.2.getD j ([],0)).2) else none) else none else none else none)=_
    rw [Ay6,Ay6,Ay6,hr1,hap,hb.1,hg.1,hg.2.1,Azc,Azc,Azc,Ay6,Ay8,Am (by omega) (by omega),← Abv (by omega)]
    exact ih F (by omega) (by omega)
theorem Agf {R C:Nat} {l:List Int} (hl:l.length=R*C) (al:Ae l=true) {x:List Int × List (List Int × Int)} (hx:Kq R C l=some x):Ae x.1=true∧x.1.length=R*C∧x.2.length=Im R C∧Aa9 R 0 x.2 :=
  Zq R C (Im R C) 0 l x al hl (by unfold Im; omega) hx
theorem P6 {r c:Int} {l:List Int} (h:B1 r c l=0):Ei r c l=if Lt r.toNat c.toNat l=true then 0 else 2:=by
  unfold Ei; rw [if_neg (by rw [h]; decide)]
theorem Agc {r c:Int} {l:List Int} (h:B1 r c l≠0):Ei r c l=B1 r c l:=by unfold Ei; rw [if_pos h]
theorem S7 {r c:Int} {l:List Int} {e:Int} (h:Ei r c l=e) (he:e≠0):qX r c l=Ij e∧rX r c l=Ij e:=by unfold qX rX; rw [h,if_pos he,if_pos he]; exact ⟨rfl,rfl⟩
theorem Pr {r c:Int} {l:List Int} (h:Ei r c l=0):qX r c l=(r,r,L8 r.toNat c.toNat l,0)∧rX r c l=(r,c,Ix r.toNat c.toNat l,0):=by unfold qX rX; rw [h]; exact ⟨rfl,rfl⟩
theorem Vk {drops:List Nat} {e:Int} {g h:Agw}:Wk drops (Yn e) (DV.tup [.agg [.int .i64 (Ij e).1,.int .i64 (Ij e).2.1,.ints g .u64 (Ij e).2.2.1],.agg [.int .i64 (Ij e).1,.int .i64 (Ij e).2.1,.ints h .u64 (Ij e).2.2.1],.int .i64 e]) :=
  Wk.G6 (.cons (Wk.G2 (.cons .int (.cons .int (.cons Mf .nil)))) (.cons (Wk.G2 (.cons .int (.cons .int (.cons Mf .nil)))) (.cons .int .nil)))
theorem qr.B0.known:qr.B0.Kn:=qr.B0.Ac (.cons Cv.Check.known (.cons As.Apply.known (.cons Aa.Fc.known (.cons qr.down.known (.cons Ah.Finite.known .nil))))) fun r c l hp=>by
  have al:Ae l=true:=hp
  show ∃ N dv drops,_=some dv∧Wk drops dv (DV.tup [.agg [.int .i64 (qX r c l).1,.int .i64 (qX r c l).2.1,.ints .arg .u64 (qX r c l).2.2.1],.agg [.int .i64 (rX r c l).1,.int .i64 (rX r c l).2.1,.ints .arg .u64 (rX r c l).2.2.1],.int .i64 (Ei r c l)])
  by_cases h1:B1 r c l=0
  · obtain ⟨hr,hf⟩:=Ex h1
    have h36:=Ov hr
    obtain ⟨R,C,rfl,rfl,r6,c6,hl⟩:=B8 hr
    have d0:decide (0+l.length≤Gu)=true:=Ay7 (by unfold Gu; omega)
    cases hx:Kq R C l with
    | none =>
      have hfo:Lt R C l=false:=by unfold Lt; rw [hx]; rfl
      have he:Ei (R:Int) (C:Int) l=2:=by rw [P6 h1,Ay8,Ay8,hfo]; rfl
      obtain ⟨e1,e2⟩:=S7 he (by decide)
      have hd:Gn (R:Int) (C:Int) ([]++l)=Ij 2:=by
        unfold Gn
        rw [List.nil_append,Ay8,Ay8,hx]; rfl
      rw [e1,e2,he]
      exact ⟨0,Yn 2,[],by rw [qr.B0.ev,al,Ay6,En h1,Aza,d0,Ay6,hd,List.nil_append,hr,hf,al,Azc,Azc,Ay6,show ((Ij 2).2.2.2 !=(0:Int))=true from rfl,Ay6]; rfl,Vk⟩
    | some x =>
      obtain ⟨x1,x2,x3,x4⟩:=Agf hl al hx
      have hd:Gn (R:Int) (C:Int) ([]++l)=((R:Int),(C:Int),x.1,0):=by
        unfold Gn Ix
        rw [List.nil_append,Ay8,Ay8,hx]; rfl
      have hmd:K6 (R:Int) (C:Int) ([]++l)=Yr x.2:=by
        unfold K6
        rw [List.nil_append,Ay8,Ay8,hx]
      have hn:x.2.length≤6:=by rw [x3]; unfold Im; omega
      have hloop:=Agb 8 r6 hx x4 x1 (by rw [x2]; exact Nat.mul_le_mul r6 c6) x.2.length 8 (Nat.le_refl _) (by omega)
      rw [Azk (Nat.le_refl _)] at hloop
      have hrun:=qr.B0.ev 8 (R:Int) (C:Int) l
      rw [al,Ay6,En h1,Aza,d0,Ay6,hd,hmd,Afc,List.nil_append,hr,hf,al,Azc,Azc,Ay6,show (((R:Int),(C:Int),x.1,(0:Int)).2.2.2 !=(0:Int))=false from rfl,Aza,Aif r6,Am (by omega) (by omega)] at hrun
      have hrun:=hrun.trans hloop
      cases hfo:Lt R C l with
      | false =>
        have he:Ei (R:Int) (C:Int) l=2:=by rw [P6 h1,Ay8,Ay8,hfo]; rfl
        obtain ⟨e1,e2⟩:=S7 he (by decide)
        rw [hfo,Aza] at hrun
        rw [e1,e2,he]
        exact ⟨8,Yn 2,[],hrun,Vk⟩
      | true =>
        have he:Ei (R:Int) (C:Int) l=0:=by rw [P6 h1,Ay8,Ay8,hfo]; rfl
        obtain ⟨e1,e2⟩:=Pr he
        rw [hfo,Ay6] at hrun
        rw [e1,e2,he,Ay8,Ay8]
        exact ⟨8,_,[],hrun,Wk.G6 (.cons (Wk.G2 (.cons .int (.cons .int (.cons (.fresh _ _) .nil)))) (.cons (Wk.G2 (.cons .int (.cons .int (.cons .Rh .nil)))) (.cons .int .nil)))⟩
  · have he:=Agc h1
    obtain ⟨e1,e2⟩:=S7 he h1
    rw [e1,e2,he]
    exact ⟨0,Yn (B1 r c l),[],by rw [qr.B0.ev,al,Ay6,Od h1,Ay6]; rfl,Vk⟩
theorem Ain {r c:Int} {l:List Int} (h:Ei r c l=0):B1 r c l=0:=by
  by_cases h1:B1 r c l=0
  · exact h1
  · rw [Agc h1] at h; exact absurd h h1
theorem Va {r c:Int} {l:List Int} (al:Ae l=true) (h:Ei r c l=0):∃ R C:Nat,r=R∧c=C∧R≤6∧C≤6∧l.length=R*C∧Ae (L8 R C l)=true∧(L8 R C l).length=R*R∧Ae (Ix R C l)=true∧(Ix R C l).length=R*C∧Di (L8 R C l)=true∧Di (Ix R C l)=true:=by
  have h1:=Ain h
  rw [P6 h1] at h
  obtain ⟨R,C,rfl,rfl,r6,c6,hl⟩:=B8 (Ex h1).1
  rw [Ay8,Ay8] at h
  by_cases ho:Lt R C l=true
  · unfold Lt at ho
    obtain ⟨o1,o2⟩:=Ad.1 ho
    obtain ⟨o3,o4⟩:=Ad.1 o2
    obtain ⟨q1,q2⟩:=Asy o1
    obtain ⟨g1,g2⟩:=Asx al hl o1
    exact ⟨R,C,rfl,rfl,r6,c6,hl,q1,q2,g1,g2,o3,o4⟩
  · rw [if_neg ho] at h; exact absurd h (by decide)
theorem Xh {R C:Nat} {l:List Int} (r6:R≤6) (c6:C≤6) (hl:l.length=R*C) {x y a b:Int} (hp:Gk (R:Int) (C:Int) x y a b=true) :
    F4 (R:Int) (C:Int) l x y a b=(a,b,Bg a.toNat b.toNat fun i k=>Cj (C:Int) l (x+(i:Int)) (y+(k:Int)),0):=by
  unfold F4; rw [if_pos (Ef r6 c6 hl),if_pos hp]
theorem Vm {r c:Int} {l:List Int} (al:Ae l=true) (h:Ei r c l=0) :
    F4 r r (L8 r.toNat c.toNat l) 0 0 r (min r c)=Ed r c l∧F4 r c (Ix r.toNat c.toNat l) 0 0 (min r c) c=H9 r c l:=by
  obtain ⟨R,C,rfl,rfl,r6,c6,hl,q1,q2,g1,g2,_,_⟩:=Va al h
  unfold Ed H9
  rw [h,if_neg (by decide),if_neg (by decide),Ay8,Ay8]
  have p1:Gk (R:Int) (R:Int) 0 0 (R:Int) (min (R:Int) (C:Int))=true:=Ay7 (by omega)
  have p2:Gk (R:Int) (C:Int) 0 0 (min (R:Int) (C:Int)) (C:Int)=true:=Ay7 (by omega)
  rw [Xh r6 r6 q2 p1,Xh r6 c6 g2 p2]
  exact ⟨rfl,rfl⟩
theorem Apt {r c:Int} {l:List Int} (al:Ae l=true) (h:Ei r c l=0):Ae (L8 r.toNat c.toNat l)=true∧Ae (Ix r.toNat c.toNat l)=true:=by
  obtain ⟨R,C,rfl,rfl,_,_,_,q1,_,g1,_,_,_⟩:=Va al h
  rw [Ay8,Ay8]
  exact ⟨q1,g1⟩
theorem Arb {r c:Int} {l:List Int} (al:Ae l=true) (h:Ei r c l=0):Ae (Ed r c l).2.2.1=true∧Ae (H9 r c l).2.2.1=true:=by
  obtain ⟨a,b⟩:=Vm al h
  obtain ⟨q1,g1⟩:=Apt al h
  rw [← a,← b]
  exact ⟨Uh q1 _ _ _ _,Uh g1 _ _ _ _⟩
theorem qr.Gq.known:qr.Gq.Kn:=qr.Gq.Ac (.cons Aa.Part.known (.cons qr.B0.known .nil)) fun r c l hp=>by
  have al:Ae l=true:=hp
  show ∃ N dv drops,_=some dv∧Wk drops dv (DV.tup [.agg [.int .i64 (Ed r c l).1,.int .i64 (Ed r c l).2.1,.ints .fresh .u64 (Ed r c l).2.2.1],.agg [.int .i64 (H9 r c l).1,.int .i64 (H9 r c l).2.1,.ints .fresh .u64 (H9 r c l).2.2.1],.int .i64 (Ei r c l)])
  by_cases h:Ei r c l=0
  · obtain ⟨e1,e2⟩:=Pr h
    obtain ⟨t1,t2⟩:=Vm al h
    refine ⟨0,DV.tup [.agg [.int .i64 (Ed r c l).1,.int .i64 (Ed r c l).2.1,.ints .fresh .u64 (Ed r c l).2.2.1],.agg [.int .i64 (H9 r c l).1,.int .i64 (H9 r c l).2.1,.ints .fresh .u64 (H9 r c l).2.2.1],.int .i64 0],[],by rw [qr.Gq.ev,al,Ay6,En h,Aza,e1,e2,t1,t2],by rw [h]; exact Wk.G6 (.cons (Wk.G2 (.cons .int (.cons .int (.cons .P2 .nil)))) (.cons (Wk.G2 (.cons .int (.cons .int (.cons .P2 .nil)))) (.cons .int .nil)))⟩
  · have e1:Ed r c l=Ij (Ei r c l):=by unfold Ed; rw [if_pos h]
    have e2:H9 r c l=Ij (Ei r c l):=by unfold H9; rw [if_pos h]
    rw [e1,e2]
    exact ⟨0,Yn (Ei r c l),[],by rw [qr.Gq.ev,al,Ay6,Od h,Ay6]; rfl,Vk⟩
theorem Atq {r c p:Int}:((A6 r c)||(r !=p))=decide (r<c∨r≠p):=by
  rw [Aq,Azm]; simp
theorem solve.Eb.known:solve.Eb.Kn:=solve.Eb.Ac (.cons Cv.Check.known (.cons qr.Gq.known (.cons qr.Gb.known (.cons solve.Flat.known (.cons solve.Cp.known .nil))))) fun r c l p q m hp=>by
  obtain ⟨al,am⟩:=Ad.1 (show (Ae l&&Ae m)=true from hp)
  show ∃ N dv drops,_=some dv∧Wk drops dv (S9 (Em r c l p q m))
  have hrun:=solve.Eb.ev 0 r c l p q m
  rw [al,Ay6] at hrun
  unfold Em
  by_cases c1:B1 r c l=0
  · rw [En c1,Aza,am,Ay6] at hrun
    rw [if_neg (by rw [c1]; decide)]
    by_cases c2:B1 p q m=0
    · rw [En c2,Aza,Atq] at hrun
      rw [if_neg (by rw [c2]; decide)]
      by_cases c3:r<c∨r≠p
      · rw [Ay7 c3,Ay6] at hrun
        rw [if_pos c3]
        exact ⟨0+4,_,[],hrun,Jo⟩
      · rw [Azb c3,Aza,Ay6] at hrun
        rw [if_neg c3]
        by_cases c4:Ei r c l=0
        · obtain ⟨i1,i2⟩:=Arb al c4
          rw [En c4,Aza,i2,Ay6] at hrun
          rw [if_neg (by rw [c4]; decide)]
          by_cases c5:(Ko (H9 r c l).1 (H9 r c l).2.1 (H9 r c l).2.2.1).1=true
          · rw [c5,Ay6] at hrun
            rw [if_pos c5]
            exact ⟨0+4,_,[],hrun,Jo⟩
          · have c5':(Ko (H9 r c l).1 (H9 r c l).2.1 (H9 r c l).2.2.1).1=false:=by simpa using c5
            rw [c5',Aza,i1,Azc,Ay6] at hrun
            rw [if_neg c5]
            unfold Anb
            by_cases c6:(Dm (Ed r c l).1 (Ed r c l).2.1 (Ed r c l).2.2.1 p q m).2.2.2=0
            · rw [En c6,Aza,Akn,Azc,Ay6] at hrun
              rw [if_neg (by rw [c6]; decide)]
              exact ⟨0+4,_,[],hrun,Oa⟩
            · rw [Od c6,Ay6] at hrun
              rw [if_pos c6]
              exact ⟨0+4,_,[],hrun,Jo⟩
        · rw [Od c4,Ay6] at hrun
          rw [if_pos c4]
          exact ⟨0+4,_,[],hrun,Jo⟩
    · rw [Od c2,Ay6] at hrun
      rw [if_pos c2]
      exact ⟨0+4,_,[],hrun,Jo⟩
  · rw [Od c1,Ay6] at hrun
    rw [if_pos c1]
    exact ⟨0+4,_,[],hrun,Jo⟩
namespace EqRef17
def Ak.Div.A8:List (Nat × Entry):=[(102,Ak.B.spec),(159,Ak.F.spec)]
def Ak.Div.E:Env:=A9 (A7 Ak.Div.A8) (fun _=>false) (fun _=>none) (fun _=>none)
theorem Ak.Div.ev (N:Nat) (a b:Int):Bp Ak.Div.E N Tryz.f84 (Al Tryz.f84) [.int .u64 a,.int .u64 b]=bif (Ag a) then bif (Ag b) then some (.int .u64 (Ga ((Ieee.double.div (Int.toNat a) (Int.toNat b)).getD nanBits))) else none else none:=by kernel_rfl
abbrev _root_.Go.Proofs.S1.Ak.Div.Kn:=A5 Tryz.prog 84 Ak.Div.spec
theorem Ak.Div.Ac (hk:Ay Tryz.prog Ak.Div.A8) (h:∀ (a b:Int),Ak.Div.pre [.i a,.i b]=true→Ba Ak.Div.E Tryz.f84 [.int .u64 a,.int .u64 b] (Ak.Div.out [.i a,.i b])):Ak.Div.Kn :=
  Aj (A1 hk _ _ _) Tryz.func84 (by kernel_rfl) (by kernel_rfl) h
def Ak.Finite.hint:Nat→Option Bb
  | 0=>some { keep:=[0,3],objs:=[],boxes:=[] }
  | _=>none
def Ak.Finite.A8:List (Nat × Entry):=[(131,A4.Finite.spec)]
def Ak.Finite.E:Env:=A9 (A7 Ak.Finite.A8) (fun _=>false) Ak.Finite.hint (fun _=>none)
def Ak.Finite.L0 (N M:Nat) (x:List Int) (p3:Int):Option DV:=Bv Ak.Finite.E N Tryz.f92 (Al Tryz.f92) [1,0,1,0] [] M ⟨Ft 16 [(0,.ints .arg .u64 x),(3,.int .i64 p3)],[]⟩
theorem Ak.Finite.Au (N M:Nat) (x:List Int) (p3:Int):Ak.Finite.L0 N (M+1) x p3=bif (A6 p3 (List.length x:Int)) then bif ((decide (0≤p3))&&(decide (p3<(List.length x:Int)))) then bif (Ag (List.getD x (Int.toNat p3) 0)) then bif (!(Da (List.getD x (Int.toNat p3) 0))) then some (.bool false) else Ak.Finite.L0 N M x (Ab (p3+1)) else none else none else some (.bool true):=by kernel_rfl
theorem Ak.Finite.ev (N:Nat) (x:List Int):Bp Ak.Finite.E N Tryz.f92 (Al Tryz.f92) [.ints .arg .u64 x] =
  Ak.Finite.L0 N N x 0:=by kernel_rfl
abbrev _root_.Go.Proofs.S1.Ak.Finite.Kn:=A5 Tryz.prog 92 Ak.Finite.spec
theorem Ak.Finite.Ac (hk:Ay Tryz.prog Ak.Finite.A8) (h:∀ (x:List Int),Ak.Finite.pre [.l x]=true→Ba Ak.Finite.E Tryz.f92 [.ints .arg .u64 x] (Ak.Finite.out [.l x])):Ak.Finite.Kn :=
  Aj (A1 hk _ _ _) Tryz.func92 (by kernel_rfl) (by kernel_rfl) h
def Gw.Check.A8:List (Nat × Entry):=[(92,Ak.Finite.spec),(91,Af.Ir.spec)]
def Gw.Check.E:Env:=A9 (A7 Gw.Check.A8) (fun _=>false) (fun _=>none) (fun _=>none)
theorem Gw.Check.ev (N:Nat) (r c:Int) (l:List Int):Bp Gw.Check.E N Tryz.f25 (Al Tryz.f25) [.agg [.int .i64 r,.int .i64 c,.ints .arg .u64 l]]=bif (!(Av r c l)) then some (.int .i64 1) else bif (Cz l) then bif (!(Di l)) then some (.int .i64 4) else some (.int .i64 0) else none:=by kernel_rfl
abbrev _root_.Go.Proofs.S1.Gw.Check.Kn:=A5 Tryz.prog 25 Gw.Check.spec
theorem Gw.Check.Ac (hk:Ay Tryz.prog Gw.Check.A8) (h:∀ (r c:Int) (l:List Int),Gw.Check.pre [.i r,.i c,.l l]=true→Ba Gw.Check.E Tryz.f25 [.agg [.int .i64 r,.int .i64 c,.ints .arg .u64 l]] (Gw.Check.out [.i r,.i c,.l l])):Gw.Check.Kn :=
  Aj (A1 hk _ _ _) Tryz.func25 (by kernel_rfl) (by kernel_rfl) h
def A0.Check.hint:Nat→Option Bb
  | 0=>some { keep:=[2,5],objs:=[],boxes:=[2] }
  | _=>none
def A0.Check.A8:List (Nat × Entry):=[(62,A4.Kind.spec),(80,Af.At.spec),(25,Gw.Check.spec)]
def A0.Check.E:Env:=A9 (A7 A0.Check.A8) (fun _=>false) A0.Check.hint (fun _=>none)
def A0.Check.L0 (N M:Nat) (r c:Int) (l:List Int) (p5:Int):Option DV:=Bv A0.Check.E N Tryz.f79 (Al Tryz.f79) [1,1,1,1,0,1,0] [] M ⟨Ft 40 [(2,.ptr 2 0 0),(5,.int .i64 p5)],[(2,false,.box [.int .i64 r,.int .i64 c,.ints .arg .u64 l])]⟩
theorem A0.Check.Au (N M:Nat) (r c:Int) (l:List Int) (p5:Int):A0.Check.L0 N (M+1) r c l p5=bif (A6 p5 r) then bif (Cd r c l p5 p5) then bif (K4 (Cj c l p5 p5)) then bif ((Be (Cj c l p5 p5))==(0:Int)) then some (.int .i64 5) else A0.Check.L0 N M r c l (Ab (p5+1)) else none else none else some (.int .i64 0):=by kernel_rfl
theorem A0.Check.ev (N:Nat) (r c:Int) (l:List Int) (p q:Int) (m:List Int):Bp A0.Check.E N Tryz.f79 (Al Tryz.f79) [.agg [.int .i64 r,.int .i64 c,.ints .arg .u64 l],.agg [.int .i64 p,.int .i64 q,.ints .arg .u64 m]]=bif (Ae l) then bif ((B1 r c l) !=(0:Int)) then bif (Ae l) then some (.int .i64 (B1 r c l)) else none else bif (Ae m) then bif ((B1 p q m) !=(0:Int)) then bif (Ae m) then some (.int .i64 (B1 p q m)) else none else bif ((r !=c)||(r !=p)) then some (.int .i64 3) else A0.Check.L0 N N r c l (0:Int) else none else none :=
  Eq.trans (by kernel_rfl)
  (Ea (Ea rfl (Ea (Ea rfl (Ar (Rs (r !=c)) (Ar (Pg (r !=c)) (Ar (Rs (r !=c)) (Ar (Pg (r !=c)) (Ar (tt8 (r !=c)) (Ar (Xb (r !=c)) (Cq (tt5 (r !=c) (r !=p)) rfl rfl)))))))) rfl)) rfl)
abbrev _root_.Go.Proofs.S1.A0.Check.Kn:=A5 Tryz.prog 79 A0.Check.spec
theorem A0.Check.Ac (hk:Ay Tryz.prog A0.Check.A8) (h:∀ (r c:Int) (l:List Int) (p q:Int) (m:List Int),A0.Check.pre [.i r,.i c,.l l,.i p,.i q,.l m]=true→Ba A0.Check.E Tryz.f79 [.agg [.int .i64 r,.int .i64 c,.ints .arg .u64 l],.agg [.int .i64 p,.int .i64 q,.ints .arg .u64 m]] (A0.Check.out [.i r,.i c,.l l,.i p,.i q,.l m])):A0.Check.Kn :=
  Aj (A1 hk _ _ _) Tryz.func79 (by kernel_rfl) (by kernel_rfl) h
def A0.finite.A8:List (Nat × Entry):=[(92,Ak.Finite.spec)]
def A0.finite.E:Env:=A9 (A7 A0.finite.A8) (fun _=>false) (fun _=>none) (fun _=>none)
theorem A0.finite.ev (N:Nat) (r c:Int) (l:List Int):Bp A0.finite.E N Tryz.f85 (Al Tryz.f85) [.agg [.int .i64 r,.int .i64 c,.ints .arg .u64 l]]=bif (Cz l) then bif (!(Di l)) then some (.tup [.agg [.int .i64 0,.int .i64 0,.nil],.int .i64 2]) else some (.tup [.agg [.int .i64 r,.int .i64 c,.ints .arg .u64 l],.int .i64 0]) else none:=by kernel_rfl
abbrev _root_.Go.Proofs.S1.A0.finite.Kn:=A5 Tryz.prog 85 A0.finite.spec
theorem A0.finite.Ac (hk:Ay Tryz.prog A0.finite.A8) (h:∀ (r c:Int) (l:List Int),A0.finite.pre [.i r,.i c,.l l]=true→Ba A0.finite.E Tryz.f85 [.agg [.int .i64 r,.int .i64 c,.ints .arg .u64 l]] (A0.finite.out [.i r,.i c,.l l])):A0.finite.Kn :=
  Aj (A1 hk _ _ _) Tryz.func85 (by kernel_rfl) (by kernel_rfl) h
def A0.Cp.hint:Nat→Option Bb
  | 0=>some { keep:=[2,3,4,6,7],objs:=[],boxes:=[2,3,4,6] }
  | 2=>some { keep:=[2,3,4,6,7,8],objs:=[],boxes:=[2,3,4,6] }
  | 4=>some { keep:=[2,3,4,6,7,8,9,10],objs:=[],boxes:=[2,3,4,6] }
  | _=>none
def A0.Cp.A8:List (Nat × Entry):=[(84,Ak.Div.spec),(82,Ak.Mul.spec),(81,Ak.Sub.spec),(80,Af.At.spec),(83,Af.F5.spec),(35,Af.Bm.spec),(79,A0.Check.spec),(85,A0.finite.spec)]
def A0.Cp.E:Env:=A9 (A7 A0.Cp.A8) (fun _=>false) A0.Cp.hint (fun _=>none)
def A0.Cp.L0 (N M:Nat) (r c:Int) (l:List Int) (p q:Int) (m:List Int) (p7:Int) (p6_2:List Int):Option DV:=Bv A0.Cp.E N Tryz.f101 (Al Tryz.f101) [1,1,1,0,1,0] [] M ⟨Ft 74 [(2,.ptr 2 0 0),(3,.ptr 3 0 0),(4,.ptr 4 0 0),(6,.ptr 6 0 0),(7,.int .i64 p7)],[(2,false,.box [.int .i64 r,.int .i64 c,.ints .arg .u64 l]),(3,false,.box [.int .i64 p,.int .i64 q,.ints .arg .u64 m]),(4,false,.box [.int .i64 0,.int .i64 0,.nil]),(6,false,.box [.int .i64 p,.int .i64 q,.ints .fresh .u64 p6_2])]⟩
def A0.Cp.L1 (N M0 M:Nat) (r c:Int) (l:List Int) (p q:Int) (m:List Int) (p8:Int) (p6:List Int) (p7_1:Int):Option DV:=Bv A0.Cp.E N Tryz.f101 (Al Tryz.f101) [1,1,1,0,1,0,0,1,0,0,1,0] [M0] M ⟨Ft 74 [(2,.ptr 2 0 0),(3,.ptr 3 0 0),(4,.ptr 4 0 0),(6,.ptr 6 0 0),(7,.int .i64 p7_1),(8,.int .i64 p8)],[(2,false,.box [.int .i64 r,.int .i64 c,.ints .arg .u64 l]),(3,false,.box [.int .i64 p,.int .i64 q,.ints .arg .u64 m]),(4,false,.box [.int .i64 0,.int .i64 0,.nil]),(6,false,.box [.int .i64 p,.int .i64 q,.ints .fresh .u64 p6])]⟩
def A0.Cp.L2 (N M0 M1 M:Nat) (r c:Int) (l:List Int) (p q:Int) (m:List Int) (p9 p10:Int) (p7_2 p8_1:Int) (p6_1:List Int):Option DV:=Bv A0.Cp.E N Tryz.f101 (Al Tryz.f101) [1,1,1,0,1,0,0,1,0,0,1,0,0,1,0,0,1,0,1,0] [M0,M1] M ⟨Ft 74 [(2,.ptr 2 0 0),(3,.ptr 3 0 0),(4,.ptr 4 0 0),(6,.ptr 6 0 0),(7,.int .i64 p7_2),(8,.int .i64 p8_1),(9,.int .u64 p9),(10,.int .i64 p10)],[(2,false,.box [.int .i64 r,.int .i64 c,.ints .arg .u64 l]),(3,false,.box [.int .i64 p,.int .i64 q,.ints .arg .u64 m]),(4,false,.box [.int .i64 0,.int .i64 0,.nil]),(6,false,.box [.int .i64 p,.int .i64 q,.ints .fresh .u64 p6_1])]⟩
theorem A0.Cp.Au (N M:Nat) (r c:Int) (l:List Int) (p q:Int) (m:List Int) (p7:Int) (p6_2:List Int):A0.Cp.L0 N (M+1) r c l p q m p7 p6_2=bif (A6 p7 q) then A0.Cp.L1 N M N r c l p q m (Ab (r-1)) p6_2 p7 else bif (Ae p6_2&&Av p q p6_2) then some (.tup [.agg [.int .i64 ((G0 p q p6_2).1),.int .i64 ((G0 p q p6_2).2.1),.ints .arg .u64 ((G0 p q p6_2).2.2.1)],.int .i64 ((G0 p q p6_2).2.2.2)]) else none:=by kernel_rfl
theorem A0.Cp.B2 (N M0 M:Nat) (r c:Int) (l:List Int) (p q:Int) (m:List Int) (p8:Int) (p6:List Int) (p7_1:Int):A0.Cp.L1 N M0 (M+1) r c l p q m p8 p6 p7_1=bif (Ep 0 p8) then bif (Cd p q m p8 p7_1) then A0.Cp.L2 N M0 M N r c l p q m (Cj q m p8 p7_1) (Ab (p8+1)) p7_1 p8 p6 else none else A0.Cp.L0 N M0 r c l p q m (Ab (p7_1+1)) p6:=by kernel_rfl
theorem A0.Cp.Fp (N M0 M1 M:Nat) (r c:Int) (l:List Int) (p q:Int) (m:List Int) (p9 p10:Int) (p7_2 p8_1:Int) (p6_1:List Int):A0.Cp.L2 N M0 M1 (M+1) r c l p q m p9 p10 p7_2 p8_1 p6_1=bif (A6 p10 r) then bif (Cd r c l p8_1 p10) then bif (Cd p q p6_1 p10 p7_2) then bif (Ag (Cj c l p8_1 p10)&&Ag (Cj q p6_1 p10 p7_2)) then bif (Ag p9&&Ag (D1 (Cj c l p8_1 p10) (Cj q p6_1 p10 p7_2))) then A0.Cp.L2 N M0 M1 M r c l p q m (Db p9 (D1 (Cj c l p8_1 p10) (Cj q p6_1 p10 p7_2))) (Ab (p10+1)) p7_2 p8_1 p6_1 else none else none else none else none else bif (Cd r c l p8_1 p8_1) then bif (Ag p9&&Ag (Cj c l p8_1 p8_1)) then bif (Cd p q p6_1 p8_1 p7_2) then A0.Cp.L1 N M0 M1 r c l p q m (Ab (p8_1-1)) (List.set p6_1 (Int.toNat (p8_1*q+p7_2)) (Ew p9 (Cj c l p8_1 p8_1))) p7_2 else none else none else none :=
  Eq.trans (by kernel_rfl)
  (Ea (Cq (Ci (Cd r c l p8_1 p10)) (Cq (Ci (Cd p q p6_1 p10 p7_2)) (Cq (Ci (Ag (Cj c l p8_1 p10)&&Ag (Cj q p6_1 p10 p7_2))) (Cq (Ci (Ag p9&&Ag (D1 (Cj c l p8_1 p10) (Cj q p6_1 p10 p7_2)))) rfl rfl) rfl) rfl) rfl) (Cq (Ci (Cd r c l p8_1 p8_1)) (Cq (Ci (Ag p9&&Ag (Cj c l p8_1 p8_1))) (Cq (Ci (Cd p q p6_1 p8_1 p7_2)) rfl rfl) rfl) rfl))
theorem A0.Cp.ev (N:Nat) (r c:Int) (l:List Int) (p q:Int) (m:List Int):Bp A0.Cp.E N Tryz.f101 (Al Tryz.f101) [.agg [.int .i64 r,.int .i64 c,.ints .arg .u64 l],.agg [.int .i64 p,.int .i64 q,.ints .arg .u64 m]]=bif (Ae l&&Ae m) then bif ((Lv r c l p q m) !=(0:Int)) then bif (Ae l&&Ae m) then some (.tup [.agg [.int .i64 0,.int .i64 0,.nil],.int .i64 (Lv r c l p q m)]) else none else bif (Bn p&&Bn q) then A0.Cp.L0 N N r c l p q m 0 (Bg (Int.toNat p) (Int.toNat q) (fun _ _=>0)) else none else none:=by kernel_rfl
abbrev _root_.Go.Proofs.S1.A0.Cp.Kn:=A5 Tryz.prog 101 A0.Cp.spec
theorem A0.Cp.Ac (hk:Ay Tryz.prog A0.Cp.A8) (h:∀ (r c:Int) (l:List Int) (p q:Int) (m:List Int),A0.Cp.pre [.i r,.i c,.l l,.i p,.i q,.l m]=true→Ba A0.Cp.E Tryz.f101 [.agg [.int .i64 r,.int .i64 c,.ints .arg .u64 l],.agg [.int .i64 p,.int .i64 q,.ints .arg .u64 m]] (A0.Cp.out [.i r,.i c,.l l,.i p,.i q,.l m])):A0.Cp.Kn :=
  Aj (A1 hk _ _ _) Tryz.func101 (by kernel_rfl) (by kernel_rfl) h
end EqRef17
open EqRef17
theorem Ak.Div.known:Ak.Div.Kn:=Ak.Div.Ac (.cons Ak.B.known (.cons Ak.F.known .nil)) fun a b hp=>by
  obtain ⟨ha,hb⟩:=Ad.1 hp
  obtain ⟨a,rfl,hn⟩:=Bl ha
  obtain ⟨b,rfl,hm⟩:=Bl hb
  refine ⟨0,Ak.Div.out [.i a,.i b],[],?_,.int⟩
  rw [Ak.Div.ev,ha,hb,Ay8,Ay8]
  unfold Ga
  rw [Ap4 hn hm G3]; rfl
theorem W6 (N:Nat) {x:List Int} (hx:Cz x=true):∀ (k i F:Nat),i+k=x.length→k<F→Ak.Finite.L0 N F x (i:Int)=some (.bool ((x.drop i).all Da)):=by
  obtain ⟨hl,hu⟩:=Ii hx
  intro k
  induction k with
  | zero =>
    intro i F hi hF
    obtain ⟨F,rfl⟩:∃ G,F=G+1:=⟨F-1,by omega⟩
    rw [Ak.Finite.Au,Aq,Azb (by omega),Aza,Azk (by omega)]; rfl
  | succ k ih =>
    intro i F hi hF
    obtain ⟨F,rfl⟩:∃ G,F=G+1:=⟨F-1,by omega⟩
    rw [Ak.Finite.Au,Aq,Ay7 (show (i:Int)<(x.length:Int) by omega),Ay6,Ay7 (show (0:Int)≤(i:Int) by omega),Azc,Ay6,Ay8,hu i (by omega),Ay6,Hi (by omega),List.all_cons]
    cases Da (x.getD i 0) with
    | false=>rfl
    | true =>
      rw [Bool.not_true,Aza,Am (by omega) (by omega),Bool.true_and]
      exact ih (i+1) F (by omega) (by omega)
theorem Ak.Finite.known:Ak.Finite.Kn:=Ak.Finite.Ac (.cons A4.Finite.known .nil) fun x hp=>by
  have hp:Cz x=true:=hp
  refine ⟨x.length+1,Ak.Finite.out [.l x],[],?_,.bool⟩
  show _=some (DV.bool (x.all Da))
  rw [Ak.Finite.ev]
  exact W6 _ hp x.length 0 (x.length+1) (by omega) (by omega)
theorem Gw.Check.known:Gw.Check.Kn:=Gw.Check.Ac (.cons Ak.Finite.known (.cons Af.Ir.known .nil)) fun r c l hp=>by
  have hp:Ae l=true:=hp
  refine ⟨0,Gw.Check.out [.i r,.i c,.l l],[],?_,.int⟩
  show _=some (DV.int .i64 (B1 r c l))
  rw [Gw.Check.ev]
  unfold B1
  by_cases h:Av r c l=true
  · have:=Ov h
    rw [h,Bool.not_true,Aza,I3 hp (by omega),Ay6,if_pos rfl]
    cases Di l<;>rfl
  · have h':Av r c l=false:=by simpa using h
    rw [h']; rfl
theorem Yc (N:Nat) {n:Nat} {l:List Int} (n6:n≤6) (hl:l.length=n*n) (al:Ae l=true):∀ (cnt i F:Nat),i+cnt=n→cnt<F →
    A0.Check.L0 N F (n:Int) (n:Int) l (i:Int)=some (.int .i64 (if ((List.range n).drop i).any (fun i:Nat=>decide (Be (Cj (n:Int) l (i:Int) (i:Int))=0))=true then 5 else 0)):=by
  intro cnt
  induction cnt with
  | zero =>
    intro i F hi hF
    obtain ⟨F,rfl⟩:∃ G,F=G+1:=⟨F-1,by omega⟩
    rw [A0.Check.Au,Aq,Azb (by omega),Aza,Azk (by rw [List.length_range]; omega)]; rfl
  | succ cnt ih =>
    intro i F hi hF
    obtain ⟨F,rfl⟩:∃ G,F=G+1:=⟨F-1,by omega⟩
    have hn:K4 (Cj (n:Int) l (i:Int) (i:Int))=true:=by
      obtain ⟨k,hk,_⟩:=Bl (Ey (c:=(n:Int)) (i:=(i:Int)) (k:=(i:Int)) al)
      rw [hk]; exact I4 k
    rw [A0.Check.Au,Aq,Ay7 (show (i:Int)<(n:Int) by omega),Ay6,Cy n6 n6 hl (show i<n by omega) (show i<n by omega),Ay6,hn,Ay6,Yf (by omega),List.any_cons]
    by_cases hk:Be (Cj (n:Int) l (i:Int) (i:Int))=0
    · have e:(Be (Cj (n:Int) l (i:Int) (i:Int))==(0:Int))=true:=by rw [hk]; rfl
      rw [e,Ay6,Ay7 hk]; rfl
    · have e:(Be (Cj (n:Int) l (i:Int) (i:Int))==(0:Int))=false:=by simpa using hk
      rw [e,Aza,Azb hk,Bool.false_or,Am (by omega) (by omega)]
      exact ih (i+1) F (by omega) (by omega)
theorem A0.Check.known:A0.Check.Kn:=A0.Check.Ac (.cons A4.Kind.known (.cons Af.At.known (.cons Gw.Check.known .nil))) fun r c l p q m hp=>by
  obtain ⟨al,am⟩:=Ad.1 (show (Ae l&&Ae m)=true from hp)
  refine ⟨8,A0.Check.out [.i r,.i c,.l l,.i p,.i q,.l m],[],?_,.int⟩
  show _=some (DV.int .i64 (Lv r c l p q m))
  rw [A0.Check.ev,al,Ay6,Ay6,am,Ay6,Ay6,Ato]
  unfold Lv
  by_cases h1:B1 r c l=0
  · rw [En h1,Aza,if_neg (by rw [h1]; decide)]
    by_cases h2:B1 p q m=0
    · rw [En h2,Aza,if_neg (by rw [h2]; decide)]
      by_cases h3:r≠c∨r≠p
      · rw [Ay7 h3,Ay6,if_pos h3]
      · rw [Azb h3,Aza,if_neg h3]
        obtain rfl:r=c:=Decidable.byContradiction fun h=>h3 (.inl h)
        obtain ⟨R,C,rfl,hC,r6,c6,hl⟩:=B8 (Ex h1).1
        obtain rfl:R=C:=by omega
        rw [Ay8]
        exact Yc 8 r6 hl al R 0 8 (by omega) (by omega)
    · rw [Od h2,Ay6,if_pos h2]
  · rw [Od h1,Ay6,if_pos h1]
def Acv (x:MX):DV:=.tup [.agg [.int .i64 x.1,.int .i64 x.2.1,.ints .arg .u64 x.2.2.1],.int .i64 x.2.2.2]
theorem Rq {drops:List Nat} {x:MX}:Wk drops (Acv x) (Acv x) :=
  Wk.G6 (.cons (Wk.G2 (.cons .int (.cons .int (.cons .Rh .nil)))) (.cons .int .nil))
theorem M5 {drops:List Nat} {e:Int}:Wk drops (Ahu e) (Acv (Ij e)) :=
  Wk.G6 (.cons (Wk.G2 (.cons .int (.cons .int (.cons (.nil _ _) .nil)))) (.cons .int .nil))
theorem A0.finite.known:A0.finite.Kn:=A0.finite.Ac (.cons Ak.Finite.known .nil) fun r c l hp=>by
  obtain ⟨al,hr⟩:=Ad.1 (show (Ae l&&Av r c l)=true from hp)
  have:=Ov hr
  show ∃ N dv drops,_=some dv∧Wk drops dv (Acv (G0 r c l))
  unfold G0
  cases hf:Di l with
  | true =>
    rw [if_pos rfl]
    exact ⟨0,_,[],by rw [A0.finite.ev,I3 al (by omega),hf]; rfl,Rq⟩
  | false =>
    rw [if_neg (by decide)]
    exact ⟨0,_,[],by rw [A0.finite.ev,I3 al (by omega),hf]; rfl,M5⟩
section
variable {n Q:Nat} {l m:List Int}
theorem Acl (N:Nat) (n6:n≤6) (q6:Q≤6) (hl:l.length=n*n) (al:Ae l=true) {i j k:Nat} (hi:i+k+1=n) (hj:j<Q) (M0 M1:Nat) :
    ∀ (cnt t F:Nat) (s:Int),t+cnt=n→cnt<F→i+1≤t→Ag s=true →
    A0.Cp.L2 N M0 M1 F (n:Int) (n:Int) l (n:Int) (Q:Int) m s (t:Int) (j:Int) (i:Int) (Sh n Q l m j k) =
    A0.Cp.L1 N M0 M1 (n:Int) (n:Int) l (n:Int) (Q:Int) m (Ab ((i:Int)-(1:Int))) (List.set (Sh n Q l m j k) (Int.toNat ((i:Int)*(Q:Int)+(j:Int))) (Ew (N0 (n:Int) l (i:Int) s (t:Int) ((upL (n:Int) l (fun i=>Cj (Q:Int) m (i:Int) (j:Int)) n n).drop t)) (Cj (n:Int) l (i:Int) (i:Int)))) (j:Int):=by
  intro cnt
  induction cnt with
  | zero =>
    intro t F s ht hF hit hs
    obtain ⟨F,rfl⟩:∃ G,F=G+1:=⟨F-1,by omega⟩
    rw [Azk (by rw [M7]; omega),N0]
    rw [A0.Cp.Fp,Aq,Azb (show ¬ (t:Int)<(n:Int) by omega),Aza,Cy n6 n6 hl (show i<n by omega) (show i<n by omega),Ay6,hs,Ey al,Azc,Ay6,
      Cy n6 q6 (Ty (l:=l) (m:=m) j k) (show i<n by omega) hj,Ay6]
  | succ cnt ih =>
    intro t F s ht hF hit hs
    obtain ⟨F,rfl⟩:∃ G,F=G+1:=⟨F-1,by omega⟩
    rw [A0.Cp.Fp,Aq,Ay7 (show (t:Int)<(n:Int) by omega),Ay6,Cy n6 n6 hl (show i<n by omega) (show t<n by omega),Ay6,Cy n6 q6 (Ty (l:=l) (m:=m) j k) (show t<n by omega) hj,Ay6,
      Ai4 (show t<n by omega) hj (by omega),Ey al,Ag7,Azc,Ay6,hs,Ia,Azc,Ay6,Am (x:=(t:Int)+1) (by omega) (by omega)]
    have:=ih (t+1) F (Db s (D1 (Cj (n:Int) l (i:Int) (t:Int)) (upF n Q l m t j))) (by omega) (by omega) (by omega) (Kz hs (Ia _ _))
    rw [V7 (by rw [M7]; omega)]
    exact this
theorem Ae2 (N:Nat) (n6:n≤6) (q6:Q≤6) (hN:7<N) (hl:l.length=n*n) (hm:m.length=n*Q) (al:Ae l=true) (am:Ae m=true) {j:Nat} (hj:j<Q) (M0:Nat):∀ (cnt k F:Nat),k+cnt=n→cnt<F →
    A0.Cp.L1 N M0 F (n:Int) (n:Int) l (n:Int) (Q:Int) m ((n:Int)-1-(k:Int)) (Sh n Q l m j k) (j:Int) =
    A0.Cp.L0 N M0 (n:Int) (n:Int) l (n:Int) (Q:Int) m ((j+1:Nat):Int) (Sh n Q l m j n):=by
  intro cnt
  induction cnt with
  | zero =>
    intro k F hk hF
    obtain ⟨F,rfl⟩:∃ G,F=G+1:=⟨F-1,by omega⟩
    obtain rfl:k=n:=by omega
    rw [A0.Cp.B2,Ev,Azb (by omega),Aza,Am (by omega) (by omega)]
    rfl
  | succ cnt ih =>
    intro k F hk hF
    obtain ⟨F,rfl⟩:∃ G,F=G+1:=⟨F-1,by omega⟩
    obtain ⟨i,hi⟩:∃ i:Nat,i+k+1=n:=⟨n-k-1,by omega⟩
    have ei:(n:Int)-1-(k:Int)=(i:Int):=by omega
    have hr:=Acl (n:=n) (Q:=Q) (l:=l) (m:=m) N n6 q6 hl al hi hj M0 F (n-(i+1)) (i+1) N (Cj (Q:Int) m (i:Int) (j:Int)) (by omega) (by omega) (by omega) (Ey (c:=(Q:Int)) am)
    rw [Ai3 hi hj (Ai6 (show i<n by omega)).symm,Am (by omega) (by omega),show (i:Int)-1=(n:Int)-1-((k+1:Nat):Int) by omega] at hr
    rw [ei,A0.Cp.B2,Ev,Ay7 (show (0:Int)≤(i:Int) by omega),Ay6,Cy n6 q6 hm (show i<n by omega) hj,Ay6,Am (x:=(i:Int)+1) (by omega) (by omega)]
    exact hr.trans (ih (k+1) F (by omega) (by omega))
theorem Ae3 (N:Nat) (n6:n≤6) (q6:Q≤6) (hN:7<N) (hl:l.length=n*n) (hm:m.length=n*Q) (al:Ae l=true) (am:Ae m=true):∀ (cnt j F:Nat),j+cnt=Q→cnt<F →
    A0.Cp.L0 N F (n:Int) (n:Int) l (n:Int) (Q:Int) m (j:Int) (Sh n Q l m j 0)=some (Acv (G0 (n:Int) (Q:Int) (Sh n Q l m Q 0))):=by
  intro cnt
  induction cnt with
  | zero =>
    intro j F hj hF
    obtain ⟨F,rfl⟩:∃ G,F=G+1:=⟨F-1,by omega⟩
    obtain rfl:j=Q:=by omega
    have hr:Av (n:Int) (j:Int) (Sh n j l m j 0)=true:=Hy _ n6 q6
    rw [A0.Cp.Au,Aq,Azb (by omega),Aza,Anc,hr,Azc,Ay6]
    rfl
  | succ cnt ih =>
    intro j F hj hF
    obtain ⟨F,rfl⟩:∃ G,F=G+1:=⟨F-1,by omega⟩
    have hr:=Ae2 N n6 q6 hN hl hm al am (show j<Q by omega) F n 0 N (by omega) (by omega)
    rw [Ad8,show (n:Int)-1-((0:Nat):Int)=(n:Int)-1 by omega] at hr
    rw [A0.Cp.Au,Aq,Ay7 (show (j:Int)<(Q:Int) by omega),Ay6,Am (x:=(n:Int)-1) (by omega) (by omega)]
    exact hr.trans (ih (j+1) F (by omega) (by omega))
end
theorem A0.Cp.known:A0.Cp.Kn:=A0.Cp.Ac (.cons Ak.Div.known (.cons Ak.Mul.known (.cons Ak.Sub.known (.cons Af.At.known (.cons Af.F5.known (.cons Af.Bm.known (.cons A0.Check.known (.cons A0.finite.known .nil)))))))) fun r c l p q m hp=>by
  have hp:(Ae l&&Ae m)=true:=hp
  obtain ⟨al,am⟩:=Ad.1 hp
  show ∃ N dv drops,_=some dv∧Wk drops dv (Acv (Wm r c l p q m))
  unfold Wm
  by_cases h:Lv r c l p q m=0
  · obtain ⟨h1,h2,rfl,rfl⟩:=M4 h
    have s1:=E1 h2
    obtain ⟨R,C,rfl,hC,r6,c6,hl⟩:=B8 h1
    obtain ⟨P,Q,hP,rfl,p6,q6,hl2⟩:=B8 h2
    obtain rfl:R=C:=by omega
    obtain rfl:R=P:=by omega
    have n:=Ae3 (n:=R) (Q:=Q) (l:=l) (m:=m) 8 r6 q6 (by omega) hl hl2 al am Q 0 8 (by omega) (by omega)
    rw [Ad7,Ai5,show ((0:Nat):Int)=0 from rfl] at n
    rw [if_neg (by rw [h]; decide),Ay8,Ay8]
    refine ⟨8,_,[],?_,Rq⟩
    rw [A0.Cp.ev,al,am,Azc,Ay6,En h,Aza,s1.1,s1.2,Azc,Ay6,Ay8,Ay8]
    exact n
  · rw [if_pos h]
    exact ⟨0,_,[],by rw [A0.Cp.ev,hp,Ay6,Ay6,Od h,Ay6]; rfl,M5⟩
namespace EqRef14
def B4.B0.hint:Nat→Option Bb
  | 0=>some { keep:=[1,2,3,4,5],objs:=[(0,4,100004,.recs 191 3 [])],boxes:=[1,2,3] }
  | 2=>some { keep:=[2,3,4,9,10],objs:=[(0,4,100004,.recs 191 3 [])],boxes:=[2,3,9] }
  | _=>none
def B4.B0.A8:List (Nat × Entry):=[(92,Ak.Finite.spec),(108,Af.Qk.spec),(33,Af.Fc.arg.spec),(198,Bc.Apply.spec),(196,Bc.Dy.spec),(197,B4.Ds.spec)]
def B4.B0.E:Env:=Wc (A7 B4.B0.A8) (fun _=>false) B4.B0.hint (fun _=>none) (Ags [(22,[.s .u64]),(37,[.i .u64])])
def B4.B0.L0 (N M:Nat) (r c:Int) (l:List Int) (p5:Int) (p3:List Int) (p4:List (List DV)):Option DV:=Bv B4.B0.E N Tryz.f127 (Al Tryz.f127) [1,1,1,0,1,0] [] M ⟨Ft 95 [(1,.ptr 1 0 0),(2,.ptr 2 0 0),(3,.ptr 3 0 0),(4,.oref 100004),(5,.int .i64 p5)],[(1,false,.box [.int .i64 r,.int .i64 c,.ints .arg .u64 l]),(2,false,.box [.int .i64 0,.int .i64 0,.nil,.int .i64 0,.int .i64 0,.nil,.bool false]),(3,false,.box [.int .i64 r,.int .i64 c,.ints .arg .u64 p3]),(100004,false,.recs 191 3 p4)]⟩
def B4.B0.L1 (N M:Nat) (r c p10:Int) (p3_1:List Int) (p4_1:List (List DV)) (p9:List Int):Option DV:=Bv B4.B0.E N Tryz.f127 (Al Tryz.f127) [1,1,1,1,1,0,1,0] [] M ⟨Ft 95 [(2,.ptr 2 0 0),(3,.ptr 3 0 0),(4,.oref 100004),(9,.ptr 9 0 0),(10,.int .i64 p10)],[(2,false,.box [.int .i64 0,.int .i64 0,.nil,.int .i64 0,.int .i64 0,.nil,.bool false]),(3,false,.box [.int .i64 r,.int .i64 c,.ints .arg .u64 p3_1]),(9,false,.box [.int .i64 r,.int .i64 r,.ints .arg .u64 p9]),(100004,false,.recs 191 3 p4_1)]⟩
theorem B4.B0.Au (N M:Nat) (r c:Int) (l:List Int) (p5:Int) (p3:List Int) (p4:List (List DV)):B4.B0.L0 N (M+1) r c l p5 p3 p4=bif ((A6 p5 c)&&(A6 p5 (Ab (r-1)))) then bif (Hj r c p3 p5&&Dh (0≤p5∧p5≤r)) then bif (Cz (Cu c p3 p5 p5 (Int.toNat (r-p5)))) then bif (!(Di (Cu c p3 p5 p5 (Int.toNat (r-p5))))) then some (.agg [.int .i64 0,.int .i64 0,.nil,.int .i64 0,.int .i64 0,.nil,.bool false]) else bif (Cz (Cu c p3 p5 p5 (Int.toNat (r-p5)))&&Dh (1≤List.length (Cu c p3 p5 p5 (Int.toNat (r-p5)))∧List.length (Cu c p3 p5 p5 (Int.toNat (r-p5)))≤64)) then bif (!(decide ((Jz (Cu c p3 p5 p5 (Int.toNat (r-p5)))).2.2.2=0))) then some (.agg [.int .i64 0,.int .i64 0,.nil,.int .i64 0,.int .i64 0,.nil,.bool false]) else bif (((Av r c p3&&H0 r c p5 p5 ((Jz (Cu c p3 p5 p5 (Int.toNat (r-p5)))).1))&&(Ae p3&&Ae ((Jz (Cu c p3 p5 p5 (Int.toNat (r-p5)))).1)))&&Ag ((Jz (Cu c p3 p5 p5 (Int.toNat (r-p5)))).2.1)) then bif (Av r c (Fo (Int.toNat r) (Int.toNat c) p3 p5 p5 ((Jz (Cu c p3 p5 p5 (Int.toNat (r-p5)))).1) ((Jz (Cu c p3 p5 p5 (Int.toNat (r-p5)))).2.1))&&Dh (0≤p5∧p5<r∧p5<c)) then bif (decide ((List.length p4)+1≤Afu)) then B4.B0.L0 N M r c l (Ab (p5+1)) (Nk (Int.toNat r) (Int.toNat c) (Fo (Int.toNat r) (Int.toNat c) p3 p5 p5 ((Jz (Cu c p3 p5 p5 (Int.toNat (r-p5)))).1) ((Jz (Cu c p3 p5 p5 (Int.toNat (r-p5)))).2.1)) (Int.toNat p5) ((Jz (Cu c p3 p5 p5 (Int.toNat (r-p5)))).2.2.1)) (p4++[[.ints .arg .u64 ((Jz (Cu c p3 p5 p5 (Int.toNat (r-p5)))).1),.int .u64 ((Jz (Cu c p3 p5 p5 (Int.toNat (r-p5)))).2.1),.int .u64 ((Jz (Cu c p3 p5 p5 (Int.toNat (r-p5)))).2.2.1)]]) else none else none else none else none else none else none else bif (Bn r) then B4.B0.L1 N N r c (Ab ((List.length p4:Int)-1)) p3 p4 (Jj (Int.toNat r)) else none :=
  Eq.trans (by kernel_rfl)
  (Ar (On (A6 p5 c)) (Ar (On (A6 p5 c)) (Ar (Mb (A6 p5 c)) (Ar (Mb (A6 p5 c)) (Ar (Ab8 (A6 p5 c)) (Ar (Tw (A6 p5 c)) (Cq (tt1 (A6 p5 c) (A6 p5 (Ab (r-1)))) (Ea (Ea (Ea rfl (Ea (Ea rfl (Cq (Ci (((Av r c p3&&H0 r c p5 p5 ((Jz (Cu c p3 p5 p5 (Int.toNat (r-p5)))).1))&&(Ae p3&&Ae ((Jz (Cu c p3 p5 p5 (Int.toNat (r-p5)))).1)))&&Ag ((Jz (Cu c p3 p5 p5 (Int.toNat (r-p5)))).2.1))) (Cq (Ci (Av r c (Fo (Int.toNat r) (Int.toNat c) p3 p5 p5 ((Jz (Cu c p3 p5 p5 (Int.toNat (r-p5)))).1) ((Jz (Cu c p3 p5 p5 (Int.toNat (r-p5)))).2.1))&&Dh (0≤p5∧p5<r∧p5<c))) rfl rfl) rfl)) rfl)) rfl) rfl) rfl)))))))
theorem B4.B0.B2 (N M:Nat) (r c p10:Int) (p3_1:List Int) (p4_1:List (List DV)) (p9:List Int):B4.B0.L1 N (M+1) r c p10 p3_1 p4_1 p9=bif (Ep 0 p10) then bif ((decide (0≤p10))&&(decide (p10<(List.length p4_1:Int)))) then bif ((decide ((Int.toNat p10)<(List.length p4_1)))&&(isC (.s .u64) (List.getD (List.getD p4_1 (Int.toNat p10) []) 0 .undef))) then bif ((decide (0≤p10))&&(decide (p10<(List.length p4_1:Int)))) then bif ((decide ((Int.toNat p10)<(List.length p4_1)))&&(isC (.i .u64) (List.getD (List.getD p4_1 (Int.toNat p10) []) 1 .undef))) then bif (((Av r r p9&&H0 r r p10 0 (L9 (List.getD (List.getD p4_1 (Int.toNat p10) []) 0 .undef)))&&(Ae p9&&Ae (L9 (List.getD (List.getD p4_1 (Int.toNat p10) []) 0 .undef))))&&Ag (Zo (List.getD (List.getD p4_1 (Int.toNat p10) []) 1 .undef))) then B4.B0.L1 N M r c (Ab (p10-1)) p3_1 p4_1 (Fo (Int.toNat r) (Int.toNat r) p9 p10 0 (L9 (List.getD (List.getD p4_1 (Int.toNat p10) []) 0 .undef)) (Zo (List.getD (List.getD p4_1 (Int.toNat p10) []) 1 .undef))) else none else none else none else none else none else bif (Cz p9) then bif ((!(Di p9))||(Cz p3_1)) then bif ((!(Di p9))||(!(Di p3_1))) then some (.agg [.int .i64 0,.int .i64 0,.nil,.int .i64 0,.int .i64 0,.nil,.bool false]) else some (.agg [.int .i64 r,.int .i64 r,.ints .arg .u64 p9,.int .i64 r,.int .i64 c,.ints .arg .u64 p3_1,.bool true]) else none else none :=
  Eq.trans (by kernel_rfl)
  (Ea (Cq (Jw (decide (0≤p10)) (decide (p10<(List.length p4_1:Int)))) (Cq (Jw (decide ((Int.toNat p10)<(List.length p4_1))) (isC (.s .u64) (List.getD (List.getD p4_1 (Int.toNat p10) []) 0 .undef))) (Cq (Jw (decide (0≤p10)) (decide (p10<(List.length p4_1:Int)))) (Cq (Jw (decide ((Int.toNat p10)<(List.length p4_1))) (isC (.i .u64) (List.getD (List.getD p4_1 (Int.toNat p10) []) 1 .undef))) (Cq (Ci (((Av r r p9&&H0 r r p10 0 (L9 (List.getD (List.getD p4_1 (Int.toNat p10) []) 0 .undef)))&&(Ae p9&&Ae (L9 (List.getD (List.getD p4_1 (Int.toNat p10) []) 0 .undef))))&&Ag (Zo (List.getD (List.getD p4_1 (Int.toNat p10) []) 1 .undef)))) rfl rfl) rfl) rfl) rfl) rfl) (Ea (Ar (Z6 (Di p9)) (Ar (Qq (Di p9)) (Cq (Anm (Di p9) (Cz p3_1)) (Ar (Qq (Di p9)) (Ar (Ab7 (Di p9)) (Cq (Ara (Di p9) (Di p3_1)) rfl rfl))) rfl))) rfl))
theorem B4.B0.ev (N:Nat) (r c:Int) (l:List Int):Bp B4.B0.E N Tryz.f127 (Al Tryz.f127) [.agg [.int .i64 r,.int .i64 c,.ints .arg .u64 l]] =
  B4.B0.L0 N N r c l 0 l []:=by kernel_rfl
abbrev _root_.Go.Proofs.S1.B4.B0.Kn:=A5 Tryz.prog 127 B4.B0.spec
theorem B4.B0.Ac (hk:Ay Tryz.prog B4.B0.A8) (h:∀ (r c:Int) (l:List Int),B4.B0.pre [.i r,.i c,.l l]=true→Ba B4.B0.E Tryz.f127 [.agg [.int .i64 r,.int .i64 c,.ints .arg .u64 l]] (B4.B0.out [.i r,.i c,.l l])):B4.B0.Kn :=
  Aj (Xo hk _ _ _ _) Tryz.func127 (by kernel_rfl) (by kernel_rfl) h
def B4.Gq.A8:List (Nat × Entry):=[(128,Af.Part.spec),(127,B4.B0.spec)]
def B4.Gq.E:Env:=A9 (A7 B4.Gq.A8) (fun _=>false) (fun _=>none) (fun _=>none)
theorem B4.Gq.ev (N:Nat) (r c:Int) (l:List Int):Bp B4.Gq.E N Tryz.f100 (Al Tryz.f100) [.agg [.int .i64 r,.int .i64 c,.ints .arg .u64 l]]=bif ((Av r c l&&Di l)&&Ae l) then bif (!(decide (Ei r c l=0))) then some (.agg [.int .i64 ((qX r c l).1),.int .i64 ((qX r c l).2.1),.ints .arg .u64 ((qX r c l).2.2.1),.int .i64 ((rX r c l).1),.int .i64 ((rX r c l).2.1),.ints .arg .u64 ((rX r c l).2.2.1),.bool (decide (Ei r c l=0))]) else bif (Av ((qX r c l).1) ((qX r c l).2.1) ((qX r c l).2.2.1)&&Gk ((qX r c l).1) ((qX r c l).2.1) 0 0 r (min r c)) then bif (Av ((rX r c l).1) ((rX r c l).2.1) ((rX r c l).2.2.1)&&Gk ((rX r c l).1) ((rX r c l).2.1) 0 0 (min r c) c) then some (.agg [.int .i64 r,.int .i64 (min r c),.ints .fresh .u64 (Bg (Int.toNat r) (Int.toNat (min r c)) (fun j1 j2=>Cj ((qX r c l).2.1) ((qX r c l).2.2.1) ((0:Int)+j1) ((0:Int)+j2))),.int .i64 (min r c),.int .i64 c,.ints .fresh .u64 (Bg (Int.toNat (min r c)) (Int.toNat c) (fun j1 j2=>Cj ((rX r c l).2.1) ((rX r c l).2.2.1) ((0:Int)+j1) ((0:Int)+j2))),.bool true]) else none else none else none :=
  Eq.trans (by kernel_rfl)
  (Ea (Ea rfl (Cq (Ci (Av ((qX r c l).1) ((qX r c l).2.1) ((qX r c l).2.2.1)&&Gk ((qX r c l).1) ((qX r c l).2.1) 0 0 r (min r c))) (Cq (Ci (Av ((rX r c l).1) ((rX r c l).2.1) ((rX r c l).2.2.1)&&Gk ((rX r c l).1) ((rX r c l).2.1) 0 0 (min r c) c)) rfl rfl) rfl)) rfl)
abbrev _root_.Go.Proofs.S1.B4.Gq.Kn:=A5 Tryz.prog 100 B4.Gq.spec
theorem B4.Gq.Ac (hk:Ay Tryz.prog B4.Gq.A8) (h:∀ (r c:Int) (l:List Int),B4.Gq.pre [.i r,.i c,.l l]=true→Ba B4.Gq.E Tryz.f100 [.agg [.int .i64 r,.int .i64 c,.ints .arg .u64 l]] (B4.Gq.out [.i r,.i c,.l l])):B4.Gq.Kn :=
  Aj (A1 hk _ _ _) Tryz.func100 (by kernel_rfl) (by kernel_rfl) h
def A0.Eb.A8:List (Nat × Entry):=[(45,Af.Mul.spec),(37,Af.Co.spec),(25,Gw.Check.spec),(100,B4.Gq.spec),(26,A0.Flat.spec),(101,A0.Cp.spec)]
def A0.Eb.E:Env:=A9 (A7 A0.Eb.A8) (fun _=>false) (fun _=>none) (fun _=>none)
theorem A0.Eb.ev (N:Nat) (r c:Int) (l:List Int) (p q:Int) (m:List Int):Bp A0.Eb.E N Tryz.f32 (Al Tryz.f32) [.agg [.int .i64 r,.int .i64 c,.ints .arg .u64 l],.agg [.int .i64 p,.int .i64 q,.ints .arg .u64 m]]=bif (Ae l) then bif ((B1 r c l) !=(0:Int)) then bif (Ae l) then some (.tup [.agg [.int .i64 0,.int .i64 0,.nil],.int .i64 (B1 r c l)]) else none else bif (Ae m) then bif ((B1 p q m) !=(0:Int)) then bif (Ae m) then some (.tup [.agg [.int .i64 0,.int .i64 0,.nil],.int .i64 (B1 p q m)]) else none else bif ((A6 r c)||(r !=p)) then some (.tup [.agg [.int .i64 0,.int .i64 0,.nil],.int .i64 3]) else bif ((Av r c l&&Di l)&&Ae l) then bif (!(decide (Ei r c l=0))) then some (.tup [.agg [.int .i64 0,.int .i64 0,.nil],.int .i64 2]) else bif ((Av ((H9 r c l).1) ((H9 r c l).2.1) ((H9 r c l).2.2.1)&&Ae ((H9 r c l).2.2.1))&&Di ((H9 r c l).2.2.1)) then bif (Nh ((H9 r c l).1) ((H9 r c l).2.1) ((H9 r c l).2.2.1)) then some (.tup [.agg [.int .i64 0,.int .i64 0,.nil],.int .i64 5]) else bif (Av ((Ed r c l).1) ((Ed r c l).2.1) ((Ed r c l).2.2.1)) then bif ((Av ((Ed r c l).2.1) ((Ed r c l).1) (Bg (Int.toNat ((Ed r c l).2.1)) (Int.toNat ((Ed r c l).1)) (fun j1 j2=>Cj ((Ed r c l).2.1) ((Ed r c l).2.2.1) j2 j1))&&Av p q m)&&((Ae (Bg (Int.toNat ((Ed r c l).2.1)) (Int.toNat ((Ed r c l).1)) (fun j1 j2=>Cj ((Ed r c l).2.1) ((Ed r c l).2.2.1) j2 j1))&&Ae m)&&decide (((Ed r c l).1)=p))) then bif (Ae ((H9 r c l).2.2.1)&&Ae (Bg (Int.toNat ((Ed r c l).2.1)) (Int.toNat q) (fun j1 j2=>G1 (Fw ((Ed r c l).1) (Bg (Int.toNat ((Ed r c l).2.1)) (Int.toNat ((Ed r c l).1)) (fun j1 j2=>Cj ((Ed r c l).2.1) ((Ed r c l).2.2.1) j2 j1)) j1) (Hk p q m j2)))) then some (.tup [.agg [.int .i64 ((Wm ((H9 r c l).1) ((H9 r c l).2.1) ((H9 r c l).2.2.1) ((Ed r c l).2.1) q (Bg (Int.toNat ((Ed r c l).2.1)) (Int.toNat q) (fun j1 j2=>G1 (Fw ((Ed r c l).1) (Bg (Int.toNat ((Ed r c l).2.1)) (Int.toNat ((Ed r c l).1)) (fun j1 j2=>Cj ((Ed r c l).2.1) ((Ed r c l).2.2.1) j2 j1)) j1) (Hk p q m j2)))).1),.int .i64 ((Wm ((H9 r c l).1) ((H9 r c l).2.1) ((H9 r c l).2.2.1) ((Ed r c l).2.1) q (Bg (Int.toNat ((Ed r c l).2.1)) (Int.toNat q) (fun j1 j2=>G1 (Fw ((Ed r c l).1) (Bg (Int.toNat ((Ed r c l).2.1)) (Int.toNat ((Ed r c l).1)) (fun j1 j2=>Cj ((Ed r c l).2.1) ((Ed r c l).2.2.1) j2 j1)) j1) (Hk p q m j2)))).2.1),.ints .arg .u64 ((Wm ((H9 r c l).1) ((H9 r c l).2.1) ((H9 r c l).2.2.1) ((Ed r c l).2.1) q (Bg (Int.toNat ((Ed r c l).2.1)) (Int.toNat q) (fun j1 j2=>G1 (Fw ((Ed r c l).1) (Bg (Int.toNat ((Ed r c l).2.1)) (Int.toNat ((Ed r c l).1)) (fun j1 j2=>Cj ((Ed r c l).2.1) ((Ed r c l).2.2.1) j2 j1)) j1) (Hk p q m j2)))).2.2.1)],.int .i64 ((Wm ((H9 r c l).1) ((H9 r c l).2.1) ((H9 r c l).2.2.1) ((Ed r c l).2.1) q (Bg (Int.toNat ((Ed r c l).2.1)) (Int.toNat q) (fun j1 j2=>G1 (Fw ((Ed r c l).1) (Bg (Int.toNat ((Ed r c l).2.1)) (Int.toNat ((Ed r c l).1)) (fun j1 j2=>Cj ((Ed r c l).2.1) ((Ed r c l).2.2.1) j2 j1)) j1) (Hk p q m j2)))).2.2.2)]) else none else none else none else none else none else none else none :=
  Eq.trans (by kernel_rfl)
  (Ea (Ea rfl (Ea (Ea rfl (Ar (Rs (A6 r c)) (Ar (Pg (A6 r c)) (Ar (Rs (A6 r c)) (Ar (Pg (A6 r c)) (Ar (tt8 (A6 r c)) (Ar (Xb (A6 r c)) (Cq (tt5 (A6 r c) (r !=p)) rfl (Ea (Ea rfl (Ea (Ea rfl (Cq (Ci (Av ((Ed r c l).1) ((Ed r c l).2.1) ((Ed r c l).2.2.1))) (Cq (Ci ((Av ((Ed r c l).2.1) ((Ed r c l).1) (Bg (Int.toNat ((Ed r c l).2.1)) (Int.toNat ((Ed r c l).1)) (fun j1 j2=>Cj ((Ed r c l).2.1) ((Ed r c l).2.2.1) j2 j1))&&Av p q m)&&((Ae (Bg (Int.toNat ((Ed r c l).2.1)) (Int.toNat ((Ed r c l).1)) (fun j1 j2=>Cj ((Ed r c l).2.1) ((Ed r c l).2.2.1) j2 j1))&&Ae m)&&decide (((Ed r c l).1)=p)))) (Cq (Ci (Ae ((H9 r c l).2.2.1)&&Ae (Bg (Int.toNat ((Ed r c l).2.1)) (Int.toNat q) (fun j1 j2=>G1 (Fw ((Ed r c l).1) (Bg (Int.toNat ((Ed r c l).2.1)) (Int.toNat ((Ed r c l).1)) (fun j1 j2=>Cj ((Ed r c l).2.1) ((Ed r c l).2.2.1) j2 j1)) j1) (Hk p q m j2))))) rfl rfl) rfl) rfl)) rfl)) rfl))))))))) rfl)) rfl)
abbrev _root_.Go.Proofs.S1.A0.Eb.Kn:=A5 Tryz.prog 32 A0.Eb.spec
theorem A0.Eb.Ac (hk:Ay Tryz.prog A0.Eb.A8) (h:∀ (r c:Int) (l:List Int) (p q:Int) (m:List Int),A0.Eb.pre [.i r,.i c,.l l,.i p,.i q,.l m]=true→Ba A0.Eb.E Tryz.f32 [.agg [.int .i64 r,.int .i64 c,.ints .arg .u64 l],.agg [.int .i64 p,.int .i64 q,.ints .arg .u64 m]] (A0.Eb.out [.i r,.i c,.l l,.i p,.i q,.l m])):A0.Eb.Kn :=
  Aj (A1 hk _ _ _) Tryz.func32 (by kernel_rfl) (by kernel_rfl) h
end EqRef14
open EqRef13 EqRef14
theorem Af.F5.arg.known:Af.F5.arg.Kn:=A5.Am3 (P:=_) (pre:=Af.F5.pre) (out:=Af.F5.out) Af.F5.known [] fun ats h=>by
  unfold Af.F5.arg.pre at h
  split at h
  · exact ⟨h,Wk.G2 (.cons .int (.cons .int (.cons (.fresh _ _) .nil)))⟩
  · cases h
theorem Af.Fc.arg.known:Af.Fc.arg.Kn:=A5.Am3 (P:=_) (pre:=Af.Fc.pre) (out:=Af.Fc.out) Af.Fc.known [] fun ats h=>by
  unfold Af.Fc.arg.pre at h
  split at h
  · exact ⟨h,Wk.G2 (.cons .int (.cons .int (.cons (.fresh _ _) .nil)))⟩
  · cases h
theorem Vv (N:Nat) {x:List Int} (hx:Cz x=true):∀ (k i F:Nat),i+k=x.length→k<F→Bc.Bz.L0 N F x (i:Int)=some (.bool (Eh (x.drop i))):=by
  obtain ⟨hl,hu⟩:=Ii hx
  intro k
  induction k with
  | zero =>
    intro i F hi hF
    obtain ⟨F,rfl⟩:∃ G,F=G+1:=⟨F-1,by omega⟩
    rw [Bc.Bz.Au,Aq,Azb (by omega),Aza,Azk (by omega)]; rfl
  | succ k ih =>
    intro i F hi hF
    obtain ⟨F,rfl⟩:∃ G,F=G+1:=⟨F-1,by omega⟩
    obtain ⟨n,hn,_⟩:=Bl (hu i (by omega))
    rw [Bc.Bz.Au,Aq,Ay7 (show (i:Int)<(x.length:Int) by omega),Ay6,Ay7 (show (0:Int)≤(i:Int) by omega),Azc,Ay6,Ay8,show K4 (x.getD i 0)=true by rw [hn]; exact I4 n,Ay6,Xn,Hi (by omega)]
    unfold Eh
    rw [List.all_cons]
    cases decide (Be (x.getD i 0)=0) with
    | false=>rfl
    | true =>
      rw [Bool.not_true,Aza,Bool.true_and,Am (by omega) (by omega)]
      exact ih (i+1) F (by omega) (by omega)
theorem Bc.Bz.known:Bc.Bz.Kn:=Bc.Bz.Ac (.cons A4.Kind.known .nil) fun x hp=>by
  refine ⟨x.length+1,.bool (Eh (x.drop 1)),[],?_,.bool⟩
  rw [Bc.Bz.ev]
  by_cases h:x.length=0
  · rw [Bc.Bz.Au,Aq,Azb (by omega),Aza,Azk (by omega)]; rfl
  · exact Vv (x.length+1) hp (x.length-1) 1 (x.length+1) (by omega) (by omega)
theorem Aab (N:Nat) {x:List Int} (hx:Cz x=true):∀ (k i F:Nat),i+k=x.length→k<F→Bc.lead.L0 N F x (i:Int)=some (.int .i64 (Qi (x.drop i) (i:Int))):=by
  obtain ⟨hl,hu⟩:=Ii hx
  intro k
  induction k with
  | zero =>
    intro i F hi hF
    obtain ⟨F,rfl⟩:∃ G,F=G+1:=⟨F-1,by omega⟩
    rw [Bc.lead.Au,Aq,Azb (by omega),Aza,Azk (by omega)]; rfl
  | succ k ih =>
    intro i F hi hF
    obtain ⟨F,rfl⟩:∃ G,F=G+1:=⟨F-1,by omega⟩
    obtain ⟨n,hn,_⟩:=Bl (hu i (by omega))
    rw [Bc.lead.Au,Aq,Ay7 (show (i:Int)<(x.length:Int) by omega),Ay6,Ay7 (show (0:Int)≤(i:Int) by omega),Azc,Ay6,Ay8,show K4 (x.getD i 0)=true by rw [hn]; exact I4 n,Ay6,Xn,Hi (by omega),Qi]
    by_cases h:Be (x.getD i 0)=0
    · rw [Ay7 h,if_pos h,Bool.not_true,Aza,Am (by omega) (by omega)]
      exact ih (i+1) F (by omega) (by omega)
    · rw [Azb h,if_neg h]; rfl
theorem Bc.lead.known:Bc.lead.Kn:=Bc.lead.Ac (.cons A4.Kind.known .nil) fun x hp=>by
  refine ⟨x.length+1,.int .i64 (Qi x 0),[],?_,.int⟩
  rw [Bc.lead.ev]
  exact Aab (x.length+1) hp x.length 0 (x.length+1) (by omega) (by omega)
theorem Ajy:∀ (x:List Int) (i:Nat),Eh x=false→∃ j:Nat,Qi x (i:Int)=((i+j:Nat):Int)∧j<x.length∧x.getD j 0=O8 x
  | [],i,h=>by cases h
  | b::l,i,h=>by
    unfold Qi O8
    by_cases hk:Be b=0
    · rw [if_pos hk,if_pos hk]
      have h':Eh l=false:=by
        unfold Eh at h ⊢
        rw [List.all_cons,Ay7 hk,Bool.true_and] at h
        exact h
      obtain ⟨j,e1,e2,e3⟩:=Ajy l (i+1) h'
      refine ⟨j+1,?_,by simp; omega,by simpa using e3⟩
      have:((i:Int)+1)=((i+1:Nat):Int):=rfl
      rw [this,e1]; omega
    · rw [if_neg hk,if_neg hk]
      exact ⟨0,rfl,by simp,rfl⟩
theorem Ac1 {x:List Int} (h:Eh (x.drop 1)=false):Eh x=false:=by
  cases x with
  | nil=>exact h
  | cons b l =>
    have h:Eh l=false:=h
    unfold Eh at h ⊢
    rw [List.all_cons,h,Bool.and_false]
theorem Z9 (N:Nat) {x:List Int} (h64:x.length≤64):∀ (k i F:Nat),i+1+k=x.length→k<F →
    Bc.Dy.L0 N F x ((i+1:Nat):Int) (Jp (i+1) fun _=>0)=some (.tup [.agg [.ints (.own 100004 tB) .u64 (Jp x.length fun _=>0),.int .u64 0,.int .u64 (x.getD 0 0)],.bool true]):=by
  intro k
  induction k with
  | zero =>
    intro i F hi hF
    obtain ⟨F,rfl⟩:∃ G,F=G+1:=⟨F-1,by omega⟩
    rw [Bc.Dy.Au,Aq,Azb (by omega),Aza,Ay7 (by omega),Ay6,show i+1=x.length by omega]
  | succ k ih =>
    intro i F hi hF
    obtain ⟨F,rfl⟩:∃ G,F=G+1:=⟨F-1,by omega⟩
    rw [Bc.Dy.Au,Aq,Ay7 (by omega),Ay6,Ay7 (by rw [Po (by omega)]; unfold Gu; omega),Ay6,Am (by omega) (by omega)]
    have:=ih (i+1) F (by omega) (by omega)
    rw [J4 (i+1+1) (i+1) _ rfl,Hd] at this
    rw [J4 (i+1) i _ rfl]
    exact this
theorem Acr (N:Nat) {y:List Int} {mu beta d:Int} (ay:Ae y=true) (hmu:Ag mu=true) (hd:Ag d=true) (h64:y.length≤64):∀ (k i F:Nat),i+1+k=y.length→k<F →
    Bc.Dy.L2 N F y mu beta d ((i+1:Nat):Int) (Jp (i+1) fun j=>Ew (y.getD j 0) d)=some (.tup [.agg [.ints (.own 100004 tB) .u64 (Jp y.length fun j=>Ew (y.getD j 0) d),.int .u64 (Ew (Db mu (y.getD 0 0)) mu),.int .u64 beta],.bool true]):=by
  intro k
  induction k with
  | zero =>
    intro i F hi hF
    obtain ⟨F,rfl⟩:∃ G,F=G+1:=⟨F-1,by omega⟩
    have hy:=Ja ay 0
    rw [Bc.Dy.Fp,Aq,Azb (by omega),Aza,Ay7 (show (0:Int)<(y.length:Int) by omega),Ay6,Ay7 (show 0<y.length by omega),Ay6,hmu,hy,Azc,Ay6,Kz hmu hy,Azc,Ay6,show i+1=y.length by omega]
  | succ k ih =>
    intro i F hi hF
    obtain ⟨F,rfl⟩:∃ G,F=G+1:=⟨F-1,by omega⟩
    rw [Bc.Dy.Fp,Aq,Ay7 (show ((i+1:Nat):Int)<(y.length:Int) by omega),Ay6,Ay7 (show (0:Int)≤((i+1:Nat):Int) by omega),Azc,Ay6,Ay8,Ay7 (show i+1<y.length by omega),Ay6,Ja ay,hd,Azc,Ay6,Ay7 (by rw [Po (by omega)]; unfold Gu; omega),Ay6,Am (by omega) (by omega)]
    have:=ih (i+1) F (by omega) (by omega)
    rw [J4 (i+1+1) (i+1) _ rfl,Hd] at this
    rw [J4 (i+1) i _ rfl]
    exact this
theorem Yb (N:Nat) {x:List Int} (hx:Cz x=true) (hl:x.length≤64):∀ (k i F:Nat),i+k=x.length→k<F →
    Bc.Dy.L1 N F x (i:Int) ((x.take i).map fun b=>By b (-Bs (Bf x)))=Bc.Dy.L1 N (F-k) x (x.length:Int) (Bo x (-Bs (Bf x))):=by
  obtain ⟨_,hu⟩:=Ii hx
  have he:=Zm (Bf x)
  intro k
  induction k with
  | zero =>
    intro i F hi hF
    rw [show i=x.length by omega,List.take_of_length_le (Nat.le_refl _)]; rfl
  | succ k ih =>
    intro i F hi hF
    obtain ⟨F,rfl⟩:∃ G,F=G+1:=⟨F-1,by omega⟩
    rw [Bc.Dy.B2,Aq,Ay7 (show (i:Int)<(x.length:Int) by omega),Ay6,Ay7 (show (0:Int)≤(i:Int) by omega),Azc,Ay6,Ay8,Am (x:=(0:Int)-Bs (Bf x)) (by omega) (by omega),show (0:Int)-Bs (Bf x)=-Bs (Bf x) by omega,
      show Dj (List.getD x i 0) (-Bs (Bf x))=true from Ad.2 ⟨hu i (by omega),Aw.2 (by omega)⟩,Ay6,Ay7 (by rw [List.length_map,List.length_take]; unfold Gu; omega),Ay6,Am (by omega) (by omega)]
    have:=ih (i+1) F (by omega) (by omega)
    rw [Xw (by omega)] at this
    rw [show F+1-(k+1)=F-k by omega]
    exact this
theorem Bc.Dy.known:Bc.Dy.Kn:=Bc.Dy.Ac (.cons A4.Finite.known (.cons A4.Dv.known (.cons A4.Neg.known (.cons Br.L4.known (.cons Ak.Bq.known (.cons Ak.Div.known (.cons Ak.Norm.known (.cons Ak.Bt.known (.cons Ak.Sub.known (.cons Bc.lead.known (.cons Bc.Bz.known .nil))))))))))) fun x hp=>by
  obtain ⟨hx,hl⟩:=Ad.1 (show (Cz x&&Dh (1≤List.length x∧List.length x≤64))=true from hp)
  have hl:=Aw.1 hl
  have al:=Abx hx
  have he:=Zm (Bf x)
  show ∃ N dv drops,_=some dv∧Wk drops dv (DV.tup [.agg [.ints .fresh .u64 (Jz x).1,.int .u64 (Jz x).2.1,.int .u64 (Jz x).2.2.1],.bool (decide ((Jz x).2.2.2=0))])
  have hrun:=Bc.Dy.ev 66 x
  rw [hx,Ay6] at hrun
  unfold Jz
  by_cases h3:Eh (x.drop 1)=true
  · rw [h3,Ay6] at hrun
    rw [if_pos h3]
    exact ⟨66,_,[100004],hrun.trans (Z9 66 (by omega) (x.length-1) 0 66 (by omega) (by omega)),Wk.G6 (.cons (Wk.G2 (.cons (.drop _ _ _ _ (List.mem_singleton.2 rfl)) (.cons .int (.cons .int .nil)))) (.cons .bool .nil))⟩
  · rw [if_neg h3]
    have h3:Eh (x.drop 1)=false:=by simpa using h3
    rw [h3,Aza,Ay6,Oi,Ay6] at hrun
    have hs:=Yb 66 hx hl.2 x.length 0 66 (by omega) (by omega)
    have hrun:=hrun.trans hs
    obtain ⟨j,j1,j2,j3⟩:=Ajy x 0 (Ac1 h3)
    rw [Nat.zero_add] at j1
    have j1:Qi x 0=(j:Int):=j1
    have ly:=Aau x (-Bs (Bf x))
    have ay:=Aav (-Bs (Bf x)) al
    have oky:Cz (Bo x (-Bs (Bf x)))=true:=I3 ay (by omega)
    have iy:=Ja ay 0
    have gy:=Rv (x:=x) (k:=-Bs (Bf x)) (j:=0) (by omega)
    have sp:∀ mu:Int,Ag mu=true→Dj mu (Bs (Bf x))=true:=fun mu h=>Ad.2 ⟨h,Aw.2 (by omega)⟩
    have ny:=Xj (Bo x (-Bs (Bf x)))
    obtain ⟨F,hF⟩:∃ F,66-x.length=F+1:=⟨65-x.length,by omega⟩
    have key:∀ mu:Int,muI x=mu→Ag mu=true→Bc.Dy.L2 66 66 (Bo x (-Bs (Bf x))) mu (By mu (Bs (Bf x))) (Db ((Bo x (-Bs (Bf x))).getD 0 0) mu) 1 [4607182418800017408]=some (.tup [.agg [.ints (.own 100004 tB) .u64 (Sk x),.int .u64 (Td x),.int .u64 (Fl x)],.bool true]):=by
      intro mu hmu hi
      have:=Acr 66 (y:=Bo x (-Bs (Bf x))) (mu:=mu) (beta:=By mu (Bs (Bf x))) (d:=Db ((Bo x (-Bs (Bf x))).getD 0 0) mu) ay hi (Kz iy hi) (by omega) (x.length-1) 0 66 (by omega) (by omega)
      have e1:Jp (Bo x (-Bs (Bf x))).length (fun j=>Ew (List.getD (Bo x (-Bs (Bf x))) j 0) (Db (List.getD (Bo x (-Bs (Bf x))) 0 0) mu))=Sk x:=by
        unfold Sk
        rw [ly,gy,← hmu]
        exact Aax fun j hj=>by rw [Rv hj]; rfl
      have e2:Ew (Db mu (List.getD (Bo x (-Bs (Bf x))) 0 0)) mu=Td x:=by
        unfold Td
        rw [gy,hmu]; rfl
      have e3:By mu (Bs (Bf x))=Fl x:=by unfold Fl; rw [hmu]
      rw [e1,e2] at this
      rw [e3] at this ⊢
      exact this
    have fin:∀ (b:Bool) (d:Option DV),Da (Fl x)=b→(d=bif (!b) then some (.tup [.agg [.nil,.int .u64 (0:Int),.int .u64 (0:Int)],.bool false]) else some (.tup [.agg [.ints (.own 100004 tB) .u64 (Sk x),.int .u64 (Td x),.int .u64 (Fl x)],.bool true])) →
        ∃ dv drops,d=some dv∧Wk drops dv (DV.tup [.agg [.ints .fresh .u64 (if Da (Fl x)=true then (Sk x,Td x,Fl x,(0:Int)) else ([],0,0,2)).1,.int .u64 (if Da (Fl x)=true then (Sk x,Td x,Fl x,(0:Int)) else ([],0,0,2)).2.1,.int .u64 (if Da (Fl x)=true then (Sk x,Td x,Fl x,(0:Int)) else ([],0,0,2)).2.2.1],.bool (decide ((if Da (Fl x)=true then (Sk x,Td x,Fl x,(0:Int)) else ([],0,0,2)).2.2.2=0))]):=by
      intro b d hb h
      cases b with
      | true =>
        rw [hb,if_pos rfl]
        exact ⟨_,[100004],h,Wk.G6 (.cons (Wk.G2 (.cons (.drop _ _ _ _ (List.mem_singleton.2 rfl)) (.cons .int (.cons .int .nil)))) (.cons .bool .nil))⟩
      | false =>
        rw [hb,if_neg (by decide)]
        exact ⟨_,[],h,Wk.G6 (.cons (Wk.G2 (.cons Mf (.cons .int (.cons .int .nil)))) (.cons .bool .nil))⟩
    have go:=fin (Da (Fl x)) _ rfl (hrun.trans ?_)
    · obtain ⟨dv,drops,k1,k2⟩:=go
      exact ⟨66,dv,drops,k1,k2⟩
    have hlead:=Xm al
    rw [hF,Bc.Dy.B2,Aq,Azb (show ¬ (x.length:Int)<(x.length:Int) by omega),Aza,oky,Ay6,hx,Ay6,j1,Ay7 (show (0:Int)≤(j:Int) by omega),Ay7 (show (j:Int)<(x.length:Int) by omega),Azc,Ay6,Ay8,j3,hlead,Ay6]
    have d1:decide ((0:Int)<((Bo x (-Bs (Bf x))).length:Int))=true:=Ay7 (by omega)
    have d2:decide (0<(Bo x (-Bs (Bf x))).length)=true:=Ay7 (by omega)
    cases hn:D0 (O8 x) with
    | true =>
      have hm:muI x=Dq (Bo x (-Bs (Bf x))):=by unfold muI; rw [if_pos hn]
      have eb:Fl x=By (Dq (Bo x (-Bs (Bf x)))) (Bs (Bf x)):=by unfold Fl; rw [hm]
      rw [Bool.not_true,Aza,sp _ ny,Ay6,H6 ny,Ay6,key _ hm ny,d1,Ay6,d2,Ay6,iy,ny,Azc,Ay6,eb]
    | false =>
      have hm:muI x=Dd (Dq (Bo x (-Bs (Bf x)))):=by unfold muI; rw [if_neg (by rw [hn]; decide)]
      have my:=Yu ny
      have eb:Fl x=By (Dd (Dq (Bo x (-Bs (Bf x))))) (Bs (Bf x)):=by unfold Fl; rw [hm]
      rw [Bool.not_false,Ay6,ny,Ay6,sp _ my,Ay6,H6 my,Ay6,key _ hm my,d1,Ay6,d2,Ay6,iy,my,Azc,Ay6,eb]
open EqRef13 EqRef14
theorem Ajd {c b i:Int} {l:List Int} {n j:Nat} (h:j<n):(Cu c l b i n).getD j 0=Cj c l (i+(j:Int)) b:=by
  unfold Cu
  rw [Azg,List.getElem?_map,List.getElem?_range h]; rfl
theorem Qs (a c b:Nat):Int.toNat ((a:Int)*(c:Int)+(b:Int))=a*c+b:=by rw [← Azr,← Int.natCast_add,Ay8]
section
variable {R C i k:Nat} {l v:List Int} {t:Int}
theorem Yd (N M0:Nat) (r6:R≤6) (c6:C≤6) (al:Ae l=true) (av:Ae v=true) (hv:i+v.length≤R) {c:Nat} (hc:c<C) (hk:k≤c):∀ (cnt j F:Nat),j+cnt=v.length→cnt<F →
    Bc.Apply.L1 N M0 F (R:Int) (C:Int) l (i:Int) v t (j:Int) (apS R C l i k v t c j) (c:Int) (Cu (C:Int) l (c:Int) (i:Int) (R-i)) (Ts (C:Int) l (i:Int) v t (c:Int)) =
    Bc.Apply.L0 N M0 (R:Int) (C:Int) l (i:Int) v t ((c+1:Nat):Int) (apS R C l i k v t (c+1) 0):=by
  intro cnt
  induction cnt with
  | zero =>
    intro j F hj hF
    obtain ⟨F,rfl⟩:∃ G,F=G+1:=⟨F-1,by omega⟩
    obtain rfl:j=v.length:=by omega
    rw [Bc.Apply.B2,Aq,Azb (by omega),Aza,Am (by omega) (by omega),Agp]
    rfl
  | succ cnt ih =>
    intro j F hj hF
    obtain ⟨F,rfl⟩:∃ G,F=G+1:=⟨F-1,by omega⟩
    have e1:Ab ((i:Int)+(j:Int))=((i+j:Nat):Int):=by rw [Am (by omega) (by omega)]; omega
    have hat:Cd (R:Int) (C:Int) (apS R C l i k v t c j) ((i+j:Nat):Int) (c:Int)=true:=Cy r6 c6 (Akg c j) (by omega) hc
    have sl:=Gr (C:Int) (c:Int) (i:Int) (R-i) l
    have a1:=Ja av j
    have a2:=Ja (Pl (c:=(C:Int)) (b:=(c:Int)) (i:=(i:Int)) (n:=R-i) al) j
    have a3:Ag (Ts (C:Int) l (i:Int) v t (c:Int))=true:=Ia _ _
    have hx:Db ((Cu (C:Int) l (c:Int) (i:Int) (R-i)).getD j 0) (D1 (Ts (C:Int) l (i:Int) v t (c:Int)) (v.getD j 0))=Qa (C:Int) l (i:Int) (k:Int) v t ((i+j:Nat):Int) (c:Int):=by
      rw [Agn hk (by omega),Ajd (by omega),Ajd (by omega)]
    rw [Bc.Apply.B2,Aq,Ay7 (show (j:Int)<(v.length:Int) by omega),Ay6,e1,sl,Ay7 (show (0:Int)≤(j:Int) by omega),Ay7 (show (j:Int)<((R-i:Nat):Int) by omega),Azc,Ay6,Ay6,Ay8,a3,a1,Azc,Ay6,a2,Ia,Azc,Ay6,hat,Ay6,
      Qs,Akf hc hk (by omega) hx,Am (by omega) (by omega)]
    exact ih (j+1) F (by omega) (by omega)
theorem Ye (N:Nat) (r6:R≤6) (c6:C≤6) (hN:7<N) (hr:Av (R:Int) (C:Int) l=true) (al:Ae l=true) (av:Ae v=true) (ht:Ag t=true) (hv:i+v.length≤R):∀ (cnt c F:Nat),c+cnt=C→k≤c→cnt<F →
    Bc.Apply.L0 N F (R:Int) (C:Int) l (i:Int) v t (c:Int) (apS R C l i k v t c 0) =
    some (.agg [.int .i64 (R:Int),.int .i64 (C:Int),.ints .arg .u64 (Fo R C l (i:Int) (k:Int) v t)]):=by
  intro cnt
  induction cnt with
  | zero =>
    intro c F hc hk hF
    obtain ⟨F,rfl⟩:∃ G,F=G+1:=⟨F-1,by omega⟩
    obtain rfl:c=C:=by omega
    rw [Bc.Apply.Au,Aq,Azb (by omega),Aza,Akh]
  | succ cnt ih =>
    intro c F hc hk hF
    obtain ⟨F,rfl⟩:∃ G,F=G+1:=⟨F-1,by omega⟩
    have cp:Hj (R:Int) (C:Int) l (c:Int)=true:=Ad.2 ⟨hr,Aw.2 (by omega)⟩
    have e0:Int.toNat ((R:Int)-(i:Int))=R-i:=by omega
    have st:=Aet (c:=(C:Int)) (b:=(c:Int)) (i:=(i:Int)) (l:=l) (m:=v.length) (n:=R-i) (by omega)
    have sl2:=Gr (C:Int) (c:Int) (i:Int) (R-i) l
    have sl:=Gr (C:Int) (c:Int) (i:Int) v.length l
    have sa:=Pl (c:=(C:Int)) (b:=(c:Int)) (i:=(i:Int)) (n:=v.length) al
    have ft:Pc v (Cu (C:Int) l (c:Int) (i:Int) v.length)=true:=Sa.2 ⟨by omega,by omega⟩
    rw [Bc.Apply.Au,Aq,Ay7 (by omega),Ay6,cp,Aw.2 (show 0≤(i:Int)∧(i:Int)≤(R:Int) by omega),Azc,Ay6,e0,Ay8,st,sl2,
      Ay7 (show (0:Int)≤(v.length:Int) by omega),Ay7 (show (v.length:Int)≤((R-i:Nat):Int) by omega),Azc,Ay6,ft,av,sa,Azc,Azc,Ay6,ht,N4,Azc,Ay6]
    have:=Yd (t:=t) N F r6 c6 al av hv (show c<C by omega) hk v.length 0 N (by omega) (by omega)
    exact this.trans (ih (c+1) F (by omega) (by omega) (by omega))
end
theorem Bc.Apply.known:Bc.Apply.Kn:=Bc.Apply.Ac (.cons Ak.Ig.known (.cons Ak.Mul.known (.cons Ak.Sub.known (.cons Af.Qk.known (.cons Af.F5.arg.known .nil))))) fun r c l i k v t hp=>by
  obtain ⟨h1,ht⟩:=Ad.1 (show (((Av r c l&&H0 r c i k v)&&(Ae l&&Ae v))&&Ag t)=true from hp)
  obtain ⟨h2,h3⟩:=Ad.1 h1
  obtain ⟨hr,hb⟩:=Ad.1 h2
  obtain ⟨al,av⟩:=Ad.1 h3
  have hb:=of_decide_eq_true hb
  obtain ⟨R,C,rfl,rfl,r6,c6,hl⟩:=B8 hr
  obtain ⟨i,rfl⟩:∃ j:Nat,i=j:=⟨i.toNat,by omega⟩
  obtain ⟨k,rfl⟩:∃ j:Nat,k=j:=⟨k.toNat,by omega⟩
  refine ⟨8,Bc.Apply.out [.i (R:Int),.i (C:Int),.l l,.i (i:Int),.i (k:Int),.l v,.i t],[],?_,Wk.G2 (.cons .int (.cons .int (.cons .Rh .nil)))⟩
  show _=some (DV.agg [.int .i64 (R:Int),.int .i64 (C:Int),.ints .arg .u64 (Fo (Int.toNat (R:Int)) (Int.toNat (C:Int)) l (i:Int) (k:Int) v t)])
  rw [Bc.Apply.ev,Ay8,Ay8]
  have:=Ye (R:=R) (C:=C) (i:=i) (k:=k) (l:=l) (v:=v) (t:=t) 8 r6 c6 (by omega) hr al av ht (by omega) (C-k) k 8 (by omega) (by omega) (by omega)
  rw [Ago hl] at this
  exact this
theorem Ak9 (N:Nat) {R C j:Nat} {l:List Int} {x:Int} (r6:R≤6) (c6:C≤6) (hj:j<C):∀ (cnt i F:Nat),i+cnt=R→j<i→cnt<F →
    B4.Ds.L0 N F (R:Int) (C:Int) (j:Int) (i:Int) (clS R C l j x i)=some (.agg [.int .i64 (R:Int),.int .i64 (C:Int),.ints .arg .u64 (Nk R C l j x)]):=by
  intro cnt
  induction cnt with
  | zero =>
    intro i F hi hji hF
    obtain ⟨F,rfl⟩:∃ G,F=G+1:=⟨F-1,by omega⟩
    obtain rfl:i=R:=by omega
    rw [B4.Ds.Au,Aq,Azb (by omega),Aza,Akd]
  | succ cnt ih =>
    intro i F hi hji hF
    obtain ⟨F,rfl⟩:∃ G,F=G+1:=⟨F-1,by omega⟩
    have hat:Cd (R:Int) (C:Int) (clS R C l j x i) (i:Int) (j:Int)=true:=Cy r6 c6 (Akc i) (by omega) hj
    rw [B4.Ds.Au,Aq,Ay7 (by omega),Ay6,hat,Ay6,Qs,Akb hj hji,Am (by omega) (by omega)]
    exact ih (i+1) F (by omega) (by omega) (by omega)
theorem B4.Ds.known:B4.Ds.Kn:=B4.Ds.Ac (.cons Af.F5.arg.known .nil) fun r c l j b hp=>by
  obtain ⟨hr,hj⟩:=Ad.1 (show (Av r c l&&Dh (0≤j∧j<r∧j<c))=true from hp)
  have hj:=Aw.1 hj
  obtain ⟨R,C,rfl,rfl,r6,c6,hl⟩:=B8 hr
  obtain ⟨j,rfl⟩:∃ i:Nat,j=i:=⟨j.toNat,by omega⟩
  refine ⟨8,.agg [.int .i64 (R:Int),.int .i64 (C:Int),.ints .arg .u64 (Nk R C l j b)],[],?_,?_⟩
  · rw [B4.Ds.ev,Cy r6 c6 hl (by omega) (by omega),Ay6,Qs,Wg hl (by omega),Am (by omega) (by omega)]
    exact Ak9 8 r6 c6 (by omega) (R-(j+1)) (j+1) 8 (by omega) (by omega) (by omega)
  · show Wk _ _ (DV.agg [.int .i64 (R:Int),.int .i64 (C:Int),.ints .arg .u64 (Nk (Int.toNat (R:Int)) (Int.toNat (C:Int)) l (Int.toNat (j:Int)) b)])
    rw [Ay8,Ay8,Ay8]
    exact Wk.G2 (.cons .int (.cons .int (.cons .Rh .nil)))
def Wj (rows:List (List DV)) (ms:List (List Int × Int)):Prop:=rows.length=ms.length∧∀ i,i<ms.length→∃ b:Int,rows.getD i []=[.ints .arg .u64 (ms.getD i ([],0)).1,.int .u64 (ms.getD i ([],0)).2,.int .u64 b]
theorem Wj.Ayq {rows:List (List DV)} {ms:List (List Int × Int)} (h:Wj rows ms) (v:List Int) (t b:Int):Wj (rows++[[.ints .arg .u64 v,.int .u64 t,.int .u64 b]]) (ms++[(v,t)]):=by
  refine ⟨by rw [List.length_append,List.length_append,h.1]; rfl,fun i hi=>?_⟩
  rw [List.length_append] at hi
  by_cases hlt:i<ms.length
  · obtain ⟨b',hb⟩:=h.2 i hlt
    refine ⟨b',?_⟩
    rw [Azg,List.getElem?_append_left (by rw [h.1]; exact hlt),← Azg,hb,Azg (l:=ms++_),List.getElem?_append_left hlt,← Azg]
  · have he:i=ms.length:=by
      have:i<ms.length+1:=hi
      omega
    refine ⟨b,?_⟩
    rw [Azg,List.getElem?_append_right (by rw [h.1]; omega),Azg (l:=ms++_),List.getElem?_append_right (by omega),he,h.1,Nat.sub_self]
    rfl
def Aol:DV:=.agg [.int .i64 0,.int .i64 0,.nil,.int .i64 0,.int .i64 0,.nil,.bool false]
theorem Aov {x:List Int} (h0:x.length≠0) (h:x.length≤64) (hf:Di x=true):Ck x=Jz x:=by
  unfold Ck; rw [if_neg (by omega),if_pos hf]
theorem Aac (N:Nat) {R C:Nat} (l0:List Int) (r6:R≤6) (c6:C≤6):∀ (cnt j F:Nat) (l:List Int) (rows:List (List DV)) (ms:List (List Int × Int)),j+cnt=Im R C→cnt<F→l.length=R*C→Ae l=true→ms.length=j→Wj rows ms →
    (Nj R C cnt j l=none→B4.B0.L0 N F (R:Int) (C:Int) l0 (j:Int) l rows=some Aol) ∧
    (∀ x,Nj R C cnt j l=some x→∃ rows',Wj rows' (ms++x.2)∧B4.B0.L0 N F (R:Int) (C:Int) l0 (j:Int) l rows=B4.B0.L1 N N (R:Int) (C:Int) (Ab ((rows'.length:Int)-1)) x.1 rows' (Jj R)):=by
  intro cnt
  induction cnt with
  | zero =>
    intro j F l rows ms hj hF hl al hms hrows
    obtain ⟨F,rfl⟩:∃ G,F=G+1:=⟨F-1,by omega⟩
    unfold Im at hj
    have hlt:(A6 (j:Int) (C:Int)&&A6 (j:Int) (Ab ((R:Int)-1)))=false:=by
      rw [Aq,Aq,Am (by omega) (by omega),Bool.and_eq_false_iff,Azp,Azp]; omega
    refine ⟨fun h=>(by cases h),fun x hx=>?_⟩
    cases hx
    refine ⟨rows,by rw [List.append_nil]; exact hrows,?_⟩
    rw [B4.B0.Au,hlt,Aza,Rt r6,Ay6,Ay8]
  | succ cnt ih =>
    intro j F l rows ms hj hF hl al hms hrows
    obtain ⟨F,rfl⟩:∃ G,F=G+1:=⟨F-1,by omega⟩
    have hj0:=hj
    unfold Im at hj
    have hr:=Ef r6 c6 hl
    have hlt:(A6 (j:Int) (C:Int)&&A6 (j:Int) (Ab ((R:Int)-1)))=true:=by
      rw [Aq,Aq,Am (by omega) (by omega),Ay7 (by omega),Ay7 (by omega)]; rfl
    have cp:Hj (R:Int) (C:Int) l (j:Int)=true:=Ad.2 ⟨hr,Aw.2 (by omega)⟩
    have ec:Cu (C:Int) l (j:Int) (j:Int) (Int.toNat ((R:Int)-(j:Int)))=Fk R C l j:=by unfold Fk; rw [show Int.toNat ((R:Int)-(j:Int))=R-j by omega]
    have ca:Ae (Fk R C l j)=true:=Pl al
    have cl:(Fk R C l j).length=R-j:=Gr _ _ _ _ _
    have cok:=I3 ca (by omega)
    rw [B4.B0.Au,hlt,Ay6,cp,Aw.2 (show 0≤(j:Int)∧(j:Int)≤(R:Int) by omega),Azc,Ay6,ec,cok,Ay6,Ay8,Ay8,Ay8]
    unfold Nj
    by_cases hf:Di (Fk R C l j)=true
    · have hmk:=Aov (x:=Fk R C l j) (by omega) (by omega) hf
      rw [hf,Bool.not_true,Aza,Aw.2 (show 1≤(Fk R C l j).length∧(Fk R C l j).length≤64 by omega),Azc,Ay6,← hmk]
      by_cases he:(Ck (Fk R C l j)).2.2.2=0
      · have hml:=Ut he
        have hma:=Uu ca
        have hap:H0 (R:Int) (C:Int) (j:Int) (j:Int) (Ck (Fk R C l j)).1=true:=Ay7 (by omega)
        have hlen:=Lh R C l (j:Int) (j:Int) (Ck (Fk R C l j)).1 (Ck (Fk R C l j)).2.1
        have hn:=ih (j+1) F (Ys R C l j) (rows++[[.ints .arg .u64 (Ck (Fk R C l j)).1,.int .u64 (Ck (Fk R C l j)).2.1,.int .u64 (Ck (Fk R C l j)).2.2.1]]) (ms++[((Ck (Fk R C l j)).1,(Ck (Fk R C l j)).2.1)]) (by omega) (by omega) (Ny _ _ _ _) (Xk al j) (by rw [List.length_append,hms]; rfl) (hrows.Ayq _ _ _)
        rw [if_pos he,Ay7 he,Bool.not_true,Aza,hr,hap,al,hma.1,hma.2.1,Azc,Azc,Azc,Ay6,Ef r6 c6 hlen,Aw.2 (show 0≤(j:Int)∧(j:Int)<(R:Int)∧(j:Int)<(C:Int) by omega),Azc,Ay6,Ay7 (show rows.length+1≤Afu by rw [hrows.1]; unfold Afu; omega),Ay6,Am (by omega) (by omega)]
        refine ⟨fun h=>?_,fun x hx=>?_⟩
        · rw [Option.map_eq_none_iff] at h
          exact hn.1 h
        · rw [Option.map_eq_some_iff] at hx
          obtain ⟨y,hy,rfl⟩:=hx
          obtain ⟨rows',h1,h2⟩:=hn.2 y hy
          refine ⟨rows',?_,h2⟩
          rw [List.append_assoc] at h1
          exact h1
      · rw [if_neg he,Azb he,Bool.not_false,Ay6]
        exact ⟨fun _=>rfl,fun x hx=>(by cases hx)⟩
    · have hf':Di (Fk R C l j)=false:=by simpa using hf
      have he:(Ck (Fk R C l j)).2.2.2≠0:=by
        unfold Ck
        rw [if_neg (by omega),if_neg hf]
        exact (by decide:(4:Int)≠0)
      rw [hf',Bool.not_false,Ay6,if_neg he]
      exact ⟨fun _=>rfl,fun x hx=>(by cases hx)⟩
theorem Aad (N:Nat) {R C:Nat} {L:List Int} (r6:R≤6) {ms:List (List Int × Int)} {rows:List (List DV)} (hrows:Wj rows ms) (hm:Aa9 R 0 ms) (aL:Cz L=true) (hn:ms.length≤6):∀ (j F:Nat),j≤ms.length→j<F →
    B4.B0.L1 N F (R:Int) (C:Int) ((j:Int)-1) L rows (Hq R j (ms.drop j) (Jj R)) =
    bif (Di (Hq R 0 ms (Jj R))&&Di L) then some (.agg [.int .i64 (R:Int),.int .i64 (R:Int),.ints .arg .u64 (Hq R 0 ms (Jj R)),.int .i64 (R:Int),.int .i64 (C:Int),.ints .arg .u64 L,.bool true]) else some Aol:=by
  have h36:=Ans r6
  intro j
  induction j with
  | zero =>
    intro F _ hF
    obtain ⟨F,rfl⟩:∃ G,F=G+1:=⟨F-1,by omega⟩
    have hb:=Sc R ms 0 (Jj R) (Vb R) (by unfold Jj; exact Ca _ _ _)
    have ok1:Cz (Hq R 0 ms (Jj R))=true:=I3 hb.1 (by omega)
    rw [B4.B0.B2,Ev,Azb (by omega),Aza,List.drop_zero,ok1,Ay6,aL,Bool.or_true,Ay6]
    cases Di (Hq R 0 ms (Jj R)) with
    | false=>rfl
    | true=>cases Di L<;>rfl
  | succ j ih =>
    intro F hj hF
    obtain ⟨F,rfl⟩:∃ G,F=G+1:=⟨F-1,by omega⟩
    have ej:(((j+1:Nat):Int))-1=(j:Int):=by omega
    have hg:=V3 hm j (by omega)
    have hb:=Sc R (ms.drop (j+1)) (j+1) (Jj R) (Vb R) (by unfold Jj; exact Ca _ _ _)
    have hr1:=Ef r6 r6 hb.2
    have hap:H0 (R:Int) (R:Int) (j:Int) 0 (ms.getD j ([],0)).1=true:=Ay7 (by omega)
    obtain ⟨b,hrow⟩:=hrows.2 j (by omega)
    rw [B4.B0.B2,ej,Ev,Ay7 (show (0:Int)≤(j:Int) by omega),Ay6,hrows.1,Ay7 (show (j:Int)<(ms.length:Int) by omega),Azc,Ay6,Ay8,Ay7 (show j<ms.length by omega),hrow,Ay8]
    show (bif true then bif true then bif true then (bif (((Av (R:Int) (R:Int) (Hq R (j+1) (ms.drop (j+1)) (Jj R))&&H0 (R:Int) (R:Int) (j:Int) (0:Int) (ms.getD j ([],0)).1)&&(Ae (Hq R (j+1) (ms.drop (j+1)) (Jj R))&&Ae (ms.getD j ([],0)).1))&&Ag (ms.getD j ([],0)).2) then
      B4.B0.L1 N F (R:Int) (C:Int) (Ab ((j:Int)-(1:Int))) L rows (Fo R R (Hq R (j+1) (ms.drop (j+1)) (Jj R)) (j:Int) (0:Int) (ms.getD j ([],0)).1 (ms.getD j ([],0)).2) else none) else none else none else none)=_
    rw [Ay6,Ay6,Ay6,hr1,hap,hb.1,hg.1,hg.2.1,Azc,Azc,Azc,Ay6,Am (by omega) (by omega),← Abv (by omega)]
    exact ih F (by omega) (by omega)
theorem Atx {drops:List Nat} {e:Int}:Wk drops Aol (DV.agg [.int .i64 (Ij e).1,.int .i64 (Ij e).2.1,.ints .arg .u64 (Ij e).2.2.1,.int .i64 (Ij e).1,.int .i64 (Ij e).2.1,.ints .arg .u64 (Ij e).2.2.1,.bool false]) :=
  Wk.G2 (.cons .int (.cons .int (.cons Mf (.cons .int (.cons .int (.cons Mf (.cons .bool .nil)))))))
theorem B4.B0.known:B4.B0.Kn:=B4.B0.Ac (.cons Ak.Finite.known (.cons Af.Qk.known (.cons Af.Fc.arg.known (.cons Bc.Apply.known (.cons Bc.Dy.known (.cons B4.Ds.known .nil)))))) fun r c l hp=>by
  obtain ⟨h1,al⟩:=Ad.1 (show ((Av r c l&&Di l)&&Ae l)=true from hp)
  obtain ⟨hr,hf⟩:=Ad.1 h1
  have hc:B1 r c l=0:=Adr hr hf
  obtain ⟨R,C,rfl,rfl,r6,c6,hl⟩:=B8 hr
  show ∃ N dv drops,_=some dv∧Wk drops dv (DV.agg [.int .i64 (qX (R:Int) (C:Int) l).1,.int .i64 (qX (R:Int) (C:Int) l).2.1,.ints .arg .u64 (qX (R:Int) (C:Int) l).2.2.1,.int .i64 (rX (R:Int) (C:Int) l).1,.int .i64 (rX (R:Int) (C:Int) l).2.1,.ints .arg .u64 (rX (R:Int) (C:Int) l).2.2.1,.bool (decide (Ei (R:Int) (C:Int) l=0))])
  have hfe:=P6 hc
  rw [Ay8,Ay8] at hfe
  have hrun:=B4.B0.ev 8 (R:Int) (C:Int) l
  obtain ⟨d1,d2⟩:=Aac 8 l r6 c6 (Im R C) 0 8 l [] [] (by omega) (by unfold Im; omega) hl al rfl ⟨rfl,fun i h=>absurd h (Nat.not_lt_zero _)⟩
  have bad:∀ d:Option DV,Ei (R:Int) (C:Int) l=2→d=some Aol→∃ dv drops,d=some dv∧Wk drops dv (DV.agg [.int .i64 (qX (R:Int) (C:Int) l).1,.int .i64 (qX (R:Int) (C:Int) l).2.1,.ints .arg .u64 (qX (R:Int) (C:Int) l).2.2.1,.int .i64 (rX (R:Int) (C:Int) l).1,.int .i64 (rX (R:Int) (C:Int) l).2.1,.ints .arg .u64 (rX (R:Int) (C:Int) l).2.2.1,.bool (decide (Ei (R:Int) (C:Int) l=0))]):=fun d he h=>by
    obtain ⟨e1,e2⟩:=S7 he (by decide)
    rw [e1,e2,he]
    exact ⟨Aol,[],h,Atx⟩
  cases hx:Kq R C l with
  | none =>
    have hfo:Lt R C l=false:=by unfold Lt; rw [hx]; rfl
    rw [hfo,if_neg (by decide)] at hfe
    obtain ⟨dv,drops,k1,k2⟩:=bad _ hfe (hrun.trans (d1 hx))
    exact ⟨8,dv,drops,k1,k2⟩
  | some x =>
    obtain ⟨x1,x2,x3,x4⟩:=Agf hl al hx
    obtain ⟨rows,hrows,hd⟩:=d2 x hx
    rw [List.nil_append] at hrows
    have h36:=Nat.mul_le_mul r6 c6
    have hn:x.2.length≤6:=by rw [x3]; unfold Im; omega
    have hb:=Aad 8 (C:=C) r6 hrows x4 (I3 x1 (by omega)) hn x.2.length 8 (Nat.le_refl _) (by omega)
    rw [Azk (Nat.le_refl _)] at hb
    rw [hrows.1,Am (by omega) (by omega)] at hd
    have hd:=hd.trans hb
    have hq:L8 R C l=Hq R 0 x.2 (Jj R):=by unfold L8; rw [hx]
    have hrr:Ix R C l=x.1:=by unfold Ix; rw [hx]
    have hfo:Lt R C l=(Di (Hq R 0 x.2 (Jj R))&&Di x.1):=by unfold Lt; rw [hx,hq,hrr]; rfl
    rw [← hfo,← hq,← hrr] at hd
    cases hk:Lt R C l with
    | false =>
      rw [hk,if_neg (by decide)] at hfe
      rw [hk,Aza] at hd
      obtain ⟨dv,drops,k1,k2⟩:=bad _ hfe (hrun.trans hd)
      exact ⟨8,dv,drops,k1,k2⟩
    | true =>
      rw [hk,if_pos rfl] at hfe
      rw [hk,Ay6] at hd
      obtain ⟨e1,e2⟩:=Pr hfe
      rw [e1,e2,hfe,Ay8,Ay8]
      exact ⟨8,_,[],hrun.trans hd,Wk.G2 (.cons .int (.cons .int (.cons .Rh (.cons .int (.cons .int (.cons .Rh (.cons .bool .nil)))))))⟩
end Go.Proofs.S1
end
