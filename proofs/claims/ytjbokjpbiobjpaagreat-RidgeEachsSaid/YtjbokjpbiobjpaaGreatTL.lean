/- A verified evaluator of the program's form and its use for this seat: S1PTri, S1EqFew, S1PSol, S1EqQr, S1PQr, S1PQrA, S1EqRef17, S1PRef17, S1EqRef14, S1PRef13, S1PRef14, S1EqLow, S1PLow, S1EqLse, S1PLse, S1POfS, S1EqRef20. -/
import Derived.Test.YtjbokjpbiobjpaaGreatTI
import Derived.Test.YtjbokjpbiobjpaaGreatTK
import Derived.Test.YtjbokjpbiobjpaaGreatTF
import Derived.Test.YtjbokjpbiobjpaaGreatTE
import Derived.Test.YtjbokjpbiobjpaaGreatTJ
set_option linter.unusedVariables false
set_option linter.unusedSimpArgs false
noncomputable section
namespace Go.Proofs.S1
open Go Go.Den Go.Rnd Go.Proofs
open EqSol
theorem solve.Es.known:solve.Es.Kn:=solve.Es.Ac .nil fun i k _=>by
  refine ⟨0,solve.Es.out [.i i,.i k],[],?_,.bool⟩
  rw [solve.Es.ev,As]; rfl
theorem Ang.known:Gn.Gm.up.Kn:=Gn.Gm.up.Ac .nil fun n k hp=>by
  have hp:=Aq.1 (show Cz (0≤k∧k<n∧n≤10)=true from hp)
  refine ⟨0,Gn.Gm.up.out [.i n,.i k],[],?_,.int⟩
  rw [Gn.Gm.up.ev,Al (x:=n-1) (by omega) (by omega),Al (by omega) (by omega)]; rfl
theorem Aa.of.Bf.own.known:Aa.of.Bf.own.Kn:=Aa.of.Bf.own.Ac (.cons Aa.Ei.known .nil) fun a b hp=>by
  have h1:(Bg a&&Bg b)=true:=hp
  obtain ⟨ha,hb⟩:=Ad.1 h1
  obtain ⟨A,rfl,hA⟩:=Em ha
  obtain ⟨B,rfl,hB⟩:=Em hb
  refine ⟨8,.agg [.int .i64 (A:Int),.int .i64 (B:Int),.ints (.own 108002 tB) .u64 (B7 A B fun (i j:Nat)=>(0:Int))],[],?_,Wk.G8 (.cons .int (.cons .int (.cons (.keep _ _ _ _ List.not_mem_nil) .nil)))⟩
  have n:=of.Bf.outer 8 hA hB (by omega) (F:=fun (i j:Nat)=>(0:Int)) (fun _ _=>rfl) A 0 8 (by omega) (by omega)
  rw [K0] at n
  exact (EqOf.Aa.of.Bf.ev 8 (A:Int) (B:Int)).trans n
theorem Aa.Bf.own.known:Aa.Bf.own.Kn:=Aa.Bf.own.Ac (.cons Aa.of.Bf.own.known (.cons Aa.size.known .nil)) fun a b hp=>by
  have hp:(Bg a&&Bg b)=true:=hp
  obtain ⟨ha,hb⟩:=Ad.1 hp
  refine ⟨0,Aa.Bf.own.out [.i a,.i b],[],?_,?_⟩
  · rw [Aa.Bf.own.ev,ha,hb]; rfl
  · exact Wk.Gp (.cons (Wk.G8 (.cons .int (.cons .int (.cons (.keep _ _ _ _ List.not_mem_nil) .nil)))) (.cons .int .nil))
section
variable {n Q:Nat} {l m:List Int}
def upF (n Q:Nat) (l m:List Int) (i j:Nat):Int:=(upL (n:Int) l (fun i=>D9 (Q:Int) m (i:Int) (j:Int)) n n).getD i 0
def upD (n j k a b:Nat):Bool:=decide (b<j∨(b=j∧n-k≤a))
def R6 (n Q:Nat) (l m:List Int) (j k:Nat):List Int:=B7 n Q fun a b=>if upD n j k a b=true then upF n Q l m a b else 0
theorem Agp (i j:Nat):Af (upF n Q l m i j)=true:=Xj (Ago _ _ _ _ _) i
theorem Amh (j k:Nat):Ah (R6 n Q l m j k)=true:=Gh fun a b=>by
  split
  · exact Agp _ _
  · exact Cb (n:=0) (by decide)
theorem Aij {j k t:Nat} (ht:t<n) (hj:j<Q) (hk:n-k≤t):D9 (Q:Int) (R6 n Q l m j k) (t:Int) (j:Int)=upF n Q l m t j:=by
  unfold R6
  have hd:upD n j k t j=true:=Ayt (.inr ⟨rfl,hk⟩)
  rw [Ari ht hj,hd,if_pos rfl]
theorem Tr (j k:Nat):(R6 n Q l m j k).length=n*Q:=Ca _ _ _
theorem Amg (N:Nat) (n6:n≤6) (q6:Q≤6) (hl:l.length=n*n) (al:Ah l=true) {i j k:Nat} (hi:i+k+1=n) (hj:j<Q) (M0 M1:Nat) (p29 p33:Int) :
    ∀ (cnt t F:Nat) (s:Int),t+cnt=n→cnt<F→i+1≤t→Af s=true →
    solve.Bx.Up.L2 N M0 M1 F (n:Int) (n:Int) l (n:Int) (Q:Int) m (n:Int) s (t:Int) (j:Int) (i:Int) p29 p33 (R6 n Q l m j k) =
    solve.Bx.Up.L1 N M0 M1 (n:Int) (n:Int) l (n:Int) (Q:Int) m (n:Int) (Ab (p33+(1:Int))) (List.set (R6 n Q l m j k) (Int.toNat ((i:Int)*(Q:Int)+(j:Int))) (Fc (Qq (n:Int) l (i:Int) s (t:Int) ((upL (n:Int) l (fun i=>D9 (Q:Int) m (i:Int) (j:Int)) n n).drop t)) (D9 (n:Int) l (i:Int) (i:Int)))) (j:Int) p29:=by
  intro cnt
  induction cnt with
  | zero =>
    intro t F s ht hF hit hs
    obtain ⟨F,rfl⟩:∃ G,F=G+1:=⟨F-1,by omega⟩
    obtain ⟨e1,g1,g2⟩:=K8 (R:=(n:Int)) (Du n6 n6 hl (show i<n by omega) (show i<n by omega))
    obtain ⟨e2,g3,g4⟩:=K8 (R:=(n:Int)) (Du n6 q6 (Tr (l:=l) (m:=m) j k) (show i<n by omega) hj)
    rw [Ay6 (by rw [Mu]; omega),Qq]
    rw [solve.Bx.Up.Hq,As,Ayx (show ¬ (t:Int)<(n:Int) by omega),Ayw,e1,Ayt g1,Ayt g2,Ayy,Ays,hs,show Af (List.getD l (Int.toNat ((i:Int)*(n:Int)+(i:Int))) 0)=true from G7 (c:=(n:Int)) al,Ayy,Ays,
      e2,Ayt g3,Ayt g4,Ayy,Ays,Ayt (show Int.toNat ((i:Int)*(Q:Int)+(j:Int))<(R6 n Q l m j k).length by omega),Ays]
    rfl
  | succ cnt ih =>
    intro t F s ht hF hit hs
    obtain ⟨F,rfl⟩:∃ G,F=G+1:=⟨F-1,by omega⟩
    obtain ⟨e1,g1,g2⟩:=K8 (R:=(n:Int)) (Du n6 n6 hl (show i<n by omega) (show t<n by omega))
    obtain ⟨e2,g3,g4⟩:=K8 (R:=(n:Int)) (Du n6 q6 (Tr (l:=l) (m:=m) j k) (show t<n by omega) hj)
    have hx:List.getD (R6 n Q l m j k) (Int.toNat ((t:Int)*(Q:Int)+(j:Int))) 0=upF n Q l m t j:=Aij (by omega) hj (by omega)
    rw [solve.Bx.Up.Hq,As,Ayt (show (t:Int)<(n:Int) by omega),Ays,Ayt (show (i:Int)<(t:Int) by omega),Ays,e1,Ayt g1,Ayt g2,Ayy,Ays,
      e2,Ayt g3,Ayt g4,Ayy,Ays,Ayt (show Int.toNat ((t:Int)*(Q:Int)+(j:Int))<(R6 n Q l m j k).length by omega),Ays,hx,
      show Af (List.getD l (Int.toNat ((i:Int)*(n:Int)+(t:Int))) 0)=true from G7 (c:=(n:Int)) al,Agp,Ayy,Ays,hs,Jn,Ayy,Ays,Al (x:=(t:Int)+1) (by omega) (by omega)]
    have:=ih (t+1) F (Ew s (D3 (D9 (n:Int) l (i:Int) (t:Int)) (upF n Q l m t j))) (by omega) (by omega) (by omega) (N3 hs (Jn _ _))
    rw [Abg (by rw [Mu]; omega)]
    exact this
theorem Ap0 (N:Nat) (n6:n≤6) {i j k:Nat} (hi:i<n) (M0 M1:Nat) (p29 p33 s:Int):∀ (cnt t F:Nat),t+cnt=i+1 →
    solve.Bx.Up.L2 N M0 M1 (F+cnt) (n:Int) (n:Int) l (n:Int) (Q:Int) m (n:Int) s (t:Int) (j:Int) (i:Int) p29 p33 (R6 n Q l m j k) =
    solve.Bx.Up.L2 N M0 M1 F (n:Int) (n:Int) l (n:Int) (Q:Int) m (n:Int) s ((i+1:Nat):Int) (j:Int) (i:Int) p29 p33 (R6 n Q l m j k):=by
  intro cnt
  induction cnt with
  | zero =>
    intro t F ht
    obtain rfl:t=i+1:=by omega
    rfl
  | succ cnt ih =>
    intro t F ht
    rw [← Nat.add_assoc,solve.Bx.Up.Hq,As,Ayt (show (t:Int)<(n:Int) by omega),Ays,Ayx (show ¬ (i:Int)<(t:Int) by omega),Ayw,Al (by omega) (by omega)]
    exact ih (t+1) F (by omega)
theorem Aii {i j k:Nat} (hi:i+k+1=n) (hj:j<Q) {x:Int} (hx:x=upF n Q l m i j):List.set (R6 n Q l m j k) (Int.toNat ((i:Int)*(Q:Int)+(j:Int))) x=R6 n Q l m j (k+1):=by
  refine Af4 hj hx fun a b ha hb=>?_
  unfold upD
  rw [Ayz,Ayz]
  omega
theorem Ap1 (N:Nat) (n6:n≤6) (q6:Q≤6) (hN:7<N) (hl:l.length=n*n) (hm:m.length=n*Q) (al:Ah l=true) (am:Ah m=true) {j:Nat} (hj:j<Q) (M0:Nat):∀ (cnt k F:Nat),k+cnt=n→cnt<F →
    solve.Bx.Up.L1 N M0 F (n:Int) (n:Int) l (n:Int) (Q:Int) m (n:Int) (k:Int) (R6 n Q l m j k) (j:Int) (j:Int) =
    solve.Bx.Up.L0 N M0 (n:Int) (n:Int) l (n:Int) (Q:Int) m (n:Int) ((j+1:Nat):Int) (R6 n Q l m j n):=by
  intro cnt
  induction cnt with
  | zero =>
    intro k F hk hF
    obtain ⟨F,rfl⟩:∃ G,F=G+1:=⟨F-1,by omega⟩
    obtain rfl:k=n:=by omega
    rw [solve.Bx.Up.B9,As,Ayx (by omega),Ayw,Al (by omega) (by omega)]
    rfl
  | succ cnt ih =>
    intro k F hk hF
    obtain ⟨F,rfl⟩:∃ G,F=G+1:=⟨F-1,by omega⟩
    obtain ⟨i,hi⟩:∃ i:Nat,i+k+1=n:=⟨n-k-1,by omega⟩
    have ei:(n:Int)-1-(k:Int)=(i:Int):=by omega
    obtain ⟨e2,g3,g4⟩:=K8 (R:=(n:Int)) (Du n6 q6 hm (show i<n by omega) hj)
    rw [solve.Bx.Up.B9,As,Ayt (show (k:Int)<(n:Int) by omega),Ays,Aq.2 (show 0≤(k:Int)∧(k:Int)<(n:Int)∧(n:Int)≤10 by omega),Ays,ei,e2,Ayt g3,Ayt g4,Ayy,Ays]
    obtain ⟨G,rfl⟩:∃ G,N=G+(i+1):=⟨N-(i+1),by omega⟩
    have hs:=Ap0 (n:=n) (Q:=Q) (l:=l) (m:=m) (G+(i+1)) n6 (i:=i) (j:=j) (k:=k) (by omega) M0 F (j:Int) (k:Int) (D9 (Q:Int) m (i:Int) (j:Int)) (i+1) 0 G (by omega)
    have hr:=Amg (n:=n) (Q:=Q) (l:=l) (m:=m) (G+(i+1)) n6 q6 hl al hi hj M0 F (j:Int) (k:Int) (n-(i+1)) (i+1) G (D9 (Q:Int) m (i:Int) (j:Int)) (by omega) (by omega) (by omega) (G7 (c:=(Q:Int)) am)
    rw [Aii hi hj (Ail (show i<n by omega)).symm,Al (by omega) (by omega)] at hr
    exact (hs.trans hr).trans (ih (k+1) F (by omega) (by omega))
theorem Ad1 (j:Nat):R6 n Q l m j n=R6 n Q l m (j+1) 0:=by
  unfold R6
  refine D7 fun a b ha hb=>?_
  have:upD n j n a b=upD n (j+1) 0 a b:=by
    unfold upD
    rw [decide_eq_decide]
    omega
  rw [this]
theorem Ad0:R6 n Q l m 0 0=B7 n Q fun _ _=>0:=by
  unfold R6
  refine D7 fun a b ha hb=>?_
  have:upD n 0 0 a b=false:=Ayx (by omega)
  rw [this]; rfl
theorem Aik:R6 n Q l m Q 0=upG (n:Int) l (Q:Int) m n Q:=by
  unfold R6 upG
  refine D7 fun a b ha hb=>?_
  have:upD n Q 0 a b=true:=Ayt (.inl hb)
  rw [this]; rfl
theorem Ap2 (N:Nat) (n6:n≤6) (q6:Q≤6) (hN:7<N) (hl:l.length=n*n) (hm:m.length=n*Q) (al:Ah l=true) (am:Ah m=true):∀ (cnt j F:Nat),j+cnt=Q→cnt<F →
    solve.Bx.Up.L0 N F (n:Int) (n:Int) l (n:Int) (Q:Int) m (n:Int) (j:Int) (R6 n Q l m j 0) =
    bif Df (R6 n Q l m Q 0) then some (.tup [.agg [.int .i64 (n:Int),.int .i64 (Q:Int),.ints (.own 112002 tB) .u64 (R6 n Q l m Q 0)],.int .i64 (0:Int)]) else some (Akx 2):=by
  intro cnt
  induction cnt with
  | zero =>
    intro j F hj hF
    obtain ⟨F,rfl⟩:∃ G,F=G+1:=⟨F-1,by omega⟩
    obtain rfl:j=Q:=by omega
    have h36:=Nat.mul_le_mul n6 q6
    rw [solve.Bx.Up.Ar,As,Ayx (by omega),Ayw,Jb (Amh _ _) (by rw [Tr]; omega),Ays]
    cases Df (R6 n j l m j 0)<;>rfl
  | succ cnt ih =>
    intro j F hj hF
    obtain ⟨F,rfl⟩:∃ G,F=G+1:=⟨F-1,by omega⟩
    have hr:=Ap1 N n6 q6 hN hl hm al am (show j<Q by omega) F n 0 N (by omega) (by omega)
    rw [Ad1] at hr
    rw [solve.Bx.Up.Ar,As,Ayt (show (j:Int)<(Q:Int) by omega),Ays]
    exact hr.trans (ih (j+1) F (by omega) (by omega))
end
theorem solve.Bx.Up.known:solve.Bx.Up.Kn:=solve.Bx.Up.Ac (.cons Ang.known (.cons Aa.Bf.own.known (.cons solve.Es.known (.cons Ae.Div.known (.cons Ae.Finite.known (.cons Ae.Mul.known (.cons Ae.Sub.known .nil))))))) fun r c l p q m n hp=>by
  show ∃ N dv drops,_=some dv∧Wk drops dv (Sx (Kj r q (upG c l q m (Int.toNat r) (Int.toNat q))))
  obtain ⟨h1,hn⟩:=Ad.1 (show (Aca r c l p q m&&decide (n=r))=true from hp)
  obtain ⟨h2,h3⟩:=Ad.1 h1
  obtain ⟨hr,hm⟩:=Ad.1 h2
  obtain ⟨h4,h5⟩:=Ad.1 h3
  obtain ⟨al,am⟩:=Ad.1 h4
  obtain ⟨rfl,rfl⟩:=Aq.1 h5
  obtain rfl:=of_decide_eq_true hn
  have s1:=(Ip hr).1
  have s2:=(Ip hm).2
  obtain ⟨R,C,rfl,hC,r6,c6,hl⟩:=Ce hr
  obtain ⟨P,Q,hP,rfl,p6,q6,hl2⟩:=Ce hm
  obtain rfl:R=C:=by omega
  obtain rfl:R=P:=by omega
  have h:=Ap2 (n:=R) (Q:=Q) (l:=l) (m:=m) 8 r6 q6 (by omega) hl hl2 al am Q 0 8 (by omega) (by omega)
  rw [Ad0,Aik,show ((0:Nat):Int)=0 from rfl] at h
  rw [Ayu,Ayu]
  unfold Kj
  cases hf:Df (upG (R:Int) l (Q:Int) m R Q) with
  | true =>
    rw [hf,Ays] at h
    rw [if_pos rfl]
    refine ⟨8,.tup [.agg [.int .i64 (R:Int),.int .i64 (Q:Int),.ints (.own 112002 tB) .u64 (upG (R:Int) l (Q:Int) m R Q)],.int .i64 0],[112002],?_,Wk.Gp (.cons (Xq (List.mem_singleton.2 rfl)) (.cons .int .nil))⟩
    rw [solve.Bx.Up.ev,s1,s2,Ayy,Ays,Ayu,Ayu]
    exact h
  | false =>
    rw [hf,Ayw] at h
    rw [if_neg (by decide)]
    refine ⟨8,Akx 2,[],?_,J0⟩
    rw [solve.Bx.Up.ev,s1,s2,Ayy,Ays,Ayu,Ayu]
    exact h
set_option maxRecDepth 100000
namespace EqFew
def qr.Fx.A6:List (Nat × Entry):=[(123,Aa.Mul.spec),(167,Aa.Cs.spec)]
def qr.Fx.E:Env:=A9 (A5 qr.Fx.A6) (fun _=>false) (fun _=>none) (fun _=>none)
theorem qr.Fx.ev (N:Nat) (r c:Int) (l:List Int) (p q:Int) (m:List Int):Bq qr.Fx.E N Tryz.f98 (An Tryz.f98) [.agg [.int .i64 r,.int .i64 c,.ints .arg .u64 l],.agg [.int .i64 p,.int .i64 q,.ints .arg .u64 m]]=bif (((Fq r c l).2.2.2) !=(0:Int)) then some (.tup [.agg [.int .i64 0,.int .i64 0,.nil],.int .i64 ((Fq r c l).2.2.2)]) else bif (Ah ((Fq r c l).2.2.1)&&Ah m) then some (.tup [.agg [.int .i64 ((Sa ((Fq r c l).1) ((Fq r c l).2.1) ((Fq r c l).2.2.1) p q m).1),.int .i64 ((Sa ((Fq r c l).1) ((Fq r c l).2.1) ((Fq r c l).2.2.1) p q m).2.1),.ints .fresh .u64 ((Sa ((Fq r c l).1) ((Fq r c l).2.1) ((Fq r c l).2.2.1) p q m).2.2.1)],.int .i64 ((Sa ((Fq r c l).1) ((Fq r c l).2.1) ((Fq r c l).2.2.1) p q m).2.2.2)]) else none:=by kernel_rfl
abbrev _root_.Go.Proofs.S1.qr.Fx.Kn:=A3 Tryz.prog 98 qr.Fx.spec
theorem qr.Fx.Ac (hk:Ax Tryz.prog qr.Fx.A6) (h:∀ (r c:Int) (l:List Int) (p q:Int) (m:List Int),qr.Fx.pre [.i r,.i c,.l l,.i p,.i q,.l m]=true→A8 qr.Fx.E Tryz.f98 [.agg [.int .i64 r,.int .i64 c,.ints .arg .u64 l],.agg [.int .i64 p,.int .i64 q,.ints .arg .u64 m]] (qr.Fx.out [.i r,.i c,.l l,.i p,.i q,.l m])):qr.Fx.Kn :=
  Ak (Az hk _ _ _) Tryz.func98 (by kernel_rfl) (by kernel_rfl) h
end EqFew
open EqSol EqFew
theorem Yg {n i:Nat} (h:i<n):(List.range n).drop i=i::(List.range n).drop (i+1):=by
  rw [List.drop_eq_getElem_cons (by rw [List.length_range]; exact h),List.getElem_range]
theorem D8 {r c:Int} {l:List Int} (h:Cg r c l=0):A0 r c l=true∧Df l=true:=by
  unfold Cg at h
  by_cases h1:A0 r c l=true
  · rw [if_pos h1] at h
    by_cases h2:Df l=true
    · exact ⟨h1,h2⟩
    · rw [if_neg h2] at h; exact absurd h (by decide)
  · rw [if_neg h1] at h; exact absurd h (by decide)
theorem Ape {r c:Int} {l:List Int} (h1:A0 r c l=true) (h2:Df l=true):Cg r c l=0:=by unfold Cg; rw [if_pos h1,if_pos h2]
theorem To {x:Int} (h:x≠0):(x !=(0:Int))=true:=by simpa using h
theorem Gc {x:Int} (h:x=0):(x !=(0:Int))=false:=by rw [h]; rfl
theorem Ah6 (N:Nat) {n:Nat} {l:List Int} (n6:n≤6) (hl:l.length=n*n) (al:Ah l=true):∀ (cnt i F:Nat),i+cnt=n→cnt<F →
    solve.check.L0 (N+4) F (n:Int) (n:Int) l (i:Int)=some (.int .i64 (if ((List.range n).drop i).any (fun i:Nat=>decide (Bd (D9 (n:Int) l (i:Int) (i:Int))=0))=true then 5 else 0)):=by
  intro cnt
  induction cnt with
  | zero =>
    intro i F hi hF
    obtain ⟨F,rfl⟩:∃ G,F=G+1:=⟨F-1,by omega⟩
    rw [solve.check.Ar,As,Ayx (by omega),Ayw,Ay6 (by rw [List.length_range]; omega)]; rfl
  | succ cnt ih =>
    intro i F hi hF
    obtain ⟨F,rfl⟩:∃ G,F=G+1:=⟨F-1,by omega⟩
    obtain ⟨e1,g1,g2⟩:=K8 (R:=(n:Int)) (Du n6 n6 hl (show i<n by omega) (show i<n by omega))
    have hx:List.getD l (Int.toNat ((i:Int)*(n:Int)+(i:Int))) 0=D9 (n:Int) l (i:Int) (i:Int):=rfl
    rw [solve.check.Ar,As,Ayt (show (i:Int)<(n:Int) by omega),Ays,e1,Ayt g1,Ayt g2,Ayy,Ays,hx,G7 al,Ays,Yg (by omega),List.any_cons]
    by_cases hk:Bd (D9 (n:Int) l (i:Int) (i:Int))=0
    · have e:(Bd (D9 (n:Int) l (i:Int) (i:Int))==(0:Int))=true:=by rw [hk]; rfl
      rw [e,Ays,Ayt hk]; rfl
    · have e:(Bd (D9 (n:Int) l (i:Int) (i:Int))==(0:Int))=false:=by simpa using hk
      rw [e,Ayw,Ayx hk,Bool.false_or,Al (by omega) (by omega)]
      exact ih (i+1) F (by omega) (by omega)
theorem Asi {r c p:Int}:((r !=c)||(r !=p))=decide (r≠c∨r≠p):=by
  rw [Ay8]; simp
theorem solve.check.known:solve.check.Kn:=solve.check.Ac (.cons Cy.Check.known (.cons soft.Kind.known .nil)) fun r c l p q m hp=>by
  obtain ⟨al,am⟩:=Ad.1 (show (Ah l&&Ah m)=true from hp)
  refine ⟨14,solve.check.out [.i r,.i c,.l l,.i p,.i q,.l m],[],?_,.int⟩
  show _=some (DV.int .i64 (N9 r c l p q m))
  rw [show (14:Nat)=10+4 from rfl,solve.check.ev,al,Ays,am,Ays,Asi]
  unfold N9
  by_cases h1:Cg r c l=0
  · rw [Gc h1,Ayw,if_neg (by rw [h1]; decide)]
    by_cases h2:Cg p q m=0
    · rw [Gc h2,Ayw,if_neg (by rw [h2]; decide)]
      by_cases h3:r≠c∨r≠p
      · rw [Ayt h3,Ays,if_pos h3]
      · rw [Ayx h3,Ayw,if_neg h3]
        obtain rfl:r=c:=Decidable.byContradiction fun h=>h3 (.inl h)
        obtain ⟨R,C,rfl,hC,r6,c6,hl⟩:=Ce (D8 h1).1
        obtain rfl:R=C:=by omega
        rw [Ayu]
        exact Ah6 10 r6 hl al R 0 14 (by omega) (by omega)
    · rw [To h2,Ays,if_pos h2]
  · rw [To h1,Ays,if_pos h1]
theorem O7 {r c:Int} {l:List Int} {p q:Int} {m:List Int} (h:N9 r c l p q m=0):A0 r c l=true∧A0 p q m=true∧r=c∧r=p:=by
  unfold N9 at h
  by_cases h1:Cg r c l=0
  · rw [if_neg (by rw [h1]; decide)] at h
    by_cases h2:Cg p q m=0
    · rw [if_neg (by rw [h2]; decide)] at h
      by_cases h3:r≠c∨r≠p
      · rw [if_pos h3] at h; exact absurd h (by decide)
      · exact ⟨(D8 h1).1,(D8 h2).1,Decidable.byContradiction fun h=>h3 (.inl h),Decidable.byContradiction fun h=>h3 (.inr h)⟩
    · rw [if_pos h2] at h; exact absurd h h2
  · rw [if_pos h1] at h; exact absurd h h1
theorem solve.Cq.known:solve.Cq.Kn:=solve.Cq.Ac (.cons solve.check.known (.cons solve.Bx.Up.known .nil)) fun r c l p q m hp=>by
  have hp:(Ah l&&Ah m)=true:=hp
  show ∃ N dv drops,_=some dv∧Wk drops dv (Sx (Tq r c l p q m))
  unfold Tq
  by_cases h:N9 r c l p q m=0
  · obtain ⟨h1,h2,h3,h4⟩:=O7 h
    have ht:Aca r c l p q m=true:=Ad.2 ⟨Ad.2 ⟨h1,h2⟩,Ad.2 ⟨hp,Aq.2 ⟨h3,h4⟩⟩⟩
    rw [if_neg (by rw [h]; decide)]
    exact ⟨0,_,[],by rw [solve.Cq.ev,hp,Ays,Gc h,Ayw,ht,Ayt rfl]; rfl,N0⟩
  · rw [if_pos h]
    exact ⟨0,_,[],by rw [solve.Cq.ev,hp,Ays,To h,Ays]; rfl,J0⟩
theorem Amy {b:Nat} {n:Int} (h:b<2^64):(Gl b n).1<2^64:=by
  unfold Gl
  by_cases h4:Am b=4
  · rw [if_pos h4]; exact (by decide:P8<2^64)
  rw [if_neg h4]
  by_cases h3:Am b=3∨Am b=0
  · rw [if_pos h3]; exact h
  rw [if_neg h3]
  exact Tx _ _ _
theorem Hu {b n:Int} (h:Af b=true):Af (By b n)=true:=by
  obtain ⟨x,rfl,hx⟩:=Bm h
  exact Cb (Amy (by rw [Ayu]; exact hx))
theorem Zx:∀ (l:List Int) (m:Nat),m<2^64→Zy l m<2^64
  | [],m,h=>h
  | x::l,m,h=>by
    unfold Zy
    split
    · exact (by decide:P8<2^64)
    · have h2:G9 x.toNat<2^63:=Ab3 x.toNat
      exact Zx l _ (by omega)
theorem Oa (l:List Int):Af (Be l)=true:=Cb (Zx l 0 (by decide))
theorem S7 (x:Int):Af (Je x)=true:=Cb (Nat.lt_trans (Ab3 x.toNat) (by decide))
theorem Ali (N:Nat) {d:List Int} (hd:Cl d=true) (h7:d.length≤1000):∀ (cnt i F:Nat),i+cnt=d.length→cnt<F →
    solve.Flat.L1 N F d (i:Int)=some (.tup [.bool ((d.drop i).any fun x=>!(decide (Sy (By (Be d) (-40)) x<0))),.int .i64 0]):=by
  obtain ⟨_,hu⟩:=H6 hd
  intro cnt
  induction cnt with
  | zero =>
    intro i F hi hF
    obtain ⟨F,rfl⟩:∃ G,F=G+1:=⟨F-1,by omega⟩
    rw [solve.Flat.B9,As,Ayx (by omega),Ayw,Ay6 (by omega)]; rfl
  | succ cnt ih =>
    intro i F hi hF
    obtain ⟨F,rfl⟩:∃ G,F=G+1:=⟨F-1,by omega⟩
    rw [solve.Flat.B9,As,Ayt (show (i:Int)<(d.length:Int) by omega),Ays,Ayt (show (0:Int)≤(i:Int) by omega),Ayy,Ays,Ayu,Ayt (show i<d.length by omega),Ays,
      Hu (Oa d),hu i (by omega),Ayy,Ays,G5 (by omega),List.any_cons]
    cases decide (Sy (By (Be d) (-40)) (d.getD i 0)<0) with
    | false=>rfl
    | true =>
      rw [Bool.not_true,Ayw,Bool.false_or,Al (by omega) (by omega)]
      exact ih (i+1) F (by omega) (by omega)
theorem Ars (c:Int) (l:List Int) (n:Nat):Ah (Km c l n)=true:=Aq.2 fun x hx=>by
  obtain ⟨j,_,rfl⟩:=List.mem_map.1 hx
  exact S7 _
theorem Iw (c:Int) (l:List Int) (n:Nat):(Km c l n).length=n:=by unfold Km; rw [List.length_map,List.length_range]
theorem Alj (N:Nat) {R C:Nat} {l:List Int} (r6:R≤6) (c6:C≤6) (hN:7<N) (hl:l.length=R*C) (al:Ah l=true):∀ (cnt i F:Nat),i+cnt=min R C→cnt<F →
    solve.Flat.L0 N F (R:Int) (C:Int) l (i:Int) (Km (C:Int) l i)=some (.tup [.bool (Aor (Km (C:Int) l (min R C))),.int .i64 0]):=by
  intro cnt
  induction cnt with
  | zero =>
    intro i F hi hF
    obtain ⟨F,rfl⟩:∃ G,F=G+1:=⟨F-1,by omega⟩
    obtain rfl:i=min R C:=by omega
    have hlt:(A4 (((min R C:Nat)):Int) (R:Int)&&A4 (((min R C:Nat)):Int) (C:Int))=false:=by
      rw [As,As,Bool.and_eq_false_iff,Azb,Azb]; omega
    have ok:=Jb (Ars (C:Int) l (min R C)) (by rw [Iw]; omega)
    have sp:Dh (Be (Km (C:Int) l (min R C))) (-40:Int)=true:=Ad.2 ⟨Oa _,Aq.2 (by omega)⟩
    rw [solve.Flat.Ar,hlt,Ayw,ok,Ays,sp,Ays]
    exact Ali N ok (by rw [Iw]; omega) (min R C) 0 N (by rw [Iw]; omega) (by omega)
  | succ cnt ih =>
    intro i F hi hF
    obtain ⟨F,rfl⟩:∃ G,F=G+1:=⟨F-1,by omega⟩
    obtain ⟨e1,g1,g2⟩:=K8 (R:=(R:Int)) (Du r6 c6 hl (show i<R by omega) (show i<C by omega))
    have hx:List.getD l (Int.toNat ((i:Int)*(C:Int)+(i:Int))) 0=D9 (C:Int) l (i:Int) (i:Int):=rfl
    rw [solve.Flat.Ar,As,As,Ayt (show (i:Int)<(R:Int) by omega),Ayt (show (i:Int)<(C:Int) by omega),Ayy,Ays,e1,Ayt g1,Ayt g2,Ayy,Ays,hx,G7 al,Ays,
      Iw,Ayt (show i+1≤Gt by unfold Gt; omega),Ays,Al (by omega) (by omega)]
    have:=ih (i+1) F (by omega) (by omega)
    unfold Km at this ⊢
    rw [G1] at this
    exact this
theorem solve.Flat.known:solve.Flat.Kn:=solve.Flat.Ac (.cons Cy.Check.known (.cons compare.Hr.known (.cons compare.Ml.known (.cons Ae.Bo.known (.cons Ae.Bs.known .nil))))) fun r c l hp=>by
  have hp:Ah l=true:=hp
  refine ⟨8,solve.Flat.out [.i r,.i c,.l l],[],?_,Wk.Gp (.cons .bool (.cons .int .nil))⟩
  show _=some (DV.tup [.bool (O2 r c l).1,.int .i64 (O2 r c l).2])
  rw [solve.Flat.ev,hp,Ays]
  unfold O2 Qx
  by_cases h1:Cg r c l=0
  · obtain ⟨R,C,rfl,rfl,r6,c6,hl⟩:=Ce (D8 h1).1
    rw [Gc h1,Ayw,if_neg (by rw [h1]; decide),Ayu,Ayu]
    exact Alj 8 r6 c6 (by omega) hl hp (min R C) 0 8 (by omega) (by omega)
  · rw [To h1,Ays,if_pos h1]
theorem Ai1 {r c:Int} {l:List Int} (al:Ah l=true) (x y a b:Int):Ah (Iq r c l x y a b).2.2.1=true:=by
  unfold Iq
  split
  · split
    · dsimp only
      exact Gh fun i k=>G7 al
    · exact Aq.2 fun x h=>by cases h
  · exact Aq.2 fun x h=>by cases h
theorem Ap4 {r c:Int} {l:List Int} (al:Ah l=true):Ah (Fq r c l).2.2.1=true:=by
  unfold Fq
  split
  · dsimp only
    exact Gh fun i k=>G7 al
  · exact Aq.2 fun x h=>by cases h
theorem Rx (x y:List Int):Af (Jg x y)=true:=Cb (Ade x y 0 (by decide))
theorem Aq1 (r c:Int) (l:List Int) (p q:Int) (m:List Int):Ah (Sa r c l p q m).2.2.1=true:=by
  unfold Sa
  split
  · split
    · dsimp only
      exact Gh fun i k=>Rx _ _
    · exact Aq.2 fun x h=>by cases h
  · exact Aq.2 fun x h=>by cases h
theorem Ajz (r c:Int) (l:List Int) (p q:Int) (m:List Int):Ah (Dv r c l p q m).2.2.1=true:=by
  unfold Dv
  split
  · exact Aq.2 fun x h=>by cases h
  · exact Aq1 _ _ _ _ _ _
theorem qr.Fx.known:qr.Fx.Kn:=qr.Fx.Ac (.cons Aa.Mul.known (.cons Aa.Cs.known .nil)) fun r c l p q m hp=>by
  obtain ⟨al,am⟩:=Ad.1 (show (Ah l&&Ah m)=true from hp)
  show ∃ N dv drops,_=some dv∧Wk drops dv (Sx (Dv r c l p q m))
  unfold Dv
  by_cases h:(Fq r c l).2.2.2=0
  · rw [if_neg (by rw [h]; decide)]
    exact ⟨0,_,[],by rw [qr.Fx.ev,Gc h,Ayw,Ap4 al,am]; rfl,N0⟩
  · rw [if_pos h]
    exact ⟨0,_,[],by rw [qr.Fx.ev,To h,Ays]; rfl,J0⟩
namespace EqQr
def qr.down.hint:Nat→Option Ba
  | 0=>some { keep:=[1,2,5,6,7],objs:=[(0,6,100006,.recs 214 2 []),(6,2,106002,.ints 37 .u64 [])],boxes:=[1,2,5] }
  | 2=>some { keep:=[1,2,5,6,7,8,9,12],objs:=[(6,2,106002,.ints 37 .u64 []),(0,6,100006,.recs 214 2 [])],boxes:=[1,2,5] }
  | _=>none
def qr.down.A6:List (Nat × Entry):=[(219,Au.Apply.spec),(245,Au.Dq.spec),(191,Aa.D1.spec)]
def qr.down.E:Env:=A9 (A5 qr.down.A6) (fun n=>Nat.beq n 46) qr.down.hint (fun _=>none)
def qr.down.L0 (N M0 M:Nat) (r c:Int) (l:List Int) (p12_1:Int) (p2_1:List Int) (p7_1:Int) (p8:List Int) (p9:Int) (p6_1:List (List DV)):Option DV:=B0 qr.down.E N Tryz.f217 (An Tryz.f217) [1,1,1,0,1,0,0,1,0,0,1,1,1,1,0,1,0] [M0] M ⟨Gj 88 [(1,.ptr 1 0 0),(2,.ptr 2 0 0),(5,.ptr 5 0 0),(6,.oref 100006),(7,.int .i64 p7_1),(8,.ints .fresh .u64 p8),(9,.int .u64 p9),(12,.int .i64 p12_1)],[(1,false,.box [.int .i64 r,.int .i64 c,.ints .arg .u64 l]),(2,false,.box [.int .i64 0,.int .i64 0,.nil]),(5,false,.box [.int .i64 r,.int .i64 c,.oref 106002]),(106002,false,.ints 37 .u64 p2_1),(100006,false,.recs 214 2 p6_1)]⟩
def qr.down.L1 (N M:Nat) (r c:Int) (l:List Int) (p7:Int) (p6:List (List DV)) (p2_2:List Int):Option DV:=B0 qr.down.E N Tryz.f217 (An Tryz.f217) [1,1,1,0,1,0] [] M ⟨Gj 88 [(1,.ptr 1 0 0),(2,.ptr 2 0 0),(5,.ptr 5 0 0),(6,.oref 100006),(7,.int .i64 p7)],[(1,false,.box [.int .i64 r,.int .i64 c,.ints .arg .u64 l]),(2,false,.box [.int .i64 0,.int .i64 0,.nil]),(5,false,.box [.int .i64 r,.int .i64 c,.oref 106002]),(100006,false,.recs 214 2 p6),(106002,false,.ints 37 .u64 p2_2)]⟩
def qr.down.L2 (N M:Nat) (r c:Int) (l:List Int):Option DV:=B0 qr.down.E N Tryz.f217 (An Tryz.f217) [1,1,1,0,1,0] [] M ⟨Gj 88 [(1,.ptr 1 0 0),(2,.ptr 2 0 0),(5,.ptr 5 0 0),(6,.oref 100006),(7,.int .i64 0)],[(1,false,.box [.int .i64 r,.int .i64 c,.ints .arg .u64 l]),(2,false,.box [.int .i64 0,.int .i64 0,.nil]),(5,false,.box [.int .i64 r,.int .i64 c,.ints .arg .u64 l]),(100006,false,.recs 214 2 [])]⟩
theorem qr.down.Ar (N M0 M:Nat) (r c:Int) (l:List Int) (p12_1:Int) (p2_1:List Int) (p7_1:Int) (p8:List Int) (p9:Int) (p6_1:List (List DV)):qr.down.L0 N M0 (M+1) r c l p12_1 p2_1 p7_1 p8 p9 p6_1=bif (A4 p12_1 r) then bif ((decide (0≤(Ab ((Ab (p12_1*c))+p7_1))))&&(decide ((Ab ((Ab (p12_1*c))+p7_1))<(List.length p2_1:Int)))) then bif (decide ((Int.toNat (Ab ((Ab (p12_1*c))+p7_1)))<(List.length p2_1))) then qr.down.L0 N M0 M r c l (Ab (p12_1+1)) (List.set p2_1 (Int.toNat (Ab ((Ab (p12_1*c))+p7_1))) 0) p7_1 p8 p9 p6_1 else none else none else bif (decide ((List.length p6_1)+1≤Aaf)) then qr.down.L1 N M0 r c l (Ab (p7_1+1)) (p6_1++[[.ints .arg .u64 p8,.int .u64 p9]]) p2_1 else none:=by kernel_rfl
theorem qr.down.B9 (N M:Nat) (r c:Int) (l:List Int) (p7:Int) (p6:List (List DV)) (p2_2:List Int):qr.down.L1 N (M+1) r c l p7 p6 p2_2=bif ((A4 p7 c)&&(A4 p7 (Ab (r-1)))) then bif (G6 r c p2_2 p7&&Cz (0≤p7∧p7≤r)) then bif (Cl (Cu c p2_2 p7 p7 (Int.toNat (r-p7)))) then bif (((Cm (Cu c p2_2 p7 p7 (Int.toNat (r-p7)))).2.2.2) !=(0:Int)) then some (.tup [.agg [.int .i64 0,.int .i64 0,.nil],.nil,.int .i64 2]) else bif (((A0 r c p2_2&&Ho r c p7 p7 ((Cm (Cu c p2_2 p7 p7 (Int.toNat (r-p7)))).1))&&(Ah p2_2&&Ah ((Cm (Cu c p2_2 p7 p7 (Int.toNat (r-p7)))).1)))&&Af ((Cm (Cu c p2_2 p7 p7 (Int.toNat (r-p7)))).2.1)) then bif ((decide (0≤(Ab ((Ab (p7*c))+p7))))&&(decide ((Ab ((Ab (p7*c))+p7))<(List.length (E9 (Int.toNat r) (Int.toNat c) p2_2 p7 p7 ((Cm (Cu c p2_2 p7 p7 (Int.toNat (r-p7)))).1) ((Cm (Cu c p2_2 p7 p7 (Int.toNat (r-p7)))).2.1)):Int)))) then bif (decide ((Int.toNat (Ab ((Ab (p7*c))+p7)))<(List.length (E9 (Int.toNat r) (Int.toNat c) p2_2 p7 p7 ((Cm (Cu c p2_2 p7 p7 (Int.toNat (r-p7)))).1) ((Cm (Cu c p2_2 p7 p7 (Int.toNat (r-p7)))).2.1))))) then qr.down.L0 N M N r c l (Ab (p7+1)) (List.set (E9 (Int.toNat r) (Int.toNat c) p2_2 p7 p7 ((Cm (Cu c p2_2 p7 p7 (Int.toNat (r-p7)))).1) ((Cm (Cu c p2_2 p7 p7 (Int.toNat (r-p7)))).2.1)) (Int.toNat (Ab ((Ab (p7*c))+p7))) ((Cm (Cu c p2_2 p7 p7 (Int.toNat (r-p7)))).2.2.1)) p7 ((Cm (Cu c p2_2 p7 p7 (Int.toNat (r-p7)))).1) ((Cm (Cu c p2_2 p7 p7 (Int.toNat (r-p7)))).2.1) p6 else none else none else none else none else none else some (.tup [.agg [.int .i64 r,.int .i64 c,.ints (.own 106002 37) .u64 p2_2],.recs (.own 100006 214) 2 p6,.int .i64 0]) :=
  Eq.trans (by kernel_rfl)
  (Av (N2 (A4 p7 c)) (Av (N2 (A4 p7 c)) (Av (Lt (A4 p7 c)) (Av (Lt (A4 p7 c)) (Av (Xs (A4 p7 c)) (Av (Sr (A4 p7 c)) (C0 (tt1 (A4 p7 c) (A4 p7 (Ab (r-1)))) rfl rfl)))))))
theorem qr.down.Hq (N M:Nat) (r c:Int) (l:List Int):qr.down.L2 N (M+1) r c l=bif ((A4 0 c)&&(A4 0 (Ab (r-1)))) then bif (G6 r c l 0&&Cz (0≤(0:Int)∧(0:Int)≤r)) then bif (Cl (Cu c l 0 0 (Int.toNat (r-0)))) then bif (((Cm (Cu c l 0 0 (Int.toNat (r-0)))).2.2.2) !=(0:Int)) then some (.tup [.agg [.int .i64 0,.int .i64 0,.nil],.nil,.int .i64 2]) else bif (((A0 r c l&&Ho r c 0 0 ((Cm (Cu c l 0 0 (Int.toNat (r-0)))).1))&&(Ah l&&Ah ((Cm (Cu c l 0 0 (Int.toNat (r-0)))).1)))&&Af ((Cm (Cu c l 0 0 (Int.toNat (r-0)))).2.1)) then bif ((decide (0≤(Ab ((Ab ((0:Int)*c))+0))))&&(decide ((Ab ((Ab ((0:Int)*c))+0))<(List.length (E9 (Int.toNat r) (Int.toNat c) l 0 0 ((Cm (Cu c l 0 0 (Int.toNat (r-0)))).1) ((Cm (Cu c l 0 0 (Int.toNat (r-0)))).2.1)):Int)))) then bif (decide ((Int.toNat (Ab ((Ab ((0:Int)*c))+0)))<(List.length (E9 (Int.toNat r) (Int.toNat c) l 0 0 ((Cm (Cu c l 0 0 (Int.toNat (r-0)))).1) ((Cm (Cu c l 0 0 (Int.toNat (r-0)))).2.1))))) then qr.down.L0 N M N r c l 1 (List.set (E9 (Int.toNat r) (Int.toNat c) l 0 0 ((Cm (Cu c l 0 0 (Int.toNat (r-0)))).1) ((Cm (Cu c l 0 0 (Int.toNat (r-0)))).2.1)) (Int.toNat (Ab ((Ab ((0:Int)*c))+0))) ((Cm (Cu c l 0 0 (Int.toNat (r-0)))).2.2.1)) 0 ((Cm (Cu c l 0 0 (Int.toNat (r-0)))).1) ((Cm (Cu c l 0 0 (Int.toNat (r-0)))).2.1) [] else none else none else none else none else none else some (.tup [.agg [.int .i64 r,.int .i64 c,.ints .arg .u64 l],.recs (.own 100006 214) 2 [],.int .i64 0]) :=
  Eq.trans (by kernel_rfl)
  (Av (N2 (A4 0 c)) (Av (N2 (A4 0 c)) (Av (Lt (A4 0 c)) (Av (Lt (A4 0 c)) (Av (Xs (A4 0 c)) (Av (Sr (A4 0 c)) (C0 (tt1 (A4 0 c) (A4 0 (Ab (r-1)))) rfl rfl)))))))
theorem qr.down.ev (N:Nat) (r c:Int) (l:List Int):Bq qr.down.E N Tryz.f217 (An Tryz.f217) [.agg [.int .i64 r,.int .i64 c,.ints .arg .u64 l]] =
  qr.down.L2 N N r c l:=by kernel_rfl
abbrev _root_.Go.Proofs.S1.qr.down.Kn:=A3 Tryz.prog 217 qr.down.spec
theorem qr.down.Ac (hk:Ax Tryz.prog qr.down.A6) (h:∀ (r c:Int) (l:List Int),qr.down.pre [.i r,.i c,.l l]=true→A8 qr.down.E Tryz.f217 [.agg [.int .i64 r,.int .i64 c,.ints .arg .u64 l]] (qr.down.out [.i r,.i c,.l l])):qr.down.Kn :=
  Ak (Az hk _ _ _) Tryz.func217 (by kernel_rfl) (by kernel_rfl) h
def qr.B2.hint:Nat→Option Ba
  | 0=>some { keep:=[2,3,5,6],objs:=[],boxes:=[2,3] }
  | _=>none
def qr.B2.A6:List (Nat × Entry):=[(86,Cy.Check.spec),(219,Au.Apply.spec),(218,Aa.Ey.spec),(217,qr.down.spec),(150,Ae.Finite.spec)]
def qr.B2.E:Env:=Tc (A5 qr.B2.A6) (fun _=>false) qr.B2.hint (fun _=>none) (Ab1 [(22,[.s .u64]),(37,[.i .u64])])
def qr.B2.L0 (N M:Nat) (r c:Int) (l:List Int) (p6:Int) (p2:List Int):Option DV:=B0 qr.B2.E N Tryz.f166 (An Tryz.f166) [1,0,1,1,1,1,1,1,0,0] [] M ⟨Gj 81 [(2,.ptr 2 0 0),(3,.ptr 3 0 0),(5,.recs .fresh 2 (Ky r c ([]++l))),(6,.int .i64 p6)],[(2,false,.box [.int .i64 ((M8 r).1),.int .i64 ((M8 r).2.1),.ints .fresh .u64 p2]),(3,false,.box [.int .i64 ((F8 r c ([]++l)).1),.int .i64 ((F8 r c ([]++l)).2.1),.ints .arg .u64 ((F8 r c ([]++l)).2.2.1)])]⟩
theorem qr.B2.Ar (N M:Nat) (r c:Int) (l:List Int) (p6:Int) (p2:List Int):qr.B2.L0 N (M+1) r c l p6 p2=bif (A4 p6 0) then bif (Cl p2) then bif ((!(Df p2))||(Cl ((F8 r c ([]++l)).2.2.1))) then bif ((!(Df p2))||(!(Df ((F8 r c ([]++l)).2.2.1)))) then some (.tup [.agg [.int .i64 0,.int .i64 0,.nil],.agg [.int .i64 0,.int .i64 0,.nil],.int .i64 2]) else some (.tup [.agg [.int .i64 ((M8 r).1),.int .i64 ((M8 r).2.1),.ints .fresh .u64 p2],.agg [.int .i64 ((F8 r c ([]++l)).1),.int .i64 ((F8 r c ([]++l)).2.1),.ints .arg .u64 ((F8 r c ([]++l)).2.2.1)],.int .i64 0]) else none else none else bif ((decide (0≤p6))&&(decide (p6<(List.length (Ky r c ([]++l)):Int)))) then bif (isC (.s .u64) (List.getD (List.getD (Ky r c ([]++l)) (Int.toNat p6) []) 0 .undef)) then bif ((decide (0≤p6))&&(decide (p6<(List.length (Ky r c ([]++l)):Int)))) then bif (isC (.i .u64) (List.getD (List.getD (Ky r c ([]++l)) (Int.toNat p6) []) 1 .undef)) then bif (((A0 ((M8 r).1) ((M8 r).2.1) p2&&Ho ((M8 r).1) ((M8 r).2.1) p6 0 (Iu (List.getD (List.getD (Ky r c ([]++l)) (Int.toNat p6) []) 0 .undef)))&&(Ah p2&&Ah (Iu (List.getD (List.getD (Ky r c ([]++l)) (Int.toNat p6) []) 0 .undef))))&&Af (O4 (List.getD (List.getD (Ky r c ([]++l)) (Int.toNat p6) []) 1 .undef))) then qr.B2.L0 N M r c l (Ab (p6-1)) (E9 (Int.toNat ((M8 r).1)) (Int.toNat ((M8 r).2.1)) p2 p6 0 (Iu (List.getD (List.getD (Ky r c ([]++l)) (Int.toNat p6) []) 0 .undef)) (O4 (List.getD (List.getD (Ky r c ([]++l)) (Int.toNat p6) []) 1 .undef))) else none else none else none else none else none :=
  Eq.trans (by kernel_rfl)
  (Eh (Eh (Av (Ab8 (Df p2)) (Av (R8 (Df p2)) (C0 (Amo (Df p2) (Cl ((F8 r c ([]++l)).2.2.1))) (Av (R8 (Df p2)) (Av (Ab9 (Df p2)) (C0 (Amp (Df p2) (Df ((F8 r c ([]++l)).2.2.1))) rfl rfl))) rfl))) rfl) (C0 (Ko (decide (0≤p6)) (decide (p6<(List.length (Ky r c ([]++l)):Int)))) (C0 (Cx (isC (.s .u64) (List.getD (List.getD (Ky r c ([]++l)) (Int.toNat p6) []) 0 .undef))) (C0 (Ko (decide (0≤p6)) (decide (p6<(List.length (Ky r c ([]++l)):Int)))) (C0 (Cx (isC (.i .u64) (List.getD (List.getD (Ky r c ([]++l)) (Int.toNat p6) []) 1 .undef))) (C0 (Cx (((A0 ((M8 r).1) ((M8 r).2.1) p2&&Ho ((M8 r).1) ((M8 r).2.1) p6 0 (Iu (List.getD (List.getD (Ky r c ([]++l)) (Int.toNat p6) []) 0 .undef)))&&(Ah p2&&Ah (Iu (List.getD (List.getD (Ky r c ([]++l)) (Int.toNat p6) []) 0 .undef))))&&Af (O4 (List.getD (List.getD (Ky r c ([]++l)) (Int.toNat p6) []) 1 .undef)))) rfl rfl) rfl) rfl) rfl) rfl))
theorem qr.B2.ev (N:Nat) (r c:Int) (l:List Int):Bq qr.B2.E N Tryz.f166 (An Tryz.f166) [.agg [.int .i64 r,.int .i64 c,.ints .arg .u64 l]]=bif (Ah l) then bif ((Cg r c l) !=(0:Int)) then some (.tup [.agg [.int .i64 0,.int .i64 0,.nil],.agg [.int .i64 0,.int .i64 0,.nil],.int .i64 (Cg r c l)]) else bif (decide (0+(List.length l)≤Gt)) then bif ((A0 r c ([]++l)&&Df ([]++l))&&Ah ([]++l)) then bif (((F8 r c ([]++l)).2.2.2) !=(0:Int)) then some (.tup [.agg [.int .i64 0,.int .i64 0,.nil],.agg [.int .i64 0,.int .i64 0,.nil],.int .i64 ((F8 r c ([]++l)).2.2.2)]) else qr.B2.L0 N N r c l (Ab ((List.length (Ky r c ([]++l)):Int)-1)) ((M8 r).2.2.1) else none else none else none :=
  Eq.trans (by kernel_rfl)
  (Eh (Eh rfl (C0 (Cx (decide (0+(List.length l)≤Gt))) (C0 (Cx ((A0 r c ([]++l)&&Df ([]++l))&&Ah ([]++l))) rfl rfl) rfl)) rfl)
abbrev _root_.Go.Proofs.S1.qr.B2.Kn:=A3 Tryz.prog 166 qr.B2.spec
theorem qr.B2.Ac (hk:Ax Tryz.prog qr.B2.A6) (h:∀ (r c:Int) (l:List Int),qr.B2.pre [.i r,.i c,.l l]=true→A8 qr.B2.E Tryz.f166 [.agg [.int .i64 r,.int .i64 c,.ints .arg .u64 l]] (qr.B2.out [.i r,.i c,.l l])):qr.B2.Kn :=
  Ak (U4 hk _ _ _ _) Tryz.func166 (by kernel_rfl) (by kernel_rfl) h
def qr.Gb.A6:List (Nat × Entry):=[(124,Aa.Part.spec),(166,qr.B2.spec)]
def qr.Gb.E:Env:=A9 (A5 qr.Gb.A6) (fun _=>false) (fun _=>none) (fun _=>none)
theorem qr.Gb.ev (N:Nat) (r c:Int) (l:List Int):Bq qr.Gb.E N Tryz.f97 (An Tryz.f97) [.agg [.int .i64 r,.int .i64 c,.ints .arg .u64 l]]=bif (Ah l) then bif ((E8 r c l) !=(0:Int)) then some (.tup [.agg [.int .i64 0,.int .i64 0,.nil],.agg [.int .i64 0,.int .i64 0,.nil],.int .i64 (E8 r c l)]) else some (.tup [.agg [.int .i64 ((Iq ((qX r c l).1) ((qX r c l).2.1) ((qX r c l).2.2.1) 0 0 r (min r c)).1),.int .i64 ((Iq ((qX r c l).1) ((qX r c l).2.1) ((qX r c l).2.2.1) 0 0 r (min r c)).2.1),.ints .fresh .u64 ((Iq ((qX r c l).1) ((qX r c l).2.1) ((qX r c l).2.2.1) 0 0 r (min r c)).2.2.1)],.agg [.int .i64 ((Iq ((rX r c l).1) ((rX r c l).2.1) ((rX r c l).2.2.1) 0 0 (min r c) c).1),.int .i64 ((Iq ((rX r c l).1) ((rX r c l).2.1) ((rX r c l).2.2.1) 0 0 (min r c) c).2.1),.ints .fresh .u64 ((Iq ((rX r c l).1) ((rX r c l).2.1) ((rX r c l).2.2.1) 0 0 (min r c) c).2.2.1)],.int .i64 0]) else none:=by kernel_rfl
abbrev _root_.Go.Proofs.S1.qr.Gb.Kn:=A3 Tryz.prog 97 qr.Gb.spec
theorem qr.Gb.Ac (hk:Ax Tryz.prog qr.Gb.A6) (h:∀ (r c:Int) (l:List Int),qr.Gb.pre [.i r,.i c,.l l]=true→A8 qr.Gb.E Tryz.f97 [.agg [.int .i64 r,.int .i64 c,.ints .arg .u64 l]] (qr.Gb.out [.i r,.i c,.l l])):qr.Gb.Kn :=
  Ak (Az hk _ _ _) Tryz.func97 (by kernel_rfl) (by kernel_rfl) h
def solve.D4.hint:Nat→Option Ba
  | 0=>some { keep:=[2,3,4,17,18],objs:=[],boxes:=[2,3,4] }
  | _=>none
def solve.D4.A6:List (Nat × Entry):=[(86,Cy.Check.spec),(97,qr.Gb.spec),(98,qr.Fx.spec),(24,solve.Flat.spec),(36,solve.Cq.spec)]
def solve.D4.E:Env:=A9 (A5 solve.D4.A6) (fun _=>false) solve.D4.hint (fun _=>none)
theorem solve.D4.ev (N:Nat) (r c:Int) (l:List Int) (p q:Int) (m:List Int):Bq solve.D4.E (N+4) Tryz.f30 (An Tryz.f30) [.agg [.int .i64 r,.int .i64 c,.ints .arg .u64 l],.agg [.int .i64 p,.int .i64 q,.ints .arg .u64 m]]=bif (Ah l) then bif ((Cg r c l) !=(0:Int)) then some (.tup [.agg [.int .i64 0,.int .i64 0,.nil],.int .i64 (Cg r c l)]) else bif (Ah m) then bif ((Cg p q m) !=(0:Int)) then some (.tup [.agg [.int .i64 0,.int .i64 0,.nil],.int .i64 (Cg p q m)]) else bif ((A4 r c)||(r !=p)) then some (.tup [.agg [.int .i64 0,.int .i64 0,.nil],.int .i64 3]) else bif (Ah l) then bif ((E8 r c l) !=(0:Int)) then some (.tup [.agg [.int .i64 0,.int .i64 0,.nil],.int .i64 (E8 r c l)]) else bif (Ah ((Ij r c l).2.2.1)) then bif ((O2 ((Ij r c l).1) ((Ij r c l).2.1) ((Ij r c l).2.2.1)).1) then some (.tup [.agg [.int .i64 0,.int .i64 0,.nil],.int .i64 5]) else bif (Ah ((Ea r c l).2.2.1)&&Ah m) then bif (((Dv ((Ea r c l).1) ((Ea r c l).2.1) ((Ea r c l).2.2.1) p q m).2.2.2) !=(0:Int)) then some (.tup [.agg [.int .i64 0,.int .i64 0,.nil],.int .i64 ((Dv ((Ea r c l).1) ((Ea r c l).2.1) ((Ea r c l).2.2.1) p q m).2.2.2)]) else bif (Ah ((Ij r c l).2.2.1)&&Ah ((Dv ((Ea r c l).1) ((Ea r c l).2.1) ((Ea r c l).2.2.1) p q m).2.2.1)) then some (.tup [.agg [.int .i64 ((Tq ((Ij r c l).1) ((Ij r c l).2.1) ((Ij r c l).2.2.1) ((Dv ((Ea r c l).1) ((Ea r c l).2.1) ((Ea r c l).2.2.1) p q m).1) ((Dv ((Ea r c l).1) ((Ea r c l).2.1) ((Ea r c l).2.2.1) p q m).2.1) ((Dv ((Ea r c l).1) ((Ea r c l).2.1) ((Ea r c l).2.2.1) p q m).2.2.1)).1),.int .i64 ((Tq ((Ij r c l).1) ((Ij r c l).2.1) ((Ij r c l).2.2.1) ((Dv ((Ea r c l).1) ((Ea r c l).2.1) ((Ea r c l).2.2.1) p q m).1) ((Dv ((Ea r c l).1) ((Ea r c l).2.1) ((Ea r c l).2.2.1) p q m).2.1) ((Dv ((Ea r c l).1) ((Ea r c l).2.1) ((Ea r c l).2.2.1) p q m).2.2.1)).2.1),.ints .fresh .u64 ((Tq ((Ij r c l).1) ((Ij r c l).2.1) ((Ij r c l).2.2.1) ((Dv ((Ea r c l).1) ((Ea r c l).2.1) ((Ea r c l).2.2.1) p q m).1) ((Dv ((Ea r c l).1) ((Ea r c l).2.1) ((Ea r c l).2.2.1) p q m).2.1) ((Dv ((Ea r c l).1) ((Ea r c l).2.1) ((Ea r c l).2.2.1) p q m).2.2.1)).2.2.1)],.int .i64 ((Tq ((Ij r c l).1) ((Ij r c l).2.1) ((Ij r c l).2.2.1) ((Dv ((Ea r c l).1) ((Ea r c l).2.1) ((Ea r c l).2.2.1) p q m).1) ((Dv ((Ea r c l).1) ((Ea r c l).2.1) ((Ea r c l).2.2.1) p q m).2.1) ((Dv ((Ea r c l).1) ((Ea r c l).2.1) ((Ea r c l).2.2.1) p q m).2.2.1)).2.2.2)]) else none else none else none else none else none else none :=
  Eq.trans (by kernel_rfl)
  (Eh (Eh rfl (Eh (Eh rfl (Av (Se (A4 r c)) (Av (Qa (A4 r c)) (Av (Se (A4 r c)) (Av (Qa (A4 r c)) (Av (tt8 (A4 r c)) (Av (W4 (A4 r c)) (C0 (tt5 (A4 r c) (r !=p)) rfl rfl)))))))) rfl)) rfl)
abbrev _root_.Go.Proofs.S1.solve.D4.Kn:=A3 Tryz.prog 30 solve.D4.spec
theorem solve.D4.Ac (hk:Ax Tryz.prog solve.D4.A6) (h:∀ (r c:Int) (l:List Int) (p q:Int) (m:List Int),solve.D4.pre [.i r,.i c,.l l,.i p,.i q,.l m]=true→A8 solve.D4.E Tryz.f30 [.agg [.int .i64 r,.int .i64 c,.ints .arg .u64 l],.agg [.int .i64 p,.int .i64 q,.ints .arg .u64 m]] (solve.D4.out [.i r,.i c,.l l,.i p,.i q,.l m])):solve.D4.Kn :=
  Ak (Az hk _ _ _) Tryz.func30 (by kernel_rfl) (by kernel_rfl) h
end EqQr
open EqQr
def clS (R C:Nat) (l:List Int) (j:Nat) (x:Int) (i:Nat):List Int:=B7 R C fun a b=>if b=j∧j≤a∧a<i then (if a=j then x else 0) else D9 (C:Int) l (a:Int) (b:Int)
section
variable {R C j:Nat} {l:List Int} {x:Int}
theorem Ajo (i:Nat):(clS R C l j x i).length=R*C:=Ca _ _ _
theorem V4 (hl:l.length=R*C) (hj:j<C):List.set l (j*C+j) x=clS R C l j x (j+1):=by
  unfold clS
  conv=>lhs; rw [← Vy hl]
  rw [Uz hj]
  refine D7 fun a b ha hb=>?_
  by_cases h:a=j∧b=j
  · rw [if_pos h,if_pos (by omega),if_pos h.1]
  · rw [if_neg h,if_neg (by omega)]
theorem Ajn {i:Nat} (hj:j<C) (hi:j<i):List.set (clS R C l j x i) (i*C+j) 0=clS R C l j x (i+1):=by
  unfold clS
  rw [Uz hj]
  refine D7 fun a b ha hb=>?_
  by_cases h:a=i∧b=j
  · rw [if_pos h,if_pos (by omega),if_neg (by omega)]
  · rw [if_neg h]
    by_cases h2:b=j∧j≤a∧a<i
    · rw [if_pos h2,if_pos (show b=j∧j≤a∧a<i+1 by omega)]
    · rw [if_neg h2,if_neg (by omega)]
theorem Ajp:clS R C l j x R=Na R C l j x:=by
  unfold clS Na
  refine D7 fun a b ha hb=>?_
  by_cases h:b=j∧j≤a
  · rw [if_pos h,if_pos (by omega)]
  · rw [if_neg h,if_neg (by omega)]
end
theorem Ys {C i j:Nat} (hi:i≤6) (hC:C≤6) (hj:j≤6):Ab (Ab ((i:Int)*(C:Int))+(j:Int))=((i*C+j:Nat):Int):=by
  have h36:=Nat.mul_le_mul hi hC
  rw [Al (x:=(i:Int)*(C:Int)) (by rw [← Azd]; omega) (by rw [← Azd]; omega),← Azd,Al (by omega) (by omega)]
  omega
section
variable {R C:Nat}
theorem Zq (N M0:Nat) (l0:List Int) (r6:R≤6) (c6:C≤6) {j:Nat} (hj:j<C) (l:List Int) (x:Int) (v:List Int) (t:Int) (ms:List (List DV)) (hms:ms.length≤100):∀ (cnt i F:Nat),i+cnt=R→j<i→cnt<F →
    qr.down.L0 N M0 F (R:Int) (C:Int) l0 (i:Int) (clS R C l j x i) (j:Int) v t ms=qr.down.L1 N M0 (R:Int) (C:Int) l0 ((j+1:Nat):Int) (ms++[[.ints .arg .u64 v,.int .u64 t]]) (Na R C l j x):=by
  intro cnt
  induction cnt with
  | zero =>
    intro i F hi hji hF
    obtain ⟨F,rfl⟩:∃ G,F=G+1:=⟨F-1,by omega⟩
    obtain rfl:i=R:=by omega
    rw [qr.down.Ar,As,Ayx (by omega),Ayw,Ayt (by unfold Aaf; omega),Ays,Al (by omega) (by omega),Ajp]
    rfl
  | succ cnt ih =>
    intro i F hi hji hF
    obtain ⟨F,rfl⟩:∃ G,F=G+1:=⟨F-1,by omega⟩
    have hlen:=Ajo (R:=R) (C:=C) (l:=l) (j:=j) (x:=x) i
    have hp:=Ku (show i<R by omega) hj
    rw [qr.down.Ar,As,Ayt (by omega),Ays,Ys (by omega) c6 (by omega),Ayt (by omega),Ayt (by omega),Ayy,Ays,Ayu,Ayt (by omega),Ays,Ajn hj hji,Al (by omega) (by omega)]
    exact ih (i+1) F (by omega) (by omega) (by omega)
def Sp (r c:Nat) (ms:List (List DV)):Option (List Int × List (List Int × Int))→DV
  | none=>.tup [.agg [.int .i64 0,.int .i64 0,.nil],.nil,.int .i64 2]
  | some x=>.tup [.agg [.int .i64 (r:Int),.int .i64 (c:Int),.ints (.own 106002 tB) .u64 x.1],.recs (.own 100006 tMR) 2 (ms++Yt x.2),.int .i64 0]
theorem Alq (N:Nat) (hN:7<N) (l0:List Int) (r6:R≤6) (c6:C≤6):∀ (cnt j F:Nat) (l:List Int) (ms:List (List DV)),j+cnt=H9 R C→cnt<F→l.length=R*C→Ah l=true→ms.length=j →
    qr.down.L1 N F (R:Int) (C:Int) l0 (j:Int) ms l=some (Sp R C ms (M9 R C cnt j l)):=by
  intro cnt
  induction cnt with
  | zero =>
    intro j F l ms hj hF hl al hms
    obtain ⟨F,rfl⟩:∃ G,F=G+1:=⟨F-1,by omega⟩
    unfold H9 at hj
    have hlt:(A4 (j:Int) (C:Int)&&A4 (j:Int) (Ab ((R:Int)-1)))=false:=by
      rw [As,As,Al (by omega) (by omega),Bool.and_eq_false_iff,Azb,Azb]; omega
    rw [qr.down.B9,hlt,Ayw]
    simp [M9,Sp,Yt]
  | succ cnt ih =>
    intro j F l ms hj hF hl al hms
    obtain ⟨F,rfl⟩:∃ G,F=G+1:=⟨F-1,by omega⟩
    have hj0:=hj
    unfold H9 at hj
    have hr:=Fg r6 c6 hl
    have hlt:(A4 (j:Int) (C:Int)&&A4 (j:Int) (Ab ((R:Int)-1)))=true:=by
      rw [As,As,Al (by omega) (by omega),Ayt (by omega),Ayt (by omega)]; rfl
    have cp:G6 (R:Int) (C:Int) l (j:Int)=true:=Ad.2 ⟨hr,Aq.2 (by omega)⟩
    have ec:Cu (C:Int) l (j:Int) (j:Int) (Int.toNat ((R:Int)-(j:Int)))=E5 R C l j:=by unfold E5; rw [show Int.toNat ((R:Int)-(j:Int))=R-j by omega]
    have ca:Ah (E5 R C l j)=true:=Pc al
    have cl:(E5 R C l j).length=R-j:=Gd _ _ _ _ _
    rw [qr.down.B9,hlt,Ays,cp,Aq.2 (show 0≤(j:Int)∧(j:Int)≤(R:Int) by omega),Ayy,Ays,ec,Jb ca (by omega),Ays]
    unfold M9
    by_cases he:(Cm (E5 R C l j)).2.2.2=0
    · have hml:=Um he
      have hma:=Un ca
      have hap:Ho (R:Int) (C:Int) (j:Int) (j:Int) (Cm (E5 R C l j)).1=true:=Ayt (by omega)
      have hp:=Ku (show j<R by omega) (show j<C by omega)
      have hlen:=K9 R C l (j:Int) (j:Int) (Cm (E5 R C l j)).1 (Cm (E5 R C l j)).2.1
      have hg:=Zq N F l0 r6 c6 (show j<C by omega) (E9 R C l (j:Int) (j:Int) (Cm (E5 R C l j)).1 (Cm (E5 R C l j)).2.1) (Cm (E5 R C l j)).2.2.1 (Cm (E5 R C l j)).1 (Cm (E5 R C l j)).2.1 ms (by omega) (R-(j+1)) (j+1) N (by omega) (by omega) (by omega)
      have hn:=ih (j+1) F (Yu R C l j) (ms++[[.ints .arg .u64 (Cm (E5 R C l j)).1,.int .u64 (Cm (E5 R C l j)).2.1]]) (by omega) (by omega) (Nr _ _ _ _) (Xf al j) (by rw [List.length_append,hms]; rfl)
      rw [Gc he,Ayw,hr,hap,al,hma.1,hma.2.1,Ayy,Ayy,Ayy,Ays,Ys (by omega) c6 (by omega),Ayu,Ayu,Ayu,Ayt (by omega),Ayt (by omega),Ayy,Ays,Ayt (by omega),Ays,
        V4 hlen (by omega),Al (by omega) (by omega),if_pos he]
      refine (hg.trans hn).trans ?_
      show some (Sp R C _ (M9 R C cnt (j+1) (Yu R C l j)))=some (Sp R C ms _)
      cases M9 R C cnt (j+1) (Yu R C l j) with
      | none=>rfl
      | some x=>simp [Sp,Yt]
    · rw [To he,Ays,if_neg he]; rfl
theorem Ah0 (N:Nat) (hN:7<N) {l:List Int} (r6:R≤6) (c6:C≤6) (hl:l.length=R*C) (al:Ah l=true) (h0:H9 R C≠0) :
    qr.down.L2 N N (R:Int) (C:Int) l=some (Sp R C [] (Kd R C l)):=by
  obtain ⟨cnt,hc⟩:∃ cnt,H9 R C=cnt+1:=⟨H9 R C-1,by omega⟩
  obtain ⟨F,rfl⟩:∃ G,N=G+1:=⟨N-1,by omega⟩
  have hj:=hc
  unfold H9 at hj
  have hr:=Fg r6 c6 hl
  have hlt:(A4 (0:Int) (C:Int)&&A4 (0:Int) (Ab ((R:Int)-1)))=true:=by
    rw [As,As,Al (by omega) (by omega),Ayt (by omega),Ayt (by omega)]; rfl
  have cp:G6 (R:Int) (C:Int) l (0:Int)=true:=Ad.2 ⟨hr,Aq.2 (by omega)⟩
  have ec:Cu (C:Int) l (0:Int) (0:Int) (Int.toNat ((R:Int)-(0:Int)))=E5 R C l 0:=by unfold E5; rw [show Int.toNat ((R:Int)-(0:Int))=R-0 by omega]; rfl
  have ca:Ah (E5 R C l 0)=true:=Pc al
  have cl:(E5 R C l 0).length=R-0:=Gd _ _ _ _ _
  unfold Kd
  rw [hc,qr.down.Hq,hlt,Ays,cp,Aq.2 (show 0≤(0:Int)∧(0:Int)≤(R:Int) by omega),Ayy,Ays,ec,Jb ca (by omega),Ays]
  unfold M9
  by_cases he:(Cm (E5 R C l 0)).2.2.2=0
  · have hml:=Um he
    have hma:=Un ca
    have hap:Ho (R:Int) (C:Int) (0:Int) (0:Int) (Cm (E5 R C l 0)).1=true:=Ayt (by omega)
    have hp:=Ku (show 0<R by omega) (show 0<C by omega)
    have hlen:=K9 R C l (0:Int) (0:Int) (Cm (E5 R C l 0)).1 (Cm (E5 R C l 0)).2.1
    have hg:=Zq (F+1) F l r6 c6 (show 0<C by omega) (E9 R C l (0:Int) (0:Int) (Cm (E5 R C l 0)).1 (Cm (E5 R C l 0)).2.1) (Cm (E5 R C l 0)).2.2.1 (Cm (E5 R C l 0)).1 (Cm (E5 R C l 0)).2.1 [] (Nat.zero_le _) (R-1) 1 (F+1) (by omega) (by omega) (by omega)
    have hn:=Alq (R:=R) (C:=C) (F+1) hN l r6 c6 cnt 1 F (Yu R C l 0) [[.ints .arg .u64 (Cm (E5 R C l 0)).1,.int .u64 (Cm (E5 R C l 0)).2.1]] (by omega) (by unfold H9 at hc; omega) (Nr _ _ _ _) (Xf al 0) rfl
    have mc:=Ys (i:=0) (C:=C) (j:=0) (by omega) c6 (by omega)
    have mc:Ab (Ab ((0:Int)*(C:Int))+(0:Int))=((0*C+0:Nat):Int):=mc
    rw [Gc he,Ayw,hr,hap,al,hma.1,hma.2.1,Ayy,Ayy,Ayy,Ays,mc,Ayu,Ayu,Ayu,Ayt (by omega),Ayt (by omega),Ayy,Ays,Ayt (by omega),Ays,
      V4 hlen (by omega),if_pos he]
    refine (hg.trans hn).trans ?_
    show some (Sp R C _ (M9 R C cnt 1 (Yu R C l 0)))=some (Sp R C [] _)
    cases M9 R C cnt (0+1) (Yu R C l 0) with
    | none=>rfl
    | some x=>simp [Sp,Yt]
  · rw [To he,Ays,if_neg he]; rfl
end
theorem qr.down.known:qr.down.Kn:=qr.down.Ac (.cons Au.Apply.known (.cons Au.Dq.known (.cons Aa.D1.known .nil))) fun r c l hp=>by
  obtain ⟨h1,al⟩:=Ad.1 (show ((A0 r c l&&Df l)&&Ah l)=true from hp)
  obtain ⟨hr,hf⟩:=Ad.1 h1
  obtain ⟨R,C,rfl,rfl,r6,c6,hl⟩:=Ce hr
  by_cases h0:H9 R C=0
  · have hx:Kd R C l=some (l,[]):=by unfold Kd; rw [h0]; rfl
    refine ⟨8,.tup [.agg [.int .i64 (R:Int),.int .i64 (C:Int),.ints .arg .u64 l],.recs (.own 100006 tMR) 2 [],.int .i64 0],[100006],?_,?_⟩
    · unfold H9 at h0
      have hlt:(A4 (0:Int) (C:Int)&&A4 (0:Int) (Ab ((R:Int)-1)))=false:=by
        rw [As,As,Al (by omega) (by omega),Bool.and_eq_false_iff,Azb,Azb]; omega
      rw [qr.down.ev,show (8:Nat)=7+1 from rfl,qr.down.Hq,hlt,Ayw]
    · show Wk _ _ (DV.tup [.agg [.int .i64 (F8 (R:Int) (C:Int) l).1,.int .i64 (F8 (R:Int) (C:Int) l).2.1,.ints .arg .u64 (F8 (R:Int) (C:Int) l).2.2.1],.recs .fresh 2 (Ky (R:Int) (C:Int) l),.int .i64 (F8 (R:Int) (C:Int) l).2.2.2])
      unfold F8 Ky Kc
      rw [Ayu,Ayu,hx]
      exact Wk.Gp (.cons (Wk.G8 (.cons .int (.cons .int (.cons .W2 .nil)))) (.cons (.dropR _ _ _ _ (List.mem_singleton.2 rfl)) (.cons .int .nil)))
  · refine ⟨8,Sp R C [] (Kd R C l),[106002,100006],?_,?_⟩
    · rw [qr.down.ev]
      exact Ah0 8 (by omega) r6 c6 hl al h0
    · show Wk _ _ (DV.tup [.agg [.int .i64 (F8 (R:Int) (C:Int) l).1,.int .i64 (F8 (R:Int) (C:Int) l).2.1,.ints .arg .u64 (F8 (R:Int) (C:Int) l).2.2.1],.recs .fresh 2 (Ky (R:Int) (C:Int) l),.int .i64 (F8 (R:Int) (C:Int) l).2.2.2])
      unfold F8 Ky Kc
      rw [Ayu,Ayu]
      cases Kd R C l with
      | none=>exact Wk.Gp (.cons (Wk.G8 (.cons .int (.cons .int (.cons L7 .nil)))) (.cons (.nilR _ _) (.cons .int .nil)))
      | some x=>exact Wk.Gp (.cons (Wk.G8 (.cons .int (.cons .int (.cons (.dropA _ _ _ _ List.mem_cons_self) .nil)))) (.cons (.dropR _ _ _ _ (List.mem_cons_of_mem _ List.mem_cons_self)) (.cons .int .nil)))
open EqQr
def Aa9 (e:Int):DV:=.tup [.agg [.int .i64 0,.int .i64 0,.nil],.agg [.int .i64 0,.int .i64 0,.nil],.int .i64 e]
theorem Vt {r:Nat}:∀ {j:Nat} {ms:List (List Int × Int)},Abb r j ms→∀ i:Nat,i<ms.length→Ah (ms.getD i ([],0)).1=true∧Af (ms.getD i ([],0)).2=true∧(ms.getD i ([],0)).1.length+(j+i)=r
  | _,[],_,i,h=>absurd h (Nat.not_lt_zero _)
  | j,m::ms,hm,0,_=>hm.1
  | j,m::ms,hm,i+1,h=>by
    have:=Vt hm.2 i (by simpa using h)
    rw [show j+(i+1)=j+1+i by omega]
    exact this
theorem Anz {ms:List (List Int × Int)} {i:Nat} (h:i<ms.length):List.getD (Yt ms) i []=[.ints .arg .u64 (ms.getD i ([],0)).1,.int .u64 (ms.getD i ([],0)).2]:=by
  unfold Yt
  rw [Ay2,List.getElem?_map,Ay9 h,Ay2,Ay9 h]; rfl
theorem Ae7 (ms:List (List Int × Int)):(Yt ms).length=ms.length:=by unfold Yt; rw [List.length_map]
theorem Aby {n i:Nat} {ms:List (List Int × Int)} (h:i<ms.length) (q:List Int):Hg n i (ms.drop i) q=E9 n n (Hg n (i+1) (ms.drop (i+1)) q) (i:Int) 0 (ms.getD i ([],0)).1 (ms.getD i ([],0)).2:=by
  rw [List.drop_eq_getElem_cons h,Hg,Ay2,Ay9 h]; rfl
theorem Ahx {R:Nat} (h:R≤6):M8 (R:Int)=((R:Int),(R:Int),I5 R,0):=by
  unfold M8 I5
  rw [if_pos (No h),Ayu]
theorem Amw {n:Nat} (h:n≤6):n*n≤36:=Nat.mul_le_mul h h
theorem Afy (N:Nat) {R C:Nat} {l:List Int} (r6:R≤6) {x:List Int × List (List Int × Int)} (hx:Kd R C l=some x) (hm:Abb R 0 x.2) (hxr:Ah x.1=true) (hxl:x.1.length≤36):∀ (j F:Nat),j≤x.2.length→j<F →
    qr.B2.L0 N F (R:Int) (C:Int) l ((j:Int)-1) (Hg R j (x.2.drop j) (I5 R)) =
    bif L5 R C l then some (.tup [.agg [.int .i64 (R:Int),.int .i64 (R:Int),.ints .fresh .u64 (Mi R C l)],.agg [.int .i64 (R:Int),.int .i64 (C:Int),.ints .arg .u64 (Kc R C l)],.int .i64 0])
    else some (Aa9 2):=by
  have hq:Mi R C l=Hg R 0 x.2 (I5 R):=by unfold Mi; rw [hx]
  have hr:Kc R C l=x.1:=by unfold Kc; rw [hx]
  have hd:F8 (R:Int) (C:Int) ([]++l)=((R:Int),(C:Int),x.1,0):=by
    unfold F8
    rw [List.nil_append,Ayu,Ayu,hx,hr]; rfl
  have hmd:Ky (R:Int) (C:Int) ([]++l)=Yt x.2:=by
    unfold Ky
    rw [List.nil_append,Ayu,Ayu,hx]
  have h36:=Amw r6
  intro j
  induction j with
  | zero =>
    intro F _ hF
    obtain ⟨F,rfl⟩:∃ G,F=G+1:=⟨F-1,by omega⟩
    have hb:=Ry R x.2 0 (I5 R) (U3 R) (by unfold I5; exact Ca _ _ _)
    have ok1:Cl (Hg R 0 x.2 (I5 R))=true:=Jb hb.1 (by omega)
    have ok2:Cl x.1=true:=Jb hxr (by omega)
    have hfo:L5 R C l=(Df (Hg R 0 x.2 (I5 R))&&Df x.1):=by unfold L5; rw [hx,hq,hr]; rfl
    rw [qr.B2.Ar,As,Ayt (by omega),Ays,List.drop_zero,ok1,Ays,hd,Ahx r6,ok2,Bool.or_true,Ays,hfo,hq,hr]
    cases Df (Hg R 0 x.2 (I5 R)) with
    | false=>rfl
    | true=>cases Df x.1<;>rfl
  | succ j ih =>
    intro F hj hF
    obtain ⟨F,rfl⟩:∃ G,F=G+1:=⟨F-1,by omega⟩
    have ej:(((j+1:Nat):Int))-1=(j:Int):=by omega
    have hg:=Vt hm j (by omega)
    have hb:=Ry R (x.2.drop (j+1)) (j+1) (I5 R) (U3 R) (by unfold I5; exact Ca _ _ _)
    have hr1:=Fg r6 r6 hb.2
    have hap:Ho (R:Int) (R:Int) (j:Int) 0 (x.2.getD j ([],0)).1=true:=Ayt (by omega)
    have hmg:=Anz (ms:=x.2) (i:=j) (by omega)
    rw [qr.B2.Ar,ej,As,Ayx (show ¬ (j:Int)<0 by omega),Ayw,hmd,Ae7,Ayt (show (0:Int)≤(j:Int) by omega),Ayt (show (j:Int)<(x.2.length:Int) by omega),Ayy,Ays,Ayu,hmg,Ahx r6]
    show (bif true then bif true then bif true then (bif (((A0 (R:Int) (R:Int) (Hg R (j+1) (x.2.drop (j+1)) (I5 R))&&Ho (R:Int) (R:Int) (j:Int) (0:Int) (x.2.getD j ([],0)).1)&&(Ah (Hg R (j+1) (x.2.drop (j+1)) (I5 R))&&Ah (x.2.getD j ([],0)).1))&&Af (x.2.getD j ([],0)).2) then
      qr.B2.L0 N F (R:Int) (C:Int) l (Ab ((j:Int)-(1:Int))) (E9 (Int.toNat (R:Int)) (Int.toNat (R:Int)) (Hg R (j+1) (x.2.drop (j+1)) (I5 R)) (j:Int) (0:Int) (x.2.getD j ([],0)).1 (x.2.getD j ([],0)).2) else none) else none else none else none)=_
    rw [Ays,Ays,Ays,hr1,hap,hb.1,hg.1,hg.2.1,Ayy,Ayy,Ayy,Ays,Ayu,Al (by omega) (by omega),← Aby (by omega)]
    exact ih F (by omega) (by omega)
theorem Af2 {R C:Nat} {l:List Int} (hl:l.length=R*C) (al:Ah l=true) {x:List Int × List (List Int × Int)} (hx:Kd R C l=some x):Ah x.1=true∧x.1.length=R*C∧x.2.length=H9 R C∧Abb R 0 x.2 :=
  Zr R C (H9 R C) 0 l x al hl (by unfold H9; omega) hx
theorem Rw {r c:Int} {l:List Int} (h:Cg r c l=0):E8 r c l=if L5 r.toNat c.toNat l=true then 0 else 2:=by
  unfold E8; rw [if_neg (by rw [h]; decide)]
theorem Afz {r c:Int} {l:List Int} (h:Cg r c l≠0):E8 r c l=Cg r c l:=by unfold E8; rw [if_pos h]
theorem Yh {r c:Int} {l:List Int} {e:Int} (h:E8 r c l=e) (he:e≠0):qX r c l=Kl e∧rX r c l=Kl e:=by unfold qX rX; rw [h,if_pos he,if_pos he]; exact ⟨rfl,rfl⟩
theorem W9 {r c:Int} {l:List Int} (h:E8 r c l=0):qX r c l=(r,r,Mi r.toNat c.toNat l,0)∧rX r c l=(r,c,Kc r.toNat c.toNat l,0):=by unfold qX rX; rw [h]; exact ⟨rfl,rfl⟩
theorem Ab4 {drops:List Nat} {e:Int} {g h:Agj}:Wk drops (Aa9 e) (DV.tup [.agg [.int .i64 (Kl e).1,.int .i64 (Kl e).2.1,.ints g .u64 (Kl e).2.2.1],.agg [.int .i64 (Kl e).1,.int .i64 (Kl e).2.1,.ints h .u64 (Kl e).2.2.1],.int .i64 e]) :=
  Wk.Gp (.cons (Wk.G8 (.cons .int (.cons .int (.cons L7 .nil)))) (.cons (Wk.G8 (.cons .int (.cons .int (.cons L7 .nil)))) (.cons .int .nil)))
theorem qr.B2.known:qr.B2.Kn:=qr.B2.Ac (.cons Cy.Check.known (.cons Au.Apply.known (.cons Aa.Ey.known (.cons qr.down.known (.cons Ae.Finite.known .nil))))) fun r c l hp=>by
  have al:Ah l=true:=hp
  show ∃ N dv drops,_=some dv∧Wk drops dv (DV.tup [.agg [.int .i64 (qX r c l).1,.int .i64 (qX r c l).2.1,.ints .arg .u64 (qX r c l).2.2.1],.agg [.int .i64 (rX r c l).1,.int .i64 (rX r c l).2.1,.ints .arg .u64 (rX r c l).2.2.1],.int .i64 (E8 r c l)])
  by_cases h1:Cg r c l=0
  · obtain ⟨hr,hf⟩:=D8 h1
    have h36:=Kq hr
    obtain ⟨R,C,rfl,rfl,r6,c6,hl⟩:=Ce hr
    have d0:decide (0+l.length≤Gt)=true:=Ayt (by unfold Gt; omega)
    cases hx:Kd R C l with
    | none =>
      have hfo:L5 R C l=false:=by unfold L5; rw [hx]; rfl
      have he:E8 (R:Int) (C:Int) l=2:=by rw [Rw h1,Ayu,Ayu,hfo]; rfl
      obtain ⟨e1,e2⟩:=Yh he (by decide)
      have hd:F8 (R:Int) (C:Int) ([]++l)=Kl 2:=by
        unfold F8
        rw [List.nil_append,Ayu,Ayu,hx]; rfl
      rw [e1,e2,he]
      exact ⟨0,Aa9 2,[],by rw [qr.B2.ev,al,Ays,Gc h1,Ayw,d0,Ays,hd,List.nil_append,hr,hf,al,Ayy,Ayy,Ays,show ((Kl 2).2.2.2 !=(0:Int))=true from rfl,Ays]; rfl,Ab4⟩
    | some x =>
      obtain ⟨x1,x2,x3,x4⟩:=Af2 hl al hx
      have hd:F8 (R:Int) (C:Int) ([]++l)=((R:Int),(C:Int),x.1,0):=by
        unfold F8 Kc
        rw [List.nil_append,Ayu,Ayu,hx]; rfl
      have hmd:Ky (R:Int) (C:Int) ([]++l)=Yt x.2:=by
        unfold Ky
        rw [List.nil_append,Ayu,Ayu,hx]
      have hn:x.2.length≤6:=by rw [x3]; unfold H9; omega
      have hloop:=Afy 8 r6 hx x4 x1 (by rw [x2]; exact Nat.mul_le_mul r6 c6) x.2.length 8 (Nat.le_refl _) (by omega)
      rw [Ay6 (Nat.le_refl _)] at hloop
      have hrun:=qr.B2.ev 8 (R:Int) (C:Int) l
      rw [al,Ays,Gc h1,Ayw,d0,Ays,hd,hmd,Ae7,List.nil_append,hr,hf,al,Ayy,Ayy,Ays,show (((R:Int),(C:Int),x.1,(0:Int)).2.2.2 !=(0:Int))=false from rfl,Ayw,Ahx r6,Al (by omega) (by omega)] at hrun
      have hrun:=hrun.trans hloop
      cases hfo:L5 R C l with
      | false =>
        have he:E8 (R:Int) (C:Int) l=2:=by rw [Rw h1,Ayu,Ayu,hfo]; rfl
        obtain ⟨e1,e2⟩:=Yh he (by decide)
        rw [hfo,Ayw] at hrun
        rw [e1,e2,he]
        exact ⟨8,Aa9 2,[],hrun,Ab4⟩
      | true =>
        have he:E8 (R:Int) (C:Int) l=0:=by rw [Rw h1,Ayu,Ayu,hfo]; rfl
        obtain ⟨e1,e2⟩:=W9 he
        rw [hfo,Ays] at hrun
        rw [e1,e2,he,Ayu,Ayu]
        exact ⟨8,_,[],hrun,Wk.Gp (.cons (Wk.G8 (.cons .int (.cons .int (.cons (.fresh _ _) .nil)))) (.cons (Wk.G8 (.cons .int (.cons .int (.cons .W2 .nil)))) (.cons .int .nil)))⟩
  · have he:=Afz h1
    obtain ⟨e1,e2⟩:=Yh he h1
    rw [e1,e2,he]
    exact ⟨0,Aa9 (Cg r c l),[],by rw [qr.B2.ev,al,Ays,To h1,Ays]; rfl,Ab4⟩
theorem Ah5 {r c:Int} {l:List Int} (h:E8 r c l=0):Cg r c l=0:=by
  by_cases h1:Cg r c l=0
  · exact h1
  · rw [Afz h1] at h; exact absurd h h1
theorem Zn {r c:Int} {l:List Int} (al:Ah l=true) (h:E8 r c l=0):∃ R C:Nat,r=R∧c=C∧R≤6∧C≤6∧l.length=R*C∧Ah (Mi R C l)=true∧(Mi R C l).length=R*R∧Ah (Kc R C l)=true∧(Kc R C l).length=R*C∧Df (Mi R C l)=true∧Df (Kc R C l)=true:=by
  have h1:=Ah5 h
  rw [Rw h1] at h
  obtain ⟨R,C,rfl,rfl,r6,c6,hl⟩:=Ce (D8 h1).1
  rw [Ayu,Ayu] at h
  by_cases ho:L5 R C l=true
  · unfold L5 at ho
    obtain ⟨o1,o2⟩:=Ad.1 ho
    obtain ⟨o3,o4⟩:=Ad.1 o2
    obtain ⟨q1,q2⟩:=Arn o1
    obtain ⟨g1,g2⟩:=Arm al hl o1
    exact ⟨R,C,rfl,rfl,r6,c6,hl,q1,q2,g1,g2,o3,o4⟩
  · rw [if_neg ho] at h; exact absurd h (by decide)
theorem Xb {R C:Nat} {l:List Int} (r6:R≤6) (c6:C≤6) (hl:l.length=R*C) {x y a b:Int} (hp:Hv (R:Int) (C:Int) x y a b=true) :
    Iq (R:Int) (C:Int) l x y a b=(a,b,B7 a.toNat b.toNat fun i k=>D9 (C:Int) l (x+(i:Int)) (y+(k:Int)),0):=by
  unfold Iq; rw [if_pos (Fg r6 c6 hl),if_pos hp]
theorem Vd {r c:Int} {l:List Int} (al:Ah l=true) (h:E8 r c l=0) :
    Iq r r (Mi r.toNat c.toNat l) 0 0 r (min r c)=Ea r c l∧Iq r c (Kc r.toNat c.toNat l) 0 0 (min r c) c=Ij r c l:=by
  obtain ⟨R,C,rfl,rfl,r6,c6,hl,q1,q2,g1,g2,_,_⟩:=Zn al h
  unfold Ea Ij
  rw [h,if_neg (by decide),if_neg (by decide),Ayu,Ayu]
  have p1:Hv (R:Int) (R:Int) 0 0 (R:Int) (min (R:Int) (C:Int))=true:=Ayt (by omega)
  have p2:Hv (R:Int) (C:Int) 0 0 (min (R:Int) (C:Int)) (C:Int)=true:=Ayt (by omega)
  rw [Xb r6 r6 q2 p1,Xb r6 c6 g2 p2]
  exact ⟨rfl,rfl⟩
theorem At0 {r c:Int} {l:List Int} (al:Ah l=true) (h:E8 r c l=0):Ah (Mi r.toNat c.toNat l)=true∧Ah (Kc r.toNat c.toNat l)=true:=by
  obtain ⟨R,C,rfl,rfl,_,_,_,q1,_,g1,_,_,_⟩:=Zn al h
  rw [Ayu,Ayu]
  exact ⟨q1,g1⟩
theorem Aqd {r c:Int} {l:List Int} (al:Ah l=true) (h:E8 r c l=0):Ah (Ea r c l).2.2.1=true∧Ah (Ij r c l).2.2.1=true:=by
  obtain ⟨a,b⟩:=Vd al h
  obtain ⟨q1,g1⟩:=At0 al h
  rw [← a,← b]
  exact ⟨Ai1 q1 _ _ _ _,Ai1 g1 _ _ _ _⟩
theorem qr.Gb.known:qr.Gb.Kn:=qr.Gb.Ac (.cons Aa.Part.known (.cons qr.B2.known .nil)) fun r c l hp=>by
  have al:Ah l=true:=hp
  show ∃ N dv drops,_=some dv∧Wk drops dv (DV.tup [.agg [.int .i64 (Ea r c l).1,.int .i64 (Ea r c l).2.1,.ints .fresh .u64 (Ea r c l).2.2.1],.agg [.int .i64 (Ij r c l).1,.int .i64 (Ij r c l).2.1,.ints .fresh .u64 (Ij r c l).2.2.1],.int .i64 (E8 r c l)])
  by_cases h:E8 r c l=0
  · obtain ⟨e1,e2⟩:=W9 h
    obtain ⟨t1,t2⟩:=Vd al h
    refine ⟨0,DV.tup [.agg [.int .i64 (Ea r c l).1,.int .i64 (Ea r c l).2.1,.ints .fresh .u64 (Ea r c l).2.2.1],.agg [.int .i64 (Ij r c l).1,.int .i64 (Ij r c l).2.1,.ints .fresh .u64 (Ij r c l).2.2.1],.int .i64 0],[],by rw [qr.Gb.ev,al,Ays,Gc h,Ayw,e1,e2,t1,t2],by rw [h]; exact Wk.Gp (.cons (Wk.G8 (.cons .int (.cons .int (.cons .N6 .nil)))) (.cons (Wk.G8 (.cons .int (.cons .int (.cons .N6 .nil)))) (.cons .int .nil)))⟩
  · have e1:Ea r c l=Kl (E8 r c l):=by unfold Ea; rw [if_pos h]
    have e2:Ij r c l=Kl (E8 r c l):=by unfold Ij; rw [if_pos h]
    rw [e1,e2]
    exact ⟨0,Aa9 (E8 r c l),[],by rw [qr.Gb.ev,al,Ays,To h,Ays]; rfl,Ab4⟩
theorem Asl {r c p:Int}:((A4 r c)||(r !=p))=decide (r<c∨r≠p):=by
  rw [As,Ay8]; simp
theorem solve.D4.known:solve.D4.Kn:=solve.D4.Ac (.cons Cy.Check.known (.cons qr.Gb.known (.cons qr.Fx.known (.cons solve.Flat.known (.cons solve.Cq.known .nil))))) fun r c l p q m hp=>by
  obtain ⟨al,am⟩:=Ad.1 (show (Ah l&&Ah m)=true from hp)
  show ∃ N dv drops,_=some dv∧Wk drops dv (Sx (Fo r c l p q m))
  have hrun:=solve.D4.ev 0 r c l p q m
  rw [al,Ays] at hrun
  unfold Fo
  by_cases c1:Cg r c l=0
  · rw [Gc c1,Ayw,am,Ays] at hrun
    rw [if_neg (by rw [c1]; decide)]
    by_cases c2:Cg p q m=0
    · rw [Gc c2,Ayw,Asl] at hrun
      rw [if_neg (by rw [c2]; decide)]
      by_cases c3:r<c∨r≠p
      · rw [Ayt c3,Ays] at hrun
        rw [if_pos c3]
        exact ⟨0+4,_,[],hrun,J0⟩
      · rw [Ayx c3,Ayw,Ays] at hrun
        rw [if_neg c3]
        by_cases c4:E8 r c l=0
        · obtain ⟨i1,i2⟩:=Aqd al c4
          rw [Gc c4,Ayw,i2,Ays] at hrun
          rw [if_neg (by rw [c4]; decide)]
          by_cases c5:(O2 (Ij r c l).1 (Ij r c l).2.1 (Ij r c l).2.2.1).1=true
          · rw [c5,Ays] at hrun
            rw [if_pos c5]
            exact ⟨0+4,_,[],hrun,J0⟩
          · have c5':(O2 (Ij r c l).1 (Ij r c l).2.1 (Ij r c l).2.2.1).1=false:=by simpa using c5
            rw [c5',Ayw,i1,Ayy,Ays] at hrun
            rw [if_neg c5]
            unfold Ap3
            by_cases c6:(Dv (Ea r c l).1 (Ea r c l).2.1 (Ea r c l).2.2.1 p q m).2.2.2=0
            · rw [Gc c6,Ayw,Ajz,Ayy,Ays] at hrun
              rw [if_neg (by rw [c6]; decide)]
              exact ⟨0+4,_,[],hrun,N0⟩
            · rw [To c6,Ays] at hrun
              rw [if_pos c6]
              exact ⟨0+4,_,[],hrun,J0⟩
        · rw [To c4,Ays] at hrun
          rw [if_pos c4]
          exact ⟨0+4,_,[],hrun,J0⟩
    · rw [To c2,Ays] at hrun
      rw [if_pos c2]
      exact ⟨0+4,_,[],hrun,J0⟩
  · rw [To c1,Ays] at hrun
    rw [if_pos c1]
    exact ⟨0+4,_,[],hrun,J0⟩
namespace EqRef17
def Ag.Div.A6:List (Nat × Entry):=[(102,Ag.B.spec),(159,Ag.F.spec)]
def Ag.Div.E:Env:=A9 (A5 Ag.Div.A6) (fun _=>false) (fun _=>none) (fun _=>none)
theorem Ag.Div.ev (N:Nat) (a b:Int):Bq Ag.Div.E N Tryz.f84 (An Tryz.f84) [.int .u64 a,.int .u64 b]=bif (Af a) then bif (Af b) then some (.int .u64 (Fw ((Ieee.double.div (Int.toNat a) (Int.toNat b)).getD nanBits))) else none else none:=by kernel_rfl
abbrev _root_.Go.Proofs.S1.Ag.Div.Kn:=A3 Tryz.prog 84 Ag.Div.spec
theorem Ag.Div.Ac (hk:Ax Tryz.prog Ag.Div.A6) (h:∀ (a b:Int),Ag.Div.pre [.i a,.i b]=true→A8 Ag.Div.E Tryz.f84 [.int .u64 a,.int .u64 b] (Ag.Div.out [.i a,.i b])):Ag.Div.Kn :=
  Ak (Az hk _ _ _) Tryz.func84 (by kernel_rfl) (by kernel_rfl) h
def Ag.Finite.hint:Nat→Option Ba
  | 0=>some { keep:=[0,3],objs:=[],boxes:=[] }
  | _=>none
def Ag.Finite.A6:List (Nat × Entry):=[(131,A1.Finite.spec)]
def Ag.Finite.E:Env:=A9 (A5 Ag.Finite.A6) (fun _=>false) Ag.Finite.hint (fun _=>none)
def Ag.Finite.L0 (N M:Nat) (x:List Int) (p3:Int):Option DV:=B0 Ag.Finite.E N Tryz.f92 (An Tryz.f92) [1,0,1,0] [] M ⟨Gj 16 [(0,.ints .arg .u64 x),(3,.int .i64 p3)],[]⟩
theorem Ag.Finite.Ar (N M:Nat) (x:List Int) (p3:Int):Ag.Finite.L0 N (M+1) x p3=bif (A4 p3 (List.length x:Int)) then bif ((decide (0≤p3))&&(decide (p3<(List.length x:Int)))) then bif (Af (List.getD x (Int.toNat p3) 0)) then bif (!(Cv (List.getD x (Int.toNat p3) 0))) then some (.bool false) else Ag.Finite.L0 N M x (Ab (p3+1)) else none else none else some (.bool true):=by kernel_rfl
theorem Ag.Finite.ev (N:Nat) (x:List Int):Bq Ag.Finite.E N Tryz.f92 (An Tryz.f92) [.ints .arg .u64 x] =
  Ag.Finite.L0 N N x 0:=by kernel_rfl
abbrev _root_.Go.Proofs.S1.Ag.Finite.Kn:=A3 Tryz.prog 92 Ag.Finite.spec
theorem Ag.Finite.Ac (hk:Ax Tryz.prog Ag.Finite.A6) (h:∀ (x:List Int),Ag.Finite.pre [.l x]=true→A8 Ag.Finite.E Tryz.f92 [.ints .arg .u64 x] (Ag.Finite.out [.l x])):Ag.Finite.Kn :=
  Ak (Az hk _ _ _) Tryz.func92 (by kernel_rfl) (by kernel_rfl) h
def Gw.Check.A6:List (Nat × Entry):=[(92,Ag.Finite.spec),(91,Aj.Ib.spec)]
def Gw.Check.E:Env:=A9 (A5 Gw.Check.A6) (fun _=>false) (fun _=>none) (fun _=>none)
theorem Gw.Check.ev (N:Nat) (r c:Int) (l:List Int):Bq Gw.Check.E N Tryz.f25 (An Tryz.f25) [.agg [.int .i64 r,.int .i64 c,.ints .arg .u64 l]]=bif (!(A0 r c l)) then some (.int .i64 1) else bif (Cl l) then bif (!(Df l)) then some (.int .i64 4) else some (.int .i64 0) else none:=by kernel_rfl
abbrev _root_.Go.Proofs.S1.Gw.Check.Kn:=A3 Tryz.prog 25 Gw.Check.spec
theorem Gw.Check.Ac (hk:Ax Tryz.prog Gw.Check.A6) (h:∀ (r c:Int) (l:List Int),Gw.Check.pre [.i r,.i c,.l l]=true→A8 Gw.Check.E Tryz.f25 [.agg [.int .i64 r,.int .i64 c,.ints .arg .u64 l]] (Gw.Check.out [.i r,.i c,.l l])):Gw.Check.Kn :=
  Ak (Az hk _ _ _) Tryz.func25 (by kernel_rfl) (by kernel_rfl) h
def A7.Check.hint:Nat→Option Ba
  | 0=>some { keep:=[2,5],objs:=[],boxes:=[2] }
  | _=>none
def A7.Check.A6:List (Nat × Entry):=[(62,A1.Kind.spec),(80,Aj.At.spec),(25,Gw.Check.spec)]
def A7.Check.E:Env:=A9 (A5 A7.Check.A6) (fun _=>false) A7.Check.hint (fun _=>none)
def A7.Check.L0 (N M:Nat) (r c:Int) (l:List Int) (p5:Int):Option DV:=B0 A7.Check.E N Tryz.f79 (An Tryz.f79) [1,1,1,1,0,1,0] [] M ⟨Gj 40 [(2,.ptr 2 0 0),(5,.int .i64 p5)],[(2,false,.box [.int .i64 r,.int .i64 c,.ints .arg .u64 l])]⟩
theorem A7.Check.Ar (N M:Nat) (r c:Int) (l:List Int) (p5:Int):A7.Check.L0 N (M+1) r c l p5=bif (A4 p5 r) then bif (C2 r c l p5 p5) then bif (Kv (D9 c l p5 p5)) then bif ((Bd (D9 c l p5 p5))==(0:Int)) then some (.int .i64 5) else A7.Check.L0 N M r c l (Ab (p5+1)) else none else none else some (.int .i64 0):=by kernel_rfl
theorem A7.Check.ev (N:Nat) (r c:Int) (l:List Int) (p q:Int) (m:List Int):Bq A7.Check.E N Tryz.f79 (An Tryz.f79) [.agg [.int .i64 r,.int .i64 c,.ints .arg .u64 l],.agg [.int .i64 p,.int .i64 q,.ints .arg .u64 m]]=bif (Ah l) then bif ((Cg r c l) !=(0:Int)) then bif (Ah l) then some (.int .i64 (Cg r c l)) else none else bif (Ah m) then bif ((Cg p q m) !=(0:Int)) then bif (Ah m) then some (.int .i64 (Cg p q m)) else none else bif ((r !=c)||(r !=p)) then some (.int .i64 3) else A7.Check.L0 N N r c l (0:Int) else none else none :=
  Eq.trans (by kernel_rfl)
  (Eh (Eh rfl (Eh (Eh rfl (Av (Se (r !=c)) (Av (Qa (r !=c)) (Av (Se (r !=c)) (Av (Qa (r !=c)) (Av (tt8 (r !=c)) (Av (W4 (r !=c)) (C0 (tt5 (r !=c) (r !=p)) rfl rfl)))))))) rfl)) rfl)
abbrev _root_.Go.Proofs.S1.A7.Check.Kn:=A3 Tryz.prog 79 A7.Check.spec
theorem A7.Check.Ac (hk:Ax Tryz.prog A7.Check.A6) (h:∀ (r c:Int) (l:List Int) (p q:Int) (m:List Int),A7.Check.pre [.i r,.i c,.l l,.i p,.i q,.l m]=true→A8 A7.Check.E Tryz.f79 [.agg [.int .i64 r,.int .i64 c,.ints .arg .u64 l],.agg [.int .i64 p,.int .i64 q,.ints .arg .u64 m]] (A7.Check.out [.i r,.i c,.l l,.i p,.i q,.l m])):A7.Check.Kn :=
  Ak (Az hk _ _ _) Tryz.func79 (by kernel_rfl) (by kernel_rfl) h
def A7.finite.A6:List (Nat × Entry):=[(92,Ag.Finite.spec)]
def A7.finite.E:Env:=A9 (A5 A7.finite.A6) (fun _=>false) (fun _=>none) (fun _=>none)
theorem A7.finite.ev (N:Nat) (r c:Int) (l:List Int):Bq A7.finite.E N Tryz.f85 (An Tryz.f85) [.agg [.int .i64 r,.int .i64 c,.ints .arg .u64 l]]=bif (Cl l) then bif (!(Df l)) then some (.tup [.agg [.int .i64 0,.int .i64 0,.nil],.int .i64 2]) else some (.tup [.agg [.int .i64 r,.int .i64 c,.ints .arg .u64 l],.int .i64 0]) else none:=by kernel_rfl
abbrev _root_.Go.Proofs.S1.A7.finite.Kn:=A3 Tryz.prog 85 A7.finite.spec
theorem A7.finite.Ac (hk:Ax Tryz.prog A7.finite.A6) (h:∀ (r c:Int) (l:List Int),A7.finite.pre [.i r,.i c,.l l]=true→A8 A7.finite.E Tryz.f85 [.agg [.int .i64 r,.int .i64 c,.ints .arg .u64 l]] (A7.finite.out [.i r,.i c,.l l])):A7.finite.Kn :=
  Ak (Az hk _ _ _) Tryz.func85 (by kernel_rfl) (by kernel_rfl) h
def A7.Cq.hint:Nat→Option Ba
  | 0=>some { keep:=[2,3,4,6,7],objs:=[],boxes:=[2,3,4,6] }
  | 2=>some { keep:=[2,3,4,6,7,8],objs:=[],boxes:=[2,3,4,6] }
  | 4=>some { keep:=[2,3,4,6,7,8,9,10],objs:=[],boxes:=[2,3,4,6] }
  | _=>none
def A7.Cq.A6:List (Nat × Entry):=[(84,Ag.Div.spec),(82,Ag.Mul.spec),(81,Ag.Sub.spec),(80,Aj.At.spec),(83,Aj.Ga.spec),(35,Aj.Bf.spec),(79,A7.Check.spec),(85,A7.finite.spec)]
def A7.Cq.E:Env:=A9 (A5 A7.Cq.A6) (fun _=>false) A7.Cq.hint (fun _=>none)
def A7.Cq.L0 (N M:Nat) (r c:Int) (l:List Int) (p q:Int) (m:List Int) (p7:Int) (p6_2:List Int):Option DV:=B0 A7.Cq.E N Tryz.f101 (An Tryz.f101) [1,1,1,0,1,0] [] M ⟨Gj 74 [(2,.ptr 2 0 0),(3,.ptr 3 0 0),(4,.ptr 4 0 0),(6,.ptr 6 0 0),(7,.int .i64 p7)],[(2,false,.box [.int .i64 r,.int .i64 c,.ints .arg .u64 l]),(3,false,.box [.int .i64 p,.int .i64 q,.ints .arg .u64 m]),(4,false,.box [.int .i64 0,.int .i64 0,.nil]),(6,false,.box [.int .i64 p,.int .i64 q,.ints .fresh .u64 p6_2])]⟩
def A7.Cq.L1 (N M0 M:Nat) (r c:Int) (l:List Int) (p q:Int) (m:List Int) (p8:Int) (p6:List Int) (p7_1:Int):Option DV:=B0 A7.Cq.E N Tryz.f101 (An Tryz.f101) [1,1,1,0,1,0,0,1,0,0,1,0] [M0] M ⟨Gj 74 [(2,.ptr 2 0 0),(3,.ptr 3 0 0),(4,.ptr 4 0 0),(6,.ptr 6 0 0),(7,.int .i64 p7_1),(8,.int .i64 p8)],[(2,false,.box [.int .i64 r,.int .i64 c,.ints .arg .u64 l]),(3,false,.box [.int .i64 p,.int .i64 q,.ints .arg .u64 m]),(4,false,.box [.int .i64 0,.int .i64 0,.nil]),(6,false,.box [.int .i64 p,.int .i64 q,.ints .fresh .u64 p6])]⟩
def A7.Cq.L2 (N M0 M1 M:Nat) (r c:Int) (l:List Int) (p q:Int) (m:List Int) (p9 p10:Int) (p7_2 p8_1:Int) (p6_1:List Int):Option DV:=B0 A7.Cq.E N Tryz.f101 (An Tryz.f101) [1,1,1,0,1,0,0,1,0,0,1,0,0,1,0,0,1,0,1,0] [M0,M1] M ⟨Gj 74 [(2,.ptr 2 0 0),(3,.ptr 3 0 0),(4,.ptr 4 0 0),(6,.ptr 6 0 0),(7,.int .i64 p7_2),(8,.int .i64 p8_1),(9,.int .u64 p9),(10,.int .i64 p10)],[(2,false,.box [.int .i64 r,.int .i64 c,.ints .arg .u64 l]),(3,false,.box [.int .i64 p,.int .i64 q,.ints .arg .u64 m]),(4,false,.box [.int .i64 0,.int .i64 0,.nil]),(6,false,.box [.int .i64 p,.int .i64 q,.ints .fresh .u64 p6_1])]⟩
theorem A7.Cq.Ar (N M:Nat) (r c:Int) (l:List Int) (p q:Int) (m:List Int) (p7:Int) (p6_2:List Int):A7.Cq.L0 N (M+1) r c l p q m p7 p6_2=bif (A4 p7 q) then A7.Cq.L1 N M N r c l p q m (Ab (r-1)) p6_2 p7 else bif (Ah p6_2&&A0 p q p6_2) then some (.tup [.agg [.int .i64 ((Kj p q p6_2).1),.int .i64 ((Kj p q p6_2).2.1),.ints .arg .u64 ((Kj p q p6_2).2.2.1)],.int .i64 ((Kj p q p6_2).2.2.2)]) else none:=by kernel_rfl
theorem A7.Cq.B9 (N M0 M:Nat) (r c:Int) (l:List Int) (p q:Int) (m:List Int) (p8:Int) (p6:List Int) (p7_1:Int):A7.Cq.L1 N M0 (M+1) r c l p q m p8 p6 p7_1=bif (D6 0 p8) then bif (C2 p q m p8 p7_1) then A7.Cq.L2 N M0 M N r c l p q m (D9 q m p8 p7_1) (Ab (p8+1)) p7_1 p8 p6 else none else A7.Cq.L0 N M0 r c l p q m (Ab (p7_1+1)) p6:=by kernel_rfl
theorem A7.Cq.Hq (N M0 M1 M:Nat) (r c:Int) (l:List Int) (p q:Int) (m:List Int) (p9 p10:Int) (p7_2 p8_1:Int) (p6_1:List Int):A7.Cq.L2 N M0 M1 (M+1) r c l p q m p9 p10 p7_2 p8_1 p6_1=bif (A4 p10 r) then bif (C2 r c l p8_1 p10) then bif (C2 p q p6_1 p10 p7_2) then bif (Af (D9 c l p8_1 p10)&&Af (D9 q p6_1 p10 p7_2)) then bif (Af p9&&Af (D3 (D9 c l p8_1 p10) (D9 q p6_1 p10 p7_2))) then A7.Cq.L2 N M0 M1 M r c l p q m (Ew p9 (D3 (D9 c l p8_1 p10) (D9 q p6_1 p10 p7_2))) (Ab (p10+1)) p7_2 p8_1 p6_1 else none else none else none else none else bif (C2 r c l p8_1 p8_1) then bif (Af p9&&Af (D9 c l p8_1 p8_1)) then bif (C2 p q p6_1 p8_1 p7_2) then A7.Cq.L1 N M0 M1 r c l p q m (Ab (p8_1-1)) (List.set p6_1 (Int.toNat (p8_1*q+p7_2)) (Fc p9 (D9 c l p8_1 p8_1))) p7_2 else none else none else none :=
  Eq.trans (by kernel_rfl)
  (Eh (C0 (Cx (C2 r c l p8_1 p10)) (C0 (Cx (C2 p q p6_1 p10 p7_2)) (C0 (Cx (Af (D9 c l p8_1 p10)&&Af (D9 q p6_1 p10 p7_2))) (C0 (Cx (Af p9&&Af (D3 (D9 c l p8_1 p10) (D9 q p6_1 p10 p7_2)))) rfl rfl) rfl) rfl) rfl) (C0 (Cx (C2 r c l p8_1 p8_1)) (C0 (Cx (Af p9&&Af (D9 c l p8_1 p8_1))) (C0 (Cx (C2 p q p6_1 p8_1 p7_2)) rfl rfl) rfl) rfl))
theorem A7.Cq.ev (N:Nat) (r c:Int) (l:List Int) (p q:Int) (m:List Int):Bq A7.Cq.E N Tryz.f101 (An Tryz.f101) [.agg [.int .i64 r,.int .i64 c,.ints .arg .u64 l],.agg [.int .i64 p,.int .i64 q,.ints .arg .u64 m]]=bif (Ah l&&Ah m) then bif ((N9 r c l p q m) !=(0:Int)) then bif (Ah l&&Ah m) then some (.tup [.agg [.int .i64 0,.int .i64 0,.nil],.int .i64 (N9 r c l p q m)]) else none else bif (Bg p&&Bg q) then A7.Cq.L0 N N r c l p q m 0 (B7 (Int.toNat p) (Int.toNat q) (fun _ _=>0)) else none else none:=by kernel_rfl
abbrev _root_.Go.Proofs.S1.A7.Cq.Kn:=A3 Tryz.prog 101 A7.Cq.spec
theorem A7.Cq.Ac (hk:Ax Tryz.prog A7.Cq.A6) (h:∀ (r c:Int) (l:List Int) (p q:Int) (m:List Int),A7.Cq.pre [.i r,.i c,.l l,.i p,.i q,.l m]=true→A8 A7.Cq.E Tryz.f101 [.agg [.int .i64 r,.int .i64 c,.ints .arg .u64 l],.agg [.int .i64 p,.int .i64 q,.ints .arg .u64 m]] (A7.Cq.out [.i r,.i c,.l l,.i p,.i q,.l m])):A7.Cq.Kn :=
  Ak (Az hk _ _ _) Tryz.func101 (by kernel_rfl) (by kernel_rfl) h
end EqRef17
open EqRef17
theorem Ag.Div.known:Ag.Div.Kn:=Ag.Div.Ac (.cons Ag.B.known (.cons Ag.F.known .nil)) fun a b hp=>by
  obtain ⟨ha,hb⟩:=Ad.1 hp
  obtain ⟨a,rfl,hn⟩:=Bm ha
  obtain ⟨b,rfl,hm⟩:=Bm hb
  refine ⟨0,Ag.Div.out [.i a,.i b],[],?_,.int⟩
  rw [Ag.Div.ev,ha,hb,Ayu,Ayu]
  unfold Fw
  rw [Ao6 hn hm Gq]; rfl
theorem Ww (N:Nat) {x:List Int} (hx:Cl x=true):∀ (k i F:Nat),i+k=x.length→k<F→Ag.Finite.L0 N F x (i:Int)=some (.bool ((x.drop i).all Cv)):=by
  obtain ⟨hl,hu⟩:=H6 hx
  intro k
  induction k with
  | zero =>
    intro i F hi hF
    obtain ⟨F,rfl⟩:∃ G,F=G+1:=⟨F-1,by omega⟩
    rw [Ag.Finite.Ar,As,Ayx (by omega),Ayw,Ay6 (by omega)]; rfl
  | succ k ih =>
    intro i F hi hF
    obtain ⟨F,rfl⟩:∃ G,F=G+1:=⟨F-1,by omega⟩
    rw [Ag.Finite.Ar,As,Ayt (show (i:Int)<(x.length:Int) by omega),Ays,Ayt (show (0:Int)≤(i:Int) by omega),Ayy,Ays,Ayu,hu i (by omega),Ays,G5 (by omega),List.all_cons]
    cases Cv (x.getD i 0) with
    | false=>rfl
    | true =>
      rw [Bool.not_true,Ayw,Al (by omega) (by omega),Bool.true_and]
      exact ih (i+1) F (by omega) (by omega)
theorem Ag.Finite.known:Ag.Finite.Kn:=Ag.Finite.Ac (.cons A1.Finite.known .nil) fun x hp=>by
  have hp:Cl x=true:=hp
  refine ⟨x.length+1,Ag.Finite.out [.l x],[],?_,.bool⟩
  show _=some (DV.bool (x.all Cv))
  rw [Ag.Finite.ev]
  exact Ww _ hp x.length 0 (x.length+1) (by omega) (by omega)
theorem Gw.Check.known:Gw.Check.Kn:=Gw.Check.Ac (.cons Ag.Finite.known (.cons Aj.Ib.known .nil)) fun r c l hp=>by
  have hp:Ah l=true:=hp
  refine ⟨0,Gw.Check.out [.i r,.i c,.l l],[],?_,.int⟩
  show _=some (DV.int .i64 (Cg r c l))
  rw [Gw.Check.ev]
  unfold Cg
  by_cases h:A0 r c l=true
  · have:=Kq h
    rw [h,Bool.not_true,Ayw,Jb hp (by omega),Ays,if_pos rfl]
    cases Df l<;>rfl
  · have h':A0 r c l=false:=by simpa using h
    rw [h']; rfl
theorem Yd (N:Nat) {n:Nat} {l:List Int} (n6:n≤6) (hl:l.length=n*n) (al:Ah l=true):∀ (cnt i F:Nat),i+cnt=n→cnt<F →
    A7.Check.L0 N F (n:Int) (n:Int) l (i:Int)=some (.int .i64 (if ((List.range n).drop i).any (fun i:Nat=>decide (Bd (D9 (n:Int) l (i:Int) (i:Int))=0))=true then 5 else 0)):=by
  intro cnt
  induction cnt with
  | zero =>
    intro i F hi hF
    obtain ⟨F,rfl⟩:∃ G,F=G+1:=⟨F-1,by omega⟩
    rw [A7.Check.Ar,As,Ayx (by omega),Ayw,Ay6 (by rw [List.length_range]; omega)]; rfl
  | succ cnt ih =>
    intro i F hi hF
    obtain ⟨F,rfl⟩:∃ G,F=G+1:=⟨F-1,by omega⟩
    have hn:Kv (D9 (n:Int) l (i:Int) (i:Int))=true:=by
      obtain ⟨k,hk,_⟩:=Bm (G7 (c:=(n:Int)) (i:=(i:Int)) (k:=(i:Int)) al)
      rw [hk]; exact Ir k
    rw [A7.Check.Ar,As,Ayt (show (i:Int)<(n:Int) by omega),Ays,Du n6 n6 hl (show i<n by omega) (show i<n by omega),Ays,hn,Ays,Yg (by omega),List.any_cons]
    by_cases hk:Bd (D9 (n:Int) l (i:Int) (i:Int))=0
    · have e:(Bd (D9 (n:Int) l (i:Int) (i:Int))==(0:Int))=true:=by rw [hk]; rfl
      rw [e,Ays,Ayt hk]; rfl
    · have e:(Bd (D9 (n:Int) l (i:Int) (i:Int))==(0:Int))=false:=by simpa using hk
      rw [e,Ayw,Ayx hk,Bool.false_or,Al (by omega) (by omega)]
      exact ih (i+1) F (by omega) (by omega)
theorem A7.Check.known:A7.Check.Kn:=A7.Check.Ac (.cons A1.Kind.known (.cons Aj.At.known (.cons Gw.Check.known .nil))) fun r c l p q m hp=>by
  obtain ⟨al,am⟩:=Ad.1 (show (Ah l&&Ah m)=true from hp)
  refine ⟨8,A7.Check.out [.i r,.i c,.l l,.i p,.i q,.l m],[],?_,.int⟩
  show _=some (DV.int .i64 (N9 r c l p q m))
  rw [A7.Check.ev,al,Ays,Ays,am,Ays,Ays,Asi]
  unfold N9
  by_cases h1:Cg r c l=0
  · rw [Gc h1,Ayw,if_neg (by rw [h1]; decide)]
    by_cases h2:Cg p q m=0
    · rw [Gc h2,Ayw,if_neg (by rw [h2]; decide)]
      by_cases h3:r≠c∨r≠p
      · rw [Ayt h3,Ays,if_pos h3]
      · rw [Ayx h3,Ayw,if_neg h3]
        obtain rfl:r=c:=Decidable.byContradiction fun h=>h3 (.inl h)
        obtain ⟨R,C,rfl,hC,r6,c6,hl⟩:=Ce (D8 h1).1
        obtain rfl:R=C:=by omega
        rw [Ayu]
        exact Yd 8 r6 hl al R 0 8 (by omega) (by omega)
    · rw [To h2,Ays,if_pos h2]
  · rw [To h1,Ays,if_pos h1]
def Ae3 (x:MX):DV:=.tup [.agg [.int .i64 x.1,.int .i64 x.2.1,.ints .arg .u64 x.2.2.1],.int .i64 x.2.2.2]
theorem W3 {drops:List Nat} {x:MX}:Wk drops (Ae3 x) (Ae3 x) :=
  Wk.Gp (.cons (Wk.G8 (.cons .int (.cons .int (.cons .W2 .nil)))) (.cons .int .nil))
theorem Qd {drops:List Nat} {e:Int}:Wk drops (Akx e) (Ae3 (Kl e)) :=
  Wk.Gp (.cons (Wk.G8 (.cons .int (.cons .int (.cons (.nil _ _) .nil)))) (.cons .int .nil))
theorem A7.finite.known:A7.finite.Kn:=A7.finite.Ac (.cons Ag.Finite.known .nil) fun r c l hp=>by
  obtain ⟨al,hr⟩:=Ad.1 (show (Ah l&&A0 r c l)=true from hp)
  have:=Kq hr
  show ∃ N dv drops,_=some dv∧Wk drops dv (Ae3 (Kj r c l))
  unfold Kj
  cases hf:Df l with
  | true =>
    rw [if_pos rfl]
    exact ⟨0,_,[],by rw [A7.finite.ev,Jb al (by omega),hf]; rfl,W3⟩
  | false =>
    rw [if_neg (by decide)]
    exact ⟨0,_,[],by rw [A7.finite.ev,Jb al (by omega),hf]; rfl,Qd⟩
section
variable {n Q:Nat} {l m:List Int}
theorem Acm (N:Nat) (n6:n≤6) (q6:Q≤6) (hl:l.length=n*n) (al:Ah l=true) {i j k:Nat} (hi:i+k+1=n) (hj:j<Q) (M0 M1:Nat) :
    ∀ (cnt t F:Nat) (s:Int),t+cnt=n→cnt<F→i+1≤t→Af s=true →
    A7.Cq.L2 N M0 M1 F (n:Int) (n:Int) l (n:Int) (Q:Int) m s (t:Int) (j:Int) (i:Int) (R6 n Q l m j k) =
    A7.Cq.L1 N M0 M1 (n:Int) (n:Int) l (n:Int) (Q:Int) m (Ab ((i:Int)-(1:Int))) (List.set (R6 n Q l m j k) (Int.toNat ((i:Int)*(Q:Int)+(j:Int))) (Fc (Qq (n:Int) l (i:Int) s (t:Int) ((upL (n:Int) l (fun i=>D9 (Q:Int) m (i:Int) (j:Int)) n n).drop t)) (D9 (n:Int) l (i:Int) (i:Int)))) (j:Int):=by
  intro cnt
  induction cnt with
  | zero =>
    intro t F s ht hF hit hs
    obtain ⟨F,rfl⟩:∃ G,F=G+1:=⟨F-1,by omega⟩
    rw [Ay6 (by rw [Mu]; omega),Qq]
    rw [A7.Cq.Hq,As,Ayx (show ¬ (t:Int)<(n:Int) by omega),Ayw,Du n6 n6 hl (show i<n by omega) (show i<n by omega),Ays,hs,G7 al,Ayy,Ays,
      Du n6 q6 (Tr (l:=l) (m:=m) j k) (show i<n by omega) hj,Ays]
  | succ cnt ih =>
    intro t F s ht hF hit hs
    obtain ⟨F,rfl⟩:∃ G,F=G+1:=⟨F-1,by omega⟩
    rw [A7.Cq.Hq,As,Ayt (show (t:Int)<(n:Int) by omega),Ays,Du n6 n6 hl (show i<n by omega) (show t<n by omega),Ays,Du n6 q6 (Tr (l:=l) (m:=m) j k) (show t<n by omega) hj,Ays,
      Aij (show t<n by omega) hj (by omega),G7 al,Agp,Ayy,Ays,hs,Jn,Ayy,Ays,Al (x:=(t:Int)+1) (by omega) (by omega)]
    have:=ih (t+1) F (Ew s (D3 (D9 (n:Int) l (i:Int) (t:Int)) (upF n Q l m t j))) (by omega) (by omega) (by omega) (N3 hs (Jn _ _))
    rw [Abg (by rw [Mu]; omega)]
    exact this
theorem Aew (N:Nat) (n6:n≤6) (q6:Q≤6) (hN:7<N) (hl:l.length=n*n) (hm:m.length=n*Q) (al:Ah l=true) (am:Ah m=true) {j:Nat} (hj:j<Q) (M0:Nat):∀ (cnt k F:Nat),k+cnt=n→cnt<F →
    A7.Cq.L1 N M0 F (n:Int) (n:Int) l (n:Int) (Q:Int) m ((n:Int)-1-(k:Int)) (R6 n Q l m j k) (j:Int) =
    A7.Cq.L0 N M0 (n:Int) (n:Int) l (n:Int) (Q:Int) m ((j+1:Nat):Int) (R6 n Q l m j n):=by
  intro cnt
  induction cnt with
  | zero =>
    intro k F hk hF
    obtain ⟨F,rfl⟩:∃ G,F=G+1:=⟨F-1,by omega⟩
    obtain rfl:k=n:=by omega
    rw [A7.Cq.B9,Ef,Ayx (by omega),Ayw,Al (by omega) (by omega)]
    rfl
  | succ cnt ih =>
    intro k F hk hF
    obtain ⟨F,rfl⟩:∃ G,F=G+1:=⟨F-1,by omega⟩
    obtain ⟨i,hi⟩:∃ i:Nat,i+k+1=n:=⟨n-k-1,by omega⟩
    have ei:(n:Int)-1-(k:Int)=(i:Int):=by omega
    have hr:=Acm (n:=n) (Q:=Q) (l:=l) (m:=m) N n6 q6 hl al hi hj M0 F (n-(i+1)) (i+1) N (D9 (Q:Int) m (i:Int) (j:Int)) (by omega) (by omega) (by omega) (G7 (c:=(Q:Int)) am)
    rw [Aii hi hj (Ail (show i<n by omega)).symm,Al (by omega) (by omega),show (i:Int)-1=(n:Int)-1-((k+1:Nat):Int) by omega] at hr
    rw [ei,A7.Cq.B9,Ef,Ayt (show (0:Int)≤(i:Int) by omega),Ays,Du n6 q6 hm (show i<n by omega) hj,Ays,Al (x:=(i:Int)+1) (by omega) (by omega)]
    exact hr.trans (ih (k+1) F (by omega) (by omega))
theorem Aex (N:Nat) (n6:n≤6) (q6:Q≤6) (hN:7<N) (hl:l.length=n*n) (hm:m.length=n*Q) (al:Ah l=true) (am:Ah m=true):∀ (cnt j F:Nat),j+cnt=Q→cnt<F →
    A7.Cq.L0 N F (n:Int) (n:Int) l (n:Int) (Q:Int) m (j:Int) (R6 n Q l m j 0)=some (Ae3 (Kj (n:Int) (Q:Int) (R6 n Q l m Q 0))):=by
  intro cnt
  induction cnt with
  | zero =>
    intro j F hj hF
    obtain ⟨F,rfl⟩:∃ G,F=G+1:=⟨F-1,by omega⟩
    obtain rfl:j=Q:=by omega
    have hr:A0 (n:Int) (j:Int) (R6 n j l m j 0)=true:=Pr _ n6 q6
    rw [A7.Cq.Ar,As,Ayx (by omega),Ayw,Amh,hr,Ayy,Ays]
    rfl
  | succ cnt ih =>
    intro j F hj hF
    obtain ⟨F,rfl⟩:∃ G,F=G+1:=⟨F-1,by omega⟩
    have hr:=Aew N n6 q6 hN hl hm al am (show j<Q by omega) F n 0 N (by omega) (by omega)
    rw [Ad1,show (n:Int)-1-((0:Nat):Int)=(n:Int)-1 by omega] at hr
    rw [A7.Cq.Ar,As,Ayt (show (j:Int)<(Q:Int) by omega),Ays,Al (x:=(n:Int)-1) (by omega) (by omega)]
    exact hr.trans (ih (j+1) F (by omega) (by omega))
end
theorem A7.Cq.known:A7.Cq.Kn:=A7.Cq.Ac (.cons Ag.Div.known (.cons Ag.Mul.known (.cons Ag.Sub.known (.cons Aj.At.known (.cons Aj.Ga.known (.cons Aj.Bf.known (.cons A7.Check.known (.cons A7.finite.known .nil)))))))) fun r c l p q m hp=>by
  have hp:(Ah l&&Ah m)=true:=hp
  obtain ⟨al,am⟩:=Ad.1 hp
  show ∃ N dv drops,_=some dv∧Wk drops dv (Ae3 (Tq r c l p q m))
  unfold Tq
  by_cases h:N9 r c l p q m=0
  · obtain ⟨h1,h2,rfl,rfl⟩:=O7 h
    have s1:=Ip h2
    obtain ⟨R,C,rfl,hC,r6,c6,hl⟩:=Ce h1
    obtain ⟨P,Q,hP,rfl,p6,q6,hl2⟩:=Ce h2
    obtain rfl:R=C:=by omega
    obtain rfl:R=P:=by omega
    have n:=Aex (n:=R) (Q:=Q) (l:=l) (m:=m) 8 r6 q6 (by omega) hl hl2 al am Q 0 8 (by omega) (by omega)
    rw [Ad0,Aik,show ((0:Nat):Int)=0 from rfl] at n
    rw [if_neg (by rw [h]; decide),Ayu,Ayu]
    refine ⟨8,_,[],?_,W3⟩
    rw [A7.Cq.ev,al,am,Ayy,Ays,Gc h,Ayw,s1.1,s1.2,Ayy,Ays,Ayu,Ayu]
    exact n
  · rw [if_pos h]
    exact ⟨0,_,[],by rw [A7.Cq.ev,hp,Ays,Ays,To h,Ays]; rfl,Qd⟩
namespace EqRef14
def B6.B2.hint:Nat→Option Ba
  | 0=>some { keep:=[1,2,3,4,5],objs:=[(0,4,100004,.recs 191 3 [])],boxes:=[1,2,3] }
  | 2=>some { keep:=[2,3,4,9,10],objs:=[(0,4,100004,.recs 191 3 [])],boxes:=[2,3,9] }
  | _=>none
def B6.B2.A6:List (Nat × Entry):=[(92,Ag.Finite.spec),(108,Aj.P7.spec),(33,Aj.Ey.arg.spec),(198,Bb.Apply.spec),(196,Bb.Dq.spec),(197,B6.Dm.spec)]
def B6.B2.E:Env:=Tc (A5 B6.B2.A6) (fun _=>false) B6.B2.hint (fun _=>none) (Ab1 [(22,[.s .u64]),(37,[.i .u64])])
def B6.B2.L0 (N M:Nat) (r c:Int) (l:List Int) (p5:Int) (p3:List Int) (p4:List (List DV)):Option DV:=B0 B6.B2.E N Tryz.f127 (An Tryz.f127) [1,1,1,0,1,0] [] M ⟨Gj 95 [(1,.ptr 1 0 0),(2,.ptr 2 0 0),(3,.ptr 3 0 0),(4,.oref 100004),(5,.int .i64 p5)],[(1,false,.box [.int .i64 r,.int .i64 c,.ints .arg .u64 l]),(2,false,.box [.int .i64 0,.int .i64 0,.nil,.int .i64 0,.int .i64 0,.nil,.bool false]),(3,false,.box [.int .i64 r,.int .i64 c,.ints .arg .u64 p3]),(100004,false,.recs 191 3 p4)]⟩
def B6.B2.L1 (N M:Nat) (r c p10:Int) (p3_1:List Int) (p4_1:List (List DV)) (p9:List Int):Option DV:=B0 B6.B2.E N Tryz.f127 (An Tryz.f127) [1,1,1,1,1,0,1,0] [] M ⟨Gj 95 [(2,.ptr 2 0 0),(3,.ptr 3 0 0),(4,.oref 100004),(9,.ptr 9 0 0),(10,.int .i64 p10)],[(2,false,.box [.int .i64 0,.int .i64 0,.nil,.int .i64 0,.int .i64 0,.nil,.bool false]),(3,false,.box [.int .i64 r,.int .i64 c,.ints .arg .u64 p3_1]),(9,false,.box [.int .i64 r,.int .i64 r,.ints .arg .u64 p9]),(100004,false,.recs 191 3 p4_1)]⟩
theorem B6.B2.Ar (N M:Nat) (r c:Int) (l:List Int) (p5:Int) (p3:List Int) (p4:List (List DV)):B6.B2.L0 N (M+1) r c l p5 p3 p4=bif ((A4 p5 c)&&(A4 p5 (Ab (r-1)))) then bif (G6 r c p3 p5&&Cz (0≤p5∧p5≤r)) then bif (Cl (Cu c p3 p5 p5 (Int.toNat (r-p5)))) then bif (!(Df (Cu c p3 p5 p5 (Int.toNat (r-p5))))) then some (.agg [.int .i64 0,.int .i64 0,.nil,.int .i64 0,.int .i64 0,.nil,.bool false]) else bif (Cl (Cu c p3 p5 p5 (Int.toNat (r-p5)))&&Cz (1≤List.length (Cu c p3 p5 p5 (Int.toNat (r-p5)))∧List.length (Cu c p3 p5 p5 (Int.toNat (r-p5)))≤64)) then bif (!(decide ((Jo (Cu c p3 p5 p5 (Int.toNat (r-p5)))).2.2.2=0))) then some (.agg [.int .i64 0,.int .i64 0,.nil,.int .i64 0,.int .i64 0,.nil,.bool false]) else bif (((A0 r c p3&&Ho r c p5 p5 ((Jo (Cu c p3 p5 p5 (Int.toNat (r-p5)))).1))&&(Ah p3&&Ah ((Jo (Cu c p3 p5 p5 (Int.toNat (r-p5)))).1)))&&Af ((Jo (Cu c p3 p5 p5 (Int.toNat (r-p5)))).2.1)) then bif (A0 r c (E9 (Int.toNat r) (Int.toNat c) p3 p5 p5 ((Jo (Cu c p3 p5 p5 (Int.toNat (r-p5)))).1) ((Jo (Cu c p3 p5 p5 (Int.toNat (r-p5)))).2.1))&&Cz (0≤p5∧p5<r∧p5<c)) then bif (decide ((List.length p4)+1≤Aaf)) then B6.B2.L0 N M r c l (Ab (p5+1)) (Na (Int.toNat r) (Int.toNat c) (E9 (Int.toNat r) (Int.toNat c) p3 p5 p5 ((Jo (Cu c p3 p5 p5 (Int.toNat (r-p5)))).1) ((Jo (Cu c p3 p5 p5 (Int.toNat (r-p5)))).2.1)) (Int.toNat p5) ((Jo (Cu c p3 p5 p5 (Int.toNat (r-p5)))).2.2.1)) (p4++[[.ints .arg .u64 ((Jo (Cu c p3 p5 p5 (Int.toNat (r-p5)))).1),.int .u64 ((Jo (Cu c p3 p5 p5 (Int.toNat (r-p5)))).2.1),.int .u64 ((Jo (Cu c p3 p5 p5 (Int.toNat (r-p5)))).2.2.1)]]) else none else none else none else none else none else none else bif (Bg r) then B6.B2.L1 N N r c (Ab ((List.length p4:Int)-1)) p3 p4 (I5 (Int.toNat r)) else none :=
  Eq.trans (by kernel_rfl)
  (Av (N2 (A4 p5 c)) (Av (N2 (A4 p5 c)) (Av (Lt (A4 p5 c)) (Av (Lt (A4 p5 c)) (Av (Xs (A4 p5 c)) (Av (Sr (A4 p5 c)) (C0 (tt1 (A4 p5 c) (A4 p5 (Ab (r-1)))) (Eh (Eh (Eh rfl (Eh (Eh rfl (C0 (Cx (((A0 r c p3&&Ho r c p5 p5 ((Jo (Cu c p3 p5 p5 (Int.toNat (r-p5)))).1))&&(Ah p3&&Ah ((Jo (Cu c p3 p5 p5 (Int.toNat (r-p5)))).1)))&&Af ((Jo (Cu c p3 p5 p5 (Int.toNat (r-p5)))).2.1))) (C0 (Cx (A0 r c (E9 (Int.toNat r) (Int.toNat c) p3 p5 p5 ((Jo (Cu c p3 p5 p5 (Int.toNat (r-p5)))).1) ((Jo (Cu c p3 p5 p5 (Int.toNat (r-p5)))).2.1))&&Cz (0≤p5∧p5<r∧p5<c))) rfl rfl) rfl)) rfl)) rfl) rfl) rfl)))))))
theorem B6.B2.B9 (N M:Nat) (r c p10:Int) (p3_1:List Int) (p4_1:List (List DV)) (p9:List Int):B6.B2.L1 N (M+1) r c p10 p3_1 p4_1 p9=bif (D6 0 p10) then bif ((decide (0≤p10))&&(decide (p10<(List.length p4_1:Int)))) then bif ((decide ((Int.toNat p10)<(List.length p4_1)))&&(isC (.s .u64) (List.getD (List.getD p4_1 (Int.toNat p10) []) 0 .undef))) then bif ((decide (0≤p10))&&(decide (p10<(List.length p4_1:Int)))) then bif ((decide ((Int.toNat p10)<(List.length p4_1)))&&(isC (.i .u64) (List.getD (List.getD p4_1 (Int.toNat p10) []) 1 .undef))) then bif (((A0 r r p9&&Ho r r p10 0 (Iu (List.getD (List.getD p4_1 (Int.toNat p10) []) 0 .undef)))&&(Ah p9&&Ah (Iu (List.getD (List.getD p4_1 (Int.toNat p10) []) 0 .undef))))&&Af (O4 (List.getD (List.getD p4_1 (Int.toNat p10) []) 1 .undef))) then B6.B2.L1 N M r c (Ab (p10-1)) p3_1 p4_1 (E9 (Int.toNat r) (Int.toNat r) p9 p10 0 (Iu (List.getD (List.getD p4_1 (Int.toNat p10) []) 0 .undef)) (O4 (List.getD (List.getD p4_1 (Int.toNat p10) []) 1 .undef))) else none else none else none else none else none else bif (Cl p9) then bif ((!(Df p9))||(Cl p3_1)) then bif ((!(Df p9))||(!(Df p3_1))) then some (.agg [.int .i64 0,.int .i64 0,.nil,.int .i64 0,.int .i64 0,.nil,.bool false]) else some (.agg [.int .i64 r,.int .i64 r,.ints .arg .u64 p9,.int .i64 r,.int .i64 c,.ints .arg .u64 p3_1,.bool true]) else none else none :=
  Eq.trans (by kernel_rfl)
  (Eh (C0 (Ko (decide (0≤p10)) (decide (p10<(List.length p4_1:Int)))) (C0 (Ko (decide ((Int.toNat p10)<(List.length p4_1))) (isC (.s .u64) (List.getD (List.getD p4_1 (Int.toNat p10) []) 0 .undef))) (C0 (Ko (decide (0≤p10)) (decide (p10<(List.length p4_1:Int)))) (C0 (Ko (decide ((Int.toNat p10)<(List.length p4_1))) (isC (.i .u64) (List.getD (List.getD p4_1 (Int.toNat p10) []) 1 .undef))) (C0 (Cx (((A0 r r p9&&Ho r r p10 0 (Iu (List.getD (List.getD p4_1 (Int.toNat p10) []) 0 .undef)))&&(Ah p9&&Ah (Iu (List.getD (List.getD p4_1 (Int.toNat p10) []) 0 .undef))))&&Af (O4 (List.getD (List.getD p4_1 (Int.toNat p10) []) 1 .undef)))) rfl rfl) rfl) rfl) rfl) rfl) (Eh (Av (Ab8 (Df p9)) (Av (R8 (Df p9)) (C0 (Amo (Df p9) (Cl p3_1)) (Av (R8 (Df p9)) (Av (Ab9 (Df p9)) (C0 (Amp (Df p9) (Df p3_1)) rfl rfl))) rfl))) rfl))
theorem B6.B2.ev (N:Nat) (r c:Int) (l:List Int):Bq B6.B2.E N Tryz.f127 (An Tryz.f127) [.agg [.int .i64 r,.int .i64 c,.ints .arg .u64 l]] =
  B6.B2.L0 N N r c l 0 l []:=by kernel_rfl
abbrev _root_.Go.Proofs.S1.B6.B2.Kn:=A3 Tryz.prog 127 B6.B2.spec
theorem B6.B2.Ac (hk:Ax Tryz.prog B6.B2.A6) (h:∀ (r c:Int) (l:List Int),B6.B2.pre [.i r,.i c,.l l]=true→A8 B6.B2.E Tryz.f127 [.agg [.int .i64 r,.int .i64 c,.ints .arg .u64 l]] (B6.B2.out [.i r,.i c,.l l])):B6.B2.Kn :=
  Ak (U4 hk _ _ _ _) Tryz.func127 (by kernel_rfl) (by kernel_rfl) h
def B6.Gb.A6:List (Nat × Entry):=[(128,Aj.Part.spec),(127,B6.B2.spec)]
def B6.Gb.E:Env:=A9 (A5 B6.Gb.A6) (fun _=>false) (fun _=>none) (fun _=>none)
theorem B6.Gb.ev (N:Nat) (r c:Int) (l:List Int):Bq B6.Gb.E N Tryz.f100 (An Tryz.f100) [.agg [.int .i64 r,.int .i64 c,.ints .arg .u64 l]]=bif ((A0 r c l&&Df l)&&Ah l) then bif (!(decide (E8 r c l=0))) then some (.agg [.int .i64 ((qX r c l).1),.int .i64 ((qX r c l).2.1),.ints .arg .u64 ((qX r c l).2.2.1),.int .i64 ((rX r c l).1),.int .i64 ((rX r c l).2.1),.ints .arg .u64 ((rX r c l).2.2.1),.bool (decide (E8 r c l=0))]) else bif (A0 ((qX r c l).1) ((qX r c l).2.1) ((qX r c l).2.2.1)&&Hv ((qX r c l).1) ((qX r c l).2.1) 0 0 r (min r c)) then bif (A0 ((rX r c l).1) ((rX r c l).2.1) ((rX r c l).2.2.1)&&Hv ((rX r c l).1) ((rX r c l).2.1) 0 0 (min r c) c) then some (.agg [.int .i64 r,.int .i64 (min r c),.ints .fresh .u64 (B7 (Int.toNat r) (Int.toNat (min r c)) (fun j1 j2=>D9 ((qX r c l).2.1) ((qX r c l).2.2.1) ((0:Int)+j1) ((0:Int)+j2))),.int .i64 (min r c),.int .i64 c,.ints .fresh .u64 (B7 (Int.toNat (min r c)) (Int.toNat c) (fun j1 j2=>D9 ((rX r c l).2.1) ((rX r c l).2.2.1) ((0:Int)+j1) ((0:Int)+j2))),.bool true]) else none else none else none :=
  Eq.trans (by kernel_rfl)
  (Eh (Eh rfl (C0 (Cx (A0 ((qX r c l).1) ((qX r c l).2.1) ((qX r c l).2.2.1)&&Hv ((qX r c l).1) ((qX r c l).2.1) 0 0 r (min r c))) (C0 (Cx (A0 ((rX r c l).1) ((rX r c l).2.1) ((rX r c l).2.2.1)&&Hv ((rX r c l).1) ((rX r c l).2.1) 0 0 (min r c) c)) rfl rfl) rfl)) rfl)
abbrev _root_.Go.Proofs.S1.B6.Gb.Kn:=A3 Tryz.prog 100 B6.Gb.spec
theorem B6.Gb.Ac (hk:Ax Tryz.prog B6.Gb.A6) (h:∀ (r c:Int) (l:List Int),B6.Gb.pre [.i r,.i c,.l l]=true→A8 B6.Gb.E Tryz.f100 [.agg [.int .i64 r,.int .i64 c,.ints .arg .u64 l]] (B6.Gb.out [.i r,.i c,.l l])):B6.Gb.Kn :=
  Ak (Az hk _ _ _) Tryz.func100 (by kernel_rfl) (by kernel_rfl) h
def A7.D4.A6:List (Nat × Entry):=[(45,Aj.Mul.spec),(37,Aj.Cs.spec),(25,Gw.Check.spec),(100,B6.Gb.spec),(26,A7.Flat.spec),(101,A7.Cq.spec)]
def A7.D4.E:Env:=A9 (A5 A7.D4.A6) (fun _=>false) (fun _=>none) (fun _=>none)
theorem A7.D4.ev (N:Nat) (r c:Int) (l:List Int) (p q:Int) (m:List Int):Bq A7.D4.E N Tryz.f32 (An Tryz.f32) [.agg [.int .i64 r,.int .i64 c,.ints .arg .u64 l],.agg [.int .i64 p,.int .i64 q,.ints .arg .u64 m]]=bif (Ah l) then bif ((Cg r c l) !=(0:Int)) then bif (Ah l) then some (.tup [.agg [.int .i64 0,.int .i64 0,.nil],.int .i64 (Cg r c l)]) else none else bif (Ah m) then bif ((Cg p q m) !=(0:Int)) then bif (Ah m) then some (.tup [.agg [.int .i64 0,.int .i64 0,.nil],.int .i64 (Cg p q m)]) else none else bif ((A4 r c)||(r !=p)) then some (.tup [.agg [.int .i64 0,.int .i64 0,.nil],.int .i64 3]) else bif ((A0 r c l&&Df l)&&Ah l) then bif (!(decide (E8 r c l=0))) then some (.tup [.agg [.int .i64 0,.int .i64 0,.nil],.int .i64 2]) else bif ((A0 ((Ij r c l).1) ((Ij r c l).2.1) ((Ij r c l).2.2.1)&&Ah ((Ij r c l).2.2.1))&&Df ((Ij r c l).2.2.1)) then bif (Qx ((Ij r c l).1) ((Ij r c l).2.1) ((Ij r c l).2.2.1)) then some (.tup [.agg [.int .i64 0,.int .i64 0,.nil],.int .i64 5]) else bif (A0 ((Ea r c l).1) ((Ea r c l).2.1) ((Ea r c l).2.2.1)) then bif ((A0 ((Ea r c l).2.1) ((Ea r c l).1) (B7 (Int.toNat ((Ea r c l).2.1)) (Int.toNat ((Ea r c l).1)) (fun j1 j2=>D9 ((Ea r c l).2.1) ((Ea r c l).2.2.1) j2 j1))&&A0 p q m)&&((Ah (B7 (Int.toNat ((Ea r c l).2.1)) (Int.toNat ((Ea r c l).1)) (fun j1 j2=>D9 ((Ea r c l).2.1) ((Ea r c l).2.2.1) j2 j1))&&Ah m)&&decide (((Ea r c l).1)=p))) then bif (Ah ((Ij r c l).2.2.1)&&Ah (B7 (Int.toNat ((Ea r c l).2.1)) (Int.toNat q) (fun j1 j2=>Jg (Ha ((Ea r c l).1) (B7 (Int.toNat ((Ea r c l).2.1)) (Int.toNat ((Ea r c l).1)) (fun j1 j2=>D9 ((Ea r c l).2.1) ((Ea r c l).2.2.1) j2 j1)) j1) (Kk p q m j2)))) then some (.tup [.agg [.int .i64 ((Tq ((Ij r c l).1) ((Ij r c l).2.1) ((Ij r c l).2.2.1) ((Ea r c l).2.1) q (B7 (Int.toNat ((Ea r c l).2.1)) (Int.toNat q) (fun j1 j2=>Jg (Ha ((Ea r c l).1) (B7 (Int.toNat ((Ea r c l).2.1)) (Int.toNat ((Ea r c l).1)) (fun j1 j2=>D9 ((Ea r c l).2.1) ((Ea r c l).2.2.1) j2 j1)) j1) (Kk p q m j2)))).1),.int .i64 ((Tq ((Ij r c l).1) ((Ij r c l).2.1) ((Ij r c l).2.2.1) ((Ea r c l).2.1) q (B7 (Int.toNat ((Ea r c l).2.1)) (Int.toNat q) (fun j1 j2=>Jg (Ha ((Ea r c l).1) (B7 (Int.toNat ((Ea r c l).2.1)) (Int.toNat ((Ea r c l).1)) (fun j1 j2=>D9 ((Ea r c l).2.1) ((Ea r c l).2.2.1) j2 j1)) j1) (Kk p q m j2)))).2.1),.ints .arg .u64 ((Tq ((Ij r c l).1) ((Ij r c l).2.1) ((Ij r c l).2.2.1) ((Ea r c l).2.1) q (B7 (Int.toNat ((Ea r c l).2.1)) (Int.toNat q) (fun j1 j2=>Jg (Ha ((Ea r c l).1) (B7 (Int.toNat ((Ea r c l).2.1)) (Int.toNat ((Ea r c l).1)) (fun j1 j2=>D9 ((Ea r c l).2.1) ((Ea r c l).2.2.1) j2 j1)) j1) (Kk p q m j2)))).2.2.1)],.int .i64 ((Tq ((Ij r c l).1) ((Ij r c l).2.1) ((Ij r c l).2.2.1) ((Ea r c l).2.1) q (B7 (Int.toNat ((Ea r c l).2.1)) (Int.toNat q) (fun j1 j2=>Jg (Ha ((Ea r c l).1) (B7 (Int.toNat ((Ea r c l).2.1)) (Int.toNat ((Ea r c l).1)) (fun j1 j2=>D9 ((Ea r c l).2.1) ((Ea r c l).2.2.1) j2 j1)) j1) (Kk p q m j2)))).2.2.2)]) else none else none else none else none else none else none else none :=
  Eq.trans (by kernel_rfl)
  (Eh (Eh rfl (Eh (Eh rfl (Av (Se (A4 r c)) (Av (Qa (A4 r c)) (Av (Se (A4 r c)) (Av (Qa (A4 r c)) (Av (tt8 (A4 r c)) (Av (W4 (A4 r c)) (C0 (tt5 (A4 r c) (r !=p)) rfl (Eh (Eh rfl (Eh (Eh rfl (C0 (Cx (A0 ((Ea r c l).1) ((Ea r c l).2.1) ((Ea r c l).2.2.1))) (C0 (Cx ((A0 ((Ea r c l).2.1) ((Ea r c l).1) (B7 (Int.toNat ((Ea r c l).2.1)) (Int.toNat ((Ea r c l).1)) (fun j1 j2=>D9 ((Ea r c l).2.1) ((Ea r c l).2.2.1) j2 j1))&&A0 p q m)&&((Ah (B7 (Int.toNat ((Ea r c l).2.1)) (Int.toNat ((Ea r c l).1)) (fun j1 j2=>D9 ((Ea r c l).2.1) ((Ea r c l).2.2.1) j2 j1))&&Ah m)&&decide (((Ea r c l).1)=p)))) (C0 (Cx (Ah ((Ij r c l).2.2.1)&&Ah (B7 (Int.toNat ((Ea r c l).2.1)) (Int.toNat q) (fun j1 j2=>Jg (Ha ((Ea r c l).1) (B7 (Int.toNat ((Ea r c l).2.1)) (Int.toNat ((Ea r c l).1)) (fun j1 j2=>D9 ((Ea r c l).2.1) ((Ea r c l).2.2.1) j2 j1)) j1) (Kk p q m j2))))) rfl rfl) rfl) rfl)) rfl)) rfl))))))))) rfl)) rfl)
abbrev _root_.Go.Proofs.S1.A7.D4.Kn:=A3 Tryz.prog 32 A7.D4.spec
theorem A7.D4.Ac (hk:Ax Tryz.prog A7.D4.A6) (h:∀ (r c:Int) (l:List Int) (p q:Int) (m:List Int),A7.D4.pre [.i r,.i c,.l l,.i p,.i q,.l m]=true→A8 A7.D4.E Tryz.f32 [.agg [.int .i64 r,.int .i64 c,.ints .arg .u64 l],.agg [.int .i64 p,.int .i64 q,.ints .arg .u64 m]] (A7.D4.out [.i r,.i c,.l l,.i p,.i q,.l m])):A7.D4.Kn :=
  Ak (Az hk _ _ _) Tryz.func32 (by kernel_rfl) (by kernel_rfl) h
end EqRef14
open EqRef13 EqRef14
theorem Aj.Ga.arg.known:Aj.Ga.arg.Kn:=A3.Ama (P:=_) (pre:=Aj.Ga.pre) (out:=Aj.Ga.out) Aj.Ga.known [] fun ats h=>by
  unfold Aj.Ga.arg.pre at h
  split at h
  · exact ⟨h,Wk.G8 (.cons .int (.cons .int (.cons (.fresh _ _) .nil)))⟩
  · cases h
theorem Aj.Ey.arg.known:Aj.Ey.arg.Kn:=A3.Ama (P:=_) (pre:=Aj.Ey.pre) (out:=Aj.Ey.out) Aj.Ey.known [] fun ats h=>by
  unfold Aj.Ey.arg.pre at h
  split at h
  · exact ⟨h,Wk.G8 (.cons .int (.cons .int (.cons (.fresh _ _) .nil)))⟩
  · cases h
theorem Vl (N:Nat) {x:List Int} (hx:Cl x=true):∀ (k i F:Nat),i+k=x.length→k<F→Bb.Bz.L0 N F x (i:Int)=some (.bool (Ed (x.drop i))):=by
  obtain ⟨hl,hu⟩:=H6 hx
  intro k
  induction k with
  | zero =>
    intro i F hi hF
    obtain ⟨F,rfl⟩:∃ G,F=G+1:=⟨F-1,by omega⟩
    rw [Bb.Bz.Ar,As,Ayx (by omega),Ayw,Ay6 (by omega)]; rfl
  | succ k ih =>
    intro i F hi hF
    obtain ⟨F,rfl⟩:∃ G,F=G+1:=⟨F-1,by omega⟩
    obtain ⟨n,hn,_⟩:=Bm (hu i (by omega))
    rw [Bb.Bz.Ar,As,Ayt (show (i:Int)<(x.length:Int) by omega),Ays,Ayt (show (0:Int)≤(i:Int) by omega),Ayy,Ays,Ayu,show Kv (x.getD i 0)=true by rw [hn]; exact Ir n,Ays,Xi,G5 (by omega)]
    unfold Ed
    rw [List.all_cons]
    cases decide (Bd (x.getD i 0)=0) with
    | false=>rfl
    | true =>
      rw [Bool.not_true,Ayw,Bool.true_and,Al (by omega) (by omega)]
      exact ih (i+1) F (by omega) (by omega)
theorem Bb.Bz.known:Bb.Bz.Kn:=Bb.Bz.Ac (.cons A1.Kind.known .nil) fun x hp=>by
  refine ⟨x.length+1,.bool (Ed (x.drop 1)),[],?_,.bool⟩
  rw [Bb.Bz.ev]
  by_cases h:x.length=0
  · rw [Bb.Bz.Ar,As,Ayx (by omega),Ayw,Ay6 (by omega)]; rfl
  · exact Vl (x.length+1) hp (x.length-1) 1 (x.length+1) (by omega) (by omega)
theorem Z9 (N:Nat) {x:List Int} (hx:Cl x=true):∀ (k i F:Nat),i+k=x.length→k<F→Bb.lead.L0 N F x (i:Int)=some (.int .i64 (P5 (x.drop i) (i:Int))):=by
  obtain ⟨hl,hu⟩:=H6 hx
  intro k
  induction k with
  | zero =>
    intro i F hi hF
    obtain ⟨F,rfl⟩:∃ G,F=G+1:=⟨F-1,by omega⟩
    rw [Bb.lead.Ar,As,Ayx (by omega),Ayw,Ay6 (by omega)]; rfl
  | succ k ih =>
    intro i F hi hF
    obtain ⟨F,rfl⟩:∃ G,F=G+1:=⟨F-1,by omega⟩
    obtain ⟨n,hn,_⟩:=Bm (hu i (by omega))
    rw [Bb.lead.Ar,As,Ayt (show (i:Int)<(x.length:Int) by omega),Ays,Ayt (show (0:Int)≤(i:Int) by omega),Ayy,Ays,Ayu,show Kv (x.getD i 0)=true by rw [hn]; exact Ir n,Ays,Xi,G5 (by omega),P5]
    by_cases h:Bd (x.getD i 0)=0
    · rw [Ayt h,if_pos h,Bool.not_true,Ayw,Al (by omega) (by omega)]
      exact ih (i+1) F (by omega) (by omega)
    · rw [Ayx h,if_neg h]; rfl
theorem Bb.lead.known:Bb.lead.Kn:=Bb.lead.Ac (.cons A1.Kind.known .nil) fun x hp=>by
  refine ⟨x.length+1,.int .i64 (P5 x 0),[],?_,.int⟩
  rw [Bb.lead.ev]
  exact Z9 (x.length+1) hp x.length 0 (x.length+1) (by omega) (by omega)
theorem Ajb:∀ (x:List Int) (i:Nat),Ed x=false→∃ j:Nat,P5 x (i:Int)=((i+j:Nat):Int)∧j<x.length∧x.getD j 0=Oy x
  | [],i,h=>by cases h
  | b::l,i,h=>by
    unfold P5 Oy
    by_cases hk:Bd b=0
    · rw [if_pos hk,if_pos hk]
      have h':Ed l=false:=by
        unfold Ed at h ⊢
        rw [List.all_cons,Ayt hk,Bool.true_and] at h
        exact h
      obtain ⟨j,e1,e2,e3⟩:=Ajb l (i+1) h'
      refine ⟨j+1,?_,by simp; omega,by simpa using e3⟩
      have:((i:Int)+1)=((i+1:Nat):Int):=rfl
      rw [this,e1]; omega
    · rw [if_neg hk,if_neg hk]
      exact ⟨0,rfl,by simp,rfl⟩
theorem Acz {x:List Int} (h:Ed (x.drop 1)=false):Ed x=false:=by
  cases x with
  | nil=>exact h
  | cons b l =>
    have h:Ed l=false:=h
    unfold Ed at h ⊢
    rw [List.all_cons,h,Bool.and_false]
theorem Z7 (N:Nat) {x:List Int} (h64:x.length≤64):∀ (k i F:Nat),i+1+k=x.length→k<F →
    Bb.Dq.L0 N F x ((i+1:Nat):Int) (Jd (i+1) fun _=>0)=some (.tup [.agg [.ints (.own 100004 tB) .u64 (Jd x.length fun _=>0),.int .u64 0,.int .u64 (x.getD 0 0)],.bool true]):=by
  intro k
  induction k with
  | zero =>
    intro i F hi hF
    obtain ⟨F,rfl⟩:∃ G,F=G+1:=⟨F-1,by omega⟩
    rw [Bb.Dq.Ar,As,Ayx (by omega),Ayw,Ayt (by omega),Ays,show i+1=x.length by omega]
  | succ k ih =>
    intro i F hi hF
    obtain ⟨F,rfl⟩:∃ G,F=G+1:=⟨F-1,by omega⟩
    rw [Bb.Dq.Ar,As,Ayt (by omega),Ays,Ayt (by rw [Pf (by omega)]; unfold Gt; omega),Ays,Al (by omega) (by omega)]
    have:=ih (i+1) F (by omega) (by omega)
    rw [Jt (i+1+1) (i+1) _ rfl,G1] at this
    rw [Jt (i+1) i _ rfl]
    exact this
theorem Acq (N:Nat) {y:List Int} {mu beta d:Int} (ay:Ah y=true) (hmu:Af mu=true) (hd:Af d=true) (h64:y.length≤64):∀ (k i F:Nat),i+1+k=y.length→k<F →
    Bb.Dq.L2 N F y mu beta d ((i+1:Nat):Int) (Jd (i+1) fun j=>Fc (y.getD j 0) d)=some (.tup [.agg [.ints (.own 100004 tB) .u64 (Jd y.length fun j=>Fc (y.getD j 0) d),.int .u64 (Fc (Ew mu (y.getD 0 0)) mu),.int .u64 beta],.bool true]):=by
  intro k
  induction k with
  | zero =>
    intro i F hi hF
    obtain ⟨F,rfl⟩:∃ G,F=G+1:=⟨F-1,by omega⟩
    have hy:=Ix ay 0
    rw [Bb.Dq.Hq,As,Ayx (by omega),Ayw,Ayt (show (0:Int)<(y.length:Int) by omega),Ays,Ayt (show 0<y.length by omega),Ays,hmu,hy,Ayy,Ays,N3 hmu hy,Ayy,Ays,show i+1=y.length by omega]
  | succ k ih =>
    intro i F hi hF
    obtain ⟨F,rfl⟩:∃ G,F=G+1:=⟨F-1,by omega⟩
    rw [Bb.Dq.Hq,As,Ayt (show ((i+1:Nat):Int)<(y.length:Int) by omega),Ays,Ayt (show (0:Int)≤((i+1:Nat):Int) by omega),Ayy,Ays,Ayu,Ayt (show i+1<y.length by omega),Ays,Ix ay,hd,Ayy,Ays,Ayt (by rw [Pf (by omega)]; unfold Gt; omega),Ays,Al (by omega) (by omega)]
    have:=ih (i+1) F (by omega) (by omega)
    rw [Jt (i+1+1) (i+1) _ rfl,G1] at this
    rw [Jt (i+1) i _ rfl]
    exact this
theorem Yc (N:Nat) {x:List Int} (hx:Cl x=true) (hl:x.length≤64):∀ (k i F:Nat),i+k=x.length→k<F →
    Bb.Dq.L1 N F x (i:Int) ((x.take i).map fun b=>By b (-Br (Be x)))=Bb.Dq.L1 N (F-k) x (x.length:Int) (Bn x (-Br (Be x))):=by
  obtain ⟨_,hu⟩:=H6 hx
  have he:=Zo (Be x)
  intro k
  induction k with
  | zero =>
    intro i F hi hF
    rw [show i=x.length by omega,List.take_of_length_le (Nat.le_refl _)]; rfl
  | succ k ih =>
    intro i F hi hF
    obtain ⟨F,rfl⟩:∃ G,F=G+1:=⟨F-1,by omega⟩
    rw [Bb.Dq.B9,As,Ayt (show (i:Int)<(x.length:Int) by omega),Ays,Ayt (show (0:Int)≤(i:Int) by omega),Ayy,Ays,Ayu,Al (x:=(0:Int)-Br (Be x)) (by omega) (by omega),show (0:Int)-Br (Be x)=-Br (Be x) by omega,
      show Dh (List.getD x i 0) (-Br (Be x))=true from Ad.2 ⟨hu i (by omega),Aq.2 (by omega)⟩,Ays,Ayt (by rw [List.length_map,List.length_take]; unfold Gt; omega),Ays,Al (by omega) (by omega)]
    have:=ih (i+1) F (by omega) (by omega)
    rw [Xu (by omega)] at this
    rw [show F+1-(k+1)=F-k by omega]
    exact this
theorem Bb.Dq.known:Bb.Dq.Kn:=Bb.Dq.Ac (.cons A1.Finite.known (.cons A1.Dp.known (.cons A1.Neg.known (.cons Bp.Lu.known (.cons Ag.Bo.known (.cons Ag.Div.known (.cons Ag.Norm.known (.cons Ag.Bs.known (.cons Ag.Sub.known (.cons Bb.lead.known (.cons Bb.Bz.known .nil))))))))))) fun x hp=>by
  obtain ⟨hx,hl⟩:=Ad.1 (show (Cl x&&Cz (1≤List.length x∧List.length x≤64))=true from hp)
  have hl:=Aq.1 hl
  have al:=O8 hx
  have he:=Zo (Be x)
  show ∃ N dv drops,_=some dv∧Wk drops dv (DV.tup [.agg [.ints .fresh .u64 (Jo x).1,.int .u64 (Jo x).2.1,.int .u64 (Jo x).2.2.1],.bool (decide ((Jo x).2.2.2=0))])
  have hrun:=Bb.Dq.ev 66 x
  rw [hx,Ays] at hrun
  unfold Jo
  by_cases h3:Ed (x.drop 1)=true
  · rw [h3,Ays] at hrun
    rw [if_pos h3]
    exact ⟨66,_,[100004],hrun.trans (Z7 66 (by omega) (x.length-1) 0 66 (by omega) (by omega)),Wk.Gp (.cons (Wk.G8 (.cons (.drop _ _ _ _ (List.mem_singleton.2 rfl)) (.cons .int (.cons .int .nil)))) (.cons .bool .nil))⟩
  · rw [if_neg h3]
    have h3:Ed (x.drop 1)=false:=by simpa using h3
    rw [h3,Ayw,Ays,Oa,Ays] at hrun
    have hs:=Yc 66 hx hl.2 x.length 0 66 (by omega) (by omega)
    have hrun:=hrun.trans hs
    obtain ⟨j,j1,j2,j3⟩:=Ajb x 0 (Acz h3)
    rw [Nat.zero_add] at j1
    have j1:P5 x 0=(j:Int):=j1
    have ly:=Aav x (-Br (Be x))
    have ay:=Aaw (-Br (Be x)) al
    have oky:Cl (Bn x (-Br (Be x)))=true:=Jb ay (by omega)
    have iy:=Ix ay 0
    have gy:=Rh (x:=x) (k:=-Br (Be x)) (j:=0) (by omega)
    have sp:∀ mu:Int,Af mu=true→Dh mu (Br (Be x))=true:=fun mu h=>Ad.2 ⟨h,Aq.2 (by omega)⟩
    have ny:=Xe (Bn x (-Br (Be x)))
    obtain ⟨F,hF⟩:∃ F,66-x.length=F+1:=⟨65-x.length,by omega⟩
    have key:∀ mu:Int,muI x=mu→Af mu=true→Bb.Dq.L2 66 66 (Bn x (-Br (Be x))) mu (By mu (Br (Be x))) (Ew ((Bn x (-Br (Be x))).getD 0 0) mu) 1 [4607182418800017408]=some (.tup [.agg [.ints (.own 100004 tB) .u64 (Sb x),.int .u64 (S3 x),.int .u64 (E6 x)],.bool true]):=by
      intro mu hmu hi
      have:=Acq 66 (y:=Bn x (-Br (Be x))) (mu:=mu) (beta:=By mu (Br (Be x))) (d:=Ew ((Bn x (-Br (Be x))).getD 0 0) mu) ay hi (N3 iy hi) (by omega) (x.length-1) 0 66 (by omega) (by omega)
      have e1:Jd (Bn x (-Br (Be x))).length (fun j=>Fc (List.getD (Bn x (-Br (Be x))) j 0) (Ew (List.getD (Bn x (-Br (Be x))) 0 0) mu))=Sb x:=by
        unfold Sb
        rw [ly,gy,← hmu]
        exact Aaz fun j hj=>by rw [Rh hj]; rfl
      have e2:Fc (Ew mu (List.getD (Bn x (-Br (Be x))) 0 0)) mu=S3 x:=by
        unfold S3
        rw [gy,hmu]; rfl
      have e3:By mu (Br (Be x))=E6 x:=by unfold E6; rw [hmu]
      rw [e1,e2] at this
      rw [e3] at this ⊢
      exact this
    have fin:∀ (b:Bool) (d:Option DV),Cv (E6 x)=b→(d=bif (!b) then some (.tup [.agg [.nil,.int .u64 (0:Int),.int .u64 (0:Int)],.bool false]) else some (.tup [.agg [.ints (.own 100004 tB) .u64 (Sb x),.int .u64 (S3 x),.int .u64 (E6 x)],.bool true])) →
        ∃ dv drops,d=some dv∧Wk drops dv (DV.tup [.agg [.ints .fresh .u64 (if Cv (E6 x)=true then (Sb x,S3 x,E6 x,(0:Int)) else ([],0,0,2)).1,.int .u64 (if Cv (E6 x)=true then (Sb x,S3 x,E6 x,(0:Int)) else ([],0,0,2)).2.1,.int .u64 (if Cv (E6 x)=true then (Sb x,S3 x,E6 x,(0:Int)) else ([],0,0,2)).2.2.1],.bool (decide ((if Cv (E6 x)=true then (Sb x,S3 x,E6 x,(0:Int)) else ([],0,0,2)).2.2.2=0))]):=by
      intro b d hb h
      cases b with
      | true =>
        rw [hb,if_pos rfl]
        exact ⟨_,[100004],h,Wk.Gp (.cons (Wk.G8 (.cons (.drop _ _ _ _ (List.mem_singleton.2 rfl)) (.cons .int (.cons .int .nil)))) (.cons .bool .nil))⟩
      | false =>
        rw [hb,if_neg (by decide)]
        exact ⟨_,[],h,Wk.Gp (.cons (Wk.G8 (.cons L7 (.cons .int (.cons .int .nil)))) (.cons .bool .nil))⟩
    have go:=fin (Cv (E6 x)) _ rfl (hrun.trans ?_)
    · obtain ⟨dv,drops,k1,k2⟩:=go
      exact ⟨66,dv,drops,k1,k2⟩
    have hlead:=Xh al
    rw [hF,Bb.Dq.B9,As,Ayx (show ¬ (x.length:Int)<(x.length:Int) by omega),Ayw,oky,Ays,hx,Ays,j1,Ayt (show (0:Int)≤(j:Int) by omega),Ayt (show (j:Int)<(x.length:Int) by omega),Ayy,Ays,Ayu,j3,hlead,Ays]
    have d1:decide ((0:Int)<((Bn x (-Br (Be x))).length:Int))=true:=Ayt (by omega)
    have d2:decide (0<(Bn x (-Br (Be x))).length)=true:=Ayt (by omega)
    cases hn:Dt (Oy x) with
    | true =>
      have hm:muI x=Dk (Bn x (-Br (Be x))):=by unfold muI; rw [if_pos hn]
      have eb:E6 x=By (Dk (Bn x (-Br (Be x)))) (Br (Be x)):=by unfold E6; rw [hm]
      rw [Bool.not_true,Ayw,sp _ ny,Ays,Hu ny,Ays,key _ hm ny,d1,Ays,d2,Ays,iy,ny,Ayy,Ays,eb]
    | false =>
      have hm:muI x=Db (Dk (Bn x (-Br (Be x)))):=by unfold muI; rw [if_neg (by rw [hn]; decide)]
      have my:=Yw ny
      have eb:E6 x=By (Db (Dk (Bn x (-Br (Be x))))) (Br (Be x)):=by unfold E6; rw [hm]
      rw [Bool.not_false,Ays,ny,Ays,sp _ my,Ays,Hu my,Ays,key _ hm my,d1,Ays,d2,Ays,iy,my,Ayy,Ays,eb]
open EqRef13 EqRef14
theorem Ait {c b i:Int} {l:List Int} {n j:Nat} (h:j<n):(Cu c l b i n).getD j 0=D9 c l (i+(j:Int)) b:=by
  unfold Cu
  rw [Ay2,List.getElem?_map,List.getElem?_range h]; rfl
theorem Qf (a c b:Nat):Int.toNat ((a:Int)*(c:Int)+(b:Int))=a*c+b:=by rw [← Azd,← Int.natCast_add,Ayu]
section
variable {R C i k:Nat} {l v:List Int} {t:Int}
theorem Ye (N M0:Nat) (r6:R≤6) (c6:C≤6) (al:Ah l=true) (av:Ah v=true) (hv:i+v.length≤R) {c:Nat} (hc:c<C) (hk:k≤c):∀ (cnt j F:Nat),j+cnt=v.length→cnt<F →
    Bb.Apply.L1 N M0 F (R:Int) (C:Int) l (i:Int) v t (j:Int) (apS R C l i k v t c j) (c:Int) (Cu (C:Int) l (c:Int) (i:Int) (R-i)) (Tk (C:Int) l (i:Int) v t (c:Int)) =
    Bb.Apply.L0 N M0 (R:Int) (C:Int) l (i:Int) v t ((c+1:Nat):Int) (apS R C l i k v t (c+1) 0):=by
  intro cnt
  induction cnt with
  | zero =>
    intro j F hj hF
    obtain ⟨F,rfl⟩:∃ G,F=G+1:=⟨F-1,by omega⟩
    obtain rfl:j=v.length:=by omega
    rw [Bb.Apply.B9,As,Ayx (by omega),Ayw,Al (by omega) (by omega),Agd]
    rfl
  | succ cnt ih =>
    intro j F hj hF
    obtain ⟨F,rfl⟩:∃ G,F=G+1:=⟨F-1,by omega⟩
    have e1:Ab ((i:Int)+(j:Int))=((i+j:Nat):Int):=by rw [Al (by omega) (by omega)]; omega
    have hat:C2 (R:Int) (C:Int) (apS R C l i k v t c j) ((i+j:Nat):Int) (c:Int)=true:=Du r6 c6 (Ajs c j) (by omega) hc
    have sl:=Gd (C:Int) (c:Int) (i:Int) (R-i) l
    have a1:=Ix av j
    have a2:=Ix (Pc (c:=(C:Int)) (b:=(c:Int)) (i:=(i:Int)) (n:=R-i) al) j
    have a3:Af (Tk (C:Int) l (i:Int) v t (c:Int))=true:=Jn _ _
    have hx:Ew ((Cu (C:Int) l (c:Int) (i:Int) (R-i)).getD j 0) (D3 (Tk (C:Int) l (i:Int) v t (c:Int)) (v.getD j 0))=P0 (C:Int) l (i:Int) (k:Int) v t ((i+j:Nat):Int) (c:Int):=by
      rw [Agb hk (by omega),Ait (by omega),Ait (by omega)]
    rw [Bb.Apply.B9,As,Ayt (show (j:Int)<(v.length:Int) by omega),Ays,e1,sl,Ayt (show (0:Int)≤(j:Int) by omega),Ayt (show (j:Int)<((R-i:Nat):Int) by omega),Ayy,Ays,Ays,Ayu,a3,a1,Ayy,Ays,a2,Jn,Ayy,Ays,hat,Ays,
      Qf,Ajr hc hk (by omega) hx,Al (by omega) (by omega)]
    exact ih (j+1) F (by omega) (by omega)
theorem Yf (N:Nat) (r6:R≤6) (c6:C≤6) (hN:7<N) (hr:A0 (R:Int) (C:Int) l=true) (al:Ah l=true) (av:Ah v=true) (ht:Af t=true) (hv:i+v.length≤R):∀ (cnt c F:Nat),c+cnt=C→k≤c→cnt<F →
    Bb.Apply.L0 N F (R:Int) (C:Int) l (i:Int) v t (c:Int) (apS R C l i k v t c 0) =
    some (.agg [.int .i64 (R:Int),.int .i64 (C:Int),.ints .arg .u64 (E9 R C l (i:Int) (k:Int) v t)]):=by
  intro cnt
  induction cnt with
  | zero =>
    intro c F hc hk hF
    obtain ⟨F,rfl⟩:∃ G,F=G+1:=⟨F-1,by omega⟩
    obtain rfl:c=C:=by omega
    rw [Bb.Apply.Ar,As,Ayx (by omega),Ayw,Ajt]
  | succ cnt ih =>
    intro c F hc hk hF
    obtain ⟨F,rfl⟩:∃ G,F=G+1:=⟨F-1,by omega⟩
    have cp:G6 (R:Int) (C:Int) l (c:Int)=true:=Ad.2 ⟨hr,Aq.2 (by omega)⟩
    have e0:Int.toNat ((R:Int)-(i:Int))=R-i:=by omega
    have st:=Aem (c:=(C:Int)) (b:=(c:Int)) (i:=(i:Int)) (l:=l) (m:=v.length) (n:=R-i) (by omega)
    have sl2:=Gd (C:Int) (c:Int) (i:Int) (R-i) l
    have sl:=Gd (C:Int) (c:Int) (i:Int) v.length l
    have sa:=Pc (c:=(C:Int)) (b:=(c:Int)) (i:=(i:Int)) (n:=v.length) al
    have ft:O3 v (Cu (C:Int) l (c:Int) (i:Int) v.length)=true:=Ru.2 ⟨by omega,by omega⟩
    rw [Bb.Apply.Ar,As,Ayt (by omega),Ays,cp,Aq.2 (show 0≤(i:Int)∧(i:Int)≤(R:Int) by omega),Ayy,Ays,e0,Ayu,st,sl2,
      Ayt (show (0:Int)≤(v.length:Int) by omega),Ayt (show (v.length:Int)≤((R-i:Nat):Int) by omega),Ayy,Ays,ft,av,sa,Ayy,Ayy,Ays,ht,Rx,Ayy,Ays]
    have:=Ye (t:=t) N F r6 c6 al av hv (show c<C by omega) hk v.length 0 N (by omega) (by omega)
    exact this.trans (ih (c+1) F (by omega) (by omega) (by omega))
end
theorem Bb.Apply.known:Bb.Apply.Kn:=Bb.Apply.Ac (.cons Ag.H3.known (.cons Ag.Mul.known (.cons Ag.Sub.known (.cons Aj.P7.known (.cons Aj.Ga.arg.known .nil))))) fun r c l i k v t hp=>by
  obtain ⟨h1,ht⟩:=Ad.1 (show (((A0 r c l&&Ho r c i k v)&&(Ah l&&Ah v))&&Af t)=true from hp)
  obtain ⟨h2,h3⟩:=Ad.1 h1
  obtain ⟨hr,hb⟩:=Ad.1 h2
  obtain ⟨al,av⟩:=Ad.1 h3
  have hb:=of_decide_eq_true hb
  obtain ⟨R,C,rfl,rfl,r6,c6,hl⟩:=Ce hr
  obtain ⟨i,rfl⟩:∃ j:Nat,i=j:=⟨i.toNat,by omega⟩
  obtain ⟨k,rfl⟩:∃ j:Nat,k=j:=⟨k.toNat,by omega⟩
  refine ⟨8,Bb.Apply.out [.i (R:Int),.i (C:Int),.l l,.i (i:Int),.i (k:Int),.l v,.i t],[],?_,Wk.G8 (.cons .int (.cons .int (.cons .W2 .nil)))⟩
  show _=some (DV.agg [.int .i64 (R:Int),.int .i64 (C:Int),.ints .arg .u64 (E9 (Int.toNat (R:Int)) (Int.toNat (C:Int)) l (i:Int) (k:Int) v t)])
  rw [Bb.Apply.ev,Ayu,Ayu]
  have:=Yf (R:=R) (C:=C) (i:=i) (k:=k) (l:=l) (v:=v) (t:=t) 8 r6 c6 (by omega) hr al av ht (by omega) (C-k) k 8 (by omega) (by omega) (by omega)
  rw [Agc hl] at this
  exact this
theorem Akl (N:Nat) {R C j:Nat} {l:List Int} {x:Int} (r6:R≤6) (c6:C≤6) (hj:j<C):∀ (cnt i F:Nat),i+cnt=R→j<i→cnt<F →
    B6.Dm.L0 N F (R:Int) (C:Int) (j:Int) (i:Int) (clS R C l j x i)=some (.agg [.int .i64 (R:Int),.int .i64 (C:Int),.ints .arg .u64 (Na R C l j x)]):=by
  intro cnt
  induction cnt with
  | zero =>
    intro i F hi hji hF
    obtain ⟨F,rfl⟩:∃ G,F=G+1:=⟨F-1,by omega⟩
    obtain rfl:i=R:=by omega
    rw [B6.Dm.Ar,As,Ayx (by omega),Ayw,Ajp]
  | succ cnt ih =>
    intro i F hi hji hF
    obtain ⟨F,rfl⟩:∃ G,F=G+1:=⟨F-1,by omega⟩
    have hat:C2 (R:Int) (C:Int) (clS R C l j x i) (i:Int) (j:Int)=true:=Du r6 c6 (Ajo i) (by omega) hj
    rw [B6.Dm.Ar,As,Ayt (by omega),Ays,hat,Ays,Qf,Ajn hj hji,Al (by omega) (by omega)]
    exact ih (i+1) F (by omega) (by omega) (by omega)
theorem B6.Dm.known:B6.Dm.Kn:=B6.Dm.Ac (.cons Aj.Ga.arg.known .nil) fun r c l j b hp=>by
  obtain ⟨hr,hj⟩:=Ad.1 (show (A0 r c l&&Cz (0≤j∧j<r∧j<c))=true from hp)
  have hj:=Aq.1 hj
  obtain ⟨R,C,rfl,rfl,r6,c6,hl⟩:=Ce hr
  obtain ⟨j,rfl⟩:∃ i:Nat,j=i:=⟨j.toNat,by omega⟩
  refine ⟨8,.agg [.int .i64 (R:Int),.int .i64 (C:Int),.ints .arg .u64 (Na R C l j b)],[],?_,?_⟩
  · rw [B6.Dm.ev,Du r6 c6 hl (by omega) (by omega),Ays,Qf,V4 hl (by omega),Al (by omega) (by omega)]
    exact Akl 8 r6 c6 (by omega) (R-(j+1)) (j+1) 8 (by omega) (by omega) (by omega)
  · show Wk _ _ (DV.agg [.int .i64 (R:Int),.int .i64 (C:Int),.ints .arg .u64 (Na (Int.toNat (R:Int)) (Int.toNat (C:Int)) l (Int.toNat (j:Int)) b)])
    rw [Ayu,Ayu,Ayu]
    exact Wk.G8 (.cons .int (.cons .int (.cons .W2 .nil)))
def V8 (rows:List (List DV)) (ms:List (List Int × Int)):Prop:=rows.length=ms.length∧∀ i,i<ms.length→∃ b:Int,rows.getD i []=[.ints .arg .u64 (ms.getD i ([],0)).1,.int .u64 (ms.getD i ([],0)).2,.int .u64 b]
theorem V8.Ayc {rows:List (List DV)} {ms:List (List Int × Int)} (h:V8 rows ms) (v:List Int) (t b:Int):V8 (rows++[[.ints .arg .u64 v,.int .u64 t,.int .u64 b]]) (ms++[(v,t)]):=by
  refine ⟨by rw [List.length_append,List.length_append,h.1]; rfl,fun i hi=>?_⟩
  rw [List.length_append] at hi
  by_cases hlt:i<ms.length
  · obtain ⟨b',hb⟩:=h.2 i hlt
    refine ⟨b',?_⟩
    rw [Ay2,List.getElem?_append_left (by rw [h.1]; exact hlt),← Ay2,hb,Ay2 (l:=ms++_),List.getElem?_append_left hlt,← Ay2]
  · have he:i=ms.length:=by
      have:i<ms.length+1:=hi
      omega
    refine ⟨b,?_⟩
    rw [Ay2,List.getElem?_append_right (by rw [h.1]; omega),Ay2 (l:=ms++_),List.getElem?_append_right (by omega),he,h.1,Nat.sub_self]
    rfl
def Anq:DV:=.agg [.int .i64 0,.int .i64 0,.nil,.int .i64 0,.int .i64 0,.nil,.bool false]
theorem An1 {x:List Int} (h0:x.length≠0) (h:x.length≤64) (hf:Df x=true):Cm x=Jo x:=by
  unfold Cm; rw [if_neg (by omega),if_pos hf]
theorem Aaa (N:Nat) {R C:Nat} (l0:List Int) (r6:R≤6) (c6:C≤6):∀ (cnt j F:Nat) (l:List Int) (rows:List (List DV)) (ms:List (List Int × Int)),j+cnt=H9 R C→cnt<F→l.length=R*C→Ah l=true→ms.length=j→V8 rows ms →
    (M9 R C cnt j l=none→B6.B2.L0 N F (R:Int) (C:Int) l0 (j:Int) l rows=some Anq) ∧
    (∀ x,M9 R C cnt j l=some x→∃ rows',V8 rows' (ms++x.2)∧B6.B2.L0 N F (R:Int) (C:Int) l0 (j:Int) l rows=B6.B2.L1 N N (R:Int) (C:Int) (Ab ((rows'.length:Int)-1)) x.1 rows' (I5 R)):=by
  intro cnt
  induction cnt with
  | zero =>
    intro j F l rows ms hj hF hl al hms hrows
    obtain ⟨F,rfl⟩:∃ G,F=G+1:=⟨F-1,by omega⟩
    unfold H9 at hj
    have hlt:(A4 (j:Int) (C:Int)&&A4 (j:Int) (Ab ((R:Int)-1)))=false:=by
      rw [As,As,Al (by omega) (by omega),Bool.and_eq_false_iff,Azb,Azb]; omega
    refine ⟨fun h=>(by cases h),fun x hx=>?_⟩
    cases hx
    refine ⟨rows,by rw [List.append_nil]; exact hrows,?_⟩
    rw [B6.B2.Ar,hlt,Ayw,No r6,Ays,Ayu]
  | succ cnt ih =>
    intro j F l rows ms hj hF hl al hms hrows
    obtain ⟨F,rfl⟩:∃ G,F=G+1:=⟨F-1,by omega⟩
    have hj0:=hj
    unfold H9 at hj
    have hr:=Fg r6 c6 hl
    have hlt:(A4 (j:Int) (C:Int)&&A4 (j:Int) (Ab ((R:Int)-1)))=true:=by
      rw [As,As,Al (by omega) (by omega),Ayt (by omega),Ayt (by omega)]; rfl
    have cp:G6 (R:Int) (C:Int) l (j:Int)=true:=Ad.2 ⟨hr,Aq.2 (by omega)⟩
    have ec:Cu (C:Int) l (j:Int) (j:Int) (Int.toNat ((R:Int)-(j:Int)))=E5 R C l j:=by unfold E5; rw [show Int.toNat ((R:Int)-(j:Int))=R-j by omega]
    have ca:Ah (E5 R C l j)=true:=Pc al
    have cl:(E5 R C l j).length=R-j:=Gd _ _ _ _ _
    have cok:=Jb ca (by omega)
    rw [B6.B2.Ar,hlt,Ays,cp,Aq.2 (show 0≤(j:Int)∧(j:Int)≤(R:Int) by omega),Ayy,Ays,ec,cok,Ays,Ayu,Ayu,Ayu]
    unfold M9
    by_cases hf:Df (E5 R C l j)=true
    · have hmk:=An1 (x:=E5 R C l j) (by omega) (by omega) hf
      rw [hf,Bool.not_true,Ayw,Aq.2 (show 1≤(E5 R C l j).length∧(E5 R C l j).length≤64 by omega),Ayy,Ays,← hmk]
      by_cases he:(Cm (E5 R C l j)).2.2.2=0
      · have hml:=Um he
        have hma:=Un ca
        have hap:Ho (R:Int) (C:Int) (j:Int) (j:Int) (Cm (E5 R C l j)).1=true:=Ayt (by omega)
        have hlen:=K9 R C l (j:Int) (j:Int) (Cm (E5 R C l j)).1 (Cm (E5 R C l j)).2.1
        have hn:=ih (j+1) F (Yu R C l j) (rows++[[.ints .arg .u64 (Cm (E5 R C l j)).1,.int .u64 (Cm (E5 R C l j)).2.1,.int .u64 (Cm (E5 R C l j)).2.2.1]]) (ms++[((Cm (E5 R C l j)).1,(Cm (E5 R C l j)).2.1)]) (by omega) (by omega) (Nr _ _ _ _) (Xf al j) (by rw [List.length_append,hms]; rfl) (hrows.Ayc _ _ _)
        rw [if_pos he,Ayt he,Bool.not_true,Ayw,hr,hap,al,hma.1,hma.2.1,Ayy,Ayy,Ayy,Ays,Fg r6 c6 hlen,Aq.2 (show 0≤(j:Int)∧(j:Int)<(R:Int)∧(j:Int)<(C:Int) by omega),Ayy,Ays,Ayt (show rows.length+1≤Aaf by rw [hrows.1]; unfold Aaf; omega),Ays,Al (by omega) (by omega)]
        refine ⟨fun h=>?_,fun x hx=>?_⟩
        · rw [Option.map_eq_none_iff] at h
          exact hn.1 h
        · rw [Option.map_eq_some_iff] at hx
          obtain ⟨y,hy,rfl⟩:=hx
          obtain ⟨rows',h1,h2⟩:=hn.2 y hy
          refine ⟨rows',?_,h2⟩
          rw [List.append_assoc] at h1
          exact h1
      · rw [if_neg he,Ayx he,Bool.not_false,Ays]
        exact ⟨fun _=>rfl,fun x hx=>(by cases hx)⟩
    · have hf':Df (E5 R C l j)=false:=by simpa using hf
      have he:(Cm (E5 R C l j)).2.2.2≠0:=by
        unfold Cm
        rw [if_neg (by omega),if_neg hf]
        exact (by decide:(4:Int)≠0)
      rw [hf',Bool.not_false,Ays,if_neg he]
      exact ⟨fun _=>rfl,fun x hx=>(by cases hx)⟩
theorem Aab (N:Nat) {R C:Nat} {L:List Int} (r6:R≤6) {ms:List (List Int × Int)} {rows:List (List DV)} (hrows:V8 rows ms) (hm:Abb R 0 ms) (aL:Cl L=true) (hn:ms.length≤6):∀ (j F:Nat),j≤ms.length→j<F →
    B6.B2.L1 N F (R:Int) (C:Int) ((j:Int)-1) L rows (Hg R j (ms.drop j) (I5 R)) =
    bif (Df (Hg R 0 ms (I5 R))&&Df L) then some (.agg [.int .i64 (R:Int),.int .i64 (R:Int),.ints .arg .u64 (Hg R 0 ms (I5 R)),.int .i64 (R:Int),.int .i64 (C:Int),.ints .arg .u64 L,.bool true]) else some Anq:=by
  have h36:=Amw r6
  intro j
  induction j with
  | zero =>
    intro F _ hF
    obtain ⟨F,rfl⟩:∃ G,F=G+1:=⟨F-1,by omega⟩
    have hb:=Ry R ms 0 (I5 R) (U3 R) (by unfold I5; exact Ca _ _ _)
    have ok1:Cl (Hg R 0 ms (I5 R))=true:=Jb hb.1 (by omega)
    rw [B6.B2.B9,Ef,Ayx (by omega),Ayw,List.drop_zero,ok1,Ays,aL,Bool.or_true,Ays]
    cases Df (Hg R 0 ms (I5 R)) with
    | false=>rfl
    | true=>cases Df L<;>rfl
  | succ j ih =>
    intro F hj hF
    obtain ⟨F,rfl⟩:∃ G,F=G+1:=⟨F-1,by omega⟩
    have ej:(((j+1:Nat):Int))-1=(j:Int):=by omega
    have hg:=Vt hm j (by omega)
    have hb:=Ry R (ms.drop (j+1)) (j+1) (I5 R) (U3 R) (by unfold I5; exact Ca _ _ _)
    have hr1:=Fg r6 r6 hb.2
    have hap:Ho (R:Int) (R:Int) (j:Int) 0 (ms.getD j ([],0)).1=true:=Ayt (by omega)
    obtain ⟨b,hrow⟩:=hrows.2 j (by omega)
    rw [B6.B2.B9,ej,Ef,Ayt (show (0:Int)≤(j:Int) by omega),Ays,hrows.1,Ayt (show (j:Int)<(ms.length:Int) by omega),Ayy,Ays,Ayu,Ayt (show j<ms.length by omega),hrow,Ayu]
    show (bif true then bif true then bif true then (bif (((A0 (R:Int) (R:Int) (Hg R (j+1) (ms.drop (j+1)) (I5 R))&&Ho (R:Int) (R:Int) (j:Int) (0:Int) (ms.getD j ([],0)).1)&&(Ah (Hg R (j+1) (ms.drop (j+1)) (I5 R))&&Ah (ms.getD j ([],0)).1))&&Af (ms.getD j ([],0)).2) then
      B6.B2.L1 N F (R:Int) (C:Int) (Ab ((j:Int)-(1:Int))) L rows (E9 R R (Hg R (j+1) (ms.drop (j+1)) (I5 R)) (j:Int) (0:Int) (ms.getD j ([],0)).1 (ms.getD j ([],0)).2) else none) else none else none else none)=_
    rw [Ays,Ays,Ays,hr1,hap,hb.1,hg.1,hg.2.1,Ayy,Ayy,Ayy,Ays,Al (by omega) (by omega),← Aby (by omega)]
    exact ih F (by omega) (by omega)
theorem Asr {drops:List Nat} {e:Int}:Wk drops Anq (DV.agg [.int .i64 (Kl e).1,.int .i64 (Kl e).2.1,.ints .arg .u64 (Kl e).2.2.1,.int .i64 (Kl e).1,.int .i64 (Kl e).2.1,.ints .arg .u64 (Kl e).2.2.1,.bool false]) :=
  Wk.G8 (.cons .int (.cons .int (.cons L7 (.cons .int (.cons .int (.cons L7 (.cons .bool .nil)))))))
theorem B6.B2.known:B6.B2.Kn:=B6.B2.Ac (.cons Ag.Finite.known (.cons Aj.P7.known (.cons Aj.Ey.arg.known (.cons Bb.Apply.known (.cons Bb.Dq.known (.cons B6.Dm.known .nil)))))) fun r c l hp=>by
  obtain ⟨h1,al⟩:=Ad.1 (show ((A0 r c l&&Df l)&&Ah l)=true from hp)
  obtain ⟨hr,hf⟩:=Ad.1 h1
  have hc:Cg r c l=0:=Ape hr hf
  obtain ⟨R,C,rfl,rfl,r6,c6,hl⟩:=Ce hr
  show ∃ N dv drops,_=some dv∧Wk drops dv (DV.agg [.int .i64 (qX (R:Int) (C:Int) l).1,.int .i64 (qX (R:Int) (C:Int) l).2.1,.ints .arg .u64 (qX (R:Int) (C:Int) l).2.2.1,.int .i64 (rX (R:Int) (C:Int) l).1,.int .i64 (rX (R:Int) (C:Int) l).2.1,.ints .arg .u64 (rX (R:Int) (C:Int) l).2.2.1,.bool (decide (E8 (R:Int) (C:Int) l=0))])
  have hfe:=Rw hc
  rw [Ayu,Ayu] at hfe
  have hrun:=B6.B2.ev 8 (R:Int) (C:Int) l
  obtain ⟨d1,d2⟩:=Aaa 8 l r6 c6 (H9 R C) 0 8 l [] [] (by omega) (by unfold H9; omega) hl al rfl ⟨rfl,fun i h=>absurd h (Nat.not_lt_zero _)⟩
  have bad:∀ d:Option DV,E8 (R:Int) (C:Int) l=2→d=some Anq→∃ dv drops,d=some dv∧Wk drops dv (DV.agg [.int .i64 (qX (R:Int) (C:Int) l).1,.int .i64 (qX (R:Int) (C:Int) l).2.1,.ints .arg .u64 (qX (R:Int) (C:Int) l).2.2.1,.int .i64 (rX (R:Int) (C:Int) l).1,.int .i64 (rX (R:Int) (C:Int) l).2.1,.ints .arg .u64 (rX (R:Int) (C:Int) l).2.2.1,.bool (decide (E8 (R:Int) (C:Int) l=0))]):=fun d he h=>by
    obtain ⟨e1,e2⟩:=Yh he (by decide)
    rw [e1,e2,he]
    exact ⟨Anq,[],h,Asr⟩
  cases hx:Kd R C l with
  | none =>
    have hfo:L5 R C l=false:=by unfold L5; rw [hx]; rfl
    rw [hfo,if_neg (by decide)] at hfe
    obtain ⟨dv,drops,k1,k2⟩:=bad _ hfe (hrun.trans (d1 hx))
    exact ⟨8,dv,drops,k1,k2⟩
  | some x =>
    obtain ⟨x1,x2,x3,x4⟩:=Af2 hl al hx
    obtain ⟨rows,hrows,hd⟩:=d2 x hx
    rw [List.nil_append] at hrows
    have h36:=Nat.mul_le_mul r6 c6
    have hn:x.2.length≤6:=by rw [x3]; unfold H9; omega
    have hb:=Aab 8 (C:=C) r6 hrows x4 (Jb x1 (by omega)) hn x.2.length 8 (Nat.le_refl _) (by omega)
    rw [Ay6 (Nat.le_refl _)] at hb
    rw [hrows.1,Al (by omega) (by omega)] at hd
    have hd:=hd.trans hb
    have hq:Mi R C l=Hg R 0 x.2 (I5 R):=by unfold Mi; rw [hx]
    have hrr:Kc R C l=x.1:=by unfold Kc; rw [hx]
    have hfo:L5 R C l=(Df (Hg R 0 x.2 (I5 R))&&Df x.1):=by unfold L5; rw [hx,hq,hrr]; rfl
    rw [← hfo,← hq,← hrr] at hd
    cases hk:L5 R C l with
    | false =>
      rw [hk,if_neg (by decide)] at hfe
      rw [hk,Ayw] at hd
      obtain ⟨dv,drops,k1,k2⟩:=bad _ hfe (hrun.trans hd)
      exact ⟨8,dv,drops,k1,k2⟩
    | true =>
      rw [hk,if_pos rfl] at hfe
      rw [hk,Ays] at hd
      obtain ⟨e1,e2⟩:=W9 hfe
      rw [e1,e2,hfe,Ayu,Ayu]
      exact ⟨8,_,[],hrun.trans hd,Wk.G8 (.cons .int (.cons .int (.cons .W2 (.cons .int (.cons .int (.cons .W2 (.cons .bool .nil)))))))⟩
namespace EqLow
def A7.Flat.hint:Nat→Option Ba
  | 0=>some { keep:=[1,3,4],objs:=[],boxes:=[1] }
  | 2=>some { keep:=[1,3,5],objs:=[],boxes:=[1] }
  | _=>none
def A7.Flat.A6:List (Nat × Entry):=[(94,Bp.Hr.spec),(93,Bp.Max.spec),(95,Bp.Order.spec),(96,Ag.Bs.spec),(80,Aj.At.spec)]
def A7.Flat.E:Env:=A9 (A5 A7.Flat.A6) (fun _=>false) A7.Flat.hint (fun _=>none)
def A7.Flat.L0 (N M:Nat) (r c:Int) (l:List Int) (p3 p4:Int):Option DV:=B0 A7.Flat.E N Tryz.f26 (An Tryz.f26) [1,1,0,1,0] [] M ⟨Gj 52 [(1,.ptr 1 0 0),(3,.int .u64 p3),(4,.int .i64 p4)],[(1,false,.box [.int .i64 r,.int .i64 c,.ints .arg .u64 l])]⟩
def A7.Flat.L1 (N M:Nat) (r c:Int) (l:List Int) (p5 p3_1:Int):Option DV:=B0 A7.Flat.E N Tryz.f26 (An Tryz.f26) [1,1,1,0,1,0] [] M ⟨Gj 52 [(1,.ptr 1 0 0),(3,.int .u64 p3_1),(5,.int .i64 p5)],[(1,false,.box [.int .i64 r,.int .i64 c,.ints .arg .u64 l])]⟩
theorem A7.Flat.Ar (N M:Nat) (r c:Int) (l:List Int) (p3 p4:Int):A7.Flat.L0 N (M+1) r c l p3 p4=bif ((A4 p4 r)&&(A4 p4 c)) then bif (C2 r c l p4 p4) then bif (Af (D9 c l p4 p4)) then bif (Af p3&&Af (Je (D9 c l p4 p4))) then A7.Flat.L0 N M r c l (Ow p3 (Je (D9 c l p4 p4))) (Ab (p4+1)) else none else none else none else A7.Flat.L1 N N r c l 0 p3 :=
  Eq.trans (by kernel_rfl)
  (Av (N2 (A4 p4 r)) (Av (N2 (A4 p4 r)) (Av (Lt (A4 p4 r)) (Av (Xs (A4 p4 r)) (Av (Sr (A4 p4 r)) (C0 (tt1 (A4 p4 r) (A4 p4 c)) rfl rfl))))))
theorem A7.Flat.B9 (N M:Nat) (r c:Int) (l:List Int) (p5 p3_1:Int):A7.Flat.L1 N (M+1) r c l p5 p3_1=bif ((A4 p5 r)&&(A4 p5 c)) then bif (Dh p3_1 (-40:Int)) then bif (C2 r c l p5 p5) then bif (Af (D9 c l p5 p5)) then bif (Af (By p3_1 (-40:Int))&&Af (Je (D9 c l p5 p5))) then bif (D6 0 (Sy (By p3_1 (-40:Int)) (Je (D9 c l p5 p5)))) then some (.bool true) else A7.Flat.L1 N M r c l (Ab (p5+1)) p3_1 else none else none else none else none else some (.bool false) :=
  Eq.trans (by kernel_rfl)
  (Av (N2 (A4 p5 r)) (Av (N2 (A4 p5 r)) (Av (Lt (A4 p5 r)) (Av (Xs (A4 p5 r)) (Av (Sr (A4 p5 r)) (C0 (tt1 (A4 p5 r) (A4 p5 c)) (C0 (Cx (Dh p3_1 (-40:Int))) (C0 (Cx (C2 r c l p5 p5)) (C0 (Cx (Af (D9 c l p5 p5))) (C0 (Cx (Af (By p3_1 (-40:Int))&&Af (Je (D9 c l p5 p5)))) rfl rfl) rfl) rfl) rfl) rfl))))))
theorem A7.Flat.ev (N:Nat) (r c:Int) (l:List Int):Bq A7.Flat.E N Tryz.f26 (An Tryz.f26) [.agg [.int .i64 r,.int .i64 c,.ints .arg .u64 l]] =
  A7.Flat.L0 N N r c l 0 0:=by kernel_rfl
abbrev _root_.Go.Proofs.S1.A7.Flat.Kn:=A3 Tryz.prog 26 A7.Flat.spec
theorem A7.Flat.Ac (hk:Ax Tryz.prog A7.Flat.A6) (h:∀ (r c:Int) (l:List Int),A7.Flat.pre [.i r,.i c,.l l]=true→A8 A7.Flat.E Tryz.f26 [.agg [.int .i64 r,.int .i64 c,.ints .arg .u64 l]] (A7.Flat.out [.i r,.i c,.l l])):A7.Flat.Kn :=
  Ak (Az hk _ _ _) Tryz.func26 (by kernel_rfl) (by kernel_rfl) h
end EqLow
open EqLow
section
variable {n Q:Nat} {l m:List Int}
end
namespace EqLse
end EqLse
open EqLse
theorem T6 {r c:Int} {l:List Int} (h:A0 r c l=true):0≤r∧r≤6∧0≤c∧c≤6:=by
  obtain ⟨R,C,rfl,rfl,r6,c6,_⟩:=Ce h
  omega
theorem Ajf {r c:Int} {l:List Int} (al:Ah l=true):Ah (Kj r c l).2.2.1=true:=by
  unfold Kj
  split
  · exact al
  · exact Lo
theorem Atu (r c:Int) (l:List Int) (p q:Int) (m:List Int):Ah (loX r c l p q m).2.2.1=true:=by
  unfold loX
  split
  · exact Lo
  · exact Ajf (Gh fun i k=>Xj (An9 _ _ _ _) i)
theorem Asv (r c:Int) (l:List Int) (p q:Int) (m:List Int):Ah (Tq r c l p q m).2.2.1=true:=by
  unfold Tq
  split
  · exact Lo
  · exact Ajf (Gh fun i k=>Xj (Ago _ _ _ _ _) i)
theorem Aj4 {r c:Int} {l:List Int} {q:Int} {m:List Int} (al:Ah l=true) (am:Ah m=true) (i k:Int):Af (Ja r c l q m i k)=true:=by
  unfold Ja
  by_cases h:i<r
  · rw [if_pos h]; exact R1 al
  · rw [if_neg h]; exact R1 am
theorem Aat {r c:Int} {l:List Int} {p q:Int} {m:List Int} (al:Ah l=true) (am:Ah m=true):Ah (D0 r c l p q m).2.2.1=true:=by
  unfold D0
  by_cases h:(A0 r c l&&A0 p q m)=true
  · rw [if_pos h]
    by_cases h2:c=q∧r+p≤6
    · rw [if_pos h2]; exact (show Ah (B7 _ _ fun i k=>Ja r c l q m i k)=true from Gh fun _ _=>Aj4 al am _ _)
    · rw [if_neg h2]; exact Lo
  · rw [if_neg h]; exact Lo
open EqMat EqOf
namespace EqRef20
def Aj.Stack.A6:List (Nat × Entry):=[]
def Aj.Stack.E:Env:=A9 (A5 Aj.Stack.A6) (fun _=>false) (fun _=>none) (fun _=>none)
theorem Aj.Stack.ev (N:Nat) (r c:Int) (l:List Int) (p q:Int) (m:List Int):Bq Aj.Stack.E N Tryz.f72 (An Tryz.f72) [.agg [.int .i64 r,.int .i64 c,.ints .arg .u64 l],.agg [.int .i64 p,.int .i64 q,.ints .arg .u64 m]]=bif (decide (0+(List.length l)≤Gt)) then bif (decide ((List.length ([]++l))+(List.length m)≤Gt)) then some (.agg [.int .i64 (Ab (r+p)),.int .i64 c,.ints (.own 20 37) .u64 (([]++l)++m)]) else none else none :=
  Eq.trans (by kernel_rfl)
  (Eh (C0 (Cx (decide ((List.length ([]++l))+(List.length m)≤Gt))) rfl rfl) rfl)
abbrev _root_.Go.Proofs.S1.Aj.Stack.Kn:=A3 Tryz.prog 72 Aj.Stack.spec
theorem Aj.Stack.Ac (hk:Ax Tryz.prog Aj.Stack.A6) (h:∀ (r c:Int) (l:List Int) (p q:Int) (m:List Int),Aj.Stack.pre [.i r,.i c,.l l,.i p,.i q,.l m]=true→A8 Aj.Stack.E Tryz.f72 [.agg [.int .i64 r,.int .i64 c,.ints .arg .u64 l],.agg [.int .i64 p,.int .i64 q,.ints .arg .u64 m]] (Aj.Stack.out [.i r,.i c,.l l,.i p,.i q,.l m])):Aj.Stack.Kn :=
  Ak (Az hk _ _ _) Tryz.func72 (by kernel_rfl) (by kernel_rfl) h
end EqRef20
end Go.Proofs.S1
end
