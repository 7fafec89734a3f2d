/- A verified evaluator of the program's form and its use for this seat: S1PTri, S1EqFew, S1PSol, S1EqQr, S1PQr, S1PQrA, S1EqRef17, S1PRef17, S1EqRef14, S1PRef13, S1PRef14, S1EqLow, S1PLow, S1EqLse, S1PLse, S1POfS, S1EqRef20. -/
import Derived.Test.YtjbokjpbiobjpaaGreatTI
import Derived.Test.YtjbokjpbiobjpaaGreatTK
import Derived.Test.YtjbokjpbiobjpaaGreatTF
import Derived.Test.YtjbokjpbiobjpaaGreatTE
import Derived.Test.YtjbokjpbiobjpaaGreatTJ
set_option linter.unusedVariables false
set_option linter.unusedSimpArgs false
noncomputable section
namespace Go.Proofs.S1
open Go Go.Den Go.Rnd Go.Proofs
open EqSol
theorem solve.Ep.known:solve.Ep.Kn:=solve.Ep.Ac .nil fun i k _=>by
  refine ⟨0,solve.Ep.out [.i i,.i k],[],?_,.bool⟩
  rw [solve.Ep.ev,As]; rfl
theorem Amy.known:Gj.Gi.up.Kn:=Gj.Gi.up.Ac .nil fun n k hp=>by
  have hp:=Ar.1 (show Cu (0≤k∧k<n∧n≤10)=true from hp)
  refine ⟨0,Gj.Gi.up.out [.i n,.i k],[],?_,.int⟩
  rw [Gj.Gi.up.ev,Am (x:=n-1) (by omega) (by omega),Am (by omega) (by omega)]; rfl
theorem Aa.of.Bf.own.known:Aa.of.Bf.own.Kn:=Aa.of.Bf.own.Ac (.cons Aa.Ed.known .nil) fun a b hp=>by
  have h1:(Bg a&&Bg b)=true:=hp
  obtain ⟨ha,hb⟩:=Ad.1 h1
  obtain ⟨A,rfl,hA⟩:=Ek ha
  obtain ⟨B,rfl,hB⟩:=Ek hb
  refine ⟨8,.agg [.int .i64 (A:Int),.int .i64 (B:Int),.ints (.own 108002 tB) .u64 (B5 A B fun (i j:Nat)=>(0:Int))],[],?_,Wk.G6 (.cons .int (.cons .int (.cons (.keep _ _ _ _ List.not_mem_nil) .nil)))⟩
  have n:=of.Bf.outer 8 hA hB (by omega) (F:=fun (i j:Nat)=>(0:Int)) (fun _ _=>rfl) A 0 8 (by omega) (by omega)
  rw [Kq] at n
  exact (EqOf.Aa.of.Bf.ev 8 (A:Int) (B:Int)).trans n
theorem Aa.Bf.own.known:Aa.Bf.own.Kn:=Aa.Bf.own.Ac (.cons Aa.of.Bf.own.known (.cons Aa.size.known .nil)) fun a b hp=>by
  have hp:(Bg a&&Bg b)=true:=hp
  obtain ⟨ha,hb⟩:=Ad.1 hp
  refine ⟨0,Aa.Bf.own.out [.i a,.i b],[],?_,?_⟩
  · rw [Aa.Bf.own.ev,ha,hb]; rfl
  · exact Wk.Gw (.cons (Wk.G6 (.cons .int (.cons .int (.cons (.keep _ _ _ _ List.not_mem_nil) .nil)))) (.cons .int .nil))
section
variable {n Q:Nat} {l m:List Int}
def upF (n Q:Nat) (l m:List Int) (i j:Nat):Int:=(Z8 (n:Int) l (fun i=>D6 (Q:Int) m (i:Int) (j:Int)) n n).getD i 0
def upD (n j k a b:Nat):Bool:=decide (b<j∨(b=j∧n-k≤a))
def Ry (n Q:Nat) (l m:List Int) (j k:Nat):List Int:=B5 n Q fun a b=>if upD n j k a b=true then upF n Q l m a b else 0
theorem Agc (i j:Nat):Af (upF n Q l m i j)=true:=W8 (Agb _ _ _ _ _) i
theorem Al0 (j k:Nat):Ai (Ry n Q l m j k)=true:=Ge fun a b=>by
  split
  · exact Agc _ _
  · exact B9 (n:=0) (by decide)
theorem Ah3 {j k t:Nat} (ht:t<n) (hj:j<Q) (hk:n-k≤t):D6 (Q:Int) (Ry n Q l m j k) (t:Int) (j:Int)=upF n Q l m t j:=by
  unfold Ry
  have hd:upD n j k t j=true:=Axu (.inr ⟨rfl,hk⟩)
  rw [Aq0 ht hj,hd,if_pos rfl]
theorem Tg (j k:Nat):(Ry n Q l m j k).length=n*Q:=B8 _ _ _
theorem Alz (N:Nat) (n6:n≤6) (q6:Q≤6) (hl:l.length=n*n) (al:Ai l=true) {i j k:Nat} (hi:i+k+1=n) (hj:j<Q) (M0 M1:Nat) (p29 p33:Int) :
    ∀ (cnt t F:Nat) (s:Int),t+cnt=n→cnt<F→i+1≤t→Af s=true →
    solve.Bv.Up.L2 N M0 M1 F (n:Int) (n:Int) l (n:Int) (Q:Int) m (n:Int) s (t:Int) (j:Int) (i:Int) p29 p33 (Ry n Q l m j k) =
    solve.Bv.Up.L1 N M0 M1 (n:Int) (n:Int) l (n:Int) (Q:Int) m (n:Int) (Ab (p33+(1:Int))) (List.set (Ry n Q l m j k) (Int.toNat ((i:Int)*(Q:Int)+(j:Int))) (Fa (Qi (n:Int) l (i:Int) s (t:Int) ((Z8 (n:Int) l (fun i=>D6 (Q:Int) m (i:Int) (j:Int)) n n).drop t)) (D6 (n:Int) l (i:Int) (i:Int)))) (j:Int) p29:=by
  intro cnt
  induction cnt with
  | zero =>
    intro t F s ht hF hit hs
    obtain ⟨F,rfl⟩:∃ G,F=G+1:=⟨F-1,by omega⟩
    obtain ⟨e1,g1,g2⟩:=K0 (R:=(n:Int)) (Dq n6 n6 hl (show i<n by omega) (show i<n by omega))
    obtain ⟨e2,g3,g4⟩:=K0 (R:=(n:Int)) (Dq n6 q6 (Tg (l:=l) (m:=m) j k) (show i<n by omega) hj)
    rw [Ax7 (by rw [Mm]; omega),Qi]
    rw [solve.Bv.Up.Hn,As,Axy (show ¬ (t:Int)<(n:Int) by omega),Axx,e1,Axu g1,Axu g2,Axz,Axt,hs,show Af (List.getD l (Int.toNat ((i:Int)*(n:Int)+(i:Int))) 0)=true from G5 (c:=(n:Int)) al,Axz,Axt,
      e2,Axu g3,Axu g4,Axz,Axt,Axu (show Int.toNat ((i:Int)*(Q:Int)+(j:Int))<(Ry n Q l m j k).length by omega),Axt]
    rfl
  | succ cnt ih =>
    intro t F s ht hF hit hs
    obtain ⟨F,rfl⟩:∃ G,F=G+1:=⟨F-1,by omega⟩
    obtain ⟨e1,g1,g2⟩:=K0 (R:=(n:Int)) (Dq n6 n6 hl (show i<n by omega) (show t<n by omega))
    obtain ⟨e2,g3,g4⟩:=K0 (R:=(n:Int)) (Dq n6 q6 (Tg (l:=l) (m:=m) j k) (show t<n by omega) hj)
    have hx:List.getD (Ry n Q l m j k) (Int.toNat ((t:Int)*(Q:Int)+(j:Int))) 0=upF n Q l m t j:=Ah3 (by omega) hj (by omega)
    rw [solve.Bv.Up.Hn,As,Axu (show (t:Int)<(n:Int) by omega),Axt,Axu (show (i:Int)<(t:Int) by omega),Axt,e1,Axu g1,Axu g2,Axz,Axt,
      e2,Axu g3,Axu g4,Axz,Axt,Axu (show Int.toNat ((t:Int)*(Q:Int)+(j:Int))<(Ry n Q l m j k).length by omega),Axt,hx,
      show Af (List.getD l (Int.toNat ((i:Int)*(n:Int)+(t:Int))) 0)=true from G5 (c:=(n:Int)) al,Agc,Axz,Axt,hs,Jg,Axz,Axt,Am (x:=(t:Int)+1) (by omega) (by omega)]
    have:=ih (t+1) F (Eu s (D1 (D6 (n:Int) l (i:Int) (t:Int)) (upF n Q l m t j))) (by omega) (by omega) (by omega) (Nv hs (Jg _ _))
    rw [Aa1 (by rw [Mm]; omega)]
    exact this
theorem Aph (N:Nat) (n6:n≤6) {i j k:Nat} (hi:i<n) (M0 M1:Nat) (p29 p33 s:Int):∀ (cnt t F:Nat),t+cnt=i+1 →
    solve.Bv.Up.L2 N M0 M1 (F+cnt) (n:Int) (n:Int) l (n:Int) (Q:Int) m (n:Int) s (t:Int) (j:Int) (i:Int) p29 p33 (Ry n Q l m j k) =
    solve.Bv.Up.L2 N M0 M1 F (n:Int) (n:Int) l (n:Int) (Q:Int) m (n:Int) s ((i+1:Nat):Int) (j:Int) (i:Int) p29 p33 (Ry n Q l m j k):=by
  intro cnt
  induction cnt with
  | zero =>
    intro t F ht
    obtain rfl:t=i+1:=by omega
    rfl
  | succ cnt ih =>
    intro t F ht
    rw [← Nat.add_assoc,solve.Bv.Up.Hn,As,Axu (show (t:Int)<(n:Int) by omega),Axt,Axy (show ¬ (i:Int)<(t:Int) by omega),Axx,Am (by omega) (by omega)]
    exact ih (t+1) F (by omega)
theorem Ah2 {i j k:Nat} (hi:i+k+1=n) (hj:j<Q) {x:Int} (hx:x=upF n Q l m i j):List.set (Ry n Q l m j k) (Int.toNat ((i:Int)*(Q:Int)+(j:Int))) x=Ry n Q l m j (k+1):=by
  refine Afq hj hx fun a b ha hb=>?_
  unfold upD
  rw [Ax0,Ax0]
  omega
theorem Api (N:Nat) (n6:n≤6) (q6:Q≤6) (hN:7<N) (hl:l.length=n*n) (hm:m.length=n*Q) (al:Ai l=true) (am:Ai m=true) {j:Nat} (hj:j<Q) (M0:Nat):∀ (cnt k F:Nat),k+cnt=n→cnt<F →
    solve.Bv.Up.L1 N M0 F (n:Int) (n:Int) l (n:Int) (Q:Int) m (n:Int) (k:Int) (Ry n Q l m j k) (j:Int) (j:Int) =
    solve.Bv.Up.L0 N M0 (n:Int) (n:Int) l (n:Int) (Q:Int) m (n:Int) ((j+1:Nat):Int) (Ry n Q l m j n):=by
  intro cnt
  induction cnt with
  | zero =>
    intro k F hk hF
    obtain ⟨F,rfl⟩:∃ G,F=G+1:=⟨F-1,by omega⟩
    obtain rfl:k=n:=by omega
    rw [solve.Bv.Up.B7,As,Axy (by omega),Axx,Am (by omega) (by omega)]
    rfl
  | succ cnt ih =>
    intro k F hk hF
    obtain ⟨F,rfl⟩:∃ G,F=G+1:=⟨F-1,by omega⟩
    obtain ⟨i,hi⟩:∃ i:Nat,i+k+1=n:=⟨n-k-1,by omega⟩
    have ei:(n:Int)-1-(k:Int)=(i:Int):=by omega
    obtain ⟨e2,g3,g4⟩:=K0 (R:=(n:Int)) (Dq n6 q6 hm (show i<n by omega) hj)
    rw [solve.Bv.Up.B7,As,Axu (show (k:Int)<(n:Int) by omega),Axt,Ar.2 (show 0≤(k:Int)∧(k:Int)<(n:Int)∧(n:Int)≤10 by omega),Axt,ei,e2,Axu g3,Axu g4,Axz,Axt]
    obtain ⟨G,rfl⟩:∃ G,N=G+(i+1):=⟨N-(i+1),by omega⟩
    have hs:=Aph (n:=n) (Q:=Q) (l:=l) (m:=m) (G+(i+1)) n6 (i:=i) (j:=j) (k:=k) (by omega) M0 F (j:Int) (k:Int) (D6 (Q:Int) m (i:Int) (j:Int)) (i+1) 0 G (by omega)
    have hr:=Alz (n:=n) (Q:=Q) (l:=l) (m:=m) (G+(i+1)) n6 q6 hl al hi hj M0 F (j:Int) (k:Int) (n-(i+1)) (i+1) G (D6 (Q:Int) m (i:Int) (j:Int)) (by omega) (by omega) (by omega) (G5 (c:=(Q:Int)) am)
    rw [Ah2 hi hj (Ah5 (show i<n by omega)).symm,Am (by omega) (by omega)] at hr
    exact (hs.trans hr).trans (ih (k+1) F (by omega) (by omega))
theorem Adm (j:Nat):Ry n Q l m j n=Ry n Q l m (j+1) 0:=by
  unfold Ry
  refine D4 fun a b ha hb=>?_
  have:upD n j n a b=upD n (j+1) 0 a b:=by
    unfold upD
    rw [decide_eq_decide]
    omega
  rw [this]
theorem Adl:Ry n Q l m 0 0=B5 n Q fun _ _=>0:=by
  unfold Ry
  refine D4 fun a b ha hb=>?_
  have:upD n 0 0 a b=false:=Axy (by omega)
  rw [this]; rfl
theorem Ah4:Ry n Q l m Q 0=upG (n:Int) l (Q:Int) m n Q:=by
  unfold Ry upG
  refine D4 fun a b ha hb=>?_
  have:upD n Q 0 a b=true:=Axu (.inl hb)
  rw [this]; rfl
theorem Apj (N:Nat) (n6:n≤6) (q6:Q≤6) (hN:7<N) (hl:l.length=n*n) (hm:m.length=n*Q) (al:Ai l=true) (am:Ai m=true):∀ (cnt j F:Nat),j+cnt=Q→cnt<F →
    solve.Bv.Up.L0 N F (n:Int) (n:Int) l (n:Int) (Q:Int) m (n:Int) (j:Int) (Ry n Q l m j 0) =
    bif Da (Ry n Q l m Q 0) then some (.tup [.agg [.int .i64 (n:Int),.int .i64 (Q:Int),.ints (.own 112002 tB) .u64 (Ry n Q l m Q 0)],.int .i64 (0:Int)]) else some (Akf 2):=by
  intro cnt
  induction cnt with
  | zero =>
    intro j F hj hF
    obtain ⟨F,rfl⟩:∃ G,F=G+1:=⟨F-1,by omega⟩
    obtain rfl:j=Q:=by omega
    have h36:=Nat.mul_le_mul n6 q6
    rw [solve.Bv.Up.Au,As,Axy (by omega),Axx,I5 (Al0 _ _) (by rw [Tg]; omega),Axt]
    cases Da (Ry n j l m j 0)<;>rfl
  | succ cnt ih =>
    intro j F hj hF
    obtain ⟨F,rfl⟩:∃ G,F=G+1:=⟨F-1,by omega⟩
    have hr:=Api N n6 q6 hN hl hm al am (show j<Q by omega) F n 0 N (by omega) (by omega)
    rw [Adm] at hr
    rw [solve.Bv.Up.Au,As,Axu (show (j:Int)<(Q:Int) by omega),Axt]
    exact hr.trans (ih (j+1) F (by omega) (by omega))
end
theorem solve.Bv.Up.known:solve.Bv.Up.Kn:=solve.Bv.Up.Ac (.cons Amy.known (.cons Aa.Bf.own.known (.cons solve.Ep.known (.cons Ae.Div.known (.cons Ae.Finite.known (.cons Ae.Mul.known (.cons Ae.Sub.known .nil))))))) fun r c l p q m n hp=>by
  show ∃ N dv drops,_=some dv∧Wk drops dv (So (Kc r q (upG c l q m (Int.toNat r) (Int.toNat q))))
  obtain ⟨h1,hn⟩:=Ad.1 (show (Abv r c l p q m&&decide (n=r))=true from hp)
  obtain ⟨h2,h3⟩:=Ad.1 h1
  obtain ⟨hr,hm⟩:=Ad.1 h2
  obtain ⟨h4,h5⟩:=Ad.1 h3
  obtain ⟨al,am⟩:=Ad.1 h4
  obtain ⟨rfl,rfl⟩:=Ar.1 h5
  obtain rfl:=of_decide_eq_true hn
  have s1:=(Il hr).1
  have s2:=(Il hm).2
  obtain ⟨R,C,rfl,hC,r6,c6,hl⟩:=Cc hr
  obtain ⟨P,Q,hP,rfl,p6,q6,hl2⟩:=Cc hm
  obtain rfl:R=C:=by omega
  obtain rfl:R=P:=by omega
  have h:=Apj (n:=R) (Q:=Q) (l:=l) (m:=m) 8 r6 q6 (by omega) hl hl2 al am Q 0 8 (by omega) (by omega)
  rw [Adl,Ah4,show ((0:Nat):Int)=0 from rfl] at h
  rw [Axv,Axv]
  unfold Kc
  cases hf:Da (upG (R:Int) l (Q:Int) m R Q) with
  | true =>
    rw [hf,Axt] at h
    rw [if_pos rfl]
    refine ⟨8,.tup [.agg [.int .i64 (R:Int),.int .i64 (Q:Int),.ints (.own 112002 tB) .u64 (upG (R:Int) l (Q:Int) m R Q)],.int .i64 0],[112002],?_,Wk.Gw (.cons (Xg (List.mem_singleton.2 rfl)) (.cons .int .nil))⟩
    rw [solve.Bv.Up.ev,s1,s2,Axz,Axt,Axv,Axv]
    exact h
  | false =>
    rw [hf,Axx] at h
    rw [if_neg (by decide)]
    refine ⟨8,Akf 2,[],?_,Jt⟩
    rw [solve.Bv.Up.ev,s1,s2,Axz,Axt,Axv,Axv]
    exact h
set_option maxRecDepth 100000
namespace EqFew
def qr.Fu.A6:List (Nat × Entry):=[(123,Aa.Mul.spec),(167,Aa.Cn.spec)]
def qr.Fu.E:Env:=A9 (A5 qr.Fu.A6) (fun _=>false) (fun _=>none) (fun _=>none)
theorem qr.Fu.ev (N:Nat) (r c:Int) (l:List Int) (p q:Int) (m:List Int):Bp qr.Fu.E N Tryz.f98 (An Tryz.f98) [.agg [.int .i64 r,.int .i64 c,.ints .arg .u64 l],.agg [.int .i64 p,.int .i64 q,.ints .arg .u64 m]]=bif (((Fm r c l).2.2.2) !=(0:Int)) then some (.tup [.agg [.int .i64 0,.int .i64 0,.nil],.int .i64 ((Fm r c l).2.2.2)]) else bif (Ai ((Fm r c l).2.2.1)&&Ai m) then some (.tup [.agg [.int .i64 ((R3 ((Fm r c l).1) ((Fm r c l).2.1) ((Fm r c l).2.2.1) p q m).1),.int .i64 ((R3 ((Fm r c l).1) ((Fm r c l).2.1) ((Fm r c l).2.2.1) p q m).2.1),.ints .fresh .u64 ((R3 ((Fm r c l).1) ((Fm r c l).2.1) ((Fm r c l).2.2.1) p q m).2.2.1)],.int .i64 ((R3 ((Fm r c l).1) ((Fm r c l).2.1) ((Fm r c l).2.2.1) p q m).2.2.2)]) else none:=by kernel_rfl
abbrev _root_.Go.Proofs.S1.qr.Fu.Kn:=A3 Tryz.prog 98 qr.Fu.spec
theorem qr.Fu.Ac (hk:Ax Tryz.prog qr.Fu.A6) (h:∀ (r c:Int) (l:List Int) (p q:Int) (m:List Int),qr.Fu.pre [.i r,.i c,.l l,.i p,.i q,.l m]=true→A8 qr.Fu.E Tryz.f98 [.agg [.int .i64 r,.int .i64 c,.ints .arg .u64 l],.agg [.int .i64 p,.int .i64 q,.ints .arg .u64 m]] (qr.Fu.out [.i r,.i c,.l l,.i p,.i q,.l m])):qr.Fu.Kn :=
  Ak (Az hk _ _ _) Tryz.func98 (by kernel_rfl) (by kernel_rfl) h
end EqFew
open EqSol EqFew
theorem X4 {n i:Nat} (h:i<n):(List.range n).drop i=i::(List.range n).drop (i+1):=by
  rw [List.drop_eq_getElem_cons (by rw [List.length_range]; exact h),List.getElem_range]
theorem D5 {r c:Int} {l:List Int} (h:Cd r c l=0):A0 r c l=true∧Da l=true:=by
  unfold Cd at h
  by_cases h1:A0 r c l=true
  · rw [if_pos h1] at h
    by_cases h2:Da l=true
    · exact ⟨h1,h2⟩
    · rw [if_neg h2] at h; exact absurd h (by decide)
  · rw [if_neg h1] at h; exact absurd h (by decide)
theorem Aow {r c:Int} {l:List Int} (h1:A0 r c l=true) (h2:Da l=true):Cd r c l=0:=by unfold Cd; rw [if_pos h1,if_pos h2]
theorem V7 {x:Int} (h:x≠0):(x !=(0:Int))=true:=by simpa using h
theorem Gv {x:Int} (h:x=0):(x !=(0:Int))=false:=by rw [h]; rfl
theorem Ahq (N:Nat) {n:Nat} {l:List Int} (n6:n≤6) (hl:l.length=n*n) (al:Ai l=true):∀ (cnt i F:Nat),i+cnt=n→cnt<F →
    solve.check.L0 (N+4) F (n:Int) (n:Int) l (i:Int)=some (.int .i64 (if ((List.range n).drop i).any (fun i:Nat=>decide (Bd (D6 (n:Int) l (i:Int) (i:Int))=0))=true then 5 else 0)):=by
  intro cnt
  induction cnt with
  | zero =>
    intro i F hi hF
    obtain ⟨F,rfl⟩:∃ G,F=G+1:=⟨F-1,by omega⟩
    rw [solve.check.Au,As,Axy (by omega),Axx,Ax7 (by rw [List.length_range]; omega)]; rfl
  | succ cnt ih =>
    intro i F hi hF
    obtain ⟨F,rfl⟩:∃ G,F=G+1:=⟨F-1,by omega⟩
    obtain ⟨e1,g1,g2⟩:=K0 (R:=(n:Int)) (Dq n6 n6 hl (show i<n by omega) (show i<n by omega))
    have hx:List.getD l (Int.toNat ((i:Int)*(n:Int)+(i:Int))) 0=D6 (n:Int) l (i:Int) (i:Int):=rfl
    rw [solve.check.Au,As,Axu (show (i:Int)<(n:Int) by omega),Axt,e1,Axu g1,Axu g2,Axz,Axt,hx,G5 al,Axt,X4 (by omega),List.any_cons]
    by_cases hk:Bd (D6 (n:Int) l (i:Int) (i:Int))=0
    · have e:(Bd (D6 (n:Int) l (i:Int) (i:Int))==(0:Int))=true:=by rw [hk]; rfl
      rw [e,Axt,Axu hk]; rfl
    · have e:(Bd (D6 (n:Int) l (i:Int) (i:Int))==(0:Int))=false:=by simpa using hk
      rw [e,Axx,Axy hk,Bool.false_or,Am (by omega) (by omega)]
      exact ih (i+1) F (by omega) (by omega)
theorem Arz {r c p:Int}:((r !=c)||(r !=p))=decide (r≠c∨r≠p):=by
  rw [Ax9]; simp
theorem solve.check.known:solve.check.Kn:=solve.check.Ac (.cons Ct.Check.known (.cons soft.Kind.known .nil)) fun r c l p q m hp=>by
  obtain ⟨al,am⟩:=Ad.1 (show (Ai l&&Ai m)=true from hp)
  refine ⟨14,solve.check.out [.i r,.i c,.l l,.i p,.i q,.l m],[],?_,.int⟩
  show _=some (DV.int .i64 (N1 r c l p q m))
  rw [show (14:Nat)=10+4 from rfl,solve.check.ev,al,Axt,am,Axt,Arz]
  unfold N1
  by_cases h1:Cd r c l=0
  · rw [Gv h1,Axx,if_neg (by rw [h1]; decide)]
    by_cases h2:Cd p q m=0
    · rw [Gv h2,Axx,if_neg (by rw [h2]; decide)]
      by_cases h3:r≠c∨r≠p
      · rw [Axu h3,Axt,if_pos h3]
      · rw [Axy h3,Axx,if_neg h3]
        obtain rfl:r=c:=Decidable.byContradiction fun h=>h3 (.inl h)
        obtain ⟨R,C,rfl,hC,r6,c6,hl⟩:=Cc (D5 h1).1
        obtain rfl:R=C:=by omega
        rw [Axv]
        exact Ahq 10 r6 hl al R 0 14 (by omega) (by omega)
    · rw [V7 h2,Axt,if_pos h2]
  · rw [V7 h1,Axt,if_pos h1]
theorem Oz {r c:Int} {l:List Int} {p q:Int} {m:List Int} (h:N1 r c l p q m=0):A0 r c l=true∧A0 p q m=true∧r=c∧r=p:=by
  unfold N1 at h
  by_cases h1:Cd r c l=0
  · rw [if_neg (by rw [h1]; decide)] at h
    by_cases h2:Cd p q m=0
    · rw [if_neg (by rw [h2]; decide)] at h
      by_cases h3:r≠c∨r≠p
      · rw [if_pos h3] at h; exact absurd h (by decide)
      · exact ⟨(D5 h1).1,(D5 h2).1,Decidable.byContradiction fun h=>h3 (.inl h),Decidable.byContradiction fun h=>h3 (.inr h)⟩
    · rw [if_pos h2] at h; exact absurd h h2
  · rw [if_pos h1] at h; exact absurd h h1
theorem solve.Cl.known:solve.Cl.Kn:=solve.Cl.Ac (.cons solve.check.known (.cons solve.Bv.Up.known .nil)) fun r c l p q m hp=>by
  have hp:(Ai l&&Ai m)=true:=hp
  show ∃ N dv drops,_=some dv∧Wk drops dv (So (Tf r c l p q m))
  unfold Tf
  by_cases h:N1 r c l p q m=0
  · obtain ⟨h1,h2,h3,h4⟩:=Oz h
    have ht:Abv r c l p q m=true:=Ad.2 ⟨Ad.2 ⟨h1,h2⟩,Ad.2 ⟨hp,Ar.2 ⟨h3,h4⟩⟩⟩
    rw [if_neg (by rw [h]; decide)]
    exact ⟨0,_,[],by rw [solve.Cl.ev,hp,Axt,Gv h,Axx,ht,Axu rfl]; rfl,Nt⟩
  · rw [if_pos h]
    exact ⟨0,_,[],by rw [solve.Cl.ev,hp,Axt,V7 h,Axt]; rfl,Jt⟩
theorem Amh {b:Nat} {n:Int} (h:b<2^64):(Gh b n).1<2^64:=by
  unfold Gh
  by_cases h4:Al b=4
  · rw [if_pos h4]; exact (by decide:P0<2^64)
  rw [if_neg h4]
  by_cases h3:Al b=3∨Al b=0
  · rw [if_pos h3]; exact h
  rw [if_neg h3]
  exact Tn _ _ _
theorem Hr {b n:Int} (h:Af b=true):Af (Bw b n)=true:=by
  obtain ⟨x,rfl,hx⟩:=Bl h
  exact B9 (Amh (by rw [Axv]; exact hx))
theorem Zk:∀ (l:List Int) (m:Nat),m<2^64→Zl l m<2^64
  | [],m,h=>h
  | x::l,m,h=>by
    unfold Zl
    split
    · exact (by decide:P0<2^64)
    · have h2:G7 x.toNat<2^63:=Abm x.toNat
      exact Zk l _ (by omega)
theorem N2 (l:List Int):Af (Be l)=true:=B9 (Zk l 0 (by decide))
theorem Sx (x:Int):Af (I7 x)=true:=B9 (Nat.lt_trans (Abm x.toNat) (by decide))
theorem Ak0 (N:Nat) {d:List Int} (hd:Ck d=true) (h7:d.length≤1000):∀ (cnt i F:Nat),i+cnt=d.length→cnt<F →
    solve.Flat.L1 N F d (i:Int)=some (.tup [.bool ((d.drop i).any fun x=>!(decide (Sp (Bw (Be d) (-40)) x<0))),.int .i64 0]):=by
  obtain ⟨_,hu⟩:=H3 hd
  intro cnt
  induction cnt with
  | zero =>
    intro i F hi hF
    obtain ⟨F,rfl⟩:∃ G,F=G+1:=⟨F-1,by omega⟩
    rw [solve.Flat.B7,As,Axy (by omega),Axx,Ax7 (by omega)]; rfl
  | succ cnt ih =>
    intro i F hi hF
    obtain ⟨F,rfl⟩:∃ G,F=G+1:=⟨F-1,by omega⟩
    rw [solve.Flat.B7,As,Axu (show (i:Int)<(d.length:Int) by omega),Axt,Axu (show (0:Int)≤(i:Int) by omega),Axz,Axt,Axv,Axu (show i<d.length by omega),Axt,
      Hr (N2 d),hu i (by omega),Axz,Axt,G3 (by omega),List.any_cons]
    cases decide (Sp (Bw (Be d) (-40)) (d.getD i 0)<0) with
    | false=>rfl
    | true =>
      rw [Bool.not_true,Axx,Bool.false_or,Am (by omega) (by omega)]
      exact ih (i+1) F (by omega) (by omega)
theorem Ara (c:Int) (l:List Int) (n:Nat):Ai (Kf c l n)=true:=Ar.2 fun x hx=>by
  obtain ⟨j,_,rfl⟩:=List.mem_map.1 hx
  exact Sx _
theorem Is (c:Int) (l:List Int) (n:Nat):(Kf c l n).length=n:=by unfold Kf; rw [List.length_map,List.length_range]
theorem Ak1 (N:Nat) {R C:Nat} {l:List Int} (r6:R≤6) (c6:C≤6) (hN:7<N) (hl:l.length=R*C) (al:Ai l=true):∀ (cnt i F:Nat),i+cnt=min R C→cnt<F →
    solve.Flat.L0 N F (R:Int) (C:Int) l (i:Int) (Kf (C:Int) l i)=some (.tup [.bool (Aoa (Kf (C:Int) l (min R C))),.int .i64 0]):=by
  intro cnt
  induction cnt with
  | zero =>
    intro i F hi hF
    obtain ⟨F,rfl⟩:∃ G,F=G+1:=⟨F-1,by omega⟩
    obtain rfl:i=min R C:=by omega
    have hlt:(A4 (((min R C:Nat)):Int) (R:Int)&&A4 (((min R C:Nat)):Int) (C:Int))=false:=by
      rw [As,As,Bool.and_eq_false_iff,Ayc,Ayc]; omega
    have ok:=I5 (Ara (C:Int) l (min R C)) (by rw [Is]; omega)
    have sp:Db (Be (Kf (C:Int) l (min R C))) (-40:Int)=true:=Ad.2 ⟨N2 _,Ar.2 (by omega)⟩
    rw [solve.Flat.Au,hlt,Axx,ok,Axt,sp,Axt]
    exact Ak0 N ok (by rw [Is]; omega) (min R C) 0 N (by rw [Is]; omega) (by omega)
  | succ cnt ih =>
    intro i F hi hF
    obtain ⟨F,rfl⟩:∃ G,F=G+1:=⟨F-1,by omega⟩
    obtain ⟨e1,g1,g2⟩:=K0 (R:=(R:Int)) (Dq r6 c6 hl (show i<R by omega) (show i<C by omega))
    have hx:List.getD l (Int.toNat ((i:Int)*(C:Int)+(i:Int))) 0=D6 (C:Int) l (i:Int) (i:Int):=rfl
    rw [solve.Flat.Au,As,As,Axu (show (i:Int)<(R:Int) by omega),Axu (show (i:Int)<(C:Int) by omega),Axz,Axt,e1,Axu g1,Axu g2,Axz,Axt,hx,G5 al,Axt,
      Is,Axu (show i+1≤Gp by unfold Gp; omega),Axt,Am (by omega) (by omega)]
    have:=ih (i+1) F (by omega) (by omega)
    unfold Kf at this ⊢
    rw [Gz] at this
    exact this
theorem solve.Flat.known:solve.Flat.Kn:=solve.Flat.Ac (.cons Ct.Check.known (.cons compare.Ho.known (.cons compare.Md.known (.cons Ae.Bn.known (.cons Ae.Br.known .nil))))) fun r c l hp=>by
  have hp:Ai l=true:=hp
  refine ⟨8,solve.Flat.out [.i r,.i c,.l l],[],?_,Wk.Gw (.cons .bool (.cons .int .nil))⟩
  show _=some (DV.tup [.bool (Ov r c l).1,.int .i64 (Ov r c l).2])
  rw [solve.Flat.ev,hp,Axt]
  unfold Ov Qp
  by_cases h1:Cd r c l=0
  · obtain ⟨R,C,rfl,rfl,r6,c6,hl⟩:=Cc (D5 h1).1
    rw [Gv h1,Axx,if_neg (by rw [h1]; decide),Axv,Axv]
    exact Ak1 8 r6 c6 (by omega) hl hp (min R C) 0 8 (by omega) (by omega)
  · rw [V7 h1,Axt,if_pos h1]
theorem Aik {r c:Int} {l:List Int} (al:Ai l=true) (x y a b:Int):Ai (Im r c l x y a b).2.2.1=true:=by
  unfold Im
  split
  · split
    · dsimp only
      exact Ge fun i k=>G5 al
    · exact Ar.2 fun x h=>by cases h
  · exact Ar.2 fun x h=>by cases h
theorem Apl {r c:Int} {l:List Int} (al:Ai l=true):Ai (Fm r c l).2.2.1=true:=by
  unfold Fm
  split
  · dsimp only
    exact Ge fun i k=>G5 al
  · exact Ar.2 fun x h=>by cases h
theorem Rp (x y:List Int):Af (I9 x y)=true:=B9 (Acy x y 0 (by decide))
theorem Aqk (r c:Int) (l:List Int) (p q:Int) (m:List Int):Ai (R3 r c l p q m).2.2.1=true:=by
  unfold R3
  split
  · split
    · dsimp only
      exact Ge fun i k=>Rp _ _
    · exact Ar.2 fun x h=>by cases h
  · exact Ar.2 fun x h=>by cases h
theorem Aji (r c:Int) (l:List Int) (p q:Int) (m:List Int):Ai (Dr r c l p q m).2.2.1=true:=by
  unfold Dr
  split
  · exact Ar.2 fun x h=>by cases h
  · exact Aqk _ _ _ _ _ _
theorem qr.Fu.known:qr.Fu.Kn:=qr.Fu.Ac (.cons Aa.Mul.known (.cons Aa.Cn.known .nil)) fun r c l p q m hp=>by
  obtain ⟨al,am⟩:=Ad.1 (show (Ai l&&Ai m)=true from hp)
  show ∃ N dv drops,_=some dv∧Wk drops dv (So (Dr r c l p q m))
  unfold Dr
  by_cases h:(Fm r c l).2.2.2=0
  · rw [if_neg (by rw [h]; decide)]
    exact ⟨0,_,[],by rw [qr.Fu.ev,Gv h,Axx,Apl al,am]; rfl,Nt⟩
  · rw [if_pos h]
    exact ⟨0,_,[],by rw [qr.Fu.ev,V7 h,Axt]; rfl,Jt⟩
namespace EqQr
def qr.down.hint:Nat→Option Ba
  | 0=>some { keep:=[1,2,5,6,7],objs:=[(0,6,100006,.recs 214 2 []),(6,2,106002,.ints 37 .u64 [])],boxes:=[1,2,5] }
  | 2=>some { keep:=[1,2,5,6,7,8,9,12],objs:=[(6,2,106002,.ints 37 .u64 []),(0,6,100006,.recs 214 2 [])],boxes:=[1,2,5] }
  | _=>none
def qr.down.A6:List (Nat × Entry):=[(219,Aq.Apply.spec),(245,Aq.Dl.spec),(191,Aa.Dz.spec)]
def qr.down.E:Env:=A9 (A5 qr.down.A6) (fun n=>Nat.beq n 46) qr.down.hint (fun _=>none)
def qr.down.L0 (N M0 M:Nat) (r c:Int) (l:List Int) (p12_1:Int) (p2_1:List Int) (p7_1:Int) (p8:List Int) (p9:Int) (p6_1:List (List DV)):Option DV:=Bz qr.down.E N Tryz.f217 (An Tryz.f217) [1,1,1,0,1,0,0,1,0,0,1,1,1,1,0,1,0] [M0] M ⟨Gl 88 [(1,.ptr 1 0 0),(2,.ptr 2 0 0),(5,.ptr 5 0 0),(6,.oref 100006),(7,.int .i64 p7_1),(8,.ints .fresh .u64 p8),(9,.int .u64 p9),(12,.int .i64 p12_1)],[(1,false,.box [.int .i64 r,.int .i64 c,.ints .arg .u64 l]),(2,false,.box [.int .i64 0,.int .i64 0,.nil]),(5,false,.box [.int .i64 r,.int .i64 c,.oref 106002]),(106002,false,.ints 37 .u64 p2_1),(100006,false,.recs 214 2 p6_1)]⟩
def qr.down.L1 (N M:Nat) (r c:Int) (l:List Int) (p7:Int) (p6:List (List DV)) (p2_2:List Int):Option DV:=Bz qr.down.E N Tryz.f217 (An Tryz.f217) [1,1,1,0,1,0] [] M ⟨Gl 88 [(1,.ptr 1 0 0),(2,.ptr 2 0 0),(5,.ptr 5 0 0),(6,.oref 100006),(7,.int .i64 p7)],[(1,false,.box [.int .i64 r,.int .i64 c,.ints .arg .u64 l]),(2,false,.box [.int .i64 0,.int .i64 0,.nil]),(5,false,.box [.int .i64 r,.int .i64 c,.oref 106002]),(100006,false,.recs 214 2 p6),(106002,false,.ints 37 .u64 p2_2)]⟩
def qr.down.L2 (N M:Nat) (r c:Int) (l:List Int):Option DV:=Bz qr.down.E N Tryz.f217 (An Tryz.f217) [1,1,1,0,1,0] [] M ⟨Gl 88 [(1,.ptr 1 0 0),(2,.ptr 2 0 0),(5,.ptr 5 0 0),(6,.oref 100006),(7,.int .i64 0)],[(1,false,.box [.int .i64 r,.int .i64 c,.ints .arg .u64 l]),(2,false,.box [.int .i64 0,.int .i64 0,.nil]),(5,false,.box [.int .i64 r,.int .i64 c,.ints .arg .u64 l]),(100006,false,.recs 214 2 [])]⟩
theorem qr.down.Au (N M0 M:Nat) (r c:Int) (l:List Int) (p12_1:Int) (p2_1:List Int) (p7_1:Int) (p8:List Int) (p9:Int) (p6_1:List (List DV)):qr.down.L0 N M0 (M+1) r c l p12_1 p2_1 p7_1 p8 p9 p6_1=bif (A4 p12_1 r) then bif ((decide (0≤(Ab ((Ab (p12_1*c))+p7_1))))&&(decide ((Ab ((Ab (p12_1*c))+p7_1))<(List.length p2_1:Int)))) then bif (decide ((Int.toNat (Ab ((Ab (p12_1*c))+p7_1)))<(List.length p2_1))) then qr.down.L0 N M0 M r c l (Ab (p12_1+1)) (List.set p2_1 (Int.toNat (Ab ((Ab (p12_1*c))+p7_1))) 0) p7_1 p8 p9 p6_1 else none else none else bif (decide ((List.length p6_1)+1≤Ae4)) then qr.down.L1 N M0 r c l (Ab (p7_1+1)) (p6_1++[[.ints .arg .u64 p8,.int .u64 p9]]) p2_1 else none:=by kernel_rfl
theorem qr.down.B7 (N M:Nat) (r c:Int) (l:List Int) (p7:Int) (p6:List (List DV)) (p2_2:List Int):qr.down.L1 N (M+1) r c l p7 p6 p2_2=bif ((A4 p7 c)&&(A4 p7 (Ab (r-1)))) then bif (G4 r c p2_2 p7&&Cu (0≤p7∧p7≤r)) then bif (Ck (Cp c p2_2 p7 p7 (Int.toNat (r-p7)))) then bif (((Cg (Cp c p2_2 p7 p7 (Int.toNat (r-p7)))).2.2.2) !=(0:Int)) then some (.tup [.agg [.int .i64 0,.int .i64 0,.nil],.nil,.int .i64 2]) else bif (((A0 r c p2_2&&Hl r c p7 p7 ((Cg (Cp c p2_2 p7 p7 (Int.toNat (r-p7)))).1))&&(Ai p2_2&&Ai ((Cg (Cp c p2_2 p7 p7 (Int.toNat (r-p7)))).1)))&&Af ((Cg (Cp c p2_2 p7 p7 (Int.toNat (r-p7)))).2.1)) then bif ((decide (0≤(Ab ((Ab (p7*c))+p7))))&&(decide ((Ab ((Ab (p7*c))+p7))<(List.length (E7 (Int.toNat r) (Int.toNat c) p2_2 p7 p7 ((Cg (Cp c p2_2 p7 p7 (Int.toNat (r-p7)))).1) ((Cg (Cp c p2_2 p7 p7 (Int.toNat (r-p7)))).2.1)):Int)))) then bif (decide ((Int.toNat (Ab ((Ab (p7*c))+p7)))<(List.length (E7 (Int.toNat r) (Int.toNat c) p2_2 p7 p7 ((Cg (Cp c p2_2 p7 p7 (Int.toNat (r-p7)))).1) ((Cg (Cp c p2_2 p7 p7 (Int.toNat (r-p7)))).2.1))))) then qr.down.L0 N M N r c l (Ab (p7+1)) (List.set (E7 (Int.toNat r) (Int.toNat c) p2_2 p7 p7 ((Cg (Cp c p2_2 p7 p7 (Int.toNat (r-p7)))).1) ((Cg (Cp c p2_2 p7 p7 (Int.toNat (r-p7)))).2.1)) (Int.toNat (Ab ((Ab (p7*c))+p7))) ((Cg (Cp c p2_2 p7 p7 (Int.toNat (r-p7)))).2.2.1)) p7 ((Cg (Cp c p2_2 p7 p7 (Int.toNat (r-p7)))).1) ((Cg (Cp c p2_2 p7 p7 (Int.toNat (r-p7)))).2.1) p6 else none else none else none else none else none else some (.tup [.agg [.int .i64 r,.int .i64 c,.ints (.own 106002 37) .u64 p2_2],.recs (.own 100006 214) 2 p6,.int .i64 0]) :=
  Eq.trans (by kernel_rfl)
  (Aw (O1 (A4 p7 c)) (Aw (O1 (A4 p7 c)) (Aw (Lv (A4 p7 c)) (Aw (Lv (A4 p7 c)) (Aw (Abu (A4 p7 c)) (Aw (Ti (A4 p7 c)) (C2 (tt1 (A4 p7 c) (A4 p7 (Ab (r-1)))) rfl rfl)))))))
theorem qr.down.Hn (N M:Nat) (r c:Int) (l:List Int):qr.down.L2 N (M+1) r c l=bif ((A4 0 c)&&(A4 0 (Ab (r-1)))) then bif (G4 r c l 0&&Cu (0≤(0:Int)∧(0:Int)≤r)) then bif (Ck (Cp c l 0 0 (Int.toNat (r-0)))) then bif (((Cg (Cp c l 0 0 (Int.toNat (r-0)))).2.2.2) !=(0:Int)) then some (.tup [.agg [.int .i64 0,.int .i64 0,.nil],.nil,.int .i64 2]) else bif (((A0 r c l&&Hl r c 0 0 ((Cg (Cp c l 0 0 (Int.toNat (r-0)))).1))&&(Ai l&&Ai ((Cg (Cp c l 0 0 (Int.toNat (r-0)))).1)))&&Af ((Cg (Cp c l 0 0 (Int.toNat (r-0)))).2.1)) then bif ((decide (0≤(Ab ((Ab ((0:Int)*c))+0))))&&(decide ((Ab ((Ab ((0:Int)*c))+0))<(List.length (E7 (Int.toNat r) (Int.toNat c) l 0 0 ((Cg (Cp c l 0 0 (Int.toNat (r-0)))).1) ((Cg (Cp c l 0 0 (Int.toNat (r-0)))).2.1)):Int)))) then bif (decide ((Int.toNat (Ab ((Ab ((0:Int)*c))+0)))<(List.length (E7 (Int.toNat r) (Int.toNat c) l 0 0 ((Cg (Cp c l 0 0 (Int.toNat (r-0)))).1) ((Cg (Cp c l 0 0 (Int.toNat (r-0)))).2.1))))) then qr.down.L0 N M N r c l 1 (List.set (E7 (Int.toNat r) (Int.toNat c) l 0 0 ((Cg (Cp c l 0 0 (Int.toNat (r-0)))).1) ((Cg (Cp c l 0 0 (Int.toNat (r-0)))).2.1)) (Int.toNat (Ab ((Ab ((0:Int)*c))+0))) ((Cg (Cp c l 0 0 (Int.toNat (r-0)))).2.2.1)) 0 ((Cg (Cp c l 0 0 (Int.toNat (r-0)))).1) ((Cg (Cp c l 0 0 (Int.toNat (r-0)))).2.1) [] else none else none else none else none else none else some (.tup [.agg [.int .i64 r,.int .i64 c,.ints .arg .u64 l],.recs (.own 100006 214) 2 [],.int .i64 0]) :=
  Eq.trans (by kernel_rfl)
  (Aw (O1 (A4 0 c)) (Aw (O1 (A4 0 c)) (Aw (Lv (A4 0 c)) (Aw (Lv (A4 0 c)) (Aw (Abu (A4 0 c)) (Aw (Ti (A4 0 c)) (C2 (tt1 (A4 0 c) (A4 0 (Ab (r-1)))) rfl rfl)))))))
theorem qr.down.ev (N:Nat) (r c:Int) (l:List Int):Bp qr.down.E N Tryz.f217 (An Tryz.f217) [.agg [.int .i64 r,.int .i64 c,.ints .arg .u64 l]] =
  qr.down.L2 N N r c l:=by kernel_rfl
abbrev _root_.Go.Proofs.S1.qr.down.Kn:=A3 Tryz.prog 217 qr.down.spec
theorem qr.down.Ac (hk:Ax Tryz.prog qr.down.A6) (h:∀ (r c:Int) (l:List Int),qr.down.pre [.i r,.i c,.l l]=true→A8 qr.down.E Tryz.f217 [.agg [.int .i64 r,.int .i64 c,.ints .arg .u64 l]] (qr.down.out [.i r,.i c,.l l])):qr.down.Kn :=
  Ak (Az hk _ _ _) Tryz.func217 (by kernel_rfl) (by kernel_rfl) h
def qr.B0.hint:Nat→Option Ba
  | 0=>some { keep:=[2,3,5,6],objs:=[],boxes:=[2,3] }
  | _=>none
def qr.B0.A6:List (Nat × Entry):=[(86,Ct.Check.spec),(219,Aq.Apply.spec),(218,Aa.Ew.spec),(217,qr.down.spec),(150,Ae.Finite.spec)]
def qr.B0.E:Env:=Vo (A5 qr.B0.A6) (fun _=>false) qr.B0.hint (fun _=>none) (Af2 [(22,[.s .u64]),(37,[.i .u64])])
def qr.B0.L0 (N M:Nat) (r c:Int) (l:List Int) (p6:Int) (p2:List Int):Option DV:=Bz qr.B0.E N Tryz.f166 (An Tryz.f166) [1,0,1,1,1,1,1,1,0,0] [] M ⟨Gl 81 [(2,.ptr 2 0 0),(3,.ptr 3 0 0),(5,.recs .fresh 2 (Ko r c ([]++l))),(6,.int .i64 p6)],[(2,false,.box [.int .i64 ((Mw r).1),.int .i64 ((Mw r).2.1),.ints .fresh .u64 p2]),(3,false,.box [.int .i64 ((F6 r c ([]++l)).1),.int .i64 ((F6 r c ([]++l)).2.1),.ints .arg .u64 ((F6 r c ([]++l)).2.2.1)])]⟩
theorem qr.B0.Au (N M:Nat) (r c:Int) (l:List Int) (p6:Int) (p2:List Int):qr.B0.L0 N (M+1) r c l p6 p2=bif (A4 p6 0) then bif (Ck p2) then bif ((!(Da p2))||(Ck ((F6 r c ([]++l)).2.2.1))) then bif ((!(Da p2))||(!(Da ((F6 r c ([]++l)).2.2.1)))) then some (.tup [.agg [.int .i64 0,.int .i64 0,.nil],.agg [.int .i64 0,.int .i64 0,.nil],.int .i64 2]) else some (.tup [.agg [.int .i64 ((Mw r).1),.int .i64 ((Mw r).2.1),.ints .fresh .u64 p2],.agg [.int .i64 ((F6 r c ([]++l)).1),.int .i64 ((F6 r c ([]++l)).2.1),.ints .arg .u64 ((F6 r c ([]++l)).2.2.1)],.int .i64 0]) else none else none else bif ((decide (0≤p6))&&(decide (p6<(List.length (Ko r c ([]++l)):Int)))) then bif (isC (.s .u64) (List.getD (List.getD (Ko r c ([]++l)) (Int.toNat p6) []) 0 .undef)) then bif ((decide (0≤p6))&&(decide (p6<(List.length (Ko r c ([]++l)):Int)))) then bif (isC (.i .u64) (List.getD (List.getD (Ko r c ([]++l)) (Int.toNat p6) []) 1 .undef)) then bif (((A0 ((Mw r).1) ((Mw r).2.1) p2&&Hl ((Mw r).1) ((Mw r).2.1) p6 0 (Lo (List.getD (List.getD (Ko r c ([]++l)) (Int.toNat p6) []) 0 .undef)))&&(Ai p2&&Ai (Lo (List.getD (List.getD (Ko r c ([]++l)) (Int.toNat p6) []) 0 .undef))))&&Af (Zc (List.getD (List.getD (Ko r c ([]++l)) (Int.toNat p6) []) 1 .undef))) then qr.B0.L0 N M r c l (Ab (p6-1)) (E7 (Int.toNat ((Mw r).1)) (Int.toNat ((Mw r).2.1)) p2 p6 0 (Lo (List.getD (List.getD (Ko r c ([]++l)) (Int.toNat p6) []) 0 .undef)) (Zc (List.getD (List.getD (Ko r c ([]++l)) (Int.toNat p6) []) 1 .undef))) else none else none else none else none else none :=
  Eq.trans (by kernel_rfl)
  (Ej (Ej (Aw (Abr (Da p2)) (Aw (R0 (Da p2)) (C2 (Al8 (Da p2) (Ck ((F6 r c ([]++l)).2.2.1))) (Aw (R0 (Da p2)) (Aw (Abt (Da p2)) (C2 (Al9 (Da p2) (Da ((F6 r c ([]++l)).2.2.1))) rfl rfl))) rfl))) rfl) (C2 (Lk (decide (0≤p6)) (decide (p6<(List.length (Ko r c ([]++l)):Int)))) (C2 (Cs (isC (.s .u64) (List.getD (List.getD (Ko r c ([]++l)) (Int.toNat p6) []) 0 .undef))) (C2 (Lk (decide (0≤p6)) (decide (p6<(List.length (Ko r c ([]++l)):Int)))) (C2 (Cs (isC (.i .u64) (List.getD (List.getD (Ko r c ([]++l)) (Int.toNat p6) []) 1 .undef))) (C2 (Cs (((A0 ((Mw r).1) ((Mw r).2.1) p2&&Hl ((Mw r).1) ((Mw r).2.1) p6 0 (Lo (List.getD (List.getD (Ko r c ([]++l)) (Int.toNat p6) []) 0 .undef)))&&(Ai p2&&Ai (Lo (List.getD (List.getD (Ko r c ([]++l)) (Int.toNat p6) []) 0 .undef))))&&Af (Zc (List.getD (List.getD (Ko r c ([]++l)) (Int.toNat p6) []) 1 .undef)))) rfl rfl) rfl) rfl) rfl) rfl))
theorem qr.B0.ev (N:Nat) (r c:Int) (l:List Int):Bp qr.B0.E N Tryz.f166 (An Tryz.f166) [.agg [.int .i64 r,.int .i64 c,.ints .arg .u64 l]]=bif (Ai l) then bif ((Cd r c l) !=(0:Int)) then some (.tup [.agg [.int .i64 0,.int .i64 0,.nil],.agg [.int .i64 0,.int .i64 0,.nil],.int .i64 (Cd r c l)]) else bif (decide (0+(List.length l)≤Gp)) then bif ((A0 r c ([]++l)&&Da ([]++l))&&Ai ([]++l)) then bif (((F6 r c ([]++l)).2.2.2) !=(0:Int)) then some (.tup [.agg [.int .i64 0,.int .i64 0,.nil],.agg [.int .i64 0,.int .i64 0,.nil],.int .i64 ((F6 r c ([]++l)).2.2.2)]) else qr.B0.L0 N N r c l (Ab ((List.length (Ko r c ([]++l)):Int)-1)) ((Mw r).2.2.1) else none else none else none :=
  Eq.trans (by kernel_rfl)
  (Ej (Ej rfl (C2 (Cs (decide (0+(List.length l)≤Gp))) (C2 (Cs ((A0 r c ([]++l)&&Da ([]++l))&&Ai ([]++l))) rfl rfl) rfl)) rfl)
abbrev _root_.Go.Proofs.S1.qr.B0.Kn:=A3 Tryz.prog 166 qr.B0.spec
theorem qr.B0.Ac (hk:Ax Tryz.prog qr.B0.A6) (h:∀ (r c:Int) (l:List Int),qr.B0.pre [.i r,.i c,.l l]=true→A8 qr.B0.E Tryz.f166 [.agg [.int .i64 r,.int .i64 c,.ints .arg .u64 l]] (qr.B0.out [.i r,.i c,.l l])):qr.B0.Kn :=
  Ak (W9 hk _ _ _ _) Tryz.func166 (by kernel_rfl) (by kernel_rfl) h
def qr.F9.A6:List (Nat × Entry):=[(124,Aa.Part.spec),(166,qr.B0.spec)]
def qr.F9.E:Env:=A9 (A5 qr.F9.A6) (fun _=>false) (fun _=>none) (fun _=>none)
theorem qr.F9.ev (N:Nat) (r c:Int) (l:List Int):Bp qr.F9.E N Tryz.f97 (An Tryz.f97) [.agg [.int .i64 r,.int .i64 c,.ints .arg .u64 l]]=bif (Ai l) then bif ((E6 r c l) !=(0:Int)) then some (.tup [.agg [.int .i64 0,.int .i64 0,.nil],.agg [.int .i64 0,.int .i64 0,.nil],.int .i64 (E6 r c l)]) else some (.tup [.agg [.int .i64 ((Im ((qX r c l).1) ((qX r c l).2.1) ((qX r c l).2.2.1) 0 0 r (min r c)).1),.int .i64 ((Im ((qX r c l).1) ((qX r c l).2.1) ((qX r c l).2.2.1) 0 0 r (min r c)).2.1),.ints .fresh .u64 ((Im ((qX r c l).1) ((qX r c l).2.1) ((qX r c l).2.2.1) 0 0 r (min r c)).2.2.1)],.agg [.int .i64 ((Im ((rX r c l).1) ((rX r c l).2.1) ((rX r c l).2.2.1) 0 0 (min r c) c).1),.int .i64 ((Im ((rX r c l).1) ((rX r c l).2.1) ((rX r c l).2.2.1) 0 0 (min r c) c).2.1),.ints .fresh .u64 ((Im ((rX r c l).1) ((rX r c l).2.1) ((rX r c l).2.2.1) 0 0 (min r c) c).2.2.1)],.int .i64 0]) else none:=by kernel_rfl
abbrev _root_.Go.Proofs.S1.qr.F9.Kn:=A3 Tryz.prog 97 qr.F9.spec
theorem qr.F9.Ac (hk:Ax Tryz.prog qr.F9.A6) (h:∀ (r c:Int) (l:List Int),qr.F9.pre [.i r,.i c,.l l]=true→A8 qr.F9.E Tryz.f97 [.agg [.int .i64 r,.int .i64 c,.ints .arg .u64 l]] (qr.F9.out [.i r,.i c,.l l])):qr.F9.Kn :=
  Ak (Az hk _ _ _) Tryz.func97 (by kernel_rfl) (by kernel_rfl) h
def solve.D2.hint:Nat→Option Ba
  | 0=>some { keep:=[2,3,4,17,18],objs:=[],boxes:=[2,3,4] }
  | _=>none
def solve.D2.A6:List (Nat × Entry):=[(86,Ct.Check.spec),(97,qr.F9.spec),(98,qr.Fu.spec),(24,solve.Flat.spec),(36,solve.Cl.spec)]
def solve.D2.E:Env:=A9 (A5 solve.D2.A6) (fun _=>false) solve.D2.hint (fun _=>none)
theorem solve.D2.ev (N:Nat) (r c:Int) (l:List Int) (p q:Int) (m:List Int):Bp solve.D2.E (N+4) Tryz.f30 (An Tryz.f30) [.agg [.int .i64 r,.int .i64 c,.ints .arg .u64 l],.agg [.int .i64 p,.int .i64 q,.ints .arg .u64 m]]=bif (Ai l) then bif ((Cd r c l) !=(0:Int)) then some (.tup [.agg [.int .i64 0,.int .i64 0,.nil],.int .i64 (Cd r c l)]) else bif (Ai m) then bif ((Cd p q m) !=(0:Int)) then some (.tup [.agg [.int .i64 0,.int .i64 0,.nil],.int .i64 (Cd p q m)]) else bif ((A4 r c)||(r !=p)) then some (.tup [.agg [.int .i64 0,.int .i64 0,.nil],.int .i64 3]) else bif (Ai l) then bif ((E6 r c l) !=(0:Int)) then some (.tup [.agg [.int .i64 0,.int .i64 0,.nil],.int .i64 (E6 r c l)]) else bif (Ai ((Ig r c l).2.2.1)) then bif ((Ov ((Ig r c l).1) ((Ig r c l).2.1) ((Ig r c l).2.2.1)).1) then some (.tup [.agg [.int .i64 0,.int .i64 0,.nil],.int .i64 5]) else bif (Ai ((D7 r c l).2.2.1)&&Ai m) then bif (((Dr ((D7 r c l).1) ((D7 r c l).2.1) ((D7 r c l).2.2.1) p q m).2.2.2) !=(0:Int)) then some (.tup [.agg [.int .i64 0,.int .i64 0,.nil],.int .i64 ((Dr ((D7 r c l).1) ((D7 r c l).2.1) ((D7 r c l).2.2.1) p q m).2.2.2)]) else bif (Ai ((Ig r c l).2.2.1)&&Ai ((Dr ((D7 r c l).1) ((D7 r c l).2.1) ((D7 r c l).2.2.1) p q m).2.2.1)) then some (.tup [.agg [.int .i64 ((Tf ((Ig r c l).1) ((Ig r c l).2.1) ((Ig r c l).2.2.1) ((Dr ((D7 r c l).1) ((D7 r c l).2.1) ((D7 r c l).2.2.1) p q m).1) ((Dr ((D7 r c l).1) ((D7 r c l).2.1) ((D7 r c l).2.2.1) p q m).2.1) ((Dr ((D7 r c l).1) ((D7 r c l).2.1) ((D7 r c l).2.2.1) p q m).2.2.1)).1),.int .i64 ((Tf ((Ig r c l).1) ((Ig r c l).2.1) ((Ig r c l).2.2.1) ((Dr ((D7 r c l).1) ((D7 r c l).2.1) ((D7 r c l).2.2.1) p q m).1) ((Dr ((D7 r c l).1) ((D7 r c l).2.1) ((D7 r c l).2.2.1) p q m).2.1) ((Dr ((D7 r c l).1) ((D7 r c l).2.1) ((D7 r c l).2.2.1) p q m).2.2.1)).2.1),.ints .fresh .u64 ((Tf ((Ig r c l).1) ((Ig r c l).2.1) ((Ig r c l).2.2.1) ((Dr ((D7 r c l).1) ((D7 r c l).2.1) ((D7 r c l).2.2.1) p q m).1) ((Dr ((D7 r c l).1) ((D7 r c l).2.1) ((D7 r c l).2.2.1) p q m).2.1) ((Dr ((D7 r c l).1) ((D7 r c l).2.1) ((D7 r c l).2.2.1) p q m).2.2.1)).2.2.1)],.int .i64 ((Tf ((Ig r c l).1) ((Ig r c l).2.1) ((Ig r c l).2.2.1) ((Dr ((D7 r c l).1) ((D7 r c l).2.1) ((D7 r c l).2.2.1) p q m).1) ((Dr ((D7 r c l).1) ((D7 r c l).2.1) ((D7 r c l).2.2.1) p q m).2.1) ((Dr ((D7 r c l).1) ((D7 r c l).2.1) ((D7 r c l).2.2.1) p q m).2.2.1)).2.2.2)]) else none else none else none else none else none else none :=
  Eq.trans (by kernel_rfl)
  (Ej (Ej rfl (Ej (Ej rfl (Aw (R7 (A4 r c)) (Aw (P2 (A4 r c)) (Aw (R7 (A4 r c)) (Aw (P2 (A4 r c)) (Aw (tt8 (A4 r c)) (Aw (Wt (A4 r c)) (C2 (tt5 (A4 r c) (r !=p)) rfl rfl)))))))) rfl)) rfl)
abbrev _root_.Go.Proofs.S1.solve.D2.Kn:=A3 Tryz.prog 30 solve.D2.spec
theorem solve.D2.Ac (hk:Ax Tryz.prog solve.D2.A6) (h:∀ (r c:Int) (l:List Int) (p q:Int) (m:List Int),solve.D2.pre [.i r,.i c,.l l,.i p,.i q,.l m]=true→A8 solve.D2.E Tryz.f30 [.agg [.int .i64 r,.int .i64 c,.ints .arg .u64 l],.agg [.int .i64 p,.int .i64 q,.ints .arg .u64 m]] (solve.D2.out [.i r,.i c,.l l,.i p,.i q,.l m])):solve.D2.Kn :=
  Ak (Az hk _ _ _) Tryz.func30 (by kernel_rfl) (by kernel_rfl) h
end EqQr
open EqQr
def clS (R C:Nat) (l:List Int) (j:Nat) (x:Int) (i:Nat):List Int:=B5 R C fun a b=>if b=j∧j≤a∧a<i then (if a=j then x else 0) else D6 (C:Int) l (a:Int) (b:Int)
section
variable {R C j:Nat} {l:List Int} {x:Int}
theorem Ai7 (i:Nat):(clS R C l j x i).length=R*C:=B8 _ _ _
theorem Vs (hl:l.length=R*C) (hj:j<C):List.set l (j*C+j) x=clS R C l j x (j+1):=by
  unfold clS
  conv=>lhs; rw [← Vm hl]
  rw [Uo hj]
  refine D4 fun a b ha hb=>?_
  by_cases h:a=j∧b=j
  · rw [if_pos h,if_pos (by omega),if_pos h.1]
  · rw [if_neg h,if_neg (by omega)]
theorem Ai6 {i:Nat} (hj:j<C) (hi:j<i):List.set (clS R C l j x i) (i*C+j) 0=clS R C l j x (i+1):=by
  unfold clS
  rw [Uo hj]
  refine D4 fun a b ha hb=>?_
  by_cases h:a=i∧b=j
  · rw [if_pos h,if_pos (by omega),if_neg (by omega)]
  · rw [if_neg h]
    by_cases h2:b=j∧j≤a∧a<i
    · rw [if_pos h2,if_pos (show b=j∧j≤a∧a<i+1 by omega)]
    · rw [if_neg h2,if_neg (by omega)]
theorem Ai8:clS R C l j x R=M3 R C l j x:=by
  unfold clS M3
  refine D4 fun a b ha hb=>?_
  by_cases h:b=j∧j≤a
  · rw [if_pos h,if_pos (by omega)]
  · rw [if_neg h,if_neg (by omega)]
end
theorem Yg {C i j:Nat} (hi:i≤6) (hC:C≤6) (hj:j≤6):Ab (Ab ((i:Int)*(C:Int))+(j:Int))=((i*C+j:Nat):Int):=by
  have h36:=Nat.mul_le_mul hi hC
  rw [Am (x:=(i:Int)*(C:Int)) (by rw [← Aye]; omega) (by rw [← Aye]; omega),← Aye,Am (by omega) (by omega)]
  omega
section
variable {R C:Nat}
theorem Zd (N M0:Nat) (l0:List Int) (r6:R≤6) (c6:C≤6) {j:Nat} (hj:j<C) (l:List Int) (x:Int) (v:List Int) (t:Int) (ms:List (List DV)) (hms:ms.length≤100):∀ (cnt i F:Nat),i+cnt=R→j<i→cnt<F →
    qr.down.L0 N M0 F (R:Int) (C:Int) l0 (i:Int) (clS R C l j x i) (j:Int) v t ms=qr.down.L1 N M0 (R:Int) (C:Int) l0 ((j+1:Nat):Int) (ms++[[.ints .arg .u64 v,.int .u64 t]]) (M3 R C l j x):=by
  intro cnt
  induction cnt with
  | zero =>
    intro i F hi hji hF
    obtain ⟨F,rfl⟩:∃ G,F=G+1:=⟨F-1,by omega⟩
    obtain rfl:i=R:=by omega
    rw [qr.down.Au,As,Axy (by omega),Axx,Axu (by unfold Ae4; omega),Axt,Am (by omega) (by omega),Ai8]
    rfl
  | succ cnt ih =>
    intro i F hi hji hF
    obtain ⟨F,rfl⟩:∃ G,F=G+1:=⟨F-1,by omega⟩
    have hlen:=Ai7 (R:=R) (C:=C) (l:=l) (j:=j) (x:=x) i
    have hp:=Kk (show i<R by omega) hj
    rw [qr.down.Au,As,Axu (by omega),Axt,Yg (by omega) c6 (by omega),Axu (by omega),Axu (by omega),Axz,Axt,Axv,Axu (by omega),Axt,Ai6 hj hji,Am (by omega) (by omega)]
    exact ih (i+1) F (by omega) (by omega) (by omega)
def Si (r c:Nat) (ms:List (List DV)):Option (List Int × List (List Int × Int))→DV
  | none=>.tup [.agg [.int .i64 0,.int .i64 0,.nil],.nil,.int .i64 2]
  | some x=>.tup [.agg [.int .i64 (r:Int),.int .i64 (c:Int),.ints (.own 106002 tB) .u64 x.1],.recs (.own 100006 tMR) 2 (ms++Yh x.2),.int .i64 0]
theorem Ak7 (N:Nat) (hN:7<N) (l0:List Int) (r6:R≤6) (c6:C≤6):∀ (cnt j F:Nat) (l:List Int) (ms:List (List DV)),j+cnt=H6 R C→cnt<F→l.length=R*C→Ai l=true→ms.length=j →
    qr.down.L1 N F (R:Int) (C:Int) l0 (j:Int) ms l=some (Si R C ms (Mz R C cnt j l)):=by
  intro cnt
  induction cnt with
  | zero =>
    intro j F l ms hj hF hl al hms
    obtain ⟨F,rfl⟩:∃ G,F=G+1:=⟨F-1,by omega⟩
    unfold H6 at hj
    have hlt:(A4 (j:Int) (C:Int)&&A4 (j:Int) (Ab ((R:Int)-1)))=false:=by
      rw [As,As,Am (by omega) (by omega),Bool.and_eq_false_iff,Ayc,Ayc]; omega
    rw [qr.down.B7,hlt,Axx]
    simp [Mz,Si,Yh]
  | succ cnt ih =>
    intro j F l ms hj hF hl al hms
    obtain ⟨F,rfl⟩:∃ G,F=G+1:=⟨F-1,by omega⟩
    have hj0:=hj
    unfold H6 at hj
    have hr:=Fe r6 c6 hl
    have hlt:(A4 (j:Int) (C:Int)&&A4 (j:Int) (Ab ((R:Int)-1)))=true:=by
      rw [As,As,Am (by omega) (by omega),Axu (by omega),Axu (by omega)]; rfl
    have cp:G4 (R:Int) (C:Int) l (j:Int)=true:=Ad.2 ⟨hr,Ar.2 (by omega)⟩
    have ec:Cp (C:Int) l (j:Int) (j:Int) (Int.toNat ((R:Int)-(j:Int)))=E3 R C l j:=by unfold E3; rw [show Int.toNat ((R:Int)-(j:Int))=R-j by omega]
    have ca:Ai (E3 R C l j)=true:=O4 al
    have cl:(E3 R C l j).length=R-j:=Ga _ _ _ _ _
    rw [qr.down.B7,hlt,Axt,cp,Ar.2 (show 0≤(j:Int)∧(j:Int)≤(R:Int) by omega),Axz,Axt,ec,I5 ca (by omega),Axt]
    unfold Mz
    by_cases he:(Cg (E3 R C l j)).2.2.2=0
    · have hml:=Uc he
      have hma:=Ud ca
      have hap:Hl (R:Int) (C:Int) (j:Int) (j:Int) (Cg (E3 R C l j)).1=true:=Axu (by omega)
      have hp:=Kk (show j<R by omega) (show j<C by omega)
      have hlen:=K1 R C l (j:Int) (j:Int) (Cg (E3 R C l j)).1 (Cg (E3 R C l j)).2.1
      have hg:=Zd N F l0 r6 c6 (show j<C by omega) (E7 R C l (j:Int) (j:Int) (Cg (E3 R C l j)).1 (Cg (E3 R C l j)).2.1) (Cg (E3 R C l j)).2.2.1 (Cg (E3 R C l j)).1 (Cg (E3 R C l j)).2.1 ms (by omega) (R-(j+1)) (j+1) N (by omega) (by omega) (by omega)
      have hn:=ih (j+1) F (Yi R C l j) (ms++[[.ints .arg .u64 (Cg (E3 R C l j)).1,.int .u64 (Cg (E3 R C l j)).2.1]]) (by omega) (by omega) (Nk _ _ _ _) (W4 al j) (by rw [List.length_append,hms]; rfl)
      rw [Gv he,Axx,hr,hap,al,hma.1,hma.2.1,Axz,Axz,Axz,Axt,Yg (by omega) c6 (by omega),Axv,Axv,Axv,Axu (by omega),Axu (by omega),Axz,Axt,Axu (by omega),Axt,
        Vs hlen (by omega),Am (by omega) (by omega),if_pos he]
      refine (hg.trans hn).trans ?_
      show some (Si R C _ (Mz R C cnt (j+1) (Yi R C l j)))=some (Si R C ms _)
      cases Mz R C cnt (j+1) (Yi R C l j) with
      | none=>rfl
      | some x=>simp [Si,Yh]
    · rw [V7 he,Axt,if_neg he]; rfl
theorem Ahk (N:Nat) (hN:7<N) {l:List Int} (r6:R≤6) (c6:C≤6) (hl:l.length=R*C) (al:Ai l=true) (h0:H6 R C≠0) :
    qr.down.L2 N N (R:Int) (C:Int) l=some (Si R C [] (J6 R C l)):=by
  obtain ⟨cnt,hc⟩:∃ cnt,H6 R C=cnt+1:=⟨H6 R C-1,by omega⟩
  obtain ⟨F,rfl⟩:∃ G,N=G+1:=⟨N-1,by omega⟩
  have hj:=hc
  unfold H6 at hj
  have hr:=Fe r6 c6 hl
  have hlt:(A4 (0:Int) (C:Int)&&A4 (0:Int) (Ab ((R:Int)-1)))=true:=by
    rw [As,As,Am (by omega) (by omega),Axu (by omega),Axu (by omega)]; rfl
  have cp:G4 (R:Int) (C:Int) l (0:Int)=true:=Ad.2 ⟨hr,Ar.2 (by omega)⟩
  have ec:Cp (C:Int) l (0:Int) (0:Int) (Int.toNat ((R:Int)-(0:Int)))=E3 R C l 0:=by unfold E3; rw [show Int.toNat ((R:Int)-(0:Int))=R-0 by omega]; rfl
  have ca:Ai (E3 R C l 0)=true:=O4 al
  have cl:(E3 R C l 0).length=R-0:=Ga _ _ _ _ _
  unfold J6
  rw [hc,qr.down.Hn,hlt,Axt,cp,Ar.2 (show 0≤(0:Int)∧(0:Int)≤(R:Int) by omega),Axz,Axt,ec,I5 ca (by omega),Axt]
  unfold Mz
  by_cases he:(Cg (E3 R C l 0)).2.2.2=0
  · have hml:=Uc he
    have hma:=Ud ca
    have hap:Hl (R:Int) (C:Int) (0:Int) (0:Int) (Cg (E3 R C l 0)).1=true:=Axu (by omega)
    have hp:=Kk (show 0<R by omega) (show 0<C by omega)
    have hlen:=K1 R C l (0:Int) (0:Int) (Cg (E3 R C l 0)).1 (Cg (E3 R C l 0)).2.1
    have hg:=Zd (F+1) F l r6 c6 (show 0<C by omega) (E7 R C l (0:Int) (0:Int) (Cg (E3 R C l 0)).1 (Cg (E3 R C l 0)).2.1) (Cg (E3 R C l 0)).2.2.1 (Cg (E3 R C l 0)).1 (Cg (E3 R C l 0)).2.1 [] (Nat.zero_le _) (R-1) 1 (F+1) (by omega) (by omega) (by omega)
    have hn:=Ak7 (R:=R) (C:=C) (F+1) hN l r6 c6 cnt 1 F (Yi R C l 0) [[.ints .arg .u64 (Cg (E3 R C l 0)).1,.int .u64 (Cg (E3 R C l 0)).2.1]] (by omega) (by unfold H6 at hc; omega) (Nk _ _ _ _) (W4 al 0) rfl
    have mc:=Yg (i:=0) (C:=C) (j:=0) (by omega) c6 (by omega)
    have mc:Ab (Ab ((0:Int)*(C:Int))+(0:Int))=((0*C+0:Nat):Int):=mc
    rw [Gv he,Axx,hr,hap,al,hma.1,hma.2.1,Axz,Axz,Axz,Axt,mc,Axv,Axv,Axv,Axu (by omega),Axu (by omega),Axz,Axt,Axu (by omega),Axt,
      Vs hlen (by omega),if_pos he]
    refine (hg.trans hn).trans ?_
    show some (Si R C _ (Mz R C cnt 1 (Yi R C l 0)))=some (Si R C [] _)
    cases Mz R C cnt (0+1) (Yi R C l 0) with
    | none=>rfl
    | some x=>simp [Si,Yh]
  · rw [V7 he,Axt,if_neg he]; rfl
end
theorem qr.down.known:qr.down.Kn:=qr.down.Ac (.cons Aq.Apply.known (.cons Aq.Dl.known (.cons Aa.Dz.known .nil))) fun r c l hp=>by
  obtain ⟨h1,al⟩:=Ad.1 (show ((A0 r c l&&Da l)&&Ai l)=true from hp)
  obtain ⟨hr,hf⟩:=Ad.1 h1
  obtain ⟨R,C,rfl,rfl,r6,c6,hl⟩:=Cc hr
  by_cases h0:H6 R C=0
  · have hx:J6 R C l=some (l,[]):=by unfold J6; rw [h0]; rfl
    refine ⟨8,.tup [.agg [.int .i64 (R:Int),.int .i64 (C:Int),.ints .arg .u64 l],.recs (.own 100006 tMR) 2 [],.int .i64 0],[100006],?_,?_⟩
    · unfold H6 at h0
      have hlt:(A4 (0:Int) (C:Int)&&A4 (0:Int) (Ab ((R:Int)-1)))=false:=by
        rw [As,As,Am (by omega) (by omega),Bool.and_eq_false_iff,Ayc,Ayc]; omega
      rw [qr.down.ev,show (8:Nat)=7+1 from rfl,qr.down.Hn,hlt,Axx]
    · show Wk _ _ (DV.tup [.agg [.int .i64 (F6 (R:Int) (C:Int) l).1,.int .i64 (F6 (R:Int) (C:Int) l).2.1,.ints .arg .u64 (F6 (R:Int) (C:Int) l).2.2.1],.recs .fresh 2 (Ko (R:Int) (C:Int) l),.int .i64 (F6 (R:Int) (C:Int) l).2.2.2])
      unfold F6 Ko J5
      rw [Axv,Axv,hx]
      exact Wk.Gw (.cons (Wk.G6 (.cons .int (.cons .int (.cons .Wr .nil)))) (.cons (.dropR _ _ _ _ (List.mem_singleton.2 rfl)) (.cons .int .nil)))
  · refine ⟨8,Si R C [] (J6 R C l),[106002,100006],?_,?_⟩
    · rw [qr.down.ev]
      exact Ahk 8 (by omega) r6 c6 hl al h0
    · show Wk _ _ (DV.tup [.agg [.int .i64 (F6 (R:Int) (C:Int) l).1,.int .i64 (F6 (R:Int) (C:Int) l).2.1,.ints .arg .u64 (F6 (R:Int) (C:Int) l).2.2.1],.recs .fresh 2 (Ko (R:Int) (C:Int) l),.int .i64 (F6 (R:Int) (C:Int) l).2.2.2])
      unfold F6 Ko J5
      rw [Axv,Axv]
      cases J6 R C l with
      | none=>exact Wk.Gw (.cons (Wk.G6 (.cons .int (.cons .int (.cons Lu .nil)))) (.cons (.nilR _ _) (.cons .int .nil)))
      | some x=>exact Wk.Gw (.cons (Wk.G6 (.cons .int (.cons .int (.cons (.dropA _ _ _ _ List.mem_cons_self) .nil)))) (.cons (.dropR _ _ _ _ (List.mem_cons_of_mem _ List.mem_cons_self)) (.cons .int .nil)))
open EqQr
def Aau (e:Int):DV:=.tup [.agg [.int .i64 0,.int .i64 0,.nil],.agg [.int .i64 0,.int .i64 0,.nil],.int .i64 e]
theorem Vh {r:Nat}:∀ {j:Nat} {ms:List (List Int × Int)},Aaw r j ms→∀ i:Nat,i<ms.length→Ai (ms.getD i ([],0)).1=true∧Af (ms.getD i ([],0)).2=true∧(ms.getD i ([],0)).1.length+(j+i)=r
  | _,[],_,i,h=>absurd h (Nat.not_lt_zero _)
  | j,m::ms,hm,0,_=>hm.1
  | j,m::ms,hm,i+1,h=>by
    have:=Vh hm.2 i (by simpa using h)
    rw [show j+(i+1)=j+1+i by omega]
    exact this
theorem Anh {ms:List (List Int × Int)} {i:Nat} (h:i<ms.length):List.getD (Yh ms) i []=[.ints .arg .u64 (ms.getD i ([],0)).1,.int .u64 (ms.getD i ([],0)).2]:=by
  unfold Yh
  rw [Ax3,List.getElem?_map,Aya h,Ax3,Aya h]; rfl
theorem Aes (ms:List (List Int × Int)):(Yh ms).length=ms.length:=by unfold Yh; rw [List.length_map]
theorem Abi {n i:Nat} {ms:List (List Int × Int)} (h:i<ms.length) (q:List Int):Hd n i (ms.drop i) q=E7 n n (Hd n (i+1) (ms.drop (i+1)) q) (i:Int) 0 (ms.getD i ([],0)).1 (ms.getD i ([],0)).2:=by
  rw [List.drop_eq_getElem_cons h,Hd,Ax3,Aya h]; rfl
theorem Ahi {R:Nat} (h:R≤6):Mw (R:Int)=((R:Int),(R:Int),I1 R,0):=by
  unfold Mw I1
  rw [if_pos (Nh h),Axv]
theorem Amf {n:Nat} (h:n≤6):n*n≤36:=Nat.mul_le_mul h h
theorem Afk (N:Nat) {R C:Nat} {l:List Int} (r6:R≤6) {x:List Int × List (List Int × Int)} (hx:J6 R C l=some x) (hm:Aaw R 0 x.2) (hxr:Ai x.1=true) (hxl:x.1.length≤36):∀ (j F:Nat),j≤x.2.length→j<F →
    qr.B0.L0 N F (R:Int) (C:Int) l ((j:Int)-1) (Hd R j (x.2.drop j) (I1 R)) =
    bif Ls R C l then some (.tup [.agg [.int .i64 (R:Int),.int .i64 (R:Int),.ints .fresh .u64 (Ma R C l)],.agg [.int .i64 (R:Int),.int .i64 (C:Int),.ints .arg .u64 (J5 R C l)],.int .i64 0])
    else some (Aau 2):=by
  have hq:Ma R C l=Hd R 0 x.2 (I1 R):=by unfold Ma; rw [hx]
  have hr:J5 R C l=x.1:=by unfold J5; rw [hx]
  have hd:F6 (R:Int) (C:Int) ([]++l)=((R:Int),(C:Int),x.1,0):=by
    unfold F6
    rw [List.nil_append,Axv,Axv,hx,hr]; rfl
  have hmd:Ko (R:Int) (C:Int) ([]++l)=Yh x.2:=by
    unfold Ko
    rw [List.nil_append,Axv,Axv,hx]
  have h36:=Amf r6
  intro j
  induction j with
  | zero =>
    intro F _ hF
    obtain ⟨F,rfl⟩:∃ G,F=G+1:=⟨F-1,by omega⟩
    have hb:=Rq R x.2 0 (I1 R) (Ut R) (by unfold I1; exact B8 _ _ _)
    have ok1:Ck (Hd R 0 x.2 (I1 R))=true:=I5 hb.1 (by omega)
    have ok2:Ck x.1=true:=I5 hxr (by omega)
    have hfo:Ls R C l=(Da (Hd R 0 x.2 (I1 R))&&Da x.1):=by unfold Ls; rw [hx,hq,hr]; rfl
    rw [qr.B0.Au,As,Axu (by omega),Axt,List.drop_zero,ok1,Axt,hd,Ahi r6,ok2,Bool.or_true,Axt,hfo,hq,hr]
    cases Da (Hd R 0 x.2 (I1 R)) with
    | false=>rfl
    | true=>cases Da x.1<;>rfl
  | succ j ih =>
    intro F hj hF
    obtain ⟨F,rfl⟩:∃ G,F=G+1:=⟨F-1,by omega⟩
    have ej:(((j+1:Nat):Int))-1=(j:Int):=by omega
    have hg:=Vh hm j (by omega)
    have hb:=Rq R (x.2.drop (j+1)) (j+1) (I1 R) (Ut R) (by unfold I1; exact B8 _ _ _)
    have hr1:=Fe r6 r6 hb.2
    have hap:Hl (R:Int) (R:Int) (j:Int) 0 (x.2.getD j ([],0)).1=true:=Axu (by omega)
    have hmg:=Anh (ms:=x.2) (i:=j) (by omega)
    rw [qr.B0.Au,ej,As,Axy (show ¬ (j:Int)<0 by omega),Axx,hmd,Aes,Axu (show (0:Int)≤(j:Int) by omega),Axu (show (j:Int)<(x.2.length:Int) by omega),Axz,Axt,Axv,hmg,Ahi r6]
    show (bif true then bif true then bif true then (bif (((A0 (R:Int) (R:Int) (Hd R (j+1) (x.2.drop (j+1)) (I1 R))&&Hl (R:Int) (R:Int) (j:Int) (0:Int) (x.2.getD j ([],0)).1)&&(Ai (Hd R (j+1) (x.2.drop (j+1)) (I1 R))&&Ai (x.2.getD j ([],0)).1))&&Af (x.2.getD j ([],0)).2) then
      qr.B0.L0 N F (R:Int) (C:Int) l (Ab ((j:Int)-(1:Int))) (E7 (Int.toNat (R:Int)) (Int.toNat (R:Int)) (Hd R (j+1) (x.2.drop (j+1)) (I1 R)) (j:Int) (0:Int) (x.2.getD j ([],0)).1 (x.2.getD j ([],0)).2) else none) else none else none else none)=_
    rw [Axt,Axt,Axt,hr1,hap,hb.1,hg.1,hg.2.1,Axz,Axz,Axz,Axt,Axv,Am (by omega) (by omega),← Abi (by omega)]
    exact ih F (by omega) (by omega)
theorem Afo {R C:Nat} {l:List Int} (hl:l.length=R*C) (al:Ai l=true) {x:List Int × List (List Int × Int)} (hx:J6 R C l=some x):Ai x.1=true∧x.1.length=R*C∧x.2.length=H6 R C∧Aaw R 0 x.2 :=
  Ze R C (H6 R C) 0 l x al hl (by unfold H6; omega) hx
theorem Ro {r c:Int} {l:List Int} (h:Cd r c l=0):E6 r c l=if Ls r.toNat c.toNat l=true then 0 else 2:=by
  unfold E6; rw [if_neg (by rw [h]; decide)]
theorem Afl {r c:Int} {l:List Int} (h:Cd r c l≠0):E6 r c l=Cd r c l:=by unfold E6; rw [if_pos h]
theorem X5 {r c:Int} {l:List Int} {e:Int} (h:E6 r c l=e) (he:e≠0):qX r c l=Ke e∧rX r c l=Ke e:=by unfold qX rX; rw [h,if_pos he,if_pos he]; exact ⟨rfl,rfl⟩
theorem Wy {r c:Int} {l:List Int} (h:E6 r c l=0):qX r c l=(r,r,Ma r.toNat c.toNat l,0)∧rX r c l=(r,c,J5 r.toNat c.toNat l,0):=by unfold qX rX; rw [h]; exact ⟨rfl,rfl⟩
theorem Abn {drops:List Nat} {e:Int} {g h:Af6}:Wk drops (Aau e) (DV.tup [.agg [.int .i64 (Ke e).1,.int .i64 (Ke e).2.1,.ints g .u64 (Ke e).2.2.1],.agg [.int .i64 (Ke e).1,.int .i64 (Ke e).2.1,.ints h .u64 (Ke e).2.2.1],.int .i64 e]) :=
  Wk.Gw (.cons (Wk.G6 (.cons .int (.cons .int (.cons Lu .nil)))) (.cons (Wk.G6 (.cons .int (.cons .int (.cons Lu .nil)))) (.cons .int .nil)))
theorem qr.B0.known:qr.B0.Kn:=qr.B0.Ac (.cons Ct.Check.known (.cons Aq.Apply.known (.cons Aa.Ew.known (.cons qr.down.known (.cons Ae.Finite.known .nil))))) fun r c l hp=>by
  have al:Ai l=true:=hp
  show ∃ N dv drops,_=some dv∧Wk drops dv (DV.tup [.agg [.int .i64 (qX r c l).1,.int .i64 (qX r c l).2.1,.ints .arg .u64 (qX r c l).2.2.1],.agg [.int .i64 (rX r c l).1,.int .i64 (rX r c l).2.1,.ints .arg .u64 (rX r c l).2.2.1],.int .i64 (E6 r c l)])
  by_cases h1:Cd r c l=0
  · obtain ⟨hr,hf⟩:=D5 h1
    have h36:=Kh hr
    obtain ⟨R,C,rfl,rfl,r6,c6,hl⟩:=Cc hr
    have d0:decide (0+l.length≤Gp)=true:=Axu (by unfold Gp; omega)
    cases hx:J6 R C l with
    | none =>
      have hfo:Ls R C l=false:=by unfold Ls; rw [hx]; rfl
      have he:E6 (R:Int) (C:Int) l=2:=by rw [Ro h1,Axv,Axv,hfo]; rfl
      obtain ⟨e1,e2⟩:=X5 he (by decide)
      have hd:F6 (R:Int) (C:Int) ([]++l)=Ke 2:=by
        unfold F6
        rw [List.nil_append,Axv,Axv,hx]; rfl
      rw [e1,e2,he]
      exact ⟨0,Aau 2,[],by rw [qr.B0.ev,al,Axt,Gv h1,Axx,d0,Axt,hd,List.nil_append,hr,hf,al,Axz,Axz,Axt,show ((Ke 2).2.2.2 !=(0:Int))=true from rfl,Axt]; rfl,Abn⟩
    | some x =>
      obtain ⟨x1,x2,x3,x4⟩:=Afo hl al hx
      have hd:F6 (R:Int) (C:Int) ([]++l)=((R:Int),(C:Int),x.1,0):=by
        unfold F6 J5
        rw [List.nil_append,Axv,Axv,hx]; rfl
      have hmd:Ko (R:Int) (C:Int) ([]++l)=Yh x.2:=by
        unfold Ko
        rw [List.nil_append,Axv,Axv,hx]
      have hn:x.2.length≤6:=by rw [x3]; unfold H6; omega
      have hloop:=Afk 8 r6 hx x4 x1 (by rw [x2]; exact Nat.mul_le_mul r6 c6) x.2.length 8 (Nat.le_refl _) (by omega)
      rw [Ax7 (Nat.le_refl _)] at hloop
      have hrun:=qr.B0.ev 8 (R:Int) (C:Int) l
      rw [al,Axt,Gv h1,Axx,d0,Axt,hd,hmd,Aes,List.nil_append,hr,hf,al,Axz,Axz,Axt,show (((R:Int),(C:Int),x.1,(0:Int)).2.2.2 !=(0:Int))=false from rfl,Axx,Ahi r6,Am (by omega) (by omega)] at hrun
      have hrun:=hrun.trans hloop
      cases hfo:Ls R C l with
      | false =>
        have he:E6 (R:Int) (C:Int) l=2:=by rw [Ro h1,Axv,Axv,hfo]; rfl
        obtain ⟨e1,e2⟩:=X5 he (by decide)
        rw [hfo,Axx] at hrun
        rw [e1,e2,he]
        exact ⟨8,Aau 2,[],hrun,Abn⟩
      | true =>
        have he:E6 (R:Int) (C:Int) l=0:=by rw [Ro h1,Axv,Axv,hfo]; rfl
        obtain ⟨e1,e2⟩:=Wy he
        rw [hfo,Axt] at hrun
        rw [e1,e2,he,Axv,Axv]
        exact ⟨8,_,[],hrun,Wk.Gw (.cons (Wk.G6 (.cons .int (.cons .int (.cons (.fresh _ _) .nil)))) (.cons (Wk.G6 (.cons .int (.cons .int (.cons .Wr .nil)))) (.cons .int .nil)))⟩
  · have he:=Afl h1
    obtain ⟨e1,e2⟩:=X5 he h1
    rw [e1,e2,he]
    exact ⟨0,Aau (Cd r c l),[],by rw [qr.B0.ev,al,Axt,V7 h1,Axt]; rfl,Abn⟩
theorem Ahp {r c:Int} {l:List Int} (h:E6 r c l=0):Cd r c l=0:=by
  by_cases h1:Cd r c l=0
  · exact h1
  · rw [Afl h1] at h; exact absurd h h1
theorem Y9 {r c:Int} {l:List Int} (al:Ai l=true) (h:E6 r c l=0):∃ R C:Nat,r=R∧c=C∧R≤6∧C≤6∧l.length=R*C∧Ai (Ma R C l)=true∧(Ma R C l).length=R*R∧Ai (J5 R C l)=true∧(J5 R C l).length=R*C∧Da (Ma R C l)=true∧Da (J5 R C l)=true:=by
  have h1:=Ahp h
  rw [Ro h1] at h
  obtain ⟨R,C,rfl,rfl,r6,c6,hl⟩:=Cc (D5 h1).1
  rw [Axv,Axv] at h
  by_cases ho:Ls R C l=true
  · unfold Ls at ho
    obtain ⟨o1,o2⟩:=Ad.1 ho
    obtain ⟨o3,o4⟩:=Ad.1 o2
    obtain ⟨q1,q2⟩:=Aq5 o1
    obtain ⟨g1,g2⟩:=Aq4 al hl o1
    exact ⟨R,C,rfl,rfl,r6,c6,hl,q1,q2,g1,g2,o3,o4⟩
  · rw [if_neg ho] at h; exact absurd h (by decide)
theorem W0 {R C:Nat} {l:List Int} (r6:R≤6) (c6:C≤6) (hl:l.length=R*C) {x y a b:Int} (hp:Hs (R:Int) (C:Int) x y a b=true) :
    Im (R:Int) (C:Int) l x y a b=(a,b,B5 a.toNat b.toNat fun i k=>D6 (C:Int) l (x+(i:Int)) (y+(k:Int)),0):=by
  unfold Im; rw [if_pos (Fe r6 c6 hl),if_pos hp]
theorem U2 {r c:Int} {l:List Int} (al:Ai l=true) (h:E6 r c l=0) :
    Im r r (Ma r.toNat c.toNat l) 0 0 r (min r c)=D7 r c l∧Im r c (J5 r.toNat c.toNat l) 0 0 (min r c) c=Ig r c l:=by
  obtain ⟨R,C,rfl,rfl,r6,c6,hl,q1,q2,g1,g2,_,_⟩:=Y9 al h
  unfold D7 Ig
  rw [h,if_neg (by decide),if_neg (by decide),Axv,Axv]
  have p1:Hs (R:Int) (R:Int) 0 0 (R:Int) (min (R:Int) (C:Int))=true:=Axu (by omega)
  have p2:Hs (R:Int) (C:Int) 0 0 (min (R:Int) (C:Int)) (C:Int)=true:=Axu (by omega)
  rw [W0 r6 r6 q2 p1,W0 r6 c6 g2 p2]
  exact ⟨rfl,rfl⟩
theorem Ath {r c:Int} {l:List Int} (al:Ai l=true) (h:E6 r c l=0):Ai (Ma r.toNat c.toNat l)=true∧Ai (J5 r.toNat c.toNat l)=true:=by
  obtain ⟨R,C,rfl,rfl,_,_,_,q1,_,g1,_,_,_⟩:=Y9 al h
  rw [Axv,Axv]
  exact ⟨q1,g1⟩
theorem Apw {r c:Int} {l:List Int} (al:Ai l=true) (h:E6 r c l=0):Ai (D7 r c l).2.2.1=true∧Ai (Ig r c l).2.2.1=true:=by
  obtain ⟨a,b⟩:=U2 al h
  obtain ⟨q1,g1⟩:=Ath al h
  rw [← a,← b]
  exact ⟨Aik q1 _ _ _ _,Aik g1 _ _ _ _⟩
theorem qr.F9.known:qr.F9.Kn:=qr.F9.Ac (.cons Aa.Part.known (.cons qr.B0.known .nil)) fun r c l hp=>by
  have al:Ai l=true:=hp
  show ∃ N dv drops,_=some dv∧Wk drops dv (DV.tup [.agg [.int .i64 (D7 r c l).1,.int .i64 (D7 r c l).2.1,.ints .fresh .u64 (D7 r c l).2.2.1],.agg [.int .i64 (Ig r c l).1,.int .i64 (Ig r c l).2.1,.ints .fresh .u64 (Ig r c l).2.2.1],.int .i64 (E6 r c l)])
  by_cases h:E6 r c l=0
  · obtain ⟨e1,e2⟩:=Wy h
    obtain ⟨t1,t2⟩:=U2 al h
    refine ⟨0,DV.tup [.agg [.int .i64 (D7 r c l).1,.int .i64 (D7 r c l).2.1,.ints .fresh .u64 (D7 r c l).2.2.1],.agg [.int .i64 (Ig r c l).1,.int .i64 (Ig r c l).2.1,.ints .fresh .u64 (Ig r c l).2.2.1],.int .i64 0],[],by rw [qr.F9.ev,al,Axt,Gv h,Axx,e1,e2,t1,t2],by rw [h]; exact Wk.Gw (.cons (Wk.G6 (.cons .int (.cons .int (.cons .Ny .nil)))) (.cons (Wk.G6 (.cons .int (.cons .int (.cons .Ny .nil)))) (.cons .int .nil)))⟩
  · have e1:D7 r c l=Ke (E6 r c l):=by unfold D7; rw [if_pos h]
    have e2:Ig r c l=Ke (E6 r c l):=by unfold Ig; rw [if_pos h]
    rw [e1,e2]
    exact ⟨0,Aau (E6 r c l),[],by rw [qr.F9.ev,al,Axt,V7 h,Axt]; rfl,Abn⟩
theorem Ar1 {r c p:Int}:((A4 r c)||(r !=p))=decide (r<c∨r≠p):=by
  rw [As,Ax9]; simp
theorem solve.D2.known:solve.D2.Kn:=solve.D2.Ac (.cons Ct.Check.known (.cons qr.F9.known (.cons qr.Fu.known (.cons solve.Flat.known (.cons solve.Cl.known .nil))))) fun r c l p q m hp=>by
  obtain ⟨al,am⟩:=Ad.1 (show (Ai l&&Ai m)=true from hp)
  show ∃ N dv drops,_=some dv∧Wk drops dv (So (Fl r c l p q m))
  have hrun:=solve.D2.ev 0 r c l p q m
  rw [al,Axt] at hrun
  unfold Fl
  by_cases c1:Cd r c l=0
  · rw [Gv c1,Axx,am,Axt] at hrun
    rw [if_neg (by rw [c1]; decide)]
    by_cases c2:Cd p q m=0
    · rw [Gv c2,Axx,Ar1] at hrun
      rw [if_neg (by rw [c2]; decide)]
      by_cases c3:r<c∨r≠p
      · rw [Axu c3,Axt] at hrun
        rw [if_pos c3]
        exact ⟨0+4,_,[],hrun,Jt⟩
      · rw [Axy c3,Axx,Axt] at hrun
        rw [if_neg c3]
        by_cases c4:E6 r c l=0
        · obtain ⟨i1,i2⟩:=Apw al c4
          rw [Gv c4,Axx,i2,Axt] at hrun
          rw [if_neg (by rw [c4]; decide)]
          by_cases c5:(Ov (Ig r c l).1 (Ig r c l).2.1 (Ig r c l).2.2.1).1=true
          · rw [c5,Axt] at hrun
            rw [if_pos c5]
            exact ⟨0+4,_,[],hrun,Jt⟩
          · have c5':(Ov (Ig r c l).1 (Ig r c l).2.1 (Ig r c l).2.2.1).1=false:=by simpa using c5
            rw [c5',Axx,i1,Axz,Axt] at hrun
            rw [if_neg c5]
            unfold Apk
            by_cases c6:(Dr (D7 r c l).1 (D7 r c l).2.1 (D7 r c l).2.2.1 p q m).2.2.2=0
            · rw [Gv c6,Axx,Aji,Axz,Axt] at hrun
              rw [if_neg (by rw [c6]; decide)]
              exact ⟨0+4,_,[],hrun,Nt⟩
            · rw [V7 c6,Axt] at hrun
              rw [if_pos c6]
              exact ⟨0+4,_,[],hrun,Jt⟩
        · rw [V7 c4,Axt] at hrun
          rw [if_pos c4]
          exact ⟨0+4,_,[],hrun,Jt⟩
    · rw [V7 c2,Axt] at hrun
      rw [if_pos c2]
      exact ⟨0+4,_,[],hrun,Jt⟩
  · rw [V7 c1,Axt] at hrun
    rw [if_pos c1]
    exact ⟨0+4,_,[],hrun,Jt⟩
namespace EqRef17
def Ag.Div.A6:List (Nat × Entry):=[(102,Ag.B.spec),(159,Ag.F.spec)]
def Ag.Div.E:Env:=A9 (A5 Ag.Div.A6) (fun _=>false) (fun _=>none) (fun _=>none)
theorem Ag.Div.ev (N:Nat) (a b:Int):Bp Ag.Div.E N Tryz.f84 (An Tryz.f84) [.int .u64 a,.int .u64 b]=bif (Af a) then bif (Af b) then some (.int .u64 (Ft ((Ieee.double.div (Int.toNat a) (Int.toNat b)).getD nanBits))) else none else none:=by kernel_rfl
abbrev _root_.Go.Proofs.S1.Ag.Div.Kn:=A3 Tryz.prog 84 Ag.Div.spec
theorem Ag.Div.Ac (hk:Ax Tryz.prog Ag.Div.A6) (h:∀ (a b:Int),Ag.Div.pre [.i a,.i b]=true→A8 Ag.Div.E Tryz.f84 [.int .u64 a,.int .u64 b] (Ag.Div.out [.i a,.i b])):Ag.Div.Kn :=
  Ak (Az hk _ _ _) Tryz.func84 (by kernel_rfl) (by kernel_rfl) h
def Ag.Finite.hint:Nat→Option Ba
  | 0=>some { keep:=[0,3],objs:=[],boxes:=[] }
  | _=>none
def Ag.Finite.A6:List (Nat × Entry):=[(131,A1.Finite.spec)]
def Ag.Finite.E:Env:=A9 (A5 Ag.Finite.A6) (fun _=>false) Ag.Finite.hint (fun _=>none)
def Ag.Finite.L0 (N M:Nat) (x:List Int) (p3:Int):Option DV:=Bz Ag.Finite.E N Tryz.f92 (An Tryz.f92) [1,0,1,0] [] M ⟨Gl 16 [(0,.ints .arg .u64 x),(3,.int .i64 p3)],[]⟩
theorem Ag.Finite.Au (N M:Nat) (x:List Int) (p3:Int):Ag.Finite.L0 N (M+1) x p3=bif (A4 p3 (List.length x:Int)) then bif ((decide (0≤p3))&&(decide (p3<(List.length x:Int)))) then bif (Af (List.getD x (Int.toNat p3) 0)) then bif (!(Cq (List.getD x (Int.toNat p3) 0))) then some (.bool false) else Ag.Finite.L0 N M x (Ab (p3+1)) else none else none else some (.bool true):=by kernel_rfl
theorem Ag.Finite.ev (N:Nat) (x:List Int):Bp Ag.Finite.E N Tryz.f92 (An Tryz.f92) [.ints .arg .u64 x] =
  Ag.Finite.L0 N N x 0:=by kernel_rfl
abbrev _root_.Go.Proofs.S1.Ag.Finite.Kn:=A3 Tryz.prog 92 Ag.Finite.spec
theorem Ag.Finite.Ac (hk:Ax Tryz.prog Ag.Finite.A6) (h:∀ (x:List Int),Ag.Finite.pre [.l x]=true→A8 Ag.Finite.E Tryz.f92 [.ints .arg .u64 x] (Ag.Finite.out [.l x])):Ag.Finite.Kn :=
  Ak (Az hk _ _ _) Tryz.func92 (by kernel_rfl) (by kernel_rfl) h
def Gs.Check.A6:List (Nat × Entry):=[(92,Ag.Finite.spec),(91,Aj.H8.spec)]
def Gs.Check.E:Env:=A9 (A5 Gs.Check.A6) (fun _=>false) (fun _=>none) (fun _=>none)
theorem Gs.Check.ev (N:Nat) (r c:Int) (l:List Int):Bp Gs.Check.E N Tryz.f25 (An Tryz.f25) [.agg [.int .i64 r,.int .i64 c,.ints .arg .u64 l]]=bif (!(A0 r c l)) then some (.int .i64 1) else bif (Ck l) then bif (!(Da l)) then some (.int .i64 4) else some (.int .i64 0) else none:=by kernel_rfl
abbrev _root_.Go.Proofs.S1.Gs.Check.Kn:=A3 Tryz.prog 25 Gs.Check.spec
theorem Gs.Check.Ac (hk:Ax Tryz.prog Gs.Check.A6) (h:∀ (r c:Int) (l:List Int),Gs.Check.pre [.i r,.i c,.l l]=true→A8 Gs.Check.E Tryz.f25 [.agg [.int .i64 r,.int .i64 c,.ints .arg .u64 l]] (Gs.Check.out [.i r,.i c,.l l])):Gs.Check.Kn :=
  Ak (Az hk _ _ _) Tryz.func25 (by kernel_rfl) (by kernel_rfl) h
def A7.Check.hint:Nat→Option Ba
  | 0=>some { keep:=[2,5],objs:=[],boxes:=[2] }
  | _=>none
def A7.Check.A6:List (Nat × Entry):=[(62,A1.Kind.spec),(80,Aj.At.spec),(25,Gs.Check.spec)]
def A7.Check.E:Env:=A9 (A5 A7.Check.A6) (fun _=>false) A7.Check.hint (fun _=>none)
def A7.Check.L0 (N M:Nat) (r c:Int) (l:List Int) (p5:Int):Option DV:=Bz A7.Check.E N Tryz.f79 (An Tryz.f79) [1,1,1,1,0,1,0] [] M ⟨Gl 40 [(2,.ptr 2 0 0),(5,.int .i64 p5)],[(2,false,.box [.int .i64 r,.int .i64 c,.ints .arg .u64 l])]⟩
theorem A7.Check.Au (N M:Nat) (r c:Int) (l:List Int) (p5:Int):A7.Check.L0 N (M+1) r c l p5=bif (A4 p5 r) then bif (Cw r c l p5 p5) then bif (Kl (D6 c l p5 p5)) then bif ((Bd (D6 c l p5 p5))==(0:Int)) then some (.int .i64 5) else A7.Check.L0 N M r c l (Ab (p5+1)) else none else none else some (.int .i64 0):=by kernel_rfl
theorem A7.Check.ev (N:Nat) (r c:Int) (l:List Int) (p q:Int) (m:List Int):Bp A7.Check.E N Tryz.f79 (An Tryz.f79) [.agg [.int .i64 r,.int .i64 c,.ints .arg .u64 l],.agg [.int .i64 p,.int .i64 q,.ints .arg .u64 m]]=bif (Ai l) then bif ((Cd r c l) !=(0:Int)) then bif (Ai l) then some (.int .i64 (Cd r c l)) else none else bif (Ai m) then bif ((Cd p q m) !=(0:Int)) then bif (Ai m) then some (.int .i64 (Cd p q m)) else none else bif ((r !=c)||(r !=p)) then some (.int .i64 3) else A7.Check.L0 N N r c l (0:Int) else none else none :=
  Eq.trans (by kernel_rfl)
  (Ej (Ej rfl (Ej (Ej rfl (Aw (R7 (r !=c)) (Aw (P2 (r !=c)) (Aw (R7 (r !=c)) (Aw (P2 (r !=c)) (Aw (tt8 (r !=c)) (Aw (Wt (r !=c)) (C2 (tt5 (r !=c) (r !=p)) rfl rfl)))))))) rfl)) rfl)
abbrev _root_.Go.Proofs.S1.A7.Check.Kn:=A3 Tryz.prog 79 A7.Check.spec
theorem A7.Check.Ac (hk:Ax Tryz.prog A7.Check.A6) (h:∀ (r c:Int) (l:List Int) (p q:Int) (m:List Int),A7.Check.pre [.i r,.i c,.l l,.i p,.i q,.l m]=true→A8 A7.Check.E Tryz.f79 [.agg [.int .i64 r,.int .i64 c,.ints .arg .u64 l],.agg [.int .i64 p,.int .i64 q,.ints .arg .u64 m]] (A7.Check.out [.i r,.i c,.l l,.i p,.i q,.l m])):A7.Check.Kn :=
  Ak (Az hk _ _ _) Tryz.func79 (by kernel_rfl) (by kernel_rfl) h
def A7.finite.A6:List (Nat × Entry):=[(92,Ag.Finite.spec)]
def A7.finite.E:Env:=A9 (A5 A7.finite.A6) (fun _=>false) (fun _=>none) (fun _=>none)
theorem A7.finite.ev (N:Nat) (r c:Int) (l:List Int):Bp A7.finite.E N Tryz.f85 (An Tryz.f85) [.agg [.int .i64 r,.int .i64 c,.ints .arg .u64 l]]=bif (Ck l) then bif (!(Da l)) then some (.tup [.agg [.int .i64 0,.int .i64 0,.nil],.int .i64 2]) else some (.tup [.agg [.int .i64 r,.int .i64 c,.ints .arg .u64 l],.int .i64 0]) else none:=by kernel_rfl
abbrev _root_.Go.Proofs.S1.A7.finite.Kn:=A3 Tryz.prog 85 A7.finite.spec
theorem A7.finite.Ac (hk:Ax Tryz.prog A7.finite.A6) (h:∀ (r c:Int) (l:List Int),A7.finite.pre [.i r,.i c,.l l]=true→A8 A7.finite.E Tryz.f85 [.agg [.int .i64 r,.int .i64 c,.ints .arg .u64 l]] (A7.finite.out [.i r,.i c,.l l])):A7.finite.Kn :=
  Ak (Az hk _ _ _) Tryz.func85 (by kernel_rfl) (by kernel_rfl) h
def A7.Cl.hint:Nat→Option Ba
  | 0=>some { keep:=[2,3,4,6,7],objs:=[],boxes:=[2,3,4,6] }
  | 2=>some { keep:=[2,3,4,6,7,8],objs:=[],boxes:=[2,3,4,6] }
  | 4=>some { keep:=[2,3,4,6,7,8,9,10],objs:=[],boxes:=[2,3,4,6] }
  | _=>none
def A7.Cl.A6:List (Nat × Entry):=[(84,Ag.Div.spec),(82,Ag.Mul.spec),(81,Ag.Sub.spec),(80,Aj.At.spec),(83,Aj.F8.spec),(35,Aj.Bf.spec),(79,A7.Check.spec),(85,A7.finite.spec)]
def A7.Cl.E:Env:=A9 (A5 A7.Cl.A6) (fun _=>false) A7.Cl.hint (fun _=>none)
def A7.Cl.L0 (N M:Nat) (r c:Int) (l:List Int) (p q:Int) (m:List Int) (p7:Int) (p6_2:List Int):Option DV:=Bz A7.Cl.E N Tryz.f101 (An Tryz.f101) [1,1,1,0,1,0] [] M ⟨Gl 74 [(2,.ptr 2 0 0),(3,.ptr 3 0 0),(4,.ptr 4 0 0),(6,.ptr 6 0 0),(7,.int .i64 p7)],[(2,false,.box [.int .i64 r,.int .i64 c,.ints .arg .u64 l]),(3,false,.box [.int .i64 p,.int .i64 q,.ints .arg .u64 m]),(4,false,.box [.int .i64 0,.int .i64 0,.nil]),(6,false,.box [.int .i64 p,.int .i64 q,.ints .fresh .u64 p6_2])]⟩
def A7.Cl.L1 (N M0 M:Nat) (r c:Int) (l:List Int) (p q:Int) (m:List Int) (p8:Int) (p6:List Int) (p7_1:Int):Option DV:=Bz A7.Cl.E N Tryz.f101 (An Tryz.f101) [1,1,1,0,1,0,0,1,0,0,1,0] [M0] M ⟨Gl 74 [(2,.ptr 2 0 0),(3,.ptr 3 0 0),(4,.ptr 4 0 0),(6,.ptr 6 0 0),(7,.int .i64 p7_1),(8,.int .i64 p8)],[(2,false,.box [.int .i64 r,.int .i64 c,.ints .arg .u64 l]),(3,false,.box [.int .i64 p,.int .i64 q,.ints .arg .u64 m]),(4,false,.box [.int .i64 0,.int .i64 0,.nil]),(6,false,.box [.int .i64 p,.int .i64 q,.ints .fresh .u64 p6])]⟩
def A7.Cl.L2 (N M0 M1 M:Nat) (r c:Int) (l:List Int) (p q:Int) (m:List Int) (p9 p10:Int) (p7_2 p8_1:Int) (p6_1:List Int):Option DV:=Bz A7.Cl.E N Tryz.f101 (An Tryz.f101) [1,1,1,0,1,0,0,1,0,0,1,0,0,1,0,0,1,0,1,0] [M0,M1] M ⟨Gl 74 [(2,.ptr 2 0 0),(3,.ptr 3 0 0),(4,.ptr 4 0 0),(6,.ptr 6 0 0),(7,.int .i64 p7_2),(8,.int .i64 p8_1),(9,.int .u64 p9),(10,.int .i64 p10)],[(2,false,.box [.int .i64 r,.int .i64 c,.ints .arg .u64 l]),(3,false,.box [.int .i64 p,.int .i64 q,.ints .arg .u64 m]),(4,false,.box [.int .i64 0,.int .i64 0,.nil]),(6,false,.box [.int .i64 p,.int .i64 q,.ints .fresh .u64 p6_1])]⟩
theorem A7.Cl.Au (N M:Nat) (r c:Int) (l:List Int) (p q:Int) (m:List Int) (p7:Int) (p6_2:List Int):A7.Cl.L0 N (M+1) r c l p q m p7 p6_2=bif (A4 p7 q) then A7.Cl.L1 N M N r c l p q m (Ab (r-1)) p6_2 p7 else bif (Ai p6_2&&A0 p q p6_2) then some (.tup [.agg [.int .i64 ((Kc p q p6_2).1),.int .i64 ((Kc p q p6_2).2.1),.ints .arg .u64 ((Kc p q p6_2).2.2.1)],.int .i64 ((Kc p q p6_2).2.2.2)]) else none:=by kernel_rfl
theorem A7.Cl.B7 (N M0 M:Nat) (r c:Int) (l:List Int) (p q:Int) (m:List Int) (p8:Int) (p6:List Int) (p7_1:Int):A7.Cl.L1 N M0 (M+1) r c l p q m p8 p6 p7_1=bif (Ee 0 p8) then bif (Cw p q m p8 p7_1) then A7.Cl.L2 N M0 M N r c l p q m (D6 q m p8 p7_1) (Ab (p8+1)) p7_1 p8 p6 else none else A7.Cl.L0 N M0 r c l p q m (Ab (p7_1+1)) p6:=by kernel_rfl
theorem A7.Cl.Hn (N M0 M1 M:Nat) (r c:Int) (l:List Int) (p q:Int) (m:List Int) (p9 p10:Int) (p7_2 p8_1:Int) (p6_1:List Int):A7.Cl.L2 N M0 M1 (M+1) r c l p q m p9 p10 p7_2 p8_1 p6_1=bif (A4 p10 r) then bif (Cw r c l p8_1 p10) then bif (Cw p q p6_1 p10 p7_2) then bif (Af (D6 c l p8_1 p10)&&Af (D6 q p6_1 p10 p7_2)) then bif (Af p9&&Af (D1 (D6 c l p8_1 p10) (D6 q p6_1 p10 p7_2))) then A7.Cl.L2 N M0 M1 M r c l p q m (Eu p9 (D1 (D6 c l p8_1 p10) (D6 q p6_1 p10 p7_2))) (Ab (p10+1)) p7_2 p8_1 p6_1 else none else none else none else none else bif (Cw r c l p8_1 p8_1) then bif (Af p9&&Af (D6 c l p8_1 p8_1)) then bif (Cw p q p6_1 p8_1 p7_2) then A7.Cl.L1 N M0 M1 r c l p q m (Ab (p8_1-1)) (List.set p6_1 (Int.toNat (p8_1*q+p7_2)) (Fa p9 (D6 c l p8_1 p8_1))) p7_2 else none else none else none :=
  Eq.trans (by kernel_rfl)
  (Ej (C2 (Cs (Cw r c l p8_1 p10)) (C2 (Cs (Cw p q p6_1 p10 p7_2)) (C2 (Cs (Af (D6 c l p8_1 p10)&&Af (D6 q p6_1 p10 p7_2))) (C2 (Cs (Af p9&&Af (D1 (D6 c l p8_1 p10) (D6 q p6_1 p10 p7_2)))) rfl rfl) rfl) rfl) rfl) (C2 (Cs (Cw r c l p8_1 p8_1)) (C2 (Cs (Af p9&&Af (D6 c l p8_1 p8_1))) (C2 (Cs (Cw p q p6_1 p8_1 p7_2)) rfl rfl) rfl) rfl))
theorem A7.Cl.ev (N:Nat) (r c:Int) (l:List Int) (p q:Int) (m:List Int):Bp A7.Cl.E N Tryz.f101 (An Tryz.f101) [.agg [.int .i64 r,.int .i64 c,.ints .arg .u64 l],.agg [.int .i64 p,.int .i64 q,.ints .arg .u64 m]]=bif (Ai l&&Ai m) then bif ((N1 r c l p q m) !=(0:Int)) then bif (Ai l&&Ai m) then some (.tup [.agg [.int .i64 0,.int .i64 0,.nil],.int .i64 (N1 r c l p q m)]) else none else bif (Bg p&&Bg q) then A7.Cl.L0 N N r c l p q m 0 (B5 (Int.toNat p) (Int.toNat q) (fun _ _=>0)) else none else none:=by kernel_rfl
abbrev _root_.Go.Proofs.S1.A7.Cl.Kn:=A3 Tryz.prog 101 A7.Cl.spec
theorem A7.Cl.Ac (hk:Ax Tryz.prog A7.Cl.A6) (h:∀ (r c:Int) (l:List Int) (p q:Int) (m:List Int),A7.Cl.pre [.i r,.i c,.l l,.i p,.i q,.l m]=true→A8 A7.Cl.E Tryz.f101 [.agg [.int .i64 r,.int .i64 c,.ints .arg .u64 l],.agg [.int .i64 p,.int .i64 q,.ints .arg .u64 m]] (A7.Cl.out [.i r,.i c,.l l,.i p,.i q,.l m])):A7.Cl.Kn :=
  Ak (Az hk _ _ _) Tryz.func101 (by kernel_rfl) (by kernel_rfl) h
end EqRef17
open EqRef17
theorem Ag.Div.known:Ag.Div.Kn:=Ag.Div.Ac (.cons Ag.B.known (.cons Ag.F.known .nil)) fun a b hp=>by
  obtain ⟨ha,hb⟩:=Ad.1 hp
  obtain ⟨a,rfl,hn⟩:=Bl ha
  obtain ⟨b,rfl,hm⟩:=Bl hb
  refine ⟨0,Ag.Div.out [.i a,.i b],[],?_,.int⟩
  rw [Ag.Div.ev,ha,hb,Axv,Axv]
  unfold Ft
  rw [Aoo hn hm Gk]; rfl
theorem Wl (N:Nat) {x:List Int} (hx:Ck x=true):∀ (k i F:Nat),i+k=x.length→k<F→Ag.Finite.L0 N F x (i:Int)=some (.bool ((x.drop i).all Cq)):=by
  obtain ⟨hl,hu⟩:=H3 hx
  intro k
  induction k with
  | zero =>
    intro i F hi hF
    obtain ⟨F,rfl⟩:∃ G,F=G+1:=⟨F-1,by omega⟩
    rw [Ag.Finite.Au,As,Axy (by omega),Axx,Ax7 (by omega)]; rfl
  | succ k ih =>
    intro i F hi hF
    obtain ⟨F,rfl⟩:∃ G,F=G+1:=⟨F-1,by omega⟩
    rw [Ag.Finite.Au,As,Axu (show (i:Int)<(x.length:Int) by omega),Axt,Axu (show (0:Int)≤(i:Int) by omega),Axz,Axt,Axv,hu i (by omega),Axt,G3 (by omega),List.all_cons]
    cases Cq (x.getD i 0) with
    | false=>rfl
    | true =>
      rw [Bool.not_true,Axx,Am (by omega) (by omega),Bool.true_and]
      exact ih (i+1) F (by omega) (by omega)
theorem Ag.Finite.known:Ag.Finite.Kn:=Ag.Finite.Ac (.cons A1.Finite.known .nil) fun x hp=>by
  have hp:Ck x=true:=hp
  refine ⟨x.length+1,Ag.Finite.out [.l x],[],?_,.bool⟩
  show _=some (DV.bool (x.all Cq))
  rw [Ag.Finite.ev]
  exact Wl _ hp x.length 0 (x.length+1) (by omega) (by omega)
theorem Gs.Check.known:Gs.Check.Kn:=Gs.Check.Ac (.cons Ag.Finite.known (.cons Aj.H8.known .nil)) fun r c l hp=>by
  have hp:Ai l=true:=hp
  refine ⟨0,Gs.Check.out [.i r,.i c,.l l],[],?_,.int⟩
  show _=some (DV.int .i64 (Cd r c l))
  rw [Gs.Check.ev]
  unfold Cd
  by_cases h:A0 r c l=true
  · have:=Kh h
    rw [h,Bool.not_true,Axx,I5 hp (by omega),Axt,if_pos rfl]
    cases Da l<;>rfl
  · have h':A0 r c l=false:=by simpa using h
    rw [h']; rfl
theorem X1 (N:Nat) {n:Nat} {l:List Int} (n6:n≤6) (hl:l.length=n*n) (al:Ai l=true):∀ (cnt i F:Nat),i+cnt=n→cnt<F →
    A7.Check.L0 N F (n:Int) (n:Int) l (i:Int)=some (.int .i64 (if ((List.range n).drop i).any (fun i:Nat=>decide (Bd (D6 (n:Int) l (i:Int) (i:Int))=0))=true then 5 else 0)):=by
  intro cnt
  induction cnt with
  | zero =>
    intro i F hi hF
    obtain ⟨F,rfl⟩:∃ G,F=G+1:=⟨F-1,by omega⟩
    rw [A7.Check.Au,As,Axy (by omega),Axx,Ax7 (by rw [List.length_range]; omega)]; rfl
  | succ cnt ih =>
    intro i F hi hF
    obtain ⟨F,rfl⟩:∃ G,F=G+1:=⟨F-1,by omega⟩
    have hn:Kl (D6 (n:Int) l (i:Int) (i:Int))=true:=by
      obtain ⟨k,hk,_⟩:=Bl (G5 (c:=(n:Int)) (i:=(i:Int)) (k:=(i:Int)) al)
      rw [hk]; exact Io k
    rw [A7.Check.Au,As,Axu (show (i:Int)<(n:Int) by omega),Axt,Dq n6 n6 hl (show i<n by omega) (show i<n by omega),Axt,hn,Axt,X4 (by omega),List.any_cons]
    by_cases hk:Bd (D6 (n:Int) l (i:Int) (i:Int))=0
    · have e:(Bd (D6 (n:Int) l (i:Int) (i:Int))==(0:Int))=true:=by rw [hk]; rfl
      rw [e,Axt,Axu hk]; rfl
    · have e:(Bd (D6 (n:Int) l (i:Int) (i:Int))==(0:Int))=false:=by simpa using hk
      rw [e,Axx,Axy hk,Bool.false_or,Am (by omega) (by omega)]
      exact ih (i+1) F (by omega) (by omega)
theorem A7.Check.known:A7.Check.Kn:=A7.Check.Ac (.cons A1.Kind.known (.cons Aj.At.known (.cons Gs.Check.known .nil))) fun r c l p q m hp=>by
  obtain ⟨al,am⟩:=Ad.1 (show (Ai l&&Ai m)=true from hp)
  refine ⟨8,A7.Check.out [.i r,.i c,.l l,.i p,.i q,.l m],[],?_,.int⟩
  show _=some (DV.int .i64 (N1 r c l p q m))
  rw [A7.Check.ev,al,Axt,Axt,am,Axt,Axt,Arz]
  unfold N1
  by_cases h1:Cd r c l=0
  · rw [Gv h1,Axx,if_neg (by rw [h1]; decide)]
    by_cases h2:Cd p q m=0
    · rw [Gv h2,Axx,if_neg (by rw [h2]; decide)]
      by_cases h3:r≠c∨r≠p
      · rw [Axu h3,Axt,if_pos h3]
      · rw [Axy h3,Axx,if_neg h3]
        obtain rfl:r=c:=Decidable.byContradiction fun h=>h3 (.inl h)
        obtain ⟨R,C,rfl,hC,r6,c6,hl⟩:=Cc (D5 h1).1
        obtain rfl:R=C:=by omega
        rw [Axv]
        exact X1 8 r6 hl al R 0 8 (by omega) (by omega)
    · rw [V7 h2,Axt,if_pos h2]
  · rw [V7 h1,Axt,if_pos h1]
def Aeo (x:MX):DV:=.tup [.agg [.int .i64 x.1,.int .i64 x.2.1,.ints .arg .u64 x.2.2.1],.int .i64 x.2.2.2]
theorem Ws {drops:List Nat} {x:MX}:Wk drops (Aeo x) (Aeo x) :=
  Wk.Gw (.cons (Wk.G6 (.cons .int (.cons .int (.cons .Wr .nil)))) (.cons .int .nil))
theorem P5 {drops:List Nat} {e:Int}:Wk drops (Akf e) (Aeo (Ke e)) :=
  Wk.Gw (.cons (Wk.G6 (.cons .int (.cons .int (.cons (.nil _ _) .nil)))) (.cons .int .nil))
theorem A7.finite.known:A7.finite.Kn:=A7.finite.Ac (.cons Ag.Finite.known .nil) fun r c l hp=>by
  obtain ⟨al,hr⟩:=Ad.1 (show (Ai l&&A0 r c l)=true from hp)
  have:=Kh hr
  show ∃ N dv drops,_=some dv∧Wk drops dv (Aeo (Kc r c l))
  unfold Kc
  cases hf:Da l with
  | true =>
    rw [if_pos rfl]
    exact ⟨0,_,[],by rw [A7.finite.ev,I5 al (by omega),hf]; rfl,Ws⟩
  | false =>
    rw [if_neg (by decide)]
    exact ⟨0,_,[],by rw [A7.finite.ev,I5 al (by omega),hf]; rfl,P5⟩
section
variable {n Q:Nat} {l m:List Int}
theorem Ab6 (N:Nat) (n6:n≤6) (q6:Q≤6) (hl:l.length=n*n) (al:Ai l=true) {i j k:Nat} (hi:i+k+1=n) (hj:j<Q) (M0 M1:Nat) :
    ∀ (cnt t F:Nat) (s:Int),t+cnt=n→cnt<F→i+1≤t→Af s=true →
    A7.Cl.L2 N M0 M1 F (n:Int) (n:Int) l (n:Int) (Q:Int) m s (t:Int) (j:Int) (i:Int) (Ry n Q l m j k) =
    A7.Cl.L1 N M0 M1 (n:Int) (n:Int) l (n:Int) (Q:Int) m (Ab ((i:Int)-(1:Int))) (List.set (Ry n Q l m j k) (Int.toNat ((i:Int)*(Q:Int)+(j:Int))) (Fa (Qi (n:Int) l (i:Int) s (t:Int) ((Z8 (n:Int) l (fun i=>D6 (Q:Int) m (i:Int) (j:Int)) n n).drop t)) (D6 (n:Int) l (i:Int) (i:Int)))) (j:Int):=by
  intro cnt
  induction cnt with
  | zero =>
    intro t F s ht hF hit hs
    obtain ⟨F,rfl⟩:∃ G,F=G+1:=⟨F-1,by omega⟩
    rw [Ax7 (by rw [Mm]; omega),Qi]
    rw [A7.Cl.Hn,As,Axy (show ¬ (t:Int)<(n:Int) by omega),Axx,Dq n6 n6 hl (show i<n by omega) (show i<n by omega),Axt,hs,G5 al,Axz,Axt,
      Dq n6 q6 (Tg (l:=l) (m:=m) j k) (show i<n by omega) hj,Axt]
  | succ cnt ih =>
    intro t F s ht hF hit hs
    obtain ⟨F,rfl⟩:∃ G,F=G+1:=⟨F-1,by omega⟩
    rw [A7.Cl.Hn,As,Axu (show (t:Int)<(n:Int) by omega),Axt,Dq n6 n6 hl (show i<n by omega) (show t<n by omega),Axt,Dq n6 q6 (Tg (l:=l) (m:=m) j k) (show t<n by omega) hj,Axt,
      Ah3 (show t<n by omega) hj (by omega),G5 al,Agc,Axz,Axt,hs,Jg,Axz,Axt,Am (x:=(t:Int)+1) (by omega) (by omega)]
    have:=ih (t+1) F (Eu s (D1 (D6 (n:Int) l (i:Int) (t:Int)) (upF n Q l m t j))) (by omega) (by omega) (by omega) (Nv hs (Jg _ _))
    rw [Aa1 (by rw [Mm]; omega)]
    exact this
theorem Aeh (N:Nat) (n6:n≤6) (q6:Q≤6) (hN:7<N) (hl:l.length=n*n) (hm:m.length=n*Q) (al:Ai l=true) (am:Ai m=true) {j:Nat} (hj:j<Q) (M0:Nat):∀ (cnt k F:Nat),k+cnt=n→cnt<F →
    A7.Cl.L1 N M0 F (n:Int) (n:Int) l (n:Int) (Q:Int) m ((n:Int)-1-(k:Int)) (Ry n Q l m j k) (j:Int) =
    A7.Cl.L0 N M0 (n:Int) (n:Int) l (n:Int) (Q:Int) m ((j+1:Nat):Int) (Ry n Q l m j n):=by
  intro cnt
  induction cnt with
  | zero =>
    intro k F hk hF
    obtain ⟨F,rfl⟩:∃ G,F=G+1:=⟨F-1,by omega⟩
    obtain rfl:k=n:=by omega
    rw [A7.Cl.B7,Ei,Axy (by omega),Axx,Am (by omega) (by omega)]
    rfl
  | succ cnt ih =>
    intro k F hk hF
    obtain ⟨F,rfl⟩:∃ G,F=G+1:=⟨F-1,by omega⟩
    obtain ⟨i,hi⟩:∃ i:Nat,i+k+1=n:=⟨n-k-1,by omega⟩
    have ei:(n:Int)-1-(k:Int)=(i:Int):=by omega
    have hr:=Ab6 (n:=n) (Q:=Q) (l:=l) (m:=m) N n6 q6 hl al hi hj M0 F (n-(i+1)) (i+1) N (D6 (Q:Int) m (i:Int) (j:Int)) (by omega) (by omega) (by omega) (G5 (c:=(Q:Int)) am)
    rw [Ah2 hi hj (Ah5 (show i<n by omega)).symm,Am (by omega) (by omega),show (i:Int)-1=(n:Int)-1-((k+1:Nat):Int) by omega] at hr
    rw [ei,A7.Cl.B7,Ei,Axu (show (0:Int)≤(i:Int) by omega),Axt,Dq n6 q6 hm (show i<n by omega) hj,Axt,Am (x:=(i:Int)+1) (by omega) (by omega)]
    exact hr.trans (ih (k+1) F (by omega) (by omega))
theorem Aei (N:Nat) (n6:n≤6) (q6:Q≤6) (hN:7<N) (hl:l.length=n*n) (hm:m.length=n*Q) (al:Ai l=true) (am:Ai m=true):∀ (cnt j F:Nat),j+cnt=Q→cnt<F →
    A7.Cl.L0 N F (n:Int) (n:Int) l (n:Int) (Q:Int) m (j:Int) (Ry n Q l m j 0)=some (Aeo (Kc (n:Int) (Q:Int) (Ry n Q l m Q 0))):=by
  intro cnt
  induction cnt with
  | zero =>
    intro j F hj hF
    obtain ⟨F,rfl⟩:∃ G,F=G+1:=⟨F-1,by omega⟩
    obtain rfl:j=Q:=by omega
    have hr:A0 (n:Int) (j:Int) (Ry n j l m j 0)=true:=Pj _ n6 q6
    rw [A7.Cl.Au,As,Axy (by omega),Axx,Al0,hr,Axz,Axt]
    rfl
  | succ cnt ih =>
    intro j F hj hF
    obtain ⟨F,rfl⟩:∃ G,F=G+1:=⟨F-1,by omega⟩
    have hr:=Aeh N n6 q6 hN hl hm al am (show j<Q by omega) F n 0 N (by omega) (by omega)
    rw [Adm,show (n:Int)-1-((0:Nat):Int)=(n:Int)-1 by omega] at hr
    rw [A7.Cl.Au,As,Axu (show (j:Int)<(Q:Int) by omega),Axt,Am (x:=(n:Int)-1) (by omega) (by omega)]
    exact hr.trans (ih (j+1) F (by omega) (by omega))
end
theorem A7.Cl.known:A7.Cl.Kn:=A7.Cl.Ac (.cons Ag.Div.known (.cons Ag.Mul.known (.cons Ag.Sub.known (.cons Aj.At.known (.cons Aj.F8.known (.cons Aj.Bf.known (.cons A7.Check.known (.cons A7.finite.known .nil)))))))) fun r c l p q m hp=>by
  have hp:(Ai l&&Ai m)=true:=hp
  obtain ⟨al,am⟩:=Ad.1 hp
  show ∃ N dv drops,_=some dv∧Wk drops dv (Aeo (Tf r c l p q m))
  unfold Tf
  by_cases h:N1 r c l p q m=0
  · obtain ⟨h1,h2,rfl,rfl⟩:=Oz h
    have s1:=Il h2
    obtain ⟨R,C,rfl,hC,r6,c6,hl⟩:=Cc h1
    obtain ⟨P,Q,hP,rfl,p6,q6,hl2⟩:=Cc h2
    obtain rfl:R=C:=by omega
    obtain rfl:R=P:=by omega
    have n:=Aei (n:=R) (Q:=Q) (l:=l) (m:=m) 8 r6 q6 (by omega) hl hl2 al am Q 0 8 (by omega) (by omega)
    rw [Adl,Ah4,show ((0:Nat):Int)=0 from rfl] at n
    rw [if_neg (by rw [h]; decide),Axv,Axv]
    refine ⟨8,_,[],?_,Ws⟩
    rw [A7.Cl.ev,al,am,Axz,Axt,Gv h,Axx,s1.1,s1.2,Axz,Axt,Axv,Axv]
    exact n
  · rw [if_pos h]
    exact ⟨0,_,[],by rw [A7.Cl.ev,hp,Axt,Axt,V7 h,Axt]; rfl,P5⟩
namespace EqRef14
def B4.B0.hint:Nat→Option Ba
  | 0=>some { keep:=[1,2,3,4,5],objs:=[(0,4,100004,.recs 191 3 [])],boxes:=[1,2,3] }
  | 2=>some { keep:=[2,3,4,9,10],objs:=[(0,4,100004,.recs 191 3 [])],boxes:=[2,3,9] }
  | _=>none
def B4.B0.A6:List (Nat × Entry):=[(92,Ag.Finite.spec),(108,Aj.Pz.spec),(33,Aj.Ew.arg.spec),(198,Bb.Apply.spec),(196,Bb.Dl.spec),(197,B4.Dh.spec)]
def B4.B0.E:Env:=Vo (A5 B4.B0.A6) (fun _=>false) B4.B0.hint (fun _=>none) (Af2 [(22,[.s .u64]),(37,[.i .u64])])
def B4.B0.L0 (N M:Nat) (r c:Int) (l:List Int) (p5:Int) (p3:List Int) (p4:List (List DV)):Option DV:=Bz B4.B0.E N Tryz.f127 (An Tryz.f127) [1,1,1,0,1,0] [] M ⟨Gl 95 [(1,.ptr 1 0 0),(2,.ptr 2 0 0),(3,.ptr 3 0 0),(4,.oref 100004),(5,.int .i64 p5)],[(1,false,.box [.int .i64 r,.int .i64 c,.ints .arg .u64 l]),(2,false,.box [.int .i64 0,.int .i64 0,.nil,.int .i64 0,.int .i64 0,.nil,.bool false]),(3,false,.box [.int .i64 r,.int .i64 c,.ints .arg .u64 p3]),(100004,false,.recs 191 3 p4)]⟩
def B4.B0.L1 (N M:Nat) (r c p10:Int) (p3_1:List Int) (p4_1:List (List DV)) (p9:List Int):Option DV:=Bz B4.B0.E N Tryz.f127 (An Tryz.f127) [1,1,1,1,1,0,1,0] [] M ⟨Gl 95 [(2,.ptr 2 0 0),(3,.ptr 3 0 0),(4,.oref 100004),(9,.ptr 9 0 0),(10,.int .i64 p10)],[(2,false,.box [.int .i64 0,.int .i64 0,.nil,.int .i64 0,.int .i64 0,.nil,.bool false]),(3,false,.box [.int .i64 r,.int .i64 c,.ints .arg .u64 p3_1]),(9,false,.box [.int .i64 r,.int .i64 r,.ints .arg .u64 p9]),(100004,false,.recs 191 3 p4_1)]⟩
theorem B4.B0.Au (N M:Nat) (r c:Int) (l:List Int) (p5:Int) (p3:List Int) (p4:List (List DV)):B4.B0.L0 N (M+1) r c l p5 p3 p4=bif ((A4 p5 c)&&(A4 p5 (Ab (r-1)))) then bif (G4 r c p3 p5&&Cu (0≤p5∧p5≤r)) then bif (Ck (Cp c p3 p5 p5 (Int.toNat (r-p5)))) then bif (!(Da (Cp c p3 p5 p5 (Int.toNat (r-p5))))) then some (.agg [.int .i64 0,.int .i64 0,.nil,.int .i64 0,.int .i64 0,.nil,.bool false]) else bif (Ck (Cp c p3 p5 p5 (Int.toNat (r-p5)))&&Cu (1≤List.length (Cp c p3 p5 p5 (Int.toNat (r-p5)))∧List.length (Cp c p3 p5 p5 (Int.toNat (r-p5)))≤64)) then bif (!(decide ((Jh (Cp c p3 p5 p5 (Int.toNat (r-p5)))).2.2.2=0))) then some (.agg [.int .i64 0,.int .i64 0,.nil,.int .i64 0,.int .i64 0,.nil,.bool false]) else bif (((A0 r c p3&&Hl r c p5 p5 ((Jh (Cp c p3 p5 p5 (Int.toNat (r-p5)))).1))&&(Ai p3&&Ai ((Jh (Cp c p3 p5 p5 (Int.toNat (r-p5)))).1)))&&Af ((Jh (Cp c p3 p5 p5 (Int.toNat (r-p5)))).2.1)) then bif (A0 r c (E7 (Int.toNat r) (Int.toNat c) p3 p5 p5 ((Jh (Cp c p3 p5 p5 (Int.toNat (r-p5)))).1) ((Jh (Cp c p3 p5 p5 (Int.toNat (r-p5)))).2.1))&&Cu (0≤p5∧p5<r∧p5<c)) then bif (decide ((List.length p4)+1≤Ae4)) then B4.B0.L0 N M r c l (Ab (p5+1)) (M3 (Int.toNat r) (Int.toNat c) (E7 (Int.toNat r) (Int.toNat c) p3 p5 p5 ((Jh (Cp c p3 p5 p5 (Int.toNat (r-p5)))).1) ((Jh (Cp c p3 p5 p5 (Int.toNat (r-p5)))).2.1)) (Int.toNat p5) ((Jh (Cp c p3 p5 p5 (Int.toNat (r-p5)))).2.2.1)) (p4++[[.ints .arg .u64 ((Jh (Cp c p3 p5 p5 (Int.toNat (r-p5)))).1),.int .u64 ((Jh (Cp c p3 p5 p5 (Int.toNat (r-p5)))).2.1),.int .u64 ((Jh (Cp c p3 p5 p5 (Int.toNat (r-p5)))).2.2.1)]]) else none else none else none else none else none else none else bif (Bg r) then B4.B0.L1 N N r c (Ab ((List.length p4:Int)-1)) p3 p4 (I1 (Int.toNat r)) else none :=
  Eq.trans (by kernel_rfl)
  (Aw (O1 (A4 p5 c)) (Aw (O1 (A4 p5 c)) (Aw (Lv (A4 p5 c)) (Aw (Lv (A4 p5 c)) (Aw (Abu (A4 p5 c)) (Aw (Ti (A4 p5 c)) (C2 (tt1 (A4 p5 c) (A4 p5 (Ab (r-1)))) (Ej (Ej (Ej rfl (Ej (Ej rfl (C2 (Cs (((A0 r c p3&&Hl r c p5 p5 ((Jh (Cp c p3 p5 p5 (Int.toNat (r-p5)))).1))&&(Ai p3&&Ai ((Jh (Cp c p3 p5 p5 (Int.toNat (r-p5)))).1)))&&Af ((Jh (Cp c p3 p5 p5 (Int.toNat (r-p5)))).2.1))) (C2 (Cs (A0 r c (E7 (Int.toNat r) (Int.toNat c) p3 p5 p5 ((Jh (Cp c p3 p5 p5 (Int.toNat (r-p5)))).1) ((Jh (Cp c p3 p5 p5 (Int.toNat (r-p5)))).2.1))&&Cu (0≤p5∧p5<r∧p5<c))) rfl rfl) rfl)) rfl)) rfl) rfl) rfl)))))))
theorem B4.B0.B7 (N M:Nat) (r c p10:Int) (p3_1:List Int) (p4_1:List (List DV)) (p9:List Int):B4.B0.L1 N (M+1) r c p10 p3_1 p4_1 p9=bif (Ee 0 p10) then bif ((decide (0≤p10))&&(decide (p10<(List.length p4_1:Int)))) then bif ((decide ((Int.toNat p10)<(List.length p4_1)))&&(isC (.s .u64) (List.getD (List.getD p4_1 (Int.toNat p10) []) 0 .undef))) then bif ((decide (0≤p10))&&(decide (p10<(List.length p4_1:Int)))) then bif ((decide ((Int.toNat p10)<(List.length p4_1)))&&(isC (.i .u64) (List.getD (List.getD p4_1 (Int.toNat p10) []) 1 .undef))) then bif (((A0 r r p9&&Hl r r p10 0 (Lo (List.getD (List.getD p4_1 (Int.toNat p10) []) 0 .undef)))&&(Ai p9&&Ai (Lo (List.getD (List.getD p4_1 (Int.toNat p10) []) 0 .undef))))&&Af (Zc (List.getD (List.getD p4_1 (Int.toNat p10) []) 1 .undef))) then B4.B0.L1 N M r c (Ab (p10-1)) p3_1 p4_1 (E7 (Int.toNat r) (Int.toNat r) p9 p10 0 (Lo (List.getD (List.getD p4_1 (Int.toNat p10) []) 0 .undef)) (Zc (List.getD (List.getD p4_1 (Int.toNat p10) []) 1 .undef))) else none else none else none else none else none else bif (Ck p9) then bif ((!(Da p9))||(Ck p3_1)) then bif ((!(Da p9))||(!(Da p3_1))) then some (.agg [.int .i64 0,.int .i64 0,.nil,.int .i64 0,.int .i64 0,.nil,.bool false]) else some (.agg [.int .i64 r,.int .i64 r,.ints .arg .u64 p9,.int .i64 r,.int .i64 c,.ints .arg .u64 p3_1,.bool true]) else none else none :=
  Eq.trans (by kernel_rfl)
  (Ej (C2 (Lk (decide (0≤p10)) (decide (p10<(List.length p4_1:Int)))) (C2 (Lk (decide ((Int.toNat p10)<(List.length p4_1))) (isC (.s .u64) (List.getD (List.getD p4_1 (Int.toNat p10) []) 0 .undef))) (C2 (Lk (decide (0≤p10)) (decide (p10<(List.length p4_1:Int)))) (C2 (Lk (decide ((Int.toNat p10)<(List.length p4_1))) (isC (.i .u64) (List.getD (List.getD p4_1 (Int.toNat p10) []) 1 .undef))) (C2 (Cs (((A0 r r p9&&Hl r r p10 0 (Lo (List.getD (List.getD p4_1 (Int.toNat p10) []) 0 .undef)))&&(Ai p9&&Ai (Lo (List.getD (List.getD p4_1 (Int.toNat p10) []) 0 .undef))))&&Af (Zc (List.getD (List.getD p4_1 (Int.toNat p10) []) 1 .undef)))) rfl rfl) rfl) rfl) rfl) rfl) (Ej (Aw (Abr (Da p9)) (Aw (R0 (Da p9)) (C2 (Al8 (Da p9) (Ck p3_1)) (Aw (R0 (Da p9)) (Aw (Abt (Da p9)) (C2 (Al9 (Da p9) (Da p3_1)) rfl rfl))) rfl))) rfl))
theorem B4.B0.ev (N:Nat) (r c:Int) (l:List Int):Bp B4.B0.E N Tryz.f127 (An Tryz.f127) [.agg [.int .i64 r,.int .i64 c,.ints .arg .u64 l]] =
  B4.B0.L0 N N r c l 0 l []:=by kernel_rfl
abbrev _root_.Go.Proofs.S1.B4.B0.Kn:=A3 Tryz.prog 127 B4.B0.spec
theorem B4.B0.Ac (hk:Ax Tryz.prog B4.B0.A6) (h:∀ (r c:Int) (l:List Int),B4.B0.pre [.i r,.i c,.l l]=true→A8 B4.B0.E Tryz.f127 [.agg [.int .i64 r,.int .i64 c,.ints .arg .u64 l]] (B4.B0.out [.i r,.i c,.l l])):B4.B0.Kn :=
  Ak (W9 hk _ _ _ _) Tryz.func127 (by kernel_rfl) (by kernel_rfl) h
def B4.F9.A6:List (Nat × Entry):=[(128,Aj.Part.spec),(127,B4.B0.spec)]
def B4.F9.E:Env:=A9 (A5 B4.F9.A6) (fun _=>false) (fun _=>none) (fun _=>none)
theorem B4.F9.ev (N:Nat) (r c:Int) (l:List Int):Bp B4.F9.E N Tryz.f100 (An Tryz.f100) [.agg [.int .i64 r,.int .i64 c,.ints .arg .u64 l]]=bif ((A0 r c l&&Da l)&&Ai l) then bif (!(decide (E6 r c l=0))) then some (.agg [.int .i64 ((qX r c l).1),.int .i64 ((qX r c l).2.1),.ints .arg .u64 ((qX r c l).2.2.1),.int .i64 ((rX r c l).1),.int .i64 ((rX r c l).2.1),.ints .arg .u64 ((rX r c l).2.2.1),.bool (decide (E6 r c l=0))]) else bif (A0 ((qX r c l).1) ((qX r c l).2.1) ((qX r c l).2.2.1)&&Hs ((qX r c l).1) ((qX r c l).2.1) 0 0 r (min r c)) then bif (A0 ((rX r c l).1) ((rX r c l).2.1) ((rX r c l).2.2.1)&&Hs ((rX r c l).1) ((rX r c l).2.1) 0 0 (min r c) c) then some (.agg [.int .i64 r,.int .i64 (min r c),.ints .fresh .u64 (B5 (Int.toNat r) (Int.toNat (min r c)) (fun j1 j2=>D6 ((qX r c l).2.1) ((qX r c l).2.2.1) ((0:Int)+j1) ((0:Int)+j2))),.int .i64 (min r c),.int .i64 c,.ints .fresh .u64 (B5 (Int.toNat (min r c)) (Int.toNat c) (fun j1 j2=>D6 ((rX r c l).2.1) ((rX r c l).2.2.1) ((0:Int)+j1) ((0:Int)+j2))),.bool true]) else none else none else none :=
  Eq.trans (by kernel_rfl)
  (Ej (Ej rfl (C2 (Cs (A0 ((qX r c l).1) ((qX r c l).2.1) ((qX r c l).2.2.1)&&Hs ((qX r c l).1) ((qX r c l).2.1) 0 0 r (min r c))) (C2 (Cs (A0 ((rX r c l).1) ((rX r c l).2.1) ((rX r c l).2.2.1)&&Hs ((rX r c l).1) ((rX r c l).2.1) 0 0 (min r c) c)) rfl rfl) rfl)) rfl)
abbrev _root_.Go.Proofs.S1.B4.F9.Kn:=A3 Tryz.prog 100 B4.F9.spec
theorem B4.F9.Ac (hk:Ax Tryz.prog B4.F9.A6) (h:∀ (r c:Int) (l:List Int),B4.F9.pre [.i r,.i c,.l l]=true→A8 B4.F9.E Tryz.f100 [.agg [.int .i64 r,.int .i64 c,.ints .arg .u64 l]] (B4.F9.out [.i r,.i c,.l l])):B4.F9.Kn :=
  Ak (Az hk _ _ _) Tryz.func100 (by kernel_rfl) (by kernel_rfl) h
def A7.D2.A6:List (Nat × Entry):=[(45,Aj.Mul.spec),(37,Aj.Cn.spec),(25,Gs.Check.spec),(100,B4.F9.spec),(26,A7.Flat.spec),(101,A7.Cl.spec)]
def A7.D2.E:Env:=A9 (A5 A7.D2.A6) (fun _=>false) (fun _=>none) (fun _=>none)
theorem A7.D2.ev (N:Nat) (r c:Int) (l:List Int) (p q:Int) (m:List Int):Bp A7.D2.E N Tryz.f32 (An Tryz.f32) [.agg [.int .i64 r,.int .i64 c,.ints .arg .u64 l],.agg [.int .i64 p,.int .i64 q,.ints .arg .u64 m]]=bif (Ai l) then bif ((Cd r c l) !=(0:Int)) then bif (Ai l) then some (.tup [.agg [.int .i64 0,.int .i64 0,.nil],.int .i64 (Cd r c l)]) else none else bif (Ai m) then bif ((Cd p q m) !=(0:Int)) then bif (Ai m) then some (.tup [.agg [.int .i64 0,.int .i64 0,.nil],.int .i64 (Cd p q m)]) else none else bif ((A4 r c)||(r !=p)) then some (.tup [.agg [.int .i64 0,.int .i64 0,.nil],.int .i64 3]) else bif ((A0 r c l&&Da l)&&Ai l) then bif (!(decide (E6 r c l=0))) then some (.tup [.agg [.int .i64 0,.int .i64 0,.nil],.int .i64 2]) else bif ((A0 ((Ig r c l).1) ((Ig r c l).2.1) ((Ig r c l).2.2.1)&&Ai ((Ig r c l).2.2.1))&&Da ((Ig r c l).2.2.1)) then bif (Qp ((Ig r c l).1) ((Ig r c l).2.1) ((Ig r c l).2.2.1)) then some (.tup [.agg [.int .i64 0,.int .i64 0,.nil],.int .i64 5]) else bif (A0 ((D7 r c l).1) ((D7 r c l).2.1) ((D7 r c l).2.2.1)) then bif ((A0 ((D7 r c l).2.1) ((D7 r c l).1) (B5 (Int.toNat ((D7 r c l).2.1)) (Int.toNat ((D7 r c l).1)) (fun j1 j2=>D6 ((D7 r c l).2.1) ((D7 r c l).2.2.1) j2 j1))&&A0 p q m)&&((Ai (B5 (Int.toNat ((D7 r c l).2.1)) (Int.toNat ((D7 r c l).1)) (fun j1 j2=>D6 ((D7 r c l).2.1) ((D7 r c l).2.2.1) j2 j1))&&Ai m)&&decide (((D7 r c l).1)=p))) then bif (Ai ((Ig r c l).2.2.1)&&Ai (B5 (Int.toNat ((D7 r c l).2.1)) (Int.toNat q) (fun j1 j2=>I9 (G8 ((D7 r c l).1) (B5 (Int.toNat ((D7 r c l).2.1)) (Int.toNat ((D7 r c l).1)) (fun j1 j2=>D6 ((D7 r c l).2.1) ((D7 r c l).2.2.1) j2 j1)) j1) (Kd p q m j2)))) then some (.tup [.agg [.int .i64 ((Tf ((Ig r c l).1) ((Ig r c l).2.1) ((Ig r c l).2.2.1) ((D7 r c l).2.1) q (B5 (Int.toNat ((D7 r c l).2.1)) (Int.toNat q) (fun j1 j2=>I9 (G8 ((D7 r c l).1) (B5 (Int.toNat ((D7 r c l).2.1)) (Int.toNat ((D7 r c l).1)) (fun j1 j2=>D6 ((D7 r c l).2.1) ((D7 r c l).2.2.1) j2 j1)) j1) (Kd p q m j2)))).1),.int .i64 ((Tf ((Ig r c l).1) ((Ig r c l).2.1) ((Ig r c l).2.2.1) ((D7 r c l).2.1) q (B5 (Int.toNat ((D7 r c l).2.1)) (Int.toNat q) (fun j1 j2=>I9 (G8 ((D7 r c l).1) (B5 (Int.toNat ((D7 r c l).2.1)) (Int.toNat ((D7 r c l).1)) (fun j1 j2=>D6 ((D7 r c l).2.1) ((D7 r c l).2.2.1) j2 j1)) j1) (Kd p q m j2)))).2.1),.ints .arg .u64 ((Tf ((Ig r c l).1) ((Ig r c l).2.1) ((Ig r c l).2.2.1) ((D7 r c l).2.1) q (B5 (Int.toNat ((D7 r c l).2.1)) (Int.toNat q) (fun j1 j2=>I9 (G8 ((D7 r c l).1) (B5 (Int.toNat ((D7 r c l).2.1)) (Int.toNat ((D7 r c l).1)) (fun j1 j2=>D6 ((D7 r c l).2.1) ((D7 r c l).2.2.1) j2 j1)) j1) (Kd p q m j2)))).2.2.1)],.int .i64 ((Tf ((Ig r c l).1) ((Ig r c l).2.1) ((Ig r c l).2.2.1) ((D7 r c l).2.1) q (B5 (Int.toNat ((D7 r c l).2.1)) (Int.toNat q) (fun j1 j2=>I9 (G8 ((D7 r c l).1) (B5 (Int.toNat ((D7 r c l).2.1)) (Int.toNat ((D7 r c l).1)) (fun j1 j2=>D6 ((D7 r c l).2.1) ((D7 r c l).2.2.1) j2 j1)) j1) (Kd p q m j2)))).2.2.2)]) else none else none else none else none else none else none else none :=
  Eq.trans (by kernel_rfl)
  (Ej (Ej rfl (Ej (Ej rfl (Aw (R7 (A4 r c)) (Aw (P2 (A4 r c)) (Aw (R7 (A4 r c)) (Aw (P2 (A4 r c)) (Aw (tt8 (A4 r c)) (Aw (Wt (A4 r c)) (C2 (tt5 (A4 r c) (r !=p)) rfl (Ej (Ej rfl (Ej (Ej rfl (C2 (Cs (A0 ((D7 r c l).1) ((D7 r c l).2.1) ((D7 r c l).2.2.1))) (C2 (Cs ((A0 ((D7 r c l).2.1) ((D7 r c l).1) (B5 (Int.toNat ((D7 r c l).2.1)) (Int.toNat ((D7 r c l).1)) (fun j1 j2=>D6 ((D7 r c l).2.1) ((D7 r c l).2.2.1) j2 j1))&&A0 p q m)&&((Ai (B5 (Int.toNat ((D7 r c l).2.1)) (Int.toNat ((D7 r c l).1)) (fun j1 j2=>D6 ((D7 r c l).2.1) ((D7 r c l).2.2.1) j2 j1))&&Ai m)&&decide (((D7 r c l).1)=p)))) (C2 (Cs (Ai ((Ig r c l).2.2.1)&&Ai (B5 (Int.toNat ((D7 r c l).2.1)) (Int.toNat q) (fun j1 j2=>I9 (G8 ((D7 r c l).1) (B5 (Int.toNat ((D7 r c l).2.1)) (Int.toNat ((D7 r c l).1)) (fun j1 j2=>D6 ((D7 r c l).2.1) ((D7 r c l).2.2.1) j2 j1)) j1) (Kd p q m j2))))) rfl rfl) rfl) rfl)) rfl)) rfl))))))))) rfl)) rfl)
abbrev _root_.Go.Proofs.S1.A7.D2.Kn:=A3 Tryz.prog 32 A7.D2.spec
theorem A7.D2.Ac (hk:Ax Tryz.prog A7.D2.A6) (h:∀ (r c:Int) (l:List Int) (p q:Int) (m:List Int),A7.D2.pre [.i r,.i c,.l l,.i p,.i q,.l m]=true→A8 A7.D2.E Tryz.f32 [.agg [.int .i64 r,.int .i64 c,.ints .arg .u64 l],.agg [.int .i64 p,.int .i64 q,.ints .arg .u64 m]] (A7.D2.out [.i r,.i c,.l l,.i p,.i q,.l m])):A7.D2.Kn :=
  Ak (Az hk _ _ _) Tryz.func32 (by kernel_rfl) (by kernel_rfl) h
end EqRef14
open EqRef13 EqRef14
theorem Aj.F8.arg.known:Aj.F8.arg.Kn:=A3.Als (P:=_) (pre:=Aj.F8.pre) (out:=Aj.F8.out) Aj.F8.known [] fun ats h=>by
  unfold Aj.F8.arg.pre at h
  split at h
  · exact ⟨h,Wk.G6 (.cons .int (.cons .int (.cons (.fresh _ _) .nil)))⟩
  · cases h
theorem Aj.Ew.arg.known:Aj.Ew.arg.Kn:=A3.Als (P:=_) (pre:=Aj.Ew.pre) (out:=Aj.Ew.out) Aj.Ew.known [] fun ats h=>by
  unfold Aj.Ew.arg.pre at h
  split at h
  · exact ⟨h,Wk.G6 (.cons .int (.cons .int (.cons (.fresh _ _) .nil)))⟩
  · cases h
theorem U9 (N:Nat) {x:List Int} (hx:Ck x=true):∀ (k i F:Nat),i+k=x.length→k<F→Bb.By.L0 N F x (i:Int)=some (.bool (Ea (x.drop i))):=by
  obtain ⟨hl,hu⟩:=H3 hx
  intro k
  induction k with
  | zero =>
    intro i F hi hF
    obtain ⟨F,rfl⟩:∃ G,F=G+1:=⟨F-1,by omega⟩
    rw [Bb.By.Au,As,Axy (by omega),Axx,Ax7 (by omega)]; rfl
  | succ k ih =>
    intro i F hi hF
    obtain ⟨F,rfl⟩:∃ G,F=G+1:=⟨F-1,by omega⟩
    obtain ⟨n,hn,_⟩:=Bl (hu i (by omega))
    rw [Bb.By.Au,As,Axu (show (i:Int)<(x.length:Int) by omega),Axt,Axu (show (0:Int)≤(i:Int) by omega),Axz,Axt,Axv,show Kl (x.getD i 0)=true by rw [hn]; exact Io n,Axt,W7,G3 (by omega)]
    unfold Ea
    rw [List.all_cons]
    cases decide (Bd (x.getD i 0)=0) with
    | false=>rfl
    | true =>
      rw [Bool.not_true,Axx,Bool.true_and,Am (by omega) (by omega)]
      exact ih (i+1) F (by omega) (by omega)
theorem Bb.By.known:Bb.By.Kn:=Bb.By.Ac (.cons A1.Kind.known .nil) fun x hp=>by
  refine ⟨x.length+1,.bool (Ea (x.drop 1)),[],?_,.bool⟩
  rw [Bb.By.ev]
  by_cases h:x.length=0
  · rw [Bb.By.Au,As,Axy (by omega),Axx,Ax7 (by omega)]; rfl
  · exact U9 (x.length+1) hp (x.length-1) 1 (x.length+1) (by omega) (by omega)
theorem Zw (N:Nat) {x:List Int} (hx:Ck x=true):∀ (k i F:Nat),i+k=x.length→k<F→Bb.lead.L0 N F x (i:Int)=some (.int .i64 (Px (x.drop i) (i:Int))):=by
  obtain ⟨hl,hu⟩:=H3 hx
  intro k
  induction k with
  | zero =>
    intro i F hi hF
    obtain ⟨F,rfl⟩:∃ G,F=G+1:=⟨F-1,by omega⟩
    rw [Bb.lead.Au,As,Axy (by omega),Axx,Ax7 (by omega)]; rfl
  | succ k ih =>
    intro i F hi hF
    obtain ⟨F,rfl⟩:∃ G,F=G+1:=⟨F-1,by omega⟩
    obtain ⟨n,hn,_⟩:=Bl (hu i (by omega))
    rw [Bb.lead.Au,As,Axu (show (i:Int)<(x.length:Int) by omega),Axt,Axu (show (0:Int)≤(i:Int) by omega),Axz,Axt,Axv,show Kl (x.getD i 0)=true by rw [hn]; exact Io n,Axt,W7,G3 (by omega),Px]
    by_cases h:Bd (x.getD i 0)=0
    · rw [Axu h,if_pos h,Bool.not_true,Axx,Am (by omega) (by omega)]
      exact ih (i+1) F (by omega) (by omega)
    · rw [Axy h,if_neg h]; rfl
theorem Bb.lead.known:Bb.lead.Kn:=Bb.lead.Ac (.cons A1.Kind.known .nil) fun x hp=>by
  refine ⟨x.length+1,.int .i64 (Px x 0),[],?_,.int⟩
  rw [Bb.lead.ev]
  exact Zw (x.length+1) hp x.length 0 (x.length+1) (by omega) (by omega)
theorem Aiu:∀ (x:List Int) (i:Nat),Ea x=false→∃ j:Nat,Px x (i:Int)=((i+j:Nat):Int)∧j<x.length∧x.getD j 0=Oo x
  | [],i,h=>by cases h
  | b::l,i,h=>by
    unfold Px Oo
    by_cases hk:Bd b=0
    · rw [if_pos hk,if_pos hk]
      have h':Ea l=false:=by
        unfold Ea at h ⊢
        rw [List.all_cons,Axu hk,Bool.true_and] at h
        exact h
      obtain ⟨j,e1,e2,e3⟩:=Aiu l (i+1) h'
      refine ⟨j+1,?_,by simp; omega,by simpa using e3⟩
      have:((i:Int)+1)=((i+1:Nat):Int):=rfl
      rw [this,e1]; omega
    · rw [if_neg hk,if_neg hk]
      exact ⟨0,rfl,by simp,rfl⟩
theorem Acj {x:List Int} (h:Ea (x.drop 1)=false):Ea x=false:=by
  cases x with
  | nil=>exact h
  | cons b l =>
    have h:Ea l=false:=h
    unfold Ea at h ⊢
    rw [List.all_cons,h,Bool.and_false]
theorem Zu (N:Nat) {x:List Int} (h64:x.length≤64):∀ (k i F:Nat),i+1+k=x.length→k<F →
    Bb.Dl.L0 N F x ((i+1:Nat):Int) (I6 (i+1) fun _=>0)=some (.tup [.agg [.ints (.own 100004 tB) .u64 (I6 x.length fun _=>0),.int .u64 0,.int .u64 (x.getD 0 0)],.bool true]):=by
  intro k
  induction k with
  | zero =>
    intro i F hi hF
    obtain ⟨F,rfl⟩:∃ G,F=G+1:=⟨F-1,by omega⟩
    rw [Bb.Dl.Au,As,Axy (by omega),Axx,Axu (by omega),Axt,show i+1=x.length by omega]
  | succ k ih =>
    intro i F hi hF
    obtain ⟨F,rfl⟩:∃ G,F=G+1:=⟨F-1,by omega⟩
    rw [Bb.Dl.Au,As,Axu (by omega),Axt,Axu (by rw [O7 (by omega)]; unfold Gp; omega),Axt,Am (by omega) (by omega)]
    have:=ih (i+1) F (by omega) (by omega)
    rw [Jm (i+1+1) (i+1) _ rfl,Gz] at this
    rw [Jm (i+1) i _ rfl]
    exact this
theorem Aca (N:Nat) {y:List Int} {mu beta d:Int} (ay:Ai y=true) (hmu:Af mu=true) (hd:Af d=true) (h64:y.length≤64):∀ (k i F:Nat),i+1+k=y.length→k<F →
    Bb.Dl.L2 N F y mu beta d ((i+1:Nat):Int) (I6 (i+1) fun j=>Fa (y.getD j 0) d)=some (.tup [.agg [.ints (.own 100004 tB) .u64 (I6 y.length fun j=>Fa (y.getD j 0) d),.int .u64 (Fa (Eu mu (y.getD 0 0)) mu),.int .u64 beta],.bool true]):=by
  intro k
  induction k with
  | zero =>
    intro i F hi hF
    obtain ⟨F,rfl⟩:∃ G,F=G+1:=⟨F-1,by omega⟩
    have hy:=It ay 0
    rw [Bb.Dl.Hn,As,Axy (by omega),Axx,Axu (show (0:Int)<(y.length:Int) by omega),Axt,Axu (show 0<y.length by omega),Axt,hmu,hy,Axz,Axt,Nv hmu hy,Axz,Axt,show i+1=y.length by omega]
  | succ k ih =>
    intro i F hi hF
    obtain ⟨F,rfl⟩:∃ G,F=G+1:=⟨F-1,by omega⟩
    rw [Bb.Dl.Hn,As,Axu (show ((i+1:Nat):Int)<(y.length:Int) by omega),Axt,Axu (show (0:Int)≤((i+1:Nat):Int) by omega),Axz,Axt,Axv,Axu (show i+1<y.length by omega),Axt,It ay,hd,Axz,Axt,Axu (by rw [O7 (by omega)]; unfold Gp; omega),Axt,Am (by omega) (by omega)]
    have:=ih (i+1) F (by omega) (by omega)
    rw [Jm (i+1+1) (i+1) _ rfl,Gz] at this
    rw [Jm (i+1) i _ rfl]
    exact this
theorem X0 (N:Nat) {x:List Int} (hx:Ck x=true) (hl:x.length≤64):∀ (k i F:Nat),i+k=x.length→k<F →
    Bb.Dl.L1 N F x (i:Int) ((x.take i).map fun b=>Bw b (-Bq (Be x)))=Bb.Dl.L1 N (F-k) x (x.length:Int) (Bm x (-Bq (Be x))):=by
  obtain ⟨_,hu⟩:=H3 hx
  have he:=Za (Be x)
  intro k
  induction k with
  | zero =>
    intro i F hi hF
    rw [show i=x.length by omega,List.take_of_length_le (Nat.le_refl _)]; rfl
  | succ k ih =>
    intro i F hi hF
    obtain ⟨F,rfl⟩:∃ G,F=G+1:=⟨F-1,by omega⟩
    rw [Bb.Dl.B7,As,Axu (show (i:Int)<(x.length:Int) by omega),Axt,Axu (show (0:Int)≤(i:Int) by omega),Axz,Axt,Axv,Am (x:=(0:Int)-Bq (Be x)) (by omega) (by omega),show (0:Int)-Bq (Be x)=-Bq (Be x) by omega,
      show Db (List.getD x i 0) (-Bq (Be x))=true from Ad.2 ⟨hu i (by omega),Ar.2 (by omega)⟩,Axt,Axu (by rw [List.length_map,List.length_take]; unfold Gp; omega),Axt,Am (by omega) (by omega)]
    have:=ih (i+1) F (by omega) (by omega)
    rw [Xj (by omega)] at this
    rw [show F+1-(k+1)=F-k by omega]
    exact this
theorem Bb.Dl.known:Bb.Dl.Kn:=Bb.Dl.Ac (.cons A1.Finite.known (.cons A1.Dk.known (.cons A1.Neg.known (.cons Bo.Lj.known (.cons Ag.Bn.known (.cons Ag.Div.known (.cons Ag.Norm.known (.cons Ag.Br.known (.cons Ag.Sub.known (.cons Bb.lead.known (.cons Bb.By.known .nil))))))))))) fun x hp=>by
  obtain ⟨hx,hl⟩:=Ad.1 (show (Ck x&&Cu (1≤List.length x∧List.length x≤64))=true from hp)
  have hl:=Ar.1 hl
  have al:=Rs hx
  have he:=Za (Be x)
  show ∃ N dv drops,_=some dv∧Wk drops dv (DV.tup [.agg [.ints .fresh .u64 (Jh x).1,.int .u64 (Jh x).2.1,.int .u64 (Jh x).2.2.1],.bool (decide ((Jh x).2.2.2=0))])
  have hrun:=Bb.Dl.ev 66 x
  rw [hx,Axt] at hrun
  unfold Jh
  by_cases h3:Ea (x.drop 1)=true
  · rw [h3,Axt] at hrun
    rw [if_pos h3]
    exact ⟨66,_,[100004],hrun.trans (Zu 66 (by omega) (x.length-1) 0 66 (by omega) (by omega)),Wk.Gw (.cons (Wk.G6 (.cons (.drop _ _ _ _ (List.mem_singleton.2 rfl)) (.cons .int (.cons .int .nil)))) (.cons .bool .nil))⟩
  · rw [if_neg h3]
    have h3:Ea (x.drop 1)=false:=by simpa using h3
    rw [h3,Axx,Axt,N2,Axt] at hrun
    have hs:=X0 66 hx hl.2 x.length 0 66 (by omega) (by omega)
    have hrun:=hrun.trans hs
    obtain ⟨j,j1,j2,j3⟩:=Aiu x 0 (Acj h3)
    rw [Nat.zero_add] at j1
    have j1:Px x 0=(j:Int):=j1
    have ly:=Aag x (-Bq (Be x))
    have ay:=Aah (-Bq (Be x)) al
    have oky:Ck (Bm x (-Bq (Be x)))=true:=I5 ay (by omega)
    have iy:=It ay 0
    have gy:=Q9 (x:=x) (k:=-Bq (Be x)) (j:=0) (by omega)
    have sp:∀ mu:Int,Af mu=true→Db mu (Bq (Be x))=true:=fun mu h=>Ad.2 ⟨h,Ar.2 (by omega)⟩
    have ny:=W3 (Bm x (-Bq (Be x)))
    obtain ⟨F,hF⟩:∃ F,66-x.length=F+1:=⟨65-x.length,by omega⟩
    have key:∀ mu:Int,muI x=mu→Af mu=true→Bb.Dl.L2 66 66 (Bm x (-Bq (Be x))) mu (Bw mu (Bq (Be x))) (Eu ((Bm x (-Bq (Be x))).getD 0 0) mu) 1 [4607182418800017408]=some (.tup [.agg [.ints (.own 100004 tB) .u64 (R4 x),.int .u64 (Ss x),.int .u64 (E4 x)],.bool true]):=by
      intro mu hmu hi
      have:=Aca 66 (y:=Bm x (-Bq (Be x))) (mu:=mu) (beta:=Bw mu (Bq (Be x))) (d:=Eu ((Bm x (-Bq (Be x))).getD 0 0) mu) ay hi (Nv iy hi) (by omega) (x.length-1) 0 66 (by omega) (by omega)
      have e1:I6 (Bm x (-Bq (Be x))).length (fun j=>Fa (List.getD (Bm x (-Bq (Be x))) j 0) (Eu (List.getD (Bm x (-Bq (Be x))) 0 0) mu))=R4 x:=by
        unfold R4
        rw [ly,gy,← hmu]
        exact Aak fun j hj=>by rw [Q9 hj]; rfl
      have e2:Fa (Eu mu (List.getD (Bm x (-Bq (Be x))) 0 0)) mu=Ss x:=by
        unfold Ss
        rw [gy,hmu]; rfl
      have e3:Bw mu (Bq (Be x))=E4 x:=by unfold E4; rw [hmu]
      rw [e1,e2] at this
      rw [e3] at this ⊢
      exact this
    have fin:∀ (b:Bool) (d:Option DV),Cq (E4 x)=b→(d=bif (!b) then some (.tup [.agg [.nil,.int .u64 (0:Int),.int .u64 (0:Int)],.bool false]) else some (.tup [.agg [.ints (.own 100004 tB) .u64 (R4 x),.int .u64 (Ss x),.int .u64 (E4 x)],.bool true])) →
        ∃ dv drops,d=some dv∧Wk drops dv (DV.tup [.agg [.ints .fresh .u64 (if Cq (E4 x)=true then (R4 x,Ss x,E4 x,(0:Int)) else ([],0,0,2)).1,.int .u64 (if Cq (E4 x)=true then (R4 x,Ss x,E4 x,(0:Int)) else ([],0,0,2)).2.1,.int .u64 (if Cq (E4 x)=true then (R4 x,Ss x,E4 x,(0:Int)) else ([],0,0,2)).2.2.1],.bool (decide ((if Cq (E4 x)=true then (R4 x,Ss x,E4 x,(0:Int)) else ([],0,0,2)).2.2.2=0))]):=by
      intro b d hb h
      cases b with
      | true =>
        rw [hb,if_pos rfl]
        exact ⟨_,[100004],h,Wk.Gw (.cons (Wk.G6 (.cons (.drop _ _ _ _ (List.mem_singleton.2 rfl)) (.cons .int (.cons .int .nil)))) (.cons .bool .nil))⟩
      | false =>
        rw [hb,if_neg (by decide)]
        exact ⟨_,[],h,Wk.Gw (.cons (Wk.G6 (.cons Lu (.cons .int (.cons .int .nil)))) (.cons .bool .nil))⟩
    have go:=fin (Cq (E4 x)) _ rfl (hrun.trans ?_)
    · obtain ⟨dv,drops,k1,k2⟩:=go
      exact ⟨66,dv,drops,k1,k2⟩
    have hlead:=W6 al
    rw [hF,Bb.Dl.B7,As,Axy (show ¬ (x.length:Int)<(x.length:Int) by omega),Axx,oky,Axt,hx,Axt,j1,Axu (show (0:Int)≤(j:Int) by omega),Axu (show (j:Int)<(x.length:Int) by omega),Axz,Axt,Axv,j3,hlead,Axt]
    have d1:decide ((0:Int)<((Bm x (-Bq (Be x))).length:Int))=true:=Axu (by omega)
    have d2:decide (0<(Bm x (-Bq (Be x))).length)=true:=Axu (by omega)
    cases hn:Dp (Oo x) with
    | true =>
      have hm:muI x=Df (Bm x (-Bq (Be x))):=by unfold muI; rw [if_pos hn]
      have eb:E4 x=Bw (Df (Bm x (-Bq (Be x)))) (Bq (Be x)):=by unfold E4; rw [hm]
      rw [Bool.not_true,Axx,sp _ ny,Axt,Hr ny,Axt,key _ hm ny,d1,Axt,d2,Axt,iy,ny,Axz,Axt,eb]
    | false =>
      have hm:muI x=C5 (Df (Bm x (-Bq (Be x)))):=by unfold muI; rw [if_neg (by rw [hn]; decide)]
      have my:=Yk ny
      have eb:E4 x=Bw (C5 (Df (Bm x (-Bq (Be x))))) (Bq (Be x)):=by unfold E4; rw [hm]
      rw [Bool.not_false,Axt,ny,Axt,sp _ my,Axt,Hr my,Axt,key _ hm my,d1,Axt,d2,Axt,iy,my,Axz,Axt,eb]
open EqRef13 EqRef14
theorem Aic {c b i:Int} {l:List Int} {n j:Nat} (h:j<n):(Cp c l b i n).getD j 0=D6 c l (i+(j:Int)) b:=by
  unfold Cp
  rw [Ax3,List.getElem?_map,List.getElem?_range h]; rfl
theorem P7 (a c b:Nat):Int.toNat ((a:Int)*(c:Int)+(b:Int))=a*c+b:=by rw [← Aye,← Int.natCast_add,Axv]
section
variable {R C i k:Nat} {l v:List Int} {t:Int}
theorem X2 (N M0:Nat) (r6:R≤6) (c6:C≤6) (al:Ai l=true) (av:Ai v=true) (hv:i+v.length≤R) {c:Nat} (hc:c<C) (hk:k≤c):∀ (cnt j F:Nat),j+cnt=v.length→cnt<F →
    Bb.Apply.L1 N M0 F (R:Int) (C:Int) l (i:Int) v t (j:Int) (apS R C l i k v t c j) (c:Int) (Cp (C:Int) l (c:Int) (i:Int) (R-i)) (Ta (C:Int) l (i:Int) v t (c:Int)) =
    Bb.Apply.L0 N M0 (R:Int) (C:Int) l (i:Int) v t ((c+1:Nat):Int) (apS R C l i k v t (c+1) 0):=by
  intro cnt
  induction cnt with
  | zero =>
    intro j F hj hF
    obtain ⟨F,rfl⟩:∃ G,F=G+1:=⟨F-1,by omega⟩
    obtain rfl:j=v.length:=by omega
    rw [Bb.Apply.B7,As,Axy (by omega),Axx,Am (by omega) (by omega),Afz]
    rfl
  | succ cnt ih =>
    intro j F hj hF
    obtain ⟨F,rfl⟩:∃ G,F=G+1:=⟨F-1,by omega⟩
    have e1:Ab ((i:Int)+(j:Int))=((i+j:Nat):Int):=by rw [Am (by omega) (by omega)]; omega
    have hat:Cw (R:Int) (C:Int) (apS R C l i k v t c j) ((i+j:Nat):Int) (c:Int)=true:=Dq r6 c6 (Ajb c j) (by omega) hc
    have sl:=Ga (C:Int) (c:Int) (i:Int) (R-i) l
    have a1:=It av j
    have a2:=It (O4 (c:=(C:Int)) (b:=(c:Int)) (i:=(i:Int)) (n:=R-i) al) j
    have a3:Af (Ta (C:Int) l (i:Int) v t (c:Int))=true:=Jg _ _
    have hx:Eu ((Cp (C:Int) l (c:Int) (i:Int) (R-i)).getD j 0) (D1 (Ta (C:Int) l (i:Int) v t (c:Int)) (v.getD j 0))=Pq (C:Int) l (i:Int) (k:Int) v t ((i+j:Nat):Int) (c:Int):=by
      rw [Afx hk (by omega),Aic (by omega),Aic (by omega)]
    rw [Bb.Apply.B7,As,Axu (show (j:Int)<(v.length:Int) by omega),Axt,e1,sl,Axu (show (0:Int)≤(j:Int) by omega),Axu (show (j:Int)<((R-i:Nat):Int) by omega),Axz,Axt,Axt,Axv,a3,a1,Axz,Axt,a2,Jg,Axz,Axt,hat,Axt,
      P7,Aja hc hk (by omega) hx,Am (by omega) (by omega)]
    exact ih (j+1) F (by omega) (by omega)
theorem X3 (N:Nat) (r6:R≤6) (c6:C≤6) (hN:7<N) (hr:A0 (R:Int) (C:Int) l=true) (al:Ai l=true) (av:Ai v=true) (ht:Af t=true) (hv:i+v.length≤R):∀ (cnt c F:Nat),c+cnt=C→k≤c→cnt<F →
    Bb.Apply.L0 N F (R:Int) (C:Int) l (i:Int) v t (c:Int) (apS R C l i k v t c 0) =
    some (.agg [.int .i64 (R:Int),.int .i64 (C:Int),.ints .arg .u64 (E7 R C l (i:Int) (k:Int) v t)]):=by
  intro cnt
  induction cnt with
  | zero =>
    intro c F hc hk hF
    obtain ⟨F,rfl⟩:∃ G,F=G+1:=⟨F-1,by omega⟩
    obtain rfl:c=C:=by omega
    rw [Bb.Apply.Au,As,Axy (by omega),Axx,Ajc]
  | succ cnt ih =>
    intro c F hc hk hF
    obtain ⟨F,rfl⟩:∃ G,F=G+1:=⟨F-1,by omega⟩
    have cp:G4 (R:Int) (C:Int) l (c:Int)=true:=Ad.2 ⟨hr,Ar.2 (by omega)⟩
    have e0:Int.toNat ((R:Int)-(i:Int))=R-i:=by omega
    have st:=Ad7 (c:=(C:Int)) (b:=(c:Int)) (i:=(i:Int)) (l:=l) (m:=v.length) (n:=R-i) (by omega)
    have sl2:=Ga (C:Int) (c:Int) (i:Int) (R-i) l
    have sl:=Ga (C:Int) (c:Int) (i:Int) v.length l
    have sa:=O4 (c:=(C:Int)) (b:=(c:Int)) (i:=(i:Int)) (n:=v.length) al
    have ft:Ow v (Cp (C:Int) l (c:Int) (i:Int) v.length)=true:=Rm.2 ⟨by omega,by omega⟩
    rw [Bb.Apply.Au,As,Axu (by omega),Axt,cp,Ar.2 (show 0≤(i:Int)∧(i:Int)≤(R:Int) by omega),Axz,Axt,e0,Axv,st,sl2,
      Axu (show (0:Int)≤(v.length:Int) by omega),Axu (show (v.length:Int)≤((R-i:Nat):Int) by omega),Axz,Axt,ft,av,sa,Axz,Axz,Axt,ht,Rp,Axz,Axt]
    have:=X2 (t:=t) N F r6 c6 al av hv (show c<C by omega) hk v.length 0 N (by omega) (by omega)
    exact this.trans (ih (c+1) F (by omega) (by omega) (by omega))
end
theorem Bb.Apply.known:Bb.Apply.Kn:=Bb.Apply.Ac (.cons Ag.Hz.known (.cons Ag.Mul.known (.cons Ag.Sub.known (.cons Aj.Pz.known (.cons Aj.F8.arg.known .nil))))) fun r c l i k v t hp=>by
  obtain ⟨h1,ht⟩:=Ad.1 (show (((A0 r c l&&Hl r c i k v)&&(Ai l&&Ai v))&&Af t)=true from hp)
  obtain ⟨h2,h3⟩:=Ad.1 h1
  obtain ⟨hr,hb⟩:=Ad.1 h2
  obtain ⟨al,av⟩:=Ad.1 h3
  have hb:=of_decide_eq_true hb
  obtain ⟨R,C,rfl,rfl,r6,c6,hl⟩:=Cc hr
  obtain ⟨i,rfl⟩:∃ j:Nat,i=j:=⟨i.toNat,by omega⟩
  obtain ⟨k,rfl⟩:∃ j:Nat,k=j:=⟨k.toNat,by omega⟩
  refine ⟨8,Bb.Apply.out [.i (R:Int),.i (C:Int),.l l,.i (i:Int),.i (k:Int),.l v,.i t],[],?_,Wk.G6 (.cons .int (.cons .int (.cons .Wr .nil)))⟩
  show _=some (DV.agg [.int .i64 (R:Int),.int .i64 (C:Int),.ints .arg .u64 (E7 (Int.toNat (R:Int)) (Int.toNat (C:Int)) l (i:Int) (k:Int) v t)])
  rw [Bb.Apply.ev,Axv,Axv]
  have:=X3 (R:=R) (C:=C) (i:=i) (k:=k) (l:=l) (v:=v) (t:=t) 8 r6 c6 (by omega) hr al av ht (by omega) (C-k) k 8 (by omega) (by omega) (by omega)
  rw [Afy hl] at this
  exact this
theorem Aj3 (N:Nat) {R C j:Nat} {l:List Int} {x:Int} (r6:R≤6) (c6:C≤6) (hj:j<C):∀ (cnt i F:Nat),i+cnt=R→j<i→cnt<F →
    B4.Dh.L0 N F (R:Int) (C:Int) (j:Int) (i:Int) (clS R C l j x i)=some (.agg [.int .i64 (R:Int),.int .i64 (C:Int),.ints .arg .u64 (M3 R C l j x)]):=by
  intro cnt
  induction cnt with
  | zero =>
    intro i F hi hji hF
    obtain ⟨F,rfl⟩:∃ G,F=G+1:=⟨F-1,by omega⟩
    obtain rfl:i=R:=by omega
    rw [B4.Dh.Au,As,Axy (by omega),Axx,Ai8]
  | succ cnt ih =>
    intro i F hi hji hF
    obtain ⟨F,rfl⟩:∃ G,F=G+1:=⟨F-1,by omega⟩
    have hat:Cw (R:Int) (C:Int) (clS R C l j x i) (i:Int) (j:Int)=true:=Dq r6 c6 (Ai7 i) (by omega) hj
    rw [B4.Dh.Au,As,Axu (by omega),Axt,hat,Axt,P7,Ai6 hj hji,Am (by omega) (by omega)]
    exact ih (i+1) F (by omega) (by omega) (by omega)
theorem B4.Dh.known:B4.Dh.Kn:=B4.Dh.Ac (.cons Aj.F8.arg.known .nil) fun r c l j b hp=>by
  obtain ⟨hr,hj⟩:=Ad.1 (show (A0 r c l&&Cu (0≤j∧j<r∧j<c))=true from hp)
  have hj:=Ar.1 hj
  obtain ⟨R,C,rfl,rfl,r6,c6,hl⟩:=Cc hr
  obtain ⟨j,rfl⟩:∃ i:Nat,j=i:=⟨j.toNat,by omega⟩
  refine ⟨8,.agg [.int .i64 (R:Int),.int .i64 (C:Int),.ints .arg .u64 (M3 R C l j b)],[],?_,?_⟩
  · rw [B4.Dh.ev,Dq r6 c6 hl (by omega) (by omega),Axt,P7,Vs hl (by omega),Am (by omega) (by omega)]
    exact Aj3 8 r6 c6 (by omega) (R-(j+1)) (j+1) 8 (by omega) (by omega) (by omega)
  · show Wk _ _ (DV.agg [.int .i64 (R:Int),.int .i64 (C:Int),.ints .arg .u64 (M3 (Int.toNat (R:Int)) (Int.toNat (C:Int)) l (Int.toNat (j:Int)) b)])
    rw [Axv,Axv,Axv]
    exact Wk.G6 (.cons .int (.cons .int (.cons .Wr .nil)))
def Vw (rows:List (List DV)) (ms:List (List Int × Int)):Prop:=rows.length=ms.length∧∀ i,i<ms.length→∃ b:Int,rows.getD i []=[.ints .arg .u64 (ms.getD i ([],0)).1,.int .u64 (ms.getD i ([],0)).2,.int .u64 b]
theorem Vw.Axd {rows:List (List DV)} {ms:List (List Int × Int)} (h:Vw rows ms) (v:List Int) (t b:Int):Vw (rows++[[.ints .arg .u64 v,.int .u64 t,.int .u64 b]]) (ms++[(v,t)]):=by
  refine ⟨by rw [List.length_append,List.length_append,h.1]; rfl,fun i hi=>?_⟩
  rw [List.length_append] at hi
  by_cases hlt:i<ms.length
  · obtain ⟨b',hb⟩:=h.2 i hlt
    refine ⟨b',?_⟩
    rw [Ax3,List.getElem?_append_left (by rw [h.1]; exact hlt),← Ax3,hb,Ax3 (l:=ms++_),List.getElem?_append_left hlt,← Ax3]
  · have he:i=ms.length:=by
      have:i<ms.length+1:=hi
      omega
    refine ⟨b,?_⟩
    rw [Ax3,List.getElem?_append_right (by rw [h.1]; omega),Ax3 (l:=ms++_),List.getElem?_append_right (by omega),he,h.1,Nat.sub_self]
    rfl
def Am8:DV:=.agg [.int .i64 0,.int .i64 0,.nil,.int .i64 0,.int .i64 0,.nil,.bool false]
theorem Anj {x:List Int} (h0:x.length≠0) (h:x.length≤64) (hf:Da x=true):Cg x=Jh x:=by
  unfold Cg; rw [if_neg (by omega),if_pos hf]
theorem Zx (N:Nat) {R C:Nat} (l0:List Int) (r6:R≤6) (c6:C≤6):∀ (cnt j F:Nat) (l:List Int) (rows:List (List DV)) (ms:List (List Int × Int)),j+cnt=H6 R C→cnt<F→l.length=R*C→Ai l=true→ms.length=j→Vw rows ms →
    (Mz R C cnt j l=none→B4.B0.L0 N F (R:Int) (C:Int) l0 (j:Int) l rows=some Am8) ∧
    (∀ x,Mz R C cnt j l=some x→∃ rows',Vw rows' (ms++x.2)∧B4.B0.L0 N F (R:Int) (C:Int) l0 (j:Int) l rows=B4.B0.L1 N N (R:Int) (C:Int) (Ab ((rows'.length:Int)-1)) x.1 rows' (I1 R)):=by
  intro cnt
  induction cnt with
  | zero =>
    intro j F l rows ms hj hF hl al hms hrows
    obtain ⟨F,rfl⟩:∃ G,F=G+1:=⟨F-1,by omega⟩
    unfold H6 at hj
    have hlt:(A4 (j:Int) (C:Int)&&A4 (j:Int) (Ab ((R:Int)-1)))=false:=by
      rw [As,As,Am (by omega) (by omega),Bool.and_eq_false_iff,Ayc,Ayc]; omega
    refine ⟨fun h=>(by cases h),fun x hx=>?_⟩
    cases hx
    refine ⟨rows,by rw [List.append_nil]; exact hrows,?_⟩
    rw [B4.B0.Au,hlt,Axx,Nh r6,Axt,Axv]
  | succ cnt ih =>
    intro j F l rows ms hj hF hl al hms hrows
    obtain ⟨F,rfl⟩:∃ G,F=G+1:=⟨F-1,by omega⟩
    have hj0:=hj
    unfold H6 at hj
    have hr:=Fe r6 c6 hl
    have hlt:(A4 (j:Int) (C:Int)&&A4 (j:Int) (Ab ((R:Int)-1)))=true:=by
      rw [As,As,Am (by omega) (by omega),Axu (by omega),Axu (by omega)]; rfl
    have cp:G4 (R:Int) (C:Int) l (j:Int)=true:=Ad.2 ⟨hr,Ar.2 (by omega)⟩
    have ec:Cp (C:Int) l (j:Int) (j:Int) (Int.toNat ((R:Int)-(j:Int)))=E3 R C l j:=by unfold E3; rw [show Int.toNat ((R:Int)-(j:Int))=R-j by omega]
    have ca:Ai (E3 R C l j)=true:=O4 al
    have cl:(E3 R C l j).length=R-j:=Ga _ _ _ _ _
    have cok:=I5 ca (by omega)
    rw [B4.B0.Au,hlt,Axt,cp,Ar.2 (show 0≤(j:Int)∧(j:Int)≤(R:Int) by omega),Axz,Axt,ec,cok,Axt,Axv,Axv,Axv]
    unfold Mz
    by_cases hf:Da (E3 R C l j)=true
    · have hmk:=Anj (x:=E3 R C l j) (by omega) (by omega) hf
      rw [hf,Bool.not_true,Axx,Ar.2 (show 1≤(E3 R C l j).length∧(E3 R C l j).length≤64 by omega),Axz,Axt,← hmk]
      by_cases he:(Cg (E3 R C l j)).2.2.2=0
      · have hml:=Uc he
        have hma:=Ud ca
        have hap:Hl (R:Int) (C:Int) (j:Int) (j:Int) (Cg (E3 R C l j)).1=true:=Axu (by omega)
        have hlen:=K1 R C l (j:Int) (j:Int) (Cg (E3 R C l j)).1 (Cg (E3 R C l j)).2.1
        have hn:=ih (j+1) F (Yi R C l j) (rows++[[.ints .arg .u64 (Cg (E3 R C l j)).1,.int .u64 (Cg (E3 R C l j)).2.1,.int .u64 (Cg (E3 R C l j)).2.2.1]]) (ms++[((Cg (E3 R C l j)).1,(Cg (E3 R C l j)).2.1)]) (by omega) (by omega) (Nk _ _ _ _) (W4 al j) (by rw [List.length_append,hms]; rfl) (hrows.Axd _ _ _)
        rw [if_pos he,Axu he,Bool.not_true,Axx,hr,hap,al,hma.1,hma.2.1,Axz,Axz,Axz,Axt,Fe r6 c6 hlen,Ar.2 (show 0≤(j:Int)∧(j:Int)<(R:Int)∧(j:Int)<(C:Int) by omega),Axz,Axt,Axu (show rows.length+1≤Ae4 by rw [hrows.1]; unfold Ae4; omega),Axt,Am (by omega) (by omega)]
        refine ⟨fun h=>?_,fun x hx=>?_⟩
        · rw [Option.map_eq_none_iff] at h
          exact hn.1 h
        · rw [Option.map_eq_some_iff] at hx
          obtain ⟨y,hy,rfl⟩:=hx
          obtain ⟨rows',h1,h2⟩:=hn.2 y hy
          refine ⟨rows',?_,h2⟩
          rw [List.append_assoc] at h1
          exact h1
      · rw [if_neg he,Axy he,Bool.not_false,Axt]
        exact ⟨fun _=>rfl,fun x hx=>(by cases hx)⟩
    · have hf':Da (E3 R C l j)=false:=by simpa using hf
      have he:(Cg (E3 R C l j)).2.2.2≠0:=by
        unfold Cg
        rw [if_neg (by omega),if_neg hf]
        exact (by decide:(4:Int)≠0)
      rw [hf',Bool.not_false,Axt,if_neg he]
      exact ⟨fun _=>rfl,fun x hx=>(by cases hx)⟩
theorem Zy (N:Nat) {R C:Nat} {L:List Int} (r6:R≤6) {ms:List (List Int × Int)} {rows:List (List DV)} (hrows:Vw rows ms) (hm:Aaw R 0 ms) (aL:Ck L=true) (hn:ms.length≤6):∀ (j F:Nat),j≤ms.length→j<F →
    B4.B0.L1 N F (R:Int) (C:Int) ((j:Int)-1) L rows (Hd R j (ms.drop j) (I1 R)) =
    bif (Da (Hd R 0 ms (I1 R))&&Da L) then some (.agg [.int .i64 (R:Int),.int .i64 (R:Int),.ints .arg .u64 (Hd R 0 ms (I1 R)),.int .i64 (R:Int),.int .i64 (C:Int),.ints .arg .u64 L,.bool true]) else some Am8:=by
  have h36:=Amf r6
  intro j
  induction j with
  | zero =>
    intro F _ hF
    obtain ⟨F,rfl⟩:∃ G,F=G+1:=⟨F-1,by omega⟩
    have hb:=Rq R ms 0 (I1 R) (Ut R) (by unfold I1; exact B8 _ _ _)
    have ok1:Ck (Hd R 0 ms (I1 R))=true:=I5 hb.1 (by omega)
    rw [B4.B0.B7,Ei,Axy (by omega),Axx,List.drop_zero,ok1,Axt,aL,Bool.or_true,Axt]
    cases Da (Hd R 0 ms (I1 R)) with
    | false=>rfl
    | true=>cases Da L<;>rfl
  | succ j ih =>
    intro F hj hF
    obtain ⟨F,rfl⟩:∃ G,F=G+1:=⟨F-1,by omega⟩
    have ej:(((j+1:Nat):Int))-1=(j:Int):=by omega
    have hg:=Vh hm j (by omega)
    have hb:=Rq R (ms.drop (j+1)) (j+1) (I1 R) (Ut R) (by unfold I1; exact B8 _ _ _)
    have hr1:=Fe r6 r6 hb.2
    have hap:Hl (R:Int) (R:Int) (j:Int) 0 (ms.getD j ([],0)).1=true:=Axu (by omega)
    obtain ⟨b,hrow⟩:=hrows.2 j (by omega)
    rw [B4.B0.B7,ej,Ei,Axu (show (0:Int)≤(j:Int) by omega),Axt,hrows.1,Axu (show (j:Int)<(ms.length:Int) by omega),Axz,Axt,Axv,Axu (show j<ms.length by omega),hrow,Axv]
    show (bif true then bif true then bif true then (bif (((A0 (R:Int) (R:Int) (Hd R (j+1) (ms.drop (j+1)) (I1 R))&&Hl (R:Int) (R:Int) (j:Int) (0:Int) (ms.getD j ([],0)).1)&&(Ai (Hd R (j+1) (ms.drop (j+1)) (I1 R))&&Ai (ms.getD j ([],0)).1))&&Af (ms.getD j ([],0)).2) then
      B4.B0.L1 N F (R:Int) (C:Int) (Ab ((j:Int)-(1:Int))) L rows (E7 R R (Hd R (j+1) (ms.drop (j+1)) (I1 R)) (j:Int) (0:Int) (ms.getD j ([],0)).1 (ms.getD j ([],0)).2) else none) else none else none else none)=_
    rw [Axt,Axt,Axt,hr1,hap,hb.1,hg.1,hg.2.1,Axz,Axz,Axz,Axt,Am (by omega) (by omega),← Abi (by omega)]
    exact ih F (by omega) (by omega)
theorem Ar7 {drops:List Nat} {e:Int}:Wk drops Am8 (DV.agg [.int .i64 (Ke e).1,.int .i64 (Ke e).2.1,.ints .arg .u64 (Ke e).2.2.1,.int .i64 (Ke e).1,.int .i64 (Ke e).2.1,.ints .arg .u64 (Ke e).2.2.1,.bool false]) :=
  Wk.G6 (.cons .int (.cons .int (.cons Lu (.cons .int (.cons .int (.cons Lu (.cons .bool .nil)))))))
theorem B4.B0.known:B4.B0.Kn:=B4.B0.Ac (.cons Ag.Finite.known (.cons Aj.Pz.known (.cons Aj.Ew.arg.known (.cons Bb.Apply.known (.cons Bb.Dl.known (.cons B4.Dh.known .nil)))))) fun r c l hp=>by
  obtain ⟨h1,al⟩:=Ad.1 (show ((A0 r c l&&Da l)&&Ai l)=true from hp)
  obtain ⟨hr,hf⟩:=Ad.1 h1
  have hc:Cd r c l=0:=Aow hr hf
  obtain ⟨R,C,rfl,rfl,r6,c6,hl⟩:=Cc hr
  show ∃ N dv drops,_=some dv∧Wk drops dv (DV.agg [.int .i64 (qX (R:Int) (C:Int) l).1,.int .i64 (qX (R:Int) (C:Int) l).2.1,.ints .arg .u64 (qX (R:Int) (C:Int) l).2.2.1,.int .i64 (rX (R:Int) (C:Int) l).1,.int .i64 (rX (R:Int) (C:Int) l).2.1,.ints .arg .u64 (rX (R:Int) (C:Int) l).2.2.1,.bool (decide (E6 (R:Int) (C:Int) l=0))])
  have hfe:=Ro hc
  rw [Axv,Axv] at hfe
  have hrun:=B4.B0.ev 8 (R:Int) (C:Int) l
  obtain ⟨d1,d2⟩:=Zx 8 l r6 c6 (H6 R C) 0 8 l [] [] (by omega) (by unfold H6; omega) hl al rfl ⟨rfl,fun i h=>absurd h (Nat.not_lt_zero _)⟩
  have bad:∀ d:Option DV,E6 (R:Int) (C:Int) l=2→d=some Am8→∃ dv drops,d=some dv∧Wk drops dv (DV.agg [.int .i64 (qX (R:Int) (C:Int) l).1,.int .i64 (qX (R:Int) (C:Int) l).2.1,.ints .arg .u64 (qX (R:Int) (C:Int) l).2.2.1,.int .i64 (rX (R:Int) (C:Int) l).1,.int .i64 (rX (R:Int) (C:Int) l).2.1,.ints .arg .u64 (rX (R:Int) (C:Int) l).2.2.1,.bool (decide (E6 (R:Int) (C:Int) l=0))]):=fun d he h=>by
    obtain ⟨e1,e2⟩:=X5 he (by decide)
    rw [e1,e2,he]
    exact ⟨Am8,[],h,Ar7⟩
  cases hx:J6 R C l with
  | none =>
    have hfo:Ls R C l=false:=by unfold Ls; rw [hx]; rfl
    rw [hfo,if_neg (by decide)] at hfe
    obtain ⟨dv,drops,k1,k2⟩:=bad _ hfe (hrun.trans (d1 hx))
    exact ⟨8,dv,drops,k1,k2⟩
  | some x =>
    obtain ⟨x1,x2,x3,x4⟩:=Afo hl al hx
    obtain ⟨rows,hrows,hd⟩:=d2 x hx
    rw [List.nil_append] at hrows
    have h36:=Nat.mul_le_mul r6 c6
    have hn:x.2.length≤6:=by rw [x3]; unfold H6; omega
    have hb:=Zy 8 (C:=C) r6 hrows x4 (I5 x1 (by omega)) hn x.2.length 8 (Nat.le_refl _) (by omega)
    rw [Ax7 (Nat.le_refl _)] at hb
    rw [hrows.1,Am (by omega) (by omega)] at hd
    have hd:=hd.trans hb
    have hq:Ma R C l=Hd R 0 x.2 (I1 R):=by unfold Ma; rw [hx]
    have hrr:J5 R C l=x.1:=by unfold J5; rw [hx]
    have hfo:Ls R C l=(Da (Hd R 0 x.2 (I1 R))&&Da x.1):=by unfold Ls; rw [hx,hq,hrr]; rfl
    rw [← hfo,← hq,← hrr] at hd
    cases hk:Ls R C l with
    | false =>
      rw [hk,if_neg (by decide)] at hfe
      rw [hk,Axx] at hd
      obtain ⟨dv,drops,k1,k2⟩:=bad _ hfe (hrun.trans hd)
      exact ⟨8,dv,drops,k1,k2⟩
    | true =>
      rw [hk,if_pos rfl] at hfe
      rw [hk,Axt] at hd
      obtain ⟨e1,e2⟩:=Wy hfe
      rw [e1,e2,hfe,Axv,Axv]
      exact ⟨8,_,[],hrun.trans hd,Wk.G6 (.cons .int (.cons .int (.cons .Wr (.cons .int (.cons .int (.cons .Wr (.cons .bool .nil)))))))⟩
namespace EqLow
def A7.Flat.hint:Nat→Option Ba
  | 0=>some { keep:=[1,3,4],objs:=[],boxes:=[1] }
  | 2=>some { keep:=[1,3,5],objs:=[],boxes:=[1] }
  | _=>none
def A7.Flat.A6:List (Nat × Entry):=[(94,Bo.Ho.spec),(93,Bo.Max.spec),(95,Bo.Order.spec),(96,Ag.Br.spec),(80,Aj.At.spec)]
def A7.Flat.E:Env:=A9 (A5 A7.Flat.A6) (fun _=>false) A7.Flat.hint (fun _=>none)
def A7.Flat.L0 (N M:Nat) (r c:Int) (l:List Int) (p3 p4:Int):Option DV:=Bz A7.Flat.E N Tryz.f26 (An Tryz.f26) [1,1,0,1,0] [] M ⟨Gl 52 [(1,.ptr 1 0 0),(3,.int .u64 p3),(4,.int .i64 p4)],[(1,false,.box [.int .i64 r,.int .i64 c,.ints .arg .u64 l])]⟩
def A7.Flat.L1 (N M:Nat) (r c:Int) (l:List Int) (p5 p3_1:Int):Option DV:=Bz A7.Flat.E N Tryz.f26 (An Tryz.f26) [1,1,1,0,1,0] [] M ⟨Gl 52 [(1,.ptr 1 0 0),(3,.int .u64 p3_1),(5,.int .i64 p5)],[(1,false,.box [.int .i64 r,.int .i64 c,.ints .arg .u64 l])]⟩
theorem A7.Flat.Au (N M:Nat) (r c:Int) (l:List Int) (p3 p4:Int):A7.Flat.L0 N (M+1) r c l p3 p4=bif ((A4 p4 r)&&(A4 p4 c)) then bif (Cw r c l p4 p4) then bif (Af (D6 c l p4 p4)) then bif (Af p3&&Af (I7 (D6 c l p4 p4))) then A7.Flat.L0 N M r c l (Om p3 (I7 (D6 c l p4 p4))) (Ab (p4+1)) else none else none else none else A7.Flat.L1 N N r c l 0 p3 :=
  Eq.trans (by kernel_rfl)
  (Aw (O1 (A4 p4 r)) (Aw (O1 (A4 p4 r)) (Aw (Lv (A4 p4 r)) (Aw (Abu (A4 p4 r)) (Aw (Ti (A4 p4 r)) (C2 (tt1 (A4 p4 r) (A4 p4 c)) rfl rfl))))))
theorem A7.Flat.B7 (N M:Nat) (r c:Int) (l:List Int) (p5 p3_1:Int):A7.Flat.L1 N (M+1) r c l p5 p3_1=bif ((A4 p5 r)&&(A4 p5 c)) then bif (Db p3_1 (-40:Int)) then bif (Cw r c l p5 p5) then bif (Af (D6 c l p5 p5)) then bif (Af (Bw p3_1 (-40:Int))&&Af (I7 (D6 c l p5 p5))) then bif (Ee 0 (Sp (Bw p3_1 (-40:Int)) (I7 (D6 c l p5 p5)))) then some (.bool true) else A7.Flat.L1 N M r c l (Ab (p5+1)) p3_1 else none else none else none else none else some (.bool false) :=
  Eq.trans (by kernel_rfl)
  (Aw (O1 (A4 p5 r)) (Aw (O1 (A4 p5 r)) (Aw (Lv (A4 p5 r)) (Aw (Abu (A4 p5 r)) (Aw (Ti (A4 p5 r)) (C2 (tt1 (A4 p5 r) (A4 p5 c)) (C2 (Cs (Db p3_1 (-40:Int))) (C2 (Cs (Cw r c l p5 p5)) (C2 (Cs (Af (D6 c l p5 p5))) (C2 (Cs (Af (Bw p3_1 (-40:Int))&&Af (I7 (D6 c l p5 p5)))) rfl rfl) rfl) rfl) rfl) rfl))))))
theorem A7.Flat.ev (N:Nat) (r c:Int) (l:List Int):Bp A7.Flat.E N Tryz.f26 (An Tryz.f26) [.agg [.int .i64 r,.int .i64 c,.ints .arg .u64 l]] =
  A7.Flat.L0 N N r c l 0 0:=by kernel_rfl
abbrev _root_.Go.Proofs.S1.A7.Flat.Kn:=A3 Tryz.prog 26 A7.Flat.spec
theorem A7.Flat.Ac (hk:Ax Tryz.prog A7.Flat.A6) (h:∀ (r c:Int) (l:List Int),A7.Flat.pre [.i r,.i c,.l l]=true→A8 A7.Flat.E Tryz.f26 [.agg [.int .i64 r,.int .i64 c,.ints .arg .u64 l]] (A7.Flat.out [.i r,.i c,.l l])):A7.Flat.Kn :=
  Ak (Az hk _ _ _) Tryz.func26 (by kernel_rfl) (by kernel_rfl) h
end EqLow
open EqLow
section
variable {n Q:Nat} {l m:List Int}
end
namespace EqLse
end EqLse
open EqLse
theorem Tw {r c:Int} {l:List Int} (h:A0 r c l=true):0≤r∧r≤6∧0≤c∧c≤6:=by
  obtain ⟨R,C,rfl,rfl,r6,c6,_⟩:=Cc h
  omega
theorem Aiy {r c:Int} {l:List Int} (al:Ai l=true):Ai (Kc r c l).2.2.1=true:=by
  unfold Kc
  split
  · exact al
  · exact Le
theorem Atb (r c:Int) (l:List Int) (p q:Int) (m:List Int):Ai (loX r c l p q m).2.2.1=true:=by
  unfold loX
  split
  · exact Le
  · exact Aiy (Ge fun i k=>W8 (Anr _ _ _ _) i)
theorem Asb (r c:Int) (l:List Int) (p q:Int) (m:List Int):Ai (Tf r c l p q m).2.2.1=true:=by
  unfold Tf
  split
  · exact Le
  · exact Aiy (Ge fun i k=>W8 (Agb _ _ _ _ _) i)
theorem Ajm {r c:Int} {l:List Int} {q:Int} {m:List Int} (al:Ai l=true) (am:Ai m=true) (i k:Int):Af (I4 r c l q m i k)=true:=by
  unfold I4
  by_cases h:i<r
  · rw [if_pos h]; exact Ru al
  · rw [if_neg h]; exact Ru am
theorem Aae {r c:Int} {l:List Int} {p q:Int} {m:List Int} (al:Ai l=true) (am:Ai m=true):Ai (Dw r c l p q m).2.2.1=true:=by
  unfold Dw
  by_cases h:(A0 r c l&&A0 p q m)=true
  · rw [if_pos h]
    by_cases h2:c=q∧r+p≤6
    · rw [if_pos h2]; exact (show Ai (B5 _ _ fun i k=>I4 r c l q m i k)=true from Ge fun _ _=>Ajm al am _ _)
    · rw [if_neg h2]; exact Le
  · rw [if_neg h]; exact Le
open EqMat EqOf
namespace EqRef20
def Aj.Stack.A6:List (Nat × Entry):=[]
def Aj.Stack.E:Env:=A9 (A5 Aj.Stack.A6) (fun _=>false) (fun _=>none) (fun _=>none)
theorem Aj.Stack.ev (N:Nat) (r c:Int) (l:List Int) (p q:Int) (m:List Int):Bp Aj.Stack.E N Tryz.f72 (An Tryz.f72) [.agg [.int .i64 r,.int .i64 c,.ints .arg .u64 l],.agg [.int .i64 p,.int .i64 q,.ints .arg .u64 m]]=bif (decide (0+(List.length l)≤Gp)) then bif (decide ((List.length ([]++l))+(List.length m)≤Gp)) then some (.agg [.int .i64 (Ab (r+p)),.int .i64 c,.ints (.own 20 37) .u64 (([]++l)++m)]) else none else none :=
  Eq.trans (by kernel_rfl)
  (Ej (C2 (Cs (decide ((List.length ([]++l))+(List.length m)≤Gp))) rfl rfl) rfl)
abbrev _root_.Go.Proofs.S1.Aj.Stack.Kn:=A3 Tryz.prog 72 Aj.Stack.spec
theorem Aj.Stack.Ac (hk:Ax Tryz.prog Aj.Stack.A6) (h:∀ (r c:Int) (l:List Int) (p q:Int) (m:List Int),Aj.Stack.pre [.i r,.i c,.l l,.i p,.i q,.l m]=true→A8 Aj.Stack.E Tryz.f72 [.agg [.int .i64 r,.int .i64 c,.ints .arg .u64 l],.agg [.int .i64 p,.int .i64 q,.ints .arg .u64 m]] (Aj.Stack.out [.i r,.i c,.l l,.i p,.i q,.l m])):Aj.Stack.Kn :=
  Ak (Az hk _ _ _) Tryz.func72 (by kernel_rfl) (by kernel_rfl) h
end EqRef20
end Go.Proofs.S1
end
