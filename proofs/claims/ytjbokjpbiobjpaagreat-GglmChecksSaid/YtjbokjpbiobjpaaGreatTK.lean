/- A verified evaluator of the program's form and its use for this seat: S1PTri, S1EqFew, S1PSol, S1EqQr, S1PQr, S1PQrA, S1EqRef17, S1PRef17, S1EqRef14, S1PRef13, S1PRef14, S1EqLow, S1PLow, S1EqLse, S1PLse, S1POfS, S1EqRef20, S1PSubSt, S1PLseA, S1PRefL, S1PRef20, S1PMx, S1EqGg. -/
import Derived.Test.YtjbokjpbiobjpaaGreatTI
import Derived.Test.YtjbokjpbiobjpaaGreatTJ
import Derived.Test.YtjbokjpbiobjpaaGreatTE
import Derived.Test.YtjbokjpbiobjpaaGreatTF
set_option linter.unusedVariables false
set_option linter.unusedSimpArgs false
noncomputable section
namespace Go.Proofs.S1
open Go Go.Den Go.Rnd Go.Proofs
open EqSol
theorem solve.Du.known:solve.Du.Kn:=solve.Du.Ad .nil fun i k _=>by
  refine ⟨0,solve.Du.out [.i i,.i k],[],?_,.bool⟩
  rw [solve.Du.ev,Ar]; rfl
theorem Ahd.known:Cl.Ck.up.Kn:=Cl.Ck.up.Ad .nil fun n k hp=>by
  have hp:=Ao.1 (show Cn (0≤k∧k<n∧n≤10)=true from hp)
  refine ⟨0,Cl.Ck.up.out [.i n,.i k],[],?_,.int⟩
  rw [Cl.Ck.up.ev,An (x:=n-1) (by omega) (by omega),An (by omega) (by omega)]; rfl
theorem Aa.of.B3.own.known:Aa.of.B3.own.Kn:=Aa.of.B3.own.Ad (.cons Aa.Dl.known .nil) fun a b hp=>by
  have h1:(Bl a&&Bl b)=true:=hp
  obtain ⟨ha,hb⟩:=Af.1 h1
  obtain ⟨A,rfl,hA⟩:=F9 ha
  obtain ⟨B,rfl,hB⟩:=F9 hb
  refine ⟨8,.agg [.int .i64 (A:Int),.int .i64 (B:Int),.ints (.own 108002 tB) .u64 (Cq A B fun (i j:Nat)=>(0:Int))],[],?_,Wk.Ig (.cons .int (.cons .int (.cons (.keep _ _ _ _ List.not_mem_nil) .nil)))⟩
  have n:=of.B3.outer 8 hA hB (by omega) (F:=fun (i j:Nat)=>(0:Int)) (fun _ _=>rfl) A 0 8 (by omega) (by omega)
  rw [J8] at n
  exact (EqOf.Aa.of.B3.ev 8 (A:Int) (B:Int)).trans n
theorem Aa.B3.own.known:Aa.B3.own.Kn:=Aa.B3.own.Ad (.cons Aa.of.B3.own.known (.cons Aa.size.known .nil)) fun a b hp=>by
  have hp:(Bl a&&Bl b)=true:=hp
  obtain ⟨ha,hb⟩:=Af.1 hp
  refine ⟨0,Aa.B3.own.out [.i a,.i b],[],?_,?_⟩
  · rw [Aa.B3.own.ev,ha,hb]; rfl
  · exact Wk.Gd (.cons (Wk.Ig (.cons .int (.cons .int (.cons (.keep _ _ _ _ List.not_mem_nil) .nil)))) (.cons .int .nil))
section
variable {n Q:Nat} {l m:List Int}
def upF (n Q:Nat) (l m:List Int) (i j:Nat):Int:=(W9 (n:Int) l (fun i=>Eh (Q:Int) m (i:Int) (j:Int)) n n).getD i 0
def upD (n j k a b:Nat):Bool:=decide (b<j∨(b=j∧n-k≤a))
def Sb (n Q:Nat) (l m:List Int) (j k:Nat):List Int:=Cq n Q fun a b=>if upD n j k a b=true then upF n Q l m a b else 0
theorem Agj (i j:Nat):Ai (upF n Q l m i j)=true:=Q1 (Abh _ _ _ _ _) i
theorem Amx (j k:Nat):Ah (Sb n Q l m j k)=true:=Gi fun a b=>by
  split
  · exact Agj _ _
  · exact B1 (n:=0) (by decide)
theorem Aj0 {j k t:Nat} (ht:t<n) (hj:j<Q) (hk:n-k≤t):Eh (Q:Int) (Sb n Q l m j k) (t:Int) (j:Int)=upF n Q l m t j:=by
  unfold Sb
  have hd:upD n j k t j=true:=Aqz (.inr ⟨rfl,hk⟩)
  rw [Adv ht hj,hd,if_pos rfl]
theorem W8 (j k:Nat):(Sb n Q l m j k).length=n*Q:=Bz _ _ _
theorem Agg (N:Nat) (n6:n≤6) (q6:Q≤6) (hl:l.length=n*n) (al:Ah l=true) {i j k:Nat} (hi:i+k+1=n) (hj:j<Q) (M0 M1:Nat) (p29 p33:Int) :
    ∀ (cnt t F:Nat) (s:Int),t+cnt=n→cnt<F→i+1≤t→Ai s=true →
    solve.Aq.Up.L2 N M0 M1 F (n:Int) (n:Int) l (n:Int) (Q:Int) m (n:Int) s (t:Int) (j:Int) (i:Int) p29 p33 (Sb n Q l m j k) =
    solve.Aq.Up.L1 N M0 M1 (n:Int) (n:Int) l (n:Int) (Q:Int) m (n:Int) (Ab (p33+(1:Int))) (List.set (Sb n Q l m j k) (Int.toNat ((i:Int)*(Q:Int)+(j:Int))) (E8 (Mv (n:Int) l (i:Int) s (t:Int) ((W9 (n:Int) l (fun i=>Eh (Q:Int) m (i:Int) (j:Int)) n n).drop t)) (Eh (n:Int) l (i:Int) (i:Int)))) (j:Int) p29:=by
  intro cnt
  induction cnt with
  | zero =>
    intro t F s ht hF hit hs
    obtain ⟨F,rfl⟩:∃ G,F=G+1:=⟨F-1,by omega⟩
    obtain ⟨e1,g1,g2⟩:=G1 (R:=(n:Int)) (Fh n6 n6 hl (show i<n by omega) (show i<n by omega))
    obtain ⟨e2,g3,g4⟩:=G1 (R:=(n:Int)) (Fh n6 q6 (W8 (l:=l) (m:=m) j k) (show i<n by omega) hj)
    rw [Arc (by rw [Pd]; omega),Mv]
    rw [solve.Aq.Up.G2,Ar,Aq3 (show ¬ (t:Int)<(n:Int) by omega),Aq2,e1,Aqz g1,Aqz g2,Aq4,Aqy,hs,show Ai (List.getD l (Int.toNat ((i:Int)*(n:Int)+(i:Int))) 0)=true from G9 (c:=(n:Int)) al,Aq4,Aqy,
      e2,Aqz g3,Aqz g4,Aq4,Aqy,Aqz (show Int.toNat ((i:Int)*(Q:Int)+(j:Int))<(Sb n Q l m j k).length by omega),Aqy]
    rfl
  | succ cnt ih =>
    intro t F s ht hF hit hs
    obtain ⟨F,rfl⟩:∃ G,F=G+1:=⟨F-1,by omega⟩
    obtain ⟨e1,g1,g2⟩:=G1 (R:=(n:Int)) (Fh n6 n6 hl (show i<n by omega) (show t<n by omega))
    obtain ⟨e2,g3,g4⟩:=G1 (R:=(n:Int)) (Fh n6 q6 (W8 (l:=l) (m:=m) j k) (show t<n by omega) hj)
    have hx:List.getD (Sb n Q l m j k) (Int.toNat ((t:Int)*(Q:Int)+(j:Int))) 0=upF n Q l m t j:=Aj0 (by omega) hj (by omega)
    rw [solve.Aq.Up.G2,Ar,Aqz (show (t:Int)<(n:Int) by omega),Aqy,Aqz (show (i:Int)<(t:Int) by omega),Aqy,e1,Aqz g1,Aqz g2,Aq4,Aqy,
      e2,Aqz g3,Aqz g4,Aq4,Aqy,Aqz (show Int.toNat ((t:Int)*(Q:Int)+(j:Int))<(Sb n Q l m j k).length by omega),Aqy,hx,
      show Ai (List.getD l (Int.toNat ((i:Int)*(n:Int)+(t:Int))) 0)=true from G9 (c:=(n:Int)) al,Agj,Aq4,Aqy,hs,Lc,Aq4,Aqy,An (x:=(t:Int)+1) (by omega) (by omega)]
    have:=ih (t+1) F (Dm s (El (Eh (n:Int) l (i:Int) (t:Int)) (upF n Q l m t j))) (by omega) (by omega) (by omega) (L7 hs (Lc _ _))
    rw [Wi (by rw [Pd]; omega)]
    exact this
theorem Ajw (N:Nat) (n6:n≤6) {i j k:Nat} (hi:i<n) (M0 M1:Nat) (p29 p33 s:Int):∀ (cnt t F:Nat),t+cnt=i+1 →
    solve.Aq.Up.L2 N M0 M1 (F+cnt) (n:Int) (n:Int) l (n:Int) (Q:Int) m (n:Int) s (t:Int) (j:Int) (i:Int) p29 p33 (Sb n Q l m j k) =
    solve.Aq.Up.L2 N M0 M1 F (n:Int) (n:Int) l (n:Int) (Q:Int) m (n:Int) s ((i+1:Nat):Int) (j:Int) (i:Int) p29 p33 (Sb n Q l m j k):=by
  intro cnt
  induction cnt with
  | zero =>
    intro t F ht
    obtain rfl:t=i+1:=by omega
    rfl
  | succ cnt ih =>
    intro t F ht
    rw [← Nat.add_assoc,solve.Aq.Up.G2,Ar,Aqz (show (t:Int)<(n:Int) by omega),Aqy,Aq3 (show ¬ (i:Int)<(t:Int) by omega),Aq2,An (by omega) (by omega)]
    exact ih (t+1) F (by omega)
theorem Ajz {i j k:Nat} (hi:i+k+1=n) (hj:j<Q) {x:Int} (hx:x=upF n Q l m i j):List.set (Sb n Q l m j k) (Int.toNat ((i:Int)*(Q:Int)+(j:Int))) x=Sb n Q l m j (k+1):=by
  refine Aaz hj hx fun a b ha hb=>?_
  unfold upD
  rw [Aq5,Aq5]
  omega
theorem Ajx (N:Nat) (n6:n≤6) (q6:Q≤6) (hN:7<N) (hl:l.length=n*n) (hm:m.length=n*Q) (al:Ah l=true) (am:Ah m=true) {j:Nat} (hj:j<Q) (M0:Nat):∀ (cnt k F:Nat),k+cnt=n→cnt<F →
    solve.Aq.Up.L1 N M0 F (n:Int) (n:Int) l (n:Int) (Q:Int) m (n:Int) (k:Int) (Sb n Q l m j k) (j:Int) (j:Int) =
    solve.Aq.Up.L0 N M0 (n:Int) (n:Int) l (n:Int) (Q:Int) m (n:Int) ((j+1:Nat):Int) (Sb n Q l m j n):=by
  intro cnt
  induction cnt with
  | zero =>
    intro k F hk hF
    obtain ⟨F,rfl⟩:∃ G,F=G+1:=⟨F-1,by omega⟩
    obtain rfl:k=n:=by omega
    rw [solve.Aq.Up.Cb,Ar,Aq3 (by omega),Aq2,An (by omega) (by omega)]
    rfl
  | succ cnt ih =>
    intro k F hk hF
    obtain ⟨F,rfl⟩:∃ G,F=G+1:=⟨F-1,by omega⟩
    obtain ⟨i,hi⟩:∃ i:Nat,i+k+1=n:=⟨n-k-1,by omega⟩
    have ei:(n:Int)-1-(k:Int)=(i:Int):=by omega
    obtain ⟨e2,g3,g4⟩:=G1 (R:=(n:Int)) (Fh n6 q6 hm (show i<n by omega) hj)
    rw [solve.Aq.Up.Cb,Ar,Aqz (show (k:Int)<(n:Int) by omega),Aqy,Ao.2 (show 0≤(k:Int)∧(k:Int)<(n:Int)∧(n:Int)≤10 by omega),Aqy,ei,e2,Aqz g3,Aqz g4,Aq4,Aqy]
    obtain ⟨G,rfl⟩:∃ G,N=G+(i+1):=⟨N-(i+1),by omega⟩
    have hs:=Ajw (n:=n) (Q:=Q) (l:=l) (m:=m) (G+(i+1)) n6 (i:=i) (j:=j) (k:=k) (by omega) M0 F (j:Int) (k:Int) (Eh (Q:Int) m (i:Int) (j:Int)) (i+1) 0 G (by omega)
    have hr:=Agg (n:=n) (Q:=Q) (l:=l) (m:=m) (G+(i+1)) n6 q6 hl al hi hj M0 F (j:Int) (k:Int) (n-(i+1)) (i+1) G (Eh (Q:Int) m (i:Int) (j:Int)) (by omega) (by omega) (by omega) (G9 (c:=(Q:Int)) am)
    rw [Ajz hi hj (Aj2 (show i<n by omega)).symm,An (by omega) (by omega)] at hr
    exact (hs.trans hr).trans (ih (k+1) F (by omega) (by omega))
theorem Agi (j:Nat):Sb n Q l m j n=Sb n Q l m (j+1) 0:=by
  unfold Sb
  refine Dn fun a b ha hb=>?_
  have:upD n j n a b=upD n (j+1) 0 a b:=by
    unfold upD
    rw [decide_eq_decide]
    omega
  rw [this]
theorem Agh:Sb n Q l m 0 0=Cq n Q fun _ _=>0:=by
  unfold Sb
  refine Dn fun a b ha hb=>?_
  have:upD n 0 0 a b=false:=Aq3 (by omega)
  rw [this]; rfl
theorem Aj1:Sb n Q l m Q 0=Y6 (n:Int) l (Q:Int) m n Q:=by
  unfold Sb Y6
  refine Dn fun a b ha hb=>?_
  have:upD n Q 0 a b=true:=Aqz (.inl hb)
  rw [this]; rfl
theorem Ajy (N:Nat) (n6:n≤6) (q6:Q≤6) (hN:7<N) (hl:l.length=n*n) (hm:m.length=n*Q) (al:Ah l=true) (am:Ah m=true):∀ (cnt j F:Nat),j+cnt=Q→cnt<F →
    solve.Aq.Up.L0 N F (n:Int) (n:Int) l (n:Int) (Q:Int) m (n:Int) (j:Int) (Sb n Q l m j 0) =
    bif D8 (Sb n Q l m Q 0) then some (.tup [.agg [.int .i64 (n:Int),.int .i64 (Q:Int),.ints (.own 112002 tB) .u64 (Sb n Q l m Q 0)],.int .i64 (0:Int)]) else some (Ae2 2):=by
  intro cnt
  induction cnt with
  | zero =>
    intro j F hj hF
    obtain ⟨F,rfl⟩:∃ G,F=G+1:=⟨F-1,by omega⟩
    obtain rfl:j=Q:=by omega
    have h36:=Nat.mul_le_mul n6 q6
    rw [solve.Aq.Up.At,Ar,Aq3 (by omega),Aq2,Kf (Amx _ _) (by rw [W8]; omega),Aqy]
    cases D8 (Sb n j l m j 0)<;>rfl
  | succ cnt ih =>
    intro j F hj hF
    obtain ⟨F,rfl⟩:∃ G,F=G+1:=⟨F-1,by omega⟩
    have hr:=Ajx N n6 q6 hN hl hm al am (show j<Q by omega) F n 0 N (by omega) (by omega)
    rw [Agi] at hr
    rw [solve.Aq.Up.At,Ar,Aqz (show (j:Int)<(Q:Int) by omega),Aqy]
    exact hr.trans (ih (j+1) F (by omega) (by omega))
end
theorem solve.Aq.Up.known:solve.Aq.Up.Kn:=solve.Aq.Up.Ad (.cons Ahd.known (.cons Aa.B3.own.known (.cons solve.Du.known (.cons Ae.Div.known (.cons Ae.Finite.known (.cons Ae.Mul.known (.cons Ae.Sub.known .nil))))))) fun r c l p q m n hp=>by
  show ∃ N dv drops,_=some dv∧Wk drops dv (Pk (Is r q (Y6 c l q m (Int.toNat r) (Int.toNat q))))
  obtain ⟨h1,hn⟩:=Af.1 (show (Na r c l p q m&&decide (n=r))=true from hp)
  obtain ⟨h2,h3⟩:=Af.1 h1
  obtain ⟨hr,hm⟩:=Af.1 h2
  obtain ⟨h4,h5⟩:=Af.1 h3
  obtain ⟨al,am⟩:=Af.1 h4
  obtain ⟨rfl,rfl⟩:=Ao.1 h5
  obtain rfl:=of_decide_eq_true hn
  have s1:=(Fg hr).1
  have s2:=(Fg hm).2
  obtain ⟨R,C,rfl,hC,r6,c6,hl⟩:=Db hr
  obtain ⟨P,Q,hP,rfl,p6,q6,hl2⟩:=Db hm
  obtain rfl:R=C:=by omega
  obtain rfl:R=P:=by omega
  have h:=Ajy (n:=R) (Q:=Q) (l:=l) (m:=m) 8 r6 q6 (by omega) hl hl2 al am Q 0 8 (by omega) (by omega)
  rw [Agh,Aj1,show ((0:Nat):Int)=0 from rfl] at h
  rw [Aq0,Aq0]
  unfold Is
  cases hf:D8 (Y6 (R:Int) l (Q:Int) m R Q) with
  | true =>
    rw [hf,Aqy] at h
    rw [if_pos rfl]
    refine ⟨8,.tup [.agg [.int .i64 (R:Int),.int .i64 (Q:Int),.ints (.own 112002 tB) .u64 (Y6 (R:Int) l (Q:Int) m R Q)],.int .i64 0],[112002],?_,Wk.Gd (.cons (Abf (List.mem_singleton.2 rfl)) (.cons .int .nil))⟩
    rw [solve.Aq.Up.ev,s1,s2,Aq4,Aqy,Aq0,Aq0]
    exact h
  | false =>
    rw [hf,Aq2] at h
    rw [if_neg (by decide)]
    refine ⟨8,Ae2 2,[],?_,Ku⟩
    rw [solve.Aq.Up.ev,s1,s2,Aq4,Aqy,Aq0,Aq0]
    exact h
set_option maxRecDepth 100000
namespace EqFew
def qr.Ed.Ba:List (Nat × Entry):=[(123,Aa.Mul.spec),(167,Aa.C3.spec)]
def qr.Ed.E:Env:=Bb (A9 qr.Ed.Ba) (fun _=>false) (fun _=>none) (fun _=>none)
theorem qr.Ed.ev (N:Nat) (r c:Int) (l:List Int) (p q:Int) (m:List Int):Bv qr.Ed.E N Tryz.f98 (Am Tryz.f98) [.agg [.int .i64 r,.int .i64 c,.ints .arg .u64 l],.agg [.int .i64 p,.int .i64 q,.ints .arg .u64 m]]=bif (((A6 r c l).2.2.2) !=(0:Int)) then some (.tup [.agg [.int .i64 0,.int .i64 0,.nil],.int .i64 ((A6 r c l).2.2.2)]) else bif (Ah ((A6 r c l).2.2.1)&&Ah m) then some (.tup [.agg [.int .i64 ((M4 ((A6 r c l).1) ((A6 r c l).2.1) ((A6 r c l).2.2.1) p q m).1),.int .i64 ((M4 ((A6 r c l).1) ((A6 r c l).2.1) ((A6 r c l).2.2.1) p q m).2.1),.ints .fresh .u64 ((M4 ((A6 r c l).1) ((A6 r c l).2.1) ((A6 r c l).2.2.1) p q m).2.2.1)],.int .i64 ((M4 ((A6 r c l).1) ((A6 r c l).2.1) ((A6 r c l).2.2.1) p q m).2.2.2)]) else none:=by kernel_rfl
abbrev _root_.Go.Proofs.S1.qr.Ed.Kn:=A4 Tryz.prog 98 qr.Ed.spec
theorem qr.Ed.Ad (hk:Ax Tryz.prog qr.Ed.Ba) (h:∀ (r c:Int) (l:List Int) (p q:Int) (m:List Int),qr.Ed.pre [.i r,.i c,.l l,.i p,.i q,.l m]=true→Bc qr.Ed.E Tryz.f98 [.agg [.int .i64 r,.int .i64 c,.ints .arg .u64 l],.agg [.int .i64 p,.int .i64 q,.ints .arg .u64 m]] (qr.Ed.out [.i r,.i c,.l l,.i p,.i q,.l m])):qr.Ed.Kn :=
  Al (Ay hk _ _ _) Tryz.func98 (by kernel_rfl) (by kernel_rfl) h
end EqFew
open EqSol EqFew
theorem Aby {n i:Nat} (h:i<n):(List.range n).drop i=i::(List.range n).drop (i+1):=by
  rw [List.drop_eq_getElem_cons (by rw [List.length_range]; exact h),List.getElem_range]
theorem Gx {r c:Int} {l:List Int} (h:Bx r c l=0):Bf r c l=true∧D8 l=true:=by
  unfold Bx at h
  by_cases h1:Bf r c l=true
  · rw [if_pos h1] at h
    by_cases h2:D8 l=true
    · exact ⟨h1,h2⟩
    · rw [if_neg h2] at h; exact absurd h (by decide)
  · rw [if_neg h1] at h; exact absurd h (by decide)
theorem Qt {x:Int} (h:x≠0):(x !=(0:Int))=true:=by simpa using h
theorem Ff {x:Int} (h:x=0):(x !=(0:Int))=false:=by rw [h]; rfl
theorem Acy (N:Nat) {n:Nat} {l:List Int} (n6:n≤6) (hl:l.length=n*n) (al:Ah l=true):∀ (cnt i F:Nat),i+cnt=n→cnt<F →
    solve.check.L0 (N+4) F (n:Int) (n:Int) l (i:Int)=some (.int .i64 (if ((List.range n).drop i).any (fun i:Nat=>decide (A8 (Eh (n:Int) l (i:Int) (i:Int))=0))=true then 5 else 0)):=by
  intro cnt
  induction cnt with
  | zero =>
    intro i F hi hF
    obtain ⟨F,rfl⟩:∃ G,F=G+1:=⟨F-1,by omega⟩
    rw [solve.check.At,Ar,Aq3 (by omega),Aq2,Arc (by rw [List.length_range]; omega)]; rfl
  | succ cnt ih =>
    intro i F hi hF
    obtain ⟨F,rfl⟩:∃ G,F=G+1:=⟨F-1,by omega⟩
    obtain ⟨e1,g1,g2⟩:=G1 (R:=(n:Int)) (Fh n6 n6 hl (show i<n by omega) (show i<n by omega))
    have hx:List.getD l (Int.toNat ((i:Int)*(n:Int)+(i:Int))) 0=Eh (n:Int) l (i:Int) (i:Int):=rfl
    rw [solve.check.At,Ar,Aqz (show (i:Int)<(n:Int) by omega),Aqy,e1,Aqz g1,Aqz g2,Aq4,Aqy,hx,G9 al,Aqy,Aby (by omega),List.any_cons]
    by_cases hk:A8 (Eh (n:Int) l (i:Int) (i:Int))=0
    · have e:(A8 (Eh (n:Int) l (i:Int) (i:Int))==(0:Int))=true:=by rw [hk]; rfl
      rw [e,Aqy,Aqz hk]; rfl
    · have e:(A8 (Eh (n:Int) l (i:Int) (i:Int))==(0:Int))=false:=by simpa using hk
      rw [e,Aq2,Aq3 hk,Bool.false_or,An (by omega) (by omega)]
      exact ih (i+1) F (by omega) (by omega)
theorem Aqf {r c p:Int}:((r !=c)||(r !=p))=decide (r≠c∨r≠p):=by
  rw [Are]; simp
theorem solve.check.known:solve.check.Kn:=solve.check.Ad (.cons B4.Check.known (.cons soft.Kind.known .nil)) fun r c l p q m hp=>by
  obtain ⟨al,am⟩:=Af.1 (show (Ah l&&Ah m)=true from hp)
  refine ⟨14,solve.check.out [.i r,.i c,.l l,.i p,.i q,.l m],[],?_,.int⟩
  show _=some (DV.int .i64 (M5 r c l p q m))
  rw [show (14:Nat)=10+4 from rfl,solve.check.ev,al,Aqy,am,Aqy,Aqf]
  unfold M5
  by_cases h1:Bx r c l=0
  · rw [Ff h1,Aq2,if_neg (by rw [h1]; decide)]
    by_cases h2:Bx p q m=0
    · rw [Ff h2,Aq2,if_neg (by rw [h2]; decide)]
      by_cases h3:r≠c∨r≠p
      · rw [Aqz h3,Aqy,if_pos h3]
      · rw [Aq3 h3,Aq2,if_neg h3]
        obtain rfl:r=c:=Decidable.byContradiction fun h=>h3 (.inl h)
        obtain ⟨R,C,rfl,hC,r6,c6,hl⟩:=Db (Gx h1).1
        obtain rfl:R=C:=by omega
        rw [Aq0]
        exact Acy 10 r6 hl al R 0 14 (by omega) (by omega)
    · rw [Qt h2,Aqy,if_pos h2]
  · rw [Qt h1,Aqy,if_pos h1]
theorem Ol {r c:Int} {l:List Int} {p q:Int} {m:List Int} (h:M5 r c l p q m=0):Bf r c l=true∧Bf p q m=true∧r=c∧r=p:=by
  unfold M5 at h
  by_cases h1:Bx r c l=0
  · rw [if_neg (by rw [h1]; decide)] at h
    by_cases h2:Bx p q m=0
    · rw [if_neg (by rw [h2]; decide)] at h
      by_cases h3:r≠c∨r≠p
      · rw [if_pos h3] at h; exact absurd h (by decide)
      · exact ⟨(Gx h1).1,(Gx h2).1,Decidable.byContradiction fun h=>h3 (.inl h),Decidable.byContradiction fun h=>h3 (.inr h)⟩
    · rw [if_pos h2] at h; exact absurd h h2
  · rw [if_pos h1] at h; exact absurd h h1
theorem solve.Gk.known:solve.Gk.Kn:=solve.Gk.Ad (.cons solve.check.known (.cons solve.Aq.Up.known .nil)) fun r c l p q m hp=>by
  have hp:(Ah l&&Ah m)=true:=hp
  show ∃ N dv drops,_=some dv∧Wk drops dv (Pk (Vv r c l p q m))
  unfold Vv
  by_cases h:M5 r c l p q m=0
  · obtain ⟨h1,h2,h3,h4⟩:=Ol h
    have ht:Na r c l p q m=true:=Af.2 ⟨Af.2 ⟨h1,h2⟩,Af.2 ⟨hp,Ao.2 ⟨h3,h4⟩⟩⟩
    rw [if_neg (by rw [h]; decide)]
    exact ⟨0,_,[],by rw [solve.Gk.ev,hp,Aqy,Ff h,Aq2,ht,Aqz rfl]; rfl,L4⟩
  · rw [if_pos h]
    exact ⟨0,_,[],by rw [solve.Gk.ev,hp,Aqy,Qt h,Aqy]; rfl,Ku⟩
theorem Ag3 {b:Nat} {n:Int} (h:b<2^64):(Hi b n).1<2^64:=by
  unfold Hi
  by_cases h4:Au b=4
  · rw [if_pos h4]; exact (by decide:Vt<2^64)
  rw [if_neg h4]
  by_cases h3:Au b=3∨Au b=0
  · rw [if_pos h3]; exact h
  rw [if_neg h3]
  exact P7 _ _ _
theorem I1 {b n:Int} (h:Ai b=true):Ai (B8 b n)=true:=by
  obtain ⟨x,rfl,hx⟩:=Bt h
  exact B1 (Ag3 (by rw [Aq0]; exact hx))
theorem Va:∀ (l:List Int) (m:Nat),m<2^64→Yo l m<2^64
  | [],m,h=>h
  | x::l,m,h=>by
    unfold Yo
    split
    · exact (by decide:Vt<2^64)
    · have h2:Af4 x.toNat<2^63:=W4 x.toNat
      exact Va l _ (by omega)
theorem P0 (l:List Int):Ai (Bm l)=true:=B1 (Va l 0 (by decide))
theorem Aht (x:Int):Ai (Z9 x)=true:=B1 (Nat.lt_trans (W4 x.toNat) (by decide))
theorem Afo (N:Nat) {d:List Int} (hd:Cu d=true) (h7:d.length≤1000):∀ (cnt i F:Nat),i+cnt=d.length→cnt<F →
    solve.Flat.L1 N F d (i:Int)=some (.tup [.bool ((d.drop i).any fun x=>!(decide (Ab2 (B8 (Bm d) (-40)) x<0))),.int .i64 0]):=by
  obtain ⟨_,hu⟩:=Ju hd
  intro cnt
  induction cnt with
  | zero =>
    intro i F hi hF
    obtain ⟨F,rfl⟩:∃ G,F=G+1:=⟨F-1,by omega⟩
    rw [solve.Flat.Cb,Ar,Aq3 (by omega),Aq2,Arc (by omega)]; rfl
  | succ cnt ih =>
    intro i F hi hF
    obtain ⟨F,rfl⟩:∃ G,F=G+1:=⟨F-1,by omega⟩
    rw [solve.Flat.Cb,Ar,Aqz (show (i:Int)<(d.length:Int) by omega),Aqy,Aqz (show (0:Int)≤(i:Int) by omega),Aq4,Aqy,Aq0,Aqz (show i<d.length by omega),Aqy,
      I1 (P0 d),hu i (by omega),Aq4,Aqy,Hu (by omega),List.any_cons]
    cases decide (Ab2 (B8 (Bm d) (-40)) (d.getD i 0)<0) with
    | false=>rfl
    | true =>
      rw [Bool.not_true,Aq2,Bool.false_or,An (by omega) (by omega)]
      exact ih (i+1) F (by omega) (by omega)
theorem Alq (c:Int) (l:List Int) (n:Nat):Ah (Sp c l n)=true:=Ao.2 fun x hx=>by
  obtain ⟨j,_,rfl⟩:=List.mem_map.1 hx
  exact Aht _
theorem K3 (c:Int) (l:List Int) (n:Nat):(Sp c l n).length=n:=by unfold Sp; rw [List.length_map,List.length_range]
theorem Afp (N:Nat) {R C:Nat} {l:List Int} (r6:R≤6) (c6:C≤6) (hN:7<N) (hl:l.length=R*C) (al:Ah l=true):∀ (cnt i F:Nat),i+cnt=min R C→cnt<F →
    solve.Flat.L0 N F (R:Int) (C:Int) l (i:Int) (Sp (C:Int) l i)=some (.tup [.bool (Amm (Sp (C:Int) l (min R C))),.int .i64 0]):=by
  intro cnt
  induction cnt with
  | zero =>
    intro i F hi hF
    obtain ⟨F,rfl⟩:∃ G,F=G+1:=⟨F-1,by omega⟩
    obtain rfl:i=min R C:=by omega
    have hlt:(A1 (((min R C:Nat)):Int) (R:Int)&&A1 (((min R C:Nat)):Int) (C:Int))=false:=by
      rw [Ar,Ar,Bool.and_eq_false_iff,Ari,Ari]; omega
    have ok:=Kf (Alq (C:Int) l (min R C)) (by rw [K3]; omega)
    have sp:Ej (Bm (Sp (C:Int) l (min R C))) (-40:Int)=true:=Af.2 ⟨P0 _,Ao.2 (by omega)⟩
    rw [solve.Flat.At,hlt,Aq2,ok,Aqy,sp,Aqy]
    exact Afo N ok (by rw [K3]; omega) (min R C) 0 N (by rw [K3]; omega) (by omega)
  | succ cnt ih =>
    intro i F hi hF
    obtain ⟨F,rfl⟩:∃ G,F=G+1:=⟨F-1,by omega⟩
    obtain ⟨e1,g1,g2⟩:=G1 (R:=(R:Int)) (Fh r6 c6 hl (show i<R by omega) (show i<C by omega))
    have hx:List.getD l (Int.toNat ((i:Int)*(C:Int)+(i:Int))) 0=Eh (C:Int) l (i:Int) (i:Int):=rfl
    rw [solve.Flat.At,Ar,Ar,Aqz (show (i:Int)<(R:Int) by omega),Aqz (show (i:Int)<(C:Int) by omega),Aq4,Aqy,e1,Aqz g1,Aqz g2,Aq4,Aqy,hx,G9 al,Aqy,
      K3,Aqz (show i+1≤Gv by unfold Gv; omega),Aqy,An (by omega) (by omega)]
    have:=ih (i+1) F (by omega) (by omega)
    unfold Sp at this ⊢
    rw [H4] at this
    exact this
theorem solve.Flat.known:solve.Flat.Kn:=solve.Flat.Ad (.cons B4.Check.known (.cons compare.Sy.known (.cons compare.J0.known (.cons Ae.Cf.known (.cons Ae.Bp.known .nil))))) fun r c l hp=>by
  have hp:Ah l=true:=hp
  refine ⟨8,solve.Flat.out [.i r,.i c,.l l],[],?_,Wk.Gd (.cons .bool (.cons .int .nil))⟩
  show _=some (DV.tup [.bool (Mz r c l).1,.int .i64 (Mz r c l).2])
  rw [solve.Flat.ev,hp,Aqy]
  unfold Mz Aim
  by_cases h1:Bx r c l=0
  · obtain ⟨R,C,rfl,rfl,r6,c6,hl⟩:=Db (Gx h1).1
    rw [Ff h1,Aq2,if_neg (by rw [h1]; decide),Aq0,Aq0]
    exact Afp 8 r6 c6 (by omega) hl hp (min R C) 0 8 (by omega) (by omega)
  · rw [Qt h1,Aqy,if_pos h1]
theorem Ky {r c:Int} {l:List Int} (al:Ah l=true) (x y a b:Int):Ah (D5 r c l x y a b).2.2.1=true:=by
  unfold D5
  split
  · split
    · dsimp only
      exact Gi fun i k=>G9 al
    · exact Ao.2 fun x h=>by cases h
  · exact Ao.2 fun x h=>by cases h
theorem N9 {r c:Int} {l:List Int} (al:Ah l=true):Ah (A6 r c l).2.2.1=true:=by
  unfold A6
  split
  · dsimp only
    exact Gi fun i k=>G9 al
  · exact Ao.2 fun x h=>by cases h
theorem Th (x y:List Int):Ai (Ov x y)=true:=B1 (Yi x y 0 (by decide))
theorem X0 (r c:Int) (l:List Int) (p q:Int) (m:List Int):Ah (M4 r c l p q m).2.2.1=true:=by
  unfold M4
  split
  · split
    · dsimp only
      exact Gi fun i k=>Th _ _
    · exact Ao.2 fun x h=>by cases h
  · exact Ao.2 fun x h=>by cases h
theorem J2 (r c:Int) (l:List Int) (p q:Int) (m:List Int):Ah (Ef r c l p q m).2.2.1=true:=by
  unfold Ef
  split
  · exact Ao.2 fun x h=>by cases h
  · exact X0 _ _ _ _ _ _
theorem qr.Ed.known:qr.Ed.Kn:=qr.Ed.Ad (.cons Aa.Mul.known (.cons Aa.C3.known .nil)) fun r c l p q m hp=>by
  obtain ⟨al,am⟩:=Af.1 (show (Ah l&&Ah m)=true from hp)
  show ∃ N dv drops,_=some dv∧Wk drops dv (Pk (Ef r c l p q m))
  unfold Ef
  by_cases h:(A6 r c l).2.2.2=0
  · rw [if_neg (by rw [h]; decide)]
    exact ⟨0,_,[],by rw [qr.Ed.ev,Ff h,Aq2,N9 al,am]; rfl,L4⟩
  · rw [if_pos h]
    exact ⟨0,_,[],by rw [qr.Ed.ev,Qt h,Aqy]; rfl,Ku⟩
namespace EqQr
def qr.down.hint:Nat→Option A5
  | 0=>some { keep:=[1,2,5,6,7],objs:=[(0,6,100006,.recs 214 2 []),(6,2,106002,.ints 37 .u64 [])],boxes:=[1,2,5] }
  | 2=>some { keep:=[1,2,5,6,7,8,9,12],objs:=[(6,2,106002,.ints 37 .u64 []),(0,6,100006,.recs 214 2 [])],boxes:=[1,2,5] }
  | _=>none
def qr.down.Ba:List (Nat × Entry):=[(219,Ak.Apply.spec),(245,Ak.Iu.spec),(191,Aa.C4.spec)]
def qr.down.E:Env:=Bb (A9 qr.down.Ba) (fun n=>Nat.beq n 46) qr.down.hint (fun _=>none)
def qr.down.L0 (N M0 M:Nat) (r c:Int) (l:List Int) (p12_1:Int) (p2_1:List Int) (p7_1:Int) (p8:List Int) (p9:Int) (p6_1:List (List DV)):Option DV:=B2 qr.down.E N Tryz.f217 (Am Tryz.f217) [1,1,1,0,1,0,0,1,0,0,1,1,1,1,0,1,0] [M0] M ⟨Fw 88 [(1,.ptr 1 0 0),(2,.ptr 2 0 0),(5,.ptr 5 0 0),(6,.oref 100006),(7,.int .i64 p7_1),(8,.ints .fresh .u64 p8),(9,.int .u64 p9),(12,.int .i64 p12_1)],[(1,false,.box [.int .i64 r,.int .i64 c,.ints .arg .u64 l]),(2,false,.box [.int .i64 0,.int .i64 0,.nil]),(5,false,.box [.int .i64 r,.int .i64 c,.oref 106002]),(106002,false,.ints 37 .u64 p2_1),(100006,false,.recs 214 2 p6_1)]⟩
def qr.down.L1 (N M:Nat) (r c:Int) (l:List Int) (p7:Int) (p6:List (List DV)) (p2_2:List Int):Option DV:=B2 qr.down.E N Tryz.f217 (Am Tryz.f217) [1,1,1,0,1,0] [] M ⟨Fw 88 [(1,.ptr 1 0 0),(2,.ptr 2 0 0),(5,.ptr 5 0 0),(6,.oref 100006),(7,.int .i64 p7)],[(1,false,.box [.int .i64 r,.int .i64 c,.ints .arg .u64 l]),(2,false,.box [.int .i64 0,.int .i64 0,.nil]),(5,false,.box [.int .i64 r,.int .i64 c,.oref 106002]),(100006,false,.recs 214 2 p6),(106002,false,.ints 37 .u64 p2_2)]⟩
def qr.down.L2 (N M:Nat) (r c:Int) (l:List Int):Option DV:=B2 qr.down.E N Tryz.f217 (Am Tryz.f217) [1,1,1,0,1,0] [] M ⟨Fw 88 [(1,.ptr 1 0 0),(2,.ptr 2 0 0),(5,.ptr 5 0 0),(6,.oref 100006),(7,.int .i64 0)],[(1,false,.box [.int .i64 r,.int .i64 c,.ints .arg .u64 l]),(2,false,.box [.int .i64 0,.int .i64 0,.nil]),(5,false,.box [.int .i64 r,.int .i64 c,.ints .arg .u64 l]),(100006,false,.recs 214 2 [])]⟩
theorem qr.down.At (N M0 M:Nat) (r c:Int) (l:List Int) (p12_1:Int) (p2_1:List Int) (p7_1:Int) (p8:List Int) (p9:Int) (p6_1:List (List DV)):qr.down.L0 N M0 (M+1) r c l p12_1 p2_1 p7_1 p8 p9 p6_1=bif (A1 p12_1 r) then bif ((decide (0≤(Ab ((Ab (p12_1*c))+p7_1))))&&(decide ((Ab ((Ab (p12_1*c))+p7_1))<(List.length p2_1:Int)))) then bif (decide ((Int.toNat (Ab ((Ab (p12_1*c))+p7_1)))<(List.length p2_1))) then qr.down.L0 N M0 M r c l (Ab (p12_1+1)) (List.set p2_1 (Int.toNat (Ab ((Ab (p12_1*c))+p7_1))) 0) p7_1 p8 p9 p6_1 else none else none else bif (decide ((List.length p6_1)+1≤Ah5)) then qr.down.L1 N M0 r c l (Ab (p7_1+1)) (p6_1++[[.ints .arg .u64 p8,.int .u64 p9]]) p2_1 else none:=by kernel_rfl
theorem qr.down.Cb (N M:Nat) (r c:Int) (l:List Int) (p7:Int) (p6:List (List DV)) (p2_2:List Int):qr.down.L1 N (M+1) r c l p7 p6 p2_2=bif ((A1 p7 c)&&(A1 p7 (Ab (r-1)))) then bif (Kl r c p2_2 p7&&Cn (0≤p7∧p7≤r)) then bif (Cu (Dh c p2_2 p7 p7 (Int.toNat (r-p7)))) then bif (((B7 (Dh c p2_2 p7 p7 (Int.toNat (r-p7)))).2.2.2) !=(0:Int)) then some (.tup [.agg [.int .i64 0,.int .i64 0,.nil],.nil,.int .i64 2]) else bif (((Bf r c p2_2&&Li r c p7 p7 ((B7 (Dh c p2_2 p7 p7 (Int.toNat (r-p7)))).1))&&(Ah p2_2&&Ah ((B7 (Dh c p2_2 p7 p7 (Int.toNat (r-p7)))).1)))&&Ai ((B7 (Dh c p2_2 p7 p7 (Int.toNat (r-p7)))).2.1)) then bif ((decide (0≤(Ab ((Ab (p7*c))+p7))))&&(decide ((Ab ((Ab (p7*c))+p7))<(List.length (Fu (Int.toNat r) (Int.toNat c) p2_2 p7 p7 ((B7 (Dh c p2_2 p7 p7 (Int.toNat (r-p7)))).1) ((B7 (Dh c p2_2 p7 p7 (Int.toNat (r-p7)))).2.1)):Int)))) then bif (decide ((Int.toNat (Ab ((Ab (p7*c))+p7)))<(List.length (Fu (Int.toNat r) (Int.toNat c) p2_2 p7 p7 ((B7 (Dh c p2_2 p7 p7 (Int.toNat (r-p7)))).1) ((B7 (Dh c p2_2 p7 p7 (Int.toNat (r-p7)))).2.1))))) then qr.down.L0 N M N r c l (Ab (p7+1)) (List.set (Fu (Int.toNat r) (Int.toNat c) p2_2 p7 p7 ((B7 (Dh c p2_2 p7 p7 (Int.toNat (r-p7)))).1) ((B7 (Dh c p2_2 p7 p7 (Int.toNat (r-p7)))).2.1)) (Int.toNat (Ab ((Ab (p7*c))+p7))) ((B7 (Dh c p2_2 p7 p7 (Int.toNat (r-p7)))).2.2.1)) p7 ((B7 (Dh c p2_2 p7 p7 (Int.toNat (r-p7)))).1) ((B7 (Dh c p2_2 p7 p7 (Int.toNat (r-p7)))).2.1) p6 else none else none else none else none else none else some (.tup [.agg [.int .i64 r,.int .i64 c,.ints (.own 106002 37) .u64 p2_2],.recs (.own 100006 214) 2 p6,.int .i64 0]) :=
  Eq.trans (by kernel_rfl)
  (Ap (Ot (A1 p7 c)) (Ap (Ot (A1 p7 c)) (Ap (Ks (A1 p7 c)) (Ap (Ks (A1 p7 c)) (Ap (Agp (A1 p7 c)) (Ap (Sc (A1 p7 c)) (Cy (tt1 (A1 p7 c) (A1 p7 (Ab (r-1)))) rfl rfl)))))))
theorem qr.down.G2 (N M:Nat) (r c:Int) (l:List Int):qr.down.L2 N (M+1) r c l=bif ((A1 0 c)&&(A1 0 (Ab (r-1)))) then bif (Kl r c l 0&&Cn (0≤(0:Int)∧(0:Int)≤r)) then bif (Cu (Dh c l 0 0 (Int.toNat (r-0)))) then bif (((B7 (Dh c l 0 0 (Int.toNat (r-0)))).2.2.2) !=(0:Int)) then some (.tup [.agg [.int .i64 0,.int .i64 0,.nil],.nil,.int .i64 2]) else bif (((Bf r c l&&Li r c 0 0 ((B7 (Dh c l 0 0 (Int.toNat (r-0)))).1))&&(Ah l&&Ah ((B7 (Dh c l 0 0 (Int.toNat (r-0)))).1)))&&Ai ((B7 (Dh c l 0 0 (Int.toNat (r-0)))).2.1)) then bif ((decide (0≤(Ab ((Ab ((0:Int)*c))+0))))&&(decide ((Ab ((Ab ((0:Int)*c))+0))<(List.length (Fu (Int.toNat r) (Int.toNat c) l 0 0 ((B7 (Dh c l 0 0 (Int.toNat (r-0)))).1) ((B7 (Dh c l 0 0 (Int.toNat (r-0)))).2.1)):Int)))) then bif (decide ((Int.toNat (Ab ((Ab ((0:Int)*c))+0)))<(List.length (Fu (Int.toNat r) (Int.toNat c) l 0 0 ((B7 (Dh c l 0 0 (Int.toNat (r-0)))).1) ((B7 (Dh c l 0 0 (Int.toNat (r-0)))).2.1))))) then qr.down.L0 N M N r c l 1 (List.set (Fu (Int.toNat r) (Int.toNat c) l 0 0 ((B7 (Dh c l 0 0 (Int.toNat (r-0)))).1) ((B7 (Dh c l 0 0 (Int.toNat (r-0)))).2.1)) (Int.toNat (Ab ((Ab ((0:Int)*c))+0))) ((B7 (Dh c l 0 0 (Int.toNat (r-0)))).2.2.1)) 0 ((B7 (Dh c l 0 0 (Int.toNat (r-0)))).1) ((B7 (Dh c l 0 0 (Int.toNat (r-0)))).2.1) [] else none else none else none else none else none else some (.tup [.agg [.int .i64 r,.int .i64 c,.ints .arg .u64 l],.recs (.own 100006 214) 2 [],.int .i64 0]) :=
  Eq.trans (by kernel_rfl)
  (Ap (Ot (A1 0 c)) (Ap (Ot (A1 0 c)) (Ap (Ks (A1 0 c)) (Ap (Ks (A1 0 c)) (Ap (Agp (A1 0 c)) (Ap (Sc (A1 0 c)) (Cy (tt1 (A1 0 c) (A1 0 (Ab (r-1)))) rfl rfl)))))))
theorem qr.down.ev (N:Nat) (r c:Int) (l:List Int):Bv qr.down.E N Tryz.f217 (Am Tryz.f217) [.agg [.int .i64 r,.int .i64 c,.ints .arg .u64 l]] =
  qr.down.L2 N N r c l:=by kernel_rfl
abbrev _root_.Go.Proofs.S1.qr.down.Kn:=A4 Tryz.prog 217 qr.down.spec
theorem qr.down.Ad (hk:Ax Tryz.prog qr.down.Ba) (h:∀ (r c:Int) (l:List Int),qr.down.pre [.i r,.i c,.l l]=true→Bc qr.down.E Tryz.f217 [.agg [.int .i64 r,.int .i64 c,.ints .arg .u64 l]] (qr.down.out [.i r,.i c,.l l])):qr.down.Kn :=
  Al (Ay hk _ _ _) Tryz.func217 (by kernel_rfl) (by kernel_rfl) h
def qr.Cx.hint:Nat→Option A5
  | 0=>some { keep:=[2,3,5,6],objs:=[],boxes:=[2,3] }
  | _=>none
def qr.Cx.Ba:List (Nat × Entry):=[(86,B4.Check.spec),(219,Ak.Apply.spec),(218,Aa.Gs.spec),(217,qr.down.spec),(150,Ae.Finite.spec)]
def qr.Cx.E:Env:=Acq (A9 qr.Cx.Ba) (fun _=>false) qr.Cx.hint (fun _=>none) (Amq [(22,[.s .u64]),(37,[.i .u64])])
def qr.Cx.L0 (N M:Nat) (r c:Int) (l:List Int) (p6:Int) (p2:List Int):Option DV:=B2 qr.Cx.E N Tryz.f166 (Am Tryz.f166) [1,0,1,1,1,1,1,1,0,0] [] M ⟨Fw 81 [(2,.ptr 2 0 0),(3,.ptr 3 0 0),(5,.recs .fresh 2 (Iq r c ([]++l))),(6,.int .i64 p6)],[(2,false,.box [.int .i64 ((Kj r).1),.int .i64 ((Kj r).2.1),.ints .fresh .u64 p2]),(3,false,.box [.int .i64 ((E3 r c ([]++l)).1),.int .i64 ((E3 r c ([]++l)).2.1),.ints .arg .u64 ((E3 r c ([]++l)).2.2.1)])]⟩
theorem qr.Cx.At (N M:Nat) (r c:Int) (l:List Int) (p6:Int) (p2:List Int):qr.Cx.L0 N (M+1) r c l p6 p2=bif (A1 p6 0) then bif (Cu p2) then bif ((!(D8 p2))||(Cu ((E3 r c ([]++l)).2.2.1))) then bif ((!(D8 p2))||(!(D8 ((E3 r c ([]++l)).2.2.1)))) then some (.tup [.agg [.int .i64 0,.int .i64 0,.nil],.agg [.int .i64 0,.int .i64 0,.nil],.int .i64 2]) else some (.tup [.agg [.int .i64 ((Kj r).1),.int .i64 ((Kj r).2.1),.ints .fresh .u64 p2],.agg [.int .i64 ((E3 r c ([]++l)).1),.int .i64 ((E3 r c ([]++l)).2.1),.ints .arg .u64 ((E3 r c ([]++l)).2.2.1)],.int .i64 0]) else none else none else bif ((decide (0≤p6))&&(decide (p6<(List.length (Iq r c ([]++l)):Int)))) then bif (isC (.s .u64) (List.getD (List.getD (Iq r c ([]++l)) (Int.toNat p6) []) 0 .undef)) then bif ((decide (0≤p6))&&(decide (p6<(List.length (Iq r c ([]++l)):Int)))) then bif (isC (.i .u64) (List.getD (List.getD (Iq r c ([]++l)) (Int.toNat p6) []) 1 .undef)) then bif (((Bf ((Kj r).1) ((Kj r).2.1) p2&&Li ((Kj r).1) ((Kj r).2.1) p6 0 (Ps (List.getD (List.getD (Iq r c ([]++l)) (Int.toNat p6) []) 0 .undef)))&&(Ah p2&&Ah (Ps (List.getD (List.getD (Iq r c ([]++l)) (Int.toNat p6) []) 0 .undef))))&&Ai (Adx (List.getD (List.getD (Iq r c ([]++l)) (Int.toNat p6) []) 1 .undef))) then qr.Cx.L0 N M r c l (Ab (p6-1)) (Fu (Int.toNat ((Kj r).1)) (Int.toNat ((Kj r).2.1)) p2 p6 0 (Ps (List.getD (List.getD (Iq r c ([]++l)) (Int.toNat p6) []) 0 .undef)) (Adx (List.getD (List.getD (Iq r c ([]++l)) (Int.toNat p6) []) 1 .undef))) else none else none else none else none else none :=
  Eq.trans (by kernel_rfl)
  (E2 (E2 (Ap (Aed (D8 p2)) (Ap (Tr (D8 p2)) (Cy (Am8 (D8 p2) (Cu ((E3 r c ([]++l)).2.2.1))) (Ap (Tr (D8 p2)) (Ap (Aee (D8 p2)) (Cy (Am9 (D8 p2) (D8 ((E3 r c ([]++l)).2.2.1))) rfl rfl))) rfl))) rfl) (Cy (Ll (decide (0≤p6)) (decide (p6<(List.length (Iq r c ([]++l)):Int)))) (Cy (Cz (isC (.s .u64) (List.getD (List.getD (Iq r c ([]++l)) (Int.toNat p6) []) 0 .undef))) (Cy (Ll (decide (0≤p6)) (decide (p6<(List.length (Iq r c ([]++l)):Int)))) (Cy (Cz (isC (.i .u64) (List.getD (List.getD (Iq r c ([]++l)) (Int.toNat p6) []) 1 .undef))) (Cy (Cz (((Bf ((Kj r).1) ((Kj r).2.1) p2&&Li ((Kj r).1) ((Kj r).2.1) p6 0 (Ps (List.getD (List.getD (Iq r c ([]++l)) (Int.toNat p6) []) 0 .undef)))&&(Ah p2&&Ah (Ps (List.getD (List.getD (Iq r c ([]++l)) (Int.toNat p6) []) 0 .undef))))&&Ai (Adx (List.getD (List.getD (Iq r c ([]++l)) (Int.toNat p6) []) 1 .undef)))) rfl rfl) rfl) rfl) rfl) rfl))
theorem qr.Cx.ev (N:Nat) (r c:Int) (l:List Int):Bv qr.Cx.E N Tryz.f166 (Am Tryz.f166) [.agg [.int .i64 r,.int .i64 c,.ints .arg .u64 l]]=bif (Ah l) then bif ((Bx r c l) !=(0:Int)) then some (.tup [.agg [.int .i64 0,.int .i64 0,.nil],.agg [.int .i64 0,.int .i64 0,.nil],.int .i64 (Bx r c l)]) else bif (decide (0+(List.length l)≤Gv)) then bif ((Bf r c ([]++l)&&D8 ([]++l))&&Ah ([]++l)) then bif (((E3 r c ([]++l)).2.2.2) !=(0:Int)) then some (.tup [.agg [.int .i64 0,.int .i64 0,.nil],.agg [.int .i64 0,.int .i64 0,.nil],.int .i64 ((E3 r c ([]++l)).2.2.2)]) else qr.Cx.L0 N N r c l (Ab ((List.length (Iq r c ([]++l)):Int)-1)) ((Kj r).2.2.1) else none else none else none :=
  Eq.trans (by kernel_rfl)
  (E2 (E2 rfl (Cy (Cz (decide (0+(List.length l)≤Gv))) (Cy (Cz ((Bf r c ([]++l)&&D8 ([]++l))&&Ah ([]++l))) rfl rfl) rfl)) rfl)
abbrev _root_.Go.Proofs.S1.qr.Cx.Kn:=A4 Tryz.prog 166 qr.Cx.spec
theorem qr.Cx.Ad (hk:Ax Tryz.prog qr.Cx.Ba) (h:∀ (r c:Int) (l:List Int),qr.Cx.pre [.i r,.i c,.l l]=true→Bc qr.Cx.E Tryz.f166 [.agg [.int .i64 r,.int .i64 c,.ints .arg .u64 l]] (qr.Cx.out [.i r,.i c,.l l])):qr.Cx.Kn :=
  Al (Aln hk _ _ _ _) Tryz.func166 (by kernel_rfl) (by kernel_rfl) h
end EqQr
open EqQr
def clS (R C:Nat) (l:List Int) (j:Nat) (x:Int) (i:Nat):List Int:=Cq R C fun a b=>if b=j∧j≤a∧a<i then (if a=j then x else 0) else Eh (C:Int) l (a:Int) (b:Int)
section
variable {R C j:Nat} {l:List Int} {x:Int}
theorem Alv (i:Nat):(clS R C l j x i).length=R*C:=Bz _ _ _
theorem Wu (hl:l.length=R*C) (hj:j<C):List.set l (j*C+j) x=clS R C l j x (j+1):=by
  unfold clS
  conv=>lhs; rw [← Wn hl]
  rw [Q0 hj]
  refine Dn fun a b ha hb=>?_
  by_cases h:a=j∧b=j
  · rw [if_pos h,if_pos (by omega),if_pos h.1]
  · rw [if_neg h,if_neg (by omega)]
theorem Alu {i:Nat} (hj:j<C) (hi:j<i):List.set (clS R C l j x i) (i*C+j) 0=clS R C l j x (i+1):=by
  unfold clS
  rw [Q0 hj]
  refine Dn fun a b ha hb=>?_
  by_cases h:a=i∧b=j
  · rw [if_pos h,if_pos (by omega),if_neg (by omega)]
  · rw [if_neg h]
    by_cases h2:b=j∧j≤a∧a<i
    · rw [if_pos h2,if_pos (show b=j∧j≤a∧a<i+1 by omega)]
    · rw [if_neg h2,if_neg (by omega)]
theorem Alw:clS R C l j x R=R5 R C l j x:=by
  unfold clS R5
  refine Dn fun a b ha hb=>?_
  by_cases h:b=j∧j≤a
  · rw [if_pos h,if_pos (by omega)]
  · rw [if_neg h,if_neg (by omega)]
end
theorem Uc {C i j:Nat} (hi:i≤6) (hC:C≤6) (hj:j≤6):Ab (Ab ((i:Int)*(C:Int))+(j:Int))=((i*C+j:Nat):Int):=by
  have h36:=Nat.mul_le_mul hi hC
  rw [An (x:=(i:Int)*(C:Int)) (by rw [← Ark]; omega) (by rw [← Ark]; omega),← Ark,An (by omega) (by omega)]
  omega
section
variable {R C:Nat}
theorem U4 (N M0:Nat) (l0:List Int) (r6:R≤6) (c6:C≤6) {j:Nat} (hj:j<C) (l:List Int) (x:Int) (v:List Int) (t:Int) (ms:List (List DV)) (hms:ms.length≤100):∀ (cnt i F:Nat),i+cnt=R→j<i→cnt<F →
    qr.down.L0 N M0 F (R:Int) (C:Int) l0 (i:Int) (clS R C l j x i) (j:Int) v t ms=qr.down.L1 N M0 (R:Int) (C:Int) l0 ((j+1:Nat):Int) (ms++[[.ints .arg .u64 v,.int .u64 t]]) (R5 R C l j x):=by
  intro cnt
  induction cnt with
  | zero =>
    intro i F hi hji hF
    obtain ⟨F,rfl⟩:∃ G,F=G+1:=⟨F-1,by omega⟩
    obtain rfl:i=R:=by omega
    rw [qr.down.At,Ar,Aq3 (by omega),Aq2,Aqz (by unfold Ah5; omega),Aqy,An (by omega) (by omega),Alw]
    rfl
  | succ cnt ih =>
    intro i F hi hji hF
    obtain ⟨F,rfl⟩:∃ G,F=G+1:=⟨F-1,by omega⟩
    have hlen:=Alv (R:=R) (C:=C) (l:=l) (j:=j) (x:=x) i
    have hp:=J6 (show i<R by omega) hj
    rw [qr.down.At,Ar,Aqz (by omega),Aqy,Uc (by omega) c6 (by omega),Aqz (by omega),Aqz (by omega),Aq4,Aqy,Aq0,Aqz (by omega),Aqy,Alu hj hji,An (by omega) (by omega)]
    exact ih (i+1) F (by omega) (by omega) (by omega)
def Pb (r c:Nat) (ms:List (List DV)):Option (List Int × List (List Int × Int))→DV
  | none=>.tup [.agg [.int .i64 0,.int .i64 0,.nil],.nil,.int .i64 2]
  | some x=>.tup [.agg [.int .i64 (r:Int),.int .i64 (c:Int),.ints (.own 106002 tB) .u64 x.1],.recs (.own 100006 tMR) 2 (ms++Ud x.2),.int .i64 0]
theorem Afs (N:Nat) (hN:7<N) (l0:List Int) (r6:R≤6) (c6:C≤6):∀ (cnt j F:Nat) (l:List Int) (ms:List (List DV)),j+cnt=Ij R C→cnt<F→l.length=R*C→Ah l=true→ms.length=j →
    qr.down.L1 N F (R:Int) (C:Int) l0 (j:Int) ms l=some (Pb R C ms (M3 R C cnt j l)):=by
  intro cnt
  induction cnt with
  | zero =>
    intro j F l ms hj hF hl al hms
    obtain ⟨F,rfl⟩:∃ G,F=G+1:=⟨F-1,by omega⟩
    unfold Ij at hj
    have hlt:(A1 (j:Int) (C:Int)&&A1 (j:Int) (Ab ((R:Int)-1)))=false:=by
      rw [Ar,Ar,An (by omega) (by omega),Bool.and_eq_false_iff,Ari,Ari]; omega
    rw [qr.down.Cb,hlt,Aq2]
    simp [M3,Pb,Ud]
  | succ cnt ih =>
    intro j F l ms hj hF hl al hms
    obtain ⟨F,rfl⟩:∃ G,F=G+1:=⟨F-1,by omega⟩
    have hj0:=hj
    unfold Ij at hj
    have hr:=Qh r6 c6 hl
    have hlt:(A1 (j:Int) (C:Int)&&A1 (j:Int) (Ab ((R:Int)-1)))=true:=by
      rw [Ar,Ar,An (by omega) (by omega),Aqz (by omega),Aqz (by omega)]; rfl
    have cp:Kl (R:Int) (C:Int) l (j:Int)=true:=Af.2 ⟨hr,Ao.2 (by omega)⟩
    have ec:Dh (C:Int) l (j:Int) (j:Int) (Int.toNat ((R:Int)-(j:Int)))=Fx R C l j:=by unfold Fx; rw [show Int.toNat ((R:Int)-(j:Int))=R-j by omega]
    have ca:Ah (Fx R C l j)=true:=Rk al
    have cl:(Fx R C l j).length=R-j:=Ik _ _ _ _ _
    rw [qr.down.Cb,hlt,Aqy,cp,Ao.2 (show 0≤(j:Int)∧(j:Int)≤(R:Int) by omega),Aq4,Aqy,ec,Kf ca (by omega),Aqy]
    unfold M3
    by_cases he:(B7 (Fx R C l j)).2.2.2=0
    · have hml:=Uf he
      have hma:=Td ca
      have hap:Li (R:Int) (C:Int) (j:Int) (j:Int) (B7 (Fx R C l j)).1=true:=Aqz (by omega)
      have hp:=J6 (show j<R by omega) (show j<C by omega)
      have hlen:=Lh R C l (j:Int) (j:Int) (B7 (Fx R C l j)).1 (B7 (Fx R C l j)).2.1
      have hg:=U4 N F l0 r6 c6 (show j<C by omega) (Fu R C l (j:Int) (j:Int) (B7 (Fx R C l j)).1 (B7 (Fx R C l j)).2.1) (B7 (Fx R C l j)).2.2.1 (B7 (Fx R C l j)).1 (B7 (Fx R C l j)).2.1 ms (by omega) (R-(j+1)) (j+1) N (by omega) (by omega) (by omega)
      have hn:=ih (j+1) F (Vn R C l j) (ms++[[.ints .arg .u64 (B7 (Fx R C l j)).1,.int .u64 (B7 (Fx R C l j)).2.1]]) (by omega) (by omega) (Nk _ _ _ _) (X1 al j) (by rw [List.length_append,hms]; rfl)
      rw [Ff he,Aq2,hr,hap,al,hma.1,hma.2.1,Aq4,Aq4,Aq4,Aqy,Uc (by omega) c6 (by omega),Aq0,Aq0,Aq0,Aqz (by omega),Aqz (by omega),Aq4,Aqy,Aqz (by omega),Aqy,
        Wu hlen (by omega),An (by omega) (by omega),if_pos he]
      refine (hg.trans hn).trans ?_
      show some (Pb R C _ (M3 R C cnt (j+1) (Vn R C l j)))=some (Pb R C ms _)
      cases M3 R C cnt (j+1) (Vn R C l j) with
      | none=>rfl
      | some x=>simp [Pb,Ud]
    · rw [Qt he,Aqy,if_neg he]; rfl
theorem Acr (N:Nat) (hN:7<N) {l:List Int} (r6:R≤6) (c6:C≤6) (hl:l.length=R*C) (al:Ah l=true) (h0:Ij R C≠0) :
    qr.down.L2 N N (R:Int) (C:Int) l=some (Pb R C [] (Ii R C l)):=by
  obtain ⟨cnt,hc⟩:∃ cnt,Ij R C=cnt+1:=⟨Ij R C-1,by omega⟩
  obtain ⟨F,rfl⟩:∃ G,N=G+1:=⟨N-1,by omega⟩
  have hj:=hc
  unfold Ij at hj
  have hr:=Qh r6 c6 hl
  have hlt:(A1 (0:Int) (C:Int)&&A1 (0:Int) (Ab ((R:Int)-1)))=true:=by
    rw [Ar,Ar,An (by omega) (by omega),Aqz (by omega),Aqz (by omega)]; rfl
  have cp:Kl (R:Int) (C:Int) l (0:Int)=true:=Af.2 ⟨hr,Ao.2 (by omega)⟩
  have ec:Dh (C:Int) l (0:Int) (0:Int) (Int.toNat ((R:Int)-(0:Int)))=Fx R C l 0:=by unfold Fx; rw [show Int.toNat ((R:Int)-(0:Int))=R-0 by omega]; rfl
  have ca:Ah (Fx R C l 0)=true:=Rk al
  have cl:(Fx R C l 0).length=R-0:=Ik _ _ _ _ _
  unfold Ii
  rw [hc,qr.down.G2,hlt,Aqy,cp,Ao.2 (show 0≤(0:Int)∧(0:Int)≤(R:Int) by omega),Aq4,Aqy,ec,Kf ca (by omega),Aqy]
  unfold M3
  by_cases he:(B7 (Fx R C l 0)).2.2.2=0
  · have hml:=Uf he
    have hma:=Td ca
    have hap:Li (R:Int) (C:Int) (0:Int) (0:Int) (B7 (Fx R C l 0)).1=true:=Aqz (by omega)
    have hp:=J6 (show 0<R by omega) (show 0<C by omega)
    have hlen:=Lh R C l (0:Int) (0:Int) (B7 (Fx R C l 0)).1 (B7 (Fx R C l 0)).2.1
    have hg:=U4 (F+1) F l r6 c6 (show 0<C by omega) (Fu R C l (0:Int) (0:Int) (B7 (Fx R C l 0)).1 (B7 (Fx R C l 0)).2.1) (B7 (Fx R C l 0)).2.2.1 (B7 (Fx R C l 0)).1 (B7 (Fx R C l 0)).2.1 [] (Nat.zero_le _) (R-1) 1 (F+1) (by omega) (by omega) (by omega)
    have hn:=Afs (R:=R) (C:=C) (F+1) hN l r6 c6 cnt 1 F (Vn R C l 0) [[.ints .arg .u64 (B7 (Fx R C l 0)).1,.int .u64 (B7 (Fx R C l 0)).2.1]] (by omega) (by unfold Ij at hc; omega) (Nk _ _ _ _) (X1 al 0) rfl
    have mc:=Uc (i:=0) (C:=C) (j:=0) (by omega) c6 (by omega)
    have mc:Ab (Ab ((0:Int)*(C:Int))+(0:Int))=((0*C+0:Nat):Int):=mc
    rw [Ff he,Aq2,hr,hap,al,hma.1,hma.2.1,Aq4,Aq4,Aq4,Aqy,mc,Aq0,Aq0,Aq0,Aqz (by omega),Aqz (by omega),Aq4,Aqy,Aqz (by omega),Aqy,
      Wu hlen (by omega),if_pos he]
    refine (hg.trans hn).trans ?_
    show some (Pb R C _ (M3 R C cnt 1 (Vn R C l 0)))=some (Pb R C [] _)
    cases M3 R C cnt (0+1) (Vn R C l 0) with
    | none=>rfl
    | some x=>simp [Pb,Ud]
  · rw [Qt he,Aqy,if_neg he]; rfl
end
theorem qr.down.known:qr.down.Kn:=qr.down.Ad (.cons Ak.Apply.known (.cons Ak.Iu.known (.cons Aa.C4.known .nil))) fun r c l hp=>by
  obtain ⟨h1,al⟩:=Af.1 (show ((Bf r c l&&D8 l)&&Ah l)=true from hp)
  obtain ⟨hr,hf⟩:=Af.1 h1
  obtain ⟨R,C,rfl,rfl,r6,c6,hl⟩:=Db hr
  by_cases h0:Ij R C=0
  · have hx:Ii R C l=some (l,[]):=by unfold Ii; rw [h0]; rfl
    refine ⟨8,.tup [.agg [.int .i64 (R:Int),.int .i64 (C:Int),.ints .arg .u64 l],.recs (.own 100006 tMR) 2 [],.int .i64 0],[100006],?_,?_⟩
    · unfold Ij at h0
      have hlt:(A1 (0:Int) (C:Int)&&A1 (0:Int) (Ab ((R:Int)-1)))=false:=by
        rw [Ar,Ar,An (by omega) (by omega),Bool.and_eq_false_iff,Ari,Ari]; omega
      rw [qr.down.ev,show (8:Nat)=7+1 from rfl,qr.down.G2,hlt,Aq2]
    · show Wk _ _ (DV.tup [.agg [.int .i64 (E3 (R:Int) (C:Int) l).1,.int .i64 (E3 (R:Int) (C:Int) l).2.1,.ints .arg .u64 (E3 (R:Int) (C:Int) l).2.2.1],.recs .fresh 2 (Iq (R:Int) (C:Int) l),.int .i64 (E3 (R:Int) (C:Int) l).2.2.2])
      unfold E3 Iq Nu
      rw [Aq0,Aq0,hx]
      exact Wk.Gd (.cons (Wk.Ig (.cons .int (.cons .int (.cons .Aa3 .nil)))) (.cons (.dropR _ _ _ _ (List.mem_singleton.2 rfl)) (.cons .int .nil)))
  · refine ⟨8,Pb R C [] (Ii R C l),[106002,100006],?_,?_⟩
    · rw [qr.down.ev]
      exact Acr 8 (by omega) r6 c6 hl al h0
    · show Wk _ _ (DV.tup [.agg [.int .i64 (E3 (R:Int) (C:Int) l).1,.int .i64 (E3 (R:Int) (C:Int) l).2.1,.ints .arg .u64 (E3 (R:Int) (C:Int) l).2.2.1],.recs .fresh 2 (Iq (R:Int) (C:Int) l),.int .i64 (E3 (R:Int) (C:Int) l).2.2.2])
      unfold E3 Iq Nu
      rw [Aq0,Aq0]
      cases Ii R C l with
      | none=>exact Wk.Gd (.cons (Wk.Ig (.cons .int (.cons .int (.cons Hy .nil)))) (.cons (.nilR _ _) (.cons .int .nil)))
      | some x=>exact Wk.Gd (.cons (Wk.Ig (.cons .int (.cons .int (.cons (.dropA _ _ _ _ List.mem_cons_self) .nil)))) (.cons (.dropR _ _ _ _ (List.mem_cons_of_mem _ List.mem_cons_self)) (.cons .int .nil)))
open EqQr
def We (e:Int):DV:=.tup [.agg [.int .i64 0,.int .i64 0,.nil],.agg [.int .i64 0,.int .i64 0,.nil],.int .i64 e]
theorem Wf {r:Nat}:∀ {j:Nat} {ms:List (List Int × Int)},Z4 r j ms→∀ i:Nat,i<ms.length→Ah (ms.getD i ([],0)).1=true∧Ai (ms.getD i ([],0)).2=true∧(ms.getD i ([],0)).1.length+(j+i)=r
  | _,[],_,i,h=>absurd h (Nat.not_lt_zero _)
  | j,m::ms,hm,0,_=>hm.1
  | j,m::ms,hm,i+1,h=>by
    have:=Wf hm.2 i (by simpa using h)
    rw [show j+(i+1)=j+1+i by omega]
    exact this
theorem Ahs {ms:List (List Int × Int)} {i:Nat} (h:i<ms.length):List.getD (Ud ms) i []=[.ints .arg .u64 (ms.getD i ([],0)).1,.int .u64 (ms.getD i ([],0)).2]:=by
  unfold Ud
  rw [Aq8,List.getElem?_map,Arf h,Aq8,Arf h]; rfl
theorem Z3 (ms:List (List Int × Int)):(Ud ms).length=ms.length:=by unfold Ud; rw [List.length_map]
theorem Afy {n i:Nat} {ms:List (List Int × Int)} (h:i<ms.length) (q:List Int):Jm n i (ms.drop i) q=Fu n n (Jm n (i+1) (ms.drop (i+1)) q) (i:Int) 0 (ms.getD i ([],0)).1 (ms.getD i ([],0)).2:=by
  rw [List.drop_eq_getElem_cons h,Jm,Aq8,Arf h]; rfl
theorem Aco {R:Nat} (h:R≤6):Kj (R:Int)=((R:Int),(R:Int),Nv R,0):=by
  unfold Kj Nv
  rw [if_pos (Akd h),Aq0]
theorem Anc {n:Nat} (h:n≤6):n*n≤36:=Nat.mul_le_mul h h
theorem Aat (N:Nat) {R C:Nat} {l:List Int} (r6:R≤6) {x:List Int × List (List Int × Int)} (hx:Ii R C l=some x) (hm:Z4 R 0 x.2) (hxr:Ah x.1=true) (hxl:x.1.length≤36):∀ (j F:Nat),j≤x.2.length→j<F →
    qr.Cx.L0 N F (R:Int) (C:Int) l ((j:Int)-1) (Jm R j (x.2.drop j) (Nv R)) =
    bif Pa R C l then some (.tup [.agg [.int .i64 (R:Int),.int .i64 (R:Int),.ints .fresh .u64 (Rz R C l)],.agg [.int .i64 (R:Int),.int .i64 (C:Int),.ints .arg .u64 (Nu R C l)],.int .i64 0])
    else some (We 2):=by
  have hq:Rz R C l=Jm R 0 x.2 (Nv R):=by unfold Rz; rw [hx]
  have hr:Nu R C l=x.1:=by unfold Nu; rw [hx]
  have hd:E3 (R:Int) (C:Int) ([]++l)=((R:Int),(C:Int),x.1,0):=by
    unfold E3
    rw [List.nil_append,Aq0,Aq0,hx,hr]; rfl
  have hmd:Iq (R:Int) (C:Int) ([]++l)=Ud x.2:=by
    unfold Iq
    rw [List.nil_append,Aq0,Aq0,hx]
  have h36:=Anc r6
  intro j
  induction j with
  | zero =>
    intro F _ hF
    obtain ⟨F,rfl⟩:∃ G,F=G+1:=⟨F-1,by omega⟩
    have hb:=Tj R x.2 0 (Nv R) (Yf R) (by unfold Nv; exact Bz _ _ _)
    have ok1:Cu (Jm R 0 x.2 (Nv R))=true:=Kf hb.1 (by omega)
    have ok2:Cu x.1=true:=Kf hxr (by omega)
    have hfo:Pa R C l=(D8 (Jm R 0 x.2 (Nv R))&&D8 x.1):=by unfold Pa; rw [hx,hq,hr]; rfl
    rw [qr.Cx.At,Ar,Aqz (by omega),Aqy,List.drop_zero,ok1,Aqy,hd,Aco r6,ok2,Bool.or_true,Aqy,hfo,hq,hr]
    cases D8 (Jm R 0 x.2 (Nv R)) with
    | false=>rfl
    | true=>cases D8 x.1<;>rfl
  | succ j ih =>
    intro F hj hF
    obtain ⟨F,rfl⟩:∃ G,F=G+1:=⟨F-1,by omega⟩
    have ej:(((j+1:Nat):Int))-1=(j:Int):=by omega
    have hg:=Wf hm j (by omega)
    have hb:=Tj R (x.2.drop (j+1)) (j+1) (Nv R) (Yf R) (by unfold Nv; exact Bz _ _ _)
    have hr1:=Qh r6 r6 hb.2
    have hap:Li (R:Int) (R:Int) (j:Int) 0 (x.2.getD j ([],0)).1=true:=Aqz (by omega)
    have hmg:=Ahs (ms:=x.2) (i:=j) (by omega)
    rw [qr.Cx.At,ej,Ar,Aq3 (show ¬ (j:Int)<0 by omega),Aq2,hmd,Z3,Aqz (show (0:Int)≤(j:Int) by omega),Aqz (show (j:Int)<(x.2.length:Int) by omega),Aq4,Aqy,Aq0,hmg,Aco r6]
    show (bif true then bif true then bif true then (bif (((Bf (R:Int) (R:Int) (Jm R (j+1) (x.2.drop (j+1)) (Nv R))&&Li (R:Int) (R:Int) (j:Int) (0:Int) (x.2.getD j ([],0)).1)&&(Ah (Jm R (j+1) (x.2.drop (j+1)) (Nv R))&&Ah (x.2.getD j ([],0)).1))&&Ai (x.2.getD j ([],0)).2) then
      qr.Cx.L0 N F (R:Int) (C:Int) l (Ab ((j:Int)-(1:Int))) (Fu (Int.toNat (R:Int)) (Int.toNat (R:Int)) (Jm R (j+1) (x.2.drop (j+1)) (Nv R)) (j:Int) (0:Int) (x.2.getD j ([],0)).1 (x.2.getD j ([],0)).2) else none) else none else none else none)=_
    rw [Aqy,Aqy,Aqy,hr1,hap,hb.1,hg.1,hg.2.1,Aq4,Aq4,Aq4,Aqy,Aq0,An (by omega) (by omega),← Afy (by omega)]
    exact ih F (by omega) (by omega)
theorem Ai3 {R C:Nat} {l:List Int} (hl:l.length=R*C) (al:Ah l=true) {x:List Int × List (List Int × Int)} (hx:Ii R C l=some x):Ah x.1=true∧x.1.length=R*C∧x.2.length=Ij R C∧Z4 R 0 x.2 :=
  U5 R C (Ij R C) 0 l x al hl (by unfold Ij; omega) hx
theorem Tg {r c:Int} {l:List Int} (h:Bx r c l=0):Hd r c l=if Pa r.toNat c.toNat l=true then 0 else 2:=by
  unfold Hd; rw [if_neg (by rw [h]; decide)]
theorem Aau {r c:Int} {l:List Int} (h:Bx r c l≠0):Hd r c l=Bx r c l:=by unfold Hd; rw [if_pos h]
theorem T4 {r c:Int} {l:List Int} {e:Int} (h:Hd r c l=e) (he:e≠0):qX r c l=Gh e∧rX r c l=Gh e:=by unfold qX rX; rw [h,if_pos he,if_pos he]; exact ⟨rfl,rfl⟩
theorem Xm {r c:Int} {l:List Int} (h:Hd r c l=0):qX r c l=(r,r,Rz r.toNat c.toNat l,0)∧rX r c l=(r,c,Nu r.toNat c.toNat l,0):=by unfold qX rX; rw [h]; exact ⟨rfl,rfl⟩
theorem W5 {drops:List Nat} {e:Int} {g h:Abb}:Wk drops (We e) (DV.tup [.agg [.int .i64 (Gh e).1,.int .i64 (Gh e).2.1,.ints g .u64 (Gh e).2.2.1],.agg [.int .i64 (Gh e).1,.int .i64 (Gh e).2.1,.ints h .u64 (Gh e).2.2.1],.int .i64 e]) :=
  Wk.Gd (.cons (Wk.Ig (.cons .int (.cons .int (.cons Hy .nil)))) (.cons (Wk.Ig (.cons .int (.cons .int (.cons Hy .nil)))) (.cons .int .nil)))
theorem qr.Cx.known:qr.Cx.Kn:=qr.Cx.Ad (.cons B4.Check.known (.cons Ak.Apply.known (.cons Aa.Gs.known (.cons qr.down.known (.cons Ae.Finite.known .nil))))) fun r c l hp=>by
  have al:Ah l=true:=hp
  show ∃ N dv drops,_=some dv∧Wk drops dv (DV.tup [.agg [.int .i64 (qX r c l).1,.int .i64 (qX r c l).2.1,.ints .arg .u64 (qX r c l).2.2.1],.agg [.int .i64 (rX r c l).1,.int .i64 (rX r c l).2.1,.ints .arg .u64 (rX r c l).2.2.1],.int .i64 (Hd r c l)])
  by_cases h1:Bx r c l=0
  · obtain ⟨hr,hf⟩:=Gx h1
    have h36:=Oc hr
    obtain ⟨R,C,rfl,rfl,r6,c6,hl⟩:=Db hr
    have d0:decide (0+l.length≤Gv)=true:=Aqz (by unfold Gv; omega)
    cases hx:Ii R C l with
    | none =>
      have hfo:Pa R C l=false:=by unfold Pa; rw [hx]; rfl
      have he:Hd (R:Int) (C:Int) l=2:=by rw [Tg h1,Aq0,Aq0,hfo]; rfl
      obtain ⟨e1,e2⟩:=T4 he (by decide)
      have hd:E3 (R:Int) (C:Int) ([]++l)=Gh 2:=by
        unfold E3
        rw [List.nil_append,Aq0,Aq0,hx]; rfl
      rw [e1,e2,he]
      exact ⟨0,We 2,[],by rw [qr.Cx.ev,al,Aqy,Ff h1,Aq2,d0,Aqy,hd,List.nil_append,hr,hf,al,Aq4,Aq4,Aqy,show ((Gh 2).2.2.2 !=(0:Int))=true from rfl,Aqy]; rfl,W5⟩
    | some x =>
      obtain ⟨x1,x2,x3,x4⟩:=Ai3 hl al hx
      have hd:E3 (R:Int) (C:Int) ([]++l)=((R:Int),(C:Int),x.1,0):=by
        unfold E3 Nu
        rw [List.nil_append,Aq0,Aq0,hx]; rfl
      have hmd:Iq (R:Int) (C:Int) ([]++l)=Ud x.2:=by
        unfold Iq
        rw [List.nil_append,Aq0,Aq0,hx]
      have hn:x.2.length≤6:=by rw [x3]; unfold Ij; omega
      have hloop:=Aat 8 r6 hx x4 x1 (by rw [x2]; exact Nat.mul_le_mul r6 c6) x.2.length 8 (Nat.le_refl _) (by omega)
      rw [Arc (Nat.le_refl _)] at hloop
      have hrun:=qr.Cx.ev 8 (R:Int) (C:Int) l
      rw [al,Aqy,Ff h1,Aq2,d0,Aqy,hd,hmd,Z3,List.nil_append,hr,hf,al,Aq4,Aq4,Aqy,show (((R:Int),(C:Int),x.1,(0:Int)).2.2.2 !=(0:Int))=false from rfl,Aq2,Aco r6,An (by omega) (by omega)] at hrun
      have hrun:=hrun.trans hloop
      cases hfo:Pa R C l with
      | false =>
        have he:Hd (R:Int) (C:Int) l=2:=by rw [Tg h1,Aq0,Aq0,hfo]; rfl
        obtain ⟨e1,e2⟩:=T4 he (by decide)
        rw [hfo,Aq2] at hrun
        rw [e1,e2,he]
        exact ⟨8,We 2,[],hrun,W5⟩
      | true =>
        have he:Hd (R:Int) (C:Int) l=0:=by rw [Tg h1,Aq0,Aq0,hfo]; rfl
        obtain ⟨e1,e2⟩:=Xm he
        rw [hfo,Aqy] at hrun
        rw [e1,e2,he,Aq0,Aq0]
        exact ⟨8,_,[],hrun,Wk.Gd (.cons (Wk.Ig (.cons .int (.cons .int (.cons (.fresh _ _) .nil)))) (.cons (Wk.Ig (.cons .int (.cons .int (.cons .Aa3 .nil)))) (.cons .int .nil)))⟩
  · have he:=Aau h1
    obtain ⟨e1,e2⟩:=T4 he h1
    rw [e1,e2,he]
    exact ⟨0,We (Bx r c l),[],by rw [qr.Cx.ev,al,Aqy,Qt h1,Aqy]; rfl,W5⟩
theorem Acx {r c:Int} {l:List Int} (h:Hd r c l=0):Bx r c l=0:=by
  by_cases h1:Bx r c l=0
  · exact h1
  · rw [Aau h1] at h; exact absurd h h1
theorem Ais {r c:Int} {l:List Int} (al:Ah l=true) (h:Hd r c l=0):∃ R C:Nat,r=R∧c=C∧R≤6∧C≤6∧l.length=R*C∧Ah (Rz R C l)=true∧(Rz R C l).length=R*R∧Ah (Nu R C l)=true∧(Nu R C l).length=R*C∧D8 (Rz R C l)=true∧D8 (Nu R C l)=true:=by
  have h1:=Acx h
  rw [Tg h1] at h
  obtain ⟨R,C,rfl,rfl,r6,c6,hl⟩:=Db (Gx h1).1
  rw [Aq0,Aq0] at h
  by_cases ho:Pa R C l=true
  · unfold Pa at ho
    obtain ⟨o1,o2⟩:=Af.1 ho
    obtain ⟨o3,o4⟩:=Af.1 o2
    obtain ⟨q1,q2⟩:=Alj o1
    obtain ⟨g1,g2⟩:=Ali al hl o1
    exact ⟨R,C,rfl,rfl,r6,c6,hl,q1,q2,g1,g2,o3,o4⟩
  · rw [if_neg ho] at h; exact absurd h (by decide)
theorem An7 {r c:Int} {l:List Int} (al:Ah l=true) (h:Hd r c l=0):Ah (Rz r.toNat c.toNat l)=true∧Ah (Nu r.toNat c.toNat l)=true:=by
  obtain ⟨R,C,rfl,rfl,_,_,_,q1,_,g1,_,_,_⟩:=Ais al h
  rw [Aq0,Aq0]
  exact ⟨q1,g1⟩
namespace EqRef17
def B5.Finite.hint:Nat→Option A5
  | 0=>some { keep:=[0,3],objs:=[],boxes:=[] }
  | _=>none
def B5.Finite.Ba:List (Nat × Entry):=[(131,Bd.Finite.spec)]
def B5.Finite.E:Env:=Bb (A9 B5.Finite.Ba) (fun _=>false) B5.Finite.hint (fun _=>none)
def B5.Finite.L0 (N M:Nat) (x:List Int) (p3:Int):Option DV:=B2 B5.Finite.E N Tryz.f92 (Am Tryz.f92) [1,0,1,0] [] M ⟨Fw 16 [(0,.ints .arg .u64 x),(3,.int .i64 p3)],[]⟩
theorem B5.Finite.At (N M:Nat) (x:List Int) (p3:Int):B5.Finite.L0 N (M+1) x p3=bif (A1 p3 (List.length x:Int)) then bif ((decide (0≤p3))&&(decide (p3<(List.length x:Int)))) then bif (Ai (List.getD x (Int.toNat p3) 0)) then bif (!(C9 (List.getD x (Int.toNat p3) 0))) then some (.bool false) else B5.Finite.L0 N M x (Ab (p3+1)) else none else none else some (.bool true):=by kernel_rfl
theorem B5.Finite.ev (N:Nat) (x:List Int):Bv B5.Finite.E N Tryz.f92 (Am Tryz.f92) [.ints .arg .u64 x] =
  B5.Finite.L0 N N x 0:=by kernel_rfl
abbrev _root_.Go.Proofs.S1.B5.Finite.Kn:=A4 Tryz.prog 92 B5.Finite.spec
theorem B5.Finite.Ad (hk:Ax Tryz.prog B5.Finite.Ba) (h:∀ (x:List Int),B5.Finite.pre [.l x]=true→Bc B5.Finite.E Tryz.f92 [.ints .arg .u64 x] (B5.Finite.out [.l x])):B5.Finite.Kn :=
  Al (Ay hk _ _ _) Tryz.func92 (by kernel_rfl) (by kernel_rfl) h
def Gf.Check.Ba:List (Nat × Entry):=[(92,B5.Finite.spec),(91,Gg.Gm.spec)]
def Gf.Check.E:Env:=Bb (A9 Gf.Check.Ba) (fun _=>false) (fun _=>none) (fun _=>none)
theorem Gf.Check.ev (N:Nat) (r c:Int) (l:List Int):Bv Gf.Check.E N Tryz.f25 (Am Tryz.f25) [.agg [.int .i64 r,.int .i64 c,.ints .arg .u64 l]]=bif (!(Bf r c l)) then some (.int .i64 1) else bif (Cu l) then bif (!(D8 l)) then some (.int .i64 4) else some (.int .i64 0) else none:=by kernel_rfl
abbrev _root_.Go.Proofs.S1.Gf.Check.Kn:=A4 Tryz.prog 25 Gf.Check.spec
theorem Gf.Check.Ad (hk:Ax Tryz.prog Gf.Check.Ba) (h:∀ (r c:Int) (l:List Int),Gf.Check.pre [.i r,.i c,.l l]=true→Bc Gf.Check.E Tryz.f25 [.agg [.int .i64 r,.int .i64 c,.ints .arg .u64 l]] (Gf.Check.out [.i r,.i c,.l l])):Gf.Check.Kn :=
  Al (Ay hk _ _ _) Tryz.func25 (by kernel_rfl) (by kernel_rfl) h
end EqRef17
open EqRef17
theorem Sz (N:Nat) {x:List Int} (hx:Cu x=true):∀ (k i F:Nat),i+k=x.length→k<F→B5.Finite.L0 N F x (i:Int)=some (.bool ((x.drop i).all C9)):=by
  obtain ⟨hl,hu⟩:=Ju hx
  intro k
  induction k with
  | zero =>
    intro i F hi hF
    obtain ⟨F,rfl⟩:∃ G,F=G+1:=⟨F-1,by omega⟩
    rw [B5.Finite.At,Ar,Aq3 (by omega),Aq2,Arc (by omega)]; rfl
  | succ k ih =>
    intro i F hi hF
    obtain ⟨F,rfl⟩:∃ G,F=G+1:=⟨F-1,by omega⟩
    rw [B5.Finite.At,Ar,Aqz (show (i:Int)<(x.length:Int) by omega),Aqy,Aqz (show (0:Int)≤(i:Int) by omega),Aq4,Aqy,Aq0,hu i (by omega),Aqy,Hu (by omega),List.all_cons]
    cases C9 (x.getD i 0) with
    | false=>rfl
    | true =>
      rw [Bool.not_true,Aq2,An (by omega) (by omega),Bool.true_and]
      exact ih (i+1) F (by omega) (by omega)
theorem B5.Finite.known:B5.Finite.Kn:=B5.Finite.Ad (.cons Bd.Finite.known .nil) fun x hp=>by
  have hp:Cu x=true:=hp
  refine ⟨x.length+1,B5.Finite.out [.l x],[],?_,.bool⟩
  show _=some (DV.bool (x.all C9))
  rw [B5.Finite.ev]
  exact Sz _ hp x.length 0 (x.length+1) (by omega) (by omega)
theorem Gf.Check.known:Gf.Check.Kn:=Gf.Check.Ad (.cons B5.Finite.known (.cons Gg.Gm.known .nil)) fun r c l hp=>by
  have hp:Ah l=true:=hp
  refine ⟨0,Gf.Check.out [.i r,.i c,.l l],[],?_,.int⟩
  show _=some (DV.int .i64 (Bx r c l))
  rw [Gf.Check.ev]
  unfold Bx
  by_cases h:Bf r c l=true
  · have:=Oc h
    rw [h,Bool.not_true,Aq2,Kf hp (by omega),Aqy,if_pos rfl]
    cases D8 l<;>rfl
  · have h':Bf r c l=false:=by simpa using h
    rw [h']; rfl
section
variable {n Q:Nat} {l m:List Int}
end
namespace EqRef14
end EqRef14
open EqRef13 EqRef14
open EqRef13 EqRef14
section
variable {R C i k:Nat} {l v:List Int} {t:Int}
end
namespace EqLow
def Cl.Ck.down.Ba:List (Nat × Entry):=[]
def Cl.Ck.down.E:Env:=Bb (A9 Cl.Ck.down.Ba) (fun _=>false) (fun _=>none) (fun _=>none)
theorem Cl.Ck.down.ev (N:Nat) (n k:Int):Bv Cl.Ck.down.E N Tryz.f77 (Am Tryz.f77) [.int .i64 n,.int .i64 k]=some (.int .i64 k):=by kernel_rfl
abbrev _root_.Go.Proofs.S1.Cl.Ck.down.Kn:=A4 Tryz.prog 77 Cl.Ck.down.spec
theorem Cl.Ck.down.Ad (hk:Ax Tryz.prog Cl.Ck.down.Ba) (h:∀ (n k:Int),Cl.Ck.down.pre [.i n,.i k]=true→Bc Cl.Ck.down.E Tryz.f77 [.int .i64 n,.int .i64 k] (Cl.Ck.down.out [.i n,.i k])):Cl.Ck.down.Kn :=
  Al (Ay hk _ _ _) Tryz.func77 (by kernel_rfl) (by kernel_rfl) h
def solve.Dv.Ba:List (Nat × Entry):=[]
def solve.Dv.E:Env:=Bb (A9 solve.Dv.Ba) (fun _=>false) (fun _=>none) (fun _=>none)
theorem solve.Dv.ev (N:Nat) (i k:Int):Bv solve.Dv.E N Tryz.f78 (Am Tryz.f78) [.int .i64 i,.int .i64 k]=some (.bool (A1 k i)):=by kernel_rfl
abbrev _root_.Go.Proofs.S1.solve.Dv.Kn:=A4 Tryz.prog 78 solve.Dv.spec
theorem solve.Dv.Ad (hk:Ax Tryz.prog solve.Dv.Ba) (h:∀ (i k:Int),solve.Dv.pre [.i i,.i k]=true→Bc solve.Dv.E Tryz.f78 [.int .i64 i,.int .i64 k] (solve.Dv.out [.i i,.i k])):solve.Dv.Kn :=
  Al (Ay hk _ _ _) Tryz.func78 (by kernel_rfl) (by kernel_rfl) h
def solve.Aq.Lo.hint:Nat→Option A5
  | 0=>some { keep:=[2,3,4,5,8,10,11,28,29],objs:=[(12,2,112002,.ints 37 .u64 [])],boxes:=[4,5,8,11] }
  | 2=>some { keep:=[2,3,4,5,8,10,11,13,28,29,32,33],objs:=[(12,2,112002,.ints 37 .u64 [])],boxes:=[4,5,8,11] }
  | 4=>some { keep:=[2,3,4,5,8,10,11,13,15,16,28,29,32,33,49,50],objs:=[(12,2,112002,.ints 37 .u64 [])],boxes:=[4,5,8,11] }
  | _=>none
def solve.Aq.Lo.Ba:List (Nat × Entry):=[(77,Cl.Ck.down.spec),(151,Aa.B3.own.spec),(78,solve.Dv.spec),(158,Ae.Div.spec),(150,Ae.Finite.spec),(157,Ae.Mul.spec),(156,Ae.Sub.spec)]
def solve.Aq.Lo.E:Env:=Bb (A9 solve.Aq.Lo.Ba) (fun n=>Nat.beq n 24) solve.Aq.Lo.hint (fun _=>none)
def solve.Aq.Lo.L0 (N M:Nat) (r c:Int) (l:List Int) (p q:Int) (m:List Int) (n p29:Int) (p2_2:List Int):Option DV:=B2 solve.Aq.Lo.E N Tryz.f76 (Am Tryz.f76) [1,1,1,0,1,0] [] M ⟨Fw 108 [(2,.fn 77 [.int .i64 n] []),(3,.fn 78 [] []),(4,.ptr 4 0 0),(5,.ptr 5 0 0),(8,.ptr 8 0 0),(10,.int .i64 r),(11,.ptr 11 0 0),(28,.int .i64 q),(29,.int .i64 p29)],[(4,false,.box [.int .i64 r,.int .i64 c,.ints .arg .u64 l]),(5,false,.box [.int .i64 p,.int .i64 q,.ints .arg .u64 m]),(8,false,.box [.int .i64 0,.int .i64 0,.nil]),(11,false,.box [.int .i64 r,.int .i64 q,.oref 112002]),(112002,false,.ints 37 .u64 p2_2)]⟩
def solve.Aq.Lo.L1 (N M0 M:Nat) (r c:Int) (l:List Int) (p q:Int) (m:List Int) (n p33:Int) (p2:List Int) (p13 p29_1:Int):Option DV:=B2 solve.Aq.Lo.E N Tryz.f76 (Am Tryz.f76) [1,1,1,0,1,0,0,1,1,0,0,1,0,1,1,0] [M0] M ⟨Fw 108 [(2,.fn 77 [.int .i64 n] []),(3,.fn 78 [] []),(4,.ptr 4 0 0),(5,.ptr 5 0 0),(8,.ptr 8 0 0),(10,.int .i64 r),(11,.ptr 11 0 0),(13,.int .i64 p13),(28,.int .i64 q),(29,.int .i64 p29_1),(32,.int .i64 r),(33,.int .i64 p33)],[(4,false,.box [.int .i64 r,.int .i64 c,.ints .arg .u64 l]),(5,false,.box [.int .i64 p,.int .i64 q,.ints .arg .u64 m]),(8,false,.box [.int .i64 0,.int .i64 0,.nil]),(11,false,.box [.int .i64 r,.int .i64 q,.oref 112002]),(112002,false,.ints 37 .u64 p2)]⟩
def solve.Aq.Lo.L2 (N M0 M1 M:Nat) (r c:Int) (l:List Int) (p q:Int) (m:List Int) (n p16:Int) (p50 p13_1:Int) (p15 p29_2 p33_1:Int) (p2_1:List Int):Option DV:=B2 solve.Aq.Lo.E N Tryz.f76 (Am Tryz.f76) [1,1,1,0,1,0,0,1,1,0,0,1,0,1,1,0,0,1,1,0,0,1,1,1,0,1,0] [M0,M1] M ⟨Fw 108 [(2,.fn 77 [.int .i64 n] []),(3,.fn 78 [] []),(4,.ptr 4 0 0),(5,.ptr 5 0 0),(8,.ptr 8 0 0),(10,.int .i64 r),(11,.ptr 11 0 0),(13,.int .i64 p13_1),(15,.int .i64 p15),(16,.int .u64 p16),(28,.int .i64 q),(29,.int .i64 p29_2),(32,.int .i64 r),(33,.int .i64 p33_1),(49,.int .i64 r),(50,.int .i64 p50)],[(4,false,.box [.int .i64 r,.int .i64 c,.ints .arg .u64 l]),(5,false,.box [.int .i64 p,.int .i64 q,.ints .arg .u64 m]),(8,false,.box [.int .i64 0,.int .i64 0,.nil]),(11,false,.box [.int .i64 r,.int .i64 q,.oref 112002]),(112002,false,.ints 37 .u64 p2_1)]⟩
theorem solve.Aq.Lo.At (N M:Nat) (r c:Int) (l:List Int) (p q:Int) (m:List Int) (n p29:Int) (p2_2:List Int):solve.Aq.Lo.L0 N (M+1) r c l p q m n p29 p2_2=bif (A1 p29 q) then solve.Aq.Lo.L1 N M N r c l p q m n 0 p2_2 p29 p29 else bif (Cu p2_2) then bif (!(D8 p2_2)) then some (.tup [.agg [.int .i64 0,.int .i64 0,.nil],.int .i64 2]) else some (.tup [.agg [.int .i64 r,.int .i64 q,.ints (.own 112002 37) .u64 p2_2],.int .i64 0]) else none:=by kernel_rfl
theorem solve.Aq.Lo.Cb (N M0 M:Nat) (r c:Int) (l:List Int) (p q:Int) (m:List Int) (n p33:Int) (p2:List Int) (p13 p29_1:Int):solve.Aq.Lo.L1 N M0 (M+1) r c l p q m n p33 p2 p13 p29_1=bif (A1 p33 r) then bif ((decide (0≤(Ab ((Ab (p33*q))+p13))))&&(decide ((Ab ((Ab (p33*q))+p13))<(List.length m:Int)))) then solve.Aq.Lo.L2 N M0 M N r c l p q m n (List.getD m (Int.toNat (Ab ((Ab (p33*q))+p13))) 0) 0 p13 p33 p29_1 p33 p2 else none else solve.Aq.Lo.L0 N M0 r c l p q m n (Ab (p29_1+1)) p2:=by kernel_rfl
theorem solve.Aq.Lo.G2 (N M0 M1 M:Nat) (r c:Int) (l:List Int) (p q:Int) (m:List Int) (n p16:Int) (p50 p13_1:Int) (p15 p29_2 p33_1:Int) (p2_1:List Int):solve.Aq.Lo.L2 N M0 M1 (M+1) r c l p q m n p16 p50 p13_1 p15 p29_2 p33_1 p2_1=bif (A1 p50 r) then bif (decide (p50<p15)) then bif ((decide (0≤(Ab ((Ab (p15*r))+p50))))&&(decide ((Ab ((Ab (p15*r))+p50))<(List.length l:Int)))) then bif ((decide (0≤(Ab ((Ab (p50*q))+p13_1))))&&(decide ((Ab ((Ab (p50*q))+p13_1))<(List.length p2_1:Int)))) then bif (decide ((Int.toNat (Ab ((Ab (p50*q))+p13_1)))<(List.length p2_1))) then bif (Ai (List.getD l (Int.toNat (Ab ((Ab (p15*r))+p50))) 0)&&Ai (List.getD p2_1 (Int.toNat (Ab ((Ab (p50*q))+p13_1))) 0)) then bif (Ai p16&&Ai (El (List.getD l (Int.toNat (Ab ((Ab (p15*r))+p50))) 0) (List.getD p2_1 (Int.toNat (Ab ((Ab (p50*q))+p13_1))) 0))) then solve.Aq.Lo.L2 N M0 M1 M r c l p q m n (Dm p16 (El (List.getD l (Int.toNat (Ab ((Ab (p15*r))+p50))) 0) (List.getD p2_1 (Int.toNat (Ab ((Ab (p50*q))+p13_1))) 0))) (Ab (p50+1)) p13_1 p15 p29_2 p33_1 p2_1 else none else none else none else none else none else solve.Aq.Lo.L2 N M0 M1 M r c l p q m n p16 (Ab (p50+1)) p13_1 p15 p29_2 p33_1 p2_1 else bif ((decide (0≤(Ab ((Ab (p15*r))+p15))))&&(decide ((Ab ((Ab (p15*r))+p15))<(List.length l:Int)))) then bif (Ai p16&&Ai (List.getD l (Int.toNat (Ab ((Ab (p15*r))+p15))) 0)) then bif ((decide (0≤(Ab ((Ab (p15*q))+p13_1))))&&(decide ((Ab ((Ab (p15*q))+p13_1))<(List.length p2_1:Int)))) then bif (decide ((Int.toNat (Ab ((Ab (p15*q))+p13_1)))<(List.length p2_1))) then solve.Aq.Lo.L1 N M0 M1 r c l p q m n (Ab (p33_1+1)) (List.set p2_1 (Int.toNat (Ab ((Ab (p15*q))+p13_1))) (E8 p16 (List.getD l (Int.toNat (Ab ((Ab (p15*r))+p15))) 0))) p13_1 p29_2 else none else none else none else none :=
  Eq.trans (by kernel_rfl)
  (E2 (E2 (Cy (Ll (decide (0≤(Ab ((Ab (p15*r))+p50)))) (decide ((Ab ((Ab (p15*r))+p50))<(List.length l:Int)))) (Cy (Ll (decide (0≤(Ab ((Ab (p50*q))+p13_1)))) (decide ((Ab ((Ab (p50*q))+p13_1))<(List.length p2_1:Int)))) (Cy (Cz (decide ((Int.toNat (Ab ((Ab (p50*q))+p13_1)))<(List.length p2_1)))) (Cy (Cz (Ai (List.getD l (Int.toNat (Ab ((Ab (p15*r))+p50))) 0)&&Ai (List.getD p2_1 (Int.toNat (Ab ((Ab (p50*q))+p13_1))) 0))) (Cy (Cz (Ai p16&&Ai (El (List.getD l (Int.toNat (Ab ((Ab (p15*r))+p50))) 0) (List.getD p2_1 (Int.toNat (Ab ((Ab (p50*q))+p13_1))) 0)))) rfl rfl) rfl) rfl) rfl) rfl) rfl) (Cy (Ll (decide (0≤(Ab ((Ab (p15*r))+p15)))) (decide ((Ab ((Ab (p15*r))+p15))<(List.length l:Int)))) (Cy (Cz (Ai p16&&Ai (List.getD l (Int.toNat (Ab ((Ab (p15*r))+p15))) 0))) (Cy (Ll (decide (0≤(Ab ((Ab (p15*q))+p13_1)))) (decide ((Ab ((Ab (p15*q))+p13_1))<(List.length p2_1:Int)))) (Cy (Cz (decide ((Int.toNat (Ab ((Ab (p15*q))+p13_1)))<(List.length p2_1)))) rfl rfl) rfl) rfl) rfl))
theorem solve.Aq.Lo.ev (N:Nat) (r c:Int) (l:List Int) (p q:Int) (m:List Int) (n:Int):Bv solve.Aq.Lo.E N Tryz.f76 (Am Tryz.f76) [.agg [.int .i64 r,.int .i64 c,.ints .arg .u64 l],.agg [.int .i64 p,.int .i64 q,.ints .arg .u64 m],.fn 77 [.int .i64 n] [],.fn 78 [] []]=bif (Bl r&&Bl q) then solve.Aq.Lo.L0 N N r c l p q m n 0 (Cq (Int.toNat r) (Int.toNat q) (fun _ _=>0)) else none:=by kernel_rfl
abbrev _root_.Go.Proofs.S1.solve.Aq.Lo.Kn:=A4 Tryz.prog 76 solve.Aq.Lo.spec
theorem solve.Aq.Lo.Ad (hk:Ax Tryz.prog solve.Aq.Lo.Ba) (h:∀ (r c:Int) (l:List Int) (p q:Int) (m:List Int) (n:Int),solve.Aq.Lo.pre [.i r,.i c,.l l,.i p,.i q,.l m,.i n]=true→Bc solve.Aq.Lo.E Tryz.f76 [.agg [.int .i64 r,.int .i64 c,.ints .arg .u64 l],.agg [.int .i64 p,.int .i64 q,.ints .arg .u64 m],.fn 77 [.int .i64 n] [],.fn 78 [] []] (solve.Aq.Lo.out [.i r,.i c,.l l,.i p,.i q,.l m,.i n])):solve.Aq.Lo.Kn :=
  Al (Ay hk _ _ _) Tryz.func76 (by kernel_rfl) (by kernel_rfl) h
def solve.Gq.Ba:List (Nat × Entry):=[(75,solve.check.spec),(76,solve.Aq.Lo.spec)]
def solve.Gq.E:Env:=Bb (A9 solve.Gq.Ba) (fun _=>false) (fun _=>none) (fun _=>none)
theorem solve.Gq.ev (N:Nat) (r c:Int) (l:List Int) (p q:Int) (m:List Int):Bv solve.Gq.E N Tryz.f22 (Am Tryz.f22) [.agg [.int .i64 r,.int .i64 c,.ints .arg .u64 l],.agg [.int .i64 p,.int .i64 q,.ints .arg .u64 m]]=bif (Ah l&&Ah m) then bif ((M5 r c l p q m) !=(0:Int)) then some (.tup [.agg [.int .i64 0,.int .i64 0,.nil],.int .i64 (M5 r c l p q m)]) else bif (Na r c l p q m&&decide (r=r)) then some (.tup [.agg [.int .i64 ((Is r q (loG c l q m (Int.toNat r) (Int.toNat q))).1),.int .i64 ((Is r q (loG c l q m (Int.toNat r) (Int.toNat q))).2.1),.ints .fresh .u64 ((Is r q (loG c l q m (Int.toNat r) (Int.toNat q))).2.2.1)],.int .i64 ((Is r q (loG c l q m (Int.toNat r) (Int.toNat q))).2.2.2)]) else none else none:=by kernel_rfl
abbrev _root_.Go.Proofs.S1.solve.Gq.Kn:=A4 Tryz.prog 22 solve.Gq.spec
theorem solve.Gq.Ad (hk:Ax Tryz.prog solve.Gq.Ba) (h:∀ (r c:Int) (l:List Int) (p q:Int) (m:List Int),solve.Gq.pre [.i r,.i c,.l l,.i p,.i q,.l m]=true→Bc solve.Gq.E Tryz.f22 [.agg [.int .i64 r,.int .i64 c,.ints .arg .u64 l],.agg [.int .i64 p,.int .i64 q,.ints .arg .u64 m]] (solve.Gq.out [.i r,.i c,.l l,.i p,.i q,.l m])):solve.Gq.Kn :=
  Al (Ay hk _ _ _) Tryz.func22 (by kernel_rfl) (by kernel_rfl) h
end EqLow
open EqLow
theorem solve.Dv.known:solve.Dv.Kn:=solve.Dv.Ad .nil fun i k _=>by
  refine ⟨0,solve.Dv.out [.i i,.i k],[],?_,.bool⟩
  rw [solve.Dv.ev,Ar]; rfl
theorem Ab1.known:Cl.Ck.down.Kn:=Cl.Ck.down.Ad .nil fun n k _=>⟨0,Cl.Ck.down.out [.i n,.i k],[],by rw [Cl.Ck.down.ev]; rfl,.int⟩
section
variable {n Q:Nat} {l m:List Int}
def loF (n Q:Nat) (l m:List Int) (i j:Nat):Int:=(X6 (n:Int) l (fun i=>Eh (Q:Int) m (i:Int) (j:Int)) n).getD i 0
def loD (j k a b:Nat):Bool:=decide (b<j∨(b=j∧a<k))
def Tf (n Q:Nat) (l m:List Int) (j k:Nat):List Int:=Cq n Q fun a b=>if loD j k a b=true then loF n Q l m a b else 0
theorem Ah4 (i j:Nat):Ai (loF n Q l m i j)=true:=Q1 (Ace _ _ _ _) i
theorem Anx (j k:Nat):Ah (Tf n Q l m j k)=true:=Gi fun a b=>by
  split
  · exact Ah4 _ _
  · exact Iv
theorem Ak5 {j k t:Nat} (ht:t<n) (hj:j<Q) (hk:t<k):Eh (Q:Int) (Tf n Q l m j k) (t:Int) (j:Int)=loF n Q l m t j:=by
  unfold Tf
  have hd:loD j k t j=true:=Aqz (.inr ⟨rfl,hk⟩)
  rw [Adv ht hj,hd,if_pos rfl]
theorem X5 (j k:Nat):(Tf n Q l m j k).length=n*Q:=Bz _ _ _
theorem Ak4 {i j:Nat} (hj:j<Q) {x:Int} (hx:x=loF n Q l m i j):List.set (Tf n Q l m j i) (Int.toNat ((i:Int)*(Q:Int)+(j:Int))) x=Tf n Q l m j (i+1):=by
  refine Aaz hj hx fun a b ha hb=>?_
  unfold loD
  rw [Aq5,Aq5]
  omega
theorem Ah2 (j:Nat):Tf n Q l m j n=Tf n Q l m (j+1) 0:=by
  unfold Tf
  refine Dn fun a b ha hb=>?_
  have:loD j n a b=loD (j+1) 0 a b:=by
    unfold loD
    rw [decide_eq_decide]
    omega
  rw [this]
theorem Ah1:Tf n Q l m 0 0=Cq n Q fun _ _=>0:=by
  unfold Tf
  refine Dn fun a b ha hb=>?_
  have:loD 0 0 a b=false:=Aq3 (by omega)
  rw [this]; rfl
theorem Ak6:Tf n Q l m Q 0=loG (n:Int) l (Q:Int) m n Q:=by
  unfold Tf loG
  refine Dn fun a b ha hb=>?_
  have:loD Q 0 a b=true:=Aqz (.inl hb)
  rw [this]; rfl
def loR (n Q:Nat) (l m:List Int) (i j t:Nat) (s:Int):Int:=Mv (n:Int) l (i:Int) s (t:Int) (((X6 (n:Int) l (fun i=>Eh (Q:Int) m (i:Int) (j:Int)) n).take i).drop t)
theorem Adr {i j:Nat} (hi:i<n) (s:Int):loR n Q l m i j i s=s:=by
  unfold loR
  rw [Arc (by rw [List.length_take,Hk]; omega),Mv]
theorem Ah3 {i j t:Nat} (hi:i<n) (ht:t<i) (s:Int):loR n Q l m i j t s=loR n Q l m i j (t+1) (Dm s (El (Eh (n:Int) l (i:Int) (t:Int)) (loF n Q l m t j))):=by
  unfold loR loF
  rw [Wi (by rw [List.length_take,Hk]; omega),Aq8,List.getElem?_take_of_lt ht,← Aq8]
  rfl
theorem Ak7 {i j:Nat} (hi:i<n):E8 (loR n Q l m i j 0 (Eh (Q:Int) m (i:Int) (j:Int))) (Eh (n:Int) l (i:Int) (i:Int))=loF n Q l m i j:=by
  unfold loR loF
  rw [List.drop_zero,Ak8 hi]; rfl
theorem Ahz (N:Nat) (n6:n≤6) (q6:Q≤6) (hl:l.length=n*n) (al:Ah l=true) {i j:Nat} (hi:i<n) (hj:j<Q) (M0 M1:Nat) (p29 p33:Int) :
    ∀ (cnt t F:Nat) (s:Int),t+cnt=n→cnt<F→Ai s=true→(i<t→t≤n) →
    solve.Aq.Lo.L2 N M0 M1 F (n:Int) (n:Int) l (n:Int) (Q:Int) m (n:Int) s (t:Int) (j:Int) (i:Int) p29 p33 (Tf n Q l m j i) =
    solve.Aq.Lo.L1 N M0 M1 (n:Int) (n:Int) l (n:Int) (Q:Int) m (n:Int) (Ab (p33+(1:Int))) (List.set (Tf n Q l m j i) (Int.toNat ((i:Int)*(Q:Int)+(j:Int))) (E8 (if t<i then loR n Q l m i j t s else s) (Eh (n:Int) l (i:Int) (i:Int)))) (j:Int) p29:=by
  intro cnt
  induction cnt with
  | zero =>
    intro t F s ht hF hs _
    obtain ⟨F,rfl⟩:∃ G,F=G+1:=⟨F-1,by omega⟩
    obtain ⟨e1,g1,g2⟩:=G1 (R:=(n:Int)) (Fh n6 n6 hl hi hi)
    obtain ⟨e2,g3,g4⟩:=G1 (R:=(n:Int)) (Fh n6 q6 (X5 (l:=l) (m:=m) j i) hi hj)
    rw [if_neg (by omega)]
    rw [solve.Aq.Lo.G2,Ar,Aq3 (show ¬ (t:Int)<(n:Int) by omega),Aq2,e1,Aqz g1,Aqz g2,Aq4,Aqy,hs,show Ai (List.getD l (Int.toNat ((i:Int)*(n:Int)+(i:Int))) 0)=true from G9 (c:=(n:Int)) al,Aq4,Aqy,
      e2,Aqz g3,Aqz g4,Aq4,Aqy,Aqz (show Int.toNat ((i:Int)*(Q:Int)+(j:Int))<(Tf n Q l m j i).length by omega),Aqy]
    rfl
  | succ cnt ih =>
    intro t F s ht hF hs _
    obtain ⟨F,rfl⟩:∃ G,F=G+1:=⟨F-1,by omega⟩
    by_cases hti:t<i
    · obtain ⟨e1,g1,g2⟩:=G1 (R:=(n:Int)) (Fh n6 n6 hl hi (show t<n by omega))
      obtain ⟨e2,g3,g4⟩:=G1 (R:=(n:Int)) (Fh n6 q6 (X5 (l:=l) (m:=m) j i) (show t<n by omega) hj)
      have hx:List.getD (Tf n Q l m j i) (Int.toNat ((t:Int)*(Q:Int)+(j:Int))) 0=loF n Q l m t j:=Ak5 (by omega) hj hti
      have:=ih (t+1) F (Dm s (El (Eh (n:Int) l (i:Int) (t:Int)) (loF n Q l m t j))) (by omega) (by omega) (L7 hs (Lc _ _)) (by omega)
      rw [if_pos hti,Ah3 hi hti]
      rw [solve.Aq.Lo.G2,Ar,Aqz (show (t:Int)<(n:Int) by omega),Aqy,Aqz (show (t:Int)<(i:Int) by omega),Aqy,e1,Aqz g1,Aqz g2,Aq4,Aqy,
        e2,Aqz g3,Aqz g4,Aq4,Aqy,Aqz (show Int.toNat ((t:Int)*(Q:Int)+(j:Int))<(Tf n Q l m j i).length by omega),Aqy,hx,
        show Ai (List.getD l (Int.toNat ((i:Int)*(n:Int)+(t:Int))) 0)=true from G9 (c:=(n:Int)) al,Ah4,Aq4,Aqy,hs,Lc,Aq4,Aqy,An (x:=(t:Int)+1) (by omega) (by omega)]
      have e:(if t+1<i then loR n Q l m i j (t+1) (Dm s (El (Eh (n:Int) l (i:Int) (t:Int)) (loF n Q l m t j))) else Dm s (El (Eh (n:Int) l (i:Int) (t:Int)) (loF n Q l m t j)))=loR n Q l m i j (t+1) (Dm s (El (Eh (n:Int) l (i:Int) (t:Int)) (loF n Q l m t j))):=by
        by_cases h2:t+1<i
        · rw [if_pos h2]
        · rw [if_neg h2,show t+1=i by omega,Adr hi]
      rw [e] at this
      exact this
    · have:=ih (t+1) F s (by omega) (by omega) hs (by omega)
      rw [if_neg hti,solve.Aq.Lo.G2,Ar,Aqz (show (t:Int)<(n:Int) by omega),Aqy,Aq3 (show ¬ (t:Int)<(i:Int) by omega),Aq2,An (by omega) (by omega)]
      rw [if_neg (by omega)] at this
      exact this
theorem Ak2 (N:Nat) (n6:n≤6) (q6:Q≤6) (hN:7<N) (hl:l.length=n*n) (hm:m.length=n*Q) (al:Ah l=true) (am:Ah m=true) {j:Nat} (hj:j<Q) (M0:Nat):∀ (cnt k F:Nat),k+cnt=n→cnt<F →
    solve.Aq.Lo.L1 N M0 F (n:Int) (n:Int) l (n:Int) (Q:Int) m (n:Int) (k:Int) (Tf n Q l m j k) (j:Int) (j:Int) =
    solve.Aq.Lo.L0 N M0 (n:Int) (n:Int) l (n:Int) (Q:Int) m (n:Int) ((j+1:Nat):Int) (Tf n Q l m j n):=by
  intro cnt
  induction cnt with
  | zero =>
    intro k F hk hF
    obtain ⟨F,rfl⟩:∃ G,F=G+1:=⟨F-1,by omega⟩
    obtain rfl:k=n:=by omega
    rw [solve.Aq.Lo.Cb,Ar,Aq3 (by omega),Aq2,An (by omega) (by omega)]
    rfl
  | succ cnt ih =>
    intro k F hk hF
    obtain ⟨F,rfl⟩:∃ G,F=G+1:=⟨F-1,by omega⟩
    obtain ⟨e2,g3,g4⟩:=G1 (R:=(n:Int)) (Fh n6 q6 hm (show k<n by omega) hj)
    have hr:=Ahz (n:=n) (Q:=Q) (l:=l) (m:=m) N n6 q6 hl al (show k<n by omega) hj M0 F (j:Int) (k:Int) n 0 N (Eh (Q:Int) m (k:Int) (j:Int)) (by omega) (by omega) (G9 (c:=(Q:Int)) am) (by omega)
    have e:(if 0<k then loR n Q l m k j 0 (Eh (Q:Int) m (k:Int) (j:Int)) else Eh (Q:Int) m (k:Int) (j:Int))=loR n Q l m k j 0 (Eh (Q:Int) m (k:Int) (j:Int)):=by
      by_cases h:0<k
      · rw [if_pos h]
      · obtain rfl:k=0:=by omega
        rw [if_neg h,Adr (by omega)]
    rw [e,Ak4 hj (Ak7 (by omega)),An (by omega) (by omega)] at hr
    rw [solve.Aq.Lo.Cb,Ar,Aqz (show (k:Int)<(n:Int) by omega),Aqy,e2,Aqz g3,Aqz g4,Aq4,Aqy]
    exact hr.trans (ih (k+1) F (by omega) (by omega))
theorem Ak3 (N:Nat) (n6:n≤6) (q6:Q≤6) (hN:7<N) (hl:l.length=n*n) (hm:m.length=n*Q) (al:Ah l=true) (am:Ah m=true):∀ (cnt j F:Nat),j+cnt=Q→cnt<F →
    solve.Aq.Lo.L0 N F (n:Int) (n:Int) l (n:Int) (Q:Int) m (n:Int) (j:Int) (Tf n Q l m j 0) =
    bif D8 (Tf n Q l m Q 0) then some (.tup [.agg [.int .i64 (n:Int),.int .i64 (Q:Int),.ints (.own 112002 tB) .u64 (Tf n Q l m Q 0)],.int .i64 (0:Int)]) else some (Ae2 2):=by
  intro cnt
  induction cnt with
  | zero =>
    intro j F hj hF
    obtain ⟨F,rfl⟩:∃ G,F=G+1:=⟨F-1,by omega⟩
    obtain rfl:j=Q:=by omega
    have h36:=Nat.mul_le_mul n6 q6
    rw [solve.Aq.Lo.At,Ar,Aq3 (by omega),Aq2,Kf (Anx _ _) (by rw [X5]; omega),Aqy]
    cases D8 (Tf n j l m j 0)<;>rfl
  | succ cnt ih =>
    intro j F hj hF
    obtain ⟨F,rfl⟩:∃ G,F=G+1:=⟨F-1,by omega⟩
    have hr:=Ak2 N n6 q6 hN hl hm al am (show j<Q by omega) F n 0 N (by omega) (by omega)
    rw [Ah2] at hr
    rw [solve.Aq.Lo.At,Ar,Aqz (show (j:Int)<(Q:Int) by omega),Aqy]
    exact hr.trans (ih (j+1) F (by omega) (by omega))
end
theorem solve.Aq.Lo.known:solve.Aq.Lo.Kn:=solve.Aq.Lo.Ad (.cons Ab1.known (.cons Aa.B3.own.known (.cons solve.Dv.known (.cons Ae.Div.known (.cons Ae.Finite.known (.cons Ae.Mul.known (.cons Ae.Sub.known .nil))))))) fun r c l p q m n hp=>by
  show ∃ N dv drops,_=some dv∧Wk drops dv (Pk (Is r q (loG c l q m (Int.toNat r) (Int.toNat q))))
  obtain ⟨h1,hn⟩:=Af.1 (show (Na r c l p q m&&decide (n=r))=true from hp)
  obtain ⟨h2,h3⟩:=Af.1 h1
  obtain ⟨hr,hm⟩:=Af.1 h2
  obtain ⟨h4,h5⟩:=Af.1 h3
  obtain ⟨al,am⟩:=Af.1 h4
  obtain ⟨rfl,rfl⟩:=Ao.1 h5
  obtain rfl:=of_decide_eq_true hn
  have s1:=(Fg hr).1
  have s2:=(Fg hm).2
  obtain ⟨R,C,rfl,hC,r6,c6,hl⟩:=Db hr
  obtain ⟨P,Q,hP,rfl,p6,q6,hl2⟩:=Db hm
  obtain rfl:R=C:=by omega
  obtain rfl:R=P:=by omega
  have h:=Ak3 (n:=R) (Q:=Q) (l:=l) (m:=m) 8 r6 q6 (by omega) hl hl2 al am Q 0 8 (by omega) (by omega)
  rw [Ah1,Ak6,show ((0:Nat):Int)=0 from rfl] at h
  rw [Aq0,Aq0]
  unfold Is
  cases hf:D8 (loG (R:Int) l (Q:Int) m R Q) with
  | true =>
    rw [hf,Aqy] at h
    rw [if_pos rfl]
    refine ⟨8,.tup [.agg [.int .i64 (R:Int),.int .i64 (Q:Int),.ints (.own 112002 tB) .u64 (loG (R:Int) l (Q:Int) m R Q)],.int .i64 0],[112002],?_,Wk.Gd (.cons (Abf (List.mem_singleton.2 rfl)) (.cons .int .nil))⟩
    rw [solve.Aq.Lo.ev,s1,s2,Aq4,Aqy,Aq0,Aq0]
    exact h
  | false =>
    rw [hf,Aq2] at h
    rw [if_neg (by decide)]
    refine ⟨8,Ae2 2,[],?_,Ku⟩
    rw [solve.Aq.Lo.ev,s1,s2,Aq4,Aqy,Aq0,Aq0]
    exact h
theorem solve.Gq.known:solve.Gq.Kn:=solve.Gq.Ad (.cons solve.check.known (.cons solve.Aq.Lo.known .nil)) fun r c l p q m hp=>by
  have hp:(Ah l&&Ah m)=true:=hp
  show ∃ N dv drops,_=some dv∧Wk drops dv (Pk (loX r c l p q m))
  unfold loX
  by_cases h:M5 r c l p q m=0
  · obtain ⟨h1,h2,h3,h4⟩:=Ol h
    have ht:Na r c l p q m=true:=Af.2 ⟨Af.2 ⟨h1,h2⟩,Af.2 ⟨hp,Ao.2 ⟨h3,h4⟩⟩⟩
    rw [if_neg (by rw [h]; decide)]
    exact ⟨0,_,[],by rw [solve.Gq.ev,hp,Aqy,Ff h,Aq2,ht,Aqz rfl]; rfl,L4⟩
  · rw [if_pos h]
    exact ⟨0,_,[],by rw [solve.Gq.ev,hp,Aqy,Qt h,Aqy]; rfl,Ku⟩
namespace EqLse
end EqLse
open EqLse
theorem Ng {r c:Int} {l:List Int} (h:Bf r c l=true):0≤r∧r≤6∧0≤c∧c≤6:=by
  obtain ⟨R,C,rfl,rfl,r6,c6,_⟩:=Db h
  omega
theorem Alh {r c:Int} {l:List Int} {e:Int} (al:Ah l=true):Ah (Air r c l e).2.2.1=true:=by
  unfold Air
  split
  · exact En
  · split
    · exact En
    · exact al
theorem Adw {r c:Int} {l:List Int} (al:Ah l=true):Ah (Is r c l).2.2.1=true:=by
  unfold Is
  split
  · exact al
  · exact En
theorem Ah0 (r c:Int) (l:List Int) (p q:Int) (m:List Int):Ah (loX r c l p q m).2.2.1=true:=by
  unfold loX
  split
  · exact En
  · exact Adw (Gi fun i k=>Q1 (Ace _ _ _ _) i)
theorem Amw (r c:Int) (l:List Int) (p q:Int) (m:List Int):Ah (Vv r c l p q m).2.2.1=true:=by
  unfold Vv
  split
  · exact En
  · exact Adw (Gi fun i k=>Q1 (Abh _ _ _ _ _) i)
theorem Akc {r c:Int} {l:List Int} {p q:Int} {m:List Int} (al:Ah l=true) (am:Ah m=true):Ah (Re r c l p q m).2.2.1=true:=by
  unfold Re
  by_cases h:(Bf r c l&&Bf p q m)=true
  · rw [if_pos h]
    by_cases h2:r=p∧c=q
    · rw [if_pos h2]; exact (show Ah (Cq _ _ fun i k=>Dm (Eh c l i k) (Eh q m i k))=true from Gi fun _ _=>L7 (On al) (On am))
    · rw [if_neg h2]; exact En
  · rw [if_neg h]; exact En
theorem Zu {r c:Int} {l:List Int} (al:Ah l=true):Ah (qX r c l).2.2.1=true∧Ah (rX r c l).2.2.1=true:=by
  by_cases k:Hd r c l=0
  · rw [(Xm k).1,(Xm k).2]; exact An7 al k
  · rw [(T4 rfl k).1,(T4 rfl k).2]; exact ⟨En,En⟩
open EqMat EqOf
theorem Aa.Gl.known:Aa.Gl.Kn:=Aa.Gl.Ad (.cons Aa.get.known (.cons Ae.Sub.known .nil)) fun i k r c l p q m hp=>by
  obtain ⟨h1,am⟩:=Af.1 (show (((D2 r c l i k&&D2 p q m i k)&&Ah l)&&Ah m)=true from hp)
  obtain ⟨h2,al⟩:=Af.1 h1
  obtain ⟨h3,h4⟩:=Af.1 h2
  refine ⟨0,Aa.Gl.out [.i i,.i k,.i r,.i c,.l l,.i p,.i q,.l m],[],?_,.int⟩
  rw [Aa.Gl.ev,h3,h4,G9 al,G9 am]; rfl
theorem of.Sub.inner (N:Nat) (r c:Int) (l:List Int) (p q:Int) (m:List Int) {A B:Nat} (hA:A≤6) (hB:B≤6) {F:Nat→Nat→Int} (hF:∀ i j:Nat,F i j=Dm (Eh c l (i:Int) (j:Int)) (Eh q m (i:Int) (j:Int))) {i:Nat} (hi:i<A) (hp:∀ j:Nat,j<B→(((D2 r c l (i:Int) (j:Int)&&D2 p q m (i:Int) (j:Int))&&Ah l)&&Ah m)=true):∀ (k j M0 M:Nat),j+k=B→k<M →
    Aa.of.Sub.L1 N M0 M (A:Int) (B:Int) r c l p q m (i:Int) (i:Int) (j:Int) (Cq i B F++(List.range j).map (F i))=Aa.of.Sub.L0 N M0 (A:Int) (B:Int) r c l p q m ((i+1:Nat):Int) (Cq (i+1) B F):=by
  intro k
  induction k with
  | zero =>
    intro j M0 M hj hM
    obtain ⟨M,rfl⟩:∃ G,M=G+1:=⟨M-1,by omega⟩
    obtain rfl:j=B:=by omega
    rw [Aa.of.Sub.Cb,Ar,Aq3 (by omega),Aq2,An (by omega) (by omega),← J9]
    rfl
  | succ k ih =>
    intro j M0 M hj hM
    obtain ⟨M,rfl⟩:∃ G,M=G+1:=⟨M-1,by omega⟩
    have d:decide ((Cq i B F++(List.range j).map (F i)).length+1≤Gv)=true:=by
      refine Aqz ?_
      have:=Nat.mul_le_mul (show i≤6 by omega) hB
      rw [List.length_append,Bz,List.length_map,List.length_range]; unfold Gv; omega
    rw [Aa.of.Sub.Cb,Ar,Aqz (by omega),Aqy,hp j (by omega),Aqy,d,Aqy,An (by omega) (by omega),← hF i j]
    have:=ih (j+1) M0 M (by omega) (by omega)
    rw [H4,← List.append_assoc] at this
    exact this
theorem of.Sub.outer (N:Nat) (r c:Int) (l:List Int) (p q:Int) (m:List Int) {A B:Nat} (hA:A≤6) (hB:B≤6) (hN:6<N) {F:Nat→Nat→Int} (hF:∀ i j:Nat,F i j=Dm (Eh c l (i:Int) (j:Int)) (Eh q m (i:Int) (j:Int))) (hp:∀ i j:Nat,i<A→j<B→(((D2 r c l (i:Int) (j:Int)&&D2 p q m (i:Int) (j:Int))&&Ah l)&&Ah m)=true):∀ (k i M:Nat),i+k=A→k<M →
    Aa.of.Sub.L0 N M (A:Int) (B:Int) r c l p q m (i:Int) (Cq i B F)=some (.agg [.int .i64 (A:Int),.int .i64 (B:Int),.ints (.own 108002 tB) .u64 (Cq A B F)]):=by
  intro k
  induction k with
  | zero =>
    intro i M hi hM
    obtain ⟨M,rfl⟩:∃ G,M=G+1:=⟨M-1,by omega⟩
    obtain rfl:i=A:=by omega
    rw [Aa.of.Sub.At,Ar,Aq3 (by omega),Aq2]
  | succ k ih =>
    intro i M hi hM
    obtain ⟨M,rfl⟩:∃ G,M=G+1:=⟨M-1,by omega⟩
    have n:=of.Sub.inner N r c l p q m hA hB hF (show i<A by omega) (fun j hj=>hp i j (by omega) hj) B 0 M N (by omega) (by omega)
    rw [List.range_zero,List.map_nil,List.append_nil] at n
    rw [Aa.of.Sub.At,Ar,Aqz (by omega),Aqy]
    exact n.trans (ih (i+1) M (by omega) (by omega))
theorem Aa.of.Sub.known:Aa.of.Sub.Kn:=Aa.of.Sub.Ad (.cons Aa.Gl.known .nil) fun a b r c l p q m hp=>by
  obtain ⟨h12,hy⟩:=Af.1 (show (((Bl a&&Bl b)&&((Bf r c l&&Bf p q m)&&(Ah l&&Ah m)))&&decide (a=r∧b=c∧p=r∧q=c))=true from hp)
  obtain ⟨h1,hx⟩:=Af.1 h12
  have h2:=Af.2 ⟨hx,hy⟩
  obtain ⟨ha,hb⟩:=Af.1 h1
  obtain ⟨A,rfl,hA⟩:=F9 ha
  obtain ⟨B,rfl,hB⟩:=F9 hb
  obtain ⟨h3,he⟩:=Af.1 h2
  obtain ⟨h4,h5⟩:=Af.1 h3
  obtain ⟨hr,hm⟩:=Af.1 h4
  obtain ⟨al,am⟩:=Af.1 h5
  obtain ⟨e1,e2,e3,e4⟩:=of_decide_eq_true he
  have hp:∀ i j:Nat,i<A→j<B→(((D2 r c l (i:Int) (j:Int)&&D2 p q m (i:Int) (j:Int))&&Ah l)&&Ah m)=true:=fun i j hi hj =>
    Af.2 ⟨Af.2 ⟨Af.2 ⟨K5 hr (by omega) (by omega) (by omega) (by omega) r,K5 hm (by omega) (by omega) (by omega) (by omega) p⟩,al⟩,am⟩
  refine ⟨8,.agg [.int .i64 (A:Int),.int .i64 (B:Int),.ints (.own 108002 tB) .u64 (Cq A B fun (i j:Nat)=>Dm (Eh c l (i:Int) (j:Int)) (Eh q m (i:Int) (j:Int)))],[108002],?_,Wk.Ig (.cons .int (.cons .int (.cons (.drop _ _ _ _ (List.mem_singleton.2 rfl)) .nil)))⟩
  rw [Aa.of.Sub.ev]
  have n:=of.Sub.outer 8 r c l p q m hA hB (by omega) (F:=fun (i j:Nat)=>Dm (Eh c l (i:Int) (j:Int)) (Eh q m (i:Int) (j:Int))) (fun _ _=>rfl) hp A 0 8 (by omega) (by omega)
  rw [J8] at n
  exact n
namespace EqRef20
end EqRef20
open EqOf EqRef20
theorem Aa.Sub.known:Aa.Sub.Kn:=Aa.Sub.Ad (.cons Aa.of.Sub.known (.cons Aa.two.known .nil)) fun r c l p q m hp=>by
  show ∃ N dv drops,_=some dv∧Wk drops dv (Pk (Re r c l p q m))
  unfold Re
  have hp:(Ah l&&Ah m)=true:=hp
  by_cases h:(Bf r c l&&Bf p q m)=true
  · obtain ⟨h1,h2⟩:=Af.1 h
    by_cases hc:r=p∧c=q
    · have e:(!((r==p)&&(c==q)))=false:=by rw [hc.1,hc.2]; simp
      rw [if_pos h,if_pos hc]
      exact ⟨0,_,[],by rw [Aa.Sub.ev,Rc,h,e,(Fg h1).1,(Fg h1).2,hp,Aqz ⟨rfl,rfl,hc.1.symm,hc.2.symm⟩]; rfl,L4⟩
    · have e:(!((r==p)&&(c==q)))=true:=by
        rw [Bool.not_eq_true',Bool.eq_false_iff]
        intro h
        simp only [Aq9,beq_iff_eq] at h
        exact hc h
      rw [if_pos h,if_neg hc]
      exact ⟨0,_,[],by rw [Aa.Sub.ev,Rc,h,e]; rfl,Ku⟩
  · have e:(Bf r c l&&Bf p q m)=false:=by simpa using h
    rw [if_neg h]
    exact ⟨0,_,[],by rw [Aa.Sub.ev,Rc,e,Agm e]; rfl,Ku⟩
open EqLse
section
variable {N:Nat} {r c p q a b u v:Int} {l m g h:List Int} {w one two done f y Q z:MX}
end
open EqRef14 EqLow
theorem An6 {c:Int} {l:List Int} {i k:Int} (h:D8 l=true):C9 (Eh c l i k)=true:=by
  unfold Eh
  rw [Aq8]
  cases hx:l[(i*c+k).toNat]? with
  | none=>exact (by decide:C9 0=true)
  | some x =>
    unfold D8 at h
    exact List.all_eq_true.1 h x (List.mem_of_getElem? hx)
theorem Aip {r c:Nat} {f:Nat→Nat→Int} (h:∀ i k,C9 (f i k)=true):D8 (Cq r c f)=true:=by
  unfold D8
  rw [List.all_eq_true]
  intro x hx
  obtain ⟨j,_,rfl⟩:=List.mem_map.1 hx
  exact h _ _
section
variable {n Q:Nat} {l m:List Int}
end
open EqRef20
theorem Aad {r c:Int} {l:List Int} {p q:Int} {m:List Int} (h:(loX r c l p q m).2.2.2=0) :
    ∃ (R Q:Nat) (Y:List Int),r=R∧q=Q∧R≤6∧Q≤6∧loX r c l p q m=((R:Int),(Q:Int),Y,0)∧Y.length=R*Q∧D8 Y=true∧Ah Y=true:=by
  have hin:=Ah0 r c l p q m
  unfold loX at h hin ⊢
  by_cases k:M5 r c l p q m=0
  · rw [if_neg (fun h=>h k)] at h hin ⊢
    obtain ⟨h1,h2,rfl,rfl⟩:=Ol k
    obtain ⟨R,C,rfl,hC,r6,c6,hl⟩:=Db h1
    obtain ⟨P,Q,hP,rfl,p6,q6,hl2⟩:=Db h2
    unfold Is at h hin ⊢
    by_cases kf:D8 (loG (R:Int) l (Q:Int) m (R:Int).toNat (Q:Int).toNat)=true
    · rw [if_pos kf] at hin ⊢
      exact ⟨R,Q,_,rfl,rfl,r6,q6,rfl,by unfold loG; rw [Bz,Aq0,Aq0],kf,hin⟩
    · rw [if_neg kf] at h; exact absurd h (by decide)
  · rw [if_pos k] at h; exact absurd h k
theorem Agf {r c:Int} {l:List Int} {p q:Int} {m:List Int} (h:(Vv r c l p q m).2.2.2=0) :
    ∃ (R Q:Nat) (Y:List Int),r=R∧q=Q∧R≤6∧Q≤6∧Vv r c l p q m=((R:Int),(Q:Int),Y,0)∧Y.length=R*Q∧D8 Y=true∧Ah Y=true:=by
  have hin:=Amw r c l p q m
  unfold Vv at h hin ⊢
  by_cases k:M5 r c l p q m=0
  · rw [if_neg (fun h=>h k)] at h hin ⊢
    obtain ⟨h1,h2,rfl,rfl⟩:=Ol k
    obtain ⟨R,C,rfl,hC,r6,c6,hl⟩:=Db h1
    obtain ⟨P,Q,hP,rfl,p6,q6,hl2⟩:=Db h2
    unfold Is at h hin ⊢
    by_cases kf:D8 (Y6 (R:Int) l (Q:Int) m (R:Int).toNat (Q:Int).toNat)=true
    · rw [if_pos kf] at hin ⊢
      exact ⟨R,Q,_,rfl,rfl,r6,q6,rfl,by unfold Y6; rw [Bz,Aq0,Aq0],kf,hin⟩
    · rw [if_neg kf] at h; exact absurd h (by decide)
  · rw [if_pos k] at h; exact absurd h k
def N6 (R C:Nat) (x:MX):Prop:=∃ l,x=((R:Int),(C:Int),l,0)∧R≤6∧C≤6∧l.length=R*C∧Ah l=true
def FM (x:MX):Prop:=D8 x.2.2.1=true
theorem FM.of {r c e:Int} {l:List Int} (h:D8 l=true):FM (r,c,l,e):=h
theorem N6.mk {R C:Nat} {l:List Int} (r6:R≤6) (c6:C≤6) (hl:l.length=R*C) (al:Ah l=true):N6 R C ((R:Int),(C:Int),l,0):=⟨l,rfl,r6,c6,hl,al⟩
section
variable {R C K:Nat} {x y:MX}
theorem N6.right (h:N6 R C x):Bf x.1 x.2.1 x.2.2.1=true:=by
  obtain ⟨l,rfl,r6,c6,hl,al⟩:=h
  exact Qh r6 c6 hl
theorem N6.rows (h:N6 R C x):x.1=R:=by obtain ⟨l,rfl,_⟩:=h; rfl
theorem N6.r6 (h:N6 R C x):R≤6:=by obtain ⟨l,rfl,r6,_⟩:=h; exact r6
theorem N6.c6 (h:N6 R C x):C≤6:=by obtain ⟨l,rfl,_,c6,_⟩:=h; exact c6
theorem N6.len (h:N6 R C x):x.2.2.1.length≤36:=by
  obtain ⟨l,rfl,r6,c6,hl,_⟩:=h
  have:=Nat.mul_le_mul r6 c6
  show l.length≤36
  omega
theorem Zx {i k a b:Nat} (ha:i+a≤R) (hb:k+b≤C):O0 (R:Int) (C:Int) (i:Int) (k:Int) (a:Int) (b:Int)=true:=Aqz (by omega)
theorem N6.part {i k a b:Nat} (h:N6 R C x) (ha:i+a≤R) (hb:k+b≤C):N6 a b (Lb x i k a b):=by
  have hr:=h.right
  obtain ⟨l,rfl,r6,c6,hl,al⟩:=h
  refine ⟨_,by unfold Lb D5; dsimp only; rw [if_pos hr,if_pos (Zx ha hb)],by omega,by omega,by rw [Bz,Aq0,Aq0],Gi fun _ _=>G9 al⟩
theorem FM.part {i k a b:Nat} (h:N6 R C x) (f:FM x) (ha:i+a≤R) (hb:k+b≤C):FM (Lb x i k a b):=by
  have hr:=h.right
  obtain ⟨l,rfl,r6,c6,hl,al⟩:=h
  unfold Lb D5
  dsimp only
  rw [if_pos hr,if_pos (Zx ha hb)]
  exact .of (Aip fun _ _=>An6 (show D8 _=true from f))
theorem N6.mul (h:N6 R K x) (g:N6 K C y):N6 R C (mulM x y):=by
  have hr:=h.right
  have hg:=g.right
  obtain ⟨l,rfl,r6,c6,hl,al⟩:=h
  obtain ⟨m,rfl,p6,q6,hm,am⟩:=g
  refine ⟨_,by unfold mulM M4; rw [hr,hg,Aq4,if_pos rfl,if_pos rfl],r6,q6,by rw [Bz,Aq0,Aq0],Gi fun _ _=>Th _ _⟩
theorem N6.sub (h:N6 R C x) (g:N6 R C y):N6 R C (Anb x y):=by
  have hr:=h.right
  have hg:=g.right
  obtain ⟨l,rfl,r6,c6,hl,al⟩:=h
  obtain ⟨m,rfl,p6,q6,hm,am⟩:=g
  refine ⟨_,by unfold Anb Re; rw [hr,hg,Aq4,if_pos rfl,if_pos ⟨rfl,rfl⟩],r6,c6,by rw [Bz,Aq0,Aq0],Gi fun _ _=>L7 (G9 al) (G9 am)⟩
theorem N6.lo (h:N6 R R x) (g:N6 R C y) (e:(Vg x y).2.2.2=0):N6 R C (Vg x y)∧FM (Vg x y):=by
  obtain ⟨l,rfl,r6,c6,hl,al⟩:=h
  obtain ⟨m,rfl,p6,q6,hm,am⟩:=g
  obtain ⟨P,Q,Y,e1,e2,a6,b6,e3,e4,e5,e6⟩:=Aad e
  dsimp only at e1 e2
  obtain rfl:P=R:=by omega
  obtain rfl:Q=C:=by omega
  have e7:Vg ((P:Int),(P:Int),l,0) ((P:Int),(Q:Int),m,0)=((P:Int),(Q:Int),Y,0):=e3
  rw [e7]
  exact ⟨.mk a6 b6 e4 e6,e5⟩
theorem N6.up (h:N6 R R x) (g:N6 R C y) (e:(upM x y).2.2.2=0):N6 R C (upM x y)∧FM (upM x y):=by
  obtain ⟨l,rfl,r6,c6,hl,al⟩:=h
  obtain ⟨m,rfl,p6,q6,hm,am⟩:=g
  obtain ⟨P,Q,Y,e1,e2,a6,b6,e3,e4,e5,e6⟩:=Agf e
  dsimp only at e1 e2
  obtain rfl:P=R:=by omega
  obtain rfl:Q=C:=by omega
  have e7:upM ((P:Int),(P:Int),l,0) ((P:Int),(Q:Int),m,0)=((P:Int),(Q:Int),Y,0):=e3
  rw [e7]
  exact ⟨.mk a6 b6 e4 e6,e5⟩
end
namespace EqGg
def rq.both.Ba:List (Nat × Entry):=[(167,Aa.C3.spec)]
def rq.both.E:Env:=Bb (A9 rq.both.Ba) (fun _=>false) (fun _=>none) (fun _=>none)
theorem rq.both.ev (N:Nat) (r c:Int) (l:List Int) (p q:Int) (m:List Int):Bv rq.both.E N Tryz.f231 (Am Tryz.f231) [.agg [.int .i64 r,.int .i64 c,.ints .arg .u64 l],.agg [.int .i64 p,.int .i64 q,.ints .arg .u64 m]]=some (.tup [.agg [.int .i64 ((A6 p q m).1),.int .i64 ((A6 p q m).2.1),.ints .fresh .u64 ((A6 p q m).2.2.1)],.agg [.int .i64 ((A6 r c l).1),.int .i64 ((A6 r c l).2.1),.ints .fresh .u64 ((A6 r c l).2.2.1)]]):=by kernel_rfl
abbrev _root_.Go.Proofs.S1.rq.both.Kn:=A4 Tryz.prog 231 rq.both.spec
theorem rq.both.Ad (hk:Ax Tryz.prog rq.both.Ba) (h:∀ (r c:Int) (l:List Int) (p q:Int) (m:List Int),rq.both.pre [.i r,.i c,.l l,.i p,.i q,.l m]=true→Bc rq.both.E Tryz.f231 [.agg [.int .i64 r,.int .i64 c,.ints .arg .u64 l],.agg [.int .i64 p,.int .i64 q,.ints .arg .u64 m]] (rq.both.out [.i r,.i c,.l l,.i p,.i q,.l m])):rq.both.Kn :=
  Al (Ay hk _ _ _) Tryz.func231 (by kernel_rfl) (by kernel_rfl) h
def rq.Lq.Ba:List (Nat × Entry):=[(167,Aa.C3.spec),(166,qr.Cx.spec),(231,rq.both.spec)]
def rq.Lq.E:Env:=Bb (A9 rq.Lq.Ba) (fun _=>false) (fun _=>none) (fun _=>none)
theorem rq.Lq.ev (N:Nat) (r c:Int) (l:List Int):Bv rq.Lq.E N Tryz.f200 (Am Tryz.f200) [.agg [.int .i64 r,.int .i64 c,.ints .arg .u64 l]]=bif (((A6 r c l).2.2.2) !=(0:Int)) then some (.tup [.agg [.int .i64 0,.int .i64 0,.nil],.agg [.int .i64 0,.int .i64 0,.nil],.int .i64 ((A6 r c l).2.2.2)]) else bif (Ah ((A6 r c l).2.2.1)) then bif ((Hd ((A6 r c l).1) ((A6 r c l).2.1) ((A6 r c l).2.2.1)) !=(0:Int)) then some (.tup [.agg [.int .i64 0,.int .i64 0,.nil],.agg [.int .i64 0,.int .i64 0,.nil],.int .i64 (Hd ((A6 r c l).1) ((A6 r c l).2.1) ((A6 r c l).2.2.1))]) else some (.tup [.agg [.int .i64 ((A6 ((rX ((A6 r c l).1) ((A6 r c l).2.1) ((A6 r c l).2.2.1)).1) ((rX ((A6 r c l).1) ((A6 r c l).2.1) ((A6 r c l).2.2.1)).2.1) ((rX ((A6 r c l).1) ((A6 r c l).2.1) ((A6 r c l).2.2.1)).2.2.1)).1),.int .i64 ((A6 ((rX ((A6 r c l).1) ((A6 r c l).2.1) ((A6 r c l).2.2.1)).1) ((rX ((A6 r c l).1) ((A6 r c l).2.1) ((A6 r c l).2.2.1)).2.1) ((rX ((A6 r c l).1) ((A6 r c l).2.1) ((A6 r c l).2.2.1)).2.2.1)).2.1),.ints .fresh .u64 ((A6 ((rX ((A6 r c l).1) ((A6 r c l).2.1) ((A6 r c l).2.2.1)).1) ((rX ((A6 r c l).1) ((A6 r c l).2.1) ((A6 r c l).2.2.1)).2.1) ((rX ((A6 r c l).1) ((A6 r c l).2.1) ((A6 r c l).2.2.1)).2.2.1)).2.2.1)],.agg [.int .i64 ((A6 ((qX ((A6 r c l).1) ((A6 r c l).2.1) ((A6 r c l).2.2.1)).1) ((qX ((A6 r c l).1) ((A6 r c l).2.1) ((A6 r c l).2.2.1)).2.1) ((qX ((A6 r c l).1) ((A6 r c l).2.1) ((A6 r c l).2.2.1)).2.2.1)).1),.int .i64 ((A6 ((qX ((A6 r c l).1) ((A6 r c l).2.1) ((A6 r c l).2.2.1)).1) ((qX ((A6 r c l).1) ((A6 r c l).2.1) ((A6 r c l).2.2.1)).2.1) ((qX ((A6 r c l).1) ((A6 r c l).2.1) ((A6 r c l).2.2.1)).2.2.1)).2.1),.ints .fresh .u64 ((A6 ((qX ((A6 r c l).1) ((A6 r c l).2.1) ((A6 r c l).2.2.1)).1) ((qX ((A6 r c l).1) ((A6 r c l).2.1) ((A6 r c l).2.2.1)).2.1) ((qX ((A6 r c l).1) ((A6 r c l).2.1) ((A6 r c l).2.2.1)).2.2.1)).2.2.1)],.int .i64 0]) else none:=by kernel_rfl
abbrev _root_.Go.Proofs.S1.rq.Lq.Kn:=A4 Tryz.prog 200 rq.Lq.spec
theorem rq.Lq.Ad (hk:Ax Tryz.prog rq.Lq.Ba) (h:∀ (r c:Int) (l:List Int),rq.Lq.pre [.i r,.i c,.l l]=true→Bc rq.Lq.E Tryz.f200 [.agg [.int .i64 r,.int .i64 c,.ints .arg .u64 l]] (rq.Lq.out [.i r,.i c,.l l])):rq.Lq.Kn :=
  Al (Ay hk _ _ _) Tryz.func200 (by kernel_rfl) (by kernel_rfl) h
def A2.Check.hint:Nat→Option A5
  | 0=>some { keep:=[1,14,15],objs:=[],boxes:=[1] }
  | _=>none
def A2.Check.Ba:List (Nat × Entry):=[(86,B4.Check.spec)]
def A2.Check.E:Env:=Bb (A9 A2.Check.Ba) (fun _=>false) A2.Check.hint (fun _=>none)
theorem A2.Check.ev (N:Nat) (r c:Int) (l:List Int) (p q:Int) (m:List Int) (u v:Int) (h:List Int):Bv A2.Check.E (N+5) Tryz.f56 (Am Tryz.f56) [.agg [.int .i64 r,.int .i64 c,.ints .arg .u64 l,.int .i64 p,.int .i64 q,.ints .arg .u64 m,.int .i64 u,.int .i64 v,.ints .arg .u64 h]]=bif (Ah l) then bif ((Bx r c l) !=(0:Int)) then some (.int .i64 (Bx r c l)) else bif (Ah m) then bif ((Bx p q m) !=(0:Int)) then some (.int .i64 (Bx p q m)) else bif (Ah h) then bif ((Bx u v h) !=(0:Int)) then some (.int .i64 (Bx u v h)) else bif (((((p !=r)||(u !=r))||(v !=(1:Int)))||(A1 r c))||(A1 (Ab (c+q)) r)) then some (.int .i64 3) else some (.int .i64 0) else none else none else none :=
  Eq.trans (by kernel_rfl)
  (E2 (E2 rfl (E2 (E2 rfl (E2 (E2 rfl (Ap (Tq (p !=r)) (Ap (Rd (p !=r)) (Ap (Rd (p !=r)) (Ap (Tq (p !=r)) (Ap (tt8 (p !=r)) (Ap (Y8 (p !=r)) (Ap (Ad9 (p !=r) (u !=r)) (Ap (Xb (p !=r) (u !=r)) (Ap (Xb (p !=r) (u !=r)) (Ap (Xb (p !=r) (u !=r)) (Ap (Aj5 (p !=r) (u !=r)) (Ap (Aea (p !=r) (u !=r) (v !=(1:Int))) (Ap (Aea (p !=r) (u !=r) (v !=(1:Int))) (Ap (Amd (p !=r) (u !=r) (v !=(1:Int))) (Ap (Aj6 (p !=r) (u !=r) (v !=(1:Int))) (Ap (Vh (p !=r) (u !=r) (v !=(1:Int)) (A1 r c)) (Ap (Vh (p !=r) (u !=r) (v !=(1:Int)) (A1 r c)) (Ap (Vh (p !=r) (u !=r) (v !=(1:Int)) (A1 r c)) (Ap (Vi (p !=r) (u !=r) (v !=(1:Int)) (A1 r c)) (Ap (Vi (p !=r) (u !=r) (v !=(1:Int)) (A1 r c)) (Ap (Aec (p !=r) (u !=r) (v !=(1:Int)) (A1 r c)) (Ap (Aec (p !=r) (u !=r) (v !=(1:Int)) (A1 r c)) (Ap (Aj7 (p !=r) (u !=r) (v !=(1:Int)) (A1 r c)) (Cy (Am1 (p !=r) (u !=r) (v !=(1:Int)) (A1 r c) (A1 (Ab (c+q)) r)) rfl rfl))))))))))))))))))))))))) rfl)) rfl)) rfl)
abbrev _root_.Go.Proofs.S1.A2.Check.Kn:=A4 Tryz.prog 56 A2.Check.spec
theorem A2.Check.Ad (hk:Ax Tryz.prog A2.Check.Ba) (h:∀ (r c:Int) (l:List Int) (p q:Int) (m:List Int) (u v:Int) (h:List Int),A2.Check.pre [.i r,.i c,.l l,.i p,.i q,.l m,.i u,.i v,.l h]=true→Bc A2.Check.E Tryz.f56 [.agg [.int .i64 r,.int .i64 c,.ints .arg .u64 l,.int .i64 p,.int .i64 q,.ints .arg .u64 m,.int .i64 u,.int .i64 v,.ints .arg .u64 h]] (A2.Check.out [.i r,.i c,.l l,.i p,.i q,.l m,.i u,.i v,.l h])):A2.Check.Kn :=
  Al (Ay hk _ _ _) Tryz.func56 (by kernel_rfl) (by kernel_rfl) h
def A2.D3.Ba:List (Nat × Entry):=[(124,Aa.Part.spec)]
def A2.D3.E:Env:=Bb (A9 A2.D3.Ba) (fun _=>false) (fun _=>none) (fun _=>none)
theorem A2.D3.ev (N:Nat) (r c:Int) (l:List Int) (x y:Int):Bv A2.D3.E N Tryz.f199 (Am Tryz.f199) [.agg [.int .i64 r,.int .i64 c,.ints .arg .u64 l],.int .i64 x,.int .i64 y]=some (.agg [.int .i64 ((D5 r c l x 0 (Ab (y-x)) c).1),.int .i64 ((D5 r c l x 0 (Ab (y-x)) c).2.1),.ints .fresh .u64 ((D5 r c l x 0 (Ab (y-x)) c).2.2.1)]):=by kernel_rfl
abbrev _root_.Go.Proofs.S1.A2.D3.Kn:=A4 Tryz.prog 199 A2.D3.spec
theorem A2.D3.Ad (hk:Ax Tryz.prog A2.D3.Ba) (h:∀ (r c:Int) (l:List Int) (x y:Int),A2.D3.pre [.i r,.i c,.l l,.i x,.i y]=true→Bc A2.D3.E Tryz.f199 [.agg [.int .i64 r,.int .i64 c,.ints .arg .u64 l],.int .i64 x,.int .i64 y] (A2.D3.out [.i r,.i c,.l l,.i x,.i y])):A2.D3.Kn :=
  Al (Ay hk _ _ _) Tryz.func199 (by kernel_rfl) (by kernel_rfl) h
def A2.apart.Ba:List (Nat × Entry):=[(86,B4.Check.spec),(199,A2.D3.spec),(166,qr.Cx.spec),(98,qr.Ed.spec),(24,solve.Flat.spec)]
def A2.apart.live:Nat→Option (List Nat)
  | 2=>some [1,2,4,5,6]
  | 7=>some [1,2,4,7,8,9,10]
  | 11=>some [1,2,4,7,8,9,10,13]
  | 12=>some [2,7,8,9,10,13,15]
  | 14=>some [2,7,8,9,10,13,15]
  | _=>none
def A2.apart.E:Env:=Bb (A9 A2.apart.Ba) (fun _=>false) (fun _=>none) A2.apart.live
def A2.apart.C2 (N:Nat) (r c:Int) (l:List Int) (p q:Int) (m:List Int) (u v:Int) (h:List Int) (p6 p5 p5_1:Int) (p5_2:List Int) (p4 p4_1:Int) (p4_2:List Int):Option DV:=cutAt A2.apart.E N Tryz.f135 (Am Tryz.f135) [1,1,0] [] ⟨Fw 88 [(1,.ptr 1 0 0),(2,.ptr 2 0 0),(4,.ptr 4 0 0),(5,.ptr 5 0 0),(6,.int .i64 p6)],[(5,false,.box [.int .i64 p5,.int .i64 p5_1,.ints .arg .u64 p5_2]),(4,false,.box [.int .i64 p4,.int .i64 p4_1,.ints .arg .u64 p4_2]),(2,false,.box [.int .i64 0,.int .i64 0,.nil,.int .i64 0,.int .i64 0,.nil,.int .i64 0,.int .i64 0,.nil,.int .i64 0,.int .i64 0,.nil,.int .i64 0,.int .i64 0,.nil]),(1,false,.box [.int .i64 r,.int .i64 c,.ints .arg .u64 l,.int .i64 p,.int .i64 q,.ints .arg .u64 m,.int .i64 u,.int .i64 v,.ints .arg .u64 h])]⟩
def A2.apart.C7 (N:Nat) (r c:Int) (l:List Int) (p q:Int) (m:List Int) (u v:Int) (h:List Int) (p5 p5_1:Int) (p5_2:List Int) (p4 p4_1:Int) (p4_2:List Int) (p10 p10_1:Int) (p10_2:List Int):Option DV:=cutAt A2.apart.E N Tryz.f135 (Am Tryz.f135) [1,1,1,1,1,1,0] [] ⟨Fw 88 [(1,.ptr 1 0 0),(2,.ptr 2 0 0),(4,.ptr 4 0 0),(7,.int .i64 r),(8,.int .i64 c),(9,.fn 199 [] []),(10,.ptr 10 0 0)],[(10,false,.box [.int .i64 p10,.int .i64 p10_1,.ints .fresh .u64 p10_2]),(5,false,.box [.int .i64 p5,.int .i64 p5_1,.ints .arg .u64 p5_2]),(4,false,.box [.int .i64 p4,.int .i64 p4_1,.ints .arg .u64 p4_2]),(2,false,.box [.int .i64 0,.int .i64 0,.nil,.int .i64 0,.int .i64 0,.nil,.int .i64 0,.int .i64 0,.nil,.int .i64 0,.int .i64 0,.nil,.int .i64 0,.int .i64 0,.nil]),(1,false,.box [.int .i64 r,.int .i64 c,.ints .arg .u64 l,.int .i64 p,.int .i64 q,.ints .arg .u64 m,.int .i64 u,.int .i64 v,.ints .arg .u64 h])]⟩
def A2.apart.C11 (N:Nat) (r c:Int) (l:List Int) (p q:Int) (m:List Int) (u v:Int) (h:List Int) (p5 p5_1:Int) (p5_2:List Int) (p4 p4_1:Int) (p4_2:List Int) (p10 p10_1:Int) (p10_2:List Int) (p13 p13_1:Int) (p13_2:List Int):Option DV:=cutAt A2.apart.E N Tryz.f135 (Am Tryz.f135) [1,1,1,1,1,1,1,1] [] ⟨Fw 88 [(1,.ptr 1 0 0),(2,.ptr 2 0 0),(4,.ptr 4 0 0),(7,.int .i64 r),(8,.int .i64 c),(9,.fn 199 [] []),(10,.ptr 10 0 0),(13,.ptr 13 0 0)],[(13,false,.box [.int .i64 p13,.int .i64 p13_1,.ints .fresh .u64 p13_2]),(10,false,.box [.int .i64 p10,.int .i64 p10_1,.ints .fresh .u64 p10_2]),(5,false,.box [.int .i64 p5,.int .i64 p5_1,.ints .arg .u64 p5_2]),(4,false,.box [.int .i64 p4,.int .i64 p4_1,.ints .arg .u64 p4_2]),(2,false,.box [.int .i64 0,.int .i64 0,.nil,.int .i64 0,.int .i64 0,.nil,.int .i64 0,.int .i64 0,.nil,.int .i64 0,.int .i64 0,.nil,.int .i64 0,.int .i64 0,.nil]),(1,false,.box [.int .i64 r,.int .i64 c,.ints .arg .u64 l,.int .i64 p,.int .i64 q,.ints .arg .u64 m,.int .i64 u,.int .i64 v,.ints .arg .u64 h])]⟩
def A2.apart.C12 (N:Nat) (r c:Int) (l:List Int) (p q:Int) (m:List Int) (u v:Int) (h:List Int) (p5 p5_1:Int) (p5_2:List Int) (p4 p4_1:Int) (p4_2:List Int) (p10 p10_1:Int) (p10_2:List Int) (p13 p13_1:Int) (p13_2:List Int) (p15 p15_1:Int) (p15_2:List Int):Option DV:=cutAt A2.apart.E N Tryz.f135 (Am Tryz.f135) [1,1,1,1,1,1,1,1,1,0] [] ⟨Fw 88 [(2,.ptr 2 0 0),(7,.int .i64 r),(8,.int .i64 c),(9,.fn 199 [] []),(10,.ptr 10 0 0),(13,.ptr 13 0 0),(15,.ptr 15 0 0)],[(15,false,.box [.int .i64 p15,.int .i64 p15_1,.ints .fresh .u64 p15_2]),(13,false,.box [.int .i64 p13,.int .i64 p13_1,.ints .fresh .u64 p13_2]),(10,false,.box [.int .i64 p10,.int .i64 p10_1,.ints .fresh .u64 p10_2]),(5,false,.box [.int .i64 p5,.int .i64 p5_1,.ints .arg .u64 p5_2]),(4,false,.box [.int .i64 p4,.int .i64 p4_1,.ints .arg .u64 p4_2]),(2,false,.box [.int .i64 0,.int .i64 0,.nil,.int .i64 0,.int .i64 0,.nil,.int .i64 0,.int .i64 0,.nil,.int .i64 0,.int .i64 0,.nil,.int .i64 0,.int .i64 0,.nil]),(1,false,.box [.int .i64 r,.int .i64 c,.ints .arg .u64 l,.int .i64 p,.int .i64 q,.ints .arg .u64 m,.int .i64 u,.int .i64 v,.ints .arg .u64 h])]⟩
def A2.apart.C14 (N:Nat) (r c:Int) (l:List Int) (p q:Int) (m:List Int) (u v:Int) (h:List Int) (p5 p5_1:Int) (p5_2:List Int) (p4 p4_1:Int) (p4_2:List Int) (p10 p10_1:Int) (p10_2:List Int) (p13 p13_1:Int) (p13_2:List Int) (p15 p15_1:Int) (p15_2:List Int):Option DV:=cutAt A2.apart.E N Tryz.f135 (Am Tryz.f135) [1,1,1,1,1,1,1,1,1,1] [] ⟨Fw 88 [(2,.ptr 2 0 0),(7,.int .i64 r),(8,.int .i64 c),(9,.fn 199 [] []),(10,.ptr 10 0 0),(13,.ptr 13 0 0),(15,.ptr 15 0 0)],[(15,false,.box [.int .i64 p15,.int .i64 p15_1,.ints .fresh .u64 p15_2]),(13,false,.box [.int .i64 p13,.int .i64 p13_1,.ints .fresh .u64 p13_2]),(10,false,.box [.int .i64 p10,.int .i64 p10_1,.ints .fresh .u64 p10_2]),(5,false,.box [.int .i64 p5,.int .i64 p5_1,.ints .arg .u64 p5_2]),(4,false,.box [.int .i64 p4,.int .i64 p4_1,.ints .arg .u64 p4_2]),(2,false,.box [.int .i64 0,.int .i64 0,.nil,.int .i64 0,.int .i64 0,.nil,.int .i64 0,.int .i64 0,.nil,.int .i64 0,.int .i64 0,.nil,.int .i64 0,.int .i64 0,.nil]),(1,false,.box [.int .i64 r,.int .i64 c,.ints .arg .u64 l,.int .i64 p,.int .i64 q,.ints .arg .u64 m,.int .i64 u,.int .i64 v,.ints .arg .u64 h])]⟩
theorem A2.apart.Ajt (N:Nat) (r c:Int) (l:List Int) (p q:Int) (m:List Int) (u v:Int) (h:List Int) (p6 p5 p5_1:Int) (p5_2:List Int) (p4 p4_1:Int) (p4_2:List Int):A2.apart.C2 N r c l p q m u v h p6 p5 p5_1 p5_2 p4 p4_1 p4_2=bif (p6 !=(0:Int)) then some (.tup [.agg [.int .i64 0,.int .i64 0,.nil,.int .i64 0,.int .i64 0,.nil,.int .i64 0,.int .i64 0,.nil,.int .i64 0,.int .i64 0,.nil,.int .i64 0,.int .i64 0,.nil],.int .i64 p6]) else bif (Cn (-100≤(0:Int)∧(0:Int)≤100∧-100≤c∧c≤100)) then A2.apart.C7 N r c l p q m u v h p5 p5_1 p5_2 p4 p4_1 p4_2 ((D5 p5 p5_1 p5_2 0 0 (c-0) p5_1).1) ((D5 p5 p5_1 p5_2 0 0 (c-0) p5_1).2.1) ((D5 p5 p5_1 p5_2 0 0 (c-0) p5_1).2.2.1) else none:=(Dr _ _ _ _ _ _ _).trans (by kernel_rfl)
theorem A2.apart.Ajs (N:Nat) (r c:Int) (l:List Int) (p q:Int) (m:List Int) (u v:Int) (h:List Int) (p5 p5_1:Int) (p5_2:List Int) (p4 p4_1:Int) (p4_2:List Int) (p10 p10_1:Int) (p10_2:List Int):A2.apart.C7 N r c l p q m u v h p5 p5_1 p5_2 p4 p4_1 p4_2 p10 p10_1 p10_2=bif (Ah p10_2) then bif ((Mz p10 p10_1 p10_2).1) then some (.tup [.agg [.int .i64 0,.int .i64 0,.nil,.int .i64 0,.int .i64 0,.nil,.int .i64 0,.int .i64 0,.nil,.int .i64 0,.int .i64 0,.nil,.int .i64 0,.int .i64 0,.nil],.int .i64 5]) else bif (Ah p4_2&&Ah h) then A2.apart.C11 N r c l p q m u v h p5 p5_1 p5_2 p4 p4_1 p4_2 p10 p10_1 p10_2 ((Ef p4 p4_1 p4_2 u v h).1) ((Ef p4 p4_1 p4_2 u v h).2.1) ((Ef p4 p4_1 p4_2 u v h).2.2.1) else none else none:=(Dr _ _ _ _ _ _ _).trans (by kernel_rfl)
theorem A2.apart.Ac6 (N:Nat) (r c:Int) (l:List Int) (p q:Int) (m:List Int) (u v:Int) (h:List Int) (p5 p5_1:Int) (p5_2:List Int) (p4 p4_1:Int) (p4_2:List Int) (p10 p10_1:Int) (p10_2:List Int) (p13 p13_1:Int) (p13_2:List Int):A2.apart.C11 N r c l p q m u v h p5 p5_1 p5_2 p4 p4_1 p4_2 p10 p10_1 p10_2 p13 p13_1 p13_2=bif (Ah p4_2&&Ah m) then A2.apart.C12 N r c l p q m u v h p5 p5_1 p5_2 p4 p4_1 p4_2 p10 p10_1 p10_2 p13 p13_1 p13_2 ((Ef p4 p4_1 p4_2 p q m).1) ((Ef p4 p4_1 p4_2 p q m).2.1) ((Ef p4 p4_1 p4_2 p q m).2.2.1) else none:=(Dr _ _ _ _ _ _ _).trans (by kernel_rfl)
theorem A2.apart.Vf (N:Nat) (r c:Int) (l:List Int) (p q:Int) (m:List Int) (u v:Int) (h:List Int) (p5 p5_1:Int) (p5_2:List Int) (p4 p4_1:Int) (p4_2:List Int) (p10 p10_1:Int) (p10_2:List Int) (p13 p13_1:Int) (p13_2:List Int) (p15 p15_1:Int) (p15_2:List Int):A2.apart.C12 N r c l p q m u v h p5 p5_1 p5_2 p4 p4_1 p4_2 p10 p10_1 p10_2 p13 p13_1 p13_2 p15 p15_1 p15_2=bif (Ah p13_2) then bif (((Bx p13 p13_1 p13_2) !=(0:Int))||(Ah p15_2)) then bif (((Bx p13 p13_1 p13_2) !=(0:Int))||((Bx p15 p15_1 p15_2) !=(0:Int))) then some (.tup [.agg [.int .i64 0,.int .i64 0,.nil,.int .i64 0,.int .i64 0,.nil,.int .i64 0,.int .i64 0,.nil,.int .i64 0,.int .i64 0,.nil,.int .i64 0,.int .i64 0,.nil],.int .i64 2]) else A2.apart.C14 N r c l p q m u v h p5 p5_1 p5_2 p4 p4_1 p4_2 p10 p10_1 p10_2 p13 p13_1 p13_2 p15 p15_1 p15_2 else none else none :=
  Eq.trans ((Dr _ _ _ _ _ _ _).trans (by kernel_rfl))
  (E2 (Ap (Tq ((Bx p13 p13_1 p13_2) !=(0:Int))) (Cy (Apg ((Bx p13 p13_1 p13_2) !=(0:Int)) (Ah p15_2)) (Ap (Rd ((Bx p13 p13_1 p13_2) !=(0:Int))) (Ap (Y8 ((Bx p13 p13_1 p13_2) !=(0:Int))) (Cy (tt5 ((Bx p13 p13_1 p13_2) !=(0:Int)) ((Bx p15 p15_1 p15_2) !=(0:Int))) rfl rfl))) rfl)) rfl)
theorem A2.apart.Ve (N:Nat) (r c:Int) (l:List Int) (p q:Int) (m:List Int) (u v:Int) (h:List Int) (p5 p5_1:Int) (p5_2:List Int) (p4 p4_1:Int) (p4_2:List Int) (p10 p10_1:Int) (p10_2:List Int) (p13 p13_1:Int) (p13_2:List Int) (p15 p15_1:Int) (p15_2:List Int):A2.apart.C14 N r c l p q m u v h p5 p5_1 p5_2 p4 p4_1 p4_2 p10 p10_1 p10_2 p13 p13_1 p13_2 p15 p15_1 p15_2=bif (Cn (-100≤(0:Int)∧(0:Int)≤100∧-100≤c∧c≤100)) then bif (Cn (-100≤c∧c≤100∧-100≤r∧r≤100)) then bif (Cn (-100≤(0:Int)∧(0:Int)≤100∧-100≤c∧c≤100)) then bif (Cn (-100≤c∧c≤100∧-100≤r∧r≤100)) then some (.tup [.agg [.int .i64 p10,.int .i64 p10_1,.ints .fresh .u64 p10_2,.int .i64 ((D5 p13 p13_1 p13_2 0 0 (c-0) p13_1).1),.int .i64 ((D5 p13 p13_1 p13_2 0 0 (c-0) p13_1).2.1),.ints .fresh .u64 ((D5 p13 p13_1 p13_2 0 0 (c-0) p13_1).2.2.1),.int .i64 ((D5 p13 p13_1 p13_2 c 0 (r-c) p13_1).1),.int .i64 ((D5 p13 p13_1 p13_2 c 0 (r-c) p13_1).2.1),.ints .fresh .u64 ((D5 p13 p13_1 p13_2 c 0 (r-c) p13_1).2.2.1),.int .i64 ((D5 p15 p15_1 p15_2 0 0 (c-0) p15_1).1),.int .i64 ((D5 p15 p15_1 p15_2 0 0 (c-0) p15_1).2.1),.ints .fresh .u64 ((D5 p15 p15_1 p15_2 0 0 (c-0) p15_1).2.2.1),.int .i64 ((D5 p15 p15_1 p15_2 c 0 (r-c) p15_1).1),.int .i64 ((D5 p15 p15_1 p15_2 c 0 (r-c) p15_1).2.1),.ints .fresh .u64 ((D5 p15 p15_1 p15_2 c 0 (r-c) p15_1).2.2.1)],.int .i64 0]) else none else none else none else none :=
  Eq.trans ((Dr _ _ _ _ _ _ _).trans (by kernel_rfl))
  (Cy (Cz (Cn (-100≤(0:Int)∧(0:Int)≤100∧-100≤c∧c≤100))) (Cy (Cz (Cn (-100≤c∧c≤100∧-100≤r∧r≤100))) (Cy (Cz (Cn (-100≤(0:Int)∧(0:Int)≤100∧-100≤c∧c≤100))) (Cy (Cz (Cn (-100≤c∧c≤100∧-100≤r∧r≤100))) rfl rfl) rfl) rfl) rfl)
theorem A2.apart.ev (N:Nat) (r c:Int) (l:List Int) (p q:Int) (m:List Int) (u v:Int) (h:List Int):Bv A2.apart.E N Tryz.f135 (Am Tryz.f135) [.agg [.int .i64 r,.int .i64 c,.ints .arg .u64 l,.int .i64 p,.int .i64 q,.ints .arg .u64 m,.int .i64 u,.int .i64 v,.ints .arg .u64 h]]=bif (Ah l) then A2.apart.C2 N r c l p q m u v h (Hd r c l) ((rX r c l).1) ((rX r c l).2.1) ((rX r c l).2.2.1) ((qX r c l).1) ((qX r c l).2.1) ((qX r c l).2.2.1) else none:=by kernel_rfl
abbrev _root_.Go.Proofs.S1.A2.apart.Kn:=A4 Tryz.prog 135 A2.apart.spec
theorem A2.apart.Ad (hk:Ax Tryz.prog A2.apart.Ba) (h:∀ (r c:Int) (l:List Int) (p q:Int) (m:List Int) (u v:Int) (h:List Int),A2.apart.pre [.i r,.i c,.l l,.i p,.i q,.l m,.i u,.i v,.l h]=true→Bc A2.apart.E Tryz.f135 [.agg [.int .i64 r,.int .i64 c,.ints .arg .u64 l,.int .i64 p,.int .i64 q,.ints .arg .u64 m,.int .i64 u,.int .i64 v,.ints .arg .u64 h]] (A2.apart.out [.i r,.i c,.l l,.i p,.i q,.l m,.i u,.i v,.l h])):A2.apart.Kn :=
  Al (Ay hk _ _ _) Tryz.func135 (by kernel_rfl) (by kernel_rfl) h
def A2.errors.Ba:List (Nat × Entry):=[(86,B4.Check.spec),(124,Aa.Part.spec),(98,qr.Ed.spec),(200,rq.Lq.spec),(24,solve.Flat.spec),(22,solve.Gq.spec)]
def A2.errors.live:Nat→Option (List Nat)
  | 2=>some [2,3,4,6,7,8]
  | 6=>some [3,4,7,9,10]
  | 10=>some [4,7,8,9,14]
  | 13=>some [4,14,15]
  | 14=>some [4,8,17]
  | _=>none
def A2.errors.E:Env:=Bb (A9 A2.errors.Ba) (fun _=>false) (fun _=>none) A2.errors.live
def A2.errors.C2 (N:Nat) (r c:Int) (l:List Int) (p q:Int) (m:List Int) (p8 p7 p7_1:Int) (p7_2:List Int) (p6 p6_1:Int) (p6_2:List Int):Option DV:=cutAt A2.errors.E N Tryz.f136 (Am Tryz.f136) [1,1,0] [] ⟨Fw 77 [(2,.ptr 2 0 0),(3,.ptr 3 0 0),(4,.ptr 4 0 0),(6,.ptr 6 0 0),(7,.ptr 7 0 0),(8,.int .i64 p8)],[(7,false,.box [.int .i64 p7,.int .i64 p7_1,.ints .fresh .u64 p7_2]),(6,false,.box [.int .i64 p6,.int .i64 p6_1,.ints .fresh .u64 p6_2]),(4,false,.box [.int .i64 0,.int .i64 0,.nil]),(3,false,.box [.int .i64 p,.int .i64 q,.ints .arg .u64 m]),(2,false,.box [.int .i64 r,.int .i64 c,.ints .arg .u64 l])]⟩
def A2.errors.C6 (N:Nat) (r c:Int) (l:List Int) (p q:Int) (m:List Int) (p7 p7_1:Int) (p7_2:List Int) (p6 p6_1:Int) (p6_2:List Int) (p10 p10_1:Int) (p10_2:List Int):Option DV:=cutAt A2.errors.E N Tryz.f136 (Am Tryz.f136) [1,1,1,1,1,0] [] ⟨Fw 77 [(3,.ptr 3 0 0),(4,.ptr 4 0 0),(7,.ptr 7 0 0),(9,.int .i64 r),(10,.ptr 10 0 0)],[(10,false,.box [.int .i64 p10,.int .i64 p10_1,.ints .fresh .u64 p10_2]),(7,false,.box [.int .i64 p7,.int .i64 p7_1,.ints .fresh .u64 p7_2]),(6,false,.box [.int .i64 p6,.int .i64 p6_1,.ints .fresh .u64 p6_2]),(4,false,.box [.int .i64 0,.int .i64 0,.nil]),(3,false,.box [.int .i64 p,.int .i64 q,.ints .arg .u64 m]),(2,false,.box [.int .i64 r,.int .i64 c,.ints .arg .u64 l])]⟩
def A2.errors.C10 (N:Nat) (r c:Int) (l:List Int) (p q:Int) (m:List Int) (p7 p7_1:Int) (p7_2:List Int) (p6 p6_1:Int) (p6_2:List Int) (p10 p10_1:Int) (p10_2:List Int) (p8_1 p14 p14_1:Int) (p14_2:List Int):Option DV:=cutAt A2.errors.E N Tryz.f136 (Am Tryz.f136) [1,1,1,1,1,1,1,0] [] ⟨Fw 77 [(4,.ptr 4 0 0),(7,.ptr 7 0 0),(8,.int .i64 p8_1),(9,.int .i64 r),(14,.ptr 14 0 0)],[(14,false,.box [.int .i64 p14,.int .i64 p14_1,.ints .fresh .u64 p14_2]),(10,false,.box [.int .i64 p10,.int .i64 p10_1,.ints .fresh .u64 p10_2]),(7,false,.box [.int .i64 p7,.int .i64 p7_1,.ints .fresh .u64 p7_2]),(6,false,.box [.int .i64 p6,.int .i64 p6_1,.ints .fresh .u64 p6_2]),(4,false,.box [.int .i64 0,.int .i64 0,.nil]),(3,false,.box [.int .i64 p,.int .i64 q,.ints .arg .u64 m]),(2,false,.box [.int .i64 r,.int .i64 c,.ints .arg .u64 l])]⟩
def A2.errors.C13 (N:Nat) (r c:Int) (l:List Int) (p q:Int) (m:List Int) (p7 p7_1:Int) (p7_2:List Int) (p6 p6_1:Int) (p6_2:List Int) (p10 p10_1:Int) (p10_2:List Int) (p14 p14_1:Int) (p14_2:List Int) (p15 p15_1:Int) (p15_2:List Int):Option DV:=cutAt A2.errors.E N Tryz.f136 (Am Tryz.f136) [1,1,1,1,1,1,1,1,1] [] ⟨Fw 77 [(4,.ptr 4 0 0),(14,.ptr 14 0 0),(15,.ptr 15 0 0)],[(15,false,.box [.int .i64 p15,.int .i64 p15_1,.ints .fresh .u64 p15_2]),(14,false,.box [.int .i64 p14,.int .i64 p14_1,.ints .fresh .u64 p14_2]),(10,false,.box [.int .i64 p10,.int .i64 p10_1,.ints .fresh .u64 p10_2]),(7,false,.box [.int .i64 p7,.int .i64 p7_1,.ints .fresh .u64 p7_2]),(6,false,.box [.int .i64 p6,.int .i64 p6_1,.ints .fresh .u64 p6_2]),(4,false,.box [.int .i64 0,.int .i64 0,.nil]),(3,false,.box [.int .i64 p,.int .i64 q,.ints .arg .u64 m]),(2,false,.box [.int .i64 r,.int .i64 c,.ints .arg .u64 l])]⟩
def A2.errors.C14 (N:Nat) (r c:Int) (l:List Int) (p q:Int) (m:List Int) (p7 p7_1:Int) (p7_2:List Int) (p6 p6_1:Int) (p6_2:List Int) (p10 p10_1:Int) (p10_2:List Int) (p14 p14_1:Int) (p14_2:List Int) (p15 p15_1:Int) (p15_2:List Int) (p8_2 p17 p17_1:Int) (p17_2:List Int):Option DV:=cutAt A2.errors.E N Tryz.f136 (Am Tryz.f136) [1,1,1,1,1,1,1,1,1,1,0] [] ⟨Fw 77 [(4,.ptr 4 0 0),(8,.int .i64 p8_2),(17,.ptr 17 0 0)],[(17,false,.box [.int .i64 p17,.int .i64 p17_1,.ints .fresh .u64 p17_2]),(15,false,.box [.int .i64 p15,.int .i64 p15_1,.ints .fresh .u64 p15_2]),(14,false,.box [.int .i64 p14,.int .i64 p14_1,.ints .fresh .u64 p14_2]),(10,false,.box [.int .i64 p10,.int .i64 p10_1,.ints .fresh .u64 p10_2]),(7,false,.box [.int .i64 p7,.int .i64 p7_1,.ints .fresh .u64 p7_2]),(6,false,.box [.int .i64 p6,.int .i64 p6_1,.ints .fresh .u64 p6_2]),(4,false,.box [.int .i64 0,.int .i64 0,.nil]),(3,false,.box [.int .i64 p,.int .i64 q,.ints .arg .u64 m]),(2,false,.box [.int .i64 r,.int .i64 c,.ints .arg .u64 l])]⟩
theorem A2.errors.Ajt (N:Nat) (r c:Int) (l:List Int) (p q:Int) (m:List Int) (p8 p7 p7_1:Int) (p7_2:List Int) (p6 p6_1:Int) (p6_2:List Int):A2.errors.C2 N r c l p q m p8 p7 p7_1 p7_2 p6 p6_1 p6_2=bif (p8 !=(0:Int)) then some (.tup [.agg [.int .i64 0,.int .i64 0,.nil],.int .i64 p8]) else A2.errors.C6 N r c l p q m p7 p7_1 p7_2 p6 p6_1 p6_2 ((D5 p6 p6_1 p6_2 0 0 r r).1) ((D5 p6 p6_1 p6_2 0 0 r r).2.1) ((D5 p6 p6_1 p6_2 0 0 r r).2.2.1):=(Dr _ _ _ _ _ _ _).trans (by kernel_rfl)
theorem A2.errors.Aqv (N:Nat) (r c:Int) (l:List Int) (p q:Int) (m:List Int) (p7 p7_1:Int) (p7_2:List Int) (p6 p6_1:Int) (p6_2:List Int) (p10 p10_1:Int) (p10_2:List Int):A2.errors.C6 N r c l p q m p7 p7_1 p7_2 p6 p6_1 p6_2 p10 p10_1 p10_2=bif (Ah p10_2) then bif ((Mz p10 p10_1 p10_2).1) then some (.tup [.agg [.int .i64 0,.int .i64 0,.nil],.int .i64 5]) else bif (Ah p10_2&&Ah m) then A2.errors.C10 N r c l p q m p7 p7_1 p7_2 p6 p6_1 p6_2 p10 p10_1 p10_2 ((loX p10 p10_1 p10_2 p q m).2.2.2) ((loX p10 p10_1 p10_2 p q m).1) ((loX p10 p10_1 p10_2 p q m).2.1) ((loX p10 p10_1 p10_2 p q m).2.2.1) else none else none:=(Dr _ _ _ _ _ _ _).trans (by kernel_rfl)
theorem A2.errors.Aoo (N:Nat) (r c:Int) (l:List Int) (p q:Int) (m:List Int) (p7 p7_1:Int) (p7_2:List Int) (p6 p6_1:Int) (p6_2:List Int) (p10 p10_1:Int) (p10_2:List Int) (p8_1 p14 p14_1:Int) (p14_2:List Int):A2.errors.C10 N r c l p q m p7 p7_1 p7_2 p6 p6_1 p6_2 p10 p10_1 p10_2 p8_1 p14 p14_1 p14_2=bif (p8_1 !=(0:Int)) then some (.tup [.agg [.int .i64 0,.int .i64 0,.nil],.int .i64 p8_1]) else A2.errors.C13 N r c l p q m p7 p7_1 p7_2 p6 p6_1 p6_2 p10 p10_1 p10_2 p14 p14_1 p14_2 ((D5 p7 p7_1 p7_2 0 0 r p7_1).1) ((D5 p7 p7_1 p7_2 0 0 r p7_1).2.1) ((D5 p7 p7_1 p7_2 0 0 r p7_1).2.2.1):=(Dr _ _ _ _ _ _ _).trans (by kernel_rfl)
theorem A2.errors.Aon (N:Nat) (r c:Int) (l:List Int) (p q:Int) (m:List Int) (p7 p7_1:Int) (p7_2:List Int) (p6 p6_1:Int) (p6_2:List Int) (p10 p10_1:Int) (p10_2:List Int) (p14 p14_1:Int) (p14_2:List Int) (p15 p15_1:Int) (p15_2:List Int):A2.errors.C13 N r c l p q m p7 p7_1 p7_2 p6 p6_1 p6_2 p10 p10_1 p10_2 p14 p14_1 p14_2 p15 p15_1 p15_2=bif (Ah p15_2&&Ah p14_2) then A2.errors.C14 N r c l p q m p7 p7_1 p7_2 p6 p6_1 p6_2 p10 p10_1 p10_2 p14 p14_1 p14_2 p15 p15_1 p15_2 ((Ef p15 p15_1 p15_2 p14 p14_1 p14_2).2.2.2) ((Ef p15 p15_1 p15_2 p14 p14_1 p14_2).1) ((Ef p15 p15_1 p15_2 p14 p14_1 p14_2).2.1) ((Ef p15 p15_1 p15_2 p14 p14_1 p14_2).2.2.1) else none:=(Dr _ _ _ _ _ _ _).trans (by kernel_rfl)
theorem A2.errors.Ve (N:Nat) (r c:Int) (l:List Int) (p q:Int) (m:List Int) (p7 p7_1:Int) (p7_2:List Int) (p6 p6_1:Int) (p6_2:List Int) (p10 p10_1:Int) (p10_2:List Int) (p14 p14_1:Int) (p14_2:List Int) (p15 p15_1:Int) (p15_2:List Int) (p8_2 p17 p17_1:Int) (p17_2:List Int):A2.errors.C14 N r c l p q m p7 p7_1 p7_2 p6 p6_1 p6_2 p10 p10_1 p10_2 p14 p14_1 p14_2 p15 p15_1 p15_2 p8_2 p17 p17_1 p17_2=bif ((!(p8_2==(0:Int)))||(Ah p17_2)) then bif ((p8_2==(0:Int))&&((Bx p17 p17_1 p17_2) !=(0:Int))) then some (.tup [.agg [.int .i64 p17,.int .i64 p17_1,.ints .fresh .u64 p17_2],.int .i64 2]) else some (.tup [.agg [.int .i64 p17,.int .i64 p17_1,.ints .fresh .u64 p17_2],.int .i64 p8_2]) else none :=
  Eq.trans ((Dr _ _ _ _ _ _ _).trans (by kernel_rfl))
  (Ap (Ot (p8_2==(0:Int))) (Cy (Api (p8_2==(0:Int)) (Ah p17_2)) (Ap (Ks (p8_2==(0:Int))) (Ap (Sc (p8_2==(0:Int))) (Cy (tt1 (p8_2==(0:Int)) ((Bx p17 p17_1 p17_2) !=(0:Int))) rfl rfl))) rfl))
theorem A2.errors.ev (N:Nat) (r c:Int) (l:List Int) (p q:Int) (m:List Int):Bv A2.errors.E N Tryz.f136 (Am Tryz.f136) [.agg [.int .i64 r,.int .i64 c,.ints .arg .u64 l],.agg [.int .i64 p,.int .i64 q,.ints .arg .u64 m]]=bif (Ah l) then A2.errors.C2 N r c l p q m (Te r c l) ((Y0 r c l).1) ((Y0 r c l).2.1) ((Y0 r c l).2.2.1) ((lqL r c l).1) ((lqL r c l).2.1) ((lqL r c l).2.2.1) else none:=by kernel_rfl
abbrev _root_.Go.Proofs.S1.A2.errors.Kn:=A4 Tryz.prog 136 A2.errors.spec
theorem A2.errors.Ad (hk:Ax Tryz.prog A2.errors.Ba) (h:∀ (r c:Int) (l:List Int) (p q:Int) (m:List Int),A2.errors.pre [.i r,.i c,.l l,.i p,.i q,.l m]=true→Bc A2.errors.E Tryz.f136 [.agg [.int .i64 r,.int .i64 c,.ints .arg .u64 l],.agg [.int .i64 p,.int .i64 q,.ints .arg .u64 m]] (A2.errors.out [.i r,.i c,.l l,.i p,.i q,.l m])):A2.errors.Kn :=
  Al (Ay hk _ _ _) Tryz.func136 (by kernel_rfl) (by kernel_rfl) h
def A2.Solve.Ba:List (Nat × Entry):=[(86,B4.Check.spec),(56,A2.Check.spec),(135,A2.apart.spec),(136,A2.errors.spec),(123,Aa.Mul.spec),(125,Aa.Sub.spec),(36,solve.Gk.spec)]
def A2.Solve.live:Nat→Option (List Nat)
  | 5=>some [2,3,4,5]
  | 8=>some [2,3,4,5]
  | 11=>some [2,3,5,6]
  | 12=>some [2,3,5,8]
  | 15=>some [2,3,4]
  | _=>none
def A2.Solve.E:Env:=Bb (A9 A2.Solve.Ba) (fun _=>false) (fun _=>none) A2.Solve.live
def A2.Solve.C5 (N:Nat) (r c:Int) (l:List Int) (p q:Int) (m:List Int) (u v:Int) (h:List Int) (p4 p5 p5_1:Int) (p5_2:List Int) (p5_3 p5_4:Int) (p5_5:List Int) (p5_6 p5_7:Int) (p5_8:List Int) (p5_9 p5_10:Int) (p5_11:List Int) (p5_12 p5_13:Int) (p5_14:List Int):Option DV:=cutAt A2.Solve.E N Tryz.f60 (Am Tryz.f60) [1,1,1,0] [] ⟨Fw 73 [(2,.ptr 2 0 0),(3,.ptr 3 0 0),(4,.int .i64 p4),(5,.ptr 5 0 0)],[(5,false,.box [.int .i64 p5,.int .i64 p5_1,.ints .fresh .u64 p5_2,.int .i64 p5_3,.int .i64 p5_4,.ints .fresh .u64 p5_5,.int .i64 p5_6,.int .i64 p5_7,.ints .fresh .u64 p5_8,.int .i64 p5_9,.int .i64 p5_10,.ints .fresh .u64 p5_11,.int .i64 p5_12,.int .i64 p5_13,.ints .fresh .u64 p5_14]),(3,false,.box [.int .i64 0,.int .i64 0,.nil]),(2,false,.box [.int .i64 0,.int .i64 0,.nil]),(1,false,.box [.int .i64 r,.int .i64 c,.ints .arg .u64 l,.int .i64 p,.int .i64 q,.ints .arg .u64 m,.int .i64 u,.int .i64 v,.ints .arg .u64 h])]⟩
def A2.Solve.C8 (N:Nat) (r c:Int) (l:List Int) (p q:Int) (m:List Int) (u v:Int) (h:List Int) (p5 p5_1:Int) (p5_2:List Int) (p5_3 p5_4:Int) (p5_5:List Int) (p5_6 p5_7:Int) (p5_8:List Int) (p5_9 p5_10:Int) (p5_11:List Int) (p5_12 p5_13:Int) (p5_14:List Int) (p4_1 p3 p3_1:Int) (p3_2:List Int):Option DV:=cutAt A2.Solve.E N Tryz.f60 (Am Tryz.f60) [1,1,1,1,0,1] [] ⟨Fw 73 [(2,.ptr 2 0 0),(3,.ptr 3 0 0),(4,.int .i64 p4_1),(5,.ptr 5 0 0)],[(5,false,.box [.int .i64 p5,.int .i64 p5_1,.ints .fresh .u64 p5_2,.int .i64 p5_3,.int .i64 p5_4,.ints .fresh .u64 p5_5,.int .i64 p5_6,.int .i64 p5_7,.ints .fresh .u64 p5_8,.int .i64 p5_9,.int .i64 p5_10,.ints .fresh .u64 p5_11,.int .i64 p5_12,.int .i64 p5_13,.ints .fresh .u64 p5_14]),(3,false,.box [.int .i64 p3,.int .i64 p3_1,.ints .fresh .u64 p3_2]),(2,false,.box [.int .i64 0,.int .i64 0,.nil]),(1,false,.box [.int .i64 r,.int .i64 c,.ints .arg .u64 l,.int .i64 p,.int .i64 q,.ints .arg .u64 m,.int .i64 u,.int .i64 v,.ints .arg .u64 h])]⟩
def A2.Solve.C11 (N:Nat) (r c:Int) (l:List Int) (p q:Int) (m:List Int) (u v:Int) (h:List Int) (p5 p5_1:Int) (p5_2:List Int) (p5_3 p5_4:Int) (p5_5:List Int) (p5_6 p5_7:Int) (p5_8:List Int) (p5_9 p5_10:Int) (p5_11:List Int) (p5_12 p5_13:Int) (p5_14:List Int) (p3 p3_1:Int) (p3_2:List Int) (p6 p6_1:Int) (p6_2:List Int):Option DV:=cutAt A2.Solve.E N Tryz.f60 (Am Tryz.f60) [1,1,1,1,1,1] [] ⟨Fw 73 [(2,.ptr 2 0 0),(3,.ptr 3 0 0),(5,.ptr 5 0 0),(6,.ptr 6 0 0)],[(6,false,.box [.int .i64 p6,.int .i64 p6_1,.ints .fresh .u64 p6_2]),(5,false,.box [.int .i64 p5,.int .i64 p5_1,.ints .fresh .u64 p5_2,.int .i64 p5_3,.int .i64 p5_4,.ints .fresh .u64 p5_5,.int .i64 p5_6,.int .i64 p5_7,.ints .fresh .u64 p5_8,.int .i64 p5_9,.int .i64 p5_10,.ints .fresh .u64 p5_11,.int .i64 p5_12,.int .i64 p5_13,.ints .fresh .u64 p5_14]),(3,false,.box [.int .i64 p3,.int .i64 p3_1,.ints .fresh .u64 p3_2]),(2,false,.box [.int .i64 0,.int .i64 0,.nil]),(1,false,.box [.int .i64 r,.int .i64 c,.ints .arg .u64 l,.int .i64 p,.int .i64 q,.ints .arg .u64 m,.int .i64 u,.int .i64 v,.ints .arg .u64 h])]⟩
def A2.Solve.C12 (N:Nat) (r c:Int) (l:List Int) (p q:Int) (m:List Int) (u v:Int) (h:List Int) (p5 p5_1:Int) (p5_2:List Int) (p5_3 p5_4:Int) (p5_5:List Int) (p5_6 p5_7:Int) (p5_8:List Int) (p5_9 p5_10:Int) (p5_11:List Int) (p5_12 p5_13:Int) (p5_14:List Int) (p3 p3_1:Int) (p3_2:List Int) (p6 p6_1:Int) (p6_2:List Int) (p8 p8_1:Int) (p8_2:List Int):Option DV:=cutAt A2.Solve.E N Tryz.f60 (Am Tryz.f60) [1,1,1,1,1,1,1,0] [] ⟨Fw 73 [(2,.ptr 2 0 0),(3,.ptr 3 0 0),(5,.ptr 5 0 0),(8,.ptr 8 0 0)],[(8,false,.box [.int .i64 p8,.int .i64 p8_1,.ints .fresh .u64 p8_2]),(6,false,.box [.int .i64 p6,.int .i64 p6_1,.ints .fresh .u64 p6_2]),(5,false,.box [.int .i64 p5,.int .i64 p5_1,.ints .fresh .u64 p5_2,.int .i64 p5_3,.int .i64 p5_4,.ints .fresh .u64 p5_5,.int .i64 p5_6,.int .i64 p5_7,.ints .fresh .u64 p5_8,.int .i64 p5_9,.int .i64 p5_10,.ints .fresh .u64 p5_11,.int .i64 p5_12,.int .i64 p5_13,.ints .fresh .u64 p5_14]),(3,false,.box [.int .i64 p3,.int .i64 p3_1,.ints .fresh .u64 p3_2]),(2,false,.box [.int .i64 0,.int .i64 0,.nil]),(1,false,.box [.int .i64 r,.int .i64 c,.ints .arg .u64 l,.int .i64 p,.int .i64 q,.ints .arg .u64 m,.int .i64 u,.int .i64 v,.ints .arg .u64 h])]⟩
def A2.Solve.C15 (N:Nat) (r c:Int) (l:List Int) (p q:Int) (m:List Int) (u v:Int) (h:List Int) (p5 p5_1:Int) (p5_2:List Int) (p5_3 p5_4:Int) (p5_5:List Int) (p5_6 p5_7:Int) (p5_8:List Int) (p5_9 p5_10:Int) (p5_11:List Int) (p5_12 p5_13:Int) (p5_14:List Int) (p3 p3_1:Int) (p3_2:List Int) (p6 p6_1:Int) (p6_2:List Int) (p8 p8_1:Int) (p8_2:List Int) (p4_2 p2 p2_1:Int) (p2_2:List Int):Option DV:=cutAt A2.Solve.E N Tryz.f60 (Am Tryz.f60) [1,1,1,1,1,1,1,1,0,1] [] ⟨Fw 73 [(2,.ptr 2 0 0),(3,.ptr 3 0 0),(4,.int .i64 p4_2)],[(8,false,.box [.int .i64 p8,.int .i64 p8_1,.ints .fresh .u64 p8_2]),(6,false,.box [.int .i64 p6,.int .i64 p6_1,.ints .fresh .u64 p6_2]),(5,false,.box [.int .i64 p5,.int .i64 p5_1,.ints .fresh .u64 p5_2,.int .i64 p5_3,.int .i64 p5_4,.ints .fresh .u64 p5_5,.int .i64 p5_6,.int .i64 p5_7,.ints .fresh .u64 p5_8,.int .i64 p5_9,.int .i64 p5_10,.ints .fresh .u64 p5_11,.int .i64 p5_12,.int .i64 p5_13,.ints .fresh .u64 p5_14]),(3,false,.box [.int .i64 p3,.int .i64 p3_1,.ints .fresh .u64 p3_2]),(2,false,.box [.int .i64 p2,.int .i64 p2_1,.ints .fresh .u64 p2_2]),(1,false,.box [.int .i64 r,.int .i64 c,.ints .arg .u64 l,.int .i64 p,.int .i64 q,.ints .arg .u64 m,.int .i64 u,.int .i64 v,.ints .arg .u64 h])]⟩
theorem A2.Solve.Aqw (N:Nat) (r c:Int) (l:List Int) (p q:Int) (m:List Int) (u v:Int) (h:List Int) (p4 p5 p5_1:Int) (p5_2:List Int) (p5_3 p5_4:Int) (p5_5:List Int) (p5_6 p5_7:Int) (p5_8:List Int) (p5_9 p5_10:Int) (p5_11:List Int) (p5_12 p5_13:Int) (p5_14:List Int):A2.Solve.C5 N r c l p q m u v h p4 p5 p5_1 p5_2 p5_3 p5_4 p5_5 p5_6 p5_7 p5_8 p5_9 p5_10 p5_11 p5_12 p5_13 p5_14=bif (p4 !=(0:Int)) then some (.tup [.agg [.int .i64 0,.int .i64 0,.nil],.agg [.int .i64 0,.int .i64 0,.nil],.int .i64 p4]) else bif (Ah p5_14&&Ah p5_8) then A2.Solve.C8 N r c l p q m u v h p5 p5_1 p5_2 p5_3 p5_4 p5_5 p5_6 p5_7 p5_8 p5_9 p5_10 p5_11 p5_12 p5_13 p5_14 ((erZ (p5_12,p5_13,p5_14,0) (p5_6,p5_7,p5_8,0)).2.2.2) ((erZ (p5_12,p5_13,p5_14,0) (p5_6,p5_7,p5_8,0)).1) ((erZ (p5_12,p5_13,p5_14,0) (p5_6,p5_7,p5_8,0)).2.1) ((erZ (p5_12,p5_13,p5_14,0) (p5_6,p5_7,p5_8,0)).2.2.1) else none:=(Dr _ _ _ _ _ _ _).trans (by kernel_rfl)
theorem A2.Solve.Amr (N:Nat) (r c:Int) (l:List Int) (p q:Int) (m:List Int) (u v:Int) (h:List Int) (p5 p5_1:Int) (p5_2:List Int) (p5_3 p5_4:Int) (p5_5:List Int) (p5_6 p5_7:Int) (p5_8:List Int) (p5_9 p5_10:Int) (p5_11:List Int) (p5_12 p5_13:Int) (p5_14:List Int) (p4_1 p3 p3_1:Int) (p3_2:List Int):A2.Solve.C8 N r c l p q m u v h p5 p5_1 p5_2 p5_3 p5_4 p5_5 p5_6 p5_7 p5_8 p5_9 p5_10 p5_11 p5_12 p5_13 p5_14 p4_1 p3 p3_1 p3_2=bif (p4_1 !=(0:Int)) then some (.tup [.agg [.int .i64 0,.int .i64 0,.nil],.agg [.int .i64 0,.int .i64 0,.nil],.int .i64 p4_1]) else bif (Ah p5_11&&Ah p3_2) then A2.Solve.C11 N r c l p q m u v h p5 p5_1 p5_2 p5_3 p5_4 p5_5 p5_6 p5_7 p5_8 p5_9 p5_10 p5_11 p5_12 p5_13 p5_14 p3 p3_1 p3_2 ((M4 p5_9 p5_10 p5_11 p3 p3_1 p3_2).1) ((M4 p5_9 p5_10 p5_11 p3 p3_1 p3_2).2.1) ((M4 p5_9 p5_10 p5_11 p3 p3_1 p3_2).2.2.1) else none:=(Dr _ _ _ _ _ _ _).trans (by kernel_rfl)
theorem A2.Solve.Ac6 (N:Nat) (r c:Int) (l:List Int) (p q:Int) (m:List Int) (u v:Int) (h:List Int) (p5 p5_1:Int) (p5_2:List Int) (p5_3 p5_4:Int) (p5_5:List Int) (p5_6 p5_7:Int) (p5_8:List Int) (p5_9 p5_10:Int) (p5_11:List Int) (p5_12 p5_13:Int) (p5_14:List Int) (p3 p3_1:Int) (p3_2:List Int) (p6 p6_1:Int) (p6_2:List Int):A2.Solve.C11 N r c l p q m u v h p5 p5_1 p5_2 p5_3 p5_4 p5_5 p5_6 p5_7 p5_8 p5_9 p5_10 p5_11 p5_12 p5_13 p5_14 p3 p3_1 p3_2 p6 p6_1 p6_2=bif (Ah p5_5&&Ah p6_2) then A2.Solve.C12 N r c l p q m u v h p5 p5_1 p5_2 p5_3 p5_4 p5_5 p5_6 p5_7 p5_8 p5_9 p5_10 p5_11 p5_12 p5_13 p5_14 p3 p3_1 p3_2 p6 p6_1 p6_2 ((Re p5_3 p5_4 p5_5 p6 p6_1 p6_2).1) ((Re p5_3 p5_4 p5_5 p6 p6_1 p6_2).2.1) ((Re p5_3 p5_4 p5_5 p6 p6_1 p6_2).2.2.1) else none:=(Dr _ _ _ _ _ _ _).trans (by kernel_rfl)
theorem A2.Solve.Vf (N:Nat) (r c:Int) (l:List Int) (p q:Int) (m:List Int) (u v:Int) (h:List Int) (p5 p5_1:Int) (p5_2:List Int) (p5_3 p5_4:Int) (p5_5:List Int) (p5_6 p5_7:Int) (p5_8:List Int) (p5_9 p5_10:Int) (p5_11:List Int) (p5_12 p5_13:Int) (p5_14:List Int) (p3 p3_1:Int) (p3_2:List Int) (p6 p6_1:Int) (p6_2:List Int) (p8 p8_1:Int) (p8_2:List Int):A2.Solve.C12 N r c l p q m u v h p5 p5_1 p5_2 p5_3 p5_4 p5_5 p5_6 p5_7 p5_8 p5_9 p5_10 p5_11 p5_12 p5_13 p5_14 p3 p3_1 p3_2 p6 p6_1 p6_2 p8 p8_1 p8_2=bif (Ah p8_2) then bif ((Bx p8 p8_1 p8_2) !=(0:Int)) then some (.tup [.agg [.int .i64 0,.int .i64 0,.nil],.agg [.int .i64 0,.int .i64 0,.nil],.int .i64 2]) else bif (Ah p5_2&&Ah p8_2) then A2.Solve.C15 N r c l p q m u v h p5 p5_1 p5_2 p5_3 p5_4 p5_5 p5_6 p5_7 p5_8 p5_9 p5_10 p5_11 p5_12 p5_13 p5_14 p3 p3_1 p3_2 p6 p6_1 p6_2 p8 p8_1 p8_2 ((Vv p5 p5_1 p5_2 p8 p8_1 p8_2).2.2.2) ((Vv p5 p5_1 p5_2 p8 p8_1 p8_2).1) ((Vv p5 p5_1 p5_2 p8 p8_1 p8_2).2.1) ((Vv p5 p5_1 p5_2 p8 p8_1 p8_2).2.2.1) else none else none:=(Dr _ _ _ _ _ _ _).trans (by kernel_rfl)
theorem A2.Solve.Aom (N:Nat) (r c:Int) (l:List Int) (p q:Int) (m:List Int) (u v:Int) (h:List Int) (p5 p5_1:Int) (p5_2:List Int) (p5_3 p5_4:Int) (p5_5:List Int) (p5_6 p5_7:Int) (p5_8:List Int) (p5_9 p5_10:Int) (p5_11:List Int) (p5_12 p5_13:Int) (p5_14:List Int) (p3 p3_1:Int) (p3_2:List Int) (p6 p6_1:Int) (p6_2:List Int) (p8 p8_1:Int) (p8_2:List Int) (p4_2 p2 p2_1:Int) (p2_2:List Int):A2.Solve.C15 N r c l p q m u v h p5 p5_1 p5_2 p5_3 p5_4 p5_5 p5_6 p5_7 p5_8 p5_9 p5_10 p5_11 p5_12 p5_13 p5_14 p3 p3_1 p3_2 p6 p6_1 p6_2 p8 p8_1 p8_2 p4_2 p2 p2_1 p2_2=bif (p4_2 !=(0:Int)) then some (.tup [.agg [.int .i64 0,.int .i64 0,.nil],.agg [.int .i64 0,.int .i64 0,.nil],.int .i64 p4_2]) else some (.tup [.agg [.int .i64 p2,.int .i64 p2_1,.ints .fresh .u64 p2_2],.agg [.int .i64 p3,.int .i64 p3_1,.ints .fresh .u64 p3_2],.int .i64 0]):=(Dr _ _ _ _ _ _ _).trans (by kernel_rfl)
theorem A2.Solve.ev (N:Nat) (r c:Int) (l:List Int) (p q:Int) (m:List Int) (u v:Int) (h:List Int):Bv A2.Solve.E N Tryz.f60 (Am Tryz.f60) [.agg [.int .i64 r,.int .i64 c,.ints .arg .u64 l,.int .i64 p,.int .i64 q,.ints .arg .u64 m,.int .i64 u,.int .i64 v,.ints .arg .u64 h]]=bif (N1 l m h) then bif ((F8 r c l p q m u v h) !=(0:Int)) then some (.tup [.agg [.int .i64 0,.int .i64 0,.nil],.agg [.int .i64 0,.int .i64 0,.nil],.int .i64 (F8 r c l p q m u v h)]) else bif (N1 l m h&&decide (F8 r c l p q m u v h=0)) then A2.Solve.C5 N r c l p q m u v h (gE r c l p q m u v h) ((Mf (gE r c l p q m u v h) (gT r c l)).1) ((Mf (gE r c l p q m u v h) (gT r c l)).2.1) ((Mf (gE r c l p q m u v h) (gT r c l)).2.2.1) ((Mf (gE r c l p q m u v h) (G5 c (gC r c l u v h))).1) ((Mf (gE r c l p q m u v h) (G5 c (gC r c l u v h))).2.1) ((Mf (gE r c l p q m u v h) (G5 c (gC r c l u v h))).2.2.1) ((Mf (gE r c l p q m u v h) (Fl r c (gC r c l u v h))).1) ((Mf (gE r c l p q m u v h) (Fl r c (gC r c l u v h))).2.1) ((Mf (gE r c l p q m u v h) (Fl r c (gC r c l u v h))).2.2.1) ((Mf (gE r c l p q m u v h) (G5 c (gC r c l p q m))).1) ((Mf (gE r c l p q m u v h) (G5 c (gC r c l p q m))).2.1) ((Mf (gE r c l p q m u v h) (G5 c (gC r c l p q m))).2.2.1) ((Mf (gE r c l p q m u v h) (Fl r c (gC r c l p q m))).1) ((Mf (gE r c l p q m u v h) (Fl r c (gC r c l p q m))).2.1) ((Mf (gE r c l p q m u v h) (Fl r c (gC r c l p q m))).2.2.1) else none else none:=by kernel_rfl
abbrev _root_.Go.Proofs.S1.A2.Solve.Kn:=A4 Tryz.prog 60 A2.Solve.spec
theorem A2.Solve.Ad (hk:Ax Tryz.prog A2.Solve.Ba) (h:∀ (r c:Int) (l:List Int) (p q:Int) (m:List Int) (u v:Int) (h:List Int),A2.Solve.pre [.i r,.i c,.l l,.i p,.i q,.l m,.i u,.i v,.l h]=true→Bc A2.Solve.E Tryz.f60 [.agg [.int .i64 r,.int .i64 c,.ints .arg .u64 l,.int .i64 p,.int .i64 q,.ints .arg .u64 m,.int .i64 u,.int .i64 v,.ints .arg .u64 h]] (A2.Solve.out [.i r,.i c,.l l,.i p,.i q,.l m,.i u,.i v,.l h])):A2.Solve.Kn :=
  Al (Ay hk _ _ _) Tryz.func60 (by kernel_rfl) (by kernel_rfl) h
end EqGg
end Go.Proofs.S1
end
