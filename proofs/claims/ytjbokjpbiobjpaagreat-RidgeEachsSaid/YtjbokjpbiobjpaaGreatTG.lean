/- A verified evaluator of the program's form and its use for this seat: S1PRefA, S1PRefAa, S1EqRefB, S1PRefB, S1PRefBa, S1EqRefC, S1PRefC, S1PRefCa, S1EqRefE, S1PRefV, S1PPack, S1PNear, S1EqSum, S1PSum. -/
import Derived.Test.YtjbokjpbiobjpaaGreatTF
import Derived.Test.YtjbokjpbiobjpaaGreatTE
set_option linter.unusedVariables false
set_option linter.unusedSimpArgs false
noncomputable section
namespace Go.Proofs.S1
open Go Go.Den Go.Rnd Go.Proofs
open EqRefA
theorem Ai.Jy.known:Ai.Jy.Kn:=Ai.Jy.Ac .nil fun l i hp=>by
  obtain ⟨hl,hi⟩:=K7 hp
  refine ⟨0,Ai.Jy.out [.l l,.i i],[],?_,.int⟩
  rw [Ai.Jy.ev,Ef,As]
  show _=some (DV.int .u64 (G4 l i))
  by_cases h0:0≤i
  · obtain ⟨k,rfl⟩:∃ k:Nat,i=k:=⟨i.toNat,by omega⟩
    have hv:=Hm hi k
    have hg:=Rt hi k
    rw [hv,Ayu,hg,Ayt h0,Bool.true_and]
    by_cases h1:(k:Int)<(l.length:Int)
    · rw [Ayt h1,Ays,Ays,Dn (by omega) (by omega)]
    · have h2:l.getD k 0=0:=by
        rw [Ay2,List.getElem?_eq_none (by omega)]; rfl
      rw [h2] at hg
      rw [Ayx h1,Ayw,← hg]
  · have:G4 l i=0:=by unfold G4; rw [if_neg h0]
    rw [Ayx h0,Bool.false_and,Ayw,this]
theorem Ady {drops:List Nat} {b:Bool} {l:List Int}:Wk drops (.agg [.bool b,.ints .arg .u32 l]) (.agg [.bool b,.ints .arg .u32 l]):=Wk.G8 (.cons .bool (.cons .W2 .nil))
theorem Aky:Bj 0=false:=rfl
theorem Afi:Ap 0=[]:=rfl
theorem Ak8 (N:Nat) (n:Bool) {l:List Int} (hl:l.length<1073741824) (hi:Zd l):∀ (p F:Nat),p≤l.length→p<F→Cr l<2^(32*p) →
    ∃ dv,Ai.Made.L0 N F n l (p:Int)=some dv∧Wk [] dv (.agg [.bool (Bj (wv n l)),.ints .arg .u32 (Ap (wv n l))]):=by
  have hlast:∀ p,p≤l.length→Ds (Cr l)=p→p≠0→some (DV.agg [.bool n,.ints .arg .u32 (l.take p)])=some (DV.agg [.bool (Bj (wv n l)),.ints .arg .u32 (Ap (wv n l))]):=by
    intro p hp hq h0
    have h1:=Ahq hi
    rw [hq] at h1
    have h2:Cr l≠0:=fun h=>by rw [h] at hq; exact h0 hq.symm
    have e:(wv n l).natAbs=Cr l:=by unfold wv H5; split<;>omega
    have e1:Ap (wv n l)=Qp (Cr l):=by unfold Ap; rw [e]
    have e2:Bj (wv n l)=n:=by unfold Bj wv H5; cases n<;>simp<;>omega
    rw [h1,e1,e2]
  intro p
  induction p with
  | zero =>
    intro F hp hF hv
    obtain ⟨F,rfl⟩:∃ G,F=G+1:=⟨F-1,by omega⟩
    have hz:wv n l=0:=by
      have:Cr l=0:=by rw [Nat.mul_zero,Nat.pow_zero] at hv; omega
      unfold wv H5; rw [this]; cases n<;>rfl
    refine ⟨.agg [.bool false,.nil],?_,?_⟩
    · rw [Ai.Made.Ar,As]; rfl
    · rw [hz,Aky,Afi]
      exact Wk.G8 (.cons .bool (.cons (.nil _ _) .nil))
  | succ p ih =>
    intro F hp hF hv
    obtain ⟨F,rfl⟩:∃ G,F=G+1:=⟨F-1,by omega⟩
    rw [Ai.Made.Ar,As,Al (by omega) (by omega)]
    have e0:((p+1:Nat):Int)-1=(p:Int):=by omega
    have t0:decide ((0:Int)<((p+1:Nat):Int))=true:=Ayt (by omega)
    have t1:decide ((0:Int)≤(p:Int))=true:=by simp
    have t2:decide ((p:Int)<(l.length:Int))=true:=by simp; omega
    have hg:=Rt hi p
    have hq:Cr l / 2^(32*p)<4294967296:=by
      rw [Nat.div_lt_iff_lt_mul (Cp _),← Ol]; exact hv
    rw [Ay5 hq] at hg
    rw [e0,t0,t1,t2,Ayu,hg]
    simp only [Bool.not_true,Ayy,Bool.false_or,Ays,Bool.true_and]
    by_cases hz:Cr l / 2^(32*p)=0
    · have:(((Cr l / 2^(32*p):Nat):Int)==0)=true:=by rw [hz]; rfl
      rw [this,Ays]
      refine ih F (by omega) (by omega) ?_
      rcases Nat.lt_or_ge (Cr l) (2^(32*p)) with h | h
      · exact h
      · have:=Nat.div_pos h (Cp _); omega
    · have:(((Cr l / 2^(32*p):Nat):Int)==0)=false:=by simp only [beq_eq_false_iff_ne,ne_eq]; omega
      have t3:(((p+1:Nat):Int)==0)=false:=by simp only [beq_eq_false_iff_ne,ne_eq]; omega
      have t4:decide (((p+1:Nat):Int)≤(l.length:Int))=true:=by simp; omega
      have t5:decide ((0:Int)≤((p+1:Nat):Int))=true:=Ayt (by omega)
      rw [this,Ayw,t3,Ayw,t4,t5,Ayy,Ays,Ayu]
      have hlen:Ds (Cr l)=p+1:=by
        have a1:=Nt hv
        have a2:=Aq9 (n:=Cr l) (k:=p) (by
          rcases Nat.lt_or_ge (Cr l) (2^(32*p)) with h | h
          · exact absurd (Nat.div_eq_of_lt h) hz
          · exact h)
        omega
      exact ⟨_,hlast (p+1) hp hlen (by omega),Ady⟩
theorem Ai.Made.known:Ai.Made.Kn:=Ai.Made.Ac .nil fun n l hp=>by
  obtain ⟨hl,hi⟩:=K7 hp
  obtain ⟨dv,h1,h2⟩:=Ak8 (l.length+1) n hl hi l.length (l.length+1) (Nat.le_refl _) (by omega) (Nm hi)
  exact ⟨l.length+1,dv,[],by rw [Ai.Made.ev]; exact h1,h2⟩
theorem Aao {a b:Int} (ha:0≤a∧a<4294967296) (hb:0≤b∧b<4294967296):Hs [a,b]=true :=
  N4 (show 2<1073741824 by decide) fun x hx=>by
    rcases List.mem_cons.1 hx with rfl | hx
    · exact ha
    · rcases List.mem_cons.1 hx with rfl | hx
      · exact hb
      · cases hx
theorem Ai9:(4294967296:Int)=((4294967296:Nat):Int):=rfl
theorem Ai.Of.known:Ai.Of.Kn:=Ai.Of.Ac (.cons Ai.Made.known .nil) fun n hp=>by
  have hp:=Aq.1 hp
  refine ⟨0,Ai.Of.out [.i n],[],?_,Ady⟩
  rw [Ai.Of.ev,As]
  show _=some (DV.agg [.bool (Bj n),.ints .arg .u32 (Ap n)])
  by_cases h:n<0
  · obtain ⟨k,rfl⟩:∃ k:Nat,n=-(k:Int):=⟨(-n).toNat,by omega⟩
    have e1:Bk (Bk (Ab (0-Ab (-(k:Int)+1)))+1)=(k:Int):=by
      rw [Al (x:=-(k:Int)+1) (by omega) (by omega),Al (by omega) (by omega),Dn (x:=0-(-(k:Int)+1)) (by omega) (by omega),Dn (by omega) (by omega)]; omega
    rw [Ayt h,Ays,e1,Ai9,J3,J4,Lb (by omega) (by omega),Dn (by omega) (by omega),Lb (by omega) (by omega),
      Aao (by omega) (by omega),Ays]
    have e2:wv true [((k%4294967296:Nat):Int),((k / 4294967296:Nat):Int)]=-(k:Int):=by
      unfold wv H5 Cr Cr Cr
      rw [if_pos rfl,Ayu,Ayu]
      omega
    rw [e2]
  · obtain ⟨k,rfl⟩:∃ k:Nat,n=(k:Int):=⟨n.toNat,by omega⟩
    rw [Ayx h,Ayw,Ai9,J3,J4,Lb (by omega) (by omega),Al (by omega) (by omega),Lb (by omega) (by omega),
      Aao (by omega) (by omega),Ays]
    have e2:wv false [((k%4294967296:Nat):Int),((k / 4294967296:Nat):Int)]=(k:Int):=by
      unfold wv H5 Cr Cr Cr
      rw [if_neg (by decide),Ayu,Ayu]
      omega
    rw [e2]
theorem Ai.Neg.known:Ai.Neg.Kn:=Ai.Neg.Ac (.cons Ai.Made.known .nil) fun n a hp=>by
  obtain ⟨v,rfl,rfl,hv⟩:=Jj hp
  refine ⟨0,Ai.Neg.out [.b (Bj v),.l (Ap v)],[],?_,Ady⟩
  rw [Ai.Neg.ev,Ot (by omega),Ays,Asq]
  rfl
open EqRefA
theorem Ak6 (N:Nat) {a b:List Int} (ha:Hs a=true) (hb:Hs b=true):∀ (j F:Nat),j<4000000000→j<F→Cr a / 2^(32*j)=Cr b / 2^(32*j) →
    Ai.Iy.L0 N F a b ((j:Int)-1)=some (.int .i64 (V3 (Cr a) (Cr b))):=by
  have ia:=(K7 ha).2
  have ib:=(K7 hb).2
  intro j
  induction j with
  | zero =>
    intro F hj hF h
    obtain ⟨F,rfl⟩:∃ G,F=G+1:=⟨F-1,by omega⟩
    rw [Nat.mul_zero,Nat.pow_zero,Nat.div_one,Nat.div_one] at h
    have e:V3 (Cr a) (Cr b)=0:=by unfold V3; rw [if_neg (by omega),if_neg (by omega)]
    rw [Ai.Iy.Ar,Ef,e]
    rfl
  | succ j ih =>
    intro F hj hF h
    obtain ⟨F,rfl⟩:∃ G,F=G+1:=⟨F-1,by omega⟩
    have e0:((j+1:Nat):Int)-1=(j:Int):=by omega
    have t0:decide ((0:Int)≤(j:Int))=true:=Ayt (by omega)
    rw [Ol,Nat.mul_comm,← Nat.div_div_eq_div_mul,← Nat.div_div_eq_div_mul] at h
    have up:Cr a / 2^(32*j)<Cr b / 2^(32*j)→Cr a<Cr b:=fun k=>by
      rcases Nat.lt_or_ge (Cr a) (Cr b) with h1 | h1
      · exact h1
      · have:=Nat.div_le_div_right (c:=2^(32*j)) h1; omega
    have down:Cr b / 2^(32*j)<Cr a / 2^(32*j)→Cr b<Cr a:=fun k=>by
      rcases Nat.lt_or_ge (Cr b) (Cr a) with h1 | h1
      · exact h1
      · have:=Nat.div_le_div_right (c:=2^(32*j)) h1; omega
    rw [Ai.Iy.Ar,e0,Ef,t0,Ays,ha,hb,Ays,Ays,As,As,Hm ia,Hm ib,Al (by omega) (by omega)]
    have ih:=ih F (by omega) (by omega)
    generalize Cr a / 2^(32*j)=x at *
    generalize Cr b / 2^(32*j)=y at *
    by_cases h1:x%4294967296<y%4294967296
    · have e:V3 (Cr a) (Cr b)=-1:=by unfold V3; rw [if_pos (up (by omega))]
      rw [Ayt (by omega),Ays,e]
    · rw [Ayx (by omega),Ayw]
      by_cases h2:y%4294967296<x%4294967296
      · have:=down (by omega)
        have e:V3 (Cr a) (Cr b)=1:=by unfold V3; rw [if_neg (by omega),if_pos this]
        rw [Ayt (by omega),Ays,e]
        rfl
      · rw [Ayx (by omega),Ayw]
        exact ih (by omega)
theorem Ajh {l:List Int} (h:Zd l) {j:Nat} (hj:l.length≤j):Cr l / 2^(32*j)=0 :=
  Nat.div_eq_of_lt (Nat.lt_of_lt_of_le (Nm h) (Ay7 (by decide) (by omega)))
theorem Ai.Iy.known:Ai.Iy.Kn:=Ai.Iy.Ac (.cons Ai.Jy.known .nil) fun a b hp=>by
  obtain ⟨ha,hb⟩:=Ad.1 hp
  obtain ⟨la,ia⟩:=K7 ha
  obtain ⟨lb,ib⟩:=K7 hb
  refine ⟨max a.length b.length+2,Ai.Iy.out [.l a,.l b],[],?_,.int⟩
  rw [Ai.Iy.ev]
  have e:max (a.length:Int) (b.length:Int)=((max a.length b.length+1:Nat):Int)-1:=by omega
  rw [e]
  exact Ak6 _ ha hb _ _ (by omega) (by omega) (by rw [Ajh ia (by omega),Ajh ib (by omega)])
theorem Akq (N:Nat) {a b:List Int} (ha:Hs a=true) (hb:Hs b=true):∀ (k i c F:Nat),i+k=max a.length b.length+1→k<F→c≤1 →
    Cr a / 2^(32*i)+Cr b / 2^(32*i)+c=(Cr a+Cr b) / 2^(32*i) →
    Ai.plus.L0 N F a b (c:Int) (i:Int) (digits i (Cr a+Cr b))=some (.ints (.own 100005 tW) .u32 (J7 a b)):=by
  obtain ⟨la,ia⟩:=K7 ha
  obtain ⟨lb,ib⟩:=K7 hb
  intro k
  induction k with
  | zero =>
    intro i c F hi hF hc h
    obtain ⟨F,rfl⟩:∃ G,F=G+1:=⟨F-1,by omega⟩
    have t0:decide ((i:Int)≤max (a.length:Int) (b.length:Int))=false:=Ayx (by omega)
    rw [Ai.plus.Ar,Ef,t0,Ayw]
    unfold J7
    rw [show i=max a.length b.length+1 by omega]
  | succ k ih =>
    intro i c F hi hF hc h
    obtain ⟨F,rfl⟩:∃ G,F=G+1:=⟨F-1,by omega⟩
    have t0:decide ((i:Int)≤max (a.length:Int) (b.length:Int))=true:=Ayt (by omega)
    have t1:decide ((digits i (Cr a+Cr b)).length+1≤Gt)=true:=Ayt (by rw [Ff]; unfold Gt; omega)
    rw [Ai.plus.Ar,Ef,t0,ha,hb,t1]
    simp only [Ays]
    rw [Hm ia,Hm ib]
    have ih:=ih (i+1)
    rw [Ol,Nat.mul_comm 4294967296,← Nat.div_div_eq_div_mul,← Nat.div_div_eq_div_mul,← Nat.div_div_eq_div_mul,Nx] at ih
    generalize Cr a / 2^(32*i)=x at *
    generalize Cr b / 2^(32*i)=y at *
    generalize (Cr a+Cr b) / 2^(32*i)=z at *
    have e1:Bk (Bk (((x%4294967296:Nat):Int)+((y%4294967296:Nat):Int))+(c:Int))=((x%4294967296+y%4294967296+c:Nat):Int):=by
      rw [Dn (x:=((x%4294967296:Nat):Int)+((y%4294967296:Nat):Int)) (by omega) (by omega),Dn (by omega) (by omega)]; omega
    rw [e1,Ai9,J3,J4,Lb (by omega) (by omega),Dn (by omega) (by omega),Al (by omega) (by omega)]
    have e2:(x%4294967296+y%4294967296+c)%4294967296=z%4294967296:=by omega
    rw [e2]
    exact ih ((x%4294967296+y%4294967296+c) / 4294967296) F (by omega) (by omega) (by omega) (by omega)
theorem Ai2 {i:Nat} {e:TypeId} {k:IntKind} {l:List Int}:Wk [i] (.ints (.own i e) k l) (.ints .arg k l):=.dropA i e k l (List.mem_singleton.2 rfl)
theorem Ai.plus.known:Ai.plus.Kn:=Ai.plus.Ac (.cons Ai.Jy.known .nil) fun a b hp=>by
  obtain ⟨ha,hb⟩:=Ad.1 hp
  refine ⟨max a.length b.length+2,.ints (.own 100005 tW) .u32 (J7 a b),[100005],?_,Ai2⟩
  rw [Ai.plus.ev]
  exact Akq _ ha hb (max a.length b.length+1) 0 0 _ (by omega) (by omega) (by omega) (by simp)
theorem Ahi (N:Nat) {a b:List Int} (ha:Hs a=true) (hb:Hs b=true):∀ (k i w F:Nat),i+k=a.length→k<F→w≤1 →
    Cr a / 2^(32*i)=Cr b / 2^(32*i)+(Cr a-Cr b) / 2^(32*i)+w →
    Ai.minus.L0 N F a b (w:Int) (i:Int) (digits i (Cr a-Cr b))=some (.ints (.own 100005 tW) .u32 (Hj a b)):=by
  obtain ⟨la,ia⟩:=K7 ha
  obtain ⟨lb,ib⟩:=K7 hb
  intro k
  induction k with
  | zero =>
    intro i c F hi hF hc h
    obtain ⟨F,rfl⟩:∃ G,F=G+1:=⟨F-1,by omega⟩
    have t0:decide ((i:Int)<(a.length:Int))=false:=Ayx (by omega)
    rw [Ai.minus.Ar,As,t0,Ayw]
    unfold Hj
    rw [show i=a.length by omega]
  | succ k ih =>
    intro i w F hi hF hc h
    obtain ⟨F,rfl⟩:∃ G,F=G+1:=⟨F-1,by omega⟩
    have t0:decide ((i:Int)<(a.length:Int))=true:=Ayt (by omega)
    have t1:decide ((digits i (Cr a-Cr b)).length+1≤Gt)=true:=Ayt (by rw [Ff]; unfold Gt; omega)
    rw [Ai.minus.Ar,As,t0,ha,hb,t1]
    simp only [Ays]
    rw [Hm ia,Hm ib]
    have ih:=ih (i+1)
    rw [Ol,Nat.mul_comm 4294967296,← Nat.div_div_eq_div_mul,← Nat.div_div_eq_div_mul,← Nat.div_div_eq_div_mul,Nx] at ih
    generalize Cr a / 2^(32*i)=x at *
    generalize Cr b / 2^(32*i)=y at *
    generalize (Cr a-Cr b) / 2^(32*i)=z at *
    have e1:Bk (Bk (Bk ((4294967296:Int)+((x%4294967296:Nat):Int))-((y%4294967296:Nat):Int))-(w:Int))=((4294967296+x%4294967296-y%4294967296-w:Nat):Int):=by
      rw [Dn (x:=(4294967296:Int)+((x%4294967296:Nat):Int)) (by omega) (by omega),Dn (x:=(4294967296:Int)+((x%4294967296:Nat):Int)-((y%4294967296:Nat):Int)) (by omega) (by omega),Dn (by omega) (by omega)]; omega
    have e2:(4294967296+x%4294967296-y%4294967296-w)%4294967296=z%4294967296:=by omega
    have e3:Bk ((1:Int)-(((4294967296+x%4294967296-y%4294967296-w) / 4294967296:Nat):Int))=((1-(4294967296+x%4294967296-y%4294967296-w) / 4294967296:Nat):Int):=by
      rw [Dn (by omega) (by omega)]; omega
    rw [e1,Ai9,J3,J4,Lb (by omega) (by omega),Dn (x:=(((4294967296+x%4294967296-y%4294967296-w) / 4294967296:Nat):Int)) (by omega) (by omega),Al (by omega) (by omega),e2,e3]
    exact ih (1-(4294967296+x%4294967296-y%4294967296-w) / 4294967296) F (by omega) (by omega) (by omega) (by omega)
theorem Ai.minus.known:Ai.minus.Kn:=Ai.minus.Ac (.cons Ai.Jy.known .nil) fun a b hp=>by
  obtain ⟨h1,hle⟩:=Ad.1 hp
  obtain ⟨ha,hb⟩:=Ad.1 h1
  have hle:=Aq.1 hle
  refine ⟨a.length+1,.ints (.own 100005 tW) .u32 (Hj a b),[100005],?_,Ai2⟩
  rw [Ai.minus.ev]
  exact Ahi _ ha hb a.length 0 0 _ (by omega) (by omega) (by omega) (by simp; omega)
theorem G3 (v:Int):Zd (Ap v):=Afh _
theorem Al9 {v w:Int} (h:Bj v=Bj w):wv (Bj v) (J7 (Ap v) (Ap w))=v+w:=by
  unfold wv
  rw [Akr (G3 _) (G3 _),D2,D2]
  unfold Bj at h ⊢
  unfold H5
  rw [decide_eq_decide] at h
  by_cases hv:v<0
  · have hw:=h.1 hv
    rw [Ayt hv,if_pos rfl]; omega
  · have hw:¬ w<0:=fun k=>hv (h.2 k)
    rw [Ayx hv,if_neg (by decide)]; omega
theorem Aig {v w:Int} (h:Bj v≠Bj w) (hl:w.natAbs≤v.natAbs):wv (Bj v) (Hj (Ap v) (Ap w))=v+w:=by
  unfold wv
  rw [Ahk _ (G3 _),D2,D2]
  unfold Bj at h ⊢
  unfold H5
  rw [ne_eq,decide_eq_decide] at h
  by_cases hv:v<0
  · have hw:¬ w<0:=fun k=>h ⟨fun _=>k,fun _=>hv⟩
    rw [Ayt hv,if_pos rfl]; omega
  · have hw:w<0:=by
      rcases Int.lt_or_le w 0 with k | k
      · exact k
      · exact absurd ⟨fun k'=>absurd k' hv,fun k'=>by omega⟩ h
    rw [Ayx hv,if_neg (by decide)]; omega
theorem Ai.Add.known:Ai.Add.Kn:=Ai.Add.Ac (.cons Ai.Made.known (.cons Ai.Iy.known (.cons Ai.minus.known (.cons Ai.plus.known .nil)))) fun n a m b hp=>by
  obtain ⟨h1,h2⟩:=Ad.1 hp
  obtain ⟨v,rfl,rfl,hv⟩:=Jj h1
  obtain ⟨w,rfl,rfl,hw⟩:=Jj h2
  refine ⟨0,Ai.Add.out [.b (Bj v),.l (Ap v),.b (Bj w),.l (Ap w)],[],?_,Ady⟩
  have o1:Hs (Ap v)=true:=Ot (by omega)
  have o2:Hs (Ap w)=true:=Ot (by omega)
  rw [Ai.Add.ev,o1,o2,Ayy,Ays]
  show _=some (DV.agg [.bool (Bj (wv (Bj v) (Ap v)+wv (Bj w) (Ap w))),.ints .arg .u32 (Ap (wv (Bj v) (Ap v)+wv (Bj w) (Ap w)))])
  rw [Ht,Ht]
  by_cases hs:Bj v=Bj w
  · have:(Bj v==Bj w)=true:=by simp [hs]
    have o3:Hs (J7 (Ap v) (Ap w))=true:=N4 (by rw [T9,Ct,Ct]; omega) (Ae0 _ _)
    rw [this,Ays,o3,Ays,Al9 hs]
  · have:(Bj v==Bj w)=false:=by simp [hs]
    rw [this,Ayw,Ays,As,D2,D2,Bool.true_and,Bool.true_and]
    by_cases hl:v.natAbs<w.natAbs
    · have e:decide (V3 v.natAbs w.natAbs<0)=true:=Ayt (by unfold V3; rw [if_pos hl]; decide)
      have o3:Hs (Hj (Ap w) (Ap v))=true:=N4 (by rw [Sj,Ct]; omega) (Abc _ _)
      have o4:leL (Ap v) (Ap w)=true:=Aq.2 (by rw [D2,D2]; omega)
      rw [e,Ays,o4,Ays,o3,Ays,Aig (fun k=>hs k.symm) (by omega),Int.add_comm]
    · have e:decide (V3 v.natAbs w.natAbs<0)=false:=Ayx (by unfold V3; rw [if_neg hl]; split<;>decide)
      have o3:Hs (Hj (Ap v) (Ap w))=true:=N4 (by rw [Sj,Ct]; omega) (Abc _ _)
      have o4:leL (Ap w) (Ap v)=true:=Aq.2 (by rw [D2,D2]; omega)
      rw [e,Ayw,o4,Ays,o3,Ays,Aig hs (by omega)]
set_option maxRecDepth 100000
namespace EqRefB
def Ai.F4.A6:List (Nat × Entry):=[(171,Ai.Made.spec),(174,Ai.plus.spec)]
def Ai.F4.E:Env:=A9 (A5 Ai.F4.A6) (fun _=>false) (fun _=>none) (fun _=>none)
theorem Ai.F4.ev (N:Nat) (n:Bool) (a:List Int):Bq Ai.F4.E N Tryz.f222 (An Tryz.f222) [.agg [.bool n,.ints .arg .u32 a]]=bif (Hs a&&Hs a) then bif (Hs (J7 a a)) then some (.agg [.bool (Bj (wv n (J7 a a))),.ints .arg .u32 (Ap (wv n (J7 a a)))]) else none else none :=
  Eq.trans (by kernel_rfl)
  (C0 (Cx (Hs a&&Hs a)) (C0 (Cx (Hs (J7 a a))) rfl rfl) rfl)
abbrev _root_.Go.Proofs.S1.Ai.F4.Kn:=A3 Tryz.prog 222 Ai.F4.spec
theorem Ai.F4.Ac (hk:Ax Tryz.prog Ai.F4.A6) (h:∀ (n:Bool) (a:List Int),Ai.F4.pre [.b n,.l a]=true→A8 Ai.F4.E Tryz.f222 [.agg [.bool n,.ints .arg .u32 a]] (Ai.F4.out [.b n,.l a])):Ai.F4.Kn :=
  Ak (Az hk _ _ _) Tryz.func222 (by kernel_rfl) (by kernel_rfl) h
def Ai.H2.hint:Nat→Option Ba
  | 0=>some { keep:=[1,2,3,4],objs:=[(0,3,100003,.ints 173 .u32 [])],boxes:=[1,2] }
  | _=>none
def Ai.H2.A6:List (Nat × Entry):=[(171,Ai.Made.spec),(221,Ai.Jy.spec)]
def Ai.H2.E:Env:=A9 (A5 Ai.H2.A6) (fun _=>false) Ai.H2.hint (fun _=>none)
def Ai.H2.L0 (N M:Nat) (n:Bool) (a:List Int) (p4:Int) (p3:List Int):Option DV:=B0 Ai.H2.E N Tryz.f173 (An Tryz.f173) [1,1,0,1,0] [] M ⟨Gj 37 [(1,.ptr 1 0 0),(2,.ptr 2 0 0),(3,.oref 100003),(4,.int .i64 p4)],[(1,false,.box [.bool n,.ints .arg .u32 a]),(2,false,.box [.bool false,.nil]),(100003,false,.ints 173 .u32 p3)]⟩
theorem Ai.H2.Ar (N M:Nat) (n:Bool) (a:List Int) (p4:Int) (p3:List Int):Ai.H2.L0 N (M+1) n a p4 p3=bif (A4 p4 (List.length a:Int)) then bif (Hs a) then bif (Hs a) then bif ((decide (0≤p4))&&(decide (p4<(List.length p3:Int)))) then bif (decide ((Int.toNat p4)<(List.length p3))) then Ai.H2.L0 N M n a (Ab (p4+1)) (List.set p3 (Int.toNat p4) (J1 (Bk (Int.tdiv (Bk ((Bk ((Int.tmod (G4 a (Ab (p4+1))) 2)*4294967296))+(G4 a p4))) 2)))) else none else none else none else none else bif (Hs p3) then some (.agg [.bool (Bj (wv n p3)),.ints .arg .u32 (Ap (wv n p3))]) else none :=
  Eq.trans (by kernel_rfl)
  (Eh (C0 (Cx (Hs a)) (C0 (Cx (Hs a)) (C0 (Ko (decide (0≤p4)) (decide (p4<(List.length p3:Int)))) (C0 (Cx (decide ((Int.toNat p4)<(List.length p3)))) rfl rfl) rfl) rfl) rfl) rfl)
theorem Ai.H2.ev (N:Nat) (n:Bool) (a:List Int):Bq Ai.H2.E N Tryz.f173 (An Tryz.f173) [.agg [.bool n,.ints .arg .u32 a]]=bif (((decide ((0:Int)≤(List.length a:Int)))&&(decide ((List.length a:Int)≤(List.length a:Int))))&&(decide ((List.length a:Int)≤Gt))) then Ai.H2.L0 N N n a 0 (List.replicate (Int.toNat (List.length a:Int)) 0) else none:=by kernel_rfl
abbrev _root_.Go.Proofs.S1.Ai.H2.Kn:=A3 Tryz.prog 173 Ai.H2.spec
theorem Ai.H2.Ac (hk:Ax Tryz.prog Ai.H2.A6) (h:∀ (n:Bool) (a:List Int),Ai.H2.pre [.b n,.l a]=true→A8 Ai.H2.E Tryz.f173 [.agg [.bool n,.ints .arg .u32 a]] (Ai.H2.out [.b n,.l a])):Ai.H2.Kn :=
  Ak (Az hk _ _ _) Tryz.func173 (by kernel_rfl) (by kernel_rfl) h
def Ai.Bs.hint:Nat→Option Ba
  | 0=>some { keep:=[1,2,4],objs:=[],boxes:=[2,4] }
  | 2=>some { keep:=[1,2,4],objs:=[],boxes:=[2,4] }
  | 4=>some { keep:=[1,2,4],objs:=[],boxes:=[2,4] }
  | 6=>some { keep:=[1,2,4],objs:=[],boxes:=[2,4] }
  | _=>none
def Ai.Bs.A6:List (Nat × Entry):=[(222,Ai.F4.spec),(173,Ai.H2.spec),(171,Ai.Made.spec)]
def Ai.Bs.E:Env:=A9 (A5 Ai.Bs.A6) (fun _=>false) Ai.Bs.hint (fun _=>none)
def Ai.Bs.L0 (N M:Nat) (p1:Int) (p2:Bool) (p2_1:List Int):Option DV:=B0 Ai.Bs.E N Tryz.f178 (An Tryz.f178) [1,0,0] [] M ⟨Gj 63 [(1,.int .i64 p1),(2,.ptr 2 0 0),(4,.ptr 4 0 0)],[(2,false,.box [.bool p2,.ints .arg .u32 p2_1]),(4,false,.box [.bool false,.nil])]⟩
def Ai.Bs.L1 (N M:Nat) (p1_1:Int) (p2_2:Bool) (p2_3:List Int):Option DV:=B0 Ai.Bs.E N Tryz.f178 (An Tryz.f178) [1,1,0,0] [] M ⟨Gj 63 [(1,.int .i64 p1_1),(2,.ptr 2 0 0),(4,.ptr 4 0 0)],[(2,false,.box [.bool p2_2,.ints .arg .u32 p2_3]),(4,false,.box [.bool false,.nil])]⟩
def Ai.Bs.L2 (N M:Nat) (p1_2:Int) (p2_4:Bool) (p2_5:List Int):Option DV:=B0 Ai.Bs.E N Tryz.f178 (An Tryz.f178) [1,1,1,0,0] [] M ⟨Gj 63 [(1,.int .i64 p1_2),(2,.ptr 2 0 0),(4,.ptr 4 0 0)],[(2,false,.box [.bool p2_4,.ints .arg .u32 p2_5]),(4,false,.box [.bool false,.nil])]⟩
def Ai.Bs.L3 (N M:Nat) (p1_3:Int) (p2_6:Bool) (p2_7:List Int):Option DV:=B0 Ai.Bs.E N Tryz.f178 (An Tryz.f178) [1,1,1,1,0,0] [] M ⟨Gj 63 [(1,.int .i64 p1_3),(2,.ptr 2 0 0),(4,.ptr 4 0 0)],[(2,false,.box [.bool p2_6,.ints .arg .u32 p2_7]),(4,false,.box [.bool false,.nil])]⟩
theorem Ai.Bs.Ar (N M:Nat) (p1:Int) (p2:Bool) (p2_1:List Int):Ai.Bs.L0 N (M+1) p1 p2 p2_1=bif ((D6 32 p1)&&(A4 0 (List.length p2_1:Int))) then bif (decide (1+(List.length p2_1)≤Gt)) then bif (Hs ([(0:Int)]++p2_1)) then Ai.Bs.L0 N M (Ab (p1-32)) (Bj (wv p2 ([(0:Int)]++p2_1))) (Ap (wv p2 ([(0:Int)]++p2_1))) else none else none else Ai.Bs.L1 N N p1 p2 p2_1 :=
  Eq.trans (by kernel_rfl)
  (Av (N2 (D6 32 p1)) (Av (Lt (D6 32 p1)) (Av (Lt (D6 32 p1)) (Av (Lt (D6 32 p1)) (Av (Sr (D6 32 p1)) (C0 (tt1 (D6 32 p1) (A4 0 (List.length p2_1:Int))) (C0 (Cx (decide (1+(List.length p2_1)≤Gt))) (C0 (Cx (Hs ([(0:Int)]++p2_1))) rfl rfl) rfl) rfl))))))
theorem Ai.Bs.B9 (N M:Nat) (p1_1:Int) (p2_2:Bool) (p2_3:List Int):Ai.Bs.L1 N (M+1) p1_1 p2_2 p2_3=bif ((A4 0 p1_1)&&(A4 0 (List.length p2_3:Int))) then bif (Jm p2_2 p2_3) then Ai.Bs.L1 N M (Ab (p1_1-1)) (Bj (2*wv p2_2 p2_3)) (Ap (2*wv p2_2 p2_3)) else none else Ai.Bs.L2 N N p1_1 p2_2 p2_3 :=
  Eq.trans (by kernel_rfl)
  (Av (N2 (A4 0 p1_1)) (Av (Lt (A4 0 p1_1)) (Av (Lt (A4 0 p1_1)) (Av (Lt (A4 0 p1_1)) (Av (Sr (A4 0 p1_1)) (C0 (tt1 (A4 0 p1_1) (A4 0 (List.length p2_3:Int))) rfl rfl))))))
theorem Ai.Bs.Hq (N M:Nat) (p1_2:Int) (p2_4:Bool) (p2_5:List Int):Ai.Bs.L2 N (M+1) p1_2 p2_4 p2_5=bif ((D6 p1_2 (-32:Int))&&(A4 0 (List.length p2_5:Int))) then bif (decide ((1:Int)≤(List.length p2_5:Int))) then bif (Hs (List.drop 1 p2_5)) then Ai.Bs.L2 N M (Ab (p1_2+32)) (Bj (wv p2_4 (List.drop 1 p2_5))) (Ap (wv p2_4 (List.drop 1 p2_5))) else none else none else Ai.Bs.L3 N N p1_2 p2_4 p2_5 :=
  Eq.trans (by kernel_rfl)
  (Av (N2 (D6 p1_2 (-32:Int))) (Av (Lt (D6 p1_2 (-32:Int))) (Av (Lt (D6 p1_2 (-32:Int))) (Av (Lt (D6 p1_2 (-32:Int))) (Av (Sr (D6 p1_2 (-32:Int))) (C0 (tt1 (D6 p1_2 (-32:Int)) (A4 0 (List.length p2_5:Int))) (C0 (Au7 (decide ((1:Int)≤(List.length p2_5:Int)))) (C0 (Cx (Hs (List.drop 1 p2_5))) rfl rfl) rfl) rfl))))))
theorem Ai.Bs.Ads (N M:Nat) (p1_3:Int) (p2_6:Bool) (p2_7:List Int):Ai.Bs.L3 N (M+1) p1_3 p2_6 p2_7=bif ((A4 p1_3 0)&&(A4 0 (List.length p2_7:Int))) then bif (Jm p2_6 p2_7) then Ai.Bs.L3 N M (Ab (p1_3+1)) (Bj (K4 (wv p2_6 p2_7) 1)) (Ap (K4 (wv p2_6 p2_7) 1)) else none else some (.agg [.bool p2_6,.ints .arg .u32 p2_7]) :=
  Eq.trans (by kernel_rfl)
  (Av (N2 (A4 p1_3 0)) (Av (Lt (A4 p1_3 0)) (Av (Lt (A4 p1_3 0)) (Av (Lt (A4 p1_3 0)) (Av (Sr (A4 p1_3 0)) (C0 (tt1 (A4 p1_3 0) (A4 0 (List.length p2_7:Int))) rfl rfl))))))
theorem Ai.Bs.ev (N:Nat) (n:Bool) (a:List Int) (k:Int):Bq Ai.Bs.E N Tryz.f178 (An Tryz.f178) [.agg [.bool n,.ints .arg .u32 a],.int .i64 k] =
  Ai.Bs.L0 N N k n a:=by kernel_rfl
abbrev _root_.Go.Proofs.S1.Ai.Bs.Kn:=A3 Tryz.prog 178 Ai.Bs.spec
theorem Ai.Bs.Ac (hk:Ax Tryz.prog Ai.Bs.A6) (h:∀ (n:Bool) (a:List Int) (k:Int),Ai.Bs.pre [.b n,.l a,.i k]=true→A8 Ai.Bs.E Tryz.f178 [.agg [.bool n,.ints .arg .u32 a],.int .i64 k] (Ai.Bs.out [.b n,.l a,.i k])):Ai.Bs.Kn :=
  Ak (Az hk _ _ _) Tryz.func178 (by kernel_rfl) (by kernel_rfl) h
def Ai.Rb.hint:Nat→Option Ba
  | 0=>some { keep:=[3,4],objs:=[],boxes:=[] }
  | _=>none
def Ai.Rb.A6:List (Nat × Entry):=[]
def Ai.Rb.E:Env:=A9 (A5 Ai.Rb.A6) (fun _=>false) Ai.Rb.hint (fun _=>none)
def Ai.Rb.L0 (N M:Nat) (p3 p4:Int):Option DV:=B0 Ai.Rb.E N Tryz.f223 (An Tryz.f223) [1,1,1,0,1,0] [] M ⟨Gj 29 [(3,.int .i64 p3),(4,.int .u32 p4)],[]⟩
theorem Ai.Rb.Ar (N M:Nat) (p3 p4:Int):Ai.Rb.L0 N (M+1) p3 p4=bif (A4 0 p4) then Ai.Rb.L0 N M (Ab (p3+1)) (J1 (Int.tdiv p4 2)) else some (.int .i64 p3):=by kernel_rfl
theorem Ai.Rb.ev (N:Nat) (n:Bool) (a:List Int):Bq Ai.Rb.E N Tryz.f223 (An Tryz.f223) [.agg [.bool n,.ints .arg .u32 a]]=bif ((List.length a:Int)==(0:Int)) then some (.int .i64 0) else bif ((decide (0≤(Ab ((List.length a:Int)-1))))&&(decide ((Ab ((List.length a:Int)-1))<(List.length a:Int)))) then Ai.Rb.L0 N N (Ab ((32:Int)*(Ab ((List.length a:Int)-1)))) (List.getD a (Int.toNat (Ab ((List.length a:Int)-1))) 0) else none:=by kernel_rfl
abbrev _root_.Go.Proofs.S1.Ai.Rb.Kn:=A3 Tryz.prog 223 Ai.Rb.spec
theorem Ai.Rb.Ac (hk:Ax Tryz.prog Ai.Rb.A6) (h:∀ (n:Bool) (a:List Int),Ai.Rb.pre [.b n,.l a]=true→A8 Ai.Rb.E Tryz.f223 [.agg [.bool n,.ints .arg .u32 a]] (Ai.Rb.out [.b n,.l a])):Ai.Rb.Kn :=
  Ak (Az hk _ _ _) Tryz.func223 (by kernel_rfl) (by kernel_rfl) h
def Ai.Xl.A6:List (Nat × Entry):=[]
def Ai.Xl.E:Env:=A9 (A5 Ai.Xl.A6) (fun _=>false) (fun _=>none) (fun _=>none)
theorem Ai.Xl.ev (N:Nat) (n:Bool) (a:List Int):Bq Ai.Xl.E N Tryz.f172 (An Tryz.f172) [.agg [.bool n,.ints .arg .u32 a]]=bif ((!(A4 0 (List.length a:Int)))||(decide ((0:Int)<(List.length a:Int)))) then some (.bool (bif (A4 0 (List.length a:Int)) then ((Int.tmod (List.getD a 0 0) 2)==(1:Int)) else false)) else none :=
  Eq.trans (by kernel_rfl)
  (Av (N2 (A4 0 (List.length a:Int))) (Av (Lt (A4 0 (List.length a:Int))) (C0 (Axm (A4 0 (List.length a:Int)) (decide ((0:Int)<(List.length a:Int)))) (Av (Lt (A4 0 (List.length a:Int))) (Av (Lt (A4 0 (List.length a:Int))) (Av (Lt (A4 0 (List.length a:Int))) (Av (Sr (A4 0 (List.length a:Int))) rfl)))) rfl)))
abbrev _root_.Go.Proofs.S1.Ai.Xl.Kn:=A3 Tryz.prog 172 Ai.Xl.spec
theorem Ai.Xl.Ac (hk:Ax Tryz.prog Ai.Xl.A6) (h:∀ (n:Bool) (a:List Int),Ai.Xl.pre [.b n,.l a]=true→A8 Ai.Xl.E Tryz.f172 [.agg [.bool n,.ints .arg .u32 a]] (Ai.Xl.out [.b n,.l a])):Ai.Xl.Kn :=
  Ak (Az hk _ _ _) Tryz.func172 (by kernel_rfl) (by kernel_rfl) h
end EqRefB
open EqRefB
theorem Ai.F4.known:Ai.F4.Kn:=Ai.F4.Ac (.cons Ai.Made.known (.cons Ai.plus.known .nil)) fun n a hp=>by
  obtain ⟨v,rfl,rfl,hv⟩:=Jj hp
  refine ⟨0,Ai.F4.out [.b (Bj v),.l (Ap v)],[],?_,Ady⟩
  have o1:Hs (Ap v)=true:=Ot (by omega)
  have o3:Hs (J7 (Ap v) (Ap v))=true:=N4 (by rw [T9,Ct]; omega) (Ae0 _ _)
  rw [Ai.F4.ev,o1,o3,Ayy,Ays,Ays,Al9 rfl]
  show _=some (DV.agg [.bool (Bj (2*wv (Bj v) (Ap v))),.ints .arg .u32 (Ap (2*wv (Bj v) (Ap v)))])
  rw [Ht,Int.two_mul]
theorem Ate (l:List Int) (y x:Int) (r:List Int):∀ i,i=l.length→(l++y::r).set i x=l++x::r:=by
  induction l with
  | nil=>intro i h; subst h; rfl
  | cons z l ih =>
    intro i h
    obtain ⟨j,rfl⟩:∃ j,i=j+1:=⟨i-1,by rw [List.length_cons] at h; omega⟩
    show z::(l++y::r).set j x=z::(l++x::r)
    rw [ih j (by rw [List.length_cons] at h; omega)]
theorem Alg (N:Nat) {v:Int} (hv:Ds v.natAbs<268435456):∀ (k i F:Nat),i+k=Ds v.natAbs→k<F →
    Ai.H2.L0 N F (Bj v) (Ap v) (i:Int) (digits i (v.natAbs / 2)++List.replicate k 0)=some (.agg [.bool (Bj (K4 v 1)),.ints .arg .u32 (Ap (K4 v 1))]):=by
  have o1:Hs (Ap v)=true:=Ot (by omega)
  have ia:=G3 v
  intro k
  induction k with
  | zero =>
    intro i F hi hF
    obtain ⟨F,rfl⟩:∃ G,F=G+1:=⟨F-1,by omega⟩
    have t0:decide ((i:Int)<((Ap v).length:Int))=false:=Ayx (by rw [Ct]; omega)
    rw [List.replicate_zero,List.append_nil,Ai.H2.Ar,As,t0,Ayw]
    have o3:Hs (digits i (v.natAbs / 2))=true:=N4 (by rw [Ff]; omega) (O5 _ _)
    have e:wv (Bj v) (digits i (v.natAbs / 2))=K4 v 1:=by
      unfold wv K4
      rw [Lc,Ay5,Nat.pow_one]
      have:=Mg v.natAbs
      rw [show i=Ds v.natAbs by omega]
      exact Nat.lt_of_le_of_lt (Nat.div_le_self _ _) this
    rw [o3,Ays,e]
  | succ k ih =>
    intro i F hi hF
    obtain ⟨F,rfl⟩:∃ G,F=G+1:=⟨F-1,by omega⟩
    have hlen:(digits i (v.natAbs / 2)++List.replicate (k+1) (0:Int)).length=i+(k+1):=by rw [List.length_append,Ff,List.length_replicate]
    have t0:decide ((i:Int)<((Ap v).length:Int))=true:=Ayt (by rw [Ct]; omega)
    have t1:decide ((0:Int)≤(i:Int))=true:=Ayt (by omega)
    have t2:decide ((i:Int)<((digits i (v.natAbs / 2)++List.replicate (k+1) (0:Int)).length:Int))=true:=Ayt (by rw [hlen]; omega)
    have t3:decide (i<(digits i (v.natAbs / 2)++List.replicate (k+1) (0:Int)).length)=true:=Ayt (by rw [hlen]; omega)
    have e0:Ab ((i:Int)+1)=((i+1:Nat):Int):=by rw [Al (by omega) (by omega)]; omega
    rw [Ai.H2.Ar,As,t0,o1,Ayu,t1,t2,t3,Ayy]
    simp only [Ays]
    rw [e0,Hm ia,Hm ia,D2]
    have ih:=ih (i+1) F (by omega) (by omega)
    rw [Nx,Nat.div_div_eq_div_mul,Nat.mul_comm 2,← Nat.div_div_eq_div_mul] at ih
    rw [Ol,Nat.mul_comm 4294967296,← Nat.div_div_eq_div_mul,List.replicate_succ,Ate _ _ _ _ i (Ff _ _).symm]
    rw [List.append_assoc] at ih
    generalize v.natAbs / 2^(32*i)=x at *
    have e1:Int.tmod ((x / 4294967296%4294967296:Nat):Int) 2=((x / 4294967296%4294967296%2:Nat):Int):=J3 _ 2
    have e2:Bk (Bk (((x / 4294967296%4294967296%2:Nat):Int)*4294967296)+((x%4294967296:Nat):Int))=((x / 4294967296%4294967296%2*4294967296+x%4294967296:Nat):Int):=by
      rw [Dn (x:=((x / 4294967296%4294967296%2:Nat):Int)*4294967296) (by omega) (by omega),Dn (by omega) (by omega)]; omega
    have e3:Int.tdiv ((x / 4294967296%4294967296%2*4294967296+x%4294967296:Nat):Int) 2=(((x / 4294967296%4294967296%2*4294967296+x%4294967296) / 2:Nat):Int):=J4 _ 2
    have e4:(x / 4294967296%4294967296%2*4294967296+x%4294967296) / 2=x / 2%4294967296:=by omega
    rw [e1,e2,e3,e4,Dn (by omega) (by omega),Lb (by omega) (by omega)]
    exact ih
theorem Ai.H2.known:Ai.H2.Kn:=Ai.H2.Ac (.cons Ai.Made.known (.cons Ai.Jy.known .nil)) fun n a hp=>by
  obtain ⟨v,rfl,rfl,hv⟩:=Jj hp
  refine ⟨Ds v.natAbs+1,Ai.H2.out [.b (Bj v),.l (Ap v)],[],?_,Ady⟩
  show _=some (DV.agg [.bool (Bj (K4 (wv (Bj v) (Ap v)) 1)),.ints .arg .u32 (Ap (K4 (wv (Bj v) (Ap v)) 1))])
  rw [Ai.H2.ev,Ht,Ct,Ayt (by omega),Ayt (by omega),Ayt (by unfold Gt; omega),Ayy,Ayy,Ays,Ayu]
  have h:=Alg (Ds v.natAbs+1) hv (Ds v.natAbs) 0 (Ds v.natAbs+1) (by omega) (by omega)
  rw [digits,List.nil_append] at h
  exact h
def Agl (v:Int):Option DV:=some (.agg [.bool (Bj v),.ints .arg .u32 (Ap v)])
theorem Uv (v:Int):A4 (0:Int) ((Ap v).length:Int)=decide (v≠0):=by
  rw [As,Ct,decide_eq_decide]
  constructor
  · intro h e
    rw [e] at h
    exact absurd h (by decide)
  · intro h
    have:=Jf (n:=v.natAbs) (by omega)
    omega
theorem As8 (N:Nat):∀ (j F:Nat) (v:Int),j<F→j<2000000→Ds v.natAbs<268435456→Ai.Bs.L3 N F (-(j:Int)) (Bj v) (Ap v)=Agl (K4 v j):=by
  intro j
  induction j with
  | zero =>
    intro F v hF _ hv
    obtain ⟨F,rfl⟩:∃ G,F=G+1:=⟨F-1,by omega⟩
    rw [Ai.Bs.Ads,As,Ayx (by omega),Bool.false_and,Ayw,Aek]
    rfl
  | succ j ih =>
    intro F v hF hj hv
    obtain ⟨F,rfl⟩:∃ G,F=G+1:=⟨F-1,by omega⟩
    rw [Ai.Bs.Ads,As,Ayt (by omega),Bool.true_and,Uv]
    by_cases h0:v=0
    · rw [Ayx (by omega),Ayw,h0,Rj]
      rfl
    · rw [Ayt h0,Ays,Jl hv,Ays,Ht,Al (by omega) (by omega)]
      have e:-((j+1:Nat):Int)+1=-(j:Int):=by omega
      have hl:Ds (K4 v 1).natAbs<268435456:=by
        rw [L9]
        exact Nat.lt_of_le_of_lt (Mr (Nat.div_le_self _ _)) hv
      rw [e,ih F (K4 v 1) (by omega) (by omega) hl,Acj,Nat.add_comm]
theorem Aif (v:Int):wv (Bj v) ((Ap v).drop 1)=K4 v 32:=by
  unfold wv K4
  rw [Ajy (G3 v),D2,two32]
theorem As9 (N:Nat):∀ (F j:Nat) (v:Int),j<F→j<N→j<2000000→Ds v.natAbs<268435456→Ai.Bs.L2 N F (-(j:Int)) (Bj v) (Ap v)=Agl (K4 v j):=by
  intro F
  induction F with
  | zero=>intro j v h; omega
  | succ F ih =>
    intro j v hF hN hj hv
    rw [Ai.Bs.Hq,Ef,Uv]
    by_cases hc:32≤j∧v≠0
    · have o3:Hs ((Ap v).drop 1)=true:=N4 (by rw [List.length_drop,Ct]; omega) (Afo (G3 v))
      have t1:decide ((1:Int)≤((Ap v).length:Int))=true:=Ayt (by
        rw [Ct]
        have:=Jf (n:=v.natAbs) (by omega)
        omega)
      have hl:Ds (K4 v 32).natAbs<268435456:=by
        rw [L9]
        exact Nat.lt_of_le_of_lt (Mr (Nat.div_le_self _ _)) hv
      rw [Ayt (by omega),Ayt hc.2,Ayy,Ays,t1,Ays,o3,Ays,Aif,Al (by omega) (by omega)]
      have e:-(j:Int)+32=-((j-32:Nat):Int):=by omega
      rw [e,ih (j-32) (K4 v 32) (by omega) (by omega) (by omega) hl,Acj]
      congr 2
      omega
    · have:(decide (-(j:Int)≤-32)&&decide (v≠0))=false:=by
        rw [Bool.and_eq_false_iff,Azb,Azb]
        omega
      rw [this,Ayw]
      exact As8 N j N v hN hj hv
theorem Wc (N F:Nat) {k:Int} (hk:0≤k) (hN:0<N) (v:Int):Ai.Bs.L2 N (F+1) k (Bj v) (Ap v)=Agl v:=by
  obtain ⟨M,rfl⟩:∃ M,N=M+1:=⟨N-1,by omega⟩
  rw [Ai.Bs.Hq,Ef,Ayx (by omega),Bool.false_and,Ayw,Ai.Bs.Ads,As,Ayx (by omega),Bool.false_and,Ayw]
  rfl
theorem Ata (N:Nat) (hN:0<N):∀ (j F:Nat) (v:Int),j<F→j<2000000→Ds v.natAbs+j<268435456→Ai.Bs.L1 N F (j:Int) (Bj v) (Ap v)=Agl (v*((2^j:Nat):Int)):=by
  obtain ⟨M,rfl⟩:∃ M,N=M+1:=⟨N-1,by omega⟩
  intro j
  induction j with
  | zero =>
    intro F v hF _ hv
    obtain ⟨F,rfl⟩:∃ G,F=G+1:=⟨F-1,by omega⟩
    rw [Ai.Bs.B9,As,Ayx (by omega),Bool.false_and,Ayw,Wc _ _ (by omega) (by omega),Nat.pow_zero]
    congr 1
    omega
  | succ j ih =>
    intro F v hF hj hv
    obtain ⟨F,rfl⟩:∃ G,F=G+1:=⟨F-1,by omega⟩
    rw [Ai.Bs.B9,As,Ayt (by omega),Bool.true_and,Uv]
    by_cases h0:v=0
    · rw [Ayx (by omega),Ayw,h0,Int.zero_mul,Wc _ _ (by omega) (by omega)]
    · have hl:=Aob v.natAbs
      have e2:(2*v).natAbs=2*v.natAbs:=by omega
      have e:((j+1:Nat):Int)-1=(j:Int):=by omega
      rw [Ayt h0,Ays,Jl (by omega),Ays,Ht,Al (by omega) (by omega),e,ih F (2*v) (by omega) (by omega) (by rw [e2]; omega)]
      congr 1
      rw [Nat.pow_succ,Azd,Int.mul_comm 2 v,Int.mul_assoc,Int.mul_comm ((2^j:Nat):Int)]
      rfl
theorem Aui (v:Int):wv (Bj v) ([(0:Int)]++Ap v)=v*((2^32:Nat):Int):=by
  have e:Cr ([(0:Int)]++Ap v)=4294967296*v.natAbs:=by
    show Cr (0::Ap v)=_
    rw [Cr,D2]
    exact Nat.zero_add _
  unfold wv
  rw [e,two32]
  by_cases h:v<0
  · rw [T0 h]; omega
  · rw [Tz h]; omega
theorem Atb (N:Nat):∀ (F j:Nat) (v:Int),j<F→j<N→j<2000000→Ds v.natAbs+j<268435456→Ai.Bs.L0 N F (j:Int) (Bj v) (Ap v)=Agl (v*((2^j:Nat):Int)):=by
  intro F
  induction F with
  | zero=>intro j v h; omega
  | succ F ih =>
    intro j v hF hN hj hv
    rw [Ai.Bs.Ar,Ef,Uv]
    by_cases hc:32≤j∧v≠0
    · have o3:Hs ([(0:Int)]++Ap v)=true:=N4 (by rw [List.length_append,Ct]; show 1+_<_; omega) (Aol (G3 v))
      have t1:decide (1+(Ap v).length≤Gt)=true:=Ayt (by rw [Ct]; unfold Gt; omega)
      have e2:(v*((2^32:Nat):Int)).natAbs=v.natAbs*4294967296:=by rw [Int.natAbs_mul,Int.natAbs_natCast,two32]
      have hl:=Aq8 v.natAbs
      rw [Ayt (by omega),Ayt hc.2,Ayy,Ays,t1,Ays,o3,Ays,Aui,Al (by omega) (by omega)]
      have e:(j:Int)-32=((j-32:Nat):Int):=by omega
      rw [e,ih (j-32) _ (by omega) (by omega) (by omega) (by rw [e2]; omega)]
      have e3:2^j=2^32*2^(j-32):=by rw [← Nat.pow_add]; congr 1; omega
      rw [e3,Azd,Int.mul_assoc]
    · have:(decide ((32:Int)≤(j:Int))&&decide (v≠0))=false:=by
        rw [Bool.and_eq_false_iff,Azb,Azb]
        omega
      rw [this,Ayw]
      exact Ata N (by omega) j N v hN hj hv
theorem Agx (N j:Nat) (v:Int) (hj:0<j) (hN:j<N) (hj2:j<2000000) (hv:Ds v.natAbs<268435456):Ai.Bs.L0 N N (-(j:Int)) (Bj v) (Ap v)=Agl (K4 v j):=by
  obtain ⟨M,rfl⟩:∃ M,N=M+1:=⟨N-1,by omega⟩
  rw [Ai.Bs.Ar,Ef,Ayx (by omega),Bool.false_and,Ayw,Ai.Bs.B9,As,Ayx (by omega),Bool.false_and,Ayw]
  exact As9 _ _ j v hN hN hj2 hv
theorem Ai.Bs.known:Ai.Bs.Kn:=Ai.Bs.Ac (.cons Ai.F4.known (.cons Ai.H2.known (.cons Ai.Made.known .nil))) fun n a k hp=>by
  obtain ⟨h1,h2⟩:=Ad.1 hp
  obtain ⟨v,rfl,rfl,hv⟩:=Po h1
  have h2:=Aq.1 h2
  refine ⟨k.natAbs+1,Ai.Bs.out [.b (Bj v),.l (Ap v),.i k],[],?_,Ady⟩
  show _=some (DV.agg [.bool (Bj (Gy (wv (Bj v) (Ap v)) k)),.ints .arg .u32 (Ap (Gy (wv (Bj v) (Ap v)) k))])
  rw [Ai.Bs.ev,Ht]
  unfold Gy
  by_cases h:0≤k
  · obtain ⟨j,rfl⟩:∃ j:Nat,k=j:=⟨k.toNat,by omega⟩
    rw [if_pos h,Ayu,Int.natAbs_natCast]
    exact Atb _ _ j v (by omega) (by omega) (by omega) (by omega)
  · obtain ⟨j,rfl⟩:∃ j:Nat,k=-(j:Int):=⟨(-k).toNat,by omega⟩
    have e:(-(-(j:Int))).toNat=j:=by omega
    rw [if_neg h,e,Int.natAbs_neg,Int.natAbs_natCast]
    exact Agx _ j v (by omega) (by omega) (by omega) (by omega)
open EqRefB
theorem Ald {t:Nat} (h:2≤t):(t / 2).log2+1=t.log2:=by
  have:=Aff (n:=t) (m:=1) (by omega)
  rw [Nat.pow_one] at this
  exact this
theorem Aoa (N:Nat):∀ (F:Nat) (t:Nat) (p:Int),t<2^32→0<t→t.log2+1<F→-1000≤p→p+t.log2<4611686018427387904 →
    Ai.Rb.L0 N F p (t:Int)=some (.int .i64 (p+t.log2+1)):=by
  intro F
  induction F with
  | zero=>intro t p _ _ h; omega
  | succ F ih =>
    intro t p ht h0 hF hp1 hp2
    have e2:Int.tdiv (t:Int) 2=((t / 2:Nat):Int):=J4 t 2
    rw [two32] at ht
    rw [Ai.Rb.Ar,As,Ayt (by omega),Ays,e2,Lb (by omega) (by omega),Al (by omega) (by omega)]
    by_cases h1:t=1
    · subst h1
      obtain ⟨G,rfl⟩:∃ G,F=G+1:=⟨F-1,by omega⟩
      rw [Ai.Rb.Ar,As,Ayx (by decide),Ayw]
      have:(1:Nat).log2=0:=by decide
      rw [this]
      congr 2
      omega
    · have hl:=Ald (t:=t) (by omega)
      rw [ih (t / 2) (p+1) (by rw [two32]; omega) (by omega) (by omega) (by omega) (by omega)]
      congr 2
      omega
theorem Ai.Rb.known:Ai.Rb.Kn:=Ai.Rb.Ac .nil fun n a hp=>by
  obtain ⟨v,rfl,rfl,hv⟩:=Jj hp
  refine ⟨40,Ai.Rb.out [.b (Bj v),.l (Ap v)],[],?_,.int⟩
  show _=some (DV.int .i64 (Y3 (wv (Bj v) (Ap v))))
  rw [Ai.Rb.ev,Ht,Ct]
  unfold Y3
  by_cases h0:v=0
  · rw [if_pos h0,h0]; rfl
  · have hn:v.natAbs≠0:=by omega
    have hl:=Jf hn
    have e0:((Ds v.natAbs:Int)==0)=false:=by simp only [beq_eq_false_iff_ne,ne_eq]; omega
    have e1:(Ds v.natAbs:Int)-1=((Ds v.natAbs-1:Nat):Int):=by omega
    have hlen:Ds v.natAbs=v.natAbs.log2 / 32+1:=by unfold Ds; rw [if_neg hn]
    have hge:2^(32*(Ds v.natAbs-1))≤v.natAbs:=Nat.le_trans (Ay7 (by decide) (by omega)) (Nat.log2_self_le hn)
    have hq:v.natAbs / 2^(32*(Ds v.natAbs-1))<2^32:=by
      rw [Nat.div_lt_iff_lt_mul (Cp _),← Nat.pow_add]
      have:=Mg v.natAbs
      have e:32+32*(Ds v.natAbs-1)=32*Ds v.natAbs:=by omega
      rw [e]; exact this
    have hlog:=Aff hge
    have hg:=Rt (G3 v) (Ds v.natAbs-1)
    have hq':=hq
    rw [two32] at hq'
    rw [D2,Ay5 hq'] at hg
    have hpos:=Nat.div_pos hge (Cp _)
    have h32:(v.natAbs / 2^(32*(Ds v.natAbs-1))).log2<32:=(Nat.log2_lt (by omega)).2 hq
    rw [if_neg h0,e0,Ayw,Al (by omega) (by omega),e1,Ayt (by omega),Ayt (by omega),Ayy,Ays,Ayu,hg,Al (by omega) (by omega)]
    rw [Aoa 40 40 _ _ hq hpos (by omega) (by omega) (by omega)]
    congr 2
    omega
theorem Ai.Xl.known:Ai.Xl.Kn:=Ai.Xl.Ac .nil fun n a hp=>by
  obtain ⟨v,rfl,rfl,hv⟩:=Jj hp
  refine ⟨0,Ai.Xl.out [.b (Bj v),.l (Ap v)],[],?_,.bool⟩
  show _=some (DV.bool (Akt (wv (Bj v) (Ap v))))
  rw [Ai.Xl.ev,Ht,Uv]
  have hg:=Rt (G3 v) 0
  rw [D2,Nat.mul_zero,Nat.pow_zero,Nat.div_one] at hg
  have e2:Int.tmod ((v.natAbs%4294967296:Nat):Int) 2=((v.natAbs%4294967296%2:Nat):Int):=J3 _ 2
  unfold Akt
  by_cases h0:v=0
  · rw [h0]; rfl
  · have hl:=Jf (n:=v.natAbs) (by omega)
    rw [hg,e2,Ayt h0,Ct,Ayt (by omega),Bool.or_true,Ays,Ays]
    congr 2
    rw [Ay8]
    simp only [beq_iff_eq,Ayz]
    omega
namespace EqRefC
def Ay.Of.hint:Nat→Option Ba
  | 0=>some { keep:=[1,2,4],objs:=[],boxes:=[2,4] }
  | 2=>some { keep:=[1,2,4],objs:=[],boxes:=[2,4] }
  | _=>none
def Ay.Of.A6:List (Nat × Entry):=[(173,Ai.H2.spec),(171,Ai.Made.spec),(172,Ai.Xl.spec)]
def Ay.Of.E:Env:=A9 (A5 Ay.Of.A6) (fun _=>false) Ay.Of.hint (fun _=>none)
def Ay.Of.L0 (N M:Nat) (p1:Int) (p2:Bool) (p2_1:List Int):Option DV:=B0 Ay.Of.E N Tryz.f109 (An Tryz.f109) [1,1,0,0] [] M ⟨Gj 33 [(1,.int .i64 p1),(2,.ptr 2 0 0),(4,.ptr 4 0 0)],[(2,false,.box [.bool p2,.ints .arg .u32 p2_1]),(4,false,.box [.bool false,.nil,.int .i64 0])]⟩
def Ay.Of.L1 (N M:Nat) (p1_1:Int) (p2_2:Bool) (p2_3:List Int):Option DV:=B0 Ay.Of.E N Tryz.f109 (An Tryz.f109) [1,1,1,0,0] [] M ⟨Gj 33 [(1,.int .i64 p1_1),(2,.ptr 2 0 0),(4,.ptr 4 0 0)],[(2,false,.box [.bool p2_2,.ints .arg .u32 p2_3]),(4,false,.box [.bool false,.nil,.int .i64 0])]⟩
theorem Ay.Of.Ar (N M:Nat) (p1:Int) (p2:Bool) (p2_1:List Int):Ay.Of.L0 N (M+1) p1 p2 p2_1=bif (decide ((0:Int)<(List.length p2_1:Int))) then bif ((List.getD p2_1 0 0)==(0:Int)) then bif (decide ((1:Int)≤(List.length p2_1:Int))) then bif (Hs (List.drop 1 p2_1)) then Ay.Of.L0 N M (Ab (p1+32)) (Bj (wv p2 (List.drop 1 p2_1))) (Ap (wv p2 (List.drop 1 p2_1))) else none else none else Ay.Of.L1 N N p1 p2 p2_1 else none :=
  Eq.trans (by kernel_rfl)
  (Eh (Eh (C0 (Au7 (decide ((1:Int)≤(List.length p2_1:Int)))) (C0 (Cx (Hs (List.drop 1 p2_1))) rfl rfl) rfl) rfl) rfl)
theorem Ay.Of.B9 (N M:Nat) (p1_1:Int) (p2_2:Bool) (p2_3:List Int):Ay.Of.L1 N (M+1) p1_1 p2_2 p2_3=bif (Jm p2_2 p2_3) then bif (!(Akt (wv p2_2 p2_3))) then bif (Jm p2_2 p2_3) then Ay.Of.L1 N M (Ab (p1_1+1)) (Bj (K4 (wv p2_2 p2_3) 1)) (Ap (K4 (wv p2_2 p2_3) 1)) else none else some (.agg [.bool p2_2,.ints .arg .u32 p2_3,.int .i64 p1_1]) else none:=by kernel_rfl
theorem Ay.Of.ev (N:Nat) (n:Bool) (a:List Int) (e:Int):Bq Ay.Of.E N Tryz.f109 (An Tryz.f109) [.agg [.bool n,.ints .arg .u32 a],.int .i64 e]=bif ((List.length a:Int)==(0:Int)) then some (.agg [.bool false,.nil,.int .i64 0]) else Ay.Of.L0 N N e n a:=by kernel_rfl
abbrev _root_.Go.Proofs.S1.Ay.Of.Kn:=A3 Tryz.prog 109 Ay.Of.spec
theorem Ay.Of.Ac (hk:Ax Tryz.prog Ay.Of.A6) (h:∀ (n:Bool) (a:List Int) (e:Int),Ay.Of.pre [.b n,.l a,.i e]=true→A8 Ay.Of.E Tryz.f109 [.agg [.bool n,.ints .arg .u32 a],.int .i64 e] (Ay.Of.out [.b n,.l a,.i e])):Ay.Of.Kn :=
  Ak (Az hk _ _ _) Tryz.func109 (by kernel_rfl) (by kernel_rfl) h
def Ay.Neg.A6:List (Nat × Entry):=[(143,Ai.Neg.spec)]
def Ay.Neg.E:Env:=A9 (A5 Ay.Neg.A6) (fun _=>false) (fun _=>none) (fun _=>none)
theorem Ay.Neg.ev (N:Nat) (n:Bool) (a:List Int) (e:Int):Bq Ay.Neg.E N Tryz.f170 (An Tryz.f170) [.agg [.bool n,.ints .arg .u32 a,.int .i64 e]]=bif (Jm n a) then some (.agg [.bool (Bj (- wv n a)),.ints .arg .u32 (Ap (- wv n a)),.int .i64 e]) else none :=
  Eq.trans (by kernel_rfl)
  (C0 (Cx (Jm n a)) rfl rfl)
abbrev _root_.Go.Proofs.S1.Ay.Neg.Kn:=A3 Tryz.prog 170 Ay.Neg.spec
theorem Ay.Neg.Ac (hk:Ax Tryz.prog Ay.Neg.A6) (h:∀ (n:Bool) (a:List Int) (e:Int),Ay.Neg.pre [.b n,.l a,.i e]=true→A8 Ay.Neg.E Tryz.f170 [.agg [.bool n,.ints .arg .u32 a,.int .i64 e]] (Ay.Neg.out [.b n,.l a,.i e])):Ay.Neg.Kn :=
  Ak (Az hk _ _ _) Tryz.func170 (by kernel_rfl) (by kernel_rfl) h
def Ay.Xm.A6:List (Nat × Entry):=[]
def Ay.Xm.E:Env:=A9 (A5 Ay.Xm.A6) (fun _=>false) (fun _=>none) (fun _=>none)
theorem Ay.Xm.ev (N:Nat) (n:Bool) (a:List Int) (e:Int) (m:Bool) (b:List Int) (f:Int):Bq Ay.Xm.E N Tryz.f111 (An Tryz.f111) [.agg [.bool n,.ints .arg .u32 a,.int .i64 e],.agg [.bool m,.ints .arg .u32 b,.int .i64 f]]=bif ((List.length a:Int)==(0:Int)) then some (.int .i64 f) else bif ((List.length b:Int)==(0:Int)) then some (.int .i64 e) else some (.int .i64 (min e f)):=by kernel_rfl
abbrev _root_.Go.Proofs.S1.Ay.Xm.Kn:=A3 Tryz.prog 111 Ay.Xm.spec
theorem Ay.Xm.Ac (hk:Ax Tryz.prog Ay.Xm.A6) (h:∀ (n:Bool) (a:List Int) (e:Int) (m:Bool) (b:List Int) (f:Int),Ay.Xm.pre [.b n,.l a,.i e,.b m,.l b,.i f]=true→A8 Ay.Xm.E Tryz.f111 [.agg [.bool n,.ints .arg .u32 a,.int .i64 e],.agg [.bool m,.ints .arg .u32 b,.int .i64 f]] (Ay.Xm.out [.b n,.l a,.i e,.b m,.l b,.i f])):Ay.Xm.Kn :=
  Ak (Az hk _ _ _) Tryz.func111 (by kernel_rfl) (by kernel_rfl) h
def Ay.Level.A6:List (Nat × Entry):=[(178,Ai.Bs.spec)]
def Ay.Level.E:Env:=A9 (A5 Ay.Level.A6) (fun _=>false) (fun _=>none) (fun _=>none)
theorem Ay.Level.ev (N:Nat) (n:Bool) (a:List Int) (e f:Int):Bq Ay.Level.E N Tryz.f113 (An Tryz.f113) [.agg [.bool n,.ints .arg .u32 a,.int .i64 e],.int .i64 f]=bif ((List.length a:Int)==(0:Int)) then some (.agg [.bool n,.ints .arg .u32 a]) else bif (Xd n a&&Atn (Ab (e-f))) then some (.agg [.bool (Bj (Gy (wv n a) (Ab (e-f)))),.ints .arg .u32 (Ap (Gy (wv n a) (Ab (e-f))))]) else none:=by kernel_rfl
abbrev _root_.Go.Proofs.S1.Ay.Level.Kn:=A3 Tryz.prog 113 Ay.Level.spec
theorem Ay.Level.Ac (hk:Ax Tryz.prog Ay.Level.A6) (h:∀ (n:Bool) (a:List Int) (e f:Int),Ay.Level.pre [.b n,.l a,.i e,.i f]=true→A8 Ay.Level.E Tryz.f113 [.agg [.bool n,.ints .arg .u32 a,.int .i64 e],.int .i64 f] (Ay.Level.out [.b n,.l a,.i e,.i f])):Ay.Level.Kn :=
  Ak (Az hk _ _ _) Tryz.func113 (by kernel_rfl) (by kernel_rfl) h
def Ay.Add.A6:List (Nat × Entry):=[(112,Ai.Add.spec),(113,Ay.Level.spec),(111,Ay.Xm.spec),(109,Ay.Of.spec)]
def Ay.Add.E:Env:=A9 (A5 Ay.Add.A6) (fun _=>false) (fun _=>none) (fun _=>none)
theorem Ay.Add.ev (N:Nat) (n:Bool) (a:List Int) (e:Int) (m:Bool) (b:List Int) (f:Int):Bq Ay.Add.E N Tryz.f42 (An Tryz.f42) [.agg [.bool n,.ints .arg .u32 a,.int .i64 e],.agg [.bool m,.ints .arg .u32 b,.int .i64 f]]=bif (Jm n a&&Jm m b) then bif (Xd n a&&Ae6 (wv n a) e (C9 (wv n a) e (wv m b) f)) then bif (Xd m b&&Ae6 (wv m b) f (C9 (wv n a) e (wv m b) f)) then bif (Jm (Bj (Gy (wv n a) (e-(C9 (wv n a) e (wv m b) f)))) (Ap (Gy (wv n a) (e-(C9 (wv n a) e (wv m b) f))))&&Jm (Bj (Gy (wv m b) (f-(C9 (wv n a) e (wv m b) f)))) (Ap (Gy (wv m b) (f-(C9 (wv n a) e (wv m b) f))))) then bif (Jm (Bj (wv (Bj (Gy (wv n a) (e-(C9 (wv n a) e (wv m b) f)))) (Ap (Gy (wv n a) (e-(C9 (wv n a) e (wv m b) f))))+wv (Bj (Gy (wv m b) (f-(C9 (wv n a) e (wv m b) f)))) (Ap (Gy (wv m b) (f-(C9 (wv n a) e (wv m b) f)))))) (Ap (wv (Bj (Gy (wv n a) (e-(C9 (wv n a) e (wv m b) f)))) (Ap (Gy (wv n a) (e-(C9 (wv n a) e (wv m b) f))))+wv (Bj (Gy (wv m b) (f-(C9 (wv n a) e (wv m b) f)))) (Ap (Gy (wv m b) (f-(C9 (wv n a) e (wv m b) f))))))&&Aad (C9 (wv n a) e (wv m b) f)) then some (.agg [.bool (Bj (mD (wv (Bj (wv (Bj (Gy (wv n a) (e-(C9 (wv n a) e (wv m b) f)))) (Ap (Gy (wv n a) (e-(C9 (wv n a) e (wv m b) f))))+wv (Bj (Gy (wv m b) (f-(C9 (wv n a) e (wv m b) f)))) (Ap (Gy (wv m b) (f-(C9 (wv n a) e (wv m b) f)))))) (Ap (wv (Bj (Gy (wv n a) (e-(C9 (wv n a) e (wv m b) f)))) (Ap (Gy (wv n a) (e-(C9 (wv n a) e (wv m b) f))))+wv (Bj (Gy (wv m b) (f-(C9 (wv n a) e (wv m b) f)))) (Ap (Gy (wv m b) (f-(C9 (wv n a) e (wv m b) f))))))))),.ints .arg .u32 (Ap (mD (wv (Bj (wv (Bj (Gy (wv n a) (e-(C9 (wv n a) e (wv m b) f)))) (Ap (Gy (wv n a) (e-(C9 (wv n a) e (wv m b) f))))+wv (Bj (Gy (wv m b) (f-(C9 (wv n a) e (wv m b) f)))) (Ap (Gy (wv m b) (f-(C9 (wv n a) e (wv m b) f)))))) (Ap (wv (Bj (Gy (wv n a) (e-(C9 (wv n a) e (wv m b) f)))) (Ap (Gy (wv n a) (e-(C9 (wv n a) e (wv m b) f))))+wv (Bj (Gy (wv m b) (f-(C9 (wv n a) e (wv m b) f)))) (Ap (Gy (wv m b) (f-(C9 (wv n a) e (wv m b) f))))))))),.int .i64 (eD (wv (Bj (wv (Bj (Gy (wv n a) (e-(C9 (wv n a) e (wv m b) f)))) (Ap (Gy (wv n a) (e-(C9 (wv n a) e (wv m b) f))))+wv (Bj (Gy (wv m b) (f-(C9 (wv n a) e (wv m b) f)))) (Ap (Gy (wv m b) (f-(C9 (wv n a) e (wv m b) f)))))) (Ap (wv (Bj (Gy (wv n a) (e-(C9 (wv n a) e (wv m b) f)))) (Ap (Gy (wv n a) (e-(C9 (wv n a) e (wv m b) f))))+wv (Bj (Gy (wv m b) (f-(C9 (wv n a) e (wv m b) f)))) (Ap (Gy (wv m b) (f-(C9 (wv n a) e (wv m b) f))))))) (C9 (wv n a) e (wv m b) f))]) else none else none else none else none else none :=
  Eq.trans (by kernel_rfl)
  (Eh (C0 (Cx (Xd n a&&Ae6 (wv n a) e (C9 (wv n a) e (wv m b) f))) (C0 (Cx (Xd m b&&Ae6 (wv m b) f (C9 (wv n a) e (wv m b) f))) (C0 (Cx (Jm (Bj (Gy (wv n a) (e-(C9 (wv n a) e (wv m b) f)))) (Ap (Gy (wv n a) (e-(C9 (wv n a) e (wv m b) f))))&&Jm (Bj (Gy (wv m b) (f-(C9 (wv n a) e (wv m b) f)))) (Ap (Gy (wv m b) (f-(C9 (wv n a) e (wv m b) f)))))) (C0 (Cx (Jm (Bj (wv (Bj (Gy (wv n a) (e-(C9 (wv n a) e (wv m b) f)))) (Ap (Gy (wv n a) (e-(C9 (wv n a) e (wv m b) f))))+wv (Bj (Gy (wv m b) (f-(C9 (wv n a) e (wv m b) f)))) (Ap (Gy (wv m b) (f-(C9 (wv n a) e (wv m b) f)))))) (Ap (wv (Bj (Gy (wv n a) (e-(C9 (wv n a) e (wv m b) f)))) (Ap (Gy (wv n a) (e-(C9 (wv n a) e (wv m b) f))))+wv (Bj (Gy (wv m b) (f-(C9 (wv n a) e (wv m b) f)))) (Ap (Gy (wv m b) (f-(C9 (wv n a) e (wv m b) f))))))&&Aad (C9 (wv n a) e (wv m b) f))) rfl rfl) rfl) rfl) rfl) rfl)
abbrev _root_.Go.Proofs.S1.Ay.Add.Kn:=A3 Tryz.prog 42 Ay.Add.spec
theorem Ay.Add.Ac (hk:Ax Tryz.prog Ay.Add.A6) (h:∀ (n:Bool) (a:List Int) (e:Int) (m:Bool) (b:List Int) (f:Int),Ay.Add.pre [.b n,.l a,.i e,.b m,.l b,.i f]=true→A8 Ay.Add.E Tryz.f42 [.agg [.bool n,.ints .arg .u32 a,.int .i64 e],.agg [.bool m,.ints .arg .u32 b,.int .i64 f]] (Ay.Add.out [.b n,.l a,.i e,.b m,.l b,.i f])):Ay.Add.Kn :=
  Ak (Az hk _ _ _) Tryz.func42 (by kernel_rfl) (by kernel_rfl) h
def Ay.Sub.A6:List (Nat × Entry):=[(42,Ay.Add.spec),(170,Ay.Neg.spec)]
def Ay.Sub.E:Env:=A9 (A5 Ay.Sub.A6) (fun _=>false) (fun _=>none) (fun _=>none)
theorem Ay.Sub.ev (N:Nat) (n:Bool) (a:List Int) (e:Int) (m:Bool) (b:List Int) (f:Int):Bq Ay.Sub.E N Tryz.f105 (An Tryz.f105) [.agg [.bool n,.ints .arg .u32 a,.int .i64 e],.agg [.bool m,.ints .arg .u32 b,.int .i64 f]]=bif (Jm m b) then bif (((Xd n a&&Xd (Bj (- wv m b)) (Ap (- wv m b)))&&Wx e)&&Wx f) then some (.agg [.bool (Bj (Q8 (wv n a) e (wv (Bj (- wv m b)) (Ap (- wv m b))) f)),.ints .arg .u32 (Ap (Q8 (wv n a) e (wv (Bj (- wv m b)) (Ap (- wv m b))) f)),.int .i64 (Apu (wv n a) e (wv (Bj (- wv m b)) (Ap (- wv m b))) f)]) else none else none :=
  Eq.trans (by kernel_rfl)
  (C0 (Cx (Jm m b)) (C0 (Cx (((Xd n a&&Xd (Bj (- wv m b)) (Ap (- wv m b)))&&Wx e)&&Wx f)) rfl rfl) rfl)
abbrev _root_.Go.Proofs.S1.Ay.Sub.Kn:=A3 Tryz.prog 105 Ay.Sub.spec
theorem Ay.Sub.Ac (hk:Ax Tryz.prog Ay.Sub.A6) (h:∀ (n:Bool) (a:List Int) (e:Int) (m:Bool) (b:List Int) (f:Int),Ay.Sub.pre [.b n,.l a,.i e,.b m,.l b,.i f]=true→A8 Ay.Sub.E Tryz.f105 [.agg [.bool n,.ints .arg .u32 a,.int .i64 e],.agg [.bool m,.ints .arg .u32 b,.int .i64 f]] (Ay.Sub.out [.b n,.l a,.i e,.b m,.l b,.i f])):Ay.Sub.Kn :=
  Ak (Az hk _ _ _) Tryz.func105 (by kernel_rfl) (by kernel_rfl) h
def Ay.Wu.A6:List (Nat × Entry):=[(223,Ai.Rb.spec)]
def Ay.Wu.E:Env:=A9 (A5 Ay.Wu.A6) (fun _=>false) (fun _=>none) (fun _=>none)
theorem Ay.Wu.ev (N:Nat) (n:Bool) (a:List Int) (e:Int):Bq Ay.Wu.E N Tryz.f180 (An Tryz.f180) [.agg [.bool n,.ints .arg .u32 a,.int .i64 e]]=bif ((List.length a:Int)==(0:Int)) then some (.int .i64 0) else bif (Jm n a) then some (.int .i64 (Ab ((Y3 (wv n a))+e))) else none :=
  Eq.trans (by kernel_rfl)
  (Eh rfl (C0 (Cx (Jm n a)) rfl rfl))
abbrev _root_.Go.Proofs.S1.Ay.Wu.Kn:=A3 Tryz.prog 180 Ay.Wu.spec
theorem Ay.Wu.Ac (hk:Ax Tryz.prog Ay.Wu.A6) (h:∀ (n:Bool) (a:List Int) (e:Int),Ay.Wu.pre [.b n,.l a,.i e]=true→A8 Ay.Wu.E Tryz.f180 [.agg [.bool n,.ints .arg .u32 a,.int .i64 e]] (Ay.Wu.out [.b n,.l a,.i e])):Ay.Wu.Kn :=
  Ak (Az hk _ _ _) Tryz.func180 (by kernel_rfl) (by kernel_rfl) h
def Ay.Sign.A6:List (Nat × Entry):=[]
def Ay.Sign.E:Env:=A9 (A5 Ay.Sign.A6) (fun _=>false) (fun _=>none) (fun _=>none)
theorem Ay.Sign.ev (N:Nat) (n:Bool) (a:List Int) (e:Int):Bq Ay.Sign.E N Tryz.f179 (An Tryz.f179) [.agg [.bool n,.ints .arg .u32 a,.int .i64 e]]=bif n then some (.int .i64 (-1:Int)) else some (.int .i64 (min (List.length a:Int) 1)):=by kernel_rfl
abbrev _root_.Go.Proofs.S1.Ay.Sign.Kn:=A3 Tryz.prog 179 Ay.Sign.spec
theorem Ay.Sign.Ac (hk:Ax Tryz.prog Ay.Sign.A6) (h:∀ (n:Bool) (a:List Int) (e:Int),Ay.Sign.pre [.b n,.l a,.i e]=true→A8 Ay.Sign.E Tryz.f179 [.agg [.bool n,.ints .arg .u32 a,.int .i64 e]] (Ay.Sign.out [.b n,.l a,.i e])):Ay.Sign.Kn :=
  Ak (Az hk _ _ _) Tryz.func179 (by kernel_rfl) (by kernel_rfl) h
def Ay.Compare.A6:List (Nat × Entry):=[(179,Ay.Sign.spec),(105,Ay.Sub.spec),(180,Ay.Wu.spec)]
def Ay.Compare.E:Env:=A9 (A5 Ay.Compare.A6) (fun _=>false) (fun _=>none) (fun _=>none)
theorem Ay.Compare.ev (N:Nat) (n:Bool) (a:List Int) (e:Int) (m:Bool) (b:List Int) (f:Int):Bq Ay.Compare.E N Tryz.f116 (An Tryz.f116) [.agg [.bool n,.ints .arg .u32 a,.int .i64 e],.agg [.bool m,.ints .arg .u32 b,.int .i64 f]]=bif (Jm n a) then bif (Jm m b) then bif ((Ni (wv n a)) !=(Ni (wv m b))) then bif (Jm n a) then bif (Jm m b) then some (.int .i64 (min 1 (max (-1:Int) (Ab ((Ni (wv n a))-(Ni (wv m b))))))) else none else none else bif (Jm n a&&Wx e) then bif (Jm m b&&Wx f) then bif ((Il (wv n a) e) !=(Il (wv m b) f)) then bif (Jm n a&&Wx e) then bif (Jm m b&&Wx f) then bif (Jm n a) then bif ((A4 (Il (wv m b) f) (Il (wv n a) e))==(A4 0 (Ni (wv n a)))) then some (.int .i64 1) else some (.int .i64 (-1:Int)) else none else none else none else bif (((Xd n a&&Xd m b)&&Wx e)&&Wx f) then bif (Jm (Bj (Q8 (wv n a) e (- wv m b) f)) (Ap (Q8 (wv n a) e (- wv m b) f))) then some (.int .i64 (Ni (wv (Bj (Q8 (wv n a) e (- wv m b) f)) (Ap (Q8 (wv n a) e (- wv m b) f))))) else none else none else none else none else none else none :=
  Eq.trans (by kernel_rfl)
  (C0 (Cx (Jm n a)) (C0 (Cx (Jm m b)) (Eh (C0 (Cx (Jm n a)) (C0 (Cx (Jm m b)) rfl rfl) rfl) (C0 (Cx (Jm n a&&Wx e)) (C0 (Cx (Jm m b&&Wx f)) (Eh (C0 (Cx (Jm n a&&Wx e)) (C0 (Cx (Jm m b&&Wx f)) (C0 (Cx (Jm n a)) rfl rfl) rfl) rfl) rfl) rfl) rfl)) rfl) rfl)
abbrev _root_.Go.Proofs.S1.Ay.Compare.Kn:=A3 Tryz.prog 116 Ay.Compare.spec
theorem Ay.Compare.Ac (hk:Ax Tryz.prog Ay.Compare.A6) (h:∀ (n:Bool) (a:List Int) (e:Int) (m:Bool) (b:List Int) (f:Int),Ay.Compare.pre [.b n,.l a,.i e,.b m,.l b,.i f]=true→A8 Ay.Compare.E Tryz.f116 [.agg [.bool n,.ints .arg .u32 a,.int .i64 e],.agg [.bool m,.ints .arg .u32 b,.int .i64 f]] (Ay.Compare.out [.b n,.l a,.i e,.b m,.l b,.i f])):Ay.Compare.Kn :=
  Ak (Az hk _ _ _) Tryz.func116 (by kernel_rfl) (by kernel_rfl) h
end EqRefC
open EqRefC
def Alr (v e:Int):Option DV:=some (.agg [.bool (Bj v),.ints .arg .u32 (Ap v),.int .i64 e])
theorem wdy {drops:List Nat} {b:Bool} {l:List Int} {e:Int}:Wk drops (.agg [.bool b,.ints .arg .u32 l,.int .i64 e]) (.agg [.bool b,.ints .arg .u32 l,.int .i64 e]):=Wk.G8 (.cons .bool (.cons .W2 (.cons .int .nil)))
theorem Aoo (v:Int):(Ap v).getD 0 0=((v.natAbs%4294967296:Nat):Int):=by
  have hg:=Rt (G3 v) 0
  rw [D2,Nat.mul_zero,Nat.pow_zero,Nat.div_one] at hg
  exact hg
theorem Ais {v:Int} {k:Nat} (h:Ds v.natAbs<268435456):Ds (K4 v k).natAbs<268435456:=by
  rw [L9]
  exact Nat.lt_of_le_of_lt (Mr (Nat.div_le_self _ _)) h
theorem Amx {v:Int} {k:Nat} (h0:v≠0) (h:v.natAbs%2^k=0):K4 v k≠0∧R7 (K4 v k).natAbs+k=R7 v.natAbs:=by
  have hv:=Nat.div_add_mod v.natAbs (2^k)
  rw [h,Nat.add_zero,Nat.mul_comm] at hv
  have hq:v.natAbs / 2^k≠0:=by
    intro e; rw [e] at hv; omega
  have ht:=Ab7 hq k
  rw [hv] at ht
  have ha:=L9 v k
  refine ⟨by omega,?_⟩
  rw [ha]
  omega
theorem Anm (N:Nat):∀ (F:Nat) (v e:Int),v≠0→R7 v.natAbs<F→Ds v.natAbs<268435456→-4000000000000≤e→e+R7 v.natAbs≤400000000000000 →
    Ay.Of.L1 N F e (Bj v) (Ap v)=Alr (mD v) (eD v e):=by
  intro F
  induction F with
  | zero=>intro v e _ h; omega
  | succ F ih =>
    intro v e h0 hF hv h1 h2
    rw [Ay.Of.B9,Jl hv,Ays,Ht]
    by_cases ho:v%2=1
    · have:Akt v=true:=Ayt ho
      rw [this,Bool.not_true,Ayw,Ats ho,At3 ho]
      rfl
    · have:Akt v=false:=Ayx ho
      have hm:v.natAbs%2^1=0:=by rw [Nat.pow_one]; omega
      obtain ⟨n1,n2⟩:=Amx h0 hm
      rw [this,Bool.not_false,Ays,Ays,Al (by omega) (by omega),ih (K4 v 1) (e+1) n1 (by omega) (Ais hv) (by omega) (by omega),An4 hm]
      have:=Ao1 (e:=e) hm h0
      rw [← this]
      rfl
theorem Ann (N:Nat):∀ (F:Nat) (v e:Int),v≠0→R7 v.natAbs<F→R7 v.natAbs<N→Ds v.natAbs<268435456→-4000000000000≤e→e+R7 v.natAbs≤400000000000000 →
    Ay.Of.L0 N F e (Bj v) (Ap v)=Alr (mD v) (eD v e):=by
  intro F
  induction F with
  | zero=>intro v e _ h; omega
  | succ F ih =>
    intro v e h0 hF hN hv h1 h2
    have hl:=Jf (n:=v.natAbs) (by omega)
    rw [Ay.Of.Ar,Ct,Ayt (by omega),Ays,Aoo]
    by_cases hz:v.natAbs%4294967296=0
    · have e0:(((v.natAbs%4294967296:Nat):Int)==0)=true:=by rw [hz]; rfl
      have o3:Hs ((Ap v).drop 1)=true:=N4 (by rw [List.length_drop,Ct]; omega) (Afo (G3 v))
      have hm:v.natAbs%2^32=0:=by rw [two32]; exact hz
      obtain ⟨n1,n2⟩:=Amx h0 hm
      rw [e0,Ays,Ayt (by omega),Ays,o3,Ays,Aif,Al (by omega) (by omega),ih (K4 v 32) (e+32) n1 (by omega) (by omega) (Ais hv) (by omega) (by omega),An4 hm]
      have:=Ao1 (e:=e) hm h0
      rw [← this]
      rfl
    · have e0:(((v.natAbs%4294967296:Nat):Int)==0)=false:=by simp only [beq_eq_false_iff_ne,ne_eq]; omega
      rw [e0,Ayw]
      exact Anm N N v e h0 hN hv h1 h2
theorem Ami {v:Int} (h0:v≠0) (h:Ds v.natAbs<268435456):R7 v.natAbs<8589934592:=by
  have h1:=Asb (n:=v.natAbs) (by omega)
  have h2:=Abe (n:=v.natAbs)
  omega
theorem Ay.Of.known:Ay.Of.Kn:=Ay.Of.Ac (.cons Ai.H2.known (.cons Ai.Made.known (.cons Ai.Xl.known .nil))) fun n a e hp=>by
  obtain ⟨h1,h2⟩:=Ad.1 hp
  obtain ⟨v,rfl,rfl,hv⟩:=Jj h1
  have h2:=Aq.1 h2
  by_cases h0:v=0
  · subst h0
    refine ⟨0,.agg [.bool false,.nil,.int .i64 (0:Int)],[],?_,?_⟩
    · rw [Ay.Of.ev]; rfl
    · show Wk [] _ (.agg [.bool (Bj (mD (wv (Bj 0) (Ap 0)))),.ints .arg .u32 (Ap (mD (wv (Bj 0) (Ap 0)))),.int .i64 (eD (wv (Bj 0) (Ap 0)) e)])
      rw [Ht,Pp.2 rfl]
      exact Wk.G8 (.cons .bool (.cons (.nil _ _) (.cons .int .nil)))
  · refine ⟨R7 v.natAbs+1,Ay.Of.out [.b (Bj v),.l (Ap v),.i e],[],?_,wdy⟩
    have ht:=Ami h0 hv
    have hl:=Jf (n:=v.natAbs) (by omega)
    have e0:(((Ap v).length:Int)==0)=false:=by rw [Ct]; simp only [beq_eq_false_iff_ne,ne_eq]; omega
    show _=Alr (mD (wv (Bj v) (Ap v))) (eD (wv (Bj v) (Ap v)) e)
    rw [Ay.Of.ev,e0,Ayw,Ht]
    exact Ann _ _ v e h0 (by omega) (by omega) hv (by omega) (by omega)
theorem Ay.Neg.known:Ay.Neg.Kn:=Ay.Neg.Ac (.cons Ai.Neg.known .nil) fun n a e hp=>by
  refine ⟨0,Ay.Neg.out [.b n,.l a,.i e],[],?_,wdy⟩
  have hp:Jm n a=true:=hp
  rw [Ay.Neg.ev,hp,Ays]
  rfl
theorem Uu (v:Int):(((Ap v).length:Int)==0)=decide (v=0):=by
  rw [Ct,Ay8]
  simp only [beq_iff_eq,Ayz]
  constructor
  · intro h
    rcases Int.lt_trichotomy v 0 with k | k | k
    · have:=Jf (n:=v.natAbs) (by omega); omega
    · exact k
    · have:=Jf (n:=v.natAbs) (by omega); omega
  · intro h; rw [h]; rfl
theorem Ay.Xm.known:Ay.Xm.Kn:=Ay.Xm.Ac .nil fun n a e m b f hp=>by
  obtain ⟨h1,h2⟩:=Ad.1 hp
  obtain ⟨v,rfl,rfl,hv⟩:=Jj h1
  obtain ⟨w,rfl,rfl,hw⟩:=Jj h2
  refine ⟨0,Ay.Xm.out [.b (Bj v),.l (Ap v),.i e,.b (Bj w),.l (Ap w),.i f],[],?_,.int⟩
  show _=some (DV.int .i64 (C9 (wv (Bj v) (Ap v)) e (wv (Bj w) (Ap w)) f))
  rw [Ay.Xm.ev,Ht,Ht,Uu,Uu]
  unfold C9
  by_cases h:v=0
  · rw [Ayt h,Ays,if_pos h]
  · rw [Ayx h,Ayw,if_neg h]
    by_cases h':w=0
    · rw [Ayt h',Ays,if_pos h']
    · rw [Ayx h',Ayw,if_neg h']
theorem X2 (k:Int):Gy 0 k=0:=by
  unfold Gy
  split
  · exact Int.zero_mul _
  · exact Rj _
theorem Ay.Level.known:Ay.Level.Kn:=Ay.Level.Ac (.cons Ai.Bs.known .nil) fun n a e f hp=>by
  obtain ⟨h1,h2⟩:=Ad.1 hp
  obtain ⟨v,rfl,rfl,hv⟩:=Po h1
  refine ⟨0,Ay.Level.out [.b (Bj v),.l (Ap v),.i e,.i f],[],?_,Ady⟩
  show _=Agl (Gy (wv (Bj v) (Ap v)) (e-f))
  unfold Ae6 at h2
  rw [Ht] at h2
  obtain ⟨h3,h4⟩:=Ad.1 h2
  have h3:=Aq.1 h3
  have h4:=Aq.1 h4
  rw [Ay.Level.ev,Ht,Uu]
  by_cases h:v=0
  · rw [Ayt h,Ays,h,X2]; rfl
  · have o:Atn (Ab (e-f))=true:=by rw [Al (by omega) (by omega)]; exact Aq.2 (by omega)
    rw [Ayx h,Ayw,h1,o,Ayy,Ays,Al (by omega) (by omega)]
    rfl
theorem Aoc (n k:Nat):Ds (n*2^k)≤Ds n+k:=by
  refine Nt ?_
  have h1:=Mg n
  have h2:n*2^k<2^(32*Ds n)*2^k:=(Nat.mul_lt_mul_right (Cp k)).2 h1
  rw [← Nat.pow_add] at h2
  exact Nat.lt_of_lt_of_le h2 (Ay7 (by decide) (by omega))
theorem Aod (v k:Int):Ds (Gy v k).natAbs≤Ds v.natAbs+k.toNat:=by
  unfold Gy
  by_cases h:0≤k
  · rw [if_pos h,Int.natAbs_mul,Int.natAbs_natCast]
    exact Aoc _ _
  · rw [if_neg h,L9]
    exact Nat.le_trans (Mr (Nat.div_le_self _ _)) (Nat.le_add_right _ _)
theorem Afj (v w:Int):Ds (v+w).natAbs≤max (Ds v.natAbs) (Ds w.natAbs)+1:=by
  refine Nt ?_
  have h1:=Mg v.natAbs
  have h2:=Mg w.natAbs
  have h3:2^(32*Ds v.natAbs)≤2^(32*max (Ds v.natAbs) (Ds w.natAbs)):=Ay7 (by decide) (by omega)
  have h4:2^(32*Ds w.natAbs)≤2^(32*max (Ds v.natAbs) (Ds w.natAbs)):=Ay7 (by decide) (by omega)
  rw [Ol]
  omega
theorem Yy {v e w f:Int} (he:-400000≤e∧e≤400000) (hf:-400000≤f∧f≤400000):-400000≤C9 v e w f∧C9 v e w f≤400000:=by
  unfold C9
  split
  · exact hf
  · split
    · exact he
    · omega
theorem W7 {v e l:Int} (hv:Ds v.natAbs<134217728) (h:e-l≤800000):Ds (Gy v (e-l)).natAbs<140000000:=by
  have:=Aod v (e-l)
  omega
theorem Ay.Add.known:Ay.Add.Kn:=Ay.Add.Ac (.cons Ai.Add.known (.cons Ay.Level.known (.cons Ay.Xm.known (.cons Ay.Of.known .nil)))) fun n a e m b f hp=>by
  obtain ⟨h1,hf⟩:=Ad.1 hp
  obtain ⟨h2,he⟩:=Ad.1 h1
  obtain ⟨h3,h4⟩:=Ad.1 h2
  obtain ⟨v,rfl,rfl,hv⟩:=Po h3
  obtain ⟨w,rfl,rfl,hw⟩:=Po h4
  have he:=Aq.1 he
  have hf:=Aq.1 hf
  refine ⟨0,Ay.Add.out [.b (Bj v),.l (Ap v),.i e,.b (Bj w),.l (Ap w),.i f],[],?_,wdy⟩
  show _=Alr (Q8 (wv (Bj v) (Ap v)) e (wv (Bj w) (Ap w)) f) (Apu (wv (Bj v) (Ap v)) e (wv (Bj w) (Ap w)) f)
  have hlo:=Yy (v:=v) (w:=w) he hf
  have l1:=W7 (l:=C9 v e w f) hv (show e-C9 v e w f≤800000 by omega)
  have l2:=W7 (l:=C9 v e w f) hw (show f-C9 v e w f≤800000 by omega)
  have l3:=Afj (Gy v (e-C9 v e w f)) (Gy w (f-C9 v e w f))
  have o1:Ae6 v e (C9 v e w f)=true:=Ad.2 ⟨Aq.2 (by omega),Aq.2 (by omega)⟩
  have o2:Ae6 w f (C9 v e w f)=true:=Ad.2 ⟨Aq.2 (by omega),Aq.2 (by omega)⟩
  have o3:Aad (C9 v e w f)=true:=Aq.2 (by omega)
  rw [Ay.Add.ev]
  simp only [Ht]
  rw [Jl (v:=v) (by omega),Jl (v:=w) (by omega),h3,h4,o1,o2,Jl (v:=Gy v (e-C9 v e w f)) (by omega),Jl (v:=Gy w (f-C9 v e w f)) (by omega),Jl (v:=Gy v (e-C9 v e w f)+Gy w (f-C9 v e w f)) (by omega),o3]
  simp only [Ayy,Ays]
  rfl
theorem Ay.Sub.known:Ay.Sub.Kn:=Ay.Sub.Ac (.cons Ay.Add.known (.cons Ay.Neg.known .nil)) fun n a e m b f hp=>by
  obtain ⟨h1,hf⟩:=Ad.1 hp
  obtain ⟨h2,he⟩:=Ad.1 h1
  obtain ⟨h3,h4⟩:=Ad.1 h2
  obtain ⟨w,rfl,rfl,hw⟩:=Po h4
  refine ⟨0,Ay.Sub.out [.b n,.l a,.i e,.b (Bj w),.l (Ap w),.i f],[],?_,wdy⟩
  show _=Alr (Q8 (wv n a) e (- wv (Bj w) (Ap w)) f) (Apu (wv n a) e (- wv (Bj w) (Ap w)) f)
  rw [Ay.Sub.ev]
  simp only [Ht]
  rw [Jl (v:=w) (by omega),h3,Anl (v:=-w) (by rw [Int.natAbs_neg]; exact hw),he,hf]
  rfl
theorem Afk {v:Int} (h:Ds v.natAbs<268435456):0≤Y3 v∧Y3 v≤8589934593:=by
  have h2:=Abe (n:=v.natAbs)
  unfold Y3
  split
  · omega
  · constructor<;>omega
theorem Ay.Wu.known:Ay.Wu.Kn:=Ay.Wu.Ac (.cons Ai.Rb.known .nil) fun n a e hp=>by
  obtain ⟨h1,he⟩:=Ad.1 hp
  obtain ⟨v,rfl,rfl,hv⟩:=Jj h1
  have he:=Aq.1 he
  refine ⟨0,Ay.Wu.out [.b (Bj v),.l (Ap v),.i e],[],?_,.int⟩
  show _=some (DV.int .i64 (Il (wv (Bj v) (Ap v)) e))
  have hb:=Afk hv
  rw [Ay.Wu.ev,Ht,Uu,h1]
  unfold Il
  by_cases h:v=0
  · rw [Ayt h,Ays,if_pos h]
  · rw [Ayx h,Ayw,Ays,if_neg h,Al (by omega) (by omega)]
theorem Ay.Sign.known:Ay.Sign.Kn:=Ay.Sign.Ac .nil fun n a e hp=>by
  obtain ⟨v,rfl,rfl,hv⟩:=Jj hp
  refine ⟨0,Ay.Sign.out [.b (Bj v),.l (Ap v),.i e],[],?_,.int⟩
  show _=some (DV.int .i64 (Ni (wv (Bj v) (Ap v))))
  rw [Ay.Sign.ev,Ht,Ct]
  unfold Ni Bj
  by_cases h:v<0
  · rw [Ayt h,Ays,if_pos h]
  · rw [Ayx h,Ayw,if_neg h]
    by_cases h':v=0
    · rw [if_pos h',h']; rfl
    · have:=Jf (n:=v.natAbs) (by omega)
      rw [if_neg h']
      congr 2
      omega
open EqRefC
theorem Ahn {v e w f:Int}:(v≠0→0≤e-C9 v e w f)∧(w≠0→0≤f-C9 v e w f):=by
  unfold C9
  constructor
  · intro h
    rw [if_neg h]
    split<;>omega
  · intro h
    split
    · omega
    · omega
theorem X3 {v k:Int} (h:v≠0→0≤k):∃ j:Nat,Gy v k=v*((2^j:Nat):Int)∧(v≠0→(j:Int)=k):=by
  by_cases h0:v=0
  · exact ⟨0,by rw [h0,X2,Int.zero_mul],fun k=>absurd h0 k⟩
  · have hk:=h h0
    refine ⟨k.toNat,?_,fun _=>by omega⟩
    unfold Gy
    rw [if_pos hk]
theorem Yr (v:Int) (j:Nat):(v*((2^j:Nat):Int)<0↔v<0)∧(v*((2^j:Nat):Int)=0↔v=0):=by
  have hp:=Cp j
  constructor
  · constructor
    · intro h
      rcases Int.lt_or_le v 0 with h1 | h1
      · exact h1
      · have:=Int.mul_nonneg h1 (Int.natCast_nonneg (2^j)); omega
    · intro h
      exact Int.mul_neg_of_neg_of_pos h (by omega)
  · constructor
    · intro h
      rcases Int.mul_eq_zero.1 h with h | h
      · exact h
      · omega
    · intro h; rw [h,Int.zero_mul]
theorem Ack (v:Int) (j:Nat):Ni (v*((2^j:Nat):Int))=Ni v:=by
  obtain ⟨h1,h2⟩:=Yr v j
  unfold Ni
  simp only [h1,h2]
theorem Atd (v:Int):Ni (mD v)=Ni v:=by
  have:=Ack (mD v) (R7 v.natAbs)
  rw [← Xg] at this
  exact this.symm
theorem Arw (x y:Int):Ni (x+-y)=Wz x y:=by
  unfold Ni Wz
  by_cases h:x<y
  · rw [if_pos (by omega),if_pos h]
  · rw [if_neg (by omega),if_neg h]
    by_cases h':y<x
    · rw [if_neg (by omega),if_pos h']
    · rw [if_pos (by omega),if_neg h']
theorem Aq5 (v e w f:Int):C9 v e (-w) f=C9 v e w f:=by
  unfold C9
  have:(-w=0)=(w=0):=propext ⟨fun h=>by omega,fun h=>by omega⟩
  simp only [this]
theorem Apb {x y:Int} (h:Ni x≠Ni y):Wz x y=min 1 (max (-1) (Ni x-Ni y)):=by
  unfold Ni at h ⊢
  unfold Wz
  rcases Int.lt_trichotomy x 0 with h1 | h1 | h1<;>rcases Int.lt_trichotomy y 0 with h2 | h2 | h2
  all_goals
    first
    | (exfalso; apply h; simp [show x<0 by omega,show y<0 by omega]; done)
    | (exfalso; apply h; subst h1; subst h2; rfl)
    | (exfalso; apply h; rw [if_neg (by omega),if_neg (by omega),if_neg (by omega),if_neg (by omega)]; done)
    | skip
  · rw [if_pos (by omega),if_pos (by omega),if_neg (by omega),if_pos (by omega)]; decide
  · rw [if_pos (by omega),if_pos (by omega),if_neg (by omega),if_neg (by omega)]; decide
  · rw [if_neg (by omega),if_pos (by omega),if_neg (by omega),if_pos (by omega),if_pos (by omega)]; decide
  · rw [if_pos (by omega),if_neg (by omega),if_pos (by omega),if_neg (by omega),if_neg (by omega)]; decide
  · rw [if_neg (by omega),if_pos (by omega),if_neg (by omega),if_neg (by omega),if_pos (by omega)]; decide
  · rw [if_neg (by omega),if_pos (by omega),if_neg (by omega),if_neg (by omega),if_neg (by omega),if_pos (by omega)]; decide
theorem Y0 {a b:Nat} (ha:a≠0) (h:a.log2<b.log2):a<b:=by
  rcases Nat.lt_or_ge a b with k | k
  · exact k
  · have hb:b≠0:=by
      intro e; rw [e] at h
      exact absurd h (by rw [show (0:Nat).log2=0 by decide]; omega)
    have:=(Nat.le_log2 ha).2 (Nat.le_trans (Nat.log2_self_le hb) k)
    omega
theorem Arv {v e w f:Int} (hs:Ni v=Ni w) (ht:Il v e≠Il w f) :
    W0 v e w f=if (decide (Il w f<Il v e)==decide (0<Ni v))=true then 1 else -1:=by
  obtain ⟨u1,u2⟩:=Ahn (v:=v) (e:=e) (w:=w) (f:=f)
  obtain ⟨j,hx,hj⟩:=X3 u1
  obtain ⟨k,hy,hk⟩:=X3 u2
  unfold W0
  rw [hx,hy]
  have z:v=0↔w=0:=by
    unfold Ni at hs
    constructor
    · intro h; subst h
      revert hs
      simp
      split<;>simp_all
    · intro h; subst h
      revert hs
      simp
      split<;>simp_all
  by_cases v0:v=0
  · exfalso
    apply ht
    unfold Il
    rw [if_pos v0,if_pos (z.1 v0)]
  · have w0:w≠0:=fun h=>v0 (z.2 h)
    have hj:=hj v0
    have hk:=hk w0
    have nv:v.natAbs≠0:=by omega
    have nw:w.natAbs≠0:=by omega
    have l1:=Lk v.natAbs j nv
    have l2:=Lk w.natAbs k nw
    have ax:(v*((2^j:Nat):Int)).natAbs=v.natAbs*2^j:=by rw [Int.natAbs_mul,Int.natAbs_natCast]
    have ay:(w*((2^k:Nat):Int)).natAbs=w.natAbs*2^k:=by rw [Int.natAbs_mul,Int.natAbs_natCast]
    have sx:=(Yr v j).1
    have sy:=(Yr w k).1
    have zx:=Anw v0 j
    have zy:=Anw w0 k
    have tv:Il v e=(v.natAbs.log2:Int)+1+e:=by unfold Il Y3; rw [if_neg v0,if_neg v0]
    have tw:Il w f=(w.natAbs.log2:Int)+1+f:=by unfold Il Y3; rw [if_neg w0,if_neg w0]
    have big:Il w f<Il v e→w.natAbs*2^k<v.natAbs*2^j:=fun h=>Y0 (Is nw) (by omega)
    have lit:Il v e<Il w f→v.natAbs*2^j<w.natAbs*2^k:=fun h=>Y0 (Is nv) (by omega)
    generalize v*((2^j:Nat):Int)=x at *
    generalize w*((2^k:Nat):Int)=y at *
    by_cases hv:v<0
    · have sv:Ni v=-1:=by unfold Ni; rw [if_pos hv]
      have hw:w<0:=by
        rw [sv] at hs
        unfold Ni at hs
        rcases Int.lt_or_le w 0 with q | q
        · exact q
        · rw [if_neg (by omega),if_neg w0] at hs; omega
      rw [sv]
      unfold Wz
      by_cases h:Il w f<Il v e
      · have:=big h
        rw [Ayt h,if_pos (by omega)]; rfl
      · have:=lit (by omega)
        rw [Ayx h,if_neg (by omega),if_pos (by omega)]; rfl
    · have sv:Ni v=1:=by unfold Ni; rw [if_neg hv,if_neg v0]
      have hw:¬ w<0:=by
        intro q
        rw [sv] at hs
        unfold Ni at hs
        rw [if_pos q] at hs; omega
      rw [sv]
      unfold Wz
      by_cases h:Il w f<Il v e
      · have:=big h
        rw [Ayt h,if_neg (by omega),if_pos (by omega)]; rfl
      · have:=lit (by omega)
        rw [Ayx h,if_pos (by omega)]; rfl
theorem Aqf (v e w f:Int):Ni (Q8 v e (-w) f)=W0 v e w f:=by
  obtain ⟨u1,u2⟩:=Ahn (v:=v) (e:=e) (w:=w) (f:=f)
  obtain ⟨k,hy,hk⟩:=X3 u2
  have hy':Gy (-w) (f-C9 v e w f)=-(Gy w (f-C9 v e w f)):=by
    by_cases w0:w=0
    · rw [w0]; show Gy 0 _=_; rw [X2]; rfl
    · unfold Gy
      rw [if_pos (u2 w0),if_pos (u2 w0),Int.neg_mul]
  unfold Q8 Apn W0
  rw [Atd,Aq5,hy',Arw]
theorem Als {v e w f:Int} (h:Ni v≠Ni w):W0 v e w f=min 1 (max (-1) (Ni v-Ni w)):=by
  obtain ⟨u1,u2⟩:=Ahn (v:=v) (e:=e) (w:=w) (f:=f)
  obtain ⟨j,hx,hj⟩:=X3 u1
  obtain ⟨k,hy,hk⟩:=X3 u2
  have e1:=Ack v j
  have e2:=Ack w k
  unfold W0
  rw [hx,hy,← e1,← e2]
  exact Apb (by rw [e1,e2]; exact h)
theorem X4 (v:Int):-1≤Ni v∧Ni v≤1:=by unfold Ni; split<;>(try split)<;>omega
theorem Apt {v e w f:Int} (hv:Ds v.natAbs<134217728) (hw:Ds w.natAbs<134217728) (he:-400000≤e∧e≤400000) (hf:-400000≤f∧f≤400000):Ds (Q8 v e w f).natAbs<140000001:=by
  have hlo:=Yy (v:=v) (w:=w) he hf
  have l1:=W7 (l:=C9 v e w f) hv (show e-C9 v e w f≤800000 by omega)
  have l2:=W7 (l:=C9 v e w f) hw (show f-C9 v e w f≤800000 by omega)
  have l3:=Afj (Gy v (e-C9 v e w f)) (Gy w (f-C9 v e w f))
  have l4:=Mr (Abd (Apn v e w f))
  unfold Q8
  unfold Apn at l4 ⊢
  omega
theorem Ay.Compare.known:Ay.Compare.Kn:=Ay.Compare.Ac (.cons Ay.Sign.known (.cons Ay.Sub.known (.cons Ay.Wu.known .nil))) fun n a e m b f hp=>by
  obtain ⟨h1,hf⟩:=Ad.1 hp
  obtain ⟨h2,he⟩:=Ad.1 h1
  obtain ⟨h3,h4⟩:=Ad.1 h2
  obtain ⟨v,rfl,rfl,hv⟩:=Po h3
  obtain ⟨w,rfl,rfl,hw⟩:=Po h4
  refine ⟨0,Ay.Compare.out [.b (Bj v),.l (Ap v),.i e,.b (Bj w),.l (Ap w),.i f],[],?_,.int⟩
  show _=some (DV.int .i64 (W0 (wv (Bj v) (Ap v)) e (wv (Bj w) (Ap w)) f))
  have bv:=X4 v
  have bw:=X4 w
  have hm:=Apt (v:=v) (w:=-w) hv (by rw [Int.natAbs_neg]; exact hw) (Aq.1 he) (Aq.1 hf)
  rw [Ay.Compare.ev]
  simp only [Ht]
  rw [Jl (v:=v) (by omega),Jl (v:=w) (by omega),Jl (v:=Q8 v e (-w) f) (by omega),h3,h4,he,hf,As,As]
  simp only [Ayy,Ays]
  by_cases hs:Ni v=Ni w
  · have e0:(Ni v !=Ni w)=false:=by simp [hs]
    rw [e0,Ayw]
    by_cases ht:Il v e=Il w f
    · have e1:(Il v e !=Il w f)=false:=by simp [ht]
      rw [e1,Ayw,Aqf]
    · have e1:(Il v e !=Il w f)=true:=by simp [ht]
      rw [e1,Ays,Arv hs ht]
      cases (decide (Il w f<Il v e)==decide (0<Ni v))<;>rfl
  · have e0:(Ni v !=Ni w)=true:=by simp [hs]
    rw [e0,Ays,Als hs,Al (by omega) (by omega)]
namespace EqRefE
def A1.Value.A6:List (Nat × Entry):=[(143,Ai.Neg.spec),(115,Ai.Of.spec),(109,Ay.Of.spec),(141,A1.Ls.spec),(142,A1.Neg.spec),(140,A1.Power.spec)]
def A1.Value.E:Env:=A9 (A5 A1.Value.A6) (fun _=>false) (fun _=>none) (fun _=>none)
theorem A1.Value.ev (N:Nat) (x:Int):Bq A1.Value.E N Tryz.f63 (An Tryz.f63) [.int .u64 x]=bif (Kv x) then bif (Aje (Ab (C6 x))) then bif (Kv x) then bif (A4 0 (Lv x)) then bif (Kv x) then bif (Aje (Ab (Bk ((C6 x)+4503599627370496)))) then bif (Kv x) then bif (Af x) then bif (Dt x) then bif (Jm (Bj ((Ab (Bk ((C6 x)+4503599627370496))))) (Ap ((Ab (Bk ((C6 x)+4503599627370496)))))) then bif (Jm (Bj (- wv (Bj ((Ab (Bk ((C6 x)+4503599627370496))))) (Ap ((Ab (Bk ((C6 x)+4503599627370496))))))) (Ap (- wv (Bj ((Ab (Bk ((C6 x)+4503599627370496))))) (Ap ((Ab (Bk ((C6 x)+4503599627370496)))))))&&Aad (Ab ((Lv x)-1075))) then some (.agg [.bool (Bj (mD (wv (Bj (- wv (Bj ((Ab (Bk ((C6 x)+4503599627370496))))) (Ap ((Ab (Bk ((C6 x)+4503599627370496))))))) (Ap (- wv (Bj ((Ab (Bk ((C6 x)+4503599627370496))))) (Ap ((Ab (Bk ((C6 x)+4503599627370496)))))))))),.ints .arg .u32 (Ap (mD (wv (Bj (- wv (Bj ((Ab (Bk ((C6 x)+4503599627370496))))) (Ap ((Ab (Bk ((C6 x)+4503599627370496))))))) (Ap (- wv (Bj ((Ab (Bk ((C6 x)+4503599627370496))))) (Ap ((Ab (Bk ((C6 x)+4503599627370496)))))))))),.int .i64 (eD (wv (Bj (- wv (Bj ((Ab (Bk ((C6 x)+4503599627370496))))) (Ap ((Ab (Bk ((C6 x)+4503599627370496))))))) (Ap (- wv (Bj ((Ab (Bk ((C6 x)+4503599627370496))))) (Ap ((Ab (Bk ((C6 x)+4503599627370496)))))))) (Ab ((Lv x)-1075)))]) else none else none else bif (Jm (Bj ((Ab (Bk ((C6 x)+4503599627370496))))) (Ap ((Ab (Bk ((C6 x)+4503599627370496)))))&&Aad (Ab ((Lv x)-1075))) then some (.agg [.bool (Bj (mD (wv (Bj ((Ab (Bk ((C6 x)+4503599627370496))))) (Ap ((Ab (Bk ((C6 x)+4503599627370496)))))))),.ints .arg .u32 (Ap (mD (wv (Bj ((Ab (Bk ((C6 x)+4503599627370496))))) (Ap ((Ab (Bk ((C6 x)+4503599627370496)))))))),.int .i64 (eD (wv (Bj ((Ab (Bk ((C6 x)+4503599627370496))))) (Ap ((Ab (Bk ((C6 x)+4503599627370496)))))) (Ab ((Lv x)-1075)))]) else none else none else none else none else none else bif (Af x) then bif (Dt x) then bif (Jm (Bj ((Ab (C6 x)))) (Ap ((Ab (C6 x))))) then bif (Jm (Bj (- wv (Bj ((Ab (C6 x)))) (Ap ((Ab (C6 x)))))) (Ap (- wv (Bj ((Ab (C6 x)))) (Ap ((Ab (C6 x))))))&&Aad (-1074:Int)) then some (.agg [.bool (Bj (mD (wv (Bj (- wv (Bj ((Ab (C6 x)))) (Ap ((Ab (C6 x)))))) (Ap (- wv (Bj ((Ab (C6 x)))) (Ap ((Ab (C6 x))))))))),.ints .arg .u32 (Ap (mD (wv (Bj (- wv (Bj ((Ab (C6 x)))) (Ap ((Ab (C6 x)))))) (Ap (- wv (Bj ((Ab (C6 x)))) (Ap ((Ab (C6 x))))))))),.int .i64 (eD (wv (Bj (- wv (Bj ((Ab (C6 x)))) (Ap ((Ab (C6 x)))))) (Ap (- wv (Bj ((Ab (C6 x)))) (Ap ((Ab (C6 x))))))) (-1074:Int))]) else none else none else bif (Jm (Bj ((Ab (C6 x)))) (Ap ((Ab (C6 x))))&&Aad (-1074:Int)) then some (.agg [.bool (Bj (mD (wv (Bj ((Ab (C6 x)))) (Ap ((Ab (C6 x))))))),.ints .arg .u32 (Ap (mD (wv (Bj ((Ab (C6 x)))) (Ap ((Ab (C6 x))))))),.int .i64 (eD (wv (Bj ((Ab (C6 x)))) (Ap ((Ab (C6 x))))) (-1074:Int))]) else none else none else none else none else none:=by kernel_rfl
abbrev _root_.Go.Proofs.S1.A1.Value.Kn:=A3 Tryz.prog 63 A1.Value.spec
theorem A1.Value.Ac (hk:Ax Tryz.prog A1.Value.A6) (h:∀ (x:Int),A1.Value.pre [.i x]=true→A8 A1.Value.E Tryz.f63 [.int .u64 x] (A1.Value.out [.i x])):A1.Value.Kn :=
  Ak (Az hk _ _ _) Tryz.func63 (by kernel_rfl) (by kernel_rfl) h
end EqRefE
open EqRefE
theorem Aja {n k:Nat} (h:n<2^(32*k)) {m:Nat} (hk:k<m):Ds n<m:=Nat.lt_of_le_of_lt (Nt h) hk
theorem Ty (m:Nat):H5 false m=(m:Int):=rfl
theorem Ael (m:Nat):H5 true m=-(m:Int):=rfl
theorem A1.Value.known:A1.Value.Kn:=A1.Value.Ac (.cons Ai.Neg.known (.cons Ai.Of.known (.cons Ay.Of.known (.cons A1.Ls.known (.cons A1.Neg.known (.cons A1.Power.known .nil)))))) fun x hp=>by
  obtain ⟨n,rfl,hn⟩:=Bm (x:=x) hp
  refine ⟨0,A1.Value.out [.i n],[],?_,wdy⟩
  show _=Alr (mD (Fa n)) (eD (Fa n) (Bh n))
  have hf:=J9 n
  have hw:=Ji n
  have small:∀ k:Nat,k<2^54→Ds k<268435456:=fun k hk=>Aja (k:=2) (Nat.lt_trans hk (by decide)) (by omega)
  have o1:∀ k:Nat,k<2^54→Jm (Bj (k:Int)) (Ap (k:Int))=true:=fun k hk=>Jl (by rw [Int.natAbs_natCast]; exact small k hk)
  have o2:∀ k:Nat,k<2^54→Jm (Bj (-(k:Int))) (Ap (-(k:Int)))=true:=fun k hk=>Jl (by rw [Int.natAbs_neg,Int.natAbs_natCast]; exact small k hk)
  rw [A1.Value.ev]
  unfold C6 Lv Dt Fa Bh
  simp only [Ht,Ayu]
  have e1:Ab ((Da n:Nat):Int)=((Da n:Nat):Int):=Al (by omega) (by omega)
  have e2:Ab (Bk (((Da n:Nat):Int)+4503599627370496))=((Da n+2^52:Nat):Int):=by
    rw [Dn (by omega) (by omega),Al (by omega) (by omega)]; omega
  have i1:∀ k:Nat,k<2^54→Aje (k:Int)=true:=fun k hk=>Aq.2 (by omega)
  rw [Ir,Cb hn,e1,e2,i1 _ (by omega),i1 _ (by omega),As,Al (by omega) (by omega)]
  simp only [Ays]
  unfold Aw A2
  by_cases h:Dz n=0
  · have o3:Aad (-1074)=true:=Aq.2 (by omega)
    rw [if_pos h,if_pos h,Ayx (by omega),Ayw,o1 _ (by omega),o2 _ (by omega),o3]
    cases Bt n
    · rw [Ayw,Ty]; rfl
    · rw [Ays,Ael]; rfl
  · have o3:Aad ((Dz n:Int)-1075)=true:=Aq.2 (by omega)
    rw [if_neg h,if_neg h,Ayt (by omega),Ays,o1 _ (by omega),o2 _ (by omega),o3]
    cases Bt n
    · rw [Ayw,Ty]; rfl
    · rw [Ays,Ael]; rfl
theorem Amj {m t:Nat} (h:m<2^t) (h0:m≠0):R7 m<t:=Nat.lt_of_le_of_lt (Asb h0) ((Nat.log2_lt h0).2 h)
theorem Amc (b:Nat) (g:Int):J2 b g=vAt (Fa (b:Int)) (A2 b) g:=by
  unfold J2 vAt Fa
  rw [Ayu]
  generalize 2^(A2 b-g).toNat=p
  unfold H5
  cases Bt b
  · exact Azd _ _
  · show -((Aw b*p:Nat):Int)=-(Aw b:Int)*(p:Int)
    rw [Azd,Int.neg_mul]
theorem Ab6 (b:Nat):(Fa (b:Int)).natAbs=Aw b:=by
  unfold Fa H5
  rw [Ayu]
  split<;>omega
theorem Ass (b:Nat):Ds (Fa (b:Int)).natAbs<3∧-400000≤eD (Fa (b:Int)) (A2 b)∧eD (Fa (b:Int)) (A2 b)≤400000:=by
  have hm:=Fb b
  have he:=En b
  have ha:=Ab6 b
  refine ⟨Aja (k:=2) (by rw [ha]; exact Nat.lt_trans hm (by decide)) (by omega),?_⟩
  unfold eD
  by_cases h:Fa (b:Int)=0
  · rw [if_pos h]; omega
  · rw [if_neg h]
    have:=Amj (m:=(Fa (b:Int)).natAbs) (t:=53) (by rw [ha]; exact hm) (by omega)
    omega
theorem Ac3 {r:Nat} (h:r<2^63):Db r=((2^63+r:Nat):Int):=by
  unfold Db; rw [Ayu,Yv h]
theorem Np {r:Nat} (h:r<2^63) (n:Bool):(bif n then (bif (Af (r:Int)) then some (DV.int .u64 (Db r)) else none) else some (DV.int .u64 r))=some (DV.int .u64 ((Bl n r:Nat):Int)):=by
  cases n
  · rfl
  · rw [Cb (by omega),Ac3 h]; rfl
theorem On (n:Bool) (m:Nat) (e:Int):Ub n m e=((Bl n (Co m e):Nat):Int):=by
  unfold Ub; rw [Ayu]
theorem Ahc {E M:Nat} (h1:1≤E) (h2:E≤2046) (h3:4503599627370496≤M) (h4:M<9007199254740992):E*2^52+M%2^52=min ((E-1)*2^52+M) Eb:=by
  obtain ⟨k,rfl⟩:∃ k,E=k+1:=⟨E-1,by omega⟩
  obtain ⟨r,rfl⟩:∃ r,M=2^52+r:=⟨M-2^52,by omega⟩
  have hr:r<2^52:=by omega
  have hm:(2^52+r)%2^52=r:=by rw [Nat.add_mod_left,Ay5 hr]
  have hk:k*2^52≤2045*2^52:=Ay4 _ (by omega)
  have hi:Eb=2045*2^52+2^52+2^52:=by unfold Eb; rfl
  rw [hm,Nat.add_sub_cancel,Nat.succ_mul,hi]
  generalize 2^52=c at *
  omega
theorem soft.Pack.known:soft.Pack.Kn:=EqSoft.soft.Pack.Ac (.cons soft.Dp.known .nil) fun rk n m e hp hr=>by
  have hp:=Aq.1 (show K6 m e=true from hp)
  have hr:Pj m e<rk+1:=hr
  obtain ⟨m0,m1,e0,e1⟩:=hp
  obtain ⟨M,rfl⟩:∃ M:Nat,m=M:=⟨m.toNat,by omega⟩
  refine ⟨0,soft.Pack.out [.b n,.i M,.i e],[],?_,.int⟩
  rw [EqSoft.soft.Pack.ev]
  show _=some (DV.int .u64 (Ub n M e))
  rw [On]
  unfold Pj at hr
  by_cases h0:M=0
  · subst h0
    have:=Np (r:=0) (by decide) n
    have e0:Co 0 e=0:=rfl
    rw [e0]
    simpa using this
  · have b0:((M:Int)==0)=false:=by simp; omega
    rw [b0,Ayw]
    by_cases h1:M=9007199254740992
    · have b1:D6 (9007199254740992:Int) (M:Int)=true:=by rw [Ef]; simp; omega
      have s1:Dj .u64 (M:Int) (1:Int)=((2^52:Nat):Int):=by
        rw [show (1:Int)=((1:Nat):Int) from rfl,Hw .u64 M 1 (by decide),h1]
      have w1:Ab (e+1)=e+1:=Al (by omega) (by omega)
      rw [if_pos (by omega)] at hr
      have p1:K6 ((2^52:Nat):Int) (e+1)=true:=Aq.2 (by omega)
      have p2:Cz (Pj ((2^52:Nat):Int) (e+1)<rk)=true:=Aq.2 (by
        unfold Pj
        rw [if_neg (by omega),if_neg (by omega)]; omega)
      rw [b1,s1,w1,p1,p2,On,h1]
      have:=(Ee (2^52) 1 (e+1)).1
      have e2:e+1-((1:Nat):Int)=e:=by omega
      rw [e2] at this
      rw [← this]; rfl
    · have b1:D6 (9007199254740992:Int) (M:Int)=false:=by rw [Ef]; simp; omega
      rw [b1,Ayw]
      rw [if_neg (by omega)] at hr
      by_cases h2:M<4503599627370496
      · have b2:A4 (M:Int) (4503599627370496:Int)=true:=by rw [As]; simp; omega
        rw [if_pos (by omega)] at hr
        by_cases h3:e=-1074
        · subst h3
          have b3:A4 (-1074:Int) (-1074)=false:=by decide
          rw [b2,b3,Bool.true_and,Ayw,Ays,X6 h2]
          exact Np (by omega) n
        · have b3:A4 (-1074:Int) e=true:=by rw [As]; simp; omega
          have s1:B4 .u64 (M:Int) (1:Int)=((M*2^1:Nat):Int):=by
            rw [show (1:Int)=((1:Nat):Int) from rfl,Fh M 1 (by decide),Ay5 (by omega)]
          have w1:Ab (e-1)=e-1:=Al (by omega) (by omega)
          have p1:K6 ((M*2^1:Nat):Int) (e-1)=true:=Aq.2 (by omega)
          have p2:Cz (Pj ((M*2^1:Nat):Int) (e-1)<rk)=true:=Aq.2 (by
            unfold Pj
            rw [if_neg (by omega)]
            split<;>omega)
          rw [b2,b3,s1,w1,p1,p2,On]
          have:=(Ee M 1 e).1
          have e2:e-((1:Nat):Int)=e-1:=by omega
          rw [e2] at this
          rw [this]; rfl
      · have b2:A4 (M:Int) (4503599627370496:Int)=false:=by rw [As]; simp; omega
        have w1:Ab (e+1075)=e+1075:=Al (by omega) (by omega)
        rw [b2,w1,Bool.false_and,Ayw,Ayw]
        have hr:=Mp (m:=M) (e:=e) (by omega) (by omega) e0
        by_cases h4:2047≤e+1075
        · have b4:D6 (2047:Int) (e+1075)=true:=by rw [Ef]; simp; omega
          have:Co M e=9218868437227405312:=by rw [hr,H7]; omega
          rw [b4,this,Ays]
          exact Np (r:=9218868437227405312) (by decide) n
        · have b4:D6 (2047:Int) (e+1075)=false:=by rw [Ef]; simp; omega
          obtain ⟨E,hE⟩:∃ E:Nat,e+1075=E:=⟨(e+1075).toNat,by omega⟩
          have s1:Ia .u64 (B4 .u64 (Bk (e+1075)) (52:Int)) (Ev .u64 (M:Int) (4503599627370495:Int))=((Co M e:Nat):Int):=by
            rw [hE,Dn (by omega) (by omega),show (52:Int)=((52:Nat):Int) from rfl,Fh E 52 (by decide),Ay5 (by omega),
              show (4503599627370495:Int)=((2^52-1:Nat):Int) from rfl,I6 52 (by omega) (by decide),Nc (by omega) (by omega)]
            have hE2:(e+1074).toNat=E-1:=by omega
            have hE3:1≤E∧E≤2046:=by omega
            have hM:4503599627370496≤M∧M<9007199254740992:=by omega
            rw [hr,hE2]
            exact congrArg (fun (x:Nat)=>(x:Int)) (Ahc hE3.1 hE3.2 hM.1 hM.2)
          rw [b4,s1,Ayw]
          exact Np (W8 M e) n
open EqSoft
theorem Amm {D:Nat} (h:D≤63):2^D<2^64:=Nat.pow_lt_pow_right (by decide) (by omega)
theorem P3 (n:Bool) {r:Nat} (h:r<2^63):Gr .u64 ((Bl n r:Nat):Int) (9223372036854775808:Int)=(r:Int):=by
  have hs:Bl n r<2^64:=by unfold Bl; split<;>omega
  unfold Gr
  rw [show (9223372036854775808:Int)=((2^63:Nat):Int) from rfl,BitVec.toNat_and,BitVec.toNat_not,I3,I3,show IntKind.u64.bits=64 from rfl,Ay5 hs,
    show 2^64-1-2^63%2^64=2^63-1 by decide,Nat.and_two_pow_sub_one_eq_mod]
  have:Bl n r%2^63=r:=by unfold Bl; cases n<;>simp<;>omega
  rw [this]
  exact Ts (by omega)
theorem Ahg (N:Nat) (ex n:Bool) {r:Nat} (h:r≤Eb):soft.Di.C18 N ex ((Bl n r:Nat):Int)=some (.tup [.int .u64 ((Bl n r:Nat):Int),.int .u8 ((flags r ex:Nat):Int)]):=by
  have h63:r<2^63:=by rw [H7] at h; omega
  have hs:Bl n r<2^64:=by unfold Bl; split<;>omega
  rw [soft.Di.Auc,P3 n h63,Cb hs]
  unfold Bd flags
  rw [Ayu,Vx n h]
  have hinf:(((r:Nat):Int)==(9218868437227405312:Int))=decide (r=Eb):=by
    rw [H7,Ay8]; simp; omega
  rw [hinf]
  by_cases h1:r=Eb
  · simp [h1]
  · by_cases h2:2^52≤r
    · cases ex<;>simp [h1]<;>simp [show 4503599627370496≤r by omega]
    · by_cases h3:0<r
      · cases ex<;>simp [h1,h3]<;>simp [show ¬ 4503599627370496≤r by omega]
      · cases ex<;>simp [h1,h3]<;>simp [show ¬ 4503599627370496≤r by omega]
theorem Ak1 (N:Nat) (n:Bool) {m:Nat} {e:Int} (he:-1140≤e∧e≤50000) (r:Bool):∀ (k d F:Nat),d+k=62→k<F→(∀ d',d'<d→2^53≤m / 2^d'∨e+d' < -1074) →
    ∃ D:Nat,soft.Di.L0 N F n m e r (d:Int)=soft.Di.C7 N n m e r (D:Int)∧Drop m e D:=by
  intro k
  induction k with
  | zero =>
    intro d F hd hF hl
    obtain ⟨F,rfl⟩:∃ G,F=G+1:=⟨F-1,by omega⟩
    obtain rfl:d=62:=by omega
    rw [soft.Di.Ar,Hw .u64 m 62 (by decide),Al (by omega) (by omega),Al (by omega) (by omega),Ef,As]
    have a0:decide ((0:Int)≤((62:Nat):Int))=true:=by decide
    have a1:((((62:Nat):Int)+1)==63)=true:=by decide
    rw [a0,Ays,a1,Ays]
    by_cases h:2^53≤m / 2^62∨e+(62:Nat) < -1074
    · refine ⟨63,?_,by omega,by omega,fun d' hd'=>?_⟩
      · have:(decide ((9007199254740992:Int)≤((m / 2^62:Nat):Int))||decide (e+((62:Nat):Int) < -1074))=true:=by
          simp only [Bool.or_eq_true,Ayz]; omega
        rw [this]; rfl
      · rcases Nat.lt_or_ge d' 62 with h' | h'
        · exact hl d' h'
        · obtain rfl:d'=62:=by omega
          exact h
    · refine ⟨62,?_,by omega,fun _=>by omega,hl⟩
      have:(decide ((9007199254740992:Int)≤((m / 2^62:Nat):Int))||decide (e+((62:Nat):Int) < -1074))=false:=by
        simp only [Bool.or_eq_false_iff,Azb]; omega
      rw [this]; rfl
  | succ k ih =>
    intro d F hd hF hl
    obtain ⟨F,rfl⟩:∃ G,F=G+1:=⟨F-1,by omega⟩
    rw [soft.Di.Ar,Hw .u64 m d (by show d≤64; omega),Al (by omega) (by omega),Al (by omega) (by omega),Ef,As]
    have a0:decide ((0:Int)≤(d:Int))=true:=by simp
    have a1:(((d:Int)+1)==63)=false:=by simp; omega
    rw [a0,Ays,a1,Ayw]
    by_cases h:2^53≤m / 2^d∨e+d < -1074
    · have:(decide ((9007199254740992:Int)≤((m / 2^d:Nat):Int))||decide (e+(d:Int) < -1074))=true:=by
        simp only [Bool.or_eq_true,Ayz]; omega
      rw [this,Ays,show (d:Int)+1=((d+1:Nat):Int) by omega]
      refine ih (d+1) F (by omega) (by omega) fun d' hd'=>?_
      rcases Nat.lt_or_ge d' d with h' | h'
      · exact hl d' h'
      · obtain rfl:d'=d:=by omega
        exact h
    · refine ⟨d,?_,by omega,fun _=>by omega,hl⟩
      have:(decide ((9007199254740992:Int)≤((m / 2^d:Nat):Int))||decide (e+(d:Int) < -1074))=false:=by
        simp only [Bool.or_eq_false_iff,Azb]; omega
      rw [this]; rfl
theorem Ak0 (N:Nat) (n:Bool) {m D:Nat} (hm:m<2^64) {e:Int} (he:-1140≤e∧e≤50000) (r:Bool) (hD:D≤63) (hq:(if e+D < -1074 then 0 else qOf m D r.toNat)≤2^53) :
    soft.Di.C7 N n m e r (D:Int)=soft.Di.C18 N (decide (m%2^D=0∧r.toNat=0)) ((Bl n (Co (if e+D < -1074 then 0 else qOf m D r.toNat) (max (e+D) (-1074))):Nat):Int):=by
  have hA:=Cp D
  have h2D:=Amm hD
  have hr:=Nat.mod_lt m hA
  have hqm:m / 2^D≤m:=Nat.div_le_self _ _
  rw [soft.Di.Awr]
  have a0:decide ((0:Int)≤(D:Int))=true:=by simp
  have e1:Dj .u64 (m:Int) (D:Int)=((m / 2^D:Nat):Int):=Hw .u64 m D (by show D≤64; omega)
  have e2:B4 .u64 (1:Int) (D:Int)=((2^D:Nat):Int):=by
    rw [show (1:Int)=((1:Nat):Int) from rfl,Fh 1 D (by omega),Nat.one_mul,Ay5 h2D]
  have e3:Ev .u64 (m:Int) (Bk (B4 .u64 (1:Int) (D:Int)-(1:Int)))=((m%2^D:Nat):Int):=by
    rw [e2,Dn (by omega) (by omega),show ((2^D:Nat):Int)-1=((2^D-1:Nat):Int) by omega,I6 D hm (by omega)]
  have e5:(bif (((m%2^D:Nat):Int)==(0:Int)) then (!r) else false)=decide (m%2^D=0∧r.toNat=0):=by
    by_cases h:m%2^D=0
    · cases r<;>simp [h]
    · have:(((m%2^D:Nat):Int)==(0:Int))=false:=by simp only [beq_eq_false_iff_ne,ne_eq]; omega
      rw [this]; simp [h]
  rw [a0,Ays,Ays,e1,e3,e5,As]
  have last:∀ (p:Bool) (q:Nat),q≤2^64-1→(if e+D < -1074 then 0 else q)≤2^53→soft.Di.C14 N n e (D:Int) ((q:Nat):Int) p=soft.Di.C18 N p ((Bl n (Co (if e+D < -1074 then 0 else q) (max (e+D) (-1074))):Nat):Int):=by
    intro p q hq hq2
    rw [soft.Di.Auf,Al (by omega) (by omega),As]
    have c16:∀ q':Nat,q'≤2^53→soft.Di.C16 N n e (q':Int) (D:Int) p=soft.Di.C18 N p ((Bl n (Co q' (max (e+D) (-1074))):Nat):Int):=by
      intro q' hq'
      rw [soft.Di.Aue,Al (by omega) (by omega)]
      have:K6 (q':Int) (max (e+(D:Int)) (-1074))=true:=Aq.2 (by omega)
      rw [this,On]; rfl
    by_cases h:e+D < -1074
    · rw [if_pos h] at hq2 ⊢
      have:decide (e+(D:Int) < -1074)=true:=by simpa using h
      rw [this]
      exact c16 0 hq2
    · rw [if_neg h] at hq2 ⊢
      have:decide (e+(D:Int) < -1074)=false:=by simpa using h
      rw [this]
      exact c16 q hq2
  have up:∀ (half:Nat) (hh:0<D→half=2^(D-1)) (p:Bool),soft.Di.C12 N n e r (D:Int) ((m / 2^D:Nat):Int) ((m%2^D:Nat):Int) (half:Int) p=soft.Di.C18 N p ((Bl n (Co (if e+D < -1074 then 0 else qOf m D r.toNat) (max (e+D) (-1074))):Nat):Int):=by
    intro half hh p
    rw [soft.Di.Aug,As,As]
    have odd:(Ev .u64 ((m / 2^D:Nat):Int) (1:Int)==(1:Int))=decide (m / 2^D%2=1):=by
      rw [show (1:Int)=((2^1-1:Nat):Int) from rfl,I6 1 (by omega) (by decide),Ay8]
      simp only [beq_iff_eq,Ayz]
      omega
    rw [odd]
    have test:(decide ((0:Int)<(D:Int))&&(decide ((half:Int)<((m%2^D:Nat):Int))||((((m%2^D:Nat):Int)==(half:Int))&&(r||decide (m / 2^D%2=1))))) =
        decide (0<D∧(2^(D-1)<m%2^D∨(m%2^D=2^(D-1)∧(r.toNat=1∨m / 2^D%2=1)))):=by
      rw [Ay8]
      generalize m%2^D=rr
      generalize m / 2^D=qq
      generalize hg:2^(D-1)=gg at hh
      by_cases h0:0<D
      · have:=hh h0
        subst this
        cases r<;>simp [h0]<;>omega
      · simp [h0]
    rw [test]
    by_cases ht:0<D∧(2^(D-1)<m%2^D∨(m%2^D=2^(D-1)∧(r.toNat=1∨m / 2^D%2=1)))
    · have hq1:qOf m D r.toNat=m / 2^D+1:=by unfold qOf; rw [if_pos ht]
      have hlt:m / 2^D+1<2^64:=by
        obtain ⟨d,rfl⟩:∃ d,D=d+1:=⟨D-1,by omega⟩
        have h1:m / 2^(d+1)≤m / 2:=Nat.div_le_div_left (by rw [Nat.pow_succ]; have:=Cp d; omega) (by decide)
        omega
      rw [hq1] at hq ⊢
      rw [Ayt ht,Ays,Dn (by omega) (by omega),show ((m / 2^D:Nat):Int)+1=((m / 2^D+1:Nat):Int) by omega]
      exact last p _ (by omega) hq
    · have hq1:qOf m D r.toNat=m / 2^D:=by unfold qOf; rw [if_neg ht]; rfl
      rw [hq1] at hq ⊢
      rw [Ayx ht,Ayw]
      exact last p _ (by omega) hq
  rcases Nat.eq_zero_or_pos D with rfl | hpos
  · have:decide ((0:Int)<((0:Nat):Int))=false:=by decide
    rw [this,Ayw]
    exact up 0 (fun h=>absurd h (by omega)) _
  · have h1:decide ((0:Int)<(D:Int))=true:=by simpa using hpos
    have h2:Ab ((D:Int)-1)=((D-1:Nat):Int):=by rw [Al (by omega) (by omega)]; omega
    have h3:decide ((0:Int)≤((D-1:Nat):Int))=true:=by simp
    have h4:B4 .u64 (1:Int) ((D-1:Nat):Int)=((2^(D-1):Nat):Int):=by
      rw [show (1:Int)=((1:Nat):Int) from rfl,Fh 1 (D-1) (by omega),Nat.one_mul,Ay5 (Amm (by omega))]
    rw [h1,Ays,h2,h3,Ays,h4]
    exact up _ (fun _=>rfl) _
theorem soft.Di.known:soft.Di.Kn:=soft.Di.Ac (.cons soft.Kind.known (.cons soft.Pack.known .nil)) fun n m e r hp=>by
  obtain ⟨m0,m1,e1,e2,hr⟩:=Aq.1 (show Eg m e r=true from hp)
  obtain ⟨M,rfl⟩:∃ M:Nat,m=M:=⟨m.toNat,by omega⟩
  refine ⟨63,soft.Di.out [.b n,.i M,.i e,.b r],[],?_,Wk.Gp (.cons .int (.cons .int .nil))⟩
  show _=some (DV.tup [.int .u64 (E3 n M e r),.int .u8 (E2 n M e r)])
  unfold E3 E2 Gi
  rw [Ayu,soft.Di.ev]
  dsimp only
  by_cases h0:M=0∧r=false
  · obtain ⟨rfl,rfl⟩:=h0
    have:K6 (0:Int) (-1074)=true:=Aq.2 (by omega)
    have hp0:=On n 0 (-1074)
    rw [this]
    simp only [Bool.not_false,Bool.and_true,Ays,Bool.toNat_false]
    have hz:(((0:Nat):Int)==0)=true:=rfl
    rw [hz,Ays]
    have hp0:Ub n (0:Int) (-1074)=((Bl n (Co 0 (-1074)):Nat):Int):=hp0
    have z:∀ E,Co 0 E=0:=fun E=>if_pos rfl
    have z3:∀ E,flagsOf 0 E=0:=fun E=>if_pos rfl
    rw [hp0,z,show 4*0+0=0 from rfl,z,z3]
    rfl
  · have hc:((((M:Nat):Int)==(0:Int))&&!r)=false:=by
      cases r
      · have:M≠0:=fun h=>h0 ⟨h,rfl⟩
        simp; omega
      · simp
    rw [hc,Ayw]
    have he:-1140≤e∧e≤50000:=by omega
    obtain ⟨D,hl,hD⟩:=Ak1 63 n (m:=M) he r 62 0 63 (by omega) (by omega) (fun d' h=>by omega)
    have hs:r.toNat≤1:=by cases r<;>decide
    have hV:4*M+r.toNat≠0:=by
      intro h
      refine h0 ⟨by omega,?_⟩
      cases r
      · rfl
      · simp at h
    obtain ⟨t1,t2,t3⟩:=Ak3 hD hs hV (by omega) (by omega) (fun h=>by
      have:r=true:=by cases r<;>simp_all
      have:=hr this
      omega)
    have hl:soft.Di.L0 63 63 n (M:Int) e r (0:Int)=soft.Di.C7 63 n (M:Int) e r (D:Int):=hl
    rw [hl,Ak0 63 n (by omega) he r hD.le t3,← t1,Ahg 63 _ n (K5 _ _),t2]
namespace EqSum
def sum.right.A6:List (Nat × Entry):=[]
def sum.right.E:Env:=A9 (A5 sum.right.A6) (fun _=>false) (fun _=>none) (fun _=>none)
theorem sum.right.ev (N:Nat) (m d:Int):Bq sum.right.E N Tryz.f249 (An Tryz.f249) [.int .u64 m,.int .i64 d]=bif (A4 63 d) then bif ((B4 .u64 (Dj .u64 m 63) 63) !=m) then some (.int .u64 (Ia .u64 (Dj .u64 m 63) 1)) else some (.int .u64 (Dj .u64 m 63)) else bif (decide (0≤d)) then bif (decide (0≤d)) then bif ((B4 .u64 (Dj .u64 m d) d) !=m) then some (.int .u64 (Ia .u64 (Dj .u64 m d) 1)) else some (.int .u64 (Dj .u64 m d)) else none else none:=by kernel_rfl
abbrev _root_.Go.Proofs.S1.sum.right.Kn:=A3 Tryz.prog 249 sum.right.spec
theorem sum.right.Ac (hk:Ax Tryz.prog sum.right.A6) (h:∀ (m d:Int),sum.right.pre [.i m,.i d]=true→A8 sum.right.E Tryz.f249 [.int .u64 m,.int .i64 d] (sum.right.out [.i m,.i d])):sum.right.Kn :=
  Ak (Az hk _ _ _) Tryz.func249 (by kernel_rfl) (by kernel_rfl) h
def sum.Er.A6:List (Nat × Entry):=[(148,soft.Finite.spec),(155,soft.Kind.spec)]
def sum.Er.E:Env:=A9 (A5 sum.Er.A6) (fun _=>false) (fun _=>none) (fun _=>none)
theorem sum.Er.ev (N:Nat) (a b:Int):Bq sum.Er.E N Tryz.f248 (An Tryz.f248) [.int .u64 a,.int .u64 b]=bif (Af a) then bif ((Bd a)==(4:Int)) then some (.tup [.int .u64 9221120237041090560,.int .u8 0]) else bif (Af b) then bif ((Bd b)==(4:Int)) then some (.tup [.int .u64 9221120237041090560,.int .u8 0]) else bif (Af a) then bif (Cv a) then some (.tup [.int .u64 b,.int .u8 0]) else bif (Af b) then bif ((Cv b)||(a==b)) then some (.tup [.int .u64 a,.int .u8 0]) else some (.tup [.int .u64 9221120237041090560,.int .u8 16]) else none else none else none else none :=
  Eq.trans (by kernel_rfl)
  (Eh (Eh rfl (Eh (Eh rfl (Eh (Eh rfl (Eh (Av (Se (Cv b)) (Av (Se (Cv b)) (Av (tt8 (Cv b)) (Av (W4 (Cv b)) (C0 (tt5 (Cv b) (a==b)) rfl rfl))))) rfl)) rfl)) rfl)) rfl)
abbrev _root_.Go.Proofs.S1.sum.Er.Kn:=A3 Tryz.prog 248 sum.Er.spec
theorem sum.Er.Ac (hk:Ax Tryz.prog sum.Er.A6) (h:∀ (a b:Int),sum.Er.pre [.i a,.i b]=true→A8 sum.Er.E Tryz.f248 [.int .u64 a,.int .u64 b] (sum.Er.out [.i a,.i b])):sum.Er.Kn :=
  Ak (Az hk _ _ _) Tryz.func248 (by kernel_rfl) (by kernel_rfl) h
def sum.Add.A6:List (Nat × Entry):=[(148,soft.Finite.spec),(212,soft.Di.spec),(211,soft.F9.spec),(213,soft.Sign.spec),(249,sum.right.spec),(248,sum.Er.spec)]
def sum.Add.E:Env:=A9 (A5 sum.Add.A6) (fun _=>false) (fun _=>none) (fun _=>none)
theorem sum.Add.ev (N:Nat) (a b:Int):Bq sum.Add.E N Tryz.f232 (An Tryz.f232) [.int .u64 a,.int .u64 b]=bif (Af a) then bif ((!(Cv a))||(Af b)) then bif ((!(Cv a))||(!(Cv b))) then bif ((Af a&&Af b)&&(!(Cv a)||!(Cv b))) then some (.tup [.int .u64 (Jx a b),.int .u8 (Wt a b)]) else none else bif (Af a) then bif (Af b) then bif (Af a) then bif (Af b) then bif (A4 (Bh a) (Bh b)) then bif (Af (B4 .u64 (Bv a) 9)&&Cz (0≤(Ab ((Bh b)-(Bh a)))∧(Ab ((Bh b)-(Bh a)))<1000000)) then bif ((Dt b)==(Dt a)) then bif (Eg (Bk ((B4 .u64 (Bv b) 9)+(Fe (B4 .u64 (Bv a) 9) (Ab ((Bh b)-(Bh a)))))) (Ab ((Bh b)-9)) false) then some (.tup [.int .u64 (E3 (Dt b) (Bk ((B4 .u64 (Bv b) 9)+(Fe (B4 .u64 (Bv a) 9) (Ab ((Bh b)-(Bh a)))))) (Ab ((Bh b)-9)) false),.int .u8 (E2 (Dt b) (Bk ((B4 .u64 (Bv b) 9)+(Fe (B4 .u64 (Bv a) 9) (Ab ((Bh b)-(Bh a)))))) (Ab ((Bh b)-9)) false)]) else none else bif (A4 (Fe (B4 .u64 (Bv a) 9) (Ab ((Bh b)-(Bh a)))) (B4 .u64 (Bv b) 9)) then bif (Eg (Bk ((B4 .u64 (Bv b) 9)-(Fe (B4 .u64 (Bv a) 9) (Ab ((Bh b)-(Bh a)))))) (Ab ((Bh b)-9)) false) then some (.tup [.int .u64 (E3 (Dt b) (Bk ((B4 .u64 (Bv b) 9)-(Fe (B4 .u64 (Bv a) 9) (Ab ((Bh b)-(Bh a)))))) (Ab ((Bh b)-9)) false),.int .u8 (E2 (Dt b) (Bk ((B4 .u64 (Bv b) 9)-(Fe (B4 .u64 (Bv a) 9) (Ab ((Bh b)-(Bh a)))))) (Ab ((Bh b)-9)) false)]) else none else bif (A4 (B4 .u64 (Bv b) 9) (Fe (B4 .u64 (Bv a) 9) (Ab ((Bh b)-(Bh a))))) then bif (Eg (Bk ((Fe (B4 .u64 (Bv a) 9) (Ab ((Bh b)-(Bh a))))-(B4 .u64 (Bv b) 9))) (Ab ((Bh b)-9)) false) then some (.tup [.int .u64 (E3 (Dt a) (Bk ((Fe (B4 .u64 (Bv a) 9) (Ab ((Bh b)-(Bh a))))-(B4 .u64 (Bv b) 9))) (Ab ((Bh b)-9)) false),.int .u8 (E2 (Dt a) (Bk ((Fe (B4 .u64 (Bv a) 9) (Ab ((Bh b)-(Bh a))))-(B4 .u64 (Bv b) 9))) (Ab ((Bh b)-9)) false)]) else none else some (.tup [.int .u64 0,.int .u8 0]) else none else bif (Af (B4 .u64 (Bv b) 9)&&Cz (0≤(Ab ((Bh a)-(Bh b)))∧(Ab ((Bh a)-(Bh b)))<1000000)) then bif ((Dt a)==(Dt b)) then bif (Eg (Bk ((B4 .u64 (Bv a) 9)+(Fe (B4 .u64 (Bv b) 9) (Ab ((Bh a)-(Bh b)))))) (Ab ((Bh a)-9)) false) then some (.tup [.int .u64 (E3 (Dt a) (Bk ((B4 .u64 (Bv a) 9)+(Fe (B4 .u64 (Bv b) 9) (Ab ((Bh a)-(Bh b)))))) (Ab ((Bh a)-9)) false),.int .u8 (E2 (Dt a) (Bk ((B4 .u64 (Bv a) 9)+(Fe (B4 .u64 (Bv b) 9) (Ab ((Bh a)-(Bh b)))))) (Ab ((Bh a)-9)) false)]) else none else bif (A4 (Fe (B4 .u64 (Bv b) 9) (Ab ((Bh a)-(Bh b)))) (B4 .u64 (Bv a) 9)) then bif (Eg (Bk ((B4 .u64 (Bv a) 9)-(Fe (B4 .u64 (Bv b) 9) (Ab ((Bh a)-(Bh b)))))) (Ab ((Bh a)-9)) false) then some (.tup [.int .u64 (E3 (Dt a) (Bk ((B4 .u64 (Bv a) 9)-(Fe (B4 .u64 (Bv b) 9) (Ab ((Bh a)-(Bh b)))))) (Ab ((Bh a)-9)) false),.int .u8 (E2 (Dt a) (Bk ((B4 .u64 (Bv a) 9)-(Fe (B4 .u64 (Bv b) 9) (Ab ((Bh a)-(Bh b)))))) (Ab ((Bh a)-9)) false)]) else none else bif (A4 (B4 .u64 (Bv a) 9) (Fe (B4 .u64 (Bv b) 9) (Ab ((Bh a)-(Bh b))))) then bif (Eg (Bk ((Fe (B4 .u64 (Bv b) 9) (Ab ((Bh a)-(Bh b))))-(B4 .u64 (Bv a) 9))) (Ab ((Bh a)-9)) false) then some (.tup [.int .u64 (E3 (Dt b) (Bk ((Fe (B4 .u64 (Bv b) 9) (Ab ((Bh a)-(Bh b))))-(B4 .u64 (Bv a) 9))) (Ab ((Bh a)-9)) false),.int .u8 (E2 (Dt b) (Bk ((Fe (B4 .u64 (Bv b) 9) (Ab ((Bh a)-(Bh b))))-(B4 .u64 (Bv a) 9))) (Ab ((Bh a)-9)) false)]) else none else some (.tup [.int .u64 0,.int .u8 0]) else none else none else none else none else none else none else none :=
  Eq.trans (by kernel_rfl)
  (Eh (Av (Ab8 (Cv a)) (C0 (Amo (Cv a) (Af b)) (Av (R8 (Cv a)) (Av (Ab9 (Cv a)) (C0 (Amp (Cv a) (Cv b)) rfl rfl))) rfl)) rfl)
abbrev _root_.Go.Proofs.S1.sum.Add.Kn:=A3 Tryz.prog 232 sum.Add.spec
theorem sum.Add.Ac (hk:Ax Tryz.prog sum.Add.A6) (h:∀ (a b:Int),sum.Add.pre [.i a,.i b]=true→A8 sum.Add.E Tryz.f232 [.int .u64 a,.int .u64 b] (sum.Add.out [.i a,.i b])):sum.Add.Kn :=
  Ak (Az hk _ _ _) Tryz.func232 (by kernel_rfl) (by kernel_rfl) h
def sum.Sub.A6:List (Nat × Entry):=[(233,soft.Dp.spec),(232,sum.Add.spec)]
def sum.Sub.E:Env:=A9 (A5 sum.Sub.A6) (fun _=>false) (fun _=>none) (fun _=>none)
theorem sum.Sub.ev (N:Nat) (a b:Int):Bq sum.Sub.E N Tryz.f207 (An Tryz.f207) [.int .u64 a,.int .u64 b]=bif (Af b) then bif (Af a&&Af (Db b)) then some (.tup [.int .u64 (Jx a (Db b)),.int .u8 (Wt a (Db b))]) else none else none:=by kernel_rfl
abbrev _root_.Go.Proofs.S1.sum.Sub.Kn:=A3 Tryz.prog 207 sum.Sub.spec
theorem sum.Sub.Ac (hk:Ax Tryz.prog sum.Sub.A6) (h:∀ (a b:Int),sum.Sub.pre [.i a,.i b]=true→A8 sum.Sub.E Tryz.f207 [.int .u64 a,.int .u64 b] (sum.Sub.out [.i a,.i b])):sum.Sub.Kn :=
  Ak (Az hk _ _ _) Tryz.func207 (by kernel_rfl) (by kernel_rfl) h
end EqSum
open EqSum
theorem Atk (q:Nat):q ||| 1=2*(q / 2)+1:=by
  have e:q%2 ||| (q / 2*2^1)=q / 2*2^1+q%2:=M5 (Nat.mod_lt _ (by decide))
  have e1:1 ||| (q / 2*2^1)=q / 2*2^1+1:=M5 (k:=1) (by decide)
  have hq:q / 2*2^1+q%2=q:=by omega
  rw [hq] at e
  rcases Nat.mod_two_eq_zero_or_one q with h | h
  · rw [h,Nat.zero_or] at e
    rw [e,Nat.or_comm] at e1
    omega
  · rw [h] at e
    have:q ||| 1=q:=by
      conv=>lhs; rw [← e]
      rw [Nat.or_comm 1,Nat.or_assoc,Nat.or_self,Nat.or_comm,e]
    omega
theorem X9 {n s:Nat} (hn:n<2^64) (hs:s≤63) :
    (bif ((B4 .u64 (Dj .u64 (n:Int) (s:Int)) (s:Int)) !=(n:Int)) then
      some (DV.int .u64 (Ia .u64 (Dj .u64 (n:Int) (s:Int)) (1:Int)))
    else some (.int .u64 (Dj .u64 (n:Int) (s:Int))))=some (.int .u64 ((Fv n s:Nat):Int)):=by
  have hq:n / 2^s≤n:=Nat.div_le_self _ _
  have hm:n / 2^s*2^s≤n:=Nat.div_mul_le_self _ _
  have hd:=Nat.div_add_mod n (2^s)
  rw [Nat.mul_comm] at hd
  rw [Hw .u64 n s (by show s≤64; omega),Fh _ s (by omega),Ay5 (by omega)]
  have h1:Ia .u64 ((n / 2^s:Nat):Int) (1:Int)=((n / 2^s ||| 1:Nat):Int):=U8 (by omega) (by decide)
  rw [h1,Atk]
  unfold Fv
  by_cases h:n%2^s=0
  · have:((((n / 2^s*2^s:Nat):Int)) !=(n:Int))=false:=by
      simp only [bne_eq_false_iff_eq]; omega
    rw [this,if_pos h,Ayw]
  · have:((((n / 2^s*2^s:Nat):Int)) !=(n:Int))=true:=by
      simp only [bne_iff_ne,ne_eq]; omega
    rw [this,if_neg h,Ays]
theorem sum.right.known:sum.right.Kn:=sum.right.Ac .nil fun m d hp=>by
  obtain ⟨h1,h2⟩:=Ad.1 hp
  obtain ⟨n,rfl,hn⟩:=Bm h1
  have h2:=Aq.1 h2
  obtain ⟨d,rfl⟩:∃ k:Nat,d=k:=⟨d.toNat,by omega⟩
  refine ⟨0,sum.right.out [.i n,.i d],[],?_,.int⟩
  rw [sum.right.ev,As]
  show _=some (DV.int .u64 (Fe n d))
  unfold Fe
  rw [Ayu,Ayu]
  by_cases h:63<d
  · have:decide ((63:Int)<(d:Int))=true:=by simp; omega
    rw [this,Ays,Nat.min_eq_right (by omega)]
    exact X9 hn (Nat.le_refl 63)
  · have:decide ((63:Int)<(d:Int))=false:=by simp; omega
    have h0:decide ((0:Int)≤(d:Int))=true:=by simp
    rw [this,Ayw,h0,Ays,Ays,Nat.min_eq_left (by omega)]
    exact X9 hn (by omega)
theorem Aie:((P8:Nat):Int)=9221120237041090560:=rfl
theorem sum.Er.known:sum.Er.Kn:=sum.Er.Ac (.cons soft.Finite.known (.cons soft.Kind.known .nil)) fun a b hp=>by
  obtain ⟨h1,h2⟩:=Ad.1 hp
  obtain ⟨ha,hb⟩:=Ad.1 h1
  obtain ⟨a,rfl,hn⟩:=Bm ha
  obtain ⟨b,rfl,hm⟩:=Bm hb
  refine ⟨0,sum.Er.out [.i a,.i b],[],?_,Wk.Gp (.cons .int (.cons .int .nil))⟩
  rw [sum.Er.ev,ha,hb]
  show _=some (DV.tup [.int .u64 (Jx a b),.int .u8 (Wt a b)])
  unfold Jx Wt K3 Bd Cv
  simp only [Ayu,Ays]
  unfold Cv at h2
  simp only [Ayu] at h2
  by_cases a4:Am a=4
  · simp [a4,Aie]
  · have e4:((Am a:Int)==4)=false:=by simp; omega
    rw [e4,Ayw]
    by_cases b4:Am b=4
    · simp [b4,Aie]
    · have f4:((Am b:Int)==4)=false:=by simp; omega
      rw [f4,Ayw]
      have ka:=Y7 a
      have kb:=Y7 b
      by_cases a3:Am a=3
      · have fa:Kb a=false:=by rw [ka]; simp [a3]
        rw [fa,Ayw]
        by_cases b3:Am b=3
        · have fb:Kb b=false:=by rw [kb]; simp [b3]
          rw [fb]
          by_cases hab:a=b
          · subst hab; simp [a3]
          · have hab':((a:Int)==(b:Int))=false:=by simp; omega
            rw [hab']
            simp [a3,b3,hab,Aie]
        · have fb:Kb b=true:=by rw [kb]; simp [b3,b4]
          rw [fb]
          simp [a3,b3,b4]
      · have fa:Kb a=true:=by rw [ka]; simp [a3,a4]
        have b3:Am b=3:=by
          rw [fa,kb] at h2
          simp [b4] at h2
          exact h2
        rw [fa,Ays]
        simp [a3,b3,a4]
def Aiq (na nb:Bool) (X r:Nat) (e:Int):Nat × Nat :=
  if na=nb then Gi na (X+r) e false else if r<X then Gi na (X-r) e false else if X<r then Gi nb (r-X) e false else (0,0)
theorem Vs {na:Bool} {m:Int} {n:Nat} {e e':Int} (h:m=n) (he:e'=e) (hn:n<2^64) (h1:-1100≤e) (h2:e≤1000) :
    (bif Eg m e' false then some (DV.tup [.int .u64 (E3 na m e' false),.int .u8 (E2 na m e' false)]) else none)
      = some (.tup [.int .u64 (((Gi na n e false).1:Nat):Int),.int .u8 (((Gi na n e false).2:Nat):Int)]):=by
  subst h; subst he
  have hp:Eg (n:Int) e' false=true:=Aq.2 ⟨by omega,by omega,by omega,.inl (by omega),fun h=>by cases h⟩
  rw [hp,Ays]
  unfold E3 E2
  rw [Ayu]
theorem Agi (na nb:Bool) {X r:Nat} {e e':Int} (hX:X<2^62) (hr:r≤2^62) (h:e'=e) (h1:-1100≤e) (h2:e≤1000) :
    (bif (na==nb) then
      bif Eg (Bk ((X:Int)+(r:Int))) e' false then some (DV.tup [.int .u64 (E3 na (Bk ((X:Int)+(r:Int))) e' false),.int .u8 (E2 na (Bk ((X:Int)+(r:Int))) e' false)]) else none
    else bif A4 (r:Int) (X:Int) then
      bif Eg (Bk ((X:Int)-(r:Int))) e' false then some (DV.tup [.int .u64 (E3 na (Bk ((X:Int)-(r:Int))) e' false),.int .u8 (E2 na (Bk ((X:Int)-(r:Int))) e' false)]) else none
    else bif A4 (X:Int) (r:Int) then
      bif Eg (Bk ((r:Int)-(X:Int))) e' false then some (DV.tup [.int .u64 (E3 nb (Bk ((r:Int)-(X:Int))) e' false),.int .u8 (E2 nb (Bk ((r:Int)-(X:Int))) e' false)]) else none
    else some (.tup [.int .u64 (0:Int),.int .u8 (0:Int)])) =
      some (.tup [.int .u64 (((Aiq na nb X r e).1:Nat):Int),.int .u8 (((Aiq na nb X r e).2:Nat):Int)]):=by
  unfold Aiq
  rw [As,As]
  by_cases hs:na=nb
  · have:(na==nb)=true:=by simp [hs]
    rw [this,Ays,if_pos hs]
    exact Vs (by rw [Dn (by omega) (by omega)]; omega) h (by omega) h1 h2
  · have:(na==nb)=false:=by simp [hs]
    rw [this,Ayw,if_neg hs]
    by_cases hl:r<X
    · have:decide ((r:Int)<(X:Int))=true:=by simp; omega
      rw [this,Ays,if_pos hl]
      exact Vs (by rw [Dn (by omega) (by omega)]; omega) h (by omega) h1 h2
    · have:decide ((r:Int)<(X:Int))=false:=by simp; omega
      rw [this,Ayw,if_neg hl]
      by_cases hg:X<r
      · have:decide ((X:Int)<(r:Int))=true:=by simp; omega
        rw [this,Ays,if_pos hg]
        exact Vs (by rw [Dn (by omega) (by omega)]; omega) h (by omega) h1 h2
      · have:decide ((X:Int)<(r:Int))=false:=by simp; omega
        rw [this,Ayw,if_neg hg]
        rfl
theorem Aju {a b:Nat} (ha:Kb a=true) (hb:Kb b=true) (hle:A2 b≤A2 a) :
    ∃ X r:Nat,X<2^62∧r≤2^62∧B4 .u64 (Bv a) (9:Int)=(X:Int)∧Fe (B4 .u64 (Bv b) (9:Int)) (Ab (Bh a-Bh b))=(r:Int)
      ∧ Ab (Bh a-9)=A2 a-9
      ∧ (Af (B4 .u64 (Bv b) (9:Int))&&Cz (0≤(Ab ((Bh a)-(Bh b)))∧(Ab ((Bh a)-(Bh b)))<1000000))=true
      ∧ Aiq (Dt a) (Dt b) X r (A2 a-9)=K3 a b:=by
  obtain ⟨d,hd⟩:∃ d:Nat,A2 a=A2 b+d:=⟨(A2 a-A2 b).toNat,by omega⟩
  have hx:=Fb a
  have hy:=Fb b
  have ea:=En a
  have eb:=En b
  have C:=Agh (Mx:=Aw a) (My:=Aw b) hd hx hy (fun h=>Aa6 (by omega))
  have sh:∀ m:Nat,m<2^53→B4 .u64 (m:Int) (9:Int)=((m*2^9:Nat):Int):=fun m hm=>by
    have:=Fh m 9 (by decide)
    rw [Ay5 (by omega)] at this
    exact this
  have h2:Ab (Bh a-Bh b)=(d:Int):=by
    unfold Bh
    rw [Ayu,Ayu,Al (by omega) (by omega)]; omega
  have s1:B4 .u64 (Bv a) (9:Int)=((Aw a*2^9:Nat):Int):=by
    unfold Bv; rw [Ayu]; exact sh _ hx
  have s2:B4 .u64 (Bv b) (9:Int)=((Aw b*2^9:Nat):Int):=by
    unfold Bv; rw [Ayu]; exact sh _ hy
  refine ⟨Aw a*2^9,Fv (Aw b*2^9) (min d 63),by omega,C.small,s1,?_,?_,?_,?_⟩
  · rw [s2,h2]; unfold Fe; rw [Ayu,Ayu]
  · unfold Bh; rw [Ayu,Al (by omega) (by omega)]
  · rw [s2,h2,Cb (by omega),Bool.true_and]
    exact Aq.2 ⟨by omega,by omega⟩
  · unfold Dt
    rw [Ayu,Ayu,Agg ha hb hd]
    rfl
theorem sum.Add.known:sum.Add.Kn:=sum.Add.Ac (.cons soft.Finite.known (.cons soft.Di.known (.cons soft.F9.known (.cons soft.Sign.known (.cons sum.right.known (.cons sum.Er.known .nil)))))) fun a b hp=>by
  obtain ⟨ha,hb⟩:=Ad.1 hp
  obtain ⟨a,rfl,hn⟩:=Bm ha
  obtain ⟨b,rfl,hm⟩:=Bm hb
  refine ⟨0,sum.Add.out [.i a,.i b],[],?_,Wk.Gp (.cons .int (.cons .int .nil))⟩
  rw [sum.Add.ev,ha,hb]
  show _=some (DV.tup [.int .u64 (Jx a b),.int .u8 (Wt a b)])
  rw [Bool.or_true,Ays,Ays]
  by_cases hf:(!(Cv a)||!(Cv b))=true
  · rw [hf]; rfl
  · have hf:(!(Cv a)||!(Cv b))=false:=by simpa using hf
    rw [hf,Ayw,Ays,Ays,Ays,Ays]
    have fa:Kb a=true:=by
      have:=(Bool.or_eq_false_iff.1 hf).1
      unfold Cv at this
      simpa using this
    have fb:Kb b=true:=by
      have:=(Bool.or_eq_false_iff.1 hf).2
      unfold Cv at this
      simpa using this
    have xa:=En a
    have xb:=En b
    rw [As]
    by_cases hl:A2 a<A2 b
    · obtain ⟨X,r,hX,hr,e1,e2,e3,e4,e5⟩:=Aju fb fa (by omega)
      have:decide (Bh a<Bh b)=true:=by unfold Bh; simpa using hl
      rw [this,Ays,e4,Ays,e1,e2,Agi _ _ hX hr e3 (by omega) (by omega),e5,Al6]
      rfl
    · obtain ⟨X,r,hX,hr,e1,e2,e3,e4,e5⟩:=Aju fa fb (by omega)
      have:decide (Bh a<Bh b)=false:=by unfold Bh; simpa using hl
      rw [this,Ayw,e4,Ays,e1,e2,Agi _ _ hX hr e3 (by omega) (by omega),e5]
      rfl
theorem sum.Sub.known:sum.Sub.Kn:=sum.Sub.Ac (.cons soft.Dp.known (.cons sum.Add.known .nil)) fun a b hp=>by
  obtain ⟨ha,hb⟩:=Ad.1 hp
  obtain ⟨b,rfl,hm⟩:=Bm hb
  refine ⟨0,sum.Sub.out [.i a,.i b],[],?_,Wk.Gp (.cons .int (.cons .int .nil))⟩
  have:Af (Db (b:Int))=true:=by unfold Db; rw [Ayu]; exact Cb (Vu hm)
  rw [sum.Sub.ev,ha,hb,this]
  unfold Jx Wt Db
  rw [Ayu]
  rfl
end Go.Proofs.S1
end
