/- A verified evaluator of the program's form and its use for this seat: S1PRefA, S1PRefAa, S1EqRefB, S1PRefB, S1PRefBa, S1EqRefC, S1PRefC, S1PRefCa, S1EqRefE, S1PRefV, S1PPack, S1PNear, S1EqSum, S1PSum. -/
import Derived.Test.YtjbokjpbiobjpaaGreatTF
import Derived.Test.YtjbokjpbiobjpaaGreatTE
set_option linter.unusedVariables false
set_option linter.unusedSimpArgs false
noncomputable section
namespace Go.Proofs.S1
open Go Go.Den Go.Rnd Go.Proofs
open EqRefA
theorem Ah.Jr.known:Ah.Jr.Kn:=Ah.Jr.Ac .nil fun l i hp=>by
  obtain ⟨hl,hi⟩:=Kz hp
  refine ⟨0,Ah.Jr.out [.l l,.i i],[],?_,.int⟩
  rw [Ah.Jr.ev,Ei,As]
  show _=some (DV.int .u64 (G2 l i))
  by_cases h0:0≤i
  · obtain ⟨k,rfl⟩:∃ k:Nat,i=k:=⟨i.toNat,by omega⟩
    have hv:=Hj hi k
    have hg:=Rl hi k
    rw [hv,Axv,hg,Axu h0,Bool.true_and]
    by_cases h1:(k:Int)<(l.length:Int)
    · rw [Axu h1,Axt,Axt,Di (by omega) (by omega)]
    · have h2:l.getD k 0=0:=by
        rw [Ax3,List.getElem?_eq_none (by omega)]; rfl
      rw [h2] at hg
      rw [Axy h1,Axx,← hg]
  · have:G2 l i=0:=by unfold G2; rw [if_neg h0]
    rw [Axy h0,Bool.false_and,Axx,this]
theorem Adj {drops:List Nat} {b:Bool} {l:List Int}:Wk drops (.agg [.bool b,.ints .arg .u32 l]) (.agg [.bool b,.ints .arg .u32 l]):=Wk.G6 (.cons .bool (.cons .Wr .nil))
theorem Akg:Bi 0=false:=rfl
theorem Ae3:Ap 0=[]:=rfl
theorem Akq (N:Nat) (n:Bool) {l:List Int} (hl:l.length<1073741824) (hi:Y0 l):∀ (p F:Nat),p≤l.length→p<F→Cm l<2^(32*p) →
    ∃ dv,Ah.Made.L0 N F n l (p:Int)=some dv∧Wk [] dv (.agg [.bool (Bi (wv n l)),.ints .arg .u32 (Ap (wv n l))]):=by
  have hlast:∀ p,p≤l.length→Dn (Cm l)=p→p≠0→some (DV.agg [.bool n,.ints .arg .u32 (l.take p)])=some (DV.agg [.bool (Bi (wv n l)),.ints .arg .u32 (Ap (wv n l))]):=by
    intro p hp hq h0
    have h1:=Ahc hi
    rw [hq] at h1
    have h2:Cm l≠0:=fun h=>by rw [h] at hq; exact h0 hq.symm
    have e:(wv n l).natAbs=Cm l:=by unfold wv H2; split<;>omega
    have e1:Ap (wv n l)=Qh (Cm l):=by unfold Ap; rw [e]
    have e2:Bi (wv n l)=n:=by unfold Bi wv H2; cases n<;>simp<;>omega
    rw [h1,e1,e2]
  intro p
  induction p with
  | zero =>
    intro F hp hF hv
    obtain ⟨F,rfl⟩:∃ G,F=G+1:=⟨F-1,by omega⟩
    have hz:wv n l=0:=by
      have:Cm l=0:=by rw [Nat.mul_zero,Nat.pow_zero] at hv; omega
      unfold wv H2; rw [this]; cases n<;>rfl
    refine ⟨.agg [.bool false,.nil],?_,?_⟩
    · rw [Ah.Made.Au,As]; rfl
    · rw [hz,Akg,Ae3]
      exact Wk.G6 (.cons .bool (.cons (.nil _ _) .nil))
  | succ p ih =>
    intro F hp hF hv
    obtain ⟨F,rfl⟩:∃ G,F=G+1:=⟨F-1,by omega⟩
    rw [Ah.Made.Au,As,Am (by omega) (by omega)]
    have e0:((p+1:Nat):Int)-1=(p:Int):=by omega
    have t0:decide ((0:Int)<((p+1:Nat):Int))=true:=Axu (by omega)
    have t1:decide ((0:Int)≤(p:Int))=true:=by simp
    have t2:decide ((p:Int)<(l.length:Int))=true:=by simp; omega
    have hg:=Rl hi p
    have hq:Cm l / 2^(32*p)<4294967296:=by
      rw [Nat.div_lt_iff_lt_mul (Cj _),← Od]; exact hv
    rw [Ax6 hq] at hg
    rw [e0,t0,t1,t2,Axv,hg]
    simp only [Bool.not_true,Axz,Bool.false_or,Axt,Bool.true_and]
    by_cases hz:Cm l / 2^(32*p)=0
    · have:(((Cm l / 2^(32*p):Nat):Int)==0)=true:=by rw [hz]; rfl
      rw [this,Axt]
      refine ih F (by omega) (by omega) ?_
      rcases Nat.lt_or_ge (Cm l) (2^(32*p)) with h | h
      · exact h
      · have:=Nat.div_pos h (Cj _); omega
    · have:(((Cm l / 2^(32*p):Nat):Int)==0)=false:=by simp only [beq_eq_false_iff_ne,ne_eq]; omega
      have t3:(((p+1:Nat):Int)==0)=false:=by simp only [beq_eq_false_iff_ne,ne_eq]; omega
      have t4:decide (((p+1:Nat):Int)≤(l.length:Int))=true:=by simp; omega
      have t5:decide ((0:Int)≤((p+1:Nat):Int))=true:=Axu (by omega)
      rw [this,Axx,t3,Axx,t4,t5,Axz,Axt,Axv]
      have hlen:Dn (Cm l)=p+1:=by
        have a1:=Nm hv
        have a2:=Aqs (n:=Cm l) (k:=p) (by
          rcases Nat.lt_or_ge (Cm l) (2^(32*p)) with h | h
          · exact absurd (Nat.div_eq_of_lt h) hz
          · exact h)
        omega
      exact ⟨_,hlast (p+1) hp hlen (by omega),Adj⟩
theorem Ah.Made.known:Ah.Made.Kn:=Ah.Made.Ac .nil fun n l hp=>by
  obtain ⟨hl,hi⟩:=Kz hp
  obtain ⟨dv,h1,h2⟩:=Akq (l.length+1) n hl hi l.length (l.length+1) (Nat.le_refl _) (by omega) (Nf hi)
  exact ⟨l.length+1,dv,[],by rw [Ah.Made.ev]; exact h1,h2⟩
theorem Z9 {a b:Int} (ha:0≤a∧a<4294967296) (hb:0≤b∧b<4294967296):Hp [a,b]=true :=
  Nw (show 2<1073741824 by decide) fun x hx=>by
    rcases List.mem_cons.1 hx with rfl | hx
    · exact ha
    · rcases List.mem_cons.1 hx with rfl | hx
      · exact hb
      · cases hx
theorem Ais:(4294967296:Int)=((4294967296:Nat):Int):=rfl
theorem Ah.Of.known:Ah.Of.Kn:=Ah.Of.Ac (.cons Ah.Made.known .nil) fun n hp=>by
  have hp:=Ar.1 hp
  refine ⟨0,Ah.Of.out [.i n],[],?_,Adj⟩
  rw [Ah.Of.ev,As]
  show _=some (DV.agg [.bool (Bi n),.ints .arg .u32 (Ap n)])
  by_cases h:n<0
  · obtain ⟨k,rfl⟩:∃ k:Nat,n=-(k:Int):=⟨(-n).toNat,by omega⟩
    have e1:Bj (Bj (Ab (0-Ab (-(k:Int)+1)))+1)=(k:Int):=by
      rw [Am (x:=-(k:Int)+1) (by omega) (by omega),Am (by omega) (by omega),Di (x:=0-(-(k:Int)+1)) (by omega) (by omega),Di (by omega) (by omega)]; omega
    rw [Axu h,Axt,e1,Ais,Jw,Jx,K2 (by omega) (by omega),Di (by omega) (by omega),K2 (by omega) (by omega),
      Z9 (by omega) (by omega),Axt]
    have e2:wv true [((k%4294967296:Nat):Int),((k / 4294967296:Nat):Int)]=-(k:Int):=by
      unfold wv H2 Cm Cm Cm
      rw [if_pos rfl,Axv,Axv]
      omega
    rw [e2]
  · obtain ⟨k,rfl⟩:∃ k:Nat,n=(k:Int):=⟨n.toNat,by omega⟩
    rw [Axy h,Axx,Ais,Jw,Jx,K2 (by omega) (by omega),Am (by omega) (by omega),K2 (by omega) (by omega),
      Z9 (by omega) (by omega),Axt]
    have e2:wv false [((k%4294967296:Nat):Int),((k / 4294967296:Nat):Int)]=(k:Int):=by
      unfold wv H2 Cm Cm Cm
      rw [if_neg (by decide),Axv,Axv]
      omega
    rw [e2]
theorem Ah.Neg.known:Ah.Neg.Kn:=Ah.Neg.Ac (.cons Ah.Made.known .nil) fun n a hp=>by
  obtain ⟨v,rfl,rfl,hv⟩:=Jc hp
  refine ⟨0,Ah.Neg.out [.b (Bi v),.l (Ap v)],[],?_,Adj⟩
  rw [Ah.Neg.ev,Oj (by omega),Axt,Ar6]
  rfl
open EqRefA
theorem Ako (N:Nat) {a b:List Int} (ha:Hp a=true) (hb:Hp b=true):∀ (j F:Nat),j<4000000000→j<F→Cm a / 2^(32*j)=Cm b / 2^(32*j) →
    Ah.Iu.L0 N F a b ((j:Int)-1)=some (.int .i64 (Vr (Cm a) (Cm b))):=by
  have ia:=(Kz ha).2
  have ib:=(Kz hb).2
  intro j
  induction j with
  | zero =>
    intro F hj hF h
    obtain ⟨F,rfl⟩:∃ G,F=G+1:=⟨F-1,by omega⟩
    rw [Nat.mul_zero,Nat.pow_zero,Nat.div_one,Nat.div_one] at h
    have e:Vr (Cm a) (Cm b)=0:=by unfold Vr; rw [if_neg (by omega),if_neg (by omega)]
    rw [Ah.Iu.Au,Ei,e]
    rfl
  | succ j ih =>
    intro F hj hF h
    obtain ⟨F,rfl⟩:∃ G,F=G+1:=⟨F-1,by omega⟩
    have e0:((j+1:Nat):Int)-1=(j:Int):=by omega
    have t0:decide ((0:Int)≤(j:Int))=true:=Axu (by omega)
    rw [Od,Nat.mul_comm,← Nat.div_div_eq_div_mul,← Nat.div_div_eq_div_mul] at h
    have up:Cm a / 2^(32*j)<Cm b / 2^(32*j)→Cm a<Cm b:=fun k=>by
      rcases Nat.lt_or_ge (Cm a) (Cm b) with h1 | h1
      · exact h1
      · have:=Nat.div_le_div_right (c:=2^(32*j)) h1; omega
    have down:Cm b / 2^(32*j)<Cm a / 2^(32*j)→Cm b<Cm a:=fun k=>by
      rcases Nat.lt_or_ge (Cm b) (Cm a) with h1 | h1
      · exact h1
      · have:=Nat.div_le_div_right (c:=2^(32*j)) h1; omega
    rw [Ah.Iu.Au,e0,Ei,t0,Axt,ha,hb,Axt,Axt,As,As,Hj ia,Hj ib,Am (by omega) (by omega)]
    have ih:=ih F (by omega) (by omega)
    generalize Cm a / 2^(32*j)=x at *
    generalize Cm b / 2^(32*j)=y at *
    by_cases h1:x%4294967296<y%4294967296
    · have e:Vr (Cm a) (Cm b)=-1:=by unfold Vr; rw [if_pos (up (by omega))]
      rw [Axu (by omega),Axt,e]
    · rw [Axy (by omega),Axx]
      by_cases h2:y%4294967296<x%4294967296
      · have:=down (by omega)
        have e:Vr (Cm a) (Cm b)=1:=by unfold Vr; rw [if_neg (by omega),if_pos this]
        rw [Axu (by omega),Axt,e]
        rfl
      · rw [Axy (by omega),Axx]
        exact ih (by omega)
theorem Ai0 {l:List Int} (h:Y0 l) {j:Nat} (hj:l.length≤j):Cm l / 2^(32*j)=0 :=
  Nat.div_eq_of_lt (Nat.lt_of_lt_of_le (Nf h) (Ax8 (by decide) (by omega)))
theorem Ah.Iu.known:Ah.Iu.Kn:=Ah.Iu.Ac (.cons Ah.Jr.known .nil) fun a b hp=>by
  obtain ⟨ha,hb⟩:=Ad.1 hp
  obtain ⟨la,ia⟩:=Kz ha
  obtain ⟨lb,ib⟩:=Kz hb
  refine ⟨max a.length b.length+2,Ah.Iu.out [.l a,.l b],[],?_,.int⟩
  rw [Ah.Iu.ev]
  have e:max (a.length:Int) (b.length:Int)=((max a.length b.length+1:Nat):Int)-1:=by omega
  rw [e]
  exact Ako _ ha hb _ _ (by omega) (by omega) (by rw [Ai0 ia (by omega),Ai0 ib (by omega)])
theorem Aj8 (N:Nat) {a b:List Int} (ha:Hp a=true) (hb:Hp b=true):∀ (k i c F:Nat),i+k=max a.length b.length+1→k<F→c≤1 →
    Cm a / 2^(32*i)+Cm b / 2^(32*i)+c=(Cm a+Cm b) / 2^(32*i) →
    Ah.plus.L0 N F a b (c:Int) (i:Int) (digits i (Cm a+Cm b))=some (.ints (.own 100005 tW) .u32 (J0 a b)):=by
  obtain ⟨la,ia⟩:=Kz ha
  obtain ⟨lb,ib⟩:=Kz hb
  intro k
  induction k with
  | zero =>
    intro i c F hi hF hc h
    obtain ⟨F,rfl⟩:∃ G,F=G+1:=⟨F-1,by omega⟩
    have t0:decide ((i:Int)≤max (a.length:Int) (b.length:Int))=false:=Axy (by omega)
    rw [Ah.plus.Au,Ei,t0,Axx]
    unfold J0
    rw [show i=max a.length b.length+1 by omega]
  | succ k ih =>
    intro i c F hi hF hc h
    obtain ⟨F,rfl⟩:∃ G,F=G+1:=⟨F-1,by omega⟩
    have t0:decide ((i:Int)≤max (a.length:Int) (b.length:Int))=true:=Axu (by omega)
    have t1:decide ((digits i (Cm a+Cm b)).length+1≤Gp)=true:=Axu (by rw [Fc]; unfold Gp; omega)
    rw [Ah.plus.Au,Ei,t0,ha,hb,t1]
    simp only [Axt]
    rw [Hj ia,Hj ib]
    have ih:=ih (i+1)
    rw [Od,Nat.mul_comm 4294967296,← Nat.div_div_eq_div_mul,← Nat.div_div_eq_div_mul,← Nat.div_div_eq_div_mul,Nq] at ih
    generalize Cm a / 2^(32*i)=x at *
    generalize Cm b / 2^(32*i)=y at *
    generalize (Cm a+Cm b) / 2^(32*i)=z at *
    have e1:Bj (Bj (((x%4294967296:Nat):Int)+((y%4294967296:Nat):Int))+(c:Int))=((x%4294967296+y%4294967296+c:Nat):Int):=by
      rw [Di (x:=((x%4294967296:Nat):Int)+((y%4294967296:Nat):Int)) (by omega) (by omega),Di (by omega) (by omega)]; omega
    rw [e1,Ais,Jw,Jx,K2 (by omega) (by omega),Di (by omega) (by omega),Am (by omega) (by omega)]
    have e2:(x%4294967296+y%4294967296+c)%4294967296=z%4294967296:=by omega
    rw [e2]
    exact ih ((x%4294967296+y%4294967296+c) / 4294967296) F (by omega) (by omega) (by omega) (by omega)
theorem Ail {i:Nat} {e:TypeId} {k:IntKind} {l:List Int}:Wk [i] (.ints (.own i e) k l) (.ints .arg k l):=.dropA i e k l (List.mem_singleton.2 rfl)
theorem Ah.plus.known:Ah.plus.Kn:=Ah.plus.Ac (.cons Ah.Jr.known .nil) fun a b hp=>by
  obtain ⟨ha,hb⟩:=Ad.1 hp
  refine ⟨max a.length b.length+2,.ints (.own 100005 tW) .u32 (J0 a b),[100005],?_,Ail⟩
  rw [Ah.plus.ev]
  exact Aj8 _ ha hb (max a.length b.length+1) 0 0 _ (by omega) (by omega) (by omega) (by simp)
theorem Ag4 (N:Nat) {a b:List Int} (ha:Hp a=true) (hb:Hp b=true):∀ (k i w F:Nat),i+k=a.length→k<F→w≤1 →
    Cm a / 2^(32*i)=Cm b / 2^(32*i)+(Cm a-Cm b) / 2^(32*i)+w →
    Ah.minus.L0 N F a b (w:Int) (i:Int) (digits i (Cm a-Cm b))=some (.ints (.own 100005 tW) .u32 (Hg a b)):=by
  obtain ⟨la,ia⟩:=Kz ha
  obtain ⟨lb,ib⟩:=Kz hb
  intro k
  induction k with
  | zero =>
    intro i c F hi hF hc h
    obtain ⟨F,rfl⟩:∃ G,F=G+1:=⟨F-1,by omega⟩
    have t0:decide ((i:Int)<(a.length:Int))=false:=Axy (by omega)
    rw [Ah.minus.Au,As,t0,Axx]
    unfold Hg
    rw [show i=a.length by omega]
  | succ k ih =>
    intro i w F hi hF hc h
    obtain ⟨F,rfl⟩:∃ G,F=G+1:=⟨F-1,by omega⟩
    have t0:decide ((i:Int)<(a.length:Int))=true:=Axu (by omega)
    have t1:decide ((digits i (Cm a-Cm b)).length+1≤Gp)=true:=Axu (by rw [Fc]; unfold Gp; omega)
    rw [Ah.minus.Au,As,t0,ha,hb,t1]
    simp only [Axt]
    rw [Hj ia,Hj ib]
    have ih:=ih (i+1)
    rw [Od,Nat.mul_comm 4294967296,← Nat.div_div_eq_div_mul,← Nat.div_div_eq_div_mul,← Nat.div_div_eq_div_mul,Nq] at ih
    generalize Cm a / 2^(32*i)=x at *
    generalize Cm b / 2^(32*i)=y at *
    generalize (Cm a-Cm b) / 2^(32*i)=z at *
    have e1:Bj (Bj (Bj ((4294967296:Int)+((x%4294967296:Nat):Int))-((y%4294967296:Nat):Int))-(w:Int))=((4294967296+x%4294967296-y%4294967296-w:Nat):Int):=by
      rw [Di (x:=(4294967296:Int)+((x%4294967296:Nat):Int)) (by omega) (by omega),Di (x:=(4294967296:Int)+((x%4294967296:Nat):Int)-((y%4294967296:Nat):Int)) (by omega) (by omega),Di (by omega) (by omega)]; omega
    have e2:(4294967296+x%4294967296-y%4294967296-w)%4294967296=z%4294967296:=by omega
    have e3:Bj ((1:Int)-(((4294967296+x%4294967296-y%4294967296-w) / 4294967296:Nat):Int))=((1-(4294967296+x%4294967296-y%4294967296-w) / 4294967296:Nat):Int):=by
      rw [Di (by omega) (by omega)]; omega
    rw [e1,Ais,Jw,Jx,K2 (by omega) (by omega),Di (x:=(((4294967296+x%4294967296-y%4294967296-w) / 4294967296:Nat):Int)) (by omega) (by omega),Am (by omega) (by omega),e2,e3]
    exact ih (1-(4294967296+x%4294967296-y%4294967296-w) / 4294967296) F (by omega) (by omega) (by omega) (by omega)
theorem Ah.minus.known:Ah.minus.Kn:=Ah.minus.Ac (.cons Ah.Jr.known .nil) fun a b hp=>by
  obtain ⟨h1,hle⟩:=Ad.1 hp
  obtain ⟨ha,hb⟩:=Ad.1 h1
  have hle:=Ar.1 hle
  refine ⟨a.length+1,.ints (.own 100005 tW) .u32 (Hg a b),[100005],?_,Ail⟩
  rw [Ah.minus.ev]
  exact Ag4 _ ha hb a.length 0 0 _ (by omega) (by omega) (by omega) (by simp; omega)
theorem G1 (v:Int):Y0 (Ap v):=Ae2 _
theorem Alr {v w:Int} (h:Bi v=Bi w):wv (Bi v) (J0 (Ap v) (Ap w))=v+w:=by
  unfold wv
  rw [Aj9 (G1 _) (G1 _),D0,D0]
  unfold Bi at h ⊢
  unfold H2
  rw [decide_eq_decide] at h
  by_cases hv:v<0
  · have hw:=h.1 hv
    rw [Axu hv,if_pos rfl]; omega
  · have hw:¬ w<0:=fun k=>hv (h.2 k)
    rw [Axy hv,if_neg (by decide)]; omega
theorem Ah0 {v w:Int} (h:Bi v≠Bi w) (hl:w.natAbs≤v.natAbs):wv (Bi v) (Hg (Ap v) (Ap w))=v+w:=by
  unfold wv
  rw [Ag6 _ (G1 _),D0,D0]
  unfold Bi at h ⊢
  unfold H2
  rw [ne_eq,decide_eq_decide] at h
  by_cases hv:v<0
  · have hw:¬ w<0:=fun k=>h ⟨fun _=>k,fun _=>hv⟩
    rw [Axu hv,if_pos rfl]; omega
  · have hw:w<0:=by
      rcases Int.lt_or_le w 0 with k | k
      · exact k
      · exact absurd ⟨fun k'=>absurd k' hv,fun k'=>by omega⟩ h
    rw [Axy hv,if_neg (by decide)]; omega
theorem Ah.Add.known:Ah.Add.Kn:=Ah.Add.Ac (.cons Ah.Made.known (.cons Ah.Iu.known (.cons Ah.minus.known (.cons Ah.plus.known .nil)))) fun n a m b hp=>by
  obtain ⟨h1,h2⟩:=Ad.1 hp
  obtain ⟨v,rfl,rfl,hv⟩:=Jc h1
  obtain ⟨w,rfl,rfl,hw⟩:=Jc h2
  refine ⟨0,Ah.Add.out [.b (Bi v),.l (Ap v),.b (Bi w),.l (Ap w)],[],?_,Adj⟩
  have o1:Hp (Ap v)=true:=Oj (by omega)
  have o2:Hp (Ap w)=true:=Oj (by omega)
  rw [Ah.Add.ev,o1,o2,Axz,Axt]
  show _=some (DV.agg [.bool (Bi (wv (Bi v) (Ap v)+wv (Bi w) (Ap w))),.ints .arg .u32 (Ap (wv (Bi v) (Ap v)+wv (Bi w) (Ap w)))])
  rw [Hq,Hq]
  by_cases hs:Bi v=Bi w
  · have:(Bi v==Bi w)=true:=by simp [hs]
    have o3:Hp (J0 (Ap v) (Ap w))=true:=Nw (by rw [Tz,Co,Co]; omega) (Ael _ _)
    rw [this,Axt,o3,Axt,Alr hs]
  · have:(Bi v==Bi w)=false:=by simp [hs]
    rw [this,Axx,Axt,As,D0,D0,Bool.true_and,Bool.true_and]
    by_cases hl:v.natAbs<w.natAbs
    · have e:decide (Vr v.natAbs w.natAbs<0)=true:=Axu (by unfold Vr; rw [if_pos hl]; decide)
      have o3:Hp (Hg (Ap w) (Ap v))=true:=Nw (by rw [Sc,Co]; omega) (Aax _ _)
      have o4:leL (Ap v) (Ap w)=true:=Ar.2 (by rw [D0,D0]; omega)
      rw [e,Axt,o4,Axt,o3,Axt,Ah0 (fun k=>hs k.symm) (by omega),Int.add_comm]
    · have e:decide (Vr v.natAbs w.natAbs<0)=false:=Axy (by unfold Vr; rw [if_neg hl]; split<;>decide)
      have o3:Hp (Hg (Ap v) (Ap w))=true:=Nw (by rw [Sc,Co]; omega) (Aax _ _)
      have o4:leL (Ap w) (Ap v)=true:=Ar.2 (by rw [D0,D0]; omega)
      rw [e,Axx,o4,Axt,o3,Axt,Ah0 hs (by omega)]
set_option maxRecDepth 100000
namespace EqRefB
def Ah.F2.A6:List (Nat × Entry):=[(171,Ah.Made.spec),(174,Ah.plus.spec)]
def Ah.F2.E:Env:=A9 (A5 Ah.F2.A6) (fun _=>false) (fun _=>none) (fun _=>none)
theorem Ah.F2.ev (N:Nat) (n:Bool) (a:List Int):Bp Ah.F2.E N Tryz.f222 (An Tryz.f222) [.agg [.bool n,.ints .arg .u32 a]]=bif (Hp a&&Hp a) then bif (Hp (J0 a a)) then some (.agg [.bool (Bi (wv n (J0 a a))),.ints .arg .u32 (Ap (wv n (J0 a a)))]) else none else none :=
  Eq.trans (by kernel_rfl)
  (C2 (Cs (Hp a&&Hp a)) (C2 (Cs (Hp (J0 a a))) rfl rfl) rfl)
abbrev _root_.Go.Proofs.S1.Ah.F2.Kn:=A3 Tryz.prog 222 Ah.F2.spec
theorem Ah.F2.Ac (hk:Ax Tryz.prog Ah.F2.A6) (h:∀ (n:Bool) (a:List Int),Ah.F2.pre [.b n,.l a]=true→A8 Ah.F2.E Tryz.f222 [.agg [.bool n,.ints .arg .u32 a]] (Ah.F2.out [.b n,.l a])):Ah.F2.Kn :=
  Ak (Az hk _ _ _) Tryz.func222 (by kernel_rfl) (by kernel_rfl) h
def Ah.Hy.hint:Nat→Option Ba
  | 0=>some { keep:=[1,2,3,4],objs:=[(0,3,100003,.ints 173 .u32 [])],boxes:=[1,2] }
  | _=>none
def Ah.Hy.A6:List (Nat × Entry):=[(171,Ah.Made.spec),(221,Ah.Jr.spec)]
def Ah.Hy.E:Env:=A9 (A5 Ah.Hy.A6) (fun _=>false) Ah.Hy.hint (fun _=>none)
def Ah.Hy.L0 (N M:Nat) (n:Bool) (a:List Int) (p4:Int) (p3:List Int):Option DV:=Bz Ah.Hy.E N Tryz.f173 (An Tryz.f173) [1,1,0,1,0] [] M ⟨Gl 37 [(1,.ptr 1 0 0),(2,.ptr 2 0 0),(3,.oref 100003),(4,.int .i64 p4)],[(1,false,.box [.bool n,.ints .arg .u32 a]),(2,false,.box [.bool false,.nil]),(100003,false,.ints 173 .u32 p3)]⟩
theorem Ah.Hy.Au (N M:Nat) (n:Bool) (a:List Int) (p4:Int) (p3:List Int):Ah.Hy.L0 N (M+1) n a p4 p3=bif (A4 p4 (List.length a:Int)) then bif (Hp a) then bif (Hp a) then bif ((decide (0≤p4))&&(decide (p4<(List.length p3:Int)))) then bif (decide ((Int.toNat p4)<(List.length p3))) then Ah.Hy.L0 N M n a (Ab (p4+1)) (List.set p3 (Int.toNat p4) (Ju (Bj (Int.tdiv (Bj ((Bj ((Int.tmod (G2 a (Ab (p4+1))) 2)*4294967296))+(G2 a p4))) 2)))) else none else none else none else none else bif (Hp p3) then some (.agg [.bool (Bi (wv n p3)),.ints .arg .u32 (Ap (wv n p3))]) else none :=
  Eq.trans (by kernel_rfl)
  (Ej (C2 (Cs (Hp a)) (C2 (Cs (Hp a)) (C2 (Lk (decide (0≤p4)) (decide (p4<(List.length p3:Int)))) (C2 (Cs (decide ((Int.toNat p4)<(List.length p3)))) rfl rfl) rfl) rfl) rfl) rfl)
theorem Ah.Hy.ev (N:Nat) (n:Bool) (a:List Int):Bp Ah.Hy.E N Tryz.f173 (An Tryz.f173) [.agg [.bool n,.ints .arg .u32 a]]=bif (((decide ((0:Int)≤(List.length a:Int)))&&(decide ((List.length a:Int)≤(List.length a:Int))))&&(decide ((List.length a:Int)≤Gp))) then Ah.Hy.L0 N N n a 0 (List.replicate (Int.toNat (List.length a:Int)) 0) else none:=by kernel_rfl
abbrev _root_.Go.Proofs.S1.Ah.Hy.Kn:=A3 Tryz.prog 173 Ah.Hy.spec
theorem Ah.Hy.Ac (hk:Ax Tryz.prog Ah.Hy.A6) (h:∀ (n:Bool) (a:List Int),Ah.Hy.pre [.b n,.l a]=true→A8 Ah.Hy.E Tryz.f173 [.agg [.bool n,.ints .arg .u32 a]] (Ah.Hy.out [.b n,.l a])):Ah.Hy.Kn :=
  Ak (Az hk _ _ _) Tryz.func173 (by kernel_rfl) (by kernel_rfl) h
def Ah.Br.hint:Nat→Option Ba
  | 0=>some { keep:=[1,2,4],objs:=[],boxes:=[2,4] }
  | 2=>some { keep:=[1,2,4],objs:=[],boxes:=[2,4] }
  | 4=>some { keep:=[1,2,4],objs:=[],boxes:=[2,4] }
  | 6=>some { keep:=[1,2,4],objs:=[],boxes:=[2,4] }
  | _=>none
def Ah.Br.A6:List (Nat × Entry):=[(222,Ah.F2.spec),(173,Ah.Hy.spec),(171,Ah.Made.spec)]
def Ah.Br.E:Env:=A9 (A5 Ah.Br.A6) (fun _=>false) Ah.Br.hint (fun _=>none)
def Ah.Br.L0 (N M:Nat) (p1:Int) (p2:Bool) (p2_1:List Int):Option DV:=Bz Ah.Br.E N Tryz.f178 (An Tryz.f178) [1,0,0] [] M ⟨Gl 63 [(1,.int .i64 p1),(2,.ptr 2 0 0),(4,.ptr 4 0 0)],[(2,false,.box [.bool p2,.ints .arg .u32 p2_1]),(4,false,.box [.bool false,.nil])]⟩
def Ah.Br.L1 (N M:Nat) (p1_1:Int) (p2_2:Bool) (p2_3:List Int):Option DV:=Bz Ah.Br.E N Tryz.f178 (An Tryz.f178) [1,1,0,0] [] M ⟨Gl 63 [(1,.int .i64 p1_1),(2,.ptr 2 0 0),(4,.ptr 4 0 0)],[(2,false,.box [.bool p2_2,.ints .arg .u32 p2_3]),(4,false,.box [.bool false,.nil])]⟩
def Ah.Br.L2 (N M:Nat) (p1_2:Int) (p2_4:Bool) (p2_5:List Int):Option DV:=Bz Ah.Br.E N Tryz.f178 (An Tryz.f178) [1,1,1,0,0] [] M ⟨Gl 63 [(1,.int .i64 p1_2),(2,.ptr 2 0 0),(4,.ptr 4 0 0)],[(2,false,.box [.bool p2_4,.ints .arg .u32 p2_5]),(4,false,.box [.bool false,.nil])]⟩
def Ah.Br.L3 (N M:Nat) (p1_3:Int) (p2_6:Bool) (p2_7:List Int):Option DV:=Bz Ah.Br.E N Tryz.f178 (An Tryz.f178) [1,1,1,1,0,0] [] M ⟨Gl 63 [(1,.int .i64 p1_3),(2,.ptr 2 0 0),(4,.ptr 4 0 0)],[(2,false,.box [.bool p2_6,.ints .arg .u32 p2_7]),(4,false,.box [.bool false,.nil])]⟩
theorem Ah.Br.Au (N M:Nat) (p1:Int) (p2:Bool) (p2_1:List Int):Ah.Br.L0 N (M+1) p1 p2 p2_1=bif ((Ee 32 p1)&&(A4 0 (List.length p2_1:Int))) then bif (decide (1+(List.length p2_1)≤Gp)) then bif (Hp ([(0:Int)]++p2_1)) then Ah.Br.L0 N M (Ab (p1-32)) (Bi (wv p2 ([(0:Int)]++p2_1))) (Ap (wv p2 ([(0:Int)]++p2_1))) else none else none else Ah.Br.L1 N N p1 p2 p2_1 :=
  Eq.trans (by kernel_rfl)
  (Aw (O1 (Ee 32 p1)) (Aw (Lv (Ee 32 p1)) (Aw (Lv (Ee 32 p1)) (Aw (Lv (Ee 32 p1)) (Aw (Ti (Ee 32 p1)) (C2 (tt1 (Ee 32 p1) (A4 0 (List.length p2_1:Int))) (C2 (Cs (decide (1+(List.length p2_1)≤Gp))) (C2 (Cs (Hp ([(0:Int)]++p2_1))) rfl rfl) rfl) rfl))))))
theorem Ah.Br.B7 (N M:Nat) (p1_1:Int) (p2_2:Bool) (p2_3:List Int):Ah.Br.L1 N (M+1) p1_1 p2_2 p2_3=bif ((A4 0 p1_1)&&(A4 0 (List.length p2_3:Int))) then bif (Jf p2_2 p2_3) then Ah.Br.L1 N M (Ab (p1_1-1)) (Bi (2*wv p2_2 p2_3)) (Ap (2*wv p2_2 p2_3)) else none else Ah.Br.L2 N N p1_1 p2_2 p2_3 :=
  Eq.trans (by kernel_rfl)
  (Aw (O1 (A4 0 p1_1)) (Aw (Lv (A4 0 p1_1)) (Aw (Lv (A4 0 p1_1)) (Aw (Lv (A4 0 p1_1)) (Aw (Ti (A4 0 p1_1)) (C2 (tt1 (A4 0 p1_1) (A4 0 (List.length p2_3:Int))) rfl rfl))))))
theorem Ah.Br.Hn (N M:Nat) (p1_2:Int) (p2_4:Bool) (p2_5:List Int):Ah.Br.L2 N (M+1) p1_2 p2_4 p2_5=bif ((Ee p1_2 (-32:Int))&&(A4 0 (List.length p2_5:Int))) then bif (decide ((1:Int)≤(List.length p2_5:Int))) then bif (Hp (List.drop 1 p2_5)) then Ah.Br.L2 N M (Ab (p1_2+32)) (Bi (wv p2_4 (List.drop 1 p2_5))) (Ap (wv p2_4 (List.drop 1 p2_5))) else none else none else Ah.Br.L3 N N p1_2 p2_4 p2_5 :=
  Eq.trans (by kernel_rfl)
  (Aw (O1 (Ee p1_2 (-32:Int))) (Aw (Lv (Ee p1_2 (-32:Int))) (Aw (Lv (Ee p1_2 (-32:Int))) (Aw (Lv (Ee p1_2 (-32:Int))) (Aw (Ti (Ee p1_2 (-32:Int))) (C2 (tt1 (Ee p1_2 (-32:Int)) (A4 0 (List.length p2_5:Int))) (C2 (Auo (decide ((1:Int)≤(List.length p2_5:Int)))) (C2 (Cs (Hp (List.drop 1 p2_5))) rfl rfl) rfl) rfl))))))
theorem Ah.Br.Adc (N M:Nat) (p1_3:Int) (p2_6:Bool) (p2_7:List Int):Ah.Br.L3 N (M+1) p1_3 p2_6 p2_7=bif ((A4 p1_3 0)&&(A4 0 (List.length p2_7:Int))) then bif (Jf p2_6 p2_7) then Ah.Br.L3 N M (Ab (p1_3+1)) (Bi (Kv (wv p2_6 p2_7) 1)) (Ap (Kv (wv p2_6 p2_7) 1)) else none else some (.agg [.bool p2_6,.ints .arg .u32 p2_7]) :=
  Eq.trans (by kernel_rfl)
  (Aw (O1 (A4 p1_3 0)) (Aw (Lv (A4 p1_3 0)) (Aw (Lv (A4 p1_3 0)) (Aw (Lv (A4 p1_3 0)) (Aw (Ti (A4 p1_3 0)) (C2 (tt1 (A4 p1_3 0) (A4 0 (List.length p2_7:Int))) rfl rfl))))))
theorem Ah.Br.ev (N:Nat) (n:Bool) (a:List Int) (k:Int):Bp Ah.Br.E N Tryz.f178 (An Tryz.f178) [.agg [.bool n,.ints .arg .u32 a],.int .i64 k] =
  Ah.Br.L0 N N k n a:=by kernel_rfl
abbrev _root_.Go.Proofs.S1.Ah.Br.Kn:=A3 Tryz.prog 178 Ah.Br.spec
theorem Ah.Br.Ac (hk:Ax Tryz.prog Ah.Br.A6) (h:∀ (n:Bool) (a:List Int) (k:Int),Ah.Br.pre [.b n,.l a,.i k]=true→A8 Ah.Br.E Tryz.f178 [.agg [.bool n,.ints .arg .u32 a],.int .i64 k] (Ah.Br.out [.b n,.l a,.i k])):Ah.Br.Kn :=
  Ak (Az hk _ _ _) Tryz.func178 (by kernel_rfl) (by kernel_rfl) h
def Ah.Q3.hint:Nat→Option Ba
  | 0=>some { keep:=[3,4],objs:=[],boxes:=[] }
  | _=>none
def Ah.Q3.A6:List (Nat × Entry):=[]
def Ah.Q3.E:Env:=A9 (A5 Ah.Q3.A6) (fun _=>false) Ah.Q3.hint (fun _=>none)
def Ah.Q3.L0 (N M:Nat) (p3 p4:Int):Option DV:=Bz Ah.Q3.E N Tryz.f223 (An Tryz.f223) [1,1,1,0,1,0] [] M ⟨Gl 29 [(3,.int .i64 p3),(4,.int .u32 p4)],[]⟩
theorem Ah.Q3.Au (N M:Nat) (p3 p4:Int):Ah.Q3.L0 N (M+1) p3 p4=bif (A4 0 p4) then Ah.Q3.L0 N M (Ab (p3+1)) (Ju (Int.tdiv p4 2)) else some (.int .i64 p3):=by kernel_rfl
theorem Ah.Q3.ev (N:Nat) (n:Bool) (a:List Int):Bp Ah.Q3.E N Tryz.f223 (An Tryz.f223) [.agg [.bool n,.ints .arg .u32 a]]=bif ((List.length a:Int)==(0:Int)) then some (.int .i64 0) else bif ((decide (0≤(Ab ((List.length a:Int)-1))))&&(decide ((Ab ((List.length a:Int)-1))<(List.length a:Int)))) then Ah.Q3.L0 N N (Ab ((32:Int)*(Ab ((List.length a:Int)-1)))) (List.getD a (Int.toNat (Ab ((List.length a:Int)-1))) 0) else none:=by kernel_rfl
abbrev _root_.Go.Proofs.S1.Ah.Q3.Kn:=A3 Tryz.prog 223 Ah.Q3.spec
theorem Ah.Q3.Ac (hk:Ax Tryz.prog Ah.Q3.A6) (h:∀ (n:Bool) (a:List Int),Ah.Q3.pre [.b n,.l a]=true→A8 Ah.Q3.E Tryz.f223 [.agg [.bool n,.ints .arg .u32 a]] (Ah.Q3.out [.b n,.l a])):Ah.Q3.Kn :=
  Ak (Az hk _ _ _) Tryz.func223 (by kernel_rfl) (by kernel_rfl) h
def Ah.Xb.A6:List (Nat × Entry):=[]
def Ah.Xb.E:Env:=A9 (A5 Ah.Xb.A6) (fun _=>false) (fun _=>none) (fun _=>none)
theorem Ah.Xb.ev (N:Nat) (n:Bool) (a:List Int):Bp Ah.Xb.E N Tryz.f172 (An Tryz.f172) [.agg [.bool n,.ints .arg .u32 a]]=bif ((!(A4 0 (List.length a:Int)))||(decide ((0:Int)<(List.length a:Int)))) then some (.bool (bif (A4 0 (List.length a:Int)) then ((Int.tmod (List.getD a 0 0) 2)==(1:Int)) else false)) else none :=
  Eq.trans (by kernel_rfl)
  (Aw (O1 (A4 0 (List.length a:Int))) (Aw (Lv (A4 0 (List.length a:Int))) (C2 (Awn (A4 0 (List.length a:Int)) (decide ((0:Int)<(List.length a:Int)))) (Aw (Lv (A4 0 (List.length a:Int))) (Aw (Lv (A4 0 (List.length a:Int))) (Aw (Lv (A4 0 (List.length a:Int))) (Aw (Ti (A4 0 (List.length a:Int))) rfl)))) rfl)))
abbrev _root_.Go.Proofs.S1.Ah.Xb.Kn:=A3 Tryz.prog 172 Ah.Xb.spec
theorem Ah.Xb.Ac (hk:Ax Tryz.prog Ah.Xb.A6) (h:∀ (n:Bool) (a:List Int),Ah.Xb.pre [.b n,.l a]=true→A8 Ah.Xb.E Tryz.f172 [.agg [.bool n,.ints .arg .u32 a]] (Ah.Xb.out [.b n,.l a])):Ah.Xb.Kn :=
  Ak (Az hk _ _ _) Tryz.func172 (by kernel_rfl) (by kernel_rfl) h
end EqRefB
open EqRefB
theorem Ah.F2.known:Ah.F2.Kn:=Ah.F2.Ac (.cons Ah.Made.known (.cons Ah.plus.known .nil)) fun n a hp=>by
  obtain ⟨v,rfl,rfl,hv⟩:=Jc hp
  refine ⟨0,Ah.F2.out [.b (Bi v),.l (Ap v)],[],?_,Adj⟩
  have o1:Hp (Ap v)=true:=Oj (by omega)
  have o3:Hp (J0 (Ap v) (Ap v))=true:=Nw (by rw [Tz,Co]; omega) (Ael _ _)
  rw [Ah.F2.ev,o1,o3,Axz,Axt,Axt,Alr rfl]
  show _=some (DV.agg [.bool (Bi (2*wv (Bi v) (Ap v))),.ints .arg .u32 (Ap (2*wv (Bi v) (Ap v)))])
  rw [Hq,Int.two_mul]
theorem Asv (l:List Int) (y x:Int) (r:List Int):∀ i,i=l.length→(l++y::r).set i x=l++x::r:=by
  induction l with
  | nil=>intro i h; subst h; rfl
  | cons z l ih =>
    intro i h
    obtain ⟨j,rfl⟩:∃ j,i=j+1:=⟨i-1,by rw [List.length_cons] at h; omega⟩
    show z::(l++y::r).set j x=z::(l++x::r)
    rw [ih j (by rw [List.length_cons] at h; omega)]
theorem Aky (N:Nat) {v:Int} (hv:Dn v.natAbs<268435456):∀ (k i F:Nat),i+k=Dn v.natAbs→k<F →
    Ah.Hy.L0 N F (Bi v) (Ap v) (i:Int) (digits i (v.natAbs / 2)++List.replicate k 0)=some (.agg [.bool (Bi (Kv v 1)),.ints .arg .u32 (Ap (Kv v 1))]):=by
  have o1:Hp (Ap v)=true:=Oj (by omega)
  have ia:=G1 v
  intro k
  induction k with
  | zero =>
    intro i F hi hF
    obtain ⟨F,rfl⟩:∃ G,F=G+1:=⟨F-1,by omega⟩
    have t0:decide ((i:Int)<((Ap v).length:Int))=false:=Axy (by rw [Co]; omega)
    rw [List.replicate_zero,List.append_nil,Ah.Hy.Au,As,t0,Axx]
    have o3:Hp (digits i (v.natAbs / 2))=true:=Nw (by rw [Fc]; omega) (Ox _ _)
    have e:wv (Bi v) (digits i (v.natAbs / 2))=Kv v 1:=by
      unfold wv Kv
      rw [K3,Ax6,Nat.pow_one]
      have:=L8 v.natAbs
      rw [show i=Dn v.natAbs by omega]
      exact Nat.lt_of_le_of_lt (Nat.div_le_self _ _) this
    rw [o3,Axt,e]
  | succ k ih =>
    intro i F hi hF
    obtain ⟨F,rfl⟩:∃ G,F=G+1:=⟨F-1,by omega⟩
    have hlen:(digits i (v.natAbs / 2)++List.replicate (k+1) (0:Int)).length=i+(k+1):=by rw [List.length_append,Fc,List.length_replicate]
    have t0:decide ((i:Int)<((Ap v).length:Int))=true:=Axu (by rw [Co]; omega)
    have t1:decide ((0:Int)≤(i:Int))=true:=Axu (by omega)
    have t2:decide ((i:Int)<((digits i (v.natAbs / 2)++List.replicate (k+1) (0:Int)).length:Int))=true:=Axu (by rw [hlen]; omega)
    have t3:decide (i<(digits i (v.natAbs / 2)++List.replicate (k+1) (0:Int)).length)=true:=Axu (by rw [hlen]; omega)
    have e0:Ab ((i:Int)+1)=((i+1:Nat):Int):=by rw [Am (by omega) (by omega)]; omega
    rw [Ah.Hy.Au,As,t0,o1,Axv,t1,t2,t3,Axz]
    simp only [Axt]
    rw [e0,Hj ia,Hj ia,D0]
    have ih:=ih (i+1) F (by omega) (by omega)
    rw [Nq,Nat.div_div_eq_div_mul,Nat.mul_comm 2,← Nat.div_div_eq_div_mul] at ih
    rw [Od,Nat.mul_comm 4294967296,← Nat.div_div_eq_div_mul,List.replicate_succ,Asv _ _ _ _ i (Fc _ _).symm]
    rw [List.append_assoc] at ih
    generalize v.natAbs / 2^(32*i)=x at *
    have e1:Int.tmod ((x / 4294967296%4294967296:Nat):Int) 2=((x / 4294967296%4294967296%2:Nat):Int):=Jw _ 2
    have e2:Bj (Bj (((x / 4294967296%4294967296%2:Nat):Int)*4294967296)+((x%4294967296:Nat):Int))=((x / 4294967296%4294967296%2*4294967296+x%4294967296:Nat):Int):=by
      rw [Di (x:=((x / 4294967296%4294967296%2:Nat):Int)*4294967296) (by omega) (by omega),Di (by omega) (by omega)]; omega
    have e3:Int.tdiv ((x / 4294967296%4294967296%2*4294967296+x%4294967296:Nat):Int) 2=(((x / 4294967296%4294967296%2*4294967296+x%4294967296) / 2:Nat):Int):=Jx _ 2
    have e4:(x / 4294967296%4294967296%2*4294967296+x%4294967296) / 2=x / 2%4294967296:=by omega
    rw [e1,e2,e3,e4,Di (by omega) (by omega),K2 (by omega) (by omega)]
    exact ih
theorem Ah.Hy.known:Ah.Hy.Kn:=Ah.Hy.Ac (.cons Ah.Made.known (.cons Ah.Jr.known .nil)) fun n a hp=>by
  obtain ⟨v,rfl,rfl,hv⟩:=Jc hp
  refine ⟨Dn v.natAbs+1,Ah.Hy.out [.b (Bi v),.l (Ap v)],[],?_,Adj⟩
  show _=some (DV.agg [.bool (Bi (Kv (wv (Bi v) (Ap v)) 1)),.ints .arg .u32 (Ap (Kv (wv (Bi v) (Ap v)) 1))])
  rw [Ah.Hy.ev,Hq,Co,Axu (by omega),Axu (by omega),Axu (by unfold Gp; omega),Axz,Axz,Axt,Axv]
  have h:=Aky (Dn v.natAbs+1) hv (Dn v.natAbs) 0 (Dn v.natAbs+1) (by omega) (by omega)
  rw [digits,List.nil_append] at h
  exact h
def Af8 (v:Int):Option DV:=some (.agg [.bool (Bi v),.ints .arg .u32 (Ap v)])
theorem Uk (v:Int):A4 (0:Int) ((Ap v).length:Int)=decide (v≠0):=by
  rw [As,Co,decide_eq_decide]
  constructor
  · intro h e
    rw [e] at h
    exact absurd h (by decide)
  · intro h
    have:=I8 (n:=v.natAbs) (by omega)
    omega
theorem Asp (N:Nat):∀ (j F:Nat) (v:Int),j<F→j<2000000→Dn v.natAbs<268435456→Ah.Br.L3 N F (-(j:Int)) (Bi v) (Ap v)=Af8 (Kv v j):=by
  intro j
  induction j with
  | zero =>
    intro F v hF _ hv
    obtain ⟨F,rfl⟩:∃ G,F=G+1:=⟨F-1,by omega⟩
    rw [Ah.Br.Adc,As,Axy (by omega),Bool.false_and,Axx,Ad5]
    rfl
  | succ j ih =>
    intro F v hF hj hv
    obtain ⟨F,rfl⟩:∃ G,F=G+1:=⟨F-1,by omega⟩
    rw [Ah.Br.Adc,As,Axu (by omega),Bool.true_and,Uk]
    by_cases h0:v=0
    · rw [Axy (by omega),Axx,h0,Rb]
      rfl
    · rw [Axu h0,Axt,Je hv,Axt,Hq,Am (by omega) (by omega)]
      have e:-((j+1:Nat):Int)+1=-(j:Int):=by omega
      have hl:Dn (Kv v 1).natAbs<268435456:=by
        rw [Lx]
        exact Nat.lt_of_le_of_lt (Mj (Nat.div_le_self _ _)) hv
      rw [e,ih F (Kv v 1) (by omega) (by omega) hl,Ab3,Nat.add_comm]
theorem Ahz (v:Int):wv (Bi v) ((Ap v).drop 1)=Kv v 32:=by
  unfold wv Kv
  rw [Ajh (G1 v),D0,two32]
theorem Asq (N:Nat):∀ (F j:Nat) (v:Int),j<F→j<N→j<2000000→Dn v.natAbs<268435456→Ah.Br.L2 N F (-(j:Int)) (Bi v) (Ap v)=Af8 (Kv v j):=by
  intro F
  induction F with
  | zero=>intro j v h; omega
  | succ F ih =>
    intro j v hF hN hj hv
    rw [Ah.Br.Hn,Ei,Uk]
    by_cases hc:32≤j∧v≠0
    · have o3:Hp ((Ap v).drop 1)=true:=Nw (by rw [List.length_drop,Co]; omega) (Afa (G1 v))
      have t1:decide ((1:Int)≤((Ap v).length:Int))=true:=Axu (by
        rw [Co]
        have:=I8 (n:=v.natAbs) (by omega)
        omega)
      have hl:Dn (Kv v 32).natAbs<268435456:=by
        rw [Lx]
        exact Nat.lt_of_le_of_lt (Mj (Nat.div_le_self _ _)) hv
      rw [Axu (by omega),Axu hc.2,Axz,Axt,t1,Axt,o3,Axt,Ahz,Am (by omega) (by omega)]
      have e:-(j:Int)+32=-((j-32:Nat):Int):=by omega
      rw [e,ih (j-32) (Kv v 32) (by omega) (by omega) (by omega) hl,Ab3]
      congr 2
      omega
    · have:(decide (-(j:Int)≤-32)&&decide (v≠0))=false:=by
        rw [Bool.and_eq_false_iff,Ayc,Ayc]
        omega
      rw [this,Axx]
      exact Asp N j N v hN hj hv
theorem V0 (N F:Nat) {k:Int} (hk:0≤k) (hN:0<N) (v:Int):Ah.Br.L2 N (F+1) k (Bi v) (Ap v)=Af8 v:=by
  obtain ⟨M,rfl⟩:∃ M,N=M+1:=⟨N-1,by omega⟩
  rw [Ah.Br.Hn,Ei,Axy (by omega),Bool.false_and,Axx,Ah.Br.Adc,As,Axy (by omega),Bool.false_and,Axx]
  rfl
theorem Asr (N:Nat) (hN:0<N):∀ (j F:Nat) (v:Int),j<F→j<2000000→Dn v.natAbs+j<268435456→Ah.Br.L1 N F (j:Int) (Bi v) (Ap v)=Af8 (v*((2^j:Nat):Int)):=by
  obtain ⟨M,rfl⟩:∃ M,N=M+1:=⟨N-1,by omega⟩
  intro j
  induction j with
  | zero =>
    intro F v hF _ hv
    obtain ⟨F,rfl⟩:∃ G,F=G+1:=⟨F-1,by omega⟩
    rw [Ah.Br.B7,As,Axy (by omega),Bool.false_and,Axx,V0 _ _ (by omega) (by omega),Nat.pow_zero]
    congr 1
    omega
  | succ j ih =>
    intro F v hF hj hv
    obtain ⟨F,rfl⟩:∃ G,F=G+1:=⟨F-1,by omega⟩
    rw [Ah.Br.B7,As,Axu (by omega),Bool.true_and,Uk]
    by_cases h0:v=0
    · rw [Axy (by omega),Axx,h0,Int.zero_mul,V0 _ _ (by omega) (by omega)]
    · have hl:=Ant v.natAbs
      have e2:(2*v).natAbs=2*v.natAbs:=by omega
      have e:((j+1:Nat):Int)-1=(j:Int):=by omega
      rw [Axu h0,Axt,Je (by omega),Axt,Hq,Am (by omega) (by omega),e,ih F (2*v) (by omega) (by omega) (by rw [e2]; omega)]
      congr 1
      rw [Nat.pow_succ,Aye,Int.mul_comm 2 v,Int.mul_assoc,Int.mul_comm ((2^j:Nat):Int)]
      rfl
theorem Atz (v:Int):wv (Bi v) ([(0:Int)]++Ap v)=v*((2^32:Nat):Int):=by
  have e:Cm ([(0:Int)]++Ap v)=4294967296*v.natAbs:=by
    show Cm (0::Ap v)=_
    rw [Cm,D0]
    exact Nat.zero_add _
  unfold wv
  rw [e,two32]
  by_cases h:v<0
  · rw [Tq h]; omega
  · rw [Tp h]; omega
theorem Ass (N:Nat):∀ (F j:Nat) (v:Int),j<F→j<N→j<2000000→Dn v.natAbs+j<268435456→Ah.Br.L0 N F (j:Int) (Bi v) (Ap v)=Af8 (v*((2^j:Nat):Int)):=by
  intro F
  induction F with
  | zero=>intro j v h; omega
  | succ F ih =>
    intro j v hF hN hj hv
    rw [Ah.Br.Au,Ei,Uk]
    by_cases hc:32≤j∧v≠0
    · have o3:Hp ([(0:Int)]++Ap v)=true:=Nw (by rw [List.length_append,Co]; show 1+_<_; omega) (An4 (G1 v))
      have t1:decide (1+(Ap v).length≤Gp)=true:=Axu (by rw [Co]; unfold Gp; omega)
      have e2:(v*((2^32:Nat):Int)).natAbs=v.natAbs*4294967296:=by rw [Int.natAbs_mul,Int.natAbs_natCast,two32]
      have hl:=Aqr v.natAbs
      rw [Axu (by omega),Axu hc.2,Axz,Axt,t1,Axt,o3,Axt,Atz,Am (by omega) (by omega)]
      have e:(j:Int)-32=((j-32:Nat):Int):=by omega
      rw [e,ih (j-32) _ (by omega) (by omega) (by omega) (by rw [e2]; omega)]
      have e3:2^j=2^32*2^(j-32):=by rw [← Nat.pow_add]; congr 1; omega
      rw [e3,Aye,Int.mul_assoc]
    · have:(decide ((32:Int)≤(j:Int))&&decide (v≠0))=false:=by
        rw [Bool.and_eq_false_iff,Ayc,Ayc]
        omega
      rw [this,Axx]
      exact Asr N (by omega) j N v hN hj hv
theorem Agj (N j:Nat) (v:Int) (hj:0<j) (hN:j<N) (hj2:j<2000000) (hv:Dn v.natAbs<268435456):Ah.Br.L0 N N (-(j:Int)) (Bi v) (Ap v)=Af8 (Kv v j):=by
  obtain ⟨M,rfl⟩:∃ M,N=M+1:=⟨N-1,by omega⟩
  rw [Ah.Br.Au,Ei,Axy (by omega),Bool.false_and,Axx,Ah.Br.B7,As,Axy (by omega),Bool.false_and,Axx]
  exact Asq _ _ j v hN hN hj2 hv
theorem Ah.Br.known:Ah.Br.Kn:=Ah.Br.Ac (.cons Ah.F2.known (.cons Ah.Hy.known (.cons Ah.Made.known .nil))) fun n a k hp=>by
  obtain ⟨h1,h2⟩:=Ad.1 hp
  obtain ⟨v,rfl,rfl,hv⟩:=Pf h1
  have h2:=Ar.1 h2
  refine ⟨k.natAbs+1,Ah.Br.out [.b (Bi v),.l (Ap v),.i k],[],?_,Adj⟩
  show _=some (DV.agg [.bool (Bi (Gu (wv (Bi v) (Ap v)) k)),.ints .arg .u32 (Ap (Gu (wv (Bi v) (Ap v)) k))])
  rw [Ah.Br.ev,Hq]
  unfold Gu
  by_cases h:0≤k
  · obtain ⟨j,rfl⟩:∃ j:Nat,k=j:=⟨k.toNat,by omega⟩
    rw [if_pos h,Axv,Int.natAbs_natCast]
    exact Ass _ _ j v (by omega) (by omega) (by omega) (by omega)
  · obtain ⟨j,rfl⟩:∃ j:Nat,k=-(j:Int):=⟨(-k).toNat,by omega⟩
    have e:(-(-(j:Int))).toNat=j:=by omega
    rw [if_neg h,e,Int.natAbs_neg,Int.natAbs_natCast]
    exact Agj _ j v (by omega) (by omega) (by omega) (by omega)
open EqRefB
theorem Akv {t:Nat} (h:2≤t):(t / 2).log2+1=t.log2:=by
  have:=Ae0 (n:=t) (m:=1) (by omega)
  rw [Nat.pow_one] at this
  exact this
theorem Ans (N:Nat):∀ (F:Nat) (t:Nat) (p:Int),t<2^32→0<t→t.log2+1<F→-1000≤p→p+t.log2<4611686018427387904 →
    Ah.Q3.L0 N F p (t:Int)=some (.int .i64 (p+t.log2+1)):=by
  intro F
  induction F with
  | zero=>intro t p _ _ h; omega
  | succ F ih =>
    intro t p ht h0 hF hp1 hp2
    have e2:Int.tdiv (t:Int) 2=((t / 2:Nat):Int):=Jx t 2
    rw [two32] at ht
    rw [Ah.Q3.Au,As,Axu (by omega),Axt,e2,K2 (by omega) (by omega),Am (by omega) (by omega)]
    by_cases h1:t=1
    · subst h1
      obtain ⟨G,rfl⟩:∃ G,F=G+1:=⟨F-1,by omega⟩
      rw [Ah.Q3.Au,As,Axy (by decide),Axx]
      have:(1:Nat).log2=0:=by decide
      rw [this]
      congr 2
      omega
    · have hl:=Akv (t:=t) (by omega)
      rw [ih (t / 2) (p+1) (by rw [two32]; omega) (by omega) (by omega) (by omega) (by omega)]
      congr 2
      omega
theorem Ah.Q3.known:Ah.Q3.Kn:=Ah.Q3.Ac .nil fun n a hp=>by
  obtain ⟨v,rfl,rfl,hv⟩:=Jc hp
  refine ⟨40,Ah.Q3.out [.b (Bi v),.l (Ap v)],[],?_,.int⟩
  show _=some (DV.int .i64 (Yr (wv (Bi v) (Ap v))))
  rw [Ah.Q3.ev,Hq,Co]
  unfold Yr
  by_cases h0:v=0
  · rw [if_pos h0,h0]; rfl
  · have hn:v.natAbs≠0:=by omega
    have hl:=I8 hn
    have e0:((Dn v.natAbs:Int)==0)=false:=by simp only [beq_eq_false_iff_ne,ne_eq]; omega
    have e1:(Dn v.natAbs:Int)-1=((Dn v.natAbs-1:Nat):Int):=by omega
    have hlen:Dn v.natAbs=v.natAbs.log2 / 32+1:=by unfold Dn; rw [if_neg hn]
    have hge:2^(32*(Dn v.natAbs-1))≤v.natAbs:=Nat.le_trans (Ax8 (by decide) (by omega)) (Nat.log2_self_le hn)
    have hq:v.natAbs / 2^(32*(Dn v.natAbs-1))<2^32:=by
      rw [Nat.div_lt_iff_lt_mul (Cj _),← Nat.pow_add]
      have:=L8 v.natAbs
      have e:32+32*(Dn v.natAbs-1)=32*Dn v.natAbs:=by omega
      rw [e]; exact this
    have hlog:=Ae0 hge
    have hg:=Rl (G1 v) (Dn v.natAbs-1)
    have hq':=hq
    rw [two32] at hq'
    rw [D0,Ax6 hq'] at hg
    have hpos:=Nat.div_pos hge (Cj _)
    have h32:(v.natAbs / 2^(32*(Dn v.natAbs-1))).log2<32:=(Nat.log2_lt (by omega)).2 hq
    rw [if_neg h0,e0,Axx,Am (by omega) (by omega),e1,Axu (by omega),Axu (by omega),Axz,Axt,Axv,hg,Am (by omega) (by omega)]
    rw [Ans 40 40 _ _ hq hpos (by omega) (by omega) (by omega)]
    congr 2
    omega
theorem Ah.Xb.known:Ah.Xb.Kn:=Ah.Xb.Ac .nil fun n a hp=>by
  obtain ⟨v,rfl,rfl,hv⟩:=Jc hp
  refine ⟨0,Ah.Xb.out [.b (Bi v),.l (Ap v)],[],?_,.bool⟩
  show _=some (DV.bool (Akb (wv (Bi v) (Ap v))))
  rw [Ah.Xb.ev,Hq,Uk]
  have hg:=Rl (G1 v) 0
  rw [D0,Nat.mul_zero,Nat.pow_zero,Nat.div_one] at hg
  have e2:Int.tmod ((v.natAbs%4294967296:Nat):Int) 2=((v.natAbs%4294967296%2:Nat):Int):=Jw _ 2
  unfold Akb
  by_cases h0:v=0
  · rw [h0]; rfl
  · have hl:=I8 (n:=v.natAbs) (by omega)
    rw [hg,e2,Axu h0,Co,Axu (by omega),Bool.or_true,Axt,Axt]
    congr 2
    rw [Ax9]
    simp only [beq_iff_eq,Ax0]
    omega
namespace EqRefC
def Ay.Of.hint:Nat→Option Ba
  | 0=>some { keep:=[1,2,4],objs:=[],boxes:=[2,4] }
  | 2=>some { keep:=[1,2,4],objs:=[],boxes:=[2,4] }
  | _=>none
def Ay.Of.A6:List (Nat × Entry):=[(173,Ah.Hy.spec),(171,Ah.Made.spec),(172,Ah.Xb.spec)]
def Ay.Of.E:Env:=A9 (A5 Ay.Of.A6) (fun _=>false) Ay.Of.hint (fun _=>none)
def Ay.Of.L0 (N M:Nat) (p1:Int) (p2:Bool) (p2_1:List Int):Option DV:=Bz Ay.Of.E N Tryz.f109 (An Tryz.f109) [1,1,0,0] [] M ⟨Gl 33 [(1,.int .i64 p1),(2,.ptr 2 0 0),(4,.ptr 4 0 0)],[(2,false,.box [.bool p2,.ints .arg .u32 p2_1]),(4,false,.box [.bool false,.nil,.int .i64 0])]⟩
def Ay.Of.L1 (N M:Nat) (p1_1:Int) (p2_2:Bool) (p2_3:List Int):Option DV:=Bz Ay.Of.E N Tryz.f109 (An Tryz.f109) [1,1,1,0,0] [] M ⟨Gl 33 [(1,.int .i64 p1_1),(2,.ptr 2 0 0),(4,.ptr 4 0 0)],[(2,false,.box [.bool p2_2,.ints .arg .u32 p2_3]),(4,false,.box [.bool false,.nil,.int .i64 0])]⟩
theorem Ay.Of.Au (N M:Nat) (p1:Int) (p2:Bool) (p2_1:List Int):Ay.Of.L0 N (M+1) p1 p2 p2_1=bif (decide ((0:Int)<(List.length p2_1:Int))) then bif ((List.getD p2_1 0 0)==(0:Int)) then bif (decide ((1:Int)≤(List.length p2_1:Int))) then bif (Hp (List.drop 1 p2_1)) then Ay.Of.L0 N M (Ab (p1+32)) (Bi (wv p2 (List.drop 1 p2_1))) (Ap (wv p2 (List.drop 1 p2_1))) else none else none else Ay.Of.L1 N N p1 p2 p2_1 else none :=
  Eq.trans (by kernel_rfl)
  (Ej (Ej (C2 (Auo (decide ((1:Int)≤(List.length p2_1:Int)))) (C2 (Cs (Hp (List.drop 1 p2_1))) rfl rfl) rfl) rfl) rfl)
theorem Ay.Of.B7 (N M:Nat) (p1_1:Int) (p2_2:Bool) (p2_3:List Int):Ay.Of.L1 N (M+1) p1_1 p2_2 p2_3=bif (Jf p2_2 p2_3) then bif (!(Akb (wv p2_2 p2_3))) then bif (Jf p2_2 p2_3) then Ay.Of.L1 N M (Ab (p1_1+1)) (Bi (Kv (wv p2_2 p2_3) 1)) (Ap (Kv (wv p2_2 p2_3) 1)) else none else some (.agg [.bool p2_2,.ints .arg .u32 p2_3,.int .i64 p1_1]) else none:=by kernel_rfl
theorem Ay.Of.ev (N:Nat) (n:Bool) (a:List Int) (e:Int):Bp Ay.Of.E N Tryz.f109 (An Tryz.f109) [.agg [.bool n,.ints .arg .u32 a],.int .i64 e]=bif ((List.length a:Int)==(0:Int)) then some (.agg [.bool false,.nil,.int .i64 0]) else Ay.Of.L0 N N e n a:=by kernel_rfl
abbrev _root_.Go.Proofs.S1.Ay.Of.Kn:=A3 Tryz.prog 109 Ay.Of.spec
theorem Ay.Of.Ac (hk:Ax Tryz.prog Ay.Of.A6) (h:∀ (n:Bool) (a:List Int) (e:Int),Ay.Of.pre [.b n,.l a,.i e]=true→A8 Ay.Of.E Tryz.f109 [.agg [.bool n,.ints .arg .u32 a],.int .i64 e] (Ay.Of.out [.b n,.l a,.i e])):Ay.Of.Kn :=
  Ak (Az hk _ _ _) Tryz.func109 (by kernel_rfl) (by kernel_rfl) h
def Ay.Neg.A6:List (Nat × Entry):=[(143,Ah.Neg.spec)]
def Ay.Neg.E:Env:=A9 (A5 Ay.Neg.A6) (fun _=>false) (fun _=>none) (fun _=>none)
theorem Ay.Neg.ev (N:Nat) (n:Bool) (a:List Int) (e:Int):Bp Ay.Neg.E N Tryz.f170 (An Tryz.f170) [.agg [.bool n,.ints .arg .u32 a,.int .i64 e]]=bif (Jf n a) then some (.agg [.bool (Bi (- wv n a)),.ints .arg .u32 (Ap (- wv n a)),.int .i64 e]) else none :=
  Eq.trans (by kernel_rfl)
  (C2 (Cs (Jf n a)) rfl rfl)
abbrev _root_.Go.Proofs.S1.Ay.Neg.Kn:=A3 Tryz.prog 170 Ay.Neg.spec
theorem Ay.Neg.Ac (hk:Ax Tryz.prog Ay.Neg.A6) (h:∀ (n:Bool) (a:List Int) (e:Int),Ay.Neg.pre [.b n,.l a,.i e]=true→A8 Ay.Neg.E Tryz.f170 [.agg [.bool n,.ints .arg .u32 a,.int .i64 e]] (Ay.Neg.out [.b n,.l a,.i e])):Ay.Neg.Kn :=
  Ak (Az hk _ _ _) Tryz.func170 (by kernel_rfl) (by kernel_rfl) h
def Ay.Xc.A6:List (Nat × Entry):=[]
def Ay.Xc.E:Env:=A9 (A5 Ay.Xc.A6) (fun _=>false) (fun _=>none) (fun _=>none)
theorem Ay.Xc.ev (N:Nat) (n:Bool) (a:List Int) (e:Int) (m:Bool) (b:List Int) (f:Int):Bp Ay.Xc.E N Tryz.f111 (An Tryz.f111) [.agg [.bool n,.ints .arg .u32 a,.int .i64 e],.agg [.bool m,.ints .arg .u32 b,.int .i64 f]]=bif ((List.length a:Int)==(0:Int)) then some (.int .i64 f) else bif ((List.length b:Int)==(0:Int)) then some (.int .i64 e) else some (.int .i64 (min e f)):=by kernel_rfl
abbrev _root_.Go.Proofs.S1.Ay.Xc.Kn:=A3 Tryz.prog 111 Ay.Xc.spec
theorem Ay.Xc.Ac (hk:Ax Tryz.prog Ay.Xc.A6) (h:∀ (n:Bool) (a:List Int) (e:Int) (m:Bool) (b:List Int) (f:Int),Ay.Xc.pre [.b n,.l a,.i e,.b m,.l b,.i f]=true→A8 Ay.Xc.E Tryz.f111 [.agg [.bool n,.ints .arg .u32 a,.int .i64 e],.agg [.bool m,.ints .arg .u32 b,.int .i64 f]] (Ay.Xc.out [.b n,.l a,.i e,.b m,.l b,.i f])):Ay.Xc.Kn :=
  Ak (Az hk _ _ _) Tryz.func111 (by kernel_rfl) (by kernel_rfl) h
def Ay.Level.A6:List (Nat × Entry):=[(178,Ah.Br.spec)]
def Ay.Level.E:Env:=A9 (A5 Ay.Level.A6) (fun _=>false) (fun _=>none) (fun _=>none)
theorem Ay.Level.ev (N:Nat) (n:Bool) (a:List Int) (e f:Int):Bp Ay.Level.E N Tryz.f113 (An Tryz.f113) [.agg [.bool n,.ints .arg .u32 a,.int .i64 e],.int .i64 f]=bif ((List.length a:Int)==(0:Int)) then some (.agg [.bool n,.ints .arg .u32 a]) else bif (W2 n a&&As4 (Ab (e-f))) then some (.agg [.bool (Bi (Gu (wv n a) (Ab (e-f)))),.ints .arg .u32 (Ap (Gu (wv n a) (Ab (e-f))))]) else none:=by kernel_rfl
abbrev _root_.Go.Proofs.S1.Ay.Level.Kn:=A3 Tryz.prog 113 Ay.Level.spec
theorem Ay.Level.Ac (hk:Ax Tryz.prog Ay.Level.A6) (h:∀ (n:Bool) (a:List Int) (e f:Int),Ay.Level.pre [.b n,.l a,.i e,.i f]=true→A8 Ay.Level.E Tryz.f113 [.agg [.bool n,.ints .arg .u32 a,.int .i64 e],.int .i64 f] (Ay.Level.out [.b n,.l a,.i e,.i f])):Ay.Level.Kn :=
  Ak (Az hk _ _ _) Tryz.func113 (by kernel_rfl) (by kernel_rfl) h
def Ay.Add.A6:List (Nat × Entry):=[(112,Ah.Add.spec),(113,Ay.Level.spec),(111,Ay.Xc.spec),(109,Ay.Of.spec)]
def Ay.Add.E:Env:=A9 (A5 Ay.Add.A6) (fun _=>false) (fun _=>none) (fun _=>none)
theorem Ay.Add.ev (N:Nat) (n:Bool) (a:List Int) (e:Int) (m:Bool) (b:List Int) (f:Int):Bp Ay.Add.E N Tryz.f42 (An Tryz.f42) [.agg [.bool n,.ints .arg .u32 a,.int .i64 e],.agg [.bool m,.ints .arg .u32 b,.int .i64 f]]=bif (Jf n a&&Jf m b) then bif (W2 n a&&Aer (wv n a) e (C3 (wv n a) e (wv m b) f)) then bif (W2 m b&&Aer (wv m b) f (C3 (wv n a) e (wv m b) f)) then bif (Jf (Bi (Gu (wv n a) (e-(C3 (wv n a) e (wv m b) f)))) (Ap (Gu (wv n a) (e-(C3 (wv n a) e (wv m b) f))))&&Jf (Bi (Gu (wv m b) (f-(C3 (wv n a) e (wv m b) f)))) (Ap (Gu (wv m b) (f-(C3 (wv n a) e (wv m b) f))))) then bif (Jf (Bi (wv (Bi (Gu (wv n a) (e-(C3 (wv n a) e (wv m b) f)))) (Ap (Gu (wv n a) (e-(C3 (wv n a) e (wv m b) f))))+wv (Bi (Gu (wv m b) (f-(C3 (wv n a) e (wv m b) f)))) (Ap (Gu (wv m b) (f-(C3 (wv n a) e (wv m b) f)))))) (Ap (wv (Bi (Gu (wv n a) (e-(C3 (wv n a) e (wv m b) f)))) (Ap (Gu (wv n a) (e-(C3 (wv n a) e (wv m b) f))))+wv (Bi (Gu (wv m b) (f-(C3 (wv n a) e (wv m b) f)))) (Ap (Gu (wv m b) (f-(C3 (wv n a) e (wv m b) f))))))&&Z0 (C3 (wv n a) e (wv m b) f)) then some (.agg [.bool (Bi (mD (wv (Bi (wv (Bi (Gu (wv n a) (e-(C3 (wv n a) e (wv m b) f)))) (Ap (Gu (wv n a) (e-(C3 (wv n a) e (wv m b) f))))+wv (Bi (Gu (wv m b) (f-(C3 (wv n a) e (wv m b) f)))) (Ap (Gu (wv m b) (f-(C3 (wv n a) e (wv m b) f)))))) (Ap (wv (Bi (Gu (wv n a) (e-(C3 (wv n a) e (wv m b) f)))) (Ap (Gu (wv n a) (e-(C3 (wv n a) e (wv m b) f))))+wv (Bi (Gu (wv m b) (f-(C3 (wv n a) e (wv m b) f)))) (Ap (Gu (wv m b) (f-(C3 (wv n a) e (wv m b) f))))))))),.ints .arg .u32 (Ap (mD (wv (Bi (wv (Bi (Gu (wv n a) (e-(C3 (wv n a) e (wv m b) f)))) (Ap (Gu (wv n a) (e-(C3 (wv n a) e (wv m b) f))))+wv (Bi (Gu (wv m b) (f-(C3 (wv n a) e (wv m b) f)))) (Ap (Gu (wv m b) (f-(C3 (wv n a) e (wv m b) f)))))) (Ap (wv (Bi (Gu (wv n a) (e-(C3 (wv n a) e (wv m b) f)))) (Ap (Gu (wv n a) (e-(C3 (wv n a) e (wv m b) f))))+wv (Bi (Gu (wv m b) (f-(C3 (wv n a) e (wv m b) f)))) (Ap (Gu (wv m b) (f-(C3 (wv n a) e (wv m b) f))))))))),.int .i64 (eD (wv (Bi (wv (Bi (Gu (wv n a) (e-(C3 (wv n a) e (wv m b) f)))) (Ap (Gu (wv n a) (e-(C3 (wv n a) e (wv m b) f))))+wv (Bi (Gu (wv m b) (f-(C3 (wv n a) e (wv m b) f)))) (Ap (Gu (wv m b) (f-(C3 (wv n a) e (wv m b) f)))))) (Ap (wv (Bi (Gu (wv n a) (e-(C3 (wv n a) e (wv m b) f)))) (Ap (Gu (wv n a) (e-(C3 (wv n a) e (wv m b) f))))+wv (Bi (Gu (wv m b) (f-(C3 (wv n a) e (wv m b) f)))) (Ap (Gu (wv m b) (f-(C3 (wv n a) e (wv m b) f))))))) (C3 (wv n a) e (wv m b) f))]) else none else none else none else none else none :=
  Eq.trans (by kernel_rfl)
  (Ej (C2 (Cs (W2 n a&&Aer (wv n a) e (C3 (wv n a) e (wv m b) f))) (C2 (Cs (W2 m b&&Aer (wv m b) f (C3 (wv n a) e (wv m b) f))) (C2 (Cs (Jf (Bi (Gu (wv n a) (e-(C3 (wv n a) e (wv m b) f)))) (Ap (Gu (wv n a) (e-(C3 (wv n a) e (wv m b) f))))&&Jf (Bi (Gu (wv m b) (f-(C3 (wv n a) e (wv m b) f)))) (Ap (Gu (wv m b) (f-(C3 (wv n a) e (wv m b) f)))))) (C2 (Cs (Jf (Bi (wv (Bi (Gu (wv n a) (e-(C3 (wv n a) e (wv m b) f)))) (Ap (Gu (wv n a) (e-(C3 (wv n a) e (wv m b) f))))+wv (Bi (Gu (wv m b) (f-(C3 (wv n a) e (wv m b) f)))) (Ap (Gu (wv m b) (f-(C3 (wv n a) e (wv m b) f)))))) (Ap (wv (Bi (Gu (wv n a) (e-(C3 (wv n a) e (wv m b) f)))) (Ap (Gu (wv n a) (e-(C3 (wv n a) e (wv m b) f))))+wv (Bi (Gu (wv m b) (f-(C3 (wv n a) e (wv m b) f)))) (Ap (Gu (wv m b) (f-(C3 (wv n a) e (wv m b) f))))))&&Z0 (C3 (wv n a) e (wv m b) f))) rfl rfl) rfl) rfl) rfl) rfl)
abbrev _root_.Go.Proofs.S1.Ay.Add.Kn:=A3 Tryz.prog 42 Ay.Add.spec
theorem Ay.Add.Ac (hk:Ax Tryz.prog Ay.Add.A6) (h:∀ (n:Bool) (a:List Int) (e:Int) (m:Bool) (b:List Int) (f:Int),Ay.Add.pre [.b n,.l a,.i e,.b m,.l b,.i f]=true→A8 Ay.Add.E Tryz.f42 [.agg [.bool n,.ints .arg .u32 a,.int .i64 e],.agg [.bool m,.ints .arg .u32 b,.int .i64 f]] (Ay.Add.out [.b n,.l a,.i e,.b m,.l b,.i f])):Ay.Add.Kn :=
  Ak (Az hk _ _ _) Tryz.func42 (by kernel_rfl) (by kernel_rfl) h
def Ay.Sub.A6:List (Nat × Entry):=[(42,Ay.Add.spec),(170,Ay.Neg.spec)]
def Ay.Sub.E:Env:=A9 (A5 Ay.Sub.A6) (fun _=>false) (fun _=>none) (fun _=>none)
theorem Ay.Sub.ev (N:Nat) (n:Bool) (a:List Int) (e:Int) (m:Bool) (b:List Int) (f:Int):Bp Ay.Sub.E N Tryz.f105 (An Tryz.f105) [.agg [.bool n,.ints .arg .u32 a,.int .i64 e],.agg [.bool m,.ints .arg .u32 b,.int .i64 f]]=bif (Jf m b) then bif (((W2 n a&&W2 (Bi (- wv m b)) (Ap (- wv m b)))&&Wm e)&&Wm f) then some (.agg [.bool (Bi (Q0 (wv n a) e (wv (Bi (- wv m b)) (Ap (- wv m b))) f)),.ints .arg .u32 (Ap (Q0 (wv n a) e (wv (Bi (- wv m b)) (Ap (- wv m b))) f)),.int .i64 (Apb (wv n a) e (wv (Bi (- wv m b)) (Ap (- wv m b))) f)]) else none else none :=
  Eq.trans (by kernel_rfl)
  (C2 (Cs (Jf m b)) (C2 (Cs (((W2 n a&&W2 (Bi (- wv m b)) (Ap (- wv m b)))&&Wm e)&&Wm f)) rfl rfl) rfl)
abbrev _root_.Go.Proofs.S1.Ay.Sub.Kn:=A3 Tryz.prog 105 Ay.Sub.spec
theorem Ay.Sub.Ac (hk:Ax Tryz.prog Ay.Sub.A6) (h:∀ (n:Bool) (a:List Int) (e:Int) (m:Bool) (b:List Int) (f:Int),Ay.Sub.pre [.b n,.l a,.i e,.b m,.l b,.i f]=true→A8 Ay.Sub.E Tryz.f105 [.agg [.bool n,.ints .arg .u32 a,.int .i64 e],.agg [.bool m,.ints .arg .u32 b,.int .i64 f]] (Ay.Sub.out [.b n,.l a,.i e,.b m,.l b,.i f])):Ay.Sub.Kn :=
  Ak (Az hk _ _ _) Tryz.func105 (by kernel_rfl) (by kernel_rfl) h
def Ay.Wj.A6:List (Nat × Entry):=[(223,Ah.Q3.spec)]
def Ay.Wj.E:Env:=A9 (A5 Ay.Wj.A6) (fun _=>false) (fun _=>none) (fun _=>none)
theorem Ay.Wj.ev (N:Nat) (n:Bool) (a:List Int) (e:Int):Bp Ay.Wj.E N Tryz.f180 (An Tryz.f180) [.agg [.bool n,.ints .arg .u32 a,.int .i64 e]]=bif ((List.length a:Int)==(0:Int)) then some (.int .i64 0) else bif (Jf n a) then some (.int .i64 (Ab ((Yr (wv n a))+e))) else none :=
  Eq.trans (by kernel_rfl)
  (Ej rfl (C2 (Cs (Jf n a)) rfl rfl))
abbrev _root_.Go.Proofs.S1.Ay.Wj.Kn:=A3 Tryz.prog 180 Ay.Wj.spec
theorem Ay.Wj.Ac (hk:Ax Tryz.prog Ay.Wj.A6) (h:∀ (n:Bool) (a:List Int) (e:Int),Ay.Wj.pre [.b n,.l a,.i e]=true→A8 Ay.Wj.E Tryz.f180 [.agg [.bool n,.ints .arg .u32 a,.int .i64 e]] (Ay.Wj.out [.b n,.l a,.i e])):Ay.Wj.Kn :=
  Ak (Az hk _ _ _) Tryz.func180 (by kernel_rfl) (by kernel_rfl) h
def Ay.Sign.A6:List (Nat × Entry):=[]
def Ay.Sign.E:Env:=A9 (A5 Ay.Sign.A6) (fun _=>false) (fun _=>none) (fun _=>none)
theorem Ay.Sign.ev (N:Nat) (n:Bool) (a:List Int) (e:Int):Bp Ay.Sign.E N Tryz.f179 (An Tryz.f179) [.agg [.bool n,.ints .arg .u32 a,.int .i64 e]]=bif n then some (.int .i64 (-1:Int)) else some (.int .i64 (min (List.length a:Int) 1)):=by kernel_rfl
abbrev _root_.Go.Proofs.S1.Ay.Sign.Kn:=A3 Tryz.prog 179 Ay.Sign.spec
theorem Ay.Sign.Ac (hk:Ax Tryz.prog Ay.Sign.A6) (h:∀ (n:Bool) (a:List Int) (e:Int),Ay.Sign.pre [.b n,.l a,.i e]=true→A8 Ay.Sign.E Tryz.f179 [.agg [.bool n,.ints .arg .u32 a,.int .i64 e]] (Ay.Sign.out [.b n,.l a,.i e])):Ay.Sign.Kn :=
  Ak (Az hk _ _ _) Tryz.func179 (by kernel_rfl) (by kernel_rfl) h
def Ay.Compare.A6:List (Nat × Entry):=[(179,Ay.Sign.spec),(105,Ay.Sub.spec),(180,Ay.Wj.spec)]
def Ay.Compare.E:Env:=A9 (A5 Ay.Compare.A6) (fun _=>false) (fun _=>none) (fun _=>none)
theorem Ay.Compare.ev (N:Nat) (n:Bool) (a:List Int) (e:Int) (m:Bool) (b:List Int) (f:Int):Bp Ay.Compare.E N Tryz.f116 (An Tryz.f116) [.agg [.bool n,.ints .arg .u32 a,.int .i64 e],.agg [.bool m,.ints .arg .u32 b,.int .i64 f]]=bif (Jf n a) then bif (Jf m b) then bif ((Na (wv n a)) !=(Na (wv m b))) then bif (Jf n a) then bif (Jf m b) then some (.int .i64 (min 1 (max (-1:Int) (Ab ((Na (wv n a))-(Na (wv m b))))))) else none else none else bif (Jf n a&&Wm e) then bif (Jf m b&&Wm f) then bif ((Ii (wv n a) e) !=(Ii (wv m b) f)) then bif (Jf n a&&Wm e) then bif (Jf m b&&Wm f) then bif (Jf n a) then bif ((A4 (Ii (wv m b) f) (Ii (wv n a) e))==(A4 0 (Na (wv n a)))) then some (.int .i64 1) else some (.int .i64 (-1:Int)) else none else none else none else bif (((W2 n a&&W2 m b)&&Wm e)&&Wm f) then bif (Jf (Bi (Q0 (wv n a) e (- wv m b) f)) (Ap (Q0 (wv n a) e (- wv m b) f))) then some (.int .i64 (Na (wv (Bi (Q0 (wv n a) e (- wv m b) f)) (Ap (Q0 (wv n a) e (- wv m b) f))))) else none else none else none else none else none else none :=
  Eq.trans (by kernel_rfl)
  (C2 (Cs (Jf n a)) (C2 (Cs (Jf m b)) (Ej (C2 (Cs (Jf n a)) (C2 (Cs (Jf m b)) rfl rfl) rfl) (C2 (Cs (Jf n a&&Wm e)) (C2 (Cs (Jf m b&&Wm f)) (Ej (C2 (Cs (Jf n a&&Wm e)) (C2 (Cs (Jf m b&&Wm f)) (C2 (Cs (Jf n a)) rfl rfl) rfl) rfl) rfl) rfl) rfl)) rfl) rfl)
abbrev _root_.Go.Proofs.S1.Ay.Compare.Kn:=A3 Tryz.prog 116 Ay.Compare.spec
theorem Ay.Compare.Ac (hk:Ax Tryz.prog Ay.Compare.A6) (h:∀ (n:Bool) (a:List Int) (e:Int) (m:Bool) (b:List Int) (f:Int),Ay.Compare.pre [.b n,.l a,.i e,.b m,.l b,.i f]=true→A8 Ay.Compare.E Tryz.f116 [.agg [.bool n,.ints .arg .u32 a,.int .i64 e],.agg [.bool m,.ints .arg .u32 b,.int .i64 f]] (Ay.Compare.out [.b n,.l a,.i e,.b m,.l b,.i f])):Ay.Compare.Kn :=
  Ak (Az hk _ _ _) Tryz.func116 (by kernel_rfl) (by kernel_rfl) h
end EqRefC
open EqRefC
def Ak8 (v e:Int):Option DV:=some (.agg [.bool (Bi v),.ints .arg .u32 (Ap v),.int .i64 e])
theorem wdy {drops:List Nat} {b:Bool} {l:List Int} {e:Int}:Wk drops (.agg [.bool b,.ints .arg .u32 l,.int .i64 e]) (.agg [.bool b,.ints .arg .u32 l,.int .i64 e]):=Wk.G6 (.cons .bool (.cons .Wr (.cons .int .nil)))
theorem An7 (v:Int):(Ap v).getD 0 0=((v.natAbs%4294967296:Nat):Int):=by
  have hg:=Rl (G1 v) 0
  rw [D0,Nat.mul_zero,Nat.pow_zero,Nat.div_one] at hg
  exact hg
theorem Aib {v:Int} {k:Nat} (h:Dn v.natAbs<268435456):Dn (Kv v k).natAbs<268435456:=by
  rw [Lx]
  exact Nat.lt_of_le_of_lt (Mj (Nat.div_le_self _ _)) h
theorem Amg {v:Int} {k:Nat} (h0:v≠0) (h:v.natAbs%2^k=0):Kv v k≠0∧Rz (Kv v k).natAbs+k=Rz v.natAbs:=by
  have hv:=Nat.div_add_mod v.natAbs (2^k)
  rw [h,Nat.add_zero,Nat.mul_comm] at hv
  have hq:v.natAbs / 2^k≠0:=by
    intro e; rw [e] at hv; omega
  have ht:=Abq hq k
  rw [hv] at ht
  have ha:=Lx v k
  refine ⟨by omega,?_⟩
  rw [ha]
  omega
theorem Am4 (N:Nat):∀ (F:Nat) (v e:Int),v≠0→Rz v.natAbs<F→Dn v.natAbs<268435456→-4000000000000≤e→e+Rz v.natAbs≤400000000000000 →
    Ay.Of.L1 N F e (Bi v) (Ap v)=Ak8 (mD v) (eD v e):=by
  intro F
  induction F with
  | zero=>intro v e _ h; omega
  | succ F ih =>
    intro v e h0 hF hv h1 h2
    rw [Ay.Of.B7,Je hv,Axt,Hq]
    by_cases ho:v%2=1
    · have:Akb v=true:=Axu ho
      rw [this,Bool.not_true,Axx,As9 ho,Atk ho]
      rfl
    · have:Akb v=false:=Axy ho
      have hm:v.natAbs%2^1=0:=by rw [Nat.pow_one]; omega
      obtain ⟨n1,n2⟩:=Amg h0 hm
      rw [this,Bool.not_false,Axt,Axt,Am (by omega) (by omega),ih (Kv v 1) (e+1) n1 (by omega) (Aib hv) (by omega) (by omega),Anm hm]
      have:=Aoj (e:=e) hm h0
      rw [← this]
      rfl
theorem Am5 (N:Nat):∀ (F:Nat) (v e:Int),v≠0→Rz v.natAbs<F→Rz v.natAbs<N→Dn v.natAbs<268435456→-4000000000000≤e→e+Rz v.natAbs≤400000000000000 →
    Ay.Of.L0 N F e (Bi v) (Ap v)=Ak8 (mD v) (eD v e):=by
  intro F
  induction F with
  | zero=>intro v e _ h; omega
  | succ F ih =>
    intro v e h0 hF hN hv h1 h2
    have hl:=I8 (n:=v.natAbs) (by omega)
    rw [Ay.Of.Au,Co,Axu (by omega),Axt,An7]
    by_cases hz:v.natAbs%4294967296=0
    · have e0:(((v.natAbs%4294967296:Nat):Int)==0)=true:=by rw [hz]; rfl
      have o3:Hp ((Ap v).drop 1)=true:=Nw (by rw [List.length_drop,Co]; omega) (Afa (G1 v))
      have hm:v.natAbs%2^32=0:=by rw [two32]; exact hz
      obtain ⟨n1,n2⟩:=Amg h0 hm
      rw [e0,Axt,Axu (by omega),Axt,o3,Axt,Ahz,Am (by omega) (by omega),ih (Kv v 32) (e+32) n1 (by omega) (by omega) (Aib hv) (by omega) (by omega),Anm hm]
      have:=Aoj (e:=e) hm h0
      rw [← this]
      rfl
    · have e0:(((v.natAbs%4294967296:Nat):Int)==0)=false:=by simp only [beq_eq_false_iff_ne,ne_eq]; omega
      rw [e0,Axx]
      exact Am4 N N v e h0 hN hv h1 h2
theorem Al1 {v:Int} (h0:v≠0) (h:Dn v.natAbs<268435456):Rz v.natAbs<8589934592:=by
  have h1:=Aru (n:=v.natAbs) (by omega)
  have h2:=Aaz (n:=v.natAbs)
  omega
theorem Ay.Of.known:Ay.Of.Kn:=Ay.Of.Ac (.cons Ah.Hy.known (.cons Ah.Made.known (.cons Ah.Xb.known .nil))) fun n a e hp=>by
  obtain ⟨h1,h2⟩:=Ad.1 hp
  obtain ⟨v,rfl,rfl,hv⟩:=Jc h1
  have h2:=Ar.1 h2
  by_cases h0:v=0
  · subst h0
    refine ⟨0,.agg [.bool false,.nil,.int .i64 (0:Int)],[],?_,?_⟩
    · rw [Ay.Of.ev]; rfl
    · show Wk [] _ (.agg [.bool (Bi (mD (wv (Bi 0) (Ap 0)))),.ints .arg .u32 (Ap (mD (wv (Bi 0) (Ap 0)))),.int .i64 (eD (wv (Bi 0) (Ap 0)) e)])
      rw [Hq,Pg.2 rfl]
      exact Wk.G6 (.cons .bool (.cons (.nil _ _) (.cons .int .nil)))
  · refine ⟨Rz v.natAbs+1,Ay.Of.out [.b (Bi v),.l (Ap v),.i e],[],?_,wdy⟩
    have ht:=Al1 h0 hv
    have hl:=I8 (n:=v.natAbs) (by omega)
    have e0:(((Ap v).length:Int)==0)=false:=by rw [Co]; simp only [beq_eq_false_iff_ne,ne_eq]; omega
    show _=Ak8 (mD (wv (Bi v) (Ap v))) (eD (wv (Bi v) (Ap v)) e)
    rw [Ay.Of.ev,e0,Axx,Hq]
    exact Am5 _ _ v e h0 (by omega) (by omega) hv (by omega) (by omega)
theorem Ay.Neg.known:Ay.Neg.Kn:=Ay.Neg.Ac (.cons Ah.Neg.known .nil) fun n a e hp=>by
  refine ⟨0,Ay.Neg.out [.b n,.l a,.i e],[],?_,wdy⟩
  have hp:Jf n a=true:=hp
  rw [Ay.Neg.ev,hp,Axt]
  rfl
theorem Uj (v:Int):(((Ap v).length:Int)==0)=decide (v=0):=by
  rw [Co,Ax9]
  simp only [beq_iff_eq,Ax0]
  constructor
  · intro h
    rcases Int.lt_trichotomy v 0 with k | k | k
    · have:=I8 (n:=v.natAbs) (by omega); omega
    · exact k
    · have:=I8 (n:=v.natAbs) (by omega); omega
  · intro h; rw [h]; rfl
theorem Ay.Xc.known:Ay.Xc.Kn:=Ay.Xc.Ac .nil fun n a e m b f hp=>by
  obtain ⟨h1,h2⟩:=Ad.1 hp
  obtain ⟨v,rfl,rfl,hv⟩:=Jc h1
  obtain ⟨w,rfl,rfl,hw⟩:=Jc h2
  refine ⟨0,Ay.Xc.out [.b (Bi v),.l (Ap v),.i e,.b (Bi w),.l (Ap w),.i f],[],?_,.int⟩
  show _=some (DV.int .i64 (C3 (wv (Bi v) (Ap v)) e (wv (Bi w) (Ap w)) f))
  rw [Ay.Xc.ev,Hq,Hq,Uj,Uj]
  unfold C3
  by_cases h:v=0
  · rw [Axu h,Axt,if_pos h]
  · rw [Axy h,Axx,if_neg h]
    by_cases h':w=0
    · rw [Axu h',Axt,if_pos h']
    · rw [Axy h',Axx,if_neg h']
theorem Xr (k:Int):Gu 0 k=0:=by
  unfold Gu
  split
  · exact Int.zero_mul _
  · exact Rb _
theorem Ay.Level.known:Ay.Level.Kn:=Ay.Level.Ac (.cons Ah.Br.known .nil) fun n a e f hp=>by
  obtain ⟨h1,h2⟩:=Ad.1 hp
  obtain ⟨v,rfl,rfl,hv⟩:=Pf h1
  refine ⟨0,Ay.Level.out [.b (Bi v),.l (Ap v),.i e,.i f],[],?_,Adj⟩
  show _=Af8 (Gu (wv (Bi v) (Ap v)) (e-f))
  unfold Aer at h2
  rw [Hq] at h2
  obtain ⟨h3,h4⟩:=Ad.1 h2
  have h3:=Ar.1 h3
  have h4:=Ar.1 h4
  rw [Ay.Level.ev,Hq,Uj]
  by_cases h:v=0
  · rw [Axu h,Axt,h,Xr]; rfl
  · have o:As4 (Ab (e-f))=true:=by rw [Am (by omega) (by omega)]; exact Ar.2 (by omega)
    rw [Axy h,Axx,h1,o,Axz,Axt,Am (by omega) (by omega)]
    rfl
theorem Anu (n k:Nat):Dn (n*2^k)≤Dn n+k:=by
  refine Nm ?_
  have h1:=L8 n
  have h2:n*2^k<2^(32*Dn n)*2^k:=(Nat.mul_lt_mul_right (Cj k)).2 h1
  rw [← Nat.pow_add] at h2
  exact Nat.lt_of_lt_of_le h2 (Ax8 (by decide) (by omega))
theorem Anv (v k:Int):Dn (Gu v k).natAbs≤Dn v.natAbs+k.toNat:=by
  unfold Gu
  by_cases h:0≤k
  · rw [if_pos h,Int.natAbs_mul,Int.natAbs_natCast]
    exact Anu _ _
  · rw [if_neg h,Lx]
    exact Nat.le_trans (Mj (Nat.div_le_self _ _)) (Nat.le_add_right _ _)
theorem Ae5 (v w:Int):Dn (v+w).natAbs≤max (Dn v.natAbs) (Dn w.natAbs)+1:=by
  refine Nm ?_
  have h1:=L8 v.natAbs
  have h2:=L8 w.natAbs
  have h3:2^(32*Dn v.natAbs)≤2^(32*max (Dn v.natAbs) (Dn w.natAbs)):=Ax8 (by decide) (by omega)
  have h4:2^(32*Dn w.natAbs)≤2^(32*max (Dn v.natAbs) (Dn w.natAbs)):=Ax8 (by decide) (by omega)
  rw [Od]
  omega
theorem Ym {v e w f:Int} (he:-400000≤e∧e≤400000) (hf:-400000≤f∧f≤400000):-400000≤C3 v e w f∧C3 v e w f≤400000:=by
  unfold C3
  split
  · exact hf
  · split
    · exact he
    · omega
theorem Ww {v e l:Int} (hv:Dn v.natAbs<134217728) (h:e-l≤800000):Dn (Gu v (e-l)).natAbs<140000000:=by
  have:=Anv v (e-l)
  omega
theorem Ay.Add.known:Ay.Add.Kn:=Ay.Add.Ac (.cons Ah.Add.known (.cons Ay.Level.known (.cons Ay.Xc.known (.cons Ay.Of.known .nil)))) fun n a e m b f hp=>by
  obtain ⟨h1,hf⟩:=Ad.1 hp
  obtain ⟨h2,he⟩:=Ad.1 h1
  obtain ⟨h3,h4⟩:=Ad.1 h2
  obtain ⟨v,rfl,rfl,hv⟩:=Pf h3
  obtain ⟨w,rfl,rfl,hw⟩:=Pf h4
  have he:=Ar.1 he
  have hf:=Ar.1 hf
  refine ⟨0,Ay.Add.out [.b (Bi v),.l (Ap v),.i e,.b (Bi w),.l (Ap w),.i f],[],?_,wdy⟩
  show _=Ak8 (Q0 (wv (Bi v) (Ap v)) e (wv (Bi w) (Ap w)) f) (Apb (wv (Bi v) (Ap v)) e (wv (Bi w) (Ap w)) f)
  have hlo:=Ym (v:=v) (w:=w) he hf
  have l1:=Ww (l:=C3 v e w f) hv (show e-C3 v e w f≤800000 by omega)
  have l2:=Ww (l:=C3 v e w f) hw (show f-C3 v e w f≤800000 by omega)
  have l3:=Ae5 (Gu v (e-C3 v e w f)) (Gu w (f-C3 v e w f))
  have o1:Aer v e (C3 v e w f)=true:=Ad.2 ⟨Ar.2 (by omega),Ar.2 (by omega)⟩
  have o2:Aer w f (C3 v e w f)=true:=Ad.2 ⟨Ar.2 (by omega),Ar.2 (by omega)⟩
  have o3:Z0 (C3 v e w f)=true:=Ar.2 (by omega)
  rw [Ay.Add.ev]
  simp only [Hq]
  rw [Je (v:=v) (by omega),Je (v:=w) (by omega),h3,h4,o1,o2,Je (v:=Gu v (e-C3 v e w f)) (by omega),Je (v:=Gu w (f-C3 v e w f)) (by omega),Je (v:=Gu v (e-C3 v e w f)+Gu w (f-C3 v e w f)) (by omega),o3]
  simp only [Axz,Axt]
  rfl
theorem Ay.Sub.known:Ay.Sub.Kn:=Ay.Sub.Ac (.cons Ay.Add.known (.cons Ay.Neg.known .nil)) fun n a e m b f hp=>by
  obtain ⟨h1,hf⟩:=Ad.1 hp
  obtain ⟨h2,he⟩:=Ad.1 h1
  obtain ⟨h3,h4⟩:=Ad.1 h2
  obtain ⟨w,rfl,rfl,hw⟩:=Pf h4
  refine ⟨0,Ay.Sub.out [.b n,.l a,.i e,.b (Bi w),.l (Ap w),.i f],[],?_,wdy⟩
  show _=Ak8 (Q0 (wv n a) e (- wv (Bi w) (Ap w)) f) (Apb (wv n a) e (- wv (Bi w) (Ap w)) f)
  rw [Ay.Sub.ev]
  simp only [Hq]
  rw [Je (v:=w) (by omega),h3,Am3 (v:=-w) (by rw [Int.natAbs_neg]; exact hw),he,hf]
  rfl
theorem Ae6 {v:Int} (h:Dn v.natAbs<268435456):0≤Yr v∧Yr v≤8589934593:=by
  have h2:=Aaz (n:=v.natAbs)
  unfold Yr
  split
  · omega
  · constructor<;>omega
theorem Ay.Wj.known:Ay.Wj.Kn:=Ay.Wj.Ac (.cons Ah.Q3.known .nil) fun n a e hp=>by
  obtain ⟨h1,he⟩:=Ad.1 hp
  obtain ⟨v,rfl,rfl,hv⟩:=Jc h1
  have he:=Ar.1 he
  refine ⟨0,Ay.Wj.out [.b (Bi v),.l (Ap v),.i e],[],?_,.int⟩
  show _=some (DV.int .i64 (Ii (wv (Bi v) (Ap v)) e))
  have hb:=Ae6 hv
  rw [Ay.Wj.ev,Hq,Uj,h1]
  unfold Ii
  by_cases h:v=0
  · rw [Axu h,Axt,if_pos h]
  · rw [Axy h,Axx,Axt,if_neg h,Am (by omega) (by omega)]
theorem Ay.Sign.known:Ay.Sign.Kn:=Ay.Sign.Ac .nil fun n a e hp=>by
  obtain ⟨v,rfl,rfl,hv⟩:=Jc hp
  refine ⟨0,Ay.Sign.out [.b (Bi v),.l (Ap v),.i e],[],?_,.int⟩
  show _=some (DV.int .i64 (Na (wv (Bi v) (Ap v))))
  rw [Ay.Sign.ev,Hq,Co]
  unfold Na Bi
  by_cases h:v<0
  · rw [Axu h,Axt,if_pos h]
  · rw [Axy h,Axx,if_neg h]
    by_cases h':v=0
    · rw [if_pos h',h']; rfl
    · have:=I8 (n:=v.natAbs) (by omega)
      rw [if_neg h']
      congr 2
      omega
open EqRefC
theorem Ag9 {v e w f:Int}:(v≠0→0≤e-C3 v e w f)∧(w≠0→0≤f-C3 v e w f):=by
  unfold C3
  constructor
  · intro h
    rw [if_neg h]
    split<;>omega
  · intro h
    split
    · omega
    · omega
theorem Xs {v k:Int} (h:v≠0→0≤k):∃ j:Nat,Gu v k=v*((2^j:Nat):Int)∧(v≠0→(j:Int)=k):=by
  by_cases h0:v=0
  · exact ⟨0,by rw [h0,Xr,Int.zero_mul],fun k=>absurd h0 k⟩
  · have hk:=h h0
    refine ⟨k.toNat,?_,fun _=>by omega⟩
    unfold Gu
    rw [if_pos hk]
theorem Yf (v:Int) (j:Nat):(v*((2^j:Nat):Int)<0↔v<0)∧(v*((2^j:Nat):Int)=0↔v=0):=by
  have hp:=Cj j
  constructor
  · constructor
    · intro h
      rcases Int.lt_or_le v 0 with h1 | h1
      · exact h1
      · have:=Int.mul_nonneg h1 (Int.natCast_nonneg (2^j)); omega
    · intro h
      exact Int.mul_neg_of_neg_of_pos h (by omega)
  · constructor
    · intro h
      rcases Int.mul_eq_zero.1 h with h | h
      · exact h
      · omega
    · intro h; rw [h,Int.zero_mul]
theorem Ab4 (v:Int) (j:Nat):Na (v*((2^j:Nat):Int))=Na v:=by
  obtain ⟨h1,h2⟩:=Yf v j
  unfold Na
  simp only [h1,h2]
theorem Asu (v:Int):Na (mD v)=Na v:=by
  have:=Ab4 (mD v) (Rz v.natAbs)
  rw [← W5] at this
  exact this.symm
theorem Are (x y:Int):Na (x+-y)=Wo x y:=by
  unfold Na Wo
  by_cases h:x<y
  · rw [if_pos (by omega),if_pos h]
  · rw [if_neg (by omega),if_neg h]
    by_cases h':y<x
    · rw [if_neg (by omega),if_pos h']
    · rw [if_pos (by omega),if_neg h']
theorem Aqo (v e w f:Int):C3 v e (-w) f=C3 v e w f:=by
  unfold C3
  have:(-w=0)=(w=0):=propext ⟨fun h=>by omega,fun h=>by omega⟩
  simp only [this]
theorem Aot {x y:Int} (h:Na x≠Na y):Wo x y=min 1 (max (-1) (Na x-Na y)):=by
  unfold Na at h ⊢
  unfold Wo
  rcases Int.lt_trichotomy x 0 with h1 | h1 | h1<;>rcases Int.lt_trichotomy y 0 with h2 | h2 | h2
  all_goals
    first
    | (exfalso; apply h; simp [show x<0 by omega,show y<0 by omega]; done)
    | (exfalso; apply h; subst h1; subst h2; rfl)
    | (exfalso; apply h; rw [if_neg (by omega),if_neg (by omega),if_neg (by omega),if_neg (by omega)]; done)
    | skip
  · rw [if_pos (by omega),if_pos (by omega),if_neg (by omega),if_pos (by omega)]; decide
  · rw [if_pos (by omega),if_pos (by omega),if_neg (by omega),if_neg (by omega)]; decide
  · rw [if_neg (by omega),if_pos (by omega),if_neg (by omega),if_pos (by omega),if_pos (by omega)]; decide
  · rw [if_pos (by omega),if_neg (by omega),if_pos (by omega),if_neg (by omega),if_neg (by omega)]; decide
  · rw [if_neg (by omega),if_pos (by omega),if_neg (by omega),if_neg (by omega),if_pos (by omega)]; decide
  · rw [if_neg (by omega),if_pos (by omega),if_neg (by omega),if_neg (by omega),if_neg (by omega),if_pos (by omega)]; decide
theorem Yo {a b:Nat} (ha:a≠0) (h:a.log2<b.log2):a<b:=by
  rcases Nat.lt_or_ge a b with k | k
  · exact k
  · have hb:b≠0:=by
      intro e; rw [e] at h
      exact absurd h (by rw [show (0:Nat).log2=0 by decide]; omega)
    have:=(Nat.le_log2 ha).2 (Nat.le_trans (Nat.log2_self_le hb) k)
    omega
theorem Ard {v e w f:Int} (hs:Na v=Na w) (ht:Ii v e≠Ii w f) :
    Wp v e w f=if (decide (Ii w f<Ii v e)==decide (0<Na v))=true then 1 else -1:=by
  obtain ⟨u1,u2⟩:=Ag9 (v:=v) (e:=e) (w:=w) (f:=f)
  obtain ⟨j,hx,hj⟩:=Xs u1
  obtain ⟨k,hy,hk⟩:=Xs u2
  unfold Wp
  rw [hx,hy]
  have z:v=0↔w=0:=by
    unfold Na at hs
    constructor
    · intro h; subst h
      revert hs
      simp
      split<;>simp_all
    · intro h; subst h
      revert hs
      simp
      split<;>simp_all
  by_cases v0:v=0
  · exfalso
    apply ht
    unfold Ii
    rw [if_pos v0,if_pos (z.1 v0)]
  · have w0:w≠0:=fun h=>v0 (z.2 h)
    have hj:=hj v0
    have hk:=hk w0
    have nv:v.natAbs≠0:=by omega
    have nw:w.natAbs≠0:=by omega
    have l1:=La v.natAbs j nv
    have l2:=La w.natAbs k nw
    have ax:(v*((2^j:Nat):Int)).natAbs=v.natAbs*2^j:=by rw [Int.natAbs_mul,Int.natAbs_natCast]
    have ay:(w*((2^k:Nat):Int)).natAbs=w.natAbs*2^k:=by rw [Int.natAbs_mul,Int.natAbs_natCast]
    have sx:=(Yf v j).1
    have sy:=(Yf w k).1
    have zx:=Anf v0 j
    have zy:=Anf w0 k
    have tv:Ii v e=(v.natAbs.log2:Int)+1+e:=by unfold Ii Yr; rw [if_neg v0,if_neg v0]
    have tw:Ii w f=(w.natAbs.log2:Int)+1+f:=by unfold Ii Yr; rw [if_neg w0,if_neg w0]
    have big:Ii w f<Ii v e→w.natAbs*2^k<v.natAbs*2^j:=fun h=>Yo (Ip nw) (by omega)
    have lit:Ii v e<Ii w f→v.natAbs*2^j<w.natAbs*2^k:=fun h=>Yo (Ip nv) (by omega)
    generalize v*((2^j:Nat):Int)=x at *
    generalize w*((2^k:Nat):Int)=y at *
    by_cases hv:v<0
    · have sv:Na v=-1:=by unfold Na; rw [if_pos hv]
      have hw:w<0:=by
        rw [sv] at hs
        unfold Na at hs
        rcases Int.lt_or_le w 0 with q | q
        · exact q
        · rw [if_neg (by omega),if_neg w0] at hs; omega
      rw [sv]
      unfold Wo
      by_cases h:Ii w f<Ii v e
      · have:=big h
        rw [Axu h,if_pos (by omega)]; rfl
      · have:=lit (by omega)
        rw [Axy h,if_neg (by omega),if_pos (by omega)]; rfl
    · have sv:Na v=1:=by unfold Na; rw [if_neg hv,if_neg v0]
      have hw:¬ w<0:=by
        intro q
        rw [sv] at hs
        unfold Na at hs
        rw [if_pos q] at hs; omega
      rw [sv]
      unfold Wo
      by_cases h:Ii w f<Ii v e
      · have:=big h
        rw [Axu h,if_neg (by omega),if_pos (by omega)]; rfl
      · have:=lit (by omega)
        rw [Axy h,if_pos (by omega)]; rfl
theorem Apy (v e w f:Int):Na (Q0 v e (-w) f)=Wp v e w f:=by
  obtain ⟨u1,u2⟩:=Ag9 (v:=v) (e:=e) (w:=w) (f:=f)
  obtain ⟨k,hy,hk⟩:=Xs u2
  have hy':Gu (-w) (f-C3 v e w f)=-(Gu w (f-C3 v e w f)):=by
    by_cases w0:w=0
    · rw [w0]; show Gu 0 _=_; rw [Xr]; rfl
    · unfold Gu
      rw [if_pos (u2 w0),if_pos (u2 w0),Int.neg_mul]
  unfold Q0 Ao5 Wp
  rw [Asu,Aqo,hy',Are]
theorem Ak9 {v e w f:Int} (h:Na v≠Na w):Wp v e w f=min 1 (max (-1) (Na v-Na w)):=by
  obtain ⟨u1,u2⟩:=Ag9 (v:=v) (e:=e) (w:=w) (f:=f)
  obtain ⟨j,hx,hj⟩:=Xs u1
  obtain ⟨k,hy,hk⟩:=Xs u2
  have e1:=Ab4 v j
  have e2:=Ab4 w k
  unfold Wp
  rw [hx,hy,← e1,← e2]
  exact Aot (by rw [e1,e2]; exact h)
theorem Xt (v:Int):-1≤Na v∧Na v≤1:=by unfold Na; split<;>(try split)<;>omega
theorem Apa {v e w f:Int} (hv:Dn v.natAbs<134217728) (hw:Dn w.natAbs<134217728) (he:-400000≤e∧e≤400000) (hf:-400000≤f∧f≤400000):Dn (Q0 v e w f).natAbs<140000001:=by
  have hlo:=Ym (v:=v) (w:=w) he hf
  have l1:=Ww (l:=C3 v e w f) hv (show e-C3 v e w f≤800000 by omega)
  have l2:=Ww (l:=C3 v e w f) hw (show f-C3 v e w f≤800000 by omega)
  have l3:=Ae5 (Gu v (e-C3 v e w f)) (Gu w (f-C3 v e w f))
  have l4:=Mj (Aay (Ao5 v e w f))
  unfold Q0
  unfold Ao5 at l4 ⊢
  omega
theorem Ay.Compare.known:Ay.Compare.Kn:=Ay.Compare.Ac (.cons Ay.Sign.known (.cons Ay.Sub.known (.cons Ay.Wj.known .nil))) fun n a e m b f hp=>by
  obtain ⟨h1,hf⟩:=Ad.1 hp
  obtain ⟨h2,he⟩:=Ad.1 h1
  obtain ⟨h3,h4⟩:=Ad.1 h2
  obtain ⟨v,rfl,rfl,hv⟩:=Pf h3
  obtain ⟨w,rfl,rfl,hw⟩:=Pf h4
  refine ⟨0,Ay.Compare.out [.b (Bi v),.l (Ap v),.i e,.b (Bi w),.l (Ap w),.i f],[],?_,.int⟩
  show _=some (DV.int .i64 (Wp (wv (Bi v) (Ap v)) e (wv (Bi w) (Ap w)) f))
  have bv:=Xt v
  have bw:=Xt w
  have hm:=Apa (v:=v) (w:=-w) hv (by rw [Int.natAbs_neg]; exact hw) (Ar.1 he) (Ar.1 hf)
  rw [Ay.Compare.ev]
  simp only [Hq]
  rw [Je (v:=v) (by omega),Je (v:=w) (by omega),Je (v:=Q0 v e (-w) f) (by omega),h3,h4,he,hf,As,As]
  simp only [Axz,Axt]
  by_cases hs:Na v=Na w
  · have e0:(Na v !=Na w)=false:=by simp [hs]
    rw [e0,Axx]
    by_cases ht:Ii v e=Ii w f
    · have e1:(Ii v e !=Ii w f)=false:=by simp [ht]
      rw [e1,Axx,Apy]
    · have e1:(Ii v e !=Ii w f)=true:=by simp [ht]
      rw [e1,Axt,Ard hs ht]
      cases (decide (Ii w f<Ii v e)==decide (0<Na v))<;>rfl
  · have e0:(Na v !=Na w)=true:=by simp [hs]
    rw [e0,Axt,Ak9 hs,Am (by omega) (by omega)]
namespace EqRefE
def A1.Value.A6:List (Nat × Entry):=[(143,Ah.Neg.spec),(115,Ah.Of.spec),(109,Ay.Of.spec),(141,A1.Li.spec),(142,A1.Neg.spec),(140,A1.Power.spec)]
def A1.Value.E:Env:=A9 (A5 A1.Value.A6) (fun _=>false) (fun _=>none) (fun _=>none)
theorem A1.Value.ev (N:Nat) (x:Int):Bp A1.Value.E N Tryz.f63 (An Tryz.f63) [.int .u64 x]=bif (Kl x) then bif (Aix (Ab (C0 x))) then bif (Kl x) then bif (A4 0 (Ll x)) then bif (Kl x) then bif (Aix (Ab (Bj ((C0 x)+4503599627370496)))) then bif (Kl x) then bif (Af x) then bif (Dp x) then bif (Jf (Bi ((Ab (Bj ((C0 x)+4503599627370496))))) (Ap ((Ab (Bj ((C0 x)+4503599627370496)))))) then bif (Jf (Bi (- wv (Bi ((Ab (Bj ((C0 x)+4503599627370496))))) (Ap ((Ab (Bj ((C0 x)+4503599627370496))))))) (Ap (- wv (Bi ((Ab (Bj ((C0 x)+4503599627370496))))) (Ap ((Ab (Bj ((C0 x)+4503599627370496)))))))&&Z0 (Ab ((Ll x)-1075))) then some (.agg [.bool (Bi (mD (wv (Bi (- wv (Bi ((Ab (Bj ((C0 x)+4503599627370496))))) (Ap ((Ab (Bj ((C0 x)+4503599627370496))))))) (Ap (- wv (Bi ((Ab (Bj ((C0 x)+4503599627370496))))) (Ap ((Ab (Bj ((C0 x)+4503599627370496)))))))))),.ints .arg .u32 (Ap (mD (wv (Bi (- wv (Bi ((Ab (Bj ((C0 x)+4503599627370496))))) (Ap ((Ab (Bj ((C0 x)+4503599627370496))))))) (Ap (- wv (Bi ((Ab (Bj ((C0 x)+4503599627370496))))) (Ap ((Ab (Bj ((C0 x)+4503599627370496)))))))))),.int .i64 (eD (wv (Bi (- wv (Bi ((Ab (Bj ((C0 x)+4503599627370496))))) (Ap ((Ab (Bj ((C0 x)+4503599627370496))))))) (Ap (- wv (Bi ((Ab (Bj ((C0 x)+4503599627370496))))) (Ap ((Ab (Bj ((C0 x)+4503599627370496)))))))) (Ab ((Ll x)-1075)))]) else none else none else bif (Jf (Bi ((Ab (Bj ((C0 x)+4503599627370496))))) (Ap ((Ab (Bj ((C0 x)+4503599627370496)))))&&Z0 (Ab ((Ll x)-1075))) then some (.agg [.bool (Bi (mD (wv (Bi ((Ab (Bj ((C0 x)+4503599627370496))))) (Ap ((Ab (Bj ((C0 x)+4503599627370496)))))))),.ints .arg .u32 (Ap (mD (wv (Bi ((Ab (Bj ((C0 x)+4503599627370496))))) (Ap ((Ab (Bj ((C0 x)+4503599627370496)))))))),.int .i64 (eD (wv (Bi ((Ab (Bj ((C0 x)+4503599627370496))))) (Ap ((Ab (Bj ((C0 x)+4503599627370496)))))) (Ab ((Ll x)-1075)))]) else none else none else none else none else none else bif (Af x) then bif (Dp x) then bif (Jf (Bi ((Ab (C0 x)))) (Ap ((Ab (C0 x))))) then bif (Jf (Bi (- wv (Bi ((Ab (C0 x)))) (Ap ((Ab (C0 x)))))) (Ap (- wv (Bi ((Ab (C0 x)))) (Ap ((Ab (C0 x))))))&&Z0 (-1074:Int)) then some (.agg [.bool (Bi (mD (wv (Bi (- wv (Bi ((Ab (C0 x)))) (Ap ((Ab (C0 x)))))) (Ap (- wv (Bi ((Ab (C0 x)))) (Ap ((Ab (C0 x))))))))),.ints .arg .u32 (Ap (mD (wv (Bi (- wv (Bi ((Ab (C0 x)))) (Ap ((Ab (C0 x)))))) (Ap (- wv (Bi ((Ab (C0 x)))) (Ap ((Ab (C0 x))))))))),.int .i64 (eD (wv (Bi (- wv (Bi ((Ab (C0 x)))) (Ap ((Ab (C0 x)))))) (Ap (- wv (Bi ((Ab (C0 x)))) (Ap ((Ab (C0 x))))))) (-1074:Int))]) else none else none else bif (Jf (Bi ((Ab (C0 x)))) (Ap ((Ab (C0 x))))&&Z0 (-1074:Int)) then some (.agg [.bool (Bi (mD (wv (Bi ((Ab (C0 x)))) (Ap ((Ab (C0 x))))))),.ints .arg .u32 (Ap (mD (wv (Bi ((Ab (C0 x)))) (Ap ((Ab (C0 x))))))),.int .i64 (eD (wv (Bi ((Ab (C0 x)))) (Ap ((Ab (C0 x))))) (-1074:Int))]) else none else none else none else none else none:=by kernel_rfl
abbrev _root_.Go.Proofs.S1.A1.Value.Kn:=A3 Tryz.prog 63 A1.Value.spec
theorem A1.Value.Ac (hk:Ax Tryz.prog A1.Value.A6) (h:∀ (x:Int),A1.Value.pre [.i x]=true→A8 A1.Value.E Tryz.f63 [.int .u64 x] (A1.Value.out [.i x])):A1.Value.Kn :=
  Ak (Az hk _ _ _) Tryz.func63 (by kernel_rfl) (by kernel_rfl) h
end EqRefE
open EqRefE
theorem Ait {n k:Nat} (h:n<2^(32*k)) {m:Nat} (hk:k<m):Dn n<m:=Nat.lt_of_le_of_lt (Nm h) hk
theorem To (m:Nat):H2 false m=(m:Int):=rfl
theorem Ad6 (m:Nat):H2 true m=-(m:Int):=rfl
theorem A1.Value.known:A1.Value.Kn:=A1.Value.Ac (.cons Ah.Neg.known (.cons Ah.Of.known (.cons Ay.Of.known (.cons A1.Li.known (.cons A1.Neg.known (.cons A1.Power.known .nil)))))) fun x hp=>by
  obtain ⟨n,rfl,hn⟩:=Bl (x:=x) hp
  refine ⟨0,A1.Value.out [.i n],[],?_,wdy⟩
  show _=Ak8 (mD (E8 n)) (eD (E8 n) (Bh n))
  have hf:=J2 n
  have hw:=Jb n
  have small:∀ k:Nat,k<2^54→Dn k<268435456:=fun k hk=>Ait (k:=2) (Nat.lt_trans hk (by decide)) (by omega)
  have o1:∀ k:Nat,k<2^54→Jf (Bi (k:Int)) (Ap (k:Int))=true:=fun k hk=>Je (by rw [Int.natAbs_natCast]; exact small k hk)
  have o2:∀ k:Nat,k<2^54→Jf (Bi (-(k:Int))) (Ap (-(k:Int)))=true:=fun k hk=>Je (by rw [Int.natAbs_neg,Int.natAbs_natCast]; exact small k hk)
  rw [A1.Value.ev]
  unfold C0 Ll Dp E8 Bh
  simp only [Hq,Axv]
  have e1:Ab ((C4 n:Nat):Int)=((C4 n:Nat):Int):=Am (by omega) (by omega)
  have e2:Ab (Bj (((C4 n:Nat):Int)+4503599627370496))=((C4 n+2^52:Nat):Int):=by
    rw [Di (by omega) (by omega),Am (by omega) (by omega)]; omega
  have i1:∀ k:Nat,k<2^54→Aix (k:Int)=true:=fun k hk=>Ar.2 (by omega)
  rw [Io,B9 hn,e1,e2,i1 _ (by omega),i1 _ (by omega),As,Am (by omega) (by omega)]
  simp only [Axt]
  unfold Av A2
  by_cases h:Dv n=0
  · have o3:Z0 (-1074)=true:=Ar.2 (by omega)
    rw [if_pos h,if_pos h,Axy (by omega),Axx,o1 _ (by omega),o2 _ (by omega),o3]
    cases Bs n
    · rw [Axx,To]; rfl
    · rw [Axt,Ad6]; rfl
  · have o3:Z0 ((Dv n:Int)-1075)=true:=Ar.2 (by omega)
    rw [if_neg h,if_neg h,Axu (by omega),Axt,o1 _ (by omega),o2 _ (by omega),o3]
    cases Bs n
    · rw [Axx,To]; rfl
    · rw [Axt,Ad6]; rfl
theorem Al2 {m t:Nat} (h:m<2^t) (h0:m≠0):Rz m<t:=Nat.lt_of_le_of_lt (Aru h0) ((Nat.log2_lt h0).2 h)
theorem Alv (b:Nat) (g:Int):Jv b g=vAt (E8 (b:Int)) (A2 b) g:=by
  unfold Jv vAt E8
  rw [Axv]
  generalize 2^(A2 b-g).toNat=p
  unfold H2
  cases Bs b
  · exact Aye _ _
  · show -((Av b*p:Nat):Int)=-(Av b:Int)*(p:Int)
    rw [Aye,Int.neg_mul]
theorem Abp (b:Nat):(E8 (b:Int)).natAbs=Av b:=by
  unfold E8 H2
  rw [Axv]
  split<;>omega
theorem Ar8 (b:Nat):Dn (E8 (b:Int)).natAbs<3∧-400000≤eD (E8 (b:Int)) (A2 b)∧eD (E8 (b:Int)) (A2 b)≤400000:=by
  have hm:=E9 b
  have he:=El b
  have ha:=Abp b
  refine ⟨Ait (k:=2) (by rw [ha]; exact Nat.lt_trans hm (by decide)) (by omega),?_⟩
  unfold eD
  by_cases h:E8 (b:Int)=0
  · rw [if_pos h]; omega
  · rw [if_neg h]
    have:=Al2 (m:=(E8 (b:Int)).natAbs) (t:=53) (by rw [ha]; exact hm) (by omega)
    omega
theorem Acn {r:Nat} (h:r<2^63):C5 r=((2^63+r:Nat):Int):=by
  unfold C5; rw [Axv,Yj h]
theorem Ni {r:Nat} (h:r<2^63) (n:Bool):(bif n then (bif (Af (r:Int)) then some (DV.int .u64 (C5 r)) else none) else some (DV.int .u64 r))=some (DV.int .u64 ((Bk n r:Nat):Int)):=by
  cases n
  · rfl
  · rw [B9 (by omega),Acn h]; rfl
theorem Og (n:Bool) (m:Nat) (e:Int):T1 n m e=((Bk n (Ci m e):Nat):Int):=by
  unfold T1; rw [Axv]
theorem Agy {E M:Nat} (h1:1≤E) (h2:E≤2046) (h3:4503599627370496≤M) (h4:M<9007199254740992):E*2^52+M%2^52=min ((E-1)*2^52+M) D8:=by
  obtain ⟨k,rfl⟩:∃ k,E=k+1:=⟨E-1,by omega⟩
  obtain ⟨r,rfl⟩:∃ r,M=2^52+r:=⟨M-2^52,by omega⟩
  have hr:r<2^52:=by omega
  have hm:(2^52+r)%2^52=r:=by rw [Nat.add_mod_left,Ax6 hr]
  have hk:k*2^52≤2045*2^52:=Ax5 _ (by omega)
  have hi:D8=2045*2^52+2^52+2^52:=by unfold D8; rfl
  rw [hm,Nat.add_sub_cancel,Nat.succ_mul,hi]
  generalize 2^52=c at *
  omega
theorem soft.Pack.known:soft.Pack.Kn:=EqSoft.soft.Pack.Ac (.cons soft.Dk.known .nil) fun rk n m e hp hr=>by
  have hp:=Ar.1 (show Ky m e=true from hp)
  have hr:Pa m e<rk+1:=hr
  obtain ⟨m0,m1,e0,e1⟩:=hp
  obtain ⟨M,rfl⟩:∃ M:Nat,m=M:=⟨m.toNat,by omega⟩
  refine ⟨0,soft.Pack.out [.b n,.i M,.i e],[],?_,.int⟩
  rw [EqSoft.soft.Pack.ev]
  show _=some (DV.int .u64 (T1 n M e))
  rw [Og]
  unfold Pa at hr
  by_cases h0:M=0
  · subst h0
    have:=Ni (r:=0) (by decide) n
    have e0:Ci 0 e=0:=rfl
    rw [e0]
    simpa using this
  · have b0:((M:Int)==0)=false:=by simp; omega
    rw [b0,Axx]
    by_cases h1:M=9007199254740992
    · have b1:Ee (9007199254740992:Int) (M:Int)=true:=by rw [Ei]; simp; omega
      have s1:De .u64 (M:Int) (1:Int)=((2^52:Nat):Int):=by
        rw [show (1:Int)=((1:Nat):Int) from rfl,Ht .u64 M 1 (by decide),h1]
      have w1:Ab (e+1)=e+1:=Am (by omega) (by omega)
      rw [if_pos (by omega)] at hr
      have p1:Ky ((2^52:Nat):Int) (e+1)=true:=Ar.2 (by omega)
      have p2:Cu (Pa ((2^52:Nat):Int) (e+1)<rk)=true:=Ar.2 (by
        unfold Pa
        rw [if_neg (by omega),if_neg (by omega)]; omega)
      rw [b1,s1,w1,p1,p2,Og,h1]
      have:=(Eb (2^52) 1 (e+1)).1
      have e2:e+1-((1:Nat):Int)=e:=by omega
      rw [e2] at this
      rw [← this]; rfl
    · have b1:Ee (9007199254740992:Int) (M:Int)=false:=by rw [Ei]; simp; omega
      rw [b1,Axx]
      rw [if_neg (by omega)] at hr
      by_cases h2:M<4503599627370496
      · have b2:A4 (M:Int) (4503599627370496:Int)=true:=by rw [As]; simp; omega
        rw [if_pos (by omega)] at hr
        by_cases h3:e=-1074
        · subst h3
          have b3:A4 (-1074:Int) (-1074)=false:=by decide
          rw [b2,b3,Bool.true_and,Axx,Axt,Xu h2]
          exact Ni (by omega) n
        · have b3:A4 (-1074:Int) e=true:=by rw [As]; simp; omega
          have s1:B2 .u64 (M:Int) (1:Int)=((M*2^1:Nat):Int):=by
            rw [show (1:Int)=((1:Nat):Int) from rfl,Ff M 1 (by decide),Ax6 (by omega)]
          have w1:Ab (e-1)=e-1:=Am (by omega) (by omega)
          have p1:Ky ((M*2^1:Nat):Int) (e-1)=true:=Ar.2 (by omega)
          have p2:Cu (Pa ((M*2^1:Nat):Int) (e-1)<rk)=true:=Ar.2 (by
            unfold Pa
            rw [if_neg (by omega)]
            split<;>omega)
          rw [b2,b3,s1,w1,p1,p2,Og]
          have:=(Eb M 1 e).1
          have e2:e-((1:Nat):Int)=e-1:=by omega
          rw [e2] at this
          rw [this]; rfl
      · have b2:A4 (M:Int) (4503599627370496:Int)=false:=by rw [As]; simp; omega
        have w1:Ab (e+1075)=e+1075:=Am (by omega) (by omega)
        rw [b2,w1,Bool.false_and,Axx,Axx]
        have hr:=Mh (m:=M) (e:=e) (by omega) (by omega) e0
        by_cases h4:2047≤e+1075
        · have b4:Ee (2047:Int) (e+1075)=true:=by rw [Ei]; simp; omega
          have:Ci M e=9218868437227405312:=by rw [hr,H4]; omega
          rw [b4,this,Axt]
          exact Ni (r:=9218868437227405312) (by decide) n
        · have b4:Ee (2047:Int) (e+1075)=false:=by rw [Ei]; simp; omega
          obtain ⟨E,hE⟩:∃ E:Nat,e+1075=E:=⟨(e+1075).toNat,by omega⟩
          have s1:H7 .u64 (B2 .u64 (Bj (e+1075)) (52:Int)) (Et .u64 (M:Int) (4503599627370495:Int))=((Ci M e:Nat):Int):=by
            rw [hE,Di (by omega) (by omega),show (52:Int)=((52:Nat):Int) from rfl,Ff E 52 (by decide),Ax6 (by omega),
              show (4503599627370495:Int)=((2^52-1:Nat):Int) from rfl,I2 52 (by omega) (by decide),M5 (by omega) (by omega)]
            have hE2:(e+1074).toNat=E-1:=by omega
            have hE3:1≤E∧E≤2046:=by omega
            have hM:4503599627370496≤M∧M<9007199254740992:=by omega
            rw [hr,hE2]
            exact congrArg (fun (x:Nat)=>(x:Int)) (Agy hE3.1 hE3.2 hM.1 hM.2)
          rw [b4,s1,Axx]
          exact Ni (Wx M e) n
open EqSoft
theorem Al5 {D:Nat} (h:D≤63):2^D<2^64:=Nat.pow_lt_pow_right (by decide) (by omega)
theorem Pu (n:Bool) {r:Nat} (h:r<2^63):Gm .u64 ((Bk n r:Nat):Int) (9223372036854775808:Int)=(r:Int):=by
  have hs:Bk n r<2^64:=by unfold Bk; split<;>omega
  unfold Gm
  rw [show (9223372036854775808:Int)=((2^63:Nat):Int) from rfl,BitVec.toNat_and,BitVec.toNat_not,Iy,Iy,show IntKind.u64.bits=64 from rfl,Ax6 hs,
    show 2^64-1-2^63%2^64=2^63-1 by decide,Nat.and_two_pow_sub_one_eq_mod]
  have:Bk n r%2^63=r:=by unfold Bk; cases n<;>simp<;>omega
  rw [this]
  exact Th (by omega)
theorem Ag2 (N:Nat) (ex n:Bool) {r:Nat} (h:r≤D8):soft.Dd.C18 N ex ((Bk n r:Nat):Int)=some (.tup [.int .u64 ((Bk n r:Nat):Int),.int .u8 ((flags r ex:Nat):Int)]):=by
  have h63:r<2^63:=by rw [H4] at h; omega
  have hs:Bk n r<2^64:=by unfold Bk; split<;>omega
  rw [soft.Dd.Att,Pu n h63,B9 hs]
  unfold Bd flags
  rw [Axv,Vl n h]
  have hinf:(((r:Nat):Int)==(9218868437227405312:Int))=decide (r=D8):=by
    rw [H4,Ax9]; simp; omega
  rw [hinf]
  by_cases h1:r=D8
  · simp [h1]
  · by_cases h2:2^52≤r
    · cases ex<;>simp [h1]<;>simp [show 4503599627370496≤r by omega]
    · by_cases h3:0<r
      · cases ex<;>simp [h1,h3]<;>simp [show ¬ 4503599627370496≤r by omega]
      · cases ex<;>simp [h1,h3]<;>simp [show ¬ 4503599627370496≤r by omega]
theorem Akj (N:Nat) (n:Bool) {m:Nat} {e:Int} (he:-1140≤e∧e≤50000) (r:Bool):∀ (k d F:Nat),d+k=62→k<F→(∀ d',d'<d→2^53≤m / 2^d'∨e+d' < -1074) →
    ∃ D:Nat,soft.Dd.L0 N F n m e r (d:Int)=soft.Dd.C7 N n m e r (D:Int)∧Drop m e D:=by
  intro k
  induction k with
  | zero =>
    intro d F hd hF hl
    obtain ⟨F,rfl⟩:∃ G,F=G+1:=⟨F-1,by omega⟩
    obtain rfl:d=62:=by omega
    rw [soft.Dd.Au,Ht .u64 m 62 (by decide),Am (by omega) (by omega),Am (by omega) (by omega),Ei,As]
    have a0:decide ((0:Int)≤((62:Nat):Int))=true:=by decide
    have a1:((((62:Nat):Int)+1)==63)=true:=by decide
    rw [a0,Axt,a1,Axt]
    by_cases h:2^53≤m / 2^62∨e+(62:Nat) < -1074
    · refine ⟨63,?_,by omega,by omega,fun d' hd'=>?_⟩
      · have:(decide ((9007199254740992:Int)≤((m / 2^62:Nat):Int))||decide (e+((62:Nat):Int) < -1074))=true:=by
          simp only [Bool.or_eq_true,Ax0]; omega
        rw [this]; rfl
      · rcases Nat.lt_or_ge d' 62 with h' | h'
        · exact hl d' h'
        · obtain rfl:d'=62:=by omega
          exact h
    · refine ⟨62,?_,by omega,fun _=>by omega,hl⟩
      have:(decide ((9007199254740992:Int)≤((m / 2^62:Nat):Int))||decide (e+((62:Nat):Int) < -1074))=false:=by
        simp only [Bool.or_eq_false_iff,Ayc]; omega
      rw [this]; rfl
  | succ k ih =>
    intro d F hd hF hl
    obtain ⟨F,rfl⟩:∃ G,F=G+1:=⟨F-1,by omega⟩
    rw [soft.Dd.Au,Ht .u64 m d (by show d≤64; omega),Am (by omega) (by omega),Am (by omega) (by omega),Ei,As]
    have a0:decide ((0:Int)≤(d:Int))=true:=by simp
    have a1:(((d:Int)+1)==63)=false:=by simp; omega
    rw [a0,Axt,a1,Axx]
    by_cases h:2^53≤m / 2^d∨e+d < -1074
    · have:(decide ((9007199254740992:Int)≤((m / 2^d:Nat):Int))||decide (e+(d:Int) < -1074))=true:=by
        simp only [Bool.or_eq_true,Ax0]; omega
      rw [this,Axt,show (d:Int)+1=((d+1:Nat):Int) by omega]
      refine ih (d+1) F (by omega) (by omega) fun d' hd'=>?_
      rcases Nat.lt_or_ge d' d with h' | h'
      · exact hl d' h'
      · obtain rfl:d'=d:=by omega
        exact h
    · refine ⟨d,?_,by omega,fun _=>by omega,hl⟩
      have:(decide ((9007199254740992:Int)≤((m / 2^d:Nat):Int))||decide (e+(d:Int) < -1074))=false:=by
        simp only [Bool.or_eq_false_iff,Ayc]; omega
      rw [this]; rfl
theorem Aki (N:Nat) (n:Bool) {m D:Nat} (hm:m<2^64) {e:Int} (he:-1140≤e∧e≤50000) (r:Bool) (hD:D≤63) (hq:(if e+D < -1074 then 0 else qOf m D r.toNat)≤2^53) :
    soft.Dd.C7 N n m e r (D:Int)=soft.Dd.C18 N (decide (m%2^D=0∧r.toNat=0)) ((Bk n (Ci (if e+D < -1074 then 0 else qOf m D r.toNat) (max (e+D) (-1074))):Nat):Int):=by
  have hA:=Cj D
  have h2D:=Al5 hD
  have hr:=Nat.mod_lt m hA
  have hqm:m / 2^D≤m:=Nat.div_le_self _ _
  rw [soft.Dd.Avr]
  have a0:decide ((0:Int)≤(D:Int))=true:=by simp
  have e1:De .u64 (m:Int) (D:Int)=((m / 2^D:Nat):Int):=Ht .u64 m D (by show D≤64; omega)
  have e2:B2 .u64 (1:Int) (D:Int)=((2^D:Nat):Int):=by
    rw [show (1:Int)=((1:Nat):Int) from rfl,Ff 1 D (by omega),Nat.one_mul,Ax6 h2D]
  have e3:Et .u64 (m:Int) (Bj (B2 .u64 (1:Int) (D:Int)-(1:Int)))=((m%2^D:Nat):Int):=by
    rw [e2,Di (by omega) (by omega),show ((2^D:Nat):Int)-1=((2^D-1:Nat):Int) by omega,I2 D hm (by omega)]
  have e5:(bif (((m%2^D:Nat):Int)==(0:Int)) then (!r) else false)=decide (m%2^D=0∧r.toNat=0):=by
    by_cases h:m%2^D=0
    · cases r<;>simp [h]
    · have:(((m%2^D:Nat):Int)==(0:Int))=false:=by simp only [beq_eq_false_iff_ne,ne_eq]; omega
      rw [this]; simp [h]
  rw [a0,Axt,Axt,e1,e3,e5,As]
  have last:∀ (p:Bool) (q:Nat),q≤2^64-1→(if e+D < -1074 then 0 else q)≤2^53→soft.Dd.C14 N n e (D:Int) ((q:Nat):Int) p=soft.Dd.C18 N p ((Bk n (Ci (if e+D < -1074 then 0 else q) (max (e+D) (-1074))):Nat):Int):=by
    intro p q hq hq2
    rw [soft.Dd.Atw,Am (by omega) (by omega),As]
    have c16:∀ q':Nat,q'≤2^53→soft.Dd.C16 N n e (q':Int) (D:Int) p=soft.Dd.C18 N p ((Bk n (Ci q' (max (e+D) (-1074))):Nat):Int):=by
      intro q' hq'
      rw [soft.Dd.Atv,Am (by omega) (by omega)]
      have:Ky (q':Int) (max (e+(D:Int)) (-1074))=true:=Ar.2 (by omega)
      rw [this,Og]; rfl
    by_cases h:e+D < -1074
    · rw [if_pos h] at hq2 ⊢
      have:decide (e+(D:Int) < -1074)=true:=by simpa using h
      rw [this]
      exact c16 0 hq2
    · rw [if_neg h] at hq2 ⊢
      have:decide (e+(D:Int) < -1074)=false:=by simpa using h
      rw [this]
      exact c16 q hq2
  have up:∀ (half:Nat) (hh:0<D→half=2^(D-1)) (p:Bool),soft.Dd.C12 N n e r (D:Int) ((m / 2^D:Nat):Int) ((m%2^D:Nat):Int) (half:Int) p=soft.Dd.C18 N p ((Bk n (Ci (if e+D < -1074 then 0 else qOf m D r.toNat) (max (e+D) (-1074))):Nat):Int):=by
    intro half hh p
    rw [soft.Dd.Atx,As,As]
    have odd:(Et .u64 ((m / 2^D:Nat):Int) (1:Int)==(1:Int))=decide (m / 2^D%2=1):=by
      rw [show (1:Int)=((2^1-1:Nat):Int) from rfl,I2 1 (by omega) (by decide),Ax9]
      simp only [beq_iff_eq,Ax0]
      omega
    rw [odd]
    have test:(decide ((0:Int)<(D:Int))&&(decide ((half:Int)<((m%2^D:Nat):Int))||((((m%2^D:Nat):Int)==(half:Int))&&(r||decide (m / 2^D%2=1))))) =
        decide (0<D∧(2^(D-1)<m%2^D∨(m%2^D=2^(D-1)∧(r.toNat=1∨m / 2^D%2=1)))):=by
      rw [Ax9]
      generalize m%2^D=rr
      generalize m / 2^D=qq
      generalize hg:2^(D-1)=gg at hh
      by_cases h0:0<D
      · have:=hh h0
        subst this
        cases r<;>simp [h0]<;>omega
      · simp [h0]
    rw [test]
    by_cases ht:0<D∧(2^(D-1)<m%2^D∨(m%2^D=2^(D-1)∧(r.toNat=1∨m / 2^D%2=1)))
    · have hq1:qOf m D r.toNat=m / 2^D+1:=by unfold qOf; rw [if_pos ht]
      have hlt:m / 2^D+1<2^64:=by
        obtain ⟨d,rfl⟩:∃ d,D=d+1:=⟨D-1,by omega⟩
        have h1:m / 2^(d+1)≤m / 2:=Nat.div_le_div_left (by rw [Nat.pow_succ]; have:=Cj d; omega) (by decide)
        omega
      rw [hq1] at hq ⊢
      rw [Axu ht,Axt,Di (by omega) (by omega),show ((m / 2^D:Nat):Int)+1=((m / 2^D+1:Nat):Int) by omega]
      exact last p _ (by omega) hq
    · have hq1:qOf m D r.toNat=m / 2^D:=by unfold qOf; rw [if_neg ht]; rfl
      rw [hq1] at hq ⊢
      rw [Axy ht,Axx]
      exact last p _ (by omega) hq
  rcases Nat.eq_zero_or_pos D with rfl | hpos
  · have:decide ((0:Int)<((0:Nat):Int))=false:=by decide
    rw [this,Axx]
    exact up 0 (fun h=>absurd h (by omega)) _
  · have h1:decide ((0:Int)<(D:Int))=true:=by simpa using hpos
    have h2:Ab ((D:Int)-1)=((D-1:Nat):Int):=by rw [Am (by omega) (by omega)]; omega
    have h3:decide ((0:Int)≤((D-1:Nat):Int))=true:=by simp
    have h4:B2 .u64 (1:Int) ((D-1:Nat):Int)=((2^(D-1):Nat):Int):=by
      rw [show (1:Int)=((1:Nat):Int) from rfl,Ff 1 (D-1) (by omega),Nat.one_mul,Ax6 (Al5 (by omega))]
    rw [h1,Axt,h2,h3,Axt,h4]
    exact up _ (fun _=>rfl) _
theorem soft.Dd.known:soft.Dd.Kn:=soft.Dd.Ac (.cons soft.Kind.known (.cons soft.Pack.known .nil)) fun n m e r hp=>by
  obtain ⟨m0,m1,e1,e2,hr⟩:=Ar.1 (show Ec m e r=true from hp)
  obtain ⟨M,rfl⟩:∃ M:Nat,m=M:=⟨m.toNat,by omega⟩
  refine ⟨63,soft.Dd.out [.b n,.i M,.i e,.b r],[],?_,Wk.Gw (.cons .int (.cons .int .nil))⟩
  show _=some (DV.tup [.int .u64 (E1 n M e r),.int .u8 (E0 n M e r)])
  unfold E1 E0 Gf
  rw [Axv,soft.Dd.ev]
  dsimp only
  by_cases h0:M=0∧r=false
  · obtain ⟨rfl,rfl⟩:=h0
    have:Ky (0:Int) (-1074)=true:=Ar.2 (by omega)
    have hp0:=Og n 0 (-1074)
    rw [this]
    simp only [Bool.not_false,Bool.and_true,Axt,Bool.toNat_false]
    have hz:(((0:Nat):Int)==0)=true:=rfl
    rw [hz,Axt]
    have hp0:T1 n (0:Int) (-1074)=((Bk n (Ci 0 (-1074)):Nat):Int):=hp0
    have z:∀ E,Ci 0 E=0:=fun E=>if_pos rfl
    have z3:∀ E,flagsOf 0 E=0:=fun E=>if_pos rfl
    rw [hp0,z,show 4*0+0=0 from rfl,z,z3]
    rfl
  · have hc:((((M:Nat):Int)==(0:Int))&&!r)=false:=by
      cases r
      · have:M≠0:=fun h=>h0 ⟨h,rfl⟩
        simp; omega
      · simp
    rw [hc,Axx]
    have he:-1140≤e∧e≤50000:=by omega
    obtain ⟨D,hl,hD⟩:=Akj 63 n (m:=M) he r 62 0 63 (by omega) (by omega) (fun d' h=>by omega)
    have hs:r.toNat≤1:=by cases r<;>decide
    have hV:4*M+r.toNat≠0:=by
      intro h
      refine h0 ⟨by omega,?_⟩
      cases r
      · rfl
      · simp at h
    obtain ⟨t1,t2,t3⟩:=Akl hD hs hV (by omega) (by omega) (fun h=>by
      have:r=true:=by cases r<;>simp_all
      have:=hr this
      omega)
    have hl:soft.Dd.L0 63 63 n (M:Int) e r (0:Int)=soft.Dd.C7 63 n (M:Int) e r (D:Int):=hl
    rw [hl,Aki 63 n (by omega) he r hD.le t3,← t1,Ag2 63 _ n (Kw _ _),t2]
namespace EqSum
def sum.right.A6:List (Nat × Entry):=[]
def sum.right.E:Env:=A9 (A5 sum.right.A6) (fun _=>false) (fun _=>none) (fun _=>none)
theorem sum.right.ev (N:Nat) (m d:Int):Bp sum.right.E N Tryz.f249 (An Tryz.f249) [.int .u64 m,.int .i64 d]=bif (A4 63 d) then bif ((B2 .u64 (De .u64 m 63) 63) !=m) then some (.int .u64 (H7 .u64 (De .u64 m 63) 1)) else some (.int .u64 (De .u64 m 63)) else bif (decide (0≤d)) then bif (decide (0≤d)) then bif ((B2 .u64 (De .u64 m d) d) !=m) then some (.int .u64 (H7 .u64 (De .u64 m d) 1)) else some (.int .u64 (De .u64 m d)) else none else none:=by kernel_rfl
abbrev _root_.Go.Proofs.S1.sum.right.Kn:=A3 Tryz.prog 249 sum.right.spec
theorem sum.right.Ac (hk:Ax Tryz.prog sum.right.A6) (h:∀ (m d:Int),sum.right.pre [.i m,.i d]=true→A8 sum.right.E Tryz.f249 [.int .u64 m,.int .i64 d] (sum.right.out [.i m,.i d])):sum.right.Kn :=
  Ak (Az hk _ _ _) Tryz.func249 (by kernel_rfl) (by kernel_rfl) h
def sum.Eo.A6:List (Nat × Entry):=[(148,soft.Finite.spec),(155,soft.Kind.spec)]
def sum.Eo.E:Env:=A9 (A5 sum.Eo.A6) (fun _=>false) (fun _=>none) (fun _=>none)
theorem sum.Eo.ev (N:Nat) (a b:Int):Bp sum.Eo.E N Tryz.f248 (An Tryz.f248) [.int .u64 a,.int .u64 b]=bif (Af a) then bif ((Bd a)==(4:Int)) then some (.tup [.int .u64 9221120237041090560,.int .u8 0]) else bif (Af b) then bif ((Bd b)==(4:Int)) then some (.tup [.int .u64 9221120237041090560,.int .u8 0]) else bif (Af a) then bif (Cq a) then some (.tup [.int .u64 b,.int .u8 0]) else bif (Af b) then bif ((Cq b)||(a==b)) then some (.tup [.int .u64 a,.int .u8 0]) else some (.tup [.int .u64 9221120237041090560,.int .u8 16]) else none else none else none else none :=
  Eq.trans (by kernel_rfl)
  (Ej (Ej rfl (Ej (Ej rfl (Ej (Ej rfl (Ej (Aw (R7 (Cq b)) (Aw (R7 (Cq b)) (Aw (tt8 (Cq b)) (Aw (Wt (Cq b)) (C2 (tt5 (Cq b) (a==b)) rfl rfl))))) rfl)) rfl)) rfl)) rfl)
abbrev _root_.Go.Proofs.S1.sum.Eo.Kn:=A3 Tryz.prog 248 sum.Eo.spec
theorem sum.Eo.Ac (hk:Ax Tryz.prog sum.Eo.A6) (h:∀ (a b:Int),sum.Eo.pre [.i a,.i b]=true→A8 sum.Eo.E Tryz.f248 [.int .u64 a,.int .u64 b] (sum.Eo.out [.i a,.i b])):sum.Eo.Kn :=
  Ak (Az hk _ _ _) Tryz.func248 (by kernel_rfl) (by kernel_rfl) h
def sum.Add.A6:List (Nat × Entry):=[(148,soft.Finite.spec),(212,soft.Dd.spec),(211,soft.F7.spec),(213,soft.Sign.spec),(249,sum.right.spec),(248,sum.Eo.spec)]
def sum.Add.E:Env:=A9 (A5 sum.Add.A6) (fun _=>false) (fun _=>none) (fun _=>none)
theorem sum.Add.ev (N:Nat) (a b:Int):Bp sum.Add.E N Tryz.f232 (An Tryz.f232) [.int .u64 a,.int .u64 b]=bif (Af a) then bif ((!(Cq a))||(Af b)) then bif ((!(Cq a))||(!(Cq b))) then bif ((Af a&&Af b)&&(!(Cq a)||!(Cq b))) then some (.tup [.int .u64 (Jq a b),.int .u8 (Wi a b)]) else none else bif (Af a) then bif (Af b) then bif (Af a) then bif (Af b) then bif (A4 (Bh a) (Bh b)) then bif (Af (B2 .u64 (Bt a) 9)&&Cu (0≤(Ab ((Bh b)-(Bh a)))∧(Ab ((Bh b)-(Bh a)))<1000000)) then bif ((Dp b)==(Dp a)) then bif (Ec (Bj ((B2 .u64 (Bt b) 9)+(Fb (B2 .u64 (Bt a) 9) (Ab ((Bh b)-(Bh a)))))) (Ab ((Bh b)-9)) false) then some (.tup [.int .u64 (E1 (Dp b) (Bj ((B2 .u64 (Bt b) 9)+(Fb (B2 .u64 (Bt a) 9) (Ab ((Bh b)-(Bh a)))))) (Ab ((Bh b)-9)) false),.int .u8 (E0 (Dp b) (Bj ((B2 .u64 (Bt b) 9)+(Fb (B2 .u64 (Bt a) 9) (Ab ((Bh b)-(Bh a)))))) (Ab ((Bh b)-9)) false)]) else none else bif (A4 (Fb (B2 .u64 (Bt a) 9) (Ab ((Bh b)-(Bh a)))) (B2 .u64 (Bt b) 9)) then bif (Ec (Bj ((B2 .u64 (Bt b) 9)-(Fb (B2 .u64 (Bt a) 9) (Ab ((Bh b)-(Bh a)))))) (Ab ((Bh b)-9)) false) then some (.tup [.int .u64 (E1 (Dp b) (Bj ((B2 .u64 (Bt b) 9)-(Fb (B2 .u64 (Bt a) 9) (Ab ((Bh b)-(Bh a)))))) (Ab ((Bh b)-9)) false),.int .u8 (E0 (Dp b) (Bj ((B2 .u64 (Bt b) 9)-(Fb (B2 .u64 (Bt a) 9) (Ab ((Bh b)-(Bh a)))))) (Ab ((Bh b)-9)) false)]) else none else bif (A4 (B2 .u64 (Bt b) 9) (Fb (B2 .u64 (Bt a) 9) (Ab ((Bh b)-(Bh a))))) then bif (Ec (Bj ((Fb (B2 .u64 (Bt a) 9) (Ab ((Bh b)-(Bh a))))-(B2 .u64 (Bt b) 9))) (Ab ((Bh b)-9)) false) then some (.tup [.int .u64 (E1 (Dp a) (Bj ((Fb (B2 .u64 (Bt a) 9) (Ab ((Bh b)-(Bh a))))-(B2 .u64 (Bt b) 9))) (Ab ((Bh b)-9)) false),.int .u8 (E0 (Dp a) (Bj ((Fb (B2 .u64 (Bt a) 9) (Ab ((Bh b)-(Bh a))))-(B2 .u64 (Bt b) 9))) (Ab ((Bh b)-9)) false)]) else none else some (.tup [.int .u64 0,.int .u8 0]) else none else bif (Af (B2 .u64 (Bt b) 9)&&Cu (0≤(Ab ((Bh a)-(Bh b)))∧(Ab ((Bh a)-(Bh b)))<1000000)) then bif ((Dp a)==(Dp b)) then bif (Ec (Bj ((B2 .u64 (Bt a) 9)+(Fb (B2 .u64 (Bt b) 9) (Ab ((Bh a)-(Bh b)))))) (Ab ((Bh a)-9)) false) then some (.tup [.int .u64 (E1 (Dp a) (Bj ((B2 .u64 (Bt a) 9)+(Fb (B2 .u64 (Bt b) 9) (Ab ((Bh a)-(Bh b)))))) (Ab ((Bh a)-9)) false),.int .u8 (E0 (Dp a) (Bj ((B2 .u64 (Bt a) 9)+(Fb (B2 .u64 (Bt b) 9) (Ab ((Bh a)-(Bh b)))))) (Ab ((Bh a)-9)) false)]) else none else bif (A4 (Fb (B2 .u64 (Bt b) 9) (Ab ((Bh a)-(Bh b)))) (B2 .u64 (Bt a) 9)) then bif (Ec (Bj ((B2 .u64 (Bt a) 9)-(Fb (B2 .u64 (Bt b) 9) (Ab ((Bh a)-(Bh b)))))) (Ab ((Bh a)-9)) false) then some (.tup [.int .u64 (E1 (Dp a) (Bj ((B2 .u64 (Bt a) 9)-(Fb (B2 .u64 (Bt b) 9) (Ab ((Bh a)-(Bh b)))))) (Ab ((Bh a)-9)) false),.int .u8 (E0 (Dp a) (Bj ((B2 .u64 (Bt a) 9)-(Fb (B2 .u64 (Bt b) 9) (Ab ((Bh a)-(Bh b)))))) (Ab ((Bh a)-9)) false)]) else none else bif (A4 (B2 .u64 (Bt a) 9) (Fb (B2 .u64 (Bt b) 9) (Ab ((Bh a)-(Bh b))))) then bif (Ec (Bj ((Fb (B2 .u64 (Bt b) 9) (Ab ((Bh a)-(Bh b))))-(B2 .u64 (Bt a) 9))) (Ab ((Bh a)-9)) false) then some (.tup [.int .u64 (E1 (Dp b) (Bj ((Fb (B2 .u64 (Bt b) 9) (Ab ((Bh a)-(Bh b))))-(B2 .u64 (Bt a) 9))) (Ab ((Bh a)-9)) false),.int .u8 (E0 (Dp b) (Bj ((Fb (B2 .u64 (Bt b) 9) (Ab ((Bh a)-(Bh b))))-(B2 .u64 (Bt a) 9))) (Ab ((Bh a)-9)) false)]) else none else some (.tup [.int .u64 0,.int .u8 0]) else none else none else none else none else none else none else none :=
  Eq.trans (by kernel_rfl)
  (Ej (Aw (Abr (Cq a)) (C2 (Al8 (Cq a) (Af b)) (Aw (R0 (Cq a)) (Aw (Abt (Cq a)) (C2 (Al9 (Cq a) (Cq b)) rfl rfl))) rfl)) rfl)
abbrev _root_.Go.Proofs.S1.sum.Add.Kn:=A3 Tryz.prog 232 sum.Add.spec
theorem sum.Add.Ac (hk:Ax Tryz.prog sum.Add.A6) (h:∀ (a b:Int),sum.Add.pre [.i a,.i b]=true→A8 sum.Add.E Tryz.f232 [.int .u64 a,.int .u64 b] (sum.Add.out [.i a,.i b])):sum.Add.Kn :=
  Ak (Az hk _ _ _) Tryz.func232 (by kernel_rfl) (by kernel_rfl) h
def sum.Sub.A6:List (Nat × Entry):=[(233,soft.Dk.spec),(232,sum.Add.spec)]
def sum.Sub.E:Env:=A9 (A5 sum.Sub.A6) (fun _=>false) (fun _=>none) (fun _=>none)
theorem sum.Sub.ev (N:Nat) (a b:Int):Bp sum.Sub.E N Tryz.f207 (An Tryz.f207) [.int .u64 a,.int .u64 b]=bif (Af b) then bif (Af a&&Af (C5 b)) then some (.tup [.int .u64 (Jq a (C5 b)),.int .u8 (Wi a (C5 b))]) else none else none:=by kernel_rfl
abbrev _root_.Go.Proofs.S1.sum.Sub.Kn:=A3 Tryz.prog 207 sum.Sub.spec
theorem sum.Sub.Ac (hk:Ax Tryz.prog sum.Sub.A6) (h:∀ (a b:Int),sum.Sub.pre [.i a,.i b]=true→A8 sum.Sub.E Tryz.f207 [.int .u64 a,.int .u64 b] (sum.Sub.out [.i a,.i b])):sum.Sub.Kn :=
  Ak (Az hk _ _ _) Tryz.func207 (by kernel_rfl) (by kernel_rfl) h
end EqSum
open EqSum
theorem As1 (q:Nat):q ||| 1=2*(q / 2)+1:=by
  have e:q%2 ||| (q / 2*2^1)=q / 2*2^1+q%2:=Ms (Nat.mod_lt _ (by decide))
  have e1:1 ||| (q / 2*2^1)=q / 2*2^1+1:=Ms (k:=1) (by decide)
  have hq:q / 2*2^1+q%2=q:=by omega
  rw [hq] at e
  rcases Nat.mod_two_eq_zero_or_one q with h | h
  · rw [h,Nat.zero_or] at e
    rw [e,Nat.or_comm] at e1
    omega
  · rw [h] at e
    have:q ||| 1=q:=by
      conv=>lhs; rw [← e]
      rw [Nat.or_comm 1,Nat.or_assoc,Nat.or_self,Nat.or_comm,e]
    omega
theorem Xx {n s:Nat} (hn:n<2^64) (hs:s≤63) :
    (bif ((B2 .u64 (De .u64 (n:Int) (s:Int)) (s:Int)) !=(n:Int)) then
      some (DV.int .u64 (H7 .u64 (De .u64 (n:Int) (s:Int)) (1:Int)))
    else some (.int .u64 (De .u64 (n:Int) (s:Int))))=some (.int .u64 ((Fs n s:Nat):Int)):=by
  have hq:n / 2^s≤n:=Nat.div_le_self _ _
  have hm:n / 2^s*2^s≤n:=Nat.div_mul_le_self _ _
  have hd:=Nat.div_add_mod n (2^s)
  rw [Nat.mul_comm] at hd
  rw [Ht .u64 n s (by show s≤64; omega),Ff _ s (by omega),Ax6 (by omega)]
  have h1:H7 .u64 ((n / 2^s:Nat):Int) (1:Int)=((n / 2^s ||| 1:Nat):Int):=Ux (by omega) (by decide)
  rw [h1,As1]
  unfold Fs
  by_cases h:n%2^s=0
  · have:((((n / 2^s*2^s:Nat):Int)) !=(n:Int))=false:=by
      simp only [bne_eq_false_iff_eq]; omega
    rw [this,if_pos h,Axx]
  · have:((((n / 2^s*2^s:Nat):Int)) !=(n:Int))=true:=by
      simp only [bne_iff_ne,ne_eq]; omega
    rw [this,if_neg h,Axt]
theorem sum.right.known:sum.right.Kn:=sum.right.Ac .nil fun m d hp=>by
  obtain ⟨h1,h2⟩:=Ad.1 hp
  obtain ⟨n,rfl,hn⟩:=Bl h1
  have h2:=Ar.1 h2
  obtain ⟨d,rfl⟩:∃ k:Nat,d=k:=⟨d.toNat,by omega⟩
  refine ⟨0,sum.right.out [.i n,.i d],[],?_,.int⟩
  rw [sum.right.ev,As]
  show _=some (DV.int .u64 (Fb n d))
  unfold Fb
  rw [Axv,Axv]
  by_cases h:63<d
  · have:decide ((63:Int)<(d:Int))=true:=by simp; omega
    rw [this,Axt,Nat.min_eq_right (by omega)]
    exact Xx hn (Nat.le_refl 63)
  · have:decide ((63:Int)<(d:Int))=false:=by simp; omega
    have h0:decide ((0:Int)≤(d:Int))=true:=by simp
    rw [this,Axx,h0,Axt,Axt,Nat.min_eq_left (by omega)]
    exact Xx hn (by omega)
theorem Ahy:((P0:Nat):Int)=9221120237041090560:=rfl
theorem sum.Eo.known:sum.Eo.Kn:=sum.Eo.Ac (.cons soft.Finite.known (.cons soft.Kind.known .nil)) fun a b hp=>by
  obtain ⟨h1,h2⟩:=Ad.1 hp
  obtain ⟨ha,hb⟩:=Ad.1 h1
  obtain ⟨a,rfl,hn⟩:=Bl ha
  obtain ⟨b,rfl,hm⟩:=Bl hb
  refine ⟨0,sum.Eo.out [.i a,.i b],[],?_,Wk.Gw (.cons .int (.cons .int .nil))⟩
  rw [sum.Eo.ev,ha,hb]
  show _=some (DV.tup [.int .u64 (Jq a b),.int .u8 (Wi a b)])
  unfold Jq Wi Ku Bd Cq
  simp only [Axv,Axt]
  unfold Cq at h2
  simp only [Axv] at h2
  by_cases a4:Al a=4
  · simp [a4,Ahy]
  · have e4:((Al a:Int)==4)=false:=by simp; omega
    rw [e4,Axx]
    by_cases b4:Al b=4
    · simp [b4,Ahy]
    · have f4:((Al b:Int)==4)=false:=by simp; omega
      rw [f4,Axx]
      have ka:=Yu a
      have kb:=Yu b
      by_cases a3:Al a=3
      · have fa:J4 a=false:=by rw [ka]; simp [a3]
        rw [fa,Axx]
        by_cases b3:Al b=3
        · have fb:J4 b=false:=by rw [kb]; simp [b3]
          rw [fb]
          by_cases hab:a=b
          · subst hab; simp [a3]
          · have hab':((a:Int)==(b:Int))=false:=by simp; omega
            rw [hab']
            simp [a3,b3,hab,Ahy]
        · have fb:J4 b=true:=by rw [kb]; simp [b3,b4]
          rw [fb]
          simp [a3,b3,b4]
      · have fa:J4 a=true:=by rw [ka]; simp [a3,a4]
        have b3:Al b=3:=by
          rw [fa,kb] at h2
          simp [b4] at h2
          exact h2
        rw [fa,Axt]
        simp [a3,b3,a4]
def Ah9 (na nb:Bool) (X r:Nat) (e:Int):Nat × Nat :=
  if na=nb then Gf na (X+r) e false else if r<X then Gf na (X-r) e false else if X<r then Gf nb (r-X) e false else (0,0)
theorem Vg {na:Bool} {m:Int} {n:Nat} {e e':Int} (h:m=n) (he:e'=e) (hn:n<2^64) (h1:-1100≤e) (h2:e≤1000) :
    (bif Ec m e' false then some (DV.tup [.int .u64 (E1 na m e' false),.int .u8 (E0 na m e' false)]) else none)
      = some (.tup [.int .u64 (((Gf na n e false).1:Nat):Int),.int .u8 (((Gf na n e false).2:Nat):Int)]):=by
  subst h; subst he
  have hp:Ec (n:Int) e' false=true:=Ar.2 ⟨by omega,by omega,by omega,.inl (by omega),fun h=>by cases h⟩
  rw [hp,Axt]
  unfold E1 E0
  rw [Axv]
theorem Af5 (na nb:Bool) {X r:Nat} {e e':Int} (hX:X<2^62) (hr:r≤2^62) (h:e'=e) (h1:-1100≤e) (h2:e≤1000) :
    (bif (na==nb) then
      bif Ec (Bj ((X:Int)+(r:Int))) e' false then some (DV.tup [.int .u64 (E1 na (Bj ((X:Int)+(r:Int))) e' false),.int .u8 (E0 na (Bj ((X:Int)+(r:Int))) e' false)]) else none
    else bif A4 (r:Int) (X:Int) then
      bif Ec (Bj ((X:Int)-(r:Int))) e' false then some (DV.tup [.int .u64 (E1 na (Bj ((X:Int)-(r:Int))) e' false),.int .u8 (E0 na (Bj ((X:Int)-(r:Int))) e' false)]) else none
    else bif A4 (X:Int) (r:Int) then
      bif Ec (Bj ((r:Int)-(X:Int))) e' false then some (DV.tup [.int .u64 (E1 nb (Bj ((r:Int)-(X:Int))) e' false),.int .u8 (E0 nb (Bj ((r:Int)-(X:Int))) e' false)]) else none
    else some (.tup [.int .u64 (0:Int),.int .u8 (0:Int)])) =
      some (.tup [.int .u64 (((Ah9 na nb X r e).1:Nat):Int),.int .u8 (((Ah9 na nb X r e).2:Nat):Int)]):=by
  unfold Ah9
  rw [As,As]
  by_cases hs:na=nb
  · have:(na==nb)=true:=by simp [hs]
    rw [this,Axt,if_pos hs]
    exact Vg (by rw [Di (by omega) (by omega)]; omega) h (by omega) h1 h2
  · have:(na==nb)=false:=by simp [hs]
    rw [this,Axx,if_neg hs]
    by_cases hl:r<X
    · have:decide ((r:Int)<(X:Int))=true:=by simp; omega
      rw [this,Axt,if_pos hl]
      exact Vg (by rw [Di (by omega) (by omega)]; omega) h (by omega) h1 h2
    · have:decide ((r:Int)<(X:Int))=false:=by simp; omega
      rw [this,Axx,if_neg hl]
      by_cases hg:X<r
      · have:decide ((X:Int)<(r:Int))=true:=by simp; omega
        rw [this,Axt,if_pos hg]
        exact Vg (by rw [Di (by omega) (by omega)]; omega) h (by omega) h1 h2
      · have:decide ((X:Int)<(r:Int))=false:=by simp; omega
        rw [this,Axx,if_neg hg]
        rfl
theorem Ajd {a b:Nat} (ha:J4 a=true) (hb:J4 b=true) (hle:A2 b≤A2 a) :
    ∃ X r:Nat,X<2^62∧r≤2^62∧B2 .u64 (Bt a) (9:Int)=(X:Int)∧Fb (B2 .u64 (Bt b) (9:Int)) (Ab (Bh a-Bh b))=(r:Int)
      ∧ Ab (Bh a-9)=A2 a-9
      ∧ (Af (B2 .u64 (Bt b) (9:Int))&&Cu (0≤(Ab ((Bh a)-(Bh b)))∧(Ab ((Bh a)-(Bh b)))<1000000))=true
      ∧ Ah9 (Dp a) (Dp b) X r (A2 a-9)=Ku a b:=by
  obtain ⟨d,hd⟩:∃ d:Nat,A2 a=A2 b+d:=⟨(A2 a-A2 b).toNat,by omega⟩
  have hx:=E9 a
  have hy:=E9 b
  have ea:=El a
  have eb:=El b
  have C:=Af4 (Mx:=Av a) (My:=Av b) hd hx hy (fun h=>Aar (by omega))
  have sh:∀ m:Nat,m<2^53→B2 .u64 (m:Int) (9:Int)=((m*2^9:Nat):Int):=fun m hm=>by
    have:=Ff m 9 (by decide)
    rw [Ax6 (by omega)] at this
    exact this
  have h2:Ab (Bh a-Bh b)=(d:Int):=by
    unfold Bh
    rw [Axv,Axv,Am (by omega) (by omega)]; omega
  have s1:B2 .u64 (Bt a) (9:Int)=((Av a*2^9:Nat):Int):=by
    unfold Bt; rw [Axv]; exact sh _ hx
  have s2:B2 .u64 (Bt b) (9:Int)=((Av b*2^9:Nat):Int):=by
    unfold Bt; rw [Axv]; exact sh _ hy
  refine ⟨Av a*2^9,Fs (Av b*2^9) (min d 63),by omega,C.small,s1,?_,?_,?_,?_⟩
  · rw [s2,h2]; unfold Fb; rw [Axv,Axv]
  · unfold Bh; rw [Axv,Am (by omega) (by omega)]
  · rw [s2,h2,B9 (by omega),Bool.true_and]
    exact Ar.2 ⟨by omega,by omega⟩
  · unfold Dp
    rw [Axv,Axv,Af3 ha hb hd]
    rfl
theorem sum.Add.known:sum.Add.Kn:=sum.Add.Ac (.cons soft.Finite.known (.cons soft.Dd.known (.cons soft.F7.known (.cons soft.Sign.known (.cons sum.right.known (.cons sum.Eo.known .nil)))))) fun a b hp=>by
  obtain ⟨ha,hb⟩:=Ad.1 hp
  obtain ⟨a,rfl,hn⟩:=Bl ha
  obtain ⟨b,rfl,hm⟩:=Bl hb
  refine ⟨0,sum.Add.out [.i a,.i b],[],?_,Wk.Gw (.cons .int (.cons .int .nil))⟩
  rw [sum.Add.ev,ha,hb]
  show _=some (DV.tup [.int .u64 (Jq a b),.int .u8 (Wi a b)])
  rw [Bool.or_true,Axt,Axt]
  by_cases hf:(!(Cq a)||!(Cq b))=true
  · rw [hf]; rfl
  · have hf:(!(Cq a)||!(Cq b))=false:=by simpa using hf
    rw [hf,Axx,Axt,Axt,Axt,Axt]
    have fa:J4 a=true:=by
      have:=(Bool.or_eq_false_iff.1 hf).1
      unfold Cq at this
      simpa using this
    have fb:J4 b=true:=by
      have:=(Bool.or_eq_false_iff.1 hf).2
      unfold Cq at this
      simpa using this
    have xa:=El a
    have xb:=El b
    rw [As]
    by_cases hl:A2 a<A2 b
    · obtain ⟨X,r,hX,hr,e1,e2,e3,e4,e5⟩:=Ajd fb fa (by omega)
      have:decide (Bh a<Bh b)=true:=by unfold Bh; simpa using hl
      rw [this,Axt,e4,Axt,e1,e2,Af5 _ _ hX hr e3 (by omega) (by omega),e5,Aln]
      rfl
    · obtain ⟨X,r,hX,hr,e1,e2,e3,e4,e5⟩:=Ajd fa fb (by omega)
      have:decide (Bh a<Bh b)=false:=by unfold Bh; simpa using hl
      rw [this,Axx,e4,Axt,e1,e2,Af5 _ _ hX hr e3 (by omega) (by omega),e5]
      rfl
theorem sum.Sub.known:sum.Sub.Kn:=sum.Sub.Ac (.cons soft.Dk.known (.cons sum.Add.known .nil)) fun a b hp=>by
  obtain ⟨ha,hb⟩:=Ad.1 hp
  obtain ⟨b,rfl,hm⟩:=Bl hb
  refine ⟨0,sum.Sub.out [.i a,.i b],[],?_,Wk.Gw (.cons .int (.cons .int .nil))⟩
  have:Af (C5 (b:Int))=true:=by unfold C5; rw [Axv]; exact B9 (Vi hm)
  rw [sum.Sub.ev,ha,hb,this]
  unfold Jq Wi C5
  rw [Axv]
  rfl
end Go.Proofs.S1
end
