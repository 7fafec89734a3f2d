/- A verified evaluator of the program's form and its use for this seat: S1PRefB, S1PRefBa, S1EqRefC, S1PRefC, S1PRefCa, S1EqRefE, S1PRefV, S1PPack, S1PNear, S1EqSum, S1PSum. -/
import Derived.Test.YtjbokjpbiobjpaaGreatTF
import Derived.Test.YtjbokjpbiobjpaaGreatTE
set_option linter.unusedVariables false
set_option linter.unusedSimpArgs false
noncomputable section
namespace Go.Proofs.S1
open Go Go.Den Go.Rnd Go.Proofs
open EqRefB
theorem Ac.Fe.known:Ac.Fe.Kn:=Ac.Fe.Ad (.cons Ac.Made.known (.cons Ac.plus.known .nil)) fun n a hp=>by
  obtain ⟨v,rfl,rfl,hv⟩:=Hi hp
  refine ⟨0,Ac.Fe.out [.b (Ax v),.l (Ag v)],[],?_,Yw⟩
  have o1:Fo (Ag v)=true:=Mw (by omega)
  have o3:Fo (Hn (Ag v) (Ag v))=true:=Iv (by rw [Ng,B2]; omega) (Vw _ _)
  rw [Ac.Fe.ev,o1,o3,Auz,Aut,Aut,Ai2 rfl]
  show _=some (DV.agg [.bool (Ax (2*wv (Ax v) (Ag v))),.ints .arg .u32 (Ag (2*wv (Ax v) (Ag v)))])
  rw [Fz,Int.two_mul]
theorem Aq6 (l:List Int) (y x:Int) (r:List Int):∀ i,i=l.length→(l++y::r).set i x=l++x::r:=by
  induction l with
  | nil=>intro i h; subst h; rfl
  | cons z l ih =>
    intro i h
    obtain ⟨j,rfl⟩:∃ j,i=j+1:=⟨i-1,by rw [List.length_cons] at h; omega⟩
    show z::(l++y::r).set j x=z::(l++x::r)
    rw [ih j (by rw [List.length_cons] at h; omega)]
theorem Aie (N:Nat) {v:Int} (hv:C1 v.natAbs<268435456):∀ (k i F:Nat),i+k=C1 v.natAbs→k<F →
    Ac.Gv.L0 N F (Ax v) (Ag v) (i:Int) (digits i (v.natAbs / 2)++List.replicate k 0)=some (.agg [.bool (Ax (Js v 1)),.ints .arg .u32 (Ag (Js v 1))]):=by
  have o1:Fo (Ag v)=true:=Mw (by omega)
  have ia:=Fl v
  intro k
  induction k with
  | zero =>
    intro i F hi hF
    obtain ⟨F,rfl⟩:∃ G,F=G+1:=⟨F-1,by omega⟩
    have t0:decide ((i:Int)<((Ag v).length:Int))=false:=Auy (by rw [B2]; omega)
    rw [List.replicate_zero,List.append_nil,Ac.Gv.Au,At,t0,Aux]
    have o3:Fo (digits i (v.natAbs / 2))=true:=Iv (by rw [Du]; omega) (Lb _ _)
    have e:wv (Ax v) (digits i (v.natAbs / 2))=Js v 1:=by
      unfold wv Js
      rw [Ib,Au6,Nat.pow_one]
      have:=Iy v.natAbs
      rw [show i=C1 v.natAbs by omega]
      exact Nat.lt_of_le_of_lt (Nat.div_le_self _ _) this
    rw [o3,Aut,e]
  | succ k ih =>
    intro i F hi hF
    obtain ⟨F,rfl⟩:∃ G,F=G+1:=⟨F-1,by omega⟩
    have hlen:(digits i (v.natAbs / 2)++List.replicate (k+1) (0:Int)).length=i+(k+1):=by rw [List.length_append,Du,List.length_replicate]
    have t0:decide ((i:Int)<((Ag v).length:Int))=true:=Auu (by rw [B2]; omega)
    have t1:decide ((0:Int)≤(i:Int))=true:=Auu (by omega)
    have t2:decide ((i:Int)<((digits i (v.natAbs / 2)++List.replicate (k+1) (0:Int)).length:Int))=true:=Auu (by rw [hlen]; omega)
    have t3:decide (i<(digits i (v.natAbs / 2)++List.replicate (k+1) (0:Int)).length)=true:=Auu (by rw [hlen]; omega)
    have e0:Ab ((i:Int)+1)=((i+1:Nat):Int):=by rw [Al (by omega) (by omega)]; omega
    rw [Ac.Gv.Au,At,t0,o1,Auv,t1,t2,t3,Auz]
    simp only [Aut]
    rw [e0,Gm ia,Gm ia,Dm]
    have ih:=ih (i+1) F (by omega) (by omega)
    rw [Il,Nat.div_div_eq_div_mul,Nat.mul_comm 2,← Nat.div_div_eq_div_mul] at ih
    rw [Kl,Nat.mul_comm 4294967296,← Nat.div_div_eq_div_mul,List.replicate_succ,Aq6 _ _ _ _ i (Du _ _).symm]
    rw [List.append_assoc] at ih
    generalize v.natAbs / 2^(32*i)=x at *
    have e1:Int.tmod ((x / 4294967296%4294967296:Nat):Int) 2=((x / 4294967296%4294967296%2:Nat):Int):=Hw _ 2
    have e2:A9 (A9 (((x / 4294967296%4294967296%2:Nat):Int)*4294967296)+((x%4294967296:Nat):Int))=((x / 4294967296%4294967296%2*4294967296+x%4294967296:Nat):Int):=by
      rw [Co (x:=((x / 4294967296%4294967296%2:Nat):Int)*4294967296) (by omega) (by omega),Co (by omega) (by omega)]; omega
    have e3:Int.tdiv ((x / 4294967296%4294967296%2*4294967296+x%4294967296:Nat):Int) 2=(((x / 4294967296%4294967296%2*4294967296+x%4294967296) / 2:Nat):Int):=Hx _ 2
    have e4:(x / 4294967296%4294967296%2*4294967296+x%4294967296) / 2=x / 2%4294967296:=by omega
    rw [e1,e2,e3,e4,Co (by omega) (by omega),Ht (by omega) (by omega)]
    exact ih
theorem Ac.Gv.known:Ac.Gv.Kn:=Ac.Gv.Ad (.cons Ac.Made.known (.cons Ac.H8.known .nil)) fun n a hp=>by
  obtain ⟨v,rfl,rfl,hv⟩:=Hi hp
  refine ⟨C1 v.natAbs+1,Ac.Gv.out [.b (Ax v),.l (Ag v)],[],?_,Yw⟩
  show _=some (DV.agg [.bool (Ax (Js (wv (Ax v) (Ag v)) 1)),.ints .arg .u32 (Ag (Js (wv (Ax v) (Ag v)) 1))])
  rw [Ac.Gv.ev,Fz,B2,Auu (by omega),Auu (by omega),Auu (by unfold Gd; omega),Auz,Auz,Aut,Auv]
  have h:=Aie (C1 v.natAbs+1) hv (C1 v.natAbs) 0 (C1 v.natAbs+1) (by omega) (by omega)
  rw [digits,List.nil_append] at h
  exact h
def Ac6 (v:Int):Option DV:=some (.agg [.bool (Ax v),.ints .arg .u32 (Ag v)])
theorem Sc (v:Int):A2 (0:Int) ((Ag v).length:Int)=decide (v≠0):=by
  rw [At,B2,decide_eq_decide]
  constructor
  · intro h e
    rw [e] at h
    exact absurd h (by decide)
  · intro h
    have:=Iz (n:=v.natAbs) (by omega)
    omega
theorem Aq2 (N:Nat):∀ (j F:Nat) (v:Int),j<F→j<2000000→C1 v.natAbs<268435456→Ac.Bx.L3 N F (-(j:Int)) (Ax v) (Ag v)=Ac6 (Js v j):=by
  intro j
  induction j with
  | zero =>
    intro F v hF _ hv
    obtain ⟨F,rfl⟩:∃ G,F=G+1:=⟨F-1,by omega⟩
    rw [Ac.Bx.Aag,At,Auy (by omega),Bool.false_and,Aux,Aa5]
    rfl
  | succ j ih =>
    intro F v hF hj hv
    obtain ⟨F,rfl⟩:∃ G,F=G+1:=⟨F-1,by omega⟩
    rw [Ac.Bx.Aag,At,Auu (by omega),Bool.true_and,Sc]
    by_cases h0:v=0
    · rw [Auy (by omega),Aux,h0,Rj]
      rfl
    · rw [Auu h0,Aut,Jg hv,Aut,Fz,Al (by omega) (by omega)]
      have e:-((j+1:Nat):Int)+1=-(j:Int):=by omega
      have hl:C1 (Js v 1).natAbs<268435456:=by
        rw [Kt]
        exact Nat.lt_of_le_of_lt (Hj (Nat.div_le_self _ _)) hv
      rw [e,ih F (Js v 1) (by omega) (by omega) hl,Y8,Nat.add_comm]
theorem Afh (v:Int):wv (Ax v) ((Ag v).drop 1)=Js v 32:=by
  unfold wv Js
  rw [Agu (Fl v),Dm,two32]
theorem Aq3 (N:Nat):∀ (F j:Nat) (v:Int),j<F→j<N→j<2000000→C1 v.natAbs<268435456→Ac.Bx.L2 N F (-(j:Int)) (Ax v) (Ag v)=Ac6 (Js v j):=by
  intro F
  induction F with
  | zero=>intro j v h; omega
  | succ F ih =>
    intro j v hF hN hj hv
    rw [Ac.Bx.Hm,Ej,Sc]
    by_cases hc:32≤j∧v≠0
    · have o3:Fo ((Ag v).drop 1)=true:=Iv (by rw [List.length_drop,B2]; omega) (Acb (Fl v))
      have t1:decide ((1:Int)≤((Ag v).length:Int))=true:=Auu (by
        rw [B2]
        have:=Iz (n:=v.natAbs) (by omega)
        omega)
      have hl:C1 (Js v 32).natAbs<268435456:=by
        rw [Kt]
        exact Nat.lt_of_le_of_lt (Hj (Nat.div_le_self _ _)) hv
      rw [Auu (by omega),Auu hc.2,Auz,Aut,t1,Aut,o3,Aut,Afh,Al (by omega) (by omega)]
      have e:-(j:Int)+32=-((j-32:Nat):Int):=by omega
      rw [e,ih (j-32) (Js v 32) (by omega) (by omega) (by omega) hl,Y8]
      congr 2
      omega
    · have:(decide (-(j:Int)≤-32)&&decide (v≠0))=false:=by
        rw [Bool.and_eq_false_iff,Avc,Avc]
        omega
      rw [this,Aux]
      exact Aq2 N j N v hN hj hv
theorem T1 (N F:Nat) {k:Int} (hk:0≤k) (hN:0<N) (v:Int):Ac.Bx.L2 N (F+1) k (Ax v) (Ag v)=Ac6 v:=by
  obtain ⟨M,rfl⟩:∃ M,N=M+1:=⟨N-1,by omega⟩
  rw [Ac.Bx.Hm,Ej,Auy (by omega),Bool.false_and,Aux,Ac.Bx.Aag,At,Auy (by omega),Bool.false_and,Aux]
  rfl
theorem Aq4 (N:Nat) (hN:0<N):∀ (j F:Nat) (v:Int),j<F→j<2000000→C1 v.natAbs+j<268435456→Ac.Bx.L1 N F (j:Int) (Ax v) (Ag v)=Ac6 (v*((2^j:Nat):Int)):=by
  obtain ⟨M,rfl⟩:∃ M,N=M+1:=⟨N-1,by omega⟩
  intro j
  induction j with
  | zero =>
    intro F v hF _ hv
    obtain ⟨F,rfl⟩:∃ G,F=G+1:=⟨F-1,by omega⟩
    rw [Ac.Bx.Cf,At,Auy (by omega),Bool.false_and,Aux,T1 _ _ (by omega) (by omega),Nat.pow_zero]
    congr 1
    omega
  | succ j ih =>
    intro F v hF hj hv
    obtain ⟨F,rfl⟩:∃ G,F=G+1:=⟨F-1,by omega⟩
    rw [Ac.Bx.Cf,At,Auu (by omega),Bool.true_and,Sc]
    by_cases h0:v=0
    · rw [Auy (by omega),Aux,h0,Int.zero_mul,T1 _ _ (by omega) (by omega)]
    · have hl:=Alc v.natAbs
      have e2:(2*v).natAbs=2*v.natAbs:=by omega
      have e:((j+1:Nat):Int)-1=(j:Int):=by omega
      rw [Auu h0,Aut,Jg (by omega),Aut,Fz,Al (by omega) (by omega),e,ih F (2*v) (by omega) (by omega) (by rw [e2]; omega)]
      congr 1
      rw [Nat.pow_succ,Ave,Int.mul_comm 2 v,Int.mul_assoc,Int.mul_comm ((2^j:Nat):Int)]
      rfl
theorem Asf (v:Int):wv (Ax v) ([(0:Int)]++Ag v)=v*((2^32:Nat):Int):=by
  have e:By ([(0:Int)]++Ag v)=4294967296*v.natAbs:=by
    show By (0::Ag v)=_
    rw [By,Dm]
    exact Nat.zero_add _
  unfold wv
  rw [e,two32]
  by_cases h:v<0
  · rw [Rm h]; omega
  · rw [Rl h]; omega
theorem Aq5 (N:Nat):∀ (F j:Nat) (v:Int),j<F→j<N→j<2000000→C1 v.natAbs+j<268435456→Ac.Bx.L0 N F (j:Int) (Ax v) (Ag v)=Ac6 (v*((2^j:Nat):Int)):=by
  intro F
  induction F with
  | zero=>intro j v h; omega
  | succ F ih =>
    intro j v hF hN hj hv
    rw [Ac.Bx.Au,Ej,Sc]
    by_cases hc:32≤j∧v≠0
    · have o3:Fo ([(0:Int)]++Ag v)=true:=Iv (by rw [List.length_append,B2]; show 1+_<_; omega) (Aca (Fl v))
      have t1:decide (1+(Ag v).length≤Gd)=true:=Auu (by rw [B2]; unfold Gd; omega)
      have e2:(v*((2^32:Nat):Int)).natAbs=v.natAbs*4294967296:=by rw [Int.natAbs_mul,Int.natAbs_natCast,two32]
      have hl:=Aor v.natAbs
      rw [Auu (by omega),Auu hc.2,Auz,Aut,t1,Aut,o3,Aut,Asf,Al (by omega) (by omega)]
      have e:(j:Int)-32=((j-32:Nat):Int):=by omega
      rw [e,ih (j-32) _ (by omega) (by omega) (by omega) (by rw [e2]; omega)]
      have e3:2^j=2^32*2^(j-32):=by rw [← Nat.pow_add]; congr 1; omega
      rw [e3,Ave,Int.mul_assoc]
    · have:(decide ((32:Int)≤(j:Int))&&decide (v≠0))=false:=by
        rw [Bool.and_eq_false_iff,Avc,Avc]
        omega
      rw [this,Aux]
      exact Aq4 N (by omega) j N v hN hj hv
theorem Ado (N j:Nat) (v:Int) (hj:0<j) (hN:j<N) (hj2:j<2000000) (hv:C1 v.natAbs<268435456):Ac.Bx.L0 N N (-(j:Int)) (Ax v) (Ag v)=Ac6 (Js v j):=by
  obtain ⟨M,rfl⟩:∃ M,N=M+1:=⟨N-1,by omega⟩
  rw [Ac.Bx.Au,Ej,Auy (by omega),Bool.false_and,Aux,Ac.Bx.Cf,At,Auy (by omega),Bool.false_and,Aux]
  exact Aq3 _ _ j v hN hN hj2 hv
theorem Ac.Bx.known:Ac.Bx.Kn:=Ac.Bx.Ad (.cons Ac.Fe.known (.cons Ac.Gv.known (.cons Ac.Made.known .nil))) fun n a k hp=>by
  obtain ⟨h1,h2⟩:=Ae.1 hp
  obtain ⟨v,rfl,rfl,hv⟩:=Ux h1
  have h2:=Aq.1 h2
  refine ⟨k.natAbs+1,Ac.Bx.out [.b (Ax v),.l (Ag v),.i k],[],?_,Yw⟩
  show _=some (DV.agg [.bool (Ax (G5 (wv (Ax v) (Ag v)) k)),.ints .arg .u32 (Ag (G5 (wv (Ax v) (Ag v)) k))])
  rw [Ac.Bx.ev,Fz]
  unfold G5
  by_cases h:0≤k
  · obtain ⟨j,rfl⟩:∃ j:Nat,k=j:=⟨k.toNat,by omega⟩
    rw [if_pos h,Auv,Int.natAbs_natCast]
    exact Aq5 _ _ j v (by omega) (by omega) (by omega) (by omega)
  · obtain ⟨j,rfl⟩:∃ j:Nat,k=-(j:Int):=⟨(-k).toNat,by omega⟩
    have e:(-(-(j:Int))).toNat=j:=by omega
    rw [if_neg h,e,Int.natAbs_neg,Int.natAbs_natCast]
    exact Ado _ j v (by omega) (by omega) (by omega) (by omega)
open EqRefB
theorem Ah7 {t:Nat} (h:2≤t):(t / 2).log2+1=t.log2:=by
  have:=Abw (n:=t) (m:=1) (by omega)
  rw [Nat.pow_one] at this
  exact this
theorem Alb (N:Nat):∀ (F:Nat) (t:Nat) (p:Int),t<2^32→0<t→t.log2+1<F→-1000≤p→p+t.log2<4611686018427387904 →
    Ac.Pd.L0 N F p (t:Int)=some (.int .i64 (p+t.log2+1)):=by
  intro F
  induction F with
  | zero=>intro t p _ _ h; omega
  | succ F ih =>
    intro t p ht h0 hF hp1 hp2
    have e2:Int.tdiv (t:Int) 2=((t / 2:Nat):Int):=Hx t 2
    rw [two32] at ht
    rw [Ac.Pd.Au,At,Auu (by omega),Aut,e2,Ht (by omega) (by omega),Al (by omega) (by omega)]
    by_cases h1:t=1
    · subst h1
      obtain ⟨G,rfl⟩:∃ G,F=G+1:=⟨F-1,by omega⟩
      rw [Ac.Pd.Au,At,Auy (by decide),Aux]
      have:(1:Nat).log2=0:=by decide
      rw [this]
      congr 2
      omega
    · have hl:=Ah7 (t:=t) (by omega)
      rw [ih (t / 2) (p+1) (by rw [two32]; omega) (by omega) (by omega) (by omega) (by omega)]
      congr 2
      omega
theorem Ac.Pd.known:Ac.Pd.Kn:=Ac.Pd.Ad .nil fun n a hp=>by
  obtain ⟨v,rfl,rfl,hv⟩:=Hi hp
  refine ⟨40,Ac.Pd.out [.b (Ax v),.l (Ag v)],[],?_,.int⟩
  show _=some (DV.int .i64 (Zs (wv (Ax v) (Ag v))))
  rw [Ac.Pd.ev,Fz,B2]
  unfold Zs
  by_cases h0:v=0
  · rw [if_pos h0,h0]; rfl
  · have hn:v.natAbs≠0:=by omega
    have hl:=Iz hn
    have e0:((C1 v.natAbs:Int)==0)=false:=by simp only [beq_eq_false_iff_ne,ne_eq]; omega
    have e1:(C1 v.natAbs:Int)-1=((C1 v.natAbs-1:Nat):Int):=by omega
    have hlen:C1 v.natAbs=v.natAbs.log2 / 32+1:=by unfold C1; rw [if_neg hn]
    have hge:2^(32*(C1 v.natAbs-1))≤v.natAbs:=Nat.le_trans (Au8 (by decide) (by omega)) (Nat.log2_self_le hn)
    have hq:v.natAbs / 2^(32*(C1 v.natAbs-1))<2^32:=by
      rw [Nat.div_lt_iff_lt_mul (B8 _),← Nat.pow_add]
      have:=Iy v.natAbs
      have e:32+32*(C1 v.natAbs-1)=32*C1 v.natAbs:=by omega
      rw [e]; exact this
    have hlog:=Abw hge
    have hg:=L5 (Fl v) (C1 v.natAbs-1)
    have hq':=hq
    rw [two32] at hq'
    rw [Dm,Au6 hq'] at hg
    have hpos:=Nat.div_pos hge (B8 _)
    have h32:(v.natAbs / 2^(32*(C1 v.natAbs-1))).log2<32:=(Nat.log2_lt (by omega)).2 hq
    rw [if_neg h0,e0,Aux,Al (by omega) (by omega),e1,Auu (by omega),Auu (by omega),Auz,Aut,Auv,hg,Al (by omega) (by omega)]
    rw [Alb 40 40 _ _ hq hpos (by omega) (by omega) (by omega)]
    congr 2
    omega
theorem Ac.Ve.known:Ac.Ve.Kn:=Ac.Ve.Ad .nil fun n a hp=>by
  obtain ⟨v,rfl,rfl,hv⟩:=Hi hp
  refine ⟨0,Ac.Ve.out [.b (Ax v),.l (Ag v)],[],?_,.bool⟩
  show _=some (DV.bool (Ahp (wv (Ax v) (Ag v))))
  rw [Ac.Ve.ev,Fz,Sc]
  have hg:=L5 (Fl v) 0
  rw [Dm,Nat.mul_zero,Nat.pow_zero,Nat.div_one] at hg
  have e2:Int.tmod ((v.natAbs%4294967296:Nat):Int) 2=((v.natAbs%4294967296%2:Nat):Int):=Hw _ 2
  unfold Ahp
  by_cases h0:v=0
  · rw [h0]; rfl
  · have hl:=Iz (n:=v.natAbs) (by omega)
    rw [hg,e2,Auu h0,B2,Auu (by omega),Bool.or_true,Aut,Aut]
    congr 2
    rw [Au9]
    simp only [beq_iff_eq,Au0]
    omega
theorem Wb (N:Nat) (n m:Bool) {a b:List Int} (hab:a.length=b.length) (hl:a.length<1073741824):∀ (k i F:Nat),i+k=a.length→k<F →
    Ac.Ed.L0 N F n a m b (i:Int)=some (.bool (decide (a.drop i=b.drop i))):=by
  intro k
  induction k with
  | zero =>
    intro i F hi hF
    obtain ⟨F,rfl⟩:∃ G,F=G+1:=⟨F-1,by omega⟩
    have e:a.drop i=b.drop i:=by rw [Au7 (by omega),Au7 (by omega)]
    rw [Ac.Ed.Au,At,Auy (by omega),Aux,Auu e]
  | succ k ih =>
    intro i F hi hF
    obtain ⟨F,rfl⟩:∃ G,F=G+1:=⟨F-1,by omega⟩
    have ha:i<a.length:=by omega
    have hb:i<b.length:=by omega
    have ga:a.getD i 0=a[i]:=by rw [Au3,Ava ha]; rfl
    have gb:b.getD i 0=b[i]:=by rw [Au3,Ava hb]; rfl
    have t1:decide ((i:Int)<(a.length:Int))=true:=Auu (by omega)
    have t2:decide ((i:Int)<(b.length:Int))=true:=Auu (by omega)
    have t0:decide ((0:Int)≤(i:Int))=true:=Auu (by omega)
    rw [Ac.Ed.Au,At,t1,t2,t0,Auz,Aut,Aut,Aut,Auv,ga,gb,List.drop_eq_getElem_cons ha,List.drop_eq_getElem_cons hb,Al (by omega) (by omega)]
    by_cases h:a[i]=b[i]
    · have e:(a[i] !=b[i])=false:=by simp [h]
      have e1:(i:Int)+1=((i+1:Nat):Int):=by omega
      rw [e,Aux,e1,ih (i+1) F (by omega) (by omega),h]
      congr 2
      rw [decide_eq_decide,List.cons.injEq]
      exact ⟨fun k=>⟨rfl,k⟩,fun k=>k.2⟩
    · have e:(a[i] !=b[i])=true:=by simp [h]
      rw [e,Aut,Auy (fun k=>h (List.cons.inj k).1)]
theorem Ael {v w:Int} (h1:Ax v=Ax w) (h2:Ag v=Ag w):v=w:=by
  have e1:=Fz v
  have e2:=Fz w
  rw [h1,h2] at e1
  omega
theorem Ac.Ed.known:Ac.Ed.Kn:=Ac.Ed.Ad .nil fun n a m b hp=>by
  obtain ⟨h1,h2⟩:=Ae.1 hp
  obtain ⟨v,rfl,rfl,hv⟩:=Hi h1
  obtain ⟨w,rfl,rfl,hw⟩:=Hi h2
  refine ⟨(Ag v).length+1,Ac.Ed.out [.b (Ax v),.l (Ag v),.b (Ax w),.l (Ag w)],[],?_,.bool⟩
  show _=some (DV.bool (T4 (wv (Ax v) (Ag v)) (wv (Ax w) (Ag w))))
  rw [Ac.Ed.ev,Fz,Fz]
  unfold T4
  by_cases hs:Ax v=Ax w
  · have e:(Ax v==Ax w)=true:=by simp [hs]
    rw [e,Bool.not_true,Bool.false_or]
    by_cases hl:(Ag v).length=(Ag w).length
    · have e:(((Ag v).length:Int) !=((Ag w).length:Int))=false:=by simp [hl]
      have hlen:=B2 v
      have:=Wb ((Ag v).length+1) (Ax v) (Ax w) hl (by omega) (Ag v).length 0 ((Ag v).length+1) (by omega) (by omega)
      rw [List.drop_zero,List.drop_zero] at this
      have e2:decide (Ag v=Ag w)=decide (v=w):=decide_eq_decide.2 ⟨Ael hs,fun k=>by rw [k]⟩
      rw [e2] at this
      rw [e,Aux]
      exact this
    · have e:(((Ag v).length:Int) !=((Ag w).length:Int))=true:=by simp only [bne_iff_ne,ne_eq]; omega
      rw [e,Aut,Auy (fun k=>hl (by rw [k]))]
  · have e:(Ax v==Ax w)=false:=by simp [hs]
    rw [e,Bool.not_false,Bool.true_or,Aut,Auy (fun k=>hs (by rw [k]))]
set_option maxRecDepth 100000
namespace EqRefC
def Ay.Of.hint:Nat→Option A8
  | 0=>some { keep:=[1,2,4],objs:=[],boxes:=[2,4] }
  | 2=>some { keep:=[1,2,4],objs:=[],boxes:=[2,4] }
  | _=>none
def Ay.Of.Bb:List (Nat × Entry):=[(173,Ac.Gv.spec),(171,Ac.Made.spec),(172,Ac.Ve.spec)]
def Ay.Of.E:Env:=Bc (Ba Ay.Of.Bb) (fun _=>false) Ay.Of.hint (fun _=>none)
def Ay.Of.L0 (N M:Nat) (p1:Int) (p2:Bool) (p2_1:List Int):Option DV:=B3 Ay.Of.E N Tryz.f109 (Am Tryz.f109) [1,1,0,0] [] M ⟨Gb 33 [(1,.int .i64 p1),(2,.ptr 2 0 0),(4,.ptr 4 0 0)],[(2,false,.box [.bool p2,.ints .arg .u32 p2_1]),(4,false,.box [.bool false,.nil,.int .i64 0])]⟩
def Ay.Of.L1 (N M:Nat) (p1_1:Int) (p2_2:Bool) (p2_3:List Int):Option DV:=B3 Ay.Of.E N Tryz.f109 (Am Tryz.f109) [1,1,1,0,0] [] M ⟨Gb 33 [(1,.int .i64 p1_1),(2,.ptr 2 0 0),(4,.ptr 4 0 0)],[(2,false,.box [.bool p2_2,.ints .arg .u32 p2_3]),(4,false,.box [.bool false,.nil,.int .i64 0])]⟩
theorem Ay.Of.Au (N M:Nat) (p1:Int) (p2:Bool) (p2_1:List Int):Ay.Of.L0 N (M+1) p1 p2 p2_1=bif (decide ((0:Int)<(List.length p2_1:Int))) then bif ((List.getD p2_1 0 0)==(0:Int)) then bif (decide ((1:Int)≤(List.length p2_1:Int))) then bif (Fo (List.drop 1 p2_1)) then Ay.Of.L0 N M (Ab (p1+32)) (Ax (wv p2 (List.drop 1 p2_1))) (Ag (wv p2 (List.drop 1 p2_1))) else none else none else Ay.Of.L1 N N p1 p2 p2_1 else none :=
  Eq.trans (by kernel_rfl)
  (Es (Es (Da (As6 (decide ((1:Int)≤(List.length p2_1:Int)))) (Da (De (Fo (List.drop 1 p2_1))) rfl rfl) rfl) rfl) rfl)
theorem Ay.Of.Cf (N M:Nat) (p1_1:Int) (p2_2:Bool) (p2_3:List Int):Ay.Of.L1 N (M+1) p1_1 p2_2 p2_3=bif (Jh p2_2 p2_3) then bif (!(Ahp (wv p2_2 p2_3))) then bif (Jh p2_2 p2_3) then Ay.Of.L1 N M (Ab (p1_1+1)) (Ax (Js (wv p2_2 p2_3) 1)) (Ag (Js (wv p2_2 p2_3) 1)) else none else some (.agg [.bool p2_2,.ints .arg .u32 p2_3,.int .i64 p1_1]) else none:=by kernel_rfl
theorem Ay.Of.ev (N:Nat) (n:Bool) (a:List Int) (e:Int):Bw Ay.Of.E N Tryz.f109 (Am Tryz.f109) [.agg [.bool n,.ints .arg .u32 a],.int .i64 e]=bif ((List.length a:Int)==(0:Int)) then some (.agg [.bool false,.nil,.int .i64 0]) else Ay.Of.L0 N N e n a:=by kernel_rfl
abbrev _root_.Go.Proofs.S1.Ay.Of.Kn:=A6 Tryz.prog 109 Ay.Of.spec
theorem Ay.Of.Ad (hk:A0 Tryz.prog Ay.Of.Bb) (h:∀ (n:Bool) (a:List Int) (e:Int),Ay.Of.pre [.b n,.l a,.i e]=true→Be Ay.Of.E Tryz.f109 [.agg [.bool n,.ints .arg .u32 a],.int .i64 e] (Ay.Of.out [.b n,.l a,.i e])):Ay.Of.Kn :=
  Ak (A1 hk _ _ _) Tryz.func109 (by kernel_rfl) (by kernel_rfl) h
def Ay.Vf.Bb:List (Nat × Entry):=[]
def Ay.Vf.E:Env:=Bc (Ba Ay.Vf.Bb) (fun _=>false) (fun _=>none) (fun _=>none)
theorem Ay.Vf.ev (N:Nat) (n:Bool) (a:List Int) (e:Int) (m:Bool) (b:List Int) (f:Int):Bw Ay.Vf.E N Tryz.f111 (Am Tryz.f111) [.agg [.bool n,.ints .arg .u32 a,.int .i64 e],.agg [.bool m,.ints .arg .u32 b,.int .i64 f]]=bif ((List.length a:Int)==(0:Int)) then some (.int .i64 f) else bif ((List.length b:Int)==(0:Int)) then some (.int .i64 e) else some (.int .i64 (min e f)):=by kernel_rfl
abbrev _root_.Go.Proofs.S1.Ay.Vf.Kn:=A6 Tryz.prog 111 Ay.Vf.spec
theorem Ay.Vf.Ad (hk:A0 Tryz.prog Ay.Vf.Bb) (h:∀ (n:Bool) (a:List Int) (e:Int) (m:Bool) (b:List Int) (f:Int),Ay.Vf.pre [.b n,.l a,.i e,.b m,.l b,.i f]=true→Be Ay.Vf.E Tryz.f111 [.agg [.bool n,.ints .arg .u32 a,.int .i64 e],.agg [.bool m,.ints .arg .u32 b,.int .i64 f]] (Ay.Vf.out [.b n,.l a,.i e,.b m,.l b,.i f])):Ay.Vf.Kn :=
  Ak (A1 hk _ _ _) Tryz.func111 (by kernel_rfl) (by kernel_rfl) h
def Ay.Level.Bb:List (Nat × Entry):=[(178,Ac.Bx.spec)]
def Ay.Level.E:Env:=Bc (Ba Ay.Level.Bb) (fun _=>false) (fun _=>none) (fun _=>none)
theorem Ay.Level.ev (N:Nat) (n:Bool) (a:List Int) (e f:Int):Bw Ay.Level.E N Tryz.f113 (Am Tryz.f113) [.agg [.bool n,.ints .arg .u32 a,.int .i64 e],.int .i64 f]=bif ((List.length a:Int)==(0:Int)) then some (.agg [.bool n,.ints .arg .u32 a]) else bif (W4 n a&&Are (Ab (e-f))) then some (.agg [.bool (Ax (G5 (wv n a) (Ab (e-f)))),.ints .arg .u32 (Ag (G5 (wv n a) (Ab (e-f))))]) else none:=by kernel_rfl
abbrev _root_.Go.Proofs.S1.Ay.Level.Kn:=A6 Tryz.prog 113 Ay.Level.spec
theorem Ay.Level.Ad (hk:A0 Tryz.prog Ay.Level.Bb) (h:∀ (n:Bool) (a:List Int) (e f:Int),Ay.Level.pre [.b n,.l a,.i e,.i f]=true→Be Ay.Level.E Tryz.f113 [.agg [.bool n,.ints .arg .u32 a,.int .i64 e],.int .i64 f] (Ay.Level.out [.b n,.l a,.i e,.i f])):Ay.Level.Kn :=
  Ak (A1 hk _ _ _) Tryz.func113 (by kernel_rfl) (by kernel_rfl) h
def Ay.Add.Bb:List (Nat × Entry):=[(112,Ac.Add.spec),(113,Ay.Level.spec),(111,Ay.Vf.spec),(109,Ay.Of.spec)]
def Ay.Add.E:Env:=Bc (Ba Ay.Add.Bb) (fun _=>false) (fun _=>none) (fun _=>none)
theorem Ay.Add.ev (N:Nat) (n:Bool) (a:List Int) (e:Int) (m:Bool) (b:List Int) (f:Int):Bw Ay.Add.E N Tryz.f42 (Am Tryz.f42) [.agg [.bool n,.ints .arg .u32 a,.int .i64 e],.agg [.bool m,.ints .arg .u32 b,.int .i64 f]]=bif (Jh n a&&Jh m b) then bif (W4 n a&&Abj (wv n a) e (Db (wv n a) e (wv m b) f)) then bif (W4 m b&&Abj (wv m b) f (Db (wv n a) e (wv m b) f)) then bif (Jh (Ax (G5 (wv n a) (e-(Db (wv n a) e (wv m b) f)))) (Ag (G5 (wv n a) (e-(Db (wv n a) e (wv m b) f))))&&Jh (Ax (G5 (wv m b) (f-(Db (wv n a) e (wv m b) f)))) (Ag (G5 (wv m b) (f-(Db (wv n a) e (wv m b) f))))) then bif (Jh (Ax (wv (Ax (G5 (wv n a) (e-(Db (wv n a) e (wv m b) f)))) (Ag (G5 (wv n a) (e-(Db (wv n a) e (wv m b) f))))+wv (Ax (G5 (wv m b) (f-(Db (wv n a) e (wv m b) f)))) (Ag (G5 (wv m b) (f-(Db (wv n a) e (wv m b) f)))))) (Ag (wv (Ax (G5 (wv n a) (e-(Db (wv n a) e (wv m b) f)))) (Ag (G5 (wv n a) (e-(Db (wv n a) e (wv m b) f))))+wv (Ax (G5 (wv m b) (f-(Db (wv n a) e (wv m b) f)))) (Ag (G5 (wv m b) (f-(Db (wv n a) e (wv m b) f))))))&&Tf (Db (wv n a) e (wv m b) f)) then some (.agg [.bool (Ax (mD (wv (Ax (wv (Ax (G5 (wv n a) (e-(Db (wv n a) e (wv m b) f)))) (Ag (G5 (wv n a) (e-(Db (wv n a) e (wv m b) f))))+wv (Ax (G5 (wv m b) (f-(Db (wv n a) e (wv m b) f)))) (Ag (G5 (wv m b) (f-(Db (wv n a) e (wv m b) f)))))) (Ag (wv (Ax (G5 (wv n a) (e-(Db (wv n a) e (wv m b) f)))) (Ag (G5 (wv n a) (e-(Db (wv n a) e (wv m b) f))))+wv (Ax (G5 (wv m b) (f-(Db (wv n a) e (wv m b) f)))) (Ag (G5 (wv m b) (f-(Db (wv n a) e (wv m b) f))))))))),.ints .arg .u32 (Ag (mD (wv (Ax (wv (Ax (G5 (wv n a) (e-(Db (wv n a) e (wv m b) f)))) (Ag (G5 (wv n a) (e-(Db (wv n a) e (wv m b) f))))+wv (Ax (G5 (wv m b) (f-(Db (wv n a) e (wv m b) f)))) (Ag (G5 (wv m b) (f-(Db (wv n a) e (wv m b) f)))))) (Ag (wv (Ax (G5 (wv n a) (e-(Db (wv n a) e (wv m b) f)))) (Ag (G5 (wv n a) (e-(Db (wv n a) e (wv m b) f))))+wv (Ax (G5 (wv m b) (f-(Db (wv n a) e (wv m b) f)))) (Ag (G5 (wv m b) (f-(Db (wv n a) e (wv m b) f))))))))),.int .i64 (eD (wv (Ax (wv (Ax (G5 (wv n a) (e-(Db (wv n a) e (wv m b) f)))) (Ag (G5 (wv n a) (e-(Db (wv n a) e (wv m b) f))))+wv (Ax (G5 (wv m b) (f-(Db (wv n a) e (wv m b) f)))) (Ag (G5 (wv m b) (f-(Db (wv n a) e (wv m b) f)))))) (Ag (wv (Ax (G5 (wv n a) (e-(Db (wv n a) e (wv m b) f)))) (Ag (G5 (wv n a) (e-(Db (wv n a) e (wv m b) f))))+wv (Ax (G5 (wv m b) (f-(Db (wv n a) e (wv m b) f)))) (Ag (G5 (wv m b) (f-(Db (wv n a) e (wv m b) f))))))) (Db (wv n a) e (wv m b) f))]) else none else none else none else none else none :=
  Eq.trans (by kernel_rfl)
  (Es (Da (De (W4 n a&&Abj (wv n a) e (Db (wv n a) e (wv m b) f))) (Da (De (W4 m b&&Abj (wv m b) f (Db (wv n a) e (wv m b) f))) (Da (De (Jh (Ax (G5 (wv n a) (e-(Db (wv n a) e (wv m b) f)))) (Ag (G5 (wv n a) (e-(Db (wv n a) e (wv m b) f))))&&Jh (Ax (G5 (wv m b) (f-(Db (wv n a) e (wv m b) f)))) (Ag (G5 (wv m b) (f-(Db (wv n a) e (wv m b) f)))))) (Da (De (Jh (Ax (wv (Ax (G5 (wv n a) (e-(Db (wv n a) e (wv m b) f)))) (Ag (G5 (wv n a) (e-(Db (wv n a) e (wv m b) f))))+wv (Ax (G5 (wv m b) (f-(Db (wv n a) e (wv m b) f)))) (Ag (G5 (wv m b) (f-(Db (wv n a) e (wv m b) f)))))) (Ag (wv (Ax (G5 (wv n a) (e-(Db (wv n a) e (wv m b) f)))) (Ag (G5 (wv n a) (e-(Db (wv n a) e (wv m b) f))))+wv (Ax (G5 (wv m b) (f-(Db (wv n a) e (wv m b) f)))) (Ag (G5 (wv m b) (f-(Db (wv n a) e (wv m b) f))))))&&Tf (Db (wv n a) e (wv m b) f))) rfl rfl) rfl) rfl) rfl) rfl)
abbrev _root_.Go.Proofs.S1.Ay.Add.Kn:=A6 Tryz.prog 42 Ay.Add.spec
theorem Ay.Add.Ad (hk:A0 Tryz.prog Ay.Add.Bb) (h:∀ (n:Bool) (a:List Int) (e:Int) (m:Bool) (b:List Int) (f:Int),Ay.Add.pre [.b n,.l a,.i e,.b m,.l b,.i f]=true→Be Ay.Add.E Tryz.f42 [.agg [.bool n,.ints .arg .u32 a,.int .i64 e],.agg [.bool m,.ints .arg .u32 b,.int .i64 f]] (Ay.Add.out [.b n,.l a,.i e,.b m,.l b,.i f])):Ay.Add.Kn :=
  Ak (A1 hk _ _ _) Tryz.func42 (by kernel_rfl) (by kernel_rfl) h
def Ay.Vc.Bb:List (Nat × Entry):=[(223,Ac.Pd.spec)]
def Ay.Vc.E:Env:=Bc (Ba Ay.Vc.Bb) (fun _=>false) (fun _=>none) (fun _=>none)
theorem Ay.Vc.ev (N:Nat) (n:Bool) (a:List Int) (e:Int):Bw Ay.Vc.E N Tryz.f180 (Am Tryz.f180) [.agg [.bool n,.ints .arg .u32 a,.int .i64 e]]=bif ((List.length a:Int)==(0:Int)) then some (.int .i64 0) else bif (Jh n a) then some (.int .i64 (Ab ((Zs (wv n a))+e))) else none :=
  Eq.trans (by kernel_rfl)
  (Es rfl (Da (De (Jh n a)) rfl rfl))
abbrev _root_.Go.Proofs.S1.Ay.Vc.Kn:=A6 Tryz.prog 180 Ay.Vc.spec
theorem Ay.Vc.Ad (hk:A0 Tryz.prog Ay.Vc.Bb) (h:∀ (n:Bool) (a:List Int) (e:Int),Ay.Vc.pre [.b n,.l a,.i e]=true→Be Ay.Vc.E Tryz.f180 [.agg [.bool n,.ints .arg .u32 a,.int .i64 e]] (Ay.Vc.out [.b n,.l a,.i e])):Ay.Vc.Kn :=
  Ak (A1 hk _ _ _) Tryz.func180 (by kernel_rfl) (by kernel_rfl) h
def Ay.Ed.Bb:List (Nat × Entry):=[(133,Ac.Ed.spec)]
def Ay.Ed.E:Env:=Bc (Ba Ay.Ed.Bb) (fun _=>false) (fun _=>none) (fun _=>none)
theorem Ay.Ed.ev (N:Nat) (n:Bool) (a:List Int) (e:Int) (m:Bool) (b:List Int) (f:Int):Bw Ay.Ed.E N Tryz.f54 (Am Tryz.f54) [.agg [.bool n,.ints .arg .u32 a,.int .i64 e],.agg [.bool m,.ints .arg .u32 b,.int .i64 f]]=bif ((!(e==f))||(Jh n a&&Jh m b)) then some (.bool (bif (e==f) then (T4 (wv n a) (wv m b)) else false)) else none :=
  Eq.trans (by kernel_rfl)
  (Ap (N4 (e==f)) (Ap (Ki (e==f)) (Ap (N4 (e==f)) (Ap (Ki (e==f)) (Da (As4 (e==f) (Jh n a&&Jh m b)) (Ap (Sr (e==f)) rfl) rfl)))))
abbrev _root_.Go.Proofs.S1.Ay.Ed.Kn:=A6 Tryz.prog 54 Ay.Ed.spec
theorem Ay.Ed.Ad (hk:A0 Tryz.prog Ay.Ed.Bb) (h:∀ (n:Bool) (a:List Int) (e:Int) (m:Bool) (b:List Int) (f:Int),Ay.Ed.pre [.b n,.l a,.i e,.b m,.l b,.i f]=true→Be Ay.Ed.E Tryz.f54 [.agg [.bool n,.ints .arg .u32 a,.int .i64 e],.agg [.bool m,.ints .arg .u32 b,.int .i64 f]] (Ay.Ed.out [.b n,.l a,.i e,.b m,.l b,.i f])):Ay.Ed.Kn :=
  Ak (A1 hk _ _ _) Tryz.func54 (by kernel_rfl) (by kernel_rfl) h
end EqRefC
open EqRefC
def Al9 (v e:Int):Option DV:=some (.agg [.bool (Ax v),.ints .arg .u32 (Ag v),.int .i64 e])
theorem wdy {drops:List Nat} {b:Bool} {l:List Int} {e:Int}:Wk drops (.agg [.bool b,.ints .arg .u32 l,.int .i64 e]) (.agg [.bool b,.ints .arg .u32 l,.int .i64 e]):=Wk.H0 (.cons .bool (.cons .Ae9 (.cons .int .nil)))
theorem Alm (v:Int):(Ag v).getD 0 0=((v.natAbs%4294967296:Nat):Int):=by
  have hg:=L5 (Fl v) 0
  rw [Dm,Nat.mul_zero,Nat.pow_zero,Nat.div_one] at hg
  exact hg
theorem Afr {v:Int} {k:Nat} (h:C1 v.natAbs<268435456):C1 (Js v k).natAbs<268435456:=by
  rw [Kt]
  exact Nat.lt_of_le_of_lt (Hj (Nat.div_le_self _ _)) h
theorem Ajz {v:Int} {k:Nat} (h0:v≠0) (h:v.natAbs%2^k=0):Js v k≠0∧Re (Js v k).natAbs+k=Re v.natAbs:=by
  have hv:=Nat.div_add_mod v.natAbs (2^k)
  rw [h,Nat.add_zero,Nat.mul_comm] at hv
  have hq:v.natAbs / 2^k≠0:=by
    intro e; rw [e] at hv; omega
  have ht:=Yz hq k
  rw [hv] at ht
  have ha:=Kt v k
  refine ⟨by omega,?_⟩
  rw [ha]
  omega
theorem Akg (N:Nat):∀ (F:Nat) (v e:Int),v≠0→Re v.natAbs<F→C1 v.natAbs<268435456→-4000000000000≤e→e+Re v.natAbs≤400000000000000 →
    Ay.Of.L1 N F e (Ax v) (Ag v)=Al9 (mD v) (eD v e):=by
  intro F
  induction F with
  | zero=>intro v e _ h; omega
  | succ F ih =>
    intro v e h0 hF hv h1 h2
    rw [Ay.Of.Cf,Jg hv,Aut,Fz]
    by_cases ho:v%2=1
    · have:Ahp v=true:=Auu ho
      rw [this,Bool.not_true,Aux,Arm ho,Ary ho]
      rfl
    · have:Ahp v=false:=Auy ho
      have hm:v.natAbs%2^1=0:=by rw [Nat.pow_one]; omega
      obtain ⟨n1,n2⟩:=Ajz h0 hm
      rw [this,Bool.not_false,Aut,Aut,Al (by omega) (by omega),ih (Js v 1) (e+1) n1 (by omega) (Afr hv) (by omega) (by omega),Akx hm]
      have:=Al4 (e:=e) hm h0
      rw [← this]
      rfl
theorem Akh (N:Nat):∀ (F:Nat) (v e:Int),v≠0→Re v.natAbs<F→Re v.natAbs<N→C1 v.natAbs<268435456→-4000000000000≤e→e+Re v.natAbs≤400000000000000 →
    Ay.Of.L0 N F e (Ax v) (Ag v)=Al9 (mD v) (eD v e):=by
  intro F
  induction F with
  | zero=>intro v e _ h; omega
  | succ F ih =>
    intro v e h0 hF hN hv h1 h2
    have hl:=Iz (n:=v.natAbs) (by omega)
    rw [Ay.Of.Au,B2,Auu (by omega),Aut,Alm]
    by_cases hz:v.natAbs%4294967296=0
    · have e0:(((v.natAbs%4294967296:Nat):Int)==0)=true:=by rw [hz]; rfl
      have o3:Fo ((Ag v).drop 1)=true:=Iv (by rw [List.length_drop,B2]; omega) (Acb (Fl v))
      have hm:v.natAbs%2^32=0:=by rw [two32]; exact hz
      obtain ⟨n1,n2⟩:=Ajz h0 hm
      rw [e0,Aut,Auu (by omega),Aut,o3,Aut,Afh,Al (by omega) (by omega),ih (Js v 32) (e+32) n1 (by omega) (by omega) (Afr hv) (by omega) (by omega),Akx hm]
      have:=Al4 (e:=e) hm h0
      rw [← this]
      rfl
    · have e0:(((v.natAbs%4294967296:Nat):Int)==0)=false:=by simp only [beq_eq_false_iff_ne,ne_eq]; omega
      rw [e0,Aux]
      exact Akg N N v e h0 hN hv h1 h2
theorem Ajd {v:Int} (h0:v≠0) (h:C1 v.natAbs<268435456):Re v.natAbs<8589934592:=by
  have h1:=Apx (n:=v.natAbs) (by omega)
  have h2:=X5 (n:=v.natAbs)
  omega
theorem Ay.Of.known:Ay.Of.Kn:=Ay.Of.Ad (.cons Ac.Gv.known (.cons Ac.Made.known (.cons Ac.Ve.known .nil))) fun n a e hp=>by
  obtain ⟨h1,h2⟩:=Ae.1 hp
  obtain ⟨v,rfl,rfl,hv⟩:=Hi h1
  have h2:=Aq.1 h2
  by_cases h0:v=0
  · subst h0
    refine ⟨0,.agg [.bool false,.nil,.int .i64 (0:Int)],[],?_,?_⟩
    · rw [Ay.Of.ev]; rfl
    · show Wk [] _ (.agg [.bool (Ax (mD (wv (Ax 0) (Ag 0)))),.ints .arg .u32 (Ag (mD (wv (Ax 0) (Ag 0)))),.int .i64 (eD (wv (Ax 0) (Ag 0)) e)])
      rw [Fz,U1.2 rfl]
      exact Wk.H0 (.cons .bool (.cons (.nil _ _) (.cons .int .nil)))
  · refine ⟨Re v.natAbs+1,Ay.Of.out [.b (Ax v),.l (Ag v),.i e],[],?_,wdy⟩
    have ht:=Ajd h0 hv
    have hl:=Iz (n:=v.natAbs) (by omega)
    have e0:(((Ag v).length:Int)==0)=false:=by rw [B2]; simp only [beq_eq_false_iff_ne,ne_eq]; omega
    show _=Al9 (mD (wv (Ax v) (Ag v))) (eD (wv (Ax v) (Ag v)) e)
    rw [Ay.Of.ev,e0,Aux,Fz]
    exact Akh _ _ v e h0 (by omega) (by omega) hv (by omega) (by omega)
theorem Sb (v:Int):(((Ag v).length:Int)==0)=decide (v=0):=by
  rw [B2,Au9]
  simp only [beq_iff_eq,Au0]
  constructor
  · intro h
    rcases Int.lt_trichotomy v 0 with k | k | k
    · have:=Iz (n:=v.natAbs) (by omega); omega
    · exact k
    · have:=Iz (n:=v.natAbs) (by omega); omega
  · intro h; rw [h]; rfl
theorem Ay.Vf.known:Ay.Vf.Kn:=Ay.Vf.Ad .nil fun n a e m b f hp=>by
  obtain ⟨h1,h2⟩:=Ae.1 hp
  obtain ⟨v,rfl,rfl,hv⟩:=Hi h1
  obtain ⟨w,rfl,rfl,hw⟩:=Hi h2
  refine ⟨0,Ay.Vf.out [.b (Ax v),.l (Ag v),.i e,.b (Ax w),.l (Ag w),.i f],[],?_,.int⟩
  show _=some (DV.int .i64 (Db (wv (Ax v) (Ag v)) e (wv (Ax w) (Ag w)) f))
  rw [Ay.Vf.ev,Fz,Fz,Sb,Sb]
  unfold Db
  by_cases h:v=0
  · rw [Auu h,Aut,if_pos h]
  · rw [Auy h,Aux,if_neg h]
    by_cases h':w=0
    · rw [Auu h',Aut,if_pos h']
    · rw [Auy h',Aux,if_neg h']
theorem Ajy (k:Int):G5 0 k=0:=by
  unfold G5
  split
  · exact Int.zero_mul _
  · exact Rj _
theorem Ay.Level.known:Ay.Level.Kn:=Ay.Level.Ad (.cons Ac.Bx.known .nil) fun n a e f hp=>by
  obtain ⟨h1,h2⟩:=Ae.1 hp
  obtain ⟨v,rfl,rfl,hv⟩:=Ux h1
  refine ⟨0,Ay.Level.out [.b (Ax v),.l (Ag v),.i e,.i f],[],?_,Yw⟩
  show _=Ac6 (G5 (wv (Ax v) (Ag v)) (e-f))
  unfold Abj at h2
  rw [Fz] at h2
  obtain ⟨h3,h4⟩:=Ae.1 h2
  have h3:=Aq.1 h3
  have h4:=Aq.1 h4
  rw [Ay.Level.ev,Fz,Sb]
  by_cases h:v=0
  · rw [Auu h,Aut,h,Ajy]; rfl
  · have o:Are (Ab (e-f))=true:=by rw [Al (by omega) (by omega)]; exact Aq.2 (by omega)
    rw [Auy h,Aux,h1,o,Auz,Aut,Al (by omega) (by omega)]
    rfl
theorem Ald (n k:Nat):C1 (n*2^k)≤C1 n+k:=by
  refine K1 ?_
  have h1:=Iy n
  have h2:n*2^k<2^(32*C1 n)*2^k:=(Nat.mul_lt_mul_right (B8 k)).2 h1
  rw [← Nat.pow_add] at h2
  exact Nat.lt_of_lt_of_le h2 (Au8 (by decide) (by omega))
theorem We (v k:Int):C1 (G5 v k).natAbs≤C1 v.natAbs+k.toNat:=by
  unfold G5
  by_cases h:0≤k
  · rw [if_pos h,Int.natAbs_mul,Int.natAbs_natCast]
    exact Ald _ _
  · rw [if_neg h,Kt]
    exact Nat.le_trans (Hj (Nat.div_le_self _ _)) (Nat.le_add_right _ _)
theorem Ab4 (v w:Int):C1 (v+w).natAbs≤max (C1 v.natAbs) (C1 w.natAbs)+1:=by
  refine K1 ?_
  have h1:=Iy v.natAbs
  have h2:=Iy w.natAbs
  have h3:2^(32*C1 v.natAbs)≤2^(32*max (C1 v.natAbs) (C1 w.natAbs)):=Au8 (by decide) (by omega)
  have h4:2^(32*C1 w.natAbs)≤2^(32*max (C1 v.natAbs) (C1 w.natAbs)):=Au8 (by decide) (by omega)
  rw [Kl]
  omega
theorem Aef {v e w f:Int} (he:-400000≤e∧e≤400000) (hf:-400000≤f∧f≤400000):-400000≤Db v e w f∧Db v e w f≤400000:=by
  unfold Db
  split
  · exact hf
  · split
    · exact he
    · omega
theorem Afq {v e l:Int} (hv:C1 v.natAbs<134217728) (h:e-l≤800000):C1 (G5 v (e-l)).natAbs<140000000:=by
  have:=We v (e-l)
  omega
theorem Ay.Add.known:Ay.Add.Kn:=Ay.Add.Ad (.cons Ac.Add.known (.cons Ay.Level.known (.cons Ay.Vf.known (.cons Ay.Of.known .nil)))) fun n a e m b f hp=>by
  obtain ⟨h1,hf⟩:=Ae.1 hp
  obtain ⟨h2,he⟩:=Ae.1 h1
  obtain ⟨h3,h4⟩:=Ae.1 h2
  obtain ⟨v,rfl,rfl,hv⟩:=Ux h3
  obtain ⟨w,rfl,rfl,hw⟩:=Ux h4
  have he:=Aq.1 he
  have hf:=Aq.1 hf
  refine ⟨0,Ay.Add.out [.b (Ax v),.l (Ag v),.i e,.b (Ax w),.l (Ag w),.i f],[],?_,wdy⟩
  show _=Al9 (Aae (wv (Ax v) (Ag v)) e (wv (Ax w) (Ag w)) f) (Amv (wv (Ax v) (Ag v)) e (wv (Ax w) (Ag w)) f)
  have hlo:=Aef (v:=v) (w:=w) he hf
  have l1:=Afq (l:=Db v e w f) hv (show e-Db v e w f≤800000 by omega)
  have l2:=Afq (l:=Db v e w f) hw (show f-Db v e w f≤800000 by omega)
  have l3:=Ab4 (G5 v (e-Db v e w f)) (G5 w (f-Db v e w f))
  have o1:Abj v e (Db v e w f)=true:=Ae.2 ⟨Aq.2 (by omega),Aq.2 (by omega)⟩
  have o2:Abj w f (Db v e w f)=true:=Ae.2 ⟨Aq.2 (by omega),Aq.2 (by omega)⟩
  have o3:Tf (Db v e w f)=true:=Aq.2 (by omega)
  rw [Ay.Add.ev]
  simp only [Fz]
  rw [Jg (v:=v) (by omega),Jg (v:=w) (by omega),h3,h4,o1,o2,Jg (v:=G5 v (e-Db v e w f)) (by omega),Jg (v:=G5 w (f-Db v e w f)) (by omega),Jg (v:=G5 v (e-Db v e w f)+G5 w (f-Db v e w f)) (by omega),o3]
  simp only [Auz,Aut]
  rfl
theorem Ab5 {v:Int} (h:C1 v.natAbs<268435456):0≤Zs v∧Zs v≤8589934593:=by
  have h2:=X5 (n:=v.natAbs)
  unfold Zs
  split
  · omega
  · constructor<;>omega
theorem Ay.Vc.known:Ay.Vc.Kn:=Ay.Vc.Ad (.cons Ac.Pd.known .nil) fun n a e hp=>by
  obtain ⟨h1,he⟩:=Ae.1 hp
  obtain ⟨v,rfl,rfl,hv⟩:=Hi h1
  have he:=Aq.1 he
  refine ⟨0,Ay.Vc.out [.b (Ax v),.l (Ag v),.i e],[],?_,.int⟩
  show _=some (DV.int .i64 (Ag0 (wv (Ax v) (Ag v)) e))
  have hb:=Ab5 hv
  rw [Ay.Vc.ev,Fz,Sb,h1]
  unfold Ag0
  by_cases h:v=0
  · rw [Auu h,Aut,if_pos h]
  · rw [Auy h,Aux,Aut,if_neg h,Al (by omega) (by omega)]
theorem Ay.Ed.known:Ay.Ed.Kn:=Ay.Ed.Ad (.cons Ac.Ed.known .nil) fun n a e m b f hp=>by
  have hp:(Jh n a&&Jh m b)=true:=hp
  refine ⟨0,Ay.Ed.out [.b n,.l a,.i e,.b m,.l b,.i f],[],?_,.bool⟩
  show _=some (DV.bool (decide (e=f)&&T4 (wv n a) (wv m b)))
  rw [Ay.Ed.ev,hp,Bool.or_true,Aut]
  by_cases h:e=f
  · have e0:(e==f)=true:=by simp [h]
    rw [e0,Auu h]; rfl
  · have e0:(e==f)=false:=by simp [h]
    rw [e0,Auy h]; rfl
open EqRefC
namespace EqRefE
def A5.Value.Bb:List (Nat × Entry):=[(143,Ac.Neg.spec),(115,Ac.Of.spec),(109,Ay.Of.spec),(141,A5.Ka.spec),(142,A5.Neg.spec),(140,A5.Power.spec)]
def A5.Value.E:Env:=Bc (Ba A5.Value.Bb) (fun _=>false) (fun _=>none) (fun _=>none)
theorem A5.Value.ev (N:Nat) (x:Int):Bw A5.Value.E N Tryz.f63 (Am Tryz.f63) [.int .u64 x]=bif (Oa x) then bif (Age (Ab (Cj x))) then bif (Oa x) then bif (A2 0 (Kc x)) then bif (Oa x) then bif (Age (Ab (A9 ((Cj x)+4503599627370496)))) then bif (Oa x) then bif (Ai x) then bif (Dv x) then bif (Jh (Ax ((Ab (A9 ((Cj x)+4503599627370496))))) (Ag ((Ab (A9 ((Cj x)+4503599627370496)))))) then bif (Jh (Ax (- wv (Ax ((Ab (A9 ((Cj x)+4503599627370496))))) (Ag ((Ab (A9 ((Cj x)+4503599627370496))))))) (Ag (- wv (Ax ((Ab (A9 ((Cj x)+4503599627370496))))) (Ag ((Ab (A9 ((Cj x)+4503599627370496)))))))&&Tf (Ab ((Kc x)-1075))) then some (.agg [.bool (Ax (mD (wv (Ax (- wv (Ax ((Ab (A9 ((Cj x)+4503599627370496))))) (Ag ((Ab (A9 ((Cj x)+4503599627370496))))))) (Ag (- wv (Ax ((Ab (A9 ((Cj x)+4503599627370496))))) (Ag ((Ab (A9 ((Cj x)+4503599627370496)))))))))),.ints .arg .u32 (Ag (mD (wv (Ax (- wv (Ax ((Ab (A9 ((Cj x)+4503599627370496))))) (Ag ((Ab (A9 ((Cj x)+4503599627370496))))))) (Ag (- wv (Ax ((Ab (A9 ((Cj x)+4503599627370496))))) (Ag ((Ab (A9 ((Cj x)+4503599627370496)))))))))),.int .i64 (eD (wv (Ax (- wv (Ax ((Ab (A9 ((Cj x)+4503599627370496))))) (Ag ((Ab (A9 ((Cj x)+4503599627370496))))))) (Ag (- wv (Ax ((Ab (A9 ((Cj x)+4503599627370496))))) (Ag ((Ab (A9 ((Cj x)+4503599627370496)))))))) (Ab ((Kc x)-1075)))]) else none else none else bif (Jh (Ax ((Ab (A9 ((Cj x)+4503599627370496))))) (Ag ((Ab (A9 ((Cj x)+4503599627370496)))))&&Tf (Ab ((Kc x)-1075))) then some (.agg [.bool (Ax (mD (wv (Ax ((Ab (A9 ((Cj x)+4503599627370496))))) (Ag ((Ab (A9 ((Cj x)+4503599627370496)))))))),.ints .arg .u32 (Ag (mD (wv (Ax ((Ab (A9 ((Cj x)+4503599627370496))))) (Ag ((Ab (A9 ((Cj x)+4503599627370496)))))))),.int .i64 (eD (wv (Ax ((Ab (A9 ((Cj x)+4503599627370496))))) (Ag ((Ab (A9 ((Cj x)+4503599627370496)))))) (Ab ((Kc x)-1075)))]) else none else none else none else none else none else bif (Ai x) then bif (Dv x) then bif (Jh (Ax ((Ab (Cj x)))) (Ag ((Ab (Cj x))))) then bif (Jh (Ax (- wv (Ax ((Ab (Cj x)))) (Ag ((Ab (Cj x)))))) (Ag (- wv (Ax ((Ab (Cj x)))) (Ag ((Ab (Cj x))))))&&Tf (-1074:Int)) then some (.agg [.bool (Ax (mD (wv (Ax (- wv (Ax ((Ab (Cj x)))) (Ag ((Ab (Cj x)))))) (Ag (- wv (Ax ((Ab (Cj x)))) (Ag ((Ab (Cj x))))))))),.ints .arg .u32 (Ag (mD (wv (Ax (- wv (Ax ((Ab (Cj x)))) (Ag ((Ab (Cj x)))))) (Ag (- wv (Ax ((Ab (Cj x)))) (Ag ((Ab (Cj x))))))))),.int .i64 (eD (wv (Ax (- wv (Ax ((Ab (Cj x)))) (Ag ((Ab (Cj x)))))) (Ag (- wv (Ax ((Ab (Cj x)))) (Ag ((Ab (Cj x))))))) (-1074:Int))]) else none else none else bif (Jh (Ax ((Ab (Cj x)))) (Ag ((Ab (Cj x))))&&Tf (-1074:Int)) then some (.agg [.bool (Ax (mD (wv (Ax ((Ab (Cj x)))) (Ag ((Ab (Cj x))))))),.ints .arg .u32 (Ag (mD (wv (Ax ((Ab (Cj x)))) (Ag ((Ab (Cj x))))))),.int .i64 (eD (wv (Ax ((Ab (Cj x)))) (Ag ((Ab (Cj x))))) (-1074:Int))]) else none else none else none else none else none:=by kernel_rfl
abbrev _root_.Go.Proofs.S1.A5.Value.Kn:=A6 Tryz.prog 63 A5.Value.spec
theorem A5.Value.Ad (hk:A0 Tryz.prog A5.Value.Bb) (h:∀ (x:Int),A5.Value.pre [.i x]=true→Be A5.Value.E Tryz.f63 [.int .u64 x] (A5.Value.out [.i x])):A5.Value.Kn :=
  Ak (A1 hk _ _ _) Tryz.func63 (by kernel_rfl) (by kernel_rfl) h
end EqRefE
open EqRefE
theorem U6 {n k:Nat} (h:n<2^(32*k)) {m:Nat} (hk:k<m):C1 n<m:=Nat.lt_of_le_of_lt (K1 h) hk
theorem Rk (m:Nat):Ie false m=(m:Int):=rfl
theorem Aa6 (m:Nat):Ie true m=-(m:Int):=rfl
theorem A5.Value.known:A5.Value.Kn:=A5.Value.Ad (.cons Ac.Neg.known (.cons Ac.Of.known (.cons Ay.Of.known (.cons A5.Ka.known (.cons A5.Neg.known (.cons A5.Power.known .nil)))))) fun x hp=>by
  obtain ⟨n,rfl,hn⟩:=Bu (x:=x) hp
  refine ⟨0,A5.Value.out [.i n],[],?_,wdy⟩
  show _=Al9 (mD (A7 n)) (eD (A7 n) (Az n))
  have hf:=M6 n
  have hw:=Iu n
  have small:∀ k:Nat,k<2^54→C1 k<268435456:=fun k hk=>U6 (k:=2) (Nat.lt_trans hk (by decide)) (by omega)
  have o1:∀ k:Nat,k<2^54→Jh (Ax (k:Int)) (Ag (k:Int))=true:=fun k hk=>Jg (by rw [Int.natAbs_natCast]; exact small k hk)
  have o2:∀ k:Nat,k<2^54→Jh (Ax (-(k:Int))) (Ag (-(k:Int)))=true:=fun k hk=>Jg (by rw [Int.natAbs_neg,Int.natAbs_natCast]; exact small k hk)
  rw [A5.Value.ev]
  unfold Cj Kc Dv A7 Az
  simp only [Fz,Auv]
  have e1:Ab ((Dt n:Nat):Int)=((Dt n:Nat):Int):=Al (by omega) (by omega)
  have e2:Ab (A9 (((Dt n:Nat):Int)+4503599627370496))=((Dt n+2^52:Nat):Int):=by
    rw [Co (by omega) (by omega),Al (by omega) (by omega)]; omega
  have i1:∀ k:Nat,k<2^54→Age (k:Int)=true:=fun k hk=>Aq.2 (by omega)
  rw [Ot,B5 hn,e1,e2,i1 _ (by omega),i1 _ (by omega),At,Al (by omega) (by omega)]
  simp only [Aut]
  unfold Ar Aw
  by_cases h:Em n=0
  · have o3:Tf (-1074)=true:=Aq.2 (by omega)
    rw [if_pos h,if_pos h,Auy (by omega),Aux,o1 _ (by omega),o2 _ (by omega),o3]
    cases Cs n
    · rw [Aux,Rk]; rfl
    · rw [Aut,Aa6]; rfl
  · have o3:Tf ((Em n:Int)-1075)=true:=Aq.2 (by omega)
    rw [if_neg h,if_neg h,Auu (by omega),Aut,o1 _ (by omega),o2 _ (by omega),o3]
    cases Cs n
    · rw [Aux,Rk]; rfl
    · rw [Aut,Aa6]; rfl
theorem Rd {m t:Nat} (h:m<2^t) (h0:m≠0):Re m<t:=Nat.lt_of_le_of_lt (Apx h0) ((Nat.log2_lt h0).2 h)
theorem Rc (b:Nat):(A7 (b:Int)).natAbs=Ar b:=by
  unfold A7 Ie
  rw [Auv]
  split<;>omega
theorem Ac9 (b:Nat):C1 (A7 (b:Int)).natAbs<3∧-400000≤eD (A7 (b:Int)) (Aw b)∧eD (A7 (b:Int)) (Aw b)≤400000:=by
  have hm:=Eo b
  have he:=Dc b
  have ha:=Rc b
  refine ⟨U6 (k:=2) (by rw [ha]; exact Nat.lt_trans hm (by decide)) (by omega),?_⟩
  unfold eD
  by_cases h:A7 (b:Int)=0
  · rw [if_pos h]; omega
  · rw [if_neg h]
    have:=Rd (m:=(A7 (b:Int)).natAbs) (t:=53) (by rw [ha]; exact hm) (by omega)
    omega
theorem Zo {r:Nat} (h:r<2^63):Ds r=((2^63+r:Nat):Int):=by
  unfold Ds; rw [Auv,V7 h]
theorem Ly {r:Nat} (h:r<2^63) (n:Bool):(bif n then (bif (Ai (r:Int)) then some (DV.int .u64 (Ds r)) else none) else some (DV.int .u64 r))=some (DV.int .u64 ((B0 n r:Nat):Int)):=by
  cases n
  · rfl
  · rw [B5 (by omega),Zo h]; rfl
theorem Mu (n:Bool) (m:Nat) (e:Int):Ry n m e=((B0 n (B7 m e):Nat):Int):=by
  unfold Ry; rw [Auv]
theorem Ad1 {E M:Nat} (h1:1≤E) (h2:E≤2046) (h3:4503599627370496≤M) (h4:M<9007199254740992):E*2^52+M%2^52=min ((E-1)*2^52+M) Gp:=by
  obtain ⟨k,rfl⟩:∃ k,E=k+1:=⟨E-1,by omega⟩
  obtain ⟨r,rfl⟩:∃ r,M=2^52+r:=⟨M-2^52,by omega⟩
  have hr:r<2^52:=by omega
  have hm:(2^52+r)%2^52=r:=by rw [Nat.add_mod_left,Au6 hr]
  have hk:k*2^52≤2045*2^52:=Au5 _ (by omega)
  have hi:Gp=2045*2^52+2^52+2^52:=by unfold Gp; rfl
  rw [hm,Nat.add_sub_cancel,Nat.succ_mul,hi]
  generalize 2^52=c at *
  omega
theorem soft.Pack.known:soft.Pack.Kn:=EqSoft.soft.Pack.Ad (.cons soft.Fy.known .nil) fun rk n m e hp hr=>by
  have hp:=Aq.1 (show Jt m e=true from hp)
  have hr:Nh m e<rk+1:=hr
  obtain ⟨m0,m1,e0,e1⟩:=hp
  obtain ⟨M,rfl⟩:∃ M:Nat,m=M:=⟨m.toNat,by omega⟩
  refine ⟨0,soft.Pack.out [.b n,.i M,.i e],[],?_,.int⟩
  rw [EqSoft.soft.Pack.ev]
  show _=some (DV.int .u64 (Ry n M e))
  rw [Mu]
  unfold Nh at hr
  by_cases h0:M=0
  · subst h0
    have:=Ly (r:=0) (by decide) n
    have e0:B7 0 e=0:=rfl
    rw [e0]
    simpa using this
  · have b0:((M:Int)==0)=false:=by simp; omega
    rw [b0,Aux]
    by_cases h1:M=9007199254740992
    · have b1:D1 (9007199254740992:Int) (M:Int)=true:=by rw [Ej]; simp; omega
      have s1:Dg .u64 (M:Int) (1:Int)=((2^52:Nat):Int):=by
        rw [show (1:Int)=((1:Nat):Int) from rfl,Gr .u64 M 1 (by decide),h1]
      have w1:Ab (e+1)=e+1:=Al (by omega) (by omega)
      rw [if_pos (by omega)] at hr
      have p1:Jt ((2^52:Nat):Int) (e+1)=true:=Aq.2 (by omega)
      have p2:Cu (Nh ((2^52:Nat):Int) (e+1)<rk)=true:=Aq.2 (by
        unfold Nh
        rw [if_neg (by omega),if_neg (by omega)]; omega)
      rw [b1,s1,w1,p1,p2,Mu,h1]
      have:=(Df (2^52) 1 (e+1)).1
      have e2:e+1-((1:Nat):Int)=e:=by omega
      rw [e2] at this
      rw [← this]; rfl
    · have b1:D1 (9007199254740992:Int) (M:Int)=false:=by rw [Ej]; simp; omega
      rw [b1,Aux]
      rw [if_neg (by omega)] at hr
      by_cases h2:M<4503599627370496
      · have b2:A2 (M:Int) (4503599627370496:Int)=true:=by rw [At]; simp; omega
        rw [if_pos (by omega)] at hr
        by_cases h3:e=-1074
        · subst h3
          have b3:A2 (-1074:Int) (-1074)=false:=by decide
          rw [b2,b3,Bool.true_and,Aux,Aut,Vo h2]
          exact Ly (by omega) n
        · have b3:A2 (-1074:Int) e=true:=by rw [At]; simp; omega
          have s1:Br .u64 (M:Int) (1:Int)=((M*2^1:Nat):Int):=by
            rw [show (1:Int)=((1:Nat):Int) from rfl,E2 M 1 (by decide),Au6 (by omega)]
          have w1:Ab (e-1)=e-1:=Al (by omega) (by omega)
          have p1:Jt ((M*2^1:Nat):Int) (e-1)=true:=Aq.2 (by omega)
          have p2:Cu (Nh ((M*2^1:Nat):Int) (e-1)<rk)=true:=Aq.2 (by
            unfold Nh
            rw [if_neg (by omega)]
            split<;>omega)
          rw [b2,b3,s1,w1,p1,p2,Mu]
          have:=(Df M 1 e).1
          have e2:e-((1:Nat):Int)=e-1:=by omega
          rw [e2] at this
          rw [this]; rfl
      · have b2:A2 (M:Int) (4503599627370496:Int)=false:=by rw [At]; simp; omega
        have w1:Ab (e+1075)=e+1075:=Al (by omega) (by omega)
        rw [b2,w1,Bool.false_and,Aux,Aux]
        have hr:=Pm (m:=M) (e:=e) (by omega) (by omega) e0
        by_cases h4:2047≤e+1075
        · have b4:D1 (2047:Int) (e+1075)=true:=by rw [Ej]; simp; omega
          have:B7 M e=9218868437227405312:=by rw [hr,Ju]; omega
          rw [b4,this,Aut]
          exact Ly (r:=9218868437227405312) (by decide) n
        · have b4:D1 (2047:Int) (e+1075)=false:=by rw [Ej]; simp; omega
          obtain ⟨E,hE⟩:∃ E:Nat,e+1075=E:=⟨(e+1075).toNat,by omega⟩
          have s1:Hr .u64 (Br .u64 (A9 (e+1075)) (52:Int)) (Fs .u64 (M:Int) (4503599627370495:Int))=((B7 M e:Nat):Int):=by
            rw [hE,Co (by omega) (by omega),show (52:Int)=((52:Nat):Int) from rfl,E2 E 52 (by decide),Au6 (by omega),
              show (4503599627370495:Int)=((2^52-1:Nat):Int) from rfl,Hl 52 (by omega) (by decide),Lq (by omega) (by omega)]
            have hE2:(e+1074).toNat=E-1:=by omega
            have hE3:1≤E∧E≤2046:=by omega
            have hM:4503599627370496≤M∧M<9007199254740992:=by omega
            rw [hr,hE2]
            exact congrArg (fun (x:Nat)=>(x:Int)) (Ad1 hE3.1 hE3.2 hM.1 hM.2)
          rw [b4,s1,Aux]
          exact Ly (Po M e) n
open EqSoft
theorem Ajf {D:Nat} (h:D≤63):2^D<2^64:=Nat.pow_lt_pow_right (by decide) (by omega)
theorem N1 (n:Bool) {r:Nat} (h:r<2^63):Ny .u64 ((B0 n r:Nat):Int) (9223372036854775808:Int)=(r:Int):=by
  have hs:B0 n r<2^64:=by unfold B0; split<;>omega
  unfold Ny
  rw [show (9223372036854775808:Int)=((2^63:Nat):Int) from rfl,BitVec.toNat_and,BitVec.toNat_not,Ig,Ig,show IntKind.u64.bits=64 from rfl,Au6 hs,
    show 2^64-1-2^63%2^64=2^63-1 by decide,Nat.and_two_pow_sub_one_eq_mod]
  have:B0 n r%2^63=r:=by unfold B0; cases n<;>simp<;>omega
  rw [this]
  exact Uq (by omega)
theorem Ad8 (N:Nat) (ex n:Bool) {r:Nat} (h:r≤Gp):soft.C0.C18 N ex ((B0 n r:Nat):Int)=some (.tup [.int .u64 ((B0 n r:Nat):Int),.int .u8 ((flags r ex:Nat):Int)]):=by
  have h63:r<2^63:=by rw [Ju] at h; omega
  have hs:B0 n r<2^64:=by unfold B0; split<;>omega
  rw [soft.C0.Afe,N1 n h63,B5 hs]
  unfold A3 flags
  rw [Auv,Aib n h]
  have hinf:(((r:Nat):Int)==(9218868437227405312:Int))=decide (r=Gp):=by
    rw [Ju,Au9]; simp; omega
  rw [hinf]
  by_cases h1:r=Gp
  · simp [h1]
  · by_cases h2:2^52≤r
    · cases ex<;>simp [h1]<;>simp [show 4503599627370496≤r by omega]
    · by_cases h3:0<r
      · cases ex<;>simp [h1,h3]<;>simp [show ¬ 4503599627370496≤r by omega]
      · cases ex<;>simp [h1,h3]<;>simp [show ¬ 4503599627370496≤r by omega]
theorem Ahv (N:Nat) (n:Bool) {m:Nat} {e:Int} (he:-1140≤e∧e≤50000) (r:Bool):∀ (k d F:Nat),d+k=62→k<F→(∀ d',d'<d→2^53≤m / 2^d'∨e+d' < -1074) →
    ∃ D:Nat,soft.C0.L0 N F n m e r (d:Int)=soft.C0.C7 N n m e r (D:Int)∧Drop m e D:=by
  intro k
  induction k with
  | zero =>
    intro d F hd hF hl
    obtain ⟨F,rfl⟩:∃ G,F=G+1:=⟨F-1,by omega⟩
    obtain rfl:d=62:=by omega
    rw [soft.C0.Au,Gr .u64 m 62 (by decide),Al (by omega) (by omega),Al (by omega) (by omega),Ej,At]
    have a0:decide ((0:Int)≤((62:Nat):Int))=true:=by decide
    have a1:((((62:Nat):Int)+1)==63)=true:=by decide
    rw [a0,Aut,a1,Aut]
    by_cases h:2^53≤m / 2^62∨e+(62:Nat) < -1074
    · refine ⟨63,?_,by omega,by omega,fun d' hd'=>?_⟩
      · have:(decide ((9007199254740992:Int)≤((m / 2^62:Nat):Int))||decide (e+((62:Nat):Int) < -1074))=true:=by
          simp only [Bool.or_eq_true,Au0]; omega
        rw [this]; rfl
      · rcases Nat.lt_or_ge d' 62 with h' | h'
        · exact hl d' h'
        · obtain rfl:d'=62:=by omega
          exact h
    · refine ⟨62,?_,by omega,fun _=>by omega,hl⟩
      have:(decide ((9007199254740992:Int)≤((m / 2^62:Nat):Int))||decide (e+((62:Nat):Int) < -1074))=false:=by
        simp only [Bool.or_eq_false_iff,Avc]; omega
      rw [this]; rfl
  | succ k ih =>
    intro d F hd hF hl
    obtain ⟨F,rfl⟩:∃ G,F=G+1:=⟨F-1,by omega⟩
    rw [soft.C0.Au,Gr .u64 m d (by show d≤64; omega),Al (by omega) (by omega),Al (by omega) (by omega),Ej,At]
    have a0:decide ((0:Int)≤(d:Int))=true:=by simp
    have a1:(((d:Int)+1)==63)=false:=by simp; omega
    rw [a0,Aut,a1,Aux]
    by_cases h:2^53≤m / 2^d∨e+d < -1074
    · have:(decide ((9007199254740992:Int)≤((m / 2^d:Nat):Int))||decide (e+(d:Int) < -1074))=true:=by
        simp only [Bool.or_eq_true,Au0]; omega
      rw [this,Aut,show (d:Int)+1=((d+1:Nat):Int) by omega]
      refine ih (d+1) F (by omega) (by omega) fun d' hd'=>?_
      rcases Nat.lt_or_ge d' d with h' | h'
      · exact hl d' h'
      · obtain rfl:d'=d:=by omega
        exact h
    · refine ⟨d,?_,by omega,fun _=>by omega,hl⟩
      have:(decide ((9007199254740992:Int)≤((m / 2^d:Nat):Int))||decide (e+(d:Int) < -1074))=false:=by
        simp only [Bool.or_eq_false_iff,Avc]; omega
      rw [this]; rfl
theorem Ahu (N:Nat) (n:Bool) {m D:Nat} (hm:m<2^64) {e:Int} (he:-1140≤e∧e≤50000) (r:Bool) (hD:D≤63) (hq:(if e+D < -1074 then 0 else qOf m D r.toNat)≤2^53) :
    soft.C0.C7 N n m e r (D:Int)=soft.C0.C18 N (decide (m%2^D=0∧r.toNat=0)) ((B0 n (B7 (if e+D < -1074 then 0 else qOf m D r.toNat) (max (e+D) (-1074))):Nat):Int):=by
  have hA:=B8 D
  have h2D:=Ajf hD
  have hr:=Nat.mod_lt m hA
  have hqm:m / 2^D≤m:=Nat.div_le_self _ _
  rw [soft.C0.Aus]
  have a0:decide ((0:Int)≤(D:Int))=true:=by simp
  have e1:Dg .u64 (m:Int) (D:Int)=((m / 2^D:Nat):Int):=Gr .u64 m D (by show D≤64; omega)
  have e2:Br .u64 (1:Int) (D:Int)=((2^D:Nat):Int):=by
    rw [show (1:Int)=((1:Nat):Int) from rfl,E2 1 D (by omega),Nat.one_mul,Au6 h2D]
  have e3:Fs .u64 (m:Int) (A9 (Br .u64 (1:Int) (D:Int)-(1:Int)))=((m%2^D:Nat):Int):=by
    rw [e2,Co (by omega) (by omega),show ((2^D:Nat):Int)-1=((2^D-1:Nat):Int) by omega,Hl D hm (by omega)]
  have e5:(bif (((m%2^D:Nat):Int)==(0:Int)) then (!r) else false)=decide (m%2^D=0∧r.toNat=0):=by
    by_cases h:m%2^D=0
    · cases r<;>simp [h]
    · have:(((m%2^D:Nat):Int)==(0:Int))=false:=by simp only [beq_eq_false_iff_ne,ne_eq]; omega
      rw [this]; simp [h]
  rw [a0,Aut,Aut,e1,e3,e5,At]
  have last:∀ (p:Bool) (q:Nat),q≤2^64-1→(if e+D < -1074 then 0 else q)≤2^53→soft.C0.C14 N n e (D:Int) ((q:Nat):Int) p=soft.C0.C18 N p ((B0 n (B7 (if e+D < -1074 then 0 else q) (max (e+D) (-1074))):Nat):Int):=by
    intro p q hq hq2
    rw [soft.C0.Aff,Al (by omega) (by omega),At]
    have c16:∀ q':Nat,q'≤2^53→soft.C0.C16 N n e (q':Int) (D:Int) p=soft.C0.C18 N p ((B0 n (B7 q' (max (e+D) (-1074))):Nat):Int):=by
      intro q' hq'
      rw [soft.C0.Ar8,Al (by omega) (by omega)]
      have:Jt (q':Int) (max (e+(D:Int)) (-1074))=true:=Aq.2 (by omega)
      rw [this,Mu]; rfl
    by_cases h:e+D < -1074
    · rw [if_pos h] at hq2 ⊢
      have:decide (e+(D:Int) < -1074)=true:=by simpa using h
      rw [this]
      exact c16 0 hq2
    · rw [if_neg h] at hq2 ⊢
      have:decide (e+(D:Int) < -1074)=false:=by simpa using h
      rw [this]
      exact c16 q hq2
  have up:∀ (half:Nat) (hh:0<D→half=2^(D-1)) (p:Bool),soft.C0.C12 N n e r (D:Int) ((m / 2^D:Nat):Int) ((m%2^D:Nat):Int) (half:Int) p=soft.C0.C18 N p ((B0 n (B7 (if e+D < -1074 then 0 else qOf m D r.toNat) (max (e+D) (-1074))):Nat):Int):=by
    intro half hh p
    rw [soft.C0.Afg,At,At]
    have odd:(Fs .u64 ((m / 2^D:Nat):Int) (1:Int)==(1:Int))=decide (m / 2^D%2=1):=by
      rw [show (1:Int)=((2^1-1:Nat):Int) from rfl,Hl 1 (by omega) (by decide),Au9]
      simp only [beq_iff_eq,Au0]
      omega
    rw [odd]
    have test:(decide ((0:Int)<(D:Int))&&(decide ((half:Int)<((m%2^D:Nat):Int))||((((m%2^D:Nat):Int)==(half:Int))&&(r||decide (m / 2^D%2=1))))) =
        decide (0<D∧(2^(D-1)<m%2^D∨(m%2^D=2^(D-1)∧(r.toNat=1∨m / 2^D%2=1)))):=by
      rw [Au9]
      generalize m%2^D=rr
      generalize m / 2^D=qq
      generalize hg:2^(D-1)=gg at hh
      by_cases h0:0<D
      · have:=hh h0
        subst this
        cases r<;>simp [h0]<;>omega
      · simp [h0]
    rw [test]
    by_cases ht:0<D∧(2^(D-1)<m%2^D∨(m%2^D=2^(D-1)∧(r.toNat=1∨m / 2^D%2=1)))
    · have hq1:qOf m D r.toNat=m / 2^D+1:=by unfold qOf; rw [if_pos ht]
      have hlt:m / 2^D+1<2^64:=by
        obtain ⟨d,rfl⟩:∃ d,D=d+1:=⟨D-1,by omega⟩
        have h1:m / 2^(d+1)≤m / 2:=Nat.div_le_div_left (by rw [Nat.pow_succ]; have:=B8 d; omega) (by decide)
        omega
      rw [hq1] at hq ⊢
      rw [Auu ht,Aut,Co (by omega) (by omega),show ((m / 2^D:Nat):Int)+1=((m / 2^D+1:Nat):Int) by omega]
      exact last p _ (by omega) hq
    · have hq1:qOf m D r.toNat=m / 2^D:=by unfold qOf; rw [if_neg ht]; rfl
      rw [hq1] at hq ⊢
      rw [Auy ht,Aux]
      exact last p _ (by omega) hq
  rcases Nat.eq_zero_or_pos D with rfl | hpos
  · have:decide ((0:Int)<((0:Nat):Int))=false:=by decide
    rw [this,Aux]
    exact up 0 (fun h=>absurd h (by omega)) _
  · have h1:decide ((0:Int)<(D:Int))=true:=by simpa using hpos
    have h2:Ab ((D:Int)-1)=((D-1:Nat):Int):=by rw [Al (by omega) (by omega)]; omega
    have h3:decide ((0:Int)≤((D-1:Nat):Int))=true:=by simp
    have h4:Br .u64 (1:Int) ((D-1:Nat):Int)=((2^(D-1):Nat):Int):=by
      rw [show (1:Int)=((1:Nat):Int) from rfl,E2 1 (D-1) (by omega),Nat.one_mul,Au6 (Ajf (by omega))]
    rw [h1,Aut,h2,h3,Aut,h4]
    exact up _ (fun _=>rfl) _
theorem soft.C0.known:soft.C0.Kn:=soft.C0.Ad (.cons soft.Kind.known (.cons soft.Pack.known .nil)) fun n m e r hp=>by
  obtain ⟨m0,m1,e1,e2,hr⟩:=Aq.1 (show D0 m e r=true from hp)
  obtain ⟨M,rfl⟩:∃ M:Nat,m=M:=⟨m.toNat,by omega⟩
  refine ⟨63,soft.C0.out [.b n,.i M,.i e,.b r],[],?_,Wk.Gu (.cons .int (.cons .int .nil))⟩
  show _=some (DV.tup [.int .u64 (Eh n M e r),.int .u8 (Eg n M e r)])
  unfold Eh Eg Fx
  rw [Auv,soft.C0.ev]
  dsimp only
  by_cases h0:M=0∧r=false
  · obtain ⟨rfl,rfl⟩:=h0
    have:Jt (0:Int) (-1074)=true:=Aq.2 (by omega)
    have hp0:=Mu n 0 (-1074)
    rw [this]
    simp only [Bool.not_false,Bool.and_true,Aut,Bool.toNat_false]
    have hz:(((0:Nat):Int)==0)=true:=rfl
    rw [hz,Aut]
    have hp0:Ry n (0:Int) (-1074)=((B0 n (B7 0 (-1074)):Nat):Int):=hp0
    have z:∀ E,B7 0 E=0:=fun E=>if_pos rfl
    have z3:∀ E,flagsOf 0 E=0:=fun E=>if_pos rfl
    rw [hp0,z,show 4*0+0=0 from rfl,z,z3]
    rfl
  · have hc:((((M:Nat):Int)==(0:Int))&&!r)=false:=by
      cases r
      · have:M≠0:=fun h=>h0 ⟨h,rfl⟩
        simp; omega
      · simp
    rw [hc,Aux]
    have he:-1140≤e∧e≤50000:=by omega
    obtain ⟨D,hl,hD⟩:=Ahv 63 n (m:=M) he r 62 0 63 (by omega) (by omega) (fun d' h=>by omega)
    have hs:r.toNat≤1:=by cases r<;>decide
    have hV:4*M+r.toNat≠0:=by
      intro h
      refine h0 ⟨by omega,?_⟩
      cases r
      · rfl
      · simp at h
    obtain ⟨t1,t2,t3⟩:=Ahx hD hs hV (by omega) (by omega) (fun h=>by
      have:r=true:=by cases r<;>simp_all
      have:=hr this
      omega)
    have hl:soft.C0.L0 63 63 n (M:Int) e r (0:Int)=soft.C0.C7 63 n (M:Int) e r (D:Int):=hl
    rw [hl,Ahu 63 n (by omega) he r hD.le t3,← t1,Ad8 63 _ n (Y9 _ _),t2]
namespace EqSum
def sum.right.Bb:List (Nat × Entry):=[]
def sum.right.E:Env:=Bc (Ba sum.right.Bb) (fun _=>false) (fun _=>none) (fun _=>none)
theorem sum.right.ev (N:Nat) (m d:Int):Bw sum.right.E N Tryz.f249 (Am Tryz.f249) [.int .u64 m,.int .i64 d]=bif (A2 63 d) then bif ((Br .u64 (Dg .u64 m 63) 63) !=m) then some (.int .u64 (Hr .u64 (Dg .u64 m 63) 1)) else some (.int .u64 (Dg .u64 m 63)) else bif (decide (0≤d)) then bif (decide (0≤d)) then bif ((Br .u64 (Dg .u64 m d) d) !=m) then some (.int .u64 (Hr .u64 (Dg .u64 m d) 1)) else some (.int .u64 (Dg .u64 m d)) else none else none:=by kernel_rfl
abbrev _root_.Go.Proofs.S1.sum.right.Kn:=A6 Tryz.prog 249 sum.right.spec
theorem sum.right.Ad (hk:A0 Tryz.prog sum.right.Bb) (h:∀ (m d:Int),sum.right.pre [.i m,.i d]=true→Be sum.right.E Tryz.f249 [.int .u64 m,.int .i64 d] (sum.right.out [.i m,.i d])):sum.right.Kn :=
  Ak (A1 hk _ _ _) Tryz.func249 (by kernel_rfl) (by kernel_rfl) h
def sum.D8.Bb:List (Nat × Entry):=[(148,soft.Finite.spec),(155,soft.Kind.spec)]
def sum.D8.E:Env:=Bc (Ba sum.D8.Bb) (fun _=>false) (fun _=>none) (fun _=>none)
theorem sum.D8.ev (N:Nat) (a b:Int):Bw sum.D8.E N Tryz.f248 (Am Tryz.f248) [.int .u64 a,.int .u64 b]=bif (Ai a) then bif ((A3 a)==(4:Int)) then some (.tup [.int .u64 9221120237041090560,.int .u8 0]) else bif (Ai b) then bif ((A3 b)==(4:Int)) then some (.tup [.int .u64 9221120237041090560,.int .u8 0]) else bif (Ai a) then bif (Cy a) then some (.tup [.int .u64 b,.int .u8 0]) else bif (Ai b) then bif ((Cy b)||(a==b)) then some (.tup [.int .u64 a,.int .u8 0]) else some (.tup [.int .u64 9221120237041090560,.int .u8 16]) else none else none else none else none :=
  Eq.trans (by kernel_rfl)
  (Es (Es rfl (Es (Es rfl (Es (Es rfl (Es (Ap (Ul (Cy b)) (Ap (Ul (Cy b)) (Ap (tt8 (Cy b)) (Ap (tt6 (Cy b)) (Da (tt5 (Cy b) (a==b)) rfl rfl))))) rfl)) rfl)) rfl)) rfl)
abbrev _root_.Go.Proofs.S1.sum.D8.Kn:=A6 Tryz.prog 248 sum.D8.spec
theorem sum.D8.Ad (hk:A0 Tryz.prog sum.D8.Bb) (h:∀ (a b:Int),sum.D8.pre [.i a,.i b]=true→Be sum.D8.E Tryz.f248 [.int .u64 a,.int .u64 b] (sum.D8.out [.i a,.i b])):sum.D8.Kn :=
  Ak (A1 hk _ _ _) Tryz.func248 (by kernel_rfl) (by kernel_rfl) h
def sum.Add.Bb:List (Nat × Entry):=[(148,soft.Finite.spec),(212,soft.C0.spec),(211,soft.Fk.spec),(213,soft.Sign.spec),(249,sum.right.spec),(248,sum.D8.spec)]
def sum.Add.E:Env:=Bc (Ba sum.Add.Bb) (fun _=>false) (fun _=>none) (fun _=>none)
theorem sum.Add.ev (N:Nat) (a b:Int):Bw sum.Add.E N Tryz.f232 (Am Tryz.f232) [.int .u64 a,.int .u64 b]=bif (Ai a) then bif ((!(Cy a))||(Ai b)) then bif ((!(Cy a))||(!(Cy b))) then bif ((Ai a&&Ai b)&&(!(Cy a)||!(Cy b))) then some (.tup [.int .u64 (Kp a b),.int .u8 (Ui a b)]) else none else bif (Ai a) then bif (Ai b) then bif (Ai a) then bif (Ai b) then bif (A2 (Az a) (Az b)) then bif (Ai (Br .u64 (Bh a) 9)&&Cu (0≤(Ab ((Az b)-(Az a)))∧(Ab ((Az b)-(Az a)))<1000000)) then bif ((Dv b)==(Dv a)) then bif (D0 (A9 ((Br .u64 (Bh b) 9)+(Ep (Br .u64 (Bh a) 9) (Ab ((Az b)-(Az a)))))) (Ab ((Az b)-9)) false) then some (.tup [.int .u64 (Eh (Dv b) (A9 ((Br .u64 (Bh b) 9)+(Ep (Br .u64 (Bh a) 9) (Ab ((Az b)-(Az a)))))) (Ab ((Az b)-9)) false),.int .u8 (Eg (Dv b) (A9 ((Br .u64 (Bh b) 9)+(Ep (Br .u64 (Bh a) 9) (Ab ((Az b)-(Az a)))))) (Ab ((Az b)-9)) false)]) else none else bif (A2 (Ep (Br .u64 (Bh a) 9) (Ab ((Az b)-(Az a)))) (Br .u64 (Bh b) 9)) then bif (D0 (A9 ((Br .u64 (Bh b) 9)-(Ep (Br .u64 (Bh a) 9) (Ab ((Az b)-(Az a)))))) (Ab ((Az b)-9)) false) then some (.tup [.int .u64 (Eh (Dv b) (A9 ((Br .u64 (Bh b) 9)-(Ep (Br .u64 (Bh a) 9) (Ab ((Az b)-(Az a)))))) (Ab ((Az b)-9)) false),.int .u8 (Eg (Dv b) (A9 ((Br .u64 (Bh b) 9)-(Ep (Br .u64 (Bh a) 9) (Ab ((Az b)-(Az a)))))) (Ab ((Az b)-9)) false)]) else none else bif (A2 (Br .u64 (Bh b) 9) (Ep (Br .u64 (Bh a) 9) (Ab ((Az b)-(Az a))))) then bif (D0 (A9 ((Ep (Br .u64 (Bh a) 9) (Ab ((Az b)-(Az a))))-(Br .u64 (Bh b) 9))) (Ab ((Az b)-9)) false) then some (.tup [.int .u64 (Eh (Dv a) (A9 ((Ep (Br .u64 (Bh a) 9) (Ab ((Az b)-(Az a))))-(Br .u64 (Bh b) 9))) (Ab ((Az b)-9)) false),.int .u8 (Eg (Dv a) (A9 ((Ep (Br .u64 (Bh a) 9) (Ab ((Az b)-(Az a))))-(Br .u64 (Bh b) 9))) (Ab ((Az b)-9)) false)]) else none else some (.tup [.int .u64 0,.int .u8 0]) else none else bif (Ai (Br .u64 (Bh b) 9)&&Cu (0≤(Ab ((Az a)-(Az b)))∧(Ab ((Az a)-(Az b)))<1000000)) then bif ((Dv a)==(Dv b)) then bif (D0 (A9 ((Br .u64 (Bh a) 9)+(Ep (Br .u64 (Bh b) 9) (Ab ((Az a)-(Az b)))))) (Ab ((Az a)-9)) false) then some (.tup [.int .u64 (Eh (Dv a) (A9 ((Br .u64 (Bh a) 9)+(Ep (Br .u64 (Bh b) 9) (Ab ((Az a)-(Az b)))))) (Ab ((Az a)-9)) false),.int .u8 (Eg (Dv a) (A9 ((Br .u64 (Bh a) 9)+(Ep (Br .u64 (Bh b) 9) (Ab ((Az a)-(Az b)))))) (Ab ((Az a)-9)) false)]) else none else bif (A2 (Ep (Br .u64 (Bh b) 9) (Ab ((Az a)-(Az b)))) (Br .u64 (Bh a) 9)) then bif (D0 (A9 ((Br .u64 (Bh a) 9)-(Ep (Br .u64 (Bh b) 9) (Ab ((Az a)-(Az b)))))) (Ab ((Az a)-9)) false) then some (.tup [.int .u64 (Eh (Dv a) (A9 ((Br .u64 (Bh a) 9)-(Ep (Br .u64 (Bh b) 9) (Ab ((Az a)-(Az b)))))) (Ab ((Az a)-9)) false),.int .u8 (Eg (Dv a) (A9 ((Br .u64 (Bh a) 9)-(Ep (Br .u64 (Bh b) 9) (Ab ((Az a)-(Az b)))))) (Ab ((Az a)-9)) false)]) else none else bif (A2 (Br .u64 (Bh a) 9) (Ep (Br .u64 (Bh b) 9) (Ab ((Az a)-(Az b))))) then bif (D0 (A9 ((Ep (Br .u64 (Bh b) 9) (Ab ((Az a)-(Az b))))-(Br .u64 (Bh a) 9))) (Ab ((Az a)-9)) false) then some (.tup [.int .u64 (Eh (Dv b) (A9 ((Ep (Br .u64 (Bh b) 9) (Ab ((Az a)-(Az b))))-(Br .u64 (Bh a) 9))) (Ab ((Az a)-9)) false),.int .u8 (Eg (Dv b) (A9 ((Ep (Br .u64 (Bh b) 9) (Ab ((Az a)-(Az b))))-(Br .u64 (Bh a) 9))) (Ab ((Az a)-9)) false)]) else none else some (.tup [.int .u64 0,.int .u8 0]) else none else none else none else none else none else none else none :=
  Eq.trans (by kernel_rfl)
  (Es (Ap (Aaq (Cy a)) (Da (Ajl (Cy a) (Ai b)) (Ap (Sv (Cy a)) (Ap (Aar (Cy a)) (Da (Aqx (Cy a) (Cy b)) rfl rfl))) rfl)) rfl)
abbrev _root_.Go.Proofs.S1.sum.Add.Kn:=A6 Tryz.prog 232 sum.Add.spec
theorem sum.Add.Ad (hk:A0 Tryz.prog sum.Add.Bb) (h:∀ (a b:Int),sum.Add.pre [.i a,.i b]=true→Be sum.Add.E Tryz.f232 [.int .u64 a,.int .u64 b] (sum.Add.out [.i a,.i b])):sum.Add.Kn :=
  Ak (A1 hk _ _ _) Tryz.func232 (by kernel_rfl) (by kernel_rfl) h
def sum.Sub.Bb:List (Nat × Entry):=[(233,soft.Fy.spec),(232,sum.Add.spec)]
def sum.Sub.E:Env:=Bc (Ba sum.Sub.Bb) (fun _=>false) (fun _=>none) (fun _=>none)
theorem sum.Sub.ev (N:Nat) (a b:Int):Bw sum.Sub.E N Tryz.f207 (Am Tryz.f207) [.int .u64 a,.int .u64 b]=bif (Ai b) then bif (Ai a&&Ai (Ds b)) then some (.tup [.int .u64 (Kp a (Ds b)),.int .u8 (Ui a (Ds b))]) else none else none:=by kernel_rfl
abbrev _root_.Go.Proofs.S1.sum.Sub.Kn:=A6 Tryz.prog 207 sum.Sub.spec
theorem sum.Sub.Ad (hk:A0 Tryz.prog sum.Sub.Bb) (h:∀ (a b:Int),sum.Sub.pre [.i a,.i b]=true→Be sum.Sub.E Tryz.f207 [.int .u64 a,.int .u64 b] (sum.Sub.out [.i a,.i b])):sum.Sub.Kn :=
  Ak (A1 hk _ _ _) Tryz.func207 (by kernel_rfl) (by kernel_rfl) h
end EqSum
open EqSum
theorem Arc (q:Nat):q ||| 1=2*(q / 2)+1:=by
  have e:q%2 ||| (q / 2*2^1)=q / 2*2^1+q%2:=R1 (Nat.mod_lt _ (by decide))
  have e1:1 ||| (q / 2*2^1)=q / 2*2^1+1:=R1 (k:=1) (by decide)
  have hq:q / 2*2^1+q%2=q:=by omega
  rw [hq] at e
  rcases Nat.mod_two_eq_zero_or_one q with h | h
  · rw [h,Nat.zero_or] at e
    rw [e,Nat.or_comm] at e1
    omega
  · rw [h] at e
    have:q ||| 1=q:=by
      conv=>lhs; rw [← e]
      rw [Nat.or_comm 1,Nat.or_assoc,Nat.or_self,Nat.or_comm,e]
    omega
theorem Vs {n s:Nat} (hn:n<2^64) (hs:s≤63) :
    (bif ((Br .u64 (Dg .u64 (n:Int) (s:Int)) (s:Int)) !=(n:Int)) then
      some (DV.int .u64 (Hr .u64 (Dg .u64 (n:Int) (s:Int)) (1:Int)))
    else some (.int .u64 (Dg .u64 (n:Int) (s:Int))))=some (.int .u64 ((E6 n s:Nat):Int)):=by
  have hq:n / 2^s≤n:=Nat.div_le_self _ _
  have hm:n / 2^s*2^s≤n:=Nat.div_mul_le_self _ _
  have hd:=Nat.div_add_mod n (2^s)
  rw [Nat.mul_comm] at hd
  rw [Gr .u64 n s (by show s≤64; omega),E2 _ s (by omega),Au6 (by omega)]
  have h1:Hr .u64 ((n / 2^s:Nat):Int) (1:Int)=((n / 2^s ||| 1:Nat):Int):=Z9 (by omega) (by decide)
  rw [h1,Arc]
  unfold E6
  by_cases h:n%2^s=0
  · have:((((n / 2^s*2^s:Nat):Int)) !=(n:Int))=false:=by
      simp only [bne_eq_false_iff_eq]; omega
    rw [this,if_pos h,Aux]
  · have:((((n / 2^s*2^s:Nat):Int)) !=(n:Int))=true:=by
      simp only [bne_iff_ne,ne_eq]; omega
    rw [this,if_neg h,Aut]
theorem sum.right.known:sum.right.Kn:=sum.right.Ad .nil fun m d hp=>by
  obtain ⟨h1,h2⟩:=Ae.1 hp
  obtain ⟨n,rfl,hn⟩:=Bu h1
  have h2:=Aq.1 h2
  obtain ⟨d,rfl⟩:∃ k:Nat,d=k:=⟨d.toNat,by omega⟩
  refine ⟨0,sum.right.out [.i n,.i d],[],?_,.int⟩
  rw [sum.right.ev,At]
  show _=some (DV.int .u64 (Ep n d))
  unfold Ep
  rw [Auv,Auv]
  by_cases h:63<d
  · have:decide ((63:Int)<(d:Int))=true:=by simp; omega
    rw [this,Aut,Nat.min_eq_right (by omega)]
    exact Vs hn (Nat.le_refl 63)
  · have:decide ((63:Int)<(d:Int))=false:=by simp; omega
    have h0:decide ((0:Int)≤(d:Int))=true:=by simp
    rw [this,Aux,h0,Aut,Aut,Nat.min_eq_left (by omega)]
    exact Vs hn (by omega)
theorem Afd:((Xg:Nat):Int)=9221120237041090560:=rfl
theorem sum.D8.known:sum.D8.Kn:=sum.D8.Ad (.cons soft.Finite.known (.cons soft.Kind.known .nil)) fun a b hp=>by
  obtain ⟨h1,h2⟩:=Ae.1 hp
  obtain ⟨ha,hb⟩:=Ae.1 h1
  obtain ⟨a,rfl,hn⟩:=Bu ha
  obtain ⟨b,rfl,hm⟩:=Bu hb
  refine ⟨0,sum.D8.out [.i a,.i b],[],?_,Wk.Gu (.cons .int (.cons .int .nil))⟩
  rw [sum.D8.ev,ha,hb]
  show _=some (DV.tup [.int .u64 (Kp a b),.int .u8 (Ui a b)])
  unfold Kp Ui H9 A3 Cy
  simp only [Auv,Aut]
  unfold Cy at h2
  simp only [Auv] at h2
  by_cases a4:Ao a=4
  · simp [a4,Afd]
  · have e4:((Ao a:Int)==4)=false:=by simp; omega
    rw [e4,Aux]
    by_cases b4:Ao b=4
    · simp [b4,Afd]
    · have f4:((Ao b:Int)==4)=false:=by simp; omega
      rw [f4,Aux]
      have ka:=Wh a
      have kb:=Wh b
      by_cases a3:Ao a=3
      · have fa:Hk a=false:=by rw [ka]; simp [a3]
        rw [fa,Aux]
        by_cases b3:Ao b=3
        · have fb:Hk b=false:=by rw [kb]; simp [b3]
          rw [fb]
          by_cases hab:a=b
          · subst hab; simp [a3]
          · have hab':((a:Int)==(b:Int))=false:=by simp; omega
            rw [hab']
            simp [a3,b3,hab,Afd]
        · have fb:Hk b=true:=by rw [kb]; simp [b3,b4]
          rw [fb]
          simp [a3,b3,b4]
      · have fa:Hk a=true:=by rw [ka]; simp [a3,a4]
        have b3:Ao b=3:=by
          rw [fa,kb] at h2
          simp [b4] at h2
          exact h2
        rw [fa,Aut]
        simp [a3,b3,a4]
def Afm (na nb:Bool) (X r:Nat) (e:Int):Nat × Nat :=
  if na=nb then Fx na (X+r) e false else if r<X then Fx na (X-r) e false else if X<r then Fx nb (r-X) e false else (0,0)
theorem Th {na:Bool} {m:Int} {n:Nat} {e e':Int} (h:m=n) (he:e'=e) (hn:n<2^64) (h1:-1100≤e) (h2:e≤1000) :
    (bif D0 m e' false then some (DV.tup [.int .u64 (Eh na m e' false),.int .u8 (Eg na m e' false)]) else none)
      = some (.tup [.int .u64 (((Fx na n e false).1:Nat):Int),.int .u8 (((Fx na n e false).2:Nat):Int)]):=by
  subst h; subst he
  have hp:D0 (n:Int) e' false=true:=Aq.2 ⟨by omega,by omega,by omega,.inl (by omega),fun h=>by cases h⟩
  rw [hp,Aut]
  unfold Eh Eg
  rw [Auv]
theorem Ac2 (na nb:Bool) {X r:Nat} {e e':Int} (hX:X<2^62) (hr:r≤2^62) (h:e'=e) (h1:-1100≤e) (h2:e≤1000) :
    (bif (na==nb) then
      bif D0 (A9 ((X:Int)+(r:Int))) e' false then some (DV.tup [.int .u64 (Eh na (A9 ((X:Int)+(r:Int))) e' false),.int .u8 (Eg na (A9 ((X:Int)+(r:Int))) e' false)]) else none
    else bif A2 (r:Int) (X:Int) then
      bif D0 (A9 ((X:Int)-(r:Int))) e' false then some (DV.tup [.int .u64 (Eh na (A9 ((X:Int)-(r:Int))) e' false),.int .u8 (Eg na (A9 ((X:Int)-(r:Int))) e' false)]) else none
    else bif A2 (X:Int) (r:Int) then
      bif D0 (A9 ((r:Int)-(X:Int))) e' false then some (DV.tup [.int .u64 (Eh nb (A9 ((r:Int)-(X:Int))) e' false),.int .u8 (Eg nb (A9 ((r:Int)-(X:Int))) e' false)]) else none
    else some (.tup [.int .u64 (0:Int),.int .u8 (0:Int)])) =
      some (.tup [.int .u64 (((Afm na nb X r e).1:Nat):Int),.int .u8 (((Afm na nb X r e).2:Nat):Int)]):=by
  unfold Afm
  rw [At,At]
  by_cases hs:na=nb
  · have:(na==nb)=true:=by simp [hs]
    rw [this,Aut,if_pos hs]
    exact Th (by rw [Co (by omega) (by omega)]; omega) h (by omega) h1 h2
  · have:(na==nb)=false:=by simp [hs]
    rw [this,Aux,if_neg hs]
    by_cases hl:r<X
    · have:decide ((r:Int)<(X:Int))=true:=by simp; omega
      rw [this,Aut,if_pos hl]
      exact Th (by rw [Co (by omega) (by omega)]; omega) h (by omega) h1 h2
    · have:decide ((r:Int)<(X:Int))=false:=by simp; omega
      rw [this,Aux,if_neg hl]
      by_cases hg:X<r
      · have:decide ((X:Int)<(r:Int))=true:=by simp; omega
        rw [this,Aut,if_pos hg]
        exact Th (by rw [Co (by omega) (by omega)]; omega) h (by omega) h1 h2
      · have:decide ((X:Int)<(r:Int))=false:=by simp; omega
        rw [this,Aux,if_neg hg]
        rfl
theorem Agq {a b:Nat} (ha:Hk a=true) (hb:Hk b=true) (hle:Aw b≤Aw a) :
    ∃ X r:Nat,X<2^62∧r≤2^62∧Br .u64 (Bh a) (9:Int)=(X:Int)∧Ep (Br .u64 (Bh b) (9:Int)) (Ab (Az a-Az b))=(r:Int)
      ∧ Ab (Az a-9)=Aw a-9
      ∧ (Ai (Br .u64 (Bh b) (9:Int))&&Cu (0≤(Ab ((Az a)-(Az b)))∧(Ab ((Az a)-(Az b)))<1000000))=true
      ∧ Afm (Dv a) (Dv b) X r (Aw a-9)=H9 a b:=by
  obtain ⟨d,hd⟩:∃ d:Nat,Aw a=Aw b+d:=⟨(Aw a-Aw b).toNat,by omega⟩
  have hx:=Eo a
  have hy:=Eo b
  have ea:=Dc a
  have eb:=Dc b
  have C:=Ac1 (Mx:=Ar a) (My:=Ar b) hd hx hy (fun h=>X0 (by omega))
  have sh:∀ m:Nat,m<2^53→Br .u64 (m:Int) (9:Int)=((m*2^9:Nat):Int):=fun m hm=>by
    have:=E2 m 9 (by decide)
    rw [Au6 (by omega)] at this
    exact this
  have h2:Ab (Az a-Az b)=(d:Int):=by
    unfold Az
    rw [Auv,Auv,Al (by omega) (by omega)]; omega
  have s1:Br .u64 (Bh a) (9:Int)=((Ar a*2^9:Nat):Int):=by
    unfold Bh; rw [Auv]; exact sh _ hx
  have s2:Br .u64 (Bh b) (9:Int)=((Ar b*2^9:Nat):Int):=by
    unfold Bh; rw [Auv]; exact sh _ hy
  refine ⟨Ar a*2^9,E6 (Ar b*2^9) (min d 63),by omega,C.small,s1,?_,?_,?_,?_⟩
  · rw [s2,h2]; unfold Ep; rw [Auv,Auv]
  · unfold Az; rw [Auv,Al (by omega) (by omega)]
  · rw [s2,h2,B5 (by omega),Bool.true_and]
    exact Aq.2 ⟨by omega,by omega⟩
  · unfold Dv
    rw [Auv,Auv,Ac0 ha hb hd]
    rfl
theorem sum.Add.known:sum.Add.Kn:=sum.Add.Ad (.cons soft.Finite.known (.cons soft.C0.known (.cons soft.Fk.known (.cons soft.Sign.known (.cons sum.right.known (.cons sum.D8.known .nil)))))) fun a b hp=>by
  obtain ⟨ha,hb⟩:=Ae.1 hp
  obtain ⟨a,rfl,hn⟩:=Bu ha
  obtain ⟨b,rfl,hm⟩:=Bu hb
  refine ⟨0,sum.Add.out [.i a,.i b],[],?_,Wk.Gu (.cons .int (.cons .int .nil))⟩
  rw [sum.Add.ev,ha,hb]
  show _=some (DV.tup [.int .u64 (Kp a b),.int .u8 (Ui a b)])
  rw [Bool.or_true,Aut,Aut]
  by_cases hf:(!(Cy a)||!(Cy b))=true
  · rw [hf]; rfl
  · have hf:(!(Cy a)||!(Cy b))=false:=by simpa using hf
    rw [hf,Aux,Aut,Aut,Aut,Aut]
    have fa:Hk a=true:=by
      have:=(Bool.or_eq_false_iff.1 hf).1
      unfold Cy at this
      simpa using this
    have fb:Hk b=true:=by
      have:=(Bool.or_eq_false_iff.1 hf).2
      unfold Cy at this
      simpa using this
    have xa:=Dc a
    have xb:=Dc b
    rw [At]
    by_cases hl:Aw a<Aw b
    · obtain ⟨X,r,hX,hr,e1,e2,e3,e4,e5⟩:=Agq fb fa (by omega)
      have:decide (Az a<Az b)=true:=by unfold Az; simpa using hl
      rw [this,Aut,e4,Aut,e1,e2,Ac2 _ _ hX hr e3 (by omega) (by omega),e5,Yt]
      rfl
    · obtain ⟨X,r,hX,hr,e1,e2,e3,e4,e5⟩:=Agq fa fb (by omega)
      have:decide (Az a<Az b)=false:=by unfold Az; simpa using hl
      rw [this,Aux,e4,Aut,e1,e2,Ac2 _ _ hX hr e3 (by omega) (by omega),e5]
      rfl
theorem sum.Sub.known:sum.Sub.Kn:=sum.Sub.Ad (.cons soft.Fy.known (.cons sum.Add.known .nil)) fun a b hp=>by
  obtain ⟨ha,hb⟩:=Ae.1 hp
  obtain ⟨b,rfl,hm⟩:=Bu hb
  refine ⟨0,sum.Sub.out [.i a,.i b],[],?_,Wk.Gu (.cons .int (.cons .int .nil))⟩
  have:Ai (Ds (b:Int))=true:=by unfold Ds; rw [Auv]; exact B5 (Tj hm)
  rw [sum.Sub.ev,ha,hb,this]
  unfold Kp Ui Ds
  rw [Auv]
  rfl
end Go.Proofs.S1
end
