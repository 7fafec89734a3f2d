/- A verified evaluator of the program's form and its use for this seat: S1PRefB, S1PRefBa, S1EqRefC, S1PRefC, S1PRefCa, S1EqRefE, S1PRefV, S1PPack, S1PNear, S1EqSum, S1PSum. -/
import Derived.Test.YtjbokjpbiobjpaaGreatTF
import Derived.Test.YtjbokjpbiobjpaaGreatTE
set_option linter.unusedVariables false
set_option linter.unusedSimpArgs false
noncomputable section
namespace Go.Proofs.S1
open Go Go.Den Go.Rnd Go.Proofs
open EqRefB
theorem Ac.E7.known:Ac.E7.Kn:=Ac.E7.Ad (.cons Ac.Made.known (.cons Ac.plus.known .nil)) fun n a hp=>by
  obtain ⟨v,rfl,rfl,hv⟩:=Ha hp
  refine ⟨0,Ac.E7.out [.b (Av v),.l (Ae v)],[],?_,Yq⟩
  have o1:Fh (Ae v)=true:=Mj (by omega)
  have o3:Fh (He (Ae v) (Ae v))=true:=Ik (by rw [M3,B3]; omega) (Vm _ _)
  rw [Ac.E7.ev,o1,o3,Auq,Auk,Auk,Aig rfl]
  show _=some (DV.agg [.bool (Av (2*wv (Av v) (Ae v))),.ints .arg .u32 (Ae (2*wv (Av v) (Ae v)))])
  rw [Fo,Int.two_mul]
theorem Aqr (l:List Int) (y x:Int) (r:List Int):∀ i,i=l.length→(l++y::r).set i x=l++x::r:=by
  induction l with
  | nil=>intro i h; subst h; rfl
  | cons z l ih =>
    intro i h
    obtain ⟨j,rfl⟩:∃ j,i=j+1:=⟨i-1,by rw [List.length_cons] at h; omega⟩
    show z::(l++y::r).set j x=z::(l++x::r)
    rw [ih j (by rw [List.length_cons] at h; omega)]
theorem Ahq (N:Nat) {v:Int} (hv:C0 v.natAbs<268435456):∀ (k i F:Nat),i+k=C0 v.natAbs→k<F →
    Ac.Gn.L0 N F (Av v) (Ae v) (i:Int) (digits i (v.natAbs / 2)++List.replicate k 0)=some (.agg [.bool (Av (Ji v 1)),.ints .arg .u32 (Ae (Ji v 1))]):=by
  have o1:Fh (Ae v)=true:=Mj (by omega)
  have ia:=Fe v
  intro k
  induction k with
  | zero =>
    intro i F hi hF
    obtain ⟨F,rfl⟩:∃ G,F=G+1:=⟨F-1,by omega⟩
    have t0:decide ((i:Int)<((Ae v).length:Int))=false:=Aup (by rw [B3]; omega)
    rw [List.replicate_zero,List.append_nil,Ac.Gn.At,Au,t0,Auo]
    have o3:Fh (digits i (v.natAbs / 2))=true:=Ik (by rw [Dn]; omega) (K0 _ _)
    have e:wv (Av v) (digits i (v.natAbs / 2))=Ji v 1:=by
      unfold wv Ji
      rw [Hx,Aux,Nat.pow_one]
      have:=Io v.natAbs
      rw [show i=C0 v.natAbs by omega]
      exact Nat.lt_of_le_of_lt (Nat.div_le_self _ _) this
    rw [o3,Auk,e]
  | succ k ih =>
    intro i F hi hF
    obtain ⟨F,rfl⟩:∃ G,F=G+1:=⟨F-1,by omega⟩
    have hlen:(digits i (v.natAbs / 2)++List.replicate (k+1) (0:Int)).length=i+(k+1):=by rw [List.length_append,Dn,List.length_replicate]
    have t0:decide ((i:Int)<((Ae v).length:Int))=true:=Aul (by rw [B3]; omega)
    have t1:decide ((0:Int)≤(i:Int))=true:=Aul (by omega)
    have t2:decide ((i:Int)<((digits i (v.natAbs / 2)++List.replicate (k+1) (0:Int)).length:Int))=true:=Aul (by rw [hlen]; omega)
    have t3:decide (i<(digits i (v.natAbs / 2)++List.replicate (k+1) (0:Int)).length)=true:=Aul (by rw [hlen]; omega)
    have e0:Ab ((i:Int)+1)=((i+1:Nat):Int):=by rw [An (by omega) (by omega)]; omega
    rw [Ac.Gn.At,Au,t0,o1,Aum,t1,t2,t3,Auq]
    simp only [Auk]
    rw [e0,Gd ia,Gd ia,Dh]
    have ih:=ih (i+1) F (by omega) (by omega)
    rw [H6,Nat.div_div_eq_div_mul,Nat.mul_comm 2,← Nat.div_div_eq_div_mul] at ih
    rw [J9,Nat.mul_comm 4294967296,← Nat.div_div_eq_div_mul,List.replicate_succ,Aqr _ _ _ _ i (Dn _ _).symm]
    rw [List.append_assoc] at ih
    generalize v.natAbs / 2^(32*i)=x at *
    have e1:Int.tmod ((x / 4294967296%4294967296:Nat):Int) 2=((x / 4294967296%4294967296%2:Nat):Int):=Hk _ 2
    have e2:A7 (A7 (((x / 4294967296%4294967296%2:Nat):Int)*4294967296)+((x%4294967296:Nat):Int))=((x / 4294967296%4294967296%2*4294967296+x%4294967296:Nat):Int):=by
      rw [Cn (x:=((x / 4294967296%4294967296%2:Nat):Int)*4294967296) (by omega) (by omega),Cn (by omega) (by omega)]; omega
    have e3:Int.tdiv ((x / 4294967296%4294967296%2*4294967296+x%4294967296:Nat):Int) 2=(((x / 4294967296%4294967296%2*4294967296+x%4294967296) / 2:Nat):Int):=Hl _ 2
    have e4:(x / 4294967296%4294967296%2*4294967296+x%4294967296) / 2=x / 2%4294967296:=by omega
    rw [e1,e2,e3,e4,Cn (by omega) (by omega),Hi (by omega) (by omega)]
    exact ih
theorem Ac.Gn.known:Ac.Gn.Kn:=Ac.Gn.Ad (.cons Ac.Made.known (.cons Ac.Hu.known .nil)) fun n a hp=>by
  obtain ⟨v,rfl,rfl,hv⟩:=Ha hp
  refine ⟨C0 v.natAbs+1,Ac.Gn.out [.b (Av v),.l (Ae v)],[],?_,Yq⟩
  show _=some (DV.agg [.bool (Av (Ji (wv (Av v) (Ae v)) 1)),.ints .arg .u32 (Ae (Ji (wv (Av v) (Ae v)) 1))])
  rw [Ac.Gn.ev,Fo,B3,Aul (by omega),Aul (by omega),Aul (by unfold Gf; omega),Auq,Auq,Auk,Aum]
  have h:=Ahq (C0 v.natAbs+1) hv (C0 v.natAbs) 0 (C0 v.natAbs+1) (by omega) (by omega)
  rw [digits,List.nil_append] at h
  exact h
def Ac3 (v:Int):Option DV:=some (.agg [.bool (Av v),.ints .arg .u32 (Ae v)])
theorem R1 (v:Int):A4 (0:Int) ((Ae v).length:Int)=decide (v≠0):=by
  rw [Au,B3,decide_eq_decide]
  constructor
  · intro h e
    rw [e] at h
    exact absurd h (by decide)
  · intro h
    have:=Ip (n:=v.natAbs) (by omega)
    omega
theorem Aqn (N:Nat):∀ (j F:Nat) (v:Int),j<F→j<2000000→C0 v.natAbs<268435456→Ac.Bx.L3 N F (-(j:Int)) (Av v) (Ae v)=Ac3 (Ji v j):=by
  intro j
  induction j with
  | zero =>
    intro F v hF _ hv
    obtain ⟨F,rfl⟩:∃ G,F=G+1:=⟨F-1,by omega⟩
    rw [Ac.Bx.Aaj,Au,Aup (by omega),Bool.false_and,Auo,Aa7]
    rfl
  | succ j ih =>
    intro F v hF hj hv
    obtain ⟨F,rfl⟩:∃ G,F=G+1:=⟨F-1,by omega⟩
    rw [Ac.Bx.Aaj,Au,Aul (by omega),Bool.true_and,R1]
    by_cases h0:v=0
    · rw [Aup (by omega),Auo,h0,Ra]
      rfl
    · rw [Aul h0,Auk,I8 hv,Auk,Fo,An (by omega) (by omega)]
      have e:-((j+1:Nat):Int)+1=-(j:Int):=by omega
      have hl:C0 (Ji v 1).natAbs<268435456:=by
        rw [Kg]
        exact Nat.lt_of_le_of_lt (Jc (Nat.div_le_self _ _)) hv
      rw [e,ih F (Ji v 1) (by omega) (by omega) hl,Y2,Nat.add_comm]
theorem Ae4 (v:Int):wv (Av v) ((Ae v).drop 1)=Ji v 32:=by
  unfold wv Ji
  rw [Agb (Fe v),Dh,two32]
theorem Aqo (N:Nat):∀ (F j:Nat) (v:Int),j<F→j<N→j<2000000→C0 v.natAbs<268435456→Ac.Bx.L2 N F (-(j:Int)) (Av v) (Ae v)=Ac3 (Ji v j):=by
  intro F
  induction F with
  | zero=>intro j v h; omega
  | succ F ih =>
    intro j v hF hN hj hv
    rw [Ac.Bx.Hd,Ed,R1]
    by_cases hc:32≤j∧v≠0
    · have o3:Fh ((Ae v).drop 1)=true:=Ik (by rw [List.length_drop,B3]; omega) (Acb (Fe v))
      have t1:decide ((1:Int)≤((Ae v).length:Int))=true:=Aul (by
        rw [B3]
        have:=Ip (n:=v.natAbs) (by omega)
        omega)
      have hl:C0 (Ji v 32).natAbs<268435456:=by
        rw [Kg]
        exact Nat.lt_of_le_of_lt (Jc (Nat.div_le_self _ _)) hv
      rw [Aul (by omega),Aul hc.2,Auq,Auk,t1,Auk,o3,Auk,Ae4,An (by omega) (by omega)]
      have e:-(j:Int)+32=-((j-32:Nat):Int):=by omega
      rw [e,ih (j-32) (Ji v 32) (by omega) (by omega) (by omega) hl,Y2]
      congr 2
      omega
    · have:(decide (-(j:Int)≤-32)&&decide (v≠0))=false:=by
        rw [Bool.and_eq_false_iff,Au3,Au3]
        omega
      rw [this,Auo]
      exact Aqn N j N v hN hj hv
theorem Tm (N F:Nat) {k:Int} (hk:0≤k) (hN:0<N) (v:Int):Ac.Bx.L2 N (F+1) k (Av v) (Ae v)=Ac3 v:=by
  obtain ⟨M,rfl⟩:∃ M,N=M+1:=⟨N-1,by omega⟩
  rw [Ac.Bx.Hd,Ed,Aup (by omega),Bool.false_and,Auo,Ac.Bx.Aaj,Au,Aup (by omega),Bool.false_and,Auo]
  rfl
theorem Aqp (N:Nat) (hN:0<N):∀ (j F:Nat) (v:Int),j<F→j<2000000→C0 v.natAbs+j<268435456→Ac.Bx.L1 N F (j:Int) (Av v) (Ae v)=Ac3 (v*((2^j:Nat):Int)):=by
  obtain ⟨M,rfl⟩:∃ M,N=M+1:=⟨N-1,by omega⟩
  intro j
  induction j with
  | zero =>
    intro F v hF _ hv
    obtain ⟨F,rfl⟩:∃ G,F=G+1:=⟨F-1,by omega⟩
    rw [Ac.Bx.Ck,Au,Aup (by omega),Bool.false_and,Auo,Tm _ _ (by omega) (by omega),Nat.pow_zero]
    congr 1
    omega
  | succ j ih =>
    intro F v hF hj hv
    obtain ⟨F,rfl⟩:∃ G,F=G+1:=⟨F-1,by omega⟩
    rw [Ac.Bx.Ck,Au,Aul (by omega),Bool.true_and,R1]
    by_cases h0:v=0
    · rw [Aup (by omega),Auo,h0,Int.zero_mul,Tm _ _ (by omega) (by omega)]
    · have hl:=Akn v.natAbs
      have e2:(2*v).natAbs=2*v.natAbs:=by omega
      have e:((j+1:Nat):Int)-1=(j:Int):=by omega
      rw [Aul h0,Auk,I8 (by omega),Auk,Fo,An (by omega) (by omega),e,ih F (2*v) (by omega) (by omega) (by rw [e2]; omega)]
      congr 1
      rw [Nat.pow_succ,Au5,Int.mul_comm 2 v,Int.mul_assoc,Int.mul_comm ((2^j:Nat):Int)]
      rfl
theorem Ar9 (v:Int):wv (Av v) ([(0:Int)]++Ae v)=v*((2^32:Nat):Int):=by
  have e:By ([(0:Int)]++Ae v)=4294967296*v.natAbs:=by
    show By (0::Ae v)=_
    rw [By,Dh]
    exact Nat.zero_add _
  unfold wv
  rw [e,two32]
  by_cases h:v<0
  · rw [Rd h]; omega
  · rw [Rc h]; omega
theorem Aqq (N:Nat):∀ (F j:Nat) (v:Int),j<F→j<N→j<2000000→C0 v.natAbs+j<268435456→Ac.Bx.L0 N F (j:Int) (Av v) (Ae v)=Ac3 (v*((2^j:Nat):Int)):=by
  intro F
  induction F with
  | zero=>intro j v h; omega
  | succ F ih =>
    intro j v hF hN hj hv
    rw [Ac.Bx.At,Ed,R1]
    by_cases hc:32≤j∧v≠0
    · have o3:Fh ([(0:Int)]++Ae v)=true:=Ik (by rw [List.length_append,B3]; show 1+_<_; omega) (Aca (Fe v))
      have t1:decide (1+(Ae v).length≤Gf)=true:=Aul (by rw [B3]; unfold Gf; omega)
      have e2:(v*((2^32:Nat):Int)).natAbs=v.natAbs*4294967296:=by rw [Int.natAbs_mul,Int.natAbs_natCast,two32]
      have hl:=An4 v.natAbs
      rw [Aul (by omega),Aul hc.2,Auq,Auk,t1,Auk,o3,Auk,Ar9,An (by omega) (by omega)]
      have e:(j:Int)-32=((j-32:Nat):Int):=by omega
      rw [e,ih (j-32) _ (by omega) (by omega) (by omega) (by rw [e2]; omega)]
      have e3:2^j=2^32*2^(j-32):=by rw [← Nat.pow_add]; congr 1; omega
      rw [e3,Au5,Int.mul_assoc]
    · have:(decide ((32:Int)≤(j:Int))&&decide (v≠0))=false:=by
        rw [Bool.and_eq_false_iff,Au3,Au3]
        omega
      rw [this,Auo]
      exact Aqp N (by omega) j N v hN hj hv
theorem Adj (N j:Nat) (v:Int) (hj:0<j) (hN:j<N) (hj2:j<2000000) (hv:C0 v.natAbs<268435456):Ac.Bx.L0 N N (-(j:Int)) (Av v) (Ae v)=Ac3 (Ji v j):=by
  obtain ⟨M,rfl⟩:∃ M,N=M+1:=⟨N-1,by omega⟩
  rw [Ac.Bx.At,Ed,Aup (by omega),Bool.false_and,Auo,Ac.Bx.Ck,Au,Aup (by omega),Bool.false_and,Auo]
  exact Aqo _ _ j v hN hN hj2 hv
theorem Ac.Bx.known:Ac.Bx.Kn:=Ac.Bx.Ad (.cons Ac.E7.known (.cons Ac.Gn.known (.cons Ac.Made.known .nil))) fun n a k hp=>by
  obtain ⟨h1,h2⟩:=Ag.1 hp
  obtain ⟨v,rfl,rfl,hv⟩:=Uj h1
  have h2:=Ap.1 h2
  refine ⟨k.natAbs+1,Ac.Bx.out [.b (Av v),.l (Ae v),.i k],[],?_,Yq⟩
  show _=some (DV.agg [.bool (Av (G2 (wv (Av v) (Ae v)) k)),.ints .arg .u32 (Ae (G2 (wv (Av v) (Ae v)) k))])
  rw [Ac.Bx.ev,Fo]
  unfold G2
  by_cases h:0≤k
  · obtain ⟨j,rfl⟩:∃ j:Nat,k=j:=⟨k.toNat,by omega⟩
    rw [if_pos h,Aum,Int.natAbs_natCast]
    exact Aqq _ _ j v (by omega) (by omega) (by omega) (by omega)
  · obtain ⟨j,rfl⟩:∃ j:Nat,k=-(j:Int):=⟨(-k).toNat,by omega⟩
    have e:(-(-(j:Int))).toNat=j:=by omega
    rw [if_neg h,e,Int.natAbs_neg,Int.natAbs_natCast]
    exact Adj _ j v (by omega) (by omega) (by omega) (by omega)
open EqRefB
theorem Ahk {t:Nat} (h:2≤t):(t / 2).log2+1=t.log2:=by
  have:=Abx (n:=t) (m:=1) (by omega)
  rw [Nat.pow_one] at this
  exact this
theorem Akm (N:Nat):∀ (F:Nat) (t:Nat) (p:Int),t<2^32→0<t→t.log2+1<F→-1000≤p→p+t.log2<4611686018427387904 →
    Ac.O5.L0 N F p (t:Int)=some (.int .i64 (p+t.log2+1)):=by
  intro F
  induction F with
  | zero=>intro t p _ _ h; omega
  | succ F ih =>
    intro t p ht h0 hF hp1 hp2
    have e2:Int.tdiv (t:Int) 2=((t / 2:Nat):Int):=Hl t 2
    rw [two32] at ht
    rw [Ac.O5.At,Au,Aul (by omega),Auk,e2,Hi (by omega) (by omega),An (by omega) (by omega)]
    by_cases h1:t=1
    · subst h1
      obtain ⟨G,rfl⟩:∃ G,F=G+1:=⟨F-1,by omega⟩
      rw [Ac.O5.At,Au,Aup (by decide),Auo]
      have:(1:Nat).log2=0:=by decide
      rw [this]
      congr 2
      omega
    · have hl:=Ahk (t:=t) (by omega)
      rw [ih (t / 2) (p+1) (by rw [two32]; omega) (by omega) (by omega) (by omega) (by omega)]
      congr 2
      omega
theorem Ac.O5.known:Ac.O5.Kn:=Ac.O5.Ad .nil fun n a hp=>by
  obtain ⟨v,rfl,rfl,hv⟩:=Ha hp
  refine ⟨40,Ac.O5.out [.b (Av v),.l (Ae v)],[],?_,.int⟩
  show _=some (DV.int .i64 (Zt (wv (Av v) (Ae v))))
  rw [Ac.O5.ev,Fo,B3]
  unfold Zt
  by_cases h0:v=0
  · rw [if_pos h0,h0]; rfl
  · have hn:v.natAbs≠0:=by omega
    have hl:=Ip hn
    have e0:((C0 v.natAbs:Int)==0)=false:=by simp only [beq_eq_false_iff_ne,ne_eq]; omega
    have e1:(C0 v.natAbs:Int)-1=((C0 v.natAbs-1:Nat):Int):=by omega
    have hlen:C0 v.natAbs=v.natAbs.log2 / 32+1:=by unfold C0; rw [if_neg hn]
    have hge:2^(32*(C0 v.natAbs-1))≤v.natAbs:=Nat.le_trans (Auz (by decide) (by omega)) (Nat.log2_self_le hn)
    have hq:v.natAbs / 2^(32*(C0 v.natAbs-1))<2^32:=by
      rw [Nat.div_lt_iff_lt_mul (B9 _),← Nat.pow_add]
      have:=Io v.natAbs
      have e:32+32*(C0 v.natAbs-1)=32*C0 v.natAbs:=by omega
      rw [e]; exact this
    have hlog:=Abx hge
    have hg:=Lt (Fe v) (C0 v.natAbs-1)
    have hq':=hq
    rw [two32] at hq'
    rw [Dh,Aux hq'] at hg
    have hpos:=Nat.div_pos hge (B9 _)
    have h32:(v.natAbs / 2^(32*(C0 v.natAbs-1))).log2<32:=(Nat.log2_lt (by omega)).2 hq
    rw [if_neg h0,e0,Auo,An (by omega) (by omega),e1,Aul (by omega),Aul (by omega),Auq,Auk,Aum,hg,An (by omega) (by omega)]
    rw [Akm 40 40 _ _ hq hpos (by omega) (by omega) (by omega)]
    congr 2
    omega
theorem Ac.Ux.known:Ac.Ux.Kn:=Ac.Ux.Ad .nil fun n a hp=>by
  obtain ⟨v,rfl,rfl,hv⟩:=Ha hp
  refine ⟨0,Ac.Ux.out [.b (Av v),.l (Ae v)],[],?_,.bool⟩
  show _=some (DV.bool (Ag1 (wv (Av v) (Ae v))))
  rw [Ac.Ux.ev,Fo,R1]
  have hg:=Lt (Fe v) 0
  rw [Dh,Nat.mul_zero,Nat.pow_zero,Nat.div_one] at hg
  have e2:Int.tmod ((v.natAbs%4294967296:Nat):Int) 2=((v.natAbs%4294967296%2:Nat):Int):=Hk _ 2
  unfold Ag1
  by_cases h0:v=0
  · rw [h0]; rfl
  · have hl:=Ip (n:=v.natAbs) (by omega)
    rw [hg,e2,Aul h0,B3,Aul (by omega),Bool.or_true,Auk,Auk]
    congr 2
    rw [Au0]
    simp only [beq_iff_eq,Aur]
    omega
theorem V1 (N:Nat) (n m:Bool) {a b:List Int} (hab:a.length=b.length) (hl:a.length<1073741824):∀ (k i F:Nat),i+k=a.length→k<F →
    Ac.D2.L0 N F n a m b (i:Int)=some (.bool (decide (a.drop i=b.drop i))):=by
  intro k
  induction k with
  | zero =>
    intro i F hi hF
    obtain ⟨F,rfl⟩:∃ G,F=G+1:=⟨F-1,by omega⟩
    have e:a.drop i=b.drop i:=by rw [Auy (by omega),Auy (by omega)]
    rw [Ac.D2.At,Au,Aup (by omega),Auo,Aul e]
  | succ k ih =>
    intro i F hi hF
    obtain ⟨F,rfl⟩:∃ G,F=G+1:=⟨F-1,by omega⟩
    have ha:i<a.length:=by omega
    have hb:i<b.length:=by omega
    have ga:a.getD i 0=a[i]:=by rw [Auu,Au1 ha]; rfl
    have gb:b.getD i 0=b[i]:=by rw [Auu,Au1 hb]; rfl
    have t1:decide ((i:Int)<(a.length:Int))=true:=Aul (by omega)
    have t2:decide ((i:Int)<(b.length:Int))=true:=Aul (by omega)
    have t0:decide ((0:Int)≤(i:Int))=true:=Aul (by omega)
    rw [Ac.D2.At,Au,t1,t2,t0,Auq,Auk,Auk,Auk,Aum,ga,gb,List.drop_eq_getElem_cons ha,List.drop_eq_getElem_cons hb,An (by omega) (by omega)]
    by_cases h:a[i]=b[i]
    · have e:(a[i] !=b[i])=false:=by simp [h]
      have e1:(i:Int)+1=((i+1:Nat):Int):=by omega
      rw [e,Auo,e1,ih (i+1) F (by omega) (by omega),h]
      congr 2
      rw [decide_eq_decide,List.cons.injEq]
      exact ⟨fun k=>⟨rfl,k⟩,fun k=>k.2⟩
    · have e:(a[i] !=b[i])=true:=by simp [h]
      rw [e,Auk,Aup (fun k=>h (List.cons.inj k).1)]
theorem Aef {v w:Int} (h1:Av v=Av w) (h2:Ae v=Ae w):v=w:=by
  have e1:=Fo v
  have e2:=Fo w
  rw [h1,h2] at e1
  omega
theorem Ac.D2.known:Ac.D2.Kn:=Ac.D2.Ad .nil fun n a m b hp=>by
  obtain ⟨h1,h2⟩:=Ag.1 hp
  obtain ⟨v,rfl,rfl,hv⟩:=Ha h1
  obtain ⟨w,rfl,rfl,hw⟩:=Ha h2
  refine ⟨(Ae v).length+1,Ac.D2.out [.b (Av v),.l (Ae v),.b (Av w),.l (Ae w)],[],?_,.bool⟩
  show _=some (DV.bool (Rh (wv (Av v) (Ae v)) (wv (Av w) (Ae w))))
  rw [Ac.D2.ev,Fo,Fo]
  unfold Rh
  by_cases hs:Av v=Av w
  · have e:(Av v==Av w)=true:=by simp [hs]
    rw [e,Bool.not_true,Bool.false_or]
    by_cases hl:(Ae v).length=(Ae w).length
    · have e:(((Ae v).length:Int) !=((Ae w).length:Int))=false:=by simp [hl]
      have hlen:=B3 v
      have:=V1 ((Ae v).length+1) (Av v) (Av w) hl (by omega) (Ae v).length 0 ((Ae v).length+1) (by omega) (by omega)
      rw [List.drop_zero,List.drop_zero] at this
      have e2:decide (Ae v=Ae w)=decide (v=w):=decide_eq_decide.2 ⟨Aef hs,fun k=>by rw [k]⟩
      rw [e2] at this
      rw [e,Auo]
      exact this
    · have e:(((Ae v).length:Int) !=((Ae w).length:Int))=true:=by simp only [bne_iff_ne,ne_eq]; omega
      rw [e,Auk,Aup (fun k=>hl (by rw [k]))]
  · have e:(Av v==Av w)=false:=by simp [hs]
    rw [e,Bool.not_false,Bool.true_or,Auk,Aup (fun k=>hs (by rw [k]))]
set_option maxRecDepth 100000
namespace EqRefC
def Ay.Of.hint:Nat→Option A9
  | 0=>some { keep:=[1,2,4],objs:=[],boxes:=[2,4] }
  | 2=>some { keep:=[1,2,4],objs:=[],boxes:=[2,4] }
  | _=>none
def Ay.Of.Bb:List (Nat × Entry):=[(173,Ac.Gn.spec),(171,Ac.Made.spec),(172,Ac.Ux.spec)]
def Ay.Of.E:Env:=Be (Ba Ay.Of.Bb) (fun _=>false) Ay.Of.hint (fun _=>none)
def Ay.Of.L0 (N M:Nat) (p1:Int) (p2:Bool) (p2_1:List Int):Option DV:=B7 Ay.Of.E N Tryz.f109 (Al Tryz.f109) [1,1,0,0] [] M ⟨Fy 33 [(1,.int .i64 p1),(2,.ptr 2 0 0),(4,.ptr 4 0 0)],[(2,false,.box [.bool p2,.ints .arg .u32 p2_1]),(4,false,.box [.bool false,.nil,.int .i64 0])]⟩
def Ay.Of.L1 (N M:Nat) (p1_1:Int) (p2_2:Bool) (p2_3:List Int):Option DV:=B7 Ay.Of.E N Tryz.f109 (Al Tryz.f109) [1,1,1,0,0] [] M ⟨Fy 33 [(1,.int .i64 p1_1),(2,.ptr 2 0 0),(4,.ptr 4 0 0)],[(2,false,.box [.bool p2_2,.ints .arg .u32 p2_3]),(4,false,.box [.bool false,.nil,.int .i64 0])]⟩
theorem Ay.Of.At (N M:Nat) (p1:Int) (p2:Bool) (p2_1:List Int):Ay.Of.L0 N (M+1) p1 p2 p2_1=bif (decide ((0:Int)<(List.length p2_1:Int))) then bif ((List.getD p2_1 0 0)==(0:Int)) then bif (decide ((1:Int)≤(List.length p2_1:Int))) then bif (Fh (List.drop 1 p2_1)) then Ay.Of.L0 N M (Ab (p1+32)) (Av (wv p2 (List.drop 1 p2_1))) (Ae (wv p2 (List.drop 1 p2_1))) else none else none else Ay.Of.L1 N N p1 p2 p2_1 else none :=
  Eq.trans (by kernel_rfl)
  (Ev (Ev (C3 (As0 (decide ((1:Int)≤(List.length p2_1:Int)))) (C3 (C4 (Fh (List.drop 1 p2_1))) rfl rfl) rfl) rfl) rfl)
theorem Ay.Of.Ck (N M:Nat) (p1_1:Int) (p2_2:Bool) (p2_3:List Int):Ay.Of.L1 N (M+1) p1_1 p2_2 p2_3=bif (Ib p2_2 p2_3) then bif (!(Ag1 (wv p2_2 p2_3))) then bif (Ib p2_2 p2_3) then Ay.Of.L1 N M (Ab (p1_1+1)) (Av (Ji (wv p2_2 p2_3) 1)) (Ae (Ji (wv p2_2 p2_3) 1)) else none else some (.agg [.bool p2_2,.ints .arg .u32 p2_3,.int .i64 p1_1]) else none:=by kernel_rfl
theorem Ay.Of.ev (N:Nat) (n:Bool) (a:List Int) (e:Int):B0 Ay.Of.E N Tryz.f109 (Al Tryz.f109) [.agg [.bool n,.ints .arg .u32 a],.int .i64 e]=bif ((List.length a:Int)==(0:Int)) then some (.agg [.bool false,.nil,.int .i64 0]) else Ay.Of.L0 N N e n a:=by kernel_rfl
abbrev _root_.Go.Proofs.S1.Ay.Of.Kn:=A8 Tryz.prog 109 Ay.Of.spec
theorem Ay.Of.Ad (hk:Az Tryz.prog Ay.Of.Bb) (h:∀ (n:Bool) (a:List Int) (e:Int),Ay.Of.pre [.b n,.l a,.i e]=true→Bf Ay.Of.E Tryz.f109 [.agg [.bool n,.ints .arg .u32 a],.int .i64 e] (Ay.Of.out [.b n,.l a,.i e])):Ay.Of.Kn :=
  Ak (A0 hk _ _ _) Tryz.func109 (by kernel_rfl) (by kernel_rfl) h
def Ay.Uy.Bb:List (Nat × Entry):=[]
def Ay.Uy.E:Env:=Be (Ba Ay.Uy.Bb) (fun _=>false) (fun _=>none) (fun _=>none)
theorem Ay.Uy.ev (N:Nat) (n:Bool) (a:List Int) (e:Int) (m:Bool) (b:List Int) (f:Int):B0 Ay.Uy.E N Tryz.f111 (Al Tryz.f111) [.agg [.bool n,.ints .arg .u32 a,.int .i64 e],.agg [.bool m,.ints .arg .u32 b,.int .i64 f]]=bif ((List.length a:Int)==(0:Int)) then some (.int .i64 f) else bif ((List.length b:Int)==(0:Int)) then some (.int .i64 e) else some (.int .i64 (min e f)):=by kernel_rfl
abbrev _root_.Go.Proofs.S1.Ay.Uy.Kn:=A8 Tryz.prog 111 Ay.Uy.spec
theorem Ay.Uy.Ad (hk:Az Tryz.prog Ay.Uy.Bb) (h:∀ (n:Bool) (a:List Int) (e:Int) (m:Bool) (b:List Int) (f:Int),Ay.Uy.pre [.b n,.l a,.i e,.b m,.l b,.i f]=true→Bf Ay.Uy.E Tryz.f111 [.agg [.bool n,.ints .arg .u32 a,.int .i64 e],.agg [.bool m,.ints .arg .u32 b,.int .i64 f]] (Ay.Uy.out [.b n,.l a,.i e,.b m,.l b,.i f])):Ay.Uy.Kn :=
  Ak (A0 hk _ _ _) Tryz.func111 (by kernel_rfl) (by kernel_rfl) h
def Ay.Level.Bb:List (Nat × Entry):=[(178,Ac.Bx.spec)]
def Ay.Level.E:Env:=Be (Ba Ay.Level.Bb) (fun _=>false) (fun _=>none) (fun _=>none)
theorem Ay.Level.ev (N:Nat) (n:Bool) (a:List Int) (e f:Int):B0 Ay.Level.E N Tryz.f113 (Al Tryz.f113) [.agg [.bool n,.ints .arg .u32 a,.int .i64 e],.int .i64 f]=bif ((List.length a:Int)==(0:Int)) then some (.agg [.bool n,.ints .arg .u32 a]) else bif (Wy n a&&Aqz (Ab (e-f))) then some (.agg [.bool (Av (G2 (wv n a) (Ab (e-f)))),.ints .arg .u32 (Ae (G2 (wv n a) (Ab (e-f))))]) else none:=by kernel_rfl
abbrev _root_.Go.Proofs.S1.Ay.Level.Kn:=A8 Tryz.prog 113 Ay.Level.spec
theorem Ay.Level.Ad (hk:Az Tryz.prog Ay.Level.Bb) (h:∀ (n:Bool) (a:List Int) (e f:Int),Ay.Level.pre [.b n,.l a,.i e,.i f]=true→Bf Ay.Level.E Tryz.f113 [.agg [.bool n,.ints .arg .u32 a,.int .i64 e],.int .i64 f] (Ay.Level.out [.b n,.l a,.i e,.i f])):Ay.Level.Kn :=
  Ak (A0 hk _ _ _) Tryz.func113 (by kernel_rfl) (by kernel_rfl) h
def Ay.Add.Bb:List (Nat × Entry):=[(112,Ac.Add.spec),(113,Ay.Level.spec),(111,Ay.Uy.spec),(109,Ay.Of.spec)]
def Ay.Add.E:Env:=Be (Ba Ay.Add.Bb) (fun _=>false) (fun _=>none) (fun _=>none)
theorem Ay.Add.ev (N:Nat) (n:Bool) (a:List Int) (e:Int) (m:Bool) (b:List Int) (f:Int):B0 Ay.Add.E N Tryz.f42 (Al Tryz.f42) [.agg [.bool n,.ints .arg .u32 a,.int .i64 e],.agg [.bool m,.ints .arg .u32 b,.int .i64 f]]=bif (Ib n a&&Ib m b) then bif (Wy n a&&Abk (wv n a) e (De (wv n a) e (wv m b) f)) then bif (Wy m b&&Abk (wv m b) f (De (wv n a) e (wv m b) f)) then bif (Ib (Av (G2 (wv n a) (e-(De (wv n a) e (wv m b) f)))) (Ae (G2 (wv n a) (e-(De (wv n a) e (wv m b) f))))&&Ib (Av (G2 (wv m b) (f-(De (wv n a) e (wv m b) f)))) (Ae (G2 (wv m b) (f-(De (wv n a) e (wv m b) f))))) then bif (Ib (Av (wv (Av (G2 (wv n a) (e-(De (wv n a) e (wv m b) f)))) (Ae (G2 (wv n a) (e-(De (wv n a) e (wv m b) f))))+wv (Av (G2 (wv m b) (f-(De (wv n a) e (wv m b) f)))) (Ae (G2 (wv m b) (f-(De (wv n a) e (wv m b) f)))))) (Ae (wv (Av (G2 (wv n a) (e-(De (wv n a) e (wv m b) f)))) (Ae (G2 (wv n a) (e-(De (wv n a) e (wv m b) f))))+wv (Av (G2 (wv m b) (f-(De (wv n a) e (wv m b) f)))) (Ae (G2 (wv m b) (f-(De (wv n a) e (wv m b) f))))))&&S2 (De (wv n a) e (wv m b) f)) then some (.agg [.bool (Av (mD (wv (Av (wv (Av (G2 (wv n a) (e-(De (wv n a) e (wv m b) f)))) (Ae (G2 (wv n a) (e-(De (wv n a) e (wv m b) f))))+wv (Av (G2 (wv m b) (f-(De (wv n a) e (wv m b) f)))) (Ae (G2 (wv m b) (f-(De (wv n a) e (wv m b) f)))))) (Ae (wv (Av (G2 (wv n a) (e-(De (wv n a) e (wv m b) f)))) (Ae (G2 (wv n a) (e-(De (wv n a) e (wv m b) f))))+wv (Av (G2 (wv m b) (f-(De (wv n a) e (wv m b) f)))) (Ae (G2 (wv m b) (f-(De (wv n a) e (wv m b) f))))))))),.ints .arg .u32 (Ae (mD (wv (Av (wv (Av (G2 (wv n a) (e-(De (wv n a) e (wv m b) f)))) (Ae (G2 (wv n a) (e-(De (wv n a) e (wv m b) f))))+wv (Av (G2 (wv m b) (f-(De (wv n a) e (wv m b) f)))) (Ae (G2 (wv m b) (f-(De (wv n a) e (wv m b) f)))))) (Ae (wv (Av (G2 (wv n a) (e-(De (wv n a) e (wv m b) f)))) (Ae (G2 (wv n a) (e-(De (wv n a) e (wv m b) f))))+wv (Av (G2 (wv m b) (f-(De (wv n a) e (wv m b) f)))) (Ae (G2 (wv m b) (f-(De (wv n a) e (wv m b) f))))))))),.int .i64 (eD (wv (Av (wv (Av (G2 (wv n a) (e-(De (wv n a) e (wv m b) f)))) (Ae (G2 (wv n a) (e-(De (wv n a) e (wv m b) f))))+wv (Av (G2 (wv m b) (f-(De (wv n a) e (wv m b) f)))) (Ae (G2 (wv m b) (f-(De (wv n a) e (wv m b) f)))))) (Ae (wv (Av (G2 (wv n a) (e-(De (wv n a) e (wv m b) f)))) (Ae (G2 (wv n a) (e-(De (wv n a) e (wv m b) f))))+wv (Av (G2 (wv m b) (f-(De (wv n a) e (wv m b) f)))) (Ae (G2 (wv m b) (f-(De (wv n a) e (wv m b) f))))))) (De (wv n a) e (wv m b) f))]) else none else none else none else none else none :=
  Eq.trans (by kernel_rfl)
  (Ev (C3 (C4 (Wy n a&&Abk (wv n a) e (De (wv n a) e (wv m b) f))) (C3 (C4 (Wy m b&&Abk (wv m b) f (De (wv n a) e (wv m b) f))) (C3 (C4 (Ib (Av (G2 (wv n a) (e-(De (wv n a) e (wv m b) f)))) (Ae (G2 (wv n a) (e-(De (wv n a) e (wv m b) f))))&&Ib (Av (G2 (wv m b) (f-(De (wv n a) e (wv m b) f)))) (Ae (G2 (wv m b) (f-(De (wv n a) e (wv m b) f)))))) (C3 (C4 (Ib (Av (wv (Av (G2 (wv n a) (e-(De (wv n a) e (wv m b) f)))) (Ae (G2 (wv n a) (e-(De (wv n a) e (wv m b) f))))+wv (Av (G2 (wv m b) (f-(De (wv n a) e (wv m b) f)))) (Ae (G2 (wv m b) (f-(De (wv n a) e (wv m b) f)))))) (Ae (wv (Av (G2 (wv n a) (e-(De (wv n a) e (wv m b) f)))) (Ae (G2 (wv n a) (e-(De (wv n a) e (wv m b) f))))+wv (Av (G2 (wv m b) (f-(De (wv n a) e (wv m b) f)))) (Ae (G2 (wv m b) (f-(De (wv n a) e (wv m b) f))))))&&S2 (De (wv n a) e (wv m b) f))) rfl rfl) rfl) rfl) rfl) rfl)
abbrev _root_.Go.Proofs.S1.Ay.Add.Kn:=A8 Tryz.prog 42 Ay.Add.spec
theorem Ay.Add.Ad (hk:Az Tryz.prog Ay.Add.Bb) (h:∀ (n:Bool) (a:List Int) (e:Int) (m:Bool) (b:List Int) (f:Int),Ay.Add.pre [.b n,.l a,.i e,.b m,.l b,.i f]=true→Bf Ay.Add.E Tryz.f42 [.agg [.bool n,.ints .arg .u32 a,.int .i64 e],.agg [.bool m,.ints .arg .u32 b,.int .i64 f]] (Ay.Add.out [.b n,.l a,.i e,.b m,.l b,.i f])):Ay.Add.Kn :=
  Ak (A0 hk _ _ _) Tryz.func42 (by kernel_rfl) (by kernel_rfl) h
def Ay.Uw.Bb:List (Nat × Entry):=[(223,Ac.O5.spec)]
def Ay.Uw.E:Env:=Be (Ba Ay.Uw.Bb) (fun _=>false) (fun _=>none) (fun _=>none)
theorem Ay.Uw.ev (N:Nat) (n:Bool) (a:List Int) (e:Int):B0 Ay.Uw.E N Tryz.f180 (Al Tryz.f180) [.agg [.bool n,.ints .arg .u32 a,.int .i64 e]]=bif ((List.length a:Int)==(0:Int)) then some (.int .i64 0) else bif (Ib n a) then some (.int .i64 (Ab ((Zt (wv n a))+e))) else none :=
  Eq.trans (by kernel_rfl)
  (Ev rfl (C3 (C4 (Ib n a)) rfl rfl))
abbrev _root_.Go.Proofs.S1.Ay.Uw.Kn:=A8 Tryz.prog 180 Ay.Uw.spec
theorem Ay.Uw.Ad (hk:Az Tryz.prog Ay.Uw.Bb) (h:∀ (n:Bool) (a:List Int) (e:Int),Ay.Uw.pre [.b n,.l a,.i e]=true→Bf Ay.Uw.E Tryz.f180 [.agg [.bool n,.ints .arg .u32 a,.int .i64 e]] (Ay.Uw.out [.b n,.l a,.i e])):Ay.Uw.Kn :=
  Ak (A0 hk _ _ _) Tryz.func180 (by kernel_rfl) (by kernel_rfl) h
def Ay.D2.Bb:List (Nat × Entry):=[(133,Ac.D2.spec)]
def Ay.D2.E:Env:=Be (Ba Ay.D2.Bb) (fun _=>false) (fun _=>none) (fun _=>none)
theorem Ay.D2.ev (N:Nat) (n:Bool) (a:List Int) (e:Int) (m:Bool) (b:List Int) (f:Int):B0 Ay.D2.E N Tryz.f54 (Al Tryz.f54) [.agg [.bool n,.ints .arg .u32 a,.int .i64 e],.agg [.bool m,.ints .arg .u32 b,.int .i64 f]]=bif ((!(e==f))||(Ib n a&&Ib m b)) then some (.bool (bif (e==f) then (Rh (wv n a) (wv m b)) else false)) else none :=
  Eq.trans (by kernel_rfl)
  (Ar (N2 (e==f)) (Ar (Ke (e==f)) (Ar (N2 (e==f)) (Ar (Ke (e==f)) (C3 (tt87 (e==f) (Ib n a&&Ib m b)) (Ar (Sj (e==f)) rfl) rfl)))))
abbrev _root_.Go.Proofs.S1.Ay.D2.Kn:=A8 Tryz.prog 54 Ay.D2.spec
theorem Ay.D2.Ad (hk:Az Tryz.prog Ay.D2.Bb) (h:∀ (n:Bool) (a:List Int) (e:Int) (m:Bool) (b:List Int) (f:Int),Ay.D2.pre [.b n,.l a,.i e,.b m,.l b,.i f]=true→Bf Ay.D2.E Tryz.f54 [.agg [.bool n,.ints .arg .u32 a,.int .i64 e],.agg [.bool m,.ints .arg .u32 b,.int .i64 f]] (Ay.D2.out [.b n,.l a,.i e,.b m,.l b,.i f])):Ay.D2.Kn :=
  Ak (A0 hk _ _ _) Tryz.func54 (by kernel_rfl) (by kernel_rfl) h
end EqRefC
open EqRefC
def Alp (v e:Int):Option DV:=some (.agg [.bool (Av v),.ints .arg .u32 (Ae v),.int .i64 e])
theorem wdy {drops:List Nat} {b:Bool} {l:List Int} {e:Int}:Wk drops (.agg [.bool b,.ints .arg .u32 l,.int .i64 e]) (.agg [.bool b,.ints .arg .u32 l,.int .i64 e]):=Wk.Ix (.cons .bool (.cons .Al6 (.cons .int .nil)))
theorem Ak0 (v:Int):(Ae v).getD 0 0=((v.natAbs%4294967296:Nat):Int):=by
  have hg:=Lt (Fe v) 0
  rw [Dh,Nat.mul_zero,Nat.pow_zero,Nat.div_one] at hg
  exact hg
theorem Afd {v:Int} {k:Nat} (h:C0 v.natAbs<268435456):C0 (Ji v k).natAbs<268435456:=by
  rw [Kg]
  exact Nat.lt_of_le_of_lt (Jc (Nat.div_le_self _ _)) h
theorem Ajb {v:Int} {k:Nat} (h0:v≠0) (h:v.natAbs%2^k=0):Ji v k≠0∧Q6 (Ji v k).natAbs+k=Q6 v.natAbs:=by
  have hv:=Nat.div_add_mod v.natAbs (2^k)
  rw [h,Nat.add_zero,Nat.mul_comm] at hv
  have hq:v.natAbs / 2^k≠0:=by
    intro e; rw [e] at hv; omega
  have ht:=Yt hq k
  rw [hv] at ht
  have ha:=Kg v k
  refine ⟨by omega,?_⟩
  rw [ha]
  omega
theorem Ajt (N:Nat):∀ (F:Nat) (v e:Int),v≠0→Q6 v.natAbs<F→C0 v.natAbs<268435456→-4000000000000≤e→e+Q6 v.natAbs≤400000000000000 →
    Ay.Of.L1 N F e (Av v) (Ae v)=Alp (mD v) (eD v e):=by
  intro F
  induction F with
  | zero=>intro v e _ h; omega
  | succ F ih =>
    intro v e h0 hF hv h1 h2
    rw [Ay.Of.Ck,I8 hv,Auk,Fo]
    by_cases ho:v%2=1
    · have:Ag1 v=true:=Aul ho
      rw [this,Bool.not_true,Auo,Aq5 ho,Arp ho]
      rfl
    · have:Ag1 v=false:=Aup ho
      have hm:v.natAbs%2^1=0:=by rw [Nat.pow_one]; omega
      obtain ⟨n1,n2⟩:=Ajb h0 hm
      rw [this,Bool.not_false,Auk,Auk,An (by omega) (by omega),ih (Ji v 1) (e+1) n1 (by omega) (Afd hv) (by omega) (by omega),Aka hm]
      have:=Alk (e:=e) hm h0
      rw [← this]
      rfl
theorem Aju (N:Nat):∀ (F:Nat) (v e:Int),v≠0→Q6 v.natAbs<F→Q6 v.natAbs<N→C0 v.natAbs<268435456→-4000000000000≤e→e+Q6 v.natAbs≤400000000000000 →
    Ay.Of.L0 N F e (Av v) (Ae v)=Alp (mD v) (eD v e):=by
  intro F
  induction F with
  | zero=>intro v e _ h; omega
  | succ F ih =>
    intro v e h0 hF hN hv h1 h2
    have hl:=Ip (n:=v.natAbs) (by omega)
    rw [Ay.Of.At,B3,Aul (by omega),Auk,Ak0]
    by_cases hz:v.natAbs%4294967296=0
    · have e0:(((v.natAbs%4294967296:Nat):Int)==0)=true:=by rw [hz]; rfl
      have o3:Fh ((Ae v).drop 1)=true:=Ik (by rw [List.length_drop,B3]; omega) (Acb (Fe v))
      have hm:v.natAbs%2^32=0:=by rw [two32]; exact hz
      obtain ⟨n1,n2⟩:=Ajb h0 hm
      rw [e0,Auk,Aul (by omega),Auk,o3,Auk,Ae4,An (by omega) (by omega),ih (Ji v 32) (e+32) n1 (by omega) (by omega) (Afd hv) (by omega) (by omega),Aka hm]
      have:=Alk (e:=e) hm h0
      rw [← this]
      rfl
    · have e0:(((v.natAbs%4294967296:Nat):Int)==0)=false:=by simp only [beq_eq_false_iff_ne,ne_eq]; omega
      rw [e0,Auo]
      exact Ajt N N v e h0 hN hv h1 h2
theorem Air {v:Int} (h0:v≠0) (h:C0 v.natAbs<268435456):Q6 v.natAbs<8589934592:=by
  have h1:=Apf (n:=v.natAbs) (by omega)
  have h2:=Xx (n:=v.natAbs)
  omega
theorem Ay.Of.known:Ay.Of.Kn:=Ay.Of.Ad (.cons Ac.Gn.known (.cons Ac.Made.known (.cons Ac.Ux.known .nil))) fun n a e hp=>by
  obtain ⟨h1,h2⟩:=Ag.1 hp
  obtain ⟨v,rfl,rfl,hv⟩:=Ha h1
  have h2:=Ap.1 h2
  by_cases h0:v=0
  · subst h0
    refine ⟨0,.agg [.bool false,.nil,.int .i64 (0:Int)],[],?_,?_⟩
    · rw [Ay.Of.ev]; rfl
    · show Wk [] _ (.agg [.bool (Av (mD (wv (Av 0) (Ae 0)))),.ints .arg .u32 (Ae (mD (wv (Av 0) (Ae 0)))),.int .i64 (eD (wv (Av 0) (Ae 0)) e)])
      rw [Fo,Un.2 rfl]
      exact Wk.Ix (.cons .bool (.cons (.nil _ _) (.cons .int .nil)))
  · refine ⟨Q6 v.natAbs+1,Ay.Of.out [.b (Av v),.l (Ae v),.i e],[],?_,wdy⟩
    have ht:=Air h0 hv
    have hl:=Ip (n:=v.natAbs) (by omega)
    have e0:(((Ae v).length:Int)==0)=false:=by rw [B3]; simp only [beq_eq_false_iff_ne,ne_eq]; omega
    show _=Alp (mD (wv (Av v) (Ae v))) (eD (wv (Av v) (Ae v)) e)
    rw [Ay.Of.ev,e0,Auo,Fo]
    exact Aju _ _ v e h0 (by omega) (by omega) hv (by omega) (by omega)
theorem R0 (v:Int):(((Ae v).length:Int)==0)=decide (v=0):=by
  rw [B3,Au0]
  simp only [beq_iff_eq,Aur]
  constructor
  · intro h
    rcases Int.lt_trichotomy v 0 with k | k | k
    · have:=Ip (n:=v.natAbs) (by omega); omega
    · exact k
    · have:=Ip (n:=v.natAbs) (by omega); omega
  · intro h; rw [h]; rfl
theorem Ay.Uy.known:Ay.Uy.Kn:=Ay.Uy.Ad .nil fun n a e m b f hp=>by
  obtain ⟨h1,h2⟩:=Ag.1 hp
  obtain ⟨v,rfl,rfl,hv⟩:=Ha h1
  obtain ⟨w,rfl,rfl,hw⟩:=Ha h2
  refine ⟨0,Ay.Uy.out [.b (Av v),.l (Ae v),.i e,.b (Av w),.l (Ae w),.i f],[],?_,.int⟩
  show _=some (DV.int .i64 (De (wv (Av v) (Ae v)) e (wv (Av w) (Ae w)) f))
  rw [Ay.Uy.ev,Fo,Fo,R0,R0]
  unfold De
  by_cases h:v=0
  · rw [Aul h,Auk,if_pos h]
  · rw [Aup h,Auo,if_neg h]
    by_cases h':w=0
    · rw [Aul h',Auk,if_pos h']
    · rw [Aup h',Auo,if_neg h']
theorem Aja (k:Int):G2 0 k=0:=by
  unfold G2
  split
  · exact Int.zero_mul _
  · exact Ra _
theorem Ay.Level.known:Ay.Level.Kn:=Ay.Level.Ad (.cons Ac.Bx.known .nil) fun n a e f hp=>by
  obtain ⟨h1,h2⟩:=Ag.1 hp
  obtain ⟨v,rfl,rfl,hv⟩:=Uj h1
  refine ⟨0,Ay.Level.out [.b (Av v),.l (Ae v),.i e,.i f],[],?_,Yq⟩
  show _=Ac3 (G2 (wv (Av v) (Ae v)) (e-f))
  unfold Abk at h2
  rw [Fo] at h2
  obtain ⟨h3,h4⟩:=Ag.1 h2
  have h3:=Ap.1 h3
  have h4:=Ap.1 h4
  rw [Ay.Level.ev,Fo,R0]
  by_cases h:v=0
  · rw [Aul h,Auk,h,Aja]; rfl
  · have o:Aqz (Ab (e-f))=true:=by rw [An (by omega) (by omega)]; exact Ap.2 (by omega)
    rw [Aup h,Auo,h1,o,Auq,Auk,An (by omega) (by omega)]
    rfl
theorem Akp (n k:Nat):C0 (n*2^k)≤C0 n+k:=by
  refine Ko ?_
  have h1:=Io n
  have h2:n*2^k<2^(32*C0 n)*2^k:=(Nat.mul_lt_mul_right (B9 k)).2 h1
  rw [← Nat.pow_add] at h2
  exact Nat.lt_of_lt_of_le h2 (Auz (by decide) (by omega))
theorem Akq (v k:Int):C0 (G2 v k).natAbs≤C0 v.natAbs+k.toNat:=by
  unfold G2
  by_cases h:0≤k
  · rw [if_pos h,Int.natAbs_mul,Int.natAbs_natCast]
    exact Akp _ _
  · rw [if_neg h,Kg]
    exact Nat.le_trans (Jc (Nat.div_le_self _ _)) (Nat.le_add_right _ _)
theorem Ako (v w:Int):C0 (v+w).natAbs≤max (C0 v.natAbs) (C0 w.natAbs)+1:=by
  refine Ko ?_
  have h1:=Io v.natAbs
  have h2:=Io w.natAbs
  have h3:2^(32*C0 v.natAbs)≤2^(32*max (C0 v.natAbs) (C0 w.natAbs)):=Auz (by decide) (by omega)
  have h4:2^(32*C0 w.natAbs)≤2^(32*max (C0 v.natAbs) (C0 w.natAbs)):=Auz (by decide) (by omega)
  rw [J9]
  omega
theorem Ad9 {v e w f:Int} (he:-400000≤e∧e≤400000) (hf:-400000≤f∧f≤400000):-400000≤De v e w f∧De v e w f≤400000:=by
  unfold De
  split
  · exact hf
  · split
    · exact he
    · omega
theorem Afc {v e l:Int} (hv:C0 v.natAbs<134217728) (h:e-l≤800000):C0 (G2 v (e-l)).natAbs<140000000:=by
  have:=Akq v (e-l)
  omega
theorem Ay.Add.known:Ay.Add.Kn:=Ay.Add.Ad (.cons Ac.Add.known (.cons Ay.Level.known (.cons Ay.Uy.known (.cons Ay.Of.known .nil)))) fun n a e m b f hp=>by
  obtain ⟨h1,hf⟩:=Ag.1 hp
  obtain ⟨h2,he⟩:=Ag.1 h1
  obtain ⟨h3,h4⟩:=Ag.1 h2
  obtain ⟨v,rfl,rfl,hv⟩:=Uj h3
  obtain ⟨w,rfl,rfl,hw⟩:=Uj h4
  have he:=Ap.1 he
  have hf:=Ap.1 hf
  refine ⟨0,Ay.Add.out [.b (Av v),.l (Ae v),.i e,.b (Av w),.l (Ae w),.i f],[],?_,wdy⟩
  show _=Alp (Acz (wv (Av v) (Ae v)) e (wv (Av w) (Ae w)) f) (Amd (wv (Av v) (Ae v)) e (wv (Av w) (Ae w)) f)
  have hlo:=Ad9 (v:=v) (w:=w) he hf
  have l1:=Afc (l:=De v e w f) hv (show e-De v e w f≤800000 by omega)
  have l2:=Afc (l:=De v e w f) hw (show f-De v e w f≤800000 by omega)
  have l3:=Ako (G2 v (e-De v e w f)) (G2 w (f-De v e w f))
  have o1:Abk v e (De v e w f)=true:=Ag.2 ⟨Ap.2 (by omega),Ap.2 (by omega)⟩
  have o2:Abk w f (De v e w f)=true:=Ag.2 ⟨Ap.2 (by omega),Ap.2 (by omega)⟩
  have o3:S2 (De v e w f)=true:=Ap.2 (by omega)
  rw [Ay.Add.ev]
  simp only [Fo]
  rw [I8 (v:=v) (by omega),I8 (v:=w) (by omega),h3,h4,o1,o2,I8 (v:=G2 v (e-De v e w f)) (by omega),I8 (v:=G2 w (f-De v e w f)) (by omega),I8 (v:=G2 v (e-De v e w f)+G2 w (f-De v e w f)) (by omega),o3]
  simp only [Auq,Auk]
  rfl
theorem Ab5 {v:Int} (h:C0 v.natAbs<268435456):0≤Zt v∧Zt v≤8589934593:=by
  have h2:=Xx (n:=v.natAbs)
  unfold Zt
  split
  · omega
  · constructor<;>omega
theorem Ay.Uw.known:Ay.Uw.Kn:=Ay.Uw.Ad (.cons Ac.O5.known .nil) fun n a e hp=>by
  obtain ⟨h1,he⟩:=Ag.1 hp
  obtain ⟨v,rfl,rfl,hv⟩:=Ha h1
  have he:=Ap.1 he
  refine ⟨0,Ay.Uw.out [.b (Av v),.l (Ae v),.i e],[],?_,.int⟩
  show _=some (DV.int .i64 (Agf (wv (Av v) (Ae v)) e))
  have hb:=Ab5 hv
  rw [Ay.Uw.ev,Fo,R0,h1]
  unfold Agf
  by_cases h:v=0
  · rw [Aul h,Auk,if_pos h]
  · rw [Aup h,Auo,Auk,if_neg h,An (by omega) (by omega)]
theorem Ay.D2.known:Ay.D2.Kn:=Ay.D2.Ad (.cons Ac.D2.known .nil) fun n a e m b f hp=>by
  have hp:(Ib n a&&Ib m b)=true:=hp
  refine ⟨0,Ay.D2.out [.b n,.l a,.i e,.b m,.l b,.i f],[],?_,.bool⟩
  show _=some (DV.bool (decide (e=f)&&Rh (wv n a) (wv m b)))
  rw [Ay.D2.ev,hp,Bool.or_true,Auk]
  by_cases h:e=f
  · have e0:(e==f)=true:=by simp [h]
    rw [e0,Aul h]; rfl
  · have e0:(e==f)=false:=by simp [h]
    rw [e0,Aup h]; rfl
open EqRefC
namespace EqRefE
def A5.Value.Bb:List (Nat × Entry):=[(143,Ac.Neg.spec),(115,Ac.Of.spec),(109,Ay.Of.spec),(141,A5.Jz.spec),(142,A5.Neg.spec),(140,A5.Power.spec)]
def A5.Value.E:Env:=Be (Ba A5.Value.Bb) (fun _=>false) (fun _=>none) (fun _=>none)
theorem A5.Value.ev (N:Nat) (x:Int):B0 A5.Value.E N Tryz.f63 (Al Tryz.f63) [.int .u64 x]=bif (Nx x) then bif (Afz (Ab (Ci x))) then bif (Nx x) then bif (A4 0 (J2 x)) then bif (Nx x) then bif (Afz (Ab (A7 ((Ci x)+4503599627370496)))) then bif (Nx x) then bif (Ai x) then bif (Dp x) then bif (Ib (Av ((Ab (A7 ((Ci x)+4503599627370496))))) (Ae ((Ab (A7 ((Ci x)+4503599627370496)))))) then bif (Ib (Av (- wv (Av ((Ab (A7 ((Ci x)+4503599627370496))))) (Ae ((Ab (A7 ((Ci x)+4503599627370496))))))) (Ae (- wv (Av ((Ab (A7 ((Ci x)+4503599627370496))))) (Ae ((Ab (A7 ((Ci x)+4503599627370496)))))))&&S2 (Ab ((J2 x)-1075))) then some (.agg [.bool (Av (mD (wv (Av (- wv (Av ((Ab (A7 ((Ci x)+4503599627370496))))) (Ae ((Ab (A7 ((Ci x)+4503599627370496))))))) (Ae (- wv (Av ((Ab (A7 ((Ci x)+4503599627370496))))) (Ae ((Ab (A7 ((Ci x)+4503599627370496)))))))))),.ints .arg .u32 (Ae (mD (wv (Av (- wv (Av ((Ab (A7 ((Ci x)+4503599627370496))))) (Ae ((Ab (A7 ((Ci x)+4503599627370496))))))) (Ae (- wv (Av ((Ab (A7 ((Ci x)+4503599627370496))))) (Ae ((Ab (A7 ((Ci x)+4503599627370496)))))))))),.int .i64 (eD (wv (Av (- wv (Av ((Ab (A7 ((Ci x)+4503599627370496))))) (Ae ((Ab (A7 ((Ci x)+4503599627370496))))))) (Ae (- wv (Av ((Ab (A7 ((Ci x)+4503599627370496))))) (Ae ((Ab (A7 ((Ci x)+4503599627370496)))))))) (Ab ((J2 x)-1075)))]) else none else none else bif (Ib (Av ((Ab (A7 ((Ci x)+4503599627370496))))) (Ae ((Ab (A7 ((Ci x)+4503599627370496)))))&&S2 (Ab ((J2 x)-1075))) then some (.agg [.bool (Av (mD (wv (Av ((Ab (A7 ((Ci x)+4503599627370496))))) (Ae ((Ab (A7 ((Ci x)+4503599627370496)))))))),.ints .arg .u32 (Ae (mD (wv (Av ((Ab (A7 ((Ci x)+4503599627370496))))) (Ae ((Ab (A7 ((Ci x)+4503599627370496)))))))),.int .i64 (eD (wv (Av ((Ab (A7 ((Ci x)+4503599627370496))))) (Ae ((Ab (A7 ((Ci x)+4503599627370496)))))) (Ab ((J2 x)-1075)))]) else none else none else none else none else none else bif (Ai x) then bif (Dp x) then bif (Ib (Av ((Ab (Ci x)))) (Ae ((Ab (Ci x))))) then bif (Ib (Av (- wv (Av ((Ab (Ci x)))) (Ae ((Ab (Ci x)))))) (Ae (- wv (Av ((Ab (Ci x)))) (Ae ((Ab (Ci x))))))&&S2 (-1074:Int)) then some (.agg [.bool (Av (mD (wv (Av (- wv (Av ((Ab (Ci x)))) (Ae ((Ab (Ci x)))))) (Ae (- wv (Av ((Ab (Ci x)))) (Ae ((Ab (Ci x))))))))),.ints .arg .u32 (Ae (mD (wv (Av (- wv (Av ((Ab (Ci x)))) (Ae ((Ab (Ci x)))))) (Ae (- wv (Av ((Ab (Ci x)))) (Ae ((Ab (Ci x))))))))),.int .i64 (eD (wv (Av (- wv (Av ((Ab (Ci x)))) (Ae ((Ab (Ci x)))))) (Ae (- wv (Av ((Ab (Ci x)))) (Ae ((Ab (Ci x))))))) (-1074:Int))]) else none else none else bif (Ib (Av ((Ab (Ci x)))) (Ae ((Ab (Ci x))))&&S2 (-1074:Int)) then some (.agg [.bool (Av (mD (wv (Av ((Ab (Ci x)))) (Ae ((Ab (Ci x))))))),.ints .arg .u32 (Ae (mD (wv (Av ((Ab (Ci x)))) (Ae ((Ab (Ci x))))))),.int .i64 (eD (wv (Av ((Ab (Ci x)))) (Ae ((Ab (Ci x))))) (-1074:Int))]) else none else none else none else none else none:=by kernel_rfl
abbrev _root_.Go.Proofs.S1.A5.Value.Kn:=A8 Tryz.prog 63 A5.Value.spec
theorem A5.Value.Ad (hk:Az Tryz.prog A5.Value.Bb) (h:∀ (x:Int),A5.Value.pre [.i x]=true→Bf A5.Value.E Tryz.f63 [.int .u64 x] (A5.Value.out [.i x])):A5.Value.Kn :=
  Ak (A0 hk _ _ _) Tryz.func63 (by kernel_rfl) (by kernel_rfl) h
end EqRefE
open EqRefE
theorem Zs {n k:Nat} (h:n<2^(32*k)) {m:Nat} (hk:k<m):C0 n<m:=Nat.lt_of_le_of_lt (Ko h) hk
theorem Rb (m:Nat):H8 false m=(m:Int):=rfl
theorem Aa8 (m:Nat):H8 true m=-(m:Int):=rfl
theorem A5.Value.known:A5.Value.Kn:=A5.Value.Ad (.cons Ac.Neg.known (.cons Ac.Of.known (.cons Ay.Of.known (.cons A5.Jz.known (.cons A5.Neg.known (.cons A5.Power.known .nil)))))) fun x hp=>by
  obtain ⟨n,rfl,hn⟩:=Bv (x:=x) hp
  refine ⟨0,A5.Value.out [.i n],[],?_,wdy⟩
  show _=Alp (mD (A2 n)) (eD (A2 n) (Aw n))
  have hf:=Mp n
  have hw:=Ij n
  have small:∀ k:Nat,k<2^54→C0 k<268435456:=fun k hk=>Zs (k:=2) (Nat.lt_trans hk (by decide)) (by omega)
  have o1:∀ k:Nat,k<2^54→Ib (Av (k:Int)) (Ae (k:Int))=true:=fun k hk=>I8 (by rw [Int.natAbs_natCast]; exact small k hk)
  have o2:∀ k:Nat,k<2^54→Ib (Av (-(k:Int))) (Ae (-(k:Int)))=true:=fun k hk=>I8 (by rw [Int.natAbs_neg,Int.natAbs_natCast]; exact small k hk)
  rw [A5.Value.ev]
  unfold Ci J2 Dp A2 Aw
  simp only [Fo,Aum]
  have e1:Ab ((Dt n:Nat):Int)=((Dt n:Nat):Int):=An (by omega) (by omega)
  have e2:Ab (A7 (((Dt n:Nat):Int)+4503599627370496))=((Dt n+2^52:Nat):Int):=by
    rw [Cn (by omega) (by omega),An (by omega) (by omega)]; omega
  have i1:∀ k:Nat,k<2^54→Afz (k:Int)=true:=fun k hk=>Ap.2 (by omega)
  rw [Oh,B5 hn,e1,e2,i1 _ (by omega),i1 _ (by omega),Au,An (by omega) (by omega)]
  simp only [Auk]
  unfold Aq Ax
  by_cases h:Em n=0
  · have o3:S2 (-1074)=true:=Ap.2 (by omega)
    rw [if_pos h,if_pos h,Aup (by omega),Auo,o1 _ (by omega),o2 _ (by omega),o3]
    cases Cs n
    · rw [Auo,Rb]; rfl
    · rw [Auk,Aa8]; rfl
  · have o3:S2 ((Em n:Int)-1075)=true:=Ap.2 (by omega)
    rw [if_neg h,if_neg h,Aul (by omega),Auk,o1 _ (by omega),o2 _ (by omega),o3]
    cases Cs n
    · rw [Auo,Rb]; rfl
    · rw [Auk,Aa8]; rfl
theorem U1 {m t:Nat} (h:m<2^t) (h0:m≠0):Q6 m<t:=Nat.lt_of_le_of_lt (Apf h0) ((Nat.log2_lt h0).2 h)
theorem Q5 (b:Nat):(A2 (b:Int)).natAbs=Aq b:=by
  unfold A2 H8
  rw [Aum]
  split<;>omega
theorem Aij (b:Nat):C0 (A2 (b:Int)).natAbs<3∧-400000≤eD (A2 (b:Int)) (Ax b)∧eD (A2 (b:Int)) (Ax b)≤400000:=by
  have hm:=Ei b
  have he:=Di b
  have ha:=Q5 b
  refine ⟨Zs (k:=2) (by rw [ha]; exact Nat.lt_trans hm (by decide)) (by omega),?_⟩
  unfold eD
  by_cases h:A2 (b:Int)=0
  · rw [if_pos h]; omega
  · rw [if_neg h]
    have:=U1 (m:=(A2 (b:Int)).natAbs) (t:=53) (by rw [ha]; exact hm) (by omega)
    omega
theorem Zm {r:Nat} (h:r<2^63):Dm r=((2^63+r:Nat):Int):=by
  unfold Dm; rw [Aum,Vx h]
theorem Lm {r:Nat} (h:r<2^63) (n:Bool):(bif n then (bif (Ai (r:Int)) then some (DV.int .u64 (Dm r)) else none) else some (DV.int .u64 r))=some (DV.int .u64 ((B1 n r:Nat):Int)):=by
  cases n
  · rfl
  · rw [B5 (by omega),Zm h]; rfl
theorem Mh (n:Bool) (m:Nat) (e:Int):Rn n m e=((B1 n (B8 m e):Nat):Int):=by
  unfold Rn; rw [Aum]
theorem Adx {E M:Nat} (h1:1≤E) (h2:E≤2046) (h3:4503599627370496≤M) (h4:M<9007199254740992):E*2^52+M%2^52=min ((E-1)*2^52+M) Gg:=by
  obtain ⟨k,rfl⟩:∃ k,E=k+1:=⟨E-1,by omega⟩
  obtain ⟨r,rfl⟩:∃ r,M=2^52+r:=⟨M-2^52,by omega⟩
  have hr:r<2^52:=by omega
  have hm:(2^52+r)%2^52=r:=by rw [Nat.add_mod_left,Aux hr]
  have hk:k*2^52≤2045*2^52:=Auw _ (by omega)
  have hi:Gg=2045*2^52+2^52+2^52:=by unfold Gg; rfl
  rw [hm,Nat.add_sub_cancel,Nat.succ_mul,hi]
  generalize 2^52=c at *
  omega
theorem soft.Pack.known:soft.Pack.Kn:=EqSoft.soft.Pack.Ad (.cons soft.Fs.known .nil) fun rk n m e hp hr=>by
  have hp:=Ap.1 (show Jj m e=true from hp)
  have hr:M4 m e<rk+1:=hr
  obtain ⟨m0,m1,e0,e1⟩:=hp
  obtain ⟨M,rfl⟩:∃ M:Nat,m=M:=⟨m.toNat,by omega⟩
  refine ⟨0,soft.Pack.out [.b n,.i M,.i e],[],?_,.int⟩
  rw [EqSoft.soft.Pack.ev]
  show _=some (DV.int .u64 (Rn n M e))
  rw [Mh]
  unfold M4 at hr
  by_cases h0:M=0
  · subst h0
    have:=Lm (r:=0) (by decide) n
    have e0:B8 0 e=0:=rfl
    rw [e0]
    simpa using this
  · have b0:((M:Int)==0)=false:=by simp; omega
    rw [b0,Auo]
    by_cases h1:M=9007199254740992
    · have b1:Dv (9007199254740992:Int) (M:Int)=true:=by rw [Ed]; simp; omega
      have s1:Da .u64 (M:Int) (1:Int)=((2^52:Nat):Int):=by
        rw [show (1:Int)=((1:Nat):Int) from rfl,Gi .u64 M 1 (by decide),h1]
      have w1:Ab (e+1)=e+1:=An (by omega) (by omega)
      rw [if_pos (by omega)] at hr
      have p1:Jj ((2^52:Nat):Int) (e+1)=true:=Ap.2 (by omega)
      have p2:Cr (M4 ((2^52:Nat):Int) (e+1)<rk)=true:=Ap.2 (by
        unfold M4
        rw [if_neg (by omega),if_neg (by omega)]; omega)
      rw [b1,s1,w1,p1,p2,Mh,h1]
      have:=(Dl (2^52) 1 (e+1)).1
      have e2:e+1-((1:Nat):Int)=e:=by omega
      rw [e2] at this
      rw [← this]; rfl
    · have b1:Dv (9007199254740992:Int) (M:Int)=false:=by rw [Ed]; simp; omega
      rw [b1,Auo]
      rw [if_neg (by omega)] at hr
      by_cases h2:M<4503599627370496
      · have b2:A4 (M:Int) (4503599627370496:Int)=true:=by rw [Au]; simp; omega
        rw [if_pos (by omega)] at hr
        by_cases h3:e=-1074
        · subst h3
          have b3:A4 (-1074:Int) (-1074)=false:=by decide
          rw [b2,b3,Bool.true_and,Auo,Auk,Vc h2]
          exact Lm (by omega) n
        · have b3:A4 (-1074:Int) e=true:=by rw [Au]; simp; omega
          have s1:Bs .u64 (M:Int) (1:Int)=((M*2^1:Nat):Int):=by
            rw [show (1:Int)=((1:Nat):Int) from rfl,Ex M 1 (by decide),Aux (by omega)]
          have w1:Ab (e-1)=e-1:=An (by omega) (by omega)
          have p1:Jj ((M*2^1:Nat):Int) (e-1)=true:=Ap.2 (by omega)
          have p2:Cr (M4 ((M*2^1:Nat):Int) (e-1)<rk)=true:=Ap.2 (by
            unfold M4
            rw [if_neg (by omega)]
            split<;>omega)
          rw [b2,b3,s1,w1,p1,p2,Mh]
          have:=(Dl M 1 e).1
          have e2:e-((1:Nat):Int)=e-1:=by omega
          rw [e2] at this
          rw [this]; rfl
      · have b2:A4 (M:Int) (4503599627370496:Int)=false:=by rw [Au]; simp; omega
        have w1:Ab (e+1075)=e+1075:=An (by omega) (by omega)
        rw [b2,w1,Bool.false_and,Auo,Auo]
        have hr:=Pc (m:=M) (e:=e) (by omega) (by omega) e0
        by_cases h4:2047≤e+1075
        · have b4:Dv (2047:Int) (e+1075)=true:=by rw [Ed]; simp; omega
          have:B8 M e=9218868437227405312:=by rw [hr,Jk]; omega
          rw [b4,this,Auk]
          exact Lm (r:=9218868437227405312) (by decide) n
        · have b4:Dv (2047:Int) (e+1075)=false:=by rw [Ed]; simp; omega
          obtain ⟨E,hE⟩:∃ E:Nat,e+1075=E:=⟨(e+1075).toNat,by omega⟩
          have s1:Hh .u64 (Bs .u64 (A7 (e+1075)) (52:Int)) (Fj .u64 (M:Int) (4503599627370495:Int))=((B8 M e:Nat):Int):=by
            rw [hE,Cn (by omega) (by omega),show (52:Int)=((52:Nat):Int) from rfl,Ex E 52 (by decide),Aux (by omega),
              show (4503599627370495:Int)=((2^52-1:Nat):Int) from rfl,Hb 52 (by omega) (by decide),Ld (by omega) (by omega)]
            have hE2:(e+1074).toNat=E-1:=by omega
            have hE3:1≤E∧E≤2046:=by omega
            have hM:4503599627370496≤M∧M<9007199254740992:=by omega
            rw [hr,hE2]
            exact congrArg (fun (x:Nat)=>(x:Int)) (Adx hE3.1 hE3.2 hM.1 hM.2)
          rw [b4,s1,Auo]
          exact Lm (Pd M e) n
open EqSoft
theorem Aiu {D:Nat} (h:D≤63):2^D<2^64:=Nat.pow_lt_pow_right (by decide) (by omega)
theorem Nn (n:Bool) {r:Nat} (h:r<2^63):Nk .u64 ((B1 n r:Nat):Int) (9223372036854775808:Int)=(r:Int):=by
  have hs:B1 n r<2^64:=by unfold B1; split<;>omega
  unfold Nk
  rw [show (9223372036854775808:Int)=((2^63:Nat):Int) from rfl,BitVec.toNat_and,BitVec.toNat_not,H0,H0,show IntKind.u64.bits=64 from rfl,Aux hs,
    show 2^64-1-2^63%2^64=2^63-1 by decide,Nat.and_two_pow_sub_one_eq_mod]
  have:B1 n r%2^63=r:=by unfold B1; cases n<;>simp<;>omega
  rw [this]
  exact Ud (by omega)
theorem Ad3 (N:Nat) (ex n:Bool) {r:Nat} (h:r≤Gg):soft.Cy.C18 N ex ((B1 n r:Nat):Int)=some (.tup [.int .u64 ((B1 n r:Nat):Int),.int .u8 ((flags r ex:Nat):Int)]):=by
  have h63:r<2^63:=by rw [Jk] at h; omega
  have hs:B1 n r<2^64:=by unfold B1; split<;>omega
  rw [soft.Cy.Arx,Nn n h63,B5 hs]
  unfold A1 flags
  rw [Aum,Ahn n h]
  have hinf:(((r:Nat):Int)==(9218868437227405312:Int))=decide (r=Gg):=by
    rw [Jk,Au0]; simp; omega
  rw [hinf]
  by_cases h1:r=Gg
  · simp [h1]
  · by_cases h2:2^52≤r
    · cases ex<;>simp [h1]<;>simp [show 4503599627370496≤r by omega]
    · by_cases h3:0<r
      · cases ex<;>simp [h1,h3]<;>simp [show ¬ 4503599627370496≤r by omega]
      · cases ex<;>simp [h1,h3]<;>simp [show ¬ 4503599627370496≤r by omega]
theorem Ag8 (N:Nat) (n:Bool) {m:Nat} {e:Int} (he:-1140≤e∧e≤50000) (r:Bool):∀ (k d F:Nat),d+k=62→k<F→(∀ d',d'<d→2^53≤m / 2^d'∨e+d' < -1074) →
    ∃ D:Nat,soft.Cy.L0 N F n m e r (d:Int)=soft.Cy.C7 N n m e r (D:Int)∧Drop m e D:=by
  intro k
  induction k with
  | zero =>
    intro d F hd hF hl
    obtain ⟨F,rfl⟩:∃ G,F=G+1:=⟨F-1,by omega⟩
    obtain rfl:d=62:=by omega
    rw [soft.Cy.At,Gi .u64 m 62 (by decide),An (by omega) (by omega),An (by omega) (by omega),Ed,Au]
    have a0:decide ((0:Int)≤((62:Nat):Int))=true:=by decide
    have a1:((((62:Nat):Int)+1)==63)=true:=by decide
    rw [a0,Auk,a1,Auk]
    by_cases h:2^53≤m / 2^62∨e+(62:Nat) < -1074
    · refine ⟨63,?_,by omega,by omega,fun d' hd'=>?_⟩
      · have:(decide ((9007199254740992:Int)≤((m / 2^62:Nat):Int))||decide (e+((62:Nat):Int) < -1074))=true:=by
          simp only [Bool.or_eq_true,Aur]; omega
        rw [this]; rfl
      · rcases Nat.lt_or_ge d' 62 with h' | h'
        · exact hl d' h'
        · obtain rfl:d'=62:=by omega
          exact h
    · refine ⟨62,?_,by omega,fun _=>by omega,hl⟩
      have:(decide ((9007199254740992:Int)≤((m / 2^62:Nat):Int))||decide (e+((62:Nat):Int) < -1074))=false:=by
        simp only [Bool.or_eq_false_iff,Au3]; omega
      rw [this]; rfl
  | succ k ih =>
    intro d F hd hF hl
    obtain ⟨F,rfl⟩:∃ G,F=G+1:=⟨F-1,by omega⟩
    rw [soft.Cy.At,Gi .u64 m d (by show d≤64; omega),An (by omega) (by omega),An (by omega) (by omega),Ed,Au]
    have a0:decide ((0:Int)≤(d:Int))=true:=by simp
    have a1:(((d:Int)+1)==63)=false:=by simp; omega
    rw [a0,Auk,a1,Auo]
    by_cases h:2^53≤m / 2^d∨e+d < -1074
    · have:(decide ((9007199254740992:Int)≤((m / 2^d:Nat):Int))||decide (e+(d:Int) < -1074))=true:=by
        simp only [Bool.or_eq_true,Aur]; omega
      rw [this,Auk,show (d:Int)+1=((d+1:Nat):Int) by omega]
      refine ih (d+1) F (by omega) (by omega) fun d' hd'=>?_
      rcases Nat.lt_or_ge d' d with h' | h'
      · exact hl d' h'
      · obtain rfl:d'=d:=by omega
        exact h
    · refine ⟨d,?_,by omega,fun _=>by omega,hl⟩
      have:(decide ((9007199254740992:Int)≤((m / 2^d:Nat):Int))||decide (e+(d:Int) < -1074))=false:=by
        simp only [Bool.or_eq_false_iff,Au3]; omega
      rw [this]; rfl
theorem Ag7 (N:Nat) (n:Bool) {m D:Nat} (hm:m<2^64) {e:Int} (he:-1140≤e∧e≤50000) (r:Bool) (hD:D≤63) (hq:(if e+D < -1074 then 0 else qOf m D r.toNat)≤2^53) :
    soft.Cy.C7 N n m e r (D:Int)=soft.Cy.C18 N (decide (m%2^D=0∧r.toNat=0)) ((B1 n (B8 (if e+D < -1074 then 0 else qOf m D r.toNat) (max (e+D) (-1074))):Nat):Int):=by
  have hA:=B9 D
  have h2D:=Aiu hD
  have hr:=Nat.mod_lt m hA
  have hqm:m / 2^D≤m:=Nat.div_le_self _ _
  rw [soft.Cy.Amh]
  have a0:decide ((0:Int)≤(D:Int))=true:=by simp
  have e1:Da .u64 (m:Int) (D:Int)=((m / 2^D:Nat):Int):=Gi .u64 m D (by show D≤64; omega)
  have e2:Bs .u64 (1:Int) (D:Int)=((2^D:Nat):Int):=by
    rw [show (1:Int)=((1:Nat):Int) from rfl,Ex 1 D (by omega),Nat.one_mul,Aux h2D]
  have e3:Fj .u64 (m:Int) (A7 (Bs .u64 (1:Int) (D:Int)-(1:Int)))=((m%2^D:Nat):Int):=by
    rw [e2,Cn (by omega) (by omega),show ((2^D:Nat):Int)-1=((2^D-1:Nat):Int) by omega,Hb D hm (by omega)]
  have e5:(bif (((m%2^D:Nat):Int)==(0:Int)) then (!r) else false)=decide (m%2^D=0∧r.toNat=0):=by
    by_cases h:m%2^D=0
    · cases r<;>simp [h]
    · have:(((m%2^D:Nat):Int)==(0:Int))=false:=by simp only [beq_eq_false_iff_ne,ne_eq]; omega
      rw [this]; simp [h]
  rw [a0,Auk,Auk,e1,e3,e5,Au]
  have last:∀ (p:Bool) (q:Nat),q≤2^64-1→(if e+D < -1074 then 0 else q)≤2^53→soft.Cy.C14 N n e (D:Int) ((q:Nat):Int) p=soft.Cy.C18 N p ((B1 n (B8 (if e+D < -1074 then 0 else q) (max (e+D) (-1074))):Nat):Int):=by
    intro p q hq hq2
    rw [soft.Cy.Ww,An (by omega) (by omega),Au]
    have c16:∀ q':Nat,q'≤2^53→soft.Cy.C16 N n e (q':Int) (D:Int) p=soft.Cy.C18 N p ((B1 n (B8 q' (max (e+D) (-1074))):Nat):Int):=by
      intro q' hq'
      rw [soft.Cy.Arz,An (by omega) (by omega)]
      have:Jj (q':Int) (max (e+(D:Int)) (-1074))=true:=Ap.2 (by omega)
      rw [this,Mh]; rfl
    by_cases h:e+D < -1074
    · rw [if_pos h] at hq2 ⊢
      have:decide (e+(D:Int) < -1074)=true:=by simpa using h
      rw [this]
      exact c16 0 hq2
    · rw [if_neg h] at hq2 ⊢
      have:decide (e+(D:Int) < -1074)=false:=by simpa using h
      rw [this]
      exact c16 q hq2
  have up:∀ (half:Nat) (hh:0<D→half=2^(D-1)) (p:Bool),soft.Cy.C12 N n e r (D:Int) ((m / 2^D:Nat):Int) ((m%2^D:Nat):Int) (half:Int) p=soft.Cy.C18 N p ((B1 n (B8 (if e+D < -1074 then 0 else qOf m D r.toNat) (max (e+D) (-1074))):Nat):Int):=by
    intro half hh p
    rw [soft.Cy.Wx,Au,Au]
    have odd:(Fj .u64 ((m / 2^D:Nat):Int) (1:Int)==(1:Int))=decide (m / 2^D%2=1):=by
      rw [show (1:Int)=((2^1-1:Nat):Int) from rfl,Hb 1 (by omega) (by decide),Au0]
      simp only [beq_iff_eq,Aur]
      omega
    rw [odd]
    have test:(decide ((0:Int)<(D:Int))&&(decide ((half:Int)<((m%2^D:Nat):Int))||((((m%2^D:Nat):Int)==(half:Int))&&(r||decide (m / 2^D%2=1))))) =
        decide (0<D∧(2^(D-1)<m%2^D∨(m%2^D=2^(D-1)∧(r.toNat=1∨m / 2^D%2=1)))):=by
      rw [Au0]
      generalize m%2^D=rr
      generalize m / 2^D=qq
      generalize hg:2^(D-1)=gg at hh
      by_cases h0:0<D
      · have:=hh h0
        subst this
        cases r<;>simp [h0]<;>omega
      · simp [h0]
    rw [test]
    by_cases ht:0<D∧(2^(D-1)<m%2^D∨(m%2^D=2^(D-1)∧(r.toNat=1∨m / 2^D%2=1)))
    · have hq1:qOf m D r.toNat=m / 2^D+1:=by unfold qOf; rw [if_pos ht]
      have hlt:m / 2^D+1<2^64:=by
        obtain ⟨d,rfl⟩:∃ d,D=d+1:=⟨D-1,by omega⟩
        have h1:m / 2^(d+1)≤m / 2:=Nat.div_le_div_left (by rw [Nat.pow_succ]; have:=B9 d; omega) (by decide)
        omega
      rw [hq1] at hq ⊢
      rw [Aul ht,Auk,Cn (by omega) (by omega),show ((m / 2^D:Nat):Int)+1=((m / 2^D+1:Nat):Int) by omega]
      exact last p _ (by omega) hq
    · have hq1:qOf m D r.toNat=m / 2^D:=by unfold qOf; rw [if_neg ht]; rfl
      rw [hq1] at hq ⊢
      rw [Aup ht,Auo]
      exact last p _ (by omega) hq
  rcases Nat.eq_zero_or_pos D with rfl | hpos
  · have:decide ((0:Int)<((0:Nat):Int))=false:=by decide
    rw [this,Auo]
    exact up 0 (fun h=>absurd h (by omega)) _
  · have h1:decide ((0:Int)<(D:Int))=true:=by simpa using hpos
    have h2:Ab ((D:Int)-1)=((D-1:Nat):Int):=by rw [An (by omega) (by omega)]; omega
    have h3:decide ((0:Int)≤((D-1:Nat):Int))=true:=by simp
    have h4:Bs .u64 (1:Int) ((D-1:Nat):Int)=((2^(D-1):Nat):Int):=by
      rw [show (1:Int)=((1:Nat):Int) from rfl,Ex 1 (D-1) (by omega),Nat.one_mul,Aux (Aiu (by omega))]
    rw [h1,Auk,h2,h3,Auk,h4]
    exact up _ (fun _=>rfl) _
theorem soft.Cy.known:soft.Cy.Kn:=soft.Cy.Ad (.cons soft.Kind.known (.cons soft.Pack.known .nil)) fun n m e r hp=>by
  obtain ⟨m0,m1,e1,e2,hr⟩:=Ap.1 (show Ds m e r=true from hp)
  obtain ⟨M,rfl⟩:∃ M:Nat,m=M:=⟨m.toNat,by omega⟩
  refine ⟨63,soft.Cy.out [.b n,.i M,.i e,.b r],[],?_,Wk.Gm (.cons .int (.cons .int .nil))⟩
  show _=some (DV.tup [.int .u64 (Eb n M e r),.int .u8 (Ea n M e r)])
  unfold Eb Ea Fq
  rw [Aum,soft.Cy.ev]
  dsimp only
  by_cases h0:M=0∧r=false
  · obtain ⟨rfl,rfl⟩:=h0
    have:Jj (0:Int) (-1074)=true:=Ap.2 (by omega)
    have hp0:=Mh n 0 (-1074)
    rw [this]
    simp only [Bool.not_false,Bool.and_true,Auk,Bool.toNat_false]
    have hz:(((0:Nat):Int)==0)=true:=rfl
    rw [hz,Auk]
    have hp0:Rn n (0:Int) (-1074)=((B1 n (B8 0 (-1074)):Nat):Int):=hp0
    have z:∀ E,B8 0 E=0:=fun E=>if_pos rfl
    have z3:∀ E,flagsOf 0 E=0:=fun E=>if_pos rfl
    rw [hp0,z,show 4*0+0=0 from rfl,z,z3]
    rfl
  · have hc:((((M:Nat):Int)==(0:Int))&&!r)=false:=by
      cases r
      · have:M≠0:=fun h=>h0 ⟨h,rfl⟩
        simp; omega
      · simp
    rw [hc,Auo]
    have he:-1140≤e∧e≤50000:=by omega
    obtain ⟨D,hl,hD⟩:=Ag8 63 n (m:=M) he r 62 0 63 (by omega) (by omega) (fun d' h=>by omega)
    have hs:r.toNat≤1:=by cases r<;>decide
    have hV:4*M+r.toNat≠0:=by
      intro h
      refine h0 ⟨by omega,?_⟩
      cases r
      · rfl
      · simp at h
    obtain ⟨t1,t2,t3⟩:=Aha hD hs hV (by omega) (by omega) (fun h=>by
      have:r=true:=by cases r<;>simp_all
      have:=hr this
      omega)
    have hl:soft.Cy.L0 63 63 n (M:Int) e r (0:Int)=soft.Cy.C7 63 n (M:Int) e r (D:Int):=hl
    rw [hl,Ag7 63 n (by omega) he r hD.le t3,← t1,Ad3 63 _ n (Y3 _ _),t2]
namespace EqSum
def sum.right.Bb:List (Nat × Entry):=[]
def sum.right.E:Env:=Be (Ba sum.right.Bb) (fun _=>false) (fun _=>none) (fun _=>none)
theorem sum.right.ev (N:Nat) (m d:Int):B0 sum.right.E N Tryz.f249 (Al Tryz.f249) [.int .u64 m,.int .i64 d]=bif (A4 63 d) then bif ((Bs .u64 (Da .u64 m 63) 63) !=m) then some (.int .u64 (Hh .u64 (Da .u64 m 63) 1)) else some (.int .u64 (Da .u64 m 63)) else bif (decide (0≤d)) then bif (decide (0≤d)) then bif ((Bs .u64 (Da .u64 m d) d) !=m) then some (.int .u64 (Hh .u64 (Da .u64 m d) 1)) else some (.int .u64 (Da .u64 m d)) else none else none:=by kernel_rfl
abbrev _root_.Go.Proofs.S1.sum.right.Kn:=A8 Tryz.prog 249 sum.right.spec
theorem sum.right.Ad (hk:Az Tryz.prog sum.right.Bb) (h:∀ (m d:Int),sum.right.pre [.i m,.i d]=true→Bf sum.right.E Tryz.f249 [.int .u64 m,.int .i64 d] (sum.right.out [.i m,.i d])):sum.right.Kn :=
  Ak (A0 hk _ _ _) Tryz.func249 (by kernel_rfl) (by kernel_rfl) h
def sum.D4.Bb:List (Nat × Entry):=[(148,soft.Finite.spec),(155,soft.Kind.spec)]
def sum.D4.E:Env:=Be (Ba sum.D4.Bb) (fun _=>false) (fun _=>none) (fun _=>none)
theorem sum.D4.ev (N:Nat) (a b:Int):B0 sum.D4.E N Tryz.f248 (Al Tryz.f248) [.int .u64 a,.int .u64 b]=bif (Ai a) then bif ((A1 a)==(4:Int)) then some (.tup [.int .u64 9221120237041090560,.int .u8 0]) else bif (Ai b) then bif ((A1 b)==(4:Int)) then some (.tup [.int .u64 9221120237041090560,.int .u8 0]) else bif (Ai a) then bif (Cv a) then some (.tup [.int .u64 b,.int .u8 0]) else bif (Ai b) then bif ((Cv b)||(a==b)) then some (.tup [.int .u64 a,.int .u8 0]) else some (.tup [.int .u64 9221120237041090560,.int .u8 16]) else none else none else none else none :=
  Eq.trans (by kernel_rfl)
  (Ev (Ev rfl (Ev (Ev rfl (Ev (Ev rfl (Ev (Ar (U4 (Cv b)) (Ar (U4 (Cv b)) (Ar (tt8 (Cv b)) (Ar (tt6 (Cv b)) (C3 (tt5 (Cv b) (a==b)) rfl rfl))))) rfl)) rfl)) rfl)) rfl)
abbrev _root_.Go.Proofs.S1.sum.D4.Kn:=A8 Tryz.prog 248 sum.D4.spec
theorem sum.D4.Ad (hk:Az Tryz.prog sum.D4.Bb) (h:∀ (a b:Int),sum.D4.pre [.i a,.i b]=true→Bf sum.D4.E Tryz.f248 [.int .u64 a,.int .u64 b] (sum.D4.out [.i a,.i b])):sum.D4.Kn :=
  Ak (A0 hk _ _ _) Tryz.func248 (by kernel_rfl) (by kernel_rfl) h
def sum.Add.Bb:List (Nat × Entry):=[(148,soft.Finite.spec),(212,soft.Cy.spec),(211,soft.Fc.spec),(213,soft.Sign.spec),(249,sum.right.spec),(248,sum.D4.spec)]
def sum.Add.E:Env:=Be (Ba sum.Add.Bb) (fun _=>false) (fun _=>none) (fun _=>none)
theorem sum.Add.ev (N:Nat) (a b:Int):B0 sum.Add.E N Tryz.f232 (Al Tryz.f232) [.int .u64 a,.int .u64 b]=bif (Ai a) then bif ((!(Cv a))||(Ai b)) then bif ((!(Cv a))||(!(Cv b))) then bif ((Ai a&&Ai b)&&(!(Cv a)||!(Cv b))) then some (.tup [.int .u64 (Kc a b),.int .u8 (T4 a b)]) else none else bif (Ai a) then bif (Ai b) then bif (Ai a) then bif (Ai b) then bif (A4 (Aw a) (Aw b)) then bif (Ai (Bs .u64 (Bh a) 9)&&Cr (0≤(Ab ((Aw b)-(Aw a)))∧(Ab ((Aw b)-(Aw a)))<1000000)) then bif ((Dp b)==(Dp a)) then bif (Ds (A7 ((Bs .u64 (Bh b) 9)+(Ej (Bs .u64 (Bh a) 9) (Ab ((Aw b)-(Aw a)))))) (Ab ((Aw b)-9)) false) then some (.tup [.int .u64 (Eb (Dp b) (A7 ((Bs .u64 (Bh b) 9)+(Ej (Bs .u64 (Bh a) 9) (Ab ((Aw b)-(Aw a)))))) (Ab ((Aw b)-9)) false),.int .u8 (Ea (Dp b) (A7 ((Bs .u64 (Bh b) 9)+(Ej (Bs .u64 (Bh a) 9) (Ab ((Aw b)-(Aw a)))))) (Ab ((Aw b)-9)) false)]) else none else bif (A4 (Ej (Bs .u64 (Bh a) 9) (Ab ((Aw b)-(Aw a)))) (Bs .u64 (Bh b) 9)) then bif (Ds (A7 ((Bs .u64 (Bh b) 9)-(Ej (Bs .u64 (Bh a) 9) (Ab ((Aw b)-(Aw a)))))) (Ab ((Aw b)-9)) false) then some (.tup [.int .u64 (Eb (Dp b) (A7 ((Bs .u64 (Bh b) 9)-(Ej (Bs .u64 (Bh a) 9) (Ab ((Aw b)-(Aw a)))))) (Ab ((Aw b)-9)) false),.int .u8 (Ea (Dp b) (A7 ((Bs .u64 (Bh b) 9)-(Ej (Bs .u64 (Bh a) 9) (Ab ((Aw b)-(Aw a)))))) (Ab ((Aw b)-9)) false)]) else none else bif (A4 (Bs .u64 (Bh b) 9) (Ej (Bs .u64 (Bh a) 9) (Ab ((Aw b)-(Aw a))))) then bif (Ds (A7 ((Ej (Bs .u64 (Bh a) 9) (Ab ((Aw b)-(Aw a))))-(Bs .u64 (Bh b) 9))) (Ab ((Aw b)-9)) false) then some (.tup [.int .u64 (Eb (Dp a) (A7 ((Ej (Bs .u64 (Bh a) 9) (Ab ((Aw b)-(Aw a))))-(Bs .u64 (Bh b) 9))) (Ab ((Aw b)-9)) false),.int .u8 (Ea (Dp a) (A7 ((Ej (Bs .u64 (Bh a) 9) (Ab ((Aw b)-(Aw a))))-(Bs .u64 (Bh b) 9))) (Ab ((Aw b)-9)) false)]) else none else some (.tup [.int .u64 0,.int .u8 0]) else none else bif (Ai (Bs .u64 (Bh b) 9)&&Cr (0≤(Ab ((Aw a)-(Aw b)))∧(Ab ((Aw a)-(Aw b)))<1000000)) then bif ((Dp a)==(Dp b)) then bif (Ds (A7 ((Bs .u64 (Bh a) 9)+(Ej (Bs .u64 (Bh b) 9) (Ab ((Aw a)-(Aw b)))))) (Ab ((Aw a)-9)) false) then some (.tup [.int .u64 (Eb (Dp a) (A7 ((Bs .u64 (Bh a) 9)+(Ej (Bs .u64 (Bh b) 9) (Ab ((Aw a)-(Aw b)))))) (Ab ((Aw a)-9)) false),.int .u8 (Ea (Dp a) (A7 ((Bs .u64 (Bh a) 9)+(Ej (Bs .u64 (Bh b) 9) (Ab ((Aw a)-(Aw b)))))) (Ab ((Aw a)-9)) false)]) else none else bif (A4 (Ej (Bs .u64 (Bh b) 9) (Ab ((Aw a)-(Aw b)))) (Bs .u64 (Bh a) 9)) then bif (Ds (A7 ((Bs .u64 (Bh a) 9)-(Ej (Bs .u64 (Bh b) 9) (Ab ((Aw a)-(Aw b)))))) (Ab ((Aw a)-9)) false) then some (.tup [.int .u64 (Eb (Dp a) (A7 ((Bs .u64 (Bh a) 9)-(Ej (Bs .u64 (Bh b) 9) (Ab ((Aw a)-(Aw b)))))) (Ab ((Aw a)-9)) false),.int .u8 (Ea (Dp a) (A7 ((Bs .u64 (Bh a) 9)-(Ej (Bs .u64 (Bh b) 9) (Ab ((Aw a)-(Aw b)))))) (Ab ((Aw a)-9)) false)]) else none else bif (A4 (Bs .u64 (Bh a) 9) (Ej (Bs .u64 (Bh b) 9) (Ab ((Aw a)-(Aw b))))) then bif (Ds (A7 ((Ej (Bs .u64 (Bh b) 9) (Ab ((Aw a)-(Aw b))))-(Bs .u64 (Bh a) 9))) (Ab ((Aw a)-9)) false) then some (.tup [.int .u64 (Eb (Dp b) (A7 ((Ej (Bs .u64 (Bh b) 9) (Ab ((Aw a)-(Aw b))))-(Bs .u64 (Bh a) 9))) (Ab ((Aw a)-9)) false),.int .u8 (Ea (Dp b) (A7 ((Ej (Bs .u64 (Bh b) 9) (Ab ((Aw a)-(Aw b))))-(Bs .u64 (Bh a) 9))) (Ab ((Aw a)-9)) false)]) else none else some (.tup [.int .u64 0,.int .u8 0]) else none else none else none else none else none else none else none :=
  Eq.trans (by kernel_rfl)
  (Ev (Ar (Ada (Cv a)) (C3 (Am3 (Cv a) (Ai b)) (Ar (T7 (Cv a)) (Ar (Adb (Cv a)) (C3 (Aqf (Cv a) (Cv b)) rfl rfl))) rfl)) rfl)
abbrev _root_.Go.Proofs.S1.sum.Add.Kn:=A8 Tryz.prog 232 sum.Add.spec
theorem sum.Add.Ad (hk:Az Tryz.prog sum.Add.Bb) (h:∀ (a b:Int),sum.Add.pre [.i a,.i b]=true→Bf sum.Add.E Tryz.f232 [.int .u64 a,.int .u64 b] (sum.Add.out [.i a,.i b])):sum.Add.Kn :=
  Ak (A0 hk _ _ _) Tryz.func232 (by kernel_rfl) (by kernel_rfl) h
def sum.Sub.Bb:List (Nat × Entry):=[(233,soft.Fs.spec),(232,sum.Add.spec)]
def sum.Sub.E:Env:=Be (Ba sum.Sub.Bb) (fun _=>false) (fun _=>none) (fun _=>none)
theorem sum.Sub.ev (N:Nat) (a b:Int):B0 sum.Sub.E N Tryz.f207 (Al Tryz.f207) [.int .u64 a,.int .u64 b]=bif (Ai b) then bif (Ai a&&Ai (Dm b)) then some (.tup [.int .u64 (Kc a (Dm b)),.int .u8 (T4 a (Dm b))]) else none else none:=by kernel_rfl
abbrev _root_.Go.Proofs.S1.sum.Sub.Kn:=A8 Tryz.prog 207 sum.Sub.spec
theorem sum.Sub.Ad (hk:Az Tryz.prog sum.Sub.Bb) (h:∀ (a b:Int),sum.Sub.pre [.i a,.i b]=true→Bf sum.Sub.E Tryz.f207 [.int .u64 a,.int .u64 b] (sum.Sub.out [.i a,.i b])):sum.Sub.Kn :=
  Ak (A0 hk _ _ _) Tryz.func207 (by kernel_rfl) (by kernel_rfl) h
end EqSum
open EqSum
theorem Aqw (q:Nat):q ||| 1=2*(q / 2)+1:=by
  have e:q%2 ||| (q / 2*2^1)=q / 2*2^1+q%2:=Rr (Nat.mod_lt _ (by decide))
  have e1:1 ||| (q / 2*2^1)=q / 2*2^1+1:=Rr (k:=1) (by decide)
  have hq:q / 2*2^1+q%2=q:=by omega
  rw [hq] at e
  rcases Nat.mod_two_eq_zero_or_one q with h | h
  · rw [h,Nat.zero_or] at e
    rw [e,Nat.or_comm] at e1
    omega
  · rw [h] at e
    have:q ||| 1=q:=by
      conv=>lhs; rw [← e]
      rw [Nat.or_comm 1,Nat.or_assoc,Nat.or_self,Nat.or_comm,e]
    omega
theorem Vg {n s:Nat} (hn:n<2^64) (hs:s≤63) :
    (bif ((Bs .u64 (Da .u64 (n:Int) (s:Int)) (s:Int)) !=(n:Int)) then
      some (DV.int .u64 (Hh .u64 (Da .u64 (n:Int) (s:Int)) (1:Int)))
    else some (.int .u64 (Da .u64 (n:Int) (s:Int))))=some (.int .u64 ((E1 n s:Nat):Int)):=by
  have hq:n / 2^s≤n:=Nat.div_le_self _ _
  have hm:n / 2^s*2^s≤n:=Nat.div_mul_le_self _ _
  have hd:=Nat.div_add_mod n (2^s)
  rw [Nat.mul_comm] at hd
  rw [Gi .u64 n s (by show s≤64; omega),Ex _ s (by omega),Aux (by omega)]
  have h1:Hh .u64 ((n / 2^s:Nat):Int) (1:Int)=((n / 2^s ||| 1:Nat):Int):=Aac (by omega) (by decide)
  rw [h1,Aqw]
  unfold E1
  by_cases h:n%2^s=0
  · have:((((n / 2^s*2^s:Nat):Int)) !=(n:Int))=false:=by
      simp only [bne_eq_false_iff_eq]; omega
    rw [this,if_pos h,Auo]
  · have:((((n / 2^s*2^s:Nat):Int)) !=(n:Int))=true:=by
      simp only [bne_iff_ne,ne_eq]; omega
    rw [this,if_neg h,Auk]
theorem sum.right.known:sum.right.Kn:=sum.right.Ad .nil fun m d hp=>by
  obtain ⟨h1,h2⟩:=Ag.1 hp
  obtain ⟨n,rfl,hn⟩:=Bv h1
  have h2:=Ap.1 h2
  obtain ⟨d,rfl⟩:∃ k:Nat,d=k:=⟨d.toNat,by omega⟩
  refine ⟨0,sum.right.out [.i n,.i d],[],?_,.int⟩
  rw [sum.right.ev,Au]
  show _=some (DV.int .u64 (Ej n d))
  unfold Ej
  rw [Aum,Aum]
  by_cases h:63<d
  · have:decide ((63:Int)<(d:Int))=true:=by simp; omega
    rw [this,Auk,Nat.min_eq_right (by omega)]
    exact Vg hn (Nat.le_refl 63)
  · have:decide ((63:Int)<(d:Int))=false:=by simp; omega
    have h0:decide ((0:Int)≤(d:Int))=true:=by simp
    rw [this,Auo,h0,Auk,Auk,Nat.min_eq_left (by omega)]
    exact Vg hn (by omega)
theorem Ae2:((W9:Nat):Int)=9221120237041090560:=rfl
theorem sum.D4.known:sum.D4.Kn:=sum.D4.Ad (.cons soft.Finite.known (.cons soft.Kind.known .nil)) fun a b hp=>by
  obtain ⟨h1,h2⟩:=Ag.1 hp
  obtain ⟨ha,hb⟩:=Ag.1 h1
  obtain ⟨a,rfl,hn⟩:=Bv ha
  obtain ⟨b,rfl,hm⟩:=Bv hb
  refine ⟨0,sum.D4.out [.i a,.i b],[],?_,Wk.Gm (.cons .int (.cons .int .nil))⟩
  rw [sum.D4.ev,ha,hb]
  show _=some (DV.tup [.int .u64 (Kc a b),.int .u8 (T4 a b)])
  unfold Kc T4 H9 A1 Cv
  simp only [Aum,Auk]
  unfold Cv at h2
  simp only [Aum] at h2
  by_cases a4:Ao a=4
  · simp [a4,Ae2]
  · have e4:((Ao a:Int)==4)=false:=by simp; omega
    rw [e4,Auo]
    by_cases b4:Ao b=4
    · simp [b4,Ae2]
    · have f4:((Ao b:Int)==4)=false:=by simp; omega
      rw [f4,Auo]
      have ka:=V6 a
      have kb:=V6 b
      by_cases a3:Ao a=3
      · have fa:Ir a=false:=by rw [ka]; simp [a3]
        rw [fa,Auo]
        by_cases b3:Ao b=3
        · have fb:Ir b=false:=by rw [kb]; simp [b3]
          rw [fb]
          by_cases hab:a=b
          · subst hab; simp [a3]
          · have hab':((a:Int)==(b:Int))=false:=by simp; omega
            rw [hab']
            simp [a3,b3,hab,Ae2]
        · have fb:Ir b=true:=by rw [kb]; simp [b3,b4]
          rw [fb]
          simp [a3,b3,b4]
      · have fa:Ir a=true:=by rw [ka]; simp [a3,a4]
        have b3:Ao b=3:=by
          rw [fa,kb] at h2
          simp [b4] at h2
          exact h2
        rw [fa,Auk]
        simp [a3,b3,a4]
def Ae9 (na nb:Bool) (X r:Nat) (e:Int):Nat × Nat :=
  if na=nb then Fq na (X+r) e false else if r<X then Fq na (X-r) e false else if X<r then Fq nb (r-X) e false else (0,0)
theorem S4 {na:Bool} {m:Int} {n:Nat} {e e':Int} (h:m=n) (he:e'=e) (hn:n<2^64) (h1:-1100≤e) (h2:e≤1000) :
    (bif Ds m e' false then some (DV.tup [.int .u64 (Eb na m e' false),.int .u8 (Ea na m e' false)]) else none)
      = some (.tup [.int .u64 (((Fq na n e false).1:Nat):Int),.int .u8 (((Fq na n e false).2:Nat):Int)]):=by
  subst h; subst he
  have hp:Ds (n:Int) e' false=true:=Ap.2 ⟨by omega,by omega,by omega,.inl (by omega),fun h=>by cases h⟩
  rw [hp,Auk]
  unfold Eb Ea
  rw [Aum]
theorem Acy (na nb:Bool) {X r:Nat} {e e':Int} (hX:X<2^62) (hr:r≤2^62) (h:e'=e) (h1:-1100≤e) (h2:e≤1000) :
    (bif (na==nb) then
      bif Ds (A7 ((X:Int)+(r:Int))) e' false then some (DV.tup [.int .u64 (Eb na (A7 ((X:Int)+(r:Int))) e' false),.int .u8 (Ea na (A7 ((X:Int)+(r:Int))) e' false)]) else none
    else bif A4 (r:Int) (X:Int) then
      bif Ds (A7 ((X:Int)-(r:Int))) e' false then some (DV.tup [.int .u64 (Eb na (A7 ((X:Int)-(r:Int))) e' false),.int .u8 (Ea na (A7 ((X:Int)-(r:Int))) e' false)]) else none
    else bif A4 (X:Int) (r:Int) then
      bif Ds (A7 ((r:Int)-(X:Int))) e' false then some (DV.tup [.int .u64 (Eb nb (A7 ((r:Int)-(X:Int))) e' false),.int .u8 (Ea nb (A7 ((r:Int)-(X:Int))) e' false)]) else none
    else some (.tup [.int .u64 (0:Int),.int .u8 (0:Int)])) =
      some (.tup [.int .u64 (((Ae9 na nb X r e).1:Nat):Int),.int .u8 (((Ae9 na nb X r e).2:Nat):Int)]):=by
  unfold Ae9
  rw [Au,Au]
  by_cases hs:na=nb
  · have:(na==nb)=true:=by simp [hs]
    rw [this,Auk,if_pos hs]
    exact S4 (by rw [Cn (by omega) (by omega)]; omega) h (by omega) h1 h2
  · have:(na==nb)=false:=by simp [hs]
    rw [this,Auo,if_neg hs]
    by_cases hl:r<X
    · have:decide ((r:Int)<(X:Int))=true:=by simp; omega
      rw [this,Auk,if_pos hl]
      exact S4 (by rw [Cn (by omega) (by omega)]; omega) h (by omega) h1 h2
    · have:decide ((r:Int)<(X:Int))=false:=by simp; omega
      rw [this,Auo,if_neg hl]
      by_cases hg:X<r
      · have:decide ((X:Int)<(r:Int))=true:=by simp; omega
        rw [this,Auk,if_pos hg]
        exact S4 (by rw [Cn (by omega) (by omega)]; omega) h (by omega) h1 h2
      · have:decide ((X:Int)<(r:Int))=false:=by simp; omega
        rw [this,Auo,if_neg hg]
        rfl
theorem Af8 {a b:Nat} (ha:Ir a=true) (hb:Ir b=true) (hle:Ax b≤Ax a) :
    ∃ X r:Nat,X<2^62∧r≤2^62∧Bs .u64 (Bh a) (9:Int)=(X:Int)∧Ej (Bs .u64 (Bh b) (9:Int)) (Ab (Aw a-Aw b))=(r:Int)
      ∧ Ab (Aw a-9)=Ax a-9
      ∧ (Ai (Bs .u64 (Bh b) (9:Int))&&Cr (0≤(Ab ((Aw a)-(Aw b)))∧(Ab ((Aw a)-(Aw b)))<1000000))=true
      ∧ Ae9 (Dp a) (Dp b) X r (Ax a-9)=H9 a b:=by
  obtain ⟨d,hd⟩:∃ d:Nat,Ax a=Ax b+d:=⟨(Ax a-Ax b).toNat,by omega⟩
  have hx:=Ei a
  have hy:=Ei b
  have ea:=Di a
  have eb:=Di b
  have C:=Acx (Mx:=Aq a) (My:=Aq b) hd hx hy (fun h=>Xs (by omega))
  have sh:∀ m:Nat,m<2^53→Bs .u64 (m:Int) (9:Int)=((m*2^9:Nat):Int):=fun m hm=>by
    have:=Ex m 9 (by decide)
    rw [Aux (by omega)] at this
    exact this
  have h2:Ab (Aw a-Aw b)=(d:Int):=by
    unfold Aw
    rw [Aum,Aum,An (by omega) (by omega)]; omega
  have s1:Bs .u64 (Bh a) (9:Int)=((Aq a*2^9:Nat):Int):=by
    unfold Bh; rw [Aum]; exact sh _ hx
  have s2:Bs .u64 (Bh b) (9:Int)=((Aq b*2^9:Nat):Int):=by
    unfold Bh; rw [Aum]; exact sh _ hy
  refine ⟨Aq a*2^9,E1 (Aq b*2^9) (min d 63),by omega,C.small,s1,?_,?_,?_,?_⟩
  · rw [s2,h2]; unfold Ej; rw [Aum,Aum]
  · unfold Aw; rw [Aum,An (by omega) (by omega)]
  · rw [s2,h2,B5 (by omega),Bool.true_and]
    exact Ap.2 ⟨by omega,by omega⟩
  · unfold Dp
    rw [Aum,Aum,Acw ha hb hd]
    rfl
theorem sum.Add.known:sum.Add.Kn:=sum.Add.Ad (.cons soft.Finite.known (.cons soft.Cy.known (.cons soft.Fc.known (.cons soft.Sign.known (.cons sum.right.known (.cons sum.D4.known .nil)))))) fun a b hp=>by
  obtain ⟨ha,hb⟩:=Ag.1 hp
  obtain ⟨a,rfl,hn⟩:=Bv ha
  obtain ⟨b,rfl,hm⟩:=Bv hb
  refine ⟨0,sum.Add.out [.i a,.i b],[],?_,Wk.Gm (.cons .int (.cons .int .nil))⟩
  rw [sum.Add.ev,ha,hb]
  show _=some (DV.tup [.int .u64 (Kc a b),.int .u8 (T4 a b)])
  rw [Bool.or_true,Auk,Auk]
  by_cases hf:(!(Cv a)||!(Cv b))=true
  · rw [hf]; rfl
  · have hf:(!(Cv a)||!(Cv b))=false:=by simpa using hf
    rw [hf,Auo,Auk,Auk,Auk,Auk]
    have fa:Ir a=true:=by
      have:=(Bool.or_eq_false_iff.1 hf).1
      unfold Cv at this
      simpa using this
    have fb:Ir b=true:=by
      have:=(Bool.or_eq_false_iff.1 hf).2
      unfold Cv at this
      simpa using this
    have xa:=Di a
    have xb:=Di b
    rw [Au]
    by_cases hl:Ax a<Ax b
    · obtain ⟨X,r,hX,hr,e1,e2,e3,e4,e5⟩:=Af8 fb fa (by omega)
      have:decide (Aw a<Aw b)=true:=by unfold Aw; simpa using hl
      rw [this,Auk,e4,Auk,e1,e2,Acy _ _ hX hr e3 (by omega) (by omega),e5,Ym]
      rfl
    · obtain ⟨X,r,hX,hr,e1,e2,e3,e4,e5⟩:=Af8 fa fb (by omega)
      have:decide (Aw a<Aw b)=false:=by unfold Aw; simpa using hl
      rw [this,Auo,e4,Auk,e1,e2,Acy _ _ hX hr e3 (by omega) (by omega),e5]
      rfl
theorem sum.Sub.known:sum.Sub.Kn:=sum.Sub.Ad (.cons soft.Fs.known (.cons sum.Add.known .nil)) fun a b hp=>by
  obtain ⟨ha,hb⟩:=Ag.1 hp
  obtain ⟨b,rfl,hm⟩:=Bv hb
  refine ⟨0,sum.Sub.out [.i a,.i b],[],?_,Wk.Gm (.cons .int (.cons .int .nil))⟩
  have:Ai (Dm (b:Int))=true:=by unfold Dm; rw [Aum]; exact B5 (S5 hm)
  rw [sum.Sub.ev,ha,hb,this]
  unfold Kc T4 Dm
  rw [Aum]
  rfl
end Go.Proofs.S1
end
