/- A verified evaluator of the program's form and its use for this seat: S1PRefB, S1PRefBa, S1EqRefC, S1PRefC, S1PRefCa, S1EqRefE, S1PRefV, S1PPack, S1PNear, S1EqSum, S1PSum. -/
import Derived.Test.YtjbokjpbiobjpaaGreatTF
import Derived.Test.YtjbokjpbiobjpaaGreatTE
set_option linter.unusedVariables false
set_option linter.unusedSimpArgs false
noncomputable section
namespace Go.Proofs.S1
open Go Go.Den Go.Rnd Go.Proofs
open EqRefB
theorem Ac.Ey.known:Ac.Ey.Kn:=Ac.Ey.Ad (.cons Ac.Made.known (.cons Ac.plus.known .nil)) fun n a hp=>by
  obtain ⟨v,rfl,rfl,hv⟩:=H5 hp
  refine ⟨0,Ac.Ey.out [.b (As v),.l (Ag v)],[],?_,W6⟩
  have o1:E6 (Ag v)=true:=Ls (by omega)
  have o3:E6 (G3 (Ag v) (Ag v))=true:=H6 (by rw [L8,By]; omega) (T5 _ _)
  rw [Ac.Ey.ev,o1,o3,Aq4,Aqy,Aqy,Agb rfl]
  show _=some (DV.agg [.bool (As (2*wv (As v) (Ag v))),.ints .arg .u32 (Ag (2*wv (As v) (Ag v)))])
  rw [Fy,Int.two_mul]
theorem Ank (l:List Int) (y x:Int) (r:List Int):∀ i,i=l.length→(l++y::r).set i x=l++x::r:=by
  induction l with
  | nil=>intro i h; subst h; rfl
  | cons z l ih =>
    intro i h
    obtain ⟨j,rfl⟩:∃ j,i=j+1:=⟨i-1,by rw [List.length_cons] at h; omega⟩
    show z::(l++y::r).set j x=z::(l++x::r)
    rw [ih j (by rw [List.length_cons] at h; omega)]
theorem Afm (N:Nat) {v:Int} (hv:Da v.natAbs<268435456):∀ (k i F:Nat),i+k=Da v.natAbs→k<F →
    Ac.Ge.L0 N F (As v) (Ag v) (i:Int) (digits i (v.natAbs / 2)++List.replicate k 0)=some (.agg [.bool (As (Iw v 1)),.ints .arg .u32 (Ag (Iw v 1))]):=by
  have o1:E6 (Ag v)=true:=Ls (by omega)
  have ia:=Fe v
  intro k
  induction k with
  | zero =>
    intro i F hi hF
    obtain ⟨F,rfl⟩:∃ G,F=G+1:=⟨F-1,by omega⟩
    have t0:decide ((i:Int)<((Ag v).length:Int))=false:=Aq3 (by rw [By]; omega)
    rw [List.replicate_zero,List.append_nil,Ac.Ge.At,Ar,t0,Aq2]
    have o3:E6 (digits i (v.natAbs / 2))=true:=H6 (by rw [De]; omega) (Ka _ _)
    have e:wv (As v) (digits i (v.natAbs / 2))=Iw v 1:=by
      unfold wv Iw
      rw [Ho,Arb,Nat.pow_one]
      have:=Iy v.natAbs
      rw [show i=Da v.natAbs by omega]
      exact Nat.lt_of_le_of_lt (Nat.div_le_self _ _) this
    rw [o3,Aqy,e]
  | succ k ih =>
    intro i F hi hF
    obtain ⟨F,rfl⟩:∃ G,F=G+1:=⟨F-1,by omega⟩
    have hlen:(digits i (v.natAbs / 2)++List.replicate (k+1) (0:Int)).length=i+(k+1):=by rw [List.length_append,De,List.length_replicate]
    have t0:decide ((i:Int)<((Ag v).length:Int))=true:=Aqz (by rw [By]; omega)
    have t1:decide ((0:Int)≤(i:Int))=true:=Aqz (by omega)
    have t2:decide ((i:Int)<((digits i (v.natAbs / 2)++List.replicate (k+1) (0:Int)).length:Int))=true:=Aqz (by rw [hlen]; omega)
    have t3:decide (i<(digits i (v.natAbs / 2)++List.replicate (k+1) (0:Int)).length)=true:=Aqz (by rw [hlen]; omega)
    have e0:Ab ((i:Int)+1)=((i+1:Nat):Int):=by rw [An (by omega) (by omega)]; omega
    rw [Ac.Ge.At,Ar,t0,o1,Aq0,t1,t2,t3,Aq4]
    simp only [Aqy]
    rw [e0,F6 ia,F6 ia,Dc]
    have ih:=ih (i+1) F (by omega) (by omega)
    rw [Hv,Nat.div_div_eq_div_mul,Nat.mul_comm 2,← Nat.div_div_eq_div_mul] at ih
    rw [Jk,Nat.mul_comm 4294967296,← Nat.div_div_eq_div_mul,List.replicate_succ,Ank _ _ _ _ i (De _ _).symm]
    rw [List.append_assoc] at ih
    generalize v.natAbs / 2^(32*i)=x at *
    have e1:Int.tmod ((x / 4294967296%4294967296:Nat):Int) 2=((x / 4294967296%4294967296%2:Nat):Int):=Hb _ 2
    have e2:A3 (A3 (((x / 4294967296%4294967296%2:Nat):Int)*4294967296)+((x%4294967296:Nat):Int))=((x / 4294967296%4294967296%2*4294967296+x%4294967296:Nat):Int):=by
      rw [Cg (x:=((x / 4294967296%4294967296%2:Nat):Int)*4294967296) (by omega) (by omega),Cg (by omega) (by omega)]; omega
    have e3:Int.tdiv ((x / 4294967296%4294967296%2*4294967296+x%4294967296:Nat):Int) 2=(((x / 4294967296%4294967296%2*4294967296+x%4294967296) / 2:Nat):Int):=H2 _ 2
    have e4:(x / 4294967296%4294967296%2*4294967296+x%4294967296) / 2=x / 2%4294967296:=by omega
    rw [e1,e2,e3,e4,Cg (by omega) (by omega),Hz (by omega) (by omega)]
    exact ih
theorem Ac.Ge.known:Ac.Ge.Kn:=Ac.Ge.Ad (.cons Ac.Made.known (.cons Ac.Hl.known .nil)) fun n a hp=>by
  obtain ⟨v,rfl,rfl,hv⟩:=H5 hp
  refine ⟨Da v.natAbs+1,Ac.Ge.out [.b (As v),.l (Ag v)],[],?_,W6⟩
  show _=some (DV.agg [.bool (As (Iw (wv (As v) (Ag v)) 1)),.ints .arg .u32 (Ag (Iw (wv (As v) (Ag v)) 1))])
  rw [Ac.Ge.ev,Fy,By,Aqz (by omega),Aqz (by omega),Aqz (by unfold Gv; omega),Aq4,Aq4,Aqy,Aq0]
  have h:=Afm (Da v.natAbs+1) hv (Da v.natAbs) 0 (Da v.natAbs+1) (by omega) (by omega)
  rw [digits,List.nil_append] at h
  exact h
def Abe (v:Int):Option DV:=some (.agg [.bool (As v),.ints .arg .u32 (Ag v)])
theorem Qw (v:Int):A1 (0:Int) ((Ag v).length:Int)=decide (v≠0):=by
  rw [Ar,By,decide_eq_decide]
  constructor
  · intro h e
    rw [e] at h
    exact absurd h (by decide)
  · intro h
    have:=I8 (n:=v.natAbs) (by omega)
    omega
theorem Ang (N:Nat):∀ (j F:Nat) (v:Int),j<F→j<2000000→Da v.natAbs<268435456→Ac.Bp.L3 N F (-(j:Int)) (As v) (Ag v)=Abe (Iw v j):=by
  intro j
  induction j with
  | zero =>
    intro F v hF _ hv
    obtain ⟨F,rfl⟩:∃ G,F=G+1:=⟨F-1,by omega⟩
    rw [Ac.Bp.Yx,Ar,Aq3 (by omega),Bool.false_and,Aq2,Zk]
    rfl
  | succ j ih =>
    intro F v hF hj hv
    obtain ⟨F,rfl⟩:∃ G,F=G+1:=⟨F-1,by omega⟩
    rw [Ac.Bp.Yx,Ar,Aqz (by omega),Bool.true_and,Qw]
    by_cases h0:v=0
    · rw [Aq3 (by omega),Aq2,h0,P8]
      rfl
    · rw [Aqz h0,Aqy,Je hv,Aqy,Fy,An (by omega) (by omega)]
      have e:-((j+1:Nat):Int)+1=-(j:Int):=by omega
      have hl:Da (Iw v 1).natAbs<268435456:=by
        rw [Jp]
        exact Nat.lt_of_le_of_lt (J7 (Nat.div_le_self _ _)) hv
      rw [e,ih F (Iw v 1) (by omega) (by omega) hl,Xj,Nat.add_comm]
theorem Ac7 (v:Int):wv (As v) ((Ag v).drop 1)=Iw v 32:=by
  unfold wv Iw
  rw [Ad8 (Fe v),Dc,two32]
theorem Anh (N:Nat):∀ (F j:Nat) (v:Int),j<F→j<N→j<2000000→Da v.natAbs<268435456→Ac.Bp.L2 N F (-(j:Int)) (As v) (Ag v)=Abe (Iw v j):=by
  intro F
  induction F with
  | zero=>intro j v h; omega
  | succ F ih =>
    intro j v hF hN hj hv
    rw [Ac.Bp.G2,D7,Qw]
    by_cases hc:32≤j∧v≠0
    · have o3:E6 ((Ag v).drop 1)=true:=H6 (by rw [List.length_drop,By]; omega) (Aan (Fe v))
      have t1:decide ((1:Int)≤((Ag v).length:Int))=true:=Aqz (by
        rw [By]
        have:=I8 (n:=v.natAbs) (by omega)
        omega)
      have hl:Da (Iw v 32).natAbs<268435456:=by
        rw [Jp]
        exact Nat.lt_of_le_of_lt (J7 (Nat.div_le_self _ _)) hv
      rw [Aqz (by omega),Aqz hc.2,Aq4,Aqy,t1,Aqy,o3,Aqy,Ac7,An (by omega) (by omega)]
      have e:-(j:Int)+32=-((j-32:Nat):Int):=by omega
      rw [e,ih (j-32) (Iw v 32) (by omega) (by omega) (by omega) hl,Xj]
      congr 2
      omega
    · have:(decide (-(j:Int)≤-32)&&decide (v≠0))=false:=by
        rw [Bool.and_eq_false_iff,Ari,Ari]
        omega
      rw [this,Aq2]
      exact Ang N j N v hN hj hv
theorem Se (N F:Nat) {k:Int} (hk:0≤k) (hN:0<N) (v:Int):Ac.Bp.L2 N (F+1) k (As v) (Ag v)=Abe v:=by
  obtain ⟨M,rfl⟩:∃ M,N=M+1:=⟨N-1,by omega⟩
  rw [Ac.Bp.G2,D7,Aq3 (by omega),Bool.false_and,Aq2,Ac.Bp.Yx,Ar,Aq3 (by omega),Bool.false_and,Aq2]
  rfl
theorem Ani (N:Nat) (hN:0<N):∀ (j F:Nat) (v:Int),j<F→j<2000000→Da v.natAbs+j<268435456→Ac.Bp.L1 N F (j:Int) (As v) (Ag v)=Abe (v*((2^j:Nat):Int)):=by
  obtain ⟨M,rfl⟩:∃ M,N=M+1:=⟨N-1,by omega⟩
  intro j
  induction j with
  | zero =>
    intro F v hF _ hv
    obtain ⟨F,rfl⟩:∃ G,F=G+1:=⟨F-1,by omega⟩
    rw [Ac.Bp.Cb,Ar,Aq3 (by omega),Bool.false_and,Aq2,Se _ _ (by omega) (by omega),Nat.pow_zero]
    congr 1
    omega
  | succ j ih =>
    intro F v hF hj hv
    obtain ⟨F,rfl⟩:∃ G,F=G+1:=⟨F-1,by omega⟩
    rw [Ac.Bp.Cb,Ar,Aqz (by omega),Bool.true_and,Qw]
    by_cases h0:v=0
    · rw [Aq3 (by omega),Aq2,h0,Int.zero_mul,Se _ _ (by omega) (by omega)]
    · have hl:=Ah6 v.natAbs
      have e2:(2*v).natAbs=2*v.natAbs:=by omega
      have e:((j+1:Nat):Int)-1=(j:Int):=by omega
      rw [Aqz h0,Aqy,Je (by omega),Aqy,Fy,An (by omega) (by omega),e,ih F (2*v) (by omega) (by omega) (by rw [e2]; omega)]
      congr 1
      rw [Nat.pow_succ,Ark,Int.mul_comm 2 v,Int.mul_assoc,Int.mul_comm ((2^j:Nat):Int)]
      rfl
theorem Aos (v:Int):wv (As v) ([(0:Int)]++Ag v)=v*((2^32:Nat):Int):=by
  have e:Bq ([(0:Int)]++Ag v)=4294967296*v.natAbs:=by
    show Bq (0::Ag v)=_
    rw [Bq,Dc]
    exact Nat.zero_add _
  unfold wv
  rw [e,two32]
  by_cases h:v<0
  · rw [Qb h]; omega
  · rw [Qa h]; omega
theorem Anj (N:Nat):∀ (F j:Nat) (v:Int),j<F→j<N→j<2000000→Da v.natAbs+j<268435456→Ac.Bp.L0 N F (j:Int) (As v) (Ag v)=Abe (v*((2^j:Nat):Int)):=by
  intro F
  induction F with
  | zero=>intro j v h; omega
  | succ F ih =>
    intro j v hF hN hj hv
    rw [Ac.Bp.At,D7,Qw]
    by_cases hc:32≤j∧v≠0
    · have o3:E6 ([(0:Int)]++Ag v)=true:=H6 (by rw [List.length_append,By]; show 1+_<_; omega) (Aam (Fe v))
      have t1:decide (1+(Ag v).length≤Gv)=true:=Aqz (by rw [By]; unfold Gv; omega)
      have e2:(v*((2^32:Nat):Int)).natAbs=v.natAbs*4294967296:=by rw [Int.natAbs_mul,Int.natAbs_natCast,two32]
      have hl:=Ak9 v.natAbs
      rw [Aqz (by omega),Aqz hc.2,Aq4,Aqy,t1,Aqy,o3,Aqy,Aos,An (by omega) (by omega)]
      have e:(j:Int)-32=((j-32:Nat):Int):=by omega
      rw [e,ih (j-32) _ (by omega) (by omega) (by omega) (by rw [e2]; omega)]
      have e3:2^j=2^32*2^(j-32):=by rw [← Nat.pow_add]; congr 1; omega
      rw [e3,Ark,Int.mul_assoc]
    · have:(decide ((32:Int)≤(j:Int))&&decide (v≠0))=false:=by
        rw [Bool.and_eq_false_iff,Ari,Ari]
        omega
      rw [this,Aq2]
      exact Ani N (by omega) j N v hN hj hv
theorem Abp (N j:Nat) (v:Int) (hj:0<j) (hN:j<N) (hj2:j<2000000) (hv:Da v.natAbs<268435456):Ac.Bp.L0 N N (-(j:Int)) (As v) (Ag v)=Abe (Iw v j):=by
  obtain ⟨M,rfl⟩:∃ M,N=M+1:=⟨N-1,by omega⟩
  rw [Ac.Bp.At,D7,Aq3 (by omega),Bool.false_and,Aq2,Ac.Bp.Cb,Ar,Aq3 (by omega),Bool.false_and,Aq2]
  exact Anh _ _ j v hN hN hj2 hv
theorem Ac.Bp.known:Ac.Bp.Kn:=Ac.Bp.Ad (.cons Ac.Ey.known (.cons Ac.Ge.known (.cons Ac.Made.known .nil))) fun n a k hp=>by
  obtain ⟨h1,h2⟩:=Af.1 hp
  obtain ⟨v,rfl,rfl,hv⟩:=S9 h1
  have h2:=Ao.1 h2
  refine ⟨k.natAbs+1,Ac.Bp.out [.b (As v),.l (Ag v),.i k],[],?_,W6⟩
  show _=some (DV.agg [.bool (As (Gt (wv (As v) (Ag v)) k)),.ints .arg .u32 (Ag (Gt (wv (As v) (Ag v)) k))])
  rw [Ac.Bp.ev,Fy]
  unfold Gt
  by_cases h:0≤k
  · obtain ⟨j,rfl⟩:∃ j:Nat,k=j:=⟨k.toNat,by omega⟩
    rw [if_pos h,Aq0,Int.natAbs_natCast]
    exact Anj _ _ j v (by omega) (by omega) (by omega) (by omega)
  · obtain ⟨j,rfl⟩:∃ j:Nat,k=-(j:Int):=⟨(-k).toNat,by omega⟩
    have e:(-(-(j:Int))).toNat=j:=by omega
    rw [if_neg h,e,Int.natAbs_neg,Int.natAbs_natCast]
    exact Abp _ j v (by omega) (by omega) (by omega) (by omega)
open EqRefB
theorem Ac.Tl.known:Ac.Tl.Kn:=Ac.Tl.Ad .nil fun n a hp=>by
  obtain ⟨v,rfl,rfl,hv⟩:=H5 hp
  refine ⟨0,Ac.Tl.out [.b (As v),.l (Ag v)],[],?_,.bool⟩
  show _=some (DV.bool (Aez (wv (As v) (Ag v))))
  rw [Ac.Tl.ev,Fy,Qw]
  have hg:=Mg (Fe v) 0
  rw [Dc,Nat.mul_zero,Nat.pow_zero,Nat.div_one] at hg
  have e2:Int.tmod ((v.natAbs%4294967296:Nat):Int) 2=((v.natAbs%4294967296%2:Nat):Int):=Hb _ 2
  unfold Aez
  by_cases h0:v=0
  · rw [h0]; rfl
  · have hl:=I8 (n:=v.natAbs) (by omega)
    rw [hg,e2,Aqz h0,By,Aqz (by omega),Bool.or_true,Aqy,Aqy]
    congr 2
    rw [Are]
    simp only [beq_iff_eq,Aq5]
    omega
theorem Uk (N:Nat) (n m:Bool) {a b:List Int} (hab:a.length=b.length) (hl:a.length<1073741824):∀ (k i F:Nat),i+k=a.length→k<F →
    Ac.Dw.L0 N F n a m b (i:Int)=some (.bool (decide (a.drop i=b.drop i))):=by
  intro k
  induction k with
  | zero =>
    intro i F hi hF
    obtain ⟨F,rfl⟩:∃ G,F=G+1:=⟨F-1,by omega⟩
    have e:a.drop i=b.drop i:=by rw [Arc (by omega),Arc (by omega)]
    rw [Ac.Dw.At,Ar,Aq3 (by omega),Aq2,Aqz e]
  | succ k ih =>
    intro i F hi hF
    obtain ⟨F,rfl⟩:∃ G,F=G+1:=⟨F-1,by omega⟩
    have ha:i<a.length:=by omega
    have hb:i<b.length:=by omega
    have ga:a.getD i 0=a[i]:=by rw [Aq8,Arf ha]; rfl
    have gb:b.getD i 0=b[i]:=by rw [Aq8,Arf hb]; rfl
    have t1:decide ((i:Int)<(a.length:Int))=true:=Aqz (by omega)
    have t2:decide ((i:Int)<(b.length:Int))=true:=Aqz (by omega)
    have t0:decide ((0:Int)≤(i:Int))=true:=Aqz (by omega)
    rw [Ac.Dw.At,Ar,t1,t2,t0,Aq4,Aqy,Aqy,Aqy,Aq0,ga,gb,List.drop_eq_getElem_cons ha,List.drop_eq_getElem_cons hb,An (by omega) (by omega)]
    by_cases h:a[i]=b[i]
    · have e:(a[i] !=b[i])=false:=by simp [h]
      have e1:(i:Int)+1=((i+1:Nat):Int):=by omega
      rw [e,Aq2,e1,ih (i+1) F (by omega) (by omega),h]
      congr 2
      rw [decide_eq_decide,List.cons.injEq]
      exact ⟨fun k=>⟨rfl,k⟩,fun k=>k.2⟩
    · have e:(a[i] !=b[i])=true:=by simp [h]
      rw [e,Aqy,Aq3 (fun k=>h (List.cons.inj k).1)]
theorem Ach {v w:Int} (h1:As v=As w) (h2:Ag v=Ag w):v=w:=by
  have e1:=Fy v
  have e2:=Fy w
  rw [h1,h2] at e1
  omega
theorem Ac.Dw.known:Ac.Dw.Kn:=Ac.Dw.Ad .nil fun n a m b hp=>by
  obtain ⟨h1,h2⟩:=Af.1 hp
  obtain ⟨v,rfl,rfl,hv⟩:=H5 h1
  obtain ⟨w,rfl,rfl,hw⟩:=H5 h2
  refine ⟨(Ag v).length+1,Ac.Dw.out [.b (As v),.l (Ag v),.b (As w),.l (Ag w)],[],?_,.bool⟩
  show _=some (DV.bool (Ty (wv (As v) (Ag v)) (wv (As w) (Ag w))))
  rw [Ac.Dw.ev,Fy,Fy]
  unfold Ty
  by_cases hs:As v=As w
  · have e:(As v==As w)=true:=by simp [hs]
    rw [e,Bool.not_true,Bool.false_or]
    by_cases hl:(Ag v).length=(Ag w).length
    · have e:(((Ag v).length:Int) !=((Ag w).length:Int))=false:=by simp [hl]
      have hlen:=By v
      have:=Uk ((Ag v).length+1) (As v) (As w) hl (by omega) (Ag v).length 0 ((Ag v).length+1) (by omega) (by omega)
      rw [List.drop_zero,List.drop_zero] at this
      have e2:decide (Ag v=Ag w)=decide (v=w):=decide_eq_decide.2 ⟨Ach hs,fun k=>by rw [k]⟩
      rw [e2] at this
      rw [e,Aq2]
      exact this
    · have e:(((Ag v).length:Int) !=((Ag w).length:Int))=true:=by simp only [bne_iff_ne,ne_eq]; omega
      rw [e,Aqy,Aq3 (fun k=>hl (by rw [k]))]
  · have e:(As v==As w)=false:=by simp [hs]
    rw [e,Bool.not_false,Bool.true_or,Aqy,Aq3 (fun k=>hs (by rw [k]))]
set_option maxRecDepth 100000
namespace EqRefC
def Az.Of.hint:Nat→Option A5
  | 0=>some { keep:=[1,2,4],objs:=[],boxes:=[2,4] }
  | 2=>some { keep:=[1,2,4],objs:=[],boxes:=[2,4] }
  | _=>none
def Az.Of.Ba:List (Nat × Entry):=[(173,Ac.Ge.spec),(171,Ac.Made.spec),(172,Ac.Tl.spec)]
def Az.Of.E:Env:=Bb (A9 Az.Of.Ba) (fun _=>false) Az.Of.hint (fun _=>none)
def Az.Of.L0 (N M:Nat) (p1:Int) (p2:Bool) (p2_1:List Int):Option DV:=B2 Az.Of.E N Tryz.f109 (Am Tryz.f109) [1,1,0,0] [] M ⟨Fw 33 [(1,.int .i64 p1),(2,.ptr 2 0 0),(4,.ptr 4 0 0)],[(2,false,.box [.bool p2,.ints .arg .u32 p2_1]),(4,false,.box [.bool false,.nil,.int .i64 0])]⟩
def Az.Of.L1 (N M:Nat) (p1_1:Int) (p2_2:Bool) (p2_3:List Int):Option DV:=B2 Az.Of.E N Tryz.f109 (Am Tryz.f109) [1,1,1,0,0] [] M ⟨Fw 33 [(1,.int .i64 p1_1),(2,.ptr 2 0 0),(4,.ptr 4 0 0)],[(2,false,.box [.bool p2_2,.ints .arg .u32 p2_3]),(4,false,.box [.bool false,.nil,.int .i64 0])]⟩
theorem Az.Of.At (N M:Nat) (p1:Int) (p2:Bool) (p2_1:List Int):Az.Of.L0 N (M+1) p1 p2 p2_1=bif (decide ((0:Int)<(List.length p2_1:Int))) then bif ((List.getD p2_1 0 0)==(0:Int)) then bif (decide ((1:Int)≤(List.length p2_1:Int))) then bif (E6 (List.drop 1 p2_1)) then Az.Of.L0 N M (Ab (p1+32)) (As (wv p2 (List.drop 1 p2_1))) (Ag (wv p2 (List.drop 1 p2_1))) else none else none else Az.Of.L1 N N p1 p2 p2_1 else none :=
  Eq.trans (by kernel_rfl)
  (E2 (E2 (Cy (Apj (decide ((1:Int)≤(List.length p2_1:Int)))) (Cy (Cz (E6 (List.drop 1 p2_1))) rfl rfl) rfl) rfl) rfl)
theorem Az.Of.Cb (N M:Nat) (p1_1:Int) (p2_2:Bool) (p2_3:List Int):Az.Of.L1 N (M+1) p1_1 p2_2 p2_3=bif (Jt p2_2 p2_3) then bif (!(Aez (wv p2_2 p2_3))) then bif (Jt p2_2 p2_3) then Az.Of.L1 N M (Ab (p1_1+1)) (As (Iw (wv p2_2 p2_3) 1)) (Ag (Iw (wv p2_2 p2_3) 1)) else none else some (.agg [.bool p2_2,.ints .arg .u32 p2_3,.int .i64 p1_1]) else none:=by kernel_rfl
theorem Az.Of.ev (N:Nat) (n:Bool) (a:List Int) (e:Int):Bv Az.Of.E N Tryz.f109 (Am Tryz.f109) [.agg [.bool n,.ints .arg .u32 a],.int .i64 e]=bif ((List.length a:Int)==(0:Int)) then some (.agg [.bool false,.nil,.int .i64 0]) else Az.Of.L0 N N e n a:=by kernel_rfl
abbrev _root_.Go.Proofs.S1.Az.Of.Kn:=A4 Tryz.prog 109 Az.Of.spec
theorem Az.Of.Ad (hk:Ax Tryz.prog Az.Of.Ba) (h:∀ (n:Bool) (a:List Int) (e:Int),Az.Of.pre [.b n,.l a,.i e]=true→Bc Az.Of.E Tryz.f109 [.agg [.bool n,.ints .arg .u32 a],.int .i64 e] (Az.Of.out [.b n,.l a,.i e])):Az.Of.Kn :=
  Al (Ay hk _ _ _) Tryz.func109 (by kernel_rfl) (by kernel_rfl) h
def Az.Tm.Ba:List (Nat × Entry):=[]
def Az.Tm.E:Env:=Bb (A9 Az.Tm.Ba) (fun _=>false) (fun _=>none) (fun _=>none)
theorem Az.Tm.ev (N:Nat) (n:Bool) (a:List Int) (e:Int) (m:Bool) (b:List Int) (f:Int):Bv Az.Tm.E N Tryz.f111 (Am Tryz.f111) [.agg [.bool n,.ints .arg .u32 a,.int .i64 e],.agg [.bool m,.ints .arg .u32 b,.int .i64 f]]=bif ((List.length a:Int)==(0:Int)) then some (.int .i64 f) else bif ((List.length b:Int)==(0:Int)) then some (.int .i64 e) else some (.int .i64 (min e f)):=by kernel_rfl
abbrev _root_.Go.Proofs.S1.Az.Tm.Kn:=A4 Tryz.prog 111 Az.Tm.spec
theorem Az.Tm.Ad (hk:Ax Tryz.prog Az.Tm.Ba) (h:∀ (n:Bool) (a:List Int) (e:Int) (m:Bool) (b:List Int) (f:Int),Az.Tm.pre [.b n,.l a,.i e,.b m,.l b,.i f]=true→Bc Az.Tm.E Tryz.f111 [.agg [.bool n,.ints .arg .u32 a,.int .i64 e],.agg [.bool m,.ints .arg .u32 b,.int .i64 f]] (Az.Tm.out [.b n,.l a,.i e,.b m,.l b,.i f])):Az.Tm.Kn :=
  Al (Ay hk _ _ _) Tryz.func111 (by kernel_rfl) (by kernel_rfl) h
def Az.Level.Ba:List (Nat × Entry):=[(178,Ac.Bp.spec)]
def Az.Level.E:Env:=Bb (A9 Az.Level.Ba) (fun _=>false) (fun _=>none) (fun _=>none)
theorem Az.Level.ev (N:Nat) (n:Bool) (a:List Int) (e f:Int):Bv Az.Level.E N Tryz.f113 (Am Tryz.f113) [.agg [.bool n,.ints .arg .u32 a,.int .i64 e],.int .i64 f]=bif ((List.length a:Int)==(0:Int)) then some (.agg [.bool n,.ints .arg .u32 a]) else bif (Vl n a&&Ans (Ab (e-f))) then some (.agg [.bool (As (Gt (wv n a) (Ab (e-f)))),.ints .arg .u32 (Ag (Gt (wv n a) (Ab (e-f))))]) else none:=by kernel_rfl
abbrev _root_.Go.Proofs.S1.Az.Level.Kn:=A4 Tryz.prog 113 Az.Level.spec
theorem Az.Level.Ad (hk:Ax Tryz.prog Az.Level.Ba) (h:∀ (n:Bool) (a:List Int) (e f:Int),Az.Level.pre [.b n,.l a,.i e,.i f]=true→Bc Az.Level.E Tryz.f113 [.agg [.bool n,.ints .arg .u32 a,.int .i64 e],.int .i64 f] (Az.Level.out [.b n,.l a,.i e,.i f])):Az.Level.Kn :=
  Al (Ay hk _ _ _) Tryz.func113 (by kernel_rfl) (by kernel_rfl) h
def Az.Add.Ba:List (Nat × Entry):=[(112,Ac.Add.spec),(113,Az.Level.spec),(111,Az.Tm.spec),(109,Az.Of.spec)]
def Az.Add.E:Env:=Bb (A9 Az.Add.Ba) (fun _=>false) (fun _=>none) (fun _=>none)
theorem Az.Add.ev (N:Nat) (n:Bool) (a:List Int) (e:Int) (m:Bool) (b:List Int) (f:Int):Bv Az.Add.E N Tryz.f42 (Am Tryz.f42) [.agg [.bool n,.ints .arg .u32 a,.int .i64 e],.agg [.bool m,.ints .arg .u32 b,.int .i64 f]]=bif (Jt n a&&Jt m b) then bif (Vl n a&&Zz (wv n a) e (C1 (wv n a) e (wv m b) f)) then bif (Vl m b&&Zz (wv m b) f (C1 (wv n a) e (wv m b) f)) then bif (Jt (As (Gt (wv n a) (e-(C1 (wv n a) e (wv m b) f)))) (Ag (Gt (wv n a) (e-(C1 (wv n a) e (wv m b) f))))&&Jt (As (Gt (wv m b) (f-(C1 (wv n a) e (wv m b) f)))) (Ag (Gt (wv m b) (f-(C1 (wv n a) e (wv m b) f))))) then bif (Jt (As (wv (As (Gt (wv n a) (e-(C1 (wv n a) e (wv m b) f)))) (Ag (Gt (wv n a) (e-(C1 (wv n a) e (wv m b) f))))+wv (As (Gt (wv m b) (f-(C1 (wv n a) e (wv m b) f)))) (Ag (Gt (wv m b) (f-(C1 (wv n a) e (wv m b) f)))))) (Ag (wv (As (Gt (wv n a) (e-(C1 (wv n a) e (wv m b) f)))) (Ag (Gt (wv n a) (e-(C1 (wv n a) e (wv m b) f))))+wv (As (Gt (wv m b) (f-(C1 (wv n a) e (wv m b) f)))) (Ag (Gt (wv m b) (f-(C1 (wv n a) e (wv m b) f))))))&&Rr (C1 (wv n a) e (wv m b) f)) then some (.agg [.bool (As (mD (wv (As (wv (As (Gt (wv n a) (e-(C1 (wv n a) e (wv m b) f)))) (Ag (Gt (wv n a) (e-(C1 (wv n a) e (wv m b) f))))+wv (As (Gt (wv m b) (f-(C1 (wv n a) e (wv m b) f)))) (Ag (Gt (wv m b) (f-(C1 (wv n a) e (wv m b) f)))))) (Ag (wv (As (Gt (wv n a) (e-(C1 (wv n a) e (wv m b) f)))) (Ag (Gt (wv n a) (e-(C1 (wv n a) e (wv m b) f))))+wv (As (Gt (wv m b) (f-(C1 (wv n a) e (wv m b) f)))) (Ag (Gt (wv m b) (f-(C1 (wv n a) e (wv m b) f))))))))),.ints .arg .u32 (Ag (mD (wv (As (wv (As (Gt (wv n a) (e-(C1 (wv n a) e (wv m b) f)))) (Ag (Gt (wv n a) (e-(C1 (wv n a) e (wv m b) f))))+wv (As (Gt (wv m b) (f-(C1 (wv n a) e (wv m b) f)))) (Ag (Gt (wv m b) (f-(C1 (wv n a) e (wv m b) f)))))) (Ag (wv (As (Gt (wv n a) (e-(C1 (wv n a) e (wv m b) f)))) (Ag (Gt (wv n a) (e-(C1 (wv n a) e (wv m b) f))))+wv (As (Gt (wv m b) (f-(C1 (wv n a) e (wv m b) f)))) (Ag (Gt (wv m b) (f-(C1 (wv n a) e (wv m b) f))))))))),.int .i64 (eD (wv (As (wv (As (Gt (wv n a) (e-(C1 (wv n a) e (wv m b) f)))) (Ag (Gt (wv n a) (e-(C1 (wv n a) e (wv m b) f))))+wv (As (Gt (wv m b) (f-(C1 (wv n a) e (wv m b) f)))) (Ag (Gt (wv m b) (f-(C1 (wv n a) e (wv m b) f)))))) (Ag (wv (As (Gt (wv n a) (e-(C1 (wv n a) e (wv m b) f)))) (Ag (Gt (wv n a) (e-(C1 (wv n a) e (wv m b) f))))+wv (As (Gt (wv m b) (f-(C1 (wv n a) e (wv m b) f)))) (Ag (Gt (wv m b) (f-(C1 (wv n a) e (wv m b) f))))))) (C1 (wv n a) e (wv m b) f))]) else none else none else none else none else none :=
  Eq.trans (by kernel_rfl)
  (E2 (Cy (Cz (Vl n a&&Zz (wv n a) e (C1 (wv n a) e (wv m b) f))) (Cy (Cz (Vl m b&&Zz (wv m b) f (C1 (wv n a) e (wv m b) f))) (Cy (Cz (Jt (As (Gt (wv n a) (e-(C1 (wv n a) e (wv m b) f)))) (Ag (Gt (wv n a) (e-(C1 (wv n a) e (wv m b) f))))&&Jt (As (Gt (wv m b) (f-(C1 (wv n a) e (wv m b) f)))) (Ag (Gt (wv m b) (f-(C1 (wv n a) e (wv m b) f)))))) (Cy (Cz (Jt (As (wv (As (Gt (wv n a) (e-(C1 (wv n a) e (wv m b) f)))) (Ag (Gt (wv n a) (e-(C1 (wv n a) e (wv m b) f))))+wv (As (Gt (wv m b) (f-(C1 (wv n a) e (wv m b) f)))) (Ag (Gt (wv m b) (f-(C1 (wv n a) e (wv m b) f)))))) (Ag (wv (As (Gt (wv n a) (e-(C1 (wv n a) e (wv m b) f)))) (Ag (Gt (wv n a) (e-(C1 (wv n a) e (wv m b) f))))+wv (As (Gt (wv m b) (f-(C1 (wv n a) e (wv m b) f)))) (Ag (Gt (wv m b) (f-(C1 (wv n a) e (wv m b) f))))))&&Rr (C1 (wv n a) e (wv m b) f))) rfl rfl) rfl) rfl) rfl) rfl)
abbrev _root_.Go.Proofs.S1.Az.Add.Kn:=A4 Tryz.prog 42 Az.Add.spec
theorem Az.Add.Ad (hk:Ax Tryz.prog Az.Add.Ba) (h:∀ (n:Bool) (a:List Int) (e:Int) (m:Bool) (b:List Int) (f:Int),Az.Add.pre [.b n,.l a,.i e,.b m,.l b,.i f]=true→Bc Az.Add.E Tryz.f42 [.agg [.bool n,.ints .arg .u32 a,.int .i64 e],.agg [.bool m,.ints .arg .u32 b,.int .i64 f]] (Az.Add.out [.b n,.l a,.i e,.b m,.l b,.i f])):Az.Add.Kn :=
  Al (Ay hk _ _ _) Tryz.func42 (by kernel_rfl) (by kernel_rfl) h
def Az.Dw.Ba:List (Nat × Entry):=[(133,Ac.Dw.spec)]
def Az.Dw.E:Env:=Bb (A9 Az.Dw.Ba) (fun _=>false) (fun _=>none) (fun _=>none)
theorem Az.Dw.ev (N:Nat) (n:Bool) (a:List Int) (e:Int) (m:Bool) (b:List Int) (f:Int):Bv Az.Dw.E N Tryz.f54 (Am Tryz.f54) [.agg [.bool n,.ints .arg .u32 a,.int .i64 e],.agg [.bool m,.ints .arg .u32 b,.int .i64 f]]=bif ((!(e==f))||(Jt n a&&Jt m b)) then some (.bool (bif (e==f) then (Ty (wv n a) (wv m b)) else false)) else none :=
  Eq.trans (by kernel_rfl)
  (Ap (Ot (e==f)) (Ap (Ks (e==f)) (Ap (Ot (e==f)) (Ap (Ks (e==f)) (Cy (tt87 (e==f) (Jt n a&&Jt m b)) (Ap (Sc (e==f)) rfl) rfl)))))
abbrev _root_.Go.Proofs.S1.Az.Dw.Kn:=A4 Tryz.prog 54 Az.Dw.spec
theorem Az.Dw.Ad (hk:Ax Tryz.prog Az.Dw.Ba) (h:∀ (n:Bool) (a:List Int) (e:Int) (m:Bool) (b:List Int) (f:Int),Az.Dw.pre [.b n,.l a,.i e,.b m,.l b,.i f]=true→Bc Az.Dw.E Tryz.f54 [.agg [.bool n,.ints .arg .u32 a,.int .i64 e],.agg [.bool m,.ints .arg .u32 b,.int .i64 f]] (Az.Dw.out [.b n,.l a,.i e,.b m,.l b,.i f])):Az.Dw.Kn :=
  Al (Ay hk _ _ _) Tryz.func54 (by kernel_rfl) (by kernel_rfl) h
end EqRefC
open EqRefC
def Ai4 (v e:Int):Option DV:=some (.agg [.bool (As v),.ints .arg .u32 (Ag v),.int .i64 e])
theorem wdy {drops:List Nat} {b:Bool} {l:List Int} {e:Int}:Wk drops (.agg [.bool b,.ints .arg .u32 l,.int .i64 e]) (.agg [.bool b,.ints .arg .u32 l,.int .i64 e]):=Wk.Ig (.cons .bool (.cons .Aa3 (.cons .int .nil)))
theorem Aij (v:Int):(Ag v).getD 0 0=((v.natAbs%4294967296:Nat):Int):=by
  have hg:=Mg (Fe v) 0
  rw [Dc,Nat.mul_zero,Nat.pow_zero,Nat.div_one] at hg
  exact hg
theorem Adf {v:Int} {k:Nat} (h:Da v.natAbs<268435456):Da (Iw v k).natAbs<268435456:=by
  rw [Jp]
  exact Nat.lt_of_le_of_lt (J7 (Nat.div_le_self _ _)) h
theorem Ag1 {v:Int} {k:Nat} (h0:v≠0) (h:v.natAbs%2^k=0):Iw v k≠0∧Rb (Iw v k).natAbs+k=Rb v.natAbs:=by
  have hv:=Nat.div_add_mod v.natAbs (2^k)
  rw [h,Nat.add_zero,Nat.mul_comm] at hv
  have hq:v.natAbs / 2^k≠0:=by
    intro e; rw [e] at hv; omega
  have ht:=Xa hq k
  rw [hv] at ht
  have ha:=Jp v k
  refine ⟨by omega,?_⟩
  rw [ha]
  omega
theorem Ahi (N:Nat):∀ (F:Nat) (v e:Int),v≠0→Rb v.natAbs<F→Da v.natAbs<268435456→-4000000000000≤e→e+Rb v.natAbs≤400000000000000 →
    Az.Of.L1 N F e (As v) (Ag v)=Ai4 (mD v) (eD v e):=by
  intro F
  induction F with
  | zero=>intro v e _ h; omega
  | succ F ih =>
    intro v e h0 hF hv h1 h2
    rw [Az.Of.Cb,Je hv,Aqy,Fy]
    by_cases ho:v%2=1
    · have:Aez v=true:=Aqz ho
      rw [this,Bool.not_true,Aq2,Anw ho,Aoc ho]
      rfl
    · have:Aez v=false:=Aq3 ho
      have hm:v.natAbs%2^1=0:=by rw [Nat.pow_one]; omega
      obtain ⟨n1,n2⟩:=Ag1 h0 hm
      rw [this,Bool.not_false,Aqy,Aqy,An (by omega) (by omega),ih (Iw v 1) (e+1) n1 (by omega) (Adf hv) (by omega) (by omega),Ahu hm]
      have:=Aiz (e:=e) hm h0
      rw [← this]
      rfl
theorem Ahj (N:Nat):∀ (F:Nat) (v e:Int),v≠0→Rb v.natAbs<F→Rb v.natAbs<N→Da v.natAbs<268435456→-4000000000000≤e→e+Rb v.natAbs≤400000000000000 →
    Az.Of.L0 N F e (As v) (Ag v)=Ai4 (mD v) (eD v e):=by
  intro F
  induction F with
  | zero=>intro v e _ h; omega
  | succ F ih =>
    intro v e h0 hF hN hv h1 h2
    have hl:=I8 (n:=v.natAbs) (by omega)
    rw [Az.Of.At,By,Aqz (by omega),Aqy,Aij]
    by_cases hz:v.natAbs%4294967296=0
    · have e0:(((v.natAbs%4294967296:Nat):Int)==0)=true:=by rw [hz]; rfl
      have o3:E6 ((Ag v).drop 1)=true:=H6 (by rw [List.length_drop,By]; omega) (Aan (Fe v))
      have hm:v.natAbs%2^32=0:=by rw [two32]; exact hz
      obtain ⟨n1,n2⟩:=Ag1 h0 hm
      rw [e0,Aqy,Aqz (by omega),Aqy,o3,Aqy,Ac7,An (by omega) (by omega),ih (Iw v 32) (e+32) n1 (by omega) (by omega) (Adf hv) (by omega) (by omega),Ahu hm]
      have:=Aiz (e:=e) hm h0
      rw [← this]
      rfl
    · have e0:(((v.natAbs%4294967296:Nat):Int)==0)=false:=by simp only [beq_eq_false_iff_ne,ne_eq]; omega
      rw [e0,Aq2]
      exact Ahi N N v e h0 hN hv h1 h2
theorem Agk {v:Int} (h0:v≠0) (h:Da v.natAbs<268435456):Rb v.natAbs<8589934592:=by
  have h1:=Amc (n:=v.natAbs) (by omega)
  have h2:=Afh (n:=v.natAbs)
  omega
theorem Az.Of.known:Az.Of.Kn:=Az.Of.Ad (.cons Ac.Ge.known (.cons Ac.Made.known (.cons Ac.Tl.known .nil))) fun n a e hp=>by
  obtain ⟨h1,h2⟩:=Af.1 hp
  obtain ⟨v,rfl,rfl,hv⟩:=H5 h1
  have h2:=Ao.1 h2
  by_cases h0:v=0
  · subst h0
    refine ⟨0,.agg [.bool false,.nil,.int .i64 (0:Int)],[],?_,?_⟩
    · rw [Az.Of.ev]; rfl
    · show Wk [] _ (.agg [.bool (As (mD (wv (As 0) (Ag 0)))),.ints .arg .u32 (Ag (mD (wv (As 0) (Ag 0)))),.int .i64 (eD (wv (As 0) (Ag 0)) e)])
      rw [Fy,Akz.2 rfl]
      exact Wk.Ig (.cons .bool (.cons (.nil _ _) (.cons .int .nil)))
  · refine ⟨Rb v.natAbs+1,Az.Of.out [.b (As v),.l (Ag v),.i e],[],?_,wdy⟩
    have ht:=Agk h0 hv
    have hl:=I8 (n:=v.natAbs) (by omega)
    have e0:(((Ag v).length:Int)==0)=false:=by rw [By]; simp only [beq_eq_false_iff_ne,ne_eq]; omega
    show _=Ai4 (mD (wv (As v) (Ag v))) (eD (wv (As v) (Ag v)) e)
    rw [Az.Of.ev,e0,Aq2,Fy]
    exact Ahj _ _ v e h0 (by omega) (by omega) hv (by omega) (by omega)
theorem Un (v:Int):(((Ag v).length:Int)==0)=decide (v=0):=by
  rw [By,Are]
  simp only [beq_iff_eq,Aq5]
  constructor
  · intro h
    rcases Int.lt_trichotomy v 0 with k | k | k
    · have:=I8 (n:=v.natAbs) (by omega); omega
    · exact k
    · have:=I8 (n:=v.natAbs) (by omega); omega
  · intro h; rw [h]; rfl
theorem Az.Tm.known:Az.Tm.Kn:=Az.Tm.Ad .nil fun n a e m b f hp=>by
  obtain ⟨h1,h2⟩:=Af.1 hp
  obtain ⟨v,rfl,rfl,hv⟩:=H5 h1
  obtain ⟨w,rfl,rfl,hw⟩:=H5 h2
  refine ⟨0,Az.Tm.out [.b (As v),.l (Ag v),.i e,.b (As w),.l (Ag w),.i f],[],?_,.int⟩
  show _=some (DV.int .i64 (C1 (wv (As v) (Ag v)) e (wv (As w) (Ag w)) f))
  rw [Az.Tm.ev,Fy,Fy,Un,Un]
  unfold C1
  by_cases h:v=0
  · rw [Aqz h,Aqy,if_pos h]
  · rw [Aq3 h,Aq2,if_neg h]
    by_cases h':w=0
    · rw [Aqz h',Aqy,if_pos h']
    · rw [Aq3 h',Aq2,if_neg h']
theorem Ag0 (k:Int):Gt 0 k=0:=by
  unfold Gt
  split
  · exact Int.zero_mul _
  · exact P8 _
theorem Az.Level.known:Az.Level.Kn:=Az.Level.Ad (.cons Ac.Bp.known .nil) fun n a e f hp=>by
  obtain ⟨h1,h2⟩:=Af.1 hp
  obtain ⟨v,rfl,rfl,hv⟩:=S9 h1
  refine ⟨0,Az.Level.out [.b (As v),.l (Ag v),.i e,.i f],[],?_,W6⟩
  show _=Abe (Gt (wv (As v) (Ag v)) (e-f))
  unfold Zz at h2
  rw [Fy] at h2
  obtain ⟨h3,h4⟩:=Af.1 h2
  have h3:=Ao.1 h3
  have h4:=Ao.1 h4
  rw [Az.Level.ev,Fy,Un]
  by_cases h:v=0
  · rw [Aqz h,Aqy,h,Ag0]; rfl
  · have o:Ans (Ab (e-f))=true:=by rw [An (by omega) (by omega)]; exact Ao.2 (by omega)
    rw [Aq3 h,Aq2,h1,o,Aq4,Aqy,An (by omega) (by omega)]
    rfl
theorem Ah8 (n k:Nat):Da (n*2^k)≤Da n+k:=by
  refine Jy ?_
  have h1:=Iy n
  have h2:n*2^k<2^(32*Da n)*2^k:=(Nat.mul_lt_mul_right (Cc k)).2 h1
  rw [← Nat.pow_add] at h2
  exact Nat.lt_of_lt_of_le h2 (Ard (by decide) (by omega))
theorem Ah9 (v k:Int):Da (Gt v k).natAbs≤Da v.natAbs+k.toNat:=by
  unfold Gt
  by_cases h:0≤k
  · rw [if_pos h,Int.natAbs_mul,Int.natAbs_natCast]
    exact Ah8 _ _
  · rw [if_neg h,Jp]
    exact Nat.le_trans (J7 (Nat.div_le_self _ _)) (Nat.le_add_right _ _)
theorem Ah7 (v w:Int):Da (v+w).natAbs≤max (Da v.natAbs) (Da w.natAbs)+1:=by
  refine Jy ?_
  have h1:=Iy v.natAbs
  have h2:=Iy w.natAbs
  have h3:2^(32*Da v.natAbs)≤2^(32*max (Da v.natAbs) (Da w.natAbs)):=Ard (by decide) (by omega)
  have h4:2^(32*Da w.natAbs)≤2^(32*max (Da v.natAbs) (Da w.natAbs)):=Ard (by decide) (by omega)
  rw [Jk]
  omega
theorem Acb {v e w f:Int} (he:-400000≤e∧e≤400000) (hf:-400000≤f∧f≤400000):-400000≤C1 v e w f∧C1 v e w f≤400000:=by
  unfold C1
  split
  · exact hf
  · split
    · exact he
    · omega
theorem Ade {v e l:Int} (hv:Da v.natAbs<134217728) (h:e-l≤800000):Da (Gt v (e-l)).natAbs<140000000:=by
  have:=Ah9 v (e-l)
  omega
theorem Az.Add.known:Az.Add.Kn:=Az.Add.Ad (.cons Ac.Add.known (.cons Az.Level.known (.cons Az.Tm.known (.cons Az.Of.known .nil)))) fun n a e m b f hp=>by
  obtain ⟨h1,hf⟩:=Af.1 hp
  obtain ⟨h2,he⟩:=Af.1 h1
  obtain ⟨h3,h4⟩:=Af.1 h2
  obtain ⟨v,rfl,rfl,hv⟩:=S9 h3
  obtain ⟨w,rfl,rfl,hw⟩:=S9 h4
  have he:=Ao.1 he
  have hf:=Ao.1 hf
  refine ⟨0,Az.Add.out [.b (As v),.l (Ag v),.i e,.b (As w),.l (Ag w),.i f],[],?_,wdy⟩
  show _=Ai4 (Aa9 (wv (As v) (Ag v)) e (wv (As w) (Ag w)) f) (Ajo (wv (As v) (Ag v)) e (wv (As w) (Ag w)) f)
  have hlo:=Acb (v:=v) (w:=w) he hf
  have l1:=Ade (l:=C1 v e w f) hv (show e-C1 v e w f≤800000 by omega)
  have l2:=Ade (l:=C1 v e w f) hw (show f-C1 v e w f≤800000 by omega)
  have l3:=Ah7 (Gt v (e-C1 v e w f)) (Gt w (f-C1 v e w f))
  have o1:Zz v e (C1 v e w f)=true:=Af.2 ⟨Ao.2 (by omega),Ao.2 (by omega)⟩
  have o2:Zz w f (C1 v e w f)=true:=Af.2 ⟨Ao.2 (by omega),Ao.2 (by omega)⟩
  have o3:Rr (C1 v e w f)=true:=Ao.2 (by omega)
  rw [Az.Add.ev]
  simp only [Fy]
  rw [Je (v:=v) (by omega),Je (v:=w) (by omega),h3,h4,o1,o2,Je (v:=Gt v (e-C1 v e w f)) (by omega),Je (v:=Gt w (f-C1 v e w f)) (by omega),Je (v:=Gt v (e-C1 v e w f)+Gt w (f-C1 v e w f)) (by omega),o3]
  simp only [Aq4,Aqy]
  rfl
theorem Az.Dw.known:Az.Dw.Kn:=Az.Dw.Ad (.cons Ac.Dw.known .nil) fun n a e m b f hp=>by
  have hp:(Jt n a&&Jt m b)=true:=hp
  refine ⟨0,Az.Dw.out [.b n,.l a,.i e,.b m,.l b,.i f],[],?_,.bool⟩
  show _=some (DV.bool (decide (e=f)&&Ty (wv n a) (wv m b)))
  rw [Az.Dw.ev,hp,Bool.or_true,Aqy]
  by_cases h:e=f
  · have e0:(e==f)=true:=by simp [h]
    rw [e0,Aqz h]; rfl
  · have e0:(e==f)=false:=by simp [h]
    rw [e0,Aq3 h]; rfl
open EqRefC
namespace EqRefE
def Bd.Value.Ba:List (Nat × Entry):=[(143,Ac.Neg.spec),(115,Ac.Of.spec),(109,Az.Of.spec),(141,Bd.J1.spec),(142,Bd.Neg.spec),(140,Bd.Power.spec)]
def Bd.Value.E:Env:=Bb (A9 Bd.Value.Ba) (fun _=>false) (fun _=>none) (fun _=>none)
theorem Bd.Value.ev (N:Nat) (x:Int):Bv Bd.Value.E N Tryz.f63 (Am Tryz.f63) [.int .u64 x]=bif (Xy x) then bif (Adu (Ab (Cd x))) then bif (Xy x) then bif (A1 0 (Kt x)) then bif (Xy x) then bif (Adu (Ab (A3 ((Cd x)+4503599627370496)))) then bif (Xy x) then bif (Ai x) then bif (Df x) then bif (Jt (As ((Ab (A3 ((Cd x)+4503599627370496))))) (Ag ((Ab (A3 ((Cd x)+4503599627370496)))))) then bif (Jt (As (- wv (As ((Ab (A3 ((Cd x)+4503599627370496))))) (Ag ((Ab (A3 ((Cd x)+4503599627370496))))))) (Ag (- wv (As ((Ab (A3 ((Cd x)+4503599627370496))))) (Ag ((Ab (A3 ((Cd x)+4503599627370496)))))))&&Rr (Ab ((Kt x)-1075))) then some (.agg [.bool (As (mD (wv (As (- wv (As ((Ab (A3 ((Cd x)+4503599627370496))))) (Ag ((Ab (A3 ((Cd x)+4503599627370496))))))) (Ag (- wv (As ((Ab (A3 ((Cd x)+4503599627370496))))) (Ag ((Ab (A3 ((Cd x)+4503599627370496)))))))))),.ints .arg .u32 (Ag (mD (wv (As (- wv (As ((Ab (A3 ((Cd x)+4503599627370496))))) (Ag ((Ab (A3 ((Cd x)+4503599627370496))))))) (Ag (- wv (As ((Ab (A3 ((Cd x)+4503599627370496))))) (Ag ((Ab (A3 ((Cd x)+4503599627370496)))))))))),.int .i64 (eD (wv (As (- wv (As ((Ab (A3 ((Cd x)+4503599627370496))))) (Ag ((Ab (A3 ((Cd x)+4503599627370496))))))) (Ag (- wv (As ((Ab (A3 ((Cd x)+4503599627370496))))) (Ag ((Ab (A3 ((Cd x)+4503599627370496)))))))) (Ab ((Kt x)-1075)))]) else none else none else bif (Jt (As ((Ab (A3 ((Cd x)+4503599627370496))))) (Ag ((Ab (A3 ((Cd x)+4503599627370496)))))&&Rr (Ab ((Kt x)-1075))) then some (.agg [.bool (As (mD (wv (As ((Ab (A3 ((Cd x)+4503599627370496))))) (Ag ((Ab (A3 ((Cd x)+4503599627370496)))))))),.ints .arg .u32 (Ag (mD (wv (As ((Ab (A3 ((Cd x)+4503599627370496))))) (Ag ((Ab (A3 ((Cd x)+4503599627370496)))))))),.int .i64 (eD (wv (As ((Ab (A3 ((Cd x)+4503599627370496))))) (Ag ((Ab (A3 ((Cd x)+4503599627370496)))))) (Ab ((Kt x)-1075)))]) else none else none else none else none else none else bif (Ai x) then bif (Df x) then bif (Jt (As ((Ab (Cd x)))) (Ag ((Ab (Cd x))))) then bif (Jt (As (- wv (As ((Ab (Cd x)))) (Ag ((Ab (Cd x)))))) (Ag (- wv (As ((Ab (Cd x)))) (Ag ((Ab (Cd x))))))&&Rr (-1074:Int)) then some (.agg [.bool (As (mD (wv (As (- wv (As ((Ab (Cd x)))) (Ag ((Ab (Cd x)))))) (Ag (- wv (As ((Ab (Cd x)))) (Ag ((Ab (Cd x))))))))),.ints .arg .u32 (Ag (mD (wv (As (- wv (As ((Ab (Cd x)))) (Ag ((Ab (Cd x)))))) (Ag (- wv (As ((Ab (Cd x)))) (Ag ((Ab (Cd x))))))))),.int .i64 (eD (wv (As (- wv (As ((Ab (Cd x)))) (Ag ((Ab (Cd x)))))) (Ag (- wv (As ((Ab (Cd x)))) (Ag ((Ab (Cd x))))))) (-1074:Int))]) else none else none else bif (Jt (As ((Ab (Cd x)))) (Ag ((Ab (Cd x))))&&Rr (-1074:Int)) then some (.agg [.bool (As (mD (wv (As ((Ab (Cd x)))) (Ag ((Ab (Cd x))))))),.ints .arg .u32 (Ag (mD (wv (As ((Ab (Cd x)))) (Ag ((Ab (Cd x))))))),.int .i64 (eD (wv (As ((Ab (Cd x)))) (Ag ((Ab (Cd x))))) (-1074:Int))]) else none else none else none else none else none:=by kernel_rfl
abbrev _root_.Go.Proofs.S1.Bd.Value.Kn:=A4 Tryz.prog 63 Bd.Value.spec
theorem Bd.Value.Ad (hk:Ax Tryz.prog Bd.Value.Ba) (h:∀ (x:Int),Bd.Value.pre [.i x]=true→Bc Bd.Value.E Tryz.f63 [.int .u64 x] (Bd.Value.out [.i x])):Bd.Value.Kn :=
  Al (Ay hk _ _ _) Tryz.func63 (by kernel_rfl) (by kernel_rfl) h
end EqRefE
open EqRefE
theorem X7 {n k:Nat} (h:n<2^(32*k)) {m:Nat} (hk:k<m):Da n<m:=Nat.lt_of_le_of_lt (Jy h) hk
theorem P9 (m:Nat):Ih false m=(m:Int):=rfl
theorem Zl (m:Nat):Ih true m=-(m:Int):=rfl
theorem Bd.Value.known:Bd.Value.Kn:=Bd.Value.Ad (.cons Ac.Neg.known (.cons Ac.Of.known (.cons Az.Of.known (.cons Bd.J1.known (.cons Bd.Neg.known (.cons Bd.Power.known .nil)))))) fun x hp=>by
  obtain ⟨n,rfl,hn⟩:=Bt (x:=x) hp
  refine ⟨0,Bd.Value.out [.i n],[],?_,wdy⟩
  show _=Ai4 (mD (A7 n)) (eD (A7 n) (Aw n))
  have hf:=Q2 n
  have hw:=Js n
  have small:∀ k:Nat,k<2^54→Da k<268435456:=fun k hk=>X7 (k:=2) (Nat.lt_trans hk (by decide)) (by omega)
  have o1:∀ k:Nat,k<2^54→Jt (As (k:Int)) (Ag (k:Int))=true:=fun k hk=>Je (by rw [Int.natAbs_natCast]; exact small k hk)
  have o2:∀ k:Nat,k<2^54→Jt (As (-(k:Int))) (Ag (-(k:Int)))=true:=fun k hk=>Je (by rw [Int.natAbs_neg,Int.natAbs_natCast]; exact small k hk)
  rw [Bd.Value.ev]
  unfold Cd Kt Df A7 Aw
  simp only [Fy,Aq0]
  have e1:Ab ((Ft n:Nat):Int)=((Ft n:Nat):Int):=An (by omega) (by omega)
  have e2:Ab (A3 (((Ft n:Nat):Int)+4503599627370496))=((Ft n+2^52:Nat):Int):=by
    rw [Cg (by omega) (by omega),An (by omega) (by omega)]; omega
  have i1:∀ k:Nat,k<2^54→Adu (k:Int)=true:=fun k hk=>Ao.2 (by omega)
  rw [Z0,B1 hn,e1,e2,i1 _ (by omega),i1 _ (by omega),Ar,An (by omega) (by omega)]
  simp only [Aqy]
  unfold Av Be
  by_cases h:G7 n=0
  · have o3:Rr (-1074)=true:=Ao.2 (by omega)
    rw [if_pos h,if_pos h,Aq3 (by omega),Aq2,o1 _ (by omega),o2 _ (by omega),o3]
    cases D4 n
    · rw [Aq2,P9]; rfl
    · rw [Aqy,Zl]; rfl
  · have o3:Rr ((G7 n:Int)-1075)=true:=Ao.2 (by omega)
    rw [if_neg h,if_neg h,Aqz (by omega),Aqy,o1 _ (by omega),o2 _ (by omega),o3]
    cases D4 n
    · rw [Aq2,P9]; rfl
    · rw [Aqy,Zl]; rfl
theorem To {m t:Nat} (h:m<2^t) (h0:m≠0):Rb m<t:=Nat.lt_of_le_of_lt (Amc h0) ((Nat.log2_lt h0).2 h)
theorem W7 (b:Nat):(A7 (b:Int)).natAbs=Av b:=by
  unfold A7 Ih
  rw [Aq0]
  split<;>omega
theorem Amu (b:Nat):Da (A7 (b:Int)).natAbs<3∧-400000≤eD (A7 (b:Int)) (Be b)∧eD (A7 (b:Int)) (Be b)≤400000:=by
  have hm:=Ek b
  have he:=Eb b
  have ha:=W7 b
  refine ⟨X7 (k:=2) (by rw [ha]; exact Nat.lt_trans hm (by decide)) (by omega),?_⟩
  unfold eD
  by_cases h:A7 (b:Int)=0
  · rw [if_pos h]; omega
  · rw [if_neg h]
    have:=To (m:=(A7 (b:Int)).natAbs) (t:=53) (by rw [ha]; exact hm) (by omega)
    omega
theorem X2 {r:Nat} (h:r<2^63):Dd r=((2^63+r:Nat):Int):=by
  unfold Dd; rw [Aq0,Ue h]
theorem Kw {r:Nat} (h:r<2^63) (n:Bool):(bif n then (bif (Ai (r:Int)) then some (DV.int .u64 (Dd r)) else none) else some (DV.int .u64 r))=some (DV.int .u64 ((Co n r:Nat):Int)):=by
  cases n
  · rfl
  · rw [B1 (by omega),X2 h]; rfl
theorem Lp (n:Bool) (m:Nat) (e:Int):Qk n m e=((Co n (Ch m e):Nat):Int):=by
  unfold Qk; rw [Aq0]
theorem Ab0 {E M:Nat} (h1:1≤E) (h2:E≤2046) (h3:4503599627370496≤M) (h4:M<9007199254740992):E*2^52+M%2^52=min ((E-1)*2^52+M) G8:=by
  obtain ⟨k,rfl⟩:∃ k,E=k+1:=⟨E-1,by omega⟩
  obtain ⟨r,rfl⟩:∃ r,M=2^52+r:=⟨M-2^52,by omega⟩
  have hr:r<2^52:=by omega
  have hm:(2^52+r)%2^52=r:=by rw [Nat.add_mod_left,Arb hr]
  have hk:k*2^52≤2045*2^52:=Ara _ (by omega)
  have hi:G8=2045*2^52+2^52+2^52:=by unfold G8; rfl
  rw [hm,Nat.add_sub_cancel,Nat.succ_mul,hi]
  generalize 2^52=c at *
  omega
theorem soft.Pack.known:soft.Pack.Kn:=EqSoft.soft.Pack.Ad (.cons soft.Fc.known .nil) fun rk n m e hp hr=>by
  have hp:=Ao.1 (show Ix m e=true from hp)
  have hr:L9 m e<rk+1:=hr
  obtain ⟨m0,m1,e0,e1⟩:=hp
  obtain ⟨M,rfl⟩:∃ M:Nat,m=M:=⟨m.toNat,by omega⟩
  refine ⟨0,soft.Pack.out [.b n,.i M,.i e],[],?_,.int⟩
  rw [EqSoft.soft.Pack.ev]
  show _=some (DV.int .u64 (Qk n M e))
  rw [Lp]
  unfold L9 at hr
  by_cases h0:M=0
  · subst h0
    have:=Kw (r:=0) (by decide) n
    have e0:Ch 0 e=0:=rfl
    rw [e0]
    simpa using this
  · have b0:((M:Int)==0)=false:=by simp; omega
    rw [b0,Aq2]
    by_cases h1:M=9007199254740992
    · have b1:Dk (9007199254740992:Int) (M:Int)=true:=by rw [D7]; simp; omega
      have s1:Cv .u64 (M:Int) (1:Int)=((2^52:Nat):Int):=by
        rw [show (1:Int)=((1:Nat):Int) from rfl,Ga .u64 M 1 (by decide),h1]
      have w1:Ab (e+1)=e+1:=An (by omega) (by omega)
      rw [if_pos (by omega)] at hr
      have p1:Ix ((2^52:Nat):Int) (e+1)=true:=Ao.2 (by omega)
      have p2:Cn (L9 ((2^52:Nat):Int) (e+1)<rk)=true:=Ao.2 (by
        unfold L9
        rw [if_neg (by omega),if_neg (by omega)]; omega)
      rw [b1,s1,w1,p1,p2,Lp,h1]
      have:=(Ei (2^52) 1 (e+1)).1
      have e2:e+1-((1:Nat):Int)=e:=by omega
      rw [e2] at this
      rw [← this]; rfl
    · have b1:Dk (9007199254740992:Int) (M:Int)=false:=by rw [D7]; simp; omega
      rw [b1,Aq2]
      rw [if_neg (by omega)] at hr
      by_cases h2:M<4503599627370496
      · have b2:A1 (M:Int) (4503599627370496:Int)=true:=by rw [Ar]; simp; omega
        rw [if_pos (by omega)] at hr
        by_cases h3:e=-1074
        · subst h3
          have b3:A1 (-1074:Int) (-1074)=false:=by decide
          rw [b2,b3,Bool.true_and,Aq2,Aqy,Zn h2]
          exact Kw (by omega) n
        · have b3:A1 (-1074:Int) e=true:=by rw [Ar]; simp; omega
          have s1:Bn .u64 (M:Int) (1:Int)=((M*2^1:Nat):Int):=by
            rw [show (1:Int)=((1:Nat):Int) from rfl,Em M 1 (by decide),Arb (by omega)]
          have w1:Ab (e-1)=e-1:=An (by omega) (by omega)
          have p1:Ix ((M*2^1:Nat):Int) (e-1)=true:=Ao.2 (by omega)
          have p2:Cn (L9 ((M*2^1:Nat):Int) (e-1)<rk)=true:=Ao.2 (by
            unfold L9
            rw [if_neg (by omega)]
            split<;>omega)
          rw [b2,b3,s1,w1,p1,p2,Lp]
          have:=(Ei M 1 e).1
          have e2:e-((1:Nat):Int)=e-1:=by omega
          rw [e2] at this
          rw [this]; rfl
      · have b2:A1 (M:Int) (4503599627370496:Int)=false:=by rw [Ar]; simp; omega
        have w1:Ab (e+1075)=e+1075:=An (by omega) (by omega)
        rw [b2,w1,Bool.false_and,Aq2,Aq2]
        have hr:=Rl (m:=M) (e:=e) (by omega) (by omega) e0
        by_cases h4:2047≤e+1075
        · have b4:Dk (2047:Int) (e+1075)=true:=by rw [D7]; simp; omega
          have:Ch M e=9218868437227405312:=by rw [hr,Qy]; omega
          rw [b4,this,Aqy]
          exact Kw (r:=9218868437227405312) (by decide) n
        · have b4:Dk (2047:Int) (e+1075)=false:=by rw [D7]; simp; omega
          obtain ⟨E,hE⟩:∃ E:Nat,e+1075=E:=⟨(e+1075).toNat,by omega⟩
          have s1:Ha .u64 (Bn .u64 (A3 (e+1075)) (52:Int)) (E9 .u64 (M:Int) (4503599627370495:Int))=((Ch M e:Nat):Int):=by
            rw [hE,Cg (by omega) (by omega),show (52:Int)=((52:Nat):Int) from rfl,Em E 52 (by decide),Arb (by omega),
              show (4503599627370495:Int)=((2^52-1:Nat):Int) from rfl,G0 52 (by omega) (by decide),Km (by omega) (by omega)]
            have hE2:(e+1074).toNat=E-1:=by omega
            have hE3:1≤E∧E≤2046:=by omega
            have hM:4503599627370496≤M∧M<9007199254740992:=by omega
            rw [hr,hE2]
            exact congrArg (fun (x:Nat)=>(x:Int)) (Ab0 hE3.1 hE3.2 hM.1 hM.2)
          rw [b4,s1,Aq2]
          exact Kw (S6 M e) n
open EqSoft
theorem Agn {D:Nat} (h:D≤63):2^D<2^64:=Nat.pow_lt_pow_right (by decide) (by omega)
theorem Mq (n:Bool) {r:Nat} (h:r<2^63):Mn .u64 ((Co n r:Nat):Int) (9223372036854775808:Int)=(r:Int):=by
  have hs:Co n r<2^64:=by unfold Co; split<;>omega
  unfold Mn
  rw [show (9223372036854775808:Int)=((2^63:Nat):Int) from rfl,BitVec.toNat_and,BitVec.toNat_not,Hq,Hq,show IntKind.u64.bits=64 from rfl,Arb hs,
    show 2^64-1-2^63%2^64=2^63-1 by decide,Nat.and_two_pow_sub_one_eq_mod]
  have:Co n r%2^63=r:=by unfold Co; cases n<;>simp<;>omega
  rw [this]
  exact S3 (by omega)
theorem Ab5 (N:Nat) (ex n:Bool) {r:Nat} (h:r≤G8):soft.Cr.C18 N ex ((Co n r:Nat):Int)=some (.tup [.int .u64 ((Co n r:Nat):Int),.int .u8 ((flags r ex:Nat):Int)]):=by
  have h63:r<2^63:=by rw [Qy] at h; omega
  have hs:Co n r<2^64:=by unfold Co; split<;>omega
  rw [soft.Cr.Aoj,Mq n h63,B1 hs]
  unfold A8 flags
  rw [Aq0,Afk n h]
  have hinf:(((r:Nat):Int)==(9218868437227405312:Int))=decide (r=G8):=by
    rw [Qy,Are]; simp; omega
  rw [hinf]
  by_cases h1:r=G8
  · simp [h1]
  · by_cases h2:2^52≤r
    · cases ex<;>simp [h1]<;>simp [show 4503599627370496≤r by omega]
    · by_cases h3:0<r
      · cases ex<;>simp [h1,h3]<;>simp [show ¬ 4503599627370496≤r by omega]
      · cases ex<;>simp [h1,h3]<;>simp [show ¬ 4503599627370496≤r by omega]
theorem Ae6 (N:Nat) (n:Bool) {m:Nat} {e:Int} (he:-1140≤e∧e≤50000) (r:Bool):∀ (k d F:Nat),d+k=62→k<F→(∀ d',d'<d→2^53≤m / 2^d'∨e+d' < -1074) →
    ∃ D:Nat,soft.Cr.L0 N F n m e r (d:Int)=soft.Cr.C7 N n m e r (D:Int)∧Drop m e D:=by
  intro k
  induction k with
  | zero =>
    intro d F hd hF hl
    obtain ⟨F,rfl⟩:∃ G,F=G+1:=⟨F-1,by omega⟩
    obtain rfl:d=62:=by omega
    rw [soft.Cr.At,Ga .u64 m 62 (by decide),An (by omega) (by omega),An (by omega) (by omega),D7,Ar]
    have a0:decide ((0:Int)≤((62:Nat):Int))=true:=by decide
    have a1:((((62:Nat):Int)+1)==63)=true:=by decide
    rw [a0,Aqy,a1,Aqy]
    by_cases h:2^53≤m / 2^62∨e+(62:Nat) < -1074
    · refine ⟨63,?_,by omega,by omega,fun d' hd'=>?_⟩
      · have:(decide ((9007199254740992:Int)≤((m / 2^62:Nat):Int))||decide (e+((62:Nat):Int) < -1074))=true:=by
          simp only [Bool.or_eq_true,Aq5]; omega
        rw [this]; rfl
      · rcases Nat.lt_or_ge d' 62 with h' | h'
        · exact hl d' h'
        · obtain rfl:d'=62:=by omega
          exact h
    · refine ⟨62,?_,by omega,fun _=>by omega,hl⟩
      have:(decide ((9007199254740992:Int)≤((m / 2^62:Nat):Int))||decide (e+((62:Nat):Int) < -1074))=false:=by
        simp only [Bool.or_eq_false_iff,Ari]; omega
      rw [this]; rfl
  | succ k ih =>
    intro d F hd hF hl
    obtain ⟨F,rfl⟩:∃ G,F=G+1:=⟨F-1,by omega⟩
    rw [soft.Cr.At,Ga .u64 m d (by show d≤64; omega),An (by omega) (by omega),An (by omega) (by omega),D7,Ar]
    have a0:decide ((0:Int)≤(d:Int))=true:=by simp
    have a1:(((d:Int)+1)==63)=false:=by simp; omega
    rw [a0,Aqy,a1,Aq2]
    by_cases h:2^53≤m / 2^d∨e+d < -1074
    · have:(decide ((9007199254740992:Int)≤((m / 2^d:Nat):Int))||decide (e+(d:Int) < -1074))=true:=by
        simp only [Bool.or_eq_true,Aq5]; omega
      rw [this,Aqy,show (d:Int)+1=((d+1:Nat):Int) by omega]
      refine ih (d+1) F (by omega) (by omega) fun d' hd'=>?_
      rcases Nat.lt_or_ge d' d with h' | h'
      · exact hl d' h'
      · obtain rfl:d'=d:=by omega
        exact h
    · refine ⟨d,?_,by omega,fun _=>by omega,hl⟩
      have:(decide ((9007199254740992:Int)≤((m / 2^d:Nat):Int))||decide (e+(d:Int) < -1074))=false:=by
        simp only [Bool.or_eq_false_iff,Ari]; omega
      rw [this]; rfl
theorem Ae5 (N:Nat) (n:Bool) {m D:Nat} (hm:m<2^64) {e:Int} (he:-1140≤e∧e≤50000) (r:Bool) (hD:D≤63) (hq:(if e+D < -1074 then 0 else Zv m D r.toNat)≤2^53) :
    soft.Cr.C7 N n m e r (D:Int)=soft.Cr.C18 N (decide (m%2^D=0∧r.toNat=0)) ((Co n (Ch (if e+D < -1074 then 0 else Zv m D r.toNat) (max (e+D) (-1074))):Nat):Int):=by
  have hA:=Cc D
  have h2D:=Agn hD
  have hr:=Nat.mod_lt m hA
  have hqm:m / 2^D≤m:=Nat.div_le_self _ _
  rw [soft.Cr.Ajs]
  have a0:decide ((0:Int)≤(D:Int))=true:=by simp
  have e1:Cv .u64 (m:Int) (D:Int)=((m / 2^D:Nat):Int):=Ga .u64 m D (by show D≤64; omega)
  have e2:Bn .u64 (1:Int) (D:Int)=((2^D:Nat):Int):=by
    rw [show (1:Int)=((1:Nat):Int) from rfl,Em 1 D (by omega),Nat.one_mul,Arb h2D]
  have e3:E9 .u64 (m:Int) (A3 (Bn .u64 (1:Int) (D:Int)-(1:Int)))=((m%2^D:Nat):Int):=by
    rw [e2,Cg (by omega) (by omega),show ((2^D:Nat):Int)-1=((2^D-1:Nat):Int) by omega,G0 D hm (by omega)]
  have e5:(bif (((m%2^D:Nat):Int)==(0:Int)) then (!r) else false)=decide (m%2^D=0∧r.toNat=0):=by
    by_cases h:m%2^D=0
    · cases r<;>simp [h]
    · have:(((m%2^D:Nat):Int)==(0:Int))=false:=by simp only [beq_eq_false_iff_ne,ne_eq]; omega
      rw [this]; simp [h]
  rw [a0,Aqy,Aqy,e1,e3,e5,Ar]
  have last:∀ (p:Bool) (q:Nat),q≤2^64-1→(if e+D < -1074 then 0 else q)≤2^53→soft.Cr.C14 N n e (D:Int) ((q:Nat):Int) p=soft.Cr.C18 N p ((Co n (Ch (if e+D < -1074 then 0 else q) (max (e+D) (-1074))):Nat):Int):=by
    intro p q hq hq2
    rw [soft.Cr.Ve,An (by omega) (by omega),Ar]
    have c16:∀ q':Nat,q'≤2^53→soft.Cr.C16 N n e (q':Int) (D:Int) p=soft.Cr.C18 N p ((Co n (Ch q' (max (e+D) (-1074))):Nat):Int):=by
      intro q' hq'
      rw [soft.Cr.Aol,An (by omega) (by omega)]
      have:Ix (q':Int) (max (e+(D:Int)) (-1074))=true:=Ao.2 (by omega)
      rw [this,Lp]; rfl
    by_cases h:e+D < -1074
    · rw [if_pos h] at hq2 ⊢
      have:decide (e+(D:Int) < -1074)=true:=by simpa using h
      rw [this]
      exact c16 0 hq2
    · rw [if_neg h] at hq2 ⊢
      have:decide (e+(D:Int) < -1074)=false:=by simpa using h
      rw [this]
      exact c16 q hq2
  have up:∀ (half:Nat) (hh:0<D→half=2^(D-1)) (p:Bool),soft.Cr.C12 N n e r (D:Int) ((m / 2^D:Nat):Int) ((m%2^D:Nat):Int) (half:Int) p=soft.Cr.C18 N p ((Co n (Ch (if e+D < -1074 then 0 else Zv m D r.toNat) (max (e+D) (-1074))):Nat):Int):=by
    intro half hh p
    rw [soft.Cr.Vf,Ar,Ar]
    have odd:(E9 .u64 ((m / 2^D:Nat):Int) (1:Int)==(1:Int))=decide (m / 2^D%2=1):=by
      rw [show (1:Int)=((2^1-1:Nat):Int) from rfl,G0 1 (by omega) (by decide),Are]
      simp only [beq_iff_eq,Aq5]
      omega
    rw [odd]
    have test:(decide ((0:Int)<(D:Int))&&(decide ((half:Int)<((m%2^D:Nat):Int))||((((m%2^D:Nat):Int)==(half:Int))&&(r||decide (m / 2^D%2=1))))) =
        decide (0<D∧(2^(D-1)<m%2^D∨(m%2^D=2^(D-1)∧(r.toNat=1∨m / 2^D%2=1)))):=by
      rw [Are]
      generalize m%2^D=rr
      generalize m / 2^D=qq
      generalize hg:2^(D-1)=gg at hh
      by_cases h0:0<D
      · have:=hh h0
        subst this
        cases r<;>simp [h0]<;>omega
      · simp [h0]
    rw [test]
    by_cases ht:0<D∧(2^(D-1)<m%2^D∨(m%2^D=2^(D-1)∧(r.toNat=1∨m / 2^D%2=1)))
    · have hq1:Zv m D r.toNat=m / 2^D+1:=by unfold Zv; rw [if_pos ht]
      have hlt:m / 2^D+1<2^64:=by
        obtain ⟨d,rfl⟩:∃ d,D=d+1:=⟨D-1,by omega⟩
        have h1:m / 2^(d+1)≤m / 2:=Nat.div_le_div_left (by rw [Nat.pow_succ]; have:=Cc d; omega) (by decide)
        omega
      rw [hq1] at hq ⊢
      rw [Aqz ht,Aqy,Cg (by omega) (by omega),show ((m / 2^D:Nat):Int)+1=((m / 2^D+1:Nat):Int) by omega]
      exact last p _ (by omega) hq
    · have hq1:Zv m D r.toNat=m / 2^D:=by unfold Zv; rw [if_neg ht]; rfl
      rw [hq1] at hq ⊢
      rw [Aq3 ht,Aq2]
      exact last p _ (by omega) hq
  rcases Nat.eq_zero_or_pos D with rfl | hpos
  · have:decide ((0:Int)<((0:Nat):Int))=false:=by decide
    rw [this,Aq2]
    exact up 0 (fun h=>absurd h (by omega)) _
  · have h1:decide ((0:Int)<(D:Int))=true:=by simpa using hpos
    have h2:Ab ((D:Int)-1)=((D-1:Nat):Int):=by rw [An (by omega) (by omega)]; omega
    have h3:decide ((0:Int)≤((D-1:Nat):Int))=true:=by simp
    have h4:Bn .u64 (1:Int) ((D-1:Nat):Int)=((2^(D-1):Nat):Int):=by
      rw [show (1:Int)=((1:Nat):Int) from rfl,Em 1 (D-1) (by omega),Nat.one_mul,Arb (Agn (by omega))]
    rw [h1,Aqy,h2,h3,Aqy,h4]
    exact up _ (fun _=>rfl) _
theorem soft.Cr.known:soft.Cr.Kn:=soft.Cr.Ad (.cons soft.Kind.known (.cons soft.Pack.known .nil)) fun n m e r hp=>by
  obtain ⟨m0,m1,e1,e2,hr⟩:=Ao.1 (show Di m e r=true from hp)
  obtain ⟨M,rfl⟩:∃ M:Nat,m=M:=⟨m.toNat,by omega⟩
  refine ⟨63,soft.Cr.out [.b n,.i M,.i e,.b r],[],?_,Wk.Gd (.cons .int (.cons .int .nil))⟩
  show _=some (DV.tup [.int .u64 (D0 n M e r),.int .u8 (Dz n M e r)])
  unfold D0 Dz Fb
  rw [Aq0,soft.Cr.ev]
  dsimp only
  by_cases h0:M=0∧r=false
  · obtain ⟨rfl,rfl⟩:=h0
    have:Ix (0:Int) (-1074)=true:=Ao.2 (by omega)
    have hp0:=Lp n 0 (-1074)
    rw [this]
    simp only [Bool.not_false,Bool.and_true,Aqy,Bool.toNat_false]
    have hz:(((0:Nat):Int)==0)=true:=rfl
    rw [hz,Aqy]
    have hp0:Qk n (0:Int) (-1074)=((Co n (Ch 0 (-1074)):Nat):Int):=hp0
    have z:∀ E,Ch 0 E=0:=fun E=>if_pos rfl
    have z3:∀ E,flagsOf 0 E=0:=fun E=>if_pos rfl
    rw [hp0,z,show 4*0+0=0 from rfl,z,z3]
    rfl
  · have hc:((((M:Nat):Int)==(0:Int))&&!r)=false:=by
      cases r
      · have:M≠0:=fun h=>h0 ⟨h,rfl⟩
        simp; omega
      · simp
    rw [hc,Aq2]
    have he:-1140≤e∧e≤50000:=by omega
    obtain ⟨D,hl,hD⟩:=Ae6 63 n (m:=M) he r 62 0 63 (by omega) (by omega) (fun d' h=>by omega)
    have hs:r.toNat≤1:=by cases r<;>decide
    have hV:4*M+r.toNat≠0:=by
      intro h
      refine h0 ⟨by omega,?_⟩
      cases r
      · rfl
      · simp at h
    obtain ⟨t1,t2,t3⟩:=Ae8 hD hs hV (by omega) (by omega) (fun h=>by
      have:r=true:=by cases r<;>simp_all
      have:=hr this
      omega)
    have hl:soft.Cr.L0 63 63 n (M:Int) e r (0:Int)=soft.Cr.C7 63 n (M:Int) e r (D:Int):=hl
    rw [hl,Ae5 63 n (by omega) he r hD.le t3,← t1,Ab5 63 _ n (Adg _ _),t2]
namespace EqSum
def sum.right.Ba:List (Nat × Entry):=[]
def sum.right.E:Env:=Bb (A9 sum.right.Ba) (fun _=>false) (fun _=>none) (fun _=>none)
theorem sum.right.ev (N:Nat) (m d:Int):Bv sum.right.E N Tryz.f249 (Am Tryz.f249) [.int .u64 m,.int .i64 d]=bif (A1 63 d) then bif ((Bn .u64 (Cv .u64 m 63) 63) !=m) then some (.int .u64 (Ha .u64 (Cv .u64 m 63) 1)) else some (.int .u64 (Cv .u64 m 63)) else bif (decide (0≤d)) then bif (decide (0≤d)) then bif ((Bn .u64 (Cv .u64 m d) d) !=m) then some (.int .u64 (Ha .u64 (Cv .u64 m d) 1)) else some (.int .u64 (Cv .u64 m d)) else none else none:=by kernel_rfl
abbrev _root_.Go.Proofs.S1.sum.right.Kn:=A4 Tryz.prog 249 sum.right.spec
theorem sum.right.Ad (hk:Ax Tryz.prog sum.right.Ba) (h:∀ (m d:Int),sum.right.pre [.i m,.i d]=true→Bc sum.right.E Tryz.f249 [.int .u64 m,.int .i64 d] (sum.right.out [.i m,.i d])):sum.right.Kn :=
  Al (Ay hk _ _ _) Tryz.func249 (by kernel_rfl) (by kernel_rfl) h
def sum.Dt.Ba:List (Nat × Entry):=[(148,soft.Finite.spec),(155,soft.Kind.spec)]
def sum.Dt.E:Env:=Bb (A9 sum.Dt.Ba) (fun _=>false) (fun _=>none) (fun _=>none)
theorem sum.Dt.ev (N:Nat) (a b:Int):Bv sum.Dt.E N Tryz.f248 (Am Tryz.f248) [.int .u64 a,.int .u64 b]=bif (Ai a) then bif ((A8 a)==(4:Int)) then some (.tup [.int .u64 9221120237041090560,.int .u8 0]) else bif (Ai b) then bif ((A8 b)==(4:Int)) then some (.tup [.int .u64 9221120237041090560,.int .u8 0]) else bif (Ai a) then bif (C9 a) then some (.tup [.int .u64 b,.int .u8 0]) else bif (Ai b) then bif ((C9 b)||(a==b)) then some (.tup [.int .u64 a,.int .u8 0]) else some (.tup [.int .u64 9221120237041090560,.int .u8 16]) else none else none else none else none :=
  Eq.trans (by kernel_rfl)
  (E2 (E2 rfl (E2 (E2 rfl (E2 (E2 rfl (E2 (Ap (Tq (C9 b)) (Ap (Tq (C9 b)) (Ap (tt8 (C9 b)) (Ap (Y8 (C9 b)) (Cy (tt5 (C9 b) (a==b)) rfl rfl))))) rfl)) rfl)) rfl)) rfl)
abbrev _root_.Go.Proofs.S1.sum.Dt.Kn:=A4 Tryz.prog 248 sum.Dt.spec
theorem sum.Dt.Ad (hk:Ax Tryz.prog sum.Dt.Ba) (h:∀ (a b:Int),sum.Dt.pre [.i a,.i b]=true→Bc sum.Dt.E Tryz.f248 [.int .u64 a,.int .u64 b] (sum.Dt.out [.i a,.i b])):sum.Dt.Kn :=
  Al (Ay hk _ _ _) Tryz.func248 (by kernel_rfl) (by kernel_rfl) h
def sum.Add.Ba:List (Nat × Entry):=[(148,soft.Finite.spec),(212,soft.Cr.spec),(211,soft.E4.spec),(213,soft.Sign.spec),(249,sum.right.spec),(248,sum.Dt.spec)]
def sum.Add.E:Env:=Bb (A9 sum.Add.Ba) (fun _=>false) (fun _=>none) (fun _=>none)
theorem sum.Add.ev (N:Nat) (a b:Int):Bv sum.Add.E N Tryz.f232 (Am Tryz.f232) [.int .u64 a,.int .u64 b]=bif (Ai a) then bif ((!(C9 a))||(Ai b)) then bif ((!(C9 a))||(!(C9 b))) then bif ((Ai a&&Ai b)&&(!(C9 a)||!(C9 b))) then some (.tup [.int .u64 (Jn a b),.int .u8 (Sv a b)]) else none else bif (Ai a) then bif (Ai b) then bif (Ai a) then bif (Ai b) then bif (A1 (Aw a) (Aw b)) then bif (Ai (Bn .u64 (Bg a) 9)&&Cn (0≤(Ab ((Aw b)-(Aw a)))∧(Ab ((Aw b)-(Aw a)))<1000000)) then bif ((Df b)==(Df a)) then bif (Di (A3 ((Bn .u64 (Bg b) 9)+(D9 (Bn .u64 (Bg a) 9) (Ab ((Aw b)-(Aw a)))))) (Ab ((Aw b)-9)) false) then some (.tup [.int .u64 (D0 (Df b) (A3 ((Bn .u64 (Bg b) 9)+(D9 (Bn .u64 (Bg a) 9) (Ab ((Aw b)-(Aw a)))))) (Ab ((Aw b)-9)) false),.int .u8 (Dz (Df b) (A3 ((Bn .u64 (Bg b) 9)+(D9 (Bn .u64 (Bg a) 9) (Ab ((Aw b)-(Aw a)))))) (Ab ((Aw b)-9)) false)]) else none else bif (A1 (D9 (Bn .u64 (Bg a) 9) (Ab ((Aw b)-(Aw a)))) (Bn .u64 (Bg b) 9)) then bif (Di (A3 ((Bn .u64 (Bg b) 9)-(D9 (Bn .u64 (Bg a) 9) (Ab ((Aw b)-(Aw a)))))) (Ab ((Aw b)-9)) false) then some (.tup [.int .u64 (D0 (Df b) (A3 ((Bn .u64 (Bg b) 9)-(D9 (Bn .u64 (Bg a) 9) (Ab ((Aw b)-(Aw a)))))) (Ab ((Aw b)-9)) false),.int .u8 (Dz (Df b) (A3 ((Bn .u64 (Bg b) 9)-(D9 (Bn .u64 (Bg a) 9) (Ab ((Aw b)-(Aw a)))))) (Ab ((Aw b)-9)) false)]) else none else bif (A1 (Bn .u64 (Bg b) 9) (D9 (Bn .u64 (Bg a) 9) (Ab ((Aw b)-(Aw a))))) then bif (Di (A3 ((D9 (Bn .u64 (Bg a) 9) (Ab ((Aw b)-(Aw a))))-(Bn .u64 (Bg b) 9))) (Ab ((Aw b)-9)) false) then some (.tup [.int .u64 (D0 (Df a) (A3 ((D9 (Bn .u64 (Bg a) 9) (Ab ((Aw b)-(Aw a))))-(Bn .u64 (Bg b) 9))) (Ab ((Aw b)-9)) false),.int .u8 (Dz (Df a) (A3 ((D9 (Bn .u64 (Bg a) 9) (Ab ((Aw b)-(Aw a))))-(Bn .u64 (Bg b) 9))) (Ab ((Aw b)-9)) false)]) else none else some (.tup [.int .u64 0,.int .u8 0]) else none else bif (Ai (Bn .u64 (Bg b) 9)&&Cn (0≤(Ab ((Aw a)-(Aw b)))∧(Ab ((Aw a)-(Aw b)))<1000000)) then bif ((Df a)==(Df b)) then bif (Di (A3 ((Bn .u64 (Bg a) 9)+(D9 (Bn .u64 (Bg b) 9) (Ab ((Aw a)-(Aw b)))))) (Ab ((Aw a)-9)) false) then some (.tup [.int .u64 (D0 (Df a) (A3 ((Bn .u64 (Bg a) 9)+(D9 (Bn .u64 (Bg b) 9) (Ab ((Aw a)-(Aw b)))))) (Ab ((Aw a)-9)) false),.int .u8 (Dz (Df a) (A3 ((Bn .u64 (Bg a) 9)+(D9 (Bn .u64 (Bg b) 9) (Ab ((Aw a)-(Aw b)))))) (Ab ((Aw a)-9)) false)]) else none else bif (A1 (D9 (Bn .u64 (Bg b) 9) (Ab ((Aw a)-(Aw b)))) (Bn .u64 (Bg a) 9)) then bif (Di (A3 ((Bn .u64 (Bg a) 9)-(D9 (Bn .u64 (Bg b) 9) (Ab ((Aw a)-(Aw b)))))) (Ab ((Aw a)-9)) false) then some (.tup [.int .u64 (D0 (Df a) (A3 ((Bn .u64 (Bg a) 9)-(D9 (Bn .u64 (Bg b) 9) (Ab ((Aw a)-(Aw b)))))) (Ab ((Aw a)-9)) false),.int .u8 (Dz (Df a) (A3 ((Bn .u64 (Bg a) 9)-(D9 (Bn .u64 (Bg b) 9) (Ab ((Aw a)-(Aw b)))))) (Ab ((Aw a)-9)) false)]) else none else bif (A1 (Bn .u64 (Bg a) 9) (D9 (Bn .u64 (Bg b) 9) (Ab ((Aw a)-(Aw b))))) then bif (Di (A3 ((D9 (Bn .u64 (Bg b) 9) (Ab ((Aw a)-(Aw b))))-(Bn .u64 (Bg a) 9))) (Ab ((Aw a)-9)) false) then some (.tup [.int .u64 (D0 (Df b) (A3 ((D9 (Bn .u64 (Bg b) 9) (Ab ((Aw a)-(Aw b))))-(Bn .u64 (Bg a) 9))) (Ab ((Aw a)-9)) false),.int .u8 (Dz (Df b) (A3 ((D9 (Bn .u64 (Bg b) 9) (Ab ((Aw a)-(Aw b))))-(Bn .u64 (Bg a) 9))) (Ab ((Aw a)-9)) false)]) else none else some (.tup [.int .u64 0,.int .u8 0]) else none else none else none else none else none else none else none :=
  Eq.trans (by kernel_rfl)
  (E2 (Ap (Aed (C9 a)) (Cy (Am8 (C9 a) (Ai b)) (Ap (Tr (C9 a)) (Ap (Aee (C9 a)) (Cy (Am9 (C9 a) (C9 b)) rfl rfl))) rfl)) rfl)
abbrev _root_.Go.Proofs.S1.sum.Add.Kn:=A4 Tryz.prog 232 sum.Add.spec
theorem sum.Add.Ad (hk:Ax Tryz.prog sum.Add.Ba) (h:∀ (a b:Int),sum.Add.pre [.i a,.i b]=true→Bc sum.Add.E Tryz.f232 [.int .u64 a,.int .u64 b] (sum.Add.out [.i a,.i b])):sum.Add.Kn :=
  Al (Ay hk _ _ _) Tryz.func232 (by kernel_rfl) (by kernel_rfl) h
def sum.Sub.Ba:List (Nat × Entry):=[(233,soft.Fc.spec),(232,sum.Add.spec)]
def sum.Sub.E:Env:=Bb (A9 sum.Sub.Ba) (fun _=>false) (fun _=>none) (fun _=>none)
theorem sum.Sub.ev (N:Nat) (a b:Int):Bv sum.Sub.E N Tryz.f207 (Am Tryz.f207) [.int .u64 a,.int .u64 b]=bif (Ai b) then bif (Ai a&&Ai (Dd b)) then some (.tup [.int .u64 (Jn a (Dd b)),.int .u8 (Sv a (Dd b))]) else none else none:=by kernel_rfl
abbrev _root_.Go.Proofs.S1.sum.Sub.Kn:=A4 Tryz.prog 207 sum.Sub.spec
theorem sum.Sub.Ad (hk:Ax Tryz.prog sum.Sub.Ba) (h:∀ (a b:Int),sum.Sub.pre [.i a,.i b]=true→Bc sum.Sub.E Tryz.f207 [.int .u64 a,.int .u64 b] (sum.Sub.out [.i a,.i b])):sum.Sub.Kn :=
  Al (Ay hk _ _ _) Tryz.func207 (by kernel_rfl) (by kernel_rfl) h
end EqSum
open EqSum
theorem Anp (q:Nat):q ||| 1=2*(q / 2)+1:=by
  have e:q%2 ||| (q / 2*2^1)=q / 2*2^1+q%2:=Qo (Nat.mod_lt _ (by decide))
  have e1:1 ||| (q / 2*2^1)=q / 2*2^1+1:=Qo (k:=1) (by decide)
  have hq:q / 2*2^1+q%2=q:=by omega
  rw [hq] at e
  rcases Nat.mod_two_eq_zero_or_one q with h | h
  · rw [h,Nat.zero_or] at e
    rw [e,Nat.or_comm] at e1
    omega
  · rw [h] at e
    have:q ||| 1=q:=by
      conv=>lhs; rw [← e]
      rw [Nat.or_comm 1,Nat.or_assoc,Nat.or_self,Nat.or_comm,e]
    omega
theorem T2 {n s:Nat} (hn:n<2^64) (hs:s≤63) :
    (bif ((Bn .u64 (Cv .u64 (n:Int) (s:Int)) (s:Int)) !=(n:Int)) then
      some (DV.int .u64 (Ha .u64 (Cv .u64 (n:Int) (s:Int)) (1:Int)))
    else some (.int .u64 (Cv .u64 (n:Int) (s:Int))))=some (.int .u64 ((Es n s:Nat):Int)):=by
  have hq:n / 2^s≤n:=Nat.div_le_self _ _
  have hm:n / 2^s*2^s≤n:=Nat.div_mul_le_self _ _
  have hd:=Nat.div_add_mod n (2^s)
  rw [Nat.mul_comm] at hd
  rw [Ga .u64 n s (by show s≤64; omega),Em _ s (by omega),Arb (by omega)]
  have h1:Ha .u64 ((n / 2^s:Nat):Int) (1:Int)=((n / 2^s ||| 1:Nat):Int):=Yp (by omega) (by decide)
  rw [h1,Anp]
  unfold Es
  by_cases h:n%2^s=0
  · have:((((n / 2^s*2^s:Nat):Int)) !=(n:Int))=false:=by
      simp only [bne_eq_false_iff_eq]; omega
    rw [this,if_pos h,Aq2]
  · have:((((n / 2^s*2^s:Nat):Int)) !=(n:Int))=true:=by
      simp only [bne_iff_ne,ne_eq]; omega
    rw [this,if_neg h,Aqy]
theorem sum.right.known:sum.right.Kn:=sum.right.Ad .nil fun m d hp=>by
  obtain ⟨h1,h2⟩:=Af.1 hp
  obtain ⟨n,rfl,hn⟩:=Bt h1
  have h2:=Ao.1 h2
  obtain ⟨d,rfl⟩:∃ k:Nat,d=k:=⟨d.toNat,by omega⟩
  refine ⟨0,sum.right.out [.i n,.i d],[],?_,.int⟩
  rw [sum.right.ev,Ar]
  show _=some (DV.int .u64 (D9 n d))
  unfold D9
  rw [Aq0,Aq0]
  by_cases h:63<d
  · have:decide ((63:Int)<(d:Int))=true:=by simp; omega
    rw [this,Aqy,Nat.min_eq_right (by omega)]
    exact T2 hn (Nat.le_refl 63)
  · have:decide ((63:Int)<(d:Int))=false:=by simp; omega
    have h0:decide ((0:Int)≤(d:Int))=true:=by simp
    rw [this,Aq2,h0,Aqy,Aqy,Nat.min_eq_left (by omega)]
    exact T2 hn (by omega)
theorem Ac5:((Vt:Nat):Int)=9221120237041090560:=rfl
theorem sum.Dt.known:sum.Dt.Kn:=sum.Dt.Ad (.cons soft.Finite.known (.cons soft.Kind.known .nil)) fun a b hp=>by
  obtain ⟨h1,h2⟩:=Af.1 hp
  obtain ⟨ha,hb⟩:=Af.1 h1
  obtain ⟨a,rfl,hn⟩:=Bt ha
  obtain ⟨b,rfl,hm⟩:=Bt hb
  refine ⟨0,sum.Dt.out [.i a,.i b],[],?_,Wk.Gd (.cons .int (.cons .int .nil))⟩
  rw [sum.Dt.ev,ha,hb]
  show _=some (DV.tup [.int .u64 (Jn a b),.int .u8 (Sv a b)])
  unfold Jn Sv N3 A8 C9
  simp only [Aq0,Aqy]
  unfold C9 at h2
  simp only [Aq0] at h2
  by_cases a4:Au a=4
  · simp [a4,Ac5]
  · have e4:((Au a:Int)==4)=false:=by simp; omega
    rw [e4,Aq2]
    by_cases b4:Au b=4
    · simp [b4,Ac5]
    · have f4:((Au b:Int)==4)=false:=by simp; omega
      rw [f4,Aq2]
      have ka:=Ur a
      have kb:=Ur b
      by_cases a3:Au a=3
      · have fa:Le a=false:=by rw [ka]; simp [a3]
        rw [fa,Aq2]
        by_cases b3:Au b=3
        · have fb:Le b=false:=by rw [kb]; simp [b3]
          rw [fb]
          by_cases hab:a=b
          · subst hab; simp [a3]
          · have hab':((a:Int)==(b:Int))=false:=by simp; omega
            rw [hab']
            simp [a3,b3,hab,Ac5]
        · have fb:Le b=true:=by rw [kb]; simp [b3,b4]
          rw [fb]
          simp [a3,b3,b4]
      · have fa:Le a=true:=by rw [ka]; simp [a3,a4]
        have b3:Au b=3:=by
          rw [fa,kb] at h2
          simp [b4] at h2
          exact h2
        rw [fa,Aqy]
        simp [a3,b3,a4]
def Adb (na nb:Bool) (X r:Nat) (e:Int):Nat × Nat :=
  if na=nb then Fb na (X+r) e false else if r<X then Fb na (X-r) e false else if X<r then Fb nb (r-X) e false else (0,0)
theorem Rs {na:Bool} {m:Int} {n:Nat} {e e':Int} (h:m=n) (he:e'=e) (hn:n<2^64) (h1:-1100≤e) (h2:e≤1000) :
    (bif Di m e' false then some (DV.tup [.int .u64 (D0 na m e' false),.int .u8 (Dz na m e' false)]) else none)
      = some (.tup [.int .u64 (((Fb na n e false).1:Nat):Int),.int .u8 (((Fb na n e false).2:Nat):Int)]):=by
  subst h; subst he
  have hp:Di (n:Int) e' false=true:=Ao.2 ⟨by omega,by omega,by omega,.inl (by omega),fun h=>by cases h⟩
  rw [hp,Aqy]
  unfold D0 Dz
  rw [Aq0]
theorem Aa8 (na nb:Bool) {X r:Nat} {e e':Int} (hX:X<2^62) (hr:r≤2^62) (h:e'=e) (h1:-1100≤e) (h2:e≤1000) :
    (bif (na==nb) then
      bif Di (A3 ((X:Int)+(r:Int))) e' false then some (DV.tup [.int .u64 (D0 na (A3 ((X:Int)+(r:Int))) e' false),.int .u8 (Dz na (A3 ((X:Int)+(r:Int))) e' false)]) else none
    else bif A1 (r:Int) (X:Int) then
      bif Di (A3 ((X:Int)-(r:Int))) e' false then some (DV.tup [.int .u64 (D0 na (A3 ((X:Int)-(r:Int))) e' false),.int .u8 (Dz na (A3 ((X:Int)-(r:Int))) e' false)]) else none
    else bif A1 (X:Int) (r:Int) then
      bif Di (A3 ((r:Int)-(X:Int))) e' false then some (DV.tup [.int .u64 (D0 nb (A3 ((r:Int)-(X:Int))) e' false),.int .u8 (Dz nb (A3 ((r:Int)-(X:Int))) e' false)]) else none
    else some (.tup [.int .u64 (0:Int),.int .u8 (0:Int)])) =
      some (.tup [.int .u64 (((Adb na nb X r e).1:Nat):Int),.int .u8 (((Adb na nb X r e).2:Nat):Int)]):=by
  unfold Adb
  rw [Ar,Ar]
  by_cases hs:na=nb
  · have:(na==nb)=true:=by simp [hs]
    rw [this,Aqy,if_pos hs]
    exact Rs (by rw [Cg (by omega) (by omega)]; omega) h (by omega) h1 h2
  · have:(na==nb)=false:=by simp [hs]
    rw [this,Aq2,if_neg hs]
    by_cases hl:r<X
    · have:decide ((r:Int)<(X:Int))=true:=by simp; omega
      rw [this,Aqy,if_pos hl]
      exact Rs (by rw [Cg (by omega) (by omega)]; omega) h (by omega) h1 h2
    · have:decide ((r:Int)<(X:Int))=false:=by simp; omega
      rw [this,Aq2,if_neg hl]
      by_cases hg:X<r
      · have:decide ((X:Int)<(r:Int))=true:=by simp; omega
        rw [this,Aqy,if_pos hg]
        exact Rs (by rw [Cg (by omega) (by omega)]; omega) h (by omega) h1 h2
      · have:decide ((X:Int)<(r:Int))=false:=by simp; omega
        rw [this,Aq2,if_neg hg]
        rfl
theorem Ad5 {a b:Nat} (ha:Le a=true) (hb:Le b=true) (hle:Be b≤Be a) :
    ∃ X r:Nat,X<2^62∧r≤2^62∧Bn .u64 (Bg a) (9:Int)=(X:Int)∧D9 (Bn .u64 (Bg b) (9:Int)) (Ab (Aw a-Aw b))=(r:Int)
      ∧ Ab (Aw a-9)=Be a-9
      ∧ (Ai (Bn .u64 (Bg b) (9:Int))&&Cn (0≤(Ab ((Aw a)-(Aw b)))∧(Ab ((Aw a)-(Aw b)))<1000000))=true
      ∧ Adb (Df a) (Df b) X r (Be a-9)=N3 a b:=by
  obtain ⟨d,hd⟩:∃ d:Nat,Be a=Be b+d:=⟨(Be a-Be b).toNat,by omega⟩
  have hx:=Ek a
  have hy:=Ek b
  have ea:=Eb a
  have eb:=Eb b
  have C:=Aa7 (Mx:=Av a) (My:=Av b) hd hx hy (fun h=>Wc (by omega))
  have sh:∀ m:Nat,m<2^53→Bn .u64 (m:Int) (9:Int)=((m*2^9:Nat):Int):=fun m hm=>by
    have:=Em m 9 (by decide)
    rw [Arb (by omega)] at this
    exact this
  have h2:Ab (Aw a-Aw b)=(d:Int):=by
    unfold Aw
    rw [Aq0,Aq0,An (by omega) (by omega)]; omega
  have s1:Bn .u64 (Bg a) (9:Int)=((Av a*2^9:Nat):Int):=by
    unfold Bg; rw [Aq0]; exact sh _ hx
  have s2:Bn .u64 (Bg b) (9:Int)=((Av b*2^9:Nat):Int):=by
    unfold Bg; rw [Aq0]; exact sh _ hy
  refine ⟨Av a*2^9,Es (Av b*2^9) (min d 63),by omega,C.small,s1,?_,?_,?_,?_⟩
  · rw [s2,h2]; unfold D9; rw [Aq0,Aq0]
  · unfold Aw; rw [Aq0,An (by omega) (by omega)]
  · rw [s2,h2,B1 (by omega),Bool.true_and]
    exact Ao.2 ⟨by omega,by omega⟩
  · unfold Df
    rw [Aq0,Aq0,Aa6 ha hb hd]
    rfl
theorem sum.Add.known:sum.Add.Kn:=sum.Add.Ad (.cons soft.Finite.known (.cons soft.Cr.known (.cons soft.E4.known (.cons soft.Sign.known (.cons sum.right.known (.cons sum.Dt.known .nil)))))) fun a b hp=>by
  obtain ⟨ha,hb⟩:=Af.1 hp
  obtain ⟨a,rfl,hn⟩:=Bt ha
  obtain ⟨b,rfl,hm⟩:=Bt hb
  refine ⟨0,sum.Add.out [.i a,.i b],[],?_,Wk.Gd (.cons .int (.cons .int .nil))⟩
  rw [sum.Add.ev,ha,hb]
  show _=some (DV.tup [.int .u64 (Jn a b),.int .u8 (Sv a b)])
  rw [Bool.or_true,Aqy,Aqy]
  by_cases hf:(!(C9 a)||!(C9 b))=true
  · rw [hf]; rfl
  · have hf:(!(C9 a)||!(C9 b))=false:=by simpa using hf
    rw [hf,Aq2,Aqy,Aqy,Aqy,Aqy]
    have fa:Le a=true:=by
      have:=(Bool.or_eq_false_iff.1 hf).1
      unfold C9 at this
      simpa using this
    have fb:Le b=true:=by
      have:=(Bool.or_eq_false_iff.1 hf).2
      unfold C9 at this
      simpa using this
    have xa:=Eb a
    have xb:=Eb b
    rw [Ar]
    by_cases hl:Be a<Be b
    · obtain ⟨X,r,hX,hr,e1,e2,e3,e4,e5⟩:=Ad5 fb fa (by omega)
      have:decide (Aw a<Aw b)=true:=by unfold Aw; simpa using hl
      rw [this,Aqy,e4,Aqy,e1,e2,Aa8 _ _ hX hr e3 (by omega) (by omega),e5,Af3]
      rfl
    · obtain ⟨X,r,hX,hr,e1,e2,e3,e4,e5⟩:=Ad5 fa fb (by omega)
      have:decide (Aw a<Aw b)=false:=by unfold Aw; simpa using hl
      rw [this,Aq2,e4,Aqy,e1,e2,Aa8 _ _ hX hr e3 (by omega) (by omega),e5]
      rfl
theorem sum.Sub.known:sum.Sub.Kn:=sum.Sub.Ad (.cons soft.Fc.known (.cons sum.Add.known .nil)) fun a b hp=>by
  obtain ⟨ha,hb⟩:=Af.1 hp
  obtain ⟨b,rfl,hm⟩:=Bt hb
  refine ⟨0,sum.Sub.out [.i a,.i b],[],?_,Wk.Gd (.cons .int (.cons .int .nil))⟩
  have:Ai (Dd (b:Int))=true:=by unfold Dd; rw [Aq0]; exact B1 (Rt hm)
  rw [sum.Sub.ev,ha,hb,this]
  unfold Jn Sv Dd
  rw [Aq0]
  rfl
end Go.Proofs.S1
end
