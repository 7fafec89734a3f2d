/- A verified evaluator of the program's form and its use for this seat: BndM, NorR, NorS, MirR, MirT, MirW, MakV, AppV, AppW, HouV, FacV, QuoL, S1EqRef11Q, S1PQ. -/
import Derived.Test.YtjbokjpbiobjpaaGreatTF
import Derived.Test.YtjbokjpbiobjpaaGreatTL
import Derived.Test.YtjbokjpbiobjpaaGreatTE
import Derived.Test.YtjbokjpbiobjpaaGreatTG
import Derived.Test.YtjbokjpbiobjpaaGreatTK
set_option linter.unusedVariables false
set_option linter.unusedSimpArgs false
noncomputable section
open Int (toNat)
open List (length getD)
open Go.Proofs.Tryz
namespace Go.Cv
open Go.Den
theorem Zl:∀ {l:List Int},Gc l≠true→∃ x∈l,A7 x≠0
 | [],h=>absurd rfl h
 | x::l,h=>by
   by_cases k:A7 x=0
   ·have:Gc l≠true:=fun e=>h (by unfold Gc at e ⊢; rw [List.all_cons,e,A78 k]; rfl)
    obtain ⟨y,hy,g⟩:=Zl this
    exact ⟨y,A9c _ hy,g⟩
   ·exact ⟨x,A9m,k⟩
theorem Avq {b:Nat} (h:b<Ei):Aj b≠3∧Aj b≠4∧b%2^63=b:=by
 have hi:=Fl
 have h3:b%2^63=b:=by omega
 have hr:=Pz b
 have hf:=L8 b
 rcases Ji b with ⟨p,_,_⟩ | ⟨p,_,_⟩ | ⟨_,p,q⟩
 ·exfalso; rw [p] at hr; omega
 ·exfalso; rw [p] at hr; omega
 ·exact ⟨p,q,h3⟩
theorem Aa3:∀ (l:List Int) (m:Nat),(∀ z∈l,Dk z=true)→m<Ei→N7 l m<Ei
 | [],_,_,h=>h
 | z::l,m,hl,hm=>by
   have zk:=Jk (show Ii z.toNat=true from hl z A9m)
   rw [Adj zk.1]
   refine Aa3 l _ (fun w hw=>hl w (A9c _ hw)) ?_
   have hz:Dy z.toNat<Ei:=Xd zk.2 zk.1
   omega
theorem Ma {l:List Int} (h:Ff l=true):∀ z∈l,Dk z=true:=List.all_eq_true.1 h
theorem Xv {x:List Int} (hf:Ff x=true):Aj (Bg x).toNat≠3∧Aj (Bg x).toNat≠4∧Dy (Bg x).toNat=(Bg x).toNat∧∀ z∈x,Dy z.toNat≤Dy (Bg x).toNat:=by
 have eb:(Bg x).toNat=N7 x 0:=A79 _
 have hl:=Aa3 x 0 (Ma hf) (by rw [Fl]; omega)
 obtain ⟨h1,h2,h3⟩:=Avq hl
 have hN:N7 x 0≠Sq:=fun e=>by rw [e,Fl,J6] at hl; omega
 rw [eb]
 refine ⟨h1,h2,h3,fun z hz=>?_⟩
 show _≤N7 x 0%2^63
 rw [h3]
 rcases Am4 x 0 with g | ⟨_,g⟩
 ·exact absurd g hN
 ·exact g z hz
theorem Xu {x:List Int} (hf:Ff x=true) (h:∃ z∈x,A7 z≠0):∃ z∈x,Aj z.toNat≠0∧(Bg x).toNat=Dy z.toNat:=by
 have eb:(Bg x).toNat=N7 x 0:=A79 _
 have hl:=Aa3 x 0 (Ma hf) (by rw [Fl]; omega)
 rcases Awn h with e | ⟨z,hz,_,k0,e⟩
 ·exfalso; rw [e,Fl,J6] at hl; omega
 ·exact ⟨z,hz,k0,eb.trans e⟩
theorem Bl.Np {k:Nat} {l:List Int} (h:Bl k l):Ff l=true:=List.all_eq_true.2 fun x hx=>(h x hx).fin
theorem Sj {x:Int} (h:Dk x=true):Aj x.toNat≠3∧Aj x.toNat≠4:=⟨(Jk (show Ii x.toNat=true from h)).2,(Jk (show Ii x.toNat=true from h)).1⟩
theorem D1 (x n:Int):(Ch x n).toNat=(Cj x.toNat n).1:=A79 _
theorem S6 {x:List Int} (hf:Ff x=true):Bl 1 (Bn x (-Bq (Bg x))):=fun y hy=>by
 obtain ⟨z,hz,rfl⟩:=List.mem_map.1 hy
 obtain ⟨b3,b4,_,hb⟩:=Xv hf
 have zk:=Sj (Ma hf z hz)
 rw [D1]
 exact Bd.down zk.1 zk.2 b3 b4 (hb z hz)
theorem Aem {x:List Int} (hf:Ff x=true) (h:∃ z∈x,A7 z≠0):∃ y∈Bn x (-Bq (Bg x)),pw 0≤y.toNat%2^63:=by
 obtain ⟨z,hz,k0,e⟩:=Xu hf h
 have zk:=Sj (Ma hf z hz)
 refine ⟨Ch z (-Bq (Bg x)),List.mem_map.2 ⟨z,hz,rfl⟩,?_⟩
 have ee:Bq (Bg x)=E6 z.toNat:=by unfold Bq; rw [e,Xm z.toNat]; rfl
 rw [D1,ee]
 exact Vj zk.1 zk.2 k0
theorem Ak6 {k:Int} (hk:k≤0):∀ (l:List Int) (s t:Nat),Bl 1 l→Bm t 2 s→0<t→t+l.length≤1000→Bm (t+l.length) 2 (Qj k (s:Int) l).toNat
 | [],s,t,_,hs,_,_=>by
   show Bm t 2 (toNat (s:Int))
   rw [A79]; exact hs
 | x::l,s,t,hl,hs,h0,ht=>by
   simp only [List.length_cons] at ht ⊢
   have h1:Bd 1 (Cj x.toNat k).1:=Bd.scale (by decide) (hl x A9m) (by omega)
   have h2:Bd 2 (Hc (Cj x.toNat k).1 (Cj x.toNat k).1).1:=Bd.mul (j:=1) (k:=1) (by decide) h1 h1
   have h3:=Bm.add (k:=2) (by omega) (by omega) (by decide) hs h2.bm
   have:=Ak6 hk l _ (t+1) (fun z hz=>hl z (A9c _ hz)) h3 (by omega) (by omega)
   rw [show t+(l.length+1)=t+1+l.length by omega]
   unfold Qj Md D6
   rw [D1,A79,A79]
   exact this
theorem An6 {y:List Int} (hy:Bl 1 y) (hl:y.length≤7) (h:∃ z∈y,pw 0≤z.toNat%2^63):Bd 4 (Dr y).toNat∧Big (Dr y).toNat:=by
 have hf:=hy.Np
 have h0:∃ z∈y,A7 z≠0:=by
  obtain ⟨z,hz,g⟩:=h
  refine ⟨z,hz,fun k=>?_⟩
  have:=Iu (b:=z.toNat) (by unfold A7 at k; omega)
  rw [Agq] at g; omega
 obtain ⟨b3,b4,ba,hb⟩:=Xv hf
 have hB:pw 0≤Dy (Bg y).toNat:=by
  obtain ⟨z,hz,g⟩:=h
  exact A9e g (hb z hz)
 obtain ⟨w,hw,w0,we⟩:=Xu hf h0
 have wk:=Sj (Ma hf w hw)
 have ee:Bq (Bg y)=E6 w.toNat:=by unfold Bq; rw [we,Xm w.toNat]; rfl
 obtain ⟨x1,_⟩:=Uo wk.1 wk.2 w0
 have wm:An w.toNat≠0:=fun e=>w0 ((Da wk.1 wk.2).1 e)
 have u1:=(hy w hw).log wm
 have u2:=(Lo.Ab6 (a:=w.toNat) wk.1 wk.2 (by
  rw [we] at hB
  show pw 0≤Dy w.toNat
  unfold Dy at hB ⊢; omega)).log
 have e0:0≤E6 w.toNat∧E6 w.toNat≤1:=by omega
 unfold Dr
 rw [A8t (fun k=>by
  rcases k with k | k
  ·rw [k] at hB; rw [Agq] at hB; revert hB; decide
  ·unfold Dk at k; rw [Lc] at k; simp [b3,b4] at k)]
 rw [ee]
 obtain ⟨t,te,t1,t2⟩:=Ak5 (-E6 w.toNat) y 0 (Nat.zero_le _)
 have tb:=t2 (.inr ⟨w,hw,by rw [D1]; exact Vj wk.1 wk.2 w0⟩)
 have te:Qj (-E6 w.toNat) 0 y=t:=te
 have bm:=Ak6 (k:=-E6 w.toNat) (by omega) y 0 1 hy (Bd.zero false 2).bm (by decide) (by omega)
 have bm:Bm (1+y.length) 2 (Qj (-E6 w.toNat) 0 y).toNat:=bm
 rw [te,A79] at bm
 rw [te]
 have bt:Bd (3+3) t:=(bm.bd (j:=3) (by omega)).mono (by decide)
 have br:Bd 3 (Hw t).1:=Bd.root (by decide) bt (N4 tb.2)
 have rb:=Atq tb
 rw [D1]
 unfold Ie
 rw [A79,A79]
 refine ⟨Bd.scale (by decide) br (by omega),?_⟩
 have k0:Aj (Hw t).1≠0:=fun e=>by
  have:=Iu e
  have h1:=rb.1; have h2:=rb.2
  rw [J6] at h2; rw [Agq] at h1; omega
 rw [Jq br.2.1 (by have:=br.1; omega),N4 rb.2,Ip]
 have hm:(Hw t).1%2^63=(Hw t).1:=by have:=rb.2; rw [J6] at this; omega
 obtain ⟨p1,p2⟩:=Ra (z:=(Hw t).1) (by rw [hm]; exact rb.1)
 exact ⟨Ni (a:=52) p1 (by omega),Rs _ _⟩
theorem Ae2 {x:List Int} (hf:Ff x=true) (hl:x.length≤7) (h:∃ z∈x,A7 z≠0):Bd 4 (Qk x).toNat∧Lo 0 (Qk x).toNat∧pw 0≤Dy (Qk x).toNat∧Bp (Eg (Qk x).toNat)=Em (P7 x):=by
 obtain ⟨n1,n2⟩:=An6 (S6 hf) (by unfold Bn; rw [A9d]; exact hl) (Aem hf h)
 have nl:(Dr (Bn x (-Bq (Bg x)))).toNat<2^63:=by have:=n2.2; rw [J6] at this; omega
 have na:pw 0≤Dy (Dr (Bn x (-Bq (Bg x)))).toNat:=by
  unfold Dy; rw [A8k nl]; exact n2.1
 unfold Qk
 split
 ·rename_i hn
  refine ⟨n1,.Ab6 n1.1 n1.2.1 na,na,?_⟩
  rw [(Lb (by omega)).1,N4 n2.2,hn]; rfl
 ·rename_i hn
  have eq:(Eh (Dr (Bn x (-Bq (Bg x))))).toNat=Eg (Dr (Bn x (-Bq (Bg x)))).toNat:=A79 _
  rw [eq]
  have hb:=Acf (by omega) n1
  have ha:pw 0≤Dy (Eg (Dr (Bn x (-Bq (Bg x)))).toNat):=by
   unfold Dy at na ⊢; rw [Vt nl]; omega
  refine ⟨hb,.Ab6 hb.1 hb.2.1 ha,ha,?_⟩
  rw [(Lb (Al3 (by omega))).1,(Lb (by omega)).1,N4 n2.2]
  cases hh:Em (P7 x)
  ·rfl
  ·exact absurd hh hn
theorem A0b {a b:Nat} (a3:Aj a≠3) (a4:Aj a≠4) (b3:Aj b≠3) (b4:Aj b≠4) (hs:Bp a=Bp b∨An a=0) (h:pw 0≤Dy b):pw 0≤Dy (Gf a b).1:=by
 have pa:=Cu a
 have pb:=Cu b
 have ek:=Aa4 a3 a4 b3 b4 (g:=-1074) (by omega)
 have hS:Fq b (-1074)≤(Fo a (-1074)+Fo b (-1074)).natAbs:=by
  unfold Fq Fo
  rcases hs with hs | hs
  ·rw [hs]; unfold Ik; split<;>omega
  ·rw [hs,Nat.zero_mul]; unfold Ik; split<;>split<;>omega
 have hr:=Gj (E:=-1074) hS
 rw [Nk b4 (by omega)] at hr
 have hn:(Jj (Gf a b).1).natAbs=Dy (Gf a b).1:=by unfold Jj; rw [Aaj]; rfl
 rw [← hn,ek]
 unfold Dy at h
 unfold Adt
 split<;>omega
theorem T9 {a:Nat} {n:Int} (k4:Aj a≠4):Bp (Cj a n).1=Bp a:=by
 by_cases k:Aj a=3∨Aj a=0
 ·unfold Cj; rw [A8t k4,A8u k]
 ·rw [Jq k4 k]
  exact sign_neg _ (Jr _ _)
theorem Ajo {x:List Int} (hf:Ff x=true) (ax:Ak x=true) (hl:x.length≤7) (h:∃ z∈x,A7 z≠0):Lo 0 (Eu (E5 x) (Qk x)).toNat∧Bd 5 (Eu (Qk x) (E5 x)).toNat:=by
 obtain ⟨m1,m2,m3,m4⟩:=Ae2 hf hl h
 have lm:=Lm (Auq x)
 have mb:=Acf lm m1
 cases x with
 | nil=>obtain ⟨z,hz,_⟩:=h; cases hz
 | cons a x =>
   have ak:=Sj (Ma hf a A9m)
   have b1:Bd 1 (E5 (a::x)).toNat:=S6 hf _ (List.mem_map.2 ⟨a,A9m,rfl⟩)
   have e1:(E5 (a::x)).toNat=(Cj a.toNat (-Bq (Bg (a::x)))).1:=D1 _ _
   have s1:(Eu (E5 (a::x)) (Qk (a::x))).toNat=(Gf (E5 (a::x)).toNat (Eg (Qk (a::x)).toNat)).1:=A79 _
   have s2:(Eu (Qk (a::x)) (E5 (a::x))).toNat=(Abd (Qk (a::x)).toNat (E5 (a::x)).toNat).1:=A79 _
   have am:pw 0≤Dy (Eg (Qk (a::x)).toNat):=by
    have e:Dy (Eg (Qk (a::x)).toNat)=Dy (Qk (a::x)).toNat:=by unfold Dy Eg; split<;>omega
    rw [e]; exact m3
   have hsg:Bp (E5 (a::x)).toNat=Bp (Eg (Qk (a::x)).toNat)∨An (E5 (a::x)).toNat=0:=by
    by_cases k0:A7 a=0
    ·refine .inr ?_
     rw [e1]
     have k0':Aj a.toNat=0:=by unfold A7 at k0; omega
     unfold Cj
     rw [A8t ak.2,A8u (.inr k0')]
     exact (Da ak.1 ak.2).2 k0'
    ·refine .inl ?_
     rw [m4,e1,T9 ak.2]
     unfold P7
     rw [A8t k0]
     rfl
   have hfar:=A0b b1.1 b1.2.1 mb.1 mb.2.1 hsg am
   have hbd:=Bd.add (k:=4) (by decide) (b1.mono (by decide)) mb
   rw [s1,s2]
   have f64:(E5 (a::x)).toNat<2^64:=Lm (Kf (Nu ax 0))
   exact ⟨.Ab6 hbd.1 hbd.2.1 hfar,Bd.sub (k:=4) (by decide) f64 m1 (b1.mono (by decide))⟩
theorem Wa (k:Nat):Bd k (toNat 0):=Bd.zero false k
theorem At3 (k:Nat):Bd k At5.toNat:=by
 refine .mono (j:=0) ?_ (Nat.zero_le _)
 refine .P1 (by decide) (by decide +kernel) ?_
 rw [Agq]; decide
theorem Atp {k n:Nat} {f:Nat→Int} (h:∀ j,Bd k (f j).toNat):Bl k (Iw n f):=Azz (At3 k) (Y3 fun j=>h _)
theorem Qa (a b:Int):(Hr a b).toNat=(Sm a.toNat b.toNat).1:=A79 _
theorem I5 (a b:Int):(D6 a b).toNat=(Hc a.toNat b.toNat).1:=A79 _
theorem Ri (a b:Int):(Eu a b).toNat=(Abd a.toNat b.toNat).1:=A79 _
theorem Uq {x:List Int} (h:Gc (x.drop 1)≠true):∃ z∈x,A7 z≠0:=by
 obtain ⟨z,hz,g⟩:=Zl h
 exact ⟨z,List.mem_of_mem_drop hz,g⟩
theorem Avz {k:Nat} {x:List Int} (hx:Bl k x) (h:∃ z∈x,A7 z≠0):Bq (Bg x)≤k:=by
 obtain ⟨z,hz,k0,e⟩:=Xu hx.Np h
 have ee:Bq (Bg x)=E6 z.toNat:=by unfold Bq; rw [e,Xm z.toNat]; rfl
 have b:=hx z hz
 rw [ee,(Uo b.1 b.2.1 k0).1]
 exact b.log fun e=>k0 ((Da b.1 b.2.1).1 e)
theorem Aoa {k:Nat} {x:List Int} (hk:k+4≤1000) (hx:Bl k x) (ax:Ak x=true) (hl:x.length≤7) (he:(Bv x).2.2.2=0):Bl 1 (Bv x).1∧Bd 5 (Bv x).2.1.toNat∧Bd (k+4) (Bv x).2.2.1.toNat:=by
 unfold Bv at he ⊢
 by_cases h1:x.length=0∨64<x.length
 ·rw [A8u h1] at he; exact absurd he (by decide)
 rw [A8t h1] at he ⊢
 have hf:=hx.Np
 rw [A8u hf] at he ⊢
 unfold Ai7 at he ⊢
 by_cases h3:Gc (x.drop 1)=true
 ·rw [A8u h3]
  dsimp only
  exact ⟨Atp fun _=>Wa 1,Wa 5,(R8 hx 0).mono (by omega)⟩
 ·rw [A8t h3] at he ⊢
  by_cases h4:Dk (G2 x)=true
  ·rw [A8u h4]
   dsimp only
   have hs:=Uq h3
   obtain ⟨m1,m2,m3,m4⟩:=Ae2 hf hl hs
   obtain ⟨f1,f2⟩:=Ajo hf ax hl hs
   have sb:=S6 hf
   refine ⟨Atp fun j=>?_,?_,?_⟩
   ·rw [Qa]
    refine Bd.div (j:=1) (t:=0) (by decide) ?_ f1
    by_cases hj:j<x.length
    ·refine sb _ (List.mem_map.2 ⟨x.getD j 0,?_,rfl⟩)
     rw [A8h,A8o hj]; exact List.getElem_mem hj
    ·rw [A8h,A9p (by omega)]
     rw [D1]
     have e:∀ n:Int,(Cj (toNat 0) n).1=0:=fun n=>by
      unfold Cj
      rw [A8t (by decide),A8u (.inr (by decide))]; rfl
     show Bd 1 (Cj (toNat 0) _).1
     rw [e]; exact Bd.zero false 1
   ·unfold Acd
    rw [Qa]
    exact Bd.div (j:=5) (t:=0) (by decide) f2 m2
   ·unfold G2
    rw [D1]
    exact Bd.scale (by omega) m1 (by have:=Avz hx hs; omega)
  ·rw [A8t h4] at he; exact absurd he (by decide)
theorem Nt {k:Nat} {c i j:Int} {l:List Int} (h:Bl k l):Bd k (Cp c l i j).toNat:=R8 h _
theorem Abq {k:Nat} {c b i:Int} {n:Nat} {l:List Int} (h:Bl k l):Bl k (B4 c l b i n):=Y3 fun _=>Nt h
theorem Arw {k:Nat} {c i j t a b:Int} {l v:List Int} (hk:k+11≤1000) (h:Bl k l) (hv:Bl 1 v) (hl:v.length≤7) (ht:Bd 5 t.toNat):Bd (k+11) (Hy c l i j v t a b).toNat:=by
 unfold Hy
 split
 ·rw [Ri]
  refine Bd.sub (k:=k+10) (by omega) (Lm (Ku _ _)) ((Nt h).mono (by omega)) ?_
  rw [I5]
  have h1:Bd (k+9) (M6 c l i v t b).toNat:=by
   unfold M6
   rw [I5]
   have:=Ahm (j:=1) (k:=k) (by omega) hv (Abq (c:=c) (b:=b) (i:=i) (n:=v.length) h) hl
   exact (Bd.mul (by omega) ht this).mono (by omega)
  exact Bd.mul (j:=k+9) (k:=1) (by omega) h1 (R8 hv _)
 ·exact (Nt h).mono (by omega)
theorem Afp {k:Nat} {r c:Nat} {i j t:Int} {l v:List Int} (hk:k+11≤1000) (h:Bl k l) (hv:Bl 1 v) (hl:v.length≤7) (ht:Bd 5 t.toNat):Bl (k+11) (Gp r c l i j v t):=Ahq fun _ _=>Arw hk h hv hl ht
theorem Agz {k:Nat} {r c j:Nat} {l:List Int} (hk:k+11≤1000) (h:Bl k l) (al:Ak l=true) (hr:r≤7) (he:(Bv (Dm r c l j)).2.2.2=0):Bl (k+11) (Ps r c l j)∧Bl 1 (Bv (Dm r c l j)).1∧Bd 5 (Bv (Dm r c l j)).2.1.toNat∧(Bv (Dm r c l j)).1.length≤7:=by
 have hlen:(Dm r c l j).length≤7:=by unfold Dm; rw [Gz]; omega
 obtain ⟨m1,m2,m3⟩:=Aoa (by omega) (show Bl k (Dm r c l j) from Abq h) (O9 al) hlen he
 have ml:=Q4 he
 refine ⟨?_,m1,m2,by omega⟩
 unfold Ps Qo
 refine Ahq fun a b=>?_
 split
 ·split
  ·exact m3.mono (by omega)
  ·exact Wa _
 ·exact Nt (Afp hk h m1 (by omega) m2)
def MB (ms:List (List Int × Int)):Prop:=∀ m∈ms,Bl 1 m.1∧Bd 5 m.2.toNat∧m.1.length≤7
theorem Ac9 {r c:Nat} (hr:r≤7):∀ (n j k:Nat) (l:List Int) (x:List Int × List (List Int × Int)),Bl k l→Ak l=true→k+11*n≤1000→J2 r c n j l=some x→Bl (k+11*n) x.1∧MB x.2∧x.2.length=n
 | 0,j,k,l,x,hl,_,_,h=>by
   cases h
   exact ⟨hl,(fun m hm=>by cases hm),rfl⟩
 | n+1,j,k,l,x,hl,al,hk,h=>by
   unfold J2 at h
   by_cases h1:(Bv (Dm r c l j)).2.2.2=0
   ·rw [A8u h1,Option.map_eq_some_iff] at h
    obtain ⟨y,hy,rfl⟩:=h
    obtain ⟨b1,b2,b3,b4⟩:=Agz (by omega) hl al hr h1
    obtain ⟨a1,a2,a3⟩:=Ac9 hr n (j+1) (k+11) _ y b1 (Uh al j) (by omega) hy
    refine ⟨a1.mono (by omega),fun m hm=>?_,by rw [List.length_cons,a3]⟩
    rcases List.mem_cons.1 hm with rfl | hm
    ·exact ⟨b2,b3,b4⟩
    ·exact a2 m hm
   ·rw [A8t h1] at h; cases h
theorem Adm {n:Nat}:∀ (ms:List (List Int × Int)) (j k:Nat) (q:List Int),MB ms→Bl k q→k+11*ms.length≤1000→Bl (k+11*ms.length) (Lg n j ms q)
 | [],_,_,_,_,h,_=>h
 | m::ms,j,k,q,hm,h,hk=>by
   simp only [List.length_cons] at hk ⊢
   obtain ⟨m1,m2,m3⟩:=hm m A9m
   have ih:=Adm (n:=n) ms (j+1) k q (fun w hw=>hm w (A9c _ hw)) h (by omega)
   unfold Lg
   exact (Afp (by omega) ih m1 m3 m2).mono (by omega)
theorem Aoo (n:Nat):Bl 0 (Mb n):=Ahq fun i k=>by
 unfold V0
 split
 ·exact At3 0
 ·exact Wa 0
theorem Lo.Rr {t V a:Nat} {E:Int} (s:Bool) (ht:t≤1000) (h:2^a≤V) (g:-(t:Int)≤a+E) (k3:Aj (Bx s (B1 V E))≠3):Lo t (Bx s (B1 V E)):=by
 have e1:=(Di 1 (1074-t) (-(t:Int))).1
 rw [Nat.one_mul,show -(t:Int)-((1074-t:Nat):Int)=-1074 by omega] at e1
 have h1:=Aod (b:=1074-t) (E:=E) h (by omega)
 rw [e1] at h1
 have hu:B1 1 (-(t:Int))≤pw 0:=Aak (u:=0) (by decide) (by decide) (by omega)
 have hi:B1 1 (-(t:Int))<Ei:=A89 hu (Qw (by decide)).2.2.2.2
 obtain ⟨_,d,p1,p2⟩:=Ac4 false (V:=1) (E:=-(t:Int)) (by decide) (Zo (by decide) (by omega)) hi
 rw [Ip] at p1 p2
 obtain ⟨q3,q4,_⟩:=Avq hi
 have lo:Lo t (B1 1 (-(t:Int))):=⟨q3,q4,by rw [p1,Nat.one_mul]; exact Nat.ne_of_gt (B5 d),by rw [p1,p2,Nat.one_mul,Nat.log2_two_pow]; omega⟩
 refine lo.Alu k3 (Q5 s V E) ?_
 have l1:=Jr 1 (-(t:Int))
 have l2:=Jr V E
 unfold Dy Bx
 split<;>omega
theorem Lo.scale {t a:Nat} {n:Int} {u:Nat} (hu:u≤1000) (h:Lo t a) (g:(t:Int)-n≤u) (k3:Aj (Cj a n).1≠3):Lo u (Cj a n).1:=by
 have:=h.k0; have:=h.k3
 rw [Jq h.k4 (by omega)] at k3 ⊢
 exact .Rr _ hu (Nat.log2_self_le h.m0) (by have:=h.log; omega) k3
def TL (t:Nat) (l:List Int):Prop:=∀ x∈l,A7 x≠0→Lo t x.toNat
theorem Ayv {t:Nat} {x:List Int} (ht:t≤1000) (hx:TL t x) (hl:x.length≤7) (he:(Bv x).2.2.2=0) (h0:A7 (Bv x).2.2.1≠0):Lo t (Bv x).2.2.1.toNat:=by
 unfold Bv at he h0 ⊢
 by_cases h1:x.length=0∨64<x.length
 ·rw [A8u h1] at he; exact absurd he (by decide)
 rw [A8t h1] at he h0 ⊢
 by_cases hf':¬ (Ff x=true)
 ·rw [A8t hf'] at he; exact absurd he (by decide)
 have hf:=Classical.not_not.1 hf'
 rw [A8u hf] at he h0 ⊢
 unfold Ai7 at he h0 ⊢
 by_cases h3:Gc (x.drop 1)=true
 ·rw [A8u h3] at h0 ⊢
  dsimp only at h0 ⊢
  refine hx _ ?_ h0
  rw [A8h,A8o (by omega)]; exact List.getElem_mem (by omega)
 ·rw [A8t h3] at he h0 ⊢
  by_cases h4:Dk (G2 x)=true
  ·rw [A8u h4] at h0 ⊢
   dsimp only at h0 ⊢
   have hs:=Uq h3
   obtain ⟨m1,m2,m3,m4⟩:=Ae2 hf hl hs
   obtain ⟨z,hz,k0,e⟩:=Xu hf hs
   have ee:Bq (Bg x)=E6 z.toNat:=by unfold Bq; rw [e,Xm z.toNat]; rfl
   have lz:=hx z hz (fun k=>k0 (by unfold A7 at k; omega))
   have x1:=(Uo lz.k3 lz.k4 k0).1
   have x2:=lz.log
   have b3:=(Sj h4).1
   unfold G2 at b3 ⊢
   rw [D1] at b3 ⊢
   exact m2.scale ht (by omega) b3
  ·rw [A8t h4] at he; exact absurd he (by decide)
theorem Aja {r c j:Nat} {l:List Int} (hj:0<j) (hr:0<r) (hc:0<c):Cp (c:Int) (Ps r c l j) 0 0=Cp (c:Int) l 0 0:=by
 unfold Ps Qo
 have e:=Jx (r:=r) (c:=c) (i:=0) (k:=0) (f:=fun a b=>if b=j∧j≤a then (if a=j then (Bv (Dm r c l j)).2.2.1 else 0) else Cp (c:Int) (Gp r c l (j:Int) (j:Int) (Bv (Dm r c l j)).1 (Bv (Dm r c l j)).2.1) (a:Int) (b:Int)) hr hc
 refine Eq.trans e ?_
 rw [A8t (by omega)]
 unfold Gp
 refine (Jx (r:=r) (c:=c) (i:=0) (k:=0) hr hc).trans ?_
 unfold Hy
 rw [A8t (by omega)]
 rfl
theorem Xn {r c:Nat} (hr:0<r) (hc:0<c):∀ (n j:Nat) (l:List Int) (x:List Int × List (List Int × Int)),0<j→J2 r c n j l=some x→Cp (c:Int) x.1 0 0=Cp (c:Int) l 0 0
 | 0,_,_,_,_,h=>by cases h; rfl
 | n+1,j,l,x,hj,h=>by
   unfold J2 at h
   by_cases h1:(Bv (Dm r c l j)).2.2.2=0
   ·rw [A8u h1,Option.map_eq_some_iff] at h
    obtain ⟨y,hy,rfl⟩:=h
    exact (Xn hr hc n (j+1) _ y (by omega) hy).trans (Aja hj hr hc)
   ·rw [A8t h1] at h; cases h
theorem at_mem {c:Int} {i j:Int} {l:List Int} (h:A7 (Cp c l i j)≠0):Cp c l i j∈l:=by
 unfold Cp at h ⊢
 by_cases hj:(i*c+j).toNat<l.length
 ·rw [A8h,A8o hj]; exact List.getElem_mem hj
 ·exfalso
  rw [A8h,A9p (by omega)] at h
  exact h (by decide)
theorem A1j {t:Nat} {c b i:Int} {n:Nat} {l:List Int} (h:TL t l):TL t (B4 c l b i n):=fun x hx k=>by
 obtain ⟨j,_,rfl⟩:=List.mem_map.1 hx
 exact h _ (at_mem k) k
theorem Amm {r c t:Nat} {l:List Int} (ht:t≤1000) (hr:0<r) (hc:0<c) (r7:r≤7) (h:TL t l) (h0:A7 (Cp (c:Int) (H6 r c l) 0 0)≠0):Lo t (Cp (c:Int) (H6 r c l) 0 0).toNat:=by
 unfold H6 at h0 ⊢
 cases hd:I7 r c l with
 | none=>rw [hd] at h0; exact absurd (at_mem h0) (fun h=>by cases h)
 | some x =>
   rw [hd] at h0
   dsimp only at h0 ⊢
   unfold I7 at hd
   cases hn:Fy r c with
   | zero =>
     rw [hn] at hd
     cases hd
     exact h _ (at_mem h0) h0
   | succ n =>
     rw [hn] at hd
     unfold J2 at hd
     by_cases h1:(Bv (Dm r c l 0)).2.2.2=0
     ·rw [A8u h1,Option.map_eq_some_iff] at hd
      obtain ⟨y,hy,rfl⟩:=hd
      have e1:=Xn hr hc n 1 _ y (by decide) hy
      have e2:Cp (c:Int) (Ps r c l 0) 0 0=(Bv (Dm r c l 0)).2.2.1:=by
       unfold Ps Qo
       refine (Jx (r:=r) (c:=c) (i:=0) (k:=0) hr hc).trans ?_
       rw [A8u ⟨rfl,A81 _⟩,A8u rfl]
      have e3:Cp (c:Int) y.1 0 0=(Bv (Dm r c l 0)).2.2.1:=e1.trans e2
      dsimp only at h0 ⊢
      rw [e3] at h0 ⊢
      refine Ayv ht (A1j h) ?_ h1 h0
      unfold Dm; rw [Gz]; omega
     ·rw [A8t h1] at hd; cases hd
theorem Azl {c n:Nat} {l:List Int} {t:Nat} (ht:t≤900) (fl:Ff l=true) (hn:0<n) (h0:Lo t (Cp (c:Int) l 0 0).toNat) (hd:Xi (E1 (c:Int) l n)=false):∀ i,i<n→Lo (t+40) (Cp (c:Int) l (i:Int) (i:Int)).toNat:=by
 intro i hi
 have fin_a:∀ i:Nat,Aj (Cp (c:Int) l (i:Int) (i:Int)).toNat≠3∧Aj (Cp (c:Int) l (i:Int) (i:Int)).toNat≠4:=fun i=>by
  by_cases k:A7 (Cp (c:Int) l (i:Int) (i:Int))=0
  ·unfold A7 at k; omega
  ·exact Sj (Ma fl _ (at_mem k))
 have hdf:Ff (E1 (c:Int) l n)=true:=List.all_eq_true.2 fun x hx=>by
  obtain ⟨j,_,rfl⟩:=List.mem_map.1 hx
  have k:=fin_a j
  show Ii (toNat ((Dy _:Nat):Int))=true
  rw [A79,Lc,Yu]
  simp [k.1,k.2]
 obtain ⟨b3,b4,ba,hb⟩:=Xv hdf
 have hmem:∀ i:Nat,i<n→Tg (Cp (c:Int) l (i:Int) (i:Int))∈E1 (c:Int) l n:=fun i hi=>List.mem_map.2 ⟨i,List.mem_range.2 hi,rfl⟩
 have em:∀ x:Int,Dy (Tg x).toNat=Dy x.toNat:=fun x=>by
  show Dy (toNat ((Dy _:Nat):Int))=_
  rw [A79]; unfold Dy; omega
 have lB:Lo t (Bg (E1 (c:Int) l n)).toNat:=by
  refine h0.Alu b3 b4 ?_
  have:=hb _ (hmem 0 hn)
  rw [em] at this
  exact this
 have hs:=List.any_eq_false.1 hd _ (hmem i hi)
 simp only [Bool.not_eq_true',Bool.not_eq_false,A8e,Bool.not_eq_true,A8q] at hs
 have hs:Yk (Ch (Bg (E1 (c:Int) l n)) (-40)) (Tg (Cp (c:Int) l (i:Int) (i:Int)))<0:=by
  rcases Int.lt_or_le (Yk (Ch (Bg (E1 (c:Int) l n)) (-40)) (Tg (Cp (c:Int) l (i:Int) (i:Int)))) 0 with h | h
  ·exact h
  ·exact absurd h (by simpa using hs)
 have kb:Bd 1023 (Bg (E1 (c:Int) l n)).toNat∨True:=.inr trivial
 have hsc:=D1 (Bg (E1 (c:Int) l n)) (-40)
 have nB:Bp (Bg (E1 (c:Int) l n)).toNat=false:=by
  unfold Bp
  refine A8c ?_
  unfold Dy at ba; omega
 have lS:Lo (t+40) (Ch (Bg (E1 (c:Int) l n)) (-40)).toNat:=by
  rw [hsc]
  refine lB.scale (by omega) (by omega) ?_
  rw [Jq b4 (by have:=lB.k0; omega)]
  intro k
  have k2:=Ru k
  have l2:=Jr (An (Bg (E1 (c:Int) l n)).toNat) (Av (Bg (E1 (c:Int) l n)).toNat+-40)
  rw [nB,Ip,A8k l2] at k2
  have r1:=Yb (b:=(Bg (E1 (c:Int) l n)).toNat) b4
  have r2:=(Di (An (Bg (E1 (c:Int) l n)).toNat) 40 (Av (Bg (E1 (c:Int) l n)).toNat)).1
  have r3:=Gj (V:=An (Bg (E1 (c:Int) l n)).toNat) (W:=An (Bg (E1 (c:Int) l n)).toNat*2^40) (E:=Av (Bg (E1 (c:Int) l n)).toNat-(40:Nat)) (Nat.le_mul_of_pos_right _ (by decide))
  rw [r2,r1] at r3
  have k3:=Xd b3 b4
  have:B1 (An (Bg (E1 (c:Int) l n)).toNat) (Av (Bg (E1 (c:Int) l n)).toNat-(40:Nat))=Ei:=k2
  omega
 have ki:=fin_a i
 refine lS.Alu ki.1 ki.2 ?_
 unfold Yk At1 at hs
 split at hs
 ·omega
 ·rename_i hk
  split at hs
  ·rename_i hlt
   have e2:(Tg (Cp (c:Int) l (i:Int) (i:Int))).toNat=Dy (Cp (c:Int) l (i:Int) (i:Int)).toNat:=A79 _
   rw [e2] at hlt
   have n2:Bp (Dy (Cp (c:Int) l (i:Int) (i:Int)).toNat)=false:=A8c (by unfold Dy; omega)
   have n1:Bp (Ch (Bg (E1 (c:Int) l n)) (-40)).toNat=false:=by rw [hsc,T9 b4,nB]
   unfold Jj at hlt
   rw [n1,n2] at hlt
   have hlt:(((Ch (Bg (E1 (c:Int) l n)) (-40)).toNat%2^63:Nat):Int)<((Dy (Cp (c:Int) l (i:Int) (i:Int)).toNat%2^63:Nat):Int):=hlt
   unfold Dy at hlt ⊢
   omega
  ·split at hs<;>omega
theorem Aad {k:Nat} {l:List Int} (h:Ec l (k:Int)=true):TL k l:=fun x hx k0=>by
 have hx:=(List.all_eq_true.1 h) x hx
 unfold Aeg at hx
 rw [A8i,Bool.or_eq_true,A8i,A8e,A8e,A8e] at hx
 obtain ⟨hf,hx⟩:=hx
 have kk:=Sj hf
 have kn:Aj x.toNat≠0:=fun e=>k0 (by unfold A7; omega)
 rcases hx with hx | ⟨hx,_⟩
 ·exact absurd hx k0
 ·unfold Bq E6 at hx
  rw [A8u ⟨hf,kn⟩] at hx
  exact ⟨kk.1,kk.2,fun e=>kn ((Da kk.1 kk.2).1 e),hx⟩
end Go.Cv
namespace Go.Cv
open Go.Den
theorem Ke (f:Nat→Rat):∀ n,sm (n+1) f=f 0+sm n (fun i=>f (i+1))
 | 0=>by
   show (0:Rat)+f 0=f 0+0
   grind
 | n+1=>by
   show sm (n+1) f+f (n+1)=f 0+(sm n (fun i=>f (i+1))+f (n+1))
   rw [Ke f n]; grind
theorem Hi:uR≤1 / 1000000:=by decide +kernel
theorem As8 {c t q T z t' u e:Rat} (hc:0≤c) (hc2:c≤20) (hT:0≤T) (hz:0≤z) (hu:0<u) (hu2:u≤1 / 1000000) (he:0<e)
 (h1:Nr t T (3*c*u*T+2*c*e)) (h2:Nr q z (u*z+e)) (h3:Nr t' (t+q) (u*(T+3*c*u*T+2*c*e+(z+(u*z+e))))) :
 Nr t' (T+z) (3*(c+1)*u*(T+z)+2*(c+1)*e):=by
 have a0:=Rat.mul_nonneg (Rat.le_of_lt hu) hT
 have b0:=Rat.mul_nonneg (Rat.le_of_lt hu) hz
 have c1:3*c*u≤1:=by
  have:=Rat.mul_le_mul_of_nonneg_right hc2 (Rat.le_of_lt hu)
  grind
 have k1:=Rat.mul_le_mul_of_nonneg_right c1 a0
 have k2:=Rat.mul_le_mul_of_nonneg_right (show u≤1 by grind) b0
 have c3:(2*c+1)*u≤1:=by
  have:=Rat.mul_le_mul_of_nonneg_right hc2 (Rat.le_of_lt hu)
  grind
 have k3:=Rat.mul_le_mul_of_nonneg_right c3 (Rat.le_of_lt he)
 have k4:=Rat.mul_nonneg hc b0
 unfold Nr at *
 grind
def zR (k x:Int):Rat:=vR (Cj x.toNat k).1
theorem Anj {k:Int} (hk:k≤0):∀ (l:List Int) (s t:Nat) (T c:Rat),Bl 1 l→Bm t 2 s→0<t→t+l.length≤100→0≤T→0≤c→c+(l.length:Rat)≤20→Nr (vR s) T (3*c*uR*T+2*c*Cb) →
 Nr (vR (Qj k (s:Int) l).toNat) (T+sm l.length (fun j=>zR k (l.getD j 0)*zR k (l.getD j 0))) (3*(c+(l.length:Rat))*uR*(T+sm l.length (fun j=>zR k (l.getD j 0)*zR k (l.getD j 0)))+2*(c+(l.length:Rat))*Cb)
 | [],s,t,T,c,_,_,_,_,_,_,_,h=>by
   have z:((([]:List Int).length:Nat):Rat)=0:=rfl
   have e:sm ([]:List Int).length (fun j=>zR k (([]:List Int).getD j 0)*zR k (([]:List Int).getD j 0))=0:=rfl
   rw [z,e,Rat.add_zero,Rat.add_zero]
   show Nr (vR (toNat (s:Int))) T _
   rw [A79]
   exact h
 | x::l,s,t,T,c,hl,hs,h0,ht,hT,hc,hc2,h=>by
   have el:(((x::l).length:Nat):Rat)=(l.length:Rat)+1:=by
    rw [List.length_cons]; exact Rat.natCast_add _ 1
   simp only [List.length_cons] at ht
   rw [el] at hc2 ⊢
   have hln:=Mu l.length
   have b1:Bd 1 (Cj x.toNat k).1:=Bd.scale (by decide) (hl x A9m) (by omega)
   have b2:Bd 2 (Hc (Cj x.toNat k).1 (Cj x.toNat k).1).1:=Bd.mul (j:=1) (k:=1) (by decide) b1 b1
   have b3:=Bm.add (k:=2) (by omega) (by omega) (by decide) hs b2.bm
   have zz:=By (vR (Cj x.toNat k).1)
   have m1:=Ug b1.1 b1.2.1 b1.1 b1.2.1 b2.1 (B:=vR (Cj x.toNat k).1*vR (Cj x.toNat k).1) (by unfold Ab; grind)
   have u0:=Fa
   have e0:=Ex
   have m2:=Aa5 hs.1 hs.2.1 b2.1 b2.2.1 b3.1 (B:=T+3*c*uR*T+2*c*Cb+(vR (Cj x.toNat k).1*vR (Cj x.toNat k).1+(uR*(vR (Cj x.toNat k).1*vR (Cj x.toNat k).1)+Cb))) (by
    have n1:=h.1
    have n2:=h.2
    have n3:=m1.1
    have n4:=m1.2
    have n5:=Rat.mul_nonneg (Rat.le_of_lt u0) zz
    have n6:=Rat.mul_nonneg hc (Rat.mul_nonneg (Rat.le_of_lt u0) hT)
    have n7:=Rat.mul_nonneg hc (Rat.le_of_lt e0)
    unfold Ab
    grind)
   have st:=As8 hc (by grind) hT zz u0 Hi e0 h m1 m2
   have ih:=Anj hk l _ (t+1) (T+vR (Cj x.toNat k).1*vR (Cj x.toNat k).1) (c+1) (fun z hz=>hl z (A9c _ hz)) b3 (by omega) (by omega) (by grind) (by grind) (by grind) st
   have es:sm (x::l).length (fun j=>zR k ((x::l).getD j 0)*zR k ((x::l).getD j 0))=vR (Cj x.toNat k).1*vR (Cj x.toNat k).1+sm l.length (fun j=>zR k (l.getD j 0)*zR k (l.getD j 0)):=by
    rw [List.length_cons,Ke]
    rfl
   have eq:(Qj k (s:Int) (x::l)).toNat=(Qj k ((Gf s (Hc (Cj x.toNat k).1 (Cj x.toNat k).1).1).1:Nat) l).toNat:=by
    rw [Qj]
    unfold Md D6
    rw [D1,A79,A79]
   rw [es,eq]
   rw [show T+(vR (Cj x.toNat k).1*vR (Cj x.toNat k).1+sm l.length (fun j=>zR k (l.getD j 0)*zR k (l.getD j 0)))=T+vR (Cj x.toNat k).1*vR (Cj x.toNat k).1+sm l.length (fun j=>zR k (l.getD j 0)*zR k (l.getD j 0)) by grind,show c+((l.length:Rat)+1)=c+1+(l.length:Rat) by grind]
   exact ih
end Go.Cv
namespace Go.Cv
open Go.Den
theorem Z9 (a:Nat):vR a=Qt (Bp a)*((Kg a:Rat)*tw (-1074)):=by
 have pa:=Cu a
 have e:(Kg a:Rat)*tw (-1074)=((An a:Nat):Rat)*tw (Av a):=by
  have:=Sx (An a) (Av a-(-1074)).toNat (Av a)
  rw [show Av a-((Av a-(-1074)).toNat:Int)=-1074 by omega] at this
  exact this
 rw [e]
 unfold vR
 grind
theorem Adl {k a:Nat} (h:Bd k a):Ab (vR a) (tw k):=by
 rw [Z9,Agk (Qm _ _)]
 have h1:=C0 h.2.2
 rw [← J3] at h1
 have h2:=Rat.mul_le_mul_of_nonneg_right h1 (Rat.le_of_lt (D0 (-1074)))
 rw [← E3] at h2
 have e:((k+1074:Nat):Int)+-1074=k:=by omega
 rw [e] at h2
 exact h2
def av (x:Rat):Rat:=if 0≤x then x else -x
theorem Eo (x:Rat):0≤av x:=by unfold av; split<;>grind
theorem Ib (x:Rat):Ab x (av x):=by unfold av Ab; split<;>grind
theorem Li {x B:Rat} (h:Ab x B):av x≤B:=by unfold Ab at h; unfold av; split<;>grind
theorem D9 (x y:Rat):av (x*y)=av x*av y:=by
 unfold av
 by_cases hx:0≤x
 ·by_cases hy:0≤y
  ·have:=Rat.mul_nonneg hx hy
   rw [A8u hx,A8u hy,A8u this]
  ·have:=Rat.mul_nonneg hx (show 0≤-y by grind)
   rw [A8u hx,A8t hy]
   split<;>grind
 ·by_cases hy:0≤y
  ·have:=Rat.mul_nonneg (show 0≤-x by grind) hy
   rw [A8t hx,A8u hy]
   split<;>grind
  ·have:=Rat.mul_nonneg (show 0≤-x by grind) (show 0≤-y by grind)
   rw [A8t hx,A8t hy]
   split<;>grind
theorem Lh (x:Rat):av x*av x=x*x:=by unfold av; split<;>grind
theorem Iz (x y:Rat):av (x+y)≤av x+av y:=by
 have h1:=Ib x
 have h2:=Ib y
 refine Li ?_
 unfold Ab at *; grind
theorem Iq {x y d:Rat}:Nr x y d↔av (x-y)≤d:=by
 unfold Nr av
 split<;>constructor<;>intro h<;>grind
theorem Vp {a:Nat} (h:pw 0≤a%2^63):1≤av (vR a):=by
 obtain ⟨h1,h2⟩:=Ra h
 have m1:=C0 h1
 have t:((2^52:Nat):Rat)=tw 52:=(J3 52).symm
 rw [t] at m1
 have m2:tw (-52)≤tw (Av a):=Aea h2
 have m3:=Ee m1 m2 (Mu _) (Rat.le_of_lt (D0 _))
 have e:tw 52*tw (-52)=1:=by rw [← E3]; exact T2
 rw [e] at m3
 have e2:av (vR a)=((An a:Nat):Rat)*tw (Av a):=by
  have hn:=Qm (An a) (Av a)
  unfold vR Qt
  cases Bp a
  ·have e:(if false=true then (-1:Rat) else 1)=1:=rfl
   rw [e,Rat.one_mul]; unfold av; rw [A8u hn]
  ·have e:(if true=true then (-1:Rat) else 1)=-1:=rfl
   rw [e]
   unfold av
   split<;>grind
 rw [e2]
 exact m3
theorem Axb {a:Nat} (h:Bp a=false):0≤vR a:=by
 unfold vR
 rw [h]
 have hn:=Qm (An a) (Av a)
 have e:Qt false=1:=rfl
 rw [e]; grind
theorem Anm {f g:Nat→Rat} {d:Rat}:∀ n,(∀ i,i<n→Nr (f i) (g i) d)→Nr (sm n f) (sm n g) ((n:Rat)*d)
 | 0,_=>by
   have z:((0:Nat):Rat)=0:=rfl
   show Nr 0 0 _
   rw [z]; unfold Nr; grind
 | n+1,h=>by
   have ih:=Anm n fun i hi=>h i (by omega)
   have h1:=h n (by omega)
   have e:((n+1:Nat):Rat)=(n:Rat)+1:=Rat.natCast_add n 1
   show Nr (sm n f+f n) (sm n g+g n) _
   rw [e]
   unfold Nr at *; grind
theorem Anl {x y d B:Rat} (h:Nr x y d) (hB:Ab y B) (hd:0≤d):Nr (x*x) (y*y) (d*(2*B+d)):=by
 have e:x*x-y*y=(x-y)*(x+y):=by grind
 rw [Iq,e,D9]
 have h1:=Iq.1 h
 have h2:av (x+y)≤2*B+d:=by
  refine Li ?_
  unfold Nr at h
  unfold Ab at *
  grind
 exact Ee h1 h2 hd (Eo _)
def rv (l:List Int) (i:Nat):Rat:=vR (l.getD i 0).toNat
theorem A42 {k:Nat} {l:List Int} (h:Bl k l) (i:Nat):Ab (rv l i) (tw k):=Adl (R8 h i)
theorem tw1:tw 1=2:=by decide +kernel
theorem A6h:tw (-1)=1 / 2:=by decide +kernel
theorem Aub {y:List Int} (hy:Bl 1 y) (hl:y.length≤7) (h:∃ z∈y,pw 0≤z.toNat%2^63) :
 Nr (vR (Dr y).toNat*vR (Dr y).toNat) (sq y.length (rv y)) (40*uR*sq y.length (rv y))∧1≤vR (Dr y).toNat∧1≤sq y.length (rv y):=by
 obtain ⟨n1,n2⟩:=An6 hy hl h
 have hm1:1≤sq y.length (rv y):=by
  obtain ⟨z,hz,g⟩:=h
  obtain ⟨j,hj,rfl⟩:=List.mem_iff_getElem.1 hz
  have e:rv y j=vR (y[j]).toNat:=by unfold rv; rw [A8h,A8o hj]; rfl
  have h1:=Vp g
  rw [← e] at h1
  have h2:=Aag (f:=fun i=>rv y i*rv y i) hj fun i _=>By _
  have h3:=Px (x:=1) (y:=av (rv y j)) (by decide) h1
  rw [Lh] at h3
  unfold sq
  grind
 have nn:Bp (Dr y).toNat=false:=N4 n2.2
 have hv0:=Axb nn
 have hv1:1≤vR (Dr y).toNat:=by
  have nl:(Dr y).toNat<2^63:=by have:=n2.2; rw [J6] at this; omega
  have:=Vp (a:=(Dr y).toNat) (by rw [A8k nl]; exact n2.1)
  unfold av at this
  rw [A8u hv0] at this
  exact this
 refine ⟨?_,hv1,hm1⟩
 have hf:=hy.Np
 have h0:∃ z∈y,A7 z≠0:=by
  obtain ⟨z,hz,g⟩:=h
  refine ⟨z,hz,fun k=>?_⟩
  have:=Iu (b:=z.toNat) (by unfold A7 at k; omega)
  rw [Agq] at g; omega
 obtain ⟨b3,b4,ba,hb⟩:=Xv hf
 have hB:pw 0≤Dy (Bg y).toNat:=by
  obtain ⟨z,hz,g⟩:=h
  exact A9e g (hb z hz)
 obtain ⟨w,hw,w0,we⟩:=Xu hf h0
 have wk:=Sj (Ma hf w hw)
 have ee:Bq (Bg y)=E6 w.toNat:=by unfold Bq; rw [we,Xm w.toNat]; rfl
 obtain ⟨x1,_⟩:=Uo wk.1 wk.2 w0
 have wm:An w.toNat≠0:=fun e=>w0 ((Da wk.1 wk.2).1 e)
 have u1:=(hy w hw).log wm
 have u2:=(Lo.Ab6 (a:=w.toNat) wk.1 wk.2 (by
  rw [we] at hB
  show pw 0≤Dy w.toNat
  unfold Dy at hB ⊢; omega)).log
 have e01:E6 w.toNat=0∨E6 w.toNat=1:=by omega
 have en:Dr y=Ch (Ie (Qj (-E6 w.toNat) 0 y)) (E6 w.toNat):=by
  unfold Dr
  rw [A8t (fun k=>by
   rcases k with k | k
   ·rw [k] at hB; rw [Agq] at hB; revert hB; decide
   ·unfold Dk at k; rw [Lc] at k; simp [b3,b4] at k),ee]
 obtain ⟨t,te,t1,t2⟩:=Ak5 (-E6 w.toNat) y 0 (Nat.zero_le _)
 have tb:=t2 (.inr ⟨w,hw,by rw [D1]; exact Vj wk.1 wk.2 w0⟩)
 have te:Qj (-E6 w.toNat) 0 y=t:=te
 have z0:vR 0=0:=Jo false
 have hlen:(y.length:Rat)≤7:=C0 hl
 have se:=Anj (k:=-E6 w.toNat) (by omega) y 0 1 0 0 hy (Bd.zero false 2).bm (by decide) (by omega) (Rat.le_refl) (Rat.le_refl) (by grind) (by rw [z0]; unfold Nr; grind)
 have se:Nr (vR (Qj (-E6 w.toNat) 0 y).toNat) _ _:=se
 have bm:=Ak6 (k:=-E6 w.toNat) (by omega) y 0 1 hy (Bd.zero false 2).bm (by decide) (by omega)
 have bm:Bm (1+y.length) 2 (Qj (-E6 w.toNat) 0 y).toNat:=bm
 rw [te,A79] at bm se
 rw [te] at en
 have bt:Bd (3+3) t:=(bm.bd (j:=3) (by omega)).mono (by decide)
 have br:Bd 3 (Hw t).1:=Bd.root (by decide) bt (N4 tb.2)
 have hr:=Atb bt.1 bt.2.1 (.inl (N4 tb.2)) br.1
 have en2:(Dr y).toNat=(Cj (Hw t).1 (E6 w.toNat)).1:=by
  rw [en,D1]
  unfold Ie
  rw [A79,A79]
 have hsc:=Ua (a:=(Hw t).1) (n:=E6 w.toNat) br.1 br.2.1 (by rw [← en2]; exact n1.1)
 rw [← en2] at hsc
 have r8:=Adl br
 generalize vR (Hw t).1=r at *
 generalize vR (Dr y).toNat=v at *
 have hz:Nr (sm y.length (fun j=>zR (-E6 w.toNat) (y.getD j 0)*zR (-E6 w.toNat) (y.getD j 0))) (sm y.length (fun j=>rv y j*tw (-E6 w.toNat)*(rv y j*tw (-E6 w.toNat)))) ((y.length:Rat)*(Cb*(2*2+Cb))):=Anm _ fun i hi=>by
  have hb1:=hy (y.getD i 0) (by rw [A8h,A8o hi]; exact List.getElem_mem hi)
  have bs:Bd 1 (Cj (y.getD i 0).toNat (-E6 w.toNat)).1:=Bd.scale (by decide) hb1 (by omega)
  have s1:=Ua (n:=-E6 w.toNat) hb1.1 hb1.2.1 bs.1
  refine Anl (B:=2) s1 ?_ (Rat.le_of_lt Ex)
  have a1:=Adl hb1
  have t1':tw ((1:Nat):Int)=2:=tw1
  rw [t1'] at a1
  show Ab (vR (y.getD i 0).toNat*tw (-E6 w.toNat)) 2
  rcases e01 with e | e
  ·rw [e]
   have:tw (-0)=1:=T2
   rw [this,Rat.mul_one]; exact a1
  ·rw [e,A6h]
   unfold Ab at *; grind
 have hs2:sm y.length (fun j=>rv y j*tw (-E6 w.toNat)*(rv y j*tw (-E6 w.toNat)))=tw (-E6 w.toNat)*tw (-E6 w.toNat)*sq y.length (rv y):=by
  unfold sq
  rw [← Gm]
  exact Bo _ fun i _=>by grind
 rw [hs2] at hz
 generalize sq y.length (rv y)=m at *
 generalize sm y.length (fun j=>zR (-E6 w.toNat) (y.getD j 0)*zR (-E6 w.toNat) (y.getD j 0))=Z at *
 generalize vR t=T at *
 have hn0:=Mu y.length
 generalize (y.length:Rat)=n at *
 have u0:=Fa
 have e0:=Ex
 have es:Cb≤uR / 1000000:=by decide +kernel
 have es2:Cb≤1 / 1000000:=by decide +kernel
 have hK:tw (E6 w.toNat)*tw (-E6 w.toNat)=1:=by
  rw [← E3,show E6 w.toNat+-E6 w.toNat=0 by omega]; exact T2
 have hk2:0<tw (E6 w.toNat)∧tw (E6 w.toNat)≤2:=by
  refine ⟨D0 _,?_⟩
  rcases e01 with e | e
  ·rw [e,T2]; decide
  ·rw [e,tw1]; exact Rat.le_refl
 have t3:tw ((3:Nat):Int)=8:=by decide +kernel
 rw [t3] at r8
 generalize tw (E6 w.toNat)=K at *
 generalize tw (-E6 w.toNat)=J at *
 have hr1:Ab (r*K) 16:=by
  have h1:=Ee r8.2 hk2.2 (by decide) (Rat.le_of_lt hk2.1)
  have h2:=Rat.mul_nonneg hr.2.1 (Rat.le_of_lt hk2.1)
  unfold Ab; grind
 have s1:=Anl hsc hr1 (Rat.le_of_lt e0)
 have hKK:=Rat.mul_nonneg (Rat.le_of_lt hk2.1) (Rat.le_of_lt hk2.1)
 have hK4:=Ee hk2.2 hk2.2 (by decide) (Rat.le_of_lt hk2.1)
 have s2:=hr.1.scale hKK
 have s3:=se.scale hKK
 have s4:=hz.scale hKK
 have c4:J*J*m*(K*K)=m:=by
  have:J*J*m*(K*K)=(K*J)*(K*J)*m:=by grind
  rw [this,hK]; grind
 rw [c4] at s4
 have d1:n*(Cb*(2*2+Cb))*(K*K)≤150*Cb:=by
  have a1:=Ee hlen (show Cb*(2*2+Cb)≤Cb*(501 / 100) from Rat.mul_le_mul_of_nonneg_left (by grind) (Rat.le_of_lt e0)) (by decide) (Rat.mul_nonneg (Rat.le_of_lt e0) (by grind))
  have a2:=Ee a1 hK4 (by grind) hKK
  grind
 have s4:=s4.mono d1
 have hZ0:0≤Z*(K*K):=by have:=s4.2; grind
 have g1:(3*(0+n)*uR*(0+Z)+2*(0+n)*Cb)*(K*K)≤21*(uR*(Z*(K*K)))+56*Cb:=by
  have a1:=Rat.mul_le_mul_of_nonneg_right hlen (Rat.mul_nonneg (Rat.le_of_lt u0) hZ0)
  have a2:=Ee (Ee hlen (Rat.le_refl:Cb≤Cb) (by decide) (Rat.le_of_lt e0)) hK4 (by grind) hKK
  grind
 have s3:=s3.mono g1
 rw [Rat.zero_add] at s3
 generalize hZ':Z*(K*K)=Z' at *
 generalize hT':T*(K*K)=T' at *
 have s2':Nr (r*r*(K*K)) T' (8*(uR*T')):=s2.mono (by rw [← hT']; grind)
 have eR:r*K*(r*K)=r*r*(K*K):=by grind
 rw [eR] at s1
 have f1:Z'≤m+m / 1000:=by have:=s4.1; grind
 have f2:=I2 f1
 have f3:uR*(m+m / 1000)≤m / 100000:=by
  have:=Rat.mul_le_mul_of_nonneg_right Hi (show 0≤m+m / 1000 by grind)
  grind
 have f4:T'≤m+m / 100:=by have:=s3.1; grind
 have f5:=I2 f4
 have f6:uR*(m+m / 1000)=uR*m+uR*m / 1000:=by grind
 have f7:uR*(m+m / 100)=uR*m+uR*m / 100:=by grind
 have f8:uR≤uR*m:=by
  have:=Rat.mul_le_mul_of_nonneg_left hm1 (Rat.le_of_lt u0)
  grind
 have s1':Nr (v*v) (r*r*(K*K)) (33*Cb):=s1.mono (by
  have:=Rat.mul_le_mul_of_nonneg_left (show 2*16+Cb≤33 by grind) (Rat.le_of_lt e0)
  grind)
 refine ((s1'.trans s2').trans (s3.trans s4)).mono ?_
 grind
end Go.Cv
namespace Go.Cv
theorem J0 {x y z d:Rat} (h:Nr x y d):av x≤av y+d:=by
 have h1:=Ib y
 refine Li ?_
 unfold Nr at h; unfold Ab at *; grind
theorem Qp (x:Rat):av (-x)=av x:=by unfold av; split<;>split<;>grind
theorem Rb {x:Rat} (h:0≤x):av x=x:=by unfold av; rw [A8u h]
theorem A5e (x:Rat):x≤av x:=(Ib x).2
theorem Ns {a b:Rat} (h:b≠0):a / b*b=a:=by grind
theorem Atv {w D d q:Rat} (hD:0<av D) (hd:Nr d D (uR*av D)) (hq:q*d=w*D):av (q-w)≤11 / 10*uR*av w:=by
 have u0:=Fa
 have us:=Hi
 have h1:=Iq.1 hd
 have aw:=Eo w
 have h2:(1-uR)*av D≤av d:=by
  have:=J0 (z:=0) hd.symm
  grind
 have e:(q-w)*d=w*(D-d):=by grind
 have h3:av (q-w)*av d=av w*av (D-d):=by rw [← D9,← D9,e]
 have h4:av (D-d)≤uR*av D:=Iq.1 hd.symm
 have h5:=Rat.mul_le_mul_of_nonneg_left h4 aw
 have h6:=Rat.mul_le_mul_of_nonneg_left h2 (Eo (q-w))
 have h7:av (q-w)*(1-uR)*av D≤av w*uR*av D:=by grind
 have h8:=Rat.le_of_mul_le_mul_right h7 hD
 refine Rat.le_of_mul_le_mul_right (c:=1-uR) ?_ (by grind)
 have h9:(1:Rat)≤11 / 10*(1-uR):=by grind
 have h10:=Rat.mul_le_mul_of_nonneg_right h9 (Rat.mul_nonneg (Rat.le_of_lt u0) aw)
 grind
section
variable {k:Nat} {y v:Nat→Rat} {μ τ d p:Rat}
structure I1 (k:Nat) (y v:Nat→Rat) (μ τ d p:Rat):Prop where
 k6:k≤6
 v0:v 0=1
 one:1≤av μ
 Ik:y 0*μ≤0
 len:Nr (μ*μ) (sq (k+1) y) (40*uR*sq (k+1) y)
 two:∀ i,i≤k→Ab (y i) 2
 hd:Nr d (y 0-μ) (uR*av (y 0-μ))
 hp:Nr p (μ-y 0) (uR*av (y 0-μ))
 hv:∀ i,i<k→∀ q,q*d=y (i+1)→Nr (v (i+1)) q (2*uR*av q+Cb)
 ht:∀ q,q*μ=p→Nr τ q (2*uR*av q+Cb)
theorem O6 (n:Nat) (f:Nat→Rat):sq (n+1) f=f 0*f 0+sq n (fun i=>f (i+1)):=Ke (fun i=>f i*f i) n
theorem I1.D (h:I1 k y v μ τ d p):av (y 0-μ)=av (y 0)+av μ:=by
 have h1:=h.one
 have h2:=h.Ik
 unfold av at *
 by_cases a:0≤μ
 ·rw [A8u a] at h1 ⊢
  have:y 0≤0:=by
   rcases (Rat.le_total:y 0≤0∨0≤y 0) with g | g
   ·exact g
   ·have:=Rat.mul_le_mul_of_nonneg_left h1 g
    grind
  split<;>(try split)<;>grind
 ·rw [A8t a] at h1 ⊢
  have:0≤y 0:=by
   rcases (Rat.le_total:0≤y 0∨y 0≤0) with g | g
   ·exact g
   ·have:=Rat.mul_le_mul_of_nonneg_left h1 (show 0≤-(y 0) by grind)
    grind
  split<;>(try split)<;>grind
theorem I1.Ah2 (h:I1 k y v μ τ d p):0<av (y 0-μ)∧av μ≤av (y 0-μ)∧y 0-μ≠0∧μ≠0:=by
 have h1:=h.one
 have h2:=h.D
 have h3:=Eo (y 0)
 refine ⟨by grind,by grind,fun e=>?_,fun e=>?_⟩
 ·rw [e] at h2
  have:av 0=0:=by decide
  grind
 ·rw [e] at h1
  have:av 0=0:=by decide
  grind
def wR (y:Nat→Rat) (μ:Rat) (i:Nat):Rat:=y i / (y 0-μ)
theorem I1.w (h:I1 k y v μ τ d p) (i:Nat):wR y μ i*(y 0-μ)=y i:=Ns h.Ah2.2.2.1
theorem I1.vw (h:I1 k y v μ τ d p) {i:Nat} (hi:i<k):av (v (i+1)-wR y μ (i+1))≤4*uR*av (wR y μ (i+1))+Cb:=by
 have u0:=Fa
 have us:=Hi
 have hD:=h.Ah2.1
 have d0:d≠0:=fun e=>by
  have:=J0 (z:=0) h.hd.symm
  rw [e] at this
  have z:av 0=0:=by decide
  have:uR*av (y 0-μ)≤1 / 1000000*av (y 0-μ):=Rat.mul_le_mul_of_nonneg_right us (Rat.le_of_lt hD)
  grind
 have hq:=Ns (a:=y (i+1)) d0
 have h1:=Iq.1 (h.hv i hi _ hq)
 have h2:=Atv (w:=wR y μ (i+1)) hD h.hd (by rw [h.w]; exact hq)
 have aw:=Eo (wR y μ (i+1))
 generalize y (i+1) / d=q at *
 generalize wR y μ (i+1)=w at *
 have h3:av q≤11 / 10*av w:=by
  have:=Iz w (q-w)
  rw [show w+(q-w)=q by grind] at this
  have:11 / 10*uR*av w≤1 / 10*av w:=Rat.mul_le_mul_of_nonneg_right (by grind) aw
  grind
 have h4:=Iz (v (i+1)-q) (q-w)
 rw [show v (i+1)-q+(q-w)=v (i+1)-w by grind] at h4
 have h5:=I2 h3
 have h6:=Rat.mul_nonneg (Rat.le_of_lt u0) aw
 grind
theorem Wl {f g d:Nat→Rat}:∀ n,(∀ i,i<n→Nr (f i) (g i) (d i))→Nr (sm n f) (sm n g) (sm n d)
 | 0,_=>by
   show Nr 0 0 0
   unfold Nr; grind
 | n+1,h=>by
   have ih:=Wl n fun i hi=>h i (by omega)
   have h1:=h n (by omega)
   show Nr (sm n f+f n) (sm n g+g n) (sm n d+d n)
   unfold Nr at *; grind
def W2 (k:Nat) (y:Nat→Rat) (μ:Rat):Rat:=sm k fun i=>wR y μ (i+1)*wR y μ (i+1)
def V2 (k:Nat) (v:Nat→Rat):Rat:=sm k fun i=>v (i+1)*v (i+1)
theorem I1.W (h:I1 k y v μ τ d p):W2 k y μ*((y 0-μ)*(y 0-μ))=sq (k+1) y-y 0*y 0∧0≤W2 k y μ:=by
 refine ⟨?_,Qv k fun i _=>By _⟩
 have e:sq (k+1) y-y 0*y 0=sq k (fun i=>y (i+1)):=by rw [O6]; grind
 rw [e]
 unfold W2 sq
 rw [Rat.mul_comm,← Gm]
 refine Bo k fun i _=>?_
 have:=h.w (i+1)
 generalize wR y μ (i+1)=w at *
 show (y 0-μ)*(y 0-μ)*(w*w)=y (i+1)*y (i+1)
 rw [← this]
 grind
theorem I1.m2 (h:I1 k y v μ τ d p):sq (k+1) y≤(1+41*uR)*(μ*μ)∧0≤sq (k+1) y:=by
 have h0:=Nf (k+1) y
 refine ⟨?_,h0⟩
 have h1:=h.len.2
 have c:1≤(1+41*uR)*(1-40*uR):=by decide +kernel
 have h2:=Rat.mul_le_mul_of_nonneg_right c h0
 have h3:=Rat.mul_le_mul_of_nonneg_left (show (1-40*uR)*sq (k+1) y≤μ*μ by grind) (show 0≤1+41*uR by decide +kernel)
 grind
theorem I1.f0 (h:I1 k y v μ τ d p):av (y 0)≤101 / 100*av μ∧av (y 0-μ)≤201 / 100*av μ:=by
 have h1:=h.m2.1
 have h2:y 0*y 0≤sq (k+1) y:=by
  rw [O6]
  have:=Nf k fun i=>y (i+1)
  grind
 have a0:=Eo μ
 have h3:av (y 0)≤101 / 100*av μ:=by
  refine Ph (by grind) ?_
  rw [Lh]
  have e:101 / 100*av μ*(101 / 100*av μ)=101 / 100*(101 / 100)*(μ*μ):=by rw [← Lh μ]; grind
  rw [e]
  have c:1+41*uR≤101 / 100*(101 / 100):=by decide +kernel
  have:=Rat.mul_le_mul_of_nonneg_right c (By μ)
  grind
 refine ⟨h3,?_⟩
 rw [h.D]; grind
theorem I1.Wle (h:I1 k y v μ τ d p):W2 k y μ≤1+41*uR:=by
 obtain ⟨h1,h2⟩:=h.W
 obtain ⟨d1,d2,d3,d4⟩:=h.Ah2
 have hDD:=Px (Eo μ) d2
 rw [Lh,Lh] at hDD
 have hm:=h.m2.1
 have y0:=By (y 0)
 have h3:=Rat.mul_le_mul_of_nonneg_left hDD (show 0≤1+41*uR by decide +kernel)
 have hp:0<(y 0-μ)*(y 0-μ):=by
  have:=Rat.mul_pos d1 d1
  rw [Lh] at this
  exact this
 refine Rat.le_of_mul_le_mul_right (c:=(y 0-μ)*(y 0-μ)) ?_ hp
 grind
theorem I1.wle (h:I1 k y v μ τ d p) {i:Nat} (hi:i≤k):av (wR y μ i)≤2:=by
 obtain ⟨d1,d2,d3,d4⟩:=h.Ah2
 have h1:=Li (h.two i hi)
 have h2:=h.w i
 have h3:av (wR y μ i)*av (y 0-μ)=av (y i):=by rw [← D9,h2]
 refine Rat.le_of_mul_le_mul_right (c:=av (y 0-μ)) ?_ d1
 have:=h.one
 grind
theorem Axz {a b e:Rat} (h:av (a-b)≤4*uR*av b+e) (he:0≤e) (he2:e≤1 / 1000000) (hb:av b≤2):Nr (a*a) (b*b) (9*uR*(b*b)+5*e):=by
 have u0:=Fa
 have b0:=Eo b
 have ub:=Rat.mul_nonneg (Rat.le_of_lt u0) b0
 have e1:a*a-b*b=(a-b)*(a+b):=by grind
 have h2:av (a+b)≤2*av b+(4*uR*av b+e):=by
  have:=Iz (a-b) (2*b)
  rw [show a-b+2*b=a+b by grind,D9] at this
  have t:av 2=2:=by decide
  rw [t] at this
  grind
 rw [Iq,e1,D9]
 have h3:=Ee h h2 (by grind) (Eo _)
 have k1:uR*av b≤1 / 1000000*av b:=Rat.mul_le_mul_of_nonneg_right Hi b0
 have k2:=Rat.mul_le_mul_of_nonneg_left k1 ub
 have k3:=Rat.mul_le_mul_of_nonneg_left (show 2*av b+(4*uR*av b+e)+4*uR*av b≤5 by grind) he
 rw [← Lh b]
 have k4:=Rat.mul_nonneg ub b0
 grind
theorem I1.VW (h:I1 k y v μ τ d p):Nr (V2 k v) (W2 k y μ) (9*uR*W2 k y μ+30*Cb):=by
 have e0:=Ex
 have e2:Cb≤1 / 1000000:=by decide +kernel
 have h1:=Wl k fun i hi=>Axz (h.vw hi) (Rat.le_of_lt e0) e2 (h.wle (i:=i+1) (by omega))
 refine h1.mono ?_
 have e:sm k (fun i=>9*uR*(wR y μ (i+1)*wR y μ (i+1))+5*Cb)=9*uR*W2 k y μ+(k:Rat)*(5*Cb):=by
  rw [Ho (fun i=>9*uR*(wR y μ (i+1)*wR y μ (i+1))) (fun _=>5*Cb),Gm,O8]
  rfl
 rw [e]
 have hk:(k:Rat)≤6:=C0 h.k6
 have:=Rat.mul_le_mul_of_nonneg_right hk (show 0≤5*Cb by grind)
 grind
def tR (y:Nat→Rat) (μ:Rat):Rat:=-(y 0-μ) / μ
theorem I1.t (h:I1 k y v μ τ d p):tR y μ*μ=-(y 0-μ):=Ns h.Ah2.2.2.2
theorem I1.tle (h:I1 k y v μ τ d p):av (tR y μ)≤201 / 100∧av (τ-tR y μ)≤7*uR∧av (tR y μ)*av μ=av (y 0-μ):=by
 have u0:=Fa
 have ht:=h.t
 have one:=h.one
 have hm:0<av μ:=by grind
 have h1:av (tR y μ)*av μ=av (y 0-μ):=by rw [← D9,ht,Qp]
 have h2:av (tR y μ)≤201 / 100:=by
  refine Rat.le_of_mul_le_mul_right (c:=av μ) ?_ hm
  rw [h1]; exact h.f0.2
 refine ⟨h2,?_,h1⟩
 have hq:=Ns (a:=p) h.Ah2.2.2.2
 have h3:=Iq.1 (h.ht _ hq)
 generalize p / μ=q at *
 generalize tR y μ=t at *
 have h4:av (q-t)≤uR*av t:=by
  refine Rat.le_of_mul_le_mul_right (c:=av μ) ?_ hm
  have e:(q-t)*μ=p-(μ-y 0):=by grind
  have e2:av (q-t)*av μ=av (p-(μ-y 0)):=by rw [← D9,e]
  have:=Iq.1 h.hp
  rw [e2]
  have e3:uR*av t*av μ=uR*av (y 0-μ):=by rw [← h1]; grind
  rw [e3]; exact this
 have h5:av q≤av t+uR*av t:=by
  have:=Iz t (q-t)
  rw [show t+(q-t)=q by grind] at this
  grind
 have h6:=Iz (τ-q) (q-t)
 rw [show τ-q+(q-t)=τ-t by grind] at h6
 have t0:=Eo t
 have k1:=I2 h2
 have k2:=I2 h5
 have k3:uR*(uR*av t)≤1 / 1000000*(uR*av t):=Rat.mul_le_mul_of_nonneg_right Hi (Rat.mul_nonneg (Rat.le_of_lt u0) t0)
 have e1:Cb≤uR / 1000000:=by decide +kernel
 grind
theorem I1.tt (h:I1 k y v μ τ d p):av (tR y μ*(1+W2 k y μ)-2)≤41*uR:=by
 obtain ⟨hW,_⟩:=h.W
 have ht:=h.t
 obtain ⟨d1,d2,d3,d4⟩:=h.Ah2
 have one:=h.one
 have hm:0<av μ:=by grind
 generalize W2 k y μ=W at *
 generalize tR y μ=t at *
 have e:(t*(1+W)-2)*(μ*(y 0-μ))=-(sq (k+1) y-μ*μ):=by
  have e0:(t*(1+W)-2)*(μ*(y 0-μ))*(y 0-μ)=-(sq (k+1) y-μ*μ)*(y 0-μ):=by grind
  have e1:((t*(1+W)-2)*(μ*(y 0-μ)) - -(sq (k+1) y-μ*μ))*(y 0-μ)=0:=by grind
  rcases Rat.mul_eq_zero.1 e1 with g | g
  ·grind
  ·exact absurd g d3
 have e2:av (t*(1+W)-2)*(av μ*av (y 0-μ))=av (sq (k+1) y-μ*μ):=by
  rw [← D9,← D9,e,Qp]
 have hl:=Iq.1 h.len.symm
 have hm2:=h.m2.1
 have k1:=Rat.mul_le_mul_of_nonneg_left hm2 (show 0≤40*uR by decide +kernel)
 have c:40*uR*(1+41*uR)≤41*uR:=by decide +kernel
 have k2:=Rat.mul_le_mul_of_nonneg_right c (By μ)
 have k3:=Rat.mul_le_mul_of_nonneg_left d2 (Eo μ)
 rw [Lh] at k3
 have k4:=Rat.mul_le_mul_of_nonneg_left k3 (show 0≤41*uR by decide +kernel)
 refine Rat.le_of_mul_le_mul_right (c:=av μ*av (y 0-μ)) ?_ (Rat.mul_pos hm d1)
 grind
theorem I1.sqv (h:I1 k y v μ τ d p):sq (k+1) v=1+V2 k v:=by
 rw [O6,h.v0]
 unfold V2 sq
 grind
theorem I1.Auh (h:I1 k y v μ τ d p):Nr (τ*sq (k+1) v) 2 (100*uR)∧Ab τ (21 / 10)∧sq (k+1) v≤201 / 100:=by
 have u0:=Fa
 have us:=Hi
 have e1:Cb≤uR / 1000000:=by decide +kernel
 obtain ⟨t1,t2,_⟩:=h.tle
 have hVW:=h.VW
 have hW:=h.Wle
 have hW0:=h.W.2
 have htt:=h.tt
 rw [h.sqv]
 have hV:=hVW.1
 have k0:uR*W2 k y μ≤2*uR:=Rat.le_trans (I2 hW) (by decide +kernel)
 have hV2:V2 k v≤101 / 100:=by grind
 refine ⟨?_,?_,by grind⟩
 ·rw [Iq]
  have hV0:0≤V2 k v:=Qv k fun i _=>By _
  generalize W2 k y μ=W at *
  generalize V2 k v=V at *
  generalize tR y μ=t at *
  have a1:av ((τ-t)*(1+V))≤7*uR*(201 / 100):=by
   rw [D9]
   have:av (1+V)≤201 / 100:=by rw [Rb (by grind)]; grind
   exact Ee t2 this (by grind) (Eo _)
  have a2:av (t*(V-W))≤201 / 100*(20*uR):=by
   rw [D9]
   have:=Iq.1 hVW
   exact Ee t1 (show av (V-W)≤20*uR by grind) (by grind) (Eo _)
  have a3:=Iz ((τ-t)*(1+V)+t*(V-W)) (t*(1+W)-2)
  have a4:=Iz ((τ-t)*(1+V)) (t*(V-W))
  rw [show (τ-t)*(1+V)+t*(V-W)+(t*(1+W)-2)=τ*(1+V)-2 by grind] at a3
  grind
 ·have:=Iz (tR y μ) (τ-tR y μ)
  rw [show tR y μ+(τ-tR y μ)=τ by grind] at this
  have h2:=Ib τ
  unfold Ab at *
  grind
end
end Go.Cv
namespace Go.Cv
theorem Ln.An3 {n:Nat} {f g:Nat→Rat} {s:Rat} (h:∀ i,i<n→av (f i)≤g i) (k:Ln n g s):Ln n f s:=by
 refine ⟨k.1,Rat.le_trans (S3 n fun i hi=>?_) k.2⟩
 have:=Px (Eo (f i)) (h i hi)
 rw [Lh] at this
 exact this
section
variable {k:Nat} {y v:Nat→Rat} {μ τ d p:Rat}
def gR (k:Nat) (y v:Nat→Rat):Rat:=sm (k+1) fun j=>v j*y j
theorem I1.g (h:I1 k y v μ τ d p):av (gR k y v+μ)≤46*uR*av μ:=by
 have u0:=Fa
 have us:=Hi
 have e1:Cb≤uR / 1000000:=by decide +kernel
 have e0:=Ex
 obtain ⟨d1,d2,d3,d4⟩:=h.Ah2
 have one:=h.one
 have a0:=Eo μ
 have hm2:=h.m2.1
 have hX:sm k (fun i=>av (wR y μ (i+1))*av (y (i+1)))*av (y 0-μ)=sq (k+1) y-y 0*y 0:=by
  have e:sq (k+1) y-y 0*y 0=sq k (fun i=>y (i+1)):=by rw [O6]; grind
  rw [e]
  unfold sq
  rw [Rat.mul_comm,← Gm]
  refine Bo k fun i _=>?_
  show av (y 0-μ)*(av (wR y μ (i+1))*av (y (i+1)))=y (i+1)*y (i+1)
  have h2:av (wR y μ (i+1))*av (y 0-μ)=av (y (i+1)):=by rw [← D9,h.w]
  rw [← Lh (y (i+1))]
  generalize av (wR y μ (i+1))=w at *
  rw [← h2]; grind
 have hX2:sm k (fun i=>av (wR y μ (i+1))*av (y (i+1)))≤101 / 100*av μ:=by
  refine Rat.le_of_mul_le_mul_right (c:=av (y 0-μ)) ?_ d1
  rw [hX]
  have y0:=By (y 0)
  have c:1+41*uR≤101 / 100:=by decide +kernel
  have k1:=Rat.mul_le_mul_of_nonneg_right c (By μ)
  have k2:=Rat.mul_le_mul_of_nonneg_left d2 a0
  rw [Lh] at k2
  grind
 have hX0:0≤sm k (fun i=>av (wR y μ (i+1))*av (y (i+1))):=Qv k fun i _=>Rat.mul_nonneg (Eo _) (Eo _)
 have hG:Nr (sm k fun i=>v (i+1)*y (i+1)) (sm k fun i=>wR y μ (i+1)*y (i+1)) (4*uR*sm k (fun i=>av (wR y μ (i+1))*av (y (i+1)))+12*Cb):=by
  have h1:=Wl (f:=fun i=>v (i+1)*y (i+1)) (g:=fun i=>wR y μ (i+1)*y (i+1)) (d:=fun i=>4*uR*(av (wR y μ (i+1))*av (y (i+1)))+2*Cb) k fun i hi=>by
   have hv:=h.vw hi
   have hy:=Li (h.two (i+1) (by omega))
   have y0:=Eo (y (i+1))
   rw [Iq]
   show av (v (i+1)*y (i+1)-wR y μ (i+1)*y (i+1))≤4*uR*(av (wR y μ (i+1))*av (y (i+1)))+2*Cb
   rw [show v (i+1)*y (i+1)-wR y μ (i+1)*y (i+1)=(v (i+1)-wR y μ (i+1))*y (i+1) by grind,D9]
   have h3:=Rat.mul_le_mul_of_nonneg_right hv y0
   have h4:=Rat.mul_le_mul_of_nonneg_left hy (Rat.le_of_lt e0)
   grind
  refine h1.mono ?_
  rw [Ho (fun i=>4*uR*(av (wR y μ (i+1))*av (y (i+1)))) (fun _=>2*Cb),Gm,O8]
  have hk:(k:Rat)≤6:=C0 h.k6
  have:=Rat.mul_le_mul_of_nonneg_right hk (show 0≤2*Cb by grind)
  grind
 have hGe:(sm k fun i=>wR y μ (i+1)*y (i+1))*(y 0-μ)=sq (k+1) y-y 0*y 0:=by
  have e:sq (k+1) y-y 0*y 0=sq k (fun i=>y (i+1)):=by rw [O6]; grind
  rw [e]
  unfold sq
  rw [Rat.mul_comm,← Gm]
  refine Bo k fun i _=>?_
  show (y 0-μ)*(wR y μ (i+1)*y (i+1))=y (i+1)*y (i+1)
  have h2:=h.w (i+1)
  generalize wR y μ (i+1)=w at *
  rw [← h2]; grind
 have eg:gR k y v=y 0+sm k fun i=>v (i+1)*y (i+1):=by
  unfold gR
  rw [Ke,h.v0]; grind
 rw [eg]
 generalize (sm k fun i=>v (i+1)*y (i+1))=G at *
 generalize (sm k fun i=>wR y μ (i+1)*y (i+1))=Ge at *
 generalize sm k (fun i=>av (wR y μ (i+1))*av (y (i+1)))=X at *
 have h5:av (y 0+Ge+μ)≤41*uR*av μ:=by
  have e:(y 0+Ge+μ)*(y 0-μ)=sq (k+1) y-μ*μ:=by grind
  have e2:av (y 0+Ge+μ)*av (y 0-μ)=av (sq (k+1) y-μ*μ):=by rw [← D9,e]
  have hl:=Iq.1 h.len.symm
  have hl:av (sq (k+1) y-μ*μ)≤40*uR*sq (k+1) y:=Iq.1 h.len.symm
  have k1:=Rat.mul_le_mul_of_nonneg_left hm2 (show 0≤40*uR by decide +kernel)
  have c:40*uR*(1+41*uR)≤41*uR:=by decide +kernel
  have k2:=Rat.mul_le_mul_of_nonneg_right c (By μ)
  have k3:=Rat.mul_le_mul_of_nonneg_left d2 a0
  rw [Lh] at k3
  have k4:=Rat.mul_le_mul_of_nonneg_left k3 (show 0≤41*uR by decide +kernel)
  refine Rat.le_of_mul_le_mul_right (c:=av (y 0-μ)) ?_ d1
  grind
 have h6:=Iq.1 hG
 have h7:=Iz (G-Ge) (y 0+Ge+μ)
 rw [show G-Ge+(y 0+Ge+μ)=y 0+G+μ by grind] at h7
 have k5:=I2 hX2
 have k6:uR≤uR*av μ:=by
  have:=Rat.mul_le_mul_of_nonneg_left one (Rat.le_of_lt u0)
  grind
 grind
theorem I1.e (h:I1 k y v μ τ d p):av (y 0-μ-τ*gR k y v)≤104*uR*av μ:=by
 have u0:=Fa
 have hg:=h.g
 obtain ⟨t1,t2,t3⟩:=h.tle
 have ht:=h.t
 have h2:=Li h.Auh.2.1
 generalize gR k y v=g at *
 have e:y 0-μ-τ*g=(τ-tR y μ)*μ-τ*(g+μ):=by grind
 have h3:=Iz ((τ-tR y μ)*μ) (-(τ*(g+μ)))
 rw [show (τ-tR y μ)*μ+-(τ*(g+μ))=(τ-tR y μ)*μ-τ*(g+μ) by grind,Qp,D9,D9] at h3
 rw [e]
 have a0:=Eo μ
 have k1:=Rat.mul_le_mul_of_nonneg_right t2 a0
 have k2:=Ee h2 hg (by grind) (Eo _)
 have k3:=Rat.mul_nonneg (Rat.le_of_lt u0) a0
 grind
theorem I1.A12 (h:I1 k y v μ τ d p):Ln (k+1) (fun i=>y i-τ*gR k y v*v i-if i=0 then μ else 0) (200*uR*av μ):=by
 have u0:=Fa
 have e1:Cb≤uR / 1000000:=by decide +kernel
 have e0:=Ex
 have one:=h.one
 have a0:=Eo μ
 have hE:=h.e
 obtain ⟨d1,d2,d3,d4⟩:=h.Ah2
 have lv:Ln (k+1) v (3 / 2):=⟨by decide +kernel,Rat.le_trans h.Auh.2.2 (by decide +kernel)⟩
 have ly:Ln (k+1) y (101 / 100*av μ):=by
  refine ⟨by grind,?_⟩
  have c:1+41*uR≤101 / 100*(101 / 100):=by decide +kernel
  have k1:=Rat.mul_le_mul_of_nonneg_right c (By μ)
  have k2:=h.m2.1
  have:=Lh μ
  grind
 have hA:=lv.scale (c:=y 0-μ-τ*gR k y v) (B:=104*uR*av μ) (by
  have:=Ib (y 0-μ-τ*gR k y v)
  unfold Ab at *; grind)
 have c1:Ln (k+1) (fun i=>4*uR*av (y i)) (4*uR*(101 / 100*av μ)):=by
  have lav:Ln (k+1) (fun i=>av (y i)) (101 / 100*av μ):=by
   refine ⟨ly.1,?_⟩
   have e:sq (k+1) (fun i=>av (y i))=sq (k+1) y:=Bo _ fun i _=>Lh _
   rw [e]; exact ly.2
  exact lav.scale (c:=4*uR) (B:=4*uR) (by unfold Ab; grind)
 have c2:Ln (k+1) (fun _=>Cb*av (y 0-μ)) (3*(Cb*av (y 0-μ))):=by
  have:=Rat.mul_nonneg (Rat.le_of_lt e0) (Eo (y 0-μ))
  exact Ln.Nz this (fun i _=>by unfold Ab; grind) (by have:=h.k6; omega)
 have hB:Ln (k+1) (fun i=>if i=0 then 0 else (y 0-μ)*(wR y μ i-v i)) (4*uR*(101 / 100*av μ)+3*(Cb*av (y 0-μ))):=by
  refine Ln.An3 (g:=fun i=>4*uR*av (y i)+Cb*av (y 0-μ)) (fun i hi=>?_) (c1.add c2)
  cases i with
  | zero =>
    have k1:=Rat.mul_nonneg (Rat.le_of_lt u0) (Eo (y 0))
    have k2:=Rat.mul_nonneg (Rat.le_of_lt e0) (Eo (y 0-μ))
    have z:av 0=0:=by decide
    rw [A8u rfl,z]; grind
  | succ i =>
    rw [A8t (by omega),D9]
    have hv:=h.vw (i:=i) (by omega)
    have h2:av (wR y μ (i+1))*av (y 0-μ)=av (y (i+1)):=by rw [← D9,h.w]
    have h3:av (wR y μ (i+1)-v (i+1))=av (v (i+1)-wR y μ (i+1)):=by rw [← Qp]; congr 1; grind
    have h4:=Rat.mul_le_mul_of_nonneg_left hv (Rat.le_of_lt d1)
    rw [h3,← h2]
    clear hA c1 c2 lv ly
    grind
 have hs:=(hA.add hB).congr (g:=fun i=>y i-τ*gR k y v*v i-if i=0 then μ else 0) fun i hi=>by
  cases i with
  | zero =>
    rw [A8u rfl,A8u rfl,h.v0]; grind
  | succ i =>
    rw [A8t (by omega),A8t (by omega)]
    have:=h.w (i+1)
    generalize wR y μ (i+1)=w at *
    rw [← this]; grind
 refine hs.mono ?_
 have k1:=Rat.mul_le_mul_of_nonneg_left h.f0.2 (Rat.le_of_lt e0)
 have k2:=Rat.mul_le_mul_of_nonneg_right e1 a0
 have k3:=Rat.mul_nonneg (Rat.le_of_lt u0) a0
 grind
end
end Go.Cv
namespace Go.Cv
open Go.Den
theorem Ax3 {a b:Nat} (h:Bp a=!Bp b):vR a*vR b≤0:=by
 have ha:=Qm (An a) (Av a)
 have hb:=Qm (An b) (Av b)
 have hp:=Rat.mul_nonneg ha hb
 unfold vR
 rw [h]
 unfold Qt
 cases Bp b
 ·have e1:(if (!false)=true then (-1:Rat) else 1)=-1:=rfl
  have e2:(if false=true then (-1:Rat) else 1)=1:=rfl
  rw [e1,e2]; grind
 ·have e1:(if (!true)=true then (-1:Rat) else 1)=1:=rfl
  have e2:(if true=true then (-1:Rat) else 1)=-1:=rfl
  rw [e1,e2]; grind
theorem Aks:vR At5.toNat=1:=by decide +kernel
theorem Atl {n:Nat} {f:Nat→Int} {i:Nat} (hi:i+1<n):rv (Iw n f) (i+1)=vR (f (i+1)).toNat:=by
 unfold rv Iw
 rw [List.getD_cons_succ,A8h,A9o,List.getElem?_range (by omega)]
 rfl
theorem Abr {x:List Int} {e:Int} {i:Nat} (hi:i<x.length):rv (Bn x e) i=vR (Cj (x.getD i 0).toNat e).1:=by
 unfold rv Bn
 rw [A8h,A9o,A8h,A8o hi]
 show vR (Ch x[i] e).toNat=_
 rw [D1]
 rfl
theorem Aqq {x:List Int} {k:Nat} (hk:x.length=k+1) (h6:k≤6) (hf:Ff x=true) (ax:Ak x=true) (h:∃ z∈x,A7 z≠0) :
 I1 k (rv (Bn x (-Bq (Bg x)))) (rv (Yn x)) (vR (Qk x).toNat) (vR (Acd x).toNat) (vR (Eu (E5 x) (Qk x)).toNat) (vR (Eu (Qk x) (E5 x)).toNat):=by
 obtain ⟨m1,m2,m3,m4⟩:=Ae2 hf (by omega) h
 obtain ⟨f1,f2⟩:=Ajo hf ax (by omega) h
 have sb:=S6 hf
 have s1:=Aem hf h
 have sl:(Bn x (-Bq (Bg x))).length=k+1:=by unfold Bn; rw [A9d,hk]
 have nv:=Aub sb (by omega) s1
 rw [sl] at nv
 have lm:=Lm (Auq x)
 have ef:rv (Bn x (-Bq (Bg x))) 0=vR (E5 x).toNat:=by
  rw [Abr (by omega)]
  unfold E5
  rw [D1]
 have fb:Bd 1 (E5 x).toNat:=by
  have:=R8 sb 0
  have e:(Bn x (-Bq (Bg x))).getD 0 0=E5 x:=by
   unfold Bn E5
   cases x with
   | nil=>simp at hk
   | cons a t=>rfl
  rw [e] at this
  exact this
 have f64:(E5 x).toNat<2^64:=Lm (Kf (Nu ax 0))
 have e1:(Eu (E5 x) (Qk x)).toNat=(Abd (E5 x).toNat (Qk x).toNat).1:=Ri _ _
 have e2:(Eu (Qk x) (E5 x)).toNat=(Abd (Qk x).toNat (E5 x).toNat).1:=Ri _ _
 refine ⟨h6,?_,Vp m3,?_,?_,fun i _=>A42 sb i,?_,?_,fun i hi q hq=>?_,fun q hq=>?_⟩
 ·unfold Yn Iw rv
  rw [List.getD_cons_zero]
  exact Aks
 ·rw [ef]
  cases x with
  | nil=>simp at hk
  | cons a t =>
    have ak:=Sj (Ma hf a A9m)
    by_cases k0:A7 a=0
    ·have z:vR (E5 (a::t)).toNat=0:=by
      refine Sv ?_
      unfold E5
      rw [D1]
      have k0':Aj a.toNat=0:=by unfold A7 at k0; omega
      show Aj (Cj a.toNat _).1=0
      unfold Cj
      rw [A8t ak.2,A8u (.inr k0')]
      exact k0'
     rw [z]; grind
    ·refine Ax3 ?_
     have hn:Bp (E5 (a::t)).toNat=Bp (Eg (Qk (a::t)).toNat):=by
      rw [m4]
      unfold E5
      rw [D1]
      show Bp (Cj a.toNat _).1=_
      rw [T9 ak.2]
      unfold P7
      rw [A8t k0]
      rfl
     rw [hn,(Lb lm).1]
 ·have em:vR (Qk x).toNat*vR (Qk x).toNat=vR (Dr (Bn x (-Bq (Bg x)))).toNat*vR (Dr (Bn x (-Bq (Bg x)))).toNat:=by
   unfold Qk
   split
   ·rfl
   ·have e:(Eh (Dr (Bn x (-Bq (Bg x))))).toNat=Eg (Dr (Bn x (-Bq (Bg x)))).toNat:=A79 _
    rw [e,Ah8 (Lm (Aar _))]
    grind
  rw [em]
  exact nv.1
 ·rw [ef,e1]
  refine We lm fb.1 fb.2.1 m1.1 m1.2.1 ?_ (Ib _)
  rw [← e1]; exact f1.k3
 ·rw [ef,e2]
  refine We (B:=av (vR (E5 x).toNat-vR (Qk x).toNat)) f64 m1.1 m1.2.1 fb.1 fb.2.1 ?_ ?_
  ·rw [← e2]; exact f2.1
  ·have:=Ib (vR (E5 x).toNat-vR (Qk x).toNat)
   unfold Ab at *; grind
 ·have er:rv (Yn x) (i+1)=vR (Sm (Cj (x.getD (i+1) 0).toNat (-Bq (Bg x))).1 (Eu (E5 x) (Qk x)).toNat).1:=by
   unfold Yn
   rw [Atl (by omega),Qa,D1]
  rw [Abr (by omega)] at hq
  have yb:Bd 1 (Cj (x.getD (i+1) 0).toNat (-Bq (Bg x))).1:=by
   have hm:x.getD (i+1) 0∈x:=by
    rw [A8h,A8o (show i+1<x.length by omega)]
    exact List.getElem_mem _
   have hb:=sb _ (List.mem_map.2 ⟨x.getD (i+1) 0,hm,rfl⟩)
   rw [D1] at hb
   exact hb
  have vb:=Bd.div (j:=1) (t:=0) (by decide) yb f1
  rw [er]
  exact Aa1 yb.1 yb.2.1 f1.k3 f1.k4 f1.k0 vb.1 hq (Ib q)
 ·unfold Acd
  rw [Qa]
  have tb:=Bd.div (j:=5) (t:=0) (by decide) f2 m2
  exact Aa1 f2.1 f2.2.1 m2.k3 m2.k4 m2.k0 tb.1 hq (Ib q)
end Go.Cv
namespace Go.Cv
open Go.Den
def vH (n:Nat) (v:Nat→Rat) (t:Rat) (a:Nat→Rat) (i:Nat):Rat:=a i-t*(sm n fun j=>v j*a j)*v i
theorem Ash {n:Nat} {v:Nat→Rat} {t c:Rat} {a b:Nat→Rat} (i:Nat):vH n v t (fun j=>c*a j+b j) i=c*vH n v t a i+vH n v t b i:=by
 unfold vH
 have e:sm n (fun j=>v j*(c*a j+b j))=c*sm n (fun j=>v j*a j)+sm n (fun j=>v j*b j):=by
  rw [← Gm,← Ho]
  exact Bo n fun j _=>by grind
 rw [e]; grind
theorem Wc {n:Nat} {v:Nat→Rat} {t:Rat} {a b:Nat→Rat} (h:∀ j,j<n→a j=b j) {i:Nat} (hi:i<n):vH n v t a i=vH n v t b i:=by
 unfold vH
 rw [Bo n (f:=fun j=>v j*a j) (g:=fun j=>v j*b j) fun j hj=>by rw [h j hj],h i hi]
theorem A25 {n:Nat} {v a:Nat→Rat} {t s:Rat} (ht:Ab t (21 / 10)) (hv:sq n v≤201 / 100) (ha:Ln n a s):Ln n (vH n v t a) (6*s):=by
 have lv:Ln n v (3 / 2):=⟨by decide +kernel,Rat.le_trans hv (by decide +kernel)⟩
 have hd:=lv.dot ha
 have hc:Ab (t*sm n fun j=>v j*a j) (21 / 10*(3 / 2*s)):=by
  have h1:=Ee (Li ht) (Li hd) (by decide +kernel) (Eo _)
  rw [← D9] at h1
  have:=Ib (t*sm n fun j=>v j*a j)
  unfold Ab at *; grind
 have h2:=lv.scale hc
 have h3:=ha.sub h2
 have s0:=ha.1
 exact (h3.congr fun i _=>rfl).mono (by grind)
structure A2u (n:Nat) (x v:Nat→Rat) (t b s:Rat):Prop where
 tt:av (t*(t*sq n v-2))≤220*uR
 tb:Ab t (21 / 10)
 vv:sq n v≤201 / 100
 mir:Ln n (fun i=>vH n v t x i-if i=0 then b else 0) (205*uR*s+Cb)
theorem Ais {n:Nat} (hn:n≠0) (i:Nat):rv (Iw n fun _=>0) i=if i=0 then 1 else 0:=by
 cases i with
 | zero =>
   rw [A8u rfl]
   unfold rv Iw
   rw [List.getD_cons_zero]
   exact Aks
 | succ i =>
   rw [A8t (by omega)]
   have z:vR (toNat 0)=0:=Jo false
   by_cases hi:i+1<n
   ·rw [Atl hi]; exact z
   ·unfold rv
    rw [A8h,A9p (by rw [Lt hn]; omega)]
    exact z
theorem Alv {x:List Int} {i:Nat} (h:Gc (x.drop 1)=true) (hi:0<i):rv x i=0:=by
 unfold rv
 by_cases hl:i<x.length
 ·have hm:x.getD i 0∈x.drop 1:=by
   rw [A8h,A8o hl]
   refine List.mem_iff_getElem.2 ⟨i-1,by rw [List.length_drop]; omega,?_⟩
   rw [List.getElem_drop]
   show x[1+(i-1)]=x[i]
   congr 1; omega
  have:=A8x (List.all_eq_true.1 h _ hm)
  refine Sv ?_
  unfold A7 at this
  omega
 ·rw [A8h,A9p (by omega)]
  exact Jo false
theorem Acg {x:List Int} {k:Nat} {s:Rat} (hk:x.length=k+1) (h6:k≤6) (ax:Ak x=true) (he:(Bv x).2.2.2=0) (hs:Ln (k+1) (rv x) s) :
 A2u (k+1) (rv x) (rv (Bv x).1) (vR (Bv x).2.1.toNat) (vR (Bv x).2.2.1.toNat) s:=by
 have u0:=Fa
 have e0:=Ex
 have s0:=hs.1
 have us:=Rat.mul_nonneg (Rat.le_of_lt u0) s0
 unfold Bv at he ⊢
 by_cases h1:x.length=0∨64<x.length
 ·rw [A8u h1] at he; exact absurd he (by decide)
 rw [A8t h1] at he ⊢
 by_cases hf':¬ Ff x=true
 ·rw [A8t hf'] at he; exact absurd he (by decide)
 have hf:=Classical.not_not.1 hf'
 rw [A8u hf] at he ⊢
 unfold Ai7 at he ⊢
 by_cases h3:Gc (x.drop 1)=true
 ·rw [A8u h3]
  dsimp only
  have hv:∀ i,rv (Iw x.length fun _=>0) i=if i=0 then 1 else 0:=Ais (by omega)
  have z:vR (toNat 0)=0:=Jo false
  rw [z]
  have sv:sq (k+1) (rv (Iw x.length fun _=>0))=1:=by
   rw [O6,hv 0,A8u rfl]
   have:sq k (fun i=>rv (Iw x.length fun _=>0) (i+1))=0:=by
    unfold sq
    rw [Bo k (g:=fun _=>0) fun i _=>by
     dsimp only
     rw [hv (i+1),A8t (by omega)]; grind]
    exact I4 k
   rw [this]; grind
  refine ⟨?_,by unfold Ab; grind,by rw [sv]; decide +kernel,?_⟩
  ·have:av (0*(0*sq (k+1) (rv (Iw x.length fun _=>0))-2))=0:=by rw [Rat.zero_mul]; decide
   rw [this]; grind
  ·refine ((Ln.zero (k+1)).congr fun i hi=>?_).mono (by grind)
   unfold vH
   cases i with
   | zero =>
     rw [A8u rfl]
     show rv x 0-0*_*_-vR (x.getD 0 0).toNat=0
     have:rv x 0=vR (x.getD 0 0).toNat:=rfl
     rw [this]; grind
   | succ i =>
     rw [A8t (by omega),Alv h3 (by omega)]; grind
 ·rw [A8t h3] at he ⊢
  by_cases h4':¬ Dk (G2 x)=true
  ·rw [A8t h4'] at he; exact absurd he (by decide)
  have h4:=Classical.not_not.1 h4'
  rw [A8u h4]
  dsimp only
  have hsome:=Uq h3
  have M:=Aqq hk h6 hf ax hsome
  have hM:=M.A12
  obtain ⟨n2,tb,vv⟩:=M.Auh
  have one:=M.one
  have hlen:=M.len
  obtain ⟨m1,m2,m3,m4⟩:=Ae2 hf (by omega) hsome
  have hb:Nr (vR (G2 x).toNat) (vR (Qk x).toNat*tw (Bq (Bg x))) Cb:=by
   have eb:(G2 x).toNat=(Cj (Qk x).toNat (Bq (Bg x))).1:=D1 _ _
   rw [eb]
   refine Ua m1.1 m1.2.1 ?_
   rw [← eb]
   exact (Sj h4).1
  have hK:tw (Bq (Bg x))*tw (-Bq (Bg x))=1:=by
   rw [← E3,show Bq (Bg x)+-Bq (Bg x)=0 by omega]; exact T2
  have hK0:=D0 (Bq (Bg x))
  have hsb:=S6 hf
  have hd:∀ i,i<k+1→av (rv x i-tw (Bq (Bg x))*rv (Bn x (-Bq (Bg x))) i)≤Cb*tw (Bq (Bg x)):=fun i hi=>by
   have hm:x.getD i 0∈x:=by
    rw [A8h,A8o (show i<x.length by omega)]
    exact List.getElem_mem _
   have xk:=Sj (Ma hf _ hm)
   have yb:=hsb _ (List.mem_map.2 ⟨x.getD i 0,hm,rfl⟩)
   rw [D1] at yb
   have h5:=Iq.1 (Ua (n:=-Bq (Bg x)) xk.1 xk.2 yb.1)
   have ex:rv x i=vR (x.getD i 0).toNat:=rfl
   rw [Abr (by omega),ex]
   generalize vR (Cj (x.getD i 0).toNat (-Bq (Bg x))).1=Y at *
   generalize vR (x.getD i 0).toNat=X at *
   have e:X-tw (Bq (Bg x))*Y=-(Y-X*tw (-Bq (Bg x)))*tw (Bq (Bg x)):=by
    have:X=X*(tw (Bq (Bg x))*tw (-Bq (Bg x))):=by rw [hK]; grind
    grind
   rw [e,D9,Qp,Rb (Rat.le_of_lt hK0)]
   exact Rat.mul_le_mul_of_nonneg_right h5 (Rat.le_of_lt hK0)
  generalize rv (Bn x (-Bq (Bg x)))=y at *
  generalize vR (Qk x).toNat=μ at *
  generalize rv (Yn x)=v at *
  generalize vR (Acd x).toNat=t at *
  generalize vR (G2 x).toNat=b at *
  generalize tw (Bq (Bg x))=K at *
  generalize rv x=X at *
  have eK:=Rat.mul_nonneg (Rat.le_of_lt e0) (Rat.le_of_lt hK0)
  have lD:Ln (k+1) (fun i=>X i-K*y i) (3*(Cb*K)):=Ln.Nz eK (fun i hi=>by
   have:=hd i hi
   have h2:=Ib (X i-K*y i)
   unfold Ab at *; grind) (by omega)
  have hKm:K*av μ≤1001 / 1000*s:=by
   have a1:Ln (k+1) (fun i=>K*y i) (s+3*(Cb*K)):=(hs.sub lD).congr fun i _=>by grind
   have a2:sq (k+1) (fun i=>K*y i)=K*K*sq (k+1) y:=by
    unfold sq
    rw [← Gm]
    exact Bo _ fun i _=>by grind
   have a3:=a1.2
   rw [a2] at a3
   have a4:=hlen.1
   have c1:1+40*uR≤10001 / 10000*(10001 / 10000):=by decide +kernel
   have a5:=Rat.mul_le_mul_of_nonneg_right c1 (Nf (k+1) y)
   have a6:=Rat.mul_le_mul_of_nonneg_left (show μ*μ≤10001 / 10000*(10001 / 10000)*sq (k+1) y by grind) (Rat.mul_nonneg (Rat.le_of_lt hK0) (Rat.le_of_lt hK0))
   have a7:K*av μ≤10001 / 10000*(s+3*(Cb*K)):=by
    refine Ph (by grind) ?_
    have e1:K*av μ*(K*av μ)=K*K*(μ*μ):=by rw [← Lh μ]; grind
    rw [e1]
    have a8:=Rat.mul_le_mul_of_nonneg_left a3 (show (0:Rat)≤10001 / 10000*(10001 / 10000) by decide +kernel)
    grind
   have a9:Cb*K≤1 / 1000000*(K*av μ):=by
    have b1:=Rat.mul_le_mul_of_nonneg_left one (Rat.le_of_lt hK0)
    have b2:Cb≤1 / 1000000:=by decide +kernel
    have b3:=Ee b2 b1 (by decide +kernel) (by grind)
    grind
   grind
  have hM2:=hM.scale (c:=K) (B:=K) (by unfold Ab; grind)
  have hD2:=A25 tb vv lD
  have hbe:Ln (k+1) (fun i=>if i=0 then μ*K-b else 0) Cb:=by
   refine ⟨Rat.le_of_lt e0,?_⟩
   have e:sq (k+1) (fun i=>if i=0 then μ*K-b else 0)=(μ*K-b)*(μ*K-b):=by
    rw [O6]
    have:sq k (fun i=>if i+1=0 then μ*K-b else 0)=0:=by
     unfold sq
     rw [Bo k (g:=fun _=>0) fun i _=>by
      dsimp only
      rw [A8t (by omega)]; grind]
     exact I4 k
    rw [this,A8u rfl]; grind
   rw [e,← Lh]
   have:=Iq.1 hb.symm
   exact Px (Eo _) this
  have hsum:=((hM2.add hD2).add hbe).congr (g:=fun i=>vH (k+1) v t X i-if i=0 then b else 0) fun i hi=>by
   have e1:vH (k+1) v t X i=K*vH (k+1) v t y i+vH (k+1) v t (fun i=>X i-K*y i) i:=by
    rw [← Ash]
    exact Wc (fun j _=>by grind) hi
   have e2:vH (k+1) v t y i=y i-t*gR k y v*v i:=rfl
   rw [e1,e2]
   by_cases h:i=0
   ·rw [A8u h,A8u h,A8u h]; grind
   ·rw [A8t h,A8t h,A8t h]; grind
  refine ⟨?_,tb,vv,hsum.mono ?_⟩
  ·rw [D9]
   have h1:=Ee (Li tb) (Iq.1 n2) (by decide +kernel) (Eo _)
   grind
  ·have k1:=I2 hKm
   have k2:Cb*K≤uR / 1000000*(K*av μ):=by
    have b1:=Rat.mul_le_mul_of_nonneg_left one (Rat.le_of_lt hK0)
    have b2:Cb≤uR / 1000000:=by decide +kernel
    have b3:=Ee b2 b1 (by grind) (by grind)
    grind
   grind
end Go.Cv
namespace Go.Cv
open Go.Den
theorem Ln.avs {n:Nat} {f:Nat→Rat} {s:Rat} (h:Ln n f s):Ln n (fun i=>av (f i)) s:=by
 refine ⟨h.1,?_⟩
 have e:sq n (fun i=>av (f i))=sq n f:=Bo n fun i _=>Lh (f i)
 rw [e]; exact h.2
theorem Xo {c t q T A z t' u e:Rat} (hc:0≤c) (hc2:c≤20) (hT:av T≤A) (hu:0<u) (hu2:u≤1 / 1000000) (he:0<e)
 (h1:Nr t T (3*c*u*A+2*c*e)) (h2:Nr q z (u*av z+e)) (h3:Nr t' (t+q) (u*(A+(3*c*u*A+2*c*e)+(av z+(u*av z+e))))) :
 Nr t' (T+z) (3*(c+1)*u*(A+av z)+2*(c+1)*e)∧av (T+z)≤A+av z:=by
 have hA:0≤A:=Rat.le_trans (Eo T) hT
 have hz:=Eo z
 have a0:=Rat.mul_nonneg (Rat.le_of_lt hu) hA
 have b0:=Rat.mul_nonneg (Rat.le_of_lt hu) hz
 have c1:3*c*u≤1:=by
  have:=Rat.mul_le_mul_of_nonneg_right hc2 (Rat.le_of_lt hu)
  grind
 have k1:=Rat.mul_le_mul_of_nonneg_right c1 a0
 have k2:=Rat.mul_le_mul_of_nonneg_right (show u≤1 by grind) b0
 have c3:(2*c+1)*u≤1:=by
  have:=Rat.mul_le_mul_of_nonneg_right hc2 (Rat.le_of_lt hu)
  grind
 have k3:=Rat.mul_le_mul_of_nonneg_right c3 (Rat.le_of_lt he)
 have k4:=Rat.mul_nonneg hc b0
 have:=Iz T z
 refine ⟨?_,by grind⟩
 unfold Nr at *
 grind
theorem Aka {j k:Nat} (hjk:j+k≤1000):∀ (x y:List Int) (s t:Nat) (T A c:Rat),x.length=y.length→Bl j x→Bl k y→Bm t (j+k) s→0<t→t+x.length≤1000→av T≤A→0≤c→c+(x.length:Rat)≤20→Nr (vR s) T (3*c*uR*A+2*c*Cb) →
 Nr (vR (U0 s x y)) (T+sm x.length fun i=>rv x i*rv y i) (3*(c+(x.length:Rat))*uR*(A+sm x.length fun i=>av (rv x i)*av (rv y i))+2*(c+(x.length:Rat))*Cb)
 | [],[],s,t,T,A,c,_,_,_,_,_,_,_,_,_,h=>by
   have z:((([]:List Int).length:Nat):Rat)=0:=rfl
   have e:(sm ([]:List Int).length fun i=>rv [] i*rv [] i)=0:=rfl
   have e':(sm ([]:List Int).length fun i=>av (rv [] i)*av (rv [] i))=0:=rfl
   rw [z,e,e',Rat.add_zero,Rat.add_zero,Rat.add_zero]
   exact h
 | [],_::_,_,_,_,_,_,hl,_,_,_,_,_,_,_,_,_=>by simp at hl
 | _::_,[],_,_,_,_,_,hl,_,_,_,_,_,_,_,_,_=>by simp at hl
 | a::x,b::y,s,t,T,A,c,hl,hx,hy,hs,h0,ht,hT,hc,hc2,h=>by
   have el:(((a::x).length:Nat):Rat)=(x.length:Rat)+1:=by
    rw [List.length_cons]; exact Rat.natCast_add _ 1
   simp only [List.length_cons] at ht hl
   rw [el] at hc2 ⊢
   have hln:=Mu x.length
   have ba:=hx a A9m
   have bb:=hy b A9m
   have b2:=Bd.mul (show j+k≤1023 by omega) ba bb
   have b3:=Bm.add (k:=j+k) (by omega) (by omega) hjk hs b2.bm
   have m1:=Ug ba.1 ba.2.1 bb.1 bb.2.1 b2.1 (B:=av (vR a.toNat*vR b.toNat)) (Ib _)
   have u0:=Fa
   have e0:=Ex
   have m2:=Aa5 hs.1 hs.2.1 b2.1 b2.2.1 b3.1 (B:=A+(3*c*uR*A+2*c*Cb)+(av (vR a.toNat*vR b.toNat)+(uR*av (vR a.toNat*vR b.toNat)+Cb))) (by
    have n1:=J0 (z:=0) h
    have n3:=J0 (z:=0) m1
    have n4:=Iz (vR s) (vR (Hc a.toNat b.toNat).1)
    have n5:=Ib (vR s+vR (Hc a.toNat b.toNat).1)
    unfold Ab at *
    grind)
   obtain ⟨st,sT⟩:=Xo hc (by grind) hT u0 Hi e0 h m1 m2
   have ih:=Aka hjk x y _ (t+1) (T+vR a.toNat*vR b.toNat) (A+av (vR a.toNat*vR b.toNat)) (c+1) (by omega) (fun z hz=>hx z (A9c _ hz)) (fun z hz=>hy z (A9c _ hz)) b3 (by omega) (by omega) sT (by grind) (by grind) st
   have es:(sm (a::x).length fun i=>rv (a::x) i*rv (b::y) i)=vR a.toNat*vR b.toNat+sm x.length fun i=>rv x i*rv y i:=by
    rw [List.length_cons,Ke]
    rfl
   have es':(sm (a::x).length fun i=>av (rv (a::x) i)*av (rv (b::y) i))=av (vR a.toNat*vR b.toNat)+sm x.length fun i=>av (rv x i)*av (rv y i):=by
    rw [List.length_cons,Ke,D9]
    rfl
   have eq:U0 s (a::x) (b::y)=U0 (Gf s (Hc a.toNat b.toNat).1).1 x y:=rfl
   rw [es,es',eq]
   rw [show T+(vR a.toNat*vR b.toNat+sm x.length fun i=>rv x i*rv y i)=T+vR a.toNat*vR b.toNat+sm x.length fun i=>rv x i*rv y i by grind,show A+(av (vR a.toNat*vR b.toNat)+sm x.length fun i=>av (rv x i)*av (rv y i))=A+av (vR a.toNat*vR b.toNat)+sm x.length fun i=>av (rv x i)*av (rv y i) by grind,show c+((x.length:Rat)+1)=c+1+(x.length:Rat) by grind]
   exact ih
theorem Aot {j k:Nat} (hjk:j+k≤1000) {x y:List Int} {s t:Rat} (hl:x.length=y.length) (h7:x.length≤7) (hx:Bl j x) (hy:Bl k y) (lx:Ln x.length (rv x) s) (ly:Ln x.length (rv y) t) :
 Nr (vR (M5 x y).toNat) (sm x.length fun i=>rv x i*rv y i) (21*uR*(s*t)+14*Cb):=by
 have u0:=Fa
 have e0:=Ex
 have z0:vR 0=0:=Jo false
 have a0:av 0=0:=by decide
 have hlen:(x.length:Rat)≤7:=C0 h7
 have hln:=Mu x.length
 have h:=Aka hjk x y 0 1 0 0 0 hl hx hy (Bd.zero false (j+k)).bm (by decide) (by omega) (by rw [a0]; exact Rat.le_refl) Rat.le_refl (by grind) (by rw [z0]; unfold Nr; grind)
 have hd:=(lx.avs.dot ly.avs).2
 have hd0:0≤sm x.length fun i=>av (rv x i)*av (rv y i):=Qv _ fun i _=>Rat.mul_nonneg (Eo _) (Eo _)
 have e:(M5 x y).toNat=U0 0 x y:=A79 _
 rw [e]
 rw [Rat.zero_add] at h
 refine h.mono ?_
 have k1:=I2 hd
 have k2:=Rat.mul_nonneg (Rat.le_of_lt u0) hd0
 have k3:=Rat.mul_le_mul_of_nonneg_right hlen k2
 have k4:=Rat.mul_le_mul_of_nonneg_right hlen (Rat.le_of_lt e0)
 grind
end Go.Cv
namespace Go.Cv
open Go.Den
theorem Atk {c b i:Int} {n m:Nat} {l:List Int} (hm:m<n):rv (B4 c l b i n) m=vR (Cp c l (i+(m:Int)) b).toNat:=by
 unfold rv B4
 rw [A8h,A9o,List.getElem?_range hm]
 rfl
theorem Afn {c i t b:Int} {l v:List Int} {n j:Nat} {s:Rat} (hn:v.length=n) (h7:n≤7) (hj:j≤900) (al:Ak l=true) (hl:Bl j l) (hv:Bl 1 v) (ht:Bd 5 t.toNat)
 (vv:sq n (rv v)≤201 / 100) (tb:Ab (vR t.toNat) (21 / 10)) (ha:Ln n (rv (B4 c l b i n)) s) :
 Ln n (fun m=>vR (Eu (Cp c l (i+(m:Int)) b) (D6 (M6 c l i v t b) (v.getD m 0))).toNat-vH n (rv v) (vR t.toNat) (rv (B4 c l b i n)) m) (120*uR*s+100*Cb):=by
 have u0:=Fa
 have us:=Hi
 have e0:=Ex
 have e1:Cb≤1 / 1000000:=by decide +kernel
 have s0:=ha.1
 have us0:=Rat.mul_nonneg (Rat.le_of_lt u0) s0
 have ue0:=Rat.mul_nonneg (Rat.le_of_lt u0) (Rat.le_of_lt e0)
 have uus:uR*(uR*s)≤1 / 1000000*(uR*s):=Rat.mul_le_mul_of_nonneg_right us us0
 have ue1:uR*Cb≤1 / 1000000*Cb:=Rat.mul_le_mul_of_nonneg_right us (Rat.le_of_lt e0)
 have us1:uR*s≤1 / 1000000*s:=Rat.mul_le_mul_of_nonneg_right us s0
 have lv:Ln n (rv v) (3 / 2):=⟨by decide +kernel,Rat.le_trans vv (by decide +kernel)⟩
 have sl:(B4 c l b i n).length=n:=Gz _ _ _ _ _
 have hsg:Bl j (B4 c l b i n):=Abq hl
 have hd:=Aot (j:=1) (k:=j) (x:=v) (y:=B4 c l b i n) (s:=3 / 2) (t:=s) (by omega) (by rw [hn,sl]) (by omega) hv hsg (by rw [hn]; exact lv) (by rw [hn]; exact ha)
 rw [hn] at hd
 have db:=Ahm (j:=1) (k:=j) (by omega) hv hsg (by omega)
 have dd:=(lv.dot ha)
 have wb:Bd (j+9) (M6 c l i v t b).toNat:=by
  unfold M6
  rw [I5,hn]
  exact (Bd.mul (by omega) ht db).mono (by omega)
 have hw:Nr (vR (M6 c l i v t b).toNat) (vR t.toNat*vR (M5 v (B4 c l b i n)).toNat) (uR*av (vR t.toNat*vR (M5 v (B4 c l b i n)).toNat)+Cb):=by
  have e:(M6 c l i v t b).toNat=(Hc t.toNat (M5 v (B4 c l b i n)).toNat).1:=by
   unfold M6
   rw [I5,hn]
  rw [e] at wb ⊢
  exact Ug ht.1 ht.2.1 db.1 db.2.1 wb.1 (Ib _)
 generalize M6 c l i v t b=w at *
 have vHe:∀ m,vH n (rv v) (vR t.toNat) (rv (B4 c l b i n)) m=rv (B4 c l b i n) m-vR t.toNat*(sm n fun i_1=>rv v i_1*rv (B4 c l b i n) i_1)*rv v m:=fun m=>rfl
 generalize (sm n fun i_1=>rv v i_1*rv (B4 c l b i n) i_1)=D at *
 generalize vR (M5 v (B4 c l b i n)).toNat=D' at *
 have d1:=Li dd
 have d2:=J0 (z:=0) hd
 have t1:=Li tb
 have d3:av D'≤16 / 10*s+15*Cb:=by grind
 have w1:av (vR t.toNat*D')≤34 / 10*s+32*Cb:=by
  rw [D9]
  have:=Ee t1 d3 (by decide +kernel) (Eo _)
  grind
 have w2:=J0 (z:=0) hw
 have w3:=I2 w1
 have wW:av (vR w.toNat)≤35 / 10*s+34*Cb:=by grind
 have wD:av (vR w.toNat-vR t.toNat*D)≤71*uR*s+32*Cb:=by
  have h1:=Iq.1 hw
  have h2:=Iq.1 hd
  have h3:=Iz (vR w.toNat-vR t.toNat*D') (vR t.toNat*(D' - D))
  rw [show vR w.toNat-vR t.toNat*D'+vR t.toNat*(D' - D)=vR w.toNat-vR t.toNat*D by grind,D9] at h3
  have h4:=Ee t1 h2 (by decide +kernel) (Eo _)
  grind
 have q1:∀ m,av (vR (D6 w (v.getD m 0)).toNat-vR w.toNat*rv v m)≤uR*(35 / 10*s+34*Cb)*av (rv v m)+Cb:=fun m=>by
  have bv:=R8 hv m
  have bq:=Bd.mul (j:=j+9) (k:=1) (by omega) wb bv
  have h1:=Iq.1 (Ug wb.1 wb.2.1 bv.1 bv.2.1 bq.1 (Ib _))
  rw [I5]
  have e:vR (v.getD m 0).toNat=rv v m:=rfl
  rw [e,D9] at h1
  have h2:=Rat.mul_le_mul_of_nonneg_right wW (Eo (rv v m))
  have h3:=I2 h2
  grind
 have o1:∀ m,m<n→av (vR (Eu (Cp c l (i+(m:Int)) b) (D6 w (v.getD m 0))).toNat-(rv (B4 c l b i n) m-vR (D6 w (v.getD m 0)).toNat))≤uR*av (rv (B4 c l b i n) m-vR (D6 w (v.getD m 0)).toNat):=fun m hm=>by
  have ba:=Nt (c:=c) (i:=i+(m:Int)) (j:=b) hl
  have bq:Bd (j+10) (D6 w (v.getD m 0)).toNat:=by
   rw [I5]
   exact Bd.mul (j:=j+9) (k:=1) (by omega) wb (R8 hv m)
  have bo:=Bd.sub (k:=j+10) (by omega) (Lm (Ku _ _)) (ba.mono (by omega)) bq
  rw [Atk hm,Ri]
  exact Iq.1 (We (Lm (Ku _ _)) ba.1 ba.2.1 bq.1 bq.2.1 bo.1 (Ib _))
 have L1:=lv.scale (c:=vR t.toNat*D-vR w.toNat) (B:=71*uR*s+32*Cb) (by
  have:=Ib (vR w.toNat-vR t.toNat*D)
  unfold Ab at *; grind)
 have Lq:Ln n (fun m=>vR (D6 w (v.getD m 0)).toNat-vR w.toNat*rv v m) (uR*(35 / 10*s+34*Cb)*(3 / 2)+3*Cb):=by
  have k1:=lv.avs.scale (c:=uR*(35 / 10*s+34*Cb)) (B:=uR*(35 / 10*s+34*Cb)) (by
   have:=Rat.mul_nonneg (Rat.le_of_lt u0) (show 0≤35 / 10*s+34*Cb by grind)
   unfold Ab; grind)
  have k2:Ln n (fun _=>Cb) (3*Cb):=Ln.Nz (Rat.le_of_lt e0) (fun _ _=>by unfold Ab; grind) (by omega)
  exact Ln.An3 (fun m _=>q1 m) (k1.add k2)
 have La:Ln n (fun m=>rv (B4 c l b i n) m-vR (D6 w (v.getD m 0)).toNat) (s+((35 / 10*s+34*Cb)*(3 / 2)+(uR*(35 / 10*s+34*Cb)*(3 / 2)+3*Cb))):=by
  have k1:=lv.scale (c:=vR w.toNat) (B:=35 / 10*s+34*Cb) (by
   have:=Ib (vR w.toNat)
   unfold Ab at *; grind)
  exact (ha.sub (k1.add Lq)).congr fun m _=>by grind
 have Lo:Ln n (fun m=>vR (Eu (Cp c l (i+(m:Int)) b) (D6 w (v.getD m 0))).toNat-(rv (B4 c l b i n) m-vR (D6 w (v.getD m 0)).toNat)) (uR*(s+((35 / 10*s+34*Cb)*(3 / 2)+(uR*(35 / 10*s+34*Cb)*(3 / 2)+3*Cb)))) :=
  Ln.An3 o1 (La.avs.scale (c:=uR) (B:=uR) (by unfold Ab; grind))
 have hs:=((Lo.sub Lq).add L1).congr (g:=fun m=>vR (Eu (Cp c l (i+(m:Int)) b) (D6 w (v.getD m 0))).toNat-vH n (rv v) (vR t.toNat) (rv (B4 c l b i n)) m) fun m _=>by
  rw [vHe]; grind
 refine hs.mono ?_
 clear hs Lo La Lq L1 o1 q1 wD wW w3 w2 w1 d3 d2 d1 vHe hw wb dd db hd hsg lv ha hv hl al
 have hA:uR*(35 / 10*s+34*Cb)≤35 / 10*(uR*s)+Cb:=by grind
 have hA1:uR*(35 / 10*s+34*Cb)≤s / 1000+Cb:=by grind
 generalize hAA:uR*(35 / 10*s+34*Cb)=A at *
 have hX:s+((35 / 10*s+34*Cb)*(3 / 2)+(A*(3 / 2)+3*Cb))≤7*s+60*Cb:=by grind
 have hX2:=I2 hX
 have hX3:uR*(7*s+60*Cb)≤7*(uR*s)+Cb:=by grind
 have h1:(71*uR*s+32*Cb)*(3 / 2)=213 / 2*(uR*s)+48*Cb:=by grind
 rw [h1]
 have h2:120*uR*s+100*Cb=120*(uR*s)+100*Cb:=by grind
 rw [h2]
 generalize uR*(s+((35 / 10*s+34*Cb)*(3 / 2)+(A*(3 / 2)+3*Cb)))=X at *
 generalize uR*(7*s+60*Cb)=Y at *
 generalize uR*s=us' at *
 grind
end Go.Cv
namespace Go.Cv
open Go.Den
def vx (j:Nat) (v:Nat→Rat) (i:Nat):Rat:=if i<j then 0 else v (i-j)
theorem Wj {j:Nat} {f:Nat→Rat} (h:∀ i,i<j→f i=0):∀ n,sm (j+n) f=sm n fun m=>f (j+m)
 | 0=>by
   rw [A9f,Bo j (g:=fun _=>0) h,I4]
   rfl
 | n+1=>by
   show sm (j+n) f+f (j+n)=sm n (fun m=>f (j+m))+f (j+n)
   rw [Wj h n]
theorem Ar9 (j n:Nat) (v a:Nat→Rat):(sm (j+n) fun i=>vx j v i*a i)=sm n fun m=>v m*a (j+m):=by
 rw [Wj (fun i hi=>by unfold vx; rw [A8u hi]; grind)]
 refine Bo n fun m _=>?_
 unfold vx
 rw [A8t (by omega),Nat.add_sub_cancel_left]
theorem Ar8 (j n:Nat) (v:Nat→Rat):sq (j+n) (vx j v)=sq n v:=by
 unfold sq
 rw [Ar9 j n v (vx j v)]
 refine Bo n fun m _=>?_
 unfold vx
 rw [A8t (by omega),Nat.add_sub_cancel_left]
theorem Ln.tail {j n:Nat} {f:Nat→Rat} {s:Rat} (h:∀ i,i<j→f i=0) (k:Ln n (fun m=>f (j+m)) s):Ln (j+n) f s:=by
 refine ⟨k.1,?_⟩
 have e:sq (j+n) f=sq n fun m=>f (j+m):=Wj (f:=fun i=>f i*f i) (fun i hi=>by rw [h i hi]; grind) n
 rw [e]; exact k.2
theorem O7 (j:Nat) (f:Nat→Rat):∀ n,sm (j+n) f=sm j f+sm n fun m=>f (j+m)
 | 0=>by
   show sm j f=sm j f+0
   grind
 | n+1=>by
   show sm (j+n) f+f (j+n)=sm j f+(sm n (fun m=>f (j+m))+f (j+n))
   rw [O7 j f n]; grind
theorem Ln.behind {j n:Nat} {f:Nat→Rat} {s:Rat} (h:Ln (j+n) f s):Ln n (fun m=>f (j+m)) s:=by
 refine ⟨h.1,Rat.le_trans ?_ h.2⟩
 unfold sq
 rw [O7 j (fun i=>f i*f i) n]
 have:=Qv (f:=fun i=>f i*f i) j fun i _=>By _
 grind
theorem Ad6 {j n i:Nat} {v a:Nat→Rat} {t:Rat}:vH (j+n) (vx j v) t a i=if i<j then a i else vH n v t (fun m=>a (j+m)) (i-j):=by
 unfold vH
 rw [Ar9]
 by_cases h:i<j
 ·rw [A8u h]
  unfold vx
  rw [A8u h]; grind
 ·rw [A8t h]
  unfold vx
  rw [A8t h]
  dsimp only
  rw [show j+(i-j)=i by omega]
structure Mi (r:Nat) (v:Nat→Rat) (t:Rat):Prop where
 tt:av (t*(t*sq r v-2))≤220*uR
 tb:Ab t (21 / 10)
 vv:sq r v≤201 / 100
section
variable {r:Nat} {v a:Nat→Rat} {t s:Rat}
theorem Mi.lv (h:Mi r v t):Ln r v (3 / 2):=⟨by decide +kernel,Rat.le_trans h.vv (by decide +kernel)⟩
theorem Asi (b:Nat→Rat):(sm r fun i=>vH r v t a i*vH r v t b i)=(sm r fun i=>a i*b i)+t*(t*sq r v-2)*((sm r fun i=>v i*a i)*sm r fun i=>v i*b i):=by
 unfold vH
 generalize hg:(sm r fun j=>v j*a j)=g
 generalize hh:(sm r fun j=>v j*b j)=k
 have e:(sm r fun i=>(a i-t*g*v i)*(b i-t*k*v i))=(sm r fun i=>a i*b i)+(-(t*k)*(sm r fun i=>v i*a i)+(-(t*g)*(sm r fun i=>v i*b i)+t*g*(t*k)*sq r v)):=by
  unfold sq
  rw [← Gm,← Gm,← Gm,← Ho,← Ho,← Ho]
  exact Bo r fun i _=>by grind
 rw [e,hg,hh]
 grind
theorem Afz (h:Mi r v t) (ha:Ln r a s):Ln r (vH r v t a) ((1+250*uR)*s):=by
 have u0:=Fa
 have s0:=ha.1
 refine ⟨Rat.mul_nonneg (by grind) s0,?_⟩
 have e:=Asi (r:=r) (v:=v) (t:=t) (a:=a) a
 have hd:=h.lv.dot ha
 have h1:av (t*(t*sq r v-2)*((sm r fun i=>v i*a i)*sm r fun i=>v i*a i))≤220*uR*(9 / 4*(s*s)):=by
  have h2:=Li hd
  have h3:=Ee h2 h2 (by grind) (Eo _)
  have h4:=Ee h.tt h3 (by grind) (by rw [Lh]; exact By _)
  generalize (sm r fun i=>v i*a i)=g at *
  generalize t*(t*sq r v-2)=κ at *
  rw [D9,D9]
  grind
 have h4:=A5e (t*(t*sq r v-2)*((sm r fun i=>v i*a i)*sm r fun i=>v i*a i))
 have h5:=ha.2
 have uss:=Rat.mul_nonneg (Rat.le_of_lt u0) (By s)
 have u2:=Rat.mul_nonneg (Rat.le_of_lt u0) uss
 unfold sq at *
 rw [e]
 grind
theorem Ase (i:Nat):vH r v t (vH r v t a) i=a i+t*(t*sq r v-2)*(sm r fun j=>v j*a j)*v i:=by
 have e:(sm r fun j=>v j*vH r v t a j)=(sm r fun j=>v j*a j)+-(t*(sm r fun j=>v j*a j))*sq r v:=by
  unfold vH sq
  generalize hg:(sm r fun j=>v j*a j)=g
  rw [← hg,hg,← Gm]
  conv=>rhs; rw [← hg]
  rw [← Ho]
  exact Bo r fun j _=>by grind
 have e2:vH r v t (vH r v t a) i=vH r v t a i-t*(sm r fun j=>v j*vH r v t a j)*v i:=rfl
 have e3:vH r v t a i=a i-t*(sm r fun j=>v j*a j)*v i:=rfl
 rw [e2,e,e3]
 grind
theorem Axc (h:Mi r v t) (ha:Ln r a s):Ln r (fun i=>a i-vH r v t (vH r v t a) i) (500*uR*s):=by
 have u0:=Fa
 have s0:=ha.1
 have us:=Rat.mul_nonneg (Rat.le_of_lt u0) s0
 have hd:=h.lv.dot ha
 have h1:=h.lv.scale (c:=-(t*(t*sq r v-2)*(sm r fun j=>v j*a j))) (B:=220*uR*(3 / 2*s)) (by
  have h2:=Ee h.tt (Li hd) (by grind) (Eo _)
  rw [← D9] at h2
  have:=Ib (t*(t*sq r v-2)*sm r fun j=>v j*a j)
  unfold Ab at *; grind)
 refine (h1.congr fun i _=>?_).mono (by grind)
 rw [Ase]; grind
theorem Asg (b:Nat→Rat) (i:Nat):vH r v t (fun j=>a j-b j) i=vH r v t a i-vH r v t b i:=by
 unfold vH
 have e:(sm r fun j=>v j*(a j-b j))=(sm r fun j=>v j*a j)+(-1)*sm r fun j=>v j*b j:=by
  rw [← Gm,← Ho]
  exact Bo r fun j _=>by grind
 rw [e]; grind
theorem Asf (q:Nat→Nat→Rat) (R:Nat→Rat) (i:Nat):∀ k,(sm k fun m=>vH r v t (q m) i*R m)=vH r v t (fun i=>sm k fun m=>q m i*R m) i
 | 0=>by
   show (0:Rat)=vH r v t (fun _=>0) i
   unfold vH
   have:(sm r fun j=>v j*0)=0:=by
    rw [Bo r (g:=fun _=>0) fun j _=>by grind]
    exact I4 r
   rw [this]; grind
 | k+1=>by
   have ih:=Asf q R i k
   show (sm k fun m=>vH r v t (q m) i*R m)+vH r v t (q k) i*R k=vH r v t (fun i=>(sm k fun m=>q m i*R m)+q k i*R k) i
   rw [ih]
   have:=Ash (n:=r) (v:=v) (t:=t) (c:=R k) (a:=q k) (b:=fun i=>sm k fun m=>q m i*R m) i
   rw [show (fun i=>(sm k fun m=>q m i*R m)+q k i*R k)=fun j=>R k*q k j+sm k fun m=>q m j*R m from funext fun j=>by grind,this]
   grind
end
theorem A13 {r:Nat} {e:Nat→Nat→Rat} {R:Nat→Rat} {x s:Rat} (hx:0≤x) {k:Nat} (k9:k≤9) (h:∀ m,m<k→Ln r (e m) x) (hR:Ln k R s):Ln r (fun i=>sm k fun m=>e m i*R m) (3*x*s):=by
 have h1:∀ j,j≤k→Ln r (fun i=>sm j fun m=>e m i*R m) (x*sm j fun m=>av (R m)):=fun j=>by
  induction j with
  | zero =>
    intro _
    have z:x*(sm 0 fun m=>av (R m))=0:=by
     show x*0=0
     grind
    rw [z]
    exact Ln.zero r
  | succ j ih =>
    intro hj
    have h2:=(h j (by omega)).scale (c:=R j) (B:=av (R j)) (Ib _)
    have h3:=(ih (by omega)).add h2
    have e1:x*(sm (j+1) fun m=>av (R m))=x*(sm j fun m=>av (R m))+av (R j)*x:=by
     show x*((sm j fun m=>av (R m))+av (R j))=_
     grind
    rw [e1]
    exact h3.congr fun i _=>by
     show (sm j fun m=>e m i*R m)+e j i*R j=(sm j fun m=>e m i*R m)+R j*e j i
     grind
 have h2:(sm k fun m=>av (R m))≤3*s:=by
  have o:Ln k (fun _=>(1:Rat)) (3*1):=Ln.Nz (by decide) (fun _ _=>by unfold Ab; grind) k9
  have:=(o.dot hR.avs).2
  rw [Bo k (g:=fun m=>av (R m)) fun m _=>by grind] at this
  grind
 refine (h1 k (A81 k)).mono ?_
 have:=Rat.mul_le_mul_of_nonneg_left h2 hx
 grind
end Go.Cv
namespace Go.Cv
open Go.Den
def cl (c:Nat) (l:List Int) (b i:Nat):Rat:=vR (Cp (c:Int) l (i:Int) (b:Int)).toNat
theorem Abp {c b j n m:Nat} {l:List Int} (hm:m<n):rv (B4 (c:Int) l (b:Int) (j:Int) n) m=cl c l b (j+m):=by
 rw [Atk hm]
 unfold cl
 rw [Int.natCast_add]
theorem Y4 {r c:Nat} {l v:List Int} {i k t:Int} {a b:Nat} (ha:a<r) (hb:b<c):Cp (c:Int) (Gp r c l i k v t) (a:Int) (b:Int)=Hy (c:Int) l i k v t (a:Int) (b:Int):=Jx ha hb
theorem Ui {r c j a b:Nat} {l:List Int} (ha:a<r) (hb:b<c):Cp (c:Int) (Ps r c l j) (a:Int) (b:Int)=if b=j∧j≤a then (if a=j then (Bv (Dm r c l j)).2.2.1 else 0) else Hy (c:Int) l (j:Int) (j:Int) (Bv (Dm r c l j)).1 (Bv (Dm r c l j)).2.1 (a:Int) (b:Int):=by
 unfold Ps Qo
 refine (Jx ha hb).trans ?_
 split
 ·rfl
 ·exact Y4 ha hb
theorem Aqp {n:Nat} {j:Nat} {x v:Nat→Rat} {t b s:Rat} (h:A2u n x v t b s):Mi (j+n) (vx j v) t :=
 ⟨by rw [Ar8]; exact h.tt,h.tb,by rw [Ar8]; exact h.vv⟩
section
variable {r c j k b K:Nat} {l:List Int} {s:Rat}
theorem As6 (hn:j+(k+1)=r) (hr:r≤6) (hj:j<c) (hb:b<c) (al:Ak l=true) (hK:Bl K l) (hK9:K≤900) (he:(Bv (Dm r c l j)).2.2.2=0) (hz:∀ b i:Nat,b<j→b<i→i<r→cl c l b i=0) (hs:Ln r (cl c l b) s) :
 Ln r (fun i=>cl c (Ps r c l j) b i-vH r (vx j (rv (Bv (Dm r c l j)).1)) (vR (Bv (Dm r c l j)).2.1.toNat) (cl c l b) i) (205*uR*s+100*Cb):=by
 have u0:=Fa
 have e0:=Ex
 have s0:=hs.1
 have us:=Rat.mul_nonneg (Rat.le_of_lt u0) s0
 have lc:(Dm r c l j).length=k+1:=by unfold Dm; rw [Gz]; omega
 have ac:Ak (Dm r c l j)=true:=O9 al
 have ml:=Q4 he
 have bc:Bl K (Dm r c l j):=Abq hK
 obtain ⟨mb1,mb2,mb3⟩:=Aoa (by omega) bc ac (by omega) he
 have rc:∀ m,m<k+1→rv (Dm r c l j) m=cl c l j (j+m):=fun m hm=>by
  unfold Dm
  rw [show r-j=k+1 by omega]
  exact Abp hm
 have base:A2u (k+1) (rv (Dm r c l j)) (rv (Bv (Dm r c l j)).1) (vR (Bv (Dm r c l j)).2.1.toNat) (vR (Bv (Dm r c l j)).2.2.1.toNat) (sq (k+1) (rv (Dm r c l j))+1):=by
  refine Acg lc (by omega) ac he ⟨?_,?_⟩
  ·have:=Nf (k+1) (rv (Dm r c l j)); grind
  ·have h0:=Nf (k+1) (rv (Dm r c l j))
   generalize sq (k+1) (rv (Dm r c l j))=q at *
   have:=By q
   grind
 generalize hv:(Bv (Dm r c l j)).1=v at *
 generalize ht:(Bv (Dm r c l j)).2.1=t at *
 have vl:v.length=k+1:=by omega
 subst hn
 by_cases h1:b<j
 ·refine ((Ln.zero (j+(k+1))).congr fun i hi=>?_).mono (by grind)
  have e1:cl c (Ps (j+(k+1)) c l j) b i=cl c l b i:=by
   unfold cl
   rw [Ui hi hb,A8t (by omega)]
   unfold Hy
   rw [A8t (by omega)]
  rw [e1]
  unfold vH
  have z:(sm (j+(k+1)) fun m=>vx j (rv v) m*cl c l b m)=0:=by
   rw [Ar9]
   rw [Bo (k+1) (g:=fun _=>0) fun m hm=>by
    rw [hz b (j+m) h1 (by omega) (by omega)]; grind]
   exact I4 _
  rw [z]; grind
 by_cases h2:b=j
 ·subst h2
  have hsb:=hs.behind
  have M:=Acg (s:=s) lc (by omega) ac he (hsb.congr fun m hm=>rc m hm)
  rw [hv,ht] at M
  refine (Ln.tail (s:=205*uR*s+Cb) (fun i hi=>?_) ?_).mono (by grind)
  ·rw [Ad6,A8u hi]
   unfold cl
   rw [Ui (by omega) hb,A8t (by omega)]
   unfold Hy
   rw [A8t (by omega)]; grind
  ·refine M.mir.neg.congr fun m hm=>?_
   rw [Ad6,A8t (by omega),Nat.add_sub_cancel_left]
   have e:vH (k+1) (rv v) (vR t.toNat) (fun m=>cl c l b (b+m)) m=vH (k+1) (rv v) (vR t.toNat) (rv (Dm (b+(k+1)) c l b)) m:=Wc (fun m hm=>(rc m hm).symm) hm
   rw [e]
   unfold cl
   rw [Ui (by omega) hb,A8u ⟨rfl,by omega⟩]
   by_cases h0:m=0
   ·subst h0
    rw [A9f,A8u rfl,A8u rfl]; grind
   ·rw [A8t (by omega),A8t h0]
    have z:vR (toNat 0)=0:=Jo false
    rw [z]; grind
 ·have hsb:=hs.behind
  have A:=Afn (c:=(c:Int)) (i:=(j:Int)) (b:=(b:Int)) (t:=t) (s:=s) vl (by omega) hK9 al hK mb1 mb2 base.vv base.tb (hsb.congr fun m hm=>Abp hm)
  refine (Ln.tail (s:=120*uR*s+100*Cb) (fun i hi=>?_) ?_).mono (by grind)
  ·rw [Ad6,A8u hi]
   unfold cl
   rw [Ui (by omega) hb,A8t (by omega)]
   unfold Hy
   rw [A8t (by omega)]; grind
  ·refine A.congr fun m hm=>?_
   rw [Ad6,A8t (by omega),Nat.add_sub_cancel_left]
   have e:vH (k+1) (rv v) (vR t.toNat) (fun m=>cl c l b (j+m)) m=vH (k+1) (rv v) (vR t.toNat) (rv (B4 (c:Int) l (b:Int) (j:Int) (k+1))) m:=Wc (fun m hm=>(Abp hm).symm) hm
   rw [e]
   unfold cl
   rw [Ui (by omega) hb,A8t (by omega),hv,ht]
   unfold Hy
   rw [A8u (by omega),show (((j+m:Nat):Int)-(j:Int)).toNat=m by omega,Int.natCast_add]
theorem Apo (hj:j<c) (hz:∀ b i:Nat,b<j→b<i→i<r→cl c l b i=0):∀ b i:Nat,b<j+1→b<i→i<r→cl c (Ps r c l j) b i=0:=by
 intro b i hb hbi hi
 unfold cl
 rw [Ui hi (by omega)]
 by_cases h:b=j
 ·rw [A8u ⟨h,by omega⟩,A8t (by omega)]
  exact Jo false
 ·rw [A8t (by omega)]
  unfold Hy
  rw [A8t (by omega)]
  exact hz b i (by omega) hbi hi
end
end Go.Cv
namespace Go.Cv
open Go.Den
theorem S4 (n:Nat) (f:Nat→Rat):G3 n f=sm n f:=by
 induction n with
 | zero=>rfl
 | succ n ih=>unfold G3 sm; rw [ih]
theorem Aej {f g:Nat→Rat} (n:Nat) (h:∀ i,i<n→f i=g i):G3 n f=G3 n g:=by
 rw [S4,S4]; exact Bo n h
theorem Dg.sum {g t m:Nat} {f:Nat→Rat}:∀ n,(∀ i,i<n→Dg g t m (f i))→Dg g t (n*m) (G3 n f)
 | 0,_=>Dg.zero g t _
 | n+1,h=>by
   unfold G3
   rw [Nat.succ_mul]
   exact (Dg.sum n fun i hi=>h i (by omega)).add (h n (by omega))
theorem Dg.Qi {g t m n k:Nat} {f:Nat→Rat} (hn:n≤k) (h:∀ i,i<n→Dg g t m (f i)):Dg g t (k*m) (G3 n f):=(Dg.sum n h).mono (A8j _ hn)
theorem Ds.dq {x:Rat} (h:Ds x):Dq x:=by
 obtain ⟨g,t,n,h1,h2,h3,h⟩:=h
 exact h.dq (by omega) (by omega) (by omega)
theorem Dg.ds {g t n:Nat} {x:Rat} (h:Dg g t n x) (hg:g≤15000) (ht:t≤15000) (hn:n≤536870912):Ds x:=⟨g,t,n,hg,ht,hn,h⟩
theorem A2h {x:Rat} (h:Ds x):dsB (A2 (mQ x)) (Ah (mQ x)) (eQ x)=true:=Ao.2 ⟨x,h,rfl,rfl,rfl⟩
theorem Aop {n:Bool} {a:List Int} {e:Int} (h:dsB n a e=true):∃ x,Ds x∧n=A2 (mQ x)∧a=Ah (mQ x)∧e=eQ x:=Ao.1 h
theorem Fb {x:Rat} (h:Dq x):El x=x:=Pv h
theorem Fm {x:Rat} (h:Dq x):R4 x=true:=Ahi h
theorem Av0 {x:Rat} (h:Ds x):dSo x=true:=A2h h
theorem Dg.wv (x:Int):Dg 1074 2100 1 (Ek x):=Dg.word _ (by decide)
theorem Dg.wv2 (x y:Int):Dg 2148 4200 1 (Ek x*Ek y):=(Dg.wv x).mul (Dg.wv y)
theorem Dg.dot {n:Nat} {f g:Nat→Int} (h:n≤64):Dg 2148 4200 64 (G3 n fun i=>Ek (f i)*Ek (g i)):=Dg.Qi (m:=1) h fun i _=>Dg.wv2 _ _
theorem Dg.lk {c q i k:Nat} {l m h:List Int} (hc:c≤6):Dg 2148 4200 7 (lkQ c l m h q i k):=by
 unfold lkQ
 have h2:Dg (1074+1074) (2100+1074) 1 (Ek (Cp (q:Int) h (i:Int) (k:Int))):=(Dg.wv _).up 1074
 exact Dg.sub (n:=6) (m:=1) (Dg.Qi (m:=1) hc fun i _=>Dg.wv2 _ _) (h2.wide (s:=4200) (by decide))
theorem Dg.grow {r c q j k:Nat} {l m h:List Int} (hr:r≤6) (hc:c≤6):Dg 3222 6300 42 (G3 r fun i=>Ek (Cp (c:Int) l (i:Int) (j:Int))*lkQ c l m h q i k) :=
 Dg.Qi (m:=7) hr fun i _=>(Dg.wv (Cp (c:Int) l (i:Int) (j:Int))).mul (Dg.lk (c:=c) (q:=q) (i:=i) (k:=k) (l:=l) (m:=m) (h:=h) hc)
theorem Dg.A7h {r c q:Nat} {l m h:List Int} (hr:r≤6) (hc:c≤6) (hq:q≤6):Dg 6444 12600 63504 (Oa r c q l m h) :=
 Dg.Qi (m:=10584) hq fun k _=>Dg.Qi (m:=1764) hc fun j _=>(Dg.grow (j:=j) (k:=k) (l:=l) (m:=m) (h:=h) hr hc).mul (Dg.grow (j:=j) (k:=k) hr hc)
theorem Dg.sq {x:List Int} (h:x.length≤64):Dg 2148 4200 64 (I3 x):=Dg.dot h
theorem Aal {x:Rat} (h:Dq x):Uy (dyR x)=x:=Pv h
end Go.Cv
namespace Go.Proofs.S1
open Go Go.Den Go.Cv Go.Proofs
set_option maxRecDepth 100000
namespace EqRef11Q
def Ax.Cx.q.hint:Nat→Option Bh
 | 0=>some { keep:=[0,2,3,4],objs:=[],boxes:=[2,3] }
 | _=>none
def Ax.Cx.q.Bf:List (Nat × Entry):=[(42,Ai.Add.q.spec),(41,Ai.Mul.q.spec),(63,A4.Value.q.spec)]
def Ax.Cx.q.E:Env:=Bk (Be Ax.Cx.q.Bf) (fun _=>false) Ax.Cx.q.hint (fun _=>none)
section
variable (N M:Nat) (x:List Int) (p4:Int) (p3:Bool) (p3_1:List Int) (p3_2:Int)
def Ax.Cx.q.L0:Option DV:=Cd Ax.Cx.q.E N f55 (As f55) [1,1,0,1,0] [] M ⟨Il 24 [(0,.ints .arg .u64 x),(2,.ptr 2 0 0),(3,.ptr 3 0 0),(4,.int .i64 0)],[(2,false,.box [.bool false,.nil,.int .i64 0]),(3,false,.box [.bool false,.nil,.int .i64 0])]⟩
def Ax.Cx.q.L1:Option DV:=Cd Ax.Cx.q.E N f55 (As f55) [1,1,0,1,0] [] M ⟨Il 24 [(0,.ints .arg .u64 x),(2,.ptr 2 0 0),(3,.ptr 3 0 0),(4,.int .i64 p4)],[(2,false,.box [.bool false,.nil,.int .i64 0]),(3,false,.box [.bool p3,.ints .arg .u32 p3_1,.int .i64 p3_2])]⟩
theorem Ax.Cx.q.A1:Ax.Cx.q.L0 N (M+1) x=bif (Bc 0 (length x:Int)) then bif (decide ((0:Int)<(length x:Int))) then bif (Al (getD x 0 0)) then bif (R4 (Ek (getD x 0 0))&&R4 (Ek (getD x 0 0))) then bif (Zs false [] 0&&R4 (El (Ek (getD x 0 0))*El (Ek (getD x 0 0)))) then Ax.Cx.q.L1 N M x 1 (A2 (mQ (vQ false [] 0+El (El (Ek (getD x 0 0))*El (Ek (getD x 0 0)))))) (Ah (mQ (vQ false [] 0+El (El (Ek (getD x 0 0))*El (Ek (getD x 0 0)))))) (eQ (vQ false [] 0+El (El (Ek (getD x 0 0))*El (Ek (getD x 0 0))))) else none else none else none else none else some (.agg [.bool false,.nil,.int .i64 0]) :=
 Eq.trans (by kernel_rfl)
 (Fg (Fg (Fg (C5 (Cn _) (C5 (Cn _) rfl rfl) rfl) rfl) rfl) rfl)
theorem Ax.Cx.q.Cy:Ax.Cx.q.L1 N (M+1) x p4 p3 p3_1 p3_2=bif (Bc p4 (length x:Int)) then bif ((decide (0≤p4))&&(decide (p4<(length x:Int)))) then bif (Al (getD x (toNat p4) 0)) then bif (R4 (Ek (getD x (toNat p4) 0))&&R4 (Ek (getD x (toNat p4) 0))) then bif (Zs p3 p3_1 p3_2&&R4 (El (Ek (getD x (toNat p4) 0))*El (Ek (getD x (toNat p4) 0)))) then Ax.Cx.q.L1 N M x (Ad (p4+1)) (A2 (mQ (vQ p3 p3_1 p3_2+El (El (Ek (getD x (toNat p4) 0))*El (Ek (getD x (toNat p4) 0)))))) (Ah (mQ (vQ p3 p3_1 p3_2+El (El (Ek (getD x (toNat p4) 0))*El (Ek (getD x (toNat p4) 0)))))) (eQ (vQ p3 p3_1 p3_2+El (El (Ek (getD x (toNat p4) 0))*El (Ek (getD x (toNat p4) 0))))) else none else none else none else none else some (.agg [.bool p3,.ints .arg .u32 p3_1,.int .i64 p3_2]) :=
 Eq.trans (by kernel_rfl)
 (Fg (Fg (Fg (C5 (Cn _) (C5 (Cn _) rfl rfl) rfl) rfl) rfl) rfl)
theorem Ax.Cx.q.ev:B6 Ax.Cx.q.E N f55 (As f55) [.ints .arg .u64 x] =
 Ax.Cx.q.L0 N N x:=by kernel_rfl
end
abbrev _root_.Go.Proofs.S1.Ax.Cx.q.Kn:=A9 prog 55 Ax.Cx.q.spec
theorem Ax.Cx.q.Ae (hk:A3 prog Ax.Cx.q.Bf) (h:Hyp Ax.Cx.q.E f55 Ax.Cx.q.ts Ax.Cx.q.pre Ax.Cx.q.out):Ax.Cx.q.Kn :=
 Am (A5 hk _ _ _) func55 (by kernel_rfl) (by kernel_rfl) h
def Au.Gg.Bf:List (Nat × Entry):=[(55,Ax.Cx.q.spec)]
def Au.Gg.E:Env:=Bk (Be Au.Gg.Bf) (fun _=>false) (fun _=>none) (fun _=>none)
theorem Au.Gg.ev (N:Nat) (r c:Int) (l:List Int):B6 Au.Gg.E N f40 (As f40) [.agg [.int .i64 r,.int .i64 c,.ints .arg .u64 l]]=bif (Dp l&&Cr (length l≤64)) then some (.agg [.bool (A2 (mQ (I3 l))),.ints .arg .u32 (Ah (mQ (I3 l))),.int .i64 (eQ (I3 l))]) else none:=by kernel_rfl
abbrev _root_.Go.Proofs.S1.Au.Gg.Kn:=A9 prog 40 Au.Gg.spec
theorem Au.Gg.Ae (hk:A3 prog Au.Gg.Bf) (h:Hyp Au.Gg.E f40 Au.Gg.ts Au.Gg.pre Au.Gg.out):Au.Gg.Kn :=
 Am (A5 hk _ _ _) func40 (by kernel_rfl) (by kernel_rfl) h
def Au.Hn.q.hint:Nat→Option Bh
 | 0=>some { keep:=[0,1,4,5,6],objs:=[],boxes:=[4,5] }
 | _=>none
def Au.Hn.q.Bf:List (Nat × Entry):=[(42,Ai.Add.q.spec),(41,Ai.Mul.q.spec),(63,A4.Value.q.spec)]
def Au.Hn.q.E:Env:=Bk (Be Au.Hn.q.Bf) (fun _=>false) Au.Hn.q.hint (fun _=>none)
section
variable (N M:Nat) (x y:List Int) (p6:Int) (p5:Bool) (p5_1:List Int) (p5_2:Int)
def Au.Hn.q.L0:Option DV:=Cd Au.Hn.q.E N f106 (As f106) [1,1,0,1,0] [] M ⟨Il 28 [(0,.ints .arg .u64 x),(1,.ints .arg .u64 y),(4,.ptr 4 0 0),(5,.ptr 5 0 0),(6,.int .i64 0)],[(4,false,.box [.bool false,.nil,.int .i64 0]),(5,false,.box [.bool false,.nil,.int .i64 0])]⟩
def Au.Hn.q.L1:Option DV:=Cd Au.Hn.q.E N f106 (As f106) [1,1,0,1,0] [] M ⟨Il 28 [(0,.ints .arg .u64 x),(1,.ints .arg .u64 y),(4,.ptr 4 0 0),(5,.ptr 5 0 0),(6,.int .i64 p6)],[(4,false,.box [.bool false,.nil,.int .i64 0]),(5,false,.box [.bool p5,.ints .arg .u32 p5_1,.int .i64 p5_2])]⟩
theorem Au.Hn.q.A1:Au.Hn.q.L0 N (M+1) x y=bif (Bc 0 (length x:Int)) then bif (decide ((0:Int)<(length x:Int))) then bif (Al (getD x 0 0)) then bif (decide ((0:Int)<(length y:Int))) then bif (Al (getD y 0 0)) then bif (R4 (Ek (getD x 0 0))&&R4 (Ek (getD y 0 0))) then bif (Zs false [] 0&&R4 (El (Ek (getD x 0 0))*El (Ek (getD y 0 0)))) then Au.Hn.q.L1 N M x y 1 (A2 (mQ (vQ false [] 0+El (El (Ek (getD x 0 0))*El (Ek (getD y 0 0)))))) (Ah (mQ (vQ false [] 0+El (El (Ek (getD x 0 0))*El (Ek (getD y 0 0)))))) (eQ (vQ false [] 0+El (El (Ek (getD x 0 0))*El (Ek (getD y 0 0))))) else none else none else none else none else none else none else some (.agg [.bool false,.nil,.int .i64 0]) :=
 Eq.trans (by kernel_rfl)
 (Fg (C5 (Cn _) (C5 (Cn _) (C5 (Cn _) (C5 (Cn _) (C5 (Cn _) (C5 (Cn _) rfl rfl) rfl) rfl) rfl) rfl) rfl) rfl)
theorem Au.Hn.q.Cy:Au.Hn.q.L1 N (M+1) x y p6 p5 p5_1 p5_2=bif (Bc p6 (length x:Int)) then bif ((decide (0≤p6))&&(decide (p6<(length x:Int)))) then bif (Al (getD x (toNat p6) 0)) then bif ((decide (0≤p6))&&(decide (p6<(length y:Int)))) then bif (Al (getD y (toNat p6) 0)) then bif (R4 (Ek (getD x (toNat p6) 0))&&R4 (Ek (getD y (toNat p6) 0))) then bif (Zs p5 p5_1 p5_2&&R4 (El (Ek (getD x (toNat p6) 0))*El (Ek (getD y (toNat p6) 0)))) then Au.Hn.q.L1 N M x y (Ad (p6+1)) (A2 (mQ (vQ p5 p5_1 p5_2+El (El (Ek (getD x (toNat p6) 0))*El (Ek (getD y (toNat p6) 0)))))) (Ah (mQ (vQ p5 p5_1 p5_2+El (El (Ek (getD x (toNat p6) 0))*El (Ek (getD y (toNat p6) 0)))))) (eQ (vQ p5 p5_1 p5_2+El (El (Ek (getD x (toNat p6) 0))*El (Ek (getD y (toNat p6) 0))))) else none else none else none else none else none else none else some (.agg [.bool p5,.ints .arg .u32 p5_1,.int .i64 p5_2]) :=
 Eq.trans (by kernel_rfl)
 (Fg (C5 (Rg _ _) (C5 (Cn _) (C5 (Rg _ _) (C5 (Cn _) (C5 (Cn _) (C5 (Cn _) rfl rfl) rfl) rfl) rfl) rfl) rfl) rfl)
theorem Au.Hn.q.ev:B6 Au.Hn.q.E N f106 (As f106) [.ints .arg .u64 x,.ints .arg .u64 y] =
 Au.Hn.q.L0 N N x y:=by kernel_rfl
end
abbrev _root_.Go.Proofs.S1.Au.Hn.q.Kn:=A9 prog 106 Au.Hn.q.spec
theorem Au.Hn.q.Ae (hk:A3 prog Au.Hn.q.Bf) (h:Hyp Au.Hn.q.E f106 Au.Hn.q.ts Au.Hn.q.pre Au.Hn.q.out):Au.Hn.q.Kn :=
 Am (A5 hk _ _ _) func106 (by kernel_rfl) (by kernel_rfl) h
def Au.G6.hint:Nat→Option Bh
 | 0=>some { keep:=[0,1,4,5,6],objs:=[],boxes:=[4,5] }
 | _=>none
def Au.G6.Bf:List (Nat × Entry):=[(42,Ai.Add.q.spec),(41,Ai.Mul.q.spec),(63,A4.Value.q.spec)]
def Au.G6.E:Env:=Ac6 (Be Au.G6.Bf) (fun _=>false) Au.G6.hint (fun _=>none) (Ao2 [(45,[.b,.s .u32]),(47,[.b,.s .u32,.i .i64])])
section
variable (N M:Nat) (x:List Int) (y:List (List DV)) (p6:Int) (p5:Bool) (p5_1:List Int) (p5_2:Int)
def Au.G6.L0:Option DV:=Cd Au.G6.E N f117 (As f117) [1,1,0,1,0] [] M ⟨Il 27 [(0,.ints .arg .u64 x),(1,.recs .arg 3 y),(4,.ptr 4 0 0),(5,.ptr 5 0 0),(6,.int .i64 0)],[(4,false,.box [.bool false,.nil,.int .i64 0]),(5,false,.box [.bool false,.nil,.int .i64 0])]⟩
def Au.G6.L1:Option DV:=Cd Au.G6.E N f117 (As f117) [1,1,0,1,0] [] M ⟨Il 27 [(0,.ints .arg .u64 x),(1,.recs .arg 3 y),(4,.ptr 4 0 0),(5,.ptr 5 0 0),(6,.int .i64 p6)],[(4,false,.box [.bool false,.nil,.int .i64 0]),(5,false,.box [.bool p5,.ints .arg .u32 p5_1,.int .i64 p5_2])]⟩
theorem Au.G6.A1:Au.G6.L0 N (M+1) x y=bif (Bc 0 (length x:Int)) then bif (decide ((0:Int)<(length x:Int))) then bif (Al (getD x 0 0)) then bif (decide ((0:Int)<(length y:Int))) then bif ((isC .b (getD (getD y 0 []) 0 .undef))&&((isC (.s .u32) (getD (getD y 0 []) 1 .undef))&&(isC (.i .i64) (getD (getD y 0 []) 2 .undef)))) then bif (R4 (Ek (getD x 0 0))&&Zs (M4 (getD (getD y 0 []) 0 .undef)) (Jl (getD (getD y 0 []) 1 .undef)) (Pl (getD (getD y 0 []) 2 .undef))) then bif (Zs false [] 0&&R4 (El (Ek (getD x 0 0))*vQ (M4 (getD (getD y 0 []) 0 .undef)) (Jl (getD (getD y 0 []) 1 .undef)) (Pl (getD (getD y 0 []) 2 .undef)))) then Au.G6.L1 N M x y 1 (A2 (mQ (vQ false [] 0+El (El (Ek (getD x 0 0))*vQ (M4 (getD (getD y 0 []) 0 .undef)) (Jl (getD (getD y 0 []) 1 .undef)) (Pl (getD (getD y 0 []) 2 .undef)))))) (Ah (mQ (vQ false [] 0+El (El (Ek (getD x 0 0))*vQ (M4 (getD (getD y 0 []) 0 .undef)) (Jl (getD (getD y 0 []) 1 .undef)) (Pl (getD (getD y 0 []) 2 .undef)))))) (eQ (vQ false [] 0+El (El (Ek (getD x 0 0))*vQ (M4 (getD (getD y 0 []) 0 .undef)) (Jl (getD (getD y 0 []) 1 .undef)) (Pl (getD (getD y 0 []) 2 .undef))))) else none else none else none else none else none else none else some (.agg [.bool false,.nil,.int .i64 0]) :=
 Eq.trans (by kernel_rfl)
 (Fg (C5 (Cn _) (C5 (Cn _) (C5 (Cn _) (C5 (A0i _ _ _) (C5 (Cn _) (C5 (Cn _) rfl rfl) rfl) rfl) rfl) rfl) rfl) rfl)
theorem Au.G6.Cy:Au.G6.L1 N (M+1) x y p6 p5 p5_1 p5_2=bif (Bc p6 (length x:Int)) then bif ((decide (0≤p6))&&(decide (p6<(length x:Int)))) then bif (Al (getD x (toNat p6) 0)) then bif ((decide (0≤p6))&&(decide (p6<(length y:Int)))) then bif ((isC .b (getD (getD y (toNat p6) []) 0 .undef))&&((isC (.s .u32) (getD (getD y (toNat p6) []) 1 .undef))&&(isC (.i .i64) (getD (getD y (toNat p6) []) 2 .undef)))) then bif (R4 (Ek (getD x (toNat p6) 0))&&Zs (M4 (getD (getD y (toNat p6) []) 0 .undef)) (Jl (getD (getD y (toNat p6) []) 1 .undef)) (Pl (getD (getD y (toNat p6) []) 2 .undef))) then bif (Zs p5 p5_1 p5_2&&R4 (El (Ek (getD x (toNat p6) 0))*vQ (M4 (getD (getD y (toNat p6) []) 0 .undef)) (Jl (getD (getD y (toNat p6) []) 1 .undef)) (Pl (getD (getD y (toNat p6) []) 2 .undef)))) then Au.G6.L1 N M x y (Ad (p6+1)) (A2 (mQ (vQ p5 p5_1 p5_2+El (El (Ek (getD x (toNat p6) 0))*vQ (M4 (getD (getD y (toNat p6) []) 0 .undef)) (Jl (getD (getD y (toNat p6) []) 1 .undef)) (Pl (getD (getD y (toNat p6) []) 2 .undef)))))) (Ah (mQ (vQ p5 p5_1 p5_2+El (El (Ek (getD x (toNat p6) 0))*vQ (M4 (getD (getD y (toNat p6) []) 0 .undef)) (Jl (getD (getD y (toNat p6) []) 1 .undef)) (Pl (getD (getD y (toNat p6) []) 2 .undef)))))) (eQ (vQ p5 p5_1 p5_2+El (El (Ek (getD x (toNat p6) 0))*vQ (M4 (getD (getD y (toNat p6) []) 0 .undef)) (Jl (getD (getD y (toNat p6) []) 1 .undef)) (Pl (getD (getD y (toNat p6) []) 2 .undef))))) else none else none else none else none else none else none else some (.agg [.bool p5,.ints .arg .u32 p5_1,.int .i64 p5_2]) :=
 Eq.trans (by kernel_rfl)
 (Fg (C5 (Rg _ _) (C5 (Cn _) (C5 (Rg _ _) (C5 (A0i _ _ _) (C5 (Cn _) (C5 (Cn _) rfl rfl) rfl) rfl) rfl) rfl) rfl) rfl)
theorem Au.G6.ev:B6 Au.G6.E N f117 (As f117) [.ints .arg .u64 x,.recs .arg 3 y] =
 Au.G6.L0 N N x y:=by kernel_rfl
end
abbrev _root_.Go.Proofs.S1.Au.G6.Kn:=A9 prog 117 Au.G6.spec
theorem Au.G6.Ae (hk:A3 prog Au.G6.Bf) (h:Hyp Au.G6.E f117 Au.G6.ts Au.G6.pre Au.G6.out):Au.G6.Kn :=
 Am (Ahe hk _ _ _ _) func117 (by kernel_rfl) (by kernel_rfl) h
def Au.A6.hint:Nat→Option Bh
 | 0=>some { keep:=[3,4,5,6,7,8],objs:=[],boxes:=[3,4,5,6,7] }
 | 2=>some { keep:=[3,4,5,6,7,8,9,10],objs:=[(0,9,100009,.recs 47 3 [])],boxes:=[3,4,5,6,7] }
 | 4=>some { keep:=[3,4,5,6,7,8,9,11],objs:=[(0,9,100009,.recs 47 3 [])],boxes:=[3,4,5,6,7] }
 | _=>none
def Au.A6.Bf:List (Nat × Entry):=[(42,Ai.Add.q.spec),(41,Ai.Mul.q.spec),(105,Ai.Sub.q.spec),(63,A4.Value.q.spec),(80,A8.At.spec),(108,A8.Ss.spec),(107,A8.Row.spec),(106,Au.Hn.q.spec),(117,Au.G6.spec)]
def Au.A6.E:Env:=Ac6 (Be Au.A6.Bf) (fun _=>false) Au.A6.hint (fun _=>none) (Ao2 [(45,[.b,.s .u32]),(47,[.b,.s .u32,.i .i64])])
section
variable (N M0 M:Nat) (r c:Int) (l:List Int) (p q:Int) (m:List Int) (u v:Int) (h:List Int) (p8_2:Int) (p7_3:Bool) (p7_4:List Int) (p7_5 p8_6:Int) (p7_9:Bool) (p7_10:List Int) (p7_11:Int) (p9_4:List (List DV)) (p11:Int) (p7:Bool) (p7_1:List Int) (p7_2 p8_1:Int) (p9_3:List (List DV)) (p8_4:Int) (p9_2:List (List DV)) (p10_1:Int) (p9_1:List (List DV)) (p8_5:Int) (p7_6:Bool) (p7_7:List Int) (p7_8 p10:Int) (p9:List (List DV)) (p8_3 p8:Int)
def Au.A6.L0:Option DV:=Cd Au.A6.E N f44 (As f44) [1,1,0,1,0] [] M ⟨Il 60 [(3,.ptr 3 0 0),(4,.ptr 4 0 0),(5,.ptr 5 0 0),(6,.ptr 6 0 0),(7,.ptr 7 0 0),(8,.int .i64 p8)],[(3,false,.box [.int .i64 r,.int .i64 c,.ints .arg .u64 l]),(4,false,.box [.int .i64 p,.int .i64 q,.ints .arg .u64 m]),(5,false,.box [.int .i64 u,.int .i64 v,.ints .arg .u64 h]),(6,false,.box [.bool false,.nil,.int .i64 0]),(7,false,.box [.bool false,.nil,.int .i64 0])]⟩
def Au.A6.L1:Option DV:=Cd Au.A6.E N f44 (As f44) [1,1,0,1,0,0,1,0,0,1,0,1,0] [M0] M ⟨Il 60 [(3,.ptr 3 0 0),(4,.ptr 4 0 0),(5,.ptr 5 0 0),(6,.ptr 6 0 0),(7,.ptr 7 0 0),(8,.int .i64 p8_3),(9,.oref 100009),(10,.int .i64 p10)],[(3,false,.box [.int .i64 r,.int .i64 c,.ints .arg .u64 l]),(4,false,.box [.int .i64 p,.int .i64 q,.ints .arg .u64 m]),(5,false,.box [.int .i64 u,.int .i64 v,.ints .arg .u64 h]),(6,false,.box [.bool false,.nil,.int .i64 0]),(7,false,.box [.bool false,.nil,.int .i64 0]),(100009,false,.recs 47 3 p9)]⟩
def Au.A6.L2:Option DV:=Cd Au.A6.E N f44 (As f44) [1,1,0,1,0,0,1,0,0,1,0,1,0] [M0] M ⟨Il 60 [(3,.ptr 3 0 0),(4,.ptr 4 0 0),(5,.ptr 5 0 0),(6,.ptr 6 0 0),(7,.ptr 7 0 0),(8,.int .i64 p8_5),(9,.oref 100009),(10,.int .i64 p10_1)],[(3,false,.box [.int .i64 r,.int .i64 c,.ints .arg .u64 l]),(4,false,.box [.int .i64 p,.int .i64 q,.ints .arg .u64 m]),(5,false,.box [.int .i64 u,.int .i64 v,.ints .arg .u64 h]),(6,false,.box [.bool false,.nil,.int .i64 0]),(7,false,.box [.bool p7_6,.ints .arg .u32 p7_7,.int .i64 p7_8]),(100009,false,.recs 47 3 p9_1)]⟩
def Au.A6.L3:Option DV:=Cd Au.A6.E N f44 (As f44) [1,1,0,1,0,0,1,0,0,1,1,1,0] [M0] M ⟨Il 60 [(3,.ptr 3 0 0),(4,.ptr 4 0 0),(5,.ptr 5 0 0),(6,.ptr 6 0 0),(7,.ptr 7 0 0),(8,.int .i64 p8_4),(9,.oref 100009),(11,.int .i64 0)],[(3,false,.box [.int .i64 r,.int .i64 c,.ints .arg .u64 l]),(4,false,.box [.int .i64 p,.int .i64 q,.ints .arg .u64 m]),(5,false,.box [.int .i64 u,.int .i64 v,.ints .arg .u64 h]),(6,false,.box [.bool false,.nil,.int .i64 0]),(7,false,.box [.bool false,.nil,.int .i64 0]),(100009,false,.recs 47 3 p9_2)]⟩
def Au.A6.L4:Option DV:=Cd Au.A6.E N f44 (As f44) [1,1,0,1,0,0,1,0,0,1,1,1,0] [M0] M ⟨Il 60 [(3,.ptr 3 0 0),(4,.ptr 4 0 0),(5,.ptr 5 0 0),(6,.ptr 6 0 0),(7,.ptr 7 0 0),(8,.int .i64 p8_1),(9,.recs .fresh 3 p9_3),(11,.int .i64 p11)],[(3,false,.box [.int .i64 r,.int .i64 c,.ints .arg .u64 l]),(4,false,.box [.int .i64 p,.int .i64 q,.ints .arg .u64 m]),(5,false,.box [.int .i64 u,.int .i64 v,.ints .arg .u64 h]),(6,false,.box [.bool false,.nil,.int .i64 0]),(7,false,.box [.bool p7,.ints .arg .u32 p7_1,.int .i64 p7_2])]⟩
def Au.A6.L5:Option DV:=Cd Au.A6.E N f44 (As f44) [1,1,0,1,0,0,1,0,0,1,1,1,0] [M0] M ⟨Il 60 [(3,.ptr 3 0 0),(4,.ptr 4 0 0),(5,.ptr 5 0 0),(6,.ptr 6 0 0),(7,.ptr 7 0 0),(8,.int .i64 p8_6),(9,.oref 100009),(11,.int .i64 0)],[(3,false,.box [.int .i64 r,.int .i64 c,.ints .arg .u64 l]),(4,false,.box [.int .i64 p,.int .i64 q,.ints .arg .u64 m]),(5,false,.box [.int .i64 u,.int .i64 v,.ints .arg .u64 h]),(6,false,.box [.bool false,.nil,.int .i64 0]),(7,false,.box [.bool p7_9,.ints .arg .u32 p7_10,.int .i64 p7_11]),(100009,false,.recs 47 3 p9_4)]⟩
def Au.A6.L6:Option DV:=Cd Au.A6.E N f44 (As f44) [1,1,0,1,0] [] M ⟨Il 60 [(3,.ptr 3 0 0),(4,.ptr 4 0 0),(5,.ptr 5 0 0),(6,.ptr 6 0 0),(7,.ptr 7 0 0),(8,.int .i64 p8_2)],[(3,false,.box [.int .i64 r,.int .i64 c,.ints .arg .u64 l]),(4,false,.box [.int .i64 p,.int .i64 q,.ints .arg .u64 m]),(5,false,.box [.int .i64 u,.int .i64 v,.ints .arg .u64 h]),(6,false,.box [.bool false,.nil,.int .i64 0]),(7,false,.box [.bool p7_3,.ints .arg .u32 p7_4,.int .i64 p7_5])]⟩
theorem Au.A6.A1:Au.A6.L0 N (M+1) r c l p q m u v h p8=bif (Bc p8 q) then Au.A6.L1 N M N r c l p q m u v h 0 [] p8 else some (.agg [.bool false,.nil,.int .i64 0]):=by kernel_rfl
theorem Au.A6.Cy:Au.A6.L1 N M0 (M+1) r c l p q m u v h p10 p9 p8_3=bif (Bc p10 r) then bif (Rk r c l p10) then bif (G9 p q m p8_3&&Cr (0≤(0:Int)∧(0:Int)≤p)) then bif ((Ak (G7 c l p10)&&Ak (B4 q m p8_3 0 (toNat (p-0))))&&Cr (length (G7 c l p10)=length (B4 q m p8_3 0 (toNat (p-0)))∧length (G7 c l p10)≤64)) then bif (Ha u v h p10 p8_3) then bif (Al (Cp v h p10 p8_3)) then bif (R4 (dtL (G7 c l p10) (B4 q m p8_3 0 (toNat (p-0))))&&R4 (Ek (Cp v h p10 p8_3))) then bif (decide ((length p9)+1≤Acm)) then Au.A6.L1 N M0 M r c l p q m u v h (Ad (p10+1)) (p9++[[.bool (A2 (mQ (El (dtL (G7 c l p10) (B4 q m p8_3 0 (toNat (p-0))))-El (Ek (Cp v h p10 p8_3))))),.ints .arg .u32 (Ah (mQ (El (dtL (G7 c l p10) (B4 q m p8_3 0 (toNat (p-0))))-El (Ek (Cp v h p10 p8_3))))),.int .i64 (eQ (El (dtL (G7 c l p10) (B4 q m p8_3 0 (toNat (p-0))))-El (Ek (Cp v h p10 p8_3))))]]) p8_3 else none else none else none else none else none else none else none else Au.A6.L3 N M0 N r c l p q m u v h p8_3 p9 :=
 Eq.trans (by kernel_rfl)
 (Fg (C5 (Cn _) (C5 (Cn _) (C5 (Cn _) (C5 (Cn _) (C5 (Cn _) (C5 (Cn _) (C5 (Cn _) rfl rfl) rfl) rfl) rfl) rfl) rfl) rfl) rfl)
theorem Au.A6.Kp:Au.A6.L2 N M0 (M+1) r c l p q m u v h p10_1 p9_1 p8_5 p7_6 p7_7 p7_8=bif (Bc p10_1 r) then bif (Rk r c l p10_1) then bif (G9 p q m p8_5&&Cr (0≤(0:Int)∧(0:Int)≤p)) then bif ((Ak (G7 c l p10_1)&&Ak (B4 q m p8_5 0 (toNat (p-0))))&&Cr (length (G7 c l p10_1)=length (B4 q m p8_5 0 (toNat (p-0)))∧length (G7 c l p10_1)≤64)) then bif (Ha u v h p10_1 p8_5) then bif (Al (Cp v h p10_1 p8_5)) then bif (R4 (dtL (G7 c l p10_1) (B4 q m p8_5 0 (toNat (p-0))))&&R4 (Ek (Cp v h p10_1 p8_5))) then bif (decide ((length p9_1)+1≤Acm)) then Au.A6.L2 N M0 M r c l p q m u v h (Ad (p10_1+1)) (p9_1++[[.bool (A2 (mQ (El (dtL (G7 c l p10_1) (B4 q m p8_5 0 (toNat (p-0))))-El (Ek (Cp v h p10_1 p8_5))))),.ints .arg .u32 (Ah (mQ (El (dtL (G7 c l p10_1) (B4 q m p8_5 0 (toNat (p-0))))-El (Ek (Cp v h p10_1 p8_5))))),.int .i64 (eQ (El (dtL (G7 c l p10_1) (B4 q m p8_5 0 (toNat (p-0))))-El (Ek (Cp v h p10_1 p8_5))))]]) p8_5 p7_6 p7_7 p7_8 else none else none else none else none else none else none else none else Au.A6.L5 N M0 N r c l p q m u v h p8_5 p7_6 p7_7 p7_8 p9_1 :=
 Eq.trans (by kernel_rfl)
 (Fg (C5 (Cn _) (C5 (Cn _) (C5 (Cn _) (C5 (Cn _) (C5 (Cn _) (C5 (Cn _) (C5 (Cn _) rfl rfl) rfl) rfl) rfl) rfl) rfl) rfl) rfl)
theorem Au.A6.X5:Au.A6.L3 N M0 (M+1) r c l p q m u v h p8_4 p9_2=bif (Bc 0 c) then bif (G9 r c l 0&&Cr (0≤(0:Int)∧(0:Int)≤r)) then bif (Ak (B4 c l 0 0 (toNat (r-0)))&&Sg p9_2 (length (B4 c l 0 0 (toNat (r-0))))) then bif (R4 (Q8 (B4 c l 0 0 (toNat (r-0))) p9_2)&&R4 (Q8 (B4 c l 0 0 (toNat (r-0))) p9_2)) then bif (Zs false [] 0&&R4 (El (Q8 (B4 c l 0 0 (toNat (r-0))) p9_2)*El (Q8 (B4 c l 0 0 (toNat (r-0))) p9_2))) then Au.A6.L4 N M0 M r c l p q m u v h 1 (A2 (mQ (vQ false [] 0+El (El (Q8 (B4 c l 0 0 (toNat (r-0))) p9_2)*El (Q8 (B4 c l 0 0 (toNat (r-0))) p9_2))))) (Ah (mQ (vQ false [] 0+El (El (Q8 (B4 c l 0 0 (toNat (r-0))) p9_2)*El (Q8 (B4 c l 0 0 (toNat (r-0))) p9_2))))) (eQ (vQ false [] 0+El (El (Q8 (B4 c l 0 0 (toNat (r-0))) p9_2)*El (Q8 (B4 c l 0 0 (toNat (r-0))) p9_2)))) p8_4 p9_2 else none else none else none else none else Au.A6.L0 N M0 r c l p q m u v h (Ad (p8_4+1)) :=
 Eq.trans (by kernel_rfl)
 (Fg (Fg (Fg (C5 (Cn _) (C5 (Cn _) rfl rfl) rfl) rfl) rfl) rfl)
theorem Au.A6.Ao7:Au.A6.L4 N M0 (M+1) r c l p q m u v h p11 p7 p7_1 p7_2 p8_1 p9_3=bif (Bc p11 c) then bif (G9 r c l p11&&Cr (0≤(0:Int)∧(0:Int)≤r)) then bif (Ak (B4 c l p11 0 (toNat (r-0)))&&Sg p9_3 (length (B4 c l p11 0 (toNat (r-0))))) then bif (R4 (Q8 (B4 c l p11 0 (toNat (r-0))) p9_3)&&R4 (Q8 (B4 c l p11 0 (toNat (r-0))) p9_3)) then bif (Zs p7 p7_1 p7_2&&R4 (El (Q8 (B4 c l p11 0 (toNat (r-0))) p9_3)*El (Q8 (B4 c l p11 0 (toNat (r-0))) p9_3))) then Au.A6.L4 N M0 M r c l p q m u v h (Ad (p11+1)) (A2 (mQ (vQ p7 p7_1 p7_2+El (El (Q8 (B4 c l p11 0 (toNat (r-0))) p9_3)*El (Q8 (B4 c l p11 0 (toNat (r-0))) p9_3))))) (Ah (mQ (vQ p7 p7_1 p7_2+El (El (Q8 (B4 c l p11 0 (toNat (r-0))) p9_3)*El (Q8 (B4 c l p11 0 (toNat (r-0))) p9_3))))) (eQ (vQ p7 p7_1 p7_2+El (El (Q8 (B4 c l p11 0 (toNat (r-0))) p9_3)*El (Q8 (B4 c l p11 0 (toNat (r-0))) p9_3)))) p8_1 p9_3 else none else none else none else none else Au.A6.L6 N M0 r c l p q m u v h (Ad (p8_1+1)) p7 p7_1 p7_2 :=
 Eq.trans (by kernel_rfl)
 (Fg (Fg (Fg (C5 (Cn _) (C5 (Cn _) rfl rfl) rfl) rfl) rfl) rfl)
theorem Au.A6.Ao6:Au.A6.L5 N M0 (M+1) r c l p q m u v h p8_6 p7_9 p7_10 p7_11 p9_4=bif (Bc 0 c) then bif (G9 r c l 0&&Cr (0≤(0:Int)∧(0:Int)≤r)) then bif (Ak (B4 c l 0 0 (toNat (r-0)))&&Sg p9_4 (length (B4 c l 0 0 (toNat (r-0))))) then bif (R4 (Q8 (B4 c l 0 0 (toNat (r-0))) p9_4)&&R4 (Q8 (B4 c l 0 0 (toNat (r-0))) p9_4)) then bif (Zs p7_9 p7_10 p7_11&&R4 (El (Q8 (B4 c l 0 0 (toNat (r-0))) p9_4)*El (Q8 (B4 c l 0 0 (toNat (r-0))) p9_4))) then Au.A6.L4 N M0 M r c l p q m u v h 1 (A2 (mQ (vQ p7_9 p7_10 p7_11+El (El (Q8 (B4 c l 0 0 (toNat (r-0))) p9_4)*El (Q8 (B4 c l 0 0 (toNat (r-0))) p9_4))))) (Ah (mQ (vQ p7_9 p7_10 p7_11+El (El (Q8 (B4 c l 0 0 (toNat (r-0))) p9_4)*El (Q8 (B4 c l 0 0 (toNat (r-0))) p9_4))))) (eQ (vQ p7_9 p7_10 p7_11+El (El (Q8 (B4 c l 0 0 (toNat (r-0))) p9_4)*El (Q8 (B4 c l 0 0 (toNat (r-0))) p9_4)))) p8_6 p9_4 else none else none else none else none else Au.A6.L6 N M0 r c l p q m u v h (Ad (p8_6+1)) p7_9 p7_10 p7_11 :=
 Eq.trans (by kernel_rfl)
 (Fg (Fg (Fg (C5 (Cn _) (C5 (Cn _) rfl rfl) rfl) rfl) rfl) rfl)
theorem Au.A6.Ao5:Au.A6.L6 N (M+1) r c l p q m u v h p8_2 p7_3 p7_4 p7_5=bif (Bc p8_2 q) then Au.A6.L2 N M N r c l p q m u v h 0 [] p8_2 p7_3 p7_4 p7_5 else some (.agg [.bool p7_3,.ints .arg .u32 p7_4,.int .i64 p7_5]):=by kernel_rfl
theorem Au.A6.ev:B6 Au.A6.E N f44 (As f44) [.agg [.int .i64 r,.int .i64 c,.ints .arg .u64 l],.agg [.int .i64 p,.int .i64 q,.ints .arg .u64 m],.agg [.int .i64 u,.int .i64 v,.ints .arg .u64 h]] =
 Au.A6.L0 N N r c l p q m u v h 0:=by kernel_rfl
end
abbrev _root_.Go.Proofs.S1.Au.A6.Kn:=A9 prog 44 Au.A6.spec
theorem Au.A6.Ae (hk:A3 prog Au.A6.Bf) (h:Hyp Au.A6.E f44 Au.A6.ts Au.A6.pre Au.A6.out):Au.A6.Kn :=
 Am (Ahe hk _ _ _ _) func44 (by kernel_rfl) (by kernel_rfl) h
def Au.F2.Bf:List (Nat × Entry):=[(115,Ag.Of.spec),(42,Ai.Add.q.spec),(116,Ai.Compare.q.spec),(109,Ai.Of.q.spec),(114,Ai.Cq.q.spec)]
def Au.F2.E:Env:=Bk (Be Au.F2.Bf) (fun _=>false) (fun _=>none) (fun _=>none)
theorem Au.F2.ev (N:Nat) (n:Bool) (a:List Int) (e:Int) (m:Bool) (b:List Int) (f k:Int):B6 Au.F2.E N f43 (As f43) [.agg [.bool n,.ints .arg .u32 a,.int .i64 e],.agg [.bool m,.ints .arg .u32 b,.int .i64 f],.int .i64 k]=bif (Zs m b f&&Cr (-2000≤(Ad ((0:Int)-(Ad ((2:Int)*k))))∧(Ad ((0:Int)-(Ad ((2:Int)*k))))≤2000)) then bif (Afa 1) then bif (Ll (A2 ((1:Int))) (Ah ((1:Int)))&&Cr (-5000≤(-4000:Int)∧(-4000:Int)≤5000)) then bif (R4 (vQ m b f*tw (Ad ((0:Int)-(Ad ((2:Int)*k)))))&&R4 (vQ (A2 ((1:Int))) (Ah ((1:Int))) (-4000:Int))) then bif (Zs n a e&&R4 (El (vQ m b f*tw (Ad ((0:Int)-(Ad ((2:Int)*k)))))+El (vQ (A2 ((1:Int))) (Ah ((1:Int))) (-4000:Int)))) then some (.bool (E8 (Amx (vQ n a e) (El (El (vQ m b f*tw (Ad ((0:Int)-(Ad ((2:Int)*k)))))+El (vQ (A2 ((1:Int))) (Ah ((1:Int))) (-4000:Int))))) 0)) else none else none else none else none else none:=by kernel_rfl
abbrev _root_.Go.Proofs.S1.Au.F2.Kn:=A9 prog 43 Au.F2.spec
theorem Au.F2.Ae (hk:A3 prog Au.F2.Bf) (h:Hyp Au.F2.E f43 Au.F2.ts Au.F2.pre Au.F2.out):Au.F2.Kn :=
 Am (A5 hk _ _ _) func43 (by kernel_rfl) (by kernel_rfl) h
end EqRef11Q
open Go Go.Den Go.Cv Go.Proofs
open EqRef11Q
theorem _root_.Go.Cv.Dq.val {x:Rat} (h:Dq x):((mQ x:Int):Rat)*tw (eQ x)=x:=h.parts.1.symm
theorem wq {drops:List Nat} {m m' e e':Int} (h1:m=m') (h2:e=e'):Wk drops (.agg [.bool (A2 m),.ints .arg .u32 (Ah m),.int .i64 e]) (.agg [.bool (A2 m'),.ints .arg .u32 (Ah m'),.int .i64 e']):=by
 subst h1 h2
 exact wdy
theorem ok4 {a b c d:Bool} (h1:a=true) (h2:b=true) (h3:c=true) (h4:d=true):(((a&&b)&&c)&&d)=true:=by
 rw [h1,h2,h3,h4]; rfl
theorem Ai.Add.q.known:Ai.Add.q.Kn:=A9.Adq (P:=_) (pre:=Ai.Add.pre) (out:=Ai.Add.out) Ai.Add.known [] fun ats h=>by
 unfold Ai.Add.q.pre at h
 split at h
 ·rename_i n a e m b f
  obtain ⟨h1,h2⟩:=Af.1 h
  obtain ⟨x,hx,rfl,rfl,rfl⟩:=Om h1
  obtain ⟨y,hy,rfl,rfl,rfl⟩:=Om h2
  refine ⟨ok4 hx.Zk hy.Zk hx.Sl hy.Sl,?_⟩
  have:=A5n (mQ x) (eQ x) (mQ y) (eQ y)
  rw [hx.val,hy.val] at this
  show Wk [] (DV.agg [.bool (A2 (Pu (wv _ _) _ (wv _ _) _)),.ints .arg .u32 (Ah (Pu (wv _ _) _ (wv _ _) _)),.int .i64 (Akl (wv _ _) _ (wv _ _) _)]) (DV.agg [.bool (A2 (mQ (vQ _ _ _+vQ _ _ _))),.ints .arg .u32 (Ah (mQ (vQ _ _ _+vQ _ _ _))),.int .i64 (eQ (vQ _ _ _+vQ _ _ _))])
  rw [Ft,Ft,Pv hx,Pv hy]
  exact wq this.1 this.2
 ·cases h
theorem Ai.Sub.q.known:Ai.Sub.q.Kn:=A9.Adq (P:=_) (pre:=Ai.Sub.pre) (out:=Ai.Sub.out) Ai.Sub.known [] fun ats h=>by
 unfold Ai.Sub.q.pre at h
 split at h
 ·rename_i n a e m b f
  obtain ⟨h1,h2⟩:=Af.1 h
  obtain ⟨x,hx,rfl,rfl,rfl⟩:=Om h1
  obtain ⟨y,hy,rfl,rfl,rfl⟩:=Om h2
  refine ⟨ok4 hx.Zk hy.Zk hx.Sl hy.Sl,?_⟩
  have:=A5n (mQ x) (eQ x) (-(mQ y)) (eQ y)
  have e:((mQ x:Int):Rat)*tw (eQ x)+((-(mQ y):Int):Rat)*tw (eQ y)=x-y:=by
   rw [hx.val,Rat.intCast_neg]
   have:=hy.val
   grind
  rw [e] at this
  show Wk [] (DV.agg [.bool (A2 (Pu (wv _ _) _ (-(wv _ _)) _)),.ints .arg .u32 (Ah (Pu (wv _ _) _ (-(wv _ _)) _)),.int .i64 (Akl (wv _ _) _ (-(wv _ _)) _)]) (DV.agg [.bool (A2 (mQ (vQ _ _ _-vQ _ _ _))),.ints .arg .u32 (Ah (mQ (vQ _ _ _-vQ _ _ _))),.int .i64 (eQ (vQ _ _ _-vQ _ _ _))])
  rw [Ft,Ft,Pv hx,Pv hy]
  exact wq this.1 this.2
 ·cases h
theorem Ai.Mul.q.known:Ai.Mul.q.Kn:=A9.Adq (P:=_) (pre:=Ai.Mul.pre) (out:=Ai.Mul.out) Ai.Mul.known [] fun ats h=>by
 unfold Ai.Mul.q.pre at h
 split at h
 ·rename_i n a e m b f
  obtain ⟨h1,h2⟩:=Af.1 h
  obtain ⟨x,hx,rfl,rfl,rfl⟩:=Om h1
  obtain ⟨y,hy,rfl,rfl,rfl⟩:=Om h2
  refine ⟨show ((okM _ _&&okM _ _)&&(Sl _&&Sl _))=true by rw [hx.okM,hy.okM,hx.Sl,hy.Sl]; rfl,?_⟩
  have:=A7f (mQ x) (eQ x) (mQ y) (eQ y)
  rw [hx.val,hy.val] at this
  show Wk [] (DV.agg [.bool (A2 (mD (wv _ _*wv _ _))),.ints .arg .u32 (Ah (mD (wv _ _*wv _ _))),.int .i64 (eD (wv _ _*wv _ _) _)]) (DV.agg [.bool (A2 (mQ (vQ _ _ _*vQ _ _ _))),.ints .arg .u32 (Ah (mQ (vQ _ _ _*vQ _ _ _))),.int .i64 (eQ (vQ _ _ _*vQ _ _ _))])
  rw [Ft,Ft,Pv hx,Pv hy]
  exact wq this.1 this.2
 ·cases h
theorem Ai.Cq.q.known:Ai.Cq.q.Kn:=A9.Adq (P:=_) (pre:=Ai.Cq.pre) (out:=Ai.Cq.out) Ai.Cq.known [] fun ats h=>by
 unfold Ai.Cq.q.pre at h
 split at h
 ·rename_i n a e k
  obtain ⟨h1,h2⟩:=Af.1 h
  obtain ⟨x,hx,rfl,rfl,rfl⟩:=Om h1
  have hk:=Ao.1 h2
  have ok:Sl k=true:=Ao.2 (by omega)
  refine ⟨show ((Ll _ _&&Sl _)&&Sl _)=true by rw [hx.Ll,hx.Sl,ok]; rfl,?_⟩
  have:=A1u (mQ x) (eQ x+k)
  have e:((mQ x:Int):Rat)*tw (eQ x+k)=x*tw k:=by
   rw [E3]
   have:=hx.val
   grind
  rw [e] at this
  show Wk [] (DV.agg [.bool (A2 (mD (wv _ _))),.ints .arg .u32 (Ah (mD (wv _ _))),.int .i64 (eD (wv _ _) _)]) (DV.agg [.bool (A2 (mQ (vQ _ _ _*tw k))),.ints .arg .u32 (Ah (mQ (vQ _ _ _*tw k))),.int .i64 (eQ (vQ _ _ _*tw k))])
  rw [Ft,Pv hx]
  exact wq this.1 this.2
 ·cases h
theorem Ai.Compare.q.known:Ai.Compare.q.Kn:=A9.Adq (P:=_) (pre:=Ai.Compare.pre) (out:=Ai.Compare.out) Ai.Compare.known [] fun ats h=>by
 unfold Ai.Compare.q.pre at h
 split at h
 ·rename_i n a e m b f
  obtain ⟨h1,h2⟩:=Af.1 h
  obtain ⟨x,hx,rfl,rfl,rfl⟩:=Om h1
  obtain ⟨y,hy,rfl,rfl,rfl⟩:=Om h2
  refine ⟨ok4 hx.Zk hy.Zk hx.Sl hy.Sl,?_⟩
  show Wk [] (DV.int .i64 (Z7 (wv _ _) _ (wv _ _) _)) (DV.int .i64 (Amx (vQ _ _ _) (vQ _ _ _)))
  rw [Ft,Ft,Pv hx,Pv hy,A7j hx hy]
  exact .int
 ·cases h
theorem Ai.Of.q.known:Ai.Of.q.Kn:=A9.Adq (P:=_) (pre:=Ai.Of.pre) (out:=Ai.Of.out) Ai.Of.known [] fun ats h=>by
 unfold Ai.Of.q.pre at h
 split at h
 ·rename_i n a e
  obtain ⟨h1,h2⟩:=Af.1 h
  have hk:=Ao.1 h2
  have ok:Vq e=true:=Ao.2 (by omega)
  refine ⟨show (Ll _ _&&Vq _)=true by rw [h1,ok]; rfl,?_⟩
  have:=A1u (wv n a) e
  show Wk [] (DV.agg [.bool (A2 (mD (wv _ _))),.ints .arg .u32 (Ah (mD (wv _ _))),.int .i64 (eD (wv _ _) _)]) (DV.agg [.bool (A2 (mQ (vQ _ _ _))),.ints .arg .u32 (Ah (mQ (vQ _ _ _))),.int .i64 (eQ (vQ _ _ _))])
  exact wq this.1 this.2
 ·cases h
theorem A4.Value.q.known:A4.Value.q.Kn:=A9.Adq (P:=_) (pre:=A4.Value.pre) (out:=A4.Value.out) A4.Value.known [] fun ats h=>by
 unfold A4.Value.q.pre at h
 split at h
 ·rename_i x
  refine ⟨h,?_⟩
  have:=A1u (H5 x) (Bi x)
  have e:((H5 x:Int):Rat)*tw (Bi x)=Ek x:=by
   unfold H5 Bi Ek vR
   rw [Agj]
  rw [e] at this
  show Wk [] (DV.agg [.bool (A2 (mD (H5 x))),.ints .arg .u32 (Ah (mD (H5 x))),.int .i64 (eD (H5 x) (Bi x))]) (DV.agg [.bool (A2 (mQ (Ek x))),.ints .arg .u32 (Ah (mQ (Ek x))),.int .i64 (eQ (Ek x))])
  exact wq this.1 this.2
 ·cases h
theorem W5:mQ 0=0∧eQ 0=0:=by
 have h:(0:Rat)=((0:Int):Rat)*tw 0:=by
  have:((0:Int):Rat)=0:=rfl
  rw [this]; grind
 obtain ⟨h1,h2⟩:=Ae5 h
 exact ⟨h1.trans (P4.2 rfl),h2⟩
theorem Alw:A2 (mQ 0)=false:=by rw [W5.1]; rfl
theorem Ag2:Ah (mQ 0)=[]:=by rw [W5.1]; rfl
theorem Aoq:Dq 0:=(Dg.zero 0 0 0).dq (by decide) (by decide) (by decide)
theorem Afy:vQ false [] 0=0:=by
 have:=Pv Aoq
 rw [Alw,Ag2,W5.2] at this
 exact this
theorem Aa0:Zs false [] 0=true:=by
 have:=Ahi Aoq
 rw [Alw,Ag2,W5.2] at this
 exact this
def dqO (x:Rat):DV:=.agg [.bool (A2 (mQ x)),.ints .arg .u32 (Ah (mQ x)),.int .i64 (eQ x)]
theorem wqO {drops:List Nat} {x:Rat}:Wk drops (dqO x) (dqO x):=wdy
theorem wqN {drops:List Nat}:Wk drops (.agg [.bool false,.nil,.int .i64 0]) (dqO 0):=by
 unfold dqO
 rw [Alw,Ag2,W5.2]
 exact Wk.Mk (.cons .bool (.cons (.nil _ _) (.cons .int .nil)))
theorem Ak9 {n k:Nat} {f:Nat→Rat} {g t m:Nat} (h:∀ i,Dg g t m (f i)) (hg:g≤40000) (ht:t≤40000) (hn:n≤k) (hm:k*m≤1073741824):Dq (G3 n f):=(Dg.Qi hn fun i _=>h i).dq hg ht hm
theorem Vd (x:Int):Dq (Ek x):=(Dg.wv x).dq (by decide) (by decide) (by decide)
theorem Ahh (x y:Int):Dq (Ek x*Ek y):=(Dg.wv2 x y).dq (by decide) (by decide) (by decide)
section
variable {x:List Int} (ax:Ak x=true) (hx:x.length≤64)
include ax hx
theorem Aga (N:Nat):∀ k i F,i+k=x.length→k<F→Ax.Cx.q.L1 N F x (i:Int) (A2 (mQ (G3 i fun j=>Ek (x.getD j 0)*Ek (x.getD j 0)))) (Ah (mQ (G3 i fun j=>Ek (x.getD j 0)*Ek (x.getD j 0)))) (eQ (G3 i fun j=>Ek (x.getD j 0)*Ek (x.getD j 0)))=some (dqO (I3 x)):=by
 intro k
 induction k with
 | zero =>
   intro i F hi hF
   obtain ⟨F,rfl⟩:∃ G,F=G+1:=⟨F-1,by omega⟩
   obtain rfl:i=x.length:=by omega
   rw [Ax.Cx.q.Cy,Aw,A8c (by omega),A8b]
   rfl
 | succ k ih =>
   intro i F hi hF
   obtain ⟨F,rfl⟩:∃ G,F=G+1:=⟨F-1,by omega⟩
   have d1:=Vd (x.getD i 0)
   have d2:=Ahh (x.getD i 0) (x.getD i 0)
   have d3:Dq (G3 i fun j=>Ek (x.getD j 0)*Ek (x.getD j 0)):=Ak9 (k:=64) (m:=1) (fun j=>Dg.wv2 _ _) (by decide) (by decide) (by omega) (by decide)
   have e1:(i:Int)+1=((i+1:Nat):Int):=by omega
   have hu:=I8 ax (show i<x.length by omega)
   rw [Ax.Cx.q.Cy,Aw,A78 (show (i:Int)<(x.length:Int) by omega),A78 (show (0:Int)≤(i:Int) by omega),A79,Ar (by omega) (by omega),e1]
   simp only [hu,Fb d1,Fb d2,Fb d3,Fm d1,Fm d2,Fm d3,A8d,A77]
   exact ih (i+1) F (by omega) (by omega)
end
theorem Adr (N F:Nat) {x:List Int} (h0:0<x.length) (ax:Ak x=true):Ax.Cx.q.L0 N (F+1) x=Ax.Cx.q.L1 N F x 1 (A2 (mQ (0+Ek (x.getD 0 0)*Ek (x.getD 0 0)))) (Ah (mQ (0+Ek (x.getD 0 0)*Ek (x.getD 0 0)))) (eQ (0+Ek (x.getD 0 0)*Ek (x.getD 0 0))):=by
 have d1:=Vd (x.getD 0 0)
 have d2:=Ahh (x.getD 0 0) (x.getD 0 0)
 have hu:=I8 ax h0
 rw [Ax.Cx.q.A1,Aw,A78 (show (0:Int)<(x.length:Int) by omega)]
 simp only [hu,Afy,Fb d1,Fb d2,Aa0,Fm d1,Fm d2,A8d,A77]
theorem Ax.Cx.q.known:Ax.Cx.q.Kn:=Ax.Cx.q.Ae (.cons Ai.Add.q.known (.cons Ai.Mul.q.known (.cons A4.Value.q.known .nil))) fun x hp=>by
 obtain ⟨ox,h⟩:=Af.1 (show (Dp x&&Cr (x.length≤64))=true from hp)
 have hx:=Ao.1 h
 have ax:=Rc ox
 show ∃ N dv drops,_=some dv∧Wk drops dv (dqO (I3 x))
 by_cases h0:x.length=0
 ·refine ⟨1,.agg [.bool false,.nil,.int .i64 0],[],?_,?_⟩
  ·rw [Ax.Cx.q.ev,Ax.Cx.q.A1,Aw,A8c (by omega),A8b]
  ·have:I3 x=0:=by unfold I3; rw [h0]; rfl
   rw [this]; exact wqN
 ·exact ⟨66,_,[],(Ax.Cx.q.ev 66 x).trans ((Adr 66 65 (by omega) ax).trans (Aga ax hx 66 (x.length-1) 1 65 (by omega) (by omega))),wqO⟩
theorem Au.Gg.known:Au.Gg.Kn:=Au.Gg.Ae (.cons Ax.Cx.q.known .nil) fun r c l hp=>by
 obtain ⟨al,hr⟩:=Af.1 (show (Ak l&&Az r c l)=true from hp)
 have hl:=It hr
 show ∃ N dv drops,_=some dv∧Wk drops dv (dqO (I3 l))
 refine ⟨0,_,[],?_,wqO⟩
 rw [Au.Gg.ev,Mt al (by omega),show Cr (l.length≤64)=true from Ao.2 (by omega)]
 rfl
section
variable {x y:List Int} (ax:Ak x=true) (ay:Ak y=true) (hx:x.length≤64) (hy:x.length=y.length)
include ax ay hx hy
theorem Arh (N:Nat):∀ k i F,i+k=x.length→k<F→Au.Hn.q.L1 N F x y (i:Int) (A2 (mQ (G3 i fun j=>Ek (x.getD j 0)*Ek (y.getD j 0)))) (Ah (mQ (G3 i fun j=>Ek (x.getD j 0)*Ek (y.getD j 0)))) (eQ (G3 i fun j=>Ek (x.getD j 0)*Ek (y.getD j 0)))=some (dqO (dtL x y)):=by
 intro k
 induction k with
 | zero =>
   intro i F hi hF
   obtain ⟨F,rfl⟩:∃ G,F=G+1:=⟨F-1,by omega⟩
   obtain rfl:i=x.length:=by omega
   rw [Au.Hn.q.Cy,Aw,A8c (by omega),A8b]
   rfl
 | succ k ih =>
   intro i F hi hF
   obtain ⟨F,rfl⟩:∃ G,F=G+1:=⟨F-1,by omega⟩
   have d1:=Vd (x.getD i 0)
   have d4:=Vd (y.getD i 0)
   have d2:=Ahh (x.getD i 0) (y.getD i 0)
   have d3:Dq (G3 i fun j=>Ek (x.getD j 0)*Ek (y.getD j 0)):=Ak9 (k:=64) (m:=1) (fun j=>Dg.wv2 _ _) (by decide) (by decide) (by omega) (by decide)
   have e1:(i:Int)+1=((i+1:Nat):Int):=by omega
   have hu:=I8 ax (show i<x.length by omega)
   have hv:=I8 ay (show i<y.length by omega)
   rw [Au.Hn.q.Cy,Aw,A78 (show (i:Int)<(x.length:Int) by omega),A78 (show (i:Int)<(y.length:Int) by omega),A78 (show (0:Int)≤(i:Int) by omega),A79,Ar (by omega) (by omega),e1]
   simp only [hu,hv,Fb d1,Fb d2,Fb d3,Fb d4,Fm d1,Fm d2,Fm d3,Fm d4,A8d,A77]
   exact ih (i+1) F (by omega) (by omega)
end
theorem Amq (N F:Nat) {x y:List Int} (h0:0<x.length) (h1:0<y.length) (ax:Ak x=true) (ay:Ak y=true):Au.Hn.q.L0 N (F+1) x y=Au.Hn.q.L1 N F x y 1 (A2 (mQ (0+Ek (x.getD 0 0)*Ek (y.getD 0 0)))) (Ah (mQ (0+Ek (x.getD 0 0)*Ek (y.getD 0 0)))) (eQ (0+Ek (x.getD 0 0)*Ek (y.getD 0 0))):=by
 have d1:=Vd (x.getD 0 0)
 have d4:=Vd (y.getD 0 0)
 have d2:=Ahh (x.getD 0 0) (y.getD 0 0)
 have hu:=I8 ax h0
 have hv:=I8 ay h1
 rw [Au.Hn.q.A1,Aw,A78 (show (0:Int)<(x.length:Int) by omega),A78 (show (0:Int)<(y.length:Int) by omega)]
 simp only [hu,hv,Afy,Fb d1,Fb d2,Fb d4,Aa0,Fm d1,Fm d2,Fm d4,A8d,A77]
theorem Au.Hn.q.known:Au.Hn.q.Kn:=Au.Hn.q.Ae (.cons Ai.Add.q.known (.cons Ai.Mul.q.known (.cons A4.Value.q.known .nil))) fun x y hp=>by
 obtain ⟨h1,h⟩:=Af.1 (show ((Ak x&&Ak y)&&Cr (x.length=y.length∧x.length≤64))=true from hp)
 obtain ⟨ax,ay⟩:=Af.1 h1
 obtain ⟨hy,hx⟩:=Ao.1 h
 show ∃ N dv drops,_=some dv∧Wk drops dv (dqO (dtL x y))
 by_cases h0:x.length=0
 ·refine ⟨1,.agg [.bool false,.nil,.int .i64 0],[],?_,?_⟩
  ·rw [Au.Hn.q.ev,Au.Hn.q.A1,Aw,A8c (by omega),A8b]
  ·have:dtL x y=0:=by unfold dtL; rw [h0]; rfl
   rw [this]; exact wqN
 ·exact ⟨66,_,[],(Au.Hn.q.ev 66 x y).trans ((Amq 66 65 (by omega) (by omega) ax ay).trans (Arh ax ay hx hy 66 (x.length-1) 1 65 (by omega) (by omega))),wqO⟩
end Go.Proofs.S1
end
