/- A verified evaluator of the program's form and its use for this seat: S1PMx, TileL, DiffL, MagL, ExaL, S1PExa, S1PExaA, NorL, BndL, BndM, S1PExaB, S1EqTame, S1PTame, S1EqLaw20B, S1PLaw20B. -/
import Derived.Test.YtjbokjpbiobjpaaGreatTK
import Derived.Test.YtjbokjpbiobjpaaGreatTE
import Derived.Test.YtjbokjpbiobjpaaGreatTI
import Derived.Test.YtjbokjpbiobjpaaGreatTF
import Derived.Test.YtjbokjpbiobjpaaGreatTJ
set_option linter.unusedVariables false
set_option linter.unusedSimpArgs false
noncomputable section
open Int (toNat)
open List (length getD)
open Go.Proofs.Tryz
namespace Go.Proofs.S1
open Go Go.Den Go.Rnd Go.Proofs
def Hj (R C:Nat) (x:MX):Prop:=∃ l,x=((R:Int),(C:Int),l,0)∧R≤6∧C≤6∧l.length=R*C∧Af l=true
def FM (x:MX):Prop:=Da x.2.2.1=true
theorem FM.of {r c e:Int} {l:List Int} (h:Da l=true):FM (r,c,l,e):=h
theorem Hj.mk {R C:Nat} {l:List Int} (r6:R≤6) (c6:C≤6) (hl:l.length=R*C) (al:Af l=true):Hj R C ((R:Int),(C:Int),l,0):=⟨l,rfl,r6,c6,hl,al⟩
theorem Hj.Z0 {r c:Int} {l:List Int} (h:Bo r c l=0) (al:Af l=true):∃ R C:Nat,r=R∧c=C∧Hj R C (r,c,l,0)∧FM (r,c,l,0):=by
 obtain ⟨R,C,rfl,rfl,r6,c6,hl⟩:=C2 (E7 h).1
 exact ⟨R,C,rfl,rfl,.mk r6 c6 hl al,(E7 h).2⟩
theorem Aiv {r c:Int} {l:List Int} (h:Bo r c l=0):(I6 r c l).1=Aah r c l:=by
 unfold I6
 rw [Axp (fun k=>k h)]
section
variable {R C K:Nat} {x y:MX}
theorem Hj.right (h:Hj R C x):Ak x.1 x.2.1 x.2.2.1=true:=by
 obtain ⟨l,rfl,r6,c6,hl,al⟩:=h
 exact K8 r6 c6 hl
theorem Hj.inn (h:Hj R C x):Af x.2.2.1=true:=by obtain ⟨l,rfl,r6,c6,hl,al⟩:=h; exact al
theorem Hj.err (h:Hj R C x):x.2.2.2=0:=by obtain ⟨l,rfl,_⟩:=h; rfl
theorem Hj.rows (h:Hj R C x):x.1=R:=by obtain ⟨l,rfl,_⟩:=h; rfl
theorem Hj.r6 (h:Hj R C x):R≤6:=by obtain ⟨l,rfl,r6,_⟩:=h; exact r6
theorem Hj.c6 (h:Hj R C x):C≤6:=by obtain ⟨l,rfl,_,c6,_⟩:=h; exact c6
theorem Hj.len (h:Hj R C x):x.2.2.1.length≤36:=by
 obtain ⟨l,rfl,r6,c6,hl,_⟩:=h
 have:=Axz r6 c6
 show l.length≤36
 omega
theorem Hj.chk (h:Hj R C x) (f:FM x):Au1 x=0:=Afc h.right f
theorem Hj.fin (h:Au1 x=0):FM x:=(E7 h).2
theorem Hj.Ans (h:Hj R C x):Hj C R (Lp x):=by
 have hr:=h.right
 obtain ⟨l,rfl,r6,c6,hl,al⟩:=h
 refine ⟨_,by unfold Lp Cb; rw [Axq hr],c6,r6,by rw [Br,Aw5,Aw5],Gv fun _ _=>Ha al⟩
theorem FM.Ans (h:Hj R C x) (f:FM x):FM (Lp x):=by
 unfold Lp Cb
 rw [Axq h.right]
 exact .of (Acr fun _ _=>Asf (show Da _=true from f))
theorem Abx {i k a b:Nat} (ha:i+a≤R) (hb:k+b≤C):La (R:Int) (C:Int) (i:Int) (k:Int) (a:Int) (b:Int)=true:=Aw4 (by omega)
theorem Hj.mul (h:Hj R K x) (g:Hj K C y):Hj R C (mulM x y):=by
 have hr:=h.right
 have hg:=g.right
 obtain ⟨l,rfl,r6,c6,hl,al⟩:=h
 obtain ⟨m,rfl,p6,q6,hm,am⟩:=g
 refine ⟨_,by unfold mulM Ek; rw [hr,hg,Aw9,Axq rfl,Axq rfl],r6,q6,by rw [Br,Aw5,Aw5],Gv fun _ _=>Vk _ _⟩
theorem Hj.sub (h:Hj R C x) (g:Hj R C y):Hj R C (Adv x y):=by
 have hr:=h.right
 have hg:=g.right
 obtain ⟨l,rfl,r6,c6,hl,al⟩:=h
 obtain ⟨m,rfl,p6,q6,hm,am⟩:=g
 refine ⟨_,by unfold Adv Im; rw [hr,hg,Aw9,Axq rfl,Axq ⟨rfl,rfl⟩],r6,c6,by rw [Br,Aw5,Aw5],Gv fun _ _=>Nc (Ha al) (Ha am)⟩
theorem Hj.lo (h:Hj R R x) (g:Hj R C y) (e:(loM x y).2.2.2=0):Hj R C (loM x y)∧FM (loM x y):=by
 obtain ⟨l,rfl,r6,c6,hl,al⟩:=h
 obtain ⟨m,rfl,p6,q6,hm,am⟩:=g
 obtain ⟨P,Q,Y,e1,e2,a6,b6,e3,e4,e5,e6⟩:=Alh e
 dsimp only at e1 e2
 obtain rfl:P=R:=by omega
 obtain rfl:Q=C:=by omega
 have e7:loM ((P:Int),(P:Int),l,0) ((P:Int),(Q:Int),m,0)=((P:Int),(Q:Int),Y,0):=e3
 rw [e7]
 exact ⟨.mk a6 b6 e4 e6,e5⟩
theorem Hj.up (h:Hj R R x) (g:Hj R C y) (e:(upM x y).2.2.2=0):Hj R C (upM x y)∧FM (upM x y):=by
 obtain ⟨l,rfl,r6,c6,hl,al⟩:=h
 obtain ⟨m,rfl,p6,q6,hm,am⟩:=g
 obtain ⟨P,Q,Y,e1,e2,a6,b6,e3,e4,e5,e6⟩:=Ajl e
 dsimp only at e1 e2
 obtain rfl:P=R:=by omega
 obtain rfl:Q=C:=by omega
 have e7:upM ((P:Int),(P:Int),l,0) ((P:Int),(Q:Int),m,0)=((P:Int),(Q:Int),Y,0):=e3
 rw [e7]
 exact ⟨.mk a6 b6 e4 e6,e5⟩
theorem Hj.fac (h:Hj R C x) (e:Ey x.1 x.2.1 x.2.2.1=0):Hj R R (qX x.1 x.2.1 x.2.2.1)∧Hj R C (rX x.1 x.2.1 x.2.2.1)∧FM (qX x.1 x.2.1 x.2.2.1)∧FM (rX x.1 x.2.1 x.2.2.1):=by
 obtain ⟨l,rfl,r6,c6,hl,al⟩:=h
 obtain ⟨q1,g1⟩:=Pn e
 obtain ⟨A,B,eA,eB,_,_,_,aq,hq,ar,hr,fq,fr⟩:=W3 al e
 dsimp only at eA eB
 obtain rfl:A=R:=by omega
 obtain rfl:B=C:=by omega
 dsimp only at q1 g1 ⊢
 rw [q1,g1]
 rw [Aw5,Aw5]
 exact ⟨.mk r6 r6 hq aq,.mk r6 c6 hr ar,fq,fr⟩
end
end Go.Proofs.S1
namespace Go.Rnd
open Go.Den
structure Good (x:Int):Prop where
 word:Ah x=true
 k3:Ag x.toNat≠3
 k4:Ag x.toNat≠4
 ne:x.toNat≠2^63
theorem Rf {x:Int} (h:Ah x=true):x.toNat<2^64:=by
 have:=At.1 h
 omega
end Go.Rnd
namespace Go.Rnd
open Go.Den
theorem Ji (n:Nat):Gg n=!(decide (Ag n=3)||decide (Ag n=4)):=by
 have:=Ir n
 unfold Gg Ag
 by_cases h:Df n=2047
 ·by_cases h2:Co n=0<;>simp [h,h2]
 ·have h3:Df n<2047:=by omega
  by_cases h4:0<Df n
  ·simp [h,h3,h4]
  ·by_cases h5:0<Co n<;>simp [h,h3,h4,h5]
theorem U5 (s:Bool) (m:Nat):(Hr s m).natAbs=m:=by unfold Hr; split<;>omega
theorem Xy {b:Nat} (h:b<2^64) (g:Int):Fq (El b) g=-(Fq b g)∧As (El b)=As b∧Gg (El b)=Gg b:=by
 obtain ⟨h1,h2,h3⟩:=Lv h
 have hm:Am (El b)=Am b:=by unfold Am; rw [h2,h3]
 have he:As (El b)=As b:=by unfold As; rw [h2]
 refine ⟨?_,he,by unfold Gg; rw [h2]⟩
 unfold Fq
 rw [h1,hm,he]
 unfold Hr
 cases B5 b
 ·rfl
 ·show ((_:Nat):Int)=- -((_:Nat):Int)
  omega
end Go.Rnd
namespace Go.Rnd
open Go.Den
def pw (k:Nat):Nat:=(k+1023)*2^52
theorem Mo {k:Nat} (h:k≤1023):Am (pw k)=2^52∧As (pw k)=(k:Int)-52∧Ag (pw k)=2∧pw k%2^63=pw k∧pw k<Eg:=by
 have hp:Df (pw k)=k+1023:=by unfold Df pw; omega
 have hf:Co (pw k)=0:=by unfold Co pw; omega
 refine ⟨?_,?_,?_,?_,?_⟩
 ·unfold Am; rw [hp,hf,Axp (by omega)]
 ·unfold As; rw [hp,Axp (by omega)]; omega
 ·unfold Ag; rw [hp,Axp (by omega),Axq (by omega)]
 ·unfold pw; omega
 ·rw [Em]; unfold pw; omega
def Kk (a:Nat):Nat:=Ei a (-1074)
theorem Af2 {k:Nat} (h:k≤1023):Kk (pw k)=2^(k+1074):=by
 obtain ⟨h1,h2,_⟩:=Mo h
 unfold Kk Ei
 rw [h1,h2,← Axs]
 congr 1; omega
theorem U7 {k:Nat} (h:k≤1023):Bu (2^(k+1074)) (-1074)=pw k:=by
 obtain ⟨h1,h2,h3,h4,_⟩:=Mo h
 have:=J3 (b:=pw k) (f:=-1074) (by omega) (by omega)
 rw [h4] at this
 rw [← this,← Af2 h]; rfl
def Bd (k:Nat) (a:Nat):Prop:=Ag a≠3∧Ag a≠4∧Kk a≤2^(k+1074)
theorem Bd.mono {j k a:Nat} (h:Bd j a) (hk:j≤k):Bd k a:=⟨h.1,h.2.1,Aya h.2.2 (Axi (by decide) (by omega))⟩
theorem Bd.Lt {k a:Nat} (hk:k≤1023) (h4:Ag a≠4) (h:a%2^63≤pw k):Bd k a:=by
 obtain ⟨p1,p2,p3,p4,p5⟩:=Mo hk
 have h3:Ag a≠3:=fun e=>by have:=Nm e; omega
 refine ⟨h3,h4,?_⟩
 have ha:=Ce a
 rcases Ax0 (Kk (pw k)) (Kk a) with g | g
 ·have:=(Wm (f:=-1074) (by omega) h4 (by omega) ha.1).1 g
  omega
 ·rw [Af2 hk] at g; exact g
theorem Mv (s:Bool) (V:Nat) (E:Int):Ag (Bv s (Bu V E))≠4:=by
 have h:=Rr V E
 rw [Em] at h
 have hp:=Tj s (r:=Bu V E) (by omega)
 have hf:=Q3 s (Bu V E)
 unfold Ag
 rw [hp,hf]
 split
 ·split
  ·omega
  ·omega
 ·split
  ·omega
  ·split<;>omega
theorem Bd.Bu {k:Nat} (s:Bool) {V:Nat} {E:Int} (hk:k≤1023) (h:Bu V E≤pw k):Bd k (Bv s (Bu V E)):=by
 refine .Lt hk (Mv s V E) ?_
 have:=Hw V E
 have e:Bv s (Go.Rnd.Bu V E)%2^63=Go.Rnd.Bu V E:=by unfold Bv; split<;>omega
 rw [e]; exact h
theorem Bd.zero (s:Bool) (k:Nat):Bd k (Bv s 0):=by
 have:Ag (Bv s 0)=0∧Kk (Bv s 0)=0:=by cases s<;>decide +kernel
 exact ⟨by omega,by omega,by rw [this.2]; exact Nat.zero_le _⟩
theorem J2 (a:Nat):(Fq a (-1074)).natAbs=Kk a:=by
 unfold Fq Kk Ei
 rw [U5]
theorem Bd.add {k a b:Nat} (hk:k+1≤1023) (ha:Bd k a) (hb:Bd k b):Bd (k+1) (Ff a b).1:=by
 obtain ⟨a3,a4,am⟩:=ha
 obtain ⟨b3,b4,bm⟩:=hb
 have pa:=Ce a
 have pb:=Ce b
 have ek:=Vq a3 a4 b3 b4 (g:=-1074) (by omega)
 have e4:Ag (Ff a b).1≠4:=by
  rw [Sv (by omega) a3 b3]
  unfold Jb
  split
  ·have:Ag (Bv (B5 a&&B5 b) 0)=0:=by cases (B5 a&&B5 b)<;>decide
   show Ag (Bv (B5 a&&B5 b) 0)≠4
   omega
  ·exact Mv _ _ _
 refine .Lt hk e4 ?_
 have hs:(Fq a (-1074)+Fq b (-1074)).natAbs≤2^(k+1+1074):=by
  have h1:=J2 a
  have h2:=J2 b
  have:2^(k+1+1074)=2^(k+1074)+2^(k+1074):=by rw [show k+1+1074=k+1074+1 by omega,Nat.pow_succ]; omega
  omega
 have hr:=E0 (E:=-1074) hs
 rw [U7 hk] at hr
 have hn:(Hg (Ff a b).1).natAbs=(Ff a b).1%2^63:=by unfold Hg; rw [U5]
 rw [← hn,ek]
 unfold Xk
 split<;>omega
theorem Bd.mul {j k a b:Nat} (hk:j+k≤1023) (ha:Bd j a) (hb:Bd k b):Bd (j+k) (N9 a b).1:=by
 obtain ⟨a3,a4,am⟩:=ha
 obtain ⟨b3,b4,bm⟩:=hb
 have pa:=Ce a
 have pb:=Ce b
 unfold N9
 rw [Axp (by omega),Axp (by omega)]
 refine .Bu _ hk ?_
 obtain ⟨u,hu⟩:∃ u:Nat,As a=(u:Int)-1074:=⟨(As a+1074).toNat,by omega⟩
 obtain ⟨v,hv⟩:∃ v:Nat,As b=(v:Int)-1074:=⟨(As b+1074).toNat,by omega⟩
 have ea:Kk a=Am a*2^u:=by unfold Kk Ei; congr 2; omega
 have eb:Kk b=Am b*2^v:=by unfold Kk Ei; congr 2; omega
 have s1:=(Cp (Am a*Am b) (u+v) (As a+As b)).1
 obtain ⟨t,ht⟩:∃ t:Nat,t=1074:=⟨1074,rfl⟩
 rw [← s1,← U7 hk,← (Cp (2^(j+k+1074)) t (-1074)).1]
 rw [← ht] at am bm ⊢
 have ee:As a+As b-((u+v:Nat):Int)=-1074-(t:Int):=by omega
 rw [ee]
 refine E0 ?_
 have:Am a*Am b*2^(u+v)=Kk a*Kk b:=by
  rw [ea,eb,Axs,Nat.mul_mul_mul_comm]
 rw [this,← Axs,show j+k+t+t=(j+t)+(k+t) by omega,Axs]
 exact Axz am bm
theorem Wl {k b:Nat} (hb:b<2^64) (h:Bd k b):Bd k (El b):=by
 obtain ⟨h3,h4,hm⟩:=h
 obtain ⟨v1,v2,v3⟩:=Xy hb (-1074)
 have hf:Gg b=true:=by rw [Ji]; simp [h3,h4]
 have k':=Fv (v3.trans hf)
 refine ⟨k'.2,k'.1,?_⟩
 rw [← J2,v1,Int.natAbs_neg,J2]; exact hm
theorem Bd.sub {k a b:Nat} (hk:k+1≤1023) (hb64:b<2^64) (ha:Bd k a) (hb:Bd k b):Bd (k+1) (Ag8 a b).1:=Bd.add hk ha (Wl hb64 hb)
theorem Bd.fin {k a:Nat} (h:Bd k a):Gg a=true:=by rw [Ji]; simp [h.1,h.2.1]
theorem Bd.any {a:Nat} (h:Gg a=true):Ag a≠3∧Ag a≠4:=⟨(Fv h).2,(Fv h).1⟩
theorem Bd.Ar5 {k a:Nat} (hf:Gg a=true) (h:Am a≠0→((Am a).log2:Int)+As a<(k:Int)):Bd k a:=by
 refine ⟨(Fv hf).2,(Fv hf).1,?_⟩
 have pa:=Ce a
 unfold Kk Ei
 by_cases h0:Am a=0
 ·rw [h0,Nat.zero_mul]; exact Nat.zero_le _
 ·have hl:=h h0
  have h1:=Nat.lt_log2_self (n:=Am a)
  have h2:Am a*2^(As a - -1074).toNat≤2^((Am a).log2+1)*2^(As a - -1074).toNat:=Axf _ (by omega)
  rw [← Axs] at h2
  exact Aya h2 (Axi (by decide) (by omega))
end Go.Rnd
namespace Go.Rnd
open Go.Den
structure Fw (x:Int):Prop where
 word:Ah x=true
 fin:Cq x=true
theorem Fw.k {x:Int} (h:Fw x):Ag x.toNat≠3∧Ag x.toNat≠4:=⟨(Fv h.fin).2,(Fv h.fin).1⟩
theorem Fw.Aux {x:Int} (h:Fw x) (hn:x≠9223372036854775808):Good x:=⟨h.word,h.k.1,h.k.2,fun e=>hn (by have:=At.1 h.word; omega)⟩
theorem Good.fn {x:Int} (h:Good x):Fw x:=⟨h.word,by
 show Gg x.toNat=true
 rw [Ji]; simp [h.k3,h.k4]⟩
def Zr (x:Int):Prop:=x=0∨x=9223372036854775808
def Sim (x y:Int):Prop:=x=y∨(Zr x∧Zr y)
def Arz (x:Int):Int:=if x=9223372036854775808 then 0 else x
theorem Akq (x:Int):Sim (Arz x) x:=by
 unfold Arz
 split
 ·rename_i h; exact .inr ⟨.inl rfl,.inr h⟩
 ·exact .inl rfl
theorem Sim.trans {x y z:Int} (h:Sim x y) (g:Sim y z):Sim x z:=by
 rcases h with rfl | ⟨h1,h2⟩
 ·exact g
 ·rcases g with rfl | ⟨g1,g2⟩
  ·exact .inr ⟨h1,h2⟩
  ·exact .inr ⟨h1,g2⟩
theorem Asz {x:Int} (h:Zr x):Fw x:=by
 rcases h with rfl | rfl
 ·exact ⟨At.2 (by decide),by decide⟩
 ·exact ⟨At.2 (by decide),by decide⟩
theorem Sim.fn {x y:Int} (h:Sim x y) (g:Fw y):Fw x:=by
 rcases h with rfl | ⟨h1,h2⟩
 ·exact g
 ·exact Asz h1
end Go.Rnd
namespace Go.Proofs.S1
open Go Go.Den Go.Rnd Go.Proofs
theorem Akg {R C:Nat} {l:List Int} (hl:l.length=R*C) {I:Nat} (hI:I<R):Jy (C:Int) l (I:Int)=(List.range C).map fun k:Nat=>Di (C:Int) l (I:Int) (k:Int):=by
 have hlen:=Qp hl hI
 have e1:((I:Int)*(C:Int)).toNat=I*C:=by rw [← Axo,Aw5]
 have e2:(((I:Int)+1)*(C:Int)).toNat=(I+1)*C:=by
  have:((I:Int)+1)*(C:Int)=(((I+1)*C:Nat):Int):=by rw [Axo]; rfl
  rw [this,Aw5]
 refine Sb (by rw [hlen,Ax9,Ax6]) fun j hj=>?_
 rw [hlen] at hj
 have hp:=H9 hI hj
 have h1:(I+1)*C=I*C+C:=by rw [Ax7,Nat.one_mul]
 rw [Ayk,List.getElem?_range hj]
 unfold Jy
 rw [List.getElem?_drop,e1,e2,List.getElem?_take,Axq (by omega)]
 show l[I*C+j]?=some (Di (C:Int) l (I:Int) (j:Int))
 rw [Nz,Axd,Axk (by omega)]
 rfl
theorem Abw {R C:Nat} {x:MX} (h:Hj R C x):Hz x 0 0 (R:Int) (C:Int)=x:=by
 have hr:=h.right
 obtain ⟨l,rfl,r6,c6,hl,al⟩:=h
 unfold Hz Fk
 dsimp only
 rw [Axq hr,Axq (show La (R:Int) (C:Int) 0 0 (R:Int) (C:Int)=true from Abx (i:=0) (k:=0) (by omega) (by omega)),Aw5,Aw5]
 have e:(Cd R C fun (i k:Nat)=>Di (C:Int) l (0+(i:Int)) (0+(k:Int)))=l:=by
  conv=>rhs; rw [← Py hl]
  refine Dq fun i k _ _=>?_
  rw [Int.zero_add,Int.zero_add]
 rw [e]
theorem Ahx {R C:Nat} {x:MX} (h:Hj R C x):Hz x 0 (C:Int) (R:Int) ((C:Int)-(C:Int))=((R:Int),0,[],0):=by
 have hr:=h.right
 obtain ⟨l,rfl,r6,c6,hl,al⟩:=h
 rw [Int.sub_self]
 unfold Hz Fk
 dsimp only
 rw [Axq hr,Axq (show La (R:Int) (C:Int) 0 (C:Int) (R:Int) 0=true from Abx (i:=0) (k:=C) (a:=R) (b:=0) (by omega) (by omega)),Aw5]
 have e:(Cd R (toNat 0) fun (i k:Nat)=>Di (C:Int) l (0+(i:Int)) ((C:Int)+(k:Int)))=[]:=Ax4 (by rw [Br]; rfl)
 rw [e]
def BL (k:Nat) (l:List Int):Prop:=∀ x∈l,Bd k x.toNat
theorem As0 {x:Int} (h:Zr x) (k:Nat):Bd k x.toNat:=by
 rcases h with rfl | rfl
 ·exact Bd.zero false k
 ·exact Bd.zero true k
theorem Aru {x y:Int} {k:Nat} (h:Sim x y) (g:Bd k y.toNat):Bd k x.toNat:=by
 rcases h with rfl | ⟨h1,_⟩
 ·exact g
 ·exact As0 h1 k
theorem BL.pos {k:Nat} {l:List Int} (h:BL k l):BL k (l.map Arz):=fun y hy=>by
 obtain ⟨x,hx,rfl⟩:=List.mem_map.1 hy
 exact Aru (Akq x) (h x hx)
theorem An5 {k:Nat} {x:Int} (h:X4 (k:Int) x=true):Bd k x.toNat:=by
 unfold X4 at h
 rw [Axe,Bool.or_eq_true,Axe,Axa,Axa,Axa] at h
 obtain ⟨hf,h⟩:=h
 refine .Ar5 hf fun h0=>?_
 have kn:Ag x.toNat≠0:=fun e=>by
  unfold Ag at e
  unfold Am at h0
  split at e
  ·split at e<;>omega
  ·split at e
   ·omega
   ·split at e
    ·omega
    ·rw [Axq (by omega)] at h0; omega
 rcases h with h | ⟨_,h⟩
 ·exact absurd (show Ag x.toNat=0 by unfold Av at h; omega) kn
 ·unfold Bi H4 at h
  rw [Axq ⟨hf,kn⟩] at h
  exact h
theorem Mi {k:Nat} {l:List Int} (h:A9 l (k:Int)=true):BL k l∧Da l=true:=by
 unfold A9 at h
 rw [List.all_eq_true] at h
 refine ⟨fun x hx=>An5 (h x hx),?_⟩
 unfold Da
 rw [List.all_eq_true]
 exact fun x hx=>(Ae.1 (h x hx)).1
theorem Al7 {R C:Nat} {x:MX} (h:Hj R C x) (f:FM x):Xr x=x:=by
 have hc:=h.chk f
 obtain ⟨l,rfl,r6,c6,hl,al⟩:=h
 unfold Xr Ky
 rw [Axp (fun h=>h rfl),Axp (fun h=>h hc)]
theorem Aky:∀ r:Fin 7,Bo (r.val:Int) 0 []=0∧Ey (r.val:Int) 0 []=0∧Hp (r.val:Int) 0 []=((r.val:Int),0,[],0)∧Mf (r.val:Int) 0 []=(0,0,[],0)∧Cb (r.val:Int) 0 []=(0,(r.val:Int),[],0):=by decide +kernel
theorem Ait:(I6 0 0 []).1=false:=by decide
theorem Anj:upX 0 0 [] 0 1 []=(0,1,[],0):=by decide
theorem Ak6 {R:Nat} {f:MX} (hf:Hj R 1 f):Ek 0 (R:Int) [] f.1 f.2.1 f.2.2.1=(0,1,[],0):=by
 have hr:=hf.right
 have r6:=hf.r6
 obtain ⟨l,rfl,_,c6,hl,al⟩:=hf
 unfold Ek
 rw [show Ak 0 (R:Int) []=true from K8 (r:=0) (c:=R) (by omega) r6 (by simp),hr,Aw9,Axq rfl,Axq rfl]
 have e:(Cd (toNat 0) (toNat ((1:Nat):Int)) fun (i k:Nat)=>Oc (Jy (R:Int) [] (i:Int)) (P9 (R:Int) ((1:Nat):Int) l (k:Int)))=[]:=Ax4 (by rw [Br]; rfl)
 rw [e]
 rfl
theorem Aet {R:Nat} {f:MX} (hf:Hj R 1 f) (ff:FM f):Ts ((R:Int),0,[],0) f=(0,1,[],0):=by
 obtain ⟨c1,c2,c3,c4,c5⟩:=Aky ⟨R,by have:=hf.r6; omega⟩
 dsimp only at c1 c2 c3 c4 c5
 have hc:Bo f.1 f.2.1 f.2.2.1=0:=hf.chk ff
 unfold Ts It
 dsimp only
 rw [Axp (fun h=>h c1),Axp (fun h=>h hc),Axp (by rw [hf.rows]; omega),Axp (fun h=>h c2),c4]
 dsimp only
 rw [Ait,Axp (by decide),c3]
 unfold Anl De
 dsimp only
 rw [c5]
 simp only [ne_eq,not_true_eq_false,if_false,Ak6 hf]
 exact Anj
theorem Ady {n:Nat} {Y:List Int} (h:Hj n 1 ((n:Int),1,Y,0)):S8 ((n:Int),1,Y,0) (0,1,[],0)=((n:Int),1,Y,0):=by
 have hr:=h.right
 have n6:=h.r6
 obtain ⟨l,e,_,_,hl,_⟩:=h
 obtain rfl:Y=l:=congrArg (fun z:MX=>z.2.2.1) e
 unfold S8 Bz
 dsimp only
 rw [hr,show Ak 0 1 []=true from by decide,Aw9,Axq rfl,Axq ⟨rfl,by omega⟩,Int.add_zero,Aw5]
 have:=Adz (R:=n) (P:=0) (C:=1) (l:=Y) (m:=[]) hl rfl
 rw [List.append_nil,Ayb] at this
 rw [show (1:Int).toNat=1 from rfl]
 exact congrArg (fun z=>((n:Int),(1:Int),z,(0:Int))) this
end Go.Proofs.S1
namespace Go.Rnd
open Go.Den
theorem Agi {M a b:Nat} {E:Int} (h:2^a≤M) (g:(b:Int)-1074≤a+E):Bu (2^b) (-1074)≤Bu M E:=by
 by_cases k:-1074≤E
 ·have s:=(Cp M (E+1074).toNat E).1
  rw [show E-((E+1074).toNat:Int)=-1074 by omega] at s
  rw [← s]
  refine E0 (Aya (m:=2^(a+(E+1074).toNat)) (Axi (by decide) (by omega)) ?_)
  rw [Axs]; exact Axf _ h
 ·have s:=(Cp (2^b) (-1074-E).toNat (-1074)).1
  rw [show (-1074:Int)-((-1074-E).toNat:Int)=E by omega,← Axs] at s
  rw [← s]
  exact E0 (Aya (Axi (by decide) (by omega)) h)
theorem J0 {M a:Nat} {E:Int} (h:2^a≤M) (g:0≤a+E):pw 0≤Bu M E:=by
 obtain ⟨t,ht⟩:∃ t:Nat,t=1074:=⟨1074,rfl⟩
 rw [← U7 (k:=0) (by decide),Ayd,← ht]
 exact Agi h (by omega)
def Nn (a:Nat):Prop:=a≤Pe
def Big (a:Nat):Prop:=pw 0≤a∧a≤Pe
theorem H0:Pe=9221120237041090560:=rfl
theorem Aea:pw 0=4607182418800017408:=by unfold pw; omega
theorem Aav:Big Pe:=⟨by rw [Aea,H0]; omega,Axx _⟩
theorem Aaw:Big Eg:=⟨by rw [Aea,Em]; omega,by rw [H0,Em]; omega⟩
theorem Nj (V:Nat) (E:Int):Nn (Bu V E):=by
 have:=Rr V E
 rw [Em] at this
 unfold Nn; rw [H0]; omega
theorem Akz:Nn Pe:=Axx _
theorem Ak0:Nn Eg:=Aaw.2
theorem P2 {z:Nat} (h:pw 0≤z%2^63):2^52≤Am z∧-52≤As z:=by
 have h1:1023≤Df z:=by unfold Df; rw [Aea] at h; omega
 unfold Am As
 rw [Axp (by omega),Axp (by omega)]
 omega
theorem Nk {a:Nat} (h:Nn a):B5 a=false:=by
 unfold Nn at h; rw [H0] at h
 exact Aw8 (by omega)
theorem Art {z:Nat}:Nn (N9 z z).1∧(pw 0≤z%2^63→Big (N9 z z).1):=by
 have hp:(B5 z !=B5 z)=false:=by cases B5 z<;>rfl
 unfold N9
 by_cases k4:Ag z=4
 ·rw [Axq (.inl k4)]; exact ⟨Akz,fun _=>Aav⟩
 rw [Axp (by omega)]
 by_cases k3:Ag z=3
 ·rw [Axq (.inl k3),Axp (by omega),hp,Hq]; exact ⟨Ak0,fun _=>Aaw⟩
 rw [Axp (by omega),hp,Hq]
 refine ⟨Nj _ _,fun h=>⟨?_,Nj _ _⟩⟩
 obtain ⟨h1,h2⟩:=P2 h
 refine J0 (a:=104) ?_ (by omega)
 rw [show (104:Nat)=52+52 from rfl,Axs]
 exact Axz h1 h1
theorem Aex {a:Nat} (h:Nn a) (k3:Ag a=3):a=Eg:=by
 have:=Aa7 (b:=a) (by unfold Nn at h; rw [H0] at h; omega) k3
 rw [Nk h] at this
 exact this.symm
theorem Ze {a:Nat} (h:Nn a) (g:Int):Fq a g=Ei a g:=by
 unfold Fq Ei; rw [Nk h]; rfl
theorem Ast {s t:Nat} (hs:Nn s) (ht:Nn t):Nn (Ff s t).1∧(Big s∨Big t→Big (Ff s t).1):=by
 have hN:Nn Pe∧(Big s∨Big t→Big Pe):=⟨Akz,fun _=>Aav⟩
 have hI:Nn Eg∧(Big s∨Big t→Big Eg):=⟨Ak0,fun _=>Aaw⟩
 by_cases k:Ag s=4∨Ag t=4
 ·have:(Ff s t).1=Pe:=by unfold Ff; rw [Axq k]
  rw [this]; exact hN
 by_cases s3:Ag s=3
 ·rw [Am3 k s3]
  split
  ·exact hN
  ·obtain rfl:=Aex hs s3; exact hI
 by_cases t3:Ag t=3
 ·rw [Ajc k s3 t3]
  obtain rfl:=Aex ht t3; exact hI
 have ek:=Vq s3 (by omega) t3 (by omega) (g:=min (As s) (As t)) (Int.le_refl _)
 generalize hg:min (As s) (As t)=g at ek
 rw [Ze hs,Ze ht] at ek
 have e0:¬ ((Ei s g:Int)+(Ei t g:Int)<0):=by omega
 unfold Xk at ek
 rw [Axp e0] at ek
 have n2:(Ff s t).1=Bu ((Ei s g:Int)+(Ei t g:Int)).natAbs g:=by
  have hn:B5 (Ff s t).1=false∨(Ff s t).1%2^63=0:=by
   unfold Hg at ek
   cases hh:B5 (Ff s t).1
   ·exact .inl rfl
   ·rw [hh] at ek
    have ek:-(((Ff s t).1%2^63:Nat):Int)=_:=ek
    exact .inr (by omega)
  have hlt:(Ff s t).1<2^64:=(Sw (by unfold Nn at hs; rw [H0] at hs; omega) (by unfold Nn at ht; rw [H0] at ht; omega)).1
  have hnf:B5 (Ff s t).1=false:=by
   rw [Sv k s3 t3]
   unfold Jb
   have hh:(B5 s&&B5 t)=false:=by rw [Nk hs]; rfl
   split
   ·show B5 (Bv (B5 s&&B5 t) 0)=false
    rw [hh]; rfl
   ·rename_i h0
    rw [hg,Ze hs,Ze ht]
    rw [Aw8 e0,Hq]
    exact Nk (Nj _ _)
  unfold Hg at ek
  rw [hnf] at ek
  have ek:(((Ff s t).1%2^63:Nat):Int)=_:=ek
  unfold B5 at hnf
  have:=of_decide_eq_false hnf
  omega
 rw [n2]
 refine ⟨Nj _ _,fun h=>⟨?_,Nj _ _⟩⟩
 have ms:=J3 (b:=s) (f:=g) (by omega) (by omega)
 have mt:=J3 (b:=t) (f:=g) (by omega) (by omega)
 rcases h with h | h
 ·have:=E0 (V:=Ei s g) (W:=((Ei s g:Int)+(Ei t g:Int)).natAbs) (E:=g) (by omega)
  have h1:=h.1
  unfold Nn at hs; rw [H0] at hs
  rw [ms] at this; omega
 ·have:=E0 (V:=Ei t g) (W:=((Ei s g:Int)+(Ei t g:Int)).natAbs) (E:=g) (by omega)
  have h1:=h.1
  unfold Nn at ht; rw [H0] at ht
  rw [mt] at this; omega
theorem Aj5 (k:Int):∀ (l:List Int) (s:Nat),Nn s→∃ t:Nat,S9 k s l=t∧Nn t∧((Big s∨∃ x∈l,pw 0≤(B4 x k).toNat%2^63)→Big t)
 | [],s,h=>⟨s,rfl,h,fun g=>by
  rcases g with g | ⟨x,hx,_⟩
  ·exact g
  ·cases hx⟩
 | x::l,s,h=>by
   obtain ⟨q1,q2⟩:=Art (z:=(B4 x k).toNat)
   obtain ⟨a1,a2⟩:=Ast h q1
   obtain ⟨t,e,t1,t2⟩:=Aj5 k l _ a1
   refine ⟨t,?_,t1,fun g=>t2 ?_⟩
   ·unfold S9
    rw [← e]
    unfold I8 Eh
    rw [Aw5,Aw5]
   ·rcases g with g | ⟨y,hy,g⟩
    ·exact .inl (a2 (.inl g))
    ·rcases List.mem_cons.1 hy with rfl | hy
     ·exact .inl (a2 (.inr (q2 g)))
     ·exact .inr ⟨y,hy,g⟩
theorem Apk {n:Nat} (h:n≠0):1≤O3 n:=Aew (by omega)
theorem Akj {b:Nat} (h:Big b):Big (Io b).1:=by
 have hn:=Nk h.2
 by_cases k4:Ag b=4
 ·rw [Vz k4]; exact Aav
 by_cases k0:Ag b=0∨b=Eg
 ·rw [Mj k4 k0]; exact h
 rw [Vy k4 k0 hn]
 refine ⟨?_,Nj _ _⟩
 have k3:Ag b≠3:=fun e=>k0 (.inr (Aex h.2 e))
 have hm:b%2^63=b:=by have:=h.2; rw [H0] at this; omega
 obtain ⟨p1,p2⟩:=P2 (z:=b) (by rw [hm]; exact h.1)
 have hK:=(V7 (b:=b) (by omega)).2
 generalize hr:(As b-(Gf b:Int)) / 2-1=r at hK ⊢
 have hst:2*O3 (Am b*2^Gf b)≤Fc (Am b*2^Gf b):=by unfold Fc; omega
 by_cases hr0:0≤r
 ·have:=Apk (n:=Am b*2^Gf b) (by have:=Nat.mul_pos (show 0<Am b by omega) (B1 (Gf b)); omega)
  exact J0 (a:=0) (by omega) (by omega)
 ·have h2:2^((-1-r).toNat+(-1-r).toNat)≤Am b*2^Gf b:=by
   refine Aya (m:=2^(52+Gf b)) (Axi (by decide) (by omega)) ?_
   rw [Axs]
   exact Axf _ p1
  have h3:=Vh h2
  refine J0 (a:=(-1-r).toNat+1) ?_ (by omega)
  rw [Nat.pow_succ]; omega
theorem Ie {b:Nat} (h:Ag b=0):b%2^63=0:=by
 unfold Ag Df Co at h
 split at h
 ·split at h<;>omega
 ·split at h
  ·omega
  ·split at h<;>omega
theorem Si {b:Nat} (k3:Ag b≠3) (k4:Ag b≠4) (k0:Ag b≠0):H4 b=((Am b).log2:Int)+As b∧-1074≤H4 b:=by
 have:=Ce b
 have hf:Gg b=true:=by rw [Ji]; simp [k3,k4]
 unfold H4
 rw [Axq ⟨hf,k0⟩]
 exact ⟨rfl,by omega⟩
theorem Vj (b:Nat):H4 b=H4 (b%2^63):=by
 have h1:Df (b%2^63)=Df b:=by unfold Df; omega
 have h2:Co (b%2^63)=Co b:=by unfold Co; omega
 unfold H4 Gg Ag Am As
 rw [h1,h2]
theorem V2 {b:Nat} (k3:Ag b≠3) (k4:Ag b≠4) (k0:Ag b≠0):pw 0≤(Dz b (-H4 b)).1%2^63:=by
 obtain ⟨e,_⟩:=Si k3 k4 k0
 rw [H8 k4 (by omega)]
 have m0:Am b≠0:=fun h=>k0 ((Dp k3 k4).1 h)
 have:=J0 (M:=Am b) (a:=(Am b).log2) (E:=As b+-H4 b) (Nat.log2_self_le m0) (by omega)
 have hl:=Hw (Am b) (As b+-H4 b)
 have e2:Bv (B5 b) (Bu (Am b) (As b+-H4 b))%2^63=Bu (Am b) (As b+-H4 b):=by unfold Bv; split<;>omega
 show pw 0≤Bv (B5 b) (Bu (Am b) (As b+-H4 b))%2^63
 rw [e2]; exact this
theorem Ac6 {x:Int} {l:List Int} {m:Nat} (k:Ag x.toNat=4):Kl (x::l) m=Pe:=Axq k
theorem Xc {x:Int} {l:List Int} {m:Nat} (k:Ag x.toNat≠4):Kl (x::l) m=Kl l (max m (Dg x.toNat)):=Axp k
theorem Agw:∀ (l:List Int) (m:Nat),Kl l m=Pe∨Kl l m=m∨∃ x∈l,Ag x.toNat≠4∧Kl l m=Dg x.toNat
 | [],_=>.inr (.inl rfl)
 | x::l,m=>by
   by_cases k4:Ag x.toNat=4
   ·exact .inl (Ac6 k4)
   rw [Xc k4]
   rcases Agw l (max m (Dg x.toNat)) with g | g | ⟨y,hy,g,g'⟩
   ·exact .inl g
   ·rw [g]
    rcases Nat.le_total m (Dg x.toNat) with k | k
    ·exact .inr (.inr ⟨x,Ayi,k4,Nat.max_eq_right k⟩)
    ·exact .inr (.inl (Nat.max_eq_left k))
   ·exact .inr (.inr ⟨y,Ax8 _ hy,g,g'⟩)
theorem Afi:∀ (l:List Int) (m:Nat),Kl l m=Pe∨(m≤Kl l m∧∀ x∈l,Dg x.toNat≤Kl l m)
 | [],_=>.inr ⟨Axx _,fun _ h=>by cases h⟩
 | x::l,m=>by
   by_cases k4:Ag x.toNat=4
   ·exact .inl (Ac6 k4)
   rw [Xc k4]
   rcases Afi l (max m (Dg x.toNat)) with g | ⟨g1,g2⟩
   ·exact .inl g
   ·refine .inr ⟨by omega,fun y hy=>?_⟩
    rcases List.mem_cons.1 hy with rfl | hy
    ·omega
    ·exact g2 y hy
theorem Ys (b:Nat):Ag (Dg b)=Ag b:=by
 have h1:Df (Dg b)=Df b:=by unfold Df Dg; omega
 have h2:Co (Dg b)=Co b:=by unfold Co Dg; omega
 unfold Ag; rw [h1,h2]
theorem abs_zero {b:Nat} (h:Dg b=0):Ag b=0:=by
 rw [← Ys,h]; decide
theorem Amv {y:List Int} (h:∃ x∈y,Av x≠0):Kl y 0=Pe∨∃ z∈y,Ag z.toNat≠4∧Ag z.toNat≠0∧Kl y 0=Dg z.toNat:=by
 obtain ⟨x,hx,hk⟩:=h
 rcases Afi y 0 with g | ⟨_,g⟩
 ·exact .inl g
 have g:=g x hx
 have x0:Dg x.toNat≠0:=fun e=>hk (by unfold Av; rw [abs_zero e]; rfl)
 rcases Agw y 0 with e | e | ⟨z,hz,k,e⟩
 ·exact .inl e
 ·omega
 ·refine .inr ⟨z,hz,k,fun k0=>?_,e⟩
  have:=Ie k0
  unfold Dg at e g x0; omega
end Go.Rnd
namespace Go.Rnd
open Go.Den
theorem U6 {V u k:Nat} {E:Int} (hk:k≤1023) (h:V≤2^u) (g:(u:Int)+E≤k):Bu V E≤pw k:=by
 refine Aya (E0 h) ?_
 obtain ⟨t,ht⟩:∃ t:Nat,t=1074:=⟨1074,rfl⟩
 rw [← U7 hk,← ht]
 by_cases hE:-1074≤E
 ·have s:=(Cp (2^u) (E+1074).toNat E).1
  rw [show E-((E+1074).toNat:Int)=-1074 by omega,← Axs] at s
  rw [← s]
  exact E0 (Axi (by decide) (by omega))
 ·have s:=(Cp (2^(k+t)) (-1074-E).toNat (-1074)).1
  rw [show (-1074:Int)-((-1074-E).toNat:Int)=E by omega,← Axs] at s
  rw [← s]
  exact E0 (Axi (by decide) (by omega))
theorem Bd.Pr {k V u:Nat} {E:Int} (s:Bool) (hk:k≤1023) (h:V≤2^u) (g:(u:Int)+E≤k):Bd k (Bv s (Go.Rnd.Bu V E)):=Bd.Bu s hk (U6 hk h g)
theorem Bd.log {k a:Nat} (h:Bd k a) (h0:Am a≠0):((Am a).log2:Int)+As a≤k:=by
 have pa:=Ce a
 have hm:=h.2.2
 obtain ⟨t,ht⟩:∃ t:Nat,t=1074:=⟨1074,rfl⟩
 have e:Kk a=Am a*2^(As a+1074).toNat:=by unfold Kk Ei; congr 2
 rw [e,← ht] at hm
 have h1:=Axf (2^(As a+1074).toNat) (Nat.log2_self_le h0)
 rw [← Axs] at h1
 have:=(Nat.pow_le_pow_iff_right (a:=2) (by decide)).1 (Aya h1 hm)
 omega
theorem Bd.part {k a:Nat} (h:Bd k a) (h0:Am a≠0):Am a≤2^((k:Int)-As a).toNat∧As a≤k:=by
 have pa:=Ce a
 have hm:=h.2.2
 have hl:=h.log h0
 obtain ⟨t,ht⟩:∃ t:Nat,t=1074:=⟨1074,rfl⟩
 have e:Kk a=Am a*2^(As a+1074).toNat:=by unfold Kk Ei; congr 2
 refine ⟨?_,by omega⟩
 rw [e,← ht,show k+t=((k:Int)-As a).toNat+(As a+1074).toNat by omega,Axs] at hm
 exact Nat.le_of_mul_le_mul_right hm (B1 _)
theorem Bd.scale {k j a:Nat} {n:Int} (hj:j≤1023) (h:Bd k a) (g:(k:Int)+n≤j):Bd j (Dz a n).1:=by
 by_cases k0:Ag a=0
 ·unfold Dz
  rw [Axp h.2.1,Axq (.inr k0)]
  refine .Lt hj h.2.1 ?_
  rw [Ie k0]; exact Nat.zero_le _
 have h0:Am a≠0:=fun e=>k0 ((Dp h.1 h.2.1).1 e)
 rw [H8 h.2.1 (by have:=h.1; omega)]
 obtain ⟨p1,p2⟩:=h.part h0
 exact .Pr _ hj p1 (by omega)
theorem Acx {a b:Nat} (a3:Ag a≠3) (a4:Ag a≠4) (b3:Ag b≠3) (b4:Ag b≠4) (h:Dg a≤Dg b) (h0:Am a≠0):((Am a).log2:Int)+As a≤((Am b).log2:Int)+As b:=by
 have pa:=Ce a
 have pb:=Ce b
 have hm:Ei a (-1074)≤Ei b (-1074):=by
  rcases Ax0 (Ei b (-1074)) (Ei a (-1074)) with g | g
  ·have:=(Wm (f:=-1074) b4 a4 pb.1 pa.1).1 g
   unfold Dg at h; omega
  ·exact g
 unfold Ei at hm
 have hb0:Am b≠0:=fun e=>by
  rw [e,Nat.zero_mul] at hm
  have:=Nat.mul_pos (show 0<Am a by omega) (B1 (As a - -1074).toNat)
  omega
 have h1:=Axf (2^(As a - -1074).toNat) (Nat.log2_self_le h0)
 have h2:=Nat.mul_lt_mul_of_pos_right (Nat.lt_log2_self (n:=Am b)) (B1 (As b - -1074).toNat)
 rw [← Axs] at h1 h2
 have:=(Nat.pow_lt_pow_iff_right (a:=2) (by decide)).1 (Ax5 (Aya h1 hm) h2)
 omega
theorem Bd.down {a b:Nat} (a3:Ag a≠3) (a4:Ag a≠4) (b3:Ag b≠3) (b4:Ag b≠4) (h:Dg a≤Dg b):Bd 1 (Dz a (-H4 b)).1:=by
 by_cases k0:Ag a=0
 ·unfold Dz
  rw [Axp a4,Axq (.inr k0)]
  refine .Lt (by decide) a4 ?_
  rw [Ie k0]; exact Nat.zero_le _
 have h0:Am a≠0:=fun e=>k0 ((Dp a3 a4).1 e)
 have hb0:Ag b≠0:=fun e=>by
  have:=Ie e
  have hh:Ag a=0:=abs_zero (by unfold Dg at h ⊢; omega)
  exact k0 hh
 have hl:=Acx a3 a4 b3 b4 h h0
 obtain ⟨ee,_⟩:=Si b3 b4 hb0
 rw [H8 a4 (by omega)]
 exact .Pr _ (by decide) (Nat.le_of_lt (Nat.lt_log2_self (n:=Am a))) (by omega)
structure Lo (t:Nat) (a:Nat):Prop where
 k3:Ag a≠3
 k4:Ag a≠4
 m0:Am a≠0
 log:-(t:Int)≤((Am a).log2:Int)+As a
theorem Lo.k0 {t a:Nat} (h:Lo t a):Ag a≠0:=fun e=>h.m0 ((Dp h.k3 h.k4).2 e)
theorem Lo.Z1 {a:Nat} (k3:Ag a≠3) (k4:Ag a≠4) (h:pw 0≤a%2^63):Lo 0 a:=by
 obtain ⟨h1,h2⟩:=P2 h
 have h0:Am a≠0:=by omega
 refine ⟨k3,k4,h0,?_⟩
 have:=(Nat.le_log2 h0).2 h1
 omega
theorem Lo.Aeg {t a b:Nat} (h:Lo t a) (b3:Ag b≠3) (b4:Ag b≠4) (g:Dg a≤Dg b):Lo t b:=by
 have hl:=Acx h.k3 h.k4 b3 b4 g h.m0
 refine ⟨b3,b4,fun e=>?_,by have:=h.log; omega⟩
 have k0:=Ie ((Dp b3 b4).1 e)
 exact h.k0 (abs_zero (by unfold Dg at g ⊢; omega))
theorem Aj3 {X Y K u:Nat} (hY:0<Y) (h:X*2^K≤Y*2^u):F3 X Y K≤2^(u+1):=by
 unfold F3
 have hd:=Nat.div_add_mod (X*2^K) Y
 have hq:X*2^K / Y≤2^u:=Nat.div_le_of_le_mul h
 rw [Nat.pow_succ]
 split
 ·omega
 ·rename_i hr
  have:X*2^K / Y≠2^u:=fun e=>by
   rw [e] at hd
   omega
  omega
theorem Bd.div {j t a b:Nat} (hk:j+t≤1023) (ha:Bd j a) (hb:Lo t b):Bd (j+t) (Xu a b).1:=by
 have b0:=hb.k0
 have a3:=ha.1
 have a4:=ha.2.1
 have b3:=hb.k3
 have b4:=hb.k4
 unfold Xu
 rw [Axp (by omega),Axp (by omega),Axp a3]
 by_cases k0:Ag a=0
 ·rw [Axq (.inr k0)]; exact .zero _ _
 rw [Axp (by omega),Axp b0]
 have m0:Am a≠0:=fun e=>k0 ((Dp a3 a4).1 e)
 obtain ⟨p1,p2⟩:=ha.part m0
 have hl:=hb.log
 have l52:=Acb hb.m0
 obtain ⟨u,hu⟩:∃ u:Nat,(u:Int)=(j:Int)+t-As a+As b+120:=⟨((j:Int)+t-As a+As b+120).toNat,by omega⟩
 refine .Pr _ hk (Aj3 (u:=u) (by have:=hb.m0; omega) ?_) (by omega)
 refine Aya (Axf _ p1) (Aya ?_ (Axf _ (Nat.log2_self_le hb.m0)))
 rw [← Axs,← Axs]
 exact Axi (by decide) (by omega)
theorem Aha {n u:Nat} (h:n≤2^(u+u)):Fc n≤2^(u+1):=by
 obtain ⟨h1,_⟩:=Mw n
 rw [Axs] at h
 have hq:O3 n≤2^u:=by
  rcases Ax0 (2^u) (O3 n) with g | g
  ·have:=Nat.mul_lt_mul'' g g
   omega
  ·exact g
 unfold Fc
 rw [Nat.pow_succ]
 split
 ·omega
 ·rename_i hr
  have:O3 n≠2^u:=fun e=>by
   rw [e] at h1 hr
   omega
  omega
theorem Bd.root {j b:Nat} (hj:j≤1000) (hb:Bd (j+j) b) (hn:B5 b=false):Bd j (Io b).1:=by
 by_cases k0:Ag b=0
 ·rw [Mj hb.2.1 (.inl k0)]
  refine .Lt (by omega) hb.2.1 ?_
  rw [Ie k0]; exact Nat.zero_le _
 have m0:Am b≠0:=fun e=>k0 ((Dp hb.1 hb.2.1).1 e)
 have hi:b≠Eg:=fun e=>hb.1 (by rw [e]; exact Aly)
 rw [Vy hb.2.1 (fun h=>h.elim k0 hi) hn]
 obtain ⟨p1,p2⟩:=hb.part m0
 obtain ⟨r1,r2⟩:=V7 m0
 generalize hr:(As b-(Gf b:Int)) / 2-1=r at r2 ⊢
 have hrk:128≤Gf b:=by unfold Gf; omega
 obtain ⟨u,hu⟩:∃ u:Nat,(u:Int)=(j:Int)-r-1:=⟨((j:Int)-r-1).toNat,by omega⟩
 have h2:Am b*2^Gf b≤2^(u+u):=by
  refine Aya (Axf _ p1) ?_
  rw [← Axs]
  exact Axi (by decide) (by omega)
 have:=Bd.Pr (k:=j) (E:=r) false (by omega) (Aha h2) (by omega)
 rw [Hq] at this
 exact this
def Bm (m k:Nat) (a:Nat):Prop:=Ag a≠3∧Ag a≠4∧Kk a≤m*2^(k+1074)
theorem Bd.bm {k a:Nat} (h:Bd k a):Bm 1 k a:=⟨h.1,h.2.1,by rw [Nat.one_mul]; exact h.2.2⟩
theorem Bm.bd {m k a j:Nat} (h:Bm m k a) (hm:m≤2^j):Bd (k+j) a:=by
 refine ⟨h.1,h.2.1,Aya h.2.2 ?_⟩
 obtain ⟨t,ht⟩:∃ t:Nat,t=1074:=⟨1074,rfl⟩
 rw [← ht,show k+j+t=j+(k+t) by omega,Axs 2 j]
 exact Axf _ hm
theorem Al8 {m k:Nat} (h0:m≠0) (hm:m≤1024) (hk:k≤1000):∃ z:Nat,z=Bu (m*2^(k+1074)) (-1074)∧z%2^63=z∧Ag z≠4∧Kk z=m*2^(k+1074):=by
 obtain ⟨t,ht⟩:∃ t:Nat,t=1074:=⟨1074,rfl⟩
 have s:=(Cp m (k+t) k).1
 rw [show (k:Int)-((k+t:Nat):Int)=-1074 by omega] at s
 have hu:Bu m k≤pw (k+10):=U6 (by omega) (u:=10) (by omega) (by omega)
 have hi:Bu m k<Eg:=Ax5 hu (Mo (by omega)).2.2.2.2
 obtain ⟨_,d,e1,e2⟩:=W4 false h0 (Uj (V:=m) (E:=(k:Int)) (by omega) (by omega)) hi
 rw [Hq] at e1 e2
 have hl:=Hw m k
 have pe:=Ce (Bu m k)
 have k4:=Mv false m k
 rw [Hq] at k4
 refine ⟨Bu m k,?_,Axg hl,k4,?_⟩
 ·rw [← ht]; exact s.symm
 ·unfold Kk Ei
  rw [e1,e2,Axu,← Axs]
  congr 2
  omega
theorem Bm.Lt {m k a z:Nat} (hz:Kk z=m*2^(k+1074)) (z4:Ag z≠4) (zi:z%2^63<Eg) (a4:Ag a≠4) (h:a%2^63≤z%2^63):Bm m k a:=by
 have a3:Ag a≠3:=fun e=>by have:=Nm e; omega
 refine ⟨a3,a4,?_⟩
 rw [← hz]
 have pa:=Ce a
 have pz:=Ce z
 rcases Ax0 (Kk z) (Kk a) with g | g
 ·have:=(Wm (f:=-1074) z4 a4 pz.1 pa.1).1 g
  omega
 ·exact g
theorem Bm.add {m n k a b:Nat} (h0:m+n≠0) (hmn:m+n≤1024) (hk:k≤1000) (ha:Bm m k a) (hb:Bm n k b):Bm (m+n) k (Ff a b).1:=by
 obtain ⟨a3,a4,am⟩:=ha
 obtain ⟨b3,b4,bm⟩:=hb
 have pa:=Ce a
 have pb:=Ce b
 have ek:=Vq a3 a4 b3 b4 (g:=-1074) (by omega)
 have e4:Ag (Ff a b).1≠4:=by
  rw [Sv (by omega) a3 b3]
  unfold Jb
  split
  ·have:Ag (Bv (B5 a&&B5 b) 0)=0:=by cases (B5 a&&B5 b)<;>decide
   show Ag (Bv (B5 a&&B5 b) 0)≠4
   omega
  ·exact Mv _ _ _
 obtain ⟨z,ez,z63,z4,zm⟩:=Al8 h0 hmn hk
 have zi:z%2^63<Eg:=by
  have hu:z≤pw (k+10):=by
   rw [ez]
   refine U6 (u:=k+1074+10) (by omega) ?_ (by omega)
   rw [Axs 2 (k+1074),Axr]
   exact Nat.mul_le_mul_left _ hmn
  have:=(Mo (k:=k+10) (by omega)).2.2.2.2
  omega
 refine .Lt zm z4 zi e4 ?_
 have hs:(Fq a (-1074)+Fq b (-1074)).natAbs≤(m+n)*2^(k+1074):=by
  have h1:=J2 a
  have h2:=J2 b
  have:(m+n)*2^(k+1074)=m*2^(k+1074)+n*2^(k+1074):=Ax7 _ _ _
  omega
 have hr:=E0 (E:=-1074) hs
 rw [← ez] at hr
 have hn:(Hg (Ff a b).1).natAbs=(Ff a b).1%2^63:=by unfold Hg; rw [U5]
 rw [← hn,ek,z63]
 unfold Xk
 split<;>omega
theorem Bm.minus {m k b:Nat} (hb:b<2^64) (h:Bm m k b):Bm m k (El b):=by
 obtain ⟨h3,h4,hm⟩:=h
 obtain ⟨v1,v2,v3⟩:=Xy hb (-1074)
 have hf:Gg b=true:=by rw [Ji]; simp [h3,h4]
 have k':=Fv (v3.trans hf)
 refine ⟨k'.2,k'.1,?_⟩
 rw [← J2,v1,Int.natAbs_neg,J2]; exact hm
def Bl (k:Nat) (l:List Int):Prop:=∀ x∈l,Bd k x.toNat
theorem Bl.mono {j k:Nat} {l:List Int} (h:Bl j l) (g:j≤k):Bl k l:=fun x hx=>(h x hx).mono g
theorem Ap8 {k:Nat} {x:Int} {l:List Int} (h1:Bd k x.toNat) (h2:Bl k l):Bl k (x::l):=fun y hy=>by
 rcases List.mem_cons.1 hy with rfl | hy
 ·exact h1
 ·exact h2 y hy
theorem Afg {α:Type} {k:Nat} {l:List α} {f:α→Int} (h:∀ j,Bd k (f j).toNat):Bl k (l.map f):=fun x hx=>by
 obtain ⟨j,_,rfl⟩:=List.mem_map.1 hx
 exact h j
theorem Aat {k:Nat} {l:List Int} (h:Bl k l) (j:Nat):Bd k (l.getD j 0).toNat:=by
 by_cases hj:j<l.length
 ·rw [Axd,Axk hj]; exact h _ (List.getElem_mem hj)
 ·rw [Axd,Ayl (by omega)]; exact Bd.zero false k
theorem Sp {k r c:Nat} {f:Nat→Nat→Int} (h:∀ i j,Bd k (f i j).toNat):Bl k (Cd r c f):=fun x hx=>by
 unfold Cd at hx
 obtain ⟨j,_,rfl⟩:=List.mem_map.1 hx
 exact h _ _
theorem Agq {j k:Nat} (hjk:j+k≤1000):∀ (x y:List Int) (s t:Nat),Bl j x→Bl k y→Bm t (j+k) s→0<t→t+x.length≤1024→Bm (t+x.length) (j+k) (Xt s x y)
 | [],_,s,t,_,_,hs,_,_=>hs
 | a::x,[],s,t,_,_,hs,_,_=>⟨hs.1,hs.2.1,Aya hs.2.2 (Axf _ (by omega))⟩
 | a::x,b::y,s,t,hx,hy,hs,h0,ht=>by
   simp only [List.length_cons] at ht ⊢
   have h1:Bm (t+1) (j+k) (Ff s (N9 a.toNat b.toNat).1).1:=Bm.add (by omega) (by omega) hjk hs (Bd.mul (by omega) (hx a Ayi) (hy b Ayi)).bm
   have:=Agq hjk x y _ (t+1) (fun z hz=>hx z (Ax8 _ hz)) (fun z hz=>hy z (Ax8 _ hz)) h1 (by omega) (by omega)
   rw [show t+(x.length+1)=t+1+x.length by omega]
   exact this
theorem Agr {j k:Nat} {x y:List Int} (hjk:j+k≤1000) (hx:Bl j x) (hy:Bl k y) (hl:x.length≤7):Bd (j+k+3) (Oc x y).toNat:=by
 have z:Bm 1 (j+k) 0:=(Bd.zero false (j+k)).bm
 have:=Agq hjk x y 0 1 hx hy z (by decide) (by omega)
 show Bd (j+k+3) (toNat ((Xt 0 x y:Nat):Int))
 rw [Aw5]
 exact this.bd (by omega)
end Go.Rnd
namespace Go.Rnd
open Go.Den
theorem Ud:∀ {l:List Int},F7 l≠true→∃ x∈l,Av x≠0
 | [],h=>absurd rfl h
 | x::l,h=>by
   by_cases k:Av x=0
   ·have:F7 l≠true:=fun e=>h (by unfold F7 at e ⊢; rw [List.all_cons,e,Aw4 k]; rfl)
    obtain ⟨y,hy,g⟩:=Ud this
    exact ⟨y,Ax8 _ hy,g⟩
   ·exact ⟨x,Ayi,k⟩
theorem Aeh {c:Int} {l:List Int} {n i:Nat} (h:R5 c l n=false) (hi:i<n):Av (Di c l (i:Int) (i:Int))≠0:=by
 intro e
 unfold R5 at h
 have:=List.any_eq_false.1 h i (List.mem_range.2 hi)
 exact this (Aw4 e)
theorem Al6 {b:Nat} (h:b<Eg):Ag b≠3∧Ag b≠4∧b%2^63=b:=by
 have hi:=Em
 have h3:b%2^63=b:=by omega
 have hr:=Nd b
 have hf:=J8 b
 rcases H3 b with ⟨p,_,_⟩ | ⟨p,_,_⟩ | ⟨_,p,q⟩
 ·exfalso; rw [p] at hr; omega
 ·exfalso; rw [p] at hr; omega
 ·exact ⟨p,q,h3⟩
theorem Vn:∀ (l:List Int) (m:Nat),(∀ z∈l,Cq z=true)→m<Eg→Kl l m<Eg
 | [],_,_,h=>h
 | z::l,m,hl,hm=>by
   have zk:=Fv (show Gg z.toNat=true from hl z Ayi)
   rw [Xc zk.1]
   refine Vn l _ (fun w hw=>hl w (Ax8 _ hw)) ?_
   have hz:Dg z.toNat<Eg:=Sc zk.2 zk.1
   omega
theorem Nq {l:List Int} (h:Da l=true):∀ z∈l,Cq z=true:=List.all_eq_true.1 h
theorem Aax {x:List Int} (hf:Da x=true):Ag (A6 x).toNat≠3∧Ag (A6 x).toNat≠4∧Dg (A6 x).toNat=(A6 x).toNat∧∀ z∈x,Dg z.toNat≤Dg (A6 x).toNat:=by
 have eb:(A6 x).toNat=Kl x 0:=Aw5 _
 have hl:=Vn x 0 (Nq hf) (by rw [Em]; omega)
 obtain ⟨h1,h2,h3⟩:=Al6 hl
 have hN:Kl x 0≠Pe:=fun e=>by rw [e,Em,H0] at hl; omega
 rw [eb]
 refine ⟨h1,h2,h3,fun z hz=>?_⟩
 show _≤Kl x 0%2^63
 rw [h3]
 rcases Afi x 0 with g | ⟨_,g⟩
 ·exact absurd g hN
 ·exact g z hz
theorem Vm {x:List Int} (hf:Da x=true) (h:∃ z∈x,Av z≠0):∃ z∈x,Ag z.toNat≠0∧(A6 x).toNat=Dg z.toNat:=by
 have eb:(A6 x).toNat=Kl x 0:=Aw5 _
 have hl:=Vn x 0 (Nq hf) (by rw [Em]; omega)
 rcases Amv h with e | ⟨z,hz,_,k0,e⟩
 ·exfalso; rw [e,Em,H0] at hl; omega
 ·exact ⟨z,hz,k0,eb.trans e⟩
theorem Bl.Acs {k:Nat} {l:List Int} (h:Bl k l):Da l=true:=List.all_eq_true.2 fun x hx=>(h x hx).fin
theorem W1 {x:Int} (h:Cq x=true):Ag x.toNat≠3∧Ag x.toNat≠4:=⟨(Fv (show Gg x.toNat=true from h)).2,(Fv (show Gg x.toNat=true from h)).1⟩
theorem G1 (x n:Int):(B4 x n).toNat=(Dz x.toNat n).1:=Aw5 _
theorem V0 {x:List Int} (hf:Da x=true):Bl 1 (Bb x (-Bi (A6 x))):=fun y hy=>by
 obtain ⟨z,hz,rfl⟩:=List.mem_map.1 hy
 obtain ⟨b3,b4,_,hb⟩:=Aax hf
 have zk:=W1 (Nq hf z hz)
 rw [G1]
 exact Bd.down zk.1 zk.2 b3 b4 (hb z hz)
theorem Ahg {x:List Int} (hf:Da x=true) (h:∃ z∈x,Av z≠0):∃ y∈Bb x (-Bi (A6 x)),pw 0≤y.toNat%2^63:=by
 obtain ⟨z,hz,k0,e⟩:=Vm hf h
 have zk:=W1 (Nq hf z hz)
 refine ⟨B4 z (-Bi (A6 x)),List.mem_map.2 ⟨z,hz,rfl⟩,?_⟩
 have ee:Bi (A6 x)=H4 z.toNat:=by unfold Bi; rw [e,Vj z.toNat]; rfl
 rw [G1,ee]
 exact V2 zk.1 zk.2 k0
theorem Aj8 {k:Int} (hk:k≤0):∀ (l:List Int) (s t:Nat),Bl 1 l→Bm t 2 s→0<t→t+l.length≤1000→Bm (t+l.length) 2 (S9 k (s:Int) l).toNat
 | [],s,t,_,hs,_,_=>by
   show Bm t 2 (toNat (s:Int))
   rw [Aw5]; exact hs
 | x::l,s,t,hl,hs,h0,ht=>by
   simp only [List.length_cons] at ht ⊢
   have h1:Bd 1 (Dz x.toNat k).1:=Bd.scale (by decide) (hl x Ayi) (by omega)
   have h2:Bd 2 (N9 (Dz x.toNat k).1 (Dz x.toNat k).1).1:=Bd.mul (j:=1) (k:=1) (by decide) h1 h1
   have h3:=Bm.add (k:=2) (by omega) (by omega) (by decide) hs h2.bm
   have:=Aj8 hk l _ (t+1) (fun z hz=>hl z (Ax8 _ hz)) h3 (by omega) (by omega)
   rw [show t+(l.length+1)=t+1+l.length by omega]
   unfold S9 I8 Eh
   rw [G1,Aw5,Aw5]
   exact this
theorem Aor {y:List Int} (hy:Bl 1 y) (hl:y.length≤7) (h:∃ z∈y,pw 0≤z.toNat%2^63):Bd 4 (D0 y).toNat∧Big (D0 y).toNat:=by
 have hf:=hy.Acs
 have h0:∃ z∈y,Av z≠0:=by
  obtain ⟨z,hz,g⟩:=h
  refine ⟨z,hz,fun k=>?_⟩
  have:=Ie (b:=z.toNat) (by unfold Av at k; omega)
  rw [Aea] at g; omega
 obtain ⟨b3,b4,ba,hb⟩:=Aax hf
 have hB:pw 0≤Dg (A6 y).toNat:=by
  obtain ⟨z,hz,g⟩:=h
  exact Aya g (hb z hz)
 obtain ⟨w,hw,w0,we⟩:=Vm hf h0
 have wk:=W1 (Nq hf w hw)
 have ee:Bi (A6 y)=H4 w.toNat:=by unfold Bi; rw [we,Vj w.toNat]; rfl
 obtain ⟨x1,_⟩:=Si wk.1 wk.2 w0
 have wm:Am w.toNat≠0:=fun e=>w0 ((Dp wk.1 wk.2).1 e)
 have u1:=(hy w hw).log wm
 have u2:=(Lo.Z1 (a:=w.toNat) wk.1 wk.2 (by
  rw [we] at hB
  show pw 0≤Dg w.toNat
  unfold Dg at hB ⊢; omega)).log
 have e0:0≤H4 w.toNat∧H4 w.toNat≤1:=by omega
 unfold D0
 rw [Axp (fun k=>by
  rcases k with k | k
  ·rw [k] at hB; rw [Aea] at hB; revert hB; decide
  ·unfold Cq at k; rw [Ji] at k; simp [b3,b4] at k)]
 rw [ee]
 obtain ⟨t,te,t1,t2⟩:=Aj5 (-H4 w.toNat) y 0 (Nat.zero_le _)
 have tb:=t2 (.inr ⟨w,hw,by rw [G1]; exact V2 wk.1 wk.2 w0⟩)
 have te:S9 (-H4 w.toNat) 0 y=t:=te
 have bm:=Aj8 (k:=-H4 w.toNat) (by omega) y 0 1 hy (Bd.zero false 2).bm (by decide) (by omega)
 have bm:Bm (1+y.length) 2 (S9 (-H4 w.toNat) 0 y).toNat:=bm
 rw [te,Aw5] at bm
 rw [te]
 have bt:Bd (3+3) t:=(bm.bd (j:=3) (by omega)).mono (by decide)
 have br:Bd 3 (Io t).1:=Bd.root (by decide) bt (Nk tb.2)
 have rb:=Akj tb
 rw [G1]
 unfold G5
 rw [Aw5,Aw5]
 refine ⟨Bd.scale (by decide) br (by omega),?_⟩
 have k0:Ag (Io t).1≠0:=fun e=>by
  have:=Ie e
  have h1:=rb.1; have h2:=rb.2
  rw [H0] at h2; rw [Aea] at h1; omega
 rw [H8 br.2.1 (by have:=br.1; omega),Nk rb.2,Hq]
 have hm:(Io t).1%2^63=(Io t).1:=by have:=rb.2; rw [H0] at this; omega
 obtain ⟨p1,p2⟩:=P2 (z:=(Io t).1) (by rw [hm]; exact rb.1)
 exact ⟨J0 (a:=52) p1 (by omega),Nj _ _⟩
theorem Ak9 {x:List Int} (hf:Da x=true) (hl:x.length≤7) (h:∃ z∈x,Av z≠0):Bd 4 (Uf x).toNat∧Lo 0 (Uf x).toNat∧pw 0≤Dg (Uf x).toNat∧B5 (El (Uf x).toNat)=Dm (Mu x):=by
 obtain ⟨n1,n2⟩:=Aor (V0 hf) (by unfold Bb; rw [Ax9]; exact hl) (Ahg hf h)
 have nl:(D0 (Bb x (-Bi (A6 x)))).toNat<2^63:=by have:=n2.2; rw [H0] at this; omega
 have na:pw 0≤Dg (D0 (Bb x (-Bi (A6 x)))).toNat:=by
  unfold Dg; rw [Axg nl]; exact n2.1
 unfold Uf
 split
 ·rename_i hn
  refine ⟨n1,.Z1 n1.1 n1.2.1 na,na,?_⟩
  rw [(Lv (by omega)).1,Nk n2.2,hn]; rfl
 ·rename_i hn
  have eq:(Dk (D0 (Bb x (-Bi (A6 x))))).toNat=El (D0 (Bb x (-Bi (A6 x)))).toNat:=Aw5 _
  rw [eq]
  have hb:=Wl (by omega) n1
  have ha:pw 0≤Dg (El (D0 (Bb x (-Bi (A6 x)))).toNat):=by
   unfold Dg at na ⊢; rw [Qy nl]; omega
  refine ⟨hb,.Z1 hb.1 hb.2.1 ha,ha,?_⟩
  rw [(Lv (Aem (by omega))).1,(Lv (by omega)).1,Nk n2.2]
  cases hh:Dm (Mu x)
  ·rfl
  ·exact absurd hh hn
theorem Aqi {a b:Nat} (a3:Ag a≠3) (a4:Ag a≠4) (b3:Ag b≠3) (b4:Ag b≠4) (hs:B5 a=B5 b∨Am a=0) (h:pw 0≤Dg b):pw 0≤Dg (Ff a b).1:=by
 have pa:=Ce a
 have pb:=Ce b
 have ek:=Vq a3 a4 b3 b4 (g:=-1074) (by omega)
 have hS:Ei b (-1074)≤(Fq a (-1074)+Fq b (-1074)).natAbs:=by
  unfold Ei Fq
  rcases hs with hs | hs
  ·rw [hs]; unfold Hr; split<;>omega
  ·rw [hs,Nat.zero_mul]; unfold Hr; split<;>split<;>omega
 have hr:=E0 (E:=-1074) hS
 rw [J3 b4 (by omega)] at hr
 have hn:(Hg (Ff a b).1).natAbs=Dg (Ff a b).1:=by unfold Hg; rw [U5]; rfl
 rw [← hn,ek]
 unfold Dg at h
 unfold Xk
 split<;>omega
theorem X9 {a:Nat} {n:Int} (k4:Ag a≠4):B5 (Dz a n).1=B5 a:=by
 by_cases k:Ag a=3∨Ag a=0
 ·unfold Dz; rw [Axp k4,Axq k]
 ·rw [H8 k4 k]
  exact sign_neg _ (Hw _ _)
theorem Alp {x:List Int} (hf:Da x=true) (ax:Af x=true) (hl:x.length≤7) (h:∃ z∈x,Av z≠0):Lo 0 (Dl (Jm x) (Uf x)).toNat∧Bd 5 (Dl (Uf x) (Jm x)).toNat:=by
 obtain ⟨m1,m2,m3,m4⟩:=Ak9 hf hl h
 have lm:=Rf (Aqs x)
 have mb:=Wl lm m1
 cases x with
 | nil=>obtain ⟨z,hz,_⟩:=h; cases hz
 | cons a x =>
   have ak:=W1 (Nq hf a Ayi)
   have b1:Bd 1 (Jm (a::x)).toNat:=V0 hf _ (List.mem_map.2 ⟨a,Ayi,rfl⟩)
   have e1:(Jm (a::x)).toNat=(Dz a.toNat (-Bi (A6 (a::x)))).1:=G1 _ _
   have s1:(Dl (Jm (a::x)) (Uf (a::x))).toNat=(Ff (Jm (a::x)).toNat (El (Uf (a::x)).toNat)).1:=Aw5 _
   have s2:(Dl (Uf (a::x)) (Jm (a::x))).toNat=(Ag8 (Uf (a::x)).toNat (Jm (a::x)).toNat).1:=Aw5 _
   have am:pw 0≤Dg (El (Uf (a::x)).toNat):=by
    have e:Dg (El (Uf (a::x)).toNat)=Dg (Uf (a::x)).toNat:=by unfold Dg El; split<;>omega
    rw [e]; exact m3
   have hsg:B5 (Jm (a::x)).toNat=B5 (El (Uf (a::x)).toNat)∨Am (Jm (a::x)).toNat=0:=by
    by_cases k0:Av a=0
    ·refine .inr ?_
     rw [e1]
     have k0':Ag a.toNat=0:=by unfold Av at k0; omega
     unfold Dz
     rw [Axp ak.2,Axq (.inr k0')]
     exact (Dp ak.1 ak.2).2 k0'
    ·refine .inl ?_
     rw [m4,e1,X9 ak.2]
     unfold Mu
     rw [Axp k0]
     rfl
   have hfar:=Aqi b1.1 b1.2.1 mb.1 mb.2.1 hsg am
   have hbd:=Bd.add (k:=4) (by decide) (b1.mono (by decide)) mb
   rw [s1,s2]
   have f64:(Jm (a::x)).toNat<2^64:=Rf (Iq (Lk ax 0))
   exact ⟨.Z1 hbd.1 hbd.2.1 hfar,Bd.sub (k:=4) (by decide) f64 m1 (b1.mono (by decide))⟩
theorem Uy (k:Nat):Bd k (toNat 0):=Bd.zero false k
theorem Akt (k:Nat):Bd k Aoo.toNat:=by
 refine .mono (j:=0) ?_ (Nat.zero_le _)
 refine .Lt (by decide) (by decide +kernel) ?_
 rw [Aea]; decide
theorem Aki {k n:Nat} {f:Nat→Int} (h:∀ j,Bd k (f j).toNat):Bl k (I3 n f):=Ap8 (Akt k) (Afg fun j=>h _)
theorem Aao (a b:Int):(Fp a b).toNat=(Xu a.toNat b.toNat).1:=Aw5 _
theorem Z8 (a b:Int):(Eh a b).toNat=(N9 a.toNat b.toNat).1:=Aw5 _
theorem Afv (a b:Int):(Dl a b).toNat=(Ag8 a.toNat b.toNat).1:=Aw5 _
theorem Y0 {x:List Int} (h:F7 (x.drop 1)≠true):∃ z∈x,Av z≠0:=by
 obtain ⟨z,hz,g⟩:=Ud h
 exact ⟨z,List.mem_of_mem_drop hz,g⟩
theorem Asi {k:Nat} {x:List Int} (hx:Bl k x) (h:∃ z∈x,Av z≠0):Bi (A6 x)≤k:=by
 obtain ⟨z,hz,k0,e⟩:=Vm hx.Acs h
 have ee:Bi (A6 x)=H4 z.toNat:=by unfold Bi; rw [e,Vj z.toNat]; rfl
 have b:=hx z hz
 rw [ee,(Si b.1 b.2.1 k0).1]
 exact b.log fun e=>k0 ((Dp b.1 b.2.1).1 e)
theorem Aoy {k:Nat} {x:List Int} (hk:k+4≤1000) (hx:Bl k x) (ax:Af x=true) (hl:x.length≤7) (he:(Bw x).2.2.2=0):Bl 1 (Bw x).1∧Bd 5 (Bw x).2.1.toNat∧Bd (k+4) (Bw x).2.2.1.toNat:=by
 unfold Bw at he ⊢
 by_cases h1:x.length=0∨64<x.length
 ·rw [Axq h1] at he; exact absurd he (by decide)
 rw [Axp h1] at he ⊢
 have hf:=hx.Acs
 rw [Axq hf] at he ⊢
 unfold Aia at he ⊢
 by_cases h3:F7 (x.drop 1)=true
 ·rw [Axq h3]
  dsimp only
  exact ⟨Aki fun _=>Uy 1,Uy 5,(Aat hx 0).mono (by omega)⟩
 ·rw [Axp h3] at he ⊢
  by_cases h4:Cq (Gy x)=true
  ·rw [Axq h4]
   dsimp only
   have hs:=Y0 h3
   obtain ⟨m1,m2,m3,m4⟩:=Ak9 hf hl hs
   obtain ⟨f1,f2⟩:=Alp hf ax hl hs
   have sb:=V0 hf
   refine ⟨Aki fun j=>?_,?_,?_⟩
   ·rw [Aao]
    refine Bd.div (j:=1) (t:=0) (by decide) ?_ f1
    by_cases hj:j<x.length
    ·refine sb _ (List.mem_map.2 ⟨x.getD j 0,?_,rfl⟩)
     rw [Axd,Axk hj]; exact List.getElem_mem hj
    ·rw [Axd,Ayl (by omega)]
     rw [G1]
     have e:∀ n:Int,(Dz (toNat 0) n).1=0:=fun n=>by
      unfold Dz
      rw [Axp (by decide),Axq (.inr (by decide))]; rfl
     show Bd 1 (Dz (toNat 0) _).1
     rw [e]; exact Bd.zero false 1
   ·unfold Ab0
    rw [Aao]
    exact Bd.div (j:=5) (t:=0) (by decide) f2 m2
   ·unfold Gy
    rw [G1]
    exact Bd.scale (by omega) m1 (by have:=Asi hx hs; omega)
  ·rw [Axp h4] at he; exact absurd he (by decide)
theorem Ql {k:Nat} {c i j:Int} {l:List Int} (h:Bl k l):Bd k (Di c l i j).toNat:=Aat h _
theorem Akd {k:Nat} {c b i:Int} {n:Nat} {l:List Int} (h:Bl k l):Bl k (Ds c l b i n):=Afg fun _=>Ql h
theorem Ai9 {k:Nat} {c i j t a b:Int} {l v:List Int} (hk:k+11≤1000) (h:Bl k l) (hv:Bl 1 v) (hl:v.length≤7) (ht:Bd 5 t.toNat):Bd (k+11) (Li c l i j v t a b).toNat:=by
 unfold Li
 split
 ·rw [Afv]
  refine Bd.sub (k:=k+10) (by omega) (Rf (Kj _ _)) ((Ql h).mono (by omega)) ?_
  rw [Z8]
  have h1:Bd (k+9) (T0 c l i v t b).toNat:=by
   unfold T0
   rw [Z8]
   have:=Agr (j:=1) (k:=k) (by omega) hv (Akd (c:=c) (b:=b) (i:=i) (n:=v.length) h) hl
   exact (Bd.mul (by omega) ht this).mono (by omega)
  exact Bd.mul (j:=k+9) (k:=1) (by omega) h1 (Aat hv _)
 ·exact (Ql h).mono (by omega)
theorem Y9 {k:Nat} {r c:Nat} {i j t:Int} {l v:List Int} (hk:k+11≤1000) (h:Bl k l) (hv:Bl 1 v) (hl:v.length≤7) (ht:Bd 5 t.toNat):Bl (k+11) (F0 r c l i j v t):=Sp fun _ _=>Ai9 hk h hv hl ht
theorem Aov {k:Nat} {r c j:Nat} {l:List Int} (hk:k+11≤1000) (h:Bl k l) (al:Af l=true) (hr:r≤7) (he:(Bw (En r c l j)).2.2.2=0):Bl (k+11) (P7 r c l j)∧Bl 1 (Bw (En r c l j)).1∧Bd 5 (Bw (En r c l j)).2.1.toNat∧(Bw (En r c l j)).1.length≤7:=by
 have hlen:(En r c l j).length≤7:=by unfold En; rw [Ol]; omega
 obtain ⟨m1,m2,m3⟩:=Aoy (by omega) (show Bl k (En r c l j) from Akd h) (Qo al) hlen he
 have ml:=R8 he
 refine ⟨?_,m1,m2,by omega⟩
 unfold P7 Nv
 refine Sp fun a b=>?_
 split
 ·split
  ·exact m3.mono (by omega)
  ·exact Uy _
 ·exact Ql (Y9 hk h m1 (by omega) m2)
def MB (ms:List (List Int × Int)):Prop:=∀ m∈ms,Bl 1 m.1∧Bd 5 m.2.toNat∧m.1.length≤7
theorem Acz {r c:Nat} (hr:r≤7):∀ (n j k:Nat) (l:List Int) (x:List Int × List (List Int × Int)),Bl k l→Af l=true→k+11*n≤1000→Kb r c n j l=some x→Bl (k+11*n) x.1∧MB x.2∧x.2.length=n
 | 0,j,k,l,x,hl,_,_,h=>by
   cases h
   exact ⟨hl,(fun m hm=>by cases hm),rfl⟩
 | n+1,j,k,l,x,hl,al,hk,h=>by
   unfold Kb at h
   by_cases h1:(Bw (En r c l j)).2.2.2=0
   ·rw [Axq h1,Option.map_eq_some_iff] at h
    obtain ⟨y,hy,rfl⟩:=h
    obtain ⟨b1,b2,b3,b4⟩:=Aov (by omega) hl al hr h1
    obtain ⟨a1,a2,a3⟩:=Acz hr n (j+1) (k+11) _ y b1 (Va al j) (by omega) hy
    refine ⟨a1.mono (by omega),fun m hm=>?_,by rw [List.length_cons,a3]⟩
    rcases List.mem_cons.1 hm with rfl | hm
    ·exact ⟨b2,b3,b4⟩
    ·exact a2 m hm
   ·rw [Axp h1] at h; cases h
theorem Ac7 {n:Nat}:∀ (ms:List (List Int × Int)) (j k:Nat) (q:List Int),MB ms→Bl k q→k+11*ms.length≤1000→Bl (k+11*ms.length) (I7 n j ms q)
 | [],_,_,_,_,h,_=>h
 | m::ms,j,k,q,hm,h,hk=>by
   simp only [List.length_cons] at hk ⊢
   obtain ⟨m1,m2,m3⟩:=hm m Ayi
   have ih:=Ac7 (n:=n) ms (j+1) k q (fun w hw=>hm w (Ax8 _ hw)) h (by omega)
   unfold I7
   exact (Y9 (by omega) ih m1 m3 m2).mono (by omega)
theorem Apt (n:Nat):Bl 0 (Ob n):=Sp fun i k=>by
 unfold Sk
 split
 ·exact Akt 0
 ·exact Uy 0
theorem Asg {r c:Nat} {l:List Int} (hr:r≤6) (h:Bl 30 l) (al:Af l=true):Bl 85 (J9 r c l)∧Bl 55 (Oa r c l):=by
 unfold J9 Oa
 cases hd:Ht r c l with
 | none=>exact ⟨(fun x hx=>by cases hx),(fun x hx=>by cases hx)⟩
 | some x =>
   have hn:Hk r c≤5:=by unfold Hk; omega
   obtain ⟨h1,h2,h3⟩:=Acz (by omega) (Hk r c) 0 30 l x h al (by omega) hd
   exact ⟨h1.mono (by omega),(Ac7 x.2 0 0 _ h2 (Apt r) (by omega)).mono (by omega)⟩
theorem Lo.Pr {t V a:Nat} {E:Int} (s:Bool) (ht:t≤1000) (h:2^a≤V) (g:-(t:Int)≤a+E) (k3:Ag (Bv s (Bu V E))≠3):Lo t (Bv s (Bu V E)):=by
 have e1:=(Cp 1 (1074-t) (-(t:Int))).1
 rw [Nat.one_mul,show -(t:Int)-((1074-t:Nat):Int)=-1074 by omega] at e1
 have h1:=Agi (b:=1074-t) (E:=E) h (by omega)
 rw [e1] at h1
 have hu:Bu 1 (-(t:Int))≤pw 0:=U6 (u:=0) (by decide) (by decide) (by omega)
 have hi:Bu 1 (-(t:Int))<Eg:=Ax5 hu (Mo (by decide)).2.2.2.2
 obtain ⟨_,d,p1,p2⟩:=W4 false (V:=1) (E:=-(t:Int)) (by decide) (Uj (by decide) (by omega)) hi
 rw [Hq] at p1 p2
 obtain ⟨q3,q4,_⟩:=Al6 hi
 have lo:Lo t (Bu 1 (-(t:Int))):=⟨q3,q4,by rw [p1,Nat.one_mul]; exact Nat.ne_of_gt (B1 d),by rw [p1,p2,Nat.one_mul,Nat.log2_two_pow]; omega⟩
 refine lo.Aeg k3 (Mv s V E) ?_
 have l1:=Hw 1 (-(t:Int))
 have l2:=Hw V E
 unfold Dg Bv
 split<;>omega
theorem Lo.scale {t a:Nat} {n:Int} {u:Nat} (hu:u≤1000) (h:Lo t a) (g:(t:Int)-n≤u) (k3:Ag (Dz a n).1≠3):Lo u (Dz a n).1:=by
 have:=h.k0; have:=h.k3
 rw [H8 h.k4 (by omega)] at k3 ⊢
 exact .Pr _ hu (Nat.log2_self_le h.m0) (by have:=h.log; omega) k3
def TL (t:Nat) (l:List Int):Prop:=∀ x∈l,Av x≠0→Lo t x.toNat
theorem Aox {t:Nat} {x:List Int} (ht:t≤1000) (hx:TL t x) (hl:x.length≤7) (he:(Bw x).2.2.2=0) (h0:Av (Bw x).2.2.1≠0):Lo t (Bw x).2.2.1.toNat:=by
 unfold Bw at he h0 ⊢
 by_cases h1:x.length=0∨64<x.length
 ·rw [Axq h1] at he; exact absurd he (by decide)
 rw [Axp h1] at he h0 ⊢
 by_cases hf':¬ (Da x=true)
 ·rw [Axp hf'] at he; exact absurd he (by decide)
 have hf:=Classical.not_not.1 hf'
 rw [Axq hf] at he h0 ⊢
 unfold Aia at he h0 ⊢
 by_cases h3:F7 (x.drop 1)=true
 ·rw [Axq h3] at h0 ⊢
  dsimp only at h0 ⊢
  refine hx _ ?_ h0
  rw [Axd,Axk (by omega)]; exact List.getElem_mem (by omega)
 ·rw [Axp h3] at he h0 ⊢
  by_cases h4:Cq (Gy x)=true
  ·rw [Axq h4] at h0 ⊢
   dsimp only at h0 ⊢
   have hs:=Y0 h3
   obtain ⟨m1,m2,m3,m4⟩:=Ak9 hf hl hs
   obtain ⟨z,hz,k0,e⟩:=Vm hf hs
   have ee:Bi (A6 x)=H4 z.toNat:=by unfold Bi; rw [e,Vj z.toNat]; rfl
   have lz:=hx z hz (fun k=>k0 (by unfold Av at k; omega))
   have x1:=(Si lz.k3 lz.k4 k0).1
   have x2:=lz.log
   have b3:=(W1 h4).1
   unfold Gy at b3 ⊢
   rw [G1] at b3 ⊢
   exact m2.scale ht (by omega) b3
  ·rw [Axp h4] at he; exact absurd he (by decide)
theorem Ab3 {r c j:Nat} {l:List Int} (hj:0<j) (hr:0<r) (hc:0<c):Di (c:Int) (P7 r c l j) 0 0=Di (c:Int) l 0 0:=by
 unfold P7 Nv
 have e:=Pz (r:=r) (c:=c) (i:=0) (k:=0) (f:=fun a b=>if b=j∧j≤a then (if a=j then (Bw (En r c l j)).2.2.1 else 0) else Di (c:Int) (F0 r c l (j:Int) (j:Int) (Bw (En r c l j)).1 (Bw (En r c l j)).2.1) (a:Int) (b:Int)) hr hc
 refine Eq.trans e ?_
 rw [Axp (by omega)]
 unfold F0
 refine (Pz (r:=r) (c:=c) (i:=0) (k:=0) hr hc).trans ?_
 unfold Li
 rw [Axp (by omega)]
 rfl
theorem Sm {r c:Nat} (hr:0<r) (hc:0<c):∀ (n j:Nat) (l:List Int) (x:List Int × List (List Int × Int)),0<j→Kb r c n j l=some x→Di (c:Int) x.1 0 0=Di (c:Int) l 0 0
 | 0,_,_,_,_,h=>by cases h; rfl
 | n+1,j,l,x,hj,h=>by
   unfold Kb at h
   by_cases h1:(Bw (En r c l j)).2.2.2=0
   ·rw [Axq h1,Option.map_eq_some_iff] at h
    obtain ⟨y,hy,rfl⟩:=h
    exact (Sm hr hc n (j+1) _ y (by omega) hy).trans (Ab3 hj hr hc)
   ·rw [Axp h1] at h; cases h
theorem at_mem {c:Int} {i j:Int} {l:List Int} (h:Av (Di c l i j)≠0):Di c l i j∈l:=by
 unfold Di at h ⊢
 by_cases hj:(i*c+j).toNat<l.length
 ·rw [Axd,Axk hj]; exact List.getElem_mem hj
 ·exfalso
  rw [Axd,Ayl (by omega)] at h
  exact h (by decide)
theorem Arx {t:Nat} {c b i:Int} {n:Nat} {l:List Int} (h:TL t l):TL t (Ds c l b i n):=fun x hx k=>by
 obtain ⟨j,_,rfl⟩:=List.mem_map.1 hx
 exact h _ (at_mem k) k
theorem Ae2 {r c t:Nat} {l:List Int} (ht:t≤1000) (hr:0<r) (hc:0<c) (r7:r≤7) (h:TL t l) (h0:Av (Di (c:Int) (J9 r c l) 0 0)≠0):Lo t (Di (c:Int) (J9 r c l) 0 0).toNat:=by
 unfold J9 at h0 ⊢
 cases hd:Ht r c l with
 | none=>rw [hd] at h0; exact absurd (at_mem h0) (fun h=>by cases h)
 | some x =>
   rw [hd] at h0
   dsimp only at h0 ⊢
   unfold Ht at hd
   cases hn:Hk r c with
   | zero =>
     rw [hn] at hd
     cases hd
     exact h _ (at_mem h0) h0
   | succ n =>
     rw [hn] at hd
     unfold Kb at hd
     by_cases h1:(Bw (En r c l 0)).2.2.2=0
     ·rw [Axq h1,Option.map_eq_some_iff] at hd
      obtain ⟨y,hy,rfl⟩:=hd
      have e1:=Sm hr hc n 1 _ y (by decide) hy
      have e2:Di (c:Int) (P7 r c l 0) 0 0=(Bw (En r c l 0)).2.2.1:=by
       unfold P7 Nv
       refine (Pz (r:=r) (c:=c) (i:=0) (k:=0) hr hc).trans ?_
       rw [Axq ⟨rfl,Axx _⟩,Axq rfl]
      have e3:Di (c:Int) y.1 0 0=(Bw (En r c l 0)).2.2.1:=e1.trans e2
      dsimp only at h0 ⊢
      rw [e3] at h0 ⊢
      refine Aox ht (Arx h) ?_ h1 h0
      unfold En; rw [Ol]; omega
     ·rw [Axp h1] at hd; cases hd
theorem Apz {c n:Nat} {l:List Int} {t:Nat} (ht:t≤900) (fl:Da l=true) (hn:0<n) (h0:Lo t (Di (c:Int) l 0 0).toNat) (hd:Agm (Fx (c:Int) l n)=false):∀ i,i<n→Lo (t+40) (Di (c:Int) l (i:Int) (i:Int)).toNat:=by
 intro i hi
 have fin_a:∀ i:Nat,Ag (Di (c:Int) l (i:Int) (i:Int)).toNat≠3∧Ag (Di (c:Int) l (i:Int) (i:Int)).toNat≠4:=fun i=>by
  by_cases k:Av (Di (c:Int) l (i:Int) (i:Int))=0
  ·unfold Av at k; omega
  ·exact W1 (Nq fl _ (at_mem k))
 have hdf:Da (Fx (c:Int) l n)=true:=List.all_eq_true.2 fun x hx=>by
  obtain ⟨j,_,rfl⟩:=List.mem_map.1 hx
  have k:=fin_a j
  show Gg (toNat ((Dg _:Nat):Int))=true
  rw [Aw5,Ji,Ys]
  simp [k.1,k.2]
 obtain ⟨b3,b4,ba,hb⟩:=Aax hdf
 have hmem:∀ i:Nat,i<n→Tp (Di (c:Int) l (i:Int) (i:Int))∈Fx (c:Int) l n:=fun i hi=>List.mem_map.2 ⟨i,List.mem_range.2 hi,rfl⟩
 have em:∀ x:Int,Dg (Tp x).toNat=Dg x.toNat:=fun x=>by
  show Dg (toNat ((Dg _:Nat):Int))=_
  rw [Aw5]; unfold Dg; omega
 have lB:Lo t (A6 (Fx (c:Int) l n)).toNat:=by
  refine h0.Aeg b3 b4 ?_
  have:=hb _ (hmem 0 hn)
  rw [em] at this
  exact this
 have hs:=List.any_eq_false.1 hd _ (hmem i hi)
 simp only [Bool.not_eq_true',Bool.not_eq_false,Axa,Bool.not_eq_true,Axm] at hs
 have hs:Xm (B4 (A6 (Fx (c:Int) l n)) (-40)) (Tp (Di (c:Int) l (i:Int) (i:Int)))<0:=by
  rcases Int.lt_or_le (Xm (B4 (A6 (Fx (c:Int) l n)) (-40)) (Tp (Di (c:Int) l (i:Int) (i:Int)))) 0 with h | h
  ·exact h
  ·exact absurd h (by simpa using hs)
 have kb:Bd 1023 (A6 (Fx (c:Int) l n)).toNat∨True:=.inr trivial
 have hsc:=G1 (A6 (Fx (c:Int) l n)) (-40)
 have nB:B5 (A6 (Fx (c:Int) l n)).toNat=false:=by
  unfold B5
  refine Aw8 ?_
  unfold Dg at ba; omega
 have lS:Lo (t+40) (B4 (A6 (Fx (c:Int) l n)) (-40)).toNat:=by
  rw [hsc]
  refine lB.scale (by omega) (by omega) ?_
  rw [H8 b4 (by have:=lB.k0; omega)]
  intro k
  have k2:=Nm k
  have l2:=Hw (Am (A6 (Fx (c:Int) l n)).toNat) (As (A6 (Fx (c:Int) l n)).toNat+-40)
  rw [nB,Hq,Axg l2] at k2
  have r1:=Tc (b:=(A6 (Fx (c:Int) l n)).toNat) b4
  have r2:=(Cp (Am (A6 (Fx (c:Int) l n)).toNat) 40 (As (A6 (Fx (c:Int) l n)).toNat)).1
  have r3:=E0 (V:=Am (A6 (Fx (c:Int) l n)).toNat) (W:=Am (A6 (Fx (c:Int) l n)).toNat*2^40) (E:=As (A6 (Fx (c:Int) l n)).toNat-(40:Nat)) (Nat.le_mul_of_pos_right _ (by decide))
  rw [r2,r1] at r3
  have k3:=Sc b3 b4
  have:Bu (Am (A6 (Fx (c:Int) l n)).toNat) (As (A6 (Fx (c:Int) l n)).toNat-(40:Nat))=Eg:=k2
  omega
 have ki:=fin_a i
 refine lS.Aeg ki.1 ki.2 ?_
 unfold Xm Aom at hs
 split at hs
 ·omega
 ·rename_i hk
  split at hs
  ·rename_i hlt
   have e2:(Tp (Di (c:Int) l (i:Int) (i:Int))).toNat=Dg (Di (c:Int) l (i:Int) (i:Int)).toNat:=Aw5 _
   rw [e2] at hlt
   have n2:B5 (Dg (Di (c:Int) l (i:Int) (i:Int)).toNat)=false:=Aw8 (by unfold Dg; omega)
   have n1:B5 (B4 (A6 (Fx (c:Int) l n)) (-40)).toNat=false:=by rw [hsc,X9 b4,nB]
   unfold Hg at hlt
   rw [n1,n2] at hlt
   have hlt:(((B4 (A6 (Fx (c:Int) l n)) (-40)).toNat%2^63:Nat):Int)<((Dg (Di (c:Int) l (i:Int) (i:Int)).toNat%2^63:Nat):Int):=hlt
   unfold Dg at hlt ⊢
   omega
  ·split at hs<;>omega
theorem Agg {c:Int} {l:List Int} {i:Int} {p:Nat} (hl:Bl 85 l) (hp:85+p≤1000):∀ (xs:List Int) (s j:Int) (t:Nat),Bl p xs→Bm t (85+p) s.toNat→0<t→t+xs.length≤1000→Bm (t+xs.length) (85+p) (Mt c l i s j xs).toNat
 | [],s,j,t,_,hs,_,_=>hs
 | x::xs,s,j,t,hx,hs,h0,ht=>by
   simp only [List.length_cons] at ht ⊢
   have h1:Bd (85+p) (Eh (Di c l i j) x).toNat:=by
    rw [Z8]
    exact Bd.mul (by omega) (Ql hl) (hx x Ayi)
   have h2:Bm (t+1) (85+p) (Dl s (Eh (Di c l i j) x)).toNat:=by
    rw [Afv]
    exact Bm.add (by omega) (by omega) hp hs (Bm.minus (Rf (Kj _ _)) h1.bm)
   have:=Agg (c:=c) (i:=i) hl hp xs _ (j+1) (t+1) (fun z hz=>hx z (Ax8 _ hz)) h2 (by omega) (by omega)
   rw [show t+(xs.length+1)=t+1+xs.length by omega]
   exact this
theorem Aqu {c:Int} {l:List Int} {b:Nat→Int} {n:Nat} (hl:Bl 85 l) (hb:∀ i,Bd 30 (b i).toNat) (hd:∀ i,i<n→Lo 70 (Di c l (i:Int) (i:Int)).toNat):∀ k,k≤n→k≤6→Bl (160*k-60) (Xi c l b k)
 | 0,_,_=>fun x hx=>by cases hx
 | k+1,hk,h6=>by
   have ih:=Aqu hl hb hd k (by omega) (by omega)
   have hlen:=G8 c l b k
   intro x hx
   unfold Xi at hx
   rcases List.mem_append.1 hx with hx | hx
   ·exact (ih x hx).mono (by omega)
   ·rw [List.mem_singleton.1 hx,Aao]
    cases k with
    | zero =>
      have h1:=Bd.div (j:=30) (t:=70) (by decide) (hb 0) (hd 0 (by omega))
      exact h1.mono (by omega)
    | succ k =>
      have h1:=Agg (c:=c) (i:=((k+1:Nat):Int)) hl (p:=160*(k+1)-60) (by omega) (Xi c l b (k+1)) (b (k+1)) 0 1 ih ((hb (k+1)).mono (by omega)).bm (by decide) (by omega)
      have h2:=h1.bd (j:=3) (by omega)
      exact (Bd.div (by omega) h2 (hd (k+1) (by omega))).mono (by omega)
theorem Asb {c q:Int} {l m:List Int} {n w:Nat} (hl:Bl 85 l) (hm:Bl 30 m) (hd:∀ i,i<n→Lo 70 (Di c l (i:Int) (i:Int)).toNat) (h6:n≤6):Bl 900 (loG c l q m n w) :=
 Sp fun i j=>Aat ((Aqu (n:=n) hl (fun _=>Ql hm) hd n (Axx n) h6).mono (by omega)) i
theorem An4 {k:Nat} {l:List Int} (h:A9 l (k:Int)=true):TL k l:=fun x hx k0=>by
 have hx:=(List.all_eq_true.1 h) x hx
 unfold X4 at hx
 rw [Axe,Bool.or_eq_true,Axe,Axa,Axa,Axa] at hx
 obtain ⟨hf,hx⟩:=hx
 have kk:=W1 hf
 have kn:Ag x.toNat≠0:=fun e=>k0 (by unfold Av; omega)
 rcases hx with hx | ⟨hx,_⟩
 ·exact absurd hx k0
 ·unfold Bi H4 at hx
  rw [Axq ⟨hf,kn⟩] at hx
  exact ⟨kk.1,kk.2,fun e=>kn ((Dp kk.1 kk.2).1 e),hx⟩
end Go.Rnd
namespace Go.Proofs.S1
open Go Go.Den Go.Rnd Go.Proofs
theorem Aoe {c i:Int} {l:List Int} {k:Nat} (h:Bl k l):Bl k (Jy c l i):=fun x hx=>h x (List.mem_of_mem_take (List.mem_of_mem_drop hx))
theorem Aod {R K i:Nat} {l:List Int} (hl:l.length=R*K) (k6:K≤6) (hi:i<R):(Jy (K:Int) l (i:Int)).length≤7:=by
 rw [Akg hl hi,Ax9,Ax6]; omega
theorem Ak7 {R K C j k:Nat} {x y:MX} (hjk:j+k≤1000) (h:Hj R K x) (g:Hj K C y) (bx:Bl j x.2.2.1) (by_:Bl k y.2.2.1):Bl (j+k+3) (mulM x y).2.2.1:=by
 have hr:=h.right
 have hg:=g.right
 obtain ⟨l,rfl,r6,c6,hl,al⟩:=h
 obtain ⟨m,rfl,p6,q6,hm,am⟩:=g
 unfold mulM Ek
 rw [hr,hg,Aw9,Axq rfl,Axq rfl]
 intro z hz
 unfold Cd at hz
 obtain ⟨i,hi,rfl⟩:=List.mem_map.1 hz
 dsimp only
 refine Agr hjk (Aoe bx) (Afg fun _=>Ql by_) ?_
 have hi:=List.mem_range.1 hi
 rw [Aw5,Aw5] at hi
 rw [Aw5]
 have hC:0<C:=by
  rcases Nat.eq_zero_or_pos C with h | h
  ·rw [h,Nat.mul_zero] at hi; omega
  ·exact h
 exact Aod hl c6 (Nat.div_lt_of_lt_mul (by rw [Axr]; exact hi))
theorem Aft {R C k:Nat} {x:MX} (h:Hj R C x) (b:Bl k x.2.2.1):Bl k (Lp x).2.2.1:=by
 unfold Lp Cb
 rw [Axq h.right]
 dsimp only
 exact Sp fun _ _=>Ql b
theorem Anq {R C k:Nat} {x:MX} (h:Hj R C x) (b:TL k x.2.2.1):TL k (Lp x).2.2.1:=by
 unfold Lp Cb
 rw [Axq h.right]
 intro z hz k0
 unfold Cd at hz
 obtain ⟨j,_,rfl⟩:=List.mem_map.1 hz
 exact b _ (at_mem k0) k0
theorem Aj2 {R C k:Nat} {x y:MX} (hk:k+1≤1023) (h:Hj R C x) (g:Hj R C y) (bx:Bl k x.2.2.1) (by_:Bl k y.2.2.1):FM (Adv x y):=by
 have hr:=h.right
 have hg:=g.right
 obtain ⟨l,rfl,r6,c6,hl,al⟩:=h
 obtain ⟨m,rfl,p6,q6,hm,am⟩:=g
 unfold Adv Im
 rw [hr,hg,Aw9,Axq rfl,Axq ⟨rfl,rfl⟩]
 refine .of (Acr fun i k=>?_)
 show Gg (toNat ((Ag8 _ _).1:Int))=true
 rw [Aw5]
 exact (Bd.sub hk (Rf (Ha am)) (Ql bx) (Ql by_)).fin
theorem Apm {n:Nat} {m h:List Int} (hB:Hj n n ((n:Int),(n:Int),m,0)) (hD:Hj n 1 ((n:Int),1,h,0)) (bB:Bl 30 m) (tB:TL 30 m) (bD:Bl 30 h) (fB:Da m=true) (fD:Da h=true) (e:(hY (n:Int) (n:Int) m (n:Int) 1 h).2.2.2=0) :
 ∃ Y,hY (n:Int) (n:Int) m (n:Int) 1 h=((n:Int),1,Y,0)∧Hj n 1 ((n:Int),1,Y,0)∧Da Y=true∧Bl 900 Y∧Hj n n (hQ (n:Int) (n:Int) m)∧FM (hQ (n:Int) (n:Int) m)∧Bl 55 (hQ (n:Int) (n:Int) m).2.2.1:=by
 have n6:=hB.r6
 have hT:=hB.Ans
 have kT:Lp ((n:Int),(n:Int),m,0)=((n:Int),(n:Int),Sz (n:Int) (n:Int) m,0):=by
  obtain ⟨T,eT,_⟩:=hT
  unfold Sz
  unfold Lp at eT ⊢
  dsimp only at eT ⊢
  rw [eT]
 have bT:Bl 30 (Sz (n:Int) (n:Int) m):=Aft hB bB
 have tT:TL 30 (Sz (n:Int) (n:Int) m):=Anq hB tB
 rw [kT] at hT
 have aT:Af (Sz (n:Int) (n:Int) m)=true:=hT.inn
 unfold hQ
 unfold hY at e ⊢
 by_cases k1':¬ (Ey (n:Int) (n:Int) (Sz (n:Int) (n:Int) m)=0)
 ·rw [Axq k1'] at e; exact absurd e k1'
 have k1:=Classical.not_not.1 k1'
 have hne:¬ (Ey (n:Int) (n:Int) (Sz (n:Int) (n:Int) m)≠0):=fun h=>h k1
 rw [Axp hne] at e ⊢
 rw [Axp hne]
 by_cases k2:(I6 (Ns (n:Int) (n:Int) m).1 (Ns (n:Int) (n:Int) m).2.1 (Ns (n:Int) (n:Int) m).2.2.1).1=true
 ·rw [Axq k2] at e; exact absurd e (by decide)
 rw [Axp k2] at e ⊢
 rw [Axp k2]
 obtain ⟨fq,fr,fmq,fmr⟩:=hT.fac k1
 dsimp only at fq fr fmq fmr
 obtain ⟨q1,g1⟩:=Pn k1
 obtain ⟨b85,b55⟩:=Asg (c:=n) n6 bT aT
 have eS:Ns (n:Int) (n:Int) m=Lp (rX (n:Int) (n:Int) (Sz (n:Int) (n:Int) m)):=by
  unfold Ns eqR
  rw [Abw fr]
 have eR:(rX (n:Int) (n:Int) (Sz (n:Int) (n:Int) m)).2.2.1=J9 n n (Sz (n:Int) (n:Int) m):=by
  rw [g1,Aw5]
 have eQ:(qX (n:Int) (n:Int) (Sz (n:Int) (n:Int) m)).2.2.1=Oa n n (Sz (n:Int) (n:Int) m):=by
  rw [q1,Aw5]
 have hS:=fr.Ans
 have fS:=FM.Ans fr fmr
 have bS:Bl 85 (Lp (rX (n:Int) (n:Int) (Sz (n:Int) (n:Int) m))).2.2.1:=Aft fr (by rw [eR]; exact b85)
 rw [← eS] at hS fS bS
 obtain ⟨lM,lF⟩:=hS.lo hD e
 have corner:0<n→Di (n:Int) (Ns (n:Int) (n:Int) m).2.2.1 0 0=Di (n:Int) (J9 n n (Sz (n:Int) (n:Int) m)) 0 0:=fun hn=>by
  rw [eS]
  have hr:=fr.right
  obtain ⟨L,eL,_⟩:=fr
  rw [← eR]
  rw [eL] at hr ⊢
  unfold Lp Cb
  dsimp only at hr ⊢
  rw [Axq hr]
  dsimp only
  rw [Aw5]
  exact Pz (r:=n) (c:=n) (i:=0) (k:=0) (f:=fun i k:Nat=>Di (n:Int) L (k:Int) (i:Int)) hn hn
 obtain ⟨S,eS2,_,_,hSl,aS⟩:=hS
 rw [eS2] at e k2 fS bS lM lF corner ⊢
 dsimp only at e k2 bS corner
 have chS:Bo (n:Int) (n:Int) S=0:=Afc (K8 n6 n6 hSl) fS
 have hk2:Agm (Fx (n:Int) S n)=false:=by
  rw [Aiv chS] at k2
  unfold Aah at k2
  rw [Aw5,Nat.min_self] at k2
  exact Bool.eq_false_iff.2 k2
 have eLo:=e
 unfold Uh at eLo
 by_cases kt':¬ (Nw (n:Int) (n:Int) S (n:Int) 1 h=0)
 ·rw [Axq kt'] at eLo; exact absurd eLo kt'
 have kt:=Classical.not_not.1 kt'
 have nd:R5 (n:Int) S n=false:=by
  unfold Nw at kt
  rw [Axp (fun k=>k chS),Axp (fun k=>k (hD.chk fD)),Axp (by omega),Aw5] at kt
  cases hh:R5 (n:Int) S n
  ·rfl
  ·rw [hh] at kt; exact absurd kt (by decide)
 have dg:∀ i,i<n→Lo 70 (Di (n:Int) S (i:Int) (i:Int)).toNat:=fun i hi=>by
  have hn:0<n:=by omega
  have k0:=Aeh nd hn
  have c0:Di (n:Int) S ((0:Nat):Int) ((0:Nat):Int)=Di (n:Int) S 0 0:=rfl
  rw [c0,corner hn] at k0
  have l0:=Ae2 (t:=30) (by decide) hn hn (by omega) tT k0
  rw [← corner hn] at l0
  exact Apz (t:=30) (by decide) fS hn l0 hk2 i hi
 have bG:Bl 900 (loG (n:Int) S 1 h n 1):=Asb bS bD dg n6
 obtain ⟨Y,eY,_,_,hYl,aY⟩:=lM
 have eY2:Uh (n:Int) (n:Int) S (n:Int) 1 h=((n:Int),1,Y,0):=eY
 have lF2:Da Y=true:=by
  have:Da (Uh (n:Int) (n:Int) S (n:Int) 1 h).2.2.1=true:=lF
  rw [eY2] at this; exact this
 have bY:Bl 900 Y:=by
  have e3:=eY2
  unfold Uh Jn at e3
  rw [Axp (fun k=>k kt),Aw5,show toNat 1=1 from rfl,bG.Acs,Axq rfl] at e3
  have:loG (n:Int) S 1 h n 1=Y:=congrArg (fun z:MX=>z.2.2.1) e3
  rw [← this]
  exact bG
 exact ⟨Y,eY2,.mk n6 (by decide) hYl aY,lF2,bY,fq,fmq,by rw [eQ]; exact b55⟩
theorem Aie {R n:Nat} {l m g h:List Int} (hA:Hj R n ((R:Int),(n:Int),l,0)) (hB:Hj n n ((n:Int),(n:Int),m,0)) (hC:Hj R 1 ((R:Int),1,g,0)) (hD:Hj n 1 ((n:Int),1,h,0)) (bA:Bl 30 l) (bB:Bl 30 m) (tB:TL 30 m) (bC:Bl 30 g) (bD:Bl 30 h) (fA:Da l=true) (fB:Da m=true) (fC:Da g=true) (fD:Da h=true) :
 C4 (R:Int) (n:Int) l (n:Int) (n:Int) m (R:Int) 1 g (n:Int) 1 h=if (hY (n:Int) (n:Int) m (n:Int) 1 h).2.2.2≠0 then Ij (hY (n:Int) (n:Int) m (n:Int) 1 h).2.2.2 else Xr (mulM (hQ (n:Int) (n:Int) m) (hY (n:Int) (n:Int) m (n:Int) 1 h)):=by
 have kt:D5 (R:Int) (n:Int) l (n:Int) (n:Int) m (R:Int) 1 g (n:Int) 1 h=0:=by
  unfold D5
  rw [Axp (fun k=>k (hA.chk fA)),Axp (fun k=>k (hB.chk fB)),Axp (fun k=>k (hC.chk fC)),Axp (fun k=>k (hD.chk fD)),Axp (by omega)]
 unfold C4
 rw [Axp (fun k=>k kt)]
 by_cases e':¬ ((hY (n:Int) (n:Int) m (n:Int) 1 h).2.2.2=0)
 ·rw [Axq e',Axq e']
 have e:=Classical.not_not.1 e'
 obtain ⟨Y,eY,hY0,fY,bY,hQm,fQ,bQ⟩:=Apm hB hD bB tB bD fB fD e
 rw [Axp (fun k=>k e),Axp (fun k=>k e),eY]
 have hW:=hA.mul hQm
 have bW:Bl 88 (mulM ((R:Int),(n:Int),l,0) (hQ (n:Int) (n:Int) m)).2.2.1:=Ak7 (j:=30) (k:=55) (by decide) hA hQm bA bQ
 have fW:FM (mulM ((R:Int),(n:Int),l,0) (hQ (n:Int) (n:Int) m)):=bW.Acs
 have eW:Auu (R:Int) (n:Int) l (n:Int) (n:Int) m=mulM ((R:Int),(n:Int),l,0) (hQ (n:Int) (n:Int) m):=Al7 hW fW
 rw [eW]
 generalize mulM ((R:Int),(n:Int),l,0) (hQ (n:Int) (n:Int) m)=W at hW bW fW
 have eD:Aeo W ((n:Int),1,Y,0) (R:Int) (n:Int)=mulM W ((n:Int),1,Y,0):=by
  unfold Aeo
  rw [Abw hW]
 have hP:=hW.mul hY0
 have bP:Bl 991 (mulM W ((n:Int),1,Y,0)).2.2.1:=Ak7 (j:=88) (k:=900) (by decide) hW hY0 bW bY
 have hF:=hC.sub hP
 have fF:FM (Adv ((R:Int),1,g,0) (mulM W ((n:Int),1,Y,0))):=Aj2 (k:=991) (by decide) hC hP (fun x hx=>(bC x hx).mono (by decide)) bP
 have eF:Ao4 (R:Int) 1 g (mulM W ((n:Int),1,Y,0))=Adv ((R:Int),1,g,0) (mulM W ((n:Int),1,Y,0)):=Al7 hF fF
 have ez:Ts (Hz W 0 (n:Int) (R:Int) ((n:Int)-(n:Int))) (Adv ((R:Int),1,g,0) (mulM W ((n:Int),1,Y,0)))=(0,1,[],0):=by
  rw [Ahx hW]
  exact Aet hF fF
 unfold Ab9
 rw [Axp (fun k=>k hW.err),eD,eF]
 unfold Agd
 rw [Axp (fun k=>k hF.err),ez]
 unfold Yn
 rw [Axp (fun k=>k rfl),Ady hY0,Axp (fun k=>k rfl)]
set_option maxRecDepth 100000
namespace EqTame
def Bh.Cs.hint:Nat→Option A5
 | 0=>some { keep:=[0,1,5],objs:=[],boxes:=[] }
 | _=>none
def Bh.Cs.A8:List (Nat × Entry):=[(131,Ax.Finite.spec),(62,Ax.Kind.spec),(132,Gq.I9.spec)]
def Bh.Cs.E:Env:=Ba (A7 Bh.Cs.A8) (fun _=>false) Bh.Cs.hint (fun _=>none)
section
variable (N M:Nat) (x:List Int) (k p5:Int)
def Bh.Cs.L0:Option DV:=Cc Bh.Cs.E N f53 (Ap f53) [1,0,1,0] [] M ⟨He 43 [(0,.ints .arg .u64 x),(1,.int .i64 k),(5,.int .i64 p5)],[]⟩
theorem Bh.Cs.Aw:Bh.Cs.L0 N (M+1) x k p5=bif (A0 p5 (length x:Int)) then bif ((decide (0≤p5))&&(decide (p5<(length x:Int)))) then bif (Ah (getD x (toNat p5) 0)) then bif (!(Cq (getD x (toNat p5) 0))) then some (.bool false) else bif ((decide (0≤p5))&&(decide (p5<(length x:Int)))) then bif (N8 (getD x (toNat p5) 0)) then bif ((!((Av (getD x (toNat p5) 0)) !=(0:Int)))||((decide (0≤p5))&&(decide (p5<(length x:Int))))) then bif ((!((Av (getD x (toNat p5) 0)) !=(0:Int)))||(Ah (getD x (toNat p5) 0))) then bif ((!(((Av (getD x (toNat p5) 0)) !=(0:Int))&&(!(A0 (Bi (getD x (toNat p5) 0)) (Ab ((0:Int)-k))))))||((decide (0≤p5))&&(decide (p5<(length x:Int))))) then bif ((!(((Av (getD x (toNat p5) 0)) !=(0:Int))&&(!(A0 (Bi (getD x (toNat p5) 0)) (Ab ((0:Int)-k))))))||(Ah (getD x (toNat p5) 0))) then bif (((Av (getD x (toNat p5) 0)) !=(0:Int))&&((A0 (Bi (getD x (toNat p5) 0)) (Ab ((0:Int)-k)))||(Ej k (Bi (getD x (toNat p5) 0))))) then some (.bool false) else Bh.Cs.L0 N M x k (Ab (p5+1)) else none else none else none else none else none else none else none else none else some (.bool true) :=
 Eq.trans (by kernel_rfl)
 (Ev (Ev (Ev (Ev rfl (Ev (Ev (An (N4 ((Av (getD x (toNat p5) 0)) !=(0:Int))) (An (N4 ((Av (getD x (toNat p5) 0)) !=(0:Int))) (Dw (Ato ((Av (getD x (toNat p5) 0)) !=(0:Int)) (decide (0≤p5)) (decide (p5<(length x:Int)))) (An (Na ((Av (getD x (toNat p5) 0)) !=(0:Int))) (Dw (Arf ((Av (getD x (toNat p5) 0)) !=(0:Int)) (Ah (getD x (toNat p5) 0))) (An (N4 ((Av (getD x (toNat p5) 0)) !=(0:Int))) (An (Na ((Av (getD x (toNat p5) 0)) !=(0:Int))) (An (Ads ((Av (getD x (toNat p5) 0)) !=(0:Int))) (An (Na ((Av (getD x (toNat p5) 0)) !=(0:Int))) (An (Ajz ((Av (getD x (toNat p5) 0)) !=(0:Int)) (A0 (Bi (getD x (toNat p5) 0)) (Ab ((0:Int)-k)))) (An (Ajz ((Av (getD x (toNat p5) 0)) !=(0:Int)) (A0 (Bi (getD x (toNat p5) 0)) (Ab ((0:Int)-k)))) (Dw (Auf ((Av (getD x (toNat p5) 0)) !=(0:Int)) (A0 (Bi (getD x (toNat p5) 0)) (Ab ((0:Int)-k))) (decide (0≤p5)) (decide (p5<(length x:Int)))) (An (At2 ((Av (getD x (toNat p5) 0)) !=(0:Int)) (A0 (Bi (getD x (toNat p5) 0)) (Ab ((0:Int)-k)))) (Dw (Aug ((Av (getD x (toNat p5) 0)) !=(0:Int)) (A0 (Bi (getD x (toNat p5) 0)) (Ab ((0:Int)-k))) (Ah (getD x (toNat p5) 0))) (An (Ajz ((Av (getD x (toNat p5) 0)) !=(0:Int)) (A0 (Bi (getD x (toNat p5) 0)) (Ab ((0:Int)-k)))) (An (At1 ((Av (getD x (toNat p5) 0)) !=(0:Int)) (A0 (Bi (getD x (toNat p5) 0)) (Ab ((0:Int)-k)))) (An (Aui ((Av (getD x (toNat p5) 0)) !=(0:Int)) (A0 (Bi (getD x (toNat p5) 0)) (Ab ((0:Int)-k)))) (An (T6 ((Av (getD x (toNat p5) 0)) !=(0:Int))) (Dw (Auh ((Av (getD x (toNat p5) 0)) !=(0:Int)) (A0 (Bi (getD x (toNat p5) 0)) (Ab ((0:Int)-k))) (Ej k (Bi (getD x (toNat p5) 0)))) rfl rfl))))) rfl)) rfl))))))) rfl)) rfl))) rfl) rfl)) rfl) rfl) rfl)
theorem Bh.Cs.ev:B0 Bh.Cs.E N f53 (Ap f53) [.ints .arg .u64 x,.int .i64 k] =
 Bh.Cs.L0 N N x k 0:=by kernel_rfl
end
abbrev _root_.Go.Proofs.S1.Bh.Cs.Kn:=A4 prog 53 Bh.Cs.spec
theorem Bh.Cs.Ad (hk:Ay prog Bh.Cs.A8) (h:Hyp Bh.Cs.E f53 Bh.Cs.ts Bh.Cs.pre Bh.Cs.out):Bh.Cs.Kn :=
 Al (A1 hk _ _ _) func53 (by kernel_rfl) (by kernel_rfl) h
def C1.Cs.A8:List (Nat × Entry):=[(53,Bh.Cs.spec),(91,Cx.F9.spec)]
def C1.Cs.E:Env:=Ba (A7 C1.Cs.A8) (fun _=>false) (fun _=>none) (fun _=>none)
theorem C1.Cs.ev (N:Nat) (r c:Int) (l:List Int) (k:Int):B0 C1.Cs.E N f39 (Ap f39) [.agg [.int .i64 r,.int .i64 c,.ints .arg .u64 l],.int .i64 k]=bif ((!(Ak r c l))||(Dh l&&Cw (0≤k∧k≤1000))) then some (.bool (bif (Ak r c l) then (A9 l k) else false)) else none :=
 Eq.trans (by kernel_rfl)
 (An (N4 (Ak r c l)) (An (Na (Ak r c l)) (An (N4 (Ak r c l)) (Dw (Are (Ak r c l) (Dh l&&Cw (0≤k∧k≤1000))) (An (T6 (Ak r c l)) rfl) rfl))))
abbrev _root_.Go.Proofs.S1.C1.Cs.Kn:=A4 prog 39 C1.Cs.spec
theorem C1.Cs.Ad (hk:Ay prog C1.Cs.A8) (h:Hyp C1.Cs.E f39 C1.Cs.ts C1.Cs.pre C1.Cs.out):C1.Cs.Kn :=
 Al (A1 hk _ _ _) func39 (by kernel_rfl) (by kernel_rfl) h
end EqTame
open EqTame
theorem Ag7 {k b:Int} (hk:0≤k∧k≤1000):((Av b !=(0:Int))&&((A0 (Bi b) (Ab ((0:Int)-k)))||(Ej k (Bi b))))=!(decide (Av b=0)||(decide (-k≤Bi b)&&decide (Bi b<k))):=by
 rw [Ao (by omega) (by omega),Au,Gu,Axj]
 simp only [Axe,Bool.or_eq_true,Bool.not_eq_true',Bool.or_eq_false_iff,Bool.and_eq_false_iff,Axa,Axm,bne_iff_ne,ne_eq]
 omega
theorem Ag6 (N:Nat) {x:List Int} (ax:Af x=true) (hx:x.length<4611686018427387904) {k:Int} (hk:0≤k∧k≤1000):∀ (t d:List Int) (F:Nat),x=d++t→t.length<F →
 Bh.Cs.L0 N F x k (d.length:Int)=some (.bool (t.all (X4 k))):=by
 intro t
 induction t with
 | nil =>
   intro d F hy hF
   obtain ⟨F,rfl⟩:∃ G,F=G+1:=⟨F-1,by omega⟩
   rw [List.append_nil] at hy
   subst hy
   rw [Bh.Cs.Aw,Au,Aw8 (by omega),Aw7]
   rfl
 | cons b t ih =>
   intro d F hy hF
   obtain ⟨F,rfl⟩:∃ G,F=G+1:=⟨F-1,by omega⟩
   have hl:d.length<x.length:=by rw [hy,Axv,List.length_cons]; omega
   have hb:getD x d.length 0=b:=by rw [hy,Axd,Ayh (Axx _),Nat.sub_self]; rfl
   have ib:Ah b=true:=by rw [← hb]; exact Vp ax hl
   obtain ⟨n,hn,_⟩:=Bt ib
   have nb:N8 b=true:=by rw [hn]; exact Ou n
   rw [Bh.Cs.Aw,Au,Aw4 (show (d.length:Int)<(x.length:Int) by omega),Aw4 (show (0:Int)≤(d.length:Int) by omega),Aw5,hb,ib,nb,Ag7 hk]
   simp only [Aw3,Aw9,Ayf]
   show (bif !Cq b then some (DV.bool false) else _)=some (DV.bool ((Cq b&&(decide (Av b=0)||(decide (-k≤Bi b)&&decide (Bi b<k))))&&t.all (X4 k)))
   cases Cq b with
   | false=>rfl
   | true =>
     rw [Ax2,Aw7,Ayg]
     cases (decide (Av b=0)||(decide (-k≤Bi b)&&decide (Bi b<k))) with
     | false=>rfl
     | true =>
       have:=ih (d++[b]) F (by rw [hy,List.append_assoc]; rfl) (by simp only [List.length_cons] at hF; omega)
       rw [Axv] at this
       rw [Ax2,Aw7,Ayg,Ao (by omega) (by omega)]
       exact this
theorem Bh.Cs.known:Bh.Cs.Kn:=Bh.Cs.Ad (.cons Ax.Finite.known (.cons Ax.Kind.known (.cons Gq.I9.known .nil))) fun x k hp=>by
 obtain ⟨ox,hk⟩:=Ae.1 (show (Dh x&&Cw (0≤k∧k≤1000))=true from hp)
 refine ⟨x.length+1,.bool (A9 x k),[],?_,.bool⟩
 rw [Bh.Cs.ev]
 exact Ag6 (x.length+1) (Za ox) (At.1 ox).1 (At.1 hk) x [] (x.length+1) rfl (by omega)
theorem C1.Cs.known:C1.Cs.Kn:=C1.Cs.Ad (.cons Bh.Cs.known (.cons Cx.F9.known .nil)) fun r c l k hp=>by
 obtain ⟨al,hk⟩:=Ae.1 (show (Af l&&Cw (0≤k∧k≤1000))=true from hp)
 refine ⟨0,.bool (Ak r c l&&A9 l k),[],?_,.bool⟩
 rw [C1.Cs.ev,hk]
 cases hr:Ak r c l with
 | false=>rfl
 | true =>
   rw [Kg al (by have:=Mm hr; omega)]
   rfl
namespace EqLaw20B
def Cy.Cs.A8:List (Nat × Entry):=[(39,C1.Cs.spec)]
def Cy.Cs.E:Env:=Ba (A7 Cy.Cs.A8) (fun _=>false) (fun _=>none) (fun _=>none)
theorem Cy.Cs.ev (N:Nat) (r c:Int) (l:List Int) (p q:Int) (m:List Int) (a b:Int) (g:List Int) (u v:Int) (h:List Int) (k:Int):B0 Cy.Cs.E N f51 (Ap f51) [.agg [.int .i64 r,.int .i64 c,.ints .arg .u64 l,.int .i64 p,.int .i64 q,.ints .arg .u64 m,.int .i64 a,.int .i64 b,.ints .arg .u64 g,.int .i64 u,.int .i64 v,.ints .arg .u64 h],.int .i64 k]=bif (Af l&&Cw (0≤k∧k≤1000)) then bif ((!(Ak r c l&&A9 l k))||(Af m&&Cw (0≤k∧k≤1000))) then bif ((!((Ak r c l&&A9 l k)&&(Ak p q m&&A9 m k)))||(Af g&&Cw (0≤k∧k≤1000))) then bif ((!(((Ak r c l&&A9 l k)&&(Ak p q m&&A9 m k))&&(Ak a b g&&A9 g k)))||(Af h&&Cw (0≤k∧k≤1000))) then some (.bool (bif (bif (bif (Ak r c l&&A9 l k) then (Ak p q m&&A9 m k) else false) then (Ak a b g&&A9 g k) else false) then (Ak u v h&&A9 h k) else false)) else none else none else none else none :=
 Eq.trans (by kernel_rfl)
 (Ev (An (N4 (Ak r c l&&A9 l k)) (An (Na (Ak r c l&&A9 l k)) (An (N4 (Ak r c l&&A9 l k)) (Dw (Are (Ak r c l&&A9 l k) (Af m&&Cw (0≤k∧k≤1000))) (An (T6 (Ak r c l&&A9 l k)) (An (Adp (Ak r c l&&A9 l k) (Ak p q m&&A9 m k)) (An (Abb (Ak r c l&&A9 l k) (Ak p q m&&A9 m k)) (An (Adp (Ak r c l&&A9 l k) (Ak p q m&&A9 m k)) (Dw (Atp (Ak r c l&&A9 l k) (Ak p q m&&A9 m k) (Af g&&Cw (0≤k∧k≤1000))) (An (Ajw (Ak r c l&&A9 l k) (Ak p q m&&A9 m k)) (An (Arh (Ak r c l&&A9 l k) (Ak p q m&&A9 m k) (Ak a b g&&A9 g k)) (An (Ari (Ak r c l&&A9 l k) (Ak p q m&&A9 m k) (Ak a b g&&A9 g k)) (An (Arh (Ak r c l&&A9 l k) (Ak p q m&&A9 m k) (Ak a b g&&A9 g k)) (Dw (Aue (Ak r c l&&A9 l k) (Ak p q m&&A9 m k) (Ak a b g&&A9 g k) (Af h&&Cw (0≤k∧k≤1000))) (An (Atq (Ak r c l&&A9 l k) (Ak p q m&&A9 m k) (Ak a b g&&A9 g k)) rfl) rfl))))) rfl))))) rfl)))) rfl)
abbrev _root_.Go.Proofs.S1.Cy.Cs.Kn:=A4 prog 51 Cy.Cs.spec
theorem Cy.Cs.Ad (hk:Ay prog Cy.Cs.A8) (h:Hyp Cy.Cs.E f51 Cy.Cs.ts Cy.Cs.pre Cy.Cs.out):Cy.Cs.Kn :=
 Al (A1 hk _ _ _) func51 (by kernel_rfl) (by kernel_rfl) h
def Bn.Dj.A8:List (Nat × Entry):=[(50,Bn.Gh.spec),(49,Bn.task.spec),(47,Cv.Solve.spec),(31,Cx.D2.spec),(39,C1.Cs.spec),(52,Cy.Check.spec),(51,Cy.Cs.spec)]
def Bn.Dj.E:Env:=Ba (A7 Bn.Dj.A8) (fun _=>false) (fun _=>none) (fun _=>none)
theorem Bn.Dj.ev (N:Nat) (r c:Int) (l:List Int) (p q:Int) (m:List Int) (a b:Int) (g:List Int) (u v:Int) (h:List Int) (i j:Int) (x:List Int) (s w:Int) (y:List Int):B0 Bn.Dj.E N f10 (Ap f10) [.agg [.int .i64 r,.int .i64 c,.ints .arg .u64 l,.int .i64 p,.int .i64 q,.ints .arg .u64 m,.int .i64 a,.int .i64 b,.ints .arg .u64 g,.int .i64 u,.int .i64 v,.ints .arg .u64 h],.agg [.int .i64 i,.int .i64 j,.ints .arg .u64 x],.agg [.int .i64 s,.int .i64 w,.ints .arg .u64 y]]=bif ((p !=q)||(Ll l m g h)) then bif (((p !=q)||((D5 r c l p q m a b g u v h) !=(0:Int)))||(Ll l m g h&&Cw (0≤(30:Int)∧(30:Int)≤1000))) then bif ((((p !=q)||((D5 r c l p q m a b g u v h) !=(0:Int)))||(!((Ak r c l&&A9 l 30)&&((Ak p q m&&A9 m 30)&&((Ak a b g&&A9 g 30)&&(Ak u v h&&A9 h 30))))))||(Af x&&Cw (0≤(30:Int)∧(30:Int)≤1000))) then bif (((((p !=q)||((D5 r c l p q m a b g u v h) !=(0:Int)))||(!((Ak r c l&&A9 l 30)&&((Ak p q m&&A9 m 30)&&((Ak a b g&&A9 g 30)&&(Ak u v h&&A9 h 30))))))||(!(Ak i j x&&A9 x 30)))||(Af y&&Cw (0≤(30:Int)∧(30:Int)≤1000))) then bif (((((p !=q)||((D5 r c l p q m a b g u v h) !=(0:Int)))||(!((Ak r c l&&A9 l 30)&&((Ak p q m&&A9 m 30)&&((Ak a b g&&A9 g 30)&&(Ak u v h&&A9 h 30))))))||(!(Ak i j x&&A9 x 30)))||(!(Ak s w y&&A9 y 30))) then some (.bool true) else bif (Ll l m g h) then bif (Ll x m y h) then bif (((C4 i j x p q m s w y u v h).2.2.2)==(3:Int)) then some (.bool true) else bif ((!(((C4 r c l p q m a b g u v h).2.2.2)==((C4 i j x p q m s w y u v h).2.2.2)))||(R3 ((C4 r c l p q m a b g u v h).2.2.1))) then some (.bool (bif (bif (((C4 r c l p q m a b g u v h).2.2.2)==((C4 i j x p q m s w y u v h).2.2.2)) then (Ua ((C4 r c l p q m a b g u v h).1) ((C4 r c l p q m a b g u v h).2.1) ((C4 r c l p q m a b g u v h).2.2.1) ((C4 i j x p q m s w y u v h).1) ((C4 i j x p q m s w y u v h).2.1) ((C4 i j x p q m s w y u v h).2.2.1)) else false) then true else false)) else none else none else none else none else none else none else none :=
 Eq.trans (by kernel_rfl)
 (An (S4 (p !=q)) (An (Oi (p !=q)) (Dw (Atn (p !=q) (Ll l m g h)) (An (Oi (p !=q)) (An (Zk (p !=q)) (An (Zj (p !=q) ((D5 r c l p q m a b g u v h) !=(0:Int))) (An (Vt (p !=q) ((D5 r c l p q m a b g u v h) !=(0:Int))) (Dw (At3 (p !=q) ((D5 r c l p q m a b g u v h) !=(0:Int)) (Ll l m g h&&Cw (0≤(30:Int)∧(30:Int)≤1000))) (An (Vt (p !=q) ((D5 r c l p q m a b g u v h) !=(0:Int))) (An (Ajx (p !=q) ((D5 r c l p q m a b g u v h) !=(0:Int))) (An (At4 (p !=q) ((D5 r c l p q m a b g u v h) !=(0:Int)) ((Ak r c l&&A9 l 30)&&((Ak p q m&&A9 m 30)&&((Ak a b g&&A9 g 30)&&(Ak u v h&&A9 h 30))))) (Dw (At5 (p !=q) ((D5 r c l p q m a b g u v h) !=(0:Int)) ((Ak r c l&&A9 l 30)&&((Ak p q m&&A9 m 30)&&((Ak a b g&&A9 g 30)&&(Ak u v h&&A9 h 30)))) (Af x&&Cw (0≤(30:Int)∧(30:Int)≤1000))) (An (At6 (p !=q) ((D5 r c l p q m a b g u v h) !=(0:Int)) ((Ak r c l&&A9 l 30)&&((Ak p q m&&A9 m 30)&&((Ak a b g&&A9 g 30)&&(Ak u v h&&A9 h 30))))) (An (At7 (p !=q) ((D5 r c l p q m a b g u v h) !=(0:Int)) ((Ak r c l&&A9 l 30)&&((Ak p q m&&A9 m 30)&&((Ak a b g&&A9 g 30)&&(Ak u v h&&A9 h 30))))) (An (At8 (p !=q) ((D5 r c l p q m a b g u v h) !=(0:Int)) ((Ak r c l&&A9 l 30)&&((Ak p q m&&A9 m 30)&&((Ak a b g&&A9 g 30)&&(Ak u v h&&A9 h 30)))) (Ak i j x&&A9 x 30)) (Dw (At9 (p !=q) ((D5 r c l p q m a b g u v h) !=(0:Int)) ((Ak r c l&&A9 l 30)&&((Ak p q m&&A9 m 30)&&((Ak a b g&&A9 g 30)&&(Ak u v h&&A9 h 30)))) (Ak i j x&&A9 x 30) (Af y&&Cw (0≤(30:Int)∧(30:Int)≤1000))) (An (Aua (p !=q) ((D5 r c l p q m a b g u v h) !=(0:Int)) ((Ak r c l&&A9 l 30)&&((Ak p q m&&A9 m 30)&&((Ak a b g&&A9 g 30)&&(Ak u v h&&A9 h 30)))) (Ak i j x&&A9 x 30)) (An (Auc (p !=q) ((D5 r c l p q m a b g u v h) !=(0:Int)) ((Ak r c l&&A9 l 30)&&((Ak p q m&&A9 m 30)&&((Ak a b g&&A9 g 30)&&(Ak u v h&&A9 h 30)))) (Ak i j x&&A9 x 30)) (Dw (Aud (p !=q) ((D5 r c l p q m a b g u v h) !=(0:Int)) ((Ak r c l&&A9 l 30)&&((Ak p q m&&A9 m 30)&&((Ak a b g&&A9 g 30)&&(Ak u v h&&A9 h 30)))) (Ak i j x&&A9 x 30) (Ak s w y&&A9 y 30)) rfl (Ev (Ev (Ev rfl (An (N4 (((C4 r c l p q m a b g u v h).2.2.2)==((C4 i j x p q m s w y u v h).2.2.2))) (An (N4 (((C4 r c l p q m a b g u v h).2.2.2)==((C4 i j x p q m s w y u v h).2.2.2))) (Dw (Are (((C4 r c l p q m a b g u v h).2.2.2)==((C4 i j x p q m s w y u v h).2.2.2)) (R3 ((C4 r c l p q m a b g u v h).2.2.1))) (An (T6 (((C4 r c l p q m a b g u v h).2.2.2)==((C4 i j x p q m s w y u v h).2.2.2))) (An (Adp (((C4 r c l p q m a b g u v h).2.2.2)==((C4 i j x p q m s w y u v h).2.2.2)) (Ua ((C4 r c l p q m a b g u v h).1) ((C4 r c l p q m a b g u v h).2.1) ((C4 r c l p q m a b g u v h).2.2.1) ((C4 i j x p q m s w y u v h).1) ((C4 i j x p q m s w y u v h).2.1) ((C4 i j x p q m s w y u v h).2.2.1))) (An (Ajw (((C4 r c l p q m a b g u v h).2.2.2)==((C4 i j x p q m s w y u v h).2.2.2)) (Ua ((C4 r c l p q m a b g u v h).1) ((C4 r c l p q m a b g u v h).2.1) ((C4 r c l p q m a b g u v h).2.2.1) ((C4 i j x p q m s w y u v h).1) ((C4 i j x p q m s w y u v h).2.1) ((C4 i j x p q m s w y u v h).2.2.1))) rfl))) rfl)))) rfl) rfl)))) rfl)))) rfl)))) rfl))))) rfl)))
abbrev _root_.Go.Proofs.S1.Bn.Dj.Kn:=A4 prog 10 Bn.Dj.spec
theorem Bn.Dj.Ad (hk:Ay prog Bn.Dj.A8) (h:Hyp Bn.Dj.E f10 Bn.Dj.ts Bn.Dj.pre Bn.Dj.out):Bn.Dj.Kn :=
 Al (A1 hk _ _ _) func10 (by kernel_rfl) (by kernel_rfl) h
end EqLaw20B
open EqLaw20B
theorem Cy.Cs.known:Cy.Cs.Kn:=Cy.Cs.Ad (.cons C1.Cs.known .nil) fun r c l p q m a b g u v h k hp=>by
 obtain ⟨h0,hk⟩:=Ae.1 (show (Ll l m g h&&Cw (0≤k∧k≤1000))=true from hp)
 obtain ⟨h1,h2⟩:=Ae.1 (show ((Af l&&Af m)&&(Af g&&Af h))=true from h0)
 obtain ⟨al,am⟩:=Ae.1 h1
 obtain ⟨ag,ah⟩:=Ae.1 h2
 refine ⟨0,Cy.Cs.out [.i r,.i c,.l l,.i p,.i q,.l m,.i a,.i b,.l g,.i u,.i v,.l h,.i k],[],?_,.bool⟩
 show _=some (DV.bool ((Ak r c l&&A9 l k)&&((Ak p q m&&A9 m k)&&((Ak a b g&&A9 g k)&&(Ak u v h&&A9 h k)))))
 rw [Cy.Cs.ev,al,am,ag,ah,hk]
 simp only [Aw9,Ayf,Aw3]
 generalize (Ak r c l&&A9 l k)=b1
 generalize (Ak p q m&&A9 m k)=b2
 generalize (Ak a b g&&A9 g k)=b3
 generalize (Ak u v h&&A9 h k)=b4
 cases b1<;>cases b2<;>cases b3<;>cases b4<;>rfl
theorem So {r c:Int} {l:List Int} {k:Nat} (hr:Ak r c l=true) (ht:A9 l (k:Int)=true):Bo r c l=0∧Da l=true∧Bl k l:=by
 obtain ⟨b,f⟩:=Mi (k:=k) ht
 exact ⟨Afc hr f,f,b⟩
theorem Adt {r c:Int} {l:List Int} {p q:Int} {m:List Int} {a b:Int} {g:List Int} {u v:Int} {h:List Int} (k1:Bo r c l=0) (k2:Bo p q m=0) (k3:Bo a b g=0) (k4:Bo u v h=0) (e:D5 r c l p q m a b g u v h≠0):D5 r c l p q m a b g u v h=3:=by
 unfold D5 at e ⊢
 rw [Axp (fun k=>k k1),Axp (fun k=>k k2),Axp (fun k=>k k3),Axp (fun k=>k k4)] at e ⊢
 split at e
 ·rename_i hh; rw [Axq hh]
 ·exact absurd rfl e
theorem Ac4 {r c:Int} {l:List Int} {p:Int} {m:List Int} {a b:Int} {g:List Int} {u v:Int} {h:List Int} (al:Af l=true) (am:Af m=true) (ag:Af g=true) (ah:Af h=true)
 (tl:A9 l 30=true) (tm:A9 m 30=true) (tg:A9 g 30=true) (th:A9 h 30=true) (e:D5 r c l p p m a b g u v h=0) :
 C4 r c l p p m a b g u v h=if (hY p p m u v h).2.2.2≠0 then Ij (hY p p m u v h).2.2.2 else Xr (mulM (hQ p p m) (hY p p m u v h)):=by
 obtain ⟨k1,k2,k3,k4,e1,e2,e3,e4,e5,e6,e7⟩:=S5 e
 obtain ⟨b1,f1⟩:=Mi (k:=30) tl
 obtain ⟨b2,f2⟩:=Mi (k:=30) tm
 obtain ⟨b3,f3⟩:=Mi (k:=30) tg
 obtain ⟨b4,f4⟩:=Mi (k:=30) th
 obtain ⟨R,n,rfl,rfl,mA,fA⟩:=Hj.Z0 k1 al
 obtain ⟨P,Q,hP,hQ',mB,fB⟩:=Hj.Z0 k2 am
 obtain rfl:P=n:=by omega
 subst e1
 obtain rfl:Q=P:=by omega
 obtain ⟨A,B,hA,hB,mC,fC⟩:=Hj.Z0 k3 ag
 obtain ⟨U,V,hU,hV,mD,fD⟩:=Hj.Z0 k4 ah
 subst e2 e3 e4 e5
 obtain rfl:A=R:=by omega
 obtain rfl:B=1:=by omega
 obtain rfl:U=Q:=by omega
 obtain rfl:V=1:=by omega
 exact Aie mA mB mC mD b1 b2 (An4 (k:=30) tm) b3 b4 f1 f2 f3 f4
theorem Bn.Dj.known:Bn.Dj.Kn:=Bn.Dj.Ad (.cons Bn.Gh.known (.cons Bn.task.known (.cons Cv.Solve.known (.cons Cx.D2.known (.cons C1.Cs.known (.cons Cy.Check.known (.cons Cy.Cs.known .nil))))))) fun r c l p q m a b g u v h i j x s w y hp=>by
 obtain ⟨h0,h3⟩:=Ae.1 (show (Ll l m g h&&(Af x&&Af y))=true from hp)
 obtain ⟨h1,h2⟩:=Ae.1 (show ((Af l&&Af m)&&(Af g&&Af h))=true from h0)
 obtain ⟨al,am⟩:=Ae.1 h1
 obtain ⟨ag,ah⟩:=Ae.1 h2
 obtain ⟨ax,ay⟩:=Ae.1 h3
 have a4:Ll x m y h=true:=by unfold Ll; rw [ax,am,ay,ah]; rfl
 refine ⟨0,.bool true,[],?_,.bool⟩
 rw [Bn.Dj.ev,h0,a4,ax,ay,show Cw (0≤(30:Int)∧(30:Int)≤1000)=true from At.2 (by decide)]
 simp only [Aw9,Ayf,Aw3]
 cases hG:(((((p !=q)||((D5 r c l p q m a b g u v h) !=(0:Int)))||(!((Ak r c l&&A9 l (30:Int))&&((Ak p q m&&A9 m (30:Int))&&((Ak a b g&&A9 g (30:Int))&&(Ak u v h&&A9 h (30:Int)))))))||(!(Ak i j x&&A9 x (30:Int))))||(!(Ak s w y&&A9 y (30:Int)))) with
 | true=>rfl
 | false =>
   simp only [Bool.or_eq_false_iff,Bool.not_eq_false',Axe,bne_eq_false_iff_eq] at hG
   obtain ⟨⟨⟨⟨rfl,e0⟩,⟨_,tl⟩,⟨r2,tm⟩,⟨_,tg⟩,r4,th⟩,rx,tx⟩,ry,ty⟩:=hG
   rw [Aw7]
   have o1:R3 (C4 r c l p p m a b g u v h).2.2.1=true:=At.2 (by have:=Ao3 r c l p p m a b g u v h; omega)
   by_cases e1:D5 i j x p p m s w y u v h=0
   ·have q1:=Ac4 al am ag ah tl tm tg th e0
    have q2:=Ac4 ax am ay ah tx tm ty th e1
    have qq:C4 i j x p p m s w y u v h=C4 r c l p p m a b g u v h:=q2.trans q1.symm
    rw [qq,o1]
    cases ((C4 r c l p p m a b g u v h).2.2.2==(3:Int)) with
    | true=>rfl
    | false =>
      have e:((C4 r c l p p m a b g u v h).2.2.2==(C4 r c l p p m a b g u v h).2.2.2)=true:=Ax3 _
      rw [e,Ahl]
      rfl
   ·have e3:=Adt (So (k:=30) rx tx).1 (So (k:=30) r2 tm).1 (So (k:=30) ry ty).1 (So (k:=30) r4 th).1 e1
    have qq:(C4 i j x p p m s w y u v h).2.2.2=3:=by
     unfold C4
     rw [Axq e1,e3]
     rfl
    rw [qq]
    rfl
end Go.Proofs.S1
end
