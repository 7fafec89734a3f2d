/- A verified evaluator of the program's form and its use for this seat: HouL, DiffL, MagL, RootM, NorL, BndL, RatV, DyQ, QuoW, S1Specs, S1Tt. -/
import Derived.Test.YtjbokjpbiobjpaaGreatTE
set_option linter.unusedVariables false
set_option linter.unusedSimpArgs false
noncomputable section
open Int (toNat)
open List (length getD)
namespace Go.Cv
open Go.Den
theorem Kl:Al (0:Int)=true:=Co (n:=0) (by decide)
theorem At2:Al At5=true:=Co (n:=4607182418800017408) (by decide)
theorem Apz {b:Nat} {n:Int} (h:b<2^64):(Cj b n).1<2^64:=by
 unfold Cj
 by_cases h4:Aj b=4
 ·rw [A8u h4]; exact (by decide:Sq<2^64)
 rw [A8t h4]
 by_cases h3:Aj b=3∨Aj b=0
 ·rw [A8u h3]; exact h
 rw [A8t h3]
 exact Wm _ _ _
theorem Kf {b n:Int} (h:Al b=true):Al (Ch b n)=true:=by
 obtain ⟨x,rfl,hx⟩:=Ca h
 exact Co (Apz (by rw [A79]; exact hx))
theorem Aa6 (b:Nat):Dy b<2^63:=Nat.mod_lt _ (by decide)
theorem Adi:∀ (l:List Int) (m:Nat),m<2^64→N7 l m<2^64
 | [],m,h=>h
 | x::l,m,h=>by
   unfold N7
   split
   ·exact (by decide:Sq<2^64)
   ·have h2:=Aa6 x.toNat
    exact Adi l _ (by omega)
theorem V7 (l:List Int):Al (Bg l)=true:=Co (Adi l 0 (by decide))
theorem Aut (x:Int):Al (Tg x)=true:=Co (Nat.lt_trans (Aa6 x.toNat) (by decide))
theorem Aww {a b:Int} (ha:Al a=true) (hb:Al b=true):Al (Md a b)=true:=by
 obtain ⟨x,rfl,hx⟩:=Ca ha
 obtain ⟨y,rfl,hy⟩:=Ca hb
 exact Co (X1 (by rw [A79]; exact hx) (by rw [A79]; exact hy)).1
theorem Ajb {a:Int} (ha:Al a=true):Al (Eh a)=true:=by
 obtain ⟨x,rfl,hx⟩:=Ca ha
 exact Co (Yo (by rw [A79]; exact hx))
theorem Atc {b:Nat} (h:b<2^64):(Hw b).1<2^64:=by
 by_cases h4:Aj b=4
 ·rw [Abi h4]; exact (by decide:Sq<2^64)
 by_cases h0:Aj b=0∨b=Ei
 ·rw [Ov h4 h0]; exact h
 cases hn:Bp b with
 | true=>rw [Aih h4 h0 hn]; exact (by decide:Sq<2^64)
 | false =>
   unfold Hw
   rw [A8t h4,A8t h0,hn,A8t (by decide)]
   exact Nat.lt_trans (Jr _ _) (by decide)
theorem Ank {a:Int} (ha:Al a=true):Al (Ie a)=true:=by
 obtain ⟨x,rfl,hx⟩:=Ca ha
 exact Co (Atc (by rw [A79]; exact hx))
theorem As9 (k:Int):∀ (l:List Int) {s:Int},Al s=true→Al (Qj k s l)=true
 | [],_,h=>h
 | _::l,_,h=>As9 k l (Aww h (Ku _ _))
theorem Aar (x:List Int):Al (Dr x)=true:=by
 unfold Dr
 split
 ·exact V7 x
 ·exact Kf (Ank (As9 _ _ Kl))
theorem Auq (x:List Int):Al (Qk x)=true:=by
 unfold Qk
 split
 ·exact Aar _
 ·exact Ajb (Aar _)
theorem Az2 (x:List Int):Al (G2 x)=true:=Kf (Auq x)
theorem Ard (b:Nat):-1100≤E6 b∧E6 b≤1100:=by
 unfold E6
 split
 ·have h1:=Cu b
  have h2:=Fx b
  rename_i h
  have h3:(An b).log2<53:=by
   by_cases h0:An b=0
   ·rw [h0]; decide
   ·exact (A9n h0).2 h2
  omega
 ·omega
theorem Avy (x:Int):-1100≤Bq x∧Bq x≤1100:=Ard x.toNat
theorem Nu {l:List Int} (h:Ak l=true) (j:Nat):Al (l.getD j 0)=true:=Ag9 (Ao.1 h) j
theorem Ut {l:List Int} (h:∀ x∈l,Al x=true):Ak l=true:=Ao.2 h
theorem Hz:Ak []=true:=Ut fun _ h=>by cases h
theorem Akh {α:Type} {l:List α} {f:α→Int} (h:∀ j,Al (f j)=true):Ak (l.map f)=true:=Ut fun x hx=>by
 obtain ⟨j,_,rfl⟩:=List.mem_map.1 hx
 exact h j
theorem Arx {x:Int} {l:List Int} (h1:Al x=true) (h2:Ak l=true):Ak (x::l)=true:=Ut fun y hy=>by
 rcases List.mem_cons.1 hy with rfl | hy
 ·exact h1
 ·exact Ao.1 h2 y hy
theorem Uu {c i k:Int} {l:List Int} (h:Ak l=true):Al (Cp c l i k)=true:=Nu h _
theorem Gz (c b i:Int) (n:Nat) (l:List Int):(B4 c l b i n).length=n:=by unfold B4; rw [A9d,A9a]
theorem O9 {c b i:Int} {n:Nat} {l:List Int} (h:Ak l=true):Ak (B4 c l b i n)=true:=Akh fun _=>Uu h
theorem Ato (n:Nat) {f:Nat→Int} (h:∀ j,Al (f j)=true):Ak (Iw n f)=true:=Arx At2 (Akh fun _=>h _)
theorem Lt {n:Nat} (h:n≠0) (f:Nat→Int):(Iw n f).length=n:=by
 unfold Iw
 rw [List.length_cons,A9d,A9a]
 omega
theorem Aau {x:List Int} (h:Ak x=true):Ak (Bv x).1=true∧Al (Bv x).2.1=true∧Al (Bv x).2.2.1=true:=by
 have hz:Ak []=true∧Al (0:Int)=true∧Al (0:Int)=true:=⟨Hz,Kl,Kl⟩
 unfold Bv
 split
 ·exact hz
 split
 ·unfold Ai7
  split
  ·dsimp only
   exact ⟨Ato _ fun _=>Kl,Kl,Nu h 0⟩
  ·split
   ·dsimp only
    exact ⟨Ato _ fun _=>Amr _ _,Amr _ _,Az2 x⟩
   ·exact hz
 ·exact hz
theorem Q4 {x:List Int} (h:(Bv x).2.2.2=0):(Bv x).1.length=x.length:=by
 unfold Bv at h ⊢
 by_cases h1:x.length=0∨64<x.length
 ·rw [A8u h1] at h; exact absurd h (by decide)
 rw [A8t h1] at h ⊢
 by_cases h2:Ff x=true
 ·rw [A8u h2] at h ⊢
  unfold Ai7 at h ⊢
  by_cases h3:Gc (x.drop 1)=true
  ·rw [A8u h3]; dsimp only; exact Lt (n:=x.length) (by omega) _
  ·rw [A8t h3] at h ⊢
   by_cases h4:Dk (G2 x)=true
   ·rw [A8u h4]; dsimp only [Yn]; exact Lt (n:=x.length) (by omega) _
   ·rw [A8t h4] at h; exact absurd h (by decide)
 ·rw [A8t h2] at h; exact absurd h (by decide)
theorem Ahl (x y:List Int):Al (M5 x y)=true:=Co (Ahk x y 0 (by decide))
theorem Arv {c i k t a b:Int} {l v:List Int} (h:Ak l=true):Al (Hy c l i k v t a b)=true:=by
 unfold Hy
 split
 ·exact X7 (Uu h) (Ku _ _)
 ·exact Uu h
theorem Afo {r c:Nat} {l:List Int} (h:Ak l=true) (i k:Int) (v:List Int) (t:Int):Ak (Gp r c l i k v t)=true:=Nc fun _ _=>Arv h
theorem Qq (r c:Nat) (l:List Int) (i k:Int) (v:List Int) (t:Int):(Gp r c l i k v t).length=r*c:=Cf _ _ _
theorem Arl {r c:Nat} {l:List Int} (h:Ak l=true) (j:Nat) {x:Int} (hx:Al x=true):Ak (Qo r c l j x)=true:=Nc fun a b=>by
 split
 ·split
  ·exact hx
  ·exact Kl
 ·exact Uu h
theorem Te (r c:Nat) (l:List Int) (j:Nat):(Ps r c l j).length=r*c:=by unfold Ps Qo; exact Cf _ _ _
theorem Uh {r c:Nat} {l:List Int} (h:Ak l=true) (j:Nat):Ak (Ps r c l j)=true:=Arl (Afo h _ _ _ _) _ (Aau (O9 h)).2.2
def Ai9 (r:Nat):Nat→List (List Int × Int)→Prop
 | _,[]=>True
 | j,m::ms=>(Ak m.1=true∧Al m.2=true∧m.1.length+j=r)∧Ai9 r (j+1) ms
theorem Ac8 (r c:Nat):∀ (n j:Nat) (l:List Int) (x:List Int × List (List Int × Int)),Ak l=true→l.length=r*c→j+n≤r→J2 r c n j l=some x→Ak x.1=true∧x.1.length=r*c∧x.2.length=n∧Ai9 r j x.2
 | 0,j,l,x,ha,hl,_,h=>by
   cases h
   exact ⟨ha,hl,rfl,trivial⟩
 | n+1,j,l,x,ha,hl,hj,h=>by
   unfold J2 at h
   by_cases h1:(Bv (Dm r c l j)).2.2.2=0
   ·rw [A8u h1,Option.map_eq_some_iff] at h
    obtain ⟨y,hy,rfl⟩:=h
    obtain ⟨a1,a2,a3,a4⟩:=Ac8 r c n (j+1) _ y (Uh ha j) (Te r c l j) (by omega) hy
    have hm:=Aau (x:=Dm r c l j) (O9 ha)
    have hlen:=Q4 h1
    refine ⟨a1,a2,by rw [List.length_cons,a3],⟨hm.1,hm.2.1,?_⟩,a4⟩
    show (Bv (Dm r c l j)).1.length+j=r
    rw [hlen]
    unfold Dm
    rw [Gz]
    omega
   ·rw [A8t h1] at h; cases h
theorem Aaz (n:Nat):Ak (Mb n)=true:=Nc fun i k=>by
 unfold V0
 split
 ·exact At2
 ·exact Kl
theorem Xw (n:Nat):∀ (ms:List (List Int × Int)) (j:Nat) (q:List Int),Ak q=true→q.length=n*n→Ak (Lg n j ms q)=true∧(Lg n j ms q).length=n*n
 | [],_,_,h1,h2=>⟨h1,h2⟩
 | m::ms,j,q,h1,h2=>by
   unfold Lg
   exact ⟨Afo (Xw n ms (j+1) q h1 h2).1 _ _ _ _,Qq _ _ _ _ _ _ _⟩
theorem Aon {r c:Nat} {l:List Int} (h:(I7 r c l).isSome=true):Ak (Jy r c l)=true∧(Jy r c l).length=r*r:=by
 unfold Jy
 cases hd:I7 r c l with
 | none=>rw [hd] at h; cases h
 | some x=>exact Xw r x.2 0 _ (Aaz r) (by unfold Mb; exact Cf _ _ _)
theorem Aom {r c:Nat} {l:List Int} (ha:Ak l=true) (hl:l.length=r*c) (h:(I7 r c l).isSome=true):Ak (H6 r c l)=true∧(H6 r c l).length=r*c:=by
 unfold H6
 cases hd:I7 r c l with
 | none=>rw [hd] at h; cases h
 | some x =>
   have hn:Fy r c≤r:=by unfold Fy; omega
   have:=Ac8 r c (Fy r c) 0 l x ha hl (by omega) hd
   exact ⟨this.1,this.2.1⟩
end Go.Cv
namespace Go.Cv
open Go.Den
theorem Lc (n:Nat):Ii n=!(decide (Aj n=3)||decide (Aj n=4)):=by
 have:=Lv n
 unfold Ii Aj
 by_cases h:D5 n=2047
 ·by_cases h2:C9 n=0<;>simp [h,h2]
 ·have h3:D5 n<2047:=by omega
  by_cases h4:0<D5 n
  ·simp [h,h3,h4]
  ·by_cases h5:0<C9 n<;>simp [h,h3,h4,h5]
theorem Aaj (s:Bool) (m:Nat):(Ik s m).natAbs=m:=by unfold Ik; split<;>omega
theorem Ad5 {b:Nat} (h:b<2^64) (g:Int):Fo (Eg b) g=-(Fo b g)∧Av (Eg b)=Av b∧Ii (Eg b)=Ii b:=by
 obtain ⟨h1,h2,h3⟩:=Lb h
 have hm:An (Eg b)=An b:=by unfold An; rw [h2,h3]
 have he:Av (Eg b)=Av b:=by unfold Av; rw [h2]
 refine ⟨?_,he,by unfold Ii; rw [h2]⟩
 unfold Fo
 rw [h1,hm,he]
 unfold Ik
 cases Bp b
 ·rfl
 ·show ((_:Nat):Int)=- -((_:Nat):Int)
  omega
end Go.Cv
namespace Go.Cv
open Go.Den
def pw (k:Nat):Nat:=(k+1023)*2^52
theorem Qw {k:Nat} (h:k≤1023):An (pw k)=2^52∧Av (pw k)=(k:Int)-52∧Aj (pw k)=2∧pw k%2^63=pw k∧pw k<Ei:=by
 have hp:D5 (pw k)=k+1023:=by unfold D5 pw; omega
 have hf:C9 (pw k)=0:=by unfold C9 pw; omega
 refine ⟨?_,?_,?_,?_,?_⟩
 ·unfold An; rw [hp,hf,A8t (by omega)]
 ·unfold Av; rw [hp,A8t (by omega)]; omega
 ·unfold Aj; rw [hp,A8t (by omega),A8u (by omega)]
 ·unfold pw; omega
 ·rw [Fl]; unfold pw; omega
def Kg (a:Nat):Nat:=Fq a (-1074)
theorem Anw {k:Nat} (h:k≤1023):Kg (pw k)=2^(k+1074):=by
 obtain ⟨h1,h2,_⟩:=Qw h
 unfold Kg Fq
 rw [h1,h2,← A8w]
 congr 1; omega
theorem Aan {k:Nat} (h:k≤1023):B1 (2^(k+1074)) (-1074)=pw k:=by
 obtain ⟨h1,h2,h3,h4,_⟩:=Qw h
 have:=Nk (b:=pw k) (f:=-1074) (by omega) (by omega)
 rw [h4] at this
 rw [← this,← Anw h]; rfl
def Bd (k:Nat) (a:Nat):Prop:=Aj a≠3∧Aj a≠4∧Kg a≤2^(k+1074)
theorem Bd.mono {j k a:Nat} (h:Bd j a) (hk:j≤k):Bd k a:=⟨h.1,h.2.1,A9e h.2.2 (A8m (by decide) (by omega))⟩
theorem Bd.P1 {k a:Nat} (hk:k≤1023) (h4:Aj a≠4) (h:a%2^63≤pw k):Bd k a:=by
 obtain ⟨p1,p2,p3,p4,p5⟩:=Qw hk
 have h3:Aj a≠3:=fun e=>by have:=Ru e; omega
 refine ⟨h3,h4,?_⟩
 have ha:=Cu a
 rcases A84 (Kg (pw k)) (Kg a) with g | g
 ·have:=(Ach (f:=-1074) (by omega) h4 (by omega) ha.1).1 g
  omega
 ·rw [Anw hk] at g; exact g
theorem Q5 (s:Bool) (V:Nat) (E:Int):Aj (Bx s (B1 V E))≠4:=by
 have h:=Rj V E
 rw [Fl] at h
 have hp:=Yg s (r:=B1 V E) (by omega)
 have hf:=Vy s (B1 V E)
 unfold Aj
 rw [hp,hf]
 split
 ·split
  ·omega
  ·omega
 ·split
  ·omega
  ·split<;>omega
theorem Bd.B1 {k:Nat} (s:Bool) {V:Nat} {E:Int} (hk:k≤1023) (h:B1 V E≤pw k):Bd k (Bx s (B1 V E)):=by
 refine .P1 hk (Q5 s V E) ?_
 have:=Jr V E
 have e:Bx s (Go.Cv.B1 V E)%2^63=Go.Cv.B1 V E:=by unfold Bx; split<;>omega
 rw [e]; exact h
theorem Bd.zero (s:Bool) (k:Nat):Bd k (Bx s 0):=by
 have:Aj (Bx s 0)=0∧Kg (Bx s 0)=0:=by cases s<;>decide +kernel
 exact ⟨by omega,by omega,by rw [this.2]; exact Nat.zero_le _⟩
theorem Lz (a:Nat):(Fo a (-1074)).natAbs=Kg a:=by
 unfold Fo Kg Fq
 rw [Aaj]
theorem Bd.add {k a b:Nat} (hk:k+1≤1023) (ha:Bd k a) (hb:Bd k b):Bd (k+1) (Gf a b).1:=by
 obtain ⟨a3,a4,am⟩:=ha
 obtain ⟨b3,b4,bm⟩:=hb
 have pa:=Cu a
 have pb:=Cu b
 have ek:=Aa4 a3 a4 b3 b4 (g:=-1074) (by omega)
 have e4:Aj (Gf a b).1≠4:=by
  rw [Tw (by omega) a3 b3]
  unfold Lu
  split
  ·have:Aj (Bx (Bp a&&Bp b) 0)=0:=by cases (Bp a&&Bp b)<;>decide
   show Aj (Bx (Bp a&&Bp b) 0)≠4
   omega
  ·exact Q5 _ _ _
 refine .P1 hk e4 ?_
 have hs:(Fo a (-1074)+Fo b (-1074)).natAbs≤2^(k+1+1074):=by
  have h1:=Lz a
  have h2:=Lz b
  have:2^(k+1+1074)=2^(k+1074)+2^(k+1074):=by rw [show k+1+1074=k+1074+1 by omega,Nat.pow_succ]; omega
  omega
 have hr:=Gj (E:=-1074) hs
 rw [Aan hk] at hr
 have hn:(Jj (Gf a b).1).natAbs=(Gf a b).1%2^63:=by unfold Jj; rw [Aaj]
 rw [← hn,ek]
 unfold Adt
 split<;>omega
theorem Bd.mul {j k a b:Nat} (hk:j+k≤1023) (ha:Bd j a) (hb:Bd k b):Bd (j+k) (Hc a b).1:=by
 obtain ⟨a3,a4,am⟩:=ha
 obtain ⟨b3,b4,bm⟩:=hb
 have pa:=Cu a
 have pb:=Cu b
 unfold Hc
 rw [A8t (by omega),A8t (by omega)]
 refine .B1 _ hk ?_
 obtain ⟨u,hu⟩:∃ u:Nat,Av a=(u:Int)-1074:=⟨(Av a+1074).toNat,by omega⟩
 obtain ⟨v,hv⟩:∃ v:Nat,Av b=(v:Int)-1074:=⟨(Av b+1074).toNat,by omega⟩
 have ea:Kg a=An a*2^u:=by unfold Kg Fq; congr 2; omega
 have eb:Kg b=An b*2^v:=by unfold Kg Fq; congr 2; omega
 have s1:=(Di (An a*An b) (u+v) (Av a+Av b)).1
 obtain ⟨t,ht⟩:∃ t:Nat,t=1074:=⟨1074,rfl⟩
 rw [← s1,← Aan hk,← (Di (2^(j+k+1074)) t (-1074)).1]
 rw [← ht] at am bm ⊢
 have ee:Av a+Av b-((u+v:Nat):Int)=-1074-(t:Int):=by omega
 rw [ee]
 refine Gj ?_
 have:An a*An b*2^(u+v)=Kg a*Kg b:=by
  rw [ea,eb,A8w,Nat.mul_mul_mul_comm]
 rw [this,← A8w,show j+k+t+t=(j+t)+(k+t) by omega,A8w]
 exact A83 am bm
theorem Acf {k b:Nat} (hb:b<2^64) (h:Bd k b):Bd k (Eg b):=by
 obtain ⟨h3,h4,hm⟩:=h
 obtain ⟨v1,v2,v3⟩:=Ad5 hb (-1074)
 have hf:Ii b=true:=by rw [Lc]; simp [h3,h4]
 have k':=Jk (v3.trans hf)
 refine ⟨k'.2,k'.1,?_⟩
 rw [← Lz,v1,Int.natAbs_neg,Lz]; exact hm
theorem Bd.sub {k a b:Nat} (hk:k+1≤1023) (hb64:b<2^64) (ha:Bd k a) (hb:Bd k b):Bd (k+1) (Abd a b).1:=Bd.add hk ha (Acf hb64 hb)
theorem Bd.fin {k a:Nat} (h:Bd k a):Ii a=true:=by rw [Lc]; simp [h.1,h.2.1]
theorem Bd.A1w {k a:Nat} (hf:Ii a=true) (h:An a≠0→((An a).log2:Int)+Av a<(k:Int)):Bd k a:=by
 refine ⟨(Jk hf).2,(Jk hf).1,?_⟩
 have pa:=Cu a
 unfold Kg Fq
 by_cases h0:An a=0
 ·rw [h0,Nat.zero_mul]; exact Nat.zero_le _
 ·have hl:=h h0
  have h1:=Nat.lt_log2_self (n:=An a)
  have h2:An a*2^(Av a - -1074).toNat≤2^((An a).log2+1)*2^(Av a - -1074).toNat:=A8j _ (by omega)
  rw [← A8w] at h2
  exact A9e h2 (A8m (by decide) (by omega))
end Go.Cv
namespace Go.Cv
open Go.Den
theorem Ams {P root rest two:Nat} (h1:P=root*root+rest) (h2:rest≤2*root) (h3:two<4) :
 (4*root+1≤4*rest+two→4*P+two=(2*root+1)*(2*root+1)+(4*rest+two-(4*root+1))∧4*rest+two-(4*root+1)≤2*(2*root+1)) ∧
 (4*rest+two<4*root+1→4*P+two=(2*root)*(2*root)+(4*rest+two)∧4*rest+two≤2*(2*root)):=by
 have e1:(2*root+1)*(2*root+1)=4*(root*root)+(4*root+1):=by
  rw [A9b,Nat.mul_add,Nat.mul_add]
  have:2*root*(2*root)=4*(root*root):=by rw [Nat.mul_mul_mul_comm]
  omega
 have e2:(2*root)*(2*root)=4*(root*root):=by rw [Nat.mul_mul_mul_comm]
 constructor
 ·intro h; rw [e1]; omega
 ·intro h; rw [e2]; omega
theorem Ayd {P root rest:Nat} (h1:P=root*root+rest) (h2:rest≤2*root):root=Mj P:=by
 refine Acx (by omega) ?_
 have:(root+1)*(root+1)=root*root+2*root+1:=by rw [A9b,Nat.mul_add]; omega
 omega
end Go.Cv
namespace Go.Cv
open Go.Den
theorem Aod {M a b:Nat} {E:Int} (h:2^a≤M) (g:(b:Int)-1074≤a+E):B1 (2^b) (-1074)≤B1 M E:=by
 by_cases k:-1074≤E
 ·have s:=(Di M (E+1074).toNat E).1
  rw [show E-((E+1074).toNat:Int)=-1074 by omega] at s
  rw [← s]
  refine Gj (A9e (m:=2^(a+(E+1074).toNat)) (A8m (by decide) (by omega)) ?_)
  rw [A8w]; exact A8j _ h
 ·have s:=(Di (2^b) (-1074-E).toNat (-1074)).1
  rw [show (-1074:Int)-((-1074-E).toNat:Int)=E by omega,← A8w] at s
  rw [← s]
  exact Gj (A9e (A8m (by decide) (by omega)) h)
theorem Ni {M a:Nat} {E:Int} (h:2^a≤M) (g:0≤a+E):pw 0≤B1 M E:=by
 obtain ⟨t,ht⟩:∃ t:Nat,t=1074:=⟨1074,rfl⟩
 rw [← Aan (k:=0) (by decide),A9h,← ht]
 exact Aod h (by omega)
def Nn (a:Nat):Prop:=a≤Sq
def Big (a:Nat):Prop:=pw 0≤a∧a≤Sq
theorem J6:Sq=9221120237041090560:=rfl
theorem Agq:pw 0=4607182418800017408:=by unfold pw; omega
theorem Ahs:Big Sq:=⟨by rw [Agq,J6]; omega,A81 _⟩
theorem Aht:Big Ei:=⟨by rw [Agq,Fl]; omega,by rw [J6,Fl]; omega⟩
theorem Rs (V:Nat) (E:Int):Nn (B1 V E):=by
 have:=Rj V E
 rw [Fl] at this
 unfold Nn; rw [J6]; omega
theorem Auc:Nn Sq:=A81 _
theorem Aud:Nn Ei:=Aht.2
theorem Ra {z:Nat} (h:pw 0≤z%2^63):2^52≤An z∧-52≤Av z:=by
 have h1:1023≤D5 z:=by unfold D5; rw [Agq] at h; omega
 unfold An Av
 rw [A8t (by omega),A8t (by omega)]
 omega
theorem N4 {a:Nat} (h:Nn a):Bp a=false:=by
 unfold Nn at h; rw [J6] at h
 exact A8c (by omega)
theorem A1b {z:Nat}:Nn (Hc z z).1∧(pw 0≤z%2^63→Big (Hc z z).1):=by
 have hp:(Bp z !=Bp z)=false:=by cases Bp z<;>rfl
 unfold Hc
 by_cases k4:Aj z=4
 ·rw [A8u (.inl k4)]; exact ⟨Auc,fun _=>Ahs⟩
 rw [A8t (by omega)]
 by_cases k3:Aj z=3
 ·rw [A8u (.inl k3),A8t (by omega),hp,Ip]; exact ⟨Aud,fun _=>Aht⟩
 rw [A8t (by omega),hp,Ip]
 refine ⟨Rs _ _,fun h=>⟨?_,Rs _ _⟩⟩
 obtain ⟨h1,h2⟩:=Ra h
 refine Ni (a:=104) ?_ (by omega)
 rw [show (104:Nat)=52+52 from rfl,A8w]
 exact A83 h1 h1
theorem Amh {a:Nat} (h:Nn a) (k3:Aj a=3):a=Ei:=by
 have:=Ah6 (b:=a) (by unfold Nn at h; rw [J6] at h; omega) k3
 rw [N4 h] at this
 exact this.symm
theorem Afw {a:Nat} (h:Nn a) (g:Int):Fo a g=Fq a g:=by
 unfold Fo Fq; rw [N4 h]; rfl
theorem A2q {s t:Nat} (hs:Nn s) (ht:Nn t):Nn (Gf s t).1∧(Big s∨Big t→Big (Gf s t).1):=by
 have hN:Nn Sq∧(Big s∨Big t→Big Sq):=⟨Auc,fun _=>Ahs⟩
 have hI:Nn Ei∧(Big s∨Big t→Big Ei):=⟨Aud,fun _=>Aht⟩
 by_cases k:Aj s=4∨Aj t=4
 ·have:(Gf s t).1=Sq:=by unfold Gf; rw [A8u k]
  rw [this]; exact hN
 by_cases s3:Aj s=3
 ·rw [Awy k s3]
  split
  ·exact hN
  ·obtain rfl:=Amh hs s3; exact hI
 by_cases t3:Aj t=3
 ·rw [Arz k s3 t3]
  obtain rfl:=Amh ht t3; exact hI
 have ek:=Aa4 s3 (by omega) t3 (by omega) (g:=min (Av s) (Av t)) (Int.le_refl _)
 generalize hg:min (Av s) (Av t)=g at ek
 rw [Afw hs,Afw ht] at ek
 have e0:¬ ((Fq s g:Int)+(Fq t g:Int)<0):=by omega
 unfold Adt at ek
 rw [A8t e0] at ek
 have n2:(Gf s t).1=B1 ((Fq s g:Int)+(Fq t g:Int)).natAbs g:=by
  have hn:Bp (Gf s t).1=false∨(Gf s t).1%2^63=0:=by
   unfold Jj at ek
   cases hh:Bp (Gf s t).1
   ·exact .inl rfl
   ·rw [hh] at ek
    have ek:-(((Gf s t).1%2^63:Nat):Int)=_:=ek
    exact .inr (by omega)
  have hlt:(Gf s t).1<2^64:=(X1 (by unfold Nn at hs; rw [J6] at hs; omega) (by unfold Nn at ht; rw [J6] at ht; omega)).1
  have hnf:Bp (Gf s t).1=false:=by
   rw [Tw k s3 t3]
   unfold Lu
   have hh:(Bp s&&Bp t)=false:=by rw [N4 hs]; rfl
   split
   ·show Bp (Bx (Bp s&&Bp t) 0)=false
    rw [hh]; rfl
   ·rename_i h0
    rw [hg,Afw hs,Afw ht]
    rw [A8c e0,Ip]
    exact N4 (Rs _ _)
  unfold Jj at ek
  rw [hnf] at ek
  have ek:(((Gf s t).1%2^63:Nat):Int)=_:=ek
  unfold Bp at hnf
  have:=of_decide_eq_false hnf
  omega
 rw [n2]
 refine ⟨Rs _ _,fun h=>⟨?_,Rs _ _⟩⟩
 have ms:=Nk (b:=s) (f:=g) (by omega) (by omega)
 have mt:=Nk (b:=t) (f:=g) (by omega) (by omega)
 rcases h with h | h
 ·have:=Gj (V:=Fq s g) (W:=((Fq s g:Int)+(Fq t g:Int)).natAbs) (E:=g) (by omega)
  have h1:=h.1
  unfold Nn at hs; rw [J6] at hs
  rw [ms] at this; omega
 ·have:=Gj (V:=Fq t g) (W:=((Fq s g:Int)+(Fq t g:Int)).natAbs) (E:=g) (by omega)
  have h1:=h.1
  unfold Nn at ht; rw [J6] at ht
  rw [mt] at this; omega
theorem Ak5 (k:Int):∀ (l:List Int) (s:Nat),Nn s→∃ t:Nat,Qj k s l=t∧Nn t∧((Big s∨∃ x∈l,pw 0≤(Ch x k).toNat%2^63)→Big t)
 | [],s,h=>⟨s,rfl,h,fun g=>by
  rcases g with g | ⟨x,hx,_⟩
  ·exact g
  ·cases hx⟩
 | x::l,s,h=>by
   obtain ⟨q1,q2⟩:=A1b (z:=(Ch x k).toNat)
   obtain ⟨a1,a2⟩:=A2q h q1
   obtain ⟨t,e,t1,t2⟩:=Ak5 k l _ a1
   refine ⟨t,?_,t1,fun g=>t2 ?_⟩
   ·unfold Qj
    rw [← e]
    unfold Md D6
    rw [A79,A79]
   ·rcases g with g | ⟨y,hy,g⟩
    ·exact .inl (a2 (.inl g))
    ·rcases List.mem_cons.1 hy with rfl | hy
     ·exact .inl (a2 (.inr (q2 g)))
     ·exact .inr ⟨y,hy,g⟩
theorem Ay4 {n:Nat} (h:n≠0):1≤Mj n:=Ag5 (by omega)
theorem Atq {b:Nat} (h:Big b):Big (Hw b).1:=by
 have hn:=N4 h.2
 by_cases k4:Aj b=4
 ·rw [Abi k4]; exact Ahs
 by_cases k0:Aj b=0∨b=Ei
 ·rw [Ov k4 k0]; exact h
 rw [Wi k4 k0 hn]
 refine ⟨?_,Rs _ _⟩
 have k3:Aj b≠3:=fun e=>k0 (.inr (Amh h.2 e))
 have hm:b%2^63=b:=by have:=h.2; rw [J6] at this; omega
 obtain ⟨p1,p2⟩:=Ra (z:=b) (by rw [hm]; exact h.1)
 have hK:=(Wr (b:=b) (by omega)).2
 generalize hr:(Av b-(Fv b:Int)) / 2-1=r at hK ⊢
 have hst:2*Mj (An b*2^Fv b)≤Ey (An b*2^Fv b):=by unfold Ey; omega
 by_cases hr0:0≤r
 ·have:=Ay4 (n:=An b*2^Fv b) (by have:=Nat.mul_pos (show 0<An b by omega) (B5 (Fv b)); omega)
  exact Ni (a:=0) (by omega) (by omega)
 ·have h2:2^((-1-r).toNat+(-1-r).toNat)≤An b*2^Fv b:=by
   refine A9e (m:=2^(52+Fv b)) (A8m (by decide) (by omega)) ?_
   rw [A8w]
   exact A8j _ p1
  have h3:=Xe h2
  refine Ni (a:=(-1-r).toNat+1) ?_ (by omega)
  rw [Nat.pow_succ]; omega
theorem Iu {b:Nat} (h:Aj b=0):b%2^63=0:=by
 unfold Aj D5 C9 at h
 split at h
 ·split at h<;>omega
 ·split at h
  ·omega
  ·split at h<;>omega
theorem Uo {b:Nat} (k3:Aj b≠3) (k4:Aj b≠4) (k0:Aj b≠0):E6 b=((An b).log2:Int)+Av b∧-1074≤E6 b:=by
 have:=Cu b
 have hf:Ii b=true:=by rw [Lc]; simp [k3,k4]
 unfold E6
 rw [A8u ⟨hf,k0⟩]
 exact ⟨rfl,by omega⟩
theorem Xm (b:Nat):E6 b=E6 (b%2^63):=by
 have h1:D5 (b%2^63)=D5 b:=by unfold D5; omega
 have h2:C9 (b%2^63)=C9 b:=by unfold C9; omega
 unfold E6 Ii Aj An Av
 rw [h1,h2]
theorem Vj {b:Nat} (k3:Aj b≠3) (k4:Aj b≠4) (k0:Aj b≠0):pw 0≤(Cj b (-E6 b)).1%2^63:=by
 obtain ⟨e,_⟩:=Uo k3 k4 k0
 rw [Jq k4 (by omega)]
 have m0:An b≠0:=fun h=>k0 ((Da k3 k4).1 h)
 have:=Ni (M:=An b) (a:=(An b).log2) (E:=Av b+-E6 b) (Nat.log2_self_le m0) (by omega)
 have hl:=Jr (An b) (Av b+-E6 b)
 have e2:Bx (Bp b) (B1 (An b) (Av b+-E6 b))%2^63=B1 (An b) (Av b+-E6 b):=by unfold Bx; split<;>omega
 show pw 0≤Bx (Bp b) (B1 (An b) (Av b+-E6 b))%2^63
 rw [e2]; exact this
theorem Ake {x:Int} {l:List Int} {m:Nat} (k:Aj x.toNat=4):N7 (x::l) m=Sq:=A8u k
theorem Adj {x:Int} {l:List Int} {m:Nat} (k:Aj x.toNat≠4):N7 (x::l) m=N7 l (max m (Dy x.toNat)):=A8t k
theorem Ao0:∀ (l:List Int) (m:Nat),N7 l m=Sq∨N7 l m=m∨∃ x∈l,Aj x.toNat≠4∧N7 l m=Dy x.toNat
 | [],_=>.inr (.inl rfl)
 | x::l,m=>by
   by_cases k4:Aj x.toNat=4
   ·exact .inl (Ake k4)
   rw [Adj k4]
   rcases Ao0 l (max m (Dy x.toNat)) with g | g | ⟨y,hy,g,g'⟩
   ·exact .inl g
   ·rw [g]
    rcases Nat.le_total m (Dy x.toNat) with k | k
    ·exact .inr (.inr ⟨x,A9m,k4,Nat.max_eq_right k⟩)
    ·exact .inr (.inl (Nat.max_eq_left k))
   ·exact .inr (.inr ⟨y,A9c _ hy,g,g'⟩)
theorem Am4:∀ (l:List Int) (m:Nat),N7 l m=Sq∨(m≤N7 l m∧∀ x∈l,Dy x.toNat≤N7 l m)
 | [],_=>.inr ⟨A81 _,fun _ h=>by cases h⟩
 | x::l,m=>by
   by_cases k4:Aj x.toNat=4
   ·exact .inl (Ake k4)
   rw [Adj k4]
   rcases Am4 l (max m (Dy x.toNat)) with g | ⟨g1,g2⟩
   ·exact .inl g
   ·refine .inr ⟨by omega,fun y hy=>?_⟩
    rcases List.mem_cons.1 hy with rfl | hy
    ·omega
    ·exact g2 y hy
theorem Yu (b:Nat):Aj (Dy b)=Aj b:=by
 have h1:D5 (Dy b)=D5 b:=by unfold D5 Dy; omega
 have h2:C9 (Dy b)=C9 b:=by unfold C9 Dy; omega
 unfold Aj; rw [h1,h2]
theorem abs_zero {b:Nat} (h:Dy b=0):Aj b=0:=by
 rw [← Yu,h]; decide
theorem Awn {y:List Int} (h:∃ x∈y,A7 x≠0):N7 y 0=Sq∨∃ z∈y,Aj z.toNat≠4∧Aj z.toNat≠0∧N7 y 0=Dy z.toNat:=by
 obtain ⟨x,hx,hk⟩:=h
 rcases Am4 y 0 with g | ⟨_,g⟩
 ·exact .inl g
 have g:=g x hx
 have x0:Dy x.toNat≠0:=fun e=>hk (by unfold A7; rw [abs_zero e]; rfl)
 rcases Ao0 y 0 with e | e | ⟨z,hz,k,e⟩
 ·exact .inl e
 ·omega
 ·refine .inr ⟨z,hz,k,fun k0=>?_,e⟩
  have:=Iu k0
  unfold Dy at e g x0; omega
theorem Amg (b:Nat):Aj (Eg b)=Aj b:=by
 have h1:D5 (Eg b)=D5 b:=by unfold D5 Eg; split<;>omega
 have h2:C9 (Eg b)=C9 b:=by unfold C9 Eg; split<;>omega
 unfold Aj; rw [h1,h2]
end Go.Cv
namespace Go.Cv
open Go.Den
theorem Aak {V u k:Nat} {E:Int} (hk:k≤1023) (h:V≤2^u) (g:(u:Int)+E≤k):B1 V E≤pw k:=by
 refine A9e (Gj h) ?_
 obtain ⟨t,ht⟩:∃ t:Nat,t=1074:=⟨1074,rfl⟩
 rw [← Aan hk,← ht]
 by_cases hE:-1074≤E
 ·have s:=(Di (2^u) (E+1074).toNat E).1
  rw [show E-((E+1074).toNat:Int)=-1074 by omega,← A8w] at s
  rw [← s]
  exact Gj (A8m (by decide) (by omega))
 ·have s:=(Di (2^(k+t)) (-1074-E).toNat (-1074)).1
  rw [show (-1074:Int)-((-1074-E).toNat:Int)=E by omega,← A8w] at s
  rw [← s]
  exact Gj (A8m (by decide) (by omega))
theorem Bd.Rr {k V u:Nat} {E:Int} (s:Bool) (hk:k≤1023) (h:V≤2^u) (g:(u:Int)+E≤k):Bd k (Bx s (Go.Cv.B1 V E)):=Bd.B1 s hk (Aak hk h g)
theorem Bd.log {k a:Nat} (h:Bd k a) (h0:An a≠0):((An a).log2:Int)+Av a≤k:=by
 have pa:=Cu a
 have hm:=h.2.2
 obtain ⟨t,ht⟩:∃ t:Nat,t=1074:=⟨1074,rfl⟩
 have e:Kg a=An a*2^(Av a+1074).toNat:=by unfold Kg Fq; congr 2
 rw [e,← ht] at hm
 have h1:=A8j (2^(Av a+1074).toNat) (Nat.log2_self_le h0)
 rw [← A8w] at h1
 have:=(Nat.pow_le_pow_iff_right (a:=2) (by decide)).1 (A9e h1 hm)
 omega
theorem Bd.part {k a:Nat} (h:Bd k a) (h0:An a≠0):An a≤2^((k:Int)-Av a).toNat∧Av a≤k:=by
 have pa:=Cu a
 have hm:=h.2.2
 have hl:=h.log h0
 obtain ⟨t,ht⟩:∃ t:Nat,t=1074:=⟨1074,rfl⟩
 have e:Kg a=An a*2^(Av a+1074).toNat:=by unfold Kg Fq; congr 2
 refine ⟨?_,by omega⟩
 rw [e,← ht,show k+t=((k:Int)-Av a).toNat+(Av a+1074).toNat by omega,A8w] at hm
 exact Nat.le_of_mul_le_mul_right hm (B5 _)
theorem Bd.scale {k j a:Nat} {n:Int} (hj:j≤1023) (h:Bd k a) (g:(k:Int)+n≤j):Bd j (Cj a n).1:=by
 by_cases k0:Aj a=0
 ·unfold Cj
  rw [A8t h.2.1,A8u (.inr k0)]
  refine .P1 hj h.2.1 ?_
  rw [Iu k0]; exact Nat.zero_le _
 have h0:An a≠0:=fun e=>k0 ((Da h.1 h.2.1).1 e)
 rw [Jq h.2.1 (by have:=h.1; omega)]
 obtain ⟨p1,p2⟩:=h.part h0
 exact .Rr _ hj p1 (by omega)
theorem Aj7 {a b:Nat} (a3:Aj a≠3) (a4:Aj a≠4) (b3:Aj b≠3) (b4:Aj b≠4) (h:Dy a≤Dy b) (h0:An a≠0):((An a).log2:Int)+Av a≤((An b).log2:Int)+Av b:=by
 have pa:=Cu a
 have pb:=Cu b
 have hm:Fq a (-1074)≤Fq b (-1074):=by
  rcases A84 (Fq b (-1074)) (Fq a (-1074)) with g | g
  ·have:=(Ach (f:=-1074) b4 a4 pb.1 pa.1).1 g
   unfold Dy at h; omega
  ·exact g
 unfold Fq at hm
 have hb0:An b≠0:=fun e=>by
  rw [e,Nat.zero_mul] at hm
  have:=Nat.mul_pos (show 0<An a by omega) (B5 (Av a - -1074).toNat)
  omega
 have h1:=A8j (2^(Av a - -1074).toNat) (Nat.log2_self_le h0)
 have h2:=Nat.mul_lt_mul_of_pos_right (Nat.lt_log2_self (n:=An b)) (B5 (Av b - -1074).toNat)
 rw [← A8w] at h1 h2
 have:=(Nat.pow_lt_pow_iff_right (a:=2) (by decide)).1 (A89 (A9e h1 hm) h2)
 omega
theorem Bd.down {a b:Nat} (a3:Aj a≠3) (a4:Aj a≠4) (b3:Aj b≠3) (b4:Aj b≠4) (h:Dy a≤Dy b):Bd 1 (Cj a (-E6 b)).1:=by
 by_cases k0:Aj a=0
 ·unfold Cj
  rw [A8t a4,A8u (.inr k0)]
  refine .P1 (by decide) a4 ?_
  rw [Iu k0]; exact Nat.zero_le _
 have h0:An a≠0:=fun e=>k0 ((Da a3 a4).1 e)
 have hb0:Aj b≠0:=fun e=>by
  have:=Iu e
  have hh:Aj a=0:=abs_zero (by unfold Dy at h ⊢; omega)
  exact k0 hh
 have hl:=Aj7 a3 a4 b3 b4 h h0
 obtain ⟨ee,_⟩:=Uo b3 b4 hb0
 rw [Jq a4 (by omega)]
 exact .Rr _ (by decide) (Nat.le_of_lt (Nat.lt_log2_self (n:=An a))) (by omega)
structure Lo (t:Nat) (a:Nat):Prop where
 k3:Aj a≠3
 k4:Aj a≠4
 m0:An a≠0
 log:-(t:Int)≤((An a).log2:Int)+Av a
theorem Lo.k0 {t a:Nat} (h:Lo t a):Aj a≠0:=fun e=>h.m0 ((Da h.k3 h.k4).2 e)
theorem Lo.mono {s t a:Nat} (h:Lo s a) (g:s≤t):Lo t a:=⟨h.k3,h.k4,h.m0,by have:=h.log; omega⟩
theorem Lo.Ab6 {a:Nat} (k3:Aj a≠3) (k4:Aj a≠4) (h:pw 0≤a%2^63):Lo 0 a:=by
 obtain ⟨h1,h2⟩:=Ra h
 have h0:An a≠0:=by omega
 refine ⟨k3,k4,h0,?_⟩
 have:=(Nat.le_log2 h0).2 h1
 omega
theorem Lo.Alu {t a b:Nat} (h:Lo t a) (b3:Aj b≠3) (b4:Aj b≠4) (g:Dy a≤Dy b):Lo t b:=by
 have hl:=Aj7 h.k3 h.k4 b3 b4 g h.m0
 refine ⟨b3,b4,fun e=>?_,by have:=h.log; omega⟩
 have k0:=Iu ((Da b3 b4).1 e)
 exact h.k0 (abs_zero (by unfold Dy at g ⊢; omega))
theorem As5 {X Y K u:Nat} (hY:0<Y) (h:X*2^K≤Y*2^u):Fu X Y K≤2^(u+1):=by
 unfold Fu
 have hd:=Nat.div_add_mod (X*2^K) Y
 have hq:X*2^K / Y≤2^u:=Nat.div_le_of_le_mul h
 rw [Nat.pow_succ]
 split
 ·omega
 ·rename_i hr
  have:X*2^K / Y≠2^u:=fun e=>by
   rw [e] at hd
   omega
  omega
theorem Bd.div {j t a b:Nat} (hk:j+t≤1023) (ha:Bd j a) (hb:Lo t b):Bd (j+t) (Sm a b).1:=by
 have b0:=hb.k0
 have a3:=ha.1
 have a4:=ha.2.1
 have b3:=hb.k3
 have b4:=hb.k4
 unfold Sm
 rw [A8t (by omega),A8t (by omega),A8t a3]
 by_cases k0:Aj a=0
 ·rw [A8u (.inr k0)]; exact .zero _ _
 rw [A8t (by omega),A8t b0]
 have m0:An a≠0:=fun e=>k0 ((Da a3 a4).1 e)
 obtain ⟨p1,p2⟩:=ha.part m0
 have hl:=hb.log
 have l52:=Aji hb.m0
 obtain ⟨u,hu⟩:∃ u:Nat,(u:Int)=(j:Int)+t-Av a+Av b+120:=⟨((j:Int)+t-Av a+Av b+120).toNat,by omega⟩
 refine .Rr _ hk (As5 (u:=u) (by have:=hb.m0; omega) ?_) (by omega)
 refine A9e (A8j _ p1) (A9e ?_ (A8j _ (Nat.log2_self_le hb.m0)))
 rw [← A8w,← A8w]
 exact A8m (by decide) (by omega)
theorem Apn {n u:Nat} (h:n≤2^(u+u)):Ey n≤2^(u+1):=by
 obtain ⟨h1,_⟩:=Nm n
 rw [A8w] at h
 have hq:Mj n≤2^u:=by
  rcases A84 (2^u) (Mj n) with g | g
  ·have:=Nat.mul_lt_mul'' g g
   omega
  ·exact g
 unfold Ey
 rw [Nat.pow_succ]
 split
 ·omega
 ·rename_i hr
  have:Mj n≠2^u:=fun e=>by
   rw [e] at h1 hr
   omega
  omega
theorem Bd.root {j b:Nat} (hj:j≤1000) (hb:Bd (j+j) b) (hn:Bp b=false):Bd j (Hw b).1:=by
 by_cases k0:Aj b=0
 ·rw [Ov hb.2.1 (.inl k0)]
  refine .P1 (by omega) hb.2.1 ?_
  rw [Iu k0]; exact Nat.zero_le _
 have m0:An b≠0:=fun e=>k0 ((Da hb.1 hb.2.1).1 e)
 have hi:b≠Ei:=fun e=>hb.1 (by rw [e]; exact Ajv)
 rw [Wi hb.2.1 (fun h=>h.elim k0 hi) hn]
 obtain ⟨p1,p2⟩:=hb.part m0
 obtain ⟨r1,r2⟩:=Wr m0
 generalize hr:(Av b-(Fv b:Int)) / 2-1=r at r2 ⊢
 have hrk:128≤Fv b:=by unfold Fv; omega
 obtain ⟨u,hu⟩:∃ u:Nat,(u:Int)=(j:Int)-r-1:=⟨((j:Int)-r-1).toNat,by omega⟩
 have h2:An b*2^Fv b≤2^(u+u):=by
  refine A9e (A8j _ p1) ?_
  rw [← A8w]
  exact A8m (by decide) (by omega)
 have:=Bd.Rr (k:=j) (E:=r) false (by omega) (Apn h2) (by omega)
 rw [Ip] at this
 exact this
def Bm (m k:Nat) (a:Nat):Prop:=Aj a≠3∧Aj a≠4∧Kg a≤m*2^(k+1074)
theorem Bd.bm {k a:Nat} (h:Bd k a):Bm 1 k a:=⟨h.1,h.2.1,by rw [Nat.one_mul]; exact h.2.2⟩
theorem Bm.bd {m k a j:Nat} (h:Bm m k a) (hm:m≤2^j):Bd (k+j) a:=by
 refine ⟨h.1,h.2.1,A9e h.2.2 ?_⟩
 obtain ⟨t,ht⟩:∃ t:Nat,t=1074:=⟨1074,rfl⟩
 rw [← ht,show k+j+t=j+(k+t) by omega,A8w 2 j]
 exact A8j _ hm
theorem Avr {m k:Nat} (h0:m≠0) (hm:m≤1024) (hk:k≤1000):∃ z:Nat,z=B1 (m*2^(k+1074)) (-1074)∧z%2^63=z∧Aj z≠4∧Kg z=m*2^(k+1074):=by
 obtain ⟨t,ht⟩:∃ t:Nat,t=1074:=⟨1074,rfl⟩
 have s:=(Di m (k+t) k).1
 rw [show (k:Int)-((k+t:Nat):Int)=-1074 by omega] at s
 have hu:B1 m k≤pw (k+10):=Aak (by omega) (u:=10) (by omega) (by omega)
 have hi:B1 m k<Ei:=A89 hu (Qw (by omega)).2.2.2.2
 obtain ⟨_,d,e1,e2⟩:=Ac4 false h0 (Zo (V:=m) (E:=(k:Int)) (by omega) (by omega)) hi
 rw [Ip] at e1 e2
 have hl:=Jr m k
 have pe:=Cu (B1 m k)
 have k4:=Q5 false m k
 rw [Ip] at k4
 refine ⟨B1 m k,?_,A8k hl,k4,?_⟩
 ·rw [← ht]; exact s.symm
 ·unfold Kg Fq
  rw [e1,e2,A8y,← A8w]
  congr 2
  omega
theorem Bm.P1 {m k a z:Nat} (hz:Kg z=m*2^(k+1074)) (z4:Aj z≠4) (zi:z%2^63<Ei) (a4:Aj a≠4) (h:a%2^63≤z%2^63):Bm m k a:=by
 have a3:Aj a≠3:=fun e=>by have:=Ru e; omega
 refine ⟨a3,a4,?_⟩
 rw [← hz]
 have pa:=Cu a
 have pz:=Cu z
 rcases A84 (Kg z) (Kg a) with g | g
 ·have:=(Ach (f:=-1074) z4 a4 pz.1 pa.1).1 g
  omega
 ·exact g
theorem Bm.add {m n k a b:Nat} (h0:m+n≠0) (hmn:m+n≤1024) (hk:k≤1000) (ha:Bm m k a) (hb:Bm n k b):Bm (m+n) k (Gf a b).1:=by
 obtain ⟨a3,a4,am⟩:=ha
 obtain ⟨b3,b4,bm⟩:=hb
 have pa:=Cu a
 have pb:=Cu b
 have ek:=Aa4 a3 a4 b3 b4 (g:=-1074) (by omega)
 have e4:Aj (Gf a b).1≠4:=by
  rw [Tw (by omega) a3 b3]
  unfold Lu
  split
  ·have:Aj (Bx (Bp a&&Bp b) 0)=0:=by cases (Bp a&&Bp b)<;>decide
   show Aj (Bx (Bp a&&Bp b) 0)≠4
   omega
  ·exact Q5 _ _ _
 obtain ⟨z,ez,z63,z4,zm⟩:=Avr h0 hmn hk
 have zi:z%2^63<Ei:=by
  have hu:z≤pw (k+10):=by
   rw [ez]
   refine Aak (u:=k+1074+10) (by omega) ?_ (by omega)
   rw [A8w 2 (k+1074),A8v]
   exact Nat.mul_le_mul_left _ hmn
  have:=(Qw (k:=k+10) (by omega)).2.2.2.2
  omega
 refine .P1 zm z4 zi e4 ?_
 have hs:(Fo a (-1074)+Fo b (-1074)).natAbs≤(m+n)*2^(k+1074):=by
  have h1:=Lz a
  have h2:=Lz b
  have:(m+n)*2^(k+1074)=m*2^(k+1074)+n*2^(k+1074):=A9b _ _ _
  omega
 have hr:=Gj (E:=-1074) hs
 rw [← ez] at hr
 have hn:(Jj (Gf a b).1).natAbs=(Gf a b).1%2^63:=by unfold Jj; rw [Aaj]
 rw [← hn,ek,z63]
 unfold Adt
 split<;>omega
theorem Bm.minus {m k b:Nat} (hb:b<2^64) (h:Bm m k b):Bm m k (Eg b):=by
 obtain ⟨h3,h4,hm⟩:=h
 obtain ⟨v1,v2,v3⟩:=Ad5 hb (-1074)
 have hf:Ii b=true:=by rw [Lc]; simp [h3,h4]
 have k':=Jk (v3.trans hf)
 refine ⟨k'.2,k'.1,?_⟩
 rw [← Lz,v1,Int.natAbs_neg,Lz]; exact hm
def Bl (k:Nat) (l:List Int):Prop:=∀ x∈l,Bd k x.toNat
theorem Bl.mono {j k:Nat} {l:List Int} (h:Bl j l) (g:j≤k):Bl k l:=fun x hx=>(h x hx).mono g
theorem Azz {k:Nat} {x:Int} {l:List Int} (h1:Bd k x.toNat) (h2:Bl k l):Bl k (x::l):=fun y hy=>by
 rcases List.mem_cons.1 hy with rfl | hy
 ·exact h1
 ·exact h2 y hy
theorem Y3 {α:Type} {k:Nat} {l:List α} {f:α→Int} (h:∀ j,Bd k (f j).toNat):Bl k (l.map f):=fun x hx=>by
 obtain ⟨j,_,rfl⟩:=List.mem_map.1 hx
 exact h j
theorem R8 {k:Nat} {l:List Int} (h:Bl k l) (j:Nat):Bd k (l.getD j 0).toNat:=by
 by_cases hj:j<l.length
 ·rw [A8h,A8o hj]; exact h _ (List.getElem_mem hj)
 ·rw [A8h,A9p (by omega)]; exact Bd.zero false k
theorem Ahq {k r c:Nat} {f:Nat→Nat→Int} (h:∀ i j,Bd k (f i j).toNat):Bl k (C4 r c f):=fun x hx=>by
 unfold C4 at hx
 obtain ⟨j,_,rfl⟩:=List.mem_map.1 hx
 exact h _ _
theorem Aou {j k:Nat} (hjk:j+k≤1000):∀ (x y:List Int) (s t:Nat),Bl j x→Bl k y→Bm t (j+k) s→0<t→t+x.length≤1024→Bm (t+x.length) (j+k) (U0 s x y)
 | [],_,s,t,_,_,hs,_,_=>hs
 | a::x,[],s,t,_,_,hs,_,_=>⟨hs.1,hs.2.1,A9e hs.2.2 (A8j _ (by omega))⟩
 | a::x,b::y,s,t,hx,hy,hs,h0,ht=>by
   simp only [List.length_cons] at ht ⊢
   have h1:Bm (t+1) (j+k) (Gf s (Hc a.toNat b.toNat).1).1:=Bm.add (by omega) (by omega) hjk hs (Bd.mul (by omega) (hx a A9m) (hy b A9m)).bm
   have:=Aou hjk x y _ (t+1) (fun z hz=>hx z (A9c _ hz)) (fun z hz=>hy z (A9c _ hz)) h1 (by omega) (by omega)
   rw [show t+(x.length+1)=t+1+x.length by omega]
   exact this
theorem Ahm {j k:Nat} {x y:List Int} (hjk:j+k≤1000) (hx:Bl j x) (hy:Bl k y) (hl:x.length≤7):Bd (j+k+3) (M5 x y).toNat:=by
 have z:Bm 1 (j+k) 0:=(Bd.zero false (j+k)).bm
 have:=Aou hjk x y 0 1 hx hy z (by decide) (by omega)
 show Bd (j+k+3) (toNat ((U0 0 x y:Nat):Int))
 rw [A79]
 exact this.bd (by omega)
end Go.Cv
namespace Go.Cv
open Go.Den
def tw (e:Int):Rat:=(2:Rat)^e
theorem Sw:(2:Rat)≠0:=by decide
theorem E3 (a b:Int):tw (a+b)=tw a*tw b:=Rat.zpow_add Sw a b
theorem T2:tw 0=1:=Rat.zpow_zero 2
theorem D0 (e:Int):0<tw e:=Rat.zpow_pos (by decide)
theorem J3 (n:Nat):tw (n:Int)=((2^n:Nat):Rat):=by
 unfold tw
 rw [Rat.zpow_natCast]
 induction n with
 | zero=>rfl
 | succ n ih=>rw [Rat.pow_succ,ih,Nat.pow_succ]; exact (Rat.natCast_mul _ _).symm
theorem Apb (n:Nat):1≤tw (n:Int):=by
 rw [J3]
 have:=B5 n
 exact Rat.natCast_le_natCast.2 (show 1≤2^n from this)
theorem Aea {a b:Int} (h:a≤b):tw a≤tw b:=by
 have e:b=a+((b-a).toNat:Int):=by omega
 rw [e,E3]
 have h1:=Apb (b-a).toNat
 have h2:=D0 a
 have:=Rat.mul_le_mul_of_nonneg_left h1 (Rat.le_of_lt h2)
 rw [Rat.mul_one] at this
 exact this
theorem Aac (e:Int):tw (e+1)=2*tw e:=by
 have:tw 1=2:=by
  have:=J3 1
  exact this
 rw [E3,this]; grind
theorem A3r (e:Int):tw e≠0:=fun h=>by have:=D0 e; grind
theorem Sx (V k:Nat) (E:Int):((V*2^k:Nat):Rat)*tw (E-k)=(V:Rat)*tw E:=by
 have e:tw E=tw (E-k)*tw (k:Int):=by rw [← E3]; congr 1; omega
 rw [e,Rat.natCast_mul,← J3]
 grind
def Nr (x y d:Rat):Prop:=x≤y+d∧y≤x+d
theorem Nr.mono {x y d e:Rat} (h:Nr x y d) (g:d≤e):Nr x y e:=by unfold Nr at *; grind
theorem Nr.symm {x y d:Rat} (h:Nr x y d):Nr y x d:=⟨h.2,h.1⟩
theorem Nr.trans {x y z d e:Rat} (h:Nr x y d) (g:Nr y z e):Nr x z (d+e):=by unfold Nr at *; grind
theorem Nr.neg {x y d:Rat} (h:Nr x y d):Nr (-x) (-y) d:=by unfold Nr at *; grind
theorem Att (V k:Nat):2*(Jt V k*2^k)≤2*V+2^k∧2*V≤2*(Jt V k*2^k)+2^k:=by
 have hd:=Nat.div_add_mod V (2^k)
 have hm:=Nat.mod_lt V (B5 k)
 unfold Jt
 rw [A9b,A8v (V / 2^k)]
 split
 ·rw [Nat.one_mul]; omega
 ·rw [Nat.zero_mul]; omega
theorem Ap7 (V k:Nat):Nr ((Jt V k*2^k:Nat):Rat) (V:Rat) (tw ((k:Int)-1)):=by
 obtain ⟨h1,h2⟩:=Att V k
 have e:((2^k:Nat):Rat)=2*tw ((k:Int)-1):=by
  rw [← J3,← Aac]; congr 1; omega
 have h1:((2*(Jt V k*2^k):Nat):Rat)≤((2*V+2^k:Nat):Rat):=Rat.natCast_le_natCast.2 h1
 have h2:((2*V:Nat):Rat)≤((2*(Jt V k*2^k)+2^k:Nat):Rat):=Rat.natCast_le_natCast.2 h2
 rw [Rat.natCast_add,Rat.natCast_mul 2,Rat.natCast_mul 2,e] at h1 h2
 have t:((2:Nat):Rat)=2:=rfl
 rw [t] at h1 h2
 unfold Nr
 grind
theorem Nr.scale {x y d c:Rat} (h:Nr x y d) (hc:0≤c):Nr (x*c) (y*c) (d*c):=by
 have h1:=Rat.mul_le_mul_of_nonneg_right h.1 hc
 have h2:=Rat.mul_le_mul_of_nonneg_right h.2 hc
 unfold Nr
 grind
theorem Aq4 (M:Nat) (E:Int):Nr ((kept M E:Rat)*tw (Bz M E)) ((M:Rat)*tw E) (if Bz M E≤E then 0 else tw (Bz M E-1)):=by
 unfold kept J1
 generalize Bz M E=L
 by_cases h:L≤E
 ·rw [A8u h]
  have e1:(L-E).toNat=0:=by omega
  have e2:tw L=tw (E-((-(L-E)).toNat:Int)):=by congr 1; omega
  rw [e1,Ox,e2,Sx]
  unfold Nr; grind
 ·rw [A8t h]
  have e1:(-(L-E)).toNat=0:=by omega
  rw [e1,A85,A9g]
  have h1:=(Ap7 M (L-E).toNat).scale (c:=tw E) (Rat.le_of_lt (D0 E))
  have e2:((Jt M (L-E).toNat*2^(L-E).toNat:Nat):Rat)*tw E=(Jt M (L-E).toNat:Rat)*tw L:=by
   have:=Sx (Jt M (L-E).toNat) (L-E).toNat L
   rw [show L-((L-E).toNat:Int)=E by omega] at this
   exact this
  have e3:tw (((L-E).toNat:Int)-1)*tw E=tw (L-1):=by rw [← E3]; congr 1; omega
  rw [e2,e3] at h1
  exact h1
def Qt (s:Bool):Rat:=if s then -1 else 1
def vR (a:Nat):Rat:=Qt (Bp a)*((An a:Nat):Rat)*tw (Av a)
theorem Agj (s:Bool) (m:Nat):((Ik s m:Int):Rat)=Qt s*(m:Rat):=by
 unfold Ik Qt
 cases s
 ·simp; rfl
 ·show (((-(m:Int)):Int):Rat)=-1*(m:Rat)
  rw [Rat.intCast_neg]
  have e:((m:Int):Rat)=(m:Rat):=rfl
  rw [e]; grind
theorem Anr (s t:Bool):Qt (s !=t)=Qt s*Qt t:=by
 cases s<;>cases t<;>decide +kernel
theorem Asd {a:Nat} {g:Int} (h:g≤Av a):((Fo a g:Int):Rat)*tw g=vR a:=by
 unfold Fo vR
 rw [Agj]
 have:=Sx (An a) (Av a-g).toNat (Av a)
 rw [show Av a-((Av a-g).toNat:Int)=g by omega] at this
 rw [Rat.mul_assoc,this,Rat.mul_assoc]
theorem Atm (s:Bool) {V:Nat} {E:Int} (hi:B1 V E<Ei):vR (Bx s (B1 V E))=Qt s*((kept V E:Rat)*tw (Bz V E)):=by
 by_cases h0:V=0
 ·subst h0
  have e1:B1 0 E=0:=by unfold B1; rw [A8u rfl]
  have e2:kept 0 E=0:=by
   unfold kept J1 Jt
   rw [Nat.zero_mul,Nat.zero_div,Nat.zero_mod]
   have:=B5 (Bz 0 E-E).toNat
   rw [A8t (by omega)]
  have e3:An (Bx s 0)=0:=by cases s<;>decide
  rw [e1,e2]
  unfold vR
  rw [e3]
  have z:((0:Nat):Rat)=0:=rfl
  rw [z]
  grind
 have er:B1 V E=(Bz V E+1074).toNat*2^52+kept V E:=by
  unfold B1 at hi ⊢
  rw [A8t h0] at hi ⊢
  omega
 have hl:-1074≤Bz V E:=by unfold Bz; omega
 have hk:=Aog (V:=V) (E:=E)
 have hlt:=Jr V E
 rw [er] at hi hlt
 rw [er]
 by_cases hq:kept V E<2^53
 ·have hc:2^52≤kept V E∨Bz V E=-1074:=by
   by_cases h:Bz V E=E+V.log2-52
   ·exact .inl (Ag4 h0 h)
   ·refine .inr ?_
    unfold Bz at h ⊢; omega
  obtain ⟨p1,p2⟩:=Vf s hq hl hc hi
  unfold vR
  rw [p1,p2,sign_neg s hlt,Rat.mul_assoc]
 ·have hq:kept V E=2^53:=by omega
  rw [hq] at hi hlt ⊢
  have e:(Bz V E+1074).toNat*2^52+2^53=(Bz V E+1+1074).toNat*2^52+2^52:=by omega
  rw [e] at hi hlt ⊢
  obtain ⟨p1,p2⟩:=Vf s (q:=2^52) (L:=Bz V E+1) (by decide) (by omega) (.inl (A81 _)) hi
  unfold vR
  rw [p1,p2,sign_neg s hlt,Rat.mul_assoc,Aac]
  have t:((2^53:Nat):Rat)=2*((2^52:Nat):Rat):=by decide +kernel
  rw [t]
  grind
def uR:Rat:=tw (-53)
def Cb:Rat:=tw (-1075)
theorem Fa:0<uR:=D0 _
theorem Ex:0<Cb:=D0 _
theorem Ath {s:Bool} {x y d:Rat} (h:Nr x y d):Nr (Qt s*x) (Qt s*y) d:=by
 unfold Qt
 unfold Nr at *
 cases s<;>simp<;>grind
theorem Auz {V:Nat} (h:V≠0):tw (V.log2:Int)≤(V:Rat):=by
 rw [J3]
 exact Rat.natCast_le_natCast.2 (Nat.log2_self_le h)
theorem Mu (V:Nat):(0:Rat)≤(V:Rat):=by
 have:((0:Nat):Rat)≤(V:Rat):=Rat.natCast_le_natCast.2 (Nat.zero_le V)
 exact this
theorem Qm (V:Nat) (E:Int):0≤(V:Rat)*tw E:=Rat.mul_nonneg (Mu V) (Rat.le_of_lt (D0 E))
theorem Ay6 {V:Nat} {E:Int} (h0:V≠0):(if Bz V E≤E then 0 else tw (Bz V E-1))≤uR*((V:Rat)*tw E)+Cb∧(-1074≤E→(if Bz V E≤E then 0 else tw (Bz V E-1))≤uR*((V:Rat)*tw E))∧(V<2^53→(if Bz V E≤E then 0 else tw (Bz V E-1))≤Cb):=by
 have hn:=Qm V E
 have hu:=Rat.mul_nonneg (Rat.le_of_lt Fa) hn
 have he:=Ex
 by_cases h:Bz V E≤E
 ·rw [A8u h]
  exact ⟨by grind,fun _=>hu,fun _=>by grind⟩
 rw [A8t h]
 by_cases h1:Bz V E=E+V.log2-52
 ·have e:tw (Bz V E-1)=uR*(tw (V.log2:Int)*tw E):=by
   unfold uR
   rw [h1,← E3,← E3]; congr 1; omega
  have hl:=Rat.mul_le_mul_of_nonneg_right (Auz h0) (Rat.le_of_lt (D0 E))
  have hl:=Rat.mul_le_mul_of_nonneg_left hl (Rat.le_of_lt Fa)
  rw [e]
  refine ⟨by grind,fun _=>hl,fun hv=>?_⟩
  have:=Aqx hv
  omega
 ·have e:Bz V E=-1074:=by unfold Bz at h1 ⊢; omega
  have e2:tw (Bz V E-1)=Cb:=by unfold Cb; rw [e]; rfl
  rw [e2]
  exact ⟨by grind,fun _=>by omega,fun _=>Rat.le_refl⟩
theorem S9 (s:Bool) {V:Nat} {E:Int} (hi:B1 V E<Ei):Nr (vR (Bx s (B1 V E))) (Qt s*((V:Rat)*tw E)) (uR*((V:Rat)*tw E)+Cb)∧(-1074≤E→Nr (vR (Bx s (B1 V E))) (Qt s*((V:Rat)*tw E)) (uR*((V:Rat)*tw E)))∧(V<2^53→Nr (vR (Bx s (B1 V E))) (Qt s*((V:Rat)*tw E)) Cb):=by
 rw [Atm s hi]
 by_cases h0:V=0
 ·subst h0
  have e2:kept 0 E=0:=by
   unfold kept J1 Jt
   rw [Nat.zero_mul,Nat.zero_div,Nat.zero_mod]
   have:=B5 (Bz 0 E-E).toNat
   rw [A8t (by omega)]
  rw [e2]
  have z:((0:Nat):Rat)=0:=rfl
  have he:=Ex
  rw [z]
  unfold Nr
  refine ⟨by grind,fun _=>by grind,fun _=>by grind⟩
 have h:=Ath (s:=s) (Aq4 V E)
 obtain ⟨g1,g2,g3⟩:=Ay6 (E:=E) h0
 exact ⟨h.mono g1,fun k=>h.mono (g2 k),fun k=>h.mono (g3 k)⟩
def Ab (x B:Rat):Prop:=-B≤x∧x≤B
theorem Ab.nn {x B:Rat} (h:Ab x B):0≤B:=by unfold Ab at h; grind
theorem Agk {s:Bool} {x B:Rat} (hx:0≤x):Ab (Qt s*x) B↔x≤B:=by
 unfold Ab Qt
 cases s<;>simp<;>grind
end Go.Cv
namespace Go.Cv
open Go.Den
theorem Azh {v e w f:Int} (h:(v:Rat)*tw e=(w:Rat)*tw f):mD v=mD w∧eD v e=eD w f:=by
 have key:∀ {v e w f:Int},e≤f→(v:Rat)*tw e=(w:Rat)*tw f→mD v=mD w∧eD v e=eD w f:=by
  intro v e w f hef h
  have e1:tw f=((2^(f-e).toNat:Nat):Rat)*tw e:=by
   rw [← J3,← E3]; congr 1; omega
  have h2:((v:Rat)-(w:Rat)*((2^(f-e).toNat:Nat):Rat))*tw e=0:=by rw [e1] at h; grind
  have h3:(v:Rat)=(w:Rat)*((2^(f-e).toNat:Nat):Rat):=by
   rcases Rat.mul_eq_zero.1 h2 with k | k
   ·grind
   ·exact absurd k (A3r e)
  have h4:((v:Int):Rat)=((w*((2^(f-e).toNat:Nat):Int):Int):Rat):=by
   rw [Rat.intCast_mul]; exact h3
  have h5:v=w*((2^(f-e).toNat:Nat):Int):=Rat.intCast_inj.1 h4
  refine ⟨by rw [h5,A15],?_⟩
  have h6:=A2g w f (f-e).toNat
  rw [← h5,show f-((f-e).toNat:Int)=e by omega] at h6
  exact h6
 rcases Int.le_total e f with k | k
 ·exact key k h
 ·obtain ⟨h1,h2⟩:=key k h.symm
  exact ⟨h1.symm,h2.symm⟩
open Classical in
def dyP (x:Rat):Int × Int:=if h:∃ p:Int × Int,x=(p.1:Rat)*tw p.2 then Classical.choose h else (0,0)
def mQ (x:Rat):Int:=mD (dyP x).1
def eQ (x:Rat):Int:=eD (dyP x).1 (dyP x).2
theorem Ae5 {x:Rat} {v e:Int} (h:x=(v:Rat)*tw e):mQ x=mD v∧eQ x=eD v e:=by
 have hx:∃ p:Int × Int,x=(p.1:Rat)*tw p.2:=⟨(v,e),h⟩
 have e1:dyP x=Classical.choose hx:=by unfold dyP; rw [dif_pos hx]
 have h1:=Classical.choose_spec hx
 rw [← e1] at h1
 exact Azh (h1.symm.trans h)
theorem Auu (v e:Int):((mD v:Int):Rat)*tw (eD v e)=(v:Rat)*tw e:=by
 by_cases h:v=0
 ·subst h
  rw [P4.2 rfl]
  have:((0:Int):Rat)=0:=rfl
  rw [this]; grind
 ·have e1:=Aav v
  have e2:eD v e=e+T1 v.natAbs:=by unfold eD; rw [A8t h]
  have e3:(v:Rat)=((mD v:Int):Rat)*((2^T1 v.natAbs:Nat):Rat):=by
   have h2:((v:Int):Rat)=((mD v*((2^T1 v.natAbs:Nat):Int):Int):Rat):=Rat.intCast_inj.2 e1
   rw [Rat.intCast_mul] at h2
   exact h2
  rw [e2,E3,J3,e3,← e3]
  grind
structure Dg (g t n:Nat) (x:Rat):Prop where
 ex:∃ v:Int,x=(v:Rat)*tw (-(g:Int))∧v.natAbs≤n*2^t
theorem Dg.add {g t n m:Nat} {x y:Rat} (h:Dg g t n x) (k:Dg g t m y):Dg g t (n+m) (x+y):=by
 obtain ⟨⟨v,rfl,h⟩⟩:=h
 obtain ⟨⟨w,rfl,k⟩⟩:=k
 refine ⟨v+w,?_,?_⟩
 ·rw [Rat.intCast_add]; grind
 ·rw [A9b]; omega
theorem Dg.neg {g t n:Nat} {x:Rat} (h:Dg g t n x):Dg g t n (-x):=by
 obtain ⟨⟨v,rfl,h⟩⟩:=h
 refine ⟨-v,?_,by omega⟩
 rw [Rat.intCast_neg]; grind
theorem Dg.sub {g t n m:Nat} {x y:Rat} (h:Dg g t n x) (k:Dg g t m y):Dg g t (n+m) (x-y):=by
 have:=h.add k.neg
 rw [Rat.sub_eq_add_neg]; exact this
theorem Dg.mul {g t n h s m:Nat} {x y:Rat} (a:Dg g t n x) (b:Dg h s m y):Dg (g+h) (t+s) (n*m) (x*y):=by
 obtain ⟨⟨v,rfl,a⟩⟩:=a
 obtain ⟨⟨w,rfl,b⟩⟩:=b
 refine ⟨v*w,?_,?_⟩
 ·have e:tw (-((g+h:Nat):Int))=tw (-(g:Int))*tw (-(h:Int)):=by rw [← E3]; congr 1; omega
  rw [Rat.intCast_mul,e]; grind
 ·rw [Int.natAbs_mul,A8w]
  have:=A83 a b
  have e:n*m*(2^t*2^s)=n*2^t*(m*2^s):=by
   rw [A8y,Nat.mul_left_comm m,← A8y]
  rw [e]; exact this
theorem Dg.up {g t n:Nat} {x:Rat} (h:Dg g t n x) (k:Nat):Dg (g+k) (t+k) n x:=by
 obtain ⟨⟨v,rfl,h⟩⟩:=h
 refine ⟨v*((2^k:Nat):Int),?_,?_⟩
 ·have e:tw (-(g:Int))=((2^k:Nat):Rat)*tw (-((g+k:Nat):Int)):=by
   rw [← J3,← E3]; congr 1; omega
  have e2:(((2^k:Nat):Int):Rat)=((2^k:Nat):Rat):=rfl
  rw [Rat.intCast_mul,e2,e]; grind
 ·rw [Int.natAbs_mul,Int.natAbs_natCast,A8w,← A8y]
  exact A8j _ h
theorem Dg.mono {g t n m:Nat} {x:Rat} (h:Dg g t n x) (k:n≤m):Dg g t m x:=by
 obtain ⟨⟨v,e,h⟩⟩:=h
 exact ⟨v,e,A9e h (A8j _ k)⟩
theorem Dg.wide {g t n s:Nat} {x:Rat} (h:Dg g t n x) (k:t≤s):Dg g s n x:=by
 obtain ⟨⟨v,e,h⟩⟩:=h
 exact ⟨v,e,A9e h (Nat.mul_le_mul_left _ (A8m (by decide) k))⟩
theorem Dg.scale {g t n:Nat} {x:Rat} (h:Dg g t n x) (k:Nat):Dg (g+k) t n (x*tw (-(k:Int))):=by
 obtain ⟨⟨v,rfl,h⟩⟩:=h
 refine ⟨v,?_,h⟩
 have e:tw (-((g+k:Nat):Int))=tw (-(g:Int))*tw (-(k:Int)):=by rw [← E3]; congr 1; omega
 rw [e]; grind
theorem Dg.zero (g t n:Nat):Dg g t n 0:=⟨0,by
 have:((0:Int):Rat)=0:=rfl
 rw [this]; grind,Nat.zero_le _⟩
theorem Dg.tw (g:Nat):Dg g 0 1 (tw (-(g:Int))):=⟨1,by
 have:((1:Int):Rat)=1:=rfl
 rw [this]; grind,by decide⟩
theorem Dg.word (a:Nat) {t:Nat} (ht:2099≤t):Dg 1074 t 1 (vR a):=by
 obtain ⟨p1,p2⟩:=Cu a
 refine ⟨Fo a (-1074),(Asd p1).symm,?_⟩
 have e:(Fo a (-1074)).natAbs=An a*2^(Av a-(-1074)).toNat:=Lz a
 have h1:An a≤2^53:=by have:=Fx a; omega
 have h3:=A83 h1 (A81 (2^(Av a-(-1074)).toNat))
 rw [← A8w] at h3
 rw [e,Nat.one_mul]
 exact A9e h3 (A8m (by decide) (by omega))
def Dq (x:Rat):Prop:=∃ g t n:Nat,g≤40000∧t≤40000∧n≤1073741824∧Dg g t n x
theorem Dg.dq {g t n:Nat} {x:Rat} (h:Dg g t n x) (hg:g≤40000) (ht:t≤40000) (hn:n≤1073741824):Dq x:=⟨g,t,n,hg,ht,hn,h⟩
theorem Dq.parts {x:Rat} (h:Dq x):x=((mQ x:Int):Rat)*tw (eQ x)∧Du (mQ x).natAbs<10000∧-50000≤eQ x∧eQ x≤50000∧mD (mQ x)=mQ x:=by
 obtain ⟨g,t,n,hg,ht,hn,⟨v,e,hv⟩⟩:=h
 obtain ⟨h1,h2⟩:=Ae5 e
 have b1:v.natAbs≤2^(t+30):=by
  refine A9e hv ?_
  rw [A8w,A8v]
  exact Nat.mul_le_mul_left _ hn
 have b2:v.natAbs<2^(t+31):=A89 b1 (Nat.pow_lt_pow_right (by decide) (by omega))
 refine ⟨?_,?_,?_⟩
 ·rw [h1,h2,Auu]; exact e
 ·rw [h1]
  have l1:=Yp v
  have l2:Du (mD v).natAbs≤(t+31) / 32+1:=Nb (A9i (A89 l1 b2) (A8m (by decide) (by omega)))
  omega
 ·rw [h1,h2]
  by_cases h0:v=0
  ·rw [show eD v (-(g:Int))=0 by unfold eD; rw [A8u h0],P4.2 h0]
   exact ⟨by decide,by decide,P4.2 rfl⟩
  ·have e2:eD v (-(g:Int))=-(g:Int)+T1 v.natAbs:=by unfold eD; rw [A8t h0]
   have l:=Asq (n:=v.natAbs) (by omega)
   have l2:=(A9n (n:=v.natAbs) (by omega)).2 b2
   refine ⟨by omega,by omega,?_⟩
   have:=Ae5 (x:=((mD v:Int):Rat)*tw (eD v (-(g:Int)))) rfl
   rw [Auu,← e,h1] at this
   exact this.1.symm
theorem Dq.Zk {x:Rat} (h:Dq x):Zk (A2 (mQ x)) (Ah (mQ x))=true:=Als (by have:=h.parts.2.1; omega)
theorem Dq.Ll {x:Rat} (h:Dq x):Ll (A2 (mQ x)) (Ah (mQ x))=true:=Ix (by have:=h.parts.2.1; omega)
theorem Dq.okM {x:Rat} (h:Dq x):okM (A2 (mQ x)) (Ah (mQ x))=true:=Ao.2 ⟨by unfold Ah; rw [Hj]; have:=h.parts.2.1; omega,Adf _⟩
theorem Dq.Sl {x:Rat} (h:Dq x):Sl (eQ x)=true:=Ao.2 (by have:=h.parts.2.2; omega)
def vQ (n:Bool) (a:List Int) (e:Int):Rat:=((wv n a:Int):Rat)*tw e
def Zs (n:Bool) (a:List Int) (e:Int):Bool:=Cr (∃ x,Dq x∧n=A2 (mQ x)∧a=Ah (mQ x)∧e=eQ x)
theorem Ahi {x:Rat} (h:Dq x):Zs (A2 (mQ x)) (Ah (mQ x)) (eQ x)=true:=Ao.2 ⟨x,h,rfl,rfl,rfl⟩
theorem Pv {x:Rat} (h:Dq x):vQ (A2 (mQ x)) (Ah (mQ x)) (eQ x)=x:=by
 unfold vQ
 rw [Ft]; exact h.parts.1.symm
theorem Om {n:Bool} {a:List Int} {e:Int} (h:Zs n a e=true):∃ x,Dq x∧n=A2 (mQ x)∧a=Ah (mQ x)∧e=eQ x:=Ao.1 h
theorem Af0 {v e l:Int} (h:l≤e):((vAt v e l:Int):Rat)*tw l=(v:Rat)*tw e:=by
 unfold vAt
 have e1:tw e=((2^(e-l).toNat:Nat):Rat)*tw l:=by
  rw [← J3,← E3]; congr 1; omega
 have e2:(((2^(e-l).toNat:Nat):Int):Rat)=((2^(e-l).toNat:Nat):Rat):=rfl
 rw [Rat.intCast_mul,e2,e1]; grind
theorem Ano {v e l:Int} (h:v≠0→l≤e):((Ja v (e-l):Int):Rat)*tw l=(v:Rat)*tw e:=by
 rw [Agh h]
 by_cases h0:v=0
 ·subst h0
  rw [Kb]
  have:((0:Int):Rat)=0:=rfl
  rw [this]; grind
 ·exact Af0 (h h0)
theorem Awx (v e w f:Int):((Am8 v e w f:Int):Rat)*tw (Dt v e w f)=(v:Rat)*tw e+(w:Rat)*tw f:=by
 obtain ⟨l1,l2⟩:=Auv (v:=v) (e:=e) (w:=w) (f:=f)
 unfold Am8
 have h1:=Ano l1
 have h2:=Ano l2
 rw [Rat.intCast_add,← h1,← h2]; grind
theorem A5n (v e w f:Int):Pu v e w f=mQ ((v:Rat)*tw e+(w:Rat)*tw f)∧Akl v e w f=eQ ((v:Rat)*tw e+(w:Rat)*tw f):=by
 obtain ⟨h1,h2⟩:=Ae5 (Awx v e w f).symm
 exact ⟨h1.symm,h2.symm⟩
theorem A1u (v e:Int):mD v=mQ ((v:Rat)*tw e)∧eD v e=eQ ((v:Rat)*tw e):=by
 obtain ⟨h1,h2⟩:=Ae5 (x:=(v:Rat)*tw e) rfl
 exact ⟨h1.symm,h2.symm⟩
theorem A7f (v e w f:Int):mD (v*w)=mQ ((v:Rat)*tw e*((w:Rat)*tw f))∧eD (v*w) (e+f)=eQ ((v:Rat)*tw e*((w:Rat)*tw f)):=by
 have h:(v:Rat)*tw e*((w:Rat)*tw f)=((v*w:Int):Rat)*tw (e+f):=by
  rw [Rat.intCast_mul,E3]; grind
 obtain ⟨h1,h2⟩:=Ae5 h
 exact ⟨h1.symm,h2.symm⟩
def Amx (x y:Rat):Int:=if x<y then -1 else if y<x then 1 else 0
theorem A7j {x y:Rat} (hx:Dq x) (hy:Dq y):Z7 (mQ x) (eQ x) (mQ y) (eQ y)=Amx x y:=by
 obtain ⟨x1,_,x3,_⟩:=hx.parts
 obtain ⟨y1,_,y3,_⟩:=hy.parts
 have h:=Azq (v:=mQ x) (e:=eQ x) (w:=mQ y) (f:=eQ y) (g:=-50000) (fun _=>x3) (fun _=>y3)
 have e1:=Af0 (v:=mQ x) x3
 have e2:=Af0 (v:=mQ y) y3
 rw [← x1] at e1
 rw [← y1] at e2
 have key:∀ a b:Int,a<b↔(a:Rat)*tw (-50000)<(b:Rat)*tw (-50000):=fun a b=>by
  have p:=D0 (-50000)
  constructor
  ·intro h
   exact Rat.mul_lt_mul_of_pos_right (Rat.intCast_lt_intCast.2 h) p
  ·intro h
   rcases Int.lt_or_le a b with k | k
   ·exact k
   ·have:=Rat.mul_le_mul_of_nonneg_right (Rat.intCast_le_intCast.2 k) (Rat.le_of_lt p)
    grind
 rw [h]
 unfold Z6 Amx
 have k1:=key (vAt (mQ x) (eQ x) (-50000)) (vAt (mQ y) (eQ y) (-50000))
 have k2:=key (vAt (mQ y) (eQ y) (-50000)) (vAt (mQ x) (eQ x) (-50000))
 rw [e1,e2] at k1 k2
 simp only [k1,k2]
theorem Azt (x y:Rat):Amx x y≤0↔x≤y:=by
 unfold Amx
 split
 ·rename_i h
  exact ⟨fun _=>Rat.le_of_lt h,fun _=>by decide⟩
 ·split
  ·rename_i h
   exact ⟨fun k=>absurd k (by decide),fun k=>by grind⟩
  ·exact ⟨fun _=>by grind,fun _=>by decide⟩
end Go.Cv
namespace Go.Cv
open Go.Den
def Ds (x:Rat):Prop:=∃ g t n:Nat,g≤15000∧t≤15000∧n≤536870912∧Dg g t n x
def dsB (n:Bool) (a:List Int) (e:Int):Bool:=Cr (∃ x,Ds x∧n=A2 (mQ x)∧a=Ah (mQ x)∧e=eQ x)
noncomputable abbrev El (x:Rat):Rat:=vQ (A2 (mQ x)) (Ah (mQ x)) (eQ x)
noncomputable abbrev R4 (x:Rat):Bool:=Zs (A2 (mQ x)) (Ah (mQ x)) (eQ x)
noncomputable abbrev dSo (x:Rat):Bool:=dsB (A2 (mQ x)) (Ah (mQ x)) (eQ x)
def Ek (x:Int):Rat:=vR x.toNat
def G3:Nat→(Nat→Rat)→Rat
 | 0,_=>0
 | n+1,f=>G3 n f+f n
def I3 (x:List Int):Rat:=G3 x.length fun i=>Ek (x.getD i 0)*Ek (x.getD i 0)
def dtL (x y:List Int):Rat:=G3 x.length fun i=>Ek (x.getD i 0)*Ek (y.getD i 0)
def dyR (x:Rat):List DV:=[.bool (A2 (mQ x)),.ints .arg .u32 (Ah (mQ x)),.int .i64 (eQ x)]
def Uy:List DV→Rat
 | [.bool n,.ints _ _ a,.int _ e]=>vQ n a e
 | _=>0
def Q8 (x:List Int) (y:List (List DV)):Rat:=G3 x.length fun i=>Ek (x.getD i 0)*Uy (y.getD i [])
def Sg (y:List (List DV)) (n:Nat):Bool:=Cr (n≤64∧y.length=n∧∀ r∈y,∃ x,Dg 2148 4300 100 x∧r=dyR x)
def lkQ (c:Nat) (l m h:List Int) (q:Nat) (i k:Nat):Rat:=(G3 c fun j=>Ek (Cp (c:Int) l (i:Int) (j:Int))*Ek (Cp (q:Int) m (j:Int) (k:Int)))-Ek (Cp (q:Int) h (i:Int) (k:Int))
def Oa (r c q:Nat) (l m h:List Int):Rat:=G3 q fun k=>G3 c fun j=>(G3 r fun i=>Ek (Cp (c:Int) l (i:Int) (j:Int))*lkQ c l m h q i k)*(G3 r fun i=>Ek (Cp (c:Int) l (i:Int) (j:Int))*lkQ c l m h q i k)
end Go.Cv
namespace Go.Proofs.S1
open Go Go.Den Go.Cv
def soft.Split.pre:List Atom→Bool
 | [.i x]=>Al x
 | _=>false
def soft.Split.out:List Atom→DV
 | [.i x]=>.agg [.bool (Em x),.int .i64 (Og x),.int .u64 (Db x)]
 | _=>.undef
abbrev soft.Split.ts:List AT:=[.i .u64]
def soft.Split.spec:Entry:=entry soft.Split.ts soft.Split.pre soft.Split.out
def soft.Kind.pre:List Atom→Bool
 | [.i x]=>Al x
 | _=>false
def soft.Kind.out:List Atom→DV
 | [.i x]=>.int .i64 (A7 x)
 | _=>.undef
abbrev soft.Kind.ts:List AT:=[.i .u64]
def soft.Kind.spec:Entry:=entry soft.Kind.ts soft.Kind.pre soft.Kind.out
def soft.Sign.pre:List Atom→Bool
 | [.i x]=>Al x
 | _=>false
def soft.Sign.out:List Atom→DV
 | [.i x]=>.bool (Em x)
 | _=>.undef
abbrev soft.Sign.ts:List AT:=[.i .u64]
def soft.Sign.spec:Entry:=entry soft.Sign.ts soft.Sign.pre soft.Sign.out
def soft.Finite.pre:List Atom→Bool
 | [.i x]=>Al x
 | _=>false
def soft.Finite.out:List Atom→DV
 | [.i x]=>.bool (Dk x)
 | _=>.undef
abbrev soft.Finite.ts:List AT:=[.i .u64]
def soft.Finite.spec:Entry:=entry soft.Finite.ts soft.Finite.pre soft.Finite.out
def soft.Gw.pre:List Atom→Bool
 | [.i x]=>Al x
 | _=>false
def soft.Gw.out:List Atom→DV
 | [.i x]=>.int .u64 (Eh x)
 | _=>.undef
abbrev soft.Gw.ts:List AT:=[.i .u64]
def soft.Gw.spec:Entry:=entry soft.Gw.ts soft.Gw.pre soft.Gw.out
def soft.Gh.pre:List Atom→Bool
 | [.i x]=>Al x
 | _=>false
def soft.Gh.out:List Atom→DV
 | [.i x]=>.tup [.int .u64 (Bu x),.int .i64 (Bi x)]
 | _=>.undef
abbrev soft.Gh.ts:List AT:=[.i .u64]
def soft.Gh.spec:Entry:=entry soft.Gh.ts soft.Gh.pre soft.Gh.out
def soft.Pack.mu:List Atom→Nat
 | [.b _n,.i m,.i e]=>Rm m e
 | _=>0
def soft.Pack.pre:List Atom→Bool
 | [.b _n,.i m,.i e]=>Na m e
 | _=>false
def soft.Pack.out:List Atom→DV
 | [.b n,.i m,.i e]=>.int .u64 (Wu n m e)
 | _=>.undef
abbrev soft.Pack.ts:List AT:=[.b,.i .u64,.i .i64]
def soft.Pack.spec:Entry:=entry soft.Pack.ts soft.Pack.pre soft.Pack.out
def soft.Dn.pre:List Atom→Bool
 | [.b _n,.i m,.i e,.b r]=>E0 m e r
 | _=>false
def soft.Dn.out:List Atom→DV
 | [.b n,.i m,.i e,.b r]=>.tup [.int .u64 (Fj n m e r),.int .u8 (Fi n m e r)]
 | _=>.undef
abbrev soft.Dn.ts:List AT:=[.b,.i .u64,.i .i64,.b]
def soft.Dn.spec:Entry:=entry soft.Dn.ts soft.Dn.pre soft.Dn.out
def sum.right.pre:List Atom→Bool
 | [.i m,.i d]=>Al m&&Cr (0≤d∧d<1000000)
 | _=>false
def sum.right.out:List Atom→DV
 | [.i m,.i d]=>.int .u64 (Fz m d)
 | _=>.undef
abbrev sum.right.ts:List AT:=[.i .u64,.i .i64]
def sum.right.spec:Entry:=entry sum.right.ts sum.right.pre sum.right.out
def sum.Ep.pre:List Atom→Bool
 | [.i a,.i b]=>(Al a&&Al b)&&(!(Dk a)||!(Dk b))
 | _=>false
def sum.Ep.out:List Atom→DV
 | [.i a,.i b]=>.tup [.int .u64 (Md a b),.int .u8 (Zy a b)]
 | _=>.undef
abbrev sum.Ep.ts:List AT:=[.i .u64,.i .u64]
def sum.Ep.spec:Entry:=entry sum.Ep.ts sum.Ep.pre sum.Ep.out
def sum.Add.pre:List Atom→Bool
 | [.i a,.i b]=>Al a&&Al b
 | _=>false
def sum.Add.out:List Atom→DV
 | [.i a,.i b]=>.tup [.int .u64 (Md a b),.int .u8 (Zy a b)]
 | _=>.undef
abbrev sum.Add.ts:List AT:=[.i .u64,.i .u64]
def sum.Add.spec:Entry:=entry sum.Add.ts sum.Add.pre sum.Add.out
def sum.Sub.pre:List Atom→Bool
 | [.i a,.i b]=>Al a&&Al b
 | _=>false
def sum.Sub.out:List Atom→DV
 | [.i a,.i b]=>.tup [.int .u64 (Eu a b),.int .u8 (A4y a b)]
 | _=>.undef
abbrev sum.Sub.ts:List AT:=[.i .u64,.i .u64]
def sum.Sub.spec:Entry:=entry sum.Sub.ts sum.Sub.pre sum.Sub.out
def A4.Neg.pre:List Atom→Bool
 | [.i x]=>Al x
 | _=>false
def A4.Neg.out:List Atom→DV
 | [.i x]=>.bool (Em x)
 | _=>.undef
abbrev A4.Neg.ts:List AT:=[.i .u64]
def A4.Neg.spec:Entry:=entry A4.Neg.ts A4.Neg.pre A4.Neg.out
def A4.Power.pre:List Atom→Bool
 | [.i x]=>Rt x
 | _=>false
def A4.Power.out:List Atom→DV
 | [.i x]=>.int .i64 (Og x)
 | _=>.undef
abbrev A4.Power.ts:List AT:=[.i .u64]
def A4.Power.spec:Entry:=entry A4.Power.ts A4.Power.pre A4.Power.out
def A4.Mh.pre:List Atom→Bool
 | [.i x]=>Rt x
 | _=>false
def A4.Mh.out:List Atom→DV
 | [.i x]=>.int .u64 (Db x)
 | _=>.undef
abbrev A4.Mh.ts:List AT:=[.i .u64]
def A4.Mh.spec:Entry:=entry A4.Mh.ts A4.Mh.pre A4.Mh.out
def A4.Kind.pre:List Atom→Bool
 | [.i x]=>Rt x
 | _=>false
def A4.Kind.out:List Atom→DV
 | [.i x]=>.int .i64 (A7 x)
 | _=>.undef
abbrev A4.Kind.ts:List AT:=[.i .u64]
def A4.Kind.spec:Entry:=entry A4.Kind.ts A4.Kind.pre A4.Kind.out
def A4.Finite.pre:List Atom→Bool
 | [.i x]=>Al x
 | _=>false
def A4.Finite.out:List Atom→DV
 | [.i x]=>.bool (Dk x)
 | _=>.undef
abbrev A4.Finite.ts:List AT:=[.i .u64]
def A4.Finite.spec:Entry:=entry A4.Finite.ts A4.Finite.pre A4.Finite.out
def Ez.Canon.pre:List Atom→Bool
 | [.i x]=>Rt x
 | _=>false
def Ez.Canon.out:List Atom→DV
 | [.i x]=>.int .u64 (Adg x)
 | _=>.undef
abbrev Ez.Canon.ts:List AT:=[.i .u64]
def Ez.Canon.spec:Entry:=entry Ez.Canon.ts Ez.Canon.pre Ez.Canon.out
def C1.Bw.pre:List Atom→Bool
 | [.i x]=>Al x
 | _=>false
def C1.Bw.out:List Atom→DV
 | [.i x]=>.int .i64 (64-Fk x)
 | _=>.undef
abbrev C1.Bw.ts:List AT:=[.i .u64]
def C1.Bw.spec:Entry:=entry C1.Bw.ts C1.Bw.pre C1.Bw.out
def C1.H3.pre:List Atom→Bool
 | [.i x,.i y]=>Al x&&Al y
 | _=>false
def C1.H3.out:List Atom→DV
 | [.i x,.i y]=>.tup [.int .u64 (U6 x y),.int .u64 (P3 x y)]
 | _=>.undef
abbrev C1.H3.ts:List AT:=[.i .u64,.i .u64]
def C1.H3.spec:Entry:=entry C1.H3.ts C1.H3.pre C1.H3.out
def times.signed.pre:List Atom→Bool
 | [.i b,.b _n]=>Al b
 | _=>false
def times.signed.out:List Atom→DV
 | [.i b,.b n]=>.int .u64 (U3 n b)
 | _=>.undef
abbrev times.signed.ts:List AT:=[.i .u64,.b]
def times.signed.spec:Entry:=entry times.signed.ts times.signed.pre times.signed.out
def times.nan.pre:List Atom→Bool
 | [.i a,.i b]=>Al a&&Al b
 | _=>false
def times.nan.out:List Atom→DV
 | [.i a,.i b]=>.bool (Auk a b)
 | _=>.undef
abbrev times.nan.ts:List AT:=[.i .u64,.i .u64]
def times.nan.spec:Entry:=entry times.nan.ts times.nan.pre times.nan.out
def times.norm.pre:List Atom→Bool
 | [.i b]=>Al b&&Oi b
 | _=>false
def times.norm.out:List Atom→DV
 | [.i b]=>.tup [.int .u64 (Dc b),.int .i64 (Ia b)]
 | _=>.undef
abbrev times.norm.ts:List AT:=[.i .u64]
def times.norm.spec:Entry:=entry times.norm.ts times.norm.pre times.norm.out
def times.wide.pre:List Atom→Bool
 | [.b _n,.i m,.i e,.b _r]=>Re m e
 | _=>false
def times.wide.out:List Atom→DV
 | [.b n,.i m,.i e,.b r]=>.tup [.int .u64 (Fj n m e r),.int .u8 (Fi n m e r)]
 | _=>.undef
abbrev times.wide.ts:List AT:=[.b,.i .u64,.i .i64,.b]
def times.wide.spec:Entry:=entry times.wide.ts times.wide.pre times.wide.out
def times.Mul.pre:List Atom→Bool
 | [.i a,.i b]=>Al a&&Al b
 | _=>false
def times.Mul.out:List Atom→DV
 | [.i a,.i b]=>.tup [.int .u64 (D6 a b),.int .u8 (A5a a b)]
 | _=>.undef
abbrev times.Mul.ts:List AT:=[.i .u64,.i .u64]
def times.Mul.spec:Entry:=entry times.Mul.ts times.Mul.pre times.Mul.out
def times.Div.pre:List Atom→Bool
 | [.i a,.i b]=>Al a&&Al b
 | _=>false
def times.Div.out:List Atom→DV
 | [.i a,.i b]=>.tup [.int .u64 (Hr a b),.int .u8 (A5k a b)]
 | _=>.undef
abbrev times.Div.ts:List AT:=[.i .u64,.i .u64]
def times.Div.spec:Entry:=entry times.Div.ts times.Div.pre times.Div.out
def Ac.Add.pre:List Atom→Bool
 | [.i a,.i b]=>Al a&&Al b
 | _=>false
def Ac.Add.out:List Atom→DV
 | [.i a,.i b]=>.int .u64 (Md a b)
 | _=>.undef
abbrev Ac.Add.ts:List AT:=[.i .u64,.i .u64]
def Ac.Add.spec:Entry:=entry Ac.Add.ts Ac.Add.pre Ac.Add.out
def Ac.Sub.pre:List Atom→Bool
 | [.i a,.i b]=>Al a&&Al b
 | _=>false
def Ac.Sub.out:List Atom→DV
 | [.i a,.i b]=>.int .u64 (Eu a b)
 | _=>.undef
abbrev Ac.Sub.ts:List AT:=[.i .u64,.i .u64]
def Ac.Sub.spec:Entry:=entry Ac.Sub.ts Ac.Sub.pre Ac.Sub.out
def Ac.Mul.pre:List Atom→Bool
 | [.i a,.i b]=>Al a&&Al b
 | _=>false
def Ac.Mul.out:List Atom→DV
 | [.i a,.i b]=>.int .u64 (D6 a b)
 | _=>.undef
abbrev Ac.Mul.ts:List AT:=[.i .u64,.i .u64]
def Ac.Mul.spec:Entry:=entry Ac.Mul.ts Ac.Mul.pre Ac.Mul.out
def Ac.fit.pre:List Atom→Bool
 | [.l _x,.l _y]=>true
 | _=>false
def Ac.fit.out:List Atom→DV
 | [.l x,.l y]=>.bool (Z4 x y)
 | _=>.undef
abbrev Ac.fit.ts:List AT:=[.s .u64,.s .u64]
def Ac.fit.spec:Entry:=entry Ac.fit.ts Ac.fit.pre Ac.fit.out
def Ac.Hn.pre:List Atom→Bool
 | [.l x,.l y]=>(Z4 x y&&Ak x)&&Ak y
 | _=>false
def Ac.Hn.out:List Atom→DV
 | [.l x,.l y]=>.tup [.int .u64 (M5 x y),.int .i64 (0:Int)]
 | _=>.undef
abbrev Ac.Hn.ts:List AT:=[.s .u64,.s .u64]
def Ac.Hn.spec:Entry:=entry Ac.Hn.ts Ac.Hn.pre Ac.Hn.out
def Ax.F.pre:List Atom→Bool
 | [.i x]=>Al x
 | _=>false
def Ax.F.out:List Atom→DV
 | [.i x]=>.fl (toNat x)
 | _=>.undef
abbrev Ax.F.ts:List AT:=[.i .u64]
def Ax.F.spec:Entry:=entry Ax.F.ts Ax.F.pre Ax.F.out
def Ax.B.pre:List Atom→Bool
 | [.f _x]=>true
 | _=>false
def Ax.B.out:List Atom→DV
 | [.f x]=>.int .u64 (R6 x)
 | _=>.undef
abbrev Ax.B.ts:List AT:=[.fl]
def Ax.B.spec:Entry:=entry Ax.B.ts Ax.B.pre Ax.B.out
def Ax.Mul.pre:List Atom→Bool
 | [.i a,.i b]=>Al a&&Al b
 | _=>false
def Ax.Mul.out:List Atom→DV
 | [.i a,.i b]=>.int .u64 (D6 a b)
 | _=>.undef
abbrev Ax.Mul.ts:List AT:=[.i .u64,.i .u64]
def Ax.Mul.spec:Entry:=entry Ax.Mul.ts Ax.Mul.pre Ax.Mul.out
def Aa.size.pre:List Atom→Bool
 | [.i _n]=>true
 | _=>false
def Aa.size.out:List Atom→DV
 | [.i n]=>.bool (Br n)
 | _=>.undef
abbrev Aa.size.ts:List AT:=[.i .i64]
def Aa.size.spec:Entry:=entry Aa.size.ts Aa.size.pre Aa.size.out
def Aa.Check.pre:List Atom→Bool
 | [.i _r,.i _c,.l _l]=>true
 | _=>false
def Aa.Check.out:List Atom→DV
 | [.i r,.i c,.l l]=>.int .i64 (N6 r c l)
 | _=>.undef
abbrev Aa.Check.ts:List AT:=[.st [.i .i64,.i .i64,.s .u64]]
def Aa.Check.spec:Entry:=entry Aa.Check.ts Aa.Check.pre Aa.Check.out
def Aa.get.pre:List Atom→Bool
 | [.i r,.i c,.l l,.i i,.i k]=>Ha r c l i k
 | _=>false
def Aa.get.out:List Atom→DV
 | [.i _r,.i c,.l l,.i i,.i k]=>.int .u64 (Cp c l i k)
 | _=>.undef
abbrev Aa.get.ts:List AT:=[.st [.i .i64,.i .i64,.s .u64],.i .i64,.i .i64]
def Aa.get.spec:Entry:=entry Aa.get.ts Aa.get.pre Aa.get.out
def Aa.two.pre:List Atom→Bool
 | [.i _r,.i _c,.l _l,.i _p,.i _q,.l _m]=>true
 | _=>false
def Aa.two.out:List Atom→DV
 | [.i r,.i c,.l l,.i p,.i q,.l m]=>.int .i64 (Aba r c l p q m)
 | _=>.undef
abbrev Aa.two.ts:List AT:=[.st [.i .i64,.i .i64,.s .u64],.st [.i .i64,.i .i64,.s .u64]]
def Aa.two.spec:Entry:=entry Aa.two.ts Aa.two.pre Aa.two.out
def Aa.Row.pre:List Atom→Bool
 | [.i r,.i c,.l l,.i i,.i f]=>Rk r c l i&&decide (f=0)
 | _=>false
def Aa.Row.out:List Atom→DV
 | [.i _r,.i c,.l l,.i i,.i _f]=>.ints .fresh .u64 (G7 c l i)
 | _=>.undef
abbrev Aa.Row.ts:List AT:=[.st [.i .i64,.i .i64,.s .u64],.i .i64,.i .i64]
def Aa.Row.spec:Entry:=entry Aa.Row.ts Aa.Row.pre Aa.Row.out
def Aa.D2.pre:List Atom→Bool
 | [.i r,.i c,.l l,.i k,.i f]=>G9 r c l k&&Cr (0≤f∧f≤r)
 | _=>false
def Aa.D2.out:List Atom→DV
 | [.i r,.i c,.l l,.i k,.i f]=>.ints .fresh .u64 (B4 c l k f (toNat (r-f)))
 | _=>.undef
abbrev Aa.D2.ts:List AT:=[.st [.i .i64,.i .i64,.s .u64],.i .i64,.i .i64]
def Aa.D2.spec:Entry:=entry Aa.D2.ts Aa.D2.pre Aa.D2.out
def Aa.Ej.pre:List Atom→Bool
 | [.i _i,.i _k]=>true
 | _=>false
def Aa.Ej.out:List Atom→DV
 | [.i _i,.i _k]=>.int .u64 (0:Int)
 | _=>.undef
abbrev Aa.Ej.ts:List AT:=[.i .i64,.i .i64]
def Aa.Ej.spec:Entry:=entry Aa.Ej.ts Aa.Ej.pre Aa.Ej.out
def Aa.H4.pre:List Atom→Bool
 | [.i _i,.i _k]=>true
 | _=>false
def Aa.H4.out:List Atom→DV
 | [.i i,.i k]=>.int .u64 (V0 i k)
 | _=>.undef
abbrev Aa.H4.ts:List AT:=[.i .i64,.i .i64]
def Aa.H4.spec:Entry:=entry Aa.H4.ts Aa.H4.pre Aa.H4.out
def Aa.F4.pre:List Atom→Bool
 | [.i i,.i k,.i r,.i c,.l l]=>Ha r c l k i
 | _=>false
def Aa.F4.out:List Atom→DV
 | [.i i,.i k,.i _r,.i c,.l l]=>.int .u64 (Cp c l k i)
 | _=>.undef
abbrev Aa.F4.ts:List AT:=[.i .i64,.i .i64,.cp [.i .i64,.i .i64,.s .u64]]
def Aa.F4.spec:Entry:=entry Aa.F4.ts Aa.F4.pre Aa.F4.out
def Aa.F5.pre:List Atom→Bool
 | [.i i,.i k,.i r,.i c,.l l,.i x,.i y]=>Ha r c l (x+i) (y+k)&&Abj x y i k
 | _=>false
def Aa.F5.out:List Atom→DV
 | [.i i,.i k,.i _r,.i c,.l l,.i x,.i y]=>.int .u64 (Cp c l (x+i) (y+k))
 | _=>.undef
abbrev Aa.F5.ts:List AT:=[.i .i64,.i .i64,.cp [.i .i64,.i .i64,.s .u64],.cp [.i .i64],.cp [.i .i64]]
def Aa.F5.spec:Entry:=entry Aa.F5.ts Aa.F5.pre Aa.F5.out
def Aa.A7t.pre:List Atom→Bool
 | [.i i,.i k,.i r,.i c,.l l,.i p,.i q,.l m]=>((Ha r c l i k&&Ha p q m i k)&&Ak l)&&Ak m
 | _=>false
def Aa.Et.pre:List Atom→Bool
 | [.i i,.i k,.i r,.i c,.l l,.i p,.i q,.l m]=>Qu r c l p q m i k
 | _=>false
def Aa.Et.out:List Atom→DV
 | [.i i,.i k,.i r,.i c,.l l,.i _p,.i q,.l m]=>.int .u64 (J5 r c l q m i k)
 | _=>.undef
abbrev Aa.Et.ts:List AT:=[.i .i64,.i .i64,.cp [.i .i64,.i .i64,.s .u64],.cp [.i .i64,.i .i64,.s .u64]]
def Aa.Et.spec:Entry:=entry Aa.Et.ts Aa.Et.pre Aa.Et.out
def Aa.H2.pre:List Atom→Bool
 | [.i i,.i k,.i r,.i c,.l l,.i p,.i q,.l m]=>Ym r c l p q m i k
 | _=>false
def Aa.H2.out:List Atom→DV
 | [.i i,.i k,.i _r,.i c,.l l,.i p,.i q,.l m]=>.int .u64 (M5 (G7 c l i) (Sn p q m k))
 | _=>.undef
abbrev Aa.H2.ts:List AT:=[.i .i64,.i .i64,.cp [.i .i64,.i .i64,.s .u64],.cp [.i .i64,.i .i64,.s .u64]]
def Aa.H2.spec:Entry:=entry Aa.H2.ts Aa.H2.pre Aa.H2.out
def Aa.of.Bb.pre:List Atom→Bool
 | [.i a,.i b]=>(Br a&&Br b)
 | _=>false
def Aa.of.Bb.out:List Atom→DV
 | [.i a,.i b]=>.agg [.int .i64 a,.int .i64 b,.ints .fresh .u64 (C4 (toNat a) (toNat b) (fun _ _=>0))]
 | _=>.undef
abbrev Aa.of.Bb.ts:List AT:=[.i .i64,.i .i64,.fn 205 []]
def Aa.of.Bb.spec:Entry:=entry Aa.of.Bb.ts Aa.of.Bb.pre Aa.of.Bb.out
def Aa.of.Ic.pre:List Atom→Bool
 | [.i a,.i b]=>(Br a&&Br b)
 | _=>false
def Aa.of.Ic.out:List Atom→DV
 | [.i a,.i b]=>.agg [.int .i64 a,.int .i64 b,.ints .fresh .u64 (C4 (toNat a) (toNat b) (fun j1 j2=>V0 j1 j2))]
 | _=>.undef
abbrev Aa.of.Ic.ts:List AT:=[.i .i64,.i .i64,.fn 246 []]
def Aa.of.Ic.spec:Entry:=entry Aa.of.Ic.ts Aa.of.Ic.pre Aa.of.Ic.out
def Aa.of.Ea.pre:List Atom→Bool
 | [.i a,.i b,.i r,.i c,.l l]=>(Br a&&Br b)&&Az r c l&&decide (a=c∧b=r)
 | _=>false
def Aa.of.Ea.out:List Atom→DV
 | [.i a,.i b,.i _r,.i c,.l l]=>.agg [.int .i64 a,.int .i64 b,.ints .fresh .u64 (C4 (toNat a) (toNat b) (fun j1 j2=>Cp c l j2 j1))]
 | _=>.undef
abbrev Aa.of.Ea.ts:List AT:=[.i .i64,.i .i64,.fn 220 [.cp [.i .i64,.i .i64,.s .u64]]]
def Aa.of.Ea.spec:Entry:=entry Aa.of.Ea.ts Aa.of.Ea.pre Aa.of.Ea.out
def Aa.of.Part.pre:List Atom→Bool
 | [.i a,.i b,.i r,.i c,.l l,.i x,.i y]=>(Br a&&Br b)&&Az r c l&&Qy r c x y a b
 | _=>false
def Aa.of.Part.out:List Atom→DV
 | [.i a,.i b,.i _r,.i c,.l l,.i x,.i y]=>.agg [.int .i64 a,.int .i64 b,.ints .fresh .u64 (C4 (toNat a) (toNat b) (fun j1 j2=>Cp c l (x+j1) (y+j2)))]
 | _=>.undef
abbrev Aa.of.Part.ts:List AT:=[.i .i64,.i .i64,.fn 192 [.cp [.i .i64,.i .i64,.s .u64],.cp [.i .i64],.cp [.i .i64]]]
def Aa.of.Part.spec:Entry:=entry Aa.of.Part.ts Aa.of.Part.pre Aa.of.Part.out
def Aa.of.Stack.pre:List Atom→Bool
 | [.i a,.i b,.i r,.i c,.l l,.i p,.i q,.l m]=>(Br a&&Br b)&&(Az r c l&&Az p q m)&&decide (a=r+p∧b=c∧q=c)
 | _=>false
def Aa.of.Stack.out:List Atom→DV
 | [.i a,.i b,.i r,.i c,.l l,.i _p,.i q,.l m]=>.agg [.int .i64 a,.int .i64 b,.ints .fresh .u64 (C4 (toNat a) (toNat b) (fun j1 j2=>J5 r c l q m j1 j2))]
 | _=>.undef
abbrev Aa.of.Stack.ts:List AT:=[.i .i64,.i .i64,.fn 195 [.cp [.i .i64,.i .i64,.s .u64],.cp [.i .i64,.i .i64,.s .u64]]]
def Aa.of.Stack.spec:Entry:=entry Aa.of.Stack.ts Aa.of.Stack.pre Aa.of.Stack.out
def Aa.of.Mul.pre:List Atom→Bool
 | [.i a,.i b,.i r,.i c,.l l,.i p,.i q,.l m]=>(Br a&&Br b)&&((Az r c l&&Az p q m)&&(Ak l&&Ak m))&&decide (a=r∧b=q∧c=p)
 | _=>false
def Aa.of.Mul.out:List Atom→DV
 | [.i a,.i b,.i _r,.i c,.l l,.i p,.i q,.l m]=>.agg [.int .i64 a,.int .i64 b,.ints .fresh .u64 (C4 (toNat a) (toNat b) (fun j1 j2=>M5 (G7 c l j1) (Sn p q m j2)))]
 | _=>.undef
abbrev Aa.of.Mul.ts:List AT:=[.i .i64,.i .i64,.fn 188 [.cp [.i .i64,.i .i64,.s .u64],.cp [.i .i64,.i .i64,.s .u64]]]
def Aa.of.Mul.spec:Entry:=entry Aa.of.Mul.ts Aa.of.Mul.pre Aa.of.Mul.out
def Aa.Bb.pre:List Atom→Bool
 | [.i _a,.i _b]=>true
 | _=>false
def Aa.Bb.out:List Atom→DV
 | [.i a,.i b]=>.tup [.agg [.int .i64 ((C8 a b).1),.int .i64 ((C8 a b).2.1),.ints .fresh .u64 ((C8 a b).2.2.1)],.int .i64 ((C8 a b).2.2.2)]
 | _=>.undef
abbrev Aa.Bb.ts:List AT:=[.i .i64,.i .i64]
def Aa.Bb.spec:Entry:=entry Aa.Bb.ts Aa.Bb.pre Aa.Bb.out
def Aa.Ic.pre:List Atom→Bool
 | [.i _n]=>true
 | _=>false
def Aa.Ic.out:List Atom→DV
 | [.i n]=>.tup [.agg [.int .i64 ((Rz n).1),.int .i64 ((Rz n).2.1),.ints .fresh .u64 ((Rz n).2.2.1)],.int .i64 ((Rz n).2.2.2)]
 | _=>.undef
abbrev Aa.Ic.ts:List AT:=[.i .i64]
def Aa.Ic.spec:Entry:=entry Aa.Ic.ts Aa.Ic.pre Aa.Ic.out
def Aa.Ea.pre:List Atom→Bool
 | [.i _r,.i _c,.l _l]=>true
 | _=>false
def Aa.Ea.out:List Atom→DV
 | [.i r,.i c,.l l]=>.tup [.agg [.int .i64 ((Gr r c l).1),.int .i64 ((Gr r c l).2.1),.ints .fresh .u64 ((Gr r c l).2.2.1)],.int .i64 ((Gr r c l).2.2.2)]
 | _=>.undef
abbrev Aa.Ea.ts:List AT:=[.st [.i .i64,.i .i64,.s .u64]]
def Aa.Ea.spec:Entry:=entry Aa.Ea.ts Aa.Ea.pre Aa.Ea.out
def Aa.Part.pre:List Atom→Bool
 | [.i _r,.i _c,.l _l,.i _x,.i _y,.i _a,.i _b]=>true
 | _=>false
def Aa.Part.out:List Atom→DV
 | [.i r,.i c,.l l,.i x,.i y,.i a,.i b]=>.tup [.agg [.int .i64 ((Jf r c l x y a b).1),.int .i64 ((Jf r c l x y a b).2.1),.ints .fresh .u64 ((Jf r c l x y a b).2.2.1)],.int .i64 ((Jf r c l x y a b).2.2.2)]
 | _=>.undef
abbrev Aa.Part.ts:List AT:=[.st [.i .i64,.i .i64,.s .u64],.i .i64,.i .i64,.i .i64,.i .i64]
def Aa.Part.spec:Entry:=entry Aa.Part.ts Aa.Part.pre Aa.Part.out
def Aa.Stack.pre:List Atom→Bool
 | [.i _r,.i _c,.l _l,.i _p,.i _q,.l _m]=>true
 | _=>false
def Aa.Stack.out:List Atom→DV
 | [.i r,.i c,.l l,.i p,.i q,.l m]=>.tup [.agg [.int .i64 ((Ed r c l p q m).1),.int .i64 ((Ed r c l p q m).2.1),.ints .fresh .u64 ((Ed r c l p q m).2.2.1)],.int .i64 ((Ed r c l p q m).2.2.2)]
 | _=>.undef
abbrev Aa.Stack.ts:List AT:=[.st [.i .i64,.i .i64,.s .u64],.st [.i .i64,.i .i64,.s .u64]]
def Aa.Stack.spec:Entry:=entry Aa.Stack.ts Aa.Stack.pre Aa.Stack.out
def Aa.Mul.pre:List Atom→Bool
 | [.i _r,.i _c,.l l,.i _p,.i _q,.l m]=>Ak l&&Ak m
 | _=>false
def Aa.Mul.out:List Atom→DV
 | [.i r,.i c,.l l,.i p,.i q,.l m]=>.tup [.agg [.int .i64 ((Vs r c l p q m).1),.int .i64 ((Vs r c l p q m).2.1),.ints .fresh .u64 ((Vs r c l p q m).2.2.1)],.int .i64 ((Vs r c l p q m).2.2.2)]
 | _=>.undef
abbrev Aa.Mul.ts:List AT:=[.st [.i .i64,.i .i64,.s .u64],.st [.i .i64,.i .i64,.s .u64]]
def Aa.Mul.spec:Entry:=entry Aa.Mul.ts Aa.Mul.pre Aa.Mul.out
def A8.Hl.pre:List Atom→Bool
 | [.i _r,.i _c,.l _l]=>true
 | _=>false
def A8.Hl.out:List Atom→DV
 | [.i r,.i c,.l l]=>.bool (Az r c l)
 | _=>.undef
abbrev A8.Hl.ts:List AT:=[.st [.i .i64,.i .i64,.s .u64]]
def A8.Hl.spec:Entry:=entry A8.Hl.ts A8.Hl.pre A8.Hl.out
def A8.At.pre:List Atom→Bool
 | [.i r,.i c,.l l,.i i,.i k]=>Ha r c l i k
 | _=>false
def A8.At.out:List Atom→DV
 | [.i _r,.i c,.l l,.i i,.i k]=>.int .u64 (Cp c l i k)
 | _=>.undef
abbrev A8.At.ts:List AT:=[.st [.i .i64,.i .i64,.s .u64],.i .i64,.i .i64]
def A8.At.spec:Entry:=entry A8.At.ts A8.At.pre A8.At.out
def A8.Bb.pre:List Atom→Bool
 | [.i a,.i b]=>Br a&&Br b
 | _=>false
def A8.Bb.out:List Atom→DV
 | [.i a,.i b]=>.agg [.int .i64 a,.int .i64 b,.ints .fresh .u64 (C4 (toNat a) (toNat b) (fun _ _=>0))]
 | _=>.undef
abbrev A8.Bb.ts:List AT:=[.i .i64,.i .i64]
def A8.Bb.spec:Entry:=entry A8.Bb.ts A8.Bb.pre A8.Bb.out
def A8.Row.pre:List Atom→Bool
 | [.i r,.i c,.l l,.i i]=>Rk r c l i
 | _=>false
def A8.Row.out:List Atom→DV
 | [.i _r,.i c,.l l,.i i]=>.ints .arg .u64 (G7 c l i)
 | _=>.undef
abbrev A8.Row.ts:List AT:=[.st [.i .i64,.i .i64,.s .u64],.i .i64]
def A8.Row.spec:Entry:=entry A8.Row.ts A8.Row.pre A8.Row.out
def A8.Ss.pre:List Atom→Bool
 | [.i r,.i c,.l l,.i k,.i f]=>G9 r c l k&&Cr (0≤f∧f≤r)
 | _=>false
def A8.Ss.out:List Atom→DV
 | [.i r,.i c,.l l,.i k,.i f]=>.ints .fresh .u64 (B4 c l k f (toNat (r-f)))
 | _=>.undef
abbrev A8.Ss.ts:List AT:=[.st [.i .i64,.i .i64,.s .u64],.i .i64,.i .i64]
def A8.Ss.spec:Entry:=entry A8.Ss.ts A8.Ss.pre A8.Ss.out
def Ag.Jv.pre:List Atom→Bool
 | [.l l,.i _i]=>Iy l
 | _=>false
def Ag.Jv.out:List Atom→DV
 | [.l l,.i i]=>.int .u64 (Hx l i)
 | _=>.undef
abbrev Ag.Jv.ts:List AT:=[.s .u32,.i .i64]
def Ag.Jv.spec:Entry:=entry Ag.Jv.ts Ag.Jv.pre Ag.Jv.out
def Ag.Made.pre:List Atom→Bool
 | [.b _n,.l l]=>Iy l
 | _=>false
def Ag.Made.out:List Atom→DV
 | [.b n,.l l]=>.agg [.bool (A2 (wv n l)),.ints .arg .u32 (Ah (wv n l))]
 | _=>.undef
abbrev Ag.Made.ts:List AT:=[.b,.s .u32]
def Ag.Made.spec:Entry:=entry Ag.Made.ts Ag.Made.pre Ag.Made.out
def Ag.Of.pre:List Atom→Bool
 | [.i n]=>Afa n
 | _=>false
def Ag.Of.out:List Atom→DV
 | [.i n]=>.agg [.bool (A2 (n)),.ints .arg .u32 (Ah (n))]
 | _=>.undef
abbrev Ag.Of.ts:List AT:=[.i .i64]
def Ag.Of.spec:Entry:=entry Ag.Of.ts Ag.Of.pre Ag.Of.out
def Ag.Is.pre:List Atom→Bool
 | [.l a,.l b]=>Iy a&&Iy b
 | _=>false
def Ag.Is.out:List Atom→DV
 | [.l a,.l b]=>.int .i64 (Y0 (Ce a) (Ce b))
 | _=>.undef
abbrev Ag.Is.ts:List AT:=[.s .u32,.s .u32]
def Ag.Is.spec:Entry:=entry Ag.Is.ts Ag.Is.pre Ag.Is.out
def Ag.plus.pre:List Atom→Bool
 | [.l a,.l b]=>Iy a&&Iy b
 | _=>false
def Ag.plus.out:List Atom→DV
 | [.l a,.l b]=>.ints .arg .u32 (K5 a b)
 | _=>.undef
abbrev Ag.plus.ts:List AT:=[.s .u32,.s .u32]
def Ag.plus.spec:Entry:=entry Ag.plus.ts Ag.plus.pre Ag.plus.out
def Ag.minus.pre:List Atom→Bool
 | [.l a,.l b]=>(Iy a&&Iy b)&&leL b a
 | _=>false
def Ag.minus.out:List Atom→DV
 | [.l a,.l b]=>.ints .arg .u32 (Jg a b)
 | _=>.undef
abbrev Ag.minus.ts:List AT:=[.s .u32,.s .u32]
def Ag.minus.spec:Entry:=entry Ag.minus.ts Ag.minus.pre Ag.minus.out
def Ag.Add.pre:List Atom→Bool
 | [.b n,.l a,.b m,.l b]=>Ll n a&&Ll m b
 | _=>false
def Ag.Add.out:List Atom→DV
 | [.b n,.l a,.b m,.l b]=>.agg [.bool (A2 (wv n a+wv m b)),.ints .arg .u32 (Ah (wv n a+wv m b))]
 | _=>.undef
abbrev Ag.Add.ts:List AT:=[.st [.b,.s .u32],.st [.b,.s .u32]]
def Ag.Add.spec:Entry:=entry Ag.Add.ts Ag.Add.pre Ag.Add.out
def Ag.Neg.pre:List Atom→Bool
 | [.b n,.l a]=>Ll n a
 | _=>false
def Ag.Neg.out:List Atom→DV
 | [.b n,.l a]=>.agg [.bool (A2 (- wv n a)),.ints .arg .u32 (Ah (- wv n a))]
 | _=>.undef
abbrev Ag.Neg.ts:List AT:=[.st [.b,.s .u32]]
def Ag.Neg.spec:Entry:=entry Ag.Neg.ts Ag.Neg.pre Ag.Neg.out
def Ag.F9.pre:List Atom→Bool
 | [.b n,.l a]=>Ll n a
 | _=>false
def Ag.F9.out:List Atom→DV
 | [.b n,.l a]=>.agg [.bool (A2 (2*wv n a)),.ints .arg .u32 (Ah (2*wv n a))]
 | _=>.undef
abbrev Ag.F9.ts:List AT:=[.st [.b,.s .u32]]
def Ag.F9.spec:Entry:=entry Ag.F9.ts Ag.F9.pre Ag.F9.out
def Ag.H7.pre:List Atom→Bool
 | [.b n,.l a]=>Ll n a
 | _=>false
def Ag.H7.out:List Atom→DV
 | [.b n,.l a]=>.agg [.bool (A2 (Mn (wv n a) 1)),.ints .arg .u32 (Ah (Mn (wv n a) 1))]
 | _=>.undef
abbrev Ag.H7.ts:List AT:=[.st [.b,.s .u32]]
def Ag.H7.spec:Entry:=entry Ag.H7.ts Ag.H7.pre Ag.H7.out
def Ag.B9.pre:List Atom→Bool
 | [.b n,.l a,.i k]=>Zk n a&&A1v k
 | _=>false
def Ag.B9.out:List Atom→DV
 | [.b n,.l a,.i k]=>.agg [.bool (A2 (Ja (wv n a) k)),.ints .arg .u32 (Ah (Ja (wv n a) k))]
 | _=>.undef
abbrev Ag.B9.ts:List AT:=[.st [.b,.s .u32],.i .i64]
def Ag.B9.spec:Entry:=entry Ag.B9.ts Ag.B9.pre Ag.B9.out
def Ag.Sk.pre:List Atom→Bool
 | [.b n,.l a]=>Ll n a
 | _=>false
def Ag.Sk.out:List Atom→DV
 | [.b n,.l a]=>.int .i64 (Acp (wv n a))
 | _=>.undef
abbrev Ag.Sk.ts:List AT:=[.st [.b,.s .u32]]
def Ag.Sk.spec:Entry:=entry Ag.Sk.ts Ag.Sk.pre Ag.Sk.out
def Ag.Y6.pre:List Atom→Bool
 | [.b n,.l a]=>Ll n a
 | _=>false
def Ag.Y6.out:List Atom→DV
 | [.b n,.l a]=>.bool (Aqe (wv n a))
 | _=>.undef
abbrev Ag.Y6.ts:List AT:=[.st [.b,.s .u32]]
def Ag.Y6.spec:Entry:=entry Ag.Y6.ts Ag.Y6.pre Ag.Y6.out
def Ai.Of.pre:List Atom→Bool
 | [.b n,.l a,.i e]=>Ll n a&&Vq e
 | _=>false
def Ai.Of.out:List Atom→DV
 | [.b n,.l a,.i e]=>.agg [.bool (A2 (mD (wv n a))),.ints .arg .u32 (Ah (mD (wv n a))),.int .i64 (eD (wv n a) e)]
 | _=>.undef
abbrev Ai.Of.ts:List AT:=[.st [.b,.s .u32],.i .i64]
def Ai.Of.spec:Entry:=entry Ai.Of.ts Ai.Of.pre Ai.Of.out
def Ai.Neg.pre:List Atom→Bool
 | [.b n,.l a,.i _e]=>Ll n a
 | _=>false
def Ai.Neg.out:List Atom→DV
 | [.b n,.l a,.i e]=>.agg [.bool (A2 (- wv n a)),.ints .arg .u32 (Ah (- wv n a)),.int .i64 e]
 | _=>.undef
abbrev Ai.Neg.ts:List AT:=[.st [.b,.s .u32,.i .i64]]
def Ai.Neg.spec:Entry:=entry Ai.Neg.ts Ai.Neg.pre Ai.Neg.out
def Ai.Y7.pre:List Atom→Bool
 | [.b n,.l a,.i _e,.b m,.l b,.i _f]=>Ll n a&&Ll m b
 | _=>false
def Ai.Y7.out:List Atom→DV
 | [.b n,.l a,.i e,.b m,.l b,.i f]=>.int .i64 (Dt (wv n a) e (wv m b) f)
 | _=>.undef
abbrev Ai.Y7.ts:List AT:=[.st [.b,.s .u32,.i .i64],.st [.b,.s .u32,.i .i64]]
def Ai.Y7.spec:Entry:=entry Ai.Y7.ts Ai.Y7.pre Ai.Y7.out
def Ai.Level.pre:List Atom→Bool
 | [.b n,.l a,.i e,.i f]=>Zk n a&&Aqd (wv n a) e f
 | _=>false
def Ai.Level.out:List Atom→DV
 | [.b n,.l a,.i e,.i f]=>.agg [.bool (A2 (Ja (wv n a) (e-f))),.ints .arg .u32 (Ah (Ja (wv n a) (e-f)))]
 | _=>.undef
abbrev Ai.Level.ts:List AT:=[.st [.b,.s .u32,.i .i64],.i .i64]
def Ai.Level.spec:Entry:=entry Ai.Level.ts Ai.Level.pre Ai.Level.out
def Ai.Add.pre:List Atom→Bool
 | [.b n,.l a,.i e,.b m,.l b,.i f]=>((Zk n a&&Zk m b)&&Sl e)&&Sl f
 | _=>false
def Ai.Add.out:List Atom→DV
 | [.b n,.l a,.i e,.b m,.l b,.i f]=>.agg [.bool (A2 (Pu (wv n a) e (wv m b) f)),.ints .arg .u32 (Ah (Pu (wv n a) e (wv m b) f)),.int .i64 (Akl (wv n a) e (wv m b) f)]
 | _=>.undef
abbrev Ai.Add.ts:List AT:=[.st [.b,.s .u32,.i .i64],.st [.b,.s .u32,.i .i64]]
def Ai.Add.spec:Entry:=entry Ai.Add.ts Ai.Add.pre Ai.Add.out
def Ai.Sub.pre:List Atom→Bool
 | [.b n,.l a,.i e,.b m,.l b,.i f]=>((Zk n a&&Zk m b)&&Sl e)&&Sl f
 | _=>false
def Ai.Sub.out:List Atom→DV
 | [.b n,.l a,.i e,.b m,.l b,.i f]=>.agg [.bool (A2 (Pu (wv n a) e (- wv m b) f)),.ints .arg .u32 (Ah (Pu (wv n a) e (- wv m b) f)),.int .i64 (Akl (wv n a) e (- wv m b) f)]
 | _=>.undef
abbrev Ai.Sub.ts:List AT:=[.st [.b,.s .u32,.i .i64],.st [.b,.s .u32,.i .i64]]
def Ai.Sub.spec:Entry:=entry Ai.Sub.ts Ai.Sub.pre Ai.Sub.out
def Ai.Cq.pre:List Atom→Bool
 | [.b n,.l a,.i e,.i k]=>(Ll n a&&Sl e)&&Sl k
 | _=>false
def Ai.Cq.out:List Atom→DV
 | [.b n,.l a,.i e,.i k]=>.agg [.bool (A2 (mD (wv n a))),.ints .arg .u32 (Ah (mD (wv n a))),.int .i64 (eD (wv n a) (e+k))]
 | _=>.undef
abbrev Ai.Cq.ts:List AT:=[.st [.b,.s .u32,.i .i64],.i .i64]
def Ai.Cq.spec:Entry:=entry Ai.Cq.ts Ai.Cq.pre Ai.Cq.out
def Ai.X4.pre:List Atom→Bool
 | [.b n,.l a,.i e]=>Ll n a&&Sl e
 | _=>false
def Ai.X4.out:List Atom→DV
 | [.b n,.l a,.i e]=>.int .i64 (Jb (wv n a) e)
 | _=>.undef
abbrev Ai.X4.ts:List AT:=[.st [.b,.s .u32,.i .i64]]
def Ai.X4.spec:Entry:=entry Ai.X4.ts Ai.X4.pre Ai.X4.out
def Ai.Sign.pre:List Atom→Bool
 | [.b n,.l a,.i _e]=>Ll n a
 | _=>false
def Ai.Sign.out:List Atom→DV
 | [.b n,.l a,.i _e]=>.int .i64 (Pr (wv n a))
 | _=>.undef
abbrev Ai.Sign.ts:List AT:=[.st [.b,.s .u32,.i .i64]]
def Ai.Sign.spec:Entry:=entry Ai.Sign.ts Ai.Sign.pre Ai.Sign.out
def Ai.Compare.pre:List Atom→Bool
 | [.b n,.l a,.i e,.b m,.l b,.i f]=>((Zk n a&&Zk m b)&&Sl e)&&Sl f
 | _=>false
def Ai.Compare.out:List Atom→DV
 | [.b n,.l a,.i e,.b m,.l b,.i f]=>.int .i64 (Z7 (wv n a) e (wv m b) f)
 | _=>.undef
abbrev Ai.Compare.ts:List AT:=[.st [.b,.s .u32,.i .i64],.st [.b,.s .u32,.i .i64]]
def Ai.Compare.spec:Entry:=entry Ai.Compare.ts Ai.Compare.pre Ai.Compare.out
def A4.Value.pre:List Atom→Bool
 | [.i x]=>Al x
 | _=>false
def A4.Value.out:List Atom→DV
 | [.i x]=>.agg [.bool (A2 (mD (H5 x))),.ints .arg .u32 (Ah (mD (H5 x))),.int .i64 (eD (H5 x) (Bi x))]
 | _=>.undef
abbrev A4.Value.ts:List AT:=[.i .u64]
def A4.Value.spec:Entry:=entry A4.Value.ts A4.Value.pre A4.Value.out
def Ag.single.pre:List Atom→Bool
 | [.l a,.i x]=>Iy a&&Ave x
 | _=>false
def Ag.single.out:List Atom→DV
 | [.l a,.i x]=>.ints .arg .u32 (singleL a x)
 | _=>.undef
abbrev Ag.single.ts:List AT:=[.s .u32,.i .u32]
def Ag.single.spec:Entry:=entry Ag.single.ts Ag.single.pre Ag.single.out
def Ag.Mul.pre:List Atom→Bool
 | [.b n,.l a,.b m,.l b]=>okM n a&&okM m b
 | _=>false
def Ag.Mul.out:List Atom→DV
 | [.b n,.l a,.b m,.l b]=>.agg [.bool (A2 (wv n a*wv m b)),.ints .arg .u32 (Ah (wv n a*wv m b))]
 | _=>.undef
abbrev Ag.Mul.ts:List AT:=[.st [.b,.s .u32],.st [.b,.s .u32]]
def Ag.Mul.spec:Entry:=entry Ag.Mul.ts Ag.Mul.pre Ag.Mul.out
def Ai.Mul.pre:List Atom→Bool
 | [.b n,.l a,.i e,.b m,.l b,.i f]=>(okM n a&&okM m b)&&(Sl e&&Sl f)
 | _=>false
def Ai.Mul.out:List Atom→DV
 | [.b n,.l a,.i e,.b m,.l b,.i f]=>.agg [.bool (A2 (mD (wv n a*wv m b))),.ints .arg .u32 (Ah (mD (wv n a*wv m b))),.int .i64 (eD (wv n a*wv m b) (e+f))]
 | _=>.undef
abbrev Ai.Mul.ts:List AT:=[.st [.b,.s .u32,.i .i64],.st [.b,.s .u32,.i .i64]]
def Ai.Mul.spec:Entry:=entry Ai.Mul.ts Ai.Mul.pre Ai.Mul.out
def compare.Ms.pre:List Atom→Bool
 | [.i b]=>Al b
 | _=>false
def compare.Ms.out:List Atom→DV
 | [.i b]=>.int .i64 (Aet b)
 | _=>.undef
abbrev compare.Ms.ts:List AT:=[.i .u64]
def compare.Ms.spec:Entry:=entry compare.Ms.ts compare.Ms.pre compare.Ms.out
def compare.Order.pre:List Atom→Bool
 | [.i a,.i b]=>Al a&&Al b
 | _=>false
def compare.Order.out:List Atom→DV
 | [.i a,.i b]=>.tup [.int .i64 (Yk a b),.bool (A44 a b)]
 | _=>.undef
abbrev compare.Order.ts:List AT:=[.i .u64,.i .u64]
def compare.Order.spec:Entry:=entry compare.Order.ts compare.Order.pre compare.Order.out
def compare.M8.pre:List Atom→Bool
 | [.i a,.i b]=>Al a&&Al b
 | _=>false
def compare.M8.out:List Atom→DV
 | [.i a,.i b]=>.bool (decide (Yk a b<0))
 | _=>.undef
abbrev compare.M8.ts:List AT:=[.i .u64,.i .u64]
def compare.M8.spec:Entry:=entry compare.M8.ts compare.M8.pre compare.M8.out
def compare.X6.pre:List Atom→Bool
 | [.i a]=>Al a
 | _=>false
def compare.X6.out:List Atom→DV
 | [.i a]=>.int .u64 (Tg a)
 | _=>.undef
abbrev compare.X6.ts:List AT:=[.i .u64]
def compare.X6.spec:Entry:=entry compare.X6.ts compare.X6.pre compare.X6.out
def compare.Cq.pre:List Atom→Bool
 | [.i a,.i n]=>Gt a n
 | _=>false
def compare.Cq.out:List Atom→DV
 | [.i a,.i n]=>.tup [.int .u64 (Ch a n),.int .u8 (Ax7 a n)]
 | _=>.undef
abbrev compare.Cq.ts:List AT:=[.i .u64,.i .i64]
def compare.Cq.spec:Entry:=entry compare.Cq.ts compare.Cq.pre compare.Cq.out
def Ac.B9.pre:List Atom→Bool
 | [.i a,.i n]=>Gt a n
 | _=>false
def Ac.B9.out:List Atom→DV
 | [.i a,.i n]=>.int .u64 (Ch a n)
 | _=>.undef
abbrev Ac.B9.ts:List AT:=[.i .u64,.i .i64]
def Ac.B9.spec:Entry:=entry Ac.B9.ts Ac.B9.pre Ac.B9.out
def Ac.Div.pre:List Atom→Bool
 | [.i a,.i b]=>Al a&&Al b
 | _=>false
def Ac.Div.out:List Atom→DV
 | [.i a,.i b]=>.int .u64 (Hr a b)
 | _=>.undef
abbrev Ac.Div.ts:List AT:=[.i .u64,.i .u64]
def Ac.Div.spec:Entry:=entry Ac.Div.ts Ac.Div.pre Ac.Div.out
def Ac.C6.pre:List Atom→Bool
 | [.l x]=>Dp x
 | _=>false
def Ac.C6.out:List Atom→DV
 | [.l x]=>.int .u64 (Bg x)
 | _=>.undef
abbrev Ac.C6.ts:List AT:=[.s .u64]
def Ac.C6.spec:Entry:=entry Ac.C6.ts Ac.C6.pre Ac.C6.out
def Ac.Finite.pre:List Atom→Bool
 | [.l x]=>Dp x
 | _=>false
def Ac.Finite.out:List Atom→DV
 | [.l x]=>.bool (Ff x)
 | _=>.undef
abbrev Ac.Finite.ts:List AT:=[.s .u64]
def Ac.Finite.spec:Entry:=entry Ac.Finite.ts Ac.Finite.pre Ac.Finite.out
def Cz.Check.pre:List Atom→Bool
 | [.i _r,.i _c,.l l]=>Ak l
 | _=>false
def Cz.Check.out:List Atom→DV
 | [.i r,.i c,.l l]=>.int .i64 (Cs r c l)
 | _=>.undef
abbrev Cz.Check.ts:List AT:=[.st [.i .i64,.i .i64,.s .u64]]
def Cz.Check.spec:Entry:=entry Cz.Check.ts Cz.Check.pre Cz.Check.out
def solve.check.pre:List Atom→Bool
 | [.i _r,.i _c,.l l,.i _p,.i _q,.l m]=>Ak l&&Ak m
 | _=>false
def solve.check.out:List Atom→DV
 | [.i r,.i c,.l l,.i p,.i q,.l m]=>.int .i64 (Xs r c l p q m)
 | _=>.undef
abbrev solve.check.ts:List AT:=[.st [.i .i64,.i .i64,.s .u64],.st [.i .i64,.i .i64,.s .u64]]
def solve.check.spec:Entry:=entry solve.check.ts solve.check.pre solve.check.out
def Gq.Gn.up.pre:List Atom→Bool
 | [.i n,.i k]=>Cr (0≤k∧k<n∧n≤10)
 | _=>false
def Gq.Gn.up.out:List Atom→DV
 | [.i n,.i k]=>.int .i64 (n-1-k)
 | _=>.undef
abbrev Gq.Gn.up.ts:List AT:=[.i .i64,.i .i64]
def Gq.Gn.up.spec:Entry:=entry Gq.Gn.up.ts Gq.Gn.up.pre Gq.Gn.up.out
def solve.Er.pre:List Atom→Bool
 | [.i _i,.i _k]=>true
 | _=>false
def solve.Er.out:List Atom→DV
 | [.i i,.i k]=>.bool (decide (i<k))
 | _=>.undef
abbrev solve.Er.ts:List AT:=[.i .i64,.i .i64]
def solve.Er.spec:Entry:=entry solve.Er.ts solve.Er.pre solve.Er.out
def Aa.of.Bb.own.pre:List Atom→Bool
 | [.i a,.i b]=>Br a&&Br b
 | _=>false
def Aa.of.Bb.own.out:List Atom→DV
 | [.i a,.i b]=>.agg [.int .i64 a,.int .i64 b,.ints (.own 108002 37) .u64 (C4 (toNat a) (toNat b) (fun _ _=>0))]
 | _=>.undef
abbrev Aa.of.Bb.own.ts:List AT:=[.i .i64,.i .i64,.fn 205 []]
def Aa.of.Bb.own.spec:Entry:=entry Aa.of.Bb.own.ts Aa.of.Bb.own.pre Aa.of.Bb.own.out
def Aa.Bb.own.pre:List Atom→Bool
 | [.i a,.i b]=>Br a&&Br b
 | _=>false
def Aa.Bb.own.out:List Atom→DV
 | [.i a,.i b]=>.tup [.agg [.int .i64 a,.int .i64 b,.ints (.own 1136 37) .u64 (C4 (toNat a) (toNat b) (fun _ _=>0))],.int .i64 (0:Int)]
 | _=>.undef
abbrev Aa.Bb.own.ts:List AT:=[.i .i64,.i .i64]
def Aa.Bb.own.spec:Entry:=entry Aa.Bb.own.ts Aa.Bb.own.pre Aa.Bb.own.out
def solve.Bt.Up.pre:List Atom→Bool
 | [.i r,.i c,.l l,.i p,.i q,.l m,.i n]=>Af6 r c l p q m&&decide (n=r)
 | _=>false
def solve.Bt.Up.out:List Atom→DV
 | [.i r,.i c,.l l,.i _p,.i q,.l m,.i _n]=>.tup [.agg [.int .i64 ((Vz r q (upG c l q m (toNat r) (toNat q))).1),.int .i64 ((Vz r q (upG c l q m (toNat r) (toNat q))).2.1),.ints .fresh .u64 ((Vz r q (upG c l q m (toNat r) (toNat q))).2.2.1)],.int .i64 ((Vz r q (upG c l q m (toNat r) (toNat q))).2.2.2)]
 | _=>.undef
abbrev solve.Bt.Up.ts:List AT:=[.st [.i .i64,.i .i64,.s .u64],.st [.i .i64,.i .i64,.s .u64],.fm 103 [.i .i64],.fn 104 []]
def solve.Bt.Up.spec:Entry:=entry solve.Bt.Up.ts solve.Bt.Up.pre solve.Bt.Up.out
def solve.H0.pre:List Atom→Bool
 | [.i _r,.i _c,.l l,.i _p,.i _q,.l m]=>Ak l&&Ak m
 | _=>false
def solve.H0.out:List Atom→DV
 | [.i r,.i c,.l l,.i p,.i q,.l m]=>.tup [.agg [.int .i64 ((upX r c l p q m).1),.int .i64 ((upX r c l p q m).2.1),.ints .fresh .u64 ((upX r c l p q m).2.2.1)],.int .i64 ((upX r c l p q m).2.2.2)]
 | _=>.undef
abbrev solve.H0.ts:List AT:=[.st [.i .i64,.i .i64,.s .u64],.st [.i .i64,.i .i64,.s .u64]]
def solve.H0.spec:Entry:=entry solve.H0.ts solve.H0.pre solve.H0.out
def solve.Flat.pre:List Atom→Bool
 | [.i _r,.i _c,.l l]=>Ak l
 | _=>false
def solve.Flat.out:List Atom→DV
 | [.i r,.i c,.l l]=>.tup [.bool ((Pk r c l).1),.int .i64 ((Pk r c l).2)]
 | _=>.undef
abbrev solve.Flat.ts:List AT:=[.st [.i .i64,.i .i64,.s .u64]]
def solve.Flat.spec:Entry:=entry solve.Flat.ts solve.Flat.pre solve.Flat.out
def qr.F3.pre:List Atom→Bool
 | [.i _r,.i _c,.l l,.i _p,.i _q,.l m]=>Ak l&&Ak m
 | _=>false
def qr.F3.out:List Atom→DV
 | [.i r,.i c,.l l,.i p,.i q,.l m]=>.tup [.agg [.int .i64 ((D7 r c l p q m).1),.int .i64 ((D7 r c l p q m).2.1),.ints .fresh .u64 ((D7 r c l p q m).2.2.1)],.int .i64 ((D7 r c l p q m).2.2.2)]
 | _=>.undef
abbrev qr.F3.ts:List AT:=[.st [.i .i64,.i .i64,.s .u64],.st [.i .i64,.i .i64,.s .u64]]
def qr.F3.spec:Entry:=entry qr.F3.ts qr.F3.pre qr.F3.out
def Ax.Finite.pre:List Atom→Bool
 | [.l x]=>Dp x
 | _=>false
def Ax.Finite.out:List Atom→DV
 | [.l x]=>.bool (Ff x)
 | _=>.undef
abbrev Ax.Finite.ts:List AT:=[.s .u64]
def Ax.Finite.spec:Entry:=entry Ax.Finite.ts Ax.Finite.pre Ax.Finite.out
def Au.Check.pre:List Atom→Bool
 | [.i _r,.i _c,.l l]=>Ak l
 | _=>false
def Au.Check.out:List Atom→DV
 | [.i r,.i c,.l l]=>.int .i64 (Cs r c l)
 | _=>.undef
abbrev Au.Check.ts:List AT:=[.st [.i .i64,.i .i64,.s .u64]]
def Au.Check.spec:Entry:=entry Au.Check.ts Au.Check.pre Au.Check.out
def root.Hg.pre:List Atom→Bool
 | [.i m]=>Cr (0≤m∧m<9223372036854775808)
 | _=>false
def root.Hg.out:List Atom→DV
 | [.i m]=>.tup [.int .u64 (W7 m),.bool (W8 m)]
 | _=>.undef
abbrev root.Hg.ts:List AT:=[.i .u64]
def root.Hg.spec:Entry:=entry root.Hg.ts root.Hg.pre root.Hg.out
def root.Sqrt.pre:List Atom→Bool
 | [.i a]=>Al a
 | _=>false
def root.Sqrt.out:List Atom→DV
 | [.i a]=>.tup [.int .u64 (Ie a),.int .u8 (Sz a)]
 | _=>.undef
abbrev root.Sqrt.ts:List AT:=[.i .u64]
def root.Sqrt.spec:Entry:=entry root.Sqrt.ts root.Sqrt.pre root.Sqrt.out
def Ac.Sqrt.pre:List Atom→Bool
 | [.i a]=>Al a
 | _=>false
def Ac.Sqrt.out:List Atom→DV
 | [.i a]=>.int .u64 (Ie a)
 | _=>.undef
abbrev Ac.Sqrt.ts:List AT:=[.i .u64]
def Ac.Sqrt.spec:Entry:=entry Ac.Sqrt.ts Ac.Sqrt.pre Ac.Sqrt.out
def compare.Mo.pre:List Atom→Bool
 | [.i a]=>Al a
 | _=>false
def compare.Mo.out:List Atom→DV
 | [.i a]=>.int .i64 (Bq a)
 | _=>.undef
abbrev compare.Mo.ts:List AT:=[.i .u64]
def compare.Mo.spec:Entry:=entry compare.Mo.ts compare.Mo.pre compare.Mo.out
def Ac.Norm.pre:List Atom→Bool
 | [.l x]=>Dp x&&Cr (length x≤64)
 | _=>false
def Ac.Norm.out:List Atom→DV
 | [.l x]=>.tup [.int .u64 (Dr x),.int .i64 (0:Int)]
 | _=>.undef
abbrev Ac.Norm.ts:List AT:=[.s .u64]
def Ac.Norm.spec:Entry:=entry Ac.Norm.ts Ac.Norm.pre Ac.Norm.out
def Aq.Dh.pre:List Atom→Bool
 | [.l x]=>Dp x
 | _=>false
def Aq.Dh.out:List Atom→DV
 | [.l x]=>.bool (Gc x)
 | _=>.undef
abbrev Aq.Dh.ts:List AT:=[.s .u64]
def Aq.Dh.spec:Entry:=entry Aq.Dh.ts Aq.Dh.pre Aq.Dh.out
def Aq.lead.pre:List Atom→Bool
 | [.l x]=>Dp x
 | _=>false
def Aq.lead.out:List Atom→DV
 | [.l x]=>.int .u64 (P7 x)
 | _=>.undef
abbrev Aq.lead.ts:List AT:=[.s .u64]
def Aq.lead.spec:Entry:=entry Aq.lead.ts Aq.lead.pre Aq.lead.out
def Aq.Dj.pre:List Atom→Bool
 | [.l x,.i k]=>Dp x&&Cr (length x≤1000∧-2300≤k∧k≤2300)
 | _=>false
def Aq.Dj.out:List Atom→DV
 | [.l x,.i k]=>.ints .fresh .u64 (Bn x k)
 | _=>.undef
abbrev Aq.Dj.ts:List AT:=[.s .u64,.i .i64]
def Aq.Dj.spec:Entry:=entry Aq.Dj.ts Aq.Dj.pre Aq.Dj.out
def Aq.F7.pre:List Atom→Bool
 | [.i _i]=>true
 | _=>false
def Aq.F7.out:List Atom→DV
 | [.i _i]=>.int .u64 (0:Int)
 | _=>.undef
abbrev Aq.F7.ts:List AT:=[.i .i64]
def Aq.F7.spec:Entry:=entry Aq.F7.ts Aq.F7.pre Aq.F7.out
def Aq.F6.pre:List Atom→Bool
 | [.i i,.l y,.i d]=>(Cr (0≤i∧i<length y)&&Ak y)&&Al d
 | _=>false
def Aq.F6.out:List Atom→DV
 | [.i i,.l y,.i d]=>.int .u64 (Hr (getD y (toNat i) 0) d)
 | _=>.undef
abbrev Aq.F6.ts:List AT:=[.i .i64,.cp [.s .u64],.cp [.i .u64]]
def Aq.F6.spec:Entry:=entry Aq.F6.ts Aq.F6.pre Aq.F6.out
def Aq.row.Zero.pre:List Atom→Bool
 | [.i n]=>Cr (1≤n∧n≤64)
 | _=>false
def Aq.row.Zero.out:List Atom→DV
 | [.i n]=>.ints .fresh .u64 (Iw (toNat n) (fun _=>0))
 | _=>.undef
abbrev Aq.row.Zero.ts:List AT:=[.i .i64,.fn 254 []]
def Aq.row.Zero.spec:Entry:=entry Aq.row.Zero.ts Aq.row.Zero.pre Aq.row.Zero.out
def Aq.row.Div.pre:List Atom→Bool
 | [.i n,.l y,.i d]=>(Cr (1≤n∧n≤64∧n=length y)&&Ak y)&&Al d
 | _=>false
def Aq.row.Div.out:List Atom→DV
 | [.i n,.l y,.i d]=>.ints .fresh .u64 (Iw (toNat n) (fun j=>Hr (getD y j 0) d))
 | _=>.undef
abbrev Aq.row.Div.ts:List AT:=[.i .i64,.fn 259 [.cp [.s .u64],.cp [.i .u64]]]
def Aq.row.Div.spec:Entry:=entry Aq.row.Div.ts Aq.row.Div.pre Aq.row.Div.out
def Aq.Lk.pre:List Atom→Bool
 | [.l x]=>Dp x
 | _=>false
def Aq.Lk.out:List Atom→DV
 | [.l x]=>.tup [.ints .fresh .u64 ((Bv x).1),.int .u64 ((Bv x).2.1),.int .u64 ((Bv x).2.2.1),.int .i64 ((Bv x).2.2.2)]
 | _=>.undef
abbrev Aq.Lk.ts:List AT:=[.s .u64]
def Aq.Lk.spec:Entry:=entry Aq.Lk.ts Aq.Lk.pre Aq.Lk.out
def Aq.Apply.pre:List Atom→Bool
 | [.i r,.i c,.l l,.i i,.i k,.l v,.i t]=>((Az r c l&&Sb r c i k v)&&(Ak l&&Ak v))&&Al t
 | _=>false
def Aq.Apply.out:List Atom→DV
 | [.i r,.i c,.l l,.i i,.i k,.l v,.i t]=>.tup [.agg [.int .i64 r,.int .i64 c,.ints (.own 114002 37) .u64 (Gp (toNat r) (toNat c) l i k v t)],.int .i64 (0:Int)]
 | _=>.undef
abbrev Aq.Apply.ts:List AT:=[.st [.i .i64,.i .i64,.s .u64],.i .i64,.i .i64,.s .u64,.i .u64]
def Aq.Apply.spec:Entry:=entry Aq.Apply.ts Aq.Apply.pre Aq.Apply.out
def qr.down.pre:List Atom→Bool
 | [.i r,.i c,.l l]=>(Az r c l&&Ff l)&&Ak l
 | _=>false
def qr.down.out:List Atom→DV
 | [.i r,.i c,.l l]=>.tup [.agg [.int .i64 ((Hf r c l).1),.int .i64 ((Hf r c l).2.1),.ints .arg .u64 ((Hf r c l).2.2.1)],.recs .fresh 2 (Q3 r c l),.int .i64 ((Hf r c l).2.2.2)]
 | _=>.undef
abbrev qr.down.ts:List AT:=[.st [.i .i64,.i .i64,.s .u64]]
def qr.down.spec:Entry:=entry qr.down.ts qr.down.pre qr.down.out
def qr.D3.pre:List Atom→Bool
 | [.i _r,.i _c,.l l]=>Ak l
 | _=>false
def qr.D3.out:List Atom→DV
 | [.i r,.i c,.l l]=>.tup [.agg [.int .i64 ((qX r c l).1),.int .i64 ((qX r c l).2.1),.ints .arg .u64 ((qX r c l).2.2.1)],.agg [.int .i64 ((rX r c l).1),.int .i64 ((rX r c l).2.1),.ints .arg .u64 ((rX r c l).2.2.1)],.int .i64 (Hq r c l)]
 | _=>.undef
abbrev qr.D3.ts:List AT:=[.st [.i .i64,.i .i64,.s .u64]]
def qr.D3.spec:Entry:=entry qr.D3.ts qr.D3.pre qr.D3.out
def qr.M7.pre:List Atom→Bool
 | [.i _r,.i _c,.l l]=>Ak l
 | _=>false
def qr.M7.out:List Atom→DV
 | [.i r,.i c,.l l]=>.tup [.agg [.int .i64 ((J4 r c l).1),.int .i64 ((J4 r c l).2.1),.ints .fresh .u64 ((J4 r c l).2.2.1)],.agg [.int .i64 ((O5 r c l).1),.int .i64 ((O5 r c l).2.1),.ints .fresh .u64 ((O5 r c l).2.2.1)],.int .i64 (Hq r c l)]
 | _=>.undef
abbrev qr.M7.ts:List AT:=[.st [.i .i64,.i .i64,.s .u64]]
def qr.M7.spec:Entry:=entry qr.M7.ts qr.M7.pre qr.M7.out
def solve.Ht.pre:List Atom→Bool
 | [.i _r,.i _c,.l l,.i _p,.i _q,.l m]=>Ak l&&Ak m
 | _=>false
def solve.Ht.out:List Atom→DV
 | [.i r,.i c,.l l,.i p,.i q,.l m]=>.tup [.agg [.int .i64 ((Hh r c l p q m).1),.int .i64 ((Hh r c l p q m).2.1),.ints .fresh .u64 ((Hh r c l p q m).2.2.1)],.int .i64 ((Hh r c l p q m).2.2.2)]
 | _=>.undef
abbrev solve.Ht.ts:List AT:=[.st [.i .i64,.i .i64,.s .u64],.st [.i .i64,.i .i64,.s .u64]]
def solve.Ht.spec:Entry:=entry solve.Ht.ts solve.Ht.pre solve.Ht.out
def H8.Mo.pre:List Atom→Bool
 | [.i a]=>Al a
 | _=>false
def H8.Mo.out:List Atom→DV
 | [.i a]=>.int .i64 (Bq a)
 | _=>.undef
abbrev H8.Mo.ts:List AT:=[.i .u64]
def H8.Mo.spec:Entry:=entry H8.Mo.ts H8.Mo.pre H8.Mo.out
def A8.Stack.pre:List Atom→Bool
 | [.i r,.i c,.l l,.i p,.i q,.l m]=>(Az r c l&&Az p q m)&&decide (q=c)
 | _=>false
def A8.Stack.out:List Atom→DV
 | [.i r,.i c,.l l,.i p,.i _q,.l m]=>.agg [.int .i64 (r+p),.int .i64 c,.ints .fresh .u64 (l++m)]
 | _=>.undef
abbrev A8.Stack.ts:List AT:=[.st [.i .i64,.i .i64,.s .u64],.st [.i .i64,.i .i64,.s .u64]]
def A8.Stack.spec:Entry:=entry A8.Stack.ts A8.Stack.pre A8.Stack.out
def A7r.Hs.pre:List Atom→Bool
 | []=>true
 | _=>false
def A74.Check.pre:List Atom→Bool
 | [.i _r,.i _c,.l l,.i _p,.i _q,.l m,.i _u,.i _v,.l h]=>Adn l m h
 | _=>false
def Ac.Es.pre:List Atom→Bool
 | [.i i,.i x,.l l]=>(Cr (0≤i∧i<length l)&&Ak l)&&Al x
 | _=>false
def Ac.Es.out:List Atom→DV
 | [.i i,.i x,.l l]=>.int .u64 (D6 x (getD l (toNat i) 0))
 | _=>.undef
abbrev Ac.Es.ts:List AT:=[.i .i64,.cp [.i .u64],.cp [.s .u64]]
def Ac.Es.spec:Entry:=entry Ac.Es.ts Ac.Es.pre Ac.Es.out
def Ac.each.B8.pre:List Atom→Bool
 | [.i n,.i x,.l l]=>((Cr (0≤n∧n≤64∧n=length l))&&Ak l)&&Al x
 | _=>false
def Ac.each.B8.out:List Atom→DV
 | [.i _n,.i x,.l l]=>.ints .fresh .u64 (Ci x l)
 | _=>.undef
abbrev Ac.each.B8.ts:List AT:=[.i .i64,.fn 203 [.cp [.i .u64],.cp [.s .u64]]]
def Ac.each.B8.spec:Entry:=entry Ac.each.B8.ts Ac.each.B8.pre Ac.each.B8.out
def Ac.B8.pre:List Atom→Bool
 | [.i x,.l l]=>(Dp l&&Al x)&&Cr (length l≤64)
 | _=>false
def Ac.B8.out:List Atom→DV
 | [.i x,.l l]=>.tup [.ints .fresh .u64 (Ci x l),.int .i64 (0:Int)]
 | _=>.undef
abbrev Ac.B8.ts:List AT:=[.i .u64,.s .u64]
def Ac.B8.spec:Entry:=entry Ac.B8.ts Ac.B8.pre Ac.B8.out
def Dx.Fs.pre:List Atom→Bool
 | [.i _r,.i _c,.l l,.i _p,.i _q,.l m,.i _u,.i _v,.l h]=>Adn l m h
 | _=>false
def Dx.Fs.out:List Atom→DV
 | [.i r,.i c,.l l,.i p,.i q,.l m,.i u,.i v,.l h]=>.int .i64 (So r c l p q m u v h)
 | _=>.undef
abbrev Dx.Fs.ts:List AT:=[.rs 3 [[.i .i64,.i .i64,.s .u64],[.i .i64,.i .i64,.s .u64],[.i .i64,.i .i64,.s .u64]]]
def Dx.Fs.spec:Entry:=entry Dx.Fs.ts Dx.Fs.pre Dx.Fs.out
def Dx.Ml.pre:List Atom→Bool
 | [.i _r,.i _c,.l l,.i _p,.i _q,.l m,.i _u,.i _v,.l h,.i x]=>Adn l m h&&Al x
 | _=>false
def Dx.Ml.out:List Atom→DV
 | [.i r,.i c,.l l,.i p,.i q,.l m,.i u,.i v,.l h,.i x]=>.tup [.agg [.int .i64 ((C3 r c l p q m u v h x).1),.int .i64 ((C3 r c l p q m u v h x).2.1),.ints .fresh .u64 ((C3 r c l p q m u v h x).2.2.1)],.int .i64 ((C3 r c l p q m u v h x).2.2.2)]
 | _=>.undef
abbrev Dx.Ml.ts:List AT:=[.st [.i .i64,.i .i64,.s .u64],.st [.i .i64,.i .i64,.s .u64],.st [.i .i64,.i .i64,.s .u64],.i .u64]
def Dx.Ml.spec:Entry:=entry Dx.Ml.ts Dx.Ml.pre Dx.Ml.out
def Ax.B8.pre:List Atom→Bool
 | [.i x,.l l]=>(Dp l&&Al x)&&Cr (length l≤64)
 | _=>false
def Ax.B8.out:List Atom→DV
 | [.i x,.l l]=>.ints .fresh .u64 (Ci x l)
 | _=>.undef
abbrev Ax.B8.ts:List AT:=[.i .u64,.s .u64]
def Ax.B8.spec:Entry:=entry Ax.B8.ts Ax.B8.pre Ax.B8.out
def D4.Z0.pre:List Atom→Bool
 | [.i r,.i c,.l l,.i u,.i v,.l h,.i x]=>((Az r c l&&Az u v h)&&(Ak h&&Al x))&&decide (v=c)
 | _=>false
def D4.Z0.out:List Atom→DV
 | [.i r,.i c,.l l,.i u,.i _v,.l h,.i x]=>.agg [.int .i64 (r+u),.int .i64 c,.ints .fresh .u64 (l++Ci x h)]
 | _=>.undef
abbrev D4.Z0.ts:List AT:=[.st [.i .i64,.i .i64,.s .u64],.st [.i .i64,.i .i64,.s .u64],.i .u64]
def D4.Z0.spec:Entry:=entry D4.Z0.ts D4.Z0.pre D4.Z0.out
def D4.Nw.pre:List Atom→Bool
 | [.i p,.i q,.l m,.i u,.i _v,.l _h]=>(Az p q m&&Br u)&&decide (q=1)
 | _=>false
def D4.Nw.out:List Atom→DV
 | [.i p,.i _q,.l m,.i u,.i _v,.l _h]=>.agg [.int .i64 (p+u),.int .i64 (1:Int),.ints .fresh .u64 (m++List.replicate (toNat u) 0)]
 | _=>.undef
abbrev D4.Nw.ts:List AT:=[.st [.i .i64,.i .i64,.s .u64],.st [.i .i64,.i .i64,.s .u64]]
def D4.Nw.spec:Entry:=entry D4.Nw.ts D4.Nw.pre D4.Nw.out
def Cw.one.pre:List Atom→Bool
 | [.i _b]=>true
 | _=>false
def Cw.one.out:List Atom→DV
 | [.i b]=>.agg [.int .i64 (1:Int),.int .i64 (1:Int),.ints .fresh .u64 ([b])]
 | _=>.undef
abbrev Cw.one.ts:List AT:=[.i .u64]
def Cw.one.spec:Entry:=entry Cw.one.ts Cw.one.pre Cw.one.out
def Cw.Hs.pre:List Atom→Bool
 | []=>true
 | _=>false
def Cw.Hs.out:List Atom→DV
 | []=>.bool true
 | _=>.undef
abbrev Cw.Hs.ts:List AT:=[]
def Cw.Hs.spec:Entry:=entry Cw.Hs.ts Cw.Hs.pre Cw.Hs.out
def Ax.E2.pre:List Atom→Bool
 | [.l x,.i k]=>Dp x&&Cr (0≤k∧k≤1000)
 | _=>false
def Ax.E2.out:List Atom→DV
 | [.l x,.i k]=>.bool (Ec x k)
 | _=>.undef
abbrev Ax.E2.ts:List AT:=[.s .u64,.i .i64]
def Ax.E2.spec:Entry:=entry Ax.E2.ts Ax.E2.pre Ax.E2.out
def Au.E2.pre:List Atom→Bool
 | [.i _r,.i _c,.l l,.i k]=>Ak l&&Cr (0≤k∧k≤1000)
 | _=>false
def Au.E2.out:List Atom→DV
 | [.i r,.i c,.l l,.i k]=>.bool (Az r c l&&Ec l k)
 | _=>.undef
abbrev Au.E2.ts:List AT:=[.st [.i .i64,.i .i64,.s .u64],.i .i64]
def Au.E2.spec:Entry:=entry Au.E2.ts Au.E2.pre Au.E2.out
def Ax.Cx.q.pre:List Atom→Bool
 | [.l x]=>Dp x&&Cr (length x≤64)
 | _=>false
def Ax.Cx.q.out:List Atom→DV
 | [.l x]=>.agg [.bool (A2 (mQ (I3 x))),.ints .arg .u32 (Ah (mQ (I3 x))),.int .i64 (eQ (I3 x))]
 | _=>.undef
abbrev Ax.Cx.q.ts:List AT:=[.s .u64]
def Ax.Cx.q.spec:Entry:=entry Ax.Cx.q.ts Ax.Cx.q.pre Ax.Cx.q.out
def Au.Gg.pre:List Atom→Bool
 | [.i r,.i c,.l l]=>Ak l&&Az r c l
 | _=>false
def Au.Gg.out:List Atom→DV
 | [.i _r,.i _c,.l l]=>.agg [.bool (A2 (mQ (I3 l))),.ints .arg .u32 (Ah (mQ (I3 l))),.int .i64 (eQ (I3 l))]
 | _=>.undef
abbrev Au.Gg.ts:List AT:=[.st [.i .i64,.i .i64,.s .u64]]
def Au.Gg.spec:Entry:=entry Au.Gg.ts Au.Gg.pre Au.Gg.out
def Au.Hn.q.pre:List Atom→Bool
 | [.l x,.l y]=>(Ak x&&Ak y)&&Cr (length x=length y∧length x≤64)
 | _=>false
def Au.Hn.q.out:List Atom→DV
 | [.l x,.l y]=>.agg [.bool (A2 (mQ (dtL x y))),.ints .arg .u32 (Ah (mQ (dtL x y))),.int .i64 (eQ (dtL x y))]
 | _=>.undef
abbrev Au.Hn.q.ts:List AT:=[.s .u64,.s .u64]
def Au.Hn.q.spec:Entry:=entry Au.Hn.q.ts Au.Hn.q.pre Au.Hn.q.out
def Au.G6.pre:List Atom→Bool
 | [.l x,.r y]=>Ak x&&Sg y (length x)
 | _=>false
def Au.G6.out:List Atom→DV
 | [.l x,.r y]=>.agg [.bool (A2 (mQ (Q8 x y))),.ints .arg .u32 (Ah (mQ (Q8 x y))),.int .i64 (eQ (Q8 x y))]
 | _=>.undef
abbrev Au.G6.ts:List AT:=[.s .u64,.rl 3]
def Au.G6.spec:Entry:=entry Au.G6.ts Au.G6.pre Au.G6.out
def Au.A6.pre:List Atom→Bool
 | [.i r,.i c,.l l,.i p,.i q,.l m,.i u,.i v,.l h]=>((Az r c l&&Az p q m)&&(Az u v h&&(Ak l&&(Ak m&&Ak h))))&&decide (p=c∧u=r∧v=q)
 | _=>false
def Au.A6.out:List Atom→DV
 | [.i r,.i c,.l l,.i _p,.i q,.l m,.i _u,.i _v,.l h]=>.agg [.bool (A2 (mQ (Oa (toNat r) (toNat c) (toNat q) l m h))),.ints .arg .u32 (Ah (mQ (Oa (toNat r) (toNat c) (toNat q) l m h))),.int .i64 (eQ (Oa (toNat r) (toNat c) (toNat q) l m h))]
 | _=>.undef
abbrev Au.A6.ts:List AT:=[.st [.i .i64,.i .i64,.s .u64],.st [.i .i64,.i .i64,.s .u64],.st [.i .i64,.i .i64,.s .u64]]
def Au.A6.spec:Entry:=entry Au.A6.ts Au.A6.pre Au.A6.out
def Au.F2.pre:List Atom→Bool
 | [.b n,.l a,.i e,.b m,.l b,.i f,.i k]=>(dsB n a e&&dsB m b f)&&Cr (0≤k∧k≤1000)
 | _=>false
def Au.F2.out:List Atom→DV
 | [.b n,.l a,.i e,.b m,.l b,.i f,.i k]=>.bool (decide (vQ n a e≤vQ m b f*tw (-2*k)+tw (-4000)))
 | _=>.undef
abbrev Au.F2.ts:List AT:=[.st [.b,.s .u32,.i .i64],.st [.b,.s .u32,.i .i64],.i .i64]
def Au.F2.spec:Entry:=entry Au.F2.ts Au.F2.pre Au.F2.out
def Cw.Ct.pre:List Atom→Bool
 | [.i _r,.i _c,.l l,.i _p,.i _q,.l m,.i _u,.i _v,.l h,.i x]=>Adn l m h&&Al x
 | _=>false
def Cw.Ct.out:List Atom→DV
 | [.i _r,.i _c,.l _l,.i _p,.i _q,.l _m,.i _u,.i _v,.l _h,.i _x]=>.bool true
 | _=>.undef
abbrev Cw.Ct.ts:List AT:=[.st [.i .i64,.i .i64,.s .u64,.i .i64,.i .i64,.s .u64,.i .i64,.i .i64,.s .u64],.i .u64]
def Cw.Ct.spec:Entry:=entry Cw.Ct.ts Cw.Ct.pre Cw.Ct.out
def Ai.Add.q.pre:List Atom→Bool
 | [.b n,.l a,.i e,.b m,.l b,.i f]=>Zs n a e&&Zs m b f
 | _=>false
def Ai.Add.q.out:List Atom→DV
 | [.b n,.l a,.i e,.b m,.l b,.i f]=>.agg [.bool (A2 (mQ (vQ n a e+vQ m b f))),.ints .arg .u32 (Ah (mQ (vQ n a e+vQ m b f))),.int .i64 (eQ (vQ n a e+vQ m b f))]
 | _=>.undef
abbrev Ai.Add.q.ts:List AT:=[.st [.b,.s .u32,.i .i64],.st [.b,.s .u32,.i .i64]]
def Ai.Add.q.spec:Entry:=entry Ai.Add.q.ts Ai.Add.q.pre Ai.Add.q.out
def Ai.Sub.q.pre:List Atom→Bool
 | [.b n,.l a,.i e,.b m,.l b,.i f]=>Zs n a e&&Zs m b f
 | _=>false
def Ai.Sub.q.out:List Atom→DV
 | [.b n,.l a,.i e,.b m,.l b,.i f]=>.agg [.bool (A2 (mQ (vQ n a e-vQ m b f))),.ints .arg .u32 (Ah (mQ (vQ n a e-vQ m b f))),.int .i64 (eQ (vQ n a e-vQ m b f))]
 | _=>.undef
abbrev Ai.Sub.q.ts:List AT:=[.st [.b,.s .u32,.i .i64],.st [.b,.s .u32,.i .i64]]
def Ai.Sub.q.spec:Entry:=entry Ai.Sub.q.ts Ai.Sub.q.pre Ai.Sub.q.out
def Ai.Mul.q.pre:List Atom→Bool
 | [.b n,.l a,.i e,.b m,.l b,.i f]=>Zs n a e&&Zs m b f
 | _=>false
def Ai.Mul.q.out:List Atom→DV
 | [.b n,.l a,.i e,.b m,.l b,.i f]=>.agg [.bool (A2 (mQ (vQ n a e*vQ m b f))),.ints .arg .u32 (Ah (mQ (vQ n a e*vQ m b f))),.int .i64 (eQ (vQ n a e*vQ m b f))]
 | _=>.undef
abbrev Ai.Mul.q.ts:List AT:=[.st [.b,.s .u32,.i .i64],.st [.b,.s .u32,.i .i64]]
def Ai.Mul.q.spec:Entry:=entry Ai.Mul.q.ts Ai.Mul.q.pre Ai.Mul.q.out
def Ai.Cq.q.pre:List Atom→Bool
 | [.b n,.l a,.i e,.i k]=>Zs n a e&&Cr (-2000≤k∧k≤2000)
 | _=>false
def Ai.Cq.q.out:List Atom→DV
 | [.b n,.l a,.i e,.i k]=>.agg [.bool (A2 (mQ (vQ n a e*tw k))),.ints .arg .u32 (Ah (mQ (vQ n a e*tw k))),.int .i64 (eQ (vQ n a e*tw k))]
 | _=>.undef
abbrev Ai.Cq.q.ts:List AT:=[.st [.b,.s .u32,.i .i64],.i .i64]
def Ai.Cq.q.spec:Entry:=entry Ai.Cq.q.ts Ai.Cq.q.pre Ai.Cq.q.out
def Ai.Compare.q.pre:List Atom→Bool
 | [.b n,.l a,.i e,.b m,.l b,.i f]=>Zs n a e&&Zs m b f
 | _=>false
def Ai.Compare.q.out:List Atom→DV
 | [.b n,.l a,.i e,.b m,.l b,.i f]=>.int .i64 (Amx (vQ n a e) (vQ m b f))
 | _=>.undef
abbrev Ai.Compare.q.ts:List AT:=[.st [.b,.s .u32,.i .i64],.st [.b,.s .u32,.i .i64]]
def Ai.Compare.q.spec:Entry:=entry Ai.Compare.q.ts Ai.Compare.q.pre Ai.Compare.q.out
def Ai.Of.q.pre:List Atom→Bool
 | [.b n,.l a,.i e]=>Ll n a&&Cr (-5000≤e∧e≤5000)
 | _=>false
def Ai.Of.q.out:List Atom→DV
 | [.b n,.l a,.i e]=>.agg [.bool (A2 (mQ (vQ n a e))),.ints .arg .u32 (Ah (mQ (vQ n a e))),.int .i64 (eQ (vQ n a e))]
 | _=>.undef
abbrev Ai.Of.q.ts:List AT:=[.st [.b,.s .u32],.i .i64]
def Ai.Of.q.spec:Entry:=entry Ai.Of.q.ts Ai.Of.q.pre Ai.Of.q.out
def A4.Value.q.pre:List Atom→Bool
 | [.i x]=>Al x
 | _=>false
def A4.Value.q.out:List Atom→DV
 | [.i x]=>.agg [.bool (A2 (mQ (Ek x))),.ints .arg .u32 (Ah (mQ (Ek x))),.int .i64 (eQ (Ek x))]
 | _=>.undef
abbrev A4.Value.q.ts:List AT:=[.i .u64]
def A4.Value.q.spec:Entry:=entry A4.Value.q.ts A4.Value.q.pre A4.Value.q.out
def Ez.Canon.nb.pre:List Atom→Bool
 | [.f _x]=>true
 | _=>false
def Ez.Canon.nb.out:List Atom→DV
 | [.f x]=>.int .u64 (R6 x)
 | _=>.undef
abbrev Ez.Canon.nb.ts:List AT:=[.nb]
def Ez.Canon.nb.spec:Entry:=entry Ez.Canon.nb.ts Ez.Canon.nb.pre Ez.Canon.nb.out
def C1.Mg.pre:List Atom→Bool
 | [.i x]=>Al x
 | _=>false
def C1.Mg.out:List Atom→DV
 | [.i x]=>.int .i64 (Fk x)
 | _=>.undef
abbrev C1.Mg.ts:List AT:=[.i .u64]
def C1.Mg.spec:Entry:=entry C1.Mg.ts C1.Mg.pre C1.Mg.out
def Ag.plus.own.pre:List Atom→Bool
 | [.l a,.l b]=>Iy a&&Iy b
 | _=>false
def Ag.plus.own.out:List Atom→DV
 | [.l a,.l b]=>.ints (.own 100005 173) .u32 (K5 a b)
 | _=>.undef
abbrev Ag.plus.own.ts:List AT:=[.s .u32,.s .u32]
def Ag.plus.own.spec:Entry:=entry Ag.plus.own.ts Ag.plus.own.pre Ag.plus.own.out
theorem tt0:∀ a b c:Bool,((a==a)&&(b&&(c&&true)))=(b&&c):=by decide
theorem tt1:∀ a b:Bool,(bif a then b else false)=(a&&b):=by decide
theorem Zb:∀ a:Bool,(((!a)||(a==true))&&true)=true:=by decide
theorem O4:∀ a:Bool,((!(a==true))||((((!(a==true))||(a==true))&&true)&&true))=true:=by decide
theorem Sy:∀ a:Bool,((!(a==true))||true)=true:=by decide
theorem tt5:∀ a b:Bool,(bif a then true else b)=(a||b):=by decide
theorem tt6:∀ a:Bool,((!(!a))||(a==false))=true:=by decide
theorem Vh:∀ a:Bool,((!(a==false))||((((!(a==false))||(a==false))&&true)&&true))=true:=by decide
theorem tt8:∀ a:Bool,((!(a==false))||((((!(a==false))||(a==false))&&(((!(a==false))||(a==false))&&true))&&true))=true:=by decide
theorem Za:∀ a:Bool,((!(a==false))||true)=true:=by decide
theorem Cn:∀ a:Bool,(a&&true)=a:=by decide
theorem A68:∀ a b c d e:Bool,(bif a then (bif b then true else (bif c then (bif d then true else e) else false)) else false)=(a&&(b||(c&&(d||e)))):=by decide
theorem A4r:∀ a b:Bool,((!(a==true))||(((!(a==true))||(a==true))&&((!(!b))||((a==true)&&(b==false)))))=true:=by decide
theorem A67:∀ a b c:Bool,((!((a==true)&&(b==false)))||(((!((a==true)&&(b==false)))||((a==true)&&(b==false)))&&(((!c)||(((a==true)&&(b==false))&&(c==true)))&&true)))=true:=by decide
theorem A66:∀ a b c d:Bool,((!(((a==true)&&(b==false))&&(c==true)))||(((!(((a==true)&&(b==false))&&(c==true)))||(((a==true)&&(b==false))&&(c==true)))&&((!(!d))||((((a==true)&&(b==false))&&(c==true))&&(d==false)))))=true:=by decide
theorem A4n:∀ a b c d:Bool,((!((((a==true)&&(b==false))&&(c==true))&&(d==false)))||((((!((((a==true)&&(b==false))&&(c==true))&&(d==false)))||((((a==true)&&(b==false))&&(c==true))&&(d==false)))&&true)&&true))=true:=by decide
theorem A65:∀ a b c d:Bool,((!((((a==true)&&(b==false))&&(c==true))&&(d==false)))||true)=true:=by decide
theorem A64:∀ a b c:Bool,((!(((a==true)&&(b==false))&&(c==true)))||((((!(((a==true)&&(b==false))&&(c==true)))||(((a==true)&&(b==false))&&(c==true)))&&true)&&true))=true:=by decide
theorem A63:∀ a b c:Bool,((!(((a==true)&&(b==false))&&(c==true)))||true)=true:=by decide
theorem A4h:∀ a b:Bool,((!((a==true)&&(b==false)))||((((!((a==true)&&(b==false)))||((a==true)&&(b==false)))&&true)&&true))=true:=by decide
theorem A4g:∀ a b:Bool,((!((a==true)&&(b==false)))||((((!((a==true)&&(b==false)))||((a==true)&&(b==false)))&&(((!((a==true)&&(b==false)))||((a==true)&&(b==false)))&&true))&&true))=true:=by decide
theorem As0:∀ a b:Bool,((!((a==true)&&(b==false)))||true)=true:=by decide
theorem Apf:∀ a:Bool,((!(a==true))||((((!(a==true))||(a==true))&&(((!(a==true))||(a==true))&&true))&&true))=true:=by decide
theorem A07:∀ a b:Bool,(bif (!a) then true else b)=((!a)||b):=by decide
theorem Af5:∀ a:Bool,((!(!(!a)))||((!a)==false))=true:=by decide
theorem Ux:∀ a:Bool,((!((!a)==false))||((((!((!a)==false))||((!a)==false))&&true)&&true))=true:=by decide
theorem Af4:∀ a:Bool,((!((!a)==false))||true)=true:=by decide
theorem A62:∀ a b:Bool,(bif a then (!b) else false)=(a&&(!b)):=by decide
theorem Axq:∀ a b:Bool,(bif (!a) then true else (!b))=((!a)||(!b)):=by decide
theorem Asz:∀ a b:Bool,((!((!a)==false))||((((!((!a)==false))||((!a)==false))&&true)&&b))=((!a)||b):=by decide
theorem A4f:∀ a b c d:Bool,(bif (bif a then b else false) then true else (bif c then d else false))=((a&&b)||(c&&d)):=by decide
theorem A4e:∀ a b:Bool,((!(!(bif a then b else false)))||((bif a then b else false)==false))=true:=by decide
theorem A4d:∀ a b c:Bool,((!((bif a then b else false)==false))||(((!((bif a then b else false)==false))||((bif a then b else false)==false))&&(((!c)||(((bif a then b else false)==false)&&(c==true)))&&true)))=true:=by decide
theorem A4c:∀ a b c:Bool,((!(((bif a then b else false)==false)&&(c==true)))||((((!(((bif a then b else false)==false)&&(c==true)))||(((bif a then b else false)==false)&&(c==true)))&&true)&&true))=true:=by decide
theorem A4b:∀ a b c:Bool,((!(((bif a then b else false)==false)&&(c==true)))||true)=true:=by decide
theorem Axp:∀ a b:Bool,((!((bif a then b else false)==false))||((((!((bif a then b else false)==false))||((bif a then b else false)==false))&&true)&&true))=true:=by decide
theorem A4a:∀ a b:Bool,((!((bif a then b else false)==false))||true)=true:=by decide
theorem Rg:∀ a b:Bool,((a&&b)&&true)=(a&&b):=by decide
theorem A61:∀ a b c:Bool,(bif (bif (!a) then true else (!b)) then true else c)=(((!a)||(!b))||c):=by decide
theorem A39:∀ a b:Bool,((!(!(bif (!a) then true else (!b))))||((bif (!a) then true else (!b))==false))=true:=by decide
theorem A38:∀ a b:Bool,((!((bif (!a) then true else (!b))==false))||((((!((bif (!a) then true else (!b))==false))||((bif (!a) then true else (!b))==false))&&(((!((bif (!a) then true else (!b))==false))||((bif (!a) then true else (!b))==false))&&true))&&true))=true:=by decide
theorem Ape:∀ a b:Bool,((!((bif (!a) then true else (!b))==false))||((((!((bif (!a) then true else (!b))==false))||((bif (!a) then true else (!b))==false))&&true)&&true))=true:=by decide
theorem Axo:∀ a b:Bool,((!((bif (!a) then true else (!b))==false))||true)=true:=by decide
theorem A37:∀ a b c d:Bool,(((a&&b)&&(c&&d))&&true)=((a&&b)&&(c&&d)):=by decide
theorem A60:∀ a b c d e f g h:Bool,(bif (bif (bif (bif (bif (bif (bif a then true else b) then true else c) then true else d) then true else e) then true else f) then true else g) then true else h)=(((((((a||b)||c)||d)||e)||f)||g)||h):=by decide
theorem A6z:∀ a b c d e f g:Bool,((!(!(bif (bif (bif (bif (bif (bif a then true else b) then true else c) then true else d) then true else e) then true else f) then true else g)))||((bif (bif (bif (bif (bif (bif a then true else b) then true else c) then true else d) then true else e) then true else f) then true else g)==false))=true:=by decide
theorem A36:∀ a b c d e f g:Bool,((!((bif (bif (bif (bif (bif (bif a then true else b) then true else c) then true else d) then true else e) then true else f) then true else g)==false))||((((!((bif (bif (bif (bif (bif (bif a then true else b) then true else c) then true else d) then true else e) then true else f) then true else g)==false))||((bif (bif (bif (bif (bif (bif a then true else b) then true else c) then true else d) then true else e) then true else f) then true else g)==false))&&(((!((bif (bif (bif (bif (bif (bif a then true else b) then true else c) then true else d) then true else e) then true else f) then true else g)==false))||((bif (bif (bif (bif (bif (bif a then true else b) then true else c) then true else d) then true else e) then true else f) then true else g)==false))&&true))&&true))=true:=by decide
theorem A06:∀ a b c d e f g:Bool,((!((bif (bif (bif (bif (bif (bif a then true else b) then true else c) then true else d) then true else e) then true else f) then true else g)==false))||true)=true:=by decide
theorem A6y:∀ a b c d e f g:Bool,((!((bif (bif (bif (bif (bif (bif a then true else b) then true else c) then true else d) then true else e) then true else f) then true else g)==false))||((((!((bif (bif (bif (bif (bif (bif a then true else b) then true else c) then true else d) then true else e) then true else f) then true else g)==false))||((bif (bif (bif (bif (bif (bif a then true else b) then true else c) then true else d) then true else e) then true else f) then true else g)==false))&&true)&&true))=true:=by decide
theorem A6x:∀ a b c d e f:Bool,((!(!(bif (bif (bif (bif (bif a then true else b) then true else c) then true else d) then true else e) then true else f)))||((bif (bif (bif (bif (bif a then true else b) then true else c) then true else d) then true else e) then true else f)==false))=true:=by decide
theorem A35:∀ a b c d e f:Bool,((!((bif (bif (bif (bif (bif a then true else b) then true else c) then true else d) then true else e) then true else f)==false))||((((!((bif (bif (bif (bif (bif a then true else b) then true else c) then true else d) then true else e) then true else f)==false))||((bif (bif (bif (bif (bif a then true else b) then true else c) then true else d) then true else e) then true else f)==false))&&(((!((bif (bif (bif (bif (bif a then true else b) then true else c) then true else d) then true else e) then true else f)==false))||((bif (bif (bif (bif (bif a then true else b) then true else c) then true else d) then true else e) then true else f)==false))&&true))&&true))=true:=by decide
theorem A05:∀ a b c d e f:Bool,((!((bif (bif (bif (bif (bif a then true else b) then true else c) then true else d) then true else e) then true else f)==false))||true)=true:=by decide
theorem A6w:∀ a b c d e f:Bool,((!((bif (bif (bif (bif (bif a then true else b) then true else c) then true else d) then true else e) then true else f)==false))||((((!((bif (bif (bif (bif (bif a then true else b) then true else c) then true else d) then true else e) then true else f)==false))||((bif (bif (bif (bif (bif a then true else b) then true else c) then true else d) then true else e) then true else f)==false))&&true)&&true))=true:=by decide
theorem A6v:∀ a b c d e:Bool,((!(!(bif (bif (bif (bif a then true else b) then true else c) then true else d) then true else e)))||((bif (bif (bif (bif a then true else b) then true else c) then true else d) then true else e)==false))=true:=by decide
theorem A6u:∀ a b c d e:Bool,((!((bif (bif (bif (bif a then true else b) then true else c) then true else d) then true else e)==false))||((((!((bif (bif (bif (bif a then true else b) then true else c) then true else d) then true else e)==false))||((bif (bif (bif (bif a then true else b) then true else c) then true else d) then true else e)==false))&&(((!((bif (bif (bif (bif a then true else b) then true else c) then true else d) then true else e)==false))||((bif (bif (bif (bif a then true else b) then true else c) then true else d) then true else e)==false))&&true))&&true))=true:=by decide
theorem A6t:∀ a b c d e:Bool,((!((bif (bif (bif (bif a then true else b) then true else c) then true else d) then true else e)==false))||((((!((bif (bif (bif (bif a then true else b) then true else c) then true else d) then true else e)==false))||((bif (bif (bif (bif a then true else b) then true else c) then true else d) then true else e)==false))&&true)&&true))=true:=by decide
theorem A34:∀ a b c d e:Bool,((!((bif (bif (bif (bif a then true else b) then true else c) then true else d) then true else e)==false))||true)=true:=by decide
theorem A33:∀ a b c d:Bool,((!(!(bif (bif (bif a then true else b) then true else c) then true else d)))||((bif (bif (bif a then true else b) then true else c) then true else d)==false))=true:=by decide
theorem A32:∀ a b c d:Bool,((!((bif (bif (bif a then true else b) then true else c) then true else d)==false))||((((!((bif (bif (bif a then true else b) then true else c) then true else d)==false))||((bif (bif (bif a then true else b) then true else c) then true else d)==false))&&(((!((bif (bif (bif a then true else b) then true else c) then true else d)==false))||((bif (bif (bif a then true else b) then true else c) then true else d)==false))&&true))&&true))=true:=by decide
theorem A31:∀ a b c d:Bool,((!((bif (bif (bif a then true else b) then true else c) then true else d)==false))||((((!((bif (bif (bif a then true else b) then true else c) then true else d)==false))||((bif (bif (bif a then true else b) then true else c) then true else d)==false))&&true)&&true))=true:=by decide
theorem Axn:∀ a b c d:Bool,((!((bif (bif (bif a then true else b) then true else c) then true else d)==false))||true)=true:=by decide
theorem A04:∀ a b c:Bool,((!(!(bif (bif a then true else b) then true else c)))||((bif (bif a then true else b) then true else c)==false))=true:=by decide
theorem Asy:∀ a b c:Bool,((!((bif (bif a then true else b) then true else c)==false))||((((!((bif (bif a then true else b) then true else c)==false))||((bif (bif a then true else b) then true else c)==false))&&true)&&true))=true:=by decide
theorem Axm:∀ a b c:Bool,((!((bif (bif a then true else b) then true else c)==false))||true)=true:=by decide
theorem Axl:∀ a b:Bool,((!(!(bif a then true else b)))||((bif a then true else b)==false))=true:=by decide
theorem Akw:∀ a b:Bool,((!((bif a then true else b)==false))||((((!((bif a then true else b)==false))||((bif a then true else b)==false))&&true)&&true))=true:=by decide
theorem Akv:∀ a b:Bool,((!((bif a then true else b)==false))||true)=true:=by decide
theorem A6s:∀ a b c d:Bool,(((!(bif (bif (bif a then b else false) then c else false) then d else false))||((bif (bif (bif a then b else false) then c else false) then d else false)==true))&&true)=true:=by decide
theorem A30:∀ a b c d:Bool,((!((bif (bif (bif a then b else false) then c else false) then d else false)==true))||((((!((bif (bif (bif a then b else false) then c else false) then d else false)==true))||((bif (bif (bif a then b else false) then c else false) then d else false)==true))&&(((!((bif (bif (bif a then b else false) then c else false) then d else false)==true))||((bif (bif (bif a then b else false) then c else false) then d else false)==true))&&true))&&true))=true:=by decide
theorem Axk:∀ a b c d:Bool,((!((bif (bif (bif a then b else false) then c else false) then d else false)==true))||((((!((bif (bif (bif a then b else false) then c else false) then d else false)==true))||((bif (bif (bif a then b else false) then c else false) then d else false)==true))&&true)&&true))=true:=by decide
theorem A03:∀ a b c d:Bool,((!((bif (bif (bif a then b else false) then c else false) then d else false)==true))||true)=true:=by decide
theorem A6r:∀ a b c:Bool,(((!(bif (bif a then b else false) then c else false))||((bif (bif a then b else false) then c else false)==true))&&true)=true:=by decide
theorem A3z:∀ a b c:Bool,((!((bif (bif a then b else false) then c else false)==true))||((((!((bif (bif a then b else false) then c else false)==true))||((bif (bif a then b else false) then c else false)==true))&&true)&&true))=true:=by decide
theorem A6q:∀ a b c:Bool,((!((bif (bif a then b else false) then c else false)==true))||true)=true:=by decide
theorem A3y:∀ a b:Bool,(((!(bif a then b else false))||((bif a then b else false)==true))&&true)=true:=by decide
theorem Asx:∀ a b:Bool,((!((bif a then b else false)==true))||((((!((bif a then b else false)==true))||((bif a then b else false)==true))&&true)&&true))=true:=by decide
theorem A3x:∀ a b:Bool,((!((bif a then b else false)==true))||true)=true:=by decide
theorem A3w:∀ a b c:Bool,((!(a==true))||((((!(a==true))||(a==true))&&(((!(a==true))||(a==true))&&true))&&(b&&c)))=((!a)||(b&&c)):=by decide
theorem A3v:∀ a:Bool,(((a&&true)&&true)&&true)=a:=by decide
theorem A3u:∀ a b:Bool,((!(a==true))||((((!(a==true))||(a==true))&&true)&&b))=((!a)||b):=by decide
theorem A6p:∀ a b:Bool,((!(a==true))||((((!(a==true))||(a==true))&&(((!(a==true))||(a==true))&&true))&&b))=((!a)||b):=by decide
theorem A6o:∀ a b:Bool,((!(a==false))||((((!(a==false))||(a==false))&&true)&&b))=(a||b):=by decide
theorem A6n:∀ a b:Bool,(bif a then true else (!b))=(a||(!b)):=by decide
theorem A01:∀ a b c:Bool,((a&&b)&&((a&&c)&&true))=((a&&b)&&(a&&c)):=by decide
theorem A6m:∀ a:Bool,((a&&true)&&true)=a:=by decide
theorem A6l:∀ a b c d e:Bool,(bif (bif (bif (bif a then true else b) then true else c) then true else d) then true else e)=((((a||b)||c)||d)||e):=by decide
theorem A00:∀ a b:Bool,((!((bif a then true else b)==false))||((((!((bif a then true else b)==false))||((bif a then true else b)==false))&&(((!((bif a then true else b)==false))||((bif a then true else b)==false))&&true))&&true))=true:=by decide
theorem A6k:∀ a b c:Bool,((!((bif a then b else false)==true))||((((!((bif a then b else false)==true))||((bif a then b else false)==true))&&true)&&c))=((!(a&&b))||c):=by decide
theorem A6j:∀ a b c d:Bool,(bif (bif (bif (!a) then true else (!b)) then true else (!c)) then true else (!d))=((((!a)||(!b))||(!c))||(!d)):=by decide
theorem A6i:∀ a b c:Bool,((!(!(bif (bif (!a) then true else (!b)) then true else (!c))))||((bif (bif (!a) then true else (!b)) then true else (!c))==false))=true:=by decide
theorem A3t:∀ a b c:Bool,((!((bif (bif (!a) then true else (!b)) then true else (!c))==false))||((((!((bif (bif (!a) then true else (!b)) then true else (!c))==false))||((bif (bif (!a) then true else (!b)) then true else (!c))==false))&&true)&&true))=true:=by decide
theorem A4w:∀ a b c:Bool,((!((bif (bif (!a) then true else (!b)) then true else (!c))==false))||true)=true:=by decide
theorem A4v:∀ a b c:Bool,((!((bif (bif a then true else b) then true else c)==false))||((((!((bif (bif a then true else b) then true else c)==false))||((bif (bif a then true else b) then true else c)==false))&&(((!((bif (bif a then true else b) then true else c)==false))||((bif (bif a then true else b) then true else c)==false))&&true))&&true))=true:=by decide
theorem A4u:∀ a:Bool,((((!a)||(a==true))&&true)&&true)=true:=by decide
theorem A4t:∀ a:Bool,(((!(a==true))||true)&&true)=true:=by decide
theorem A4s:∀ a b c d:Bool,(bif (bif (bif a then true else b) then true else c) then true else d)=(((a||b)||c)||d):=by decide
theorem A4q:∀ a b c:Bool,(bif a then (bif b then true else c) else false)=(a&&(b||c)):=by decide
theorem A4p:∀ a b c:Bool,((!((a==true)&&(b==false)))||((((!((a==true)&&(b==false)))||((a==true)&&(b==false)))&&true)&&c))=((!(a&&(!b)))||c):=by decide
theorem A4o:∀ a b c d:Bool,((!((a==true)&&(b==false)))||((((!((a==true)&&(b==false)))||((a==true)&&(b==false)))&&(((!((a==true)&&(b==false)))||((a==true)&&(b==false)))&&true))&&(c&&d)))=((!(a&&(!b)))||(c&&d)):=by decide
theorem A0i:∀ a b c:Bool,((a&&(b&&(c&&true)))&&true)=(a&&(b&&c)):=by decide
theorem A4m:∀ a b:Bool,(((!(bif a then true else b))||((bif a then true else b)==true))&&true)=true:=by decide
theorem A4l:∀ a b:Bool,((!((bif a then true else b)==true))||true)=true:=by decide
theorem A4k:∀ a b c:Bool,(bif (bif a then true else b) then true else c)=((a||b)||c):=by decide
theorem A4j:∀ a b c d:Bool,((!((bif (bif (!a) then true else (!b)) then true else (!c))==false))||((((!((bif (bif (!a) then true else (!b)) then true else (!c))==false))||((bif (bif (!a) then true else (!b)) then true else (!c))==false))&&true)&&d))=((((!a)||(!b))||(!c))||d):=by decide
theorem A4i:∀ a b c:Bool,((!((bif (!a) then true else (!b))==false))||((((!((bif (!a) then true else (!b))==false))||((bif (!a) then true else (!b))==false))&&true)&&c))=(((!a)||(!b))||c):=by decide
end Go.Proofs.S1
end
