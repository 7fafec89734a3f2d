/- A verified evaluator of the program's form and its use for this seat: BndM, SvdN, S1PRef19, S1PRef19A, S1EqBes, S1PBes, S1EqLow, S1PLow, S1EqLse, S1PLse, S1PLseA, S1PRefL, S1PRef20, S1PMx, S1EqGg, S1PGg, S1EqRidge, S1PRidge, S1EqRef22, S1PRef22, S1EqLaw17, S1PLaw17, S1EqLaw22, S1PLaw22, S1EqTot, S1PTot, S1PGgA, S1EqRef21, S1PRef21, S1EqGsv, S1EqRef23, S1PGs, S1EqLaw23, S1PGsA, S1PLaw23, S1EqRefM, S1PRefM, ExaL, S1PExa, RatO, RatP, RatQ, VecR, NorR, NorS, MirR, MirT, MirW. -/
import Derived.Test.YthajngaadbanfaaGreatTF
import Derived.Test.YthajngaadbanfaaGreatTE
import Derived.Test.YthajngaadbanfaaGreatTK
import Derived.Test.YthajngaadbanfaaGreatTJ
import Derived.Test.YthajngaadbanfaaGreatTI
set_option linter.unusedVariables false
set_option linter.unusedSimpArgs false
open Option renaming some->xQ,none->xY
open Bool renaming true->xZ,false->x5
open Int renaming toNat->wQ
open List renaming length->wj,getD->wt
open List renaming all_eq_true->zB,mem_map->zh,length_cons->zj,getElem_mem->zU,range->zf,mem_singleton->ze,getElem?_range->ym
open Nat renaming zero_le->zo,zero_mul->zJ,div_eq_of_lt->z7,mod_lt->zu,mul_lt_mul''->x6,mul_zero->yd,mul_add->yc,one_mul->zC,mul_mul_mul_comm->y8
open Bool renaming or_eq_true->zK
open Int renaming natCast_add->zt
open Rat renaming mul_le_mul_of_nonneg_left->zd,le_of_lt->za,mul_nonneg->zc,mul_assoc->xq,natCast_mul->zQ,natCast_add->yk,natCast_lt_natCast->v5,mul_pos->yf,mul_le_mul_of_nonneg_right->zb,le_of_mul_le_mul_right->zS,mul_eq_zero->x7,le_trans->zn,one_mul->wh,le_refl->zI,le_total->yT,add_zero->xG
noncomputable section
open Go.Proofs.Tryz
namespace Go.Ck
open Go.Den
theorem RG:∀{l:Bf},Fi l≠xZ->∃x∈l,BH x≠0
 | [],h=>absurd rfl h
 | x::l,h=>by
   by_cases k:BH x=0
   ·have:Fi l≠xZ:=fun e=>h (by unfold Fi at e ⊢; rw[List.all_cons,e,Ac k]; rfl)
    obtain⟨y,hy,g⟩:=RG this;exact⟨y,AN _ hy,g⟩
   ·exact⟨x,AY,k⟩
theorem Ak7{b:Nat}(h:b<E8):Bk b≠3/\Bk b≠4/\b%2^63=b:=by
 have hi:=EB;have h3:b%2^63=b:=by omega
 have hr:=Mf b;have hf:=JA b;rcases Il b with ⟨p,_,_⟩ | ⟨p,_,_⟩ | ⟨_,p,q⟩
 ·exfalso; rw[p] at hr; omega
 ·exfalso; rw[p] at hr; omega
 ·exact⟨p,q,h3⟩
theorem Q4:∀(l:Bf) (m:Nat),(∀z∈l,D5 z=xZ)->m<E8->IM l m<E8
 | [],_,_,h=>h
 | z::l,m,hl,hm=>by have zk:=HV (show Hg z.toNat=xZ from hl z AY);rw[Uv zk.1];refine Q4 l _ (fun w hw=>hl w (AN _ hw)) ?_;have hz:Ea z.toNat<E8:=SB zk.2 zk.1;omega
theorem Gl{l:Bf}(h:DA l=xZ):∀z∈l,D5 z=xZ:=zB.1 h
theorem Jz{x:Bf}(hf:DA x=xZ):Bk (BK x).toNat≠3/\Bk (BK x).toNat≠4/\Ea (BK x).toNat=(BK x).toNat/\∀z∈x,Ea z.toNat<=Ea (BK x).toNat:=by
 have eb:(BK x).toNat=IM x 0:=Ad _;have hl:=Q4 x 0 (Gl hf) (by rw[EB]; omega);obtain⟨h1,h2,h3⟩:=Ak7 hl;have hN:IM x 0≠NW:=fun e=>by rw[e,EB,Fx] at hl; omega
 rw[eb];refine⟨h1,h2,h3,fun z hz=>?_⟩;show _<=IM x 0%2^63;rw[h3];rcases Abi x 0 with g | ⟨_,g⟩
 ·exact absurd g hN
 ·exact g z hz
theorem M8{x:Bf}(hf:DA x=xZ)(h:∃z∈x,BH z≠0):∃z∈x,Bk z.toNat≠0/\(BK x).toNat=Ea z.toNat:=by
 have eb:(BK x).toNat=IM x 0:=Ad _;have hl:=Q4 x 0 (Gl hf) (by rw[EB]; omega);rcases Ahi h with e | ⟨z,hz,_,k0,e⟩
 ·exfalso; rw[e,EB,Fx] at hl; omega
 ·exact⟨z,hz,k0,eb.trans e⟩
theorem Bl.FU{k:Nat}{l:Bf}(h:Bl k l):DA l=xZ:=zB.2 fun x hx=>(h x hx).fin
theorem Lp{x:Int}(h:D5 x=xZ):Bk x.toNat≠3/\Bk x.toNat≠4:=⟨(HV (show Hg x.toNat=xZ from h)).2,(HV (show Hg x.toNat=xZ from h)).1⟩
theorem Cj(x n:Int):(BX x n).toNat=(Cl x.toNat n).1:=Ad _
theorem Hl{x:Bf}(hf:DA x=xZ):Bl 1 (B6 x (-BQ (BK x))):=fun y hy=>by obtain⟨z,hz,rfl⟩:=zh.1 hy;obtain⟨b3,b4,_,hb⟩:=Jz hf;have zk:=Lp (Gl hf z hz);rw[Cj];exact Bd.down zk.1 zk.2 b3 b4 (hb z hz)
theorem Oc{x:Bf}(hf:DA x=xZ)(h:∃z∈x,BH z≠0):∃y∈B6 x (-BQ (BK x)),pw 0<=y.toNat%2^63:=by
 obtain⟨z,hz,k0,e⟩:=M8 hf h;have zk:=Lp (Gl hf z hz);refine⟨BX z (-BQ (BK x)),zh.2 ⟨z,hz,rfl⟩,?_⟩;have ee:BQ (BK x)=E2 z.toNat:=by unfold BQ; rw[e,Mw z.toNat]; rfl
 rw[Cj,ee];exact Pf zk.1 zk.2 k0
theorem QK{k:Int}(hk:k<=0):∀(l:Bf) (s t:Nat),Bl 1 l->Bm t 2 s->0<t->t+l.length<=1000->Bm (t+l.length) 2 (FX k (s:Int) l).toNat
 | [],s,t,_,hs,_,_=>by show Bm t 2 (wQ (s:Int));rw[Ad]; exact hs
 | x::l,s,t,hl,hs,h0,ht=>by simp only[zj] at ht ⊢;have h1:Bd 1 (Cl x.toNat k).1:=Bd.scale (by decide) (hl x AY) (by omega);have h2:Bd 2 (En (Cl x.toNat k).1 (Cl x.toNat k).1).1:=Bd.mul (j:=1) (k:=1) (by decide) h1 h1;have h3:=Bm.add (k:=2) (by omega) (by omega) (by decide) hs h2.bm;have:=QK hk l _ (t+1) (fun z hz=>hl z (AN _ hz)) h3 (by omega) (by omega);rw[show t+(l.length+1)=t+1+l.length by omega];unfold FX DM C0;rw[Cj,Ad,Ad];exact this
theorem AbX{y:Bf}(hy:Bl 1 y)(hl:y.length<=7)(h:∃z∈y,pw 0<=z.toNat%2^63):Bd 4 (Cb y).toNat/\U4 (Cb y).toNat:=by
 have hf:=hy.FU
 have h0:∃z∈y,BH z≠0:=by obtain⟨z,hz,g⟩:=h;refine⟨z,hz,fun k=>?_⟩;have:=Fq (b:=z.toNat) (by unfold BH at k; omega);rw[RY] at g; omega
 obtain⟨b3,b4,ba,hb⟩:=Jz hf
 have hB:pw 0<=Ea (BK y).toNat:=by obtain⟨z,hz,g⟩:=h;exact AP g (hb z hz)
 obtain⟨w,hw,w0,we⟩:=M8 hf h0;have wk:=Lp (Gl hf w hw);have ee:BQ (BK y)=E2 w.toNat:=by unfold BQ; rw[we,Mw w.toNat]; rfl
 obtain⟨x1,_⟩:=Lr wk.1 wk.2 w0;have wm:By w.toNat≠0:=fun e=>w0 ((Da wk.1 wk.2).1 e)
 have u1:=(hy w hw).log wm
 have u2:=(Lo.Po (a:=w.toNat) wk.1 wk.2 (by rw[we] at hB;show pw 0<=Ea w.toNat;unfold Ea at hB ⊢; omega)).log
 have e0:0<=E2 w.toNat/\E2 w.toNat<=1:=by omega
 unfold Cb
 rw[Ay (fun k=>by
  rcases k with k | k
  ·rw[k] at hB; rw[RY] at hB; revert hB; decide
  ·unfold D5 at k; rw[Jn] at k; simp[b3,b4] at k)]
 rw[ee];obtain⟨t,te,t1,t2⟩:=Ng (-E2 w.toNat) y 0 (zo _);have tb:=t2 (.inr ⟨w,hw,by rw[Cj]; exact Pf wk.1 wk.2 w0⟩);have te:FX (-E2 w.toNat) 0 y=t:=te;have bm:=QK (k:=-E2 w.toNat) (by omega) y 0 1 hy (Bd.zero x5 2).bm (by decide) (by omega);have bm:Bm (1+y.length) 2 (FX (-E2 w.toNat) 0 y).toNat:=bm;rw[te,Ad] at bm;rw[te];have bt:Bd (3+3) t:=(bm.bd (j:=3) (by omega)).mono (by decide);have br:Bd 3 (E4 t).1:=Bd.root (by decide) bt (ET tb.2);have rb:=Ts tb;rw[Cj];unfold DQ;rw[Ad,Ad];refine⟨Bd.scale (by decide) br (by omega),?_⟩
 have k0:Bk (E4 t).1≠0:=fun e=>by have:=Fq e;have h1:=rb.1; have h2:=rb.2;rw[Fx] at h2; rw[RY] at h1; omega
 rw[GR br.2.1 (by have:=br.1; omega),ET rb.2,FQ];have hm:(E4 t).1%2^63=(E4 t).1:=by have:=rb.2; rw[Fx] at this; omega
 obtain⟨p1,p2⟩:=LZ (z:=(E4 t).1) (by rw[hm]; exact rb.1);exact⟨J4 (a:=52) p1 (by omega),Jx _ _⟩
theorem Y0{x:Bf}(hf:DA x=xZ)(hl:x.length<=7)(h:∃z∈x,BH z≠0):Bd 4 (L5 x).toNat/\Lo 0 (L5 x).toNat/\pw 0<=Ea (L5 x).toNat/\Cd (Ec (L5 x).toNat)=DX (Lk x):=by
 obtain⟨n1,n2⟩:=AbX (Hl hf) (by unfold B6; rw[AO]; exact hl) (Oc hf h);have nl:(Cb (B6 x (-BQ (BK x)))).toNat<2^63:=by have:=n2.2; rw[Fx] at this; omega
 have na:pw 0<=Ea (Cb (B6 x (-BQ (BK x)))).toNat:=by unfold Ea; rw[Ao nl]; exact n2.1
 unfold L5;split
 ·rename_i hn;refine⟨n1,.Po n1.1 n1.2.1 na,na,?_⟩;rw[(I2 (by omega)).1,ET n2.2,hn]; rfl
 ·rename_i hn;have eq:(C1 (Cb (B6 x (-BQ (BK x))))).toNat=Ec (Cb (B6 x (-BQ (BK x)))).toNat:=Ad _;rw[eq];have hb:=N7 (by omega) n1
  have ha:pw 0<=Ea (Ec (Cb (B6 x (-BQ (BK x)))).toNat):=by unfold Ea at na ⊢; rw[Pr nl]; omega
  refine⟨hb,.Po hb.1 hb.2.1 ha,ha,?_⟩;rw[(I2 (Aa6 (by omega))).1,(I2 (by omega)).1,ET n2.2];cases hh:DX (Lk x)
  ·rfl
  ·exact absurd hh hn
theorem Ajo{a b:Nat}(a3:Bk a≠3)(a4:Bk a≠4)(b3:Bk b≠3)(b4:Bk b≠4)(hs:Cd a=Cd b\/By a=0)(h:pw 0<=Ea b):pw 0<=Ea (Ef a b).1:=by
 have pa:=CO a;have pb:=CO b;have ek:=SK a3 a4 b3 b4 (g:=-1074) (by omega)
 have hS:ES b (-1074)<=(EI a (-1074)+EI b (-1074)).natAbs:=by
  unfold ES EI;rcases hs with hs | hs
  ·rw[hs]; unfold GI; split<;>omega
  ·rw[hs,zJ]; unfold GI; split<;>split<;>omega
 have hr:=FJ (E:=-1074) hS;rw[J6 b4 (by omega)] at hr;have hn:(GG (Ef a b).1).natAbs=Ea (Ef a b).1:=by unfold GG; rw[Sw]; rfl
 rw[<- hn,ek];unfold Ea at h;unfold UB;split<;>omega
theorem Vm{a:Nat}{n:Int}(k4:Bk a≠4):Cd (Cl a n).1=Cd a:=by
 by_cases k:Bk a=3\/Bk a=0
 ·unfold Cl; rw[Ay k4,Az k]
 ·rw[GR k4 k];exact sign_neg _ (Jv _ _)
theorem YG{x:Bf}(hf:DA x=xZ)(ax:Bp x=xZ)(hl:x.length<=7)(h:∃z∈x,BH z≠0):Lo 0 (Ej (E9 x) (L5 x)).toNat/\Bd 5 (Ej (L5 x) (E9 x)).toNat:=by
 obtain⟨m1,m2,m3,m4⟩:=Y0 hf hl h;have lm:=KV (AfV x);have mb:=N7 lm m1;cases x with
 | nil=>obtain⟨z,hz,_⟩:=h; cases hz
 | cons a x =>
   have ak:=Lp (Gl hf a AY);have b1:Bd 1 (E9 (a::x)).toNat:=Hl hf _ (zh.2 ⟨a,AY,rfl⟩);have e1:(E9 (a::x)).toNat=(Cl a.toNat (-BQ (BK (a::x)))).1:=Cj _ _;have s1:(Ej (E9 (a::x)) (L5 (a::x))).toNat=(Ef (E9 (a::x)).toNat (Ec (L5 (a::x)).toNat)).1:=Ad _;have s2:(Ej (L5 (a::x)) (E9 (a::x))).toNat=(O8 (L5 (a::x)).toNat (E9 (a::x)).toNat).1:=Ad _
   have am:pw 0<=Ea (Ec (L5 (a::x)).toNat):=by
    have e:Ea (Ec (L5 (a::x)).toNat)=Ea (L5 (a::x)).toNat:=by unfold Ea Ec; split<;>omega
    rw[e]; exact m3
   have hsg:Cd (E9 (a::x)).toNat=Cd (Ec (L5 (a::x)).toNat)\/By (E9 (a::x)).toNat=0:=by
    by_cases k0:BH a=0
    ·refine .inr ?_;rw[e1];have k0':Bk a.toNat=0:=by unfold BH at k0; omega
     unfold Cl;rw[Ay ak.2,Az (.inr k0')];exact(Da ak.1 ak.2).2 k0'
    ·refine .inl ?_;rw[m4,e1,Vm ak.2];unfold Lk;rw[Ay k0];rfl
   have hfar:=Ajo b1.1 b1.2.1 mb.1 mb.2.1 hsg am;have hbd:=Bd.add (k:=4) (by decide) (b1.mono (by decide)) mb;rw[s1,s2];have f64:(E9 (a::x)).toNat<2^64:=KV (Gi (JD ax 0));exact⟨.Po hbd.1 hbd.2.1 hfar,Bd.sub (k:=4) (by decide) f64 m1 (b1.mono (by decide))⟩
theorem Sf(k:Nat):Bd k (wQ 0):=Bd.zero x5 k
theorem AfD(k:Nat):Bd k Ty.toNat:=by refine .mono (j:=0) ?_ (zo _);refine .Kc (by decide) (by decide +kernel) ?_;rw[RY]; decide
theorem Afw{k n:Nat}{f:Nat->Int}(h:∀j,Bd k (f j).toNat):Bl k (GX n f):=Ajd (AfD k) (Abg fun j=>h _)
theorem Lt(a b:Int):(Fl a b).toNat=(KS a.toNat b.toNat).1:=Ad _
theorem EN(a b:Int):(C0 a b).toNat=(En a.toNat b.toNat).1:=Ad _
theorem Sq(a b:Int):(Ej a b).toNat=(O8 a.toNat b.toNat).1:=Ad _
theorem Rp{x:Bf}(h:Fi (x.drop 1)≠xZ):∃z∈x,BH z≠0:=by obtain⟨z,hz,g⟩:=RG h;exact⟨z,List.mem_of_mem_drop hz,g⟩
theorem AgI{k:Nat}{x:Bf}(hx:Bl k x)(h:∃z∈x,BH z≠0):BQ (BK x)<=k:=by
 obtain⟨z,hz,k0,e⟩:=M8 hx.FU h;have ee:BQ (BK x)=E2 z.toNat:=by unfold BQ; rw[e,Mw z.toNat]; rfl
 have b:=hx z hz;rw[ee,(Lr b.1 b.2.1 k0).1];exact b.log fun e=>k0 ((Da b.1 b.2.1).1 e)
theorem Acb{k:Nat}{x:Bf}(hk:k+4<=1000)(hx:Bl k x)(ax:Bp x=xZ)(hl:x.length<=7)(he:(Ce x).2.2.2=0):Bl 1 (Ce x).1/\Bd 5 (Ce x).2.1.toNat/\Bd (k+4) (Ce x).2.2.1.toNat:=by
 unfold Ce at he ⊢;by_cases h1:x.length=0\/64<x.length
 ·rw[Az h1] at he; exact absurd he (by decide)
 rw[Ay h1] at he ⊢;have hf:=hx.FU;rw[Az hf] at he ⊢;unfold Y1 at he ⊢;by_cases h3:Fi (x.drop 1)=xZ
 ·rw[Az h3];dsimp only;exact⟨Afw fun _=>Sf 1,Sf 5,(NO hx 0).mono (by omega)⟩
 ·rw[Ay h3] at he ⊢;by_cases h4:D5 (Gc x)=xZ
  ·rw[Az h4];dsimp only;have hs:=Rp h3;obtain⟨m1,m2,m3,m4⟩:=Y0 hf hl hs;obtain⟨f1,f2⟩:=YG hf ax hl hs;have sb:=Hl hf;refine⟨Afw fun j=>?_,?_,?_⟩
   ·rw[Lt];refine Bd.div (j:=1) (t:=0) (by decide) ?_ f1;by_cases hj:j<x.length
    ·refine sb _ (zh.2 ⟨x.getD j 0,?_,rfl⟩);rw[Al,As hj]; exact zU hj
    ·rw[Al,Bb (by omega)];rw[Cj]
     have e:∀n:Int,(Cl (wQ 0) n).1=0:=fun n=>by unfold Cl;rw[Ay (by decide),Az (.inr (by decide))]; rfl
     show Bd 1 (Cl (wQ 0) _).1;rw[e]; exact Bd.zero x5 1
   ·unfold TA;rw[Lt];exact Bd.div (j:=5) (t:=0) (by decide) f2 m2
   ·unfold Gc;rw[Cj];exact Bd.scale (by omega) m1 (by have:=AgI hx hs; omega)
  ·rw[Ay h4] at he; exact absurd he (by decide)
theorem RR{k:Nat}{c i j:Int}{l:Bf}(h:Bl k l):Bd k (CE c l i j).toNat:=NO h _
theorem Tn{k:Nat}{c b i:Int}{n:Nat}{l:Bf}(h:Bl k l):Bl k (Dm c l b i n):=Abg fun _=>RR h
theorem Aen{k:Nat}{c i j t a b:Int}{l v:Bf}(hk:k+11<=1000)(h:Bl k l)(hv:Bl 1 v)(hl:v.length<=7)(ht:Bd 5 t.toNat):Bd (k+11) (Gp c l i j v t a b).toNat:=by
 unfold Gp;split
 ·rw[Sq];refine Bd.sub (k:=k+10) (by omega) (KV (F8 _ _)) ((RR h).mono (by omega)) ?_;rw[EN]
  have h1:Bd (k+9) (Ip c l i v t b).toNat:=by unfold Ip;rw[EN];have:=Ls (j:=1) (k:=k) (by omega) hv (Tn (c:=c) (b:=b) (i:=i) (n:=v.length) h) hl;exact(Bd.mul (by omega) ht this).mono (by omega)
  exact Bd.mul (j:=k+9) (k:=1) (by omega) h1 (NO hv _)
 ·exact(RR h).mono (by omega)
theorem Wb{k:Nat}{r c:Nat}{i j t:Int}{l v:Bf}(hk:k+11<=1000)(h:Bl k l)(hv:Bl 1 v)(hl:v.length<=7)(ht:Bd 5 t.toNat):Bl (k+11) (Fc r c l i j v t):=Xw fun _ _=>Aen hk h hv hl ht
theorem S5{k:Nat}{r c j:Nat}{l:Bf}(hk:k+11<=1000)(h:Bl k l)(al:Bp l=xZ)(hr:r<=7)(he:(Ce (Dv r c l j)).2.2.2=0):Bl (k+11) (LP r c l j)/\Bl 1 (Ce (Dv r c l j)).1/\Bd 5 (Ce (Dv r c l j)).2.1.toNat/\(Ce (Dv r c l j)).1.length<=7:=by
 have hlen:(Dv r c l j).length<=7:=by unfold Dv; rw[DO]; omega
 obtain⟨m1,m2,m3⟩:=Acb (by omega) (show Bl k (Dv r c l j) from Tn h) (Ji al) hlen he;have ml:=KB he;refine⟨?_,m1,m2,by omega⟩;unfold LP M5;refine Xw fun a b=>?_
 split
 ·split
  ·exact m3.mono (by omega)
  ·exact Sf _
 ·exact RR (Wb hk h m1 (by omega) m2)
def MB(ms:List (Bf × Int)):Prop:=∀m∈ms,Bl 1 m.1/\Bd 5 m.2.toNat/\m.1.length<=7
theorem Ul{r c:Nat}(hr:r<=7):∀(n j k:Nat) (l:Bf) (x:Bf × List (Bf × Int)),Bl k l->Bp l=xZ->k+11*n<=1000->HW r c n j l=xQ x->Bl (k+11*n) x.1/\MB x.2/\x.2.length=n
 | 0,j,k,l,x,hl,_,_,h=>by cases h;exact⟨hl,(fun m hm=>by cases hm),rfl⟩
 | n+1,j,k,l,x,hl,al,hk,h=>by
   unfold HW at h;by_cases h1:(Ce (Dv r c l j)).2.2.2=0
   ·rw[Az h1,Option.map_eq_some_iff] at h;obtain⟨y,hy,rfl⟩:=h;obtain⟨b1,b2,b3,b4⟩:=S5 (by omega) hl al hr h1;obtain⟨a1,a2,a3⟩:=Ul hr n (j+1) (k+11) _ y b1 (Mr al j) (by omega) hy;refine⟨a1.mono (by omega),fun m hm=>?_,by rw[zj,a3]⟩;rcases List.mem_cons.1 hm with rfl | hm
    ·exact⟨b2,b3,b4⟩
    ·exact a2 m hm
   ·rw[Ay h1] at h; cases h
theorem Ux{n:Nat}:∀(ms:List (Bf × Int)) (j k:Nat) (q:Bf),MB ms->Bl k q->k+11*ms.length<=1000->Bl (k+11*ms.length) (I5 n j ms q)
 | [],_,_,_,_,h,_=>h
 | m::ms,j,k,q,hm,h,hk=>by simp only[zj] at hk ⊢;obtain⟨m1,m2,m3⟩:=hm m AY;have ih:=Ux (n:=n) ms (j+1) k q (fun w hw=>hm w (AN _ hw)) h (by omega);unfold I5;exact(Wb (by omega) ih m1 m3 m2).mono (by omega)
theorem Acp(n:Nat):Bl 0 (F2 n):=Xw fun i k=>by
 unfold Mv;split
 ·exact AfD 0
 ·exact Sf 0
def TL(t:Nat)(l:Bf):Prop:=∀x∈l,BH x≠0->Lo t x.toNat
theorem AbE{k:Nat}{l:Bf}(h:G5 l (k:Int)=xZ):TL k l:=fun x hx k0=>by
 have hx:=(zB.1 h) x hx;unfold Vb at hx;rw[Am,zK,Am,Ai,Ai,Ai] at hx;obtain⟨hf,hx⟩:=hx;have kk:=Lp hf;have kn:Bk x.toNat≠0:=fun e=>k0 (by unfold BH; omega)
 rcases hx with hx | ⟨hx,_⟩
 ·exact absurd hx k0
 ·unfold BQ E2 at hx;rw[Az ⟨hf,kn⟩] at hx;exact⟨kk.1,kk.2,fun e=>kn ((Da kk.1 kk.2).1 e),hx⟩
open Go.Den
theorem Vl{b:Nat}{n:Int}(h4:Bk b≠4):Bk (Cl b n).1≠4:=by
 by_cases h:Bk b=3\/Bk b=0
 ·unfold Cl; rw[Ay h4,Az h]; exact h4
 ·rw[GR h4 h]; exact Gy _ _ _
theorem W0{k:Int}:∀(l:Bf) (s t:Nat),(∀z∈l,Bd 1 (Cl z.toNat k).1)->Bm t 2 s->0<t->t+l.length<=1000->Bm (t+l.length) 2 (FX k (s:Int) l).toNat
 | [],s,t,_,hs,_,_=>by show Bm t 2 (wQ (s:Int));rw[Ad]; exact hs
 | x::l,s,t,hl,hs,h0,ht=>by simp only[zj] at ht ⊢;have h1:Bd 1 (Cl x.toNat k).1:=hl x AY;have h2:Bd 2 (En (Cl x.toNat k).1 (Cl x.toNat k).1).1:=Bd.mul (j:=1) (k:=1) (by decide) h1 h1;have h3:=Bm.add (k:=2) (by omega) (by omega) (by decide) hs h2.bm;have:=W0 l _ (t+1) (fun z hz=>hl z (AN _ hz)) h3 (by omega) (by omega);rw[show t+(l.length+1)=t+1+l.length by omega];unfold FX DM C0;rw[Cj,Ad,Ad];exact this
theorem AfK{x:Bf}(hf:DA x=xZ)(hl:x.length<=6):Bk (Cb x).toNat≠4:=by
 obtain⟨b3,b4,_,hb⟩:=Jz hf;unfold Cb;by_cases h:BK x=0\/D5 (BK x)=x5
 ·rw[Az h]; exact b4
 ·rw[Ay h];obtain⟨t,te,t1,_⟩:=Ng (-BQ (BK x)) x 0 (zo _);have te:FX (-BQ (BK x)) 0 x=t:=te
  have bm:Bm (1+x.length) 2 (FX (-BQ (BK x)) 0 x).toNat:=W0 x 0 1 (fun z hz=>by have zk:=Lp (Gl hf z hz);exact Bd.down zk.1 zk.2 b3 b4 (hb z hz)) (Bd.zero x5 2).bm (by decide) (by omega)
  rw[te,Ad] at bm;have bt:Bd (3+3) t:=(bm.bd (j:=3) (by omega)).mono (by decide);have br:Bd 3 (E4 t).1:=Bd.root (by decide) bt (ET t1);rw[te,Cj];unfold DQ;rw[Ad,Ad];exact Vl br.2.1
section
variable{key:Int->Int}(hk:∀i,Bk (key i).toNat≠4)
include hk
end
end Go.Ck
namespace Go.Proofs.S1
open Go Go.Den Go.Ck Go.Proofs
section
variable{R C:Nat}{b:Int}(r6:R<=6)(c6:C<=6)(hb:Br b=xZ)(N:Nat)
include r6 c6 hb
end
open Go Go.Den Go.Ck Go.Proofs
section
variable{l o:Bf}(hl:Cq l=xZ)(hin:Im l.length o=xZ)(h6:o.length<=6)(N:Nat)
include h6
include hl hin
end
section
variable{R C:Nat}{l x:Bf}(r6:R<=6)(c6:C<=6)(hl:l.length=R*C)(hx:x.length=C)(hin:Im C x=xZ)(N:Nat){F:Nat->Nat->Int}(hF:F=fun(i k:Nat)=>CE (C:Int) l (i:Int) (x.getD k 0))
include r6 c6 hl hx hin hF
end
section
variable{R C:Nat}{l:Bf}(r6:R<=6)(c6:C<=6)(N:Nat)
include r6 c6
end
section
variable{R C:Nat}{l:Bf}(r6:R<=6)(c6:C<=6)(hl:l.length=R*C)(al:Bp l=xZ)(N:Nat)(hc:BU (R:Int) (C:Int) l=0)
include r6 c6 hl al hc
end
set_option maxRecDepth 100000
section
variable{n Q:Nat}{l m:Bf}
end
section
variable{N:Nat}{r c p q a b u v:Int}{l m g h:Bf}{w one two done f y Q z:MX}
end
theorem Ak8{c:Int}{l:Bf}{i k:Int}(h:DA l=xZ):D5 (CE c l i k)=xZ:=by
 unfold CE;rw[Al];cases hx:l[(i*c+k).toNat]? with
 | none=>exact(by decide:D5 0=xZ)
 | some x =>unfold DA at h;exact zB.1 h x (List.mem_of_getElem? hx)
theorem Ag5{r c:Nat}{f:Nat->Nat->Int}(h:∀i k,D5 (f i k)=xZ):DA (BZ r c f)=xZ:=by unfold DA;rw[zB];intro x hx;obtain⟨j,_,rfl⟩:=zh.1 hx;exact h _ _
section
variable{n Q:Nat}{l m:Bf}
end
def LD(R C:Nat)(x:MX):Prop:=∃l,x=((R:Int),(C:Int),l,0)/\R<=6/\C<=6/\l.length=R*C/\Bp l=xZ
def FM(x:MX):Prop:=DA x.2.2.1=xZ
theorem FM.of{r c e:Int}{l:Bf}(h:DA l=xZ):FM (r,c,l,e):=h
theorem LD.mk{R C:Nat}{l:Bf}(r6:R<=6)(c6:C<=6)(hl:l.length=R*C)(al:Bp l=xZ):LD R C ((R:Int),(C:Int),l,0):=⟨l,rfl,r6,c6,hl,al⟩
section
variable{R C K:Nat}{x y:MX}
theorem LD.right(h:LD R C x):BA x.1 x.2.1 x.2.2.1=xZ:=by obtain⟨l,rfl,r6,c6,hl,al⟩:=h;exact D3 r6 c6 hl
theorem LD.inn(h:LD R C x):Bp x.2.2.1=xZ:=by obtain⟨l,rfl,r6,c6,hl,al⟩:=h; exact al
theorem LD.rows(h:LD R C x):x.1=R:=by obtain⟨l,rfl,_⟩:=h; rfl
theorem LD.AiR(h:LD R C x):x.2.1=C:=by obtain⟨l,rfl,_⟩:=h; rfl
theorem LD.r6(h:LD R C x):R<=6:=by obtain⟨l,rfl,r6,_⟩:=h; exact r6
theorem LD.c6(h:LD R C x):C<=6:=by obtain⟨l,rfl,_,c6,_⟩:=h; exact c6
theorem LD.len(h:LD R C x):x.2.2.1.length<=36:=by obtain⟨l,rfl,r6,c6,hl,_⟩:=h;have:=AE r6 c6;show l.length<=36;omega
theorem LD.chk(h:LD R C x)(f:FM x):AnV x=0:=M6 h.right f
theorem Yv{i k a b:Nat}(ha:i+a<=R)(hb:k+b<=C):K8 (R:Int) (C:Int) (i:Int) (k:Int) (a:Int) (b:Int)=xZ:=Ac (by omega)
theorem LD.part{i k a b:Nat}(h:LD R C x)(ha:i+a<=R)(hb:k+b<=C):LD a b (L4 x i k a b):=by have hr:=h.right;obtain⟨l,rfl,r6,c6,hl,al⟩:=h;refine⟨_,by unfold L4 Fy; dsimp only; rw[Az hr,Az (Yv ha hb)],by omega,by omega,by rw[BW,Ad,Ad],FA fun _ _=>Ahl al⟩
theorem FM.part{i k a b:Nat}(h:LD R C x)(f:FM x)(ha:i+a<=R)(hb:k+b<=C):FM (L4 x i k a b):=by have hr:=h.right;obtain⟨l,rfl,r6,c6,hl,al⟩:=h;unfold L4 Fy;dsimp only;rw[Az hr,Az (Yv ha hb)];exact .of (Ag5 fun _ _=>Ak8 (show DA _=xZ from f))
theorem LD.mul(h:LD R K x)(g:LD K C y):LD R C (mulM x y):=by have hr:=h.right;have hg:=g.right;obtain⟨l,rfl,r6,c6,hl,al⟩:=h;obtain⟨m,rfl,p6,q6,hm,am⟩:=g;refine⟨_,by unfold mulM Pq; rw[hr,hg,Ah,Az rfl,Az rfl],r6,q6,by rw[BW,Ad,Ad],FA fun _ _=>Ie _ _⟩
theorem LD.fac(h:LD R C x)(e:Fp x.1 x.2.1 x.2.2.1=0):LD R R (qX x.1 x.2.1 x.2.2.1)/\LD R C (rX x.1 x.2.1 x.2.2.1)/\FM (qX x.1 x.2.1 x.2.2.1)/\FM (rX x.1 x.2.1 x.2.2.1):=by
 obtain⟨l,rfl,r6,c6,hl,al⟩:=h;obtain⟨q1,g1⟩:=WJ e;obtain⟨A,B,eA,eB,_,_,_,aq,hq,ar,hr,fq,fr⟩:=Zb al e;dsimp only at eA eB;obtain rfl:A=R:=by omega
 obtain rfl:B=C:=by omega
 dsimp only at q1 g1 ⊢;rw[q1,g1];rw[Ad,Ad];exact⟨.mk r6 r6 hq aq,.mk r6 c6 hr ar,fq,fr⟩
end
section
variable{N:Nat}{r c p q u v:Int}{l m h:Bf}{R Q T C W:MX}
end
section
variable{N:Nat}{r c p q:Int}{l m:Bf}{Q L S w o y:MX}
end
section
variable{r c p q u v x:Int}{l m h:Bf}
end
theorem Xu{r c:Int}{l:Bf}(h:BU r c l=0):BA r c l=xZ/\DA l=xZ:=by
 unfold BU at h;by_cases h1:BA r c l=xZ
 ·rw[Az h1] at h;by_cases h2:DA l=xZ
  ·exact⟨h1,h2⟩
  ·rw[Ay h2] at h; cases h
 ·rw[Ay h1] at h; cases h
section
variable{C:Nat}{V:Bf}(c6:C<6)(hV:V.length=(C+1)*(C+1))(aV:Bp V=xZ)(N:Nat)
include c6 aV
include hV
end
section
variable{C:Nat}{V:Bf}(c6:C<6)(hV:V.length=(C+1)*(C+1))(aV:Bp V=xZ)(N:Nat)(p7 p7_1:Int)(p7_2 p7_6:Bf)(p7_7:Int)
include c6 hV aV
end
section
variable{N:Nat}{r c p q u v:Int}{l m h:Bf}{T C E c1 c2 e1 e2 y d f x:MX}
end
def CN.Check.hint:Nat->Option BN
 | 0=>xQ { Df:=[2,3,10,11],Cg:=[],Cr:=[2,3] }
 | _=>xY
def CN.Check.E:=D6 (Db [(69,DS.Check.Bt)]) (fun _=>x5) CN.Check.hint (fun _=>xY)
theorem CN.Check.ev(N:Nat)(r c:Int)(l:Bf)(p q:Int)(m:Bf):Cz CN.Check.E (N+4) f27 (Bw f27) [.agg [.int .i64 r,.int .i64 c,.Bj .arg .u64 l],.agg [.int .i64 p,.int .i64 q,.Bj .arg .u64 m]]=cond (Bp l) (bif ((BU r c l) !=(0:Int)) then xQ (.int .i64 (BU r c l)) else bif (Bp m) then cond ((BU p q m) !=(0:Int)) (xQ (.int .i64 (BU p q m))) (bif ((((c !=q)||(BI c 1))||(BI (Bg (r+p)) c))||(BI 6 (Bg (r+p)))) then xQ (.int .i64 3) else xQ (.int .i64 0)) else xY) xY :=Et (EY (EY rfl (EY (EY rfl (B5 (U5 (c !=q)) (B5 (RW (c !=q)) (B5 (RW (c !=q)) (B5 (XT (c !=q)) (B5 (XS (c !=q) (BI c 1)) (B5 (ZT (c !=q) (BI c 1)) (B5 (XS (c !=q) (BI c 1)) (B5 (ZT (c !=q) (BI c 1)) (B5 (XS (c !=q) (BI c 1)) (B5 (ZT (c !=q) (BI c 1)) (B5 (AhI (c !=q) (BI c 1)) (B5 (AhI (c !=q) (BI c 1)) (B5 (AhM (c !=q) (BI c 1)) (B5 (AcF (c !=q) (BI c 1) (BI (Bg (r+p)) c)) (B5 (AcG (c !=q) (BI c 1) (BI (Bg (r+p)) c)) (B5 (AcF (c !=q) (BI c 1) (BI (Bg (r+p)) c)) (B5 (AcG (c !=q) (BI c 1) (BI (Bg (r+p)) c)) (B5 (Al9 (c !=q) (BI c 1) (BI (Bg (r+p)) c)) (B5 (AcG (c !=q) (BI c 1) (BI (Bg (r+p)) c)) (B5 (AhN (c !=q) (BI c 1) (BI (Bg (r+p)) c)) (CQ (Anr _ _ _ _) rfl rfl)))))))))))))))))))))) rfl)) rfl)
def CN.Dj.hint:Nat->Option BN
 | 0=>xQ { Df:=[4,19,21,100,101],Cg:=[(22,13,122013,.Bj 43 .u64 [])],Cr:=[4,19,21] }
 | _=>xY
def CN.Dj.GM:List (Nat × Ez):=[(27,CN.Check.Bt),(68,Bh.Ei.Bt),(65,Bh.Mul.Bt),(63,Bh.Part.Bt),(61,Bh.Stack.Bt),(62,qr.OF.Bt),(64,Cx.BY.Bt),(66,Bs.Finite.Bt),(67,Bs.Norm.Bt)]
def CN.Dj.live:Nat->Option (List Nat)
 | 4=>xQ [2,3,4]
 | 7=>xQ [2,3,4,7]
 | 10=>xQ [2,3,4,9,10]
 | 13=>xQ [4,10,11,12,14]
 | 16=>xQ [4,10,11,14,16,17,18]
 | 19=>xQ [4,10,11,16,17,18,19]
 | 26=>xQ [4,21]
 | _=>xY
def CN.Dj.E:Env:=D6 (Db CN.Dj.GM) (fun _=>x5) CN.Dj.hint CN.Dj.live
section
variable(N M:Nat)(r c:Int)(l:Bf)(p q:Int)(m:Bf)(p7 p7_1:Int)(p7_2:Bf)(p10 p10_1:Int)(p10_2:Bf)(p9 p9_1:Int)(p9_2:Bf)(p14 p14_1:Int)(p14_2:Bf)(p12 p12_1:Int)(p12_2 p18:Bf)(p17 p17_1:Int)(p17_2:Bf)(p16 p16_1:Int)(p16_2:Bf)(p19 p19_1:Int)(p19_2:Bf)(p101:Int)(p13:Bf)
def CN.Dj.C4:Option DV:=cutAt CN.Dj.E N f25 (Bw f25) [1,1] [] ⟨Fz 119 [(2,.ptr 2 0 0),(3,.ptr 3 0 0),(4,.ptr 4 0 0)],[(4,x5,.box [.int .i64 0,.int .i64 0,.nil,.int .i64 0,.int .i64 0,.nil,.int .i64 0,.int .i64 0,.nil,.int .i64 0,.int .i64 0,.nil,.nil,.nil]),(3,x5,.box [.int .i64 p,.int .i64 q,.Bj .arg .u64 m]),(2,x5,.box [.int .i64 r,.int .i64 c,.Bj .arg .u64 l])]⟩
def CN.Dj.C7:Option DV:=cutAt CN.Dj.E N f25 (Bw f25) [1,1,1,1] [] ⟨Fz 119 [(2,.ptr 2 0 0),(3,.ptr 3 0 0),(4,.ptr 4 0 0),(7,.ptr 7 0 0)],[(7,x5,.box [.int .i64 p7,.int .i64 p7_1,.Bj .BE .u64 p7_2]),(4,x5,.box [.int .i64 0,.int .i64 0,.nil,.int .i64 0,.int .i64 0,.nil,.int .i64 0,.int .i64 0,.nil,.int .i64 0,.int .i64 0,.nil,.nil,.nil]),(3,x5,.box [.int .i64 p,.int .i64 q,.Bj .arg .u64 m]),(2,x5,.box [.int .i64 r,.int .i64 c,.Bj .arg .u64 l])]⟩
def CN.Dj.C10:Option DV:=cutAt CN.Dj.E N f25 (Bw f25) [1,1,1,1,1,1] [] ⟨Fz 119 [(2,.ptr 2 0 0),(3,.ptr 3 0 0),(4,.ptr 4 0 0),(9,.ptr 9 0 0),(10,.ptr 10 0 0)],[(10,x5,.box [.int .i64 p10,.int .i64 p10_1,.Bj .BE .u64 p10_2]),(9,x5,.box [.int .i64 p9,.int .i64 p9_1,.Bj .BE .u64 p9_2]),(7,x5,.box [.int .i64 p7,.int .i64 p7_1,.Bj .BE .u64 p7_2]),(4,x5,.box [.int .i64 0,.int .i64 0,.nil,.int .i64 0,.int .i64 0,.nil,.int .i64 0,.int .i64 0,.nil,.int .i64 0,.int .i64 0,.nil,.nil,.nil]),(3,x5,.box [.int .i64 p,.int .i64 q,.Bj .arg .u64 m]),(2,x5,.box [.int .i64 r,.int .i64 c,.Bj .arg .u64 l])]⟩
def CN.Dj.C13:Option DV:=cutAt CN.Dj.E N f25 (Bw f25) [1,1,1,1,1,1,1,1,1] [] ⟨Fz 119 [(4,.ptr 4 0 0),(10,.ptr 10 0 0),(11,.int .i64 c),(12,.ptr 12 0 0),(14,.ptr 14 0 0)],[(14,x5,.box [.int .i64 p14,.int .i64 p14_1,.Bj .BE .u64 p14_2]),(12,x5,.box [.int .i64 p12,.int .i64 p12_1,.Bj .BE .u64 p12_2]),(10,x5,.box [.int .i64 p10,.int .i64 p10_1,.Bj .BE .u64 p10_2]),(9,x5,.box [.int .i64 p9,.int .i64 p9_1,.Bj .BE .u64 p9_2]),(7,x5,.box [.int .i64 p7,.int .i64 p7_1,.Bj .BE .u64 p7_2]),(4,x5,.box [.int .i64 0,.int .i64 0,.nil,.int .i64 0,.int .i64 0,.nil,.int .i64 0,.int .i64 0,.nil,.int .i64 0,.int .i64 0,.nil,.nil,.nil]),(3,x5,.box [.int .i64 p,.int .i64 q,.Bj .arg .u64 m]),(2,x5,.box [.int .i64 r,.int .i64 c,.Bj .arg .u64 l])]⟩
def CN.Dj.C16:Option DV:=cutAt CN.Dj.E N f25 (Bw f25) [1,1,1,1,1,1,1,1,1,1,1] [] ⟨Fz 119 [(4,.ptr 4 0 0),(10,.ptr 10 0 0),(11,.int .i64 c),(14,.ptr 14 0 0),(16,.ptr 16 0 0),(17,.ptr 17 0 0),(18,.Bj .BE .u64 p18)],[(17,x5,.box [.int .i64 p17,.int .i64 p17_1,.Bj .BE .u64 p17_2]),(16,x5,.box [.int .i64 p16,.int .i64 p16_1,.Bj .arg .u64 p16_2]),(14,x5,.box [.int .i64 p14,.int .i64 p14_1,.Bj .BE .u64 p14_2]),(12,x5,.box [.int .i64 p12,.int .i64 p12_1,.Bj .BE .u64 p12_2]),(10,x5,.box [.int .i64 p10,.int .i64 p10_1,.Bj .BE .u64 p10_2]),(9,x5,.box [.int .i64 p9,.int .i64 p9_1,.Bj .BE .u64 p9_2]),(7,x5,.box [.int .i64 p7,.int .i64 p7_1,.Bj .BE .u64 p7_2]),(4,x5,.box [.int .i64 0,.int .i64 0,.nil,.int .i64 0,.int .i64 0,.nil,.int .i64 0,.int .i64 0,.nil,.int .i64 0,.int .i64 0,.nil,.nil,.nil]),(3,x5,.box [.int .i64 p,.int .i64 q,.Bj .arg .u64 m]),(2,x5,.box [.int .i64 r,.int .i64 c,.Bj .arg .u64 l])]⟩
def CN.Dj.C19:Option DV:=cutAt CN.Dj.E N f25 (Bw f25) [1,1,1,1,1,1,1,1,1,1,1,1,1] [] ⟨Fz 119 [(4,.ptr 4 0 0),(10,.ptr 10 0 0),(11,.int .i64 c),(16,.ptr 16 0 0),(17,.ptr 17 0 0),(18,.Bj .BE .u64 p18),(19,.ptr 19 0 0)],[(19,x5,.box [.int .i64 p19,.int .i64 p19_1,.Bj .BE .u64 p19_2]),(17,x5,.box [.int .i64 p17,.int .i64 p17_1,.Bj .BE .u64 p17_2]),(16,x5,.box [.int .i64 p16,.int .i64 p16_1,.Bj .arg .u64 p16_2]),(14,x5,.box [.int .i64 p14,.int .i64 p14_1,.Bj .BE .u64 p14_2]),(12,x5,.box [.int .i64 p12,.int .i64 p12_1,.Bj .BE .u64 p12_2]),(10,x5,.box [.int .i64 p10,.int .i64 p10_1,.Bj .BE .u64 p10_2]),(9,x5,.box [.int .i64 p9,.int .i64 p9_1,.Bj .BE .u64 p9_2]),(7,x5,.box [.int .i64 p7,.int .i64 p7_1,.Bj .BE .u64 p7_2]),(4,x5,.box [.int .i64 0,.int .i64 0,.nil,.int .i64 0,.int .i64 0,.nil,.int .i64 0,.int .i64 0,.nil,.int .i64 0,.int .i64 0,.nil,.nil,.nil]),(3,x5,.box [.int .i64 p,.int .i64 q,.Bj .arg .u64 m]),(2,x5,.box [.int .i64 r,.int .i64 c,.Bj .arg .u64 l])]⟩
def CN.Dj.L0:Option DV:=C6 CN.Dj.E N f25 (Bw f25) [1,1,1,1,1,1,1,1,1,1,1,1,1,1,0,1,0] [] M ⟨Fz 119 [(4,.ptr 4 0 0),(19,.ptr 19 0 0),(21,.ptr 21 0 0),(100,.int .i64 c),(101,.int .i64 p101)],[(4,x5,.box [.int .i64 0,.int .i64 0,.nil,.int .i64 0,.int .i64 0,.nil,.int .i64 0,.int .i64 0,.nil,.int .i64 0,.int .i64 0,.nil,.nil,.nil]),(19,x5,.box [.int .i64 p19,.int .i64 p19_1,.Bj .BE .u64 p19_2]),(21,x5,.box [.int .i64 p16,.int .i64 p16_1,.Bj .arg .u64 p16_2,.int .i64 p19,.int .i64 p19_1,.Bj .BE .u64 p19_2,.int .i64 p17,.int .i64 p17_1,.Bj .BE .u64 p17_2,.int .i64 p10,.int .i64 p10_1,.Bj .BE .u64 p10_2,.Bj .BE .u64 p18,.Dh 122013]),(122013,x5,.Bj 43 .u64 p13)]⟩
def CN.Dj.C26:Option DV:=cutAt CN.Dj.E N f25 (Bw f25) [1,1,1,1,1,1,1,1,1,1,1,1,1,1,1] [] ⟨Fz 119 [(4,.ptr 4 0 0),(21,.ptr 21 0 0)],[(4,x5,.box [.int .i64 0,.int .i64 0,.nil,.int .i64 0,.int .i64 0,.nil,.int .i64 0,.int .i64 0,.nil,.int .i64 0,.int .i64 0,.nil,.nil,.nil]),(19,x5,.box [.int .i64 p19,.int .i64 p19_1,.Bj .BE .u64 p19_2]),(21,x5,.box [.int .i64 p16,.int .i64 p16_1,.Bj .arg .u64 p16_2,.int .i64 p19,.int .i64 p19_1,.Bj .BE .u64 p19_2,.int .i64 p17,.int .i64 p17_1,.Bj .BE .u64 p17_2,.int .i64 p10,.int .i64 p10_1,.Bj .BE .u64 p10_2,.Bj .BE .u64 p18,.Dh 122013]),(122013,x5,.Bj 43 .u64 p13)]⟩
theorem CN.Dj.AmF:CN.Dj.C4 N r c l p q m=cond (((Je r c l p q m).2.2.2) !=(0:Int)) (xQ (.CR [.agg [.int .i64 0,.int .i64 0,.nil,.int .i64 0,.int .i64 0,.nil,.int .i64 0,.int .i64 0,.nil,.int .i64 0,.int .i64 0,.nil,.nil,.nil],.int .i64 ((Je r c l p q m).2.2.2)])) (CN.Dj.C7 N r c l p q m ((Je r c l p q m).1) ((Je r c l p q m).2.1) ((Je r c l p q m).2.2.1)):=(DY _ _ _ _ _ _ _).trans (by kernel_rfl)
theorem CN.Dj.Ac5:CN.Dj.C7 N r c l p q m p7 p7_1 p7_2=cond (Bp p7_2) (bif ((Fp p7 p7_1 p7_2) !=(0:Int)) then xQ (.CR [.agg [.int .i64 0,.int .i64 0,.nil,.int .i64 0,.int .i64 0,.nil,.int .i64 0,.int .i64 0,.nil,.int .i64 0,.int .i64 0,.nil,.nil,.nil],.int .i64 (Fp p7 p7_1 p7_2)]) else CN.Dj.C10 N r c l p q m p7 p7_1 p7_2 ((PA p7 p7_1 p7_2).1) ((PA p7 p7_1 p7_2).2.1) ((PA p7 p7_1 p7_2).2.2.1) ((U8 p7 p7_1 p7_2).1) ((U8 p7 p7_1 p7_2).2.1) ((U8 p7 p7_1 p7_2).2.2.1)) xY:=(DY _ _ _ _ _ _ _).trans (by kernel_rfl)
theorem CN.Dj.Alb:CN.Dj.C10 N r c l p q m p7 p7_1 p7_2 p10 p10_1 p10_2 p9 p9_1 p9_2=
 CN.Dj.C13 N r c l p q m p7 p7_1 p7_2 p10 p10_1 p10_2 p9 p9_1 p9_2 ((Fy p9 p9_1 p9_2 r 0 p c).1) ((Fy p9 p9_1 p9_2 r 0 p c).2.1) ((Fy p9 p9_1 p9_2 r 0 p c).2.2.1) ((Fy p9 p9_1 p9_2 0 0 r c).1) ((Fy p9 p9_1 p9_2 0 0 r c).2.1) ((Fy p9 p9_1 p9_2 0 0 r c).2.2.1):=(DY _ _ _ _ _ _ _).trans (by kernel_rfl)
theorem CN.Dj.XE:CN.Dj.C13 N r c l p q m p7 p7_1 p7_2 p10 p10_1 p10_2 p9 p9_1 p9_2 p14 p14_1 p14_2 p12 p12_1 p12_2=cond (Bp p12_2) (bif ((GW p12 p12_1 p12_2) !=(0:Int)) then xQ (.CR [.agg [.int .i64 0,.int .i64 0,.nil,.int .i64 0,.int .i64 0,.nil,.int .i64 0,.int .i64 0,.nil,.int .i64 0,.int .i64 0,.nil,.nil,.nil],.int .i64 (GW p12 p12_1 p12_2)]) else CN.Dj.C16 N r c l p q m p7 p7_1 p7_2 p10 p10_1 p10_2 p9 p9_1 p9_2 p14 p14_1 p14_2 p12 p12_1 p12_2 (O6 p12 p12_1 p12_2) ((It p12 p12_1 p12_2).1) ((It p12 p12_1 p12_2).2.1) ((It p12 p12_1 p12_2).2.2.1) ((GL p12 p12_1 p12_2).1) ((GL p12 p12_1 p12_2).2.1) ((GL p12 p12_1 p12_2).2.2.1)) xY:=(DY _ _ _ _ _ _ _).trans (by kernel_rfl)
theorem CN.Dj.Abw:CN.Dj.C16 N r c l p q m p7 p7_1 p7_2 p10 p10_1 p10_2 p9 p9_1 p9_2 p14 p14_1 p14_2 p12 p12_1 p12_2 p18 p17 p17_1 p17_2 p16 p16_1 p16_2=cond (Bp p14_2&&Bp p17_2) (bif (Cq ((Pq p14 p14_1 p14_2 p17 p17_1 p17_2).2.2.1)) then cond (!(DA ((Pq p14 p14_1 p14_2 p17 p17_1 p17_2).2.2.1))) (xQ (.CR [.agg [.int .i64 0,.int .i64 0,.nil,.int .i64 0,.int .i64 0,.nil,.int .i64 0,.int .i64 0,.nil,.int .i64 0,.int .i64 0,.nil,.nil,.nil],.int .i64 2])) (CN.Dj.C19 N r c l p q m p7 p7_1 p7_2 p10 p10_1 p10_2 p9 p9_1 p9_2 p14 p14_1 p14_2 p12 p12_1 p12_2 p18 p17 p17_1 p17_2 p16 p16_1 p16_2 ((Pq p14 p14_1 p14_2 p17 p17_1 p17_2).1) ((Pq p14 p14_1 p14_2 p17 p17_1 p17_2).2.1) ((Pq p14 p14_1 p14_2 p17 p17_1 p17_2).2.2.1)) else xY) xY:=(DY _ _ _ _ _ _ _).trans (by kernel_rfl)
theorem CN.Dj.AkV:CN.Dj.C19 N r c l p q m p7 p7_1 p7_2 p10 p10_1 p10_2 p9 p9_1 p9_2 p14 p14_1 p14_2 p12 p12_1 p12_2 p18 p17 p17_1 p17_2 p16 p16_1 p16_2 p19 p19_1 p19_2=
 CN.Dj.L0 N N c p10 p10_1 p10_2 p18 p17 p17_1 p17_2 p16 p16_1 p16_2 p19 p19_1 p19_2 0 []:=(DY _ _ _ _ _ _ _).trans (by kernel_rfl)
theorem CN.Dj.B8:CN.Dj.L0 N (M+1) c p10 p10_1 p10_2 p18 p17 p17_1 p17_2 p16 p16_1 p16_2 p19 p19_1 p19_2 p101 p13=cond (BI p101 c) (bif (Ht p19 p19_1 p19_2 p101&&Ch (0<=(0:Int)/\(0:Int)<=p19)) then cond (Cq (Dm p19_1 p19_2 p101 0 (wQ (p19-0)))&&Ch (wj (Dm p19_1 p19_2 p101 0 (wQ (p19-0)))<=64)) (bif (decide ((wj p13)+1<=G2)) then CN.Dj.L0 N M c p10 p10_1 p10_2 p18 p17 p17_1 p17_2 p16 p16_1 p16_2 p19 p19_1 p19_2 (Bg (p101+1)) (p13++[(Cb (Dm p19_1 p19_2 p101 0 (wQ (p19-0))))]) else xY) xY else xY) (CN.Dj.C26 N p10 p10_1 p10_2 p18 p17 p17_1 p17_2 p16 p16_1 p16_2 p19 p19_1 p19_2 p13):=by kernel_rfl
theorem CN.Dj.AkT:CN.Dj.C26 N p10 p10_1 p10_2 p18 p17 p17_1 p17_2 p16 p16_1 p16_2 p19 p19_1 p19_2 p13=xQ (.CR [.agg [.int .i64 p16,.int .i64 p16_1,.Bj .arg .u64 p16_2,.int .i64 p19,.int .i64 p19_1,.Bj .BE .u64 p19_2,.int .i64 p17,.int .i64 p17_1,.Bj .BE .u64 p17_2,.int .i64 p10,.int .i64 p10_1,.Bj .BE .u64 p10_2,.Bj .BE .u64 p18,.Bj (.own 122013 43) .u64 p13],.int .i64 0]):=(DY _ _ _ _ _ _ _).trans (by kernel_rfl)
theorem CN.Dj.ev:Cz CN.Dj.E N f25 (Bw f25) [.agg [.int .i64 r,.int .i64 c,.Bj .arg .u64 l],.agg [.int .i64 p,.int .i64 q,.Bj .arg .u64 m]]=cond (Bp l&&Bp m) (bif ((VH r c l p q m) !=(0:Int)) then xQ (.CR [.agg [.int .i64 0,.int .i64 0,.nil,.int .i64 0,.int .i64 0,.nil,.int .i64 0,.int .i64 0,.nil,.int .i64 0,.int .i64 0,.nil,.nil,.nil],.int .i64 (VH r c l p q m)]) else CN.Dj.C4 N r c l p q m) xY:=by kernel_rfl
end
def CN.DJ.hint:Nat->Option BN
 | 0=>xQ { Df:=[3,4,9,10,11],Cg:=[],Cr:=[] }
 | _=>xY
def CN.DJ.E:=D6 (Db [(78,compare.MT.Bt),(79,Bs.CM.Bt)]) (fun _=>x5) CN.DJ.hint (fun _=>xY)
section
variable(N:Nat)(a1 b1:Int)(l1:Bf)(a2 b2:Int)(l2:Bf)(a3 b3:Int)(l3:Bf)(a4 b4:Int)(l4 x:Bf)(M:Nat)(y:Bf)(p3 p11:Int)
def CN.DJ.L0:Option DV:=C6 CN.DJ.E N f46 (Bw f46) [1,1,1,0,1,0] [] M ⟨Fz 23 [(3,.int .i64 p3),(4,.int .u64 (BX 4607182418800017408 (-40:Int))),(9,.Bj .arg .u64 y),(10,.int .i64 (wj y:Int)),(11,.int .i64 p11)],[]⟩
theorem CN.DJ.B8:CN.DJ.L0 N (M+1) y p3 p11=cond (BI p11 (wj y:Int)) (bif ((decide (0<=p11))&&(decide (p11<(wj y:Int)))) then cond (Br (BX 4607182418800017408 (-40:Int))&&Br (wt y (wQ p11) 0)) (bif (!(decide (G4 (BX 4607182418800017408 (-40:Int)) (wt y (wQ p11) 0)<0))) then CN.DJ.L0 N M y (Bg (p3+1)) (Bg (p11+1)) else CN.DJ.L0 N M y p3 (Bg (p11+1))) xY else xY) (xQ (.int .i64 p3)):=by kernel_rfl
theorem CN.DJ.ev:Cz CN.DJ.E N f46 (Bw f46) [.agg [.int .i64 a1,.int .i64 b1,.Bj .arg .u64 l1,.int .i64 a2,.int .i64 b2,.Bj .arg .u64 l2,.int .i64 a3,.int .i64 b3,.Bj .arg .u64 l3,.int .i64 a4,.int .i64 b4,.Bj .arg .u64 l4,.Bj .arg .u64 x,.Bj .arg .u64 y]]=cond (Ew 4607182418800017408 (-40:Int)) (CN.DJ.L0 N N y 0 (0:Int)) xY:=by kernel_rfl
end
theorem LD.upr{R C:Nat}{x:MX}(h:LD R C x)(e:GW x.1 x.2.1 x.2.2.1=0):LD R C (GL x.1 x.2.1 x.2.2.1)/\LD C C (It x.1 x.2.1 x.2.2.1)/\Bp (O6 x.1 x.2.1 x.2.2.1)=xZ/\(O6 x.1 x.2.1 x.2.2.1).length=C:=by
 obtain⟨l,rfl,r6,c6,hl,al⟩:=h;dsimp only at e ⊢;have hi:HI R C ((De R C l).1,(De R C l).2.1,xZ):=HI.DL 60 (Si hl al);have eW:GL (R:Int) (C:Int) l=((R:Int),(C:Int),EF R C l,0):=by unfold GL; rw[Ay (fun k=>k e),Ad,Ad]
 have eV:It (R:Int) (C:Int) l=((C:Int),(C:Int),Fv R C l,0):=by unfold It; rw[Ay (fun k=>k e),Ad,Ad]
 have eS:O6 (R:Int) (C:Int) l=CX R C (EF R C l):=by unfold O6; rw[Ay (fun k=>k e),Ad,Ad]
 rw[eW,eV,eS];exact⟨.mk r6 c6 (by unfold EF; rw[Hm,Fj]) (QN (Jp hi.1.2)),.mk c6 c6 (Fj ..) (Jp hi.2.2),Rb ..,Jl ..⟩
structure XC(R C P:Nat)(l m:Bf):Prop where
 c1:1<=C
 cr:C<=R+P
 r6:R+P<=6
 hl:BA (R:Int) (C:Int) l=xZ
 hm:BA (P:Int) (C:Int) m=xZ
 ll:l.length=R*C
 lm:m.length=P*C
 fl:DA l=xZ
 fm:DA m=xZ
theorem Acj{r c:Int}{l:Bf}{p q:Int}{m:Bf}(h:VH r c l p q m=0):∃R C P:Nat,r=R/\c=C/\p=P/\q=C/\XC R C P l m:=by
 unfold VH at h;by_cases k:Zu r c l p q m=0
 ·rw[Ay (fun g=>g k)] at h;by_cases g:c≠q\/c<1\/r+p<c\/6<r+p
  ·rw[Az g] at h; cases h
  ·have k1:BU r c l=0:=by
    unfold Zu at k;by_cases h:BU r c l=0
    ·exact h
    ·rw[Az h] at k; exact k
   have k2:BU p q m=0:=by unfold Zu at k; rw[Ay (fun h=>h k1)] at k; exact k
   obtain⟨hr,fl⟩:=Xu k1;obtain⟨hm,fm⟩:=Xu k2;obtain⟨R,C,rfl,rfl,r6,c6,hl⟩:=D9 hr;obtain⟨P,Q,rfl,rfl,p6,q6,hm'⟩:=D9 hm;obtain rfl:C=Q:=by omega
   exact⟨R,C,P,rfl,rfl,rfl,rfl,by omega,by omega,by omega,hr,hm,hl,hm',fl,fm⟩
 ·rw[Az k] at h; exact absurd h k
section
variable{R C P:Nat}{l m:Bf}(h:XC R C P l m)(al:Bp l=xZ)(am:Bp m=xZ)
include h al am
theorem XC.mat:LD (R+P) C (((R:Int)+(P:Int),(C:Int),l++m,0):MX)/\FM (((R:Int)+(P:Int),(C:Int),l++m,0):MX):=by
 have e:(R:Int)+(P:Int)=((R+P:Nat):Int):=(zt _ _).symm;rw[e];refine⟨.mk h.r6 (by have:=h.cr; have:=h.r6; omega) (by rw[A8,h.ll,h.lm,AM]) (Bv.2 fun y hy=>?_),.of ?_⟩
 ·rcases List.mem_append.1 hy with hy | hy
  ·exact Bv.1 al y hy
  ·exact Bv.1 am y hy
 ·unfold DA;rw[List.all_append];exact Bi.2 ⟨h.fl,h.fm⟩
omit al am in
theorem XC.stack:Je (R:Int) (C:Int) l (P:Int) (C:Int) m=((R:Int)+(P:Int),(C:Int),l++m,0):=by have e:(R:Int)+(P:Int)=((R+P:Nat):Int):=(zt _ _).symm;have r6:=h.r6;unfold Je;rw[h.hl,h.hm,Ah,Az rfl,Az ⟨rfl,by omega⟩,e,Ad,Ad,Aab h.ll h.lm]
theorem XC.thin(k:Fp ((R:Int)+(P:Int)) (C:Int) (l++m)=0):(LD (R+P) C (gsQ (R:Int) (C:Int) l (P:Int) m)/\FM (gsQ (R:Int) (C:Int) l (P:Int) m))/\LD C C (PA ((R:Int)+(P:Int)) (C:Int) (l++m)):=by
 have e:(R:Int)+(P:Int)=((R+P:Nat):Int):=(zt _ _).symm;have hm:=(h.mat al am).1;have cr:=h.cr;have c6:=hm.c6;unfold gsQ;rw[e] at k hm ⊢;obtain⟨f1,f2,f3,f4⟩:=hm.fac k;have emin:min ((R+P:Nat):Int) (C:Int)=(C:Int):=by omega
 have q1:=f1.part (i:=0) (k:=0) (a:=R+P) (b:=C) (by omega) (by omega);have q2:=FM.part f1 f3 (i:=0) (k:=0) (a:=R+P) (b:=C) (by omega) (by omega);have q3:=f2.part (i:=0) (k:=0) (a:=C) (b:=C) (by omega) (by omega)
 have eq:qX ((R+P:Nat):Int) (C:Int) (l++m)=(((R+P:Nat):Int),((R+P:Nat):Int),H3 (R+P) C (l++m),0):=by unfold qX; rw[Ay (fun g=>g k),Ad,Ad]
 have er:rX ((R+P:Nat):Int) (C:Int) (l++m)=(((R+P:Nat):Int),(C:Int),FY (R+P) C (l++m),0):=by unfold rX; rw[Ay (fun g=>g k),Ad,Ad]
 have t1:U8 ((R+P:Nat):Int) (C:Int) (l++m)=L4 (qX ((R+P:Nat):Int) (C:Int) (l++m)) ((0:Nat):Int) ((0:Nat):Int) ((R+P:Nat):Int) (C:Int):=by
  obtain⟨t,et,_⟩:=q1;rw[et];unfold U8;rw[Ay (fun g=>g k),emin,Ad,Ad]
  have:Fy ((R+P:Nat):Int) ((R+P:Nat):Int) (H3 (R+P) C (l++m)) 0 0 ((R+P:Nat):Int) (C:Int)=(((R+P:Nat):Int),(C:Int),t,0):=by rw[<- et,eq]; rfl
  rw[this]
 have t2:PA ((R+P:Nat):Int) (C:Int) (l++m)=L4 (rX ((R+P:Nat):Int) (C:Int) (l++m)) ((0:Nat):Int) ((0:Nat):Int) (C:Int) (C:Int):=by
  obtain⟨t,et,_⟩:=q3;rw[et];unfold PA;rw[Ay (fun g=>g k),emin,Ad,Ad]
  have:Fy ((R+P:Nat):Int) (C:Int) (FY (R+P) C (l++m)) 0 0 (C:Int) (C:Int)=((C:Int),(C:Int),t,0):=by rw[<- et,er]; rfl
  rw[this]
 rw[t1,t2];exact⟨⟨q1,q2⟩,q3⟩
theorem XC.parts(k:Fp ((R:Int)+(P:Int)) (C:Int) (l++m)=0):(LD R C (Hb (R:Int) (C:Int) l (P:Int) m)/\FM (Hb (R:Int) (C:Int) l (P:Int) m))/\LD P C (gsL (R:Int) (C:Int) l (P:Int) m):=by obtain⟨⟨q1,q2⟩,_⟩:=h.thin al am k;exact⟨⟨q1.part (i:=0) (k:=0) (by omega) (by omega),FM.part q1 q2 (i:=0) (k:=0) (by omega) (by omega)⟩,q1.part (i:=R) (k:=0) (by omega) (by omega)⟩
theorem XC.prod(k:Fp ((R:Int)+(P:Int)) (C:Int) (l++m)=0)(e:GW (Hb (R:Int) (C:Int) l (P:Int) m).1 (Hb (R:Int) (C:Int) l (P:Int) m).2.1 (Hb (R:Int) (C:Int) l (P:Int) m).2.2.1=0):LD P C (XG (R:Int) (C:Int) l (P:Int) m):=by obtain⟨⟨t1,_⟩,t2⟩:=h.parts al am k;exact t2.mul (t1.upr e).2.1
end
def V1(a b:Bf)(W U V R:MX)(f g h:R0):List DV :=[.int .i64 W.1,.int .i64 W.2.1,.Bj .arg .u64 W.2.2.1,.int .i64 U.1,.int .i64 U.2.1,.Bj .BE .u64 U.2.2.1,.int .i64 V.1,.int .i64 V.2.1,.Bj f .u64 V.2.2.1,.int .i64 R.1,.int .i64 R.2.1,.Bj g .u64 R.2.2.1,.Bj .BE .u64 a,.Bj h .u64 b]
def noP:List DV:=[.int .i64 0,.int .i64 0,.nil,.int .i64 0,.int .i64 0,.nil,.int .i64 0,.int .i64 0,.nil,.int .i64 0,.int .i64 0,.nil,.nil,.nil]
def gsP(r c:Int)(l:Bf)(p q:Int)(m:Bf)(f g:R0):List DV:=V1 (F9 r c l p q m) (IJ r c l p q m) (Hy r c l p q m) (H0 r c l p q m) (Hz r c l p q m) (H2 r c l p q m) f g .BE
theorem Ack{r c:Int}{l:Bf}{p q:Int}{m:Bf}{f g:R0}(h:Di r c l p q m≠0):gsP r c l p q m f g=V1 [] [] (JJ 0) (JJ 0) (JJ 0) (JJ 0) f g .BE:=by unfold gsP Hy H0 Hz H2 F9 IJ gsO AaJ;rw[Az h,Az h,Az h,Az h,Az h,Az h];rfl
theorem Ak1{r c:Int}{l:Bf}{p q:Int}{m:Bf}{f g:R0}(h:Di r c l p q m=0):gsP r c l p q m f g=
 V1 (O6 (Hb r c l p m).1 (Hb r c l p m).2.1 (Hb r c l p m).2.2.1) (CX p.toNat c.toNat (XG r c l p m).2.2.1) (GL (Hb r c l p m).1 (Hb r c l p m).2.1 (Hb r c l p m).2.2.1) (XG r c l p m) (gsV r c l p m) (PA (r+p) c (l++m)) f g .BE:=by
 have h':¬Di r c l p q m≠0:=fun k=>k h
 unfold gsP Hy H0 Hz H2 F9 IJ gsO AaJ;rw[Ay h',Ay h',Ay h',Ay h',Ay h',Ay h']
theorem Wf{drops:List Nat}{f g:R0}:Wk drops (.agg noP) (.agg (V1 [] [] (JJ 0) (JJ 0) (JJ 0) (JJ 0) f g .BE)) :=Wk.GQ (.cons .int (.cons .int (.cons (.nil _ _) (.cons .int (.cons .int (.cons (.nil _ _) (.cons .int (.cons .int (.cons (.nil _ _) (.cons .int (.cons .int (.cons (.nil _ _) (.cons (.nil _ _) (.cons (.nil _ _) .nil))))))))))))))
theorem CN.Check.Bn:Kq 27 CN.Check.Bt:=ED CN.Check.E Tryz.func27 (kc DS.Check.Bn .nil) fun r c l p q m hp=>by
 obtain⟨al,am⟩:=Bi.1 (show(Bp l&&Bp m)=xZ from hp);refine⟨0+4,.int .i64 (VH r c l p q m),[],?_,.int⟩;rw[CN.Check.ev,al,am,Aa,Aa];unfold VH Zu;by_cases k1:BU r c l=0
 ·rw[Na k1,Af];have z1:¬BU r c l≠0:=fun h=>h k1
  rw[Ay z1];by_cases k2:BU p q m=0
  ·rw[Na k2,Af,Ay (fun h=>h k2)];obtain⟨R,C,rfl,rfl,r6,c6,_⟩:=D9 (Xu k1).1;obtain⟨P,Q,rfl,rfl,p6,q6,_⟩:=D9 (Xu k2).1;rw[Bz (by omega) (by omega),B9,B9,B9];by_cases g:(C:Int)≠(Q:Int)\/(C:Int)<1\/(R:Int)+(P:Int)<(C:Int)\/6<(R:Int)+(P:Int)
   ·rw[Az g]
    have:(((((C:Int) !=(Q:Int))||decide ((C:Int)<1))||decide ((R:Int)+(P:Int)<(C:Int)))||decide (6<(R:Int)+(P:Int)))=xZ:=by simp only[zK,bne_iff_ne,Ai];omega
    rw[this,Aa]
   ·rw[Ay g];have e:(C:Int)=(Q:Int):=by omega
    rw[e,Ag (by omega),Ag (by omega),Ag (by omega),show((Q:Int) !=(Q:Int))=x5 by simp];rfl
  ·rw[neI k2,Aa,Az k2]
 ·rw[neI k1,Aa,Az k1,Az k1]
theorem Ze{r c:Int}{l:Bf}{p q:Int}{m:Bf}(h:VH r c l p q m≠0):Di r c l p q m=VH r c l p q m:=Az h
section
variable{R C P:Nat}{l m:Bf}(h:XC R C P l m)(al:Bp l=xZ)(am:Bp m=xZ)(he:VH (R:Int) (C:Int) l (P:Int) (C:Int) m=0)
include he
theorem AjA(k:Fp ((R:Int)+(P:Int)) (C:Int) (l++m)≠0):Di (R:Int) (C:Int) l (P:Int) (C:Int) m=2:=by unfold Di; rw[Ay (fun g=>g he),Az k]
theorem AgJ(k:Fp ((R:Int)+(P:Int)) (C:Int) (l++m)=0)(e:GW (Hb (R:Int) (C:Int) l (P:Int) m).1 (Hb (R:Int) (C:Int) l (P:Int) m).2.1 (Hb (R:Int) (C:Int) l (P:Int) m).2.2.1≠0):
 Di (R:Int) (C:Int) l (P:Int) (C:Int) m=GW (Hb (R:Int) (C:Int) l (P:Int) m).1 (Hb (R:Int) (C:Int) l (P:Int) m).2.1 (Hb (R:Int) (C:Int) l (P:Int) m).2.2.1:=by
 unfold Di; rw[Ay (fun g=>g he),Ay (fun g=>g k),Az e]
theorem Aj9(k:Fp ((R:Int)+(P:Int)) (C:Int) (l++m)=0)(e:GW (Hb (R:Int) (C:Int) l (P:Int) m).1 (Hb (R:Int) (C:Int) l (P:Int) m).2.1 (Hb (R:Int) (C:Int) l (P:Int) m).2.2.1=0):
 Di (R:Int) (C:Int) l (P:Int) (C:Int) m=if DA (XG (R:Int) (C:Int) l (P:Int) m).2.2.1=xZ then 0 else 2:=by
 unfold Di; rw[Ay (fun g=>g he),Ay (fun g=>g k),Ay (fun g=>g e)]
omit he
include h al am
theorem XC.AnS(k:Fp ((R:Int)+(P:Int)) (C:Int) (l++m)≠0):Fp ((R:Int)+(P:Int)) (C:Int) (l++m)=2:=by
 obtain⟨h1,h2⟩:=h.mat al am;have hc:BU ((R:Int)+(P:Int)) (C:Int) (l++m)=0:=h1.chk h2;unfold Fp at k ⊢;rw[Ay (fun g=>g hc)] at k ⊢;split at k
 ·exact absurd rfl k
 ·rename_i g; rw[Ay g]
end
theorem Agw{P C:Nat}{u:Bf}(p6:P<=6)(c6:C<=6)(hr:BA (P:Int) (C:Int) u=xZ)(au:Bp u=xZ)(N:Nat)(a b:Int)(x y:Bf)(v w:Int)(z:Bf)(s t:Int)(o:Bf):∀(d k F:Nat),k+d=C->d<F ->
 CN.Dj.L0 N F (C:Int) a b x y v w z s t o (P:Int) (C:Int) u (k:Int) ((zf k).map fun c=>Cb (Du P C u c))=CN.Dj.C26 N a b x y v w z s t o (P:Int) (C:Int) u (CX P C u):=by
 intro d
 induction d with
 | zero =>
   intro k F hk hF;obtain⟨F,rfl⟩:∃G,F=G+1:=⟨F-1,by omega⟩
   obtain rfl:k=C:=by omega
   rw[CN.Dj.B8,B9,Ag (by omega),Af];rfl
 | succ d ih =>
   intro k F hk hF;obtain⟨F,rfl⟩:∃G,F=G+1:=⟨F-1,by omega⟩
   have cp:(Ht (P:Int) (C:Int) u (k:Int)&&Ch (0<=(0:Int)/\(0:Int)<=(P:Int)))=xZ:=Bi.2 ⟨Bi.2 ⟨hr,Bv.2 (by omega)⟩,Bv.2 (by omega)⟩;have ln:(Dm (C:Int) u (k:Int) 0 P).length<=6:=by rw[DO]; exact p6
   rw[CN.Dj.B8,B9,Ac (by omega),Aa,cp,Aa,show wQ ((P:Int)-(0:Int))=P by omega,WO (Ji au) ln,Aa,Ac (by rw[AO,AL]; unfold G2; omega),Aa,Bz (by omega) (by omega)];have:=ih (k+1) F (by omega) (by omega);rw[List.range_succ,List.map_append] at this;exact this
theorem CN.Dj.Bn:Kq 25 CN.Dj.Bt:=ED CN.Dj.E Tryz.func25 (kc CN.Check.Bn (kc Bh.Ei.Bn (kc Bh.Mul.Bn (kc Bh.Part.Bn (kc Bh.Stack.Bn (kc qr.OF.Bn (kc Cx.BY.Bn (kc Bs.Finite.Bn (kc Bs.Norm.Bn .nil))))))))) fun r c l p q m hp=>by
 have hall:(Bp l&&Bp m)=xZ:=hp;obtain⟨al,am⟩:=Bi.1 hall;show ∃N dv drops,_=xQ dv/\Wk drops dv (.CR [.agg (gsP r c l p q m .BE .BE),.int .i64 (Di r c l p q m)]);by_cases k:VH r c l p q m=0
 ·obtain⟨R,C,P,rfl,rfl,rfl,rfl,h⟩:=Acj k
  have e4:Cz CN.Dj.E 8 Tryz.f25 (Bw Tryz.f25) [.agg [.int .i64 (R:Int),.int .i64 (C:Int),.Bj .arg .u64 l],.agg [.int .i64 (P:Int),.int .i64 (C:Int),.Bj .arg .u64 m]]=
   CN.Dj.C7 8 (R:Int) (C:Int) l (P:Int) (C:Int) m ((R:Int)+(P:Int)) (C:Int) (l++m):=by
   rw[CN.Dj.ev,hall,Aa,Na k,Af,CN.Dj.AmF,h.stack];rfl
  have aA:Bp (l++m)=xZ:=(h.mat al am).1.inn;by_cases kf:Fp ((R:Int)+(P:Int)) (C:Int) (l++m)=0
  ·obtain⟨⟨t1,t2⟩,t3⟩:=h.parts al am kf
   have e13:Cz CN.Dj.E 8 Tryz.f25 (Bw Tryz.f25) [.agg [.int .i64 (R:Int),.int .i64 (C:Int),.Bj .arg .u64 l],.agg [.int .i64 (P:Int),.int .i64 (C:Int),.Bj .arg .u64 m]]=
    CN.Dj.C13 8 (R:Int) (C:Int) l (P:Int) (C:Int) m ((R:Int)+(P:Int)) (C:Int) (l++m) (PA ((R:Int)+(P:Int)) (C:Int) (l++m)).1 (PA ((R:Int)+(P:Int)) (C:Int) (l++m)).2.1 (PA ((R:Int)+(P:Int)) (C:Int) (l++m)).2.2.1
     (gsQ (R:Int) (C:Int) l (P:Int) m).1 (gsQ (R:Int) (C:Int) l (P:Int) m).2.1 (gsQ (R:Int) (C:Int) l (P:Int) m).2.2.1 (gsL (R:Int) (C:Int) l (P:Int) m).1 (gsL (R:Int) (C:Int) l (P:Int) m).2.1 (gsL (R:Int) (C:Int) l (P:Int) m).2.2.1
     (Hb (R:Int) (C:Int) l (P:Int) m).1 (Hb (R:Int) (C:Int) l (P:Int) m).2.1 (Hb (R:Int) (C:Int) l (P:Int) m).2.2.1:=by
    rw[e4,CN.Dj.Ac5,aA,Aa,Na kf,Af,CN.Dj.Alb];rfl
   by_cases ku:GW (Hb (R:Int) (C:Int) l (P:Int) m).1 (Hb (R:Int) (C:Int) l (P:Int) m).2.1 (Hb (R:Int) (C:Int) l (P:Int) m).2.2.1=0
   ·have hU:=h.prod al am kf ku;have hV:=(t1.upr ku).2.1;have oU:Cq (XG (R:Int) (C:Int) l (P:Int) m).2.2.1=xZ:=Gf hU.inn (by have:=hU.len; omega)
    have e16:Cz CN.Dj.E 8 Tryz.f25 (Bw Tryz.f25) [.agg [.int .i64 (R:Int),.int .i64 (C:Int),.Bj .arg .u64 l],.agg [.int .i64 (P:Int),.int .i64 (C:Int),.Bj .arg .u64 m]]=
     (bif (!(DA (XG (R:Int) (C:Int) l (P:Int) m).2.2.1)) then xQ (.CR [.agg noP,.int .i64 2]) else
      CN.Dj.L0 8 8 (C:Int) (PA ((R:Int)+(P:Int)) (C:Int) (l++m)).1 (PA ((R:Int)+(P:Int)) (C:Int) (l++m)).2.1 (PA ((R:Int)+(P:Int)) (C:Int) (l++m)).2.2.1 (O6 (Hb (R:Int) (C:Int) l (P:Int) m).1 (Hb (R:Int) (C:Int) l (P:Int) m).2.1 (Hb (R:Int) (C:Int) l (P:Int) m).2.2.1)
       (gsV (R:Int) (C:Int) l (P:Int) m).1 (gsV (R:Int) (C:Int) l (P:Int) m).2.1 (gsV (R:Int) (C:Int) l (P:Int) m).2.2.1
       (GL (Hb (R:Int) (C:Int) l (P:Int) m).1 (Hb (R:Int) (C:Int) l (P:Int) m).2.1 (Hb (R:Int) (C:Int) l (P:Int) m).2.2.1).1 (GL (Hb (R:Int) (C:Int) l (P:Int) m).1 (Hb (R:Int) (C:Int) l (P:Int) m).2.1 (Hb (R:Int) (C:Int) l (P:Int) m).2.2.1).2.1 (GL (Hb (R:Int) (C:Int) l (P:Int) m).1 (Hb (R:Int) (C:Int) l (P:Int) m).2.1 (Hb (R:Int) (C:Int) l (P:Int) m).2.2.1).2.2.1
       (XG (R:Int) (C:Int) l (P:Int) m).1 (XG (R:Int) (C:Int) l (P:Int) m).2.1 (XG (R:Int) (C:Int) l (P:Int) m).2.2.1 (0:Int) []):=by
     rw[e13,CN.Dj.XE,t1.inn,Aa,Na ku,Af,CN.Dj.Abw,t3.inn,hV.inn,Ah,Aa];show(cond (Cq (XG (R:Int) (C:Int) l (P:Int) m).2.2.1) _ _)=_;rw[oU,Aa,CN.Dj.AkV];rfl
    have eE:=Aj9 k kf ku;cases hf:DA (XG (R:Int) (C:Int) l (P:Int) m).2.2.1 with
    | false =>rw[hf,Ay (by decide)] at eE;refine⟨8,.CR [.agg noP,.int .i64 2],[],by rw[e16,hf]; rfl,?_⟩;rw[Ack (by rw[eE]; decide),eE];exact Wk.Gr (.cons Wf (.cons .int .nil))
    | true =>
      rw[hf,Az rfl] at eE;have hr:=hU.right;have au:=hU.inn;have r1:=hU.rows;have c1:=hU.AiR;rw[r1,c1] at hr;refine⟨8,.CR [.agg (V1 (O6 (Hb (R:Int) (C:Int) l (P:Int) m).1 (Hb (R:Int) (C:Int) l (P:Int) m).2.1 (Hb (R:Int) (C:Int) l (P:Int) m).2.2.1) (CX P C (XG (R:Int) (C:Int) l (P:Int) m).2.2.1) (GL (Hb (R:Int) (C:Int) l (P:Int) m).1 (Hb (R:Int) (C:Int) l (P:Int) m).2.1 (Hb (R:Int) (C:Int) l (P:Int) m).2.2.1) (XG (R:Int) (C:Int) l (P:Int) m) (gsV (R:Int) (C:Int) l (P:Int) m) (PA ((R:Int)+(P:Int)) (C:Int) (l++m)) .BE .BE (.own 122013 tB)),.int .i64 0],[122013],?_,?_⟩
      ·rw[e16,hf,AH,Af,r1,c1];refine(Agw hU.r6 hU.c6 hr au 8 _ _ _ _ _ _ _ _ _ _ C 0 8 (by omega) (by have:=hU.c6; omega)).trans ?_;rw[CN.Dj.AkT];unfold V1;rw[r1,c1]
      ·rw[Ak1 eE,eE,Ad,Ad];exact Wk.Gr (.cons (Wk.GQ (.cons .int (.cons .int (.cons .X5 (.cons .int (.cons .int (.cons .Jq (.cons .int (.cons .int (.cons .Jq (.cons .int (.cons .int (.cons .Jq (.cons .Jq (.cons (.drop _ _ _ _ (ze.2 rfl)) .nil))))))))))))))) (.cons .int .nil))
   ·have eE:=AgJ k kf ku;refine⟨8,.CR [.agg noP,.int .i64 (GW (Hb (R:Int) (C:Int) l (P:Int) m).1 (Hb (R:Int) (C:Int) l (P:Int) m).2.1 (Hb (R:Int) (C:Int) l (P:Int) m).2.2.1)],[],by rw[e13,CN.Dj.XE,t1.inn,Aa,neI ku,Aa]; rfl,?_⟩;rw[Ack (by rw[eE]; exact ku),eE];exact Wk.Gr (.cons Wf (.cons .int .nil))
  ·have eE:=AjA k kf;refine⟨8,.CR [.agg noP,.int .i64 2],[],by rw[e4,CN.Dj.Ac5,aA,Aa,neI kf,Aa,h.AnS al am kf]; rfl,?_⟩;rw[Ack (by rw[eE]; decide),eE];exact Wk.Gr (.cons Wf (.cons .int .nil))
 ·refine⟨0,.CR [.agg noP,.int .i64 (VH r c l p q m)],[],by rw[CN.Dj.ev,hall,Aa,neI k,Aa]; rfl,?_⟩;rw[Ack (by rw[Ze k]; exact k),Ze k];exact Wk.Gr (.cons Wf (.cons .int .nil))
def Cw.one.E:=E0 []
theorem Cw.one.ev(N:Nat)(b:Int):Cz Cw.one.E N f45 (Bw f45) [.int .u64 b]=xQ (.agg [.int .i64 1,.int .i64 1,.Bj (.own 4 43) .u64 [b]]):=by kernel_rfl
def Cw.Gq.GM:List (Nat × Ez):=[(46,CN.DJ.Bt),(25,CN.Dj.Bt),(45,Cw.one.Bt)]
def Cw.Gq.E:Env:=D6 (Db Cw.Gq.GM) (fun _=>x5) (fun _=>xY) (fun _=>xY)
theorem Cw.Gq.ev(N:Nat):Cz Cw.Gq.E N f10 (Bw f10) []=cond (Bp ([(4607182418800017408:Int)])&&Bp ([(0:Int)])) (bif ((!(((Di 1 1 ([(4607182418800017408:Int)]) 1 1 ([(0:Int)]))==(0:Int))&&((wj (F9 1 1 ([(4607182418800017408:Int)]) 1 1 ([(0:Int)])):Int)==(1:Int))))||(decide ((0:Int)<(wj (F9 1 1 ([(4607182418800017408:Int)]) 1 1 ([(0:Int)])):Int)))) then cond ((!(((((Di 1 1 ([(4607182418800017408:Int)]) 1 1 ([(0:Int)]))==(0:Int))&&((wj (F9 1 1 ([(4607182418800017408:Int)]) 1 1 ([(0:Int)])):Int)==(1:Int)))&&((wt (F9 1 1 ([(4607182418800017408:Int)]) 1 1 ([(0:Int)])) 0 0)==(4607182418800017408:Int)))&&((wj (IJ 1 1 ([(4607182418800017408:Int)]) 1 1 ([(0:Int)])):Int)==(1:Int))))||(Cq (IJ 1 1 ([(4607182418800017408:Int)]) 1 1 ([(0:Int)])))) (xQ (.bool (cond (bif (cond (bif ((Di 1 1 ([(4607182418800017408:Int)]) 1 1 ([(0:Int)]))==(0:Int)) then ((wj (F9 1 1 ([(4607182418800017408:Int)]) 1 1 ([(0:Int)])):Int)==(1:Int)) else x5) ((wt (F9 1 1 ([(4607182418800017408:Int)]) 1 1 ([(0:Int)])) 0 0)==(4607182418800017408:Int)) x5) then ((wj (IJ 1 1 ([(4607182418800017408:Int)]) 1 1 ([(0:Int)])):Int)==(1:Int)) else x5) ((Sa (IJ 1 1 ([(4607182418800017408:Int)]) 1 1 ([(0:Int)])))==(1:Int)) x5))) xY else xY) xY:=
 Et (EY (B5 (MH ((Di 1 1 ([(4607182418800017408:Int)]) 1 1 ([(0:Int)]))==(0:Int))) (B5 (JV ((Di 1 1 ([(4607182418800017408:Int)]) 1 1 ([(0:Int)]))==(0:Int))) (B5 (JV ((Di 1 1 ([(4607182418800017408:Int)]) 1 1 ([(0:Int)]))==(0:Int))) (B5 (JV ((Di 1 1 ([(4607182418800017408:Int)]) 1 1 ([(0:Int)]))==(0:Int))) (B5 (QG ((Di 1 1 ([(4607182418800017408:Int)]) 1 1 ([(0:Int)]))==(0:Int))) (B5 (AhJ ((Di 1 1 ([(4607182418800017408:Int)]) 1 1 ([(0:Int)]))==(0:Int)) ((wj (F9 1 1 ([(4607182418800017408:Int)]) 1 1 ([(0:Int)])):Int)==(1:Int))) (B5 (AcD ((Di 1 1 ([(4607182418800017408:Int)]) 1 1 ([(0:Int)]))==(0:Int)) ((wj (F9 1 1 ([(4607182418800017408:Int)]) 1 1 ([(0:Int)])):Int)==(1:Int))) (CQ (Al8 _ _ _) (B5 (AcD ((Di 1 1 ([(4607182418800017408:Int)]) 1 1 ([(0:Int)]))==(0:Int)) ((wj (F9 1 1 ([(4607182418800017408:Int)]) 1 1 ([(0:Int)])):Int)==(1:Int))) (B5 (AcD ((Di 1 1 ([(4607182418800017408:Int)]) 1 1 ([(0:Int)]))==(0:Int)) ((wj (F9 1 1 ([(4607182418800017408:Int)]) 1 1 ([(0:Int)])):Int)==(1:Int))) (B5 (AhK ((Di 1 1 ([(4607182418800017408:Int)]) 1 1 ([(0:Int)]))==(0:Int)) ((wj (F9 1 1 ([(4607182418800017408:Int)]) 1 1 ([(0:Int)])):Int)==(1:Int))) (B5 (AjK ((Di 1 1 ([(4607182418800017408:Int)]) 1 1 ([(0:Int)]))==(0:Int)) ((wj (F9 1 1 ([(4607182418800017408:Int)]) 1 1 ([(0:Int)])):Int)==(1:Int)) ((wt (F9 1 1 ([(4607182418800017408:Int)]) 1 1 ([(0:Int)])) 0 0)==(4607182418800017408:Int))) (B5 (AcE ((Di 1 1 ([(4607182418800017408:Int)]) 1 1 ([(0:Int)]))==(0:Int)) ((wj (F9 1 1 ([(4607182418800017408:Int)]) 1 1 ([(0:Int)])):Int)==(1:Int)) ((wt (F9 1 1 ([(4607182418800017408:Int)]) 1 1 ([(0:Int)])) 0 0)==(4607182418800017408:Int))) (B5 (AcE ((Di 1 1 ([(4607182418800017408:Int)]) 1 1 ([(0:Int)]))==(0:Int)) ((wj (F9 1 1 ([(4607182418800017408:Int)]) 1 1 ([(0:Int)])):Int)==(1:Int)) ((wt (F9 1 1 ([(4607182418800017408:Int)]) 1 1 ([(0:Int)])) 0 0)==(4607182418800017408:Int))) (B5 (AcE ((Di 1 1 ([(4607182418800017408:Int)]) 1 1 ([(0:Int)]))==(0:Int)) ((wj (F9 1 1 ([(4607182418800017408:Int)]) 1 1 ([(0:Int)])):Int)==(1:Int)) ((wt (F9 1 1 ([(4607182418800017408:Int)]) 1 1 ([(0:Int)])) 0 0)==(4607182418800017408:Int))) (B5 (AjL ((Di 1 1 ([(4607182418800017408:Int)]) 1 1 ([(0:Int)]))==(0:Int)) ((wj (F9 1 1 ([(4607182418800017408:Int)]) 1 1 ([(0:Int)])):Int)==(1:Int)) ((wt (F9 1 1 ([(4607182418800017408:Int)]) 1 1 ([(0:Int)])) 0 0)==(4607182418800017408:Int))) (B5 (AhL ((Di 1 1 ([(4607182418800017408:Int)]) 1 1 ([(0:Int)]))==(0:Int)) ((wj (F9 1 1 ([(4607182418800017408:Int)]) 1 1 ([(0:Int)])):Int)==(1:Int)) ((wt (F9 1 1 ([(4607182418800017408:Int)]) 1 1 ([(0:Int)])) 0 0)==(4607182418800017408:Int)) ((wj (IJ 1 1 ([(4607182418800017408:Int)]) 1 1 ([(0:Int)])):Int)==(1:Int))) (CQ (AlY _ _ _ _ _) (B5 (AeM ((Di 1 1 ([(4607182418800017408:Int)]) 1 1 ([(0:Int)]))==(0:Int)) ((wj (F9 1 1 ([(4607182418800017408:Int)]) 1 1 ([(0:Int)])):Int)==(1:Int)) ((wt (F9 1 1 ([(4607182418800017408:Int)]) 1 1 ([(0:Int)])) 0 0)==(4607182418800017408:Int)) ((wj (IJ 1 1 ([(4607182418800017408:Int)]) 1 1 ([(0:Int)])):Int)==(1:Int))) (B5 (AlG ((Di 1 1 ([(4607182418800017408:Int)]) 1 1 ([(0:Int)]))==(0:Int)) ((wj (F9 1 1 ([(4607182418800017408:Int)]) 1 1 ([(0:Int)])):Int)==(1:Int)) ((wt (F9 1 1 ([(4607182418800017408:Int)]) 1 1 ([(0:Int)])) 0 0)==(4607182418800017408:Int)) ((wj (IJ 1 1 ([(4607182418800017408:Int)]) 1 1 ([(0:Int)])):Int)==(1:Int))) rfl)) rfl)))))))))) rfl)))))))) rfl)
abbrev Cw.Gq.Kn:=Ey prog 10 Cw.Gq.Bt
theorem Cw.Gq.D4(hk:Ff prog Cw.Gq.GM)(h:Unit->Hyp Cw.Gq.E f10 Cw.Gq.ts Cw.Gq.pre Cw.Gq.out):Cw.Gq.Kn :=FO (JL hk _ _ _) func10 (by kernel_rfl) (by kernel_rfl) (h ())
theorem VK:Br (BX 4607182418800017408 (-40))=xZ/\Ew 4607182418800017408 (-40)=xZ:=⟨Gi Pm,Bi.2 ⟨Pm,Bv.2 (by decide)⟩⟩
theorem Afc{y:Bf}{i:Nat}(h:i<y.length):Sa (y.take (i+1))=Sa (y.take i)+(if AaQ (y.getD i 0)=xZ then 1 else 0):=by
 unfold Sa;rw[List.take_succ_eq_append_getElem h,List.countP_append,Al,As h];show _=_+(if AaQ y[i]=xZ then (1:Int) else 0)
 by_cases k:AaQ y[i]=xZ
 ·rw[Az k,List.countP_cons_of_pos k]; rfl
 ·rw[Ay k,List.countP_cons_of_neg k]; rfl
theorem Ak9(y:Bf):0<=Sa y/\Sa y<=y.length:=by have:=List.countP_le_length (p:=AaQ) (l:=y);unfold Sa; omega
theorem Ags(N:Nat){y:Bf}(hy:Cq y=xZ):∀(k i F:Nat),i+k=y.length->k<F->CN.DJ.L0 N F y (Sa (y.take i)) (i:Int)=xQ (.int .i64 (Sa y)):=by
 obtain⟨hl,hu⟩:=IE hy;obtain⟨w1,w2⟩:=VK;intro k
 induction k with
 | zero =>
   intro i F hi hF;obtain⟨F,rfl⟩:∃G,F=G+1:=⟨F-1,by omega⟩
   rw[CN.DJ.B8,B9,Ag (by omega),Af,List.take_of_length_le (by omega)]
 | succ k ih =>
   intro i F hi hF;obtain⟨F,rfl⟩:∃G,F=G+1:=⟨F-1,by omega⟩
   have ih:=ih (i+1) F (by omega) (by omega);rw[Afc (by omega)] at ih;have hb:=Ak9 (y.take i);rw[List.length_take] at hb;rw[CN.DJ.B8,B9,Ac (show(i:Int)<(y.length:Int) by omega),Aa,Ac (show(0:Int)<=(i:Int) by omega),Ah,Aa,Ad,w1,hu i (by omega),Ah,Aa,Bz (x:=(i:Int)+1) (by omega) (by omega),Bz (by omega) (by omega)];have e:(!(decide (G4 (BX 4607182418800017408 (-40)) (y.getD i 0)<0)))=AaQ (y.getD i 0):=rfl;rw[e];cases h:AaQ (y.getD i 0) with
   | true=>rw[h,Az rfl] at ih; exact ih
   | false=>rw[h,Ay (by decide),Int.add_zero] at ih; exact ih
theorem CN.DJ.Bn:Kq 46 CN.DJ.Bt:=ED CN.DJ.E Tryz.func46 (kc compare.MT.Bn (kc Bs.CM.Bn .nil)) fun a1 b1 l1 a2 b2 l2 a3 b3 l3 a4 b4 l4 x y hp=>by have oy:Cq y=xZ:=hp;refine⟨y.length+1,.int .i64 (Sa y),[],?_,.int⟩;rw[CN.DJ.ev,VK.2,Aa];exact Ags (y.length+1) oy y.length 0 (y.length+1) (by omega) (by omega)
theorem Cw.one.Bn:Kq 45 Cw.one.Bt:=ED Cw.one.E Tryz.func45 .nil fun b _ =>
 ⟨0,_,[4],Cw.one.ev 0 b,SN (ze.2 rfl)⟩
theorem AnW:Di 1 1 [4607182418800017408] 1 1 [0]=0/\F9 1 1 [4607182418800017408] 1 1 [0]=[4607182418800017408]/\IJ 1 1 [4607182418800017408] 1 1 [0]=[0]/\Sa [0]=1:=by decide +kernel
theorem Ua{x:Int}(h:decide (0<=x/\x<18446744073709551616)=xZ):Bp [x]=xZ:=Bv.2 fun y hy=>by rw[ze.1 hy]; exact Bv.2 (A6 h)
theorem Cw.Gq.Bn:Cw.Gq.Kn:=Cw.Gq.D4 (kc CN.DJ.Bn (kc CN.Dj.Bn (kc Cw.one.Bn .nil))) fun _ _=>by obtain⟨h1,h2,h3,h4⟩:=AnW;have o0:Cq [(0:Int)]=xZ:=Gf (Ua (by decide)) (by decide);refine⟨0,Cw.Gq.out [],[],?_,.bool⟩;rw[Cw.Gq.ev,Ua (by decide),Ua (x:=0) (by decide),h1,h2,h3,h4,o0];rfl
def Bq.single.hint:Nat->Option BN
 | 0=>xQ { Df:=[0,1,5,6,7],Cg:=[(0,5,100005,.Bj 121 .u32 [])],Cr:=[] }
 | _=>xY
def Bq.single.E:=D6 (Db []) (fun _=>x5) Bq.single.hint (fun _=>xY)
section
variable(N M:Nat)(a:Bf)(x p6 p7:Int)(p5:Bf)
def Bq.single.L0:Option DV:=C6 Bq.single.E N f115 (Bw f115) [1,1,1,0,1,0] [] M ⟨Fz 39 [(0,.Bj .arg .u32 a),(1,.int .u32 x),(5,.Dh 100005),(6,.int .u64 p6),(7,.int .i64 p7)],[(100005,x5,.Bj 121 .u32 p5)]⟩
theorem Bq.single.B8:Bq.single.L0 N (M+1) a x p6 p7 p5=cond (BI p7 (wj a:Int)) (bif ((decide (0<=p7))&&(decide (p7<(wj a:Int)))) then cond (decide ((wj p5)+1<=G2)) (Bq.single.L0 N M a x (BV (Int.tdiv (BV ((BV ((BV (wt a (wQ p7) 0))*(BV x)))+p6)) 4294967296)) (Bg (p7+1)) (p5++[(HM (Int.tmod (BV ((BV ((BV (wt a (wQ p7) 0))*(BV x)))+p6)) 4294967296))])) xY else xY) (bif (decide ((wj p5)+1<=G2)) then xQ (.Bj (.own 38 121) .u32 (p5++[(HM p6)])) else xY):=by kernel_rfl
theorem Bq.single.ev:Cz Bq.single.E N f115 (Bw f115) [.Bj .arg .u32 a,.int .u32 x]=
 Bq.single.L0 N N a x 0 0 []:=by kernel_rfl
end
def Bq.Mul.hint:Nat->Option BN
 | 0=>xQ { Df:=[2,3,4,5,6],Cg:=[(0,5,100005,.Bj 121 .u32 [])],Cr:=[2,3,4] }
 | _=>xY
def Bq.Mul.E:=D6 (Db [(104,Bq.Made.Bt),(110,Bq.plus.own.Bt),(115,Bq.single.Bt)]) (fun n=>Nat.beq n 29) Bq.Mul.hint (fun _=>xY)
section
variable(N M:Nat)(n:Bool)(a:Bf)(m:Bool)(b:Bf)(p6:Int)(p5:Bf)
def Bq.Mul.L0:Option DV:=C6 Bq.Mul.E N f60 (Bw f60) [1,1,0,1,0] [] M ⟨Fz 37 [(2,.ptr 2 0 0),(3,.ptr 3 0 0),(4,.ptr 4 0 0),(5,.Dh 100005),(6,.int .i64 p6)],[(2,x5,.box [.bool n,.Bj .arg .u32 a]),(3,x5,.box [.bool m,.Bj .arg .u32 b]),(4,x5,.box [.bool x5,.nil]),(100005,x5,.Bj 121 .u32 p5)]⟩
theorem Bq.Mul.B8:Bq.Mul.L0 N (M+1) n a m b p6 p5=cond (Eg 0 p6) (bif (decide (1+(wj p5)<=G2)) then cond ((decide (0<=p6))&&(decide (p6<(wj b:Int)))) (bif (GZ a&&Agt (wt b (wQ p6) 0)) then cond (GZ ([(0:Int)]++p5)&&GZ (singleL a (wt b (wQ p6) 0))) (Bq.Mul.L0 N M n a m b (Bg (p6-1)) (Ix ([(0:Int)]++p5) (singleL a (wt b (wQ p6) 0)))) xY else xY) xY else xY) (bif (GZ p5) then xQ (.agg [.bool (BG (wv (!(n==m)) p5)),.Bj .arg .u32 (Bo (wv (!(n==m)) p5))]) else xY) :=Et (EY (EY (CQ (IW _ _) (CQ (CF _) (CQ (CF _) rfl rfl) rfl) rfl) rfl) rfl)
theorem Bq.Mul.ev:Cz Bq.Mul.E N f60 (Bw f60) [.agg [.bool n,.Bj .arg .u32 a],.agg [.bool m,.Bj .arg .u32 b]]=
 Bq.Mul.L0 N N n a m b (Bg ((wj b:Int)-1)) []:=by kernel_rfl
end
def B4.Mul.E:=E0 [(60,Bq.Mul.Bt),(39,B4.Of.Bt)]
theorem B4.Mul.ev(N:Nat)(n:Bool)(a:Bf)(e:Int)(m:Bool)(b:Bf)(f:Int):Cz B4.Mul.E N f23 (Bw f23) [.agg [.bool n,.Bj .arg .u32 a,.int .i64 e],.agg [.bool m,.Bj .arg .u32 b,.int .i64 f]]=cond (okM n a&&okM m b) (bif (I8 (BG (wv n a*wv m b)) (Bo (wv n a*wv m b))&&Pn (Bg (e+f))) then xQ (.agg [.bool (BG (mD (wv (BG (wv n a*wv m b)) (Bo (wv n a*wv m b))))),.Bj .arg .u32 (Bo (mD (wv (BG (wv n a*wv m b)) (Bo (wv n a*wv m b))))),.int .i64 (eD (wv (BG (wv n a*wv m b)) (Bo (wv n a*wv m b))) (Bg (e+f)))]) else xY) xY :=Et (CQ (CF _) (CQ (CF _) rfl rfl) rfl)
abbrev B4.Mul.q.Kn:Prop:=Ey prog 23 B4.Mul.q.Bt
abbrev Bq.plus.own.Kn:Prop:=Ey prog 110 Bq.plus.own.Bt
theorem Bq.plus.own.call:∀(args:Array Value) (w:World),(callFunc 110 args).run prog w=.ok (.enter 110 args) w:=Io func110 (by kernel_rfl) (show f110.body=xQ (Bw f110) by kernel_rfl)
theorem Bq.plus.meets{E:Env}(he:He prog E){ts:List AT}{pre:List F4->Bool}{out:List F4->DV}(h:∀ats ds,EH ts ats ds->pre ats=xZ->∃fuel d drops,Cz E fuel f110 (Bw f110) ds=xQ d/\Wk drops d (out ats)):RV prog 110 (BO ts pre out):=N8 he func110 (show f110.body=xQ (Bw f110) by kernel_rfl) h
theorem S3{n:Bool}{l:Bf}(h:okM n l=xZ):∃v,n=BG v/\l=Bo v/\DC v.natAbs<33554432:=by have h:=Bv.1 h;obtain⟨h1,h2,h3⟩:=h;obtain⟨e1,e2⟩:=Ru h2 h3;refine⟨wv n l,e1,e2,?_⟩;rw[e2,CL] at h1;exact h1
theorem Bq.plus.own.Bn:Bq.plus.own.Kn:=by refine⟨Bq.plus.meets (E:=Bq.plus.E) (JL (kc Bq.KE.Bn .nil) _ _ _) fun ats dvs he hp=>?_,Bq.plus.own.call⟩;obtain⟨a,_,_,rfl,rfl,he0⟩:=he.Yj;obtain⟨b,_,_,rfl,rfl,he1⟩:=he0.Yj;obtain⟨rfl,rfl⟩:=he1.Ib;obtain⟨ha,hb⟩:=Bi.1 (show(GZ a&&GZ b)=xZ from hp);refine⟨max a.length b.length+2,.Bj (.own 100005 tW) .u32 (Ix a b),[],?_,.Df _ _ _ _ (List.not_mem_nil)⟩;rw[Bq.plus.ev];exact Vv _ ha hb (max a.length b.length+1) 0 0 _ (by omega) (by omega) (by omega) (by simp)
theorem W8{x y c:Nat}(hx:x<4294967296)(hy:y<4294967296)(hc:c<4294967296):x*y+c<18446744073709551616:=by have:=AE (show x<=4294967295 by omega) (show y<=4294967295 by omega);omega
theorem Yf(N:Nat){a:Bf}{X:Nat}(ha:GZ a=xZ)(hX:X<4294967296):∀(k i c F:Nat),i+k=a.length->k<F->c<4294967296 ->
 C3 a / 2^(32*i)*X+c=C3 a*X / 2^(32*i) ->
 Bq.single.L0 N F a (X:Int) (c:Int) (i:Int) (digits i (C3 a*X))=xQ (.Bj (.own 38 tW) .u32 (singleL a (X:Int))):=by
 obtain⟨la,ia⟩:=IG ha;intro k
 induction k with
 | zero =>
   intro i c F hi hF hc h;obtain⟨F,rfl⟩:∃G,F=G+1:=⟨F-1,by omega⟩
   have t0:decide ((i:Int)<(a.length:Int))=x5:=Ag (by omega);have t1:decide ((digits i (C3 a*X)).length+1<=G2)=xZ:=Ac (by rw[Er]; unfold G2; omega);have hz:C3 a / 2^(32*i)=0:=z7 (by rw[show i=a.length by omega]; exact I9 ia);rw[hz,zJ,AS] at h;rw[Bq.single.B8,B9,t0,Af,t1,Aa,HL (by omega) (by omega)];unfold singleL;rw[Ad,I4,<- show i=a.length by omega,<- h,Ao hc]
 | succ k ih =>
   intro i c F hi hF hc h;obtain⟨F,rfl⟩:∃G,F=G+1:=⟨F-1,by omega⟩
   have t0:decide ((i:Int)<(a.length:Int))=xZ:=Ac (by omega);have t2:decide ((0:Int)<=(i:Int))=xZ:=Ac (by omega);have t1:decide ((digits i (C3 a*X)).length+1<=G2)=xZ:=Ac (by rw[Er]; unfold G2; omega);rw[Bq.single.B8,B9,t0,t1,t2];simp only[Aa,Ah];rw[Ad,Ll ia i];have ih:=ih (i+1);rw[JO,A0 4294967296,<- A9,<- A9,I4] at ih;generalize C3 a / 2^(32*i)=x at *
   generalize C3 a*X / 2^(32*i)=z at *
   have hb:=W8 (x:=x%4294967296) (y:=X) (c:=c) (zu _ (by decide)) hX hc
   have hm:x*X=x / 4294967296*X*4294967296+x%4294967296*X:=by rw[Nat.mul_right_comm,<- AM];congr 1;omega
   have e1:BV (BV (BV ((x%4294967296:Nat):Int)*BV (X:Int))+(c:Int))=((x%4294967296*X+c:Nat):Int):=by rw[Dr (x:=((x%4294967296:Nat):Int)) (by omega) (by omega),Dr (x:=(X:Int)) (by omega) (by omega),<- Ax,Dr (x:=((x%4294967296*X:Nat):Int)) (by omega) (by omega),Dr (by omega) (by omega)];omega
   have hlt:(x%4294967296*X+c) / 4294967296<4294967296:=by omega
   rw[e1,YD,HP,HQ,HL (by omega) (by omega),Dr (by omega) (by omega),Bz (by omega) (by omega)];rw[hm] at h;generalize x%4294967296*X=p at *
   generalize x / 4294967296*X=q at *
   have e2:(p+c)%4294967296=z%4294967296:=by omega
   rw[e2];exact ih ((p+c) / 4294967296) F (by omega) (by omega) hlt (by omega)
theorem Bq.single.Bn:Kq 115 Bq.single.Bt:=ED Bq.single.E Tryz.func115 .nil fun a x hp=>by
 obtain⟨ha,hx⟩:=Bi.1 hp;have hx:=Bv.1 hx;obtain⟨X,rfl⟩:∃k:Nat,x=k:=⟨x.toNat,by omega⟩
 refine⟨a.length+1,.Bj (.own 38 tW) .u32 (singleL a X),[38],?_,WL⟩;rw[Bq.single.ev];exact Yf _ ha (by omega) a.length 0 0 _ (by omega) (by omega) (by omega) (by simp)
theorem Tg(a:Bf)(x:Int):Qu (singleL a x):=Kv _ _
theorem Nk(a:Bf)(x:Int):(singleL a x).length=a.length+1:=Er _ _
theorem Yg{a:Bf}(ia:Qu a){X:Nat}(hX:X<4294967296):C3 (singleL a (X:Int))=C3 a*X:=by have h:=I9 ia;unfold singleL;rw[Is,Ad,Ao];rw[JO,A0 4294967296];exact x6 h hX
theorem AfS(N:Nat){n m:Bool}{a b:Bf}(ha:Qu a)(hb:Qu b)(la:a.length<33554432)(lb:b.length<33554432):
 ∀(j F:Nat) (p:Bf),j<=b.length->j<F->Qu p->p.length<=a.length+2*(b.length-j)->C3 p=C3 a*(C3 b / 2^(32*j)) ->
 Bq.Mul.L0 N F n a m b ((j:Int)-1) p=xQ (.agg [.bool (BG (GI (!(n==m)) (C3 a*C3 b))),.Bj .arg .u32 (Bo (GI (!(n==m)) (C3 a*C3 b)))]):=by
 intro j
 induction j with
 | zero =>
   intro F p hj hF ip lp vp;obtain⟨F,rfl⟩:∃G,F=G+1:=⟨F-1,by omega⟩
   have o:GZ p=xZ:=IF (by omega) ip;rw[yd,AG,Nat.div_one] at vp;rw[Bq.Mul.B8,E1,Ag (by omega),Af,o,Aa];unfold wv;rw[vp]
 | succ j ih =>
   intro F p hj hF ip lp vp;obtain⟨F,rfl⟩:∃G,F=G+1:=⟨F-1,by omega⟩
   have e0:((j+1:Nat):Int)-1=(j:Int):=by omega
   have hX:C3 b / 2^(32*j)%4294967296<4294967296:=zu _ (by decide);have o1:GZ a=xZ:=IF (by omega) ha;have i0:Qu ([(0:Int)]++p):=YP ip;have o2:GZ ([(0:Int)]++p)=xZ:=IF (by rw[A8]; show 1+p.length<_; omega) i0;have o3:GZ (singleL a ((C3 b / 2^(32*j)%4294967296:Nat):Int))=xZ:=IF (by rw[Nk]; omega) (Tg _ _);have o4:Agt ((C3 b / 2^(32*j)%4294967296:Nat):Int)=xZ:=Bv.2 (by omega)
   have vz:C3 ([(0:Int)]++p)=4294967296*C3 p:=by show(0:Int).toNat+4294967296*C3 p=_;rw[show(0:Int).toNat=0 from rfl,AS]
   have c1:decide (1+p.length<=G2)=xZ:=Ac (by unfold G2; omega);have c2:decide ((j:Int)<(b.length:Int))=xZ:=Ac (by omega);have c3:decide ((0:Int)<=(j:Int))=xZ:=Ac (by omega);rw[e0,Bq.Mul.B8,E1,c3,Aa,c1,Aa,c2,Ah,Aa,Ad,Ll hb j,o1,o4,Ah,Aa,o2,o3,Ah,Aa,Bz (by omega) (by omega)];refine ih F _ (by omega) (by omega) (Tv _ _) ?_ ?_
   ·rw[Mj,A8,Nk];show max (1+p.length) _+1<=_;omega
   ·rw[Vw i0 (Tg _ _),vz,Yg ha hX,vp,JO,A0 4294967296 (2^(32*j)),<- A9,Nat.mul_left_comm,<- yc];congr 1;omega
theorem AhY(s t:Bool)(x y:Nat):GI (!(s==t)) (x*y)=GI s x*GI t y:=by unfold GI;cases s<;>cases t<;>simp[Ax,Int.neg_mul,Int.mul_neg]
theorem Bq.Mul.Bn:Kq 60 Bq.Mul.Bt:=ED Bq.Mul.E Tryz.func60 (kc Bq.Made.Bn (kc Bq.plus.own.Bn (kc Bq.single.Bn .nil))) fun n a m b hp=>by obtain⟨h1,h2⟩:=Bi.1 hp;obtain⟨v,rfl,rfl,hv⟩:=S3 h1;obtain⟨w,rfl,rfl,hw⟩:=S3 h2;refine⟨(Bo w).length+1,Bq.Mul.out [.b (BG v),.l (Bo v),.b (BG w),.l (Bo w)],[],?_,Wi⟩;have lv:=CL v;have lw:=CL w;have iw:=FK w;have hz:C3 (Bo w) / 2^(32*(Bo w).length)=0:=z7 (I9 iw);rw[Bq.Mul.ev,Bz (by omega) (by omega)];refine(AfS _ (FK v) iw (by omega) (by omega) (Bo w).length _ [] (AB _) (by omega) (fun x h=>by cases h) (by show 0<=_; omega) (by rw[hz,yd]; rfl)).trans ?_;rw[AhY];rfl
theorem Agj(n m:Nat):DC (n*m)<=DC n+DC m:=by refine Jy ?_;rw[yc,A5];exact x6 (II n) (II m)
theorem B4.Mul.Bn:Kq 23 B4.Mul.Bt:=ED B4.Mul.E Tryz.func23 (kc Bq.Mul.Bn (kc B4.Of.Bn .nil)) fun n a e m b f hp=>by obtain⟨h1,h2⟩:=Bi.1 hp;obtain⟨h3,h4⟩:=Bi.1 h2;have he:=Bv.1 h3;have hf:=Bv.1 h4;obtain⟨h5,h6⟩:=Bi.1 h1;obtain⟨v,rfl,rfl,hv⟩:=S3 h5;obtain⟨w,rfl,rfl,hw⟩:=S3 h6;refine⟨0,B4.Mul.out [.b (BG v),.l (Bo v),.i e,.b (BG w),.l (Bo w),.i f],[],?_,wdy⟩;have hl:=Agj v.natAbs w.natAbs;have o1:I8 (BG (v*w)) (Bo (v*w))=xZ:=GY (by rw[Int.natAbs_mul]; omega);have o2:Pn (e+f)=xZ:=Bv.2 (by omega);rw[B4.Mul.ev,h5,h6,Ah,Aa,Bz (by omega) (by omega)];simp only[EV];rw[o1,o2,Ah,Aa];show _=xQ (DV.agg [.bool (BG (mD (wv (BG v) (Bo v)*wv (BG w) (Bo w)))),.Bj .arg .u32 (Bo (mD (wv (BG v) (Bo v)*wv (BG w) (Bo w)))),.int .i64 (eD (wv (BG v) (Bo v)*wv (BG w) (Bo w)) (e+f))]);rw[EV,EV]
end Go.Proofs.S1
namespace Go.Ck
open Go.Den
structure Fw(x:Int):Prop where
 word:Br x=xZ
 fin:D5 x=xZ
end Go.Ck
namespace Go.Proofs.S1
open Go Go.Den Go.Ck Go.Proofs
theorem Ym{R C:Nat}{l:Bf}(hl:l.length=R*C){I:Nat}(hI:I<R):JZ (C:Int) l (I:Int)=(zf C).map fun k:Nat=>CE (C:Int) l (I:Int) (k:Int):=by
 have hlen:=Pg hl hI;have e1:((I:Int)*(C:Int)).toNat=I*C:=by rw[<- Ax,Ad]
 have e2:(((I:Int)+1)*(C:Int)).toNat=(I+1)*C:=by
  have:((I:Int)+1)*(C:Int)=(((I+1)*C:Nat):Int):=by rw[Ax]; rfl
  rw[this,Ad]
 refine Qn (by rw[hlen,AO,AL]) fun j hj=>?_
 rw[hlen] at hj;have hp:=Dw hI hj;have h1:(I+1)*C=I*C+C:=by rw[AM,zC]
 rw[Ba,ym hj];unfold JZ;rw[List.getElem?_drop,e1,e2,List.getElem?_take,Az (by omega)];show l[I*C+j]?=xQ (CE (C:Int) l (I:Int) (j:Int));rw[M9,Al,As (by omega)];rfl
end Go.Proofs.S1
namespace Go.Ck
open Go.Den
theorem HZ(s:Bool):vR (Co s 0)=0:=by
 have e3:By (Co s 0)=0:=by cases s<;>decide
 unfold vR;rw[e3];have z:((0:Nat):Rat)=0:=rfl;rw[z]; grind
theorem Gh{a:Nat}(h:Bk a=0):vR a=0:=by
 have h3:Bk a≠3:=by omega
 have h4:Bk a≠4:=by omega
 unfold vR;rw[(Da h3 h4).2 h];have z:((0:Nat):Rat)=0:=rfl;rw[z]; grind
theorem AbL(S:Int):Lz (decide (S<0))*((S.natAbs:Nat):Rat)=(S:Rat):=by
 rw[<- WC];congr 1;unfold GI;by_cases h:S<0
 ·rw[Az (Ac h)]; omega
 ·rw[Ay (by rw[Ag h]; decide)]; omega
theorem Ns{s:Bool}{V:Nat}{E:Int}(h:Bk (Co s (Cs V E))≠3):Cs V E<E8:=by
 have:=Ok V E;rcases AF (Cs V E) E8 with g | g
 ·exact g
 ·exfalso;have e:Cs V E=E8:=by omega
  rw[e] at h;exact h (Agm s)
theorem Ahw{s:Bool}{V:Nat}{E:Int}{B:Rat}(h:Ab (Lz s*((V:Rat)*tw E)) B):(V:Rat)*tw E<=B:=(Aai (L8 V E)).1 h
theorem H6{x B:Rat}(h:x<=B):uR*x<=uR*B:=zd h (za Dc)
theorem O2{a b:Nat}(a3:Bk a≠3)(a4:Bk a≠4)(b3:Bk b≠3)(b4:Bk b≠4)(hf:Bk (Ef a b).1≠3){B:Rat}(hB:Ab (vR a+vR b) B):Nr (vR (Ef a b).1) (vR a+vR b) (uR*B):=by
 have pa:=CO a;have pb:=CO b;rw[NT (by omega) a3 b3] at hf ⊢;obtain⟨m,hm⟩:∃m,m=min (B7 a) (B7 b):=⟨_,rfl⟩
 have ea:=XO (a:=a) (g:=m) (by omega);have eb:=XO (a:=b) (g:=m) (by omega);rw[<- hm] at hf ⊢;generalize hS:EI a m+EI b m=S at hf ⊢
 have es:vR a+vR b=(S:Rat)*tw m:=by rw[<- ea,<- eb,<- hS,Rat.intCast_add]; grind
 rw[es] at hB ⊢;unfold Ih at hf ⊢;by_cases h0:S=0
 ·rw[Az h0];dsimp only;rw[HZ,h0];have z:((0:Int):Rat)=0:=rfl;have:=zc (za Dc) hB.nn;rw[z];unfold Nr; grind
 ·rw[Ay h0] at hf ⊢;dsimp only at hf ⊢;have h:=(Nt (decide (S<0)) (Ns hf)).2.1 (by omega);rw[<- xq (Lz _),AbL] at h;refine h.mono (H6 (Ahw (s:=decide (S<0)) ?_));rw[<- xq,AbL]; exact hB
theorem Lf{a b:Nat}(a3:Bk a≠3)(a4:Bk a≠4)(b3:Bk b≠3)(b4:Bk b≠4)(hf:Bk (En a b).1≠3){B:Rat}(hB:Ab (vR a*vR b) B):Nr (vR (En a b).1) (vR a*vR b) (uR*B+Ci):=by
 unfold En at hf ⊢;rw[Ay (by omega),Ay (by omega)] at hf ⊢;dsimp only at hf ⊢
 have e:vR a*vR b=Lz (Cd a !=Cd b)*(((By a*By b:Nat):Rat)*tw (B7 a+B7 b)):=by unfold vR;rw[AbK,zQ,Eu]; grind
 rw[e] at hB ⊢;refine(Nt _ (Ns hf)).1.mono ?_;have:=H6 (Ahw hB);grind
theorem SP{b:Nat}(h:b<2^64):vR (Ec b)=-(vR b):=by obtain⟨h1,h2,h3⟩:=I2 h;unfold vR By B7;rw[h1,h2,h3];unfold Lz;cases Cd b<;>simp<;>grind
theorem PG{a b:Nat}(hb:b<2^64)(a3:Bk a≠3)(a4:Bk a≠4)(b3:Bk b≠3)(b4:Bk b≠4)(hf:Bk (O8 a b).1≠3){B:Rat}(hB:Ab (vR a-vR b) B):Nr (vR (O8 a b).1) (vR a-vR b) (uR*B):=by
 have k:=AaI b;have e:vR a-vR b=vR a+vR (Ec b):=by rw[SP hb]; grind
 rw[e] at hB ⊢;exact O2 a3 a4 (by omega) (by omega) hf hB
theorem GS{a:Nat}{n:Int}(a3:Bk a≠3)(a4:Bk a≠4)(hf:Bk (Cl a n).1≠3):Nr (vR (Cl a n).1) (vR a*tw n) Ci:=by
 by_cases k0:Bk a=0
 ·have e:(Cl a n).1=a:=by unfold Cl; rw[Ay a4,Az (.inr k0)]
  have he:=Ee;rw[e,Gh k0];unfold Nr; grind
 ·rw[GR a4 (by omega)] at hf ⊢;dsimp only at hf ⊢;have h:=(Nt (Cd a) (Ns hf)).2.2 (EX a)
  have e:vR a*tw n=Lz (Cd a)*(((By a:Nat):Rat)*tw (B7 a+n)):=by unfold vR;rw[Eu]; grind
  rw[e];exact h
open Go.Den
theorem AcP{X Y K:Nat}(hY:0<Y):EW X Y K*Y<=2*(X*2^K)+Y/\2*(X*2^K)<=EW X Y K*Y+Y:=by
 have hd:=Nat.div_add_mod (X*2^K) Y;have hm:=zu (X*2^K) hY;unfold EW;rw[AM,A7,A0 (X*2^K / Y)];split
 ·rw[zJ]; omega
 ·rw[zC]; omega
theorem Cy{m n:Nat}(h:m<=n):(m:Rat)<=(n:Rat):=Rat.natCast_le_natCast.2 h
theorem AcQ{X Y:Nat}{e f:Int}{q:Rat}(hX:0<X)(hY:0<Y)(hY2:Y<2^53)(hq:q*((Y:Rat)*tw f)=(X:Rat)*tw e):Nr ((EW X Y 120:Rat)*tw (e-f-121)) q (tw (-68)*q)/\0<=q:=by
 obtain⟨h1,h2⟩:=AcP (X:=X) (K:=120) hY;have g1:=Cy h1;have g2:=Cy h2;rw[yk,zQ,zQ,zQ] at g1;rw[yk,zQ,zQ,zQ] at g2;have t2:((2:Nat):Rat)=2:=rfl;have t120:((2^120:Nat):Rat)=tw 120:=(H8 120).symm;rw[t2,t120] at g1 g2;have pE:=DP (e-f-121);have pf:=DP f
 have yp:(0:Rat)<(Y:Rat):=by have:((0:Nat):Rat)<(Y:Rat):=v5.2 hY;exact this
 have ypos:0<(Y:Rat)*tw f:=yf yp pf
 have e1:2*tw 120*(tw (e-f-121)*tw f)=tw e:=by have:2*tw 120=tw 121:=(Sl 120).symm;rw[this,<- Eu,<- Eu]; congr 1; omega
 have m1:=zb g1 (za (yf pE pf));have m2:=zb g2 (za (yf pE pf));generalize tw (e-f-121)=T at *
 generalize (EW X Y 120:Rat)=S at *
 have s1:S*T*((Y:Rat)*tw f)<=(q+T)*((Y:Rat)*tw f):=by
  have:(q+T)*((Y:Rat)*tw f)=(X:Rat)*tw e+T*((Y:Rat)*tw f):=by rw[<- hq]; grind
  rw[this,<- e1];grind
 have s2:q*((Y:Rat)*tw f)<=(S*T+T)*((Y:Rat)*tw f):=by rw[hq,<- e1];grind
 have k1:=zS s1 ypos;have k2:=zS s2 ypos
 have hT:T<=tw (-68)*q:=by
  refine zS (c:=(Y:Rat)*tw f) ?_ ypos;have e3:tw (-68)*q*((Y:Rat)*tw f)=tw (-68)*((X:Rat)*tw e):=by rw[<- hq]; grind
  have x1:(1:Rat)<=(X:Rat):=Cy (show 1<=X from hX)
  have y1:(Y:Rat)<=tw 53:=by have:=Cy (Nat.le_of_lt hY2);rw[<- H8] at this;exact this
  have z1:=zd y1 (za (yf pE pf));have pe:=DP e;have z2:=zb x1 (za (yf (DP (-68)) pe))
  have e4:T*tw f*tw 53=tw (-68)*tw e:=by
   rw[<- e1]
   have:tw (-68)*(2*tw 120)=tw 53:=by rw[<- Sl,<- Eu]; rfl
   grind
  rw[e3];grind
 have hq0:0<=q:=by refine zS (c:=(Y:Rat)*tw f) ?_ ypos;rw[hq];have:=L8 X e;grind
 refine⟨?_,hq0⟩;unfold Nr;grind
theorem Aah(s:Bool):Lz s*Lz s=1:=by cases s<;>decide +kernel
theorem Xr{a b:Nat}(a3:Bk a≠3)(a4:Bk a≠4)(b3:Bk b≠3)(b4:Bk b≠4)(b0:Bk b≠0)(hf:Bk (KS a b).1≠3){q B:Rat}(hq:q*vR b=vR a)(hB:Ab q B):Nr (vR (KS a b).1) q (2*uR*B+Ci):=by
 have hBn:=hB.nn;have hu:=Dc;have he:=Ee;have bm:By b≠0:=fun h=>b0 ((Da b3 b4).1 h)
 have yp:(0:Rat)<((By b:Nat):Rat):=by have:((0:Nat):Rat)<((By b:Nat):Rat):=v5.2 (by omega);exact this
 have ypos:0<((By b:Nat):Rat)*tw (B7 b):=yf yp (DP _);have hub:=zc (za Dc) hBn
 have hq2:(Lz (Cd a !=Cd b)*q)*(((By b:Nat):Rat)*tw (B7 b))=((By a:Nat):Rat)*tw (B7 a):=by
  unfold vR at hq;rw[AbK];have h1:=Aah (Cd a);generalize Lz (Cd a)=sa at *
  generalize Lz (Cd b)=sb at *
  grind
 by_cases k0:Bk a=0
 ·have ea:By a=0:=(Da a3 a4).2 k0;have z:((0:Nat):Rat)=0:=rfl;rw[ea,z] at hq2
  have q0:q=0:=by
   have:(Lz (Cd a !=Cd b)*q)*(((By b:Nat):Rat)*tw (B7 b))=0:=by rw[hq2]; grind
   have h1:Lz (Cd a !=Cd b)*q=0:=by
    rcases x7.1 this with h | h
    ·exact h
    ·grind
   have h2:=Aah (Cd a !=Cd b);generalize Lz (Cd a !=Cd b)=sx at *
   grind
  have ed:(KS a b).1=Co (Cd a !=Cd b) 0:=by unfold KS;rw[Ay (by omega),Ay (by omega),Ay a3,Az (.inr k0)]
  rw[ed,HZ,q0];unfold Nr;grind
 ·have am:By a≠0:=fun h=>k0 ((Da a3 a4).1 h)
  have ed:(KS a b).1=Co (Cd a !=Cd b) (Cs (EW (By a) (By b) 120) (B7 a-B7 b-121)):=by unfold KS;rw[Ay (by omega),Ay (by omega),Ay a3,Ay (by omega),Ay b0]
  rw[ed] at hf ⊢;obtain⟨h1,h2⟩:=AcQ (X:=By a) (Y:=By b) (by omega) (by omega) (EX b) hq2;have h3:=(Nt (Cd a !=Cd b) (Ns hf)).1;have h4:=Afn (s:=Cd a !=Cd b) h1
  have sq:Lz (Cd a !=Cd b)*(Lz (Cd a !=Cd b)*q)=q:=by
   have h2:=Aah (Cd a !=Cd b);generalize Lz (Cd a !=Cd b)=sx at *
   grind
  rw[sq] at h4
  have hB2:Lz (Cd a !=Cd b)*q<=B:=by
   unfold Ab at hB;unfold Lz;cases (Cd a !=Cd b)
   ·have e:(if x5=xZ then (-1:Rat) else 1)=1:=rfl;rw[e]; grind
   ·have e:(if xZ=xZ then (-1:Rat) else 1)=-1:=rfl;rw[e]; grind
  generalize Lz (Cd a !=Cd b)*q=p at *
  generalize ((EW (By a) (By b) 120:Nat):Rat)*tw (B7 a-B7 b-121)=W at *
  refine(h3.trans h4).mono ?_;have t68:tw (-68)=uR*tw (-15):=by unfold uR; rw[<- Eu]; rfl
  have t15:tw (-15)<=1 / 4:=by decide +kernel
  have t0:=za (DP (-15))
  have n1:W<=2*p:=by
   have:=h1.1;have m:=zb t15 h2
   have:tw (-68)*p<=p:=by
    have u1:tw (-68)<=1:=by decide +kernel
    have:=zb u1 h2;grind
   grind
  have n2:tw (-68)*p<=1 / 4*(uR*p):=by have m:=zb t15 (zc (za hu) h2);rw[t68]; grind
  have n3:=h1.1;have n4:W<=p+tw (-68)*p:=n3;have n5:tw (-68)<=1 / 4:=by decide +kernel
  have n6:tw (-68)*p<=1 / 4*p:=zb n5 h2;have n7:uR*W<=uR*(5 / 4*p):=H6 (by grind);have n8:uR*p<=uR*B:=H6 hB2;grind
theorem ZZ{n:Nat}(h:2^53<=IY n):(Ev n*Ev n)*2^52<=4*n*2^52+4*n/\4*n*2^52<=(Ev n*Ev n)*2^52+4*n:=by
 obtain⟨h1,h2⟩:=J8 n;unfold Ev;split
 ·rename_i e
  have:(2*IY n+0)*(2*IY n+0)=4*n:=by rw[AQ,y8,e]
  rw[this]; omega
 ·have e1:(2*IY n+1)*(2*IY n+1)=4*(IY n*IY n)+4*IY n+1:=by simp only[AM,yc,zC,AR,y8]; omega
  have e2:(IY n+1)*(IY n+1)=IY n*IY n+2*IY n+1:=by simp only[AM,yc,zC,AR]; omega
  rw[e2] at h2;rw[e1];have h3:IY n*2^53<=IY n*IY n:=Nat.mul_le_mul_left _ h;generalize IY n*IY n=I at *
  generalize IY n=i at *
  omega
theorem H7{x y:Rat}(h:0<=x)(g:x<=y):x*x<=y*y:=by have h1:=zd g h;have h2:=zb g (zn h g);grind
theorem PK{b:Nat}(b3:Bk b≠3)(b4:Bk b≠4)(hn:Cd b=x5\/Bk b=0)(hf:Bk (E4 b).1≠3):Nr (vR (E4 b).1*vR (E4 b).1) (vR b) (8*uR*vR b)/\0<=vR (E4 b).1/\0<=vR b:=by
 by_cases k0:Bk b=0
 ·rw[Jg b4 (.inl k0),Gh k0];unfold Nr; grind
 have hn:Cd b=x5:=hn.elim id fun h=>absurd h k0
 have m0:By b≠0:=fun e=>k0 ((Da b3 b4).1 e)
 have hi:b≠E8:=fun e=>b3 (by rw[e]; exact YO)
 have pe:=CO b;rw[Nh b4 (fun h=>h.elim k0 hi) hn] at hf ⊢;dsimp only at hf ⊢;obtain⟨r1,r2⟩:=PU m0;have hrk:EJ b<=129:=by unfold EJ; omega
 generalize hr:(B7 b-(EJ b:Int)) / 2-1=r at r2 hf ⊢;have hq:2^53<=IY (By b*2^EJ b):=Qs (t:=53) r1;obtain⟨s1,s2⟩:=ZZ hq;have hs:2^54<=Ev (By b*2^EJ b):=by unfold Ev; omega
 have hf':Bk (Co x5 (Cs (Ev (By b*2^EJ b)) r))≠3:=by rw[FQ]; exact hf
 have h1:=(Nt x5 (Ns hf')).1;rw[FQ] at h1;have sg:Lz x5=1:=rfl;rw[sg,wh] at h1
 have eb:vR b=((By b*2^EJ b:Nat):Rat)*(tw 2*(tw r*tw r)):=by
  have e:=Nd (By b) (EJ b) (B7 b);unfold vR;rw[hn];have e2:tw 2*(tw r*tw r)=tw (B7 b-(EJ b:Int)):=by rw[<- Eu,<- Eu]; congr 1; omega
  rw[e2,e,sg]; grind
 generalize By b*2^EJ b=n at *
 generalize Ev n=s at *
 have g1:=Cy s1;have g2:=Cy s2;simp only[yk,zQ] at g1 g2;have t4:((4:Nat):Rat)=tw 2:=by decide +kernel
 have t52:((2^52:Nat):Rat)=tw 52:=(H8 52).symm;rw[t4,t52] at g1 g2;have hs':=Cy hs;have t54:((2^54:Nat):Rat)=tw 54:=(H8 54).symm;rw[t54] at hs';have pr:=DP r;have prr:=yf pr pr;have m1:=zb g1 (za prr);have m2:=zb g2 (za prr);have hS1:tw 54*tw r<=(s:Rat)*tw r:=zb hs' (za pr);generalize hS:(s:Rat)*tw r=S at *
 have q1:S*S*tw 52<=vR b*tw 52+vR b:=by rw[eb,<- hS]; grind
 have q2:vR b*tw 52<=S*S*tw 52+vR b:=by rw[eb,<- hS]; grind
 have hb0:0<=vR b:=by rw[eb];exact zc (H9 n) (za (yf (DP 2) prr))
 have eta1:Ci<=uR*S:=by
  have z1:tw (-657)<=tw r:=UT (by omega);have z2:Ci<=uR*(tw 54*tw (-657)):=by decide +kernel
  have z3:tw 54*tw (-657)<=tw 54*tw r:=zd z1 (za (DP 54));have z4:=H6 (zn z3 hS1);grind
 have hS0:0<=S:=by have:=yf (DP 54) pr;grind
 generalize vR b=B at *
 generalize vR (Cs s r)=R at *
 have h2:Nr R S (2*uR*S):=h1.mono (by grind);have cu:2*uR*tw 52=1:=by decide +kernel
 have u0:=Dc;have p1:=zb q1 (show 0<=2*uR by grind);have p2:=zb q2 (show 0<=2*uR by grind);have k1:S*S*tw 52*(2*uR)=S*S:=by grind
 have k2:(B*tw 52+B)*(2*uR)=(1+2*uR)*B:=by grind
 have k3:B*tw 52*(2*uR)=B:=by grind
 have k4:(S*S*tw 52+B)*(2*uR)=S*S+2*uR*B:=by grind
 rw[k1,k2] at p1;rw[k3,k4] at p2;have e1:S*S<=(1+2*uR)*B:=p1;have e2:(1-2*uR)*B<=S*S:=by grind
 have hu1:0<=1-2*uR:=by decide +kernel
 have a1:R<=(1+2*uR)*S:=by have:=h2.1; grind
 have a2:(1-2*uR)*S<=R:=by have:=h2.2; grind
 have a0:=zc hu1 hS0;have hR0:0<=R:=zn a0 a2;have b1:R*R<=(1+2*uR)*S*((1+2*uR)*S):=H7 hR0 a1;have b2:(1-2*uR)*S*((1-2*uR)*S)<=R*R:=H7 a0 a2;have c1:=zd e1 (show 0<=(1+2*uR)*(1+2*uR) by decide +kernel);have c2:=zd e2 (show 0<=(1-2*uR)*(1-2*uR) by decide +kernel);have d1:(1+2*uR)*(1+2*uR)*(1+2*uR)<=1+8*uR:=by decide +kernel
 have d2:1-8*uR<=(1-2*uR)*(1-2*uR)*(1-2*uR):=by decide +kernel
 have f1:=zb d1 hb0;have f2:=zb d2 hb0;refine⟨?_,hR0,hb0⟩;generalize uR=u at *
 unfold Nr;grind
def sm:Nat->(Nat->Rat)->Rat
 | 0,_=>0
 | n+1,f=>sm n f+f n
theorem BD{f g:Nat->Rat}:∀n,(∀i,i<n->f i=g i)->sm n f=sm n g
 | 0,_=>rfl
 | n+1,h=>by unfold sm;rw[BD n fun i hi=>h i (by omega),h n (by omega)]
theorem Eh(f g:Nat->Rat):∀n,sm n (fun i=>f i+g i)=sm n f+sm n g
 | 0=>by unfold sm; grind
 | n+1=>by unfold sm;rw[Eh f g n]; grind
theorem EG(c:Rat)(f:Nat->Rat):∀n,sm n (fun i=>c*f i)=c*sm n f
 | 0=>by unfold sm; grind
 | n+1=>by unfold sm;rw[EG c f n]; grind
theorem Ja{f g:Nat->Rat}:∀n,(∀i,i<n->f i<=g i)->sm n f<=sm n g
 | 0,_=>zI
 | n+1,h=>by
   unfold sm;have h1:=Ja n fun i hi=>h i (by omega)
   have h2:=h n (by omega);grind
theorem K3{f:Nat->Rat}:∀n,(∀i,i<n->0<=f i)->0<=sm n f
 | 0,_=>zI
 | n+1,h=>by
   unfold sm;have h1:=K3 n fun i hi=>h i (by omega)
   have h2:=h n (by omega);grind
theorem FW(n:Nat):sm n (fun _=>0)=0:=by
 induction n with
 | zero=>rfl
 | succ n ih=>unfold sm; rw[ih]; grind
theorem Pd{n:Nat}{f:Nat->Rat}{k:Nat}(hk:k<n)(h:∀i,i<n->i≠k->f i=0):sm n f=f k:=by
 induction n with
 | zero=>omega
 | succ n ih =>
   unfold sm;by_cases e:k=n
   ·subst e;rw[BD k (g:=fun _=>0) fun i hi=>h i (by omega) (by omega),FW]; grind
   ·rw[ih (by omega) fun i hi=>h i (by omega),h n (by omega) (by omega)]; grind
theorem BS(x:Rat):0<=x*x:=by
 rcases(yT:(0:Rat)<=x\/x<=0) with h | h
 ·exact zc h h
 ·have:=zc (show 0<=-x by grind) (show 0<=-x by grind);grind
theorem GO{x y:Rat}(hy:0<=y)(h:x*x<=y*y):x<=y:=by
 rcases(yT:x<=y\/y<=x) with g | g
 ·exact g
 ·have h1:=H7 hy g;have e:x*x=y*y:=by grind
  have z:(x-y)*(x+y)=0:=by grind
  rcases x7.1 z with k | k
  ·grind
  ·grind
theorem U3{x y:Rat}(hy:0<=y)(h:x*x<=y*y):Ab x y:=by have h1:=GO hy h;have h2:=GO (x:=-x) hy (by grind);unfold Ab; grind
def sq(n:Nat)(f:Nat->Rat):Rat:=sm n fun i=>f i*f i
theorem IA(n:Nat)(f:Nat->Rat):0<=sq n f:=K3 n fun i _=>BS (f i)
theorem cs(f g:Nat->Rat):∀n,sm n (fun i=>f i*g i)*sm n (fun i=>f i*g i)<=sq n f*sq n g
 | 0=>by unfold sq sm; grind
 | n+1=>by
   have ih:=cs f g n;have hF:=IA n f;have hG:=IA n g;unfold sq sm;dsimp only;unfold sq at ih hF hG;generalize sm n (fun i=>f i*g i)=A at *
   generalize sm n (fun i=>f i*f i)=F at *
   generalize sm n (fun i=>g i*g i)=G at *
   generalize f n=a;generalize g n=b;have hP:=zc hF (BS b);have hQ:=zc hG (BS a)
   have hX:A*a*b*(A*a*b)<=F*(b*b)*(G*(a*a)):=by have:=zb ih (zc (BS a) (BS b));grind
   have hd:=BS (F*(b*b)-G*(a*a));have k:2*(A*a*b)<=F*(b*b)+G*(a*a):=GO (by grind) (by grind);grind
def Ln(n:Nat)(f:Nat->Rat)(s:Rat):Prop:=0<=s/\sq n f<=s*s
theorem Ln.mono{n:Nat}{f:Nat->Rat}{s t:Rat}(h:Ln n f s)(g:s<=t):Ln n f t:=⟨zn h.1 g,zn h.2 (H7 h.1 g)⟩
theorem CU{a b c d:Rat}(h1:a<=b)(h2:c<=d)(hb:0<=b)(hc:0<=c):a*c<=b*d:=by have g1:=zb h1 hc;have g2:=zd h2 hb;grind
theorem Ln.dot{n:Nat}{f g:Nat->Rat}{s t:Rat}(h:Ln n f s)(k:Ln n g t):Ab (sm n fun i=>f i*g i) (s*t):=by refine U3 (zc h.1 k.1) ?_;have h1:=cs f g n;have h2:=CU h.2 k.2 (BS s) (IA n g);grind
theorem Ln.congr{n:Nat}{f g:Nat->Rat}{s:Rat}(h:Ln n f s)(e:∀i,i<n->g i=f i):Ln n g s:=by
 refine⟨h.1,?_⟩;have:sq n g=sq n f:=BD n fun i hi=>by rw[e i hi]
 rw[this]; exact h.2
theorem Ln.add{n:Nat}{f g:Nat->Rat}{s t:Rat}(h:Ln n f s)(k:Ln n g t):Ln n (fun i=>f i+g i) (s+t):=by
 have h0:=h.1;have k0:=k.1;refine⟨by grind,?_⟩
 have e:sq n (fun i=>f i+g i)=sq n f+(2*sm n (fun i=>f i*g i)+sq n g):=by unfold sq;rw[<- EG,<- Eh,<- Eh];exact BD n fun i _=>by grind
 have d:=(h.dot k).2;have h2:=h.2;have k2:=k.2;rw[e];grind
theorem Ln.scale{n:Nat}{f:Nat->Rat}{s c B:Rat}(h:Ln n f s)(hc:Ab c B):Ln n (fun i=>c*f i) (B*s):=by
 have hB:=hc.nn;refine⟨zc hB h.1,?_⟩
 have e:sq n (fun i=>c*f i)=c*c*sq n f:=by unfold sq;rw[<- EG];exact BD n fun i _=>by grind
 have c2:c*c<=B*B:=by
  unfold Ab at hc;rcases(yT:(0:Rat)<=c\/c<=0) with g | g
  ·exact H7 g hc.2
  ·have:=H7 (x:=-c) (y:=B) (by grind) (by grind);grind
 have:=CU c2 h.2 (BS B) (IA n f);rw[e];grind
theorem Ln.neg{n:Nat}{f:Nat->Rat}{s:Rat}(h:Ln n f s):Ln n (fun i=>-f i) s:=by
 refine⟨h.1,?_⟩;have e:sq n (fun i=>-f i)=sq n f:=BD n fun i _=>by grind
 rw[e]; exact h.2
theorem Ln.sub{n:Nat}{f g:Nat->Rat}{s t:Rat}(h:Ln n f s)(k:Ln n g t):Ln n (fun i=>f i-g i) (s+t) :=(h.add k.neg).congr fun i _=>by grind
theorem KZ{n k:Nat}{f:Nat->Rat}(hk:k<n)(h:∀i,i<n->0<=f i):f k<=sm n f:=by
 induction n with
 | zero=>omega
 | succ n ih =>
   unfold sm;by_cases e:k=n
   ·subst e;have:=K3 k fun i hi=>h i (by omega)
    grind
   ·have h1:=ih (by omega) fun i hi=>h i (by omega)
    have h2:=h n (by omega);grind
theorem Ln.at{n k:Nat}{f:Nat->Rat}{s:Rat}(h:Ln n f s)(hk:k<n):Ab (f k) s:=by refine U3 h.1 (zn ?_ h.2);exact KZ (f:=fun i=>f i*f i) hk fun i _=>BS (f i)
theorem Ln.zero(n:Nat):Ln n (fun _=>0) 0:=by
 refine⟨zI,?_⟩
 have:sq n (fun _=>0)=0:=by unfold sq;have:=FW n;rw[<- this];exact BD n fun i _=>by grind
 rw[this]; grind
theorem LJ(n:Nat)(c:Rat):sm n (fun _=>c)=(n:Rat)*c:=by
 induction n with
 | zero =>have z:((0:Nat):Rat)=0:=rfl;rw[z]; unfold sm; grind
 | succ n ih =>have e:((n+1:Nat):Rat)=(n:Rat)+1:=yk n 1;unfold sm;rw[ih,e]; grind
theorem Ln.Jk{n:Nat}{f:Nat->Rat}{B:Rat}(hB:0<=B)(h:∀i,i<n->Ab (f i) B)(h9:n<=9):Ln n f (3*B):=by
 refine⟨by grind,?_⟩
 have h1:sq n f<=sm n (fun _=>B*B):=Ja n fun i hi=>by
  have:=h i hi;unfold Ab at this;rcases(yT:(0:Rat)<=f i\/f i<=0) with g | g
  ·exact H7 g this.2
  ·have:=H7 (x:=-f i) (y:=B) (by grind) (by grind);grind
 rw[LJ] at h1;have h2:(n:Rat)<=9:=Cy h9;have:=zb h2 (BS B);grind
theorem LI(f:Nat->Rat):∀n,sm (n+1) f=f 0+sm n (fun i=>f (i+1))
 | 0=>by show(0:Rat)+f 0=f 0+0;grind
 | n+1=>by
   show sm (n+1) f+f (n+1)=f 0+(sm n (fun i=>f (i+1))+f (n+1))
   rw[LI f n]; grind
theorem Hh:uR<=1 / 1000000:=by decide +kernel
theorem Afg{c t q T z t' u e:Rat}(hc:0<=c)(hc2:c<=20)(hT:0<=T)(hz:0<=z)(hu:0<u)(hu2:u<=1 / 1000000)(he:0<e)
 (h1:Nr t T (3*c*u*T+2*c*e)) (h2:Nr q z (u*z+e)) (h3:Nr t' (t+q) (u*(T+3*c*u*T+2*c*e+(z+(u*z+e))))):
 Nr t' (T+z) (3*(c+1)*u*(T+z)+2*(c+1)*e):=by
 have a0:=zc (za hu) hT;have b0:=zc (za hu) hz
 have c1:3*c*u<=1:=by have:=zb hc2 (za hu);grind
 have k1:=zb c1 a0;have k2:=zb (show u<=1 by grind) b0
 have c3:(2*c+1)*u<=1:=by have:=zb hc2 (za hu);grind
 have k3:=zb c3 (za he);have k4:=zc hc b0;unfold Nr at *
 grind
def zR(k x:Int):Rat:=vR (Cl x.toNat k).1
theorem Wz{k:Int}(hk:k<=0):∀(l:Bf) (s t:Nat) (T c:Rat),Bl 1 l->Bm t 2 s->0<t->t+l.length<=100->0<=T->0<=c->c+(l.length:Rat)<=20->Nr (vR s) T (3*c*uR*T+2*c*Ci) ->
 Nr (vR (FX k (s:Int) l).toNat) (T+sm l.length (fun j=>zR k (l.getD j 0)*zR k (l.getD j 0))) (3*(c+(l.length:Rat))*uR*(T+sm l.length (fun j=>zR k (l.getD j 0)*zR k (l.getD j 0)))+2*(c+(l.length:Rat))*Ci)
 | [],s,t,T,c,_,_,_,_,_,_,_,h=>by have z:((([]:Bf).length:Nat):Rat)=0:=rfl;have e:sm ([]:Bf).length (fun j=>zR k (([]:Bf).getD j 0)*zR k (([]:Bf).getD j 0))=0:=rfl;rw[z,e,xG,xG];show Nr (vR (wQ (s:Int))) T _;rw[Ad];exact h
 | x::l,s,t,T,c,hl,hs,h0,ht,hT,hc,hc2,h=>by
   have el:(((x::l).length:Nat):Rat)=(l.length:Rat)+1:=by rw[zj]; exact yk _ 1
   simp only[zj] at ht;rw[el] at hc2 ⊢;have hln:=H9 l.length;have b1:Bd 1 (Cl x.toNat k).1:=Bd.scale (by decide) (hl x AY) (by omega);have b2:Bd 2 (En (Cl x.toNat k).1 (Cl x.toNat k).1).1:=Bd.mul (j:=1) (k:=1) (by decide) b1 b1;have b3:=Bm.add (k:=2) (by omega) (by omega) (by decide) hs b2.bm;have zz:=BS (vR (Cl x.toNat k).1);have m1:=Lf b1.1 b1.2.1 b1.1 b1.2.1 b2.1 (B:=vR (Cl x.toNat k).1*vR (Cl x.toNat k).1) (by unfold Ab; grind);have u0:=Dc;have e0:=Ee
   have m2:=O2 hs.1 hs.2.1 b2.1 b2.2.1 b3.1 (B:=T+3*c*uR*T+2*c*Ci+(vR (Cl x.toNat k).1*vR (Cl x.toNat k).1+(uR*(vR (Cl x.toNat k).1*vR (Cl x.toNat k).1)+Ci))) (by have n1:=h.1;have n2:=h.2;have n3:=m1.1;have n4:=m1.2;have n5:=zc (za u0) zz;have n6:=zc hc (zc (za u0) hT);have n7:=zc hc (za e0);unfold Ab;grind)
   have st:=Afg hc (by grind) hT zz u0 Hh e0 h m1 m2;have ih:=Wz hk l _ (t+1) (T+vR (Cl x.toNat k).1*vR (Cl x.toNat k).1) (c+1) (fun z hz=>hl z (AN _ hz)) b3 (by omega) (by omega) (by grind) (by grind) (by grind) st
   have es:sm (x::l).length (fun j=>zR k ((x::l).getD j 0)*zR k ((x::l).getD j 0))=vR (Cl x.toNat k).1*vR (Cl x.toNat k).1+sm l.length (fun j=>zR k (l.getD j 0)*zR k (l.getD j 0)):=by rw[zj,LI];rfl
   have eq:(FX k (s:Int) (x::l)).toNat=(FX k ((Ef s (En (Cl x.toNat k).1 (Cl x.toNat k).1).1).1:Nat) l).toNat:=by rw[FX];unfold DM C0;rw[Cj,Ad,Ad]
   rw[es,eq];rw[show T+(vR (Cl x.toNat k).1*vR (Cl x.toNat k).1+sm l.length (fun j=>zR k (l.getD j 0)*zR k (l.getD j 0)))=T+vR (Cl x.toNat k).1*vR (Cl x.toNat k).1+sm l.length (fun j=>zR k (l.getD j 0)*zR k (l.getD j 0)) by grind,show c+((l.length:Rat)+1)=c+1+(l.length:Rat) by grind];exact ih
theorem Sh(a:Nat):vR a=Lz (Cd a)*((Ij a:Rat)*tw (-1074)):=by
 have pa:=CO a
 have e:(Ij a:Rat)*tw (-1074)=((By a:Nat):Rat)*tw (B7 a):=by have:=Nd (By a) (B7 a-(-1074)).toNat (B7 a);rw[show B7 a-((B7 a-(-1074)).toNat:Int)=-1074 by omega] at this;exact this
 rw[e];unfold vR;grind
theorem RQ{k a:Nat}(h:Bd k a):Ab (vR a) (tw k):=by
 rw[Sh,Aai (L8 _ _)];have h1:=Cy h.2.2;rw[<- H8] at h1;have h2:=zb h1 (za (DP (-1074)));rw[<- Eu] at h2;have e:((k+1074:Nat):Int)+-1074=k:=by omega
 rw[e] at h2;exact h2
def av(x:Rat):Rat:=if 0<=x then x else -x
theorem DZ(x:Rat):0<=av x:=by unfold av; split<;>grind
theorem G1(x:Rat):Ab x (av x):=by unfold av Ab; split<;>grind
theorem Gd{x B:Rat}(h:Ab x B):av x<=B:=by unfold Ab at h; unfold av; split<;>grind
theorem Ep(x y:Rat):av (x*y)=av x*av y:=by
 unfold av;by_cases hx:0<=x
 ·by_cases hy:0<=y
  ·have:=zc hx hy;rw[Az hx,Az hy,Az this]
  ·have:=zc hx (show 0<=-y by grind);rw[Az hx,Ay hy];split<;>grind
 ·by_cases hy:0<=y
  ·have:=zc (show 0<=-x by grind) hy;rw[Ay hx,Az hy];split<;>grind
  ·have:=zc (show 0<=-x by grind) (show 0<=-y by grind);rw[Ay hx,Ay hy];split<;>grind
theorem GA(x:Rat):av x*av x=x*x:=by unfold av; split<;>grind
theorem HA(x y:Rat):av (x+y)<=av x+av y:=by have h1:=G1 x;have h2:=G1 y;refine Gd ?_;unfold Ab at *; grind
theorem G7{x y d:Rat}:Nr x y d↔av (x-y)<=d:=by unfold Nr av;split<;>constructor<;>intro h<;>grind
theorem Jj{a:Nat}(h:pw 0<=a%2^63):1<=av (vR a):=by
 obtain⟨h1,h2⟩:=LZ h;have m1:=Cy h1;have t:((2^52:Nat):Rat)=tw 52:=(H8 52).symm;rw[t] at m1;have m2:tw (-52)<=tw (B7 a):=UT h2;have m3:=CU m1 m2 (H9 _) (za (DP _));have e:tw 52*tw (-52)=1:=by rw[<- Eu]; exact KW
 rw[e] at m3
 have e2:av (vR a)=((By a:Nat):Rat)*tw (B7 a):=by
  have hn:=L8 (By a) (B7 a);unfold vR Lz;cases Cd a
  ·have e:(if x5=xZ then (-1:Rat) else 1)=1:=rfl;rw[e,wh]; unfold av; rw[Az hn]
  ·have e:(if xZ=xZ then (-1:Rat) else 1)=-1:=rfl;rw[e];unfold av;split<;>grind
 rw[e2];exact m3
theorem Wj{a:Nat}(h:Cd a=x5):0<=vR a:=by unfold vR;rw[h];have hn:=L8 (By a) (B7 a);have e:Lz x5=1:=rfl;rw[e]; grind
theorem PN{f g:Nat->Rat}{d:Rat}:∀n,(∀i,i<n->Nr (f i) (g i) d)->Nr (sm n f) (sm n g) ((n:Rat)*d)
 | 0,_=>by have z:((0:Nat):Rat)=0:=rfl;show Nr 0 0 _;rw[z]; unfold Nr; grind
 | n+1,h=>by
   have ih:=PN n fun i hi=>h i (by omega)
   have h1:=h n (by omega);have e:((n+1:Nat):Rat)=(n:Rat)+1:=yk n 1;show Nr (sm n f+f n) (sm n g+g n) _;rw[e];unfold Nr at *; grind
theorem PL{x y d B:Rat}(h:Nr x y d)(hB:Ab y B)(hd:0<=d):Nr (x*x) (y*y) (d*(2*B+d)):=by
 have e:x*x-y*y=(x-y)*(x+y):=by grind
 rw[G7,e,Ep];have h1:=G7.1 h
 have h2:av (x+y)<=2*B+d:=by
  refine Gd ?_;unfold Nr at h;unfold Ab at *
  grind
 exact CU h1 h2 hd (DZ _)
def rv(l:Bf)(i:Nat):Rat:=vR (l.getD i 0).toNat
theorem Amo{k:Nat}{l:Bf}(h:Bl k l)(i:Nat):Ab (rv l i) (tw k):=RQ (NO h i)
theorem tw1:tw 1=2:=by decide +kernel
theorem Anj:tw (-1)=1 / 2:=by decide +kernel
theorem AfJ{y:Bf}(hy:Bl 1 y)(hl:y.length<=7)(h:∃z∈y,pw 0<=z.toNat%2^63):
 Nr (vR (Cb y).toNat*vR (Cb y).toNat) (sq y.length (rv y)) (40*uR*sq y.length (rv y))/\1<=vR (Cb y).toNat/\1<=sq y.length (rv y):=by
 obtain⟨n1,n2⟩:=AbX hy hl h
 have hm1:1<=sq y.length (rv y):=by
  obtain⟨z,hz,g⟩:=h;obtain⟨j,hj,rfl⟩:=List.mem_iff_getElem.1 hz;have e:rv y j=vR (y[j]).toNat:=by unfold rv; rw[Al,As hj]; rfl
  have h1:=Jj g;rw[<- e] at h1;have h2:=KZ (f:=fun i=>rv y i*rv y i) hj fun i _=>BS _
  have h3:=H7 (x:=1) (y:=av (rv y j)) (by decide) h1;rw[GA] at h3;unfold sq;grind
 have nn:Cd (Cb y).toNat=x5:=ET n2.2;have hv0:=Wj nn
 have hv1:1<=vR (Cb y).toNat:=by
  have nl:(Cb y).toNat<2^63:=by have:=n2.2; rw[Fx] at this; omega
  have:=Jj (a:=(Cb y).toNat) (by rw[Ao nl]; exact n2.1);unfold av at this;rw[Az hv0] at this;exact this
 refine⟨?_,hv1,hm1⟩;have hf:=hy.FU
 have h0:∃z∈y,BH z≠0:=by obtain⟨z,hz,g⟩:=h;refine⟨z,hz,fun k=>?_⟩;have:=Fq (b:=z.toNat) (by unfold BH at k; omega);rw[RY] at g; omega
 obtain⟨b3,b4,ba,hb⟩:=Jz hf
 have hB:pw 0<=Ea (BK y).toNat:=by obtain⟨z,hz,g⟩:=h;exact AP g (hb z hz)
 obtain⟨w,hw,w0,we⟩:=M8 hf h0;have wk:=Lp (Gl hf w hw);have ee:BQ (BK y)=E2 w.toNat:=by unfold BQ; rw[we,Mw w.toNat]; rfl
 obtain⟨x1,_⟩:=Lr wk.1 wk.2 w0;have wm:By w.toNat≠0:=fun e=>w0 ((Da wk.1 wk.2).1 e)
 have u1:=(hy w hw).log wm
 have u2:=(Lo.Po (a:=w.toNat) wk.1 wk.2 (by rw[we] at hB;show pw 0<=Ea w.toNat;unfold Ea at hB ⊢; omega)).log
 have e01:E2 w.toNat=0\/E2 w.toNat=1:=by omega
 have en:Cb y=BX (DQ (FX (-E2 w.toNat) 0 y)) (E2 w.toNat):=by
  unfold Cb
  rw[Ay (fun k=>by
   rcases k with k | k
   ·rw[k] at hB; rw[RY] at hB; revert hB; decide
   ·unfold D5 at k; rw[Jn] at k; simp[b3,b4] at k),ee]
 obtain⟨t,te,t1,t2⟩:=Ng (-E2 w.toNat) y 0 (zo _);have tb:=t2 (.inr ⟨w,hw,by rw[Cj]; exact Pf wk.1 wk.2 w0⟩);have te:FX (-E2 w.toNat) 0 y=t:=te;have z0:vR 0=0:=HZ x5;have hlen:(y.length:Rat)<=7:=Cy hl;have se:=Wz (k:=-E2 w.toNat) (by omega) y 0 1 0 0 hy (Bd.zero x5 2).bm (by decide) (by omega) (zI) (zI) (by grind) (by rw[z0]; unfold Nr; grind);have se:Nr (vR (FX (-E2 w.toNat) 0 y).toNat) _ _:=se;have bm:=QK (k:=-E2 w.toNat) (by omega) y 0 1 hy (Bd.zero x5 2).bm (by decide) (by omega);have bm:Bm (1+y.length) 2 (FX (-E2 w.toNat) 0 y).toNat:=bm;rw[te,Ad] at bm se;rw[te] at en;have bt:Bd (3+3) t:=(bm.bd (j:=3) (by omega)).mono (by decide);have br:Bd 3 (E4 t).1:=Bd.root (by decide) bt (ET tb.2);have hr:=PK bt.1 bt.2.1 (.inl (ET tb.2)) br.1
 have en2:(Cb y).toNat=(Cl (E4 t).1 (E2 w.toNat)).1:=by rw[en,Cj];unfold DQ;rw[Ad,Ad]
 have hsc:=GS (a:=(E4 t).1) (n:=E2 w.toNat) br.1 br.2.1 (by rw[<- en2]; exact n1.1);rw[<- en2] at hsc;have r8:=RQ br;generalize vR (E4 t).1=r at *
 generalize vR (Cb y).toNat=v at *
 have hz:Nr (sm y.length (fun j=>zR (-E2 w.toNat) (y.getD j 0)*zR (-E2 w.toNat) (y.getD j 0))) (sm y.length (fun j=>rv y j*tw (-E2 w.toNat)*(rv y j*tw (-E2 w.toNat)))) ((y.length:Rat)*(Ci*(2*2+Ci))):=PN _ fun i hi=>by
  have hb1:=hy (y.getD i 0) (by rw[Al,As hi]; exact zU hi);have bs:Bd 1 (Cl (y.getD i 0).toNat (-E2 w.toNat)).1:=Bd.scale (by decide) hb1 (by omega);have s1:=GS (n:=-E2 w.toNat) hb1.1 hb1.2.1 bs.1;refine PL (B:=2) s1 ?_ (za Ee);have a1:=RQ hb1;have t1':tw ((1:Nat):Int)=2:=tw1;rw[t1'] at a1;show Ab (vR (y.getD i 0).toNat*tw (-E2 w.toNat)) 2;rcases e01 with e | e
  ·rw[e];have:tw (-0)=1:=KW;rw[this,Rat.mul_one]; exact a1
  ·rw[e,Anj];unfold Ab at *; grind
 have hs2:sm y.length (fun j=>rv y j*tw (-E2 w.toNat)*(rv y j*tw (-E2 w.toNat)))=tw (-E2 w.toNat)*tw (-E2 w.toNat)*sq y.length (rv y):=by unfold sq;rw[<- EG];exact BD _ fun i _=>by grind
 rw[hs2] at hz;generalize sq y.length (rv y)=m at *
 generalize sm y.length (fun j=>zR (-E2 w.toNat) (y.getD j 0)*zR (-E2 w.toNat) (y.getD j 0))=Z at *
 generalize vR t=T at *
 have hn0:=H9 y.length;generalize (y.length:Rat)=n at *
 have u0:=Dc;have e0:=Ee;have es:Ci<=uR / 1000000:=by decide +kernel
 have es2:Ci<=1 / 1000000:=by decide +kernel
 have hK:tw (E2 w.toNat)*tw (-E2 w.toNat)=1:=by rw[<- Eu,show E2 w.toNat+-E2 w.toNat=0 by omega]; exact KW
 have hk2:0<tw (E2 w.toNat)/\tw (E2 w.toNat)<=2:=by
  refine⟨DP _,?_⟩;rcases e01 with e | e
  ·rw[e,KW]; decide
  ·rw[e,tw1]; exact zI
 have t3:tw ((3:Nat):Int)=8:=by decide +kernel
 rw[t3] at r8;generalize tw (E2 w.toNat)=K at *
 generalize tw (-E2 w.toNat)=J at *
 have hr1:Ab (r*K) 16:=by have h1:=CU r8.2 hk2.2 (by decide) (za hk2.1);have h2:=zc hr.2.1 (za hk2.1);unfold Ab; grind
 have s1:=PL hsc hr1 (za e0);have hKK:=zc (za hk2.1) (za hk2.1);have hK4:=CU hk2.2 hk2.2 (by decide) (za hk2.1);have s2:=hr.1.scale hKK;have s3:=se.scale hKK;have s4:=hz.scale hKK
 have c4:J*J*m*(K*K)=m:=by
  have:J*J*m*(K*K)=(K*J)*(K*J)*m:=by grind
  rw[this,hK]; grind
 rw[c4] at s4
 have d1:n*(Ci*(2*2+Ci))*(K*K)<=150*Ci:=by have a1:=CU hlen (show Ci*(2*2+Ci)<=Ci*(501 / 100) from zd (by grind) (za e0)) (by decide) (zc (za e0) (by grind));have a2:=CU a1 hK4 (by grind) hKK;grind
 have s4:=s4.mono d1;have hZ0:0<=Z*(K*K):=by have:=s4.2; grind
 have g1:(3*(0+n)*uR*(0+Z)+2*(0+n)*Ci)*(K*K)<=21*(uR*(Z*(K*K)))+56*Ci:=by have a1:=zb hlen (zc (za u0) hZ0);have a2:=CU (CU hlen (zI:Ci<=Ci) (by decide) (za e0)) hK4 (by grind) hKK;grind
 have s3:=s3.mono g1;rw[Rat.zero_add] at s3;generalize hZ':Z*(K*K)=Z' at *
 generalize hT':T*(K*K)=T' at *
 have s2':Nr (r*r*(K*K)) T' (8*(uR*T')):=s2.mono (by rw[<- hT']; grind);have eR:r*K*(r*K)=r*r*(K*K):=by grind
 rw[eR] at s1;have f1:Z'<=m+m / 1000:=by have:=s4.1; grind
 have f2:=H6 f1
 have f3:uR*(m+m / 1000)<=m / 100000:=by have:=zb Hh (show 0<=m+m / 1000 by grind);grind
 have f4:T'<=m+m / 100:=by have:=s3.1; grind
 have f5:=H6 f4;have f6:uR*(m+m / 1000)=uR*m+uR*m / 1000:=by grind
 have f7:uR*(m+m / 100)=uR*m+uR*m / 100:=by grind
 have f8:uR<=uR*m:=by have:=zd hm1 (za u0);grind
 have s1':Nr (v*v) (r*r*(K*K)) (33*Ci):=s1.mono (by have:=zd (show 2*16+Ci<=33 by grind) (za e0);grind)
 refine((s1'.trans s2').trans (s3.trans s4)).mono ?_;grind
theorem Kw{x y z d:Rat}(h:Nr x y d):av x<=av y+d:=by have h1:=G1 y;refine Gd ?_;unfold Nr at h; unfold Ab at *; grind
theorem Abk{x:Rat}(h:av x=0):x=0:=by unfold av at h; split at h<;>grind
theorem Uy(x:Rat):av (-x)=av x:=by unfold av; split<;>split<;>grind
theorem Zx{x:Rat}(h:0<=x):av x=x:=by unfold av; rw[Az h]
theorem Amx(x:Rat):x<=av x:=(G1 x).2
theorem KI{a b:Rat}(h:b≠0):a / b*b=a:=by grind
theorem Af6{w D d q:Rat}(hD:0<av D)(hd:Nr d D (uR*av D))(hq:q*d=w*D):av (q-w)<=11 / 10*uR*av w:=by
 have u0:=Dc;have us:=Hh;have h1:=G7.1 hd;have aw:=DZ w
 have h2:(1-uR)*av D<=av d:=by have:=Kw (z:=0) hd.symm;grind
 have e:(q-w)*d=w*(D-d):=by grind
 have h3:av (q-w)*av d=av w*av (D-d):=by rw[<- Ep,<- Ep,e]
 have h4:av (D-d)<=uR*av D:=G7.1 hd.symm;have h5:=zd h4 aw;have h6:=zd h2 (DZ (q-w));have h7:av (q-w)*(1-uR)*av D<=av w*uR*av D:=by grind
 have h8:=zS h7 hD;refine zS (c:=1-uR) ?_ (by grind);have h9:(1:Rat)<=11 / 10*(1-uR):=by grind
 have h10:=zb h9 (zc (za u0) aw);grind
section
variable{k:Nat}{y v:Nat->Rat}{μ τ d p:Rat}
structure Ha(k:Nat)(y v:Nat->Rat)(μ τ d p:Rat):Prop where
 k6:k<=6
 v0:v 0=1
 one:1<=av μ
 GI:y 0*μ<=0
 len:Nr (μ*μ) (sq (k+1) y) (40*uR*sq (k+1) y)
 two:∀i,i<=k->Ab (y i) 2
 hd:Nr d (y 0-μ) (uR*av (y 0-μ))
 hp:Nr p (μ-y 0) (uR*av (y 0-μ))
 hv:∀i,i<k->∀q,q*d=y (i+1)->Nr (v (i+1)) q (2*uR*av q+Ci)
 ht:∀q,q*μ=p->Nr τ q (2*uR*av q+Ci)
theorem K2(n:Nat)(f:Nat->Rat):sq (n+1) f=f 0*f 0+sq n (fun i=>f (i+1)):=LI (fun i=>f i*f i) n
theorem Ha.D(h:Ha k y v μ τ d p):av (y 0-μ)=av (y 0)+av μ:=by
 have h1:=h.one;have h2:=h.GI;unfold av at *
 by_cases a:0<=μ
 ·rw[Az a] at h1 ⊢
  have:y 0<=0:=by
   rcases(yT:y 0<=0\/0<=y 0) with g | g
   ·exact g
   ·have:=zd h1 g;grind
  split<;>(try split)<;>grind
 ·rw[Ay a] at h1 ⊢
  have:0<=y 0:=by
   rcases(yT:0<=y 0\/y 0<=0) with g | g
   ·exact g
   ·have:=zd h1 (show 0<=-(y 0) by grind);grind
  split<;>(try split)<;>grind
theorem Ha.XD(h:Ha k y v μ τ d p):0<av (y 0-μ)/\av μ<=av (y 0-μ)/\y 0-μ≠0/\μ≠0:=by
 have h1:=h.one;have h2:=h.D;have h3:=DZ (y 0);refine⟨by grind,by grind,fun e=>?_,fun e=>?_⟩
 ·rw[e] at h2;have:av 0=0:=by decide
  grind
 ·rw[e] at h1;have:av 0=0:=by decide
  grind
def wR(y:Nat->Rat)(μ:Rat)(i:Nat):Rat:=y i / (y 0-μ)
theorem Ha.w(h:Ha k y v μ τ d p)(i:Nat):wR y μ i*(y 0-μ)=y i:=KI h.XD.2.2.1
theorem Ha.vw(h:Ha k y v μ τ d p){i:Nat}(hi:i<k):av (v (i+1)-wR y μ (i+1))<=4*uR*av (wR y μ (i+1))+Ci:=by
 have u0:=Dc;have us:=Hh;have hD:=h.XD.1
 have d0:d≠0:=fun e=>by
  have:=Kw (z:=0) h.hd.symm;rw[e] at this;have z:av 0=0:=by decide
  have:uR*av (y 0-μ)<=1 / 1000000*av (y 0-μ):=zb us (za hD);grind
 have hq:=KI (a:=y (i+1)) d0;have h1:=G7.1 (h.hv i hi _ hq);have h2:=Af6 (w:=wR y μ (i+1)) hD h.hd (by rw[h.w]; exact hq);have aw:=DZ (wR y μ (i+1));generalize y (i+1) / d=q at *
 generalize wR y μ (i+1)=w at *
 have h3:av q<=11 / 10*av w:=by have:=HA w (q-w);rw[show w+(q-w)=q by grind] at this;have:11 / 10*uR*av w<=1 / 10*av w:=zb (by grind) aw;grind
 have h4:=HA (v (i+1)-q) (q-w);rw[show v (i+1)-q+(q-w)=v (i+1)-w by grind] at h4;have h5:=H6 h3;have h6:=zc (za u0) aw;grind
theorem Td{f g d:Nat->Rat}:∀n,(∀i,i<n->Nr (f i) (g i) (d i))->Nr (sm n f) (sm n g) (sm n d)
 | 0,_=>by show Nr 0 0 0;unfold Nr; grind
 | n+1,h=>by
   have ih:=Td n fun i hi=>h i (by omega)
   have h1:=h n (by omega);show Nr (sm n f+f n) (sm n g+g n) (sm n d+d n);unfold Nr at *; grind
def W2(k:Nat)(y:Nat->Rat)(μ:Rat):Rat:=sm k fun i=>wR y μ (i+1)*wR y μ (i+1)
def V2(k:Nat)(v:Nat->Rat):Rat:=sm k fun i=>v (i+1)*v (i+1)
theorem Ha.W(h:Ha k y v μ τ d p):W2 k y μ*((y 0-μ)*(y 0-μ))=sq (k+1) y-y 0*y 0/\0<=W2 k y μ:=by
 refine⟨?_,K3 k fun i _=>BS _⟩;have e:sq (k+1) y-y 0*y 0=sq k (fun i=>y (i+1)):=by rw[K2]; grind
 rw[e];unfold W2 sq;rw[Rat.mul_comm,<- EG];refine BD k fun i _=>?_
 have:=h.w (i+1);generalize wR y μ (i+1)=w at *
 show(y 0-μ)*(y 0-μ)*(w*w)=y (i+1)*y (i+1);rw[<- this];grind
theorem Ha.m2(h:Ha k y v μ τ d p):sq (k+1) y<=(1+41*uR)*(μ*μ)/\0<=sq (k+1) y:=by
 have h0:=IA (k+1) y;refine⟨?_,h0⟩;have h1:=h.len.2;have c:1<=(1+41*uR)*(1-40*uR):=by decide +kernel
 have h2:=zb c h0;have h3:=zd (show(1-40*uR)*sq (k+1) y<=μ*μ by grind) (show 0<=1+41*uR by decide +kernel);grind
theorem Ha.f0(h:Ha k y v μ τ d p):av (y 0)<=101 / 100*av μ/\av (y 0-μ)<=201 / 100*av μ:=by
 have h1:=h.m2.1
 have h2:y 0*y 0<=sq (k+1) y:=by
  rw[K2];have:=IA k fun i=>y (i+1)
  grind
 have a0:=DZ μ
 have h3:av (y 0)<=101 / 100*av μ:=by
  refine GO (by grind) ?_;rw[GA];have e:101 / 100*av μ*(101 / 100*av μ)=101 / 100*(101 / 100)*(μ*μ):=by rw[<- GA μ]; grind
  rw[e];have c:1+41*uR<=101 / 100*(101 / 100):=by decide +kernel
  have:=zb c (BS μ);grind
 refine⟨h3,?_⟩;rw[h.D]; grind
theorem Ha.Wle(h:Ha k y v μ τ d p):W2 k y μ<=1+41*uR:=by
 obtain⟨h1,h2⟩:=h.W;obtain⟨d1,d2,d3,d4⟩:=h.XD;have hDD:=H7 (DZ μ) d2;rw[GA,GA] at hDD;have hm:=h.m2.1;have y0:=BS (y 0);have h3:=zd hDD (show 0<=1+41*uR by decide +kernel)
 have hp:0<(y 0-μ)*(y 0-μ):=by have:=yf d1 d1;rw[GA] at this;exact this
 refine zS (c:=(y 0-μ)*(y 0-μ)) ?_ hp;grind
theorem Ha.wle(h:Ha k y v μ τ d p){i:Nat}(hi:i<=k):av (wR y μ i)<=2:=by
 obtain⟨d1,d2,d3,d4⟩:=h.XD;have h1:=Gd (h.two i hi);have h2:=h.w i;have h3:av (wR y μ i)*av (y 0-μ)=av (y i):=by rw[<- Ep,h2]
 refine zS (c:=av (y 0-μ)) ?_ d1;have:=h.one;grind
theorem AhU{a b e:Rat}(h:av (a-b)<=4*uR*av b+e)(he:0<=e)(he2:e<=1 / 1000000)(hb:av b<=2):Nr (a*a) (b*b) (9*uR*(b*b)+5*e):=by
 have u0:=Dc;have b0:=DZ b;have ub:=zc (za u0) b0;have e1:a*a-b*b=(a-b)*(a+b):=by grind
 have h2:av (a+b)<=2*av b+(4*uR*av b+e):=by
  have:=HA (a-b) (2*b);rw[show a-b+2*b=a+b by grind,Ep] at this;have t:av 2=2:=by decide
  rw[t] at this;grind
 rw[G7,e1,Ep];have h3:=CU h h2 (by grind) (DZ _);have k1:uR*av b<=1 / 1000000*av b:=zb Hh b0;have k2:=zd k1 ub;have k3:=zd (show 2*av b+(4*uR*av b+e)+4*uR*av b<=5 by grind) he;rw[<- GA b];have k4:=zc ub b0;grind
theorem Ha.VW(h:Ha k y v μ τ d p):Nr (V2 k v) (W2 k y μ) (9*uR*W2 k y μ+30*Ci):=by
 have e0:=Ee;have e2:Ci<=1 / 1000000:=by decide +kernel
 have h1:=Td k fun i hi=>AhU (h.vw hi) (za e0) e2 (h.wle (i:=i+1) (by omega))
 refine h1.mono ?_
 have e:sm k (fun i=>9*uR*(wR y μ (i+1)*wR y μ (i+1))+5*Ci)=9*uR*W2 k y μ+(k:Rat)*(5*Ci):=by rw[Eh (fun i=>9*uR*(wR y μ (i+1)*wR y μ (i+1))) (fun _=>5*Ci),EG,LJ];rfl
 rw[e];have hk:(k:Rat)<=6:=Cy h.k6;have:=zb hk (show 0<=5*Ci by grind);grind
def tR(y:Nat->Rat)(μ:Rat):Rat:=-(y 0-μ) / μ
theorem Ha.t(h:Ha k y v μ τ d p):tR y μ*μ=-(y 0-μ):=KI h.XD.2.2.2
theorem Ha.tle(h:Ha k y v μ τ d p):av (tR y μ)<=201 / 100/\av (τ-tR y μ)<=7*uR/\av (tR y μ)*av μ=av (y 0-μ):=by
 have u0:=Dc;have ht:=h.t;have one:=h.one;have hm:0<av μ:=by grind
 have h1:av (tR y μ)*av μ=av (y 0-μ):=by rw[<- Ep,ht,Uy]
 have h2:av (tR y μ)<=201 / 100:=by refine zS (c:=av μ) ?_ hm;rw[h1]; exact h.f0.2
 refine⟨h2,?_,h1⟩;have hq:=KI (a:=p) h.XD.2.2.2;have h3:=G7.1 (h.ht _ hq);generalize p / μ=q at *
 generalize tR y μ=t at *
 have h4:av (q-t)<=uR*av t:=by
  refine zS (c:=av μ) ?_ hm;have e:(q-t)*μ=p-(μ-y 0):=by grind
  have e2:av (q-t)*av μ=av (p-(μ-y 0)):=by rw[<- Ep,e]
  have:=G7.1 h.hp;rw[e2];have e3:uR*av t*av μ=uR*av (y 0-μ):=by rw[<- h1]; grind
  rw[e3]; exact this
 have h5:av q<=av t+uR*av t:=by have:=HA t (q-t);rw[show t+(q-t)=q by grind] at this;grind
 have h6:=HA (τ-q) (q-t);rw[show τ-q+(q-t)=τ-t by grind] at h6;have t0:=DZ t;have k1:=H6 h2;have k2:=H6 h5;have k3:uR*(uR*av t)<=1 / 1000000*(uR*av t):=zb Hh (zc (za u0) t0);have e1:Ci<=uR / 1000000:=by decide +kernel
 grind
theorem Ha.tt(h:Ha k y v μ τ d p):av (tR y μ*(1+W2 k y μ)-2)<=41*uR:=by
 obtain⟨hW,_⟩:=h.W;have ht:=h.t;obtain⟨d1,d2,d3,d4⟩:=h.XD;have one:=h.one;have hm:0<av μ:=by grind
 generalize W2 k y μ=W at *
 generalize tR y μ=t at *
 have e:(t*(1+W)-2)*(μ*(y 0-μ))=-(sq (k+1) y-μ*μ):=by
  have e0:(t*(1+W)-2)*(μ*(y 0-μ))*(y 0-μ)=-(sq (k+1) y-μ*μ)*(y 0-μ):=by grind
  have e1:((t*(1+W)-2)*(μ*(y 0-μ)) - -(sq (k+1) y-μ*μ))*(y 0-μ)=0:=by grind
  rcases x7.1 e1 with g | g
  ·grind
  ·exact absurd g d3
 have e2:av (t*(1+W)-2)*(av μ*av (y 0-μ))=av (sq (k+1) y-μ*μ):=by rw[<- Ep,<- Ep,e,Uy]
 have hl:=G7.1 h.len.symm;have hm2:=h.m2.1;have k1:=zd hm2 (show 0<=40*uR by decide +kernel);have c:40*uR*(1+41*uR)<=41*uR:=by decide +kernel
 have k2:=zb c (BS μ);have k3:=zd d2 (DZ μ);rw[GA] at k3;have k4:=zd k3 (show 0<=41*uR by decide +kernel);refine zS (c:=av μ*av (y 0-μ)) ?_ (yf hm d1);grind
theorem Ha.sqv(h:Ha k y v μ τ d p):sq (k+1) v=1+V2 k v:=by rw[K2,h.v0];unfold V2 sq;grind
theorem Ha.AfO(h:Ha k y v μ τ d p):Nr (τ*sq (k+1) v) 2 (100*uR)/\Ab τ (21 / 10)/\sq (k+1) v<=201 / 100:=by
 have u0:=Dc;have us:=Hh;have e1:Ci<=uR / 1000000:=by decide +kernel
 obtain⟨t1,t2,_⟩:=h.tle;have hVW:=h.VW;have hW:=h.Wle;have hW0:=h.W.2;have htt:=h.tt;rw[h.sqv];have hV:=hVW.1;have k0:uR*W2 k y μ<=2*uR:=zn (H6 hW) (by decide +kernel);have hV2:V2 k v<=101 / 100:=by grind
 refine⟨?_,?_,by grind⟩
 ·rw[G7];have hV0:0<=V2 k v:=K3 k fun i _=>BS _
  generalize W2 k y μ=W at *
  generalize V2 k v=V at *
  generalize tR y μ=t at *
  have a1:av ((τ-t)*(1+V))<=7*uR*(201 / 100):=by
   rw[Ep];have:av (1+V)<=201 / 100:=by rw[Zx (by grind)]; grind
   exact CU t2 this (by grind) (DZ _)
  have a2:av (t*(V-W))<=201 / 100*(20*uR):=by rw[Ep];have:=G7.1 hVW;exact CU t1 (show av (V-W)<=20*uR by grind) (by grind) (DZ _)
  have a3:=HA ((τ-t)*(1+V)+t*(V-W)) (t*(1+W)-2);have a4:=HA ((τ-t)*(1+V)) (t*(V-W));rw[show(τ-t)*(1+V)+t*(V-W)+(t*(1+W)-2)=τ*(1+V)-2 by grind] at a3;grind
 ·have:=HA (tR y μ) (τ-tR y μ);rw[show tR y μ+(τ-tR y μ)=τ by grind] at this;have h2:=G1 τ;unfold Ab at *
  grind
end
theorem Ln.AfI{n:Nat}{f g:Nat->Rat}{s:Rat}(h:∀i,i<n->av (f i)<=g i)(k:Ln n g s):Ln n f s:=by refine⟨k.1,zn (Ja n fun i hi=>?_) k.2⟩;have:=H7 (DZ (f i)) (h i hi);rw[GA] at this;exact this
section
variable{k:Nat}{y v:Nat->Rat}{μ τ d p:Rat}
def gR(k:Nat)(y v:Nat->Rat):Rat:=sm (k+1) fun j=>v j*y j
theorem Ha.g(h:Ha k y v μ τ d p):av (gR k y v+μ)<=46*uR*av μ:=by
 have u0:=Dc;have us:=Hh;have e1:Ci<=uR / 1000000:=by decide +kernel
 have e0:=Ee;obtain⟨d1,d2,d3,d4⟩:=h.XD;have one:=h.one;have a0:=DZ μ;have hm2:=h.m2.1
 have hX:sm k (fun i=>av (wR y μ (i+1))*av (y (i+1)))*av (y 0-μ)=sq (k+1) y-y 0*y 0:=by
  have e:sq (k+1) y-y 0*y 0=sq k (fun i=>y (i+1)):=by rw[K2]; grind
  rw[e];unfold sq;rw[Rat.mul_comm,<- EG];refine BD k fun i _=>?_
  show av (y 0-μ)*(av (wR y μ (i+1))*av (y (i+1)))=y (i+1)*y (i+1);have h2:av (wR y μ (i+1))*av (y 0-μ)=av (y (i+1)):=by rw[<- Ep,h.w]
  rw[<- GA (y (i+1))];generalize av (wR y μ (i+1))=w at *
  rw[<- h2]; grind
 have hX2:sm k (fun i=>av (wR y μ (i+1))*av (y (i+1)))<=101 / 100*av μ:=by
  refine zS (c:=av (y 0-μ)) ?_ d1;rw[hX];have y0:=BS (y 0);have c:1+41*uR<=101 / 100:=by decide +kernel
  have k1:=zb c (BS μ);have k2:=zd d2 a0;rw[GA] at k2;grind
 have hX0:0<=sm k (fun i=>av (wR y μ (i+1))*av (y (i+1))):=K3 k fun i _=>zc (DZ _) (DZ _)
 have hG:Nr (sm k fun i=>v (i+1)*y (i+1)) (sm k fun i=>wR y μ (i+1)*y (i+1)) (4*uR*sm k (fun i=>av (wR y μ (i+1))*av (y (i+1)))+12*Ci):=by
  have h1:=Td (f:=fun i=>v (i+1)*y (i+1)) (g:=fun i=>wR y μ (i+1)*y (i+1)) (d:=fun i=>4*uR*(av (wR y μ (i+1))*av (y (i+1)))+2*Ci) k fun i hi=>by have hv:=h.vw hi;have hy:=Gd (h.two (i+1) (by omega));have y0:=DZ (y (i+1));rw[G7];show av (v (i+1)*y (i+1)-wR y μ (i+1)*y (i+1))<=4*uR*(av (wR y μ (i+1))*av (y (i+1)))+2*Ci;rw[show v (i+1)*y (i+1)-wR y μ (i+1)*y (i+1)=(v (i+1)-wR y μ (i+1))*y (i+1) by grind,Ep];have h3:=zb hv y0;have h4:=zd hy (za e0);grind
  refine h1.mono ?_;rw[Eh (fun i=>4*uR*(av (wR y μ (i+1))*av (y (i+1)))) (fun _=>2*Ci),EG,LJ];have hk:(k:Rat)<=6:=Cy h.k6;have:=zb hk (show 0<=2*Ci by grind);grind
 have hGe:(sm k fun i=>wR y μ (i+1)*y (i+1))*(y 0-μ)=sq (k+1) y-y 0*y 0:=by
  have e:sq (k+1) y-y 0*y 0=sq k (fun i=>y (i+1)):=by rw[K2]; grind
  rw[e];unfold sq;rw[Rat.mul_comm,<- EG];refine BD k fun i _=>?_
  show(y 0-μ)*(wR y μ (i+1)*y (i+1))=y (i+1)*y (i+1);have h2:=h.w (i+1);generalize wR y μ (i+1)=w at *
  rw[<- h2]; grind
 have eg:gR k y v=y 0+sm k fun i=>v (i+1)*y (i+1):=by unfold gR;rw[LI,h.v0]; grind
 rw[eg];generalize (sm k fun i=>v (i+1)*y (i+1))=G at *
 generalize (sm k fun i=>wR y μ (i+1)*y (i+1))=Ge at *
 generalize sm k (fun i=>av (wR y μ (i+1))*av (y (i+1)))=X at *
 have h5:av (y 0+Ge+μ)<=41*uR*av μ:=by
  have e:(y 0+Ge+μ)*(y 0-μ)=sq (k+1) y-μ*μ:=by grind
  have e2:av (y 0+Ge+μ)*av (y 0-μ)=av (sq (k+1) y-μ*μ):=by rw[<- Ep,e]
  have hl:=G7.1 h.len.symm;have hl:av (sq (k+1) y-μ*μ)<=40*uR*sq (k+1) y:=G7.1 h.len.symm;have k1:=zd hm2 (show 0<=40*uR by decide +kernel);have c:40*uR*(1+41*uR)<=41*uR:=by decide +kernel
  have k2:=zb c (BS μ);have k3:=zd d2 a0;rw[GA] at k3;have k4:=zd k3 (show 0<=41*uR by decide +kernel);refine zS (c:=av (y 0-μ)) ?_ d1;grind
 have h6:=G7.1 hG;have h7:=HA (G-Ge) (y 0+Ge+μ);rw[show G-Ge+(y 0+Ge+μ)=y 0+G+μ by grind] at h7;have k5:=H6 hX2
 have k6:uR<=uR*av μ:=by have:=zd one (za u0);grind
 grind
theorem Ha.e(h:Ha k y v μ τ d p):av (y 0-μ-τ*gR k y v)<=104*uR*av μ:=by
 have u0:=Dc;have hg:=h.g;obtain⟨t1,t2,t3⟩:=h.tle;have ht:=h.t;have h2:=Gd h.AfO.2.1;generalize gR k y v=g at *
 have e:y 0-μ-τ*g=(τ-tR y μ)*μ-τ*(g+μ):=by grind
 have h3:=HA ((τ-tR y μ)*μ) (-(τ*(g+μ)));rw[show(τ-tR y μ)*μ+-(τ*(g+μ))=(τ-tR y μ)*μ-τ*(g+μ) by grind,Uy,Ep,Ep] at h3;rw[e];have a0:=DZ μ;have k1:=zb t2 a0;have k2:=CU h2 hg (by grind) (DZ _);have k3:=zc (za u0) a0;grind
theorem Ha.Akr(h:Ha k y v μ τ d p):Ln (k+1) (fun i=>y i-τ*gR k y v*v i-if i=0 then μ else 0) (200*uR*av μ):=by
 have u0:=Dc;have e1:Ci<=uR / 1000000:=by decide +kernel
 have e0:=Ee;have one:=h.one;have a0:=DZ μ;have hE:=h.e;obtain⟨d1,d2,d3,d4⟩:=h.XD;have lv:Ln (k+1) v (3 / 2):=⟨by decide +kernel,zn h.AfO.2.2 (by decide +kernel)⟩
 have ly:Ln (k+1) y (101 / 100*av μ):=by
  refine⟨by grind,?_⟩;have c:1+41*uR<=101 / 100*(101 / 100):=by decide +kernel
  have k1:=zb c (BS μ);have k2:=h.m2.1;have:=GA μ;grind
 have hA:=lv.scale (c:=y 0-μ-τ*gR k y v) (B:=104*uR*av μ) (by have:=G1 (y 0-μ-τ*gR k y v);unfold Ab at *; grind)
 have c1:Ln (k+1) (fun i=>4*uR*av (y i)) (4*uR*(101 / 100*av μ)):=by
  have lav:Ln (k+1) (fun i=>av (y i)) (101 / 100*av μ):=by
   refine⟨ly.1,?_⟩;have e:sq (k+1) (fun i=>av (y i))=sq (k+1) y:=BD _ fun i _=>GA _
   rw[e]; exact ly.2
  exact lav.scale (c:=4*uR) (B:=4*uR) (by unfold Ab; grind)
 have c2:Ln (k+1) (fun _=>Ci*av (y 0-μ)) (3*(Ci*av (y 0-μ))):=by have:=zc (za e0) (DZ (y 0-μ));exact Ln.Jk this (fun i _=>by unfold Ab; grind) (by have:=h.k6; omega)
 have hB:Ln (k+1) (fun i=>if i=0 then 0 else (y 0-μ)*(wR y μ i-v i)) (4*uR*(101 / 100*av μ)+3*(Ci*av (y 0-μ))):=by
  refine Ln.AfI (g:=fun i=>4*uR*av (y i)+Ci*av (y 0-μ)) (fun i hi=>?_) (c1.add c2);cases i with
  | zero =>
    have k1:=zc (za u0) (DZ (y 0));have k2:=zc (za e0) (DZ (y 0-μ));have z:av 0=0:=by decide
    rw[Az rfl,z]; grind
  | succ i =>
    rw[Ay (by omega),Ep];have hv:=h.vw (i:=i) (by omega);have h2:av (wR y μ (i+1))*av (y 0-μ)=av (y (i+1)):=by rw[<- Ep,h.w]
    have h3:av (wR y μ (i+1)-v (i+1))=av (v (i+1)-wR y μ (i+1)):=by rw[<- Uy]; congr 1; grind
    have h4:=zd hv (za d1);rw[h3,<- h2];clear hA c1 c2 lv ly;grind
 have hs:=(hA.add hB).congr (g:=fun i=>y i-τ*gR k y v*v i-if i=0 then μ else 0) fun i hi=>by
  cases i with
  | zero =>rw[Az rfl,Az rfl,h.v0]; grind
  | succ i =>
    rw[Ay (by omega),Ay (by omega)];have:=h.w (i+1);generalize wR y μ (i+1)=w at *
    rw[<- this]; grind
 refine hs.mono ?_;have k1:=zd h.f0.2 (za e0);have k2:=zb e1 a0;have k3:=zc (za u0) a0;grind
end
theorem AhX{a b:Nat}(h:Cd a=!Cd b):vR a*vR b<=0:=by
 have ha:=L8 (By a) (B7 a);have hb:=L8 (By b) (B7 b);have hp:=zc ha hb;unfold vR;rw[h];unfold Lz;cases Cd b
 ·have e1:(if (!x5)=xZ then (-1:Rat) else 1)=-1:=rfl;have e2:(if x5=xZ then (-1:Rat) else 1)=1:=rfl;rw[e1,e2]; grind
 ·have e1:(if (!xZ)=xZ then (-1:Rat) else 1)=1:=rfl;have e2:(if xZ=xZ then (-1:Rat) else 1)=-1:=rfl;rw[e1,e2]; grind
theorem ZI:vR Ty.toNat=1:=by decide +kernel
theorem Afs{n:Nat}{f:Nat->Int}{i:Nat}(hi:i+1<n):rv (GX n f) (i+1)=vR (f (i+1)).toNat:=by unfold rv GX;rw[List.getD_cons_succ,Al,Ba,ym (by omega)];rfl
theorem PS{x:Bf}{e:Int}{i:Nat}(hi:i<x.length):rv (B6 x e) i=vR (Cl (x.getD i 0).toNat e).1:=by unfold rv B6;rw[Al,Ba,Al,As hi];show vR (BX x[i] e).toNat=_;rw[Cj];rfl
theorem Ad5{x:Bf}{k:Nat}(hk:x.length=k+1)(h6:k<=6)(hf:DA x=xZ)(ax:Bp x=xZ)(h:∃z∈x,BH z≠0):
 Ha k (rv (B6 x (-BQ (BK x)))) (rv (Re x)) (vR (L5 x).toNat) (vR (TA x).toNat) (vR (Ej (E9 x) (L5 x)).toNat) (vR (Ej (L5 x) (E9 x)).toNat):=by
 obtain⟨m1,m2,m3,m4⟩:=Y0 hf (by omega) h;obtain⟨f1,f2⟩:=YG hf ax (by omega) h;have sb:=Hl hf;have s1:=Oc hf h;have sl:(B6 x (-BQ (BK x))).length=k+1:=by unfold B6; rw[AO,hk]
 have nv:=AfJ sb (by omega) s1;rw[sl] at nv;have lm:=KV (AfV x)
 have ef:rv (B6 x (-BQ (BK x))) 0=vR (E9 x).toNat:=by rw[PS (by omega)];unfold E9;rw[Cj]
 have fb:Bd 1 (E9 x).toNat:=by
  have:=NO sb 0
  have e:(B6 x (-BQ (BK x))).getD 0 0=E9 x:=by
   unfold B6 E9;cases x with
   | nil=>simp at hk
   | cons a t=>rfl
  rw[e] at this;exact this
 have f64:(E9 x).toNat<2^64:=KV (Gi (JD ax 0));have e1:(Ej (E9 x) (L5 x)).toNat=(O8 (E9 x).toNat (L5 x).toNat).1:=Sq _ _;have e2:(Ej (L5 x) (E9 x)).toNat=(O8 (L5 x).toNat (E9 x).toNat).1:=Sq _ _;refine⟨h6,?_,Jj m3,?_,?_,fun i _=>Amo sb i,?_,?_,fun i hi q hq=>?_,fun q hq=>?_⟩
 ·unfold Re GX rv;rw[List.getD_cons_zero];exact ZI
 ·rw[ef];cases x with
  | nil=>simp at hk
  | cons a t =>
    have ak:=Lp (Gl hf a AY);by_cases k0:BH a=0
    ·have z:vR (E9 (a::t)).toNat=0:=by
      refine Gh ?_;unfold E9;rw[Cj];have k0':Bk a.toNat=0:=by unfold BH at k0; omega
      show Bk (Cl a.toNat _).1=0;unfold Cl;rw[Ay ak.2,Az (.inr k0')];exact k0'
     rw[z]; grind
    ·refine AhX ?_
     have hn:Cd (E9 (a::t)).toNat=Cd (Ec (L5 (a::t)).toNat):=by rw[m4];unfold E9;rw[Cj];show Cd (Cl a.toNat _).1=_;rw[Vm ak.2];unfold Lk;rw[Ay k0];rfl
     rw[hn,(I2 lm).1]
 ·have em:vR (L5 x).toNat*vR (L5 x).toNat=vR (Cb (B6 x (-BQ (BK x)))).toNat*vR (Cb (B6 x (-BQ (BK x)))).toNat:=by
   unfold L5;split
   ·rfl
   ·have e:(C1 (Cb (B6 x (-BQ (BK x))))).toNat=Ec (Cb (B6 x (-BQ (BK x)))).toNat:=Ad _;rw[e,SP (KV (Kd _))];grind
  rw[em];exact nv.1
 ·rw[ef,e1];refine PG lm fb.1 fb.2.1 m1.1 m1.2.1 ?_ (G1 _);rw[<- e1]; exact f1.k3
 ·rw[ef,e2];refine PG (B:=av (vR (E9 x).toNat-vR (L5 x).toNat)) f64 m1.1 m1.2.1 fb.1 fb.2.1 ?_ ?_
  ·rw[<- e2]; exact f2.1
  ·have:=G1 (vR (E9 x).toNat-vR (L5 x).toNat);unfold Ab at *; grind
 ·have er:rv (Re x) (i+1)=vR (KS (Cl (x.getD (i+1) 0).toNat (-BQ (BK x))).1 (Ej (E9 x) (L5 x)).toNat).1:=by unfold Re;rw[Afs (by omega),Lt,Cj]
  rw[PS (by omega)] at hq
  have yb:Bd 1 (Cl (x.getD (i+1) 0).toNat (-BQ (BK x))).1:=by
   have hm:x.getD (i+1) 0∈x:=by rw[Al,As (show i+1<x.length by omega)];exact zU _
   have hb:=sb _ (zh.2 ⟨x.getD (i+1) 0,hm,rfl⟩);rw[Cj] at hb;exact hb
  have vb:=Bd.div (j:=1) (t:=0) (by decide) yb f1;rw[er];exact Xr yb.1 yb.2.1 f1.k3 f1.k4 f1.k0 vb.1 hq (G1 q)
 ·unfold TA;rw[Lt];have tb:=Bd.div (j:=5) (t:=0) (by decide) f2 m2;exact Xr f2.1 f2.2.1 m2.k3 m2.k4 m2.k0 tb.1 hq (G1 q)
end Go.Ck
end
