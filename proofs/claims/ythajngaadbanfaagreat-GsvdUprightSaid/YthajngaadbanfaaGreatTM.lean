/- A verified evaluator of the program's form and its use for this seat: AppW, HouV, FacV, QuoL, S1EqRef11Q, S1PQ, S1PQa, S1PQb, S1PQc, S1EqTame, S1PTame, S1EqLaw23U, S1PLaw23U, FacW, FacX, FacY, FroV, UpV, UpW, UpX, GradV, S1PExaA, S1PExaB, LeaV, LeaW, SvdT, SvdU, SvdV, SvdX, SvdY, SvdZ, SvdP. -/
import Derived.Test.YthajngaadbanfaaGreatTL
import Derived.Test.YthajngaadbanfaaGreatTF
import Derived.Test.YthajngaadbanfaaGreatTE
import Derived.Test.YthajngaadbanfaaGreatTJ
import Derived.Test.YthajngaadbanfaaGreatTI
import Derived.Test.YthajngaadbanfaaGreatTK
set_option linter.unusedVariables false
set_option linter.unusedSimpArgs false
open Option renaming some->wM,none->wN
open Bool renaming true->wc,false->wh
open Int renaming toNat->wi
open List renaming length->wj,getD->vC
open Rat renaming mul_nonneg->zb,le_of_lt->za,mul_le_mul_of_nonneg_right->zc,le_trans->zp,mul_le_mul_of_nonneg_left->zd,natCast_add->yg,le_total->yQ,natCast_mul->zP,mul_pos->z8,le_of_mul_le_mul_right->zQ,not_lt->xq,le_refl->zE
open Nat renaming add_sub_cancel_left->xF
open Int renaming natCast_add->zI,zero_add->yy,sub_zero->x5
open Bool renaming or_eq_true->zH,or_eq_false_iff->yD,or_self->x8
open List renaming length_cons->zj,all_eq_true->zF
noncomputable section
open Go.Proofs.Tryz
namespace Go.Cn
open Go.Den
theorem Aev{c b i:Int}{n m:Nat}{l:Bf}(hm:m<n):rv (BQ c l b i n) m=vR (Dy c l (i+(m:Int)) b).toNat:=by unfold rv BQ;rw[Al,Ba,List.getElem?_range hm];rfl
theorem Vj{c i t b:Int}{l v:Bf}{n j:Nat}{s:Rat}(hn:v.length=n)(h7:n<=7)(hj:j<=900)(al:Bq l=wc)(hl:Bl j l)(hv:Bl 1 v)(ht:Bd 5 t.toNat)
 (vv:sq n (rv v)<=201 / 100) (tb:Ab (vR t.toNat) (21 / 10)) (ha:Ln n (rv (BQ c l b i n)) s):
 Ln n (fun m=>vR (DW (Dy c l (i+(m:Int)) b) (Cx (IU c l i v t b) (v.getD m 0))).toNat-vH n (rv v) (vR t.toNat) (rv (BQ c l b i n)) m) (120*uR*s+100*Cl):=by
 have u0:=Dd;have us:=GL;have e0:=DY;have e1:Cl<=1 / 1000000:=by decide +kernel
 have s0:=ha.1;have us0:=zb (za u0) s0;have ue0:=zb (za u0) (za e0);have uus:uR*(uR*s)<=1 / 1000000*(uR*s):=zc us us0;have ue1:uR*Cl<=1 / 1000000*Cl:=zc us (za e0);have us1:uR*s<=1 / 1000000*s:=zc us s0;have lv:Ln n (rv v) (3 / 2):=⟨by decide +kernel,zp vv (by decide +kernel)⟩
 have sl:(BQ c l b i n).length=n:=Dv _ _ _ _ _;have hsg:Bl j (BQ c l b i n):=S8 hl;have hd:=Wz (j:=1) (k:=j) (x:=v) (y:=BQ c l b i n) (s:=3 / 2) (t:=s) (by omega) (by rw[hn,sl]) (by omega) hv hsg (by rw[hn]; exact lv) (by rw[hn]; exact ha);rw[hn] at hd;have db:=LV (j:=1) (k:=j) (by omega) hv hsg (by omega);have dd:=(lv.dot ha)
 have wb:Bd (j+9) (IU c l i v t b).toNat:=by unfold IU;rw[EZ,hn];exact(Bd.mul (by omega) ht db).mono (by omega)
 have hw:Nr (vR (IU c l i v t b).toNat) (vR t.toNat*vR (EU v (BQ c l b i n)).toNat) (uR*av (vR t.toNat*vR (EU v (BQ c l b i n)).toNat)+Cl):=by
  have e:(IU c l i v t b).toNat=(Ee t.toNat (EU v (BQ c l b i n)).toNat).1:=by unfold IU;rw[EZ,hn]
  rw[e] at wb ⊢;exact KF ht.1 ht.2.1 db.1 db.2.1 wb.1 (Gh _)
 generalize IU c l i v t b=w at *
 have vHe:∀m,vH n (rv v) (vR t.toNat) (rv (BQ c l b i n)) m=rv (BQ c l b i n) m-vR t.toNat*(sm n fun i_1=>rv v i_1*rv (BQ c l b i n) i_1)*rv v m:=fun m=>rfl
 generalize (sm n fun i_1=>rv v i_1*rv (BQ c l b i n) i_1)=D at *
 generalize vR (EU v (BQ c l b i n)).toNat=D' at *
 have d1:=F4 dd;have d2:=JU (z:=0) hd;have t1:=F4 tb;have d3:av D'<=16 / 10*s+15*Cl:=by grind
 have w1:av (vR t.toNat*D')<=34 / 10*s+32*Cl:=by rw[Ef];have:=CM t1 d3 (by decide +kernel) (DK _);grind
 have w2:=JU (z:=0) hw;have w3:=Hi w1;have wW:av (vR w.toNat)<=35 / 10*s+34*Cl:=by grind
 have wD:av (vR w.toNat-vR t.toNat*D)<=71*uR*s+32*Cl:=by have h1:=G2.1 hw;have h2:=G2.1 hd;have h3:=Hm (vR w.toNat-vR t.toNat*D') (vR t.toNat*(D' - D));rw[show vR w.toNat-vR t.toNat*D'+vR t.toNat*(D' - D)=vR w.toNat-vR t.toNat*D by grind,Ef] at h3;have h4:=CM t1 h2 (by decide +kernel) (DK _);grind
 have q1:∀m,av (vR (Cx w (v.getD m 0)).toNat-vR w.toNat*rv v m)<=uR*(35 / 10*s+34*Cl)*av (rv v m)+Cl:=fun m=>by have bv:=OZ hv m;have bq:=Bd.mul (j:=j+9) (k:=1) (by omega) wb bv;have h1:=G2.1 (KF wb.1 wb.2.1 bv.1 bv.2.1 bq.1 (Gh _));rw[EZ];have e:vR (v.getD m 0).toNat=rv v m:=rfl;rw[e,Ef] at h1;have h2:=zc wW (DK (rv v m));have h3:=Hi h2;grind
 have o1:∀m,m<n->av (vR (DW (Dy c l (i+(m:Int)) b) (Cx w (v.getD m 0))).toNat-(rv (BQ c l b i n) m-vR (Cx w (v.getD m 0)).toNat))<=uR*av (rv (BQ c l b i n) m-vR (Cx w (v.getD m 0)).toNat):=fun m hm=>by
  have ba:=Rr (c:=c) (i:=i+(m:Int)) (j:=b) hl
  have bq:Bd (j+10) (Cx w (v.getD m 0)).toNat:=by rw[EZ];exact Bd.mul (j:=j+9) (k:=1) (by omega) wb (OZ hv m)
  have bo:=Bd.sub (k:=j+10) (by omega) (K7 (Fo _ _)) (ba.mono (by omega)) bq;rw[Aev hm,RE];exact G2.1 (RF (K7 (Fo _ _)) ba.1 ba.2.1 bq.1 bq.2.1 bo.1 (Gh _))
 have L1:=lv.scale (c:=vR t.toNat*D-vR w.toNat) (B:=71*uR*s+32*Cl) (by have:=Gh (vR w.toNat-vR t.toNat*D);unfold Ab at *; grind)
 have Lq:Ln n (fun m=>vR (Cx w (v.getD m 0)).toNat-vR w.toNat*rv v m) (uR*(35 / 10*s+34*Cl)*(3 / 2)+3*Cl):=by
  have k1:=lv.avs.scale (c:=uR*(35 / 10*s+34*Cl)) (B:=uR*(35 / 10*s+34*Cl)) (by have:=zb (za u0) (show 0<=35 / 10*s+34*Cl by grind);unfold Ab; grind)
  have k2:Ln n (fun _=>Cl) (3*Cl):=Ln.Ir (za e0) (fun _ _=>by unfold Ab; grind) (by omega);exact Ln.AeN (fun m _=>q1 m) (k1.add k2)
 have La:Ln n (fun m=>rv (BQ c l b i n) m-vR (Cx w (v.getD m 0)).toNat) (s+((35 / 10*s+34*Cl)*(3 / 2)+(uR*(35 / 10*s+34*Cl)*(3 / 2)+3*Cl))):=by
  have k1:=lv.scale (c:=vR w.toNat) (B:=35 / 10*s+34*Cl) (by have:=Gh (vR w.toNat);unfold Ab at *; grind)
  exact(ha.sub (k1.add Lq)).congr fun m _=>by grind
 have Lo:Ln n (fun m=>vR (DW (Dy c l (i+(m:Int)) b) (Cx w (v.getD m 0))).toNat-(rv (BQ c l b i n) m-vR (Cx w (v.getD m 0)).toNat)) (uR*(s+((35 / 10*s+34*Cl)*(3 / 2)+(uR*(35 / 10*s+34*Cl)*(3 / 2)+3*Cl)))) :=Ln.AeN o1 (La.avs.scale (c:=uR) (B:=uR) (by unfold Ab; grind))
 have hs:=((Lo.sub Lq).add L1).congr (g:=fun m=>vR (DW (Dy c l (i+(m:Int)) b) (Cx w (v.getD m 0))).toNat-vH n (rv v) (vR t.toNat) (rv (BQ c l b i n)) m) fun m _=>by rw[vHe]; grind
 refine hs.mono ?_;clear hs Lo La Lq L1 o1 q1 wD wW w3 w2 w1 d3 d2 d1 vHe hw wb dd db hd hsg lv ha hv hl al;have hA:uR*(35 / 10*s+34*Cl)<=35 / 10*(uR*s)+Cl:=by grind
 have hA1:uR*(35 / 10*s+34*Cl)<=s / 1000+Cl:=by grind
 generalize hAA:uR*(35 / 10*s+34*Cl)=A at *
 have hX:s+((35 / 10*s+34*Cl)*(3 / 2)+(A*(3 / 2)+3*Cl))<=7*s+60*Cl:=by grind
 have hX2:=Hi hX;have hX3:uR*(7*s+60*Cl)<=7*(uR*s)+Cl:=by grind
 have h1:(71*uR*s+32*Cl)*(3 / 2)=213 / 2*(uR*s)+48*Cl:=by grind
 rw[h1];have h2:120*uR*s+100*Cl=120*(uR*s)+100*Cl:=by grind
 rw[h2];generalize uR*(s+((35 / 10*s+34*Cl)*(3 / 2)+(A*(3 / 2)+3*Cl)))=X at *
 generalize uR*(7*s+60*Cl)=Y at *
 generalize uR*s=us' at *
 grind
open Go.Den
def vx(j:Nat)(v:Nat->Rat)(i:Nat):Rat:=if i<j then 0 else v (i-j)
theorem V9{j:Nat}{f:Nat->Rat}(h:∀i,i<j->f i=0):∀n,sm (j+n) f=sm n fun m=>f (j+m)
 | 0=>by rw[AQ,BG j (g:=fun _=>0) h,GC];rfl
 | n+1=>by show sm (j+n) f+f (j+n)=sm n (fun m=>f (j+m))+f (j+n);rw[V9 h n]
theorem Ad3(j n:Nat)(v a:Nat->Rat):(sm (j+n) fun i=>vx j v i*a i)=sm n fun m=>v m*a (j+m):=by
 rw[V9 (fun i hi=>by unfold vx; rw[Az hi]; grind)];refine BG n fun m _=>?_
 unfold vx;rw[Ay (by omega),xF]
theorem Ad2(j n:Nat)(v:Nat->Rat):sq (j+n) (vx j v)=sq n v:=by
 unfold sq;rw[Ad3 j n v (vx j v)];refine BG n fun m _=>?_
 unfold vx;rw[Ay (by omega),xF]
theorem Ln.tail{j n:Nat}{f:Nat->Rat}{s:Rat}(h:∀i,i<j->f i=0)(k:Ln n (fun m=>f (j+m)) s):Ln (j+n) f s:=by
 refine⟨k.1,?_⟩;have e:sq (j+n) f=sq n fun m=>f (j+m):=V9 (f:=fun i=>f i*f i) (fun i hi=>by rw[h i hi]; grind) n
 rw[e]; exact k.2
theorem MJ(j:Nat)(f:Nat->Rat):∀n,sm (j+n) f=sm j f+sm n fun m=>f (j+m)
 | 0=>by show sm j f=sm j f+0;grind
 | n+1=>by
   show sm (j+n) f+f (j+n)=sm j f+(sm n (fun m=>f (j+m))+f (j+n))
   rw[MJ j f n]; grind
theorem Ln.behind{j n:Nat}{f:Nat->Rat}{s:Rat}(h:Ln (j+n) f s):Ln n (fun m=>f (j+m)) s:=by
 refine⟨h.1,zp ?_ h.2⟩;unfold sq;rw[MJ j (fun i=>f i*f i) n];have:=On (f:=fun i=>f i*f i) j fun i _=>BX _
 grind
theorem Uj{j n i:Nat}{v a:Nat->Rat}{t:Rat}:vH (j+n) (vx j v) t a i=if i<j then a i else vH n v t (fun m=>a (j+m)) (i-j):=by
 unfold vH;rw[Ad3];by_cases h:i<j
 ·rw[Az h];unfold vx;rw[Az h]; grind
 ·rw[Ay h];unfold vx;rw[Ay h];dsimp only;rw[show j+(i-j)=i by omega]
structure Mi(r:Nat)(v:Nat->Rat)(t:Rat):Prop where
 tt:av (t*(t*sq r v-2))<=220*uR
 tb:Ab t (21 / 10)
 vv:sq r v<=201 / 100
section
variable{r:Nat}{v a:Nat->Rat}{t s:Rat}
theorem Mi.lv(h:Mi r v t):Ln r v (3 / 2):=⟨by decide +kernel,zp h.vv (by decide +kernel)⟩
theorem AdC(b:Nat->Rat):(sm r fun i=>vH r v t a i*vH r v t b i)=(sm r fun i=>a i*b i)+t*(t*sq r v-2)*((sm r fun i=>v i*a i)*sm r fun i=>v i*b i):=by
 unfold vH;generalize hg:(sm r fun j=>v j*a j)=g;generalize hh:(sm r fun j=>v j*b j)=k
 have e:(sm r fun i=>(a i-t*g*v i)*(b i-t*k*v i))=(sm r fun i=>a i*b i)+(-(t*k)*(sm r fun i=>v i*a i)+(-(t*g)*(sm r fun i=>v i*b i)+t*g*(t*k)*sq r v)):=by unfold sq;rw[<- ES,<- ES,<- ES,<- Eo,<- Eo,<- Eo];exact BG r fun i _=>by grind
 rw[e,hg,hh];grind
theorem Vw(h:Mi r v t)(ha:Ln r a s):Ln r (vH r v t a) ((1+250*uR)*s):=by
 have u0:=Dd;have s0:=ha.1;refine⟨zb (by grind) s0,?_⟩;have e:=AdC (r:=r) (v:=v) (t:=t) (a:=a) a;have hd:=h.lv.dot ha
 have h1:av (t*(t*sq r v-2)*((sm r fun i=>v i*a i)*sm r fun i=>v i*a i))<=220*uR*(9 / 4*(s*s)):=by
  have h2:=F4 hd;have h3:=CM h2 h2 (by grind) (DK _);have h4:=CM h.tt h3 (by grind) (by rw[Gg]; exact BX _);generalize (sm r fun i=>v i*a i)=g at *
  generalize t*(t*sq r v-2)=κ at *
  rw[Ef,Ef];grind
 have h4:=Als (t*(t*sq r v-2)*((sm r fun i=>v i*a i)*sm r fun i=>v i*a i));have h5:=ha.2;have uss:=zb (za u0) (BX s);have u2:=zb (za u0) uss;unfold sq at *
 rw[e];grind
theorem Ad8(i:Nat):vH r v t (vH r v t a) i=a i+t*(t*sq r v-2)*(sm r fun j=>v j*a j)*v i:=by
 have e:(sm r fun j=>v j*vH r v t a j)=(sm r fun j=>v j*a j)+-(t*(sm r fun j=>v j*a j))*sq r v:=by
  unfold vH sq;generalize hg:(sm r fun j=>v j*a j)=g;rw[<- hg,hg,<- ES]
  conv=>rhs; rw[<- hg]
  rw[<- Eo];exact BG r fun j _=>by grind
 have e2:vH r v t (vH r v t a) i=vH r v t a i-t*(sm r fun j=>v j*vH r v t a j)*v i:=rfl;have e3:vH r v t a i=a i-t*(sm r fun j=>v j*a j)*v i:=rfl;rw[e2,e,e3];grind
theorem AgD(h:Mi r v t)(ha:Ln r a s):Ln r (fun i=>a i-vH r v t (vH r v t a) i) (500*uR*s):=by
 have u0:=Dd;have s0:=ha.1;have us:=zb (za u0) s0;have hd:=h.lv.dot ha
 have h1:=h.lv.scale (c:=-(t*(t*sq r v-2)*(sm r fun j=>v j*a j))) (B:=220*uR*(3 / 2*s)) (by have h2:=CM h.tt (F4 hd) (by grind) (DK _);rw[<- Ef] at h2;have:=Gh (t*(t*sq r v-2)*sm r fun j=>v j*a j);unfold Ab at *; grind)
 refine(h1.congr fun i _=>?_).mono (by grind);rw[Ad8]; grind
theorem AdA(b:Nat->Rat)(i:Nat):vH r v t (fun j=>a j-b j) i=vH r v t a i-vH r v t b i:=by
 unfold vH
 have e:(sm r fun j=>v j*(a j-b j))=(sm r fun j=>v j*a j)+(-1)*sm r fun j=>v j*b j:=by rw[<- ES,<- Eo];exact BG r fun j _=>by grind
 rw[e]; grind
theorem Ad9(q:Nat->Nat->Rat)(R:Nat->Rat)(i:Nat):∀k,(sm k fun m=>vH r v t (q m) i*R m)=vH r v t (fun i=>sm k fun m=>q m i*R m) i
 | 0=>by
   show(0:Rat)=vH r v t (fun _=>0) i;unfold vH
   have:(sm r fun j=>v j*0)=0:=by rw[BG r (g:=fun _=>0) fun j _=>by grind];exact GC r
   rw[this]; grind
 | k+1=>by have ih:=Ad9 q R i k;show(sm k fun m=>vH r v t (q m) i*R m)+vH r v t (q k) i*R k=vH r v t (fun i=>(sm k fun m=>q m i*R m)+q k i*R k) i;rw[ih];have:=AdB (n:=r) (v:=v) (t:=t) (c:=R k) (a:=q k) (b:=fun i=>sm k fun m=>q m i*R m) i;rw[show(fun i=>(sm k fun m=>q m i*R m)+q k i*R k)=fun j=>R k*q k j+sm k fun m=>q m j*R m from funext fun j=>by grind,this];grind
end
theorem Ajq{r:Nat}{e:Nat->Nat->Rat}{R:Nat->Rat}{x s:Rat}(hx:0<=x){k:Nat}(k9:k<=9)(h:∀m,m<k->Ln r (e m) x)(hR:Ln k R s):Ln r (fun i=>sm k fun m=>e m i*R m) (3*x*s):=by
 have h1:∀j,j<=k->Ln r (fun i=>sm j fun m=>e m i*R m) (x*sm j fun m=>av (R m)):=fun j=>by
  induction j with
  | zero =>
    intro _
    have z:x*(sm 0 fun m=>av (R m))=0:=by show x*0=0;grind
    rw[z];exact Ln.zero r
  | succ j ih =>
    intro hj;have h2:=(h j (by omega)).scale (c:=R j) (B:=av (R j)) (Gh _);have h3:=(ih (by omega)).add h2
    have e1:x*(sm (j+1) fun m=>av (R m))=x*(sm j fun m=>av (R m))+av (R j)*x:=by show x*((sm j fun m=>av (R m))+av (R j))=_;grind
    rw[e1]
    exact h3.congr fun i _=>by show(sm j fun m=>e m i*R m)+e j i*R j=(sm j fun m=>e m i*R m)+R j*e j i;grind
 have h2:(sm k fun m=>av (R m))<=3*s:=by have o:Ln k (fun _=>(1:Rat)) (3*1):=Ln.Ir (by decide) (fun _ _=>by unfold Ab; grind) k9;have:=(o.dot hR.avs).2;rw[BG k (g:=fun m=>av (R m)) fun m _=>by grind] at this;grind
 refine(h1 k (AB k)).mono ?_;have:=zd h2 hx;grind
def cl(c:Nat)(l:Bf)(b i:Nat):Rat:=vR (Dy (c:Int) l (i:Int) (b:Int)).toNat
theorem S7{c b j n m:Nat}{l:Bf}(hm:m<n):rv (BQ (c:Int) l (b:Int) (j:Int) n) m=cl c l b (j+m):=by rw[Aev hm];unfold cl;rw[zI]
theorem QQ{r c:Nat}{l v:Bf}{i k t:Int}{a b:Nat}(ha:a<r)(hb:b<c):Dy (c:Int) (F5 r c l i k v t) (a:Int) (b:Int)=Gv (c:Int) l i k v t (a:Int) (b:Int):=F6 ha hb
theorem NP{r c j a b:Nat}{l:Bf}(ha:a<r)(hb:b<c):Dy (c:Int) (Mu r c l j) (a:Int) (b:Int)=if b=j/\j<=a then (if a=j then (Cm (D5 r c l j)).2.2.1 else 0) else Gv (c:Int) l (j:Int) (j:Int) (Cm (D5 r c l j)).1 (Cm (D5 r c l j)).2.1 (a:Int) (b:Int):=by
 unfold Mu Ns;refine(F6 ha hb).trans ?_;split
 ·rfl
 ·exact QQ ha hb
theorem Ac8{n:Nat}{j:Nat}{x v:Nat->Rat}{t b s:Rat}(h:AjQ n x v t b s):Mi (j+n) (vx j v) t :=⟨by rw[Ad2]; exact h.tt,h.tb,by rw[Ad2]; exact h.vv⟩
section
variable{r c j k b K:Nat}{l:Bf}{s:Rat}
theorem Aeh(hn:j+(k+1)=r)(hr:r<=6)(hj:j<c)(hb:b<c)(al:Bq l=wc)(hK:Bl K l)(hK9:K<=900)(he:(Cm (D5 r c l j)).2.2.2=0)(hz:∀b i:Nat,b<j->b<i->i<r->cl c l b i=0)(hs:Ln r (cl c l b) s):
 Ln r (fun i=>cl c (Mu r c l j) b i-vH r (vx j (rv (Cm (D5 r c l j)).1)) (vR (Cm (D5 r c l j)).2.1.toNat) (cl c l b) i) (205*uR*s+100*Cl):=by
 have u0:=Dd;have e0:=DY;have s0:=hs.1;have us:=zb (za u0) s0;have lc:(D5 r c l j).length=k+1:=by unfold D5; rw[Dv]; omega
 have ac:Bq (D5 r c l j)=wc:=HJ al;have ml:=Lu he;have bc:Bl K (D5 r c l j):=S8 hK;obtain⟨mb1,mb2,mb3⟩:=Aba (by omega) bc ac (by omega) he
 have rc:∀m,m<k+1->rv (D5 r c l j) m=cl c l j (j+m):=fun m hm=>by unfold D5;rw[show r-j=k+1 by omega];exact S7 hm
 have base:AjQ (k+1) (rv (D5 r c l j)) (rv (Cm (D5 r c l j)).1) (vR (Cm (D5 r c l j)).2.1.toNat) (vR (Cm (D5 r c l j)).2.2.1.toNat) (sq (k+1) (rv (D5 r c l j))+1):=by
  refine SZ lc (by omega) ac he ⟨?_,?_⟩
  ·have:=Mn (k+1) (rv (D5 r c l j)); grind
  ·have h0:=Mn (k+1) (rv (D5 r c l j));generalize sq (k+1) (rv (D5 r c l j))=q at *
   have:=BX q;grind
 generalize hv:(Cm (D5 r c l j)).1=v at *
 generalize ht:(Cm (D5 r c l j)).2.1=t at *
 have vl:v.length=k+1:=by omega
 subst hn;by_cases h1:b<j
 ·refine((Ln.zero (j+(k+1))).congr fun i hi=>?_).mono (by grind)
  have e1:cl c (Mu (j+(k+1)) c l j) b i=cl c l b i:=by unfold cl;rw[NP hi hb,Ay (by omega)];unfold Gv;rw[Ay (by omega)]
  rw[e1];unfold vH
  have z:(sm (j+(k+1)) fun m=>vx j (rv v) m*cl c l b m)=0:=by
   rw[Ad3]
   rw[BG (k+1) (g:=fun _=>0) fun m hm=>by rw[hz b (j+m) h1 (by omega) (by omega)]; grind]
   exact GC _
  rw[z]; grind
 by_cases h2:b=j
 ·subst h2;have hsb:=hs.behind;have M:=SZ (s:=s) lc (by omega) ac he (hsb.congr fun m hm=>rc m hm);rw[hv,ht] at M;refine(Ln.tail (s:=205*uR*s+Cl) (fun i hi=>?_) ?_).mono (by grind)
  ·rw[Uj,Az hi];unfold cl;rw[NP (by omega) hb,Ay (by omega)];unfold Gv;rw[Ay (by omega)]; grind
  ·refine M.mir.neg.congr fun m hm=>?_
   rw[Uj,Ay (by omega),xF];have e:vH (k+1) (rv v) (vR t.toNat) (fun m=>cl c l b (b+m)) m=vH (k+1) (rv v) (vR t.toNat) (rv (D5 (b+(k+1)) c l b)) m:=Ph (fun m hm=>(rc m hm).symm) hm;rw[e];unfold cl;rw[NP (by omega) hb,Az ⟨rfl,by omega⟩];by_cases h0:m=0
   ·subst h0;rw[AQ,Az rfl,Az rfl]; grind
   ·rw[Ay (by omega),Ay h0];have z:vR (wi 0)=0:=HB wh;rw[z]; grind
 ·have hsb:=hs.behind;have A:=Vj (c:=(c:Int)) (i:=(j:Int)) (b:=(b:Int)) (t:=t) (s:=s) vl (by omega) hK9 al hK mb1 mb2 base.vv base.tb (hsb.congr fun m hm=>S7 hm);refine(Ln.tail (s:=120*uR*s+100*Cl) (fun i hi=>?_) ?_).mono (by grind)
  ·rw[Uj,Az hi];unfold cl;rw[NP (by omega) hb,Ay (by omega)];unfold Gv;rw[Ay (by omega)]; grind
  ·refine A.congr fun m hm=>?_
   rw[Uj,Ay (by omega),xF];have e:vH (k+1) (rv v) (vR t.toNat) (fun m=>cl c l b (j+m)) m=vH (k+1) (rv v) (vR t.toNat) (rv (BQ (c:Int) l (b:Int) (j:Int) (k+1))) m:=Ph (fun m hm=>(S7 hm).symm) hm;rw[e];unfold cl;rw[NP (by omega) hb,Ay (by omega),hv,ht];unfold Gv;rw[Az (by omega),show(((j+m:Nat):Int)-(j:Int)).toNat=m by omega,zI]
theorem AbT(hj:j<c)(hz:∀b i:Nat,b<j->b<i->i<r->cl c l b i=0):∀b i:Nat,b<j+1->b<i->i<r->cl c (Mu r c l j) b i=0:=by
 intro b i hb hbi hi;unfold cl;rw[NP hi (by omega)];by_cases h:b=j
 ·rw[Az ⟨h,by omega⟩,Ay (by omega)];exact HB wh
 ·rw[Ay (by omega)];unfold Gv;rw[Ay (by omega)];exact hz b i (by omega) hbi hi
end
theorem OA(n:Nat)(f:Nat->Rat):Jt n f=sm n f:=by
 induction n with
 | zero=>rfl
 | succ n ih=>unfold Jt sm; rw[ih]
theorem AbW{f g:Nat->Rat}(n:Nat)(h:∀i,i<n->f i=g i):Jt n f=Jt n g:=by rw[OA,OA]; exact BG n h
theorem Dg.sum{g t m:Nat}{f:Nat->Rat}:∀n,(∀i,i<n->Dg g t m (f i))->Dg g t (n*m) (Jt n f)
 | 0,_=>Dg.zero g t _
 | n+1,h=>by unfold Jt;rw[Nat.succ_mul];exact(Dg.sum n fun i hi=>h i (by omega)).add (h n (by omega))
theorem Dg.O7{g t m n k:Nat}{f:Nat->Rat}(hn:n<=k)(h:∀i,i<n->Dg g t m (f i)):Dg g t (k*m) (Jt n f):=(Dg.sum n h).mono (An _ hn)
theorem Ds.dq{x:Rat}(h:Ds x):Dq x:=by obtain⟨g,t,n,h1,h2,h3,h⟩:=h;exact h.dq (by omega) (by omega) (by omega)
theorem Dg.ds{g t n:Nat}{x:Rat}(h:Dg g t n x)(hg:g<=15000)(ht:t<=15000)(hn:n<=536870912):Ds x:=⟨g,t,n,hg,ht,hn,h⟩
theorem AjG{x:Rat}(h:Ds x):dsB (BB (mQ x)) (Bk (mQ x)) (eQ x)=wc:=Bv.2 ⟨x,h,rfl,rfl,rfl⟩
theorem Abo{n:Bool}{a:Bf}{e:Int}(h:dsB n a e=wc):∃x,Ds x/\n=BB (mQ x)/\a=Bk (mQ x)/\e=eQ x:=Bv.1 h
theorem FX{x:Rat}(h:Dq x):E4 x=x:=Ld h
theorem GV{x:Rat}(h:Dq x):Qi x=wc:=Wy h
theorem Ww{x:Rat}(h:Ds x):dSo x=wc:=AjG h
theorem Dg.wv(x:Int):Dg 1074 2100 1 (I8 x):=Dg.word _ (by decide)
theorem Dg.wv2(x y:Int):Dg 2148 4200 1 (I8 x*I8 y):=(Dg.wv x).mul (Dg.wv y)
end Go.Cn
namespace Go.Proofs.S1
open Go Go.Den Go.Cn Go.Proofs
set_option maxRecDepth 100000
def D3.AlM.q.hint:Nat->Option BK
 | 0=>wM { Da:=[0,2,3,4],Cg:=[],Cv:=[2,3] }
 | _=>wN
def BY.GY.q.hint:Nat->Option BK
 | 0=>wM { Da:=[0,1,4,5,6],Cg:=[],Cv:=[4,5] }
 | _=>wN
def BY.GY.q.E:=Dr (CW [(11,B0.Add.q.Bu),(23,B0.Mul.q.Bu),(38,Cc.Value.q.Bu)]) (fun _=>wh) BY.GY.q.hint (fun _=>wN)
section
variable(N M:Nat)(x y:Bf)(p6:Int)(p5:Bool)(p5_1:Bf)(p5_2:Int)
def BY.GY.q.L0:Option DV:=C6 BY.GY.q.E N f21 (Bw f21) [1,1,0,1,0] [] M ⟨Fp 28 [(0,.Bj .arg .u64 x),(1,.Bj .arg .u64 y),(4,.ptr 4 0 0),(5,.ptr 5 0 0),(6,.int .i64 0)],[(4,wh,.box [.bool wh,.nil,.int .i64 0]),(5,wh,.box [.bool wh,.nil,.int .i64 0])]⟩
def BY.GY.q.L1:Option DV:=C6 BY.GY.q.E N f21 (Bw f21) [1,1,0,1,0] [] M ⟨Fp 28 [(0,.Bj .arg .u64 x),(1,.Bj .arg .u64 y),(4,.ptr 4 0 0),(5,.ptr 5 0 0),(6,.int .i64 p6)],[(4,wh,.box [.bool wh,.nil,.int .i64 0]),(5,wh,.box [.bool p5,.Bj .arg .u32 p5_1,.int .i64 p5_2])]⟩
theorem BY.GY.q.B7:BY.GY.q.L0 N (M+1) x y=cond (BH 0 (wj x:Int)) (bif (decide ((0:Int)<(wj x:Int))) then cond (Br (vC x 0 0)) (bif (decide ((0:Int)<(wj y:Int))) then cond (Br (vC y 0 0)) (bif (Qi (I8 (vC x 0 0))&&Qi (I8 (vC y 0 0))) then cond (Ud wh [] 0&&Qi (E4 (I8 (vC x 0 0))*E4 (I8 (vC y 0 0)))) (BY.GY.q.L1 N M x y 1 (BB (mQ (vQ wh [] 0+E4 (E4 (I8 (vC x 0 0))*E4 (I8 (vC y 0 0)))))) (Bk (mQ (vQ wh [] 0+E4 (E4 (I8 (vC x 0 0))*E4 (I8 (vC y 0 0)))))) (eQ (vQ wh [] 0+E4 (E4 (I8 (vC x 0 0))*E4 (I8 (vC y 0 0)))))) wN else wN) wN else wN) wN else wN) (wM (.agg [.bool wh,.nil,.int .i64 0])) :=Et (ET (CQ (CD _) (CQ (CD _) (CQ (CD _) (CQ (CD _) (CQ (CD _) (CQ (CD _) rfl rfl) rfl) rfl) rfl) rfl) rfl) rfl)
theorem BY.GY.q.CU:BY.GY.q.L1 N (M+1) x y p6 p5 p5_1 p5_2=cond (BH p6 (wj x:Int)) (bif ((decide (0<=p6))&&(decide (p6<(wj x:Int)))) then cond (Br (vC x (wi p6) 0)) (bif ((decide (0<=p6))&&(decide (p6<(wj y:Int)))) then cond (Br (vC y (wi p6) 0)) (bif (Qi (I8 (vC x (wi p6) 0))&&Qi (I8 (vC y (wi p6) 0))) then cond (Ud p5 p5_1 p5_2&&Qi (E4 (I8 (vC x (wi p6) 0))*E4 (I8 (vC y (wi p6) 0)))) (BY.GY.q.L1 N M x y (Bh (p6+1)) (BB (mQ (vQ p5 p5_1 p5_2+E4 (E4 (I8 (vC x (wi p6) 0))*E4 (I8 (vC y (wi p6) 0)))))) (Bk (mQ (vQ p5 p5_1 p5_2+E4 (E4 (I8 (vC x (wi p6) 0))*E4 (I8 (vC y (wi p6) 0)))))) (eQ (vQ p5 p5_1 p5_2+E4 (E4 (I8 (vC x (wi p6) 0))*E4 (I8 (vC y (wi p6) 0)))))) wN else wN) wN else wN) wN else wN) (wM (.agg [.bool p5,.Bj .arg .u32 p5_1,.int .i64 p5_2])) :=Et (ET (CQ (JZ _ _) (CQ (CD _) (CQ (JZ _ _) (CQ (CD _) (CQ (CD _) (CQ (CD _) rfl rfl) rfl) rfl) rfl) rfl) rfl) rfl)
theorem BY.GY.q.ev:Cz BY.GY.q.E N f21 (Bw f21) [.Bj .arg .u64 x,.Bj .arg .u64 y]=
 BY.GY.q.L0 N N x y:=by kernel_rfl
end
def BY.Hp.E:=E0 [(40,Bo.Of.Bu),(11,B0.Add.q.Bu),(43,B0.Compare.q.Bu),(39,B0.Of.q.Bu),(41,B0.Dw.q.Bu)]
theorem BY.Hp.ev(N:Nat)(n:Bool)(a:Bf)(e:Int)(m:Bool)(b:Bf)(f k:Int):Cz BY.Hp.E N f15 (Bw f15) [.agg [.bool n,.Bj .arg .u32 a,.int .i64 e],.agg [.bool m,.Bj .arg .u32 b,.int .i64 f],.int .i64 k]=cond (Ud m b f&&Ci (-2000<=(Bh ((0:Int)-(Bh ((2:Int)*k))))/\(Bh ((0:Int)-(Bh ((2:Int)*k))))<=2000)) (bif (Oy 1) then cond (HD (BB ((1:Int))) (Bk ((1:Int)))&&Ci (-5000<=(-4000:Int)/\(-4000:Int)<=5000)) (bif (Qi (vQ m b f*tw (Bh ((0:Int)-(Bh ((2:Int)*k)))))&&Qi (vQ (BB ((1:Int))) (Bk ((1:Int))) (-4000:Int))) then cond (Ud n a e&&Qi (E4 (vQ m b f*tw (Bh ((0:Int)-(Bh ((2:Int)*k)))))+E4 (vQ (BB ((1:Int))) (Bk ((1:Int))) (-4000:Int)))) (wM (.bool (DT (Aab (vQ n a e) (E4 (E4 (vQ m b f*tw (Bh ((0:Int)-(Bh ((2:Int)*k)))))+E4 (vQ (BB ((1:Int))) (Bk ((1:Int))) (-4000:Int))))) 0))) wN else wN) wN else wN) wN:=by kernel_rfl
open Go Go.Den Go.Cn Go.Proofs
theorem _root_.Go.Cn.Dq.val{x:Rat}(h:Dq x):((mQ x:Int):Rat)*tw (eQ x)=x:=h.parts.1.symm
theorem wq{drops:List Nat}{m m' e e':Int}(h1:m=m')(h2:e=e'):Wk drops (.agg [.bool (BB m),.Bj .arg .u32 (Bk m),.int .i64 e]) (.agg [.bool (BB m'),.Bj .arg .u32 (Bk m'),.int .i64 e']):=by subst h1 h2;exact wdy
theorem ok4{a b c d:Bool}(h1:a=wc)(h2:b=wc)(h3:c=wc)(h4:d=wc):(((a&&b)&&c)&&d)=wc:=by rw[h1,h2,h3,h4]; rfl
theorem B0.Add.q.Bp:B0.Add.q.Kn:=Ev.TP (P:=_) (pre:=B0.Add.pre) (out:=B0.Add.out) B0.Add.Bp [] fun ats h=>by
 unfold B0.Add.q.pre at h;split at h
 ·rename_i n a e m b f;obtain⟨h1,h2⟩:=Bi.1 h;obtain⟨x,hx,rfl,rfl,rfl⟩:=JK h1;obtain⟨y,hy,rfl,rfl,rfl⟩:=JK h2;refine⟨ok4 hx.Rg hy.Rg hx.Ms hy.Ms,?_⟩;have:=Al9 (mQ x) (eQ x) (mQ y) (eQ y);rw[hx.val,hy.val] at this;show Wk [] (DV.agg [.bool (BB (K6 (wv _ _) _ (wv _ _) _)),.Bj .arg .u32 (Bk (K6 (wv _ _) _ (wv _ _) _)),.int .i64 (Y6 (wv _ _) _ (wv _ _) _)]) (DV.agg [.bool (BB (mQ (vQ _ _ _+vQ _ _ _))),.Bj .arg .u32 (Bk (mQ (vQ _ _ _+vQ _ _ _))),.int .i64 (eQ (vQ _ _ _+vQ _ _ _))]);rw[EB,EB,Ld hx,Ld hy];exact wq this.1 this.2
 ·cases h
theorem B0.Sub.q.Bp:B0.Sub.q.Kn:=Ev.TP (P:=_) (pre:=B0.Sub.pre) (out:=B0.Sub.out) B0.Sub.Bp [] fun ats h=>by
 unfold B0.Sub.q.pre at h;split at h
 ·rename_i n a e m b f;obtain⟨h1,h2⟩:=Bi.1 h;obtain⟨x,hx,rfl,rfl,rfl⟩:=JK h1;obtain⟨y,hy,rfl,rfl,rfl⟩:=JK h2;refine⟨ok4 hx.Rg hy.Rg hx.Ms hy.Ms,?_⟩;have:=Al9 (mQ x) (eQ x) (-(mQ y)) (eQ y)
  have e:((mQ x:Int):Rat)*tw (eQ x)+((-(mQ y):Int):Rat)*tw (eQ y)=x-y:=by rw[hx.val,Rat.intCast_neg];have:=hy.val;grind
  rw[e] at this;show Wk [] (DV.agg [.bool (BB (K6 (wv _ _) _ (-(wv _ _)) _)),.Bj .arg .u32 (Bk (K6 (wv _ _) _ (-(wv _ _)) _)),.int .i64 (Y6 (wv _ _) _ (-(wv _ _)) _)]) (DV.agg [.bool (BB (mQ (vQ _ _ _-vQ _ _ _))),.Bj .arg .u32 (Bk (mQ (vQ _ _ _-vQ _ _ _))),.int .i64 (eQ (vQ _ _ _-vQ _ _ _))]);rw[EB,EB,Ld hx,Ld hy];exact wq this.1 this.2
 ·cases h
theorem B0.Mul.q.Bp:B0.Mul.q.Kn:=Ev.TP (P:=_) (pre:=B0.Mul.pre) (out:=B0.Mul.out) B0.Mul.Bp [] fun ats h=>by
 unfold B0.Mul.q.pre at h;split at h
 ·rename_i n a e m b f;obtain⟨h1,h2⟩:=Bi.1 h;obtain⟨x,hx,rfl,rfl,rfl⟩:=JK h1;obtain⟨y,hy,rfl,rfl,rfl⟩:=JK h2;refine⟨show((okM _ _&&okM _ _)&&(Ms _&&Ms _))=wc by rw[hx.okM,hy.okM,hx.Ms,hy.Ms]; rfl,?_⟩;have:=AmK (mQ x) (eQ x) (mQ y) (eQ y);rw[hx.val,hy.val] at this;show Wk [] (DV.agg [.bool (BB (mD (wv _ _*wv _ _))),.Bj .arg .u32 (Bk (mD (wv _ _*wv _ _))),.int .i64 (eD (wv _ _*wv _ _) _)]) (DV.agg [.bool (BB (mQ (vQ _ _ _*vQ _ _ _))),.Bj .arg .u32 (Bk (mQ (vQ _ _ _*vQ _ _ _))),.int .i64 (eQ (vQ _ _ _*vQ _ _ _))]);rw[EB,EB,Ld hx,Ld hy];exact wq this.1 this.2
 ·cases h
theorem B0.Dw.q.Bp:B0.Dw.q.Kn:=Ev.TP (P:=_) (pre:=B0.Dw.pre) (out:=B0.Dw.out) B0.Dw.Bp [] fun ats h=>by
 unfold B0.Dw.q.pre at h;split at h
 ·rename_i n a e k;obtain⟨h1,h2⟩:=Bi.1 h;obtain⟨x,hx,rfl,rfl,rfl⟩:=JK h1;have hk:=Bv.1 h2;have ok:Ms k=wc:=Bv.2 (by omega);refine⟨show((HD _ _&&Ms _)&&Ms _)=wc by rw[hx.HD,hx.Ms,ok]; rfl,?_⟩;have:=Ajk (mQ x) (eQ x+k)
  have e:((mQ x:Int):Rat)*tw (eQ x+k)=x*tw k:=by rw[E5];have:=hx.val;grind
  rw[e] at this;show Wk [] (DV.agg [.bool (BB (mD (wv _ _))),.Bj .arg .u32 (Bk (mD (wv _ _))),.int .i64 (eD (wv _ _) _)]) (DV.agg [.bool (BB (mQ (vQ _ _ _*tw k))),.Bj .arg .u32 (Bk (mQ (vQ _ _ _*tw k))),.int .i64 (eQ (vQ _ _ _*tw k))]);rw[EB,Ld hx];exact wq this.1 this.2
 ·cases h
theorem B0.Compare.q.Bp:B0.Compare.q.Kn:=Ev.TP (P:=_) (pre:=B0.Compare.pre) (out:=B0.Compare.out) B0.Compare.Bp [] fun ats h=>by
 unfold B0.Compare.q.pre at h;split at h
 ·rename_i n a e m b f;obtain⟨h1,h2⟩:=Bi.1 h;obtain⟨x,hx,rfl,rfl,rfl⟩:=JK h1;obtain⟨y,hy,rfl,rfl,rfl⟩:=JK h2;refine⟨ok4 hx.Rg hy.Rg hx.Ms hy.Ms,?_⟩;show Wk [] (DV.int .i64 (R4 (wv _ _) _ (wv _ _) _)) (DV.int .i64 (Aab (vQ _ _ _) (vQ _ _ _)));rw[EB,EB,Ld hx,Ld hy,AmR hx hy];exact .int
 ·cases h
theorem B0.Of.q.Bp:B0.Of.q.Kn:=Ev.TP (P:=_) (pre:=B0.Of.pre) (out:=B0.Of.out) B0.Of.Bp [] fun ats h=>by
 unfold B0.Of.q.pre at h;split at h
 ·rename_i n a e;obtain⟨h1,h2⟩:=Bi.1 h;have hk:=Bv.1 h2;have ok:OK e=wc:=Bv.2 (by omega);refine⟨show(HD _ _&&OK _)=wc by rw[h1,ok]; rfl,?_⟩;have:=Ajk (wv n a) e;show Wk [] (DV.agg [.bool (BB (mD (wv _ _))),.Bj .arg .u32 (Bk (mD (wv _ _))),.int .i64 (eD (wv _ _) _)]) (DV.agg [.bool (BB (mQ (vQ _ _ _))),.Bj .arg .u32 (Bk (mQ (vQ _ _ _))),.int .i64 (eQ (vQ _ _ _))]);exact wq this.1 this.2
 ·cases h
theorem Cc.Value.q.Bp:Cc.Value.q.Kn:=Ev.TP (P:=_) (pre:=Cc.Value.pre) (out:=Cc.Value.out) Cc.Value.Bp [] fun ats h=>by
 unfold Cc.Value.q.pre at h;split at h
 ·rename_i x;refine⟨h,?_⟩;have:=Ajk (Gj x) (BR x)
  have e:((Gj x:Int):Rat)*tw (BR x)=I8 x:=by unfold Gj BR I8 vR;rw[VH]
  rw[e] at this;show Wk [] (DV.agg [.bool (BB (mD (Gj x))),.Bj .arg .u32 (Bk (mD (Gj x))),.int .i64 (eD (Gj x) (BR x))]) (DV.agg [.bool (BB (mQ (I8 x))),.Bj .arg .u32 (Bk (mQ (I8 x))),.int .i64 (eQ (I8 x))]);exact wq this.1 this.2
 ·cases h
theorem P9:mQ 0=0/\eQ 0=0:=by
 have h:(0:Rat)=((0:Int):Rat)*tw 0:=by have:((0:Int):Rat)=0:=rfl;rw[this]; grind
 obtain⟨h1,h2⟩:=UL h;exact⟨h1.trans (KH.2 rfl),h2⟩
theorem Zv:BB (mQ 0)=wh:=by rw[P9.1]; rfl
theorem Wf:Bk (mQ 0)=[]:=by rw[P9.1]; rfl
theorem Abq:Dq 0:=(Dg.zero 0 0 0).dq (by decide) (by decide) (by decide)
theorem Ad7:vQ wh [] 0=0:=by have:=Ld Abq;rw[Zv,Wf,P9.2] at this;exact this
theorem Abt:Ud wh [] 0=wc:=by have:=Wy Abq;rw[Zv,Wf,P9.2] at this;exact this
def dqO(x:Rat):DV:=.agg [.bool (BB (mQ x)),.Bj .arg .u32 (Bk (mQ x)),.int .i64 (eQ x)]
theorem wqO{drops:List Nat}{x:Rat}:Wk drops (dqO x) (dqO x):=wdy
theorem wqN{drops:List Nat}:Wk drops (.agg [.bool wh,.nil,.int .i64 0]) (dqO 0):=by unfold dqO;rw[Zv,Wf,P9.2];exact Wk.GA (.cons .bool (.cons (.nil _ _) (.cons .int .nil)))
theorem AiV{n k:Nat}{f:Nat->Rat}{g t m:Nat}(h:∀i,Dg g t m (f i))(hg:g<=40000)(ht:t<=40000)(hn:n<=k)(hm:k*m<=1073741824):Dq (Jt n f):=(Dg.O7 hn fun i _=>h i).dq hg ht hm
theorem Abr(x:Int):Dq (I8 x):=(Dg.wv x).dq (by decide) (by decide) (by decide)
theorem AfQ(x y:Int):Dq (I8 x*I8 y):=(Dg.wv2 x y).dq (by decide) (by decide) (by decide)
section
variable{x:Bf}(ax:Bq x=wc)(hx:x.length<=64)
include ax hx
end
section
variable{x y:Bf}(ax:Bq x=wc)(ay:Bq y=wc)(hx:x.length<=64)(hy:x.length=y.length)
include ax ay hx hy
theorem AcZ(N:Nat):∀k i F,i+k=x.length->k<F->BY.GY.q.L1 N F x y (i:Int) (BB (mQ (Jt i fun j=>I8 (x.getD j 0)*I8 (y.getD j 0)))) (Bk (mQ (Jt i fun j=>I8 (x.getD j 0)*I8 (y.getD j 0)))) (eQ (Jt i fun j=>I8 (x.getD j 0)*I8 (y.getD j 0)))=wM (dqO (I7 x y)):=by
 intro k
 induction k with
 | zero =>
   intro i F hi hF;obtain⟨F,rfl⟩:∃G,F=G+1:=⟨F-1,by omega⟩
   obtain rfl:i=x.length:=by omega
   rw[BY.GY.q.CU,B8,Ag (by omega),Af];rfl
 | succ k ih =>
   intro i F hi hF;obtain⟨F,rfl⟩:∃G,F=G+1:=⟨F-1,by omega⟩
   have d1:=Abr (x.getD i 0);have d4:=Abr (y.getD i 0);have d2:=AfQ (x.getD i 0) (y.getD i 0);have d3:Dq (Jt i fun j=>I8 (x.getD j 0)*I8 (y.getD j 0)):=AiV (k:=64) (m:=1) (fun j=>Dg.wv2 _ _) (by decide) (by decide) (by omega) (by decide);have e1:(i:Int)+1=((i+1:Nat):Int):=by omega
   have hu:=KQ ax (show i<x.length by omega);have hv:=KQ ay (show i<y.length by omega);rw[BY.GY.q.CU,B8,Ac (show(i:Int)<(x.length:Int) by omega),Ac (show(i:Int)<(y.length:Int) by omega),Ac (show(0:Int)<=(i:Int) by omega),Ad,Bz (by omega) (by omega),e1];simp only[hu,hv,FX d1,FX d2,FX d3,FX d4,GV d1,GV d2,GV d3,GV d4,Ah,Aa];exact ih (i+1) F (by omega) (by omega)
end
theorem ZU(N F:Nat){x y:Bf}(h0:0<x.length)(h1:0<y.length)(ax:Bq x=wc)(ay:Bq y=wc):BY.GY.q.L0 N (F+1) x y=BY.GY.q.L1 N F x y 1 (BB (mQ (0+I8 (x.getD 0 0)*I8 (y.getD 0 0)))) (Bk (mQ (0+I8 (x.getD 0 0)*I8 (y.getD 0 0)))) (eQ (0+I8 (x.getD 0 0)*I8 (y.getD 0 0))):=by have d1:=Abr (x.getD 0 0);have d4:=Abr (y.getD 0 0);have d2:=AfQ (x.getD 0 0) (y.getD 0 0);have hu:=KQ ax h0;have hv:=KQ ay h1;rw[BY.GY.q.B7,B8,Ac (show(0:Int)<(x.length:Int) by omega),Ac (show(0:Int)<(y.length:Int) by omega)];simp only[hu,hv,Ad7,FX d1,FX d2,FX d4,Abt,GV d1,GV d2,GV d4,Ah,Aa]
theorem BY.GY.q.Bp:Kq 21 BY.GY.q.Bu:=E1 BY.GY.q.E Tryz.func21 (kc B0.Add.q.Bp (kc B0.Mul.q.Bp (kc Cc.Value.q.Bp .nil))) fun x y hp=>by
 obtain⟨h1,h⟩:=Bi.1 (show((Bq x&&Bq y)&&Ci (x.length=y.length/\x.length<=64))=wc from hp);obtain⟨ax,ay⟩:=Bi.1 h1;obtain⟨hy,hx⟩:=Bv.1 h;show ∃N dv drops,_=wM dv/\Wk drops dv (dqO (I7 x y));by_cases h0:x.length=0
 ·refine⟨1,.agg [.bool wh,.nil,.int .i64 0],[],?_,?_⟩
  ·rw[BY.GY.q.ev,BY.GY.q.B7,B8,Ag (by omega),Af]
  ·have:I7 x y=0:=by unfold I7; rw[h0]; rfl
   rw[this]; exact wqN
 ·exact⟨66,_,[],(BY.GY.q.ev 66 x y).trans ((ZU 66 65 (by omega) (by omega) ax ay).trans (AcZ ax ay hx hy 66 (x.length-1) 1 65 (by omega) (by omega))),wqO⟩
section
variable{x:Bf}{y:List (List DV)}(ax:Bq x=wc)(hy:Alk y x.length=wc)
include ax hy
end
theorem Ajv{y:Rat}{k:Nat}(h:Ds y)(hk:k<=2000):Dq (y*tw (-(k:Int)))/\Dq (y*tw (-(k:Int))+tw (-4000)):=by obtain⟨g,t,n,h1,h2,h3,h⟩:=h;have s:=h.scale k;refine⟨s.dq (by omega) (by omega) (by omega),?_⟩;have a:=s.up (20000-(g+k));rw[show g+k+(20000-(g+k))=20000 by omega] at a;have b:=(Dg.tw 4000).up 16000;have c:=(a.wide (s:=40000) (by omega)).add (b.wide (s:=40000) (by omega));exact c.dq (by omega) (by omega) (by omega)
theorem BY.Hp.Bp:Kq 15 BY.Hp.Bu:=E1 BY.Hp.E Tryz.func15 (kc Bo.Of.Bp (kc B0.Add.q.Bp (kc B0.Compare.q.Bp (kc B0.Of.q.Bp (kc B0.Dw.q.Bp .nil))))) fun n a e m b f k hp=>by
 obtain⟨h1,h2⟩:=Bi.1 (show((dsB n a e&&dsB m b f)&&Ci (0<=k/\k<=1000))=wc from hp);obtain⟨h3,h4⟩:=Bi.1 h1;obtain⟨x,hx,rfl,rfl,rfl⟩:=Abo h3;obtain⟨y,hy,rfl,rfl,rfl⟩:=Abo h4;have hk:=Bv.1 h2;obtain⟨j,rfl⟩:∃j:Nat,k=j:=⟨k.toNat,by omega⟩
 have dx:=hx.dq;have dy:=hy.dq;obtain⟨l1,l2⟩:=Ajv (k:=2*j) hy (by omega);have ej:(-2*(j:Int))=-((2*j:Nat):Int):=by omega
 have e1:Bh ((0:Int)-Bh ((2:Int)*(j:Int)))=-((2*j:Nat):Int):=by rw[Bz (x:=2*(j:Int)) (by omega) (by omega),Bz (by omega) (by omega)]; omega
 have t4:Dq (tw (-4000)):=(Dg.tw 4000).dq (by decide) (by decide) (by decide)
 have v1:vQ (BB 1) (Bk 1) (-4000)=tw (-4000):=by unfold vQ;rw[EB];have:((1:Int):Rat)=1:=rfl;rw[this]; grind
 refine⟨0,BY.Hp.out [.b (BB (mQ x)),.l (Bk (mQ x)),.i (eQ x),.b (BB (mQ y)),.l (Bk (mQ y)),.i (eQ y),.i (j:Int)],[],?_,.bool⟩;show _=wM (DV.bool (decide (vQ (BB (mQ x)) (Bk (mQ x)) (eQ x)<=vQ (BB (mQ y)) (Bk (mQ y)) (eQ y)*tw (-2*(j:Int))+tw (-4000))));have i1:Oy (1:Int)=wc:=Bv.2 (by decide);have w1:HD (BB (1:Int)) (Bk (1:Int))=wc:=Gq (by decide);have c1:Ci (-5000<=(-4000:Int)/\(-4000:Int)<=5000)=wc:=Bv.2 (by decide);have c2:Ci (-2000<=-((2*j:Nat):Int)/\-((2*j:Nat):Int)<=2000)=wc:=Bv.2 (by omega);rw[BY.Hp.ev,e1,ej];simp only[FX dx,FX dy,v1,FX l1,FX l2,FX t4,GV dx,GV dy,GV l1,GV l2,GV t4,i1,w1,c1,c2,Ah,Aa,Ei];congr 2;exact decide_eq_decide.2 (AhX _ _)
section
variable{C K:Nat}{l m h:Bf}
theorem LF{R:Nat}(hl:l.length=R*C){i:Nat}(hi:i<R):(JB (C:Int) l (i:Int)).length=C:=by rw[Xy hl hi,AO,AL]
theorem Xu{b n j:Nat}(hj:j<n):(BQ (K:Int) m (b:Int) 0 n).getD j 0=Dy (K:Int) m (j:Int) (b:Int):=by rw[AgZ hj,yy]
end
section
variable{R C K:Nat}{l m h:Bf}(r6:R<=6)(c6:C<=6)(k6:K<=6)(hl:l.length=R*C)(hm:m.length=C*K)(hh:h.length=R*K)(al:Bq l=wc)(am:Bq m=wc)(ah:Bq h=wc)
include r6 c6 k6 hl hm hh al am ah
omit hh am ah in
omit hh am ah in
end
section
variable{R C K:Nat}{l m h:Bf}
end
section
variable{R C K:Nat}{l m h:Bf}(r6:R<=6)(c6:C<=6)(k6:K<=6)(hl:l.length=R*C)(hm:m.length=C*K)(hh:h.length=R*K)(al:Bq l=wc)(am:Bq m=wc)(ah:Bq h=wc)
include r6 c6 k6 hl hm hh al am ah
end
set_option maxRecDepth 100000
def D3.FR.hint:Nat->Option BK
 | 0=>wM { Da:=[0,1,5],Cg:=[],Cv:=[] }
 | _=>wN
def D3.FR.E:=Dr (CW [(114,Cc.Finite.Bu),(58,Cc.Kind.Bu),(92,Ke.M7.Bu)]) (fun _=>wh) D3.FR.hint (fun _=>wN)
section
variable(N M:Nat)(x:Bf)(k p5:Int)
def D3.FR.L0:Option DV:=C6 D3.FR.E N f91 (Bw f91) [1,0,1,0] [] M ⟨Fp 43 [(0,.Bj .arg .u64 x),(1,.int .i64 k),(5,.int .i64 p5)],[]⟩
theorem D3.FR.B7:D3.FR.L0 N (M+1) x k p5=cond (BH p5 (wj x:Int)) (bif ((decide (0<=p5))&&(decide (p5<(wj x:Int)))) then cond (Br (vC x (wi p5) 0)) (bif (!(Du (vC x (wi p5) 0))) then wM (.bool wh) else bif ((decide (0<=p5))&&(decide (p5<(wj x:Int)))) then cond (MW (vC x (wi p5) 0)) (bif ((!((BF (vC x (wi p5) 0)) !=(0:Int)))||((decide (0<=p5))&&(decide (p5<(wj x:Int))))) then cond ((!((BF (vC x (wi p5) 0)) !=(0:Int)))||(Br (vC x (wi p5) 0))) (bif ((!(((BF (vC x (wi p5) 0)) !=(0:Int))&&(!(BH (BO (vC x (wi p5) 0)) (Bh ((0:Int)-k))))))||((decide (0<=p5))&&(decide (p5<(wj x:Int))))) then cond ((!(((BF (vC x (wi p5) 0)) !=(0:Int))&&(!(BH (BO (vC x (wi p5) 0)) (Bh ((0:Int)-k))))))||(Br (vC x (wi p5) 0))) (bif (((BF (vC x (wi p5) 0)) !=(0:Int))&&((BH (BO (vC x (wi p5) 0)) (Bh ((0:Int)-k)))||(DT k (BO (vC x (wi p5) 0))))) then wM (.bool wh) else D3.FR.L0 N M x k (Bh (p5+1))) wN else wN) wN else wN) wN else wN) wN else wN) (wM (.bool wc)) :=Et (ET (ET (ET (ET rfl (ET (ET (B4 (M3 ((BF (vC x (wi p5) 0)) !=(0:Int))) (B4 (M3 ((BF (vC x (wi p5) 0)) !=(0:Int))) (CQ (AkD _ _ _) (B4 (J7 ((BF (vC x (wi p5) 0)) !=(0:Int))) (CQ (AkA _ _) (B4 (M3 ((BF (vC x (wi p5) 0)) !=(0:Int))) (B4 (J7 ((BF (vC x (wi p5) 0)) !=(0:Int))) (B4 (AbK ((BF (vC x (wi p5) 0)) !=(0:Int))) (B4 (J7 ((BF (vC x (wi p5) 0)) !=(0:Int))) (B4 (AdZ ((BF (vC x (wi p5) 0)) !=(0:Int)) (BH (BO (vC x (wi p5) 0)) (Bh ((0:Int)-k)))) (B4 (AdZ ((BF (vC x (wi p5) 0)) !=(0:Int)) (BH (BO (vC x (wi p5) 0)) (Bh ((0:Int)-k)))) (CQ (Amn _ _ _ _) (B4 (AkT ((BF (vC x (wi p5) 0)) !=(0:Int)) (BH (BO (vC x (wi p5) 0)) (Bh ((0:Int)-k)))) (CQ (Amo _ _ _) (B4 (AdZ ((BF (vC x (wi p5) 0)) !=(0:Int)) (BH (BO (vC x (wi p5) 0)) (Bh ((0:Int)-k)))) (B4 (AkS ((BF (vC x (wi p5) 0)) !=(0:Int)) (BH (BO (vC x (wi p5) 0)) (Bh ((0:Int)-k)))) (B4 (AkW ((BF (vC x (wi p5) 0)) !=(0:Int)) (BH (BO (vC x (wi p5) 0)) (Bh ((0:Int)-k)))) (B4 (Qk ((BF (vC x (wi p5) 0)) !=(0:Int))) (CQ (Amp _ _ _) rfl rfl))))) rfl)) rfl))))))) rfl)) rfl))) rfl) rfl)) rfl) rfl) rfl)
theorem D3.FR.ev:Cz D3.FR.E N f91 (Bw f91) [.Bj .arg .u64 x,.int .i64 k]=
 D3.FR.L0 N N x k 0:=by kernel_rfl
end
def BY.FR.E:=E0 [(91,D3.FR.Bu),(90,De.IC.Bu)]
theorem BY.FR.ev(N:Nat)(r c:Int)(l:Bf)(k:Int):Cz BY.FR.E N f34 (Bw f34) [.agg [.int .i64 r,.int .i64 c,.Bj .arg .u64 l],.int .i64 k]=cond ((!(BD r c l))||(Cw l&&Ci (0<=k/\k<=1000))) (wM (.bool (cond (BD r c l) (G1 l k) wh))) wN :=Et (B4 (M3 (BD r c l)) (B4 (J7 (BD r c l)) (B4 (M3 (BD r c l)) (CQ (Amm _ _) (B4 (Qk (BD r c l)) rfl) rfl))))
theorem AbN{k b:Int}(hk:0<=k/\k<=1000):((BF b !=(0:Int))&&((BH (BO b) (Bh ((0:Int)-k)))||(DT k (BO b))))=!(decide (BF b=0)||(decide (-k<=BO b)&&decide (BO b<k))):=by rw[Bz (by omega) (by omega),B8,Ei,Ar];simp only[Am,zH,Bool.not_eq_true',yD,Bool.and_eq_false_iff,Ai,Av,bne_iff_ne,ne_eq];omega
theorem AbM(N:Nat){x:Bf}(ax:Bq x=wc)(hx:x.length<4611686018427387904){k:Int}(hk:0<=k/\k<=1000):∀(t d:Bf) (F:Nat),x=d++t->t.length<F ->
 D3.FR.L0 N F x k (d.length:Int)=wM (.bool (t.all (Xd k))):=by
 intro t
 induction t with
 | nil =>
   intro d F hy hF;obtain⟨F,rfl⟩:∃G,F=G+1:=⟨F-1,by omega⟩
   rw[List.append_nil] at hy;subst hy;rw[D3.FR.B7,B8,Ag (by omega),Af];rfl
 | cons b t ih =>
   intro d F hy hF;obtain⟨F,rfl⟩:∃G,F=G+1:=⟨F-1,by omega⟩
   have hl:d.length<x.length:=by rw[hy,A8,zj]; omega
   have hb:vC x d.length 0=b:=by rw[hy,Al,AX (AB _),Nat.sub_self]; rfl
   have ib:Br b=wc:=by rw[<- hb]; exact KQ ax hl
   obtain⟨n,hn,_⟩:=C3 ib;have nb:MW b=wc:=by rw[hn]; exact MV n
   rw[D3.FR.B7,B8,Ac (show(d.length:Int)<(x.length:Int) by omega),Ac (show(0:Int)<=(d.length:Int) by omega),Ad,hb,ib,nb,AbN hk];simp only[Aa,Ah,AV];show(cond (!Du b) (wM (DV.bool wh)) _)=wM (DV.bool ((Du b&&(decide (BF b=0)||(decide (-k<=BO b)&&decide (BO b<k))))&&t.all (Xd k)));cases Du b with
   | false=>rfl
   | true =>
     rw[AH,Af,AW];cases (decide (BF b=0)||(decide (-k<=BO b)&&decide (BO b<k))) with
     | false=>rfl
     | true =>have:=ih (d++[b]) F (by rw[hy,List.append_assoc]; rfl) (by simp only[zj] at hF; omega);rw[A8] at this;rw[AH,Af,AW,Bz (by omega) (by omega)];exact this
theorem D3.FR.Bp:Kq 91 D3.FR.Bu:=E1 D3.FR.E Tryz.func91 (kc Cc.Finite.Bp (kc Cc.Kind.Bp (kc Ke.M7.Bp .nil))) fun x k hp=>by obtain⟨ox,hk⟩:=Bi.1 (show(Cw x&&Ci (0<=k/\k<=1000))=wc from hp);refine⟨x.length+1,.bool (G1 x k),[],?_,.bool⟩;rw[D3.FR.ev];exact AbM (x.length+1) (Vm ox) (Bv.1 ox).1 (Bv.1 hk) x [] (x.length+1) rfl (by omega)
theorem BY.FR.Bp:Kq 34 BY.FR.Bu:=E1 BY.FR.E Tryz.func34 (kc D3.FR.Bp (kc De.IC.Bp .nil)) fun r c l k hp=>by
 obtain⟨al,hk⟩:=Bi.1 (show(Bq l&&Ci (0<=k/\k<=1000))=wc from hp);refine⟨0,.bool (BD r c l&&G1 l k),[],?_,.bool⟩;rw[BY.FR.ev,hk];cases hr:BD r c l with
 | false=>rfl
 | true =>rw[FO al (by have:=Ll hr; omega)];rfl
def BS.unit.GN:List (Nat × Ew):=[(40,Bo.Of.Bu),(39,B0.Of.q.Bu)]
def BS.unit.E:Env:=Dr (CW BS.unit.GN) (fun _=>wh) (fun _=>wN) (fun _=>wN)
theorem BS.unit.ev(N:Nat):Cz BS.unit.E N f18 (Bw f18) []=cond (Oy 1) (bif (HD (BB ((1:Int))) (Bk ((1:Int)))&&Ci (-5000<=(0:Int)/\(0:Int)<=5000)) then wM (.agg [.bool (BB (mQ (vQ (BB ((1:Int))) (Bk ((1:Int))) 0))),.Bj .arg .u32 (Bk (mQ (vQ (BB ((1:Int))) (Bk ((1:Int))) 0))),.int .i64 (eQ (vQ (BB ((1:Int))) (Bk ((1:Int))) 0))]) else wN) wN:=by kernel_rfl
abbrev BS.unit.Kn:=Ev prog 18 BS.unit.Bu
theorem BS.unit.D9(hk:Fe prog BS.unit.GN)(h:Unit->Hyp BS.unit.E f18 BS.unit.ts BS.unit.pre BS.unit.out):BS.unit.Kn :=Gc (IQ hk _ _ _) func18 (by kernel_rfl) (by kernel_rfl) (h ())
def BY.BZ.hint:Nat->Option BK
 | 0=>wM { Da:=[1,2,3,4],Cg:=[],Cv:=[1,2,3] }
 | 2=>wM { Da:=[1,2,3,4,5],Cg:=[],Cv:=[1,2,3] }
 | _=>wN
def BY.BZ.E:=Dr (CW [(40,Bo.Of.Bu),(11,B0.Add.q.Bu),(23,B0.Mul.q.Bu),(39,B0.Of.q.Bu),(56,B0.Sub.q.Bu),(22,De.Qj.Bu),(21,BY.GY.q.Bu)]) (fun _=>wh) BY.BZ.hint (fun _=>wN)
section
variable(N M0 M:Nat)(r c:Int)(l:Bf)(p4_3:Int)(p3_3:Bool)(p3_4:Bf)(p3_5 p5:Int)(p3:Bool)(p3_1:Bf)(p3_2 p4_1 p4_2 p4:Int)
def BY.BZ.L0:Option DV:=C6 BY.BZ.E N f20 (Bw f20) [1,1,0,1,0] [] M ⟨Fp 40 [(1,.ptr 1 0 0),(2,.ptr 2 0 0),(3,.ptr 3 0 0),(4,.int .i64 p4)],[(1,wh,.box [.int .i64 r,.int .i64 c,.Bj .arg .u64 l]),(2,wh,.box [.bool wh,.nil,.int .i64 0]),(3,wh,.box [.bool wh,.nil,.int .i64 0])]⟩
def BY.BZ.L1:Option DV:=C6 BY.BZ.E N f20 (Bw f20) [1,1,0,1,0,0,1,0,0,1,0] [M0] M ⟨Fp 40 [(1,.ptr 1 0 0),(2,.ptr 2 0 0),(3,.ptr 3 0 0),(4,.int .i64 p4_2),(5,.int .i64 0)],[(1,wh,.box [.int .i64 r,.int .i64 c,.Bj .arg .u64 l]),(2,wh,.box [.bool wh,.nil,.int .i64 0]),(3,wh,.box [.bool wh,.nil,.int .i64 0])]⟩
def BY.BZ.L2:Option DV:=C6 BY.BZ.E N f20 (Bw f20) [1,1,0,1,0,0,1,0,0,1,0] [M0] M ⟨Fp 40 [(1,.ptr 1 0 0),(2,.ptr 2 0 0),(3,.ptr 3 0 0),(4,.int .i64 p4_1),(5,.int .i64 p5)],[(1,wh,.box [.int .i64 r,.int .i64 c,.Bj .arg .u64 l]),(2,wh,.box [.bool wh,.nil,.int .i64 0]),(3,wh,.box [.bool p3,.Bj .arg .u32 p3_1,.int .i64 p3_2])]⟩
def BY.BZ.L3:Option DV:=C6 BY.BZ.E N f20 (Bw f20) [1,1,0,1,0] [] M ⟨Fp 40 [(1,.ptr 1 0 0),(2,.ptr 2 0 0),(3,.ptr 3 0 0),(4,.int .i64 p4_3)],[(1,wh,.box [.int .i64 r,.int .i64 c,.Bj .arg .u64 l]),(2,wh,.box [.bool wh,.nil,.int .i64 0]),(3,wh,.box [.bool p3_3,.Bj .arg .u32 p3_4,.int .i64 p3_5])]⟩
theorem BY.BZ.B7:BY.BZ.L0 N (M+1) r c l p4=cond (BH p4 c) (BY.BZ.L1 N M N r c l p4) (wM (.agg [.bool wh,.nil,.int .i64 0])):=by kernel_rfl
theorem BY.BZ.CU:BY.BZ.L1 N M0 (M+1) r c l p4_2=cond (BH 0 c) (bif (EG r c l p4_2&&Ci (0<=(0:Int)/\(0:Int)<=r)) then cond (EG r c l 0&&Ci (0<=(0:Int)/\(0:Int)<=r)) (bif ((Bq (BQ c l p4_2 0 (wi (r-0)))&&Bq (BQ c l 0 0 (wi (r-0))))&&Ci (wj (BQ c l p4_2 0 (wi (r-0)))=wj (BQ c l 0 0 (wi (r-0)))/\wj (BQ c l p4_2 0 (wi (r-0)))<=64)) then cond (p4_2==(0:Int)) (bif (Oy 1) then cond (HD (BB ((1:Int))) (Bk ((1:Int)))&&Ci (-5000<=(0:Int)/\(0:Int)<=5000)) (bif (Qi (I7 (BQ c l p4_2 0 (wi (r-0))) (BQ c l 0 0 (wi (r-0))))&&Qi (vQ (BB ((1:Int))) (Bk ((1:Int))) 0)) then cond (Qi (E4 (I7 (BQ c l p4_2 0 (wi (r-0))) (BQ c l 0 0 (wi (r-0))))-E4 (vQ (BB ((1:Int))) (Bk ((1:Int))) 0))&&Qi (E4 (I7 (BQ c l p4_2 0 (wi (r-0))) (BQ c l 0 0 (wi (r-0))))-E4 (vQ (BB ((1:Int))) (Bk ((1:Int))) 0))) (bif (Ud wh [] 0&&Qi (E4 (E4 (I7 (BQ c l p4_2 0 (wi (r-0))) (BQ c l 0 0 (wi (r-0))))-E4 (vQ (BB ((1:Int))) (Bk ((1:Int))) 0))*E4 (E4 (I7 (BQ c l p4_2 0 (wi (r-0))) (BQ c l 0 0 (wi (r-0))))-E4 (vQ (BB ((1:Int))) (Bk ((1:Int))) 0)))) then BY.BZ.L2 N M0 M r c l 1 (BB (mQ (vQ wh [] 0+E4 (E4 (E4 (I7 (BQ c l p4_2 0 (wi (r-0))) (BQ c l 0 0 (wi (r-0))))-E4 (vQ (BB ((1:Int))) (Bk ((1:Int))) 0))*E4 (E4 (I7 (BQ c l p4_2 0 (wi (r-0))) (BQ c l 0 0 (wi (r-0))))-E4 (vQ (BB ((1:Int))) (Bk ((1:Int))) 0)))))) (Bk (mQ (vQ wh [] 0+E4 (E4 (E4 (I7 (BQ c l p4_2 0 (wi (r-0))) (BQ c l 0 0 (wi (r-0))))-E4 (vQ (BB ((1:Int))) (Bk ((1:Int))) 0))*E4 (E4 (I7 (BQ c l p4_2 0 (wi (r-0))) (BQ c l 0 0 (wi (r-0))))-E4 (vQ (BB ((1:Int))) (Bk ((1:Int))) 0)))))) (eQ (vQ wh [] 0+E4 (E4 (E4 (I7 (BQ c l p4_2 0 (wi (r-0))) (BQ c l 0 0 (wi (r-0))))-E4 (vQ (BB ((1:Int))) (Bk ((1:Int))) 0))*E4 (E4 (I7 (BQ c l p4_2 0 (wi (r-0))) (BQ c l 0 0 (wi (r-0))))-E4 (vQ (BB ((1:Int))) (Bk ((1:Int))) 0))))) p4_2 else wN) wN else wN) wN else wN) (bif (Qi (I7 (BQ c l p4_2 0 (wi (r-0))) (BQ c l 0 0 (wi (r-0))))&&Qi (I7 (BQ c l p4_2 0 (wi (r-0))) (BQ c l 0 0 (wi (r-0))))) then cond (Ud wh [] 0&&Qi (E4 (I7 (BQ c l p4_2 0 (wi (r-0))) (BQ c l 0 0 (wi (r-0))))*E4 (I7 (BQ c l p4_2 0 (wi (r-0))) (BQ c l 0 0 (wi (r-0)))))) (BY.BZ.L2 N M0 M r c l 1 (BB (mQ (vQ wh [] 0+E4 (E4 (I7 (BQ c l p4_2 0 (wi (r-0))) (BQ c l 0 0 (wi (r-0))))*E4 (I7 (BQ c l p4_2 0 (wi (r-0))) (BQ c l 0 0 (wi (r-0)))))))) (Bk (mQ (vQ wh [] 0+E4 (E4 (I7 (BQ c l p4_2 0 (wi (r-0))) (BQ c l 0 0 (wi (r-0))))*E4 (I7 (BQ c l p4_2 0 (wi (r-0))) (BQ c l 0 0 (wi (r-0)))))))) (eQ (vQ wh [] 0+E4 (E4 (I7 (BQ c l p4_2 0 (wi (r-0))) (BQ c l 0 0 (wi (r-0))))*E4 (I7 (BQ c l p4_2 0 (wi (r-0))) (BQ c l 0 0 (wi (r-0))))))) p4_2) wN else wN) else wN) wN else wN) (BY.BZ.L0 N M0 r c l (Bh (p4_2+1))) :=Et (ET (CQ (CD _) (CQ (CD _) (CQ (CD _) (ET (CQ (CD _) (CQ (CD _) (CQ (CD _) (CQ (CD _) (CQ (CD _) rfl rfl) rfl) rfl) rfl) rfl) (CQ (CD _) (CQ (CD _) rfl rfl) rfl)) rfl) rfl) rfl) rfl)
theorem BY.BZ.I5:BY.BZ.L2 N M0 (M+1) r c l p5 p3 p3_1 p3_2 p4_1=cond (BH p5 c) (bif (EG r c l p4_1&&Ci (0<=(0:Int)/\(0:Int)<=r)) then cond (EG r c l p5&&Ci (0<=(0:Int)/\(0:Int)<=r)) (bif ((Bq (BQ c l p4_1 0 (wi (r-0)))&&Bq (BQ c l p5 0 (wi (r-0))))&&Ci (wj (BQ c l p4_1 0 (wi (r-0)))=wj (BQ c l p5 0 (wi (r-0)))/\wj (BQ c l p4_1 0 (wi (r-0)))<=64)) then cond (p4_1==p5) (bif (Oy 1) then cond (HD (BB ((1:Int))) (Bk ((1:Int)))&&Ci (-5000<=(0:Int)/\(0:Int)<=5000)) (bif (Qi (I7 (BQ c l p4_1 0 (wi (r-0))) (BQ c l p5 0 (wi (r-0))))&&Qi (vQ (BB ((1:Int))) (Bk ((1:Int))) 0)) then cond (Qi (E4 (I7 (BQ c l p4_1 0 (wi (r-0))) (BQ c l p5 0 (wi (r-0))))-E4 (vQ (BB ((1:Int))) (Bk ((1:Int))) 0))&&Qi (E4 (I7 (BQ c l p4_1 0 (wi (r-0))) (BQ c l p5 0 (wi (r-0))))-E4 (vQ (BB ((1:Int))) (Bk ((1:Int))) 0))) (bif (Ud p3 p3_1 p3_2&&Qi (E4 (E4 (I7 (BQ c l p4_1 0 (wi (r-0))) (BQ c l p5 0 (wi (r-0))))-E4 (vQ (BB ((1:Int))) (Bk ((1:Int))) 0))*E4 (E4 (I7 (BQ c l p4_1 0 (wi (r-0))) (BQ c l p5 0 (wi (r-0))))-E4 (vQ (BB ((1:Int))) (Bk ((1:Int))) 0)))) then BY.BZ.L2 N M0 M r c l (Bh (p5+1)) (BB (mQ (vQ p3 p3_1 p3_2+E4 (E4 (E4 (I7 (BQ c l p4_1 0 (wi (r-0))) (BQ c l p5 0 (wi (r-0))))-E4 (vQ (BB ((1:Int))) (Bk ((1:Int))) 0))*E4 (E4 (I7 (BQ c l p4_1 0 (wi (r-0))) (BQ c l p5 0 (wi (r-0))))-E4 (vQ (BB ((1:Int))) (Bk ((1:Int))) 0)))))) (Bk (mQ (vQ p3 p3_1 p3_2+E4 (E4 (E4 (I7 (BQ c l p4_1 0 (wi (r-0))) (BQ c l p5 0 (wi (r-0))))-E4 (vQ (BB ((1:Int))) (Bk ((1:Int))) 0))*E4 (E4 (I7 (BQ c l p4_1 0 (wi (r-0))) (BQ c l p5 0 (wi (r-0))))-E4 (vQ (BB ((1:Int))) (Bk ((1:Int))) 0)))))) (eQ (vQ p3 p3_1 p3_2+E4 (E4 (E4 (I7 (BQ c l p4_1 0 (wi (r-0))) (BQ c l p5 0 (wi (r-0))))-E4 (vQ (BB ((1:Int))) (Bk ((1:Int))) 0))*E4 (E4 (I7 (BQ c l p4_1 0 (wi (r-0))) (BQ c l p5 0 (wi (r-0))))-E4 (vQ (BB ((1:Int))) (Bk ((1:Int))) 0))))) p4_1 else wN) wN else wN) wN else wN) (bif (Qi (I7 (BQ c l p4_1 0 (wi (r-0))) (BQ c l p5 0 (wi (r-0))))&&Qi (I7 (BQ c l p4_1 0 (wi (r-0))) (BQ c l p5 0 (wi (r-0))))) then cond (Ud p3 p3_1 p3_2&&Qi (E4 (I7 (BQ c l p4_1 0 (wi (r-0))) (BQ c l p5 0 (wi (r-0))))*E4 (I7 (BQ c l p4_1 0 (wi (r-0))) (BQ c l p5 0 (wi (r-0)))))) (BY.BZ.L2 N M0 M r c l (Bh (p5+1)) (BB (mQ (vQ p3 p3_1 p3_2+E4 (E4 (I7 (BQ c l p4_1 0 (wi (r-0))) (BQ c l p5 0 (wi (r-0))))*E4 (I7 (BQ c l p4_1 0 (wi (r-0))) (BQ c l p5 0 (wi (r-0)))))))) (Bk (mQ (vQ p3 p3_1 p3_2+E4 (E4 (I7 (BQ c l p4_1 0 (wi (r-0))) (BQ c l p5 0 (wi (r-0))))*E4 (I7 (BQ c l p4_1 0 (wi (r-0))) (BQ c l p5 0 (wi (r-0)))))))) (eQ (vQ p3 p3_1 p3_2+E4 (E4 (I7 (BQ c l p4_1 0 (wi (r-0))) (BQ c l p5 0 (wi (r-0))))*E4 (I7 (BQ c l p4_1 0 (wi (r-0))) (BQ c l p5 0 (wi (r-0))))))) p4_1) wN else wN) else wN) wN else wN) (BY.BZ.L3 N M0 r c l (Bh (p4_1+1)) p3 p3_1 p3_2):=
 Et (ET (CQ (CD _) (CQ (CD _) (CQ (CD _) (ET (CQ (CD _) (CQ (CD _) (CQ (CD _) (CQ (CD _) (CQ (CD _) rfl rfl) rfl) rfl) rfl) rfl) (CQ (CD _) (CQ (CD _) rfl rfl) rfl)) rfl) rfl) rfl) rfl)
theorem BY.BZ.Ob:BY.BZ.L3 N (M+1) r c l p4_3 p3_3 p3_4 p3_5=cond (BH p4_3 c) (BY.BZ.L2 N M N r c l 0 p3_3 p3_4 p3_5 p4_3) (wM (.agg [.bool p3_3,.Bj .arg .u32 p3_4,.int .i64 p3_5])):=by kernel_rfl
theorem BY.BZ.ev:Cz BY.BZ.E N f20 (Bw f20) [.agg [.int .i64 r,.int .i64 c,.Bj .arg .u64 l]]=
 BY.BZ.L0 N N r c l 0:=by kernel_rfl
end
def BS.fit.hint:Nat->Option BK
 | 0=>wM { Da:=[3,4,7,8,9],Cg:=[(0,7,100007,.CO 24 3 []),(0,8,100008,.Bj 3 .i64 [])],Cv:=[3,4] }
 | _=>wN
def BS.fit.E:=Dr (CW [(74,D3.Finite.Bu),(35,BY.Check.Bu)]) (fun _=>wh) BS.fit.hint (fun _=>wN)
theorem BS.fit.ev(N:Nat)(a1 b1:Int)(l1:Bf)(a2 b2:Int)(l2:Bf)(a3 b3:Int)(l3:Bf)(a4 b4:Int)(l4 x y:Bf)(r c:Int)(l:Bf)(p q:Int)(m:Bf):Cz BS.fit.E (N+6) f44 (Bw f44) [.agg [.int .i64 a1,.int .i64 b1,.Bj .arg .u64 l1,.int .i64 a2,.int .i64 b2,.Bj .arg .u64 l2,.int .i64 a3,.int .i64 b3,.Bj .arg .u64 l3,.int .i64 a4,.int .i64 b4,.Bj .arg .u64 l4,.Bj .arg .u64 x,.Bj .arg .u64 y],.agg [.int .i64 r,.int .i64 c,.Bj .arg .u64 l],.agg [.int .i64 p,.int .i64 q,.Bj .arg .u64 m]]=cond (Bq l1) (bif ((((BT a1 b1 l1) !=(0:Int))||(a1 !=r))||(b1 !=c)) then wM (.bool wh) else bif (Bq l2) then cond ((((BT a2 b2 l2) !=(0:Int))||(a2 !=p))||(b2 !=c)) (wM (.bool wh)) (bif (Bq l3) then cond ((((BT a3 b3 l3) !=(0:Int))||(a3 !=c))||(b3 !=c)) (wM (.bool wh)) (bif (Bq l4) then cond ((((BT a4 b4 l4) !=(0:Int))||(a4 !=c))||(b4 !=c)) (wM (.bool wh)) (bif ((!(((wj x:Int)==c)&&((wj y:Int)==c)))||(Cw x)) then cond ((!((((wj x:Int)==c)&&((wj y:Int)==c))&&(Dx x)))||(Cw y)) (wM (.bool (cond (bif (cond ((wj x:Int)==c) ((wj y:Int)==c) wh) then (Dx x) else wh) (Dx y) wh))) wN else wN) else wN) else wN) else wN) wN:=
 Et (CQ (CD _) (B4 (Jy ((BT a1 b1 l1) !=(0:Int))) (B4 (Jy ((BT a1 b1 l1) !=(0:Int))) (B4 (Mk ((BT a1 b1 l1) !=(0:Int))) (B4 (Mj ((BT a1 b1 l1) !=(0:Int))) (B4 (Mj ((BT a1 b1 l1) !=(0:Int))) (B4 (Jy ((BT a1 b1 l1) !=(0:Int))) (B4 (Jy ((BT a1 b1 l1) !=(0:Int))) (B4 (Mk ((BT a1 b1 l1) !=(0:Int))) (B4 (Mj ((BT a1 b1 l1) !=(0:Int))) (B4 (Mk ((BT a1 b1 l1) !=(0:Int))) (B4 (Aa8 ((BT a1 b1 l1) !=(0:Int))) (B4 (Ml ((BT a1 b1 l1) !=(0:Int)) (a1 !=r)) (B4 (Ml ((BT a1 b1 l1) !=(0:Int)) (a1 !=r)) (B4 (QW ((BT a1 b1 l1) !=(0:Int)) (a1 !=r)) (B4 (Mm ((BT a1 b1 l1) !=(0:Int)) (a1 !=r)) (B4 (Mm ((BT a1 b1 l1) !=(0:Int)) (a1 !=r)) (B4 (Ml ((BT a1 b1 l1) !=(0:Int)) (a1 !=r)) (B4 (Mm ((BT a1 b1 l1) !=(0:Int)) (a1 !=r)) (B4 (QW ((BT a1 b1 l1) !=(0:Int)) (a1 !=r)) (B4 (Aa9 ((BT a1 b1 l1) !=(0:Int)) (a1 !=r)) (CQ (AaA _ _ _) rfl (CQ (CD _) (B4 (Jy ((BT a2 b2 l2) !=(0:Int))) (B4 (Jy ((BT a2 b2 l2) !=(0:Int))) (B4 (Mk ((BT a2 b2 l2) !=(0:Int))) (B4 (Mj ((BT a2 b2 l2) !=(0:Int))) (B4 (Mj ((BT a2 b2 l2) !=(0:Int))) (B4 (Jy ((BT a2 b2 l2) !=(0:Int))) (B4 (Jy ((BT a2 b2 l2) !=(0:Int))) (B4 (Mk ((BT a2 b2 l2) !=(0:Int))) (B4 (Mj ((BT a2 b2 l2) !=(0:Int))) (B4 (Mk ((BT a2 b2 l2) !=(0:Int))) (B4 (Aa8 ((BT a2 b2 l2) !=(0:Int))) (B4 (Ml ((BT a2 b2 l2) !=(0:Int)) (a2 !=p)) (B4 (Ml ((BT a2 b2 l2) !=(0:Int)) (a2 !=p)) (B4 (QW ((BT a2 b2 l2) !=(0:Int)) (a2 !=p)) (B4 (Mm ((BT a2 b2 l2) !=(0:Int)) (a2 !=p)) (B4 (Mm ((BT a2 b2 l2) !=(0:Int)) (a2 !=p)) (B4 (Ml ((BT a2 b2 l2) !=(0:Int)) (a2 !=p)) (B4 (Mm ((BT a2 b2 l2) !=(0:Int)) (a2 !=p)) (B4 (QW ((BT a2 b2 l2) !=(0:Int)) (a2 !=p)) (B4 (Aa9 ((BT a2 b2 l2) !=(0:Int)) (a2 !=p)) (CQ (AaA _ _ _) rfl (CQ (CD _) (B4 (Jy ((BT a3 b3 l3) !=(0:Int))) (B4 (Jy ((BT a3 b3 l3) !=(0:Int))) (B4 (Mk ((BT a3 b3 l3) !=(0:Int))) (B4 (Mj ((BT a3 b3 l3) !=(0:Int))) (B4 (Mj ((BT a3 b3 l3) !=(0:Int))) (B4 (Jy ((BT a3 b3 l3) !=(0:Int))) (B4 (Jy ((BT a3 b3 l3) !=(0:Int))) (B4 (Mk ((BT a3 b3 l3) !=(0:Int))) (B4 (Mj ((BT a3 b3 l3) !=(0:Int))) (B4 (Mk ((BT a3 b3 l3) !=(0:Int))) (B4 (Aa8 ((BT a3 b3 l3) !=(0:Int))) (B4 (Ml ((BT a3 b3 l3) !=(0:Int)) (a3 !=c)) (B4 (Ml ((BT a3 b3 l3) !=(0:Int)) (a3 !=c)) (B4 (QW ((BT a3 b3 l3) !=(0:Int)) (a3 !=c)) (B4 (Mm ((BT a3 b3 l3) !=(0:Int)) (a3 !=c)) (B4 (Mm ((BT a3 b3 l3) !=(0:Int)) (a3 !=c)) (B4 (Ml ((BT a3 b3 l3) !=(0:Int)) (a3 !=c)) (B4 (Mm ((BT a3 b3 l3) !=(0:Int)) (a3 !=c)) (B4 (QW ((BT a3 b3 l3) !=(0:Int)) (a3 !=c)) (B4 (Aa9 ((BT a3 b3 l3) !=(0:Int)) (a3 !=c)) (CQ (AaA _ _ _) rfl (CQ (CD _) (B4 (Jy ((BT a4 b4 l4) !=(0:Int))) (B4 (Jy ((BT a4 b4 l4) !=(0:Int))) (B4 (Mk ((BT a4 b4 l4) !=(0:Int))) (B4 (Mj ((BT a4 b4 l4) !=(0:Int))) (B4 (Mj ((BT a4 b4 l4) !=(0:Int))) (B4 (Jy ((BT a4 b4 l4) !=(0:Int))) (B4 (Jy ((BT a4 b4 l4) !=(0:Int))) (B4 (Mk ((BT a4 b4 l4) !=(0:Int))) (B4 (Mj ((BT a4 b4 l4) !=(0:Int))) (B4 (Mk ((BT a4 b4 l4) !=(0:Int))) (B4 (Aa8 ((BT a4 b4 l4) !=(0:Int))) (B4 (Ml ((BT a4 b4 l4) !=(0:Int)) (a4 !=c)) (B4 (Ml ((BT a4 b4 l4) !=(0:Int)) (a4 !=c)) (B4 (QW ((BT a4 b4 l4) !=(0:Int)) (a4 !=c)) (B4 (Mm ((BT a4 b4 l4) !=(0:Int)) (a4 !=c)) (B4 (Mm ((BT a4 b4 l4) !=(0:Int)) (a4 !=c)) (B4 (Ml ((BT a4 b4 l4) !=(0:Int)) (a4 !=c)) (B4 (Mm ((BT a4 b4 l4) !=(0:Int)) (a4 !=c)) (B4 (QW ((BT a4 b4 l4) !=(0:Int)) (a4 !=c)) (B4 (Aa9 ((BT a4 b4 l4) !=(0:Int)) (a4 !=c)) (CQ (AaA _ _ _) rfl (B4 (M3 ((wj x:Int)==c)) (B4 (J7 ((wj x:Int)==c)) (B4 (J7 ((wj x:Int)==c)) (B4 (M3 ((wj x:Int)==c)) (B4 (J7 ((wj x:Int)==c)) (B4 (AbK ((wj x:Int)==c)) (B4 (Qk ((wj x:Int)==c)) (B4 (AiI ((wj x:Int)==c) ((wj y:Int)==c)) (B4 (AbE ((wj x:Int)==c) ((wj y:Int)==c)) (CQ (Ak7 _ _ _) (B4 (AiJ ((wj x:Int)==c) ((wj y:Int)==c)) (B4 (AiK ((wj x:Int)==c) ((wj y:Int)==c) (Dx x)) (B4 (AbF ((wj x:Int)==c) ((wj y:Int)==c) (Dx x)) (CQ (AkV _ _ _ _) (B4 (AiL ((wj x:Int)==c) ((wj y:Int)==c) (Dx x)) rfl) rfl)))) rfl))))))))))))))))))))))))))))))) rfl)))))))))))))))))))))) rfl)))))))))))))))))))))) rfl)))))))))))))))))))))) rfl)
def BS.asked.E:=E0 [(25,CG.CY.Bu),(44,BS.fit.Bu),(34,BY.FR.Bu)]
theorem BS.asked.ev(N:Nat)(r c:Int)(l:Bf)(p q:Int)(m:Bf):Cz BS.asked.E N f9 (Bw f9) [.agg [.int .i64 r,.int .i64 c,.Bj .arg .u64 l],.agg [.int .i64 p,.int .i64 q,.Bj .arg .u64 m]]=cond (Bq l&&Ci (0<=(100:Int)/\(100:Int)<=1000)) (bif ((!(BD r c l&&G1 l 100))||(Bq m&&Ci (0<=(100:Int)/\(100:Int)<=1000))) then cond ((!(BD r c l&&G1 l 100))||(!(BD p q m&&G1 m 100))) (wM (.CJ [.agg [.int .i64 0,.int .i64 0,.nil,.int .i64 0,.int .i64 0,.nil,.int .i64 0,.int .i64 0,.nil,.int .i64 0,.int .i64 0,.nil,.nil,.nil],.bool wh,.bool wc])) (bif (Bq l&&Bq m) then cond ((CX r c l p q m) !=(0:Int)) (wM (.CJ [.agg [.int .i64 0,.int .i64 0,.nil,.int .i64 0,.int .i64 0,.nil,.int .i64 0,.int .i64 0,.nil,.int .i64 0,.int .i64 0,.nil,.nil,.nil],.bool wh,.bool (cond ((CX r c l p q m)==(3:Int)) wc ((CX r c l p q m)==(6:Int)))])) (bif (((Bq ((Hd r c l p q m).2.2.1)&&Bq ((Hf r c l p q m).2.2.1))&&(Bq ((He r c l p q m).2.2.1)&&Bq ((Hg r c l p q m).2.2.1)))&&(Cw (Fq r c l p q m)&&Cw (Iu r c l p q m))) then wM (.CJ [.agg [.int .i64 ((Hd r c l p q m).1),.int .i64 ((Hd r c l p q m).2.1),.Bj .arg .u64 ((Hd r c l p q m).2.2.1),.int .i64 ((Hf r c l p q m).1),.int .i64 ((Hf r c l p q m).2.1),.Bj .BE .u64 ((Hf r c l p q m).2.2.1),.int .i64 ((He r c l p q m).1),.int .i64 ((He r c l p q m).2.1),.Bj .BE .u64 ((He r c l p q m).2.2.1),.int .i64 ((Hg r c l p q m).1),.int .i64 ((Hg r c l p q m).2.1),.Bj .BE .u64 ((Hg r c l p q m).2.2.1),.Bj .BE .u64 (Fq r c l p q m),.Bj .BE .u64 (Iu r c l p q m)],.bool wc,.bool (AcU ((Hd r c l p q m).1) ((Hd r c l p q m).2.1) ((Hd r c l p q m).2.2.1) ((Hf r c l p q m).1) ((Hf r c l p q m).2.1) ((Hf r c l p q m).2.2.1) ((He r c l p q m).1) ((He r c l p q m).2.1) ((He r c l p q m).2.2.1) ((Hg r c l p q m).1) ((Hg r c l p q m).2.1) ((Hg r c l p q m).2.2.1) (Fq r c l p q m) (Iu r c l p q m) r c p)]) else wN) else wN) else wN) wN :=Et (ET (B4 (Sn (BD r c l&&G1 l 100)) (CQ (AbJ _ _) (B4 (O6 (BD r c l&&G1 l 100)) (B4 (TQ (BD r c l&&G1 l 100)) (CQ (AdY _ _) rfl (ET (ET (B4 (TO ((CX r c l p q m)==(3:Int))) (B4 (Rw ((CX r c l p q m)==(3:Int))) (B4 (Xb ((CX r c l p q m)==(3:Int))) rfl))) (CQ (CD _) rfl rfl)) rfl)))) rfl)) rfl)
def BS.Ca.hint:Nat->Option BK
 | 0=>wM { Da:=[5,8],Cg:=[],Cv:=[5] }
 | 2=>wM { Da:=[5,8,9],Cg:=[],Cv:=[5] }
 | _=>wN
def BS.Ca.GN:List (Nat × Ew):=[(9,BS.asked.Bu),(10,BS.FP.Bu),(18,BS.unit.Bu),(23,B0.Mul.q.Bu),(22,De.Qj.Bu),(21,BY.GY.q.Bu),(20,BY.BZ.Bu),(15,BY.Hp.Bu)]
def BS.Ca.live:Nat->Option (List Nat)
 | 2=>wM [5,6,7]
 | _=>wN
def BS.Ca.E:Env:=Dr (CW BS.Ca.GN) (fun _=>wh) BS.Ca.hint BS.Ca.live
section
variable(N M0 M:Nat)(r c:Int)(l:Bf)(p q:Int)(m:Bf)(p6 p7:Bool)(p5 p5_1:Int)(p5_2:Bf)(p5_3 p5_4:Int)(p5_5:Bf)(p5_6 p5_7:Int)(p5_8:Bf)(p5_9 p5_10:Int)(p5_11 p5_12 p5_13:Bf)(p9 p8_1 p8:Int)
def BS.Ca.C2:Option DV:=cutAt BS.Ca.E N f5 (Bw f5) [1,1,0] [] ⟨Fp 66 [(5,.ptr 5 0 0),(6,.bool p6),(7,.bool p7)],[(5,wh,.box [.int .i64 p5,.int .i64 p5_1,.Bj .arg .u64 p5_2,.int .i64 p5_3,.int .i64 p5_4,.Bj .arg .u64 p5_5,.int .i64 p5_6,.int .i64 p5_7,.Bj .arg .u64 p5_8,.int .i64 p5_9,.int .i64 p5_10,.Bj .arg .u64 p5_11,.Bj .arg .u64 p5_12,.Bj .arg .u64 p5_13]),(3,wh,.box [.int .i64 p,.int .i64 q,.Bj .arg .u64 m]),(2,wh,.box [.int .i64 r,.int .i64 c,.Bj .arg .u64 l])]⟩
def BS.Ca.L0:Option DV:=C6 BS.Ca.E N f5 (Bw f5) [1,1,1,1,0,1,0] [] M ⟨Fp 66 [(5,.ptr 5 0 0),(8,.int .i64 p8)],[(5,wh,.box [.int .i64 p5,.int .i64 p5_1,.Bj .arg .u64 p5_2,.int .i64 p5_3,.int .i64 p5_4,.Bj .arg .u64 p5_5,.int .i64 p5_6,.int .i64 p5_7,.Bj .arg .u64 p5_8,.int .i64 p5_9,.int .i64 p5_10,.Bj .arg .u64 p5_11,.Bj .arg .u64 p5_12,.Bj .arg .u64 p5_13])]⟩
def BS.Ca.L1:Option DV:=C6 BS.Ca.E N f5 (Bw f5) [1,1,1,1,0,1,0,0,1,0,0,1,0] [M0] M ⟨Fp 66 [(5,.ptr 5 0 0),(8,.int .i64 p8_1),(9,.int .i64 p9)],[(5,wh,.box [.int .i64 p5,.int .i64 p5_1,.Bj .arg .u64 p5_2,.int .i64 p5_3,.int .i64 p5_4,.Bj .arg .u64 p5_5,.int .i64 p5_6,.int .i64 p5_7,.Bj .arg .u64 p5_8,.int .i64 p5_9,.int .i64 p5_10,.Bj .arg .u64 p5_11,.Bj .arg .u64 p5_12,.Bj .arg .u64 p5_13])]⟩
theorem BS.Ca.Ag5:BS.Ca.C2 N r c l p q m p6 p7 p5 p5_1 p5_2 p5_3 p5_4 p5_5 p5_6 p5_7 p5_8 p5_9 p5_10 p5_11 p5_12 p5_13=cond ((!p6)||(!p7)) (wM (.bool (cond p7 wc wh))) (bif (BD p5_6 p5_7 p5_8&&Bq p5_8) then cond ((dSo (orQ (wi p5_6) (wi p5_7) p5_8)&&dSo (1))&&Ci (0<=(30:Int)/\(30:Int)<=1000)) (bif (!(decide (E4 (orQ (wi p5_6) (wi p5_7) p5_8)<=E4 (1)*tw (-2*30)+tw (-4000)))) then wM (.bool wh) else BS.Ca.L0 N N p5 p5_1 p5_2 p5_3 p5_4 p5_5 p5_6 p5_7 p5_8 p5_9 p5_10 p5_11 p5_12 p5_13 (0:Int)) wN else wN):=
 Eq.trans ((DO _ _ _ _ _ _ _).trans (by kernel_rfl))
 (B4 (Sn p6) (B4 (O6 p6) (B4 (TQ p6) (CQ (AdY _ _) (B4 (M3 p7) (B4 (Qk p7) rfl)) rfl))))
theorem BS.Ca.B7:BS.Ca.L0 N (M+1) p5 p5_1 p5_2 p5_3 p5_4 p5_5 p5_6 p5_7 p5_8 p5_9 p5_10 p5_11 p5_12 p5_13 p8=cond (BH p8 p5_4) (BS.Ca.L1 N M N p5 p5_1 p5_2 p5_3 p5_4 p5_5 p5_6 p5_7 p5_8 p5_9 p5_10 p5_11 p5_12 p5_13 (Bh (p8+1)) p8) (wM (.bool wc)):=by kernel_rfl
theorem BS.Ca.CU:BS.Ca.L1 N M0 (M+1) p5 p5_1 p5_2 p5_3 p5_4 p5_5 p5_6 p5_7 p5_8 p5_9 p5_10 p5_11 p5_12 p5_13 p9 p8_1=cond (BH p9 p5_4) (bif (EG p5_3 p5_4 p5_5 p8_1&&Ci (0<=(0:Int)/\(0:Int)<=p5_3)) then cond (EG p5_3 p5_4 p5_5 p9&&Ci (0<=(0:Int)/\(0:Int)<=p5_3)) (bif ((Bq (BQ p5_4 p5_5 p8_1 0 (wi (p5_3-0)))&&Bq (BQ p5_4 p5_5 p9 0 (wi (p5_3-0))))&&Ci (wj (BQ p5_4 p5_5 p8_1 0 (wi (p5_3-0)))=wj (BQ p5_4 p5_5 p9 0 (wi (p5_3-0)))/\wj (BQ p5_4 p5_5 p8_1 0 (wi (p5_3-0)))<=64)) then cond (Qi (I7 (BQ p5_4 p5_5 p8_1 0 (wi (p5_3-0))) (BQ p5_4 p5_5 p9 0 (wi (p5_3-0))))&&Qi (I7 (BQ p5_4 p5_5 p8_1 0 (wi (p5_3-0))) (BQ p5_4 p5_5 p9 0 (wi (p5_3-0))))) (bif ((dSo (E4 (I7 (BQ p5_4 p5_5 p8_1 0 (wi (p5_3-0))) (BQ p5_4 p5_5 p9 0 (wi (p5_3-0))))*E4 (I7 (BQ p5_4 p5_5 p8_1 0 (wi (p5_3-0))) (BQ p5_4 p5_5 p9 0 (wi (p5_3-0)))))&&dSo (1))&&Ci (0<=(25:Int)/\(25:Int)<=1000)) then cond (!(decide (E4 (E4 (I7 (BQ p5_4 p5_5 p8_1 0 (wi (p5_3-0))) (BQ p5_4 p5_5 p9 0 (wi (p5_3-0))))*E4 (I7 (BQ p5_4 p5_5 p8_1 0 (wi (p5_3-0))) (BQ p5_4 p5_5 p9 0 (wi (p5_3-0)))))<=E4 (1)*tw (-2*25)+tw (-4000)))) (wM (.bool wh)) (BS.Ca.L1 N M0 M p5 p5_1 p5_2 p5_3 p5_4 p5_5 p5_6 p5_7 p5_8 p5_9 p5_10 p5_11 p5_12 p5_13 (Bh (p9+1)) p8_1) else wN) wN else wN) wN else wN) (BS.Ca.L0 N M0 p5 p5_1 p5_2 p5_3 p5_4 p5_5 p5_6 p5_7 p5_8 p5_9 p5_10 p5_11 p5_12 p5_13 (Bh (p8_1+1))) :=Et (ET (CQ (CD _) (CQ (CD _) (CQ (CD _) rfl rfl) rfl) rfl) rfl)
theorem BS.Ca.ev:Cz BS.Ca.E N f5 (Bw f5) [.agg [.int .i64 r,.int .i64 c,.Bj .arg .u64 l],.agg [.int .i64 p,.int .i64 q,.Bj .arg .u64 m]]=cond (Bq l&&Bq m) (BS.Ca.C2 N r c l p q m (Nu r c l p q m) (Pa r c l p q m) ((Hn r c l p q m (Hd r c l p q m)).1) ((Hn r c l p q m (Hd r c l p q m)).2.1) ((Hn r c l p q m (Hd r c l p q m)).2.2.1) ((Hn r c l p q m (Hf r c l p q m)).1) ((Hn r c l p q m (Hf r c l p q m)).2.1) ((Hn r c l p q m (Hf r c l p q m)).2.2.1) ((Hn r c l p q m (He r c l p q m)).1) ((Hn r c l p q m (He r c l p q m)).2.1) ((Hn r c l p q m (He r c l p q m)).2.2.1) ((Hn r c l p q m (Hg r c l p q m)).1) ((Hn r c l p q m (Hg r c l p q m)).2.1) ((Hn r c l p q m (Hg r c l p q m)).2.2.1) (WB r c l p q m (Fq r c l p q m)) (WB r c l p q m (Iu r c l p q m))) wN:=by kernel_rfl
end
theorem Zp:vQ (BB ((1:Int))) (Bk ((1:Int))) (0:Int)=1:=by unfold vQ;rw[EB];have:tw 0=1:=J6;rw[this];show((1:Int):Rat)*1=1;decide +kernel
theorem VT:Dq (1:Rat):=Dg.one.dq (by decide) (by decide) (by decide)
theorem Zo:(HD (BB ((1:Int))) (Bk ((1:Int)))&&Ci (-5000<=(0:Int)/\(0:Int)<=5000))=wc:=by rw[Bi];exact⟨Gq (by decide),Bv.2 (by decide)⟩
theorem VS:Oy (1:Int)=wc:=Bv.2 (by decide)
theorem BS.unit.Bp:BS.unit.Kn:=BS.unit.D9 (kc Bo.Of.Bp (kc B0.Of.q.Bp .nil)) fun _ _=>by
 refine⟨0,dqO (vQ (BB ((1:Int))) (Bk ((1:Int))) (0:Int)),[],?_,?_⟩
 ·rw[BS.unit.ev,VS,Aa,Zo,Aa]; rfl
 ·show Wk [] (dqO (vQ (BB ((1:Int))) (Bk ((1:Int))) (0:Int))) (dqO 1);rw[Zp]; exact wqO
section
variable{R C:Nat}{l:Bf}
theorem Wo(i k:Nat):I7 (BQ (C:Int) l (i:Int) 0 R) (BQ (C:Int) l (k:Int) 0 R)=Ia R C l i k:=by unfold I7 Ia;rw[Dv];exact AbW R fun j hj=>by rw[Xu hj,Xu hj]
theorem RY(r6:R<=6)(i k:Nat):Dg 2148 4200 6 (Ia R C l i k):=Dg.O7 (m:=1) r6 fun j _=>Dg.wv2 _ _
theorem AaT(r6:R<=6)(i k:Nat):Dg 2148 4200 7 (SL R C l i k):=by
 unfold SL;refine Dg.sub (n:=6) (m:=1) (RY r6 i k) ?_;split
 ·exact(Dg.one.up 2148).wide (by decide)
 ·exact Dg.zero _ _ _
def Qh(R C:Nat)(l:Bf)(i k:Nat):Rat:=SL R C l i k*SL R C l i k
theorem SK(r6:R<=6)(i k:Nat):Dg 4296 8400 49 (Qh R C l i k):=(AaT r6 i k).mul (AaT r6 i k)
theorem Ahr(r6:R<=6){i k:Nat}(hi:i<=6)(c6:C<=6)(hk:k<=6):Dg 4296 8400 2058 ((Jt i fun a=>Jt C fun b=>Qh R C l a b)+Jt k fun b=>Qh R C l i b) :=(Dg.O7 (m:=294) hi fun a _=>Dg.O7 (m:=49) c6 fun b _=>SK r6 a b).add (Dg.O7 (m:=49) hk fun b _=>SK r6 i b)
end
section
variable{R C:Nat}{l:Bf}(r6:R<=6)(c6:C<=6)(hl:l.length=R*C)(al:Bq l=wc)
include r6 c6 hl al
theorem MC{i k:Nat}(hi:i<C)(hk:k<C):(EG (R:Int) (C:Int) l (i:Int)&&Ci (0<=(0:Int)/\(0:Int)<=(R:Int)))=wc /\
 ((Bq (BQ (C:Int) l (i:Int) 0 R)&&Bq (BQ (C:Int) l (k:Int) 0 R))&&Ci (wj (BQ (C:Int) l (i:Int) 0 R)=wj (BQ (C:Int) l (k:Int) 0 R)/\wj (BQ (C:Int) l (i:Int) 0 R)<=64))=wc/\Dq (Ia R C l i k):=by
 refine⟨?_,?_,(RY r6 i k).dq (by decide) (by decide) (by decide)⟩
 ·unfold EG;rw[D7 r6 c6 hl,AW,Bi];exact⟨Bv.2 ⟨by omega,by omega⟩,Bv.2 ⟨by decide,by omega⟩⟩
 ·rw[HJ al,HJ al,Ah,AW];exact Bv.2 ⟨by rw[Dv,Dv],by rw[Dv]; omega⟩
theorem AaS(N M0:Nat){i:Nat}(hi:i<C):∀d k F,k+d=C->d<F->∀s,s=(Jt i fun a=>Jt C fun b=>Qh R C l a b)+Jt k (fun b=>Qh R C l i b) ->
 BY.BZ.L2 N M0 F (R:Int) (C:Int) l (k:Int) (BB (mQ s)) (Bk (mQ s)) (eQ s) (i:Int)=
 BY.BZ.L3 N M0 (R:Int) (C:Int) l ((i+1:Nat):Int) (BB (mQ (Jt (i+1) fun a=>Jt C fun b=>Qh R C l a b))) (Bk (mQ (Jt (i+1) fun a=>Jt C fun b=>Qh R C l a b))) (eQ (Jt (i+1) fun a=>Jt C fun b=>Qh R C l a b)):=by
 intro d
 induction d with
 | zero =>
   intro k F hk hF s hs;obtain⟨F,rfl⟩:∃G,F=G+1:=⟨F-1,by omega⟩
   obtain rfl:k=C:=by omega
   have e:s=Jt (i+1) fun a=>Jt k fun b=>Qh R k l a b:=hs
   rw[BY.BZ.I5,B8,Ag (by omega),Af,Bz (by omega) (by omega),e];rfl
 | succ d ih =>
   intro k F hk hF s hs;obtain⟨F,rfl⟩:∃G,F=G+1:=⟨F-1,by omega⟩
   obtain⟨p1,p3,p5⟩:=MC r6 c6 hl al hi (show k<C by omega);have p2:=(MC r6 c6 hl al (show k<C by omega) hi).1;have ds:Dq s:=by rw[hs]; exact(Ahr r6 (by omega) c6 (by omega)).dq (by decide) (by decide) (by decide)
   have e1:(k:Int)+1=((k+1:Nat):Int):=by omega
   have eR:wi ((R:Int)-0)=R:=by rw[x5,Ad]
   have d7:Dq (SL R C l i k):=(AaT r6 i k).dq (by decide) (by decide) (by decide);have d8:Dq (Qh R C l i k):=(SK r6 i k).dq (by decide) (by decide) (by decide);have eg:SL R C l i k*SL R C l i k=Qh R C l i k:=rfl
   have fin:s+Qh R C l i k=(Jt i fun a=>Jt C fun b=>Qh R C l a b)+Jt (k+1) fun b=>Qh R C l i b:=by
    rw[hs];show _=_+(Jt k (fun b=>Qh R C l i b)+Qh R C l i k)
    grind
   rw[BY.BZ.I5,B8,Ac (show(k:Int)<(C:Int) by omega),Aa,p1,Aa,p2,Aa,eR,p3,Aa,Wo];by_cases h:i=k
   ·have b:((i:Int)==(k:Int))=wc:=by rw[h]; exact AI _
    have eo:Ia R C l i k-1=SL R C l i k:=by unfold SL; rw[Az h]
    rw[b,Aa,VS,Aa,Zo,Aa,Zp,GV p5,GV VT,Ah,Aa,FX p5,FX VT,eo,GV d7,Ah,Aa,FX d7,eg,Wy ds,GV d8,Ah,Aa,Ld ds,FX d8,Bz (by omega) (by omega),e1];exact ih (k+1) F (by omega) (by omega) _ fin
   ·have b:((i:Int)==(k:Int))=wh:=by rw[AD]; omega
    have eo:Ia R C l i k=SL R C l i k:=by unfold SL; rw[Ay h]; grind
    rw[eo] at p5 ⊢;rw[b,Af,GV p5,Ah,Aa,FX p5,eg,Wy ds,GV d8,Ah,Aa,Ld ds,FX d8,Bz (by omega) (by omega),e1];exact ih (k+1) F (by omega) (by omega) _ fin
theorem Ahp(N:Nat)(hN:7<N):∀d i F,i+d=C->d<F ->
 BY.BZ.L3 N F (R:Int) (C:Int) l (i:Int) (BB (mQ (Jt i fun a=>Jt C fun b=>Qh R C l a b))) (Bk (mQ (Jt i fun a=>Jt C fun b=>Qh R C l a b))) (eQ (Jt i fun a=>Jt C fun b=>Qh R C l a b))=
 wM (dqO (Jt C fun a=>Jt C fun b=>Qh R C l a b)):=by
 intro d
 induction d with
 | zero =>
   intro i F hi hF;obtain⟨F,rfl⟩:∃G,F=G+1:=⟨F-1,by omega⟩
   obtain rfl:i=C:=by omega
   rw[BY.BZ.Ob,B8,Ag (by omega),Af];rfl
 | succ d ih =>
   intro i F hi hF;obtain⟨F,rfl⟩:∃G,F=G+1:=⟨F-1,by omega⟩
   rw[BY.BZ.Ob,B8,Ac (show(i:Int)<(C:Int) by omega),Aa]
   have h2:=AaS r6 c6 hl al N F (show i<C by omega) C 0 N (by omega) (by omega) (Jt i fun a=>Jt C fun b=>Qh R C l a b) (by show _=_+(0:Rat); grind)
   exact h2.trans (ih (i+1) F (by omega) (by omega))
theorem Ahq(N:Nat)(hN:7<N):∃dv,BY.BZ.L0 N N (R:Int) (C:Int) l 0=wM dv/\Wk [] dv (dqO (Jt C fun a=>Jt C fun b=>Qh R C l a b)):=by
 obtain⟨G,rfl⟩:∃G,N=G+1:=⟨N-1,by omega⟩
 rw[BY.BZ.B7];by_cases c0:C=0
 ·subst c0;refine⟨_,by rw[B8,Ag (by omega),Af],wqN⟩
 ·rw[B8,Ac (show(0:Int)<(C:Int) by omega),Aa,BY.BZ.CU,B8,Ac (show(0:Int)<(C:Int) by omega),Aa];obtain⟨p1,p3,p5⟩:=MC r6 c6 hl al (show 0<C by omega) (show 0<C by omega);have p1:(EG (R:Int) (C:Int) l 0&&Ci (0<=(0:Int)/\(0:Int)<=(R:Int)))=wc:=p1;have p3:((Bq (BQ (C:Int) l 0 0 R)&&Bq (BQ (C:Int) l 0 0 R))&&Ci (wj (BQ (C:Int) l 0 0 R)=wj (BQ (C:Int) l 0 0 R)/\wj (BQ (C:Int) l 0 0 R)<=64))=wc:=p3;have g0:I7 (BQ (C:Int) l 0 0 R) (BQ (C:Int) l 0 0 R)=Ia R C l 0 0:=Wo 0 0;have eR:wi ((R:Int)-0)=R:=by rw[x5,Ad]
  have d7:Dq (SL R C l 0 0):=(AaT r6 0 0).dq (by decide) (by decide) (by decide);have d8:Dq (Qh R C l 0 0):=(SK r6 0 0).dq (by decide) (by decide) (by decide);have eg:SL R C l 0 0*SL R C l 0 0=Qh R C l 0 0:=rfl;have eo:Ia R C l 0 0-1=SL R C l 0 0:=by unfold SL; rw[Az rfl]
  have b:((0:Int)==(0:Int))=wc:=rfl;rw[p1,Aa,Aa,eR,p3,Aa,g0,b,Aa,VS,Aa,Zo,Aa,Zp,GV p5,GV VT,Ah,Aa,FX p5,FX VT,eo,GV d7,Ah,Aa,FX d7,eg,Abt,GV d8,Ah,Aa,Ad7,FX d8]
  have es:(0:Rat)+Qh R C l 0 0=(Jt 0 fun a=>Jt C fun b=>Qh R C l a b)+Jt 1 fun b=>Qh R C l 0 b:=by
   show _=(0:Rat)+((0:Rat)+Qh R C l 0 0)
   grind
  have h4:=AaS r6 c6 hl al (G+1) G (show 0<C by omega) (C-1) 1 G (by omega) (by omega) _ es;have h6:=Ahp r6 c6 hl al (G+1) hN (C-1) 1 G (by omega) (by omega);exact⟨_,h4.trans h6,wqO⟩
end
theorem BY.BZ.Bp:Kq 20 BY.BZ.Bu:=E1 BY.BZ.E Tryz.func20 (kc Bo.Of.Bp (kc B0.Add.q.Bp (kc B0.Mul.q.Bp (kc B0.Of.q.Bp (kc B0.Sub.q.Bp (kc De.Qj.Bp (kc BY.GY.q.Bp .nil))))))) fun r c l hp=>by obtain⟨hr,al⟩:=Bi.1 (show(BD r c l&&Bq l)=wc from hp);obtain⟨R,C,rfl,rfl,r6,c6,hl⟩:=DF hr;obtain⟨dv,e,w⟩:=Ahq r6 c6 hl al 8 (by omega);refine⟨8,dv,[],(BY.BZ.ev 8 _ _ _).trans e,?_⟩;show Wk [] dv (dqO (orQ (wi (R:Int)) (wi (C:Int)) l));rw[Ad,Ad];exact w
theorem BS.fit.Bp:Kq 44 BS.fit.Bu:=E1 BS.fit.E Tryz.func44 (kc D3.Finite.Bp (kc BY.Check.Bp .nil)) fun a1 b1 l1 a2 b2 l2 a3 b3 l3 a4 b4 l4 x y r c l p q m hp=>by
 obtain⟨h1,h2⟩:=Bi.1 (show(((Bq l1&&Bq l2)&&(Bq l3&&Bq l4))&&(Cw x&&Cw y))=wc from hp);obtain⟨h3,h4⟩:=Bi.1 h1;obtain⟨a1',a2'⟩:=Bi.1 h3;obtain⟨a3',a4'⟩:=Bi.1 h4;obtain⟨ox,oy⟩:=Bi.1 h2;refine⟨0+6,.bool (AcU a1 b1 l1 a2 b2 l2 a3 b3 l3 a4 b4 l4 x y r c p),[],?_,.bool⟩
 have e:∀k a b u v:Int,(((k !=(0:Int))||(a !=u))||(b !=v))=!(decide (k=0/\a=u/\b=v)):=fun k a b u v=>by by_cases h1:k=0<;>by_cases h2:a=u<;>by_cases h3:b=v<;>simp[h1,h2,h3]
 have f:∀a b:Int,(a==b)=decide (a=b):=fun a b=>by by_cases h:a=b<;>simp[h]
 rw[BS.fit.ev,a1',a2',a3',a4',ox,oy,e,e,e,e,f,f,AV,AV];simp only[Aa];unfold AcU;cases decide (BT a1 b1 l1=0/\a1=r/\b1=c) with
 | false=>rfl
 | true =>
 cases decide (BT a2 b2 l2=0/\a2=p/\b2=c) with
 | false=>rfl
 | true =>
 cases decide (BT a3 b3 l3=0/\a3=c/\b3=c) with
 | false=>rfl
 | true =>
 cases decide (BT a4 b4 l4=0/\a4=c/\b4=c) with
 | false=>rfl
 | true =>
 cases decide ((x.length:Int)=c)<;>cases decide ((y.length:Int)=c)<;>cases Dx x<;>cases Dx y<;>rfl
theorem Lb.wds{R C:Nat}{x:MX}(h:Lb R C x):Bq x.2.2.1=wc:=by obtain⟨l,rfl,_,_,_,al⟩:=h;exact al
theorem Aj1{r c:Int}{l:Bf}{p q:Int}{m:Bf}(al:Bq l=wc)(am:Bq m=wc):
 ((Bq (Hd r c l p q m).2.2.1&&Bq (Hf r c l p q m).2.2.1)&&(Bq (He r c l p q m).2.2.1&&Bq (Hg r c l p q m).2.2.1))=wc/\(Cw (Fq r c l p q m)&&Cw (Iu r c l p q m))=wc:=by
 have o:Bq []=wc:=Bv.2 fun _ h=>by cases h
 have oo:Cw []=wc:=FO o (by decide);unfold Hd Hf He Hg Fq Iu gsO ZK;by_cases h:CX r c l p q m=0
 ·have h':¬CX r c l p q m≠0:=fun k=>k h
  rw[Ay h',Ay h',Ay h',Ay h',Ay h',Ay h'];have k:Wn r c l p q m=0:=Decidable.byContradiction fun k=>k ((Abn k).symm.trans h)
  obtain⟨R,C,P,rfl,rfl,rfl,rfl,g⟩:=Af3 k
  have kf:EY ((R:Int)+(P:Int)) (C:Int) (l++m)=0:=Decidable.byContradiction fun kf=>by have:=Ai6 k kf; rw[h] at this; cases this
  have ku:G7 (GD (R:Int) (C:Int) l (P:Int) m).1 (GD (R:Int) (C:Int) l (P:Int) m).2.1 (GD (R:Int) (C:Int) l (P:Int) m).2.2.1=0:=Decidable.byContradiction fun ku=>by have:=AfL k kf ku; rw[h] at this; exact ku this.symm
  obtain⟨⟨t1,_⟩,t3⟩:=g.parts al am kf;obtain⟨u1,u2,u3,u4⟩:=t1.upr ku;have hU:=g.prod al am kf ku;have hV:Lb C C (gsV (R:Int) (C:Int) l (P:Int) m):=u2;refine⟨?_,?_⟩
  ·rw[u1.wds,hU.wds,hV.wds,(g.thin al am kf).2.wds]; rfl
  ·rw[FO u3 (by rw[u4]; have:=u2.c6; omega),FO (Q6 _ _ _) (by rw[II,Ad]; have:=u2.c6; omega)]; rfl
 ·rw[Az h,Az h,Az h,Az h,Az h,Az h];exact⟨by rw[show Bq (Jw (CX r c l p q m)).2.2.1=wc from o]; rfl,by rw[oo]; rfl⟩
def AeG(x y u v:MX)(a b:Bf):List DV:=[.int .i64 x.1,.int .i64 x.2.1,.Bj .arg .u64 x.2.2.1,.int .i64 y.1,.int .i64 y.2.1,.Bj .arg .u64 y.2.2.1,.int .i64 u.1,.int .i64 u.2.1,.Bj .arg .u64 u.2.2.1,.int .i64 v.1,.int .i64 v.2.1,.Bj .arg .u64 v.2.2.1,.Bj .arg .u64 a,.Bj .arg .u64 b]
theorem Aaz{x y:Bool}:Wk [] (.CJ [.agg [.int .i64 (0:Int),.int .i64 (0:Int),.nil,.int .i64 (0:Int),.int .i64 (0:Int),.nil,.int .i64 (0:Int),.int .i64 (0:Int),.nil,.int .i64 (0:Int),.int .i64 (0:Int),.nil,.nil,.nil],.bool x,.bool y])
 (.CJ [.agg (AeG (Jw 0) (Jw 0) (Jw 0) (Jw 0) [] []),.bool x,.bool y]):=
 Wk.FQ (.cons (Wk.GA (.cons .int (.cons .int (.cons (.nil _ _) (.cons .int (.cons .int (.cons (.nil _ _) (.cons .int (.cons .int (.cons (.nil _ _) (.cons .int (.cons .int (.cons (.nil _ _) (.cons (.nil _ _) (.cons (.nil _ _) .nil))))))))))))))) (.cons .bool (.cons .bool .nil)))
theorem BS.asked.Bp:Kq 9 BS.asked.Bu:=E1 BS.asked.E Tryz.func9 (kc CG.CY.Bp (kc BS.fit.Bp (kc BY.FR.Bp .nil))) fun r c l p q m hp=>by
 have hall:(Bq l&&Bq m)=wc:=hp;obtain⟨al,am⟩:=Bi.1 hall;have k1:Ci (0<=(100:Int)/\(100:Int)<=1000)=wc:=Bv.2 (by decide);obtain⟨g1,g2⟩:=Aj1 (r:=r) (c:=c) (p:=p) (q:=q) al am;show ∃N dv drops,_=wM dv/\Wk drops dv (.CJ [.agg (AeG (Hn r c l p q m (Hd r c l p q m)) (Hn r c l p q m (Hf r c l p q m)) (Hn r c l p q m (He r c l p q m)) (Hn r c l p q m (Hg r c l p q m)) (WB r c l p q m (Fq r c l p q m)) (WB r c l p q m (Iu r c l p q m))),.bool (Nu r c l p q m),.bool (Pa r c l p q m)]);by_cases ht:Aak r c l p q m=wc
 ·have t1:(BD r c l&&G1 l 100)=wc:=(Bi.1 ht).1;have t2:(BD p q m&&G1 m 100)=wc:=(Bi.1 ht).2;by_cases h0:CX r c l p q m=0
  ·have hi:Nu r c l p q m=wc:=by unfold Nu; rw[ht,Ac h0]; rfl
   have ho:Pa r c l p q m=AcT r c p (Hd r c l p q m) (Hf r c l p q m) (He r c l p q m) (Hg r c l p q m) (Fq r c l p q m) (Iu r c l p q m):=by unfold Pa; rw[Az ht,Az h0]
   unfold Hn WB;rw[hi,ho,Az rfl,Az rfl,Az rfl,Az rfl,Az rfl,Az rfl]
   have w:Wk [] (.CJ [.agg [.int .i64 ((Hd r c l p q m).1),.int .i64 ((Hd r c l p q m).2.1),.Bj .arg .u64 ((Hd r c l p q m).2.2.1),.int .i64 ((Hf r c l p q m).1),.int .i64 ((Hf r c l p q m).2.1),.Bj .BE .u64 ((Hf r c l p q m).2.2.1),.int .i64 ((He r c l p q m).1),.int .i64 ((He r c l p q m).2.1),.Bj .BE .u64 ((He r c l p q m).2.2.1),.int .i64 ((Hg r c l p q m).1),.int .i64 ((Hg r c l p q m).2.1),.Bj .BE .u64 ((Hg r c l p q m).2.2.1),.Bj .BE .u64 (Fq r c l p q m),.Bj .BE .u64 (Iu r c l p q m)],.bool wc,.bool (AcT r c p (Hd r c l p q m) (Hf r c l p q m) (He r c l p q m) (Hg r c l p q m) (Fq r c l p q m) (Iu r c l p q m))])
    (.CJ [.agg (AeG (Hd r c l p q m) (Hf r c l p q m) (He r c l p q m) (Hg r c l p q m) (Fq r c l p q m) (Iu r c l p q m)),.bool wc,.bool (AcT r c p (Hd r c l p q m) (Hf r c l p q m) (He r c l p q m) (Hg r c l p q m) (Fq r c l p q m) (Iu r c l p q m))]):=
    Wk.FQ (.cons (Wk.GA (.cons .int (.cons .int (.cons .WC (.cons .int (.cons .int (.cons (.BE _ _) (.cons .int (.cons .int (.cons (.BE _ _) (.cons .int (.cons .int (.cons (.BE _ _) (.cons (.BE _ _) (.cons (.BE _ _) .nil))))))))))))))) (.cons .bool (.cons .bool .nil)))
   refine⟨0,_,[],?_,w⟩;rw[BS.asked.ev,al,am,k1,Ah,Aa,AV,Aa,t1,t2,AH,x8,Af,Aa,M8 h0,Af,g1,g2,Ah,Aa];rfl
  ·have hi:Nu r c l p q m=wh:=by unfold Nu; rw[Ag h0,Bool.and_false]
   have ho:Pa r c l p q m=decide (CX r c l p q m=3\/CX r c l p q m=6):=by unfold Pa; rw[Az ht,Ay h0]
   have eo:(cond ((CX r c l p q m)==(3:Int)) wc ((CX r c l p q m)==(6:Int)))=decide (CX r c l p q m=3\/CX r c l p q m=6):=by by_cases a:CX r c l p q m=3<;>by_cases b:CX r c l p q m=6<;>simp[a,b]
   unfold Hn WB;rw[hi,ho,Ay (by decide),Ay (by decide),Ay (by decide),Ay (by decide),Ay (by decide),Ay (by decide)];refine⟨0,_,[],?_,Aaz⟩;rw[BS.asked.ev,al,am,k1,Ah,Aa,AV,Aa,t1,t2,AH,x8,Af,Aa,neI h0,Aa,eo]
 ·have hi:Nu r c l p q m=wh:=by
   unfold Nu;cases h:Aak r c l p q m with
   | true=>exact absurd h ht
   | false=>rfl
  have ho:Pa r c l p q m=wc:=by unfold Pa; rw[Ay ht]
  unfold Hn WB;rw[hi,ho,Ay (by decide),Ay (by decide),Ay (by decide),Ay (by decide),Ay (by decide),Ay (by decide)];refine⟨0,_,[],?_,Aaz⟩;rw[BS.asked.ev,al,am,k1,Ah,Aa,AV,Aa]
  have e:((!(BD r c l&&G1 l 100))||(!(BD p q m&&G1 m 100)))=wc:=by
   unfold Aak at ht;cases h1:(BD r c l&&G1 l 100) with
   | false=>rfl
   | true =>
     cases h2:(BD p q m&&G1 m 100) with
     | false=>rfl
     | true=>exact absurd (by rw[h1,h2]; rfl) ht
  rw[e,Aa]
theorem Akk{R C:Nat}{l:Bf}(r6:R<=6)(c6:C<=6)(hl:l.length=R*C)(al:Bq l=wc)(N M0:Nat)(a1 b1:Int)(l1:Bf)(a3 b3:Int)(l3:Bf)(a4 b4:Int)(l4 x y:Bf){i:Nat}(hi:i<C)
 (h:∀k,i<k->k<C->Ia R C l i k*Ia R C l i k<=1*tw (-50)+tw (-4000)):∀d k F,k+d=C->d<F->i<k ->
 BS.Ca.L1 N M0 F a1 b1 l1 (R:Int) (C:Int) l a3 b3 l3 a4 b4 l4 x y (k:Int) (i:Int)=BS.Ca.L0 N M0 a1 b1 l1 (R:Int) (C:Int) l a3 b3 l3 a4 b4 l4 x y ((i+1:Nat):Int):=by
 intro d
 induction d with
 | zero =>
   intro k F hk hF _;obtain⟨F,rfl⟩:∃G,F=G+1:=⟨F-1,by omega⟩
   obtain rfl:k=C:=by omega
   rw[BS.Ca.CU,B8,Ag (by omega),Af,Bz (by omega) (by omega)];rfl
 | succ d ih =>
   intro k F hk hF hik;obtain⟨F,rfl⟩:∃G,F=G+1:=⟨F-1,by omega⟩
   obtain⟨p1,p3,p5⟩:=MC r6 c6 hl al hi (show k<C by omega);have p2:=(MC r6 c6 hl al (show k<C by omega) hi).1;have e1:(k:Int)+1=((k+1:Nat):Int):=by omega
   have eR:wi ((R:Int)-0)=R:=by rw[x5,Ad]
   have k2:Ci (0<=(25:Int)/\(25:Int)<=1000)=wc:=Bv.2 (by decide);have d6:Ds (Ia R C l i k*Ia R C l i k):=((RY r6 i k).mul (RY r6 i k)).ds (by decide) (by decide) (by decide);have d1:Ds (1:Rat):=Dg.one.ds (by decide) (by decide) (by decide);have hk':=h k hik (by omega);have e50:(-2*(25:Int))=-50:=rfl;rw[BS.Ca.CU,B8,Ac (show(k:Int)<(C:Int) by omega),Aa,p1,Aa,p2,Aa,eR,p3,Aa,Wo,GV p5,Ah,Aa,FX p5,Ww d6,Ww d1,k2,Ah,Ah,Aa,FX d6.dq,FX d1.dq,e50,Ac hk',AH,Af,Bz (by omega) (by omega),e1];exact ih (k+1) F (by omega) (by omega) (by omega)
theorem Akl{R C:Nat}{l:Bf}(r6:R<=6)(c6:C<=6)(hl:l.length=R*C)(al:Bq l=wc)(N:Nat)(hN:7<N)(a1 b1:Int)(l1:Bf)(a3 b3:Int)(l3:Bf)(a4 b4:Int)(l4 x y:Bf)
 (h:∀i k,i<k->k<C->Ia R C l i k*Ia R C l i k<=1*tw (-50)+tw (-4000)):∀d i F,i+d=C->d<F ->
 BS.Ca.L0 N F a1 b1 l1 (R:Int) (C:Int) l a3 b3 l3 a4 b4 l4 x y (i:Int)=wM (.bool wc):=by
 intro d
 induction d with
 | zero =>
   intro i F hi hF;obtain⟨F,rfl⟩:∃G,F=G+1:=⟨F-1,by omega⟩
   obtain rfl:i=C:=by omega
   rw[BS.Ca.B7,B8,Ag (by omega),Af]
 | succ d ih =>
   intro i F hi hF;obtain⟨F,rfl⟩:∃G,F=G+1:=⟨F-1,by omega⟩
   have e1:(i:Int)+1=((i+1:Nat):Int):=by omega
   rw[BS.Ca.B7,B8,Ac (show(i:Int)<(C:Int) by omega),Aa,Bz (by omega) (by omega),e1];exact(Akk r6 c6 hl al N F a1 b1 l1 a3 b3 l3 a4 b4 l4 x y (show i<C by omega) (fun k h1 h2=>h i k h1 h2) d (i+1) N (by omega) (by omega) (by omega)).trans (ih (i+1) F (by omega) (by omega))
end Go.Proofs.S1
namespace Go.Cn
open Go.Den
theorem Ah0{k:Nat}{x:Bf}(hk:k+4<=1000)(hx:Bl k x)(hl:x.length<=7)(h0:x.length≠0):(Cm x).2.2.2=0:=by
 unfold Cm;have hf:=hx.FJ;rw[Ay (by omega),Az hf];unfold Z0;by_cases h3:Fg (x.drop 1)=wc
 ·rw[Az h3]
 ·rw[Ay h3];have hs:=QJ h3;obtain⟨m1,-⟩:=XD hf hl hs
  have hb:Bd (k+4) (FC x).toNat:=by unfold FC;rw[Co];exact Bd.scale (by omega) m1 (by have:=AfK hx hs; omega)
  rw[Az (show Du (FC x)=wc from hb.fin)]
theorem Abu{r c:Nat}(hr:r<=7):∀(n j k:Nat) (l:Bf),Bl k l->Bq l=wc->k+11*n<=990->j+n<r->∃x,Ix r c n j l=wM x
 | 0,_,_,l,_,_,_,_=>⟨(l,[]),rfl⟩
 | n+1,j,k,l,hl,al,hk,hj=>by
   have h1:(Cm (D5 r c l j)).2.2.2=0:=by
    have e:(D5 r c l j).length=r-j:=by unfold D5; rw[Dv]
    exact Ah0 (k:=k) (by omega) (S8 hl) (by omega) (by omega)
   obtain⟨b1,-⟩:=Wb (by omega) hl al hr h1;obtain⟨x,hx⟩:=Abu (c:=c) hr n (j+1) (k+11) _ b1 (NO al j) (by omega) (by omega);refine⟨(x.1,((Cm (D5 r c l j)).1,(Cm (D5 r c l j)).2.1)::x.2),?_⟩;unfold Ix;rw[Az h1,hx];rfl
theorem AfS{r c:Nat}(h:r≠0):0+ER r c<r:=by unfold ER; omega
def dl(a m:Nat):Rat:=if a=m then 1 else 0
section
variable{r c j k b K:Nat}{q v:Bf}{t:Int}{s:Rat}
theorem AiT(hn:j+(k+1)=r)(hr:r<=6)(hb:b<r)(aq:Bq q=wc)(hq:Bl K q)(hK:K<=900)(vl:v.length=k+1)(mb1:Bl 1 v)(mb2:Bd 5 t.toNat)(M:Mi r (vx j (rv v)) (vR t.toNat))(hs:Ln r (cl r q b) s):
 Ln r (fun i=>cl r (F5 r r q (j:Int) 0 v t) b i-vH r (vx j (rv v)) (vR t.toNat) (cl r q b) i) (120*uR*s+100*Cl):=by
 subst hn;have hsb:=hs.behind;have vv:=M.vv;rw[Ad2] at vv;have A:=Vj (c:=((j+(k+1):Nat):Int)) (i:=(j:Int)) (b:=(b:Int)) (t:=t) (s:=s) vl (by omega) hK aq hq mb1 mb2 vv M.tb (hsb.congr fun m hm=>S7 hm);refine Ln.tail (s:=120*uR*s+100*Cl) (fun i hi=>?_) ?_
 ·rw[Uj,Az hi];unfold cl;rw[QQ (by omega) hb];unfold Gv;rw[Ay (by omega)]; grind
 ·refine A.congr fun m hm=>?_
  rw[Uj,Ay (by omega),xF];have e:vH (k+1) (rv v) (vR t.toNat) (fun m=>cl (j+(k+1)) q b (j+m)) m=vH (k+1) (rv v) (vR t.toNat) (rv (BQ ((j+(k+1):Nat):Int) q (b:Int) (j:Int) (k+1))) m:=Ph (fun m hm=>(S7 hm).symm) hm;rw[e];unfold cl;rw[QQ (by omega) hb];unfold Gv;rw[Az (by omega),show(((j+m:Nat):Int)-(j:Int)).toNat=m by omega,zI j m]
end
structure Ag2(r c n:Nat)(l R Q:Bf):Prop where
 q1:∀m,m<r->Ln r (cl r Q m) (1+1000*uR*(n:Rat))
 q2:∀a m,a<r->m<r->av ((sm r fun i=>cl r Q a i*cl r Q m i)-dl a m)<=1000*uR*(n:Rat)
 f1:∀b s,b<c->tw (-900)<=s->Ln r (cl c l b) s->Ln r (cl c R b) ((1+1000*uR*(n:Rat))*s)
 f2:∀b s,b<c->tw (-900)<=s->Ln r (cl c l b) s->Ln r (fun i=>cl c l b i-sm r fun m=>cl r Q m i*cl c R b m) (1400*uR*(n:Rat)*s)
theorem T6{r a i:Nat}(ha:a<r)(hi:i<r):cl r (Fi r) a i=dl a i:=by
 unfold cl Fi;rw[F6 hi ha];unfold LS dl;by_cases h:a=i
 ·rw[Az (by omega),Az h]; exact YG
 ·rw[Ay (by omega),Ay h]; exact HB wh
theorem AfE(r c:Nat)(l:Bf):Ag2 r c 0 l l (Fi r):=by
 have z:((0:Nat):Rat)=0:=rfl
 have d:∀a m,a<r->m<r->(sm r fun i=>cl r (Fi r) a i*cl r (Fi r) m i)=dl a m:=fun a m ha hm=>by
  rw[O9 (k:=a) ha fun i hi h=>by rw[T6 ha hi];unfold dl;rw[Ay (by omega)]; grind]
  rw[T6 ha ha,T6 hm ha];unfold dl;rw[Az rfl];by_cases h:a=m
  ·rw[Az h,Az h.symm]; grind
  ·rw[Ay h,Ay (fun e=>h e.symm)]; grind
 refine⟨fun m hm=>⟨by rw[z]; grind,?_⟩,fun a m ha hm=>?_,fun b s hb hs h=>h.mono (by rw[z]; grind),fun b s hb hs h=>?_⟩
 ·have:=d m m hm hm;unfold sq;rw[this,z];unfold dl;rw[Az rfl]; grind
 ·rw[d a m ha hm,z]
  have:av (dl a m-dl a m)=0:=by rw[Rat.sub_self]; decide
  rw[this]; grind
 ·refine((Ln.zero r).congr fun i hi=>?_).mono (by rw[z]; grind)
  rw[O9 (k:=i) hi fun m hm hne=>by rw[T6 hm hi];unfold dl;rw[Ay hne]; grind]
  rw[T6 hi hi];unfold dl;rw[Az rfl]; grind
open Go.Den
theorem AjC{s:Rat}(h:tw (-900)<=s):100*Cl<=uR*s:=by
 have h1:100*Cl<=uR*tw (-900):=by decide +kernel
 have h2:=Hi h;grind
theorem AmI{u N s:Rat}(hu:0<=u)(hu2:u<=1 / 1000000)(hN:0<=N)(hN5:N<=5)(hs:0<=s):(1+250*u)*(1400*u*N*((1+456*u)*s))<=1400*u*N*s+20*u*s:=by have U:=zb hu hs;have p1:=CM hN5 hu2 (by decide) hu;have p2:=zc p1 U;have p3:=CM hu2 hu2 (by decide +kernel) hu;have p4:=zc p3 U;have p5:=zc hu2 (zb (zb hN hu) U);grind
theorem Alm{u N s:Rat}(hu:0<=u)(hu2:u<=1 / 1000000)(hN5:N<=5)(hs:0<=s):(1+1000*u*N)*((1+456*u)*s)<=(1+1000*u*(N+1))*s:=by have U:=zb hu hs;have p1:=CM hN5 hu2 (by decide) hu;have p2:=zc p1 U;grind
theorem AmH{u N:Rat}(hu:0<=u)(hu2:u<=1 / 1000000)(hN:0<=N)(hN5:N<=5):1000*u*N<=1 / 100/\0<=u*N:=by have p1:=CM hN5 hu2 (by decide) hu;have:=zb hu hN;grind
section
variable{r c n:Nat}{l l1 R Q Q':Bf}{w:Nat->Rat}{t:Rat}
theorem AfD(n4:n<=5)(r9:r<=9)(M:Mi r w t)
 (hl:∀b s,b<c->Ln r (cl c l b) s->Ln r (fun i=>cl c l1 b i-vH r w t (cl c l b) i) (205*uR*s+100*Cl))
 (hQ:∀b s,b<r->Ln r (cl r Q' b) s->Ln r (fun i=>cl r Q b i-vH r w t (cl r Q' b) i) (120*uR*s+100*Cl))
 (ih:Ag2 r c n l1 R Q'):Ag2 r c (n+1) l R Q:=by
 have u0:=za Dd;have us:=GL;have e0:=DY;have N1:((n+1:Nat):Rat)=(n:Rat)+1:=yg n 1;have N0:(0:Rat)<=(n:Rat):=GR n;have N5:(n:Rat)<=5:=C1 n4;obtain⟨s1,s2⟩:=AmH u0 us N0 N5;have e1:100*Cl<=uR:=by decide +kernel
 have hx:120*uR*(1+1000*uR*(n:Rat))+100*Cl<=123*uR:=by have:=Hi s1;grind
 have e:=fun b (hb:b<r)=>(hQ b _ hb (ih.q1 b hb)).mono hx
 have hh:=fun b (hb:b<r)=>Vw M (ih.q1 b hb)
 have q1:∀m,m<r->Ln r (cl r Q m) (1+1000*uR*((n:Rat)+1)):=fun m hm=>by refine(((e m hm).add (hh m hm)).congr fun i _=>by grind).mono ?_;have:=Hi s1;grind
 have s1':=fun(b:Nat) (s:Rat) (hb:b<c) (hs:tw (-900)<=s) (h:Ln r (cl c l b) s)=>by have h1:=(hl b s hb h).mono (t:=206*uR*s) (by have:=AjC hs; grind);have h2:Ln r (cl c l1 b) ((1+456*uR)*s):=((h1.add (Vw M h)).congr fun i _=>by grind).mono (by grind);exact And.intro h1 h2
 have ss:=fun(s:Rat) (hs:tw (-900)<=s)=>by have t0:=En (-900);have:=zb u0 (show 0<=s by grind);exact(show 0<=s/\0<=uR*s/\tw (-900)<=(1+456*uR)*s by grind)
 refine⟨by rw[N1]; exact q1,fun a m ha hm=>?_,fun b s hb hs h=>?_,fun b s hb hs h=>?_⟩
 ·rw[N1];have d:=AdC (r:=r) (v:=w) (t:=t) (a:=cl r Q' a) (cl r Q' m);have i2:=ih.q2 a m ha hm;have da:=M.lv.dot (ih.q1 a ha);have dm:=M.lv.dot (ih.q1 m hm);have x1:=(hh a ha).dot (e m hm);have x2:=(e a ha).dot (q1 m hm)
  have es:(sm r fun i=>cl r Q a i*cl r Q m i)=(sm r fun i=>vH r w t (cl r Q' a) i*vH r w t (cl r Q' m) i)+((sm r fun i=>vH r w t (cl r Q' a) i*(cl r Q m i-vH r w t (cl r Q' m) i))+(sm r fun i=>(cl r Q a i-vH r w t (cl r Q' a) i)*cl r Q m i)):=by rw[<- Eo,<- Eo];exact BG r fun i _=>by grind
  rw[es,d];clear es d
  have k1:av (t*(t*sq r w-2)*((sm r fun i=>w i*cl r Q' a i)*sm r fun i=>w i*cl r Q' m i))<=220*uR*(24 / 10):=by
   have b1:av (sm r fun i=>w i*cl r Q' a i)<=3 / 2*(101 / 100):=by have:=F4 da; grind
   have b2:av (sm r fun i=>w i*cl r Q' m i)<=3 / 2*(101 / 100):=by have:=F4 dm; grind
   have b3:=CM b1 b2 (by decide +kernel) (DK _);rw[<- Ef] at b3;have b4:=CM M.tt b3 (by grind) (DK _);rw[<- Ef] at b4;have:220*uR*(3 / 2*(101 / 100)*(3 / 2*(101 / 100)))<=220*uR*(24 / 10):=by grind
   exact zp b4 this
  have x1':=F4 x1;have x2':=F4 x2
  have n1:(1+250*uR)*(1+1000*uR*(n:Rat))*(123*uR)<=126*uR:=by
   have h1:(1+250*uR)*(1+1000*uR*(n:Rat))<=102 / 100:=by have:=Hi s1;grind
   have:=zc h1 (show 0<=123*uR by grind);grind
  have n2:123*uR*(1+1000*uR*((n:Rat)+1))<=126*uR:=by
   have h1:1+1000*uR*((n:Rat)+1)<=102 / 100:=by grind
   have:=zc h1 (show 0<=123*uR by grind);grind
  generalize (sm r fun i=>cl r Q' a i*cl r Q' m i)=A at *
  generalize t*(t*sq r w-2)*((sm r fun i=>w i*cl r Q' a i)*sm r fun i=>w i*cl r Q' m i)=B at *
  generalize (sm r fun i=>vH r w t (cl r Q' a) i*(cl r Q m i-vH r w t (cl r Q' m) i))=C at *
  generalize (sm r fun i=>(cl r Q a i-vH r w t (cl r Q' a) i)*cl r Q m i)=D at *
  have g1:=Hm (A-dl a m) (B+(C+D));have g2:=Hm B (C+D);have g3:=Hm C D;have g4:A+B+(C+D)-dl a m=A-dl a m+(B+(C+D)):=by grind
  rw[g4];clear g4 da dm x1 x2 e hh q1 s1' ss hl hQ M ih;grind
 ·rw[N1];obtain⟨z1,z2,z3⟩:=ss s hs;exact(ih.f1 b _ hb z3 (s1' b s hb hs h).2).mono (Alm u0 us N5 z1)
 ·rw[N1];obtain⟨z1,z2,z3⟩:=ss s hs;obtain⟨h1,h2⟩:=s1' b s hb hs h;have p1:=AgD M h;have p2:=Vw M h1;have p3:=Vw M (ih.f2 b _ hb z3 h2);have R1:=(ih.f1 b _ hb z3 h2).mono (Alm u0 us N5 z1);have p4:=Ajq (e:=fun m i=>cl r Q m i-vH r w t (cl r Q' m) i) (show 0<=123*uR by grind) r9 e R1;have hall:=((p1.sub p2).add p3).sub p4;refine(hall.congr fun i hi=>?_).mono ?_
  ·have y1:=AdA (r:=r) (v:=w) (t:=t) (a:=cl c l1 b) (vH r w t (cl c l b)) i;have y2:=AdA (r:=r) (v:=w) (t:=t) (a:=cl c l1 b) (fun i=>sm r fun m=>cl r Q' m i*cl c R b m) i;have y3:=Ad9 (r:=r) (v:=w) (t:=t) (fun m=>cl r Q' m) (fun m=>cl c R b m) i r
   have y4:(sm r fun m=>cl r Q m i*cl c R b m)=(sm r fun m=>vH r w t (cl r Q' m) i*cl c R b m)+(sm r fun m=>(cl r Q m i-vH r w t (cl r Q' m) i)*cl c R b m):=by rw[<- Eo];exact BG r fun m _=>by grind
   rw[y1,y2,y4,y3];grind
  ·have q1:=AmI u0 us N0 N5 z1
   have q2:(1+250*uR)*(206*uR*s)<=210*uR*s:=by have:=zc us z2;grind
   have q3:3*(123*uR)*((1+1000*uR*((n:Rat)+1))*s)<=380*uR*s:=by
    have h1:1+1000*uR*((n:Rat)+1)<=102 / 100:=by grind
    have:=zc h1 z2;grind
   grind
end
theorem AgU(n:Nat)(x:Nat->Rat):Ln n x (sq n x+1):=by
 have h0:=Mn n x;refine⟨by grind,?_⟩;generalize sq n x=q at *
 have:=BX q;grind
theorem AjJ{r c j k:Nat}{l:Bf}(hn:j+(k+1)=r)(hr:r<=6)(al:Bq l=wc)(he:(Cm (D5 r c l j)).2.2.2=0):Mi r (vx j (rv (Cm (D5 r c l j)).1)) (vR (Cm (D5 r c l j)).2.1.toNat)/\(Cm (D5 r c l j)).1.length=k+1:=by
 have lc:(D5 r c l j).length=k+1:=by unfold D5; rw[Dv]; omega
 have ac:Bq (D5 r c l j)=wc:=HJ al;have ml:=Lu he;subst hn;exact⟨Ac8 (SZ lc (by omega) ac he (AgU _ _)),by omega⟩
theorem Abj{r c:Nat}(hr:r<=6):∀(n j K:Nat) (l:Bf) (x:Bf × List (Bf × Int)),Bl K l->Bq l=wc->K+11*n<=900->(∀b i:Nat,b<j->b<i->i<r->cl c l b i=0)->j+n<=c->n=0\/j+n<r->Ix r c n j l=wM x ->
 Ag2 r c n l x.1 (Ie r j x.2 (Fi r))/\∀b i:Nat,b<j+n->b<i->i<r->cl c x.1 b i=0
 | 0,j,K,l,x,_,_,_,hz,_,_,h=>by cases h;exact⟨AfE r c l,hz⟩
 | n+1,j,K,l,x,hK,al,hK9,hz,hc,hj,h=>by
   unfold Ix at h;by_cases h1:(Cm (D5 r c l j)).2.2.2=0
   ·rw[Az h1,Option.map_eq_some_iff] at h;obtain⟨y,hy,rfl⟩:=h;have hj:j+(n+1)<r:=by omega
    obtain⟨k,hk⟩:∃k,j+(k+1)=r:=⟨r-j-1,by omega⟩
    obtain⟨M,ml⟩:=AjJ hk hr al h1;obtain⟨b1,b2,b3,b4⟩:=Wb (by omega) hK al (by omega) h1;have al1:=NO (r:=r) (c:=c) al j;obtain⟨ih1,ih2⟩:=Abj hr n (j+1) (K+11) (Mu r c l j) y b1 al1 (by omega) (AbT (by omega) hz) (by omega) (by omega) hy;obtain⟨d1,d2,d3⟩:=T1 (by omega) n (j+1) (K+11) _ y b1 al1 (by omega) hy;have qb:=TD (n:=r) y.2 (j+1) 0 (Fi r) d2 (Abm r) (by omega);have qi:=(PY r y.2 (j+1) (Fi r) (Sb r) (by unfold Fi; exact Ch _ _ _)).1;refine⟨?_,fun b i hb=>ih2 b i (by omega)⟩
    exact AfD (by omega) (by omega) M (fun b s hb hs=>Aeh hk hr (by omega) hb al hK (by omega) h1 hz hs)
     (fun b s hb hs=>AiT hk hr hb qi qb (by omega) ml b2 b3 M hs) ih1
   ·rw[Ay h1] at h; cases h
theorem N9(f:Nat->Nat->Rat)(r:Nat):∀c,(sm c fun b=>sm r fun i=>f b i)=sm r fun i=>sm c fun b=>f b i
 | 0=>by
   show(0:Rat)=sm r fun _=>0
   rw[GC]
 | c+1=>by
   show(sm c fun b=>sm r fun i=>f b i)+(sm r fun i=>f c i)=sm r fun i=>(sm c fun b=>f b i)+f c i
   rw[N9 f r c,<- Eo]
def Fn(r c:Nat)(M:Nat->Nat->Rat)(S:Rat):Prop:=0<=S/\(sm c fun b=>sq r (M b))<=S*S
section
variable{r c:Nat}{M N:Nat->Nat->Rat}{S T t:Rat}{x y:Nat->Rat}
theorem Fn.of{s:Nat->Rat}(h:∀b,b<c->Ln r (M b) (s b))(hS:0<=S)(k:(sm c fun b=>s b*s b)<=S*S):Fn r c M S :=⟨hS,zp (Jz c fun b hb=>(h b hb).2) k⟩
theorem Fn.same{x:Rat}(h:∀b,b<c->Ln r (M b) x)(hx:0<=x)(c9:c<=9):Fn r c M (3*x):=by refine Fn.of (s:=fun _=>x) h (by grind) ?_;rw[Lj];have h2:(c:Rat)<=9:=C1 c9;have:=zc h2 (BX x);grind
theorem Fn.row(h:Fn r c M S){i:Nat}(hi:i<r):Ln c (fun b=>M b i) S :=⟨h.1,zp (Jz c fun b _=>N8 (f:=fun i=>M b i*M b i) hi fun _ _=>BX _) h.2⟩
theorem Fn.AdR(h:Fn r c M S):Fn c r (fun i b=>M b i) S:=by refine⟨h.1,?_⟩;have:=h.2;unfold sq at this ⊢;rw[N9 (fun b i=>M b i*M b i)] at this;exact this
theorem Fn.mul(h:Fn r c M S)(hx:Ln c x t):Ln r (fun i=>sm c fun b=>M b i*x b) (S*t):=by
 refine⟨zb h.1 hx.1,?_⟩
 have h1:sq r (fun i=>sm c fun b=>M b i*x b)<=sm r fun i=>sq c x*sq c (fun b=>M b i):=Jz r fun i _=>by have:=cs (fun b=>M b i) x c;grind
 rw[ES] at h1;have h2:=h.AdR.2;have h3:=CM h2 hx.2 (BX S) (Mn c x);grind
theorem Fn.Ir{B:Rat}(hB:0<=B)(h:∀b i,b<c->i<r->Ab (M b i) B)(c6:c<=6)(r6:r<=6):Fn r c M (6*B):=by
 refine⟨by grind,?_⟩
 have sqa:∀{y:Rat},Ab y B->y*y<=B*B:=fun {y} hy=>by
  unfold Ab at hy;rcases(yQ:(0:Rat)<=y\/y<=0) with g | g
  ·exact Hj g hy.2
  ·have:=Hj (x:=-y) (y:=B) (by grind) (by grind);grind
 have h1:(sm c fun b=>sq r (M b))<=sm c fun _=>sm r fun _=>B*B:=Jz c fun b hb=>Jz r fun i hi=>sqa (h b i hb hi)
 rw[Lj,Lj] at h1;have h2:(c:Rat)<=6:=C1 c6;have h3:(r:Rat)<=6:=C1 r6;have h4:=CM h2 h3 (by decide) (GR r);have:=zc h4 (BX B);grind
end
theorem Acj{q:Rat}(hq:0<q):∃s:Rat,0<s/\q<=s*s/\s*s<=103 / 100*q:=by
 have hd:(0:Rat)<(q.den:Rat):=by have:=q.den_pos;exact Rat.natCast_pos.2 this
 have hn:0<q.num:=by
  have h1:=Rat.num_nonneg.2 (za hq)
  have h2:q.num≠0:=fun e=>by have:=Rat.num_eq_zero.1 e;rw[this] at hq;exact absurd hq (by decide)
  omega
 obtain⟨N,hN⟩:∃N:Nat,q.num=(N:Int):=⟨q.num.toNat,by omega⟩
 have e1:q*(q.den:Rat)=(N:Rat):=by have h:q=mkRat q.num q.den:=(Rat.mkRat_self q).symm;rw[Rat.mkRat_eq_div,hN] at h;have h2:q*(q.den:Rat)=((N:Int):Rat) / (q.den:Rat)*(q.den:Rat):=congrArg (·*(q.den:Rat)) h;rw[h2,Ks (by grind)];exact Rat.intCast_natCast N
 have hN1:1<=N:=by omega
 have hD1:1<=q.den:=q.den_pos;generalize q.den=D at *
 have hs:=Jk (N*D*10000)
 have h100:100<=I9 (N*D*10000):=Wj (by have:=AE hN1 hD1;omega)
 have e2:q*((100*(D:Rat))*(100*(D:Rat)))=((N*D*10000:Nat):Rat):=by rw[zP,zP];have:((10000:Nat):Rat)=10000:=rfl;rw[this];grind
 generalize N*D*10000=n at *
 generalize I9 n=r at *
 have a1:=C1 (Nat.le_of_lt hs.2);have a2:=C1 hs.1;have a3:=C1 h100;rw[zP,yg] at a1;rw[zP] at a2;have o1:((1:Nat):Rat)=1:=rfl;have o2:((100:Nat):Rat)=100:=rfl;rw[o1] at a1;rw[o2] at a3;have hp:0<100*(D:Rat):=by grind
 generalize 100*(D:Rat)=p at *
 generalize (r:Rat)=ρ at *
 generalize (n:Rat)=ν at *
 have pp:0<p*p:=z8 hp hp;have hs':(ρ+1) / p*p=ρ+1:=by grind
 generalize (ρ+1) / p=s at *
 have hs0:0<s:=by
  rcases(yQ:s<=0\/0<=s) with h | h
  ·have:=zb (show 0<=-s by grind) (za hp);grind
  ·have:s≠0:=fun e=>by rw[e] at hs'; grind
   grind
 have e3:s*s*(p*p)=(ρ+1)*(ρ+1):=by
  have:s*s*(p*p)=(s*p)*(s*p):=by grind
  rw[this,hs']
 refine⟨s,hs0,?_,?_⟩
 ·refine zQ ?_ pp;rw[e2,e3]; exact a1
 ·refine zQ ?_ pp;rw[show 103 / 100*q*(p*p)=103 / 100*(q*(p*p)) by grind,e2,e3];have b1:=zc a3 (show 0<=ρ by grind);grind
section
variable{c:Int}{l:Bf}{i:Int}{p P:Nat}
end
section
variable{c n p t:Nat}{l:Bf}{b:Nat->Int}
end
section
variable{c:Int}{l:Bf}{i:Int}{p P:Nat}
end
section
variable{c n p t:Nat}{l:Bf}{b:Nat->Int}{T x B:Rat}
end
section
variable{r c:Nat}{M R q:Nat->Nat->Rat}{x b c1:Nat->Rat}{S X B P e:Rat}
end
end Go.Cn
namespace Go.Proofs.S1
open Go Go.Den Go.Cn Go.Proofs
def BL(k:Nat)(l:Bf):Prop:=∀x∈l,Bd k x.toNat
theorem AgQ{k:Nat}{x:Int}(h:Xd (k:Int) x=wc):Bd k x.toNat:=by
 unfold Xd at h;rw[Am,zH,Am,Ai,Ai,Ai] at h;obtain⟨hf,h⟩:=h;refine .Ajm hf fun h0=>?_
 have kn:Bn x.toNat≠0:=fun e=>by
  unfold Bn at e;unfold Bx at h0;split at e
  ·split at e<;>omega
  ·split at e
   ·omega
   ·split at e
    ·omega
    ·rw[Az (by omega)] at h0; omega
 rcases h with h | ⟨_,h⟩
 ·exact absurd (show Bn x.toNat=0 by unfold BF at h; omega) kn
 ·unfold BO Em at h;rw[Az ⟨hf,kn⟩] at h;exact h
theorem Ut{k:Nat}{l:Bf}(h:G1 l (k:Int)=wc):BL k l/\Dx l=wc:=by unfold G1 at h;rw[zF] at h;refine⟨fun x hx=>AgQ (h x hx),?_⟩;unfold Dx;rw[zF];exact fun x hx=>(Bi.1 (h x hx)).1
open Go Go.Den Go.Cn Go.Proofs
end Go.Proofs.S1
namespace Go.Cn
open Go.Den Go.Proofs.S1
open Go.Den Go.Proofs.S1
def QX(r c:Nat)(l:Bf):Bf:=Dj c c fun i k=>Dy (c:Int) (IA r c l) (i:Int) (k:Int)
def MF(r c:Nat)(l:Bf):Bf:=Dj r c fun i k=>Dy (r:Int) (Iw r c l) (i:Int) (k:Int)
theorem Q4{R C a b:Nat}{l:Bf}(hr:BD (R:Int) (C:Int) l=wc)(ha:a<=R)(hb:b<=C):Ff (R:Int) (C:Int) l 0 0 (a:Int) (b:Int)=((a:Int),(b:Int),Dj a b fun i k=>Dy (C:Int) l (i:Int) (k:Int),0):=by
 unfold Ff;rw[Az hr,Az (show Kg (R:Int) (C:Int) 0 0 (a:Int) (b:Int)=wc from Ac (by omega)),Ad,Ad];have:(fun i k:Nat=>Dy (C:Int) l (0+(i:Int)) (0+(k:Int)))=fun i k:Nat=>Dy (C:Int) l (i:Int) (k:Int):=funext fun i=>funext fun k=>by rw[yy,yy]
 rw[this]
theorem AeZ{R C K:Nat}{l m:Bf}(hl:BD (R:Int) (K:Int) l=wc)(hm:BD (K:Int) (C:Int) m=wc):ON (R:Int) (K:Int) l (K:Int) (C:Int) m=((R:Int),(C:Int),Dj R C fun i k=>EU (JB (K:Int) l (i:Int)) (Mv (K:Int) (C:Int) m (k:Int)),0):=by unfold ON;rw[hl,hm,Ah,Az rfl,Az rfl,Ad,Ad]
section
variable{r c q:Nat}{l m:Bf}
end
open Go.Den
def Np(a:Nat):Prop:=Nn a/\Bn a≠4
theorem UO(s:Bool):Bn (Cq s 0)≠4:=(Bd.zero s 0).2.1
theorem SV{z:Nat}(h4:Bn z≠4):Np (Ee z z).1:=by
 refine⟨Aen.1,?_⟩;unfold Ee;rw[Ay (fun h=>h.elim h4 h4)];split
 ·split
  ·rename_i h3 h0;exfalso;omega
  ·cases Ce z<;>decide +kernel
 ·exact Gd _ _ _
theorem Aap{s t:Nat}(hs:Np s)(ht:Np t):Np (DS s t).1:=by
 refine⟨(TJ hs.1 ht.1).1,?_⟩;unfold DS;rw[Ay (fun h=>h.elim hs.2 ht.2)];split
 ·rename_i s3;split
  ·rename_i h;exact absurd ((Tp hs.1 s3).trans (Tp ht.1 h.1).symm) h.2
  ·exact hs.2
 ·split
  ·exact ht.2
  ·unfold HK;split
   ·exact UO _
   ·exact Gd _ _ _
theorem RH{b:Nat}(h:Np b):Np (Ek b).1:=by
 by_cases k:Bn b=0\/b=Er
 ·rw[IF h.2 k]; exact h
 ·rw[MH h.2 k (EF h.1)];have:=Gd wh (Ec (Bx b*2^E6 b)) ((B6 b-E6 b) / 2-1);rw[F2] at this;exact⟨IZ _ _,this⟩
theorem Q5:Np 4607182418800017408/\TN 4607182418800017408:=⟨⟨by unfold Nn; rw[Fc]; decide,by decide +kernel⟩,by unfold TN; rw[Ry,Fc]; decide⟩
theorem LL:Bd 0 4607182418800017408:=by refine .JE (by decide) (by decide +kernel) ?_;rw[Ry]; decide
theorem AfW{d:Nat}(h4:Bn d≠4)(hb:TN d):Bd 0 (K5 4607182418800017408 d).1:=by
 by_cases h3:Bn d=3
 ·have:(K5 4607182418800017408 d).1=Cq (Ce 4607182418800017408 !=Ce d) 0:=by unfold K5;rw[Ay (fun h=>h.elim (by decide +kernel) h4),Ay (fun h=>by rw[h3] at h; exact absurd h.1 (by decide +kernel)),Ay (by decide +kernel),Az (.inl h3)]
  rw[this]; exact Bd.zero _ 0
 ·have hd:d%2^63=d:=by have h:=hb.2; rw[Fc] at h; omega
  exact Bd.div (j:=0) (t:=0) (by decide) LL (Lo.OL h3 h4 (by rw[hd]; exact hb.1))
theorem Agx{z:Nat}(h4:Bn z≠4):Np (DP z):=by refine⟨?_,by rw[QF]; exact h4⟩;have:=Afu h4;unfold Nn DP;rw[Fc]; rw[Ex] at this; omega
theorem XC:SM.toNat=4607182418800017408:=by decide +kernel
theorem Qb(a b:Int):(DD a b).toNat=(DS a.toNat b.toNat).1:=Ad _
theorem Lf(a:Int):(DG a).toNat=(Ek a.toNat).1:=Ad _
theorem RS(a:Int):(K3 a).toNat=DP a.toNat:=Ad _
theorem QA(a:Int):(Cy a).toNat=DR a.toNat:=Ad _
theorem Uo{z:Int}(h4:Bn z.toNat≠4):Bd 0 (Sl z).toNat:=by unfold Sl;rw[KN,Qb,RS,Lf,Qb,EZ,XC];have a:=Aap Q5.1 (SV h4);have ab:=(TJ Q5.1.1 (SV h4).1).2 (.inl Q5.2);have r:=RH a;have rb:=SD ab;have d:=Aap (Agx h4) r;have db:=(TJ (Agx h4).1 r.1).2 (.inr rb);exact AfW d.2 db
theorem AfU(a b:Int):(EV a b).toNat<2^64:=by rw[KN]; exact Abx
theorem AdU{z:Int}(h4:Bn z.toNat≠4):Bd 0 (K9 z).toNat:=by
 unfold K9;split
 ·rw[QA]; exact MZ (AfU _ _) (Uo h4)
 ·exact Uo h4
theorem Aiw{t:Int}(ht:Bd 0 t.toNat):Np (DS 4607182418800017408 (Ee t.toNat t.toNat).1).1/\TN (DS 4607182418800017408 (Ee t.toNat t.toNat).1).1/\Bd 1 (DS 4607182418800017408 (Ee t.toNat t.toNat).1).1 :=⟨Aap Q5.1 (SV ht.2.1),(TJ Q5.1.1 (SV ht.2.1).1).2 (.inl Q5.2),Bd.add (k:=0) (by decide) LL (Bd.mul (j:=0) (k:=0) (by decide) ht ht)⟩
theorem Aiv{t:Int}(ht:Bd 0 t.toNat):Np (Ek (DS 4607182418800017408 (Ee t.toNat t.toNat).1).1).1/\TN (Ek (DS 4607182418800017408 (Ee t.toNat t.toNat).1).1).1/\Bd 1 (Ek (DS 4607182418800017408 (Ee t.toNat t.toNat).1).1).1:=by obtain⟨h1,h2,h3⟩:=Aiw ht;exact⟨RH h1,SD h2,Bd.root (j:=1) (by decide) (h3.mono (by decide)) (EF h1.1)⟩
theorem Uq(t:Int):(EC t).toNat=(K5 4607182418800017408 (Ek (DS 4607182418800017408 (Ee t.toNat t.toNat).1).1).1).1:=by unfold EC;rw[KN,Lf,Qb,EZ,XC]
theorem Sm{t:Int}(ht:Bd 0 t.toNat):Bd 0 (EC t).toNat:=by obtain⟨h1,h2,_⟩:=Aiv ht;rw[Uq];exact AfW h1.2 h2
theorem WZ{t:Int}(ht:Bd 0 t.toNat):Bd 0 (Eb t).toNat:=by unfold Eb;rw[EZ];exact Bd.mul (j:=0) (k:=0) (by decide) (Sm ht) ht
theorem R7:vR 4607182418800017408=1:=by decide +kernel
theorem O2:Cl<=uR / 1000000:=by decide +kernel
theorem JX:uR<=1 / 1000000:=by decide +kernel
theorem Ak2:tw ((0:Nat):Int)=1:=by decide +kernel
structure Qf(T p q r c s:Rat):Prop where
 ht:Ab T 1
 hp:Nr p (T*T) (11 / 10*uR)
 hq:Nr q (1+p) (uR*(1+p))
 hr:Nr (r*r) q (8*uR*q)
 h0:0<=r
 hc:∃i,i*r=1/\∀B,Ab i B->Nr c i (2*uR*B+Cl)
 hs:∀B,Ab (c*T) B->Nr s (c*T) (uR*B+Cl)
theorem Aa7{T:Rat}(h:Ab T 1):0<=T*T/\T*T<=1:=by have h1:=DK T;have h2:=F4 h;have h3:=Gg T;rw[<- h3];exact⟨zb h1 h1,by have:=CM h2 h2 (by grind) h1; grind⟩
theorem Qf.rr{T p q r c s:Rat}(h:Qf T p q r c s):Nr (r*r) (1+T*T) (20*uR):=by
 obtain⟨h1,h2⟩:=Aa7 h.ht;have hu:=JX;have h0:=Dd;have hp:=h.hp;have hq:=h.hq;have hr:=h.hr;generalize uR=u at *
 generalize T*T=X at *
 generalize r*r=Y at *
 have e1:p<=11 / 10/\-1 / 10<=p:=by unfold Nr at hp; grind
 have e2:u*(1+p)<=21 / 10*u:=by have:=zd (show 1+p<=21 / 10 by grind) (za h0); grind
 have e3:Nr q (1+X) (32 / 10*u):=by unfold Nr at *; grind
 have e4:q<=2001 / 1000:=by unfold Nr at e3; grind
 have e5:8*u*q<=1601 / 100*u:=by have:=zd e4 (show 0<=8*u by grind); grind
 unfold Nr at *; grind
theorem Qf.rb{T p q r c s:Rat}(h:Qf T p q r c s):99 / 100<=r/\r<=143 / 100:=by
 obtain⟨h1,h2⟩:=Aa7 h.ht;have hu:=JX;have h0:=Dd;have hr:=h.rr;have r0:=h.h0;unfold Nr at hr;constructor
 ·refine xq.1 fun k=>?_
  have:=CM (za k) (za k) (by grind) r0;grind
 ·refine xq.1 fun k=>?_
  have:=CM (za k) (za k) r0 (by grind);grind
theorem Qf.cr{T p q r c s:Rat}(h:Qf T p q r c s):Nr (c*r) 1 (3*uR)/\Ab c (102 / 100):=by
 obtain⟨r1,r2⟩:=h.rb;obtain⟨i,hi,hc⟩:=h.hc;have hu:=JX;have h0:=Dd;have he:=O2;have hep:=DY
 have i0:0<=i:=xq.1 fun k=>by
  have:i*r<=0:=by have:=zb (show 0<=-i by grind) (show 0<=r by grind);grind
  grind
 have i1:i<=102 / 100:=xq.1 fun k=>by have:=CM (za k) r1 i0 (by grind);grind
 have hc:=hc i ⟨by grind,zE⟩;have n1:Nr (c*r) (i*r) ((2*uR*i+Cl)*r):=hc.scale h.h0
 have e1:(2*uR*i+Cl)*r<=3*uR:=by
  have a1:(2*uR*i+Cl)*r=2*uR*(i*r)+Cl*r:=by grind
  have a2:Cl*r<=Cl*2:=zd (by grind) (za hep);rw[a1,hi]; grind
 rw[hi] at n1;refine⟨n1.mono e1,?_⟩;have a3:uR*i<=uR*(102 / 100):=zd i1 (za h0)
 have i2:i<=1011 / 1000:=xq.1 fun k=>by have:=CM (za k) r1 i0 (by grind);grind
 unfold Nr at hc;unfold Ab;constructor
 ·grind
 ·grind
theorem Qf.one{T p q r c s:Rat}(h:Qf T p q r c s):Nr (c*c+s*s) 1 (32*uR)/\Ab s (102 / 100):=by
 obtain⟨hcr,hc⟩:=h.cr;have hrr:=h.rr;obtain⟨t0,t1⟩:=Aa7 h.ht;have hu:=JX;have h0:=Dd;have he:=O2;have hep:=DY
 have cT:Ab (c*T) (102 / 100):=by have:=CM (F4 hc) (F4 h.ht) (by grind) (DK T);have e:=Gh (c*T);rw[Ef] at e;unfold Ab at *; grind
 have hs:=h.hs _ cT
 have s1:Nr (s*s) (c*T*(c*T)) (3*uR):=by
  refine(Pn hs cT (by grind)).mono ?_;have d1:uR*(102 / 100)+Cl<=103 / 100*uR:=by grind
  have:=CM d1 (show 2*(102 / 100)+(uR*(102 / 100)+Cl)<=(205 / 100:Rat) by grind) (by grind) (by grind);grind
 have c1:Nr (c*r*(c*r)) 1 (7*uR):=by
  have:=Pn hcr (show Ab (1:Rat) 1 by unfold Ab; grind) (by grind);have e:(1:Rat)*1=1:=by grind
  rw[e] at this;refine this.mono ?_;have:=zd (show 2*1+3*uR<=(21 / 10:Rat) by grind) (show 0<=3*uR by grind);grind
 have cc:0<=c*c/\c*c<=105 / 100:=by have a:=Gg c;have b:=CM (F4 hc) (F4 hc) (by grind) (DK c);rw[<- a];exact⟨zb (DK _) (DK _),by grind⟩
 have c2:Nr (c*c*(r*r)) (c*c*(1+T*T)) (21*uR):=by
  have:=hrr.scale cc.1;have e1:r*r*(c*c)=c*c*(r*r):=by grind
  have e2:(1+T*T)*(c*c)=c*c*(1+T*T):=by grind
  rw[e1,e2] at this;refine this.mono ?_;have:=zd cc.2 (show 0<=20*uR by grind);grind
 have e3:c*r*(c*r)=c*c*(r*r):=by grind
 have e4:c*T*(c*T)=c*c*(T*T):=by grind
 have e5:c*c*(1+T*T)=c*c+c*c*(T*T):=by grind
 rw[e3] at c1;rw[e5] at c2;rw[e4] at s1;constructor
 ·generalize c*c*(T*T)=X at *
  generalize c*c*(r*r)=Y at *
  generalize c*c=Z at *
  generalize s*s=W at *
  unfold Nr at *; grind
 ·have hl:s*s<=1+32*uR:=by
   generalize c*c*(T*T)=X at *
   generalize c*c*(r*r)=Y at *
   generalize c*c=Z at *
   generalize s*s=W at *
   unfold Nr at *; grind
  have a:=Gg s
  have k:av s<=102 / 100:=xq.1 fun k=>by have:=CM (za k) (za k) (DK s) (by grind);grind
  have:=Gh s;unfold Ab at *; grind
theorem bd3{k a:Nat}(h:Bd k a):Bn a≠3:=h.1
theorem Aai{a:Nat}(h:Bd 0 a):Ab (vR a) 1:=by have:=Rq h;rw[Ak2] at this; exact this
theorem Aig{a:Nat}(h:TN a):Bn a≠0:=fun e=>by have:=Fz e;have h1:=h.1; have h2:=h.2;rw[Fc] at h2; rw[Ry] at h1; omega
theorem YL{t:Int}(ht:Bd 0 t.toNat):∃p q r,Qf (vR t.toNat) p q r (vR (EC t).toNat) (vR (Eb t).toNat):=by
 obtain⟨q1,q2,q3⟩:=Aiw ht;obtain⟨r1,r2,r3⟩:=Aiv ht;have cb:=Sm ht;have sb:=WZ ht;have mb:Bd 0 (Ee t.toNat t.toNat).1:=Bd.mul (j:=0) (k:=0) (by decide) ht ht;have hT:=Aai ht;obtain⟨t0,t1⟩:=Aa7 hT;have hu:=JX;have h0:=Dd;have he:=O2;refine⟨vR (Ee t.toNat t.toNat).1,vR (DS 4607182418800017408 (Ee t.toNat t.toNat).1).1,vR (Ek (DS 4607182418800017408 (Ee t.toNat t.toNat).1).1).1,hT,?_,?_,?_,?_,?_,?_⟩
 ·exact(KF ht.1 ht.2.1 ht.1 ht.2.1 mb.1 (B:=1) ⟨by grind,t1⟩).mono (by grind)
 ·have pn:0<=vR (Ee t.toNat t.toNat).1:=Vt (EF (SV ht.2.1).1);have:=NZ (bd3 LL) LL.2.1 mb.1 mb.2.1 q3.1 (B:=1+vR (Ee t.toNat t.toNat).1) (by rw[R7]; unfold Ab; grind);rw[R7] at this;exact this
 ·exact(Pm q3.1 q3.2.1 (.inl (EF q1.1)) r3.1).1
 ·exact(Pm q3.1 q3.2.1 (.inl (EF q1.1)) r3.1).2.1
 ·have hrp:vR (Ek (DS 4607182418800017408 (Ee t.toNat t.toNat).1).1).1≠0:=by
   have lo:=Lo.OL r3.1 r3.2.1 (a:=(Ek (DS 4607182418800017408 (Ee t.toNat t.toNat).1).1).1) (by have h:=r2.2; rw[Fc] at h;rw[Ao (by omega)]; exact r2.1)
   have:=IH (a:=(Ek (DS 4607182418800017408 (Ee t.toNat t.toNat).1).1).1) (by have h:=r2.2; rw[Fc] at h;rw[Ao (by omega)]; exact r2.1)
   intro e;rw[e] at this;unfold av at this;revert this;decide +kernel
  refine⟨1 / vR (Ek (DS 4607182418800017408 (Ee t.toNat t.toNat).1).1).1,Ks hrp,fun B hB=>?_⟩;rw[Uq] at cb ⊢;exact W0 (bd3 LL) LL.2.1 r3.1 r3.2.1 (Aig r2) cb.1 (by rw[R7]; exact Ks hrp) hB
 ·intro B hB;have e:(Eb t).toNat=(Ee (EC t).toNat t.toNat).1:=by unfold Eb; rw[EZ]
  rw[e] at sb ⊢;exact KF cb.1 cb.2.1 ht.1 ht.2.1 sb.1 hB
theorem AdS{t:Int}(ht:Bd 0 t.toNat):Nr (vR (EC t).toNat*vR (EC t).toNat+vR (Eb t).toNat*vR (Eb t).toNat) 1 (32*uR):=by obtain⟨p,q,r,h⟩:=YL ht;exact h.one.1
theorem YW{f g:Nat->Rat}{p q N:Nat}(RX:p<q)(hq:q<N)(h:∀j,j<N->j≠p->j≠q->f j=g j):sm N f=sm N g+(f p-g p)+(f q-g q):=by
 have one:∀n,p<n->n<=q->sm n f=sm n g+(f p-g p):=by
  intro n
  induction n with
  | zero=>intro h; omega
  | succ n ih =>
    intro hp hn;show sm n f+f n=sm n g+g n+(f p-g p)
    by_cases e:p=n
    ·subst e;have:sm p f=sm p g:=BG p fun i hi=>h i (by omega) (by omega) (by omega)
     rw[this]; grind
    ·rw[ih (by omega) (by omega),h n (by omega) (by omega) (by omega)]; grind
 have two:∀n,q<n->n<=N->sm n f=sm n g+(f p-g p)+(f q-g q):=by
  intro n
  induction n with
  | zero=>intro h; omega
  | succ n ih =>
    intro hn hN;show sm n f+f n=sm n g+g n+(f p-g p)+(f q-g q)
    by_cases e:q=n
    ·subst e;rw[one q RX (AB _)]; grind
    ·rw[ih (by omega) (by omega),h n (by omega) (by omega) (by omega)]; grind
 exact two N hq (AB _)
structure Rot(n p q:Nat)(c g:Rat)(x x':Nat->Rat)(E:Rat):Prop where
 RX:p<q
 hq:q<n
 rest:∀j,j<n->j≠p->j≠q->x' j=x j
 ep:Ab (x' p-(c*x p+g*x q)) E
 eq:Ab (x' q-(c*x q-g*x p)) E
def Ha(p q:Nat)(c g:Rat)(x:Nat->Rat)(j:Nat):Rat:=if j=p then c*x p+g*x q else if j=q then c*x q-g*x p else x j
theorem Ae2(p q:Nat)(c g:Rat)(x:Nat->Rat):Ha p q c g x p=c*x p+g*x q:=Az rfl
theorem Ae1{p q:Nat}(h:p<q)(c g:Rat)(x:Nat->Rat):Ha p q c g x q=c*x q-g*x p:=by unfold Ha; rw[Ay (by omega),Az rfl]
theorem Ae3{p q j:Nat}(h1:j≠p)(h2:j≠q)(c g:Rat)(x:Nat->Rat):Ha p q c g x j=x j:=by unfold Ha; rw[Ay h1,Ay h2]
def Oe(p q:Nat)(x:Nat->Rat)(j:Nat):Rat:=if j=p\/j=q then x j else 0
theorem Aa6{n p q:Nat}(RX:p<q)(hq:q<n)(x a:Nat->Rat):(sm n fun j=>Oe p q x j*Oe p q a j)=x p*a p+x q*a q:=by
 have:=YW (f:=fun j=>Oe p q x j*Oe p q a j) (g:=fun _=>0) RX hq (fun j _ h1 h2=>by show Oe p q x j*Oe p q a j=0;unfold Oe; rw[Ay (by omega)]; grind)
 rw[this,GC];show 0+(Oe p q x p*Oe p q a p-0)+(Oe p q x q*Oe p q a q-0)=_;unfold Oe;rw[Az (.inl rfl),Az (.inl rfl),Az (.inr rfl),Az (.inr rfl)];grind
theorem YK{n p q:Nat}{x:Nat->Rat}{F:Rat}(h:Ln n x F):Ln n (Oe p q x) F:=by
 refine⟨h.1,zp (Jz n fun j _=>?_) h.2⟩;show Oe p q x j*Oe p q x j<=x j*x j;unfold Oe;split
 ·exact zE
 ·have:=BX (x j); grind
theorem AaL{n p q:Nat}(RX:p<q)(hq:q<n)(c g:Rat)(x a:Nat->Rat):
 (sm n fun j=>Ha p q c g x j*Ha p q c g a j)=(sm n fun j=>x j*a j)+(c*c+g*g-1)*(x p*a p+x q*a q):=by
 have:=YW (f:=fun j=>Ha p q c g x j*Ha p q c g a j) (g:=fun j=>x j*a j) RX hq (fun j _ h1 h2=>by show Ha p q c g x j*Ha p q c g a j=x j*a j;rw[Ae3 h1 h2,Ae3 h1 h2])
 rw[this];show _+(Ha p q c g x p*Ha p q c g a p-x p*a p)+(Ha p q c g x q*Ha p q c g a q-x q*a q)=_;rw[Ae2,Ae2,Ae1 RX,Ae1 RX];grind
section
variable{n p q:Nat}{c g:Rat}(hcg:Nr (c*c+g*g) 1 (32*uR))
include hcg
theorem Ae4{x:Nat->Rat}{F:Rat}(RX:p<q)(hq:q<n)(h:Ln n x F):Ln n (Ha p q c g x) ((1+32*uR)*F):=by
 have h0:=Dd;have hF:=h.1;refine⟨zb (by grind) hF,?_⟩;have e:sq n (Ha p q c g x)=sq n x+(c*c+g*g-1)*(x p*x p+x q*x q):=AaL RX hq c g x x
 have d:x p*x p+x q*x q<=F*F:=by have:=(YK (p:=p) (q:=q) h).2;unfold sq at this;rw[Aa6 RX hq] at this;exact this
 have d0:0<=x p*x p+x q*x q:=by have:=BX (x p); have:=BX (x q); grind
 have k:(c*c+g*g-1)*(x p*x p+x q*x q)<=32*uR*(F*F):=by
  have k1:c*c+g*g-1<=32*uR:=by unfold Nr at hcg; grind
  have:=zc k1 d0;have:=zd d (show 0<=32*uR by grind);grind
 have h2:=h.2;rw[e];have f0:=BX F;have k2:0<=uR*(F*F):=zb (za h0) f0;have k3:0<=uR*uR*(F*F):=zb (zb (za h0) (za h0)) f0;grind
omit hcg in
theorem Rot.err{x x':Nat->Rat}{E:Rat}(h:Rot n p q c g x x' E):Ln n (fun j=>x' j-Ha p q c g x j) (2*E):=by
 have hE:=h.ep.nn;refine⟨by grind,?_⟩;unfold sq
 have:=YW (f:=fun j=>(x' j-Ha p q c g x j)*(x' j-Ha p q c g x j)) (g:=fun _=>0) h.RX h.hq (fun j hj h1 h2=>by show(x' j-Ha p q c g x j)*(x' j-Ha p q c g x j)=0;rw[Ae3 h1 h2,h.rest j hj h1 h2]; grind)
 rw[this,GC];show 0+((x' p-Ha p q c g x p)*(x' p-Ha p q c g x p)-0)+((x' q-Ha p q c g x q)*(x' q-Ha p q c g x q)-0)<=_;rw[Ae2,Ae1 h.RX];have a:=CM (F4 h.ep) (F4 h.ep) hE (DK _);have b:=CM (F4 h.eq) (F4 h.eq) hE (DK _);rw[Gg] at a b;have:=BX E;grind
theorem Rot.ln{x x':Nat->Rat}{E F:Rat}(h:Rot n p q c g x x' E)(hF:Ln n x F):Ln n x' ((1+32*uR)*F+2*E):=by
 refine((Ae4 hcg h.RX h.hq hF).add h.err).congr fun j _=>?_
 grind
theorem Rot.dot{x x' a a':Nat->Rat}{E D F H:Rat}(h:Rot n p q c g x x' E)(k:Rot n p q c g a a' D)(hF:Ln n x F)(hH:Ln n a H):
 Nr (sm n fun j=>x' j*a' j) (sm n fun j=>x j*a j) (32*uR*(F*H)+(1+32*uR)*F*(2*D)+2*E*((1+32*uR)*H+2*D)):=by
 have e:(sm n fun j=>x' j*a' j)=(sm n fun j=>Ha p q c g x j*Ha p q c g a j)+((sm n fun j=>Ha p q c g x j*(a' j-Ha p q c g a j))+(sm n fun j=>(x' j-Ha p q c g x j)*a' j)):=by rw[<- Eo,<- Eo];exact BG n fun j _=>by grind
 have d1:=(Ae4 hcg h.RX h.hq hF).dot k.err;have d2:=h.err.dot (k.ln hcg hH);have d3:=(YK (p:=p) (q:=q) hF).dot (YK (p:=p) (q:=q) hH);rw[Aa6 h.RX h.hq] at d3;rw[e,AaL h.RX h.hq]
 have d4:Ab ((c*c+g*g-1)*(x p*a p+x q*a q)) (32*uR*(F*H)):=by have h0:=Dd;have:=CM (show av (c*c+g*g-1)<=32*uR from G2.1 hcg) (F4 d3) (by grind) (DK _);have e2:=Gh ((c*c+g*g-1)*(x p*a p+x q*a q));rw[Ef] at e2;unfold Ab at *; grind
 generalize (sm n fun j=>Ha p q c g x j*(a' j-Ha p q c g a j))=X at *
 generalize (sm n fun j=>(x' j-Ha p q c g x j)*a' j)=Y at *
 generalize (c*c+g*g-1)*(x p*a p+x q*a q)=Z at *
 unfold Nr Ab at *
 grind
end
def BN(n:Nat)(l:Bf)(i j:Nat):Rat:=vR (Dy (n:Int) l (i:Int) (j:Int)).toNat
theorem Vi{j k a:Nat}(h:Bd j a)(g:Ab (vR a) (tw (k:Int))):Bd k a:=by
 refine⟨h.1,h.2.1,?_⟩;rw[R8,Za (zb (GR _) (za (En _)))] at g;have e:tw (k:Int)=tw ((k:Int)+1074)*tw (-1074):=by rw[<- E5,Int.add_neg_cancel_right]
 rw[e] at g;have g:=zQ g (En _);rw[show(k:Int)+1074=((k+1074:Nat):Int) by omega,Hl] at g;exact Rat.natCast_le_natCast.1 g
theorem Ami:tw ((4:Nat):Int)=16:=by decide +kernel
theorem XQ{n:Nat}{x:Nat->Rat}{F:Rat}(h:Ln n x F){j:Nat}(hj:j<n):Ab (x j) F:=by
 refine TM h.1 (zp ?_ h.2);unfold sq
 have:sm n (fun i=>if i=j then x j*x j else 0)=x j*x j:=by rw[O9 hj (fun i _ hi=>Ay hi),Az rfl]
 rw[<- this];refine Jz n fun i _=>?_
 by_cases e:i=j
 ·subst e; rw[Az rfl]; exact zE
 ·rw[Ay e]; exact BX _
theorem AjB{F:Rat}(h:1<=F):Cl<=uR / 1000000*F:=by have:=O2;have:=zd h (show 0<=uR / 1000000 by have:=Dd; grind);grind
theorem X7{a b:Nat}{F:Rat}(ha:Bd 0 a)(hb:Bd 5 b)(a1:Ab (vR a) (102 / 100))(b1:Ab (vR b) F)(h1:1<=F):
 Nr (vR (Ee a b).1) (vR a*vR b) (103 / 100*uR*F)/\Ab (vR (Ee a b).1) (103 / 100*F)/\Bd 5 (Ee a b).1:=by
 have hm:Bd 5 (Ee a b).1:=Bd.mul (j:=0) (k:=5) (by decide) ha hb;have h0:=Dd;have hu:=JX;have he:=AjB h1
 have hB:Ab (vR a*vR b) (102 / 100*F):=by have:=CM (F4 a1) (F4 b1) (by grind) (DK _);have e:=Gh (vR a*vR b);rw[Ef] at e;unfold Ab at *; grind
 have uF:0<=uR*F:=zb (za h0) (by grind);have uF2:uR*F<=1 / 1000000*F:=zc hu (by grind);have e:=(KF ha.1 ha.2.1 hb.1 hb.2.1 hm.1 hB).mono (show uR*(102 / 100*F)+Cl<=103 / 100*uR*F by grind);refine⟨e,?_,hm⟩;unfold Nr at e;unfold Ab at *
 constructor<;>grind
theorem Abc{a b c d:Nat}{F:Rat}(ha:Bd 0 a)(hb:Bd 5 b)(hc:Bd 0 c)(hd:Bd 5 d)(a1:Ab (vR a) (102 / 100))(b1:Ab (vR b) F)(c1:Ab (vR c) (102 / 100))(d1:Ab (vR d) F)(h1:1<=F):
 (Ab (vR (DS (Ee a b).1 (Ee c d).1).1-(vR a*vR b+vR c*vR d)) (6*uR*F)/\Bd 6 (DS (Ee a b).1 (Ee c d).1).1) /\
 (Ab (vR (Ql (Ee a b).1 (Ee c d).1).1-(vR a*vR b-vR c*vR d)) (6*uR*F)/\Bd 6 (Ql (Ee a b).1 (Ee c d).1).1):=by
 obtain⟨e1,f1,g1⟩:=X7 ha hb a1 b1 h1;obtain⟨e2,f2,g2⟩:=X7 hc hd c1 d1 h1;have h0:=Dd;have uF:0<=uR*F:=zb (za h0) (by grind);have hs:Bd 6 (DS (Ee a b).1 (Ee c d).1).1:=Bd.add (k:=5) (by decide) g1 g2;have ht:Bd 6 (Ql (Ee a b).1 (Ee c d).1).1:=Bd.sub (k:=5) (by decide) LN g1 g2;have s1:=NZ g1.1 g1.2.1 g2.1 g2.2.1 hs.1 (B:=206 / 100*F) (by unfold Ab at *; grind);have s2:=RF LN g1.1 g1.2.1 g2.1 g2.2.1 ht.1 (B:=206 / 100*F) (by unfold Ab at *; grind);unfold Nr at *
 refine⟨⟨?_,hs⟩,?_,ht⟩
 ·unfold Ab; grind
 ·unfold Ab; grind
def SvS(R n:Nat)(F:Rat)(l:Bf):Prop:=Bq l=wc/\(∀i j:Nat,i<R->j<n->Bd 5 (Dy (n:Int) l (i:Int) (j:Int)).toNat)/\∀i,i<R->Ln n (BN n l i) F
theorem SvS.Ea{R n:Nat}{F:Rat}{l:Bf}(h:SvS R n F l)(h1:1<=F)(h15:F<=15){t:Int}(ht:Bd 0 t.toNat){p q:Nat}(RX:p<q)(hq:q<n):
 (∀i,i<R->Rot n p q (vR (EC t).toNat) (vR (Cy (Eb t)).toNat) (BN n l i) (BN n (GX R n l p q (EC t) (Cy (Eb t))) i) (6*uR*F)) /\
 Nr (vR (EC t).toNat*vR (EC t).toNat+vR (Cy (Eb t)).toNat*vR (Cy (Eb t)).toNat) 1 (32*uR) /\
 SvS R n ((1+45*uR)*F) (GX R n l p q (EC t) (Cy (Eb t))):=by
 obtain⟨al,hb,hl⟩:=h;have cb:=Sm ht;have sb:=WZ ht;have s64:(Eb t).toNat<2^64:=by unfold Eb; rw[EZ]; exact LN
 have gb:Bd 0 (Cy (Eb t)).toNat:=by rw[QA]; exact MZ s64 sb
 have gv:vR (Cy (Eb t)).toNat=-(vR (Eb t).toNat):=by rw[QA]; exact Sj s64
 have hcs:=AdS ht
 have hcg:Nr (vR (EC t).toNat*vR (EC t).toNat+vR (Cy (Eb t)).toNat*vR (Cy (Eb t)).toNat) 1 (32*uR):=by
  have e:-(vR (Eb t).toNat)*-(vR (Eb t).toNat)=vR (Eb t).toNat*vR (Eb t).toNat:=by grind
  rw[gv,e]; exact hcs
 have c1:Ab (vR (EC t).toNat) (102 / 100):=by have:=Aai cb; unfold Ab at *; grind
 have g1:Ab (vR (Cy (Eb t)).toNat) (102 / 100):=by have:=Aai gb; unfold Ab at *; grind
 have h0:=Dd;have hu:=JX
 have ent:∀i j:Nat,i<R->j<n->Dy (n:Int) (GX R n l p q (EC t) (Cy (Eb t))) (i:Int) (j:Int)=
  if j=p then DD (Cx (EC t) (Dy (n:Int) l (i:Int) (p:Int))) (Cx (Cy (Eb t)) (Dy (n:Int) l (i:Int) (q:Int)))
  else if j=q then DW (Cx (EC t) (Dy (n:Int) l (i:Int) (q:Int))) (Cx (Cy (Eb t)) (Dy (n:Int) l (i:Int) (p:Int))) else Dy (n:Int) l (i:Int) (j:Int):=fun i j hi hj=>F6 hi hj
 have e1:∀i:Nat,i<R->Ab (BN n (GX R n l p q (EC t) (Cy (Eb t))) i p-(vR (EC t).toNat*BN n l i p+vR (Cy (Eb t)).toNat*BN n l i q)) (6*uR*F)/\Bd 6 (Dy (n:Int) (GX R n l p q (EC t) (Cy (Eb t))) (i:Int) (p:Int)).toNat:=fun i hi=>by have k:=(Abc cb (hb i p hi (by omega)) gb (hb i q hi hq) c1 (XQ (hl i hi) (j:=p) (by omega)) g1 (XQ (hl i hi) (j:=q) hq) h1).1;unfold BN;rw[ent i p hi (by omega),Az rfl,Qb,EZ,EZ];exact k
 have e2:∀i:Nat,i<R->Ab (BN n (GX R n l p q (EC t) (Cy (Eb t))) i q-(vR (EC t).toNat*BN n l i q-vR (Cy (Eb t)).toNat*BN n l i p)) (6*uR*F)/\Bd 6 (Dy (n:Int) (GX R n l p q (EC t) (Cy (Eb t))) (i:Int) (q:Int)).toNat:=fun i hi=>by have k:=(Abc cb (hb i q hi hq) gb (hb i p hi (by omega)) c1 (XQ (hl i hi) (j:=q) hq) g1 (XQ (hl i hi) (j:=p) (by omega)) h1).2;unfold BN;rw[ent i q hi hq,Ay (by omega),Az rfl,show(DW (Cx (EC t) (Dy (n:Int) l (i:Int) (q:Int))) (Cx (Cy (Eb t)) (Dy (n:Int) l (i:Int) (p:Int)))).toNat=_ from Ad _,EZ,EZ];exact k
 have rot:∀i,i<R->Rot n p q (vR (EC t).toNat) (vR (Cy (Eb t)).toNat) (BN n l i) (BN n (GX R n l p q (EC t) (Cy (Eb t))) i) (6*uR*F):=fun i hi =>
  ⟨RX,hq,fun j hn hp hj=>by unfold BN; rw[ent i j hi hn,Ay hp,Ay hj],(e1 i hi).1,(e2 i hi).1⟩
 have uF:0<=uR*F:=zb (za h0) (by grind)
 have ln:∀i,i<R->Ln n (BN n (GX R n l p q (EC t) (Cy (Eb t))) i) ((1+45*uR)*F):=fun i hi =>
  ((rot i hi).ln hcg (hl i hi)).mono (by grind)
 refine⟨rot,hcg,T5 al _ _ _ _,fun i j hi hj=>?_,ln⟩;have uF2:uR*F<=1 / 1000000*F:=zc hu (by grind)
 have h16:Ab (vR (Dy (n:Int) (GX R n l p q (EC t) (Cy (Eb t))) (i:Int) (j:Int)).toNat) (tw ((4:Nat):Int)):=by rw[Ami];have:Ab (BN n (GX R n l p q (EC t) (Cy (Eb t))) i j) ((1+45*uR)*F):=XQ (ln i hi) hj;unfold Ab BN at *; grind
 have b6:Bd 6 (Dy (n:Int) (GX R n l p q (EC t) (Cy (Eb t))) (i:Int) (j:Int)).toNat:=by
  by_cases k1:j=p
  ·subst k1; exact(e1 i hi).2
  ·by_cases k2:j=q
   ·subst k2; exact(e2 i hi).2
   ·rw[ent i j hi hj,Ay k1,Ay k2]; exact(hb i j hi hj).mono (by decide)
 exact(Vi b6 h16).mono (by decide)
theorem S9{b:Nat}{n:Int}(h:Np b):Np (Cj b n).1:=by
 by_cases k:Bn b=3\/Bn b=0
 ·unfold Cj; rw[Ay h.2,Az k]; exact h
 ·refine⟨?_,U2 h.2⟩;rw[G4 h.2 k,EF h.1,F2];exact IZ _ _
theorem Ahy{a b:Nat}(ha:Np a)(hb:Np b)(a3:Bn a≠3)(b3:Bn b≠3):Np (Ee a b).1:=by
 have e:(Ce a !=Ce b)=wh:=by rw[EF ha.1,EF hb.1]; rfl
 have k:=Gd wh (Bx a*Bx b) (B6 a+B6 b);rw[F2] at k;unfold Ee;rw[Ay (fun h=>h.elim ha.2 hb.2),Ay (fun h=>h.elim a3 b3),e,F2];exact⟨IZ _ _,k⟩
theorem Ajw{a:Nat}(h:Np a):0<=Gt a:=by rw[Ajx h.1]; omega
theorem Aki{a:Nat}(h3:Bn a≠3)(h4:Bn a≠4)(h0:Bn a≠0):vR a≠0:=by
 have hm:Bx a≠0:=fun e=>h0 ((CZ h3 h4).1 e)
 have m1:(1:Rat)<=(Bx a:Rat):=C1 (m:=1) (Nat.pos_of_ne_zero hm);have t:=En (B6 a);intro e;unfold vR at e
 have:(Bx a:Rat)*tw (B6 a)=0:=by unfold Lc at e;split at e<;>grind
 have:=z8 (show(0:Rat)<(Bx a:Rat) by grind) t;grind
theorem AdP{a k:Nat}(hk:k+1<=1023)(h:Bd k a)(h0:Bn a≠0):Bn (DS a a).1≠0:=by
 have hb:=Bd.add hk h h;have v:=Aki h.1 h.2.1 h0
 have e:=NZ h.1 h.2.1 h.1 h.2.1 hb.1 (B:=2*av (vR a)) (by have:=Gh (vR a); unfold Ab at *; grind)
 intro k0;rw[JW k0] at e;have hu:=JX;have h0':=Dd
 have a0:0<av (vR a):=by
  refine Rat.not_le.1 fun g=>v (Aaj ?_)
  have:=DK (vR a); grind
 have k:vR a=av (vR a)\/vR a=-av (vR a):=by
  unfold av;split
  ·exact .inl rfl
  ·exact .inr (by grind)
 generalize av (vR a)=A at *
 have l:=zc hu (show 0<=2*A by grind);unfold Nr at e;rcases k with k | k
 ·rw[k] at e; grind
 ·rw[k] at e; grind
theorem AaV{x:Bf}(hf:Dx x=wc)(hl:x.length<=6):Np (Cb x).toNat:=by
 refine⟨?_,AeP hf hl⟩;obtain⟨b3,b4,_,hb⟩:=Jb hf;unfold Cb;by_cases h:BI x=0\/Du (BI x)=wh
 ·rw[Az h];have:=PX x 0 (FI hf) (by rw[Ex]; omega);have e:(BI x).toNat=Iz x 0:=Ad _;rw[e];unfold Nn; rw[Fc]; rw[Ex] at this; omega
 ·rw[Ay h];obtain⟨t,te,t1,_⟩:=MG (-BO (BI x)) x 0 (Nat.zero_le _);have te:F8 (-BO (BI x)) 0 x=t:=te
  have bm:Bm (1+x.length) 2 (F8 (-BO (BI x)) 0 x).toNat:=V8 x 0 1 (fun z hz=>by have zk:=L4 (FI hf z hz);exact Bd.down zk.1 zk.2 b3 b4 (hb z hz)) (Bd.zero wh 2).bm (by decide) (by omega)
  rw[te,Ad] at bm;rw[te,Co,Lf,Ad];exact(S9 (RH ⟨t1,bm.2.1⟩)).1
theorem Ah5{a g:Int}(ha:Np a.toNat)(h:XV a (K3 g)=wc):Bn g.toNat≠0:=by
 intro k0;have h:=A6 h;unfold Gk Acr at h;rw[RS] at h;have e:DP g.toNat=0:=Fz k0;rw[e] at h;have k:=Ajw ha;have z:Gt 0=0:=by decide +kernel
 rw[z] at h;split at h
 ·exact absurd h (by decide)
 ·split at h
  ·omega
  ·split at h<;>exact absurd h (by decide)
theorem AbD{x y:Bf}{low:Int}(hx:Bl 5 x)(hy:Bl 5 y)(h6:x.length<=6)(h6':y.length<=6)(hb:M5 x y low=wh):Bn (Ol x y).toNat≠4:=by
 have nx:=AaV hx.FJ h6;have ny:=AaV hy.FJ h6';unfold M5 at hb;simp only[yD,Bool.not_eq_false'] at hb;have gb:Bd 13 (EU x y).toNat:=LV (j:=5) (k:=5) (by decide) hx hy (by omega);have xb:Bd 13 (EU x x).toNat:=LV (j:=5) (k:=5) (by decide) hx hx (by omega);have yb:Bd 13 (EU y y).toNat:=LV (j:=5) (k:=5) (by decide) hy hy (by omega)
 have g0:Bn (EU x y).toNat≠0:=by
  by_cases k4:Bn (Ee (Cb x).toNat (Cb y).toNat).1=4
  ·exfalso;have h:=A6 hb.2;unfold Gk Acr at h;rw[Co,EZ] at h
   have e:Bn (Cj (Ee (Cb x).toNat (Cb y).toNat).1 (-44)).1=4:=by unfold Cj; rw[Az k4]; decide +kernel
   rw[Az (.inl e)] at h;exact absurd h (by decide)
  ·refine Ah5 ?_ hb.2;rw[Co,EZ];refine S9 ⟨?_,k4⟩;by_cases k3:Bn (Cb x).toNat=3\/Bn (Cb y).toNat=3
   ·have e:(Ce (Cb x).toNat !=Ce (Cb y).toNat)=wh:=by rw[EF nx.1,EF ny.1]; rfl
    unfold Ee;rw[Ay (fun h=>h.elim nx.2 ny.2),Az k3,e];split
    ·exact Zt
    ·rw[F2]; exact Zu
   ·exact(Ahy nx ny (fun h=>k3 (.inl h)) (fun h=>k3 (.inr h))).1
 have nb:Bd 14 (Ql (EU y y).toNat (EU x x).toNat).1:=Bd.sub (k:=13) (by decide) (Sd x x 0 (by decide)) yb xb;have db:Bd 14 (DS (EU x y).toNat (EU x y).toNat).1:=Bd.add (k:=13) (by decide) gb gb;have d0:=AdP (k:=13) (by decide) gb g0;unfold Ol;rw[KN,Qb,show(DW (EU y y) (EU x x)).toNat=_ from Ad _];unfold K5
 rw[Ay (fun h=>h.elim nb.2.1 db.2.1),Ay (fun h=>by
  rcases h.2 with k | k
  ·exact nb.1 k
  ·exact d0 (h.1 ▸ k)),Ay nb.1]
 split
 ·exact UO _
 ·first | exact Gd _ _ _ | (rw[Ay d0]; exact Gd _ _ _)
theorem AdI:uR<=1 / 1000000000000000:=by decide +kernel
theorem SvS.mono{R n:Nat}{F G:Rat}{l:Bf}(h:SvS R n F l)(g:F<=G):SvS R n G l:=⟨h.1,h.2.1,fun i hi=>(h.2.2 i hi).mono g⟩
theorem SvS.col{R n:Nat}{F:Rat}{l:Bf}(h:SvS R n F l){p:Nat}(hp:p<n):Bl 5 (Dl R n l p):=fun x hx=>by obtain⟨i,hi,rfl⟩:=List.mem_map.1 hx;have hi:=List.mem_range.1 hi;rw[yy];exact h.2.1 i p hi hp
theorem Af5{F M u:Rat}(hF:1<=F)(hM:0<=M)(hM2:M<=1000)(hu:0<u)(hu2:u<=1 / 1000000000000000):(1+45*u)*(F*(1+60*u*M))<=F*(1+60*u*(M+1)):=by
 have a:u*M<=1 / 1000000000000:=by have:=CM hu2 hM2 (by grind) hM; grind
 have b:u*(u*M)<=u*(1 / 1000000000000):=zd a (za hu);have c:(1+45*u)*(1+60*u*M)<=1+60*u*(M+1):=by grind
 have:=zd c (show 0<=F by grind);grind
theorem Af6{F M u:Rat}(hF:1<=F)(hM:0<=M)(hM2:M<=1000)(hu:0<u)(hu2:u<=1 / 1000000000000000):
 32*u*(F*(1+60*u*M)*(1+60*u*M))+(1+32*u)*(F*(1+60*u*M))*(2*(6*u*(1+60*u*M)))+2*(6*u*(F*(1+60*u*M)))*((1+32*u)*(1+60*u*M)+2*(6*u*(1+60*u*M)))<=60*u*F:=by
 have a:u*M<=1 / 1000000000000:=by have:=CM hu2 hM2 (by grind) hM; grind
 have a0:0<=u*M:=zb (za hu) hM;have e:60*u*M=60*(u*M):=by grind
 rw[e];generalize hA:1+60*(u*M)=A at *
 have A1:1<=A/\A<=1001 / 1000:=by grind
 have AA:A*A<=1003 / 1000:=by have:=CM A1.2 A1.2 (by grind) (by grind); grind
 have AA0:0<=A*A:=BX A;have k1:32*u*(F*A*A)+(1+32*u)*(F*A)*(2*(6*u*A))+2*(6*u*(F*A))*((1+32*u)*A+2*(6*u*A))=u*F*(A*A)*(56+912*u):=by grind
 rw[k1];have uF:0<=u*F:=zb (za hu) (by grind);have k2:A*A*(56+912*u)<=1003 / 1000*57:=CM AA (by grind) (by grind) (by grind);have:=zd (show A*A*(56+912*u)<=60 by grind) uF;grind
structure PI(R n:Nat)(F:Rat)(D:Nat->Nat->Rat)(m:Nat)(s:Bf × Bf × Bool):Prop where
 w:SvS R n (F*(1+60*uR*(m:Rat))) s.1
 v:SvS n n (1*(1+60*uR*(m:Rat))) s.2.1
 d:∀i k,i<R->k<n->Nr (sm n fun j=>BN n s.1 i j*BN n s.2.1 k j) (D i k) ((m:Rat)*(60*uR*F))
 e:∀i k,i<n->k<n->Nr (sm n fun j=>BN n s.2.1 i j*BN n s.2.1 k j) (if i=k then 1 else 0) ((m:Rat)*(60*uR*1))
theorem PI.Ea{R n:Nat}{F:Rat}{D:Nat->Nat->Rat}{m:Nat}{s:Bf × Bf × Bool}(h:PI R n F D m s)(hF:1<=F)(hF2:F<=12)(hm:m<=1000)(r6:R<=6)(low:Int){p q:Nat}(RX:p<q)(hq:q<n):
 PI R n F D (m+1) (Jd M5 R n low p q s):=by
 have hu:=Dd;have hu2:=AdI;have M0:0<=(m:Rat):=GR m;have M1:(m:Rat)<=1000:=C1 (n:=1000) hm;have ec:((m+1:Nat):Rat)=(m:Rat)+1:=yg m 1;have gF:=Af5 hF M0 M1 hu hu2;have gV:=Af5 (F:=1) (zE) M0 M1 hu hu2
 have uM:uR*(m:Rat)<=1 / 1000000000000:=by have:=CM hu2 M1 (by grind) M0; grind
 have uM0:0<=uR*(m:Rat):=zb (za hu) M0;have uF:0<=uR*F:=zb (za hu) (by grind);have fM:F*(uR*(m:Rat))<=12*(1 / 1000000000000):=CM hF2 uM (by grind) uM0;have fM0:0<=F*(uR*(m:Rat)):=zb (by grind) uM0;unfold Jd;cases hb:M5 (Dl R n s.1 p) (Dl R n s.1 q) low with
 | true =>
   rw[Az rfl];refine⟨h.w.mono ?_,h.v.mono ?_,fun i k hi hk=>(h.d i k hi hk).mono ?_,fun i k hi hk=>(h.e i k hi hk).mono ?_⟩
   ·rw[ec]; grind
   ·rw[ec]; grind
   ·rw[ec]; grind
   ·rw[ec]; grind
 | false =>
   rw[Ay (by decide)];have lx:(Dl R n s.1 p).length<=6:=by unfold Dl; rw[Dv]; exact r6
   have ly:(Dl R n s.1 q).length<=6:=by unfold Dl; rw[Dv]; exact r6
   have ht:=AdU (AbD (h.w.col (p:=p) (by omega)) (h.w.col hq) lx ly hb);obtain⟨w1,w2,w3⟩:=h.w.Ea (by grind) (by grind) ht RX hq;obtain⟨v1,_,v3⟩:=h.v.Ea (by grind) (by grind) ht RX hq;refine⟨?_,?_,fun i k hi hk=>?_,fun i k hi hk=>?_⟩
   ·rw[ec]; exact w3.mono gF
   ·rw[ec]; exact v3.mono gV
   ·have:=((w1 i hi).dot w2 (v1 k hk) (h.w.2.2 i hi) (h.v.2.2 k hk)).trans (h.d i k hi hk);refine this.mono ?_;have g:=Af6 hF M0 M1 hu hu2;rw[ec];grind
   ·have:=((v1 i hi).dot w2 (v1 k hk) (h.v.2.2 i hi) (h.v.2.2 k hk)).trans (h.e i k hi hk);refine this.mono ?_;have g:=Af6 (F:=1) (zE) M0 M1 hu hu2;rw[ec];grind
end Go.Cn
end
