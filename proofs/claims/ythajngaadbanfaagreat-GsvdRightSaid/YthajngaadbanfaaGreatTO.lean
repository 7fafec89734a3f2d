/- A verified evaluator of the program's form and its use for this seat: GsvY, S1EqLaw23R, S1PLaw23R. -/
import Derived.Test.YthajngaadbanfaaGreatTN
import Derived.Test.YthajngaadbanfaaGreatTE
import Derived.Test.YthajngaadbanfaaGreatTF
import Derived.Test.YthajngaadbanfaaGreatTM
set_option linter.unusedVariables false
set_option linter.unusedSimpArgs false
open Option renaming some->xQ,none->xY
open Bool renaming true->xZ,false->x5
open Int renaming toNat->wQ
open Rat renaming le_of_lt->za,mul_le_mul_of_nonneg_left->zd,mul_le_mul_of_nonneg_right->zb,le_trans->zn,mul_nonneg->zc
open Int renaming natCast_add->zt
open Classical renaming byContradiction->yG
open Bool renaming true_or->wg
open List renaming mem_append->zA
noncomputable section
open Go.Proofs.Tryz
namespace Go.Ck
open Go.Den Go.Proofs.S1
theorem AdU{C:Nat}{s q:Nat->Rat}{S:Rat}(c6:C<=6)(hS:(sm C fun k=>q k)=S)(hs:∀k,s k*s k<=103 / 100*(q k+tw (-1800)))(S0:tw (-200)<=S):
 (sm C fun k=>20*GK*s k*(20*GK*s k))<=S*tw (-64):=by
 have e0:=Py;have e1:=Zh;have t1:=DP (-1800);have ee:GK*GK<=6116 / 1000000000000000*(6116 / 1000000000000000):=CU e1 e1 (by grind) (za e0);have ee0:0<=GK*GK:=BS _
 have a:(sm C fun k=>20*GK*s k*(20*GK*s k))<=sm C fun k=>400*(GK*GK)*(103 / 100)*(q k+tw (-1800)):=Ja C fun k _=>by have:=zd (hs k) (show 0<=400*(GK*GK) by grind);grind
 have b:(sm C fun k=>400*(GK*GK)*(103 / 100)*(q k+tw (-1800)))=400*(GK*GK)*(103 / 100)*(S+(C:Rat)*tw (-1800)):=by rw[EG,Eh,hS,QM]
 have c1:(C:Rat)<=6:=Cy (n:=6) c6;have c2:=zb c1 (za t1)
 have t2:6*tw (-1800)<=tw (-200):=by
  have:tw (-1800)*tw 3<=tw (-200):=by rw[<- Eu]; exact UT (by decide)
  have e:tw 3=8:=by decide +kernel
  rw[e] at this; grind
 have Sp:0<=S:=zn (za (DP (-200))) S0;have d:400*(GK*GK)*(103 / 100)*(S+(C:Rat)*tw (-1800))<=400*(GK*GK)*(103 / 100)*(2*S):=zd (by grind) (by grind);have t64:tw (-64)=1 / 18446744073709551616:=by decide +kernel
 have f:GK*GK*S<=6116 / 1000000000000000*(6116 / 1000000000000000)*S:=zb ee Sp;rw[t64];grind
theorem Q8{R P C:Nat}{l m:Bf}(hl:l.length=R*C){k:Nat}(hk:k<C):(∀i,i<R->Bx C (l++m) i k=Bx C l i k)/\∀i,Bx C (l++m) (R+i) k=Bx C m i k:=by
 refine⟨fun i hi=>?_,fun i=>?_⟩
 ·unfold Bx CE;have e:((i:Int)*(C:Int)+(k:Int)).toNat=i*C+k:=by rw[<- Ax,<- zt,Ad]
  rw[e,Al,List.getElem?_append_left (by rw[hl]; exact Dw hi hk),Al]
 ·unfold Bx CE;have e:(((R+i:Nat):Int)*(C:Int)+(k:Int)).toNat=R*C+(i*C+k):=by rw[<- Ax,<- zt,Ad,AM,Nat.add_assoc]
  have e2:((i:Int)*(C:Int)+(k:Int)).toNat=i*C+k:=by rw[<- Ax,<- zt,Ad]
  rw[e,e2,Al,AX (by omega),Al,hl,Nat.add_sub_cancel_left]
theorem AfY{P C:Nat}{L V:Bf}{E:Nat->Nat->Rat}(c6:C<=6)(p6:P<=6)(hL:L.length=P*C)(bL:∀i k:Nat,i<P->k<C->Bd 1 (CE (C:Int) L (i:Int) (k:Int)).toNat)(bV:∀i k:Nat,i<C->k<C->Bd 5 (CE (C:Int) V (i:Int) (k:Int)).toNat)
 (lV:∀j,j<C->Ln C (fun a=>Bx C V a j) (101 / 100)) (lL:∀b,b<C->Ln P (fun i=>Bx C L i b) (101 / 100)) (VV:∀a b,a<C->b<C->Nr (sm C fun j=>Bx C V a j*Bx C V b j) (OV a b) GK) {ρ:Nat->Rat} {τ:Rat} (hρ:Ln C ρ τ):
 Ln P (fun i=>(sm C fun b=>(sm C fun j=>Bx C (FC P C L V) i j*Bx C V b j)*ρ b)-sm C fun b=>Bx C L i b*ρ b) (183 / 10*GK*τ):=by
 have u0:=Dc;have e0:=Py;have eu:55000*uR=GK:=rfl;have τ0:=hρ.1;have FV:Fn C C (fun j a=>Bx C V a j) (3*(101 / 100)):=Fn.same lV (by grind) (by omega);have FL:Fn P C (fun b i=>Bx C L i b) (3*(101 / 100)):=Fn.same lL (by grind) (by omega);have ly:Ln C (fun j=>sm C fun b=>Bx C V b j*ρ b) (3*(101 / 100)*τ):=FV.Ek hρ
 have FE:Fn C C (fun b a=>(sm C fun j=>Bx C V a j*Bx C V b j)-OV a b) (6*GK):=Fn.Jk (za e0) (fun b a hb ha=>by have:=VV a b ha hb; unfold Nr at this; unfold Ab; grind) c6 c6
 have t1:=FL.mul (FE.mul hρ)
 have FD:Fn P C (fun j i=>Bx C (FC P C L V) i j-sm C fun a=>Bx C L i a*Bx C V a j) (6*(130*uR)):=Fn.Jk (by grind) (fun j i hj hi=>by have:=(Yt c6 hL bL bV hi hj (lV j hj)).1;unfold Nr at this; unfold Ab; grind) c6 p6
 have t2:=FD.mul ly;refine((t1.add t2).mono ?_).congr fun i hi=>?_
 ·have:=zc (za u0) τ0;have h2:55000*(uR*τ)=GK*τ:=by rw[<- eu]; grind
  grind
 ·show(sm C fun b=>(sm C fun j=>Bx C (FC P C L V) i j*Bx C V b j)*ρ b)-(sm C fun b=>Bx C L i b*ρ b)=
   (sm C fun a=>Bx C L i a*sm C fun b=>((sm C fun j=>Bx C V a j*Bx C V b j)-OV a b)*ρ b)+sm C fun j=>(Bx C (FC P C L V) i j-sm C fun a=>Bx C L i a*Bx C V a j)*sm C fun b=>Bx C V b j*ρ b
  have z1:(sm C fun b=>(sm C fun j=>Bx C (FC P C L V) i j*Bx C V b j)*ρ b)=sm C fun j=>Bx C (FC P C L V) i j*sm C fun b=>Bx C V b j*ρ b:=by
   have a1:(sm C fun b=>(sm C fun j=>Bx C (FC P C L V) i j*Bx C V b j)*ρ b)=sm C fun b=>sm C fun j=>Bx C (FC P C L V) i j*Bx C V b j*ρ b:=BD C fun b _=>by rw[IB]
   rw[a1,HR];exact BD C fun j _=>by rw[<- EG]; exact BD C fun b _=>by grind
  have z2:(sm C fun a=>Bx C L i a*sm C fun b=>((sm C fun j=>Bx C V a j*Bx C V b j)-OV a b)*ρ b)=(sm C fun a=>Bx C L i a*sm C fun b=>(sm C fun j=>Bx C V a j*Bx C V b j)*ρ b)-sm C fun b=>Bx C L i b*ρ b:=by
   have:(sm C fun a=>Bx C L i a*sm C fun b=>((sm C fun j=>Bx C V a j*Bx C V b j)-OV a b)*ρ b)+(sm C fun b=>Bx C L i b*ρ b)=sm C fun a=>Bx C L i a*sm C fun b=>(sm C fun j=>Bx C V a j*Bx C V b j)*ρ b:=by
    rw[<- Eh];refine BD C fun a ha=>?_
    have:(sm C fun b=>((sm C fun j=>Bx C V a j*Bx C V b j)-OV a b)*ρ b)+ρ a=sm C fun b=>(sm C fun j=>Bx C V a j*Bx C V b j)*ρ b:=by have o:(sm C fun b=>ρ b*OV a b)=ρ a:=Tf ha ρ;rw[<- o,<- Eh];exact BD C fun b _=>by grind
    rw[<- this]; grind
   grind
  have z3:(sm C fun j=>(Bx C (FC P C L V) i j-sm C fun a=>Bx C L i a*Bx C V a j)*sm C fun b=>Bx C V b j*ρ b)=(sm C fun j=>Bx C (FC P C L V) i j*sm C fun b=>Bx C V b j*ρ b)-sm C fun j=>(sm C fun a=>Bx C L i a*Bx C V a j)*sm C fun b=>Bx C V b j*ρ b:=by
   have:(sm C fun j=>(Bx C (FC P C L V) i j-sm C fun a=>Bx C L i a*Bx C V a j)*sm C fun b=>Bx C V b j*ρ b)+(sm C fun j=>(sm C fun a=>Bx C L i a*Bx C V a j)*sm C fun b=>Bx C V b j*ρ b)=sm C fun j=>Bx C (FC P C L V) i j*sm C fun b=>Bx C V b j*ρ b:=by rw[<- Eh]; exact BD C fun j _=>by grind
   grind
  have z4:(sm C fun a=>Bx C L i a*sm C fun b=>(sm C fun j=>Bx C V a j*Bx C V b j)*ρ b)=sm C fun j=>(sm C fun a=>Bx C L i a*Bx C V a j)*sm C fun b=>Bx C V b j*ρ b:=by
   have b1:(sm C fun a=>Bx C L i a*sm C fun b=>(sm C fun j=>Bx C V a j*Bx C V b j)*ρ b)=sm C fun a=>sm C fun j=>Bx C L i a*Bx C V a j*sm C fun b=>Bx C V b j*ρ b:=BD C fun a _=>by
    have c1:(sm C fun b=>(sm C fun j=>Bx C V a j*Bx C V b j)*ρ b)=sm C fun j=>Bx C V a j*sm C fun b=>Bx C V b j*ρ b:=by
     have d1:(sm C fun b=>(sm C fun j=>Bx C V a j*Bx C V b j)*ρ b)=sm C fun b=>sm C fun j=>Bx C V a j*Bx C V b j*ρ b:=BD C fun b _=>by rw[IB]
     rw[d1,HR];exact BD C fun j _=>by rw[<- EG]; exact BD C fun b _=>by grind
    rw[c1,<- EG];exact BD C fun j _=>by grind
   rw[b1,HR];exact BD C fun j _=>by rw[IB]
  rw[z1,z2,z3,z4]; grind
theorem Adg{R P C:Nat}{l m Q V U:Bf}(h6:R+P<=6)(hcr:C<=R+P)(hl:l.length=R*C)(hm:m.length=P*C)(aA:Bp (l++m)=xZ)(bA:Bl 100 (l++m))(tA:TL 100 (l++m))(hQ:Q=K0 (R+P) C (l++m))(hV:V=Fv R C (BR R C Q))(hU:U=FC P C (IX R P C Q) V):
 Sn R C C C l (EF R C (BR R C Q)) (BZ C C fun i k=>CE (C:Int) V (k:Int) (i:Int)) (BZ C C fun i k=>CE (C:Int) (El (R+P) C (l++m)) (k:Int) (i:Int))<=(GB l+GB m)*tw (-64)+tw (-4000) /\
 Sn P C C C m U (BZ C C fun i k=>CE (C:Int) V (k:Int) (i:Int)) (BZ C C fun i k=>CE (C:Int) (El (R+P) C (l++m)) (k:Int) (i:Int))<=(GB l+GB m)*tw (-64)+tw (-4000):=by
 have c6:C<=6:=by omega
 have lA:(l++m).length=(R+P)*C:=by rw[A8,hl,hm,AM]
 have lW:(EF R C (BR R C Q)).length=R*C:=by unfold EF; rw[Hm]; exact Fj _ _ _ _
 have lU:U.length=P*C:=by rw[hU]; exact BW _ _ _
 rw[AbD (by omega) c6 hl lW,AbD (by omega) c6 hm lU];have t4:=DP (-4000);have t64:=DP (-64);have sl:GB l=sm C fun k=>sq R fun i=>Bx C l i k:=Nj hl
 have sm':GB m=sm C fun k=>sq P fun i=>Bx C m i k:=Nj hm
 have l0:0<=GB l:=by rw[sl]; exact K3 _ fun k _=>IA _ _
 have m0:0<=GB m:=by rw[sm']; exact K3 _ fun k _=>IA _ _
 have qk:∀k,k<C->(sq (R+P) fun i=>Bx C (l++m) i k)=(sq R fun i=>Bx C l i k)+sq P fun i=>Bx C m i k:=fun k hk=>by
  obtain⟨a1,a2⟩:=Q8 (P:=P) (m:=m) hl hk;show sm (R+P) (fun i=>Bx C (l++m) i k*Bx C (l++m) i k)=_;rw[Hj];congr 1
  ·exact BD R fun i hi=>by rw[a1 i hi]
  ·exact BD P fun i _=>by rw[a2 i]
 by_cases nz:∃z∈l++m,BH z≠0
 case neg =>
  have z:Nz (l++m):=fun x hx=>by
   have:BH x=0:=yG fun g=>nz ⟨x,hx,g⟩
   unfold BH at this; omega
  have zR:=z.fac (c:=C) (show R+P<=7 by omega) aA
  have T0:∀b k,b<C->k<C->Bx C (El (R+P) C (l++m)) b k=0:=fun b k hb hk=>by unfold Bx El; rw[EU hb hk]; exact Gh (zR.at _ _ _)
  have x0:∀{n:Nat} {x W:Bf},(∀i k,i<n->k<C->Bx C x i k=0)->(sm C fun k=>sq n fun i=>Bx C x i k-sm C fun b=>(sm C fun a=>Bx C W i a*Bx C V b a)*Bx C (El (R+P) C (l++m)) b k)=0:=fun {n x W} hx=>by
   rw[BD C (g:=fun _=>0) fun k hk=>?_]
   ·exact FW C
   ·unfold sq;rw[BD n (g:=fun _=>0) fun i hi=>?_]
    ·exact FW n
    ·have:(sm C fun b=>(sm C fun a=>Bx C W i a*Bx C V b a)*Bx C (El (R+P) C (l++m)) b k)=0:=by rw[BD C (g:=fun _=>0) fun b hb=>by rw[T0 b k hb hk]; grind];exact FW C
     show(Bx C x i k-sm C fun b=>(sm C fun a=>Bx C W i a*Bx C V b a)*Bx C (El (R+P) C (l++m)) b k)*(Bx C x i k-sm C fun b=>(sm C fun a=>Bx C W i a*Bx C V b a)*Bx C (El (R+P) C (l++m)) b k)=0;rw[this,hx i k hi hk]; grind
  have S0:0<=(GB l+GB m)*tw (-64):=zc (by grind) (za t64)
  have zl:∀i k,i<R->k<C->Bx C l i k=0:=fun i k hi hk=>by rw[<- (Q8 (P:=P) (m:=m) hl hk).1 i hi]; exact Gh (z.at _ _ _)
  have zm:∀i k,i<P->k<C->Bx C m i k=0:=fun i k hi hk=>by rw[<- (Q8 (P:=P) (m:=m) hl hk).2 i]; exact Gh (z.at _ _ _)
  rw[x0 zl,x0 zm];constructor<;>grind
 have S0:tw (-200)<=GB l+GB m:=by
  obtain⟨x,hx,k0⟩:=nz;have lo:=Akv (tA x hx k0);obtain⟨i,k,hi,hk,e⟩:=Hw lA hx;have h2:=KZ (f:=fun i=>Bx C (l++m) i k*Bx C (l++m) i k) hi fun i _=>BS _
  have h3:=KZ (f:=fun k=>sq (R+P) fun i=>Bx C (l++m) i k) hk fun k _=>IA _ _
  have e1:vR x.toNat=Bx C (l++m) i k:=by unfold Bx; rw[<- e]
  rw[e1] at lo;have h4:=H7 (za (DP _)) lo;rw[GA,<- Eu] at h4;have e5:(-((100:Nat):Int)+-((100:Nat):Int))=-200:=rfl;rw[e5] at h4
  have e6:(sm C fun k=>sq (R+P) fun i=>Bx C (l++m) i k)=GB l+GB m:=by rw[sl,sm',<- Eh];exact BD C fun k hk=>qk k hk
  rw[e6] at h3;have h5:(sm (R+P) fun i=>Bx C (l++m) i k*Bx C (l++m) i k)=sq (R+P) fun i=>Bx C (l++m) i k:=rfl
  rw[h5] at h2;exact zn h4 (zn h2 h3)
 obtain⟨qo,qb⟩:=AbC h6 hcr aA bA;rw[<- hQ] at qo qb
 have inQ:Bp Q=xZ:=by rw[hQ]; exact FA fun _ _=>Ft (by obtain⟨_,_,_,_,hs⟩:=Za (c:=C) h6 bA aA;exact(Xl (c:=C) (l:=l++m) hs).1)
 obtain⟨n1,n2,n3,n4⟩:=AeU h6 c6 inQ qb qo;rw[<- hV] at n1 n2 n3 n4
 obtain⟨s,hs⟩:=AaZ (q:=fun k=>(sq R fun i=>Bx C l i k)+sq P fun i=>Bx C m i k) fun k=>by
  have:=IA R fun i=>Bx C l i k
  have:=IA P fun i=>Bx C m i k
  grind
 have e0:=Py;have u0:=Dc;have u6:=IZ;have eu:55000*uR=GK:=rfl;have eS:(sm C fun k=>(sq R fun i=>Bx C l i k)+sq P fun i=>Bx C m i k)=GB l+GB m:=by rw[Eh,sl,sm']
 have fin:=AdU c6 eS (fun k=>(hs k).2.2) S0;have t9:=DP (-900)
 have AiR:∀k,k<C->Ln C (fun b=>Bx C (El (R+P) C (l++m)) b k) (1001 / 1000*s k)/\Ln (R+P) (fun i=>Bx C (l++m) i k-sm C fun b=>Bx C Q i b*Bx C (El (R+P) C (l++m)) b k) (7000*uR*s k):=fun k hk=>by
  rw[hQ]
  exact AgB h6 hcr aA bA hk (hs k).1 ⟨zn (za t9) (hs k).1,by show(sq (R+P) fun i=>Bx C (l++m) i k)<=_;rw[qk k hk]; exact(hs k).2.1⟩
 have s0:∀k,0<=s k:=fun k=>zn (za t9) (hs k).1
 have front:∀{f:Nat->Rat} {x:Rat},Ln (R+P) f x->Ln R f x/\Ln P (fun i=>f (R+i)) x:=fun {f x} h=>by
  have h2:=h.2;have e:sq (R+P) f=sq R f+sq P fun i=>f (R+i):=by unfold sq; rw[Hj]
  rw[e] at h2;have:=IA R f;have:=IA P fun i=>f (R+i)
  exact⟨⟨h.1,by grind⟩,⟨h.1,by grind⟩⟩
 have G2:∀k,7000*uR*s k+19*GK*s k<=20*GK*s k:=fun k=>by
  have:=zc (za u0) (s0 k);have h2:55000*(uR*s k)=GK*s k:=by rw[<- eu]; grind
  grind
 have es0:∀k,0<=GK*s k:=fun k=>zc (za e0) (s0 k)
 refine⟨?_,?_⟩
 ·have up:(sm C fun k=>sq R fun i=>Bx C l i k-sm C fun b=>(sm C fun a=>Bx C (EF R C (BR R C Q)) i a*Bx C V b a)*Bx C (El (R+P) C (l++m)) b k)<=sm C fun k=>20*GK*s k*(20*GK*s k):=Ja C fun k hk=>by
   obtain⟨c1,c2⟩:=AiR k hk;have c3:=(front c2).1
   have Z:Fn R C (fun b i=>Bx C Q i b-sm C fun a=>Bx C (EF R C (BR R C Q)) i a*Bx C V b a) (6*(31 / 10*GK)):=Fn.Jk (by grind) (fun b i hb hi=>by have:=n1 i b hi hb; unfold Nr at this; unfold Ab; grind) c6 (by omega)
   have z:=Z.mul c1
   have ln:Ln R (fun i=>Bx C l i k-sm C fun b=>(sm C fun a=>Bx C (EF R C (BR R C Q)) i a*Bx C V b a)*Bx C (El (R+P) C (l++m)) b k) (20*GK*s k):=by
    refine((c3.add z).mono ?_).congr fun i hi=>?_
    ·have:=G2 k;have:=es0 k;grind
    ·show Bx C l i k-(sm C fun b=>(sm C fun a=>Bx C (EF R C (BR R C Q)) i a*Bx C V b a)*Bx C (El (R+P) C (l++m)) b k)=(Bx C (l++m) i k-sm C fun b=>Bx C Q i b*Bx C (El (R+P) C (l++m)) b k)+sm C fun b=>(Bx C Q i b-sm C fun a=>Bx C (EF R C (BR R C Q)) i a*Bx C V b a)*Bx C (El (R+P) C (l++m)) b k
     rw[(Q8 (P:=P) (m:=m) hl hk).1 i hi]
     have:(sm C fun b=>(Bx C Q i b-sm C fun a=>Bx C (EF R C (BR R C Q)) i a*Bx C V b a)*Bx C (El (R+P) C (l++m)) b k)+(sm C fun b=>(sm C fun a=>Bx C (EF R C (BR R C Q)) i a*Bx C V b a)*Bx C (El (R+P) C (l++m)) b k)=sm C fun b=>Bx C Q i b*Bx C (El (R+P) C (l++m)) b k:=by rw[<- Eh]; exact BD C fun b _=>by grind
     grind
   exact ln.2
  have:=zn up fin;grind
 ·have bL:∀i k:Nat,i<P->k<C->Bd 1 (CE (C:Int) (IX R P C Q) (i:Int) (k:Int)).toNat:=fun i k hi hk=>by rw[AaC hi hk]; exact qb _ k (by omega) hk
  have lowr:∀a b,a<P->b<C->Bx C (IX R P C Q) a b=Bx C Q (R+a) b:=fun a b ha hb=>by unfold Bx; rw[AaC ha hb]
  have lL:∀b,b<C->Ln P (fun i=>Bx C (IX R P C Q) i b) (101 / 100):=fun b hb=>by
   have a:=qo b b hb hb;have d1:OV b b=1:=Az rfl;rw[d1,Hj] at a;have c:=K3 R (f:=fun i=>Bx C Q i b*Bx C Q i b) fun i _=>BS _
   refine⟨by grind,?_⟩
   have e:(sq P fun i=>Bx C (IX R P C Q) i b)=sm P fun i=>Bx C Q (R+i) b*Bx C Q (R+i) b:=BD P fun i hi=>by show Bx C (IX R P C Q) i b*Bx C (IX R P C Q) i b=_;rw[lowr i b hi hb]
   rw[e];unfold Nr at a; grind
  have up:(sm C fun k=>sq P fun i=>Bx C m i k-sm C fun b=>(sm C fun a=>Bx C U i a*Bx C V b a)*Bx C (El (R+P) C (l++m)) b k)<=sm C fun k=>20*GK*s k*(20*GK*s k):=Ja C fun k hk=>by
   obtain⟨c1,c2⟩:=AiR k hk;have c3:=(front c2).2;have z:=(AfY (E:=fun _ _=>0) c6 (show P<=6 by omega) (WY R P C Q) bL n4 n3 lL n2 c1).neg
   have ln:Ln P (fun i=>Bx C m i k-sm C fun b=>(sm C fun a=>Bx C U i a*Bx C V b a)*Bx C (El (R+P) C (l++m)) b k) (20*GK*s k):=by
    refine((c3.add z).mono ?_).congr fun i hi=>?_
    ·have:=G2 k;have:=es0 k;grind
    ·show Bx C m i k-(sm C fun b=>(sm C fun a=>Bx C U i a*Bx C V b a)*Bx C (El (R+P) C (l++m)) b k)=(Bx C (l++m) (R+i) k-sm C fun b=>Bx C Q (R+i) b*Bx C (El (R+P) C (l++m)) b k)+-((sm C fun b=>(sm C fun j=>Bx C (FC P C (IX R P C Q) V) i j*Bx C V b j)*Bx C (El (R+P) C (l++m)) b k)-sm C fun b=>Bx C (IX R P C Q) i b*Bx C (El (R+P) C (l++m)) b k);rw[(Q8 (P:=P) (m:=m) hl hk).2 i,hU];have:(sm C fun b=>Bx C (IX R P C Q) i b*Bx C (El (R+P) C (l++m)) b k)=sm C fun b=>Bx C Q (R+i) b*Bx C (El (R+P) C (l++m)) b k:=BD C fun b hb=>by rw[lowr i b hi hb]
     rw[this]; grind
   exact ln.2
  have:=zn up fin;grind
end Go.Ck
namespace Go.Proofs.S1
open Go Go.Den Go.Ck Go.Proofs
set_option maxRecDepth 100000
def Cw.DK.GM:List (Nat × Ez):=[(9,Cw.asked.Bt),(10,Cw.Gq.Bt),(11,B4.Add.q.Bt),(14,Cn.D0.Bt),(12,Dt.Iq.Bt),(15,Dt.HD.Bt),(13,BJ.KM.Bt)]
def Cw.DK.live:Nat->Option (List Nat)
 | 2=>xQ [2,3,5,6,7]
 | _=>xY
def Cw.DK.E:Env:=D6 (Db Cw.DK.GM) (fun _=>x5) (fun _=>xY) Cw.DK.live
section
variable(N:Nat)(r c:Int)(l:Bf)(p q:Int)(m:Bf)(p6 p7:Bool)(p5 p5_1:Int)(p5_2:Bf)(p5_3 p5_4:Int)(p5_5:Bf)(p5_6 p5_7:Int)(p5_8:Bf)(p5_9 p5_10:Int)(p5_11 p5_12 p5_13:Bf)
def Cw.DK.C2:Option DV:=cutAt Cw.DK.E N f3 (Bw f3) [1,1,0] [] ⟨Fz 64 [(2,.ptr 2 0 0),(3,.ptr 3 0 0),(5,.ptr 5 0 0),(6,.bool p6),(7,.bool p7)],[(5,x5,.box [.int .i64 p5,.int .i64 p5_1,.Bj .arg .u64 p5_2,.int .i64 p5_3,.int .i64 p5_4,.Bj .arg .u64 p5_5,.int .i64 p5_6,.int .i64 p5_7,.Bj .arg .u64 p5_8,.int .i64 p5_9,.int .i64 p5_10,.Bj .arg .u64 p5_11,.Bj .arg .u64 p5_12,.Bj .arg .u64 p5_13]),(3,x5,.box [.int .i64 p,.int .i64 q,.Bj .arg .u64 m]),(2,x5,.box [.int .i64 r,.int .i64 c,.Bj .arg .u64 l])]⟩
theorem Cw.DK.Ah3:Cw.DK.C2 N r c l p q m p6 p7 p5 p5_1 p5_2 p5_3 p5_4 p5_5 p5_6 p5_7 p5_8 p5_9 p5_10 p5_11 p5_12 p5_13=cond ((!p6)||(!p7)) (some (.bool (cond p7 true false))) (bif (Bp l&&BA r c l) then cond (Bp m&&BA p q m) (bif (VN (GB l)&&VN (GB m)) then cond (BA p5_6 p5_7 p5_8) (bif (BA p5_9 p5_10 p5_11) then cond ((BA r c l&&BA p5 p5_1 p5_2)&&((BA p5_7 p5_6 (BZ (wQ p5_7) (wQ p5_6) (fun j1 j2=>CE p5_7 p5_8 j2 j1))&&BA p5_10 p5_9 (BZ (wQ p5_10) (wQ p5_9) (fun j1 j2=>CE p5_10 p5_11 j2 j1)))&&(((Bp l&&Bp p5_2)&&(Bp (BZ (wQ p5_7) (wQ p5_6) (fun j1 j2=>CE p5_7 p5_8 j2 j1))&&Bp (BZ (wQ p5_10) (wQ p5_9) (fun j1 j2=>CE p5_10 p5_11 j2 j1))))&&decide (p5=r/\p5_1=p5_7/\p5_6=p5_9/\p5_10=c/\1<=p5_1/\1<=p5_6)))) (bif (BA p5_6 p5_7 p5_8) then cond (BA p5_9 p5_10 p5_11) (bif ((BA p q m&&BA p5_3 p5_4 p5_5)&&((BA p5_7 p5_6 (BZ (wQ p5_7) (wQ p5_6) (fun j1 j2=>CE p5_7 p5_8 j2 j1))&&BA p5_10 p5_9 (BZ (wQ p5_10) (wQ p5_9) (fun j1 j2=>CE p5_10 p5_11 j2 j1)))&&(((Bp m&&Bp p5_5)&&(Bp (BZ (wQ p5_7) (wQ p5_6) (fun j1 j2=>CE p5_7 p5_8 j2 j1))&&Bp (BZ (wQ p5_10) (wQ p5_9) (fun j1 j2=>CE p5_10 p5_11 j2 j1))))&&decide (p5_3=p/\p5_4=p5_7/\p5_6=p5_9/\p5_10=q/\1<=p5_4/\1<=p5_6)))) then cond ((dSo (Sn (wQ r) (wQ p5_1) (wQ p5_6) (wQ c) l p5_2 (BZ (wQ p5_7) (wQ p5_6) (fun j1 j2=>CE p5_7 p5_8 j2 j1)) (BZ (wQ p5_10) (wQ p5_9) (fun j1 j2=>CE p5_10 p5_11 j2 j1)))&&dSo (F5 (GB l)+F5 (GB m)))&&Ch (0<=(32:Int)/\(32:Int)<=1000)) (bif ((!(decide (F5 (Sn (wQ r) (wQ p5_1) (wQ p5_6) (wQ c) l p5_2 (BZ (wQ p5_7) (wQ p5_6) (fun j1 j2=>CE p5_7 p5_8 j2 j1)) (BZ (wQ p5_10) (wQ p5_9) (fun j1 j2=>CE p5_10 p5_11 j2 j1)))<=F5 (F5 (GB l)+F5 (GB m))*tw (-2*32)+tw (-4000))))||((dSo (Sn (wQ p) (wQ p5_4) (wQ p5_6) (wQ q) m p5_5 (BZ (wQ p5_7) (wQ p5_6) (fun j1 j2=>CE p5_7 p5_8 j2 j1)) (BZ (wQ p5_10) (wQ p5_9) (fun j1 j2=>CE p5_10 p5_11 j2 j1)))&&dSo (F5 (GB l)+F5 (GB m)))&&Ch (0<=(32:Int)/\(32:Int)<=1000))) then xQ (.bool (cond (bif (decide (F5 (Sn (wQ r) (wQ p5_1) (wQ p5_6) (wQ c) l p5_2 (BZ (wQ p5_7) (wQ p5_6) (fun j1 j2=>CE p5_7 p5_8 j2 j1)) (BZ (wQ p5_10) (wQ p5_9) (fun j1 j2=>CE p5_10 p5_11 j2 j1)))<=F5 (F5 (GB l)+F5 (GB m))*tw (-2*32)+tw (-4000))) then (decide (F5 (Sn (wQ p) (wQ p5_4) (wQ p5_6) (wQ q) m p5_5 (BZ (wQ p5_7) (wQ p5_6) (fun j1 j2=>CE p5_7 p5_8 j2 j1)) (BZ (wQ p5_10) (wQ p5_9) (fun j1 j2=>CE p5_10 p5_11 j2 j1)))<=F5 (F5 (GB l)+F5 (GB m))*tw (-2*32)+tw (-4000))) else x5) xZ x5)) else xY) xY else xY) xY else xY) xY else xY) xY else xY) xY else xY):=
 Eq.trans ((DY _ _ _ _ _ _ _).trans (by kernel_rfl))
 (B5 (SU p6) (B5 (OZ p6) (B5 (U7 p6) (CQ (AeP _ _) (B5 (MH p7) (B5 (QG p7) rfl)) (CQ (CF _) (CQ (CF _) (CQ (CF _) (CQ (CF _) (CQ (CF _) (CQ (CF _) (CQ (CF _) (CQ (CF _) (CQ (CF _) (EY (B5 (MH (decide (F5 (Sn (wQ r) (wQ p5_1) (wQ p5_6) (wQ c) l p5_2 (BZ (wQ p5_7) (wQ p5_6) (fun j1 j2=>CE p5_7 p5_8 j2 j1)) (BZ (wQ p5_10) (wQ p5_9) (fun j1 j2=>CE p5_10 p5_11 j2 j1)))<=F5 (F5 (GB l)+F5 (GB m))*tw (-2*32)+tw (-4000)))) (B5 (MH (decide (F5 (Sn (wQ r) (wQ p5_1) (wQ p5_6) (wQ c) l p5_2 (BZ (wQ p5_7) (wQ p5_6) (fun j1 j2=>CE p5_7 p5_8 j2 j1)) (BZ (wQ p5_10) (wQ p5_9) (fun j1 j2=>CE p5_10 p5_11 j2 j1)))<=F5 (F5 (GB l)+F5 (GB m))*tw (-2*32)+tw (-4000)))) (CQ (Al7 _ _) (B5 (QG (decide (F5 (Sn (wQ r) (wQ p5_1) (wQ p5_6) (wQ c) l p5_2 (BZ (wQ p5_7) (wQ p5_6) (fun j1 j2=>CE p5_7 p5_8 j2 j1)) (BZ (wQ p5_10) (wQ p5_9) (fun j1 j2=>CE p5_10 p5_11 j2 j1)))<=F5 (F5 (GB l)+F5 (GB m))*tw (-2*32)+tw (-4000)))) (B5 (AhJ (decide (F5 (Sn (wQ r) (wQ p5_1) (wQ p5_6) (wQ c) l p5_2 (BZ (wQ p5_7) (wQ p5_6) (fun j1 j2=>CE p5_7 p5_8 j2 j1)) (BZ (wQ p5_10) (wQ p5_9) (fun j1 j2=>CE p5_10 p5_11 j2 j1)))<=F5 (F5 (GB l)+F5 (GB m))*tw (-2*32)+tw (-4000))) (decide (F5 (Sn (wQ p) (wQ p5_4) (wQ p5_6) (wQ q) m p5_5 (BZ (wQ p5_7) (wQ p5_6) (fun j1 j2=>CE p5_7 p5_8 j2 j1)) (BZ (wQ p5_10) (wQ p5_9) (fun j1 j2=>CE p5_10 p5_11 j2 j1)))<=F5 (F5 (GB l)+F5 (GB m))*tw (-2*32)+tw (-4000)))) (B5 (AhK (decide (F5 (Sn (wQ r) (wQ p5_1) (wQ p5_6) (wQ c) l p5_2 (BZ (wQ p5_7) (wQ p5_6) (fun j1 j2=>CE p5_7 p5_8 j2 j1)) (BZ (wQ p5_10) (wQ p5_9) (fun j1 j2=>CE p5_10 p5_11 j2 j1)))<=F5 (F5 (GB l)+F5 (GB m))*tw (-2*32)+tw (-4000))) (decide (F5 (Sn (wQ p) (wQ p5_4) (wQ p5_6) (wQ q) m p5_5 (BZ (wQ p5_7) (wQ p5_6) (fun j1 j2=>CE p5_7 p5_8 j2 j1)) (BZ (wQ p5_10) (wQ p5_9) (fun j1 j2=>CE p5_10 p5_11 j2 j1)))<=F5 (F5 (GB l)+F5 (GB m))*tw (-2*32)+tw (-4000)))) rfl))) rfl))) rfl) rfl) rfl) rfl) rfl) rfl) rfl) rfl) rfl) rfl)))))
theorem Cw.DK.ev:Cz Cw.DK.E N f3 (Bw f3) [.agg [.int .i64 r,.int .i64 c,.Bj .arg .u64 l],.agg [.int .i64 p,.int .i64 q,.Bj .arg .u64 m]]=cond (Bp l&&Bp m) (Cw.DK.C2 N r c l p q m (NP r c l p q m) (P3 r c l p q m) ((HB r c l p q m (Hy r c l p q m)).1) ((HB r c l p q m (Hy r c l p q m)).2.1) ((HB r c l p q m (Hy r c l p q m)).2.2.1) ((HB r c l p q m (H0 r c l p q m)).1) ((HB r c l p q m (H0 r c l p q m)).2.1) ((HB r c l p q m (H0 r c l p q m)).2.2.1) ((HB r c l p q m (Hz r c l p q m)).1) ((HB r c l p q m (Hz r c l p q m)).2.1) ((HB r c l p q m (Hz r c l p q m)).2.2.1) ((HB r c l p q m (H2 r c l p q m)).1) ((HB r c l p q m (H2 r c l p q m)).2.1) ((HB r c l p q m (H2 r c l p q m)).2.2.1) (X4 r c l p q m (F9 r c l p q m)) (X4 r c l p q m (IJ r c l p q m))) xY:=by kernel_rfl
end
open Go Go.Den Go.Ck Go.Proofs
theorem Afb{R C:Nat}{l W V T:Bf}(r6:R<=6)(c6:C<=6)(hl:l.length=R*C)(hW:W.length=R*C)(hV:V.length=C*C)(hT:T.length=C*C):Ds (Sn R C C C l W V T):=by
 have b1:=AE r6 c6;have b3:=AE c6 c6;have lG:(BZ C C fun i k=>CE (C:Int) T (k:Int) (i:Int)).length=C*C:=BW _ _ _;have dl:E6 1074 2100 1 (Gg l) (R*C)=xZ:=by rw[<- hl]; exact KA (by omega)
 have dW:E6 1074 2100 1 (Gg W) (R*C)=xZ:=by rw[<- hW]; exact KA (by omega)
 have dV:E6 1074 2100 1 (Gg V) (C*C)=xZ:=by rw[<- hV]; exact KA (by omega)
 have dG:E6 1074 2100 1 (Gg (BZ C C fun i k=>CE (C:Int) T (k:Int) (i:Int))) (C*C)=xZ:=by rw[<- lG]; exact KA (by omega)
 have k0:0<C\/R*C=0:=by
  rcases Nat.eq_zero_or_pos C with h | h
  ·right; rw[h,Nat.mul_zero]
  ·exact .inl h
 have d1:E6 2148 4200 6 (Md R C C (Gg W) (Gg V)) (R*C)=xZ:=SW (g:=1074) (t:=2100) (m:=1) (h:=1074) (s:=2100) (n:=1) c6 (by omega) k0 dW dV (by decide) (by decide);have d2:E6 3222 6300 36 (Md R C C (Md R C C (Gg W) (Gg V)) (Gg (BZ C C fun i k=>CE (C:Int) T (k:Int) (i:Int)))) (R*C)=xZ:=SW (g:=2148) (t:=4200) (m:=6) (h:=1074) (s:=2100) (n:=1) c6 (by omega) k0 d1 dG (by decide) (by decide);unfold Sn Xk;rw[Mq,hl];refine(Dg.Pb (g:=6444) (t:=12600) (m:=1369) (k:=36) (by omega) fun j hj=>?_).ds (by decide) (by decide) (by decide);obtain⟨_,_,_,_,_,_,_,d,_⟩:=Xj dl d2 hj;exact d
theorem Cw.DK.Bn:Kq 3 Cw.DK.Bt:=ED Cw.DK.E Tryz.func3 (kc Cw.asked.Bn (kc Cw.Gq.Bn (kc B4.Add.q.Bn (kc Cn.D0.Bn (kc Dt.Iq.Bn (kc Dt.HD.Bn (kc BJ.KM.Bn .nil))))))) fun r c l p q m hp=>by
 have hall:(Bp l&&Bp m)=xZ:=hp;obtain⟨al,am⟩:=Bi.1 hall;obtain⟨N,hN⟩:∃N:Nat,N=8:=⟨8,rfl⟩
 refine⟨N,.bool xZ,[],?_,.bool⟩;rw[Cw.DK.ev,hall,Aa,Cw.DK.Ah3];by_cases ht:Abl r c l p q m=xZ
 ·obtain⟨h1,h2⟩:=Bi.1 (show((BA r c l&&G5 l 100)&&(BA p q m&&G5 m 100))=xZ from ht);obtain⟨hr,t1⟩:=Bi.1 h1;obtain⟨hr2,t2⟩:=Bi.1 h2
  have xY:Di r c l p q m≠0->P3 r c l p q m=decide (Di r c l p q m=3\/Di r c l p q m=6)/\NP r c l p q m=x5:=fun h=>by refine⟨by unfold P3; rw[Az ht,Ay h],by unfold NP; rw[Ag h,Bool.and_false]⟩
  rcases AiH hr hr2 al am t1 t2 with e | e | ⟨R,P,C,Q,V,U,rfl,rfl,rfl,rfl,h6,hcr,ll,lm,bA,hQ,hV,hU,he,T⟩
  ·obtain⟨ho,hi⟩:=xY (by rw[e]; decide);rw[ho,hi,e,Bc,wg,Aa]; rfl
  ·obtain⟨ho,hi⟩:=xY (by rw[e]; decide);rw[ho,hi,e,Bc,wg,Aa]; rfl
  ·have aA:Bp (l++m)=xZ:=Bv.2 fun y hy=>(zA.1 hy).elim (Bv.1 al y) (Bv.1 am y)
   have tA:TL 100 (l++m):=fun x hx=>(zA.1 hx).elim (AbE (k:=100) t1 x) (AbE (k:=100) t2 x)
   obtain⟨o1,o2⟩:=Adg h6 hcr ll lm aA bA tA hQ hV hU;have hi:NP (R:Int) (C:Int) l (P:Int) (C:Int) m=xZ:=by unfold NP; rw[ht,Ac T.err]; rfl
   have ho:P3 (R:Int) (C:Int) l (P:Int) (C:Int) m=xZ:=by unfold P3; rw[Az ht,Az T.err,T.fit]
   have ax:∀x,HB (R:Int) (C:Int) l (P:Int) (C:Int) m x=x:=fun x=>by unfold HB; rw[Az hi]
   have c6:C<=6:=by omega
   have c1:1<=C:=by
    have e0:VH (R:Int) (C:Int) l (P:Int) (C:Int) m=0:=Decidable.byContradiction fun k=>k ((Ze k).symm.trans T.err)
    obtain⟨R',C',P',_,eC,_,_,g⟩:=Acj e0;have:=g.c1; omega
   have lW:(EF R C (BR R C Q)).length=R*C:=by unfold EF; rw[Hm]; exact Fj _ _ _ _
   have lR:(El (R+P) C (l++m)).length=C*C:=BW _ _ _;have lVt:(BZ C C fun j1 j2=>CE (C:Int) V (j2:Int) (j1:Int)).length=C*C:=BW _ _ _;have lRt:(BZ C C fun j1 j2=>CE (C:Int) (El (R+P) C (l++m)) (j2:Int) (j1:Int)).length=C*C:=BW _ _ _;obtain⟨g1,_⟩:=Agx (r:=(R:Int)) (c:=(C:Int)) (p:=(P:Int)) (q:=(C:Int)) al am;rw[T.eW,T.eU,T.eV,T.eR] at g1;obtain⟨g2,g3⟩:=Bi.1 g1;obtain⟨aW,aU⟩:=Bi.1 g2;obtain⟨aV,aR⟩:=Bi.1 g3;have rW:BA (R:Int) (C:Int) (EF R C (BR R C Q))=xZ:=D3 (by omega) c6 lW;have rU:BA (P:Int) (C:Int) U=xZ:=D3 (by omega) c6 T.AdG;have rV:BA (C:Int) (C:Int) V=xZ:=D3 c6 c6 T.Agf;have rR:BA (C:Int) (C:Int) (El (R+P) C (l++m))=xZ:=D3 c6 c6 lR;have rVt:BA (C:Int) (C:Int) (BZ C C fun j1 j2=>CE (C:Int) V (j2:Int) (j1:Int))=xZ:=D3 c6 c6 lVt;have rRt:BA (C:Int) (C:Int) (BZ C C fun j1 j2=>CE (C:Int) (El (R+P) C (l++m)) (j2:Int) (j1:Int))=xZ:=D3 c6 c6 lRt;have aVt:Bp (BZ C C fun j1 j2=>CE (C:Int) V (j2:Int) (j1:Int))=xZ:=FA fun _ _=>Ft aV
   have aRt:Bp (BZ C C fun j1 j2=>CE (C:Int) (El (R+P) C (l++m)) (j2:Int) (j1:Int))=xZ:=FA fun _ _=>Ft aR
   have k2:Ch (0<=(32:Int)/\(32:Int)<=1000)=xZ:=Bv.2 (by decide);have l36:l.length<=36:=Iu hr;have m36:m.length<=36:=Iu hr2;have D1:=Dg.sq (x:=l) (by omega);have D2:=Dg.sq (x:=m) (by omega);have dl:Dq (GB l):=D1.dq (by decide) (by decide) (by decide);have dm:Dq (GB m):=D2.dq (by decide) (by decide) (by decide);have ds:Ds (GB l+GB m):=(D1.add D2).ds (by decide) (by decide) (by decide);have q1:=Afb (R:=R) (C:=C) (l:=l) (W:=EF R C (BR R C Q)) (by omega) c6 ll lW lVt lRt;have q2:=Afb (R:=P) (C:=C) (l:=m) (W:=U) (by omega) c6 lm T.AdG lVt lRt;have e64:(-2*(32:Int))=-64:=rfl;have s1:decide ((R:Int)=(R:Int)/\(C:Int)=(C:Int)/\(C:Int)=(C:Int)/\(C:Int)=(C:Int)/\1<=(C:Int)/\1<=(C:Int))=xZ:=Ac (by omega);have s2:decide ((P:Int)=(P:Int)/\(C:Int)=(C:Int)/\(C:Int)=(C:Int)/\(C:Int)=(C:Int)/\1<=(C:Int)/\1<=(C:Int))=xZ:=Ac (by omega);rw[hi,ho,ax,ax,ax,ax,T.eW,T.eU,T.eV,T.eR];dsimp only;rw[al,am,hr,hr2,Jc dl,Jc dm,rV,rR,rW,rU,Ad,Ad,Ad,rVt,rRt,aVt,aRt,aW,aU,s1,s2,AaT q1,AaT q2,HN dl,HN dm,AaT ds,k2,HN q1.dq,HN q2.dq,HN ds.dq,e64,Ac o1,Ac o2];simp only[AH,Bool.or_self,Ah,Bool.false_or,Aa,Af]
 ·have ho:P3 r c l p q m=xZ:=by unfold P3; rw[Ay ht]
  have hi:NP r c l p q m=x5:=by
   unfold NP;cases h:Abl r c l p q m with
   | true=>exact absurd h ht
   | false=>rfl
  rw[ho,hi,Bc,wg,Aa]; rfl
end Go.Proofs.S1
end
