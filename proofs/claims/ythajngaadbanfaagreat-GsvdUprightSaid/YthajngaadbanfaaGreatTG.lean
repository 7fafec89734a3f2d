/- A verified evaluator of the program's form and its use for this seat: S1PPack, S1PNear, S1EqSum, S1PSum. -/
import Derived.Test.YthajngaadbanfaaGreatTF
import Derived.Test.YthajngaadbanfaaGreatTE
set_option linter.unusedVariables false
set_option linter.unusedSimpArgs false
open Option renaming some->wM,none->wN
open Bool renaming true->wc,false->wh
open Bool renaming or_eq_true->zH,or_eq_false_iff->yD
open Nat renaming mod_lt->zt,div_le_self->yx,one_mul->zv,or_comm->xz
noncomputable section
open Go.Proofs.Tryz
namespace Go.Proofs.S1
open Go Go.Den Go.Cn Go.Proofs
theorem Wc{r:Nat}(h:r<2^63):Cy r=((2^63+r:Nat):Int):=by unfold Cy; rw[Ad,OO h]
theorem KB{r:Nat}(h:r<2^63)(n:Bool):(cond n (bif (Br (r:Int)) then wM (DV.int .u64 (Cy r)) else wN) (wM (DV.int .u64 r)))=wM (DV.int .u64 ((Cq n r:Nat):Int)):=by
 cases n
 ·rfl
 ·rw[CI (by omega),Wc h]; rfl
theorem Lm(n:Bool)(m:Nat)(e:Int):Py n m e=((Cq n (Cu m e):Nat):Int):=by unfold Py; rw[Ad]
theorem Zm{E M:Nat}(h1:1<=E)(h2:E<=2046)(h3:4503599627370496<=M)(h4:M<9007199254740992):E*2^52+M%2^52=min ((E-1)*2^52+M) Er:=by
 obtain⟨k,rfl⟩:∃k,E=k+1:=⟨E-1,by omega⟩
 obtain⟨r,rfl⟩:∃r,M=2^52+r:=⟨M-2^52,by omega⟩
 have hr:r<2^52:=by omega
 have hm:(2^52+r)%2^52=r:=by rw[Nat.add_mod_left,Ao hr]
 have hk:k*2^52<=2045*2^52:=An _ (by omega);have hi:Er=2045*2^52+2^52+2^52:=by unfold Er; rfl
 rw[hm,Nat.add_sub_cancel,Nat.succ_mul,hi];generalize 2^52=c at *
 omega
theorem soft.Pack.Bp:soft.Pack.Kn:=soft.Pack.D9 (kc soft.EK.Bp .nil) fun rk n m e hp hr=>by
 have hp:=Bv.1 (show IY m e=wc from hp);have hr:LH m e<rk+1:=hr;obtain⟨m0,m1,e0,e1⟩:=hp;obtain⟨M,rfl⟩:∃M:Nat,m=M:=⟨m.toNat,by omega⟩
 refine⟨0,soft.Pack.out [.b n,.i M,.i e],[],?_,.int⟩;rw[soft.Pack.ev];show _=wM (DV.int .u64 (Py n M e));rw[Lm];unfold LH at hr;by_cases h0:M=0
 ·subst h0;have:=KB (r:=0) (by decide) n;have e0:Cu 0 e=0:=rfl;rw[e0];simpa using this
 ·have b0:((M:Int)==0)=wh:=by simp; omega
  rw[b0,Af];by_cases h1:M=9007199254740992
  ·have b1:DT (9007199254740992:Int) (M:Int)=wc:=by rw[Ei]; simp; omega
   have s1:DL .u64 (M:Int) (1:Int)=((2^52:Nat):Int):=by rw[show(1:Int)=((1:Nat):Int) from rfl,G3 .u64 M 1 (by decide),h1]
   have w1:Bh (e+1)=e+1:=Bz (by omega) (by omega);rw[Az (by omega)] at hr;have p1:IY ((2^52:Nat):Int) (e+1)=wc:=Bv.2 (by omega)
   have p2:Ci (LH ((2^52:Nat):Int) (e+1)<rk)=wc:=Bv.2 (by unfold LH;rw[Ay (by omega),Ay (by omega)]; omega)
   rw[b1,s1,w1,p1,p2,Lm,h1];have:=(D2 (2^52) 1 (e+1)).1;have e2:e+1-((1:Nat):Int)=e:=by omega
   rw[e2] at this;rw[<- this]; rfl
  ·have b1:DT (9007199254740992:Int) (M:Int)=wh:=by rw[Ei]; simp; omega
   rw[b1,Af];rw[Ay (by omega)] at hr;by_cases h2:M<4503599627370496
   ·have b2:BH (M:Int) (4503599627370496:Int)=wc:=by rw[B8]; simp; omega
    rw[Az (by omega)] at hr;by_cases h3:e=-1074
    ·subst h3;have b3:BH (-1074:Int) (-1074)=wh:=by decide
     rw[b2,b3,AW,Af,Aa,SA h2];exact KB (by omega) n
    ·have b3:BH (-1074:Int) e=wc:=by rw[B8]; simp; omega
     have s1:Cr .u64 (M:Int) (1:Int)=((M*2^1:Nat):Int):=by rw[show(1:Int)=((1:Nat):Int) from rfl,Fj M 1 (by decide),Ao (by omega)]
     have w1:Bh (e-1)=e-1:=Bz (by omega) (by omega);have p1:IY ((M*2^1:Nat):Int) (e-1)=wc:=Bv.2 (by omega)
     have p2:Ci (LH ((M*2^1:Nat):Int) (e-1)<rk)=wc:=Bv.2 (by unfold LH;rw[Ay (by omega)];split<;>omega)
     rw[b2,b3,s1,w1,p1,p2,Lm];have:=(D2 M 1 e).1;have e2:e-((1:Nat):Int)=e-1:=by omega
     rw[e2] at this;rw[this]; rfl
   ·have b2:BH (M:Int) (4503599627370496:Int)=wh:=by rw[B8]; simp; omega
    have w1:Bh (e+1075)=e+1075:=Bz (by omega) (by omega);rw[b2,w1,Bool.false_and,Af,Af];have hr:=NH (m:=M) (e:=e) (by omega) (by omega) e0;by_cases h4:2047<=e+1075
    ·have b4:DT (2047:Int) (e+1075)=wc:=by rw[Ei]; simp; omega
     have:Cu M e=9218868437227405312:=by rw[hr,Ex]; omega
     rw[b4,this,Aa];exact KB (r:=9218868437227405312) (by decide) n
    ·have b4:DT (2047:Int) (e+1075)=wh:=by rw[Ei]; simp; omega
     obtain⟨E,hE⟩:∃E:Nat,e+1075=E:=⟨(e+1075).toNat,by omega⟩
     have s1:Hw .u64 (Cr .u64 (BU (e+1075)) (52:Int)) (F9 .u64 (M:Int) (4503599627370495:Int))=((Cu M e:Nat):Int):=by
      rw[hE,Dk (by omega) (by omega),show(52:Int)=((52:Nat):Int) from rfl,Fj E 52 (by decide),Ao (by omega),
       show(4503599627370495:Int)=((2^52-1:Nat):Int) from rfl,Hh 52 (by omega) (by decide),Kt (by omega) (by omega)]
      have hE2:(e+1074).toNat=E-1:=by omega
      have hE3:1<=E/\E<=2046:=by omega
      have hM:4503599627370496<=M/\M<9007199254740992:=by omega
      rw[hr,hE2];exact congrArg (fun(x:Nat)=>(x:Int)) (Zm hE3.1 hE3.2 hM.1 hM.2)
     rw[b4,s1,Af];exact KB (IX M e) n
open Go Go.Den Go.Cn Go.Proofs
theorem AdN{D:Nat}(h:D<=63):2^D<2^64:=Nat.pow_lt_pow_right (by decide) (by omega)
theorem Mg(n:Bool){r:Nat}(h:r<2^63):NX .u64 ((Cq n r:Nat):Int) (9223372036854775808:Int)=(r:Int):=by
 have hs:Cq n r<2^64:=by unfold Cq; split<;>omega
 unfold NX
 rw[show(9223372036854775808:Int)=((2^63:Nat):Int) from rfl,BitVec.toNat_and,BitVec.toNat_not,HW,HW,show IntKind.u64.bits=64 from rfl,Ao hs,
  show 2^64-1-2^63%2^64=2^63-1 by decide,Nat.and_two_pow_sub_one_eq_mod]
 have:Cq n r%2^63=r:=by unfold Cq; cases n<;>simp<;>omega
 rw[this];exact RA (by omega)
theorem Zx(N:Nat)(ex n:Bool){r:Nat}(h:r<=Er):soft.DA.C18 N ex ((Cq n r:Nat):Int)=wM (.CJ [.int .u64 ((Cq n r:Nat):Int),.int .u8 ((flags r ex:Nat):Int)]):=by
 have h63:r<2^63:=by rw[Ex] at h; omega
 have hs:Cq n r<2^64:=by unfold Cq; split<;>omega
 rw[soft.DA.Aat,Mg n h63,CI hs];unfold BF flags;rw[Ad,UP n h]
 have hinf:(((r:Nat):Int)==(9218868437227405312:Int))=decide (r=Er):=by rw[Ex,Ar]; simp; omega
 rw[hinf];by_cases h1:r=Er
 ·simp[h1]
 ·by_cases h2:2^52<=r
  ·cases ex<;>simp[h1]<;>simp[show 4503599627370496<=r by omega]
  ·by_cases h3:0<r
   ·cases ex<;>simp[h1,h3]<;>simp[show ¬4503599627370496<=r by omega]
   ·cases ex<;>simp[h1,h3]<;>simp[show ¬4503599627370496<=r by omega]
theorem Ac3(N:Nat)(n:Bool){m:Nat}{e:Int}(he:-1140<=e/\e<=50000)(r:Bool):∀(k d F:Nat),d+k=62->k<F->(∀d',d'<d->2^53<=m / 2^d'\/e+d' < -1074) ->
 ∃D:Nat,soft.DA.L0 N F n m e r (d:Int)=soft.DA.C7 N n m e r (D:Int)/\Drop m e D:=by
 intro k
 induction k with
 | zero =>
   intro d F hd hF hl;obtain⟨F,rfl⟩:∃G,F=G+1:=⟨F-1,by omega⟩
   obtain rfl:d=62:=by omega
   rw[soft.DA.B7,G3 .u64 m 62 (by decide),Bz (by omega) (by omega),Bz (by omega) (by omega),Ei,B8];have a0:decide ((0:Int)<=((62:Nat):Int))=wc:=by decide
   have a1:((((62:Nat):Int)+1)==63)=wc:=by decide
   rw[a0,Aa,a1,Aa];by_cases h:2^53<=m / 2^62\/e+(62:Nat) < -1074
   ·refine⟨63,?_,by omega,by omega,fun d' hd'=>?_⟩
    ·have:(decide ((9007199254740992:Int)<=((m / 2^62:Nat):Int))||decide (e+((62:Nat):Int) < -1074))=wc:=by simp only[zH,Ai]; omega
     rw[this]; rfl
    ·rcases AF d' 62 with h' | h'
     ·exact hl d' h'
     ·obtain rfl:d'=62:=by omega
      exact h
   ·refine⟨62,?_,by omega,fun _=>by omega,hl⟩
    have:(decide ((9007199254740992:Int)<=((m / 2^62:Nat):Int))||decide (e+((62:Nat):Int) < -1074))=wh:=by simp only[yD,Av]; omega
    rw[this]; rfl
 | succ k ih =>
   intro d F hd hF hl;obtain⟨F,rfl⟩:∃G,F=G+1:=⟨F-1,by omega⟩
   rw[soft.DA.B7,G3 .u64 m d (by show d<=64; omega),Bz (by omega) (by omega),Bz (by omega) (by omega),Ei,B8];have a0:decide ((0:Int)<=(d:Int))=wc:=by simp
   have a1:(((d:Int)+1)==63)=wh:=by simp; omega
   rw[a0,Aa,a1,Af];by_cases h:2^53<=m / 2^d\/e+d < -1074
   ·have:(decide ((9007199254740992:Int)<=((m / 2^d:Nat):Int))||decide (e+(d:Int) < -1074))=wc:=by simp only[zH,Ai]; omega
    rw[this,Aa,show(d:Int)+1=((d+1:Nat):Int) by omega];refine ih (d+1) F (by omega) (by omega) fun d' hd'=>?_
    rcases AF d' d with h' | h'
    ·exact hl d' h'
    ·obtain rfl:d'=d:=by omega
     exact h
   ·refine⟨d,?_,by omega,fun _=>by omega,hl⟩
    have:(decide ((9007199254740992:Int)<=((m / 2^d:Nat):Int))||decide (e+(d:Int) < -1074))=wh:=by simp only[yD,Av]; omega
    rw[this]; rfl
theorem Ac2(N:Nat)(n:Bool){m D:Nat}(hm:m<2^64){e:Int}(he:-1140<=e/\e<=50000)(r:Bool)(hD:D<=63)(hq:(if e+D < -1074 then 0 else X5 m D r.toNat)<=2^53):
 soft.DA.C7 N n m e r (D:Int)=soft.DA.C18 N (decide (m%2^D=0/\r.toNat=0)) ((Cq n (Cu (if e+D < -1074 then 0 else X5 m D r.toNat) (max (e+D) (-1074))):Nat):Int):=by
 have hA:=Cs D;have h2D:=AdN hD;have hr:=zt m hA;have hqm:m / 2^D<=m:=yx _ _;rw[soft.DA.Ab5];have a0:decide ((0:Int)<=(D:Int))=wc:=by simp
 have e1:DL .u64 (m:Int) (D:Int)=((m / 2^D:Nat):Int):=G3 .u64 m D (by show D<=64; omega)
 have e2:Cr .u64 (1:Int) (D:Int)=((2^D:Nat):Int):=by rw[show(1:Int)=((1:Nat):Int) from rfl,Fj 1 D (by omega),zv,Ao h2D]
 have e3:F9 .u64 (m:Int) (BU (Cr .u64 (1:Int) (D:Int)-(1:Int)))=((m%2^D:Nat):Int):=by rw[e2,Dk (by omega) (by omega),show((2^D:Nat):Int)-1=((2^D-1:Nat):Int) by omega,Hh D hm (by omega)]
 have e5:(cond (((m%2^D:Nat):Int)==(0:Int)) (!r) wh)=decide (m%2^D=0/\r.toNat=0):=by
  by_cases h:m%2^D=0
  ·cases r<;>simp[h]
  ·have:(((m%2^D:Nat):Int)==(0:Int))=wh:=by simp only[AD,ne_eq]; omega
   rw[this]; simp[h]
 rw[a0,Aa,Aa,e1,e3,e5,B8]
 have last:∀(p:Bool) (q:Nat),q<=2^64-1->(if e+D < -1074 then 0 else q)<=2^53->soft.DA.C14 N n e (D:Int) ((q:Nat):Int) p=soft.DA.C18 N p ((Cq n (Cu (if e+D < -1074 then 0 else q) (max (e+D) (-1074))):Nat):Int):=by
  intro p q hq hq2;rw[soft.DA.AjW,Bz (by omega) (by omega),B8]
  have c16:∀q':Nat,q'<=2^53->soft.DA.C16 N n e (q':Int) (D:Int) p=soft.DA.C18 N p ((Cq n (Cu q' (max (e+D) (-1074))):Nat):Int):=by intro q' hq';rw[soft.DA.Aau,Bz (by omega) (by omega)];have:IY (q':Int) (max (e+(D:Int)) (-1074))=wc:=Bv.2 (by omega);rw[this,Lm]; rfl
  by_cases h:e+D < -1074
  ·rw[Az h] at hq2 ⊢;have:decide (e+(D:Int) < -1074)=wc:=by simpa using h
   rw[this];exact c16 0 hq2
  ·rw[Ay h] at hq2 ⊢;have:decide (e+(D:Int) < -1074)=wh:=by simpa using h
   rw[this];exact c16 q hq2
 have up:∀(half:Nat) (hh:0<D->half=2^(D-1)) (p:Bool),soft.DA.C12 N n e r (D:Int) ((m / 2^D:Nat):Int) ((m%2^D:Nat):Int) (half:Int) p=soft.DA.C18 N p ((Cq n (Cu (if e+D < -1074 then 0 else X5 m D r.toNat) (max (e+D) (-1074))):Nat):Int):=by
  intro half hh p;rw[soft.DA.Aav,B8,B8]
  have odd:(F9 .u64 ((m / 2^D:Nat):Int) (1:Int)==(1:Int))=decide (m / 2^D%2=1):=by rw[show(1:Int)=((2^1-1:Nat):Int) from rfl,Hh 1 (by omega) (by decide),Ar];simp only[beq_iff_eq,Ai];omega
  rw[odd]
  have test:(decide ((0:Int)<(D:Int))&&(decide ((half:Int)<((m%2^D:Nat):Int))||((((m%2^D:Nat):Int)==(half:Int))&&(r||decide (m / 2^D%2=1)))))=
   decide (0<D/\(2^(D-1)<m%2^D\/(m%2^D=2^(D-1)/\(r.toNat=1\/m / 2^D%2=1)))):=by
   rw[Ar];generalize m%2^D=rr;generalize m / 2^D=qq;generalize hg:2^(D-1)=gg at hh;by_cases h0:0<D
   ·have:=hh h0;subst this;cases r<;>simp[h0]<;>omega
   ·simp[h0]
  rw[test];by_cases ht:0<D/\(2^(D-1)<m%2^D\/(m%2^D=2^(D-1)/\(r.toNat=1\/m / 2^D%2=1)))
  ·have hq1:X5 m D r.toNat=m / 2^D+1:=by unfold X5; rw[Az ht]
   have hlt:m / 2^D+1<2^64:=by
    obtain⟨d,rfl⟩:∃d,D=d+1:=⟨D-1,by omega⟩
    have h1:m / 2^(d+1)<=m / 2:=Nat.div_le_div_left (by rw[Nat.pow_succ]; have:=Cs d; omega) (by decide);omega
   rw[hq1] at hq ⊢;rw[Ac ht,Aa,Dk (by omega) (by omega),show((m / 2^D:Nat):Int)+1=((m / 2^D+1:Nat):Int) by omega];exact last p _ (by omega) hq
  ·have hq1:X5 m D r.toNat=m / 2^D:=by unfold X5; rw[Ay ht]; rfl
   rw[hq1] at hq ⊢;rw[Ag ht,Af];exact last p _ (by omega) hq
 rcases Nat.eq_zero_or_pos D with rfl | hpos
 ·have:decide ((0:Int)<((0:Nat):Int))=wh:=by decide
  rw[this,Af];exact up 0 (fun h=>absurd h (by omega)) _
 ·have h1:decide ((0:Int)<(D:Int))=wc:=by simpa using hpos
  have h2:Bh ((D:Int)-1)=((D-1:Nat):Int):=by rw[Bz (by omega) (by omega)]; omega
  have h3:decide ((0:Int)<=((D-1:Nat):Int))=wc:=by simp
  have h4:Cr .u64 (1:Int) ((D-1:Nat):Int)=((2^(D-1):Nat):Int):=by rw[show(1:Int)=((1:Nat):Int) from rfl,Fj 1 (D-1) (by omega),zv,Ao (AdN (by omega))]
  rw[h1,Aa,h2,h3,Aa,h4];exact up _ (fun _=>rfl) _
theorem soft.DA.Bp:Kq 180 soft.DA.Bu:=E1 soft.DA.E Tryz.func180 (kc soft.Kind.Bp (kc soft.Pack.Bp .nil)) fun n m e r hp=>by
 obtain⟨m0,m1,e1,e2,hr⟩:=Bv.1 (show El m e r=wc from hp);obtain⟨M,rfl⟩:∃M:Nat,m=M:=⟨m.toNat,by omega⟩
 refine⟨63,soft.DA.out [.b n,.i M,.i e,.b r],[],?_,Wk.FQ (.cons .int (.cons .int .nil))⟩;show _=wM (DV.CJ [.int .u64 (E9 n M e r),.int .u8 (E8 n M e r)]);unfold E9 E8 FA;rw[Ad,soft.DA.ev];dsimp only;by_cases h0:M=0/\r=wh
 ·obtain⟨rfl,rfl⟩:=h0;have:IY (0:Int) (-1074)=wc:=Bv.2 (by omega);have hp0:=Lm n 0 (-1074);rw[this];simp only[Bc,Bool.and_true,Aa,Bool.toNat_false];have hz:(((0:Nat):Int)==0)=wc:=rfl;rw[hz,Aa];have hp0:Py n (0:Int) (-1074)=((Cq n (Cu 0 (-1074)):Nat):Int):=hp0;have z:∀E,Cu 0 E=0:=fun E=>Az rfl
  have z3:∀E,flagsOf 0 E=0:=fun E=>Az rfl
  rw[hp0,z,show 4*0+0=0 from rfl,z,z3];rfl
 ·have hc:((((M:Nat):Int)==(0:Int))&&!r)=wh:=by
   cases r
   ·have:M≠0:=fun h=>h0 ⟨h,rfl⟩
    simp; omega
   ·simp
  rw[hc,Af];have he:-1140<=e/\e<=50000:=by omega
  obtain⟨D,hl,hD⟩:=Ac3 63 n (m:=M) he r 62 0 63 (by omega) (by omega) (fun d' h=>by omega);have hs:r.toNat<=1:=by cases r<;>decide
  have hV:4*M+r.toNat≠0:=by
   intro h;refine h0 ⟨by omega,?_⟩;cases r
   ·rfl
   ·simp at h
  obtain⟨t1,t2,t3⟩:=Ac5 hD hs hV (by omega) (by omega) (fun h=>by
   have:r=wc:=by cases r<;>simp_all
   have:=hr this;omega)
  have hl:soft.DA.L0 63 63 n (M:Int) e r (0:Int)=soft.DA.C7 63 n (M:Int) e r (D:Int):=hl;rw[hl,Ac2 63 n (by omega) he r hD.le t3,<- t1,Zx 63 _ n (NI _ _),t2]
set_option maxRecDepth 100000
def sum.right.E:=E0 []
theorem sum.right.ev(N:Nat)(m d:Int):Cz sum.right.E N f208 (Bw f208) [.int .u64 m,.int .i64 d]=cond (BH 63 d) (bif ((Cr .u64 (DL .u64 m 63) 63) !=m) then wM (.int .u64 (Hw .u64 (DL .u64 m 63) 1)) else wM (.int .u64 (DL .u64 m 63))) (bif (decide (0<=d)) then cond (decide (0<=d)) (bif ((Cr .u64 (DL .u64 m d) d) !=m) then wM (.int .u64 (Hw .u64 (DL .u64 m d) 1)) else wM (.int .u64 (DL .u64 m d))) wN else wN):=by kernel_rfl
def sum.FU.E:=E0 [(136,soft.Finite.Bu),(165,soft.Kind.Bu)]
theorem sum.FU.ev(N:Nat)(a b:Int):Cz sum.FU.E N f207 (Bw f207) [.int .u64 a,.int .u64 b]=cond (Br a) (bif ((BF a)==(4:Int)) then wM (.CJ [.int .u64 9221120237041090560,.int .u8 0]) else bif (Br b) then cond ((BF b)==(4:Int)) (wM (.CJ [.int .u64 9221120237041090560,.int .u8 0])) (bif (Br a) then cond (Du a) (wM (.CJ [.int .u64 b,.int .u8 0])) (bif (Br b) then cond ((Du b)||(a==b)) (wM (.CJ [.int .u64 a,.int .u8 0])) (wM (.CJ [.int .u64 9221120237041090560,.int .u8 16])) else wN) else wN) else wN) wN :=Et (ET (ET rfl (ET (ET rfl (ET (ET rfl (ET (B4 (TO (Du b)) (B4 (TO (Du b)) (B4 (tt8 (Du b)) (B4 (Xb (Du b)) (CQ (tt5 _ _) rfl rfl))))) rfl)) rfl)) rfl)) rfl)
def sum.Add.E:=E0 [(136,soft.Finite.Bu),(180,soft.DA.Bu),(166,soft.EX.Bu),(181,soft.Sign.Bu),(208,sum.right.Bu),(207,sum.FU.Bu)]
theorem sum.Add.ev(N:Nat)(a b:Int):Cz sum.Add.E N f174 (Bw f174) [.int .u64 a,.int .u64 b]=cond (Br a) (bif ((!(Du a))||(Br b)) then cond ((!(Du a))||(!(Du b))) (bif ((Br a&&Br b)&&(!(Du a)||!(Du b))) then wM (.CJ [.int .u64 (DD a b),.int .u8 (Ru a b)]) else wN) (bif (Br a) then cond (Br b) (bif (Br a) then cond (Br b) (bif (BH (BR a) (BR b)) then cond (Br (Cr .u64 (Cf a) 9)&&Ci (0<=(Bh ((BR b)-(BR a)))/\(Bh ((BR b)-(BR a)))<1000000)) (bif ((DN b)==(DN a)) then cond (El (BU ((Cr .u64 (Cf b) 9)+(EM (Cr .u64 (Cf a) 9) (Bh ((BR b)-(BR a)))))) (Bh ((BR b)-9)) wh) (wM (.CJ [.int .u64 (E9 (DN b) (BU ((Cr .u64 (Cf b) 9)+(EM (Cr .u64 (Cf a) 9) (Bh ((BR b)-(BR a)))))) (Bh ((BR b)-9)) wh),.int .u8 (E8 (DN b) (BU ((Cr .u64 (Cf b) 9)+(EM (Cr .u64 (Cf a) 9) (Bh ((BR b)-(BR a)))))) (Bh ((BR b)-9)) wh)])) wN else bif (BH (EM (Cr .u64 (Cf a) 9) (Bh ((BR b)-(BR a)))) (Cr .u64 (Cf b) 9)) then cond (El (BU ((Cr .u64 (Cf b) 9)-(EM (Cr .u64 (Cf a) 9) (Bh ((BR b)-(BR a)))))) (Bh ((BR b)-9)) wh) (wM (.CJ [.int .u64 (E9 (DN b) (BU ((Cr .u64 (Cf b) 9)-(EM (Cr .u64 (Cf a) 9) (Bh ((BR b)-(BR a)))))) (Bh ((BR b)-9)) wh),.int .u8 (E8 (DN b) (BU ((Cr .u64 (Cf b) 9)-(EM (Cr .u64 (Cf a) 9) (Bh ((BR b)-(BR a)))))) (Bh ((BR b)-9)) wh)])) wN else bif (BH (Cr .u64 (Cf b) 9) (EM (Cr .u64 (Cf a) 9) (Bh ((BR b)-(BR a))))) then cond (El (BU ((EM (Cr .u64 (Cf a) 9) (Bh ((BR b)-(BR a))))-(Cr .u64 (Cf b) 9))) (Bh ((BR b)-9)) wh) (wM (.CJ [.int .u64 (E9 (DN a) (BU ((EM (Cr .u64 (Cf a) 9) (Bh ((BR b)-(BR a))))-(Cr .u64 (Cf b) 9))) (Bh ((BR b)-9)) wh),.int .u8 (E8 (DN a) (BU ((EM (Cr .u64 (Cf a) 9) (Bh ((BR b)-(BR a))))-(Cr .u64 (Cf b) 9))) (Bh ((BR b)-9)) wh)])) wN else wM (.CJ [.int .u64 0,.int .u8 0])) wN else bif (Br (Cr .u64 (Cf b) 9)&&Ci (0<=(Bh ((BR a)-(BR b)))/\(Bh ((BR a)-(BR b)))<1000000)) then cond ((DN a)==(DN b)) (bif (El (BU ((Cr .u64 (Cf a) 9)+(EM (Cr .u64 (Cf b) 9) (Bh ((BR a)-(BR b)))))) (Bh ((BR a)-9)) wh) then wM (.CJ [.int .u64 (E9 (DN a) (BU ((Cr .u64 (Cf a) 9)+(EM (Cr .u64 (Cf b) 9) (Bh ((BR a)-(BR b)))))) (Bh ((BR a)-9)) wh),.int .u8 (E8 (DN a) (BU ((Cr .u64 (Cf a) 9)+(EM (Cr .u64 (Cf b) 9) (Bh ((BR a)-(BR b)))))) (Bh ((BR a)-9)) wh)]) else wN) (bif (BH (EM (Cr .u64 (Cf b) 9) (Bh ((BR a)-(BR b)))) (Cr .u64 (Cf a) 9)) then cond (El (BU ((Cr .u64 (Cf a) 9)-(EM (Cr .u64 (Cf b) 9) (Bh ((BR a)-(BR b)))))) (Bh ((BR a)-9)) wh) (wM (.CJ [.int .u64 (E9 (DN a) (BU ((Cr .u64 (Cf a) 9)-(EM (Cr .u64 (Cf b) 9) (Bh ((BR a)-(BR b)))))) (Bh ((BR a)-9)) wh),.int .u8 (E8 (DN a) (BU ((Cr .u64 (Cf a) 9)-(EM (Cr .u64 (Cf b) 9) (Bh ((BR a)-(BR b)))))) (Bh ((BR a)-9)) wh)])) wN else bif (BH (Cr .u64 (Cf a) 9) (EM (Cr .u64 (Cf b) 9) (Bh ((BR a)-(BR b))))) then cond (El (BU ((EM (Cr .u64 (Cf b) 9) (Bh ((BR a)-(BR b))))-(Cr .u64 (Cf a) 9))) (Bh ((BR a)-9)) wh) (wM (.CJ [.int .u64 (E9 (DN b) (BU ((EM (Cr .u64 (Cf b) 9) (Bh ((BR a)-(BR b))))-(Cr .u64 (Cf a) 9))) (Bh ((BR a)-9)) wh),.int .u8 (E8 (DN b) (BU ((EM (Cr .u64 (Cf b) 9) (Bh ((BR a)-(BR b))))-(Cr .u64 (Cf a) 9))) (Bh ((BR a)-9)) wh)])) wN else wM (.CJ [.int .u64 0,.int .u8 0])) else wN) wN else wN) wN else wN) else wN) wN:=
 Et (ET (B4 (Sn (Du a)) (CQ (AbJ _ _) (B4 (O6 (Du a)) (B4 (TQ (Du a)) (CQ (AdY _ _) rfl rfl))) rfl)) rfl)
def sum.Sub.E:=E0 [(81,soft.EK.Bu),(174,sum.Add.Bu)]
theorem sum.Sub.ev(N:Nat)(a b:Int):Cz sum.Sub.E N f231 (Bw f231) [.int .u64 a,.int .u64 b]=cond (Br b) (bif (Br a&&Br (Cy b)) then wM (.CJ [.int .u64 (DD a (Cy b)),.int .u8 (Ru a (Cy b))]) else wN) wN:=by kernel_rfl
theorem Ajj(q:Nat):q ||| 1=2*(q / 2)+1:=by
 have e:q%2 ||| (q / 2*2^1)=q / 2*2^1+q%2:=P1 (zt _ (by decide))
 have e1:1 ||| (q / 2*2^1)=q / 2*2^1+1:=P1 (k:=1) (by decide)
 have hq:q / 2*2^1+q%2=q:=by omega
 rw[hq] at e;rcases Nat.mod_two_eq_zero_or_one q with h | h
 ·rw[h,Nat.zero_or] at e;rw[e,xz] at e1;omega
 ·rw[h] at e
  have:q ||| 1=q:=by
   conv=>lhs; rw[<- e]
   rw[xz 1,Nat.or_assoc,Nat.or_self,xz,e]
  omega
theorem SE{n s:Nat}(hn:n<2^64)(hs:s<=63):
 (bif ((Cr .u64 (DL .u64 (n:Int) (s:Int)) (s:Int)) !=(n:Int)) then
  wM (DV.int .u64 (Hw .u64 (DL .u64 (n:Int) (s:Int)) (1:Int)))
 else wM (.int .u64 (DL .u64 (n:Int) (s:Int))))=wM (.int .u64 ((Fm n s:Nat):Int)):=by
 have hq:n / 2^s<=n:=yx _ _;have hm:n / 2^s*2^s<=n:=Nat.div_mul_le_self _ _;have hd:=Nat.div_add_mod n (2^s);rw[A0] at hd;rw[G3 .u64 n s (by show s<=64; omega),Fj _ s (by omega),Ao (by omega)];have h1:Hw .u64 ((n / 2^s:Nat):Int) (1:Int)=((n / 2^s ||| 1:Nat):Int):=WA (by omega) (by decide);rw[h1,Ajj];unfold Fm;by_cases h:n%2^s=0
 ·have:((((n / 2^s*2^s:Nat):Int)) !=(n:Int))=wh:=by simp only[bne_eq_false_iff_eq]; omega
  rw[this,Az h,Af]
 ·have:((((n / 2^s*2^s:Nat):Int)) !=(n:Int))=wc:=by simp only[bne_iff_ne,ne_eq]; omega
  rw[this,Ay h,Aa]
theorem sum.right.Bp:Kq 208 sum.right.Bu:=E1 sum.right.E Tryz.func208 .nil fun m d hp=>by
 obtain⟨h1,h2⟩:=Bi.1 hp;obtain⟨n,rfl,hn⟩:=C3 h1;have h2:=Bv.1 h2;obtain⟨d,rfl⟩:∃k:Nat,d=k:=⟨d.toNat,by omega⟩
 refine⟨0,sum.right.out [.i n,.i d],[],?_,.int⟩;rw[sum.right.ev,B8];show _=wM (DV.int .u64 (EM n d));unfold EM;rw[Ad,Ad];by_cases h:63<d
 ·have:decide ((63:Int)<(d:Int))=wc:=by simp; omega
  rw[this,Aa,Nat.min_eq_right (by omega)];exact SE hn (AB 63)
 ·have:decide ((63:Int)<(d:Int))=wh:=by simp; omega
  have h0:decide ((0:Int)<=(d:Int))=wc:=by simp
  rw[this,Af,h0,Aa,Aa,Nat.min_eq_left (by omega)];exact SE hn (by omega)
theorem Aar:((N2:Nat):Int)=9221120237041090560:=rfl
theorem sum.FU.Bp:Kq 207 sum.FU.Bu:=E1 sum.FU.E Tryz.func207 (kc soft.Finite.Bp (kc soft.Kind.Bp .nil)) fun a b hp=>by
 obtain⟨h1,h2⟩:=Bi.1 hp;obtain⟨ha,hb⟩:=Bi.1 h1;obtain⟨a,rfl,hn⟩:=C3 ha;obtain⟨b,rfl,hm⟩:=C3 hb;refine⟨0,sum.FU.out [.i a,.i b],[],?_,Wk.FQ (.cons .int (.cons .int .nil))⟩;rw[sum.FU.ev,ha,hb];show _=wM (DV.CJ [.int .u64 (DD a b),.int .u8 (Ru a b)]);unfold DD Ru DS BF Du;simp only[Ad,Aa];unfold Du at h2;simp only[Ad] at h2;by_cases a4:Bn a=4
 ·simp[a4,Aar]
 ·have e4:((Bn a:Int)==4)=wh:=by simp; omega
  rw[e4,Af];by_cases b4:Bn b=4
  ·simp[b4,Aar]
  ·have f4:((Bn b:Int)==4)=wh:=by simp; omega
   rw[f4,Af];have ka:=Tk a;have kb:=Tk b;by_cases a3:Bn a=3
   ·have fa:GJ a=wh:=by rw[ka]; simp[a3]
    rw[fa,Af];by_cases b3:Bn b=3
    ·have fb:GJ b=wh:=by rw[kb]; simp[b3]
     rw[fb];by_cases hab:a=b
     ·subst hab; simp[a3]
     ·have hab':((a:Int)==(b:Int))=wh:=by simp; omega
      rw[hab'];simp[a3,b3,hab,Aar]
    ·have fb:GJ b=wc:=by rw[kb]; simp[b3,b4]
     rw[fb];simp[a3,b3,b4]
   ·have fa:GJ a=wc:=by rw[ka]; simp[a3,a4]
    have b3:Bn b=3:=by rw[fa,kb] at h2;simp[b4] at h2;exact h2
    rw[fa,Aa];simp[a3,b3,a4]
def AaD(na nb:Bool)(X r:Nat)(e:Int):Nat × Nat :=if na=nb then FA na (X+r) e wh else if r<X then FA na (X-r) e wh else if X<r then FA nb (r-X) e wh else (0,0)
theorem Q7{na:Bool}{m:Int}{n:Nat}{e e':Int}(h:m=n)(he:e'=e)(hn:n<2^64)(h1:-1100<=e)(h2:e<=1000):
 (cond (El m e' wh) (wM (DV.CJ [.int .u64 (E9 na m e' wh),.int .u8 (E8 na m e' wh)])) wN)
  = wM (.CJ [.int .u64 (((FA na n e wh).1:Nat):Int),.int .u8 (((FA na n e wh).2:Nat):Int)]):=by
 subst h; subst he;have hp:El (n:Int) e' wh=wc:=Bv.2 ⟨by omega,by omega,by omega,.inl (by omega),fun h=>by cases h⟩;rw[hp,Aa];unfold E9 E8;rw[Ad]
theorem Y5(na nb:Bool){X r:Nat}{e e':Int}(hX:X<2^62)(hr:r<=2^62)(h:e'=e)(h1:-1100<=e)(h2:e<=1000):
 (bif (na==nb) then
  bif El (BU ((X:Int)+(r:Int))) e' wh then wM (DV.CJ [.int .u64 (E9 na (BU ((X:Int)+(r:Int))) e' wh),.int .u8 (E8 na (BU ((X:Int)+(r:Int))) e' wh)]) else wN
 else bif BH (r:Int) (X:Int) then
  bif El (BU ((X:Int)-(r:Int))) e' wh then wM (DV.CJ [.int .u64 (E9 na (BU ((X:Int)-(r:Int))) e' wh),.int .u8 (E8 na (BU ((X:Int)-(r:Int))) e' wh)]) else wN
 else bif BH (X:Int) (r:Int) then
  bif El (BU ((r:Int)-(X:Int))) e' wh then wM (DV.CJ [.int .u64 (E9 nb (BU ((r:Int)-(X:Int))) e' wh),.int .u8 (E8 nb (BU ((r:Int)-(X:Int))) e' wh)]) else wN
 else wM (.CJ [.int .u64 (0:Int),.int .u8 (0:Int)]))=
  wM (.CJ [.int .u64 (((AaD na nb X r e).1:Nat):Int),.int .u8 (((AaD na nb X r e).2:Nat):Int)]):=by
 unfold AaD;rw[B8,B8];by_cases hs:na=nb
 ·have:(na==nb)=wc:=by simp[hs]
  rw[this,Aa,Az hs];exact Q7 (by rw[Dk (by omega) (by omega)]; omega) h (by omega) h1 h2
 ·have:(na==nb)=wh:=by simp[hs]
  rw[this,Af,Ay hs];by_cases hl:r<X
  ·have:decide ((r:Int)<(X:Int))=wc:=by simp; omega
   rw[this,Aa,Az hl];exact Q7 (by rw[Dk (by omega) (by omega)]; omega) h (by omega) h1 h2
  ·have:decide ((r:Int)<(X:Int))=wh:=by simp; omega
   rw[this,Af,Ay hl];by_cases hg:X<r
   ·have:decide ((X:Int)<(r:Int))=wc:=by simp; omega
    rw[this,Aa,Az hg];exact Q7 (by rw[Dk (by omega) (by omega)]; omega) h (by omega) h1 h2
   ·have:decide ((X:Int)<(r:Int))=wh:=by simp; omega
    rw[this,Af,Ay hg];rfl
theorem Ab4{a b:Nat}(ha:GJ a=wc)(hb:GJ b=wc)(hle:B6 b<=B6 a):
 ∃X r:Nat,X<2^62/\r<=2^62/\Cr .u64 (Cf a) (9:Int)=(X:Int)/\EM (Cr .u64 (Cf b) (9:Int)) (Bh (BR a-BR b))=(r:Int)
  /\ Bh (BR a-9)=B6 a-9
  /\ (Br (Cr .u64 (Cf b) (9:Int))&&Ci (0<=(Bh ((BR a)-(BR b)))/\(Bh ((BR a)-(BR b)))<1000000))=wc
  /\ AaD (DN a) (DN b) X r (B6 a-9)=DS a b:=by
 obtain⟨d,hd⟩:∃d:Nat,B6 a=B6 b+d:=⟨(B6 a-B6 b).toNat,by omega⟩
 have hx:=EJ a;have hy:=EJ b;have ea:=CH a;have eb:=CH b;have C:=Y4 (Mx:=Bx a) (My:=Bx b) hd hx hy (fun h=>UF (by omega))
 have sh:∀m:Nat,m<2^53->Cr .u64 (m:Int) (9:Int)=((m*2^9:Nat):Int):=fun m hm=>by have:=Fj m 9 (by decide);rw[Ao (by omega)] at this;exact this
 have h2:Bh (BR a-BR b)=(d:Int):=by unfold BR;rw[Ad,Ad,Bz (by omega) (by omega)]; omega
 have s1:Cr .u64 (Cf a) (9:Int)=((Bx a*2^9:Nat):Int):=by unfold Cf; rw[Ad]; exact sh _ hx
 have s2:Cr .u64 (Cf b) (9:Int)=((Bx b*2^9:Nat):Int):=by unfold Cf; rw[Ad]; exact sh _ hy
 refine⟨Bx a*2^9,Fm (Bx b*2^9) (min d 63),by omega,C.small,s1,?_,?_,?_,?_⟩
 ·rw[s2,h2]; unfold EM; rw[Ad,Ad]
 ·unfold BR; rw[Ad,Bz (by omega) (by omega)]
 ·rw[s2,h2,CI (by omega),AW];exact Bv.2 ⟨by omega,by omega⟩
 ·unfold DN;rw[Ad,Ad,Y3 ha hb hd];rfl
theorem sum.Add.Bp:Kq 174 sum.Add.Bu:=E1 sum.Add.E Tryz.func174 (kc soft.Finite.Bp (kc soft.DA.Bp (kc soft.EX.Bp (kc soft.Sign.Bp (kc sum.right.Bp (kc sum.FU.Bp .nil)))))) fun a b hp=>by
 obtain⟨ha,hb⟩:=Bi.1 hp;obtain⟨a,rfl,hn⟩:=C3 ha;obtain⟨b,rfl,hm⟩:=C3 hb;refine⟨0,sum.Add.out [.i a,.i b],[],?_,Wk.FQ (.cons .int (.cons .int .nil))⟩;rw[sum.Add.ev,ha,hb];show _=wM (DV.CJ [.int .u64 (DD a b),.int .u8 (Ru a b)]);rw[AV,Aa,Aa];by_cases hf:(!(Du a)||!(Du b))=wc
 ·rw[hf]; rfl
 ·have hf:(!(Du a)||!(Du b))=wh:=by simpa using hf
  rw[hf,Af,Aa,Aa,Aa,Aa]
  have fa:GJ a=wc:=by have:=(yD.1 hf).1;unfold Du at this;simpa using this
  have fb:GJ b=wc:=by have:=(yD.1 hf).2;unfold Du at this;simpa using this
  have xa:=CH a;have xb:=CH b;rw[B8];by_cases hl:B6 a<B6 b
  ·obtain⟨X,r,hX,hr,e1,e2,e3,e4,e5⟩:=Ab4 fb fa (by omega);have:decide (BR a<BR b)=wc:=by unfold BR; simpa using hl
   rw[this,Aa,e4,Aa,e1,e2,Y5 _ _ hX hr e3 (by omega) (by omega),e5,Adr];rfl
  ·obtain⟨X,r,hX,hr,e1,e2,e3,e4,e5⟩:=Ab4 fa fb (by omega);have:decide (BR a<BR b)=wh:=by unfold BR; simpa using hl
   rw[this,Af,e4,Aa,e1,e2,Y5 _ _ hX hr e3 (by omega) (by omega),e5];rfl
theorem sum.Sub.Bp:Kq 231 sum.Sub.Bu:=E1 sum.Sub.E Tryz.func231 (kc soft.EK.Bp (kc sum.Add.Bp .nil)) fun a b hp=>by
 obtain⟨ha,hb⟩:=Bi.1 hp;obtain⟨b,rfl,hm⟩:=C3 hb;refine⟨0,sum.Sub.out [.i a,.i b],[],?_,Wk.FQ (.cons .int (.cons .int .nil))⟩;have:Br (Cy (b:Int))=wc:=by unfold Cy; rw[Ad]; exact CI (QB hm)
 rw[sum.Sub.ev,ha,hb,this];unfold DD Ru Cy;rw[Ad];rfl
end Go.Proofs.S1
end
