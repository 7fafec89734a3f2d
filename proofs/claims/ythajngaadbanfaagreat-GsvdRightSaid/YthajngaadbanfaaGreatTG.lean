/- A verified evaluator of the program's form and its use for this seat: S1PSoft, S1PPack, S1PNear, S1EqSum, S1PSum. -/
import Derived.Test.YthajngaadbanfaaGreatTF
import Derived.Test.YthajngaadbanfaaGreatTE
set_option linter.unusedVariables false
set_option linter.unusedSimpArgs false
open Option renaming some->xQ,none->xY
open Bool renaming true->xZ,false->x5
open Bool renaming or_eq_true->zK,or_eq_false_iff->yF
open Nat renaming mod_lt->zu,div_le_self->yz,one_mul->zC,or_comm->xB
noncomputable section
open Go.Proofs.Tryz
namespace Go.Proofs.S1
open Go Go.Den Go.Ck Go.Proofs
theorem Bi{a b:Bool}:(a&&b)=xZ↔a=xZ/\b=xZ:=by simp
theorem AbY{n:Nat}(hn:n<2^64):((DU .u64 (n:Int) (63:Int))==(1:Int))=DX n:=by rw[show(63:Int)=((63:Nat):Int) from rfl,GP .u64 n 63 (by decide)];unfold DX Cd;rw[Ad,Ar];simp only[beq_iff_eq,Ai];omega
theorem Aij{n:Nat}(hn:n<2^64):Bg (FZ .u64 (DU .u64 (n:Int) (52:Int)) (2047:Int))=Ka n:=by rw[show(52:Int)=((52:Nat):Int) from rfl,GP .u64 n 52 (by decide),show(2047:Int)=((2^11-1:Nat):Int) from rfl,H4 11 (by omega) (by decide)];unfold Ka DR;rw[Ad,Bz (by omega) (by omega)]
theorem Ag1{n:Nat}(hn:n<2^64):FZ .u64 (n:Int) (4503599627370495:Int)=Dk n:=by rw[show(4503599627370495:Int)=((2^52-1:Nat):Int) from rfl,H4 52 hn (by decide)];unfold Dk Dn;rw[Ad]
theorem soft.Split.Bn:soft.Split.Kn:=soft.Split.D4 .nil fun x hp=>by obtain⟨n,rfl,hn⟩:=C9 (x:=x) hp;refine⟨0,soft.Split.out [.i n],[],?_,Wk.GQ (.cons .bool (.cons .int (.cons .int .nil)))⟩;rw[soft.Split.ev,AbY hn,Aij hn,Ag1 hn];rfl
theorem soft.Kind.Bn:soft.Kind.Kn:=soft.Kind.D4 (kc soft.Split.Bn .nil) fun x hp=>by
 obtain⟨n,rfl,hn⟩:=C9 (x:=x) hp;refine⟨0,soft.Kind.out [.i n],[],?_,.int⟩;rw[soft.Kind.ev,CP hn];show _=xQ (DV.int .i64 (BH n));unfold BH Bk Ka Dk;simp only[Ad,Aa,B9];have:=IC n;by_cases h1:DR n=2047
 ·by_cases h2:Dn n=0
  ·simp[h1,h2]
  ·have:((Dn n:Int)==0)=x5:=by simp; exact h2
   simp[h1,this,h2]
 ·have h1':((DR n:Int)==2047)=x5:=by simp; omega
  rw[h1'];by_cases h3:0<DR n
  ·simp[h1,h3]
  ·by_cases h4:0<Dn n
   ·simp[h1,h3,h4]
   ·simp[h1,h3,h4]
theorem soft.Sign.Bn:soft.Sign.Kn:=soft.Sign.D4 .nil fun x hp=>by obtain⟨n,rfl,hn⟩:=C9 (x:=x) hp;refine⟨0,soft.Sign.out [.i n],[],?_,.bool⟩;rw[soft.Sign.ev,AbY hn];rfl
theorem TU(n:Nat):Hg n=!(decide (Bk n=3)||decide (Bk n=4)):=by
 have:=IC n;unfold Hg Bk;by_cases h1:DR n=2047
 ·by_cases h2:Dn n=0<;>simp[h1,h2]
 ·have:DR n<2047:=by omega
  by_cases h3:0<DR n
  ·simp[h1,h3,this]
  ·by_cases h4:0<Dn n<;>simp[h1,h3,h4,this]
theorem soft.Finite.Bn:soft.Finite.Kn:=soft.Finite.D4 (kc soft.Kind.Bn .nil) fun x hp=>by
 obtain⟨n,rfl,hn⟩:=C9 (x:=x) hp;refine⟨0,soft.Finite.out [.i n],[],?_,.bool⟩;rw[soft.Finite.ev,CP hn];show _=xQ (DV.bool (D5 n));unfold D5 BH;rw[Ad,TU];by_cases h3:Bk n=3
 ·simp[h3]
 ·by_cases h4:Bk n=4
  ·simp[h4]
  ·have e3:((Bk n:Int)==3)=x5:=by simp; omega
   have e4:((Bk n:Int)==4)=x5:=by simp; omega
   simp[h3,h4,e3,e4]
theorem Ad6{n:Nat}(hn:n<2^64):Aji .u64 (n:Int) (9223372036854775808:Int)=C1 n:=by rw[show(9223372036854775808:Int)=((2^63:Nat):Int) from rfl,Ahj hn (by decide),Ah8 hn];unfold C1 Ec;rw[Ad]
theorem soft.EZ.Bn:soft.EZ.Kn:=soft.EZ.D4 .nil fun x hp=>by obtain⟨n,rfl,hn⟩:=C9 (x:=x) hp;refine⟨0,soft.EZ.out [.i n],[],?_,.int⟩;rw[soft.EZ.ev,Ad6 hn];rfl
theorem soft.Fo.Bn:soft.Fo.Kn:=soft.Fo.D4 (kc soft.Split.Bn .nil) fun x hp=>by
 obtain⟨n,rfl,hn⟩:=C9 (x:=x) hp;refine⟨0,soft.Fo.out [.i n],[],?_,Wk.Gr (.cons .int (.cons .int .nil))⟩;rw[soft.Fo.ev,CP hn];show _=xQ (DV.CR [.int .u64 (Cf n),.int .i64 (BT n)]);have hf:=JA n;have hp:=IC n;unfold Cf BT Ka Dk By B7;rw[Ad];by_cases h:DR n=0
 ·simp[h]
 ·have e:((DR n:Int)==0)=x5:=by simp; omega
  have e2:HK .u64 ((Dn n:Nat):Int) (4503599627370496:Int)=((Dn n+2^52:Nat):Int):=by rw[show(4503599627370496:Int)=((1*2^52:Nat):Int) from rfl,Ael (by omega) (by omega)];congr 1; omega
  rw[e,e2,Bz (by omega) (by omega)];simp[h]
open Go Go.Den Go.Ck Go.Proofs
theorem WW{r:Nat}(h:r<2^63):C1 r=((2^63+r:Nat):Int):=by unfold C1; rw[Ad,Pr h]
theorem Lb{r:Nat}(h:r<2^63)(n:Bool):(cond n (bif (Br (r:Int)) then xQ (DV.int .u64 (C1 r)) else xY) (xQ (DV.int .u64 r)))=xQ (DV.int .u64 ((Co n r:Nat):Int)):=by
 cases n
 ·rfl
 ·rw[CP (by omega),WW h]; rfl
theorem LL(n:Bool)(m:Nat)(e:Int):PX n m e=((Co n (Cs m e):Nat):Int):=by unfold PX; rw[Ad]
theorem Aat{E M:Nat}(h1:1<=E)(h2:E<=2046)(h3:4503599627370496<=M)(h4:M<9007199254740992):E*2^52+M%2^52=min ((E-1)*2^52+M) E8:=by
 obtain⟨k,rfl⟩:∃k,E=k+1:=⟨E-1,by omega⟩
 obtain⟨r,rfl⟩:∃r,M=2^52+r:=⟨M-2^52,by omega⟩
 have hr:r<2^52:=by omega
 have hm:(2^52+r)%2^52=r:=by rw[Nat.add_mod_left,Ao hr]
 have hk:k*2^52<=2045*2^52:=An _ (by omega);have hi:E8=2045*2^52+2^52+2^52:=by unfold E8; rfl
 rw[hm,Nat.add_sub_cancel,Nat.succ_mul,hi];generalize 2^52=c at *
 omega
theorem soft.Pack.Bn:soft.Pack.Kn:=soft.Pack.D4 (kc soft.EZ.Bn .nil) fun rk n m e hp hr=>by
 have hp:=Bv.1 (show Jw m e=xZ from hp);have hr:Mk m e<rk+1:=hr;obtain⟨m0,m1,e0,e1⟩:=hp;obtain⟨M,rfl⟩:∃M:Nat,m=M:=⟨m.toNat,by omega⟩
 refine⟨0,soft.Pack.out [.b n,.i M,.i e],[],?_,.int⟩;rw[soft.Pack.ev];show _=xQ (DV.int .u64 (PX n M e));rw[LL];unfold Mk at hr;by_cases h0:M=0
 ·subst h0;have:=Lb (r:=0) (by decide) n;have e0:Cs 0 e=0:=rfl;rw[e0];simpa using this
 ·have b0:((M:Int)==0)=x5:=by simp; omega
  rw[b0,Af];by_cases h1:M=9007199254740992
  ·have b1:Eg (9007199254740992:Int) (M:Int)=xZ:=by rw[E1]; simp; omega
   have s1:DU .u64 (M:Int) (1:Int)=((2^52:Nat):Int):=by rw[show(1:Int)=((1:Nat):Int) from rfl,GP .u64 M 1 (by decide),h1]
   have w1:Bg (e+1)=e+1:=Bz (by omega) (by omega);rw[Az (by omega)] at hr;have p1:Jw ((2^52:Nat):Int) (e+1)=xZ:=Bv.2 (by omega)
   have p2:Ch (Mk ((2^52:Nat):Int) (e+1)<rk)=xZ:=Bv.2 (by unfold Mk;rw[Ay (by omega),Ay (by omega)]; omega)
   rw[b1,s1,w1,p1,p2,LL,h1];have:=(DE (2^52) 1 (e+1)).1;have e2:e+1-((1:Nat):Int)=e:=by omega
   rw[e2] at this;rw[<- this]; rfl
  ·have b1:Eg (9007199254740992:Int) (M:Int)=x5:=by rw[E1]; simp; omega
   rw[b1,Af];rw[Ay (by omega)] at hr;by_cases h2:M<4503599627370496
   ·have b2:BI (M:Int) (4503599627370496:Int)=xZ:=by rw[B9]; simp; omega
    rw[Az (by omega)] at hr;by_cases h3:e=-1074
    ·subst h3;have b3:BI (-1074:Int) (-1074)=x5:=by decide
     rw[b2,b3,AW,Af,Aa,Tp h2];exact Lb (by omega) n
    ·have b3:BI (-1074:Int) e=xZ:=by rw[B9]; simp; omega
     have s1:Ct .u64 (M:Int) (1:Int)=((M*2^1:Nat):Int):=by rw[show(1:Int)=((1:Nat):Int) from rfl,F3 M 1 (by decide),Ao (by omega)]
     have w1:Bg (e-1)=e-1:=Bz (by omega) (by omega);have p1:Jw ((M*2^1:Nat):Int) (e-1)=xZ:=Bv.2 (by omega)
     have p2:Ch (Mk ((M*2^1:Nat):Int) (e-1)<rk)=xZ:=Bv.2 (by unfold Mk;rw[Ay (by omega)];split<;>omega)
     rw[b2,b3,s1,w1,p1,p2,LL];have:=(DE M 1 e).1;have e2:e-((1:Nat):Int)=e-1:=by omega
     rw[e2] at this;rw[this]; rfl
   ·have b2:BI (M:Int) (4503599627370496:Int)=x5:=by rw[B9]; simp; omega
    have w1:Bg (e+1075)=e+1075:=Bz (by omega) (by omega);rw[b2,w1,Bool.false_and,Af,Af];have hr:=Oj (m:=M) (e:=e) (by omega) (by omega) e0;by_cases h4:2047<=e+1075
    ·have b4:Eg (2047:Int) (e+1075)=xZ:=by rw[E1]; simp; omega
     have:Cs M e=9218868437227405312:=by rw[hr,EB]; omega
     rw[b4,this,Aa];exact Lb (r:=9218868437227405312) (by decide) n
    ·have b4:Eg (2047:Int) (e+1075)=x5:=by rw[E1]; simp; omega
     obtain⟨E,hE⟩:∃E:Nat,e+1075=E:=⟨(e+1075).toNat,by omega⟩
     have s1:HK .u64 (Ct .u64 (BV (e+1075)) (52:Int)) (FZ .u64 (M:Int) (4503599627370495:Int))=((Cs M e:Nat):Int):=by
      rw[hE,Dr (by omega) (by omega),show(52:Int)=((52:Nat):Int) from rfl,F3 E 52 (by decide),Ao (by omega),
       show(4503599627370495:Int)=((2^52-1:Nat):Int) from rfl,H4 52 (by omega) (by decide),KJ (by omega) (by omega)]
      have hE2:(e+1074).toNat=E-1:=by omega
      have hE3:1<=E/\E<=2046:=by omega
      have hM:4503599627370496<=M/\M<9007199254740992:=by omega
      rw[hr,hE2];exact congrArg (fun(x:Nat)=>(x:Int)) (Aat hE3.1 hE3.2 hM.1 hM.2)
     rw[b4,s1,Af];exact Lb (Jv M e) n
theorem AeG{D:Nat}(h:D<=63):2^D<2^64:=Nat.pow_lt_pow_right (by decide) (by omega)
theorem ME(n:Bool){r:Nat}(h:r<2^63):O0 .u64 ((Co n r:Nat):Int) (9223372036854775808:Int)=(r:Int):=by
 have hs:Co n r<2^64:=by unfold Co; split<;>omega
 unfold O0
 rw[show(9223372036854775808:Int)=((2^63:Nat):Int) from rfl,BitVec.toNat_and,BitVec.toNat_not,Iy,Iy,show IntKind.u64.bits=64 from rfl,Ao hs,
  show 2^64-1-2^63%2^64=2^63-1 by decide,Nat.and_two_pow_sub_one_eq_mod]
 have:Co n r%2^63=r:=by unfold Co; cases n<;>simp<;>omega
 rw[this];exact Sk (by omega)
theorem Aa2(N:Nat)(ex n:Bool){r:Nat}(h:r<=E8):soft.DI.C18 N ex ((Co n r:Nat):Int)=xQ (.CR [.int .u64 ((Co n r:Nat):Int),.int .u8 ((flags r ex:Nat):Int)]):=by
 have h63:r<2^63:=by rw[EB] at h; omega
 have hs:Co n r<2^64:=by unfold Co; split<;>omega
 rw[soft.DI.Abv,ME n h63,CP hs];unfold BH flags;rw[Ad,VB n h]
 have hinf:(((r:Nat):Int)==(9218868437227405312:Int))=decide (r=E8):=by rw[EB,Ar]; simp; omega
 rw[hinf];by_cases h1:r=E8
 ·simp[h1]
 ·by_cases h2:2^52<=r
  ·cases ex<;>simp[h1]<;>simp[show 4503599627370496<=r by omega]
  ·by_cases h3:0<r
   ·cases ex<;>simp[h1,h3]<;>simp[show ¬4503599627370496<=r by omega]
   ·cases ex<;>simp[h1,h3]<;>simp[show ¬4503599627370496<=r by omega]
theorem Adz(N:Nat)(n:Bool){m:Nat}{e:Int}(he:-1140<=e/\e<=50000)(r:Bool):∀(k d F:Nat),d+k=62->k<F->(∀d',d'<d->2^53<=m / 2^d'\/e+d' < -1074) ->
 ∃D:Nat,soft.DI.L0 N F n m e r (d:Int)=soft.DI.C7 N n m e r (D:Int)/\Drop m e D:=by
 intro k
 induction k with
 | zero =>
   intro d F hd hF hl;obtain⟨F,rfl⟩:∃G,F=G+1:=⟨F-1,by omega⟩
   obtain rfl:d=62:=by omega
   rw[soft.DI.B8,GP .u64 m 62 (by decide),Bz (by omega) (by omega),Bz (by omega) (by omega),E1,B9];have a0:decide ((0:Int)<=((62:Nat):Int))=xZ:=by decide
   have a1:((((62:Nat):Int)+1)==63)=xZ:=by decide
   rw[a0,Aa,a1,Aa];by_cases h:2^53<=m / 2^62\/e+(62:Nat) < -1074
   ·refine⟨63,?_,by omega,by omega,fun d' hd'=>?_⟩
    ·have:(decide ((9007199254740992:Int)<=((m / 2^62:Nat):Int))||decide (e+((62:Nat):Int) < -1074))=xZ:=by simp only[zK,Ai]; omega
     rw[this]; rfl
    ·rcases AF d' 62 with h' | h'
     ·exact hl d' h'
     ·obtain rfl:d'=62:=by omega
      exact h
   ·refine⟨62,?_,by omega,fun _=>by omega,hl⟩
    have:(decide ((9007199254740992:Int)<=((m / 2^62:Nat):Int))||decide (e+((62:Nat):Int) < -1074))=x5:=by simp only[yF,Av]; omega
    rw[this]; rfl
 | succ k ih =>
   intro d F hd hF hl;obtain⟨F,rfl⟩:∃G,F=G+1:=⟨F-1,by omega⟩
   rw[soft.DI.B8,GP .u64 m d (by show d<=64; omega),Bz (by omega) (by omega),Bz (by omega) (by omega),E1,B9];have a0:decide ((0:Int)<=(d:Int))=xZ:=by simp
   have a1:(((d:Int)+1)==63)=x5:=by simp; omega
   rw[a0,Aa,a1,Af];by_cases h:2^53<=m / 2^d\/e+d < -1074
   ·have:(decide ((9007199254740992:Int)<=((m / 2^d:Nat):Int))||decide (e+(d:Int) < -1074))=xZ:=by simp only[zK,Ai]; omega
    rw[this,Aa,show(d:Int)+1=((d+1:Nat):Int) by omega];refine ih (d+1) F (by omega) (by omega) fun d' hd'=>?_
    rcases AF d' d with h' | h'
    ·exact hl d' h'
    ·obtain rfl:d'=d:=by omega
     exact h
   ·refine⟨d,?_,by omega,fun _=>by omega,hl⟩
    have:(decide ((9007199254740992:Int)<=((m / 2^d:Nat):Int))||decide (e+(d:Int) < -1074))=x5:=by simp only[yF,Av]; omega
    rw[this]; rfl
theorem Ady(N:Nat)(n:Bool){m D:Nat}(hm:m<2^64){e:Int}(he:-1140<=e/\e<=50000)(r:Bool)(hD:D<=63)(hq:(if e+D < -1074 then 0 else Yr m D r.toNat)<=2^53):
 soft.DI.C7 N n m e r (D:Int)=soft.DI.C18 N (decide (m%2^D=0/\r.toNat=0)) ((Co n (Cs (if e+D < -1074 then 0 else Yr m D r.toNat) (max (e+D) (-1074))):Nat):Int):=by
 have hA:=Cv D;have h2D:=AeG hD;have hr:=zu m hA;have hqm:m / 2^D<=m:=yz _ _;rw[soft.DI.Ac5];have a0:decide ((0:Int)<=(D:Int))=xZ:=by simp
 have e1:DU .u64 (m:Int) (D:Int)=((m / 2^D:Nat):Int):=GP .u64 m D (by show D<=64; omega)
 have e2:Ct .u64 (1:Int) (D:Int)=((2^D:Nat):Int):=by rw[show(1:Int)=((1:Nat):Int) from rfl,F3 1 D (by omega),zC,Ao h2D]
 have e3:FZ .u64 (m:Int) (BV (Ct .u64 (1:Int) (D:Int)-(1:Int)))=((m%2^D:Nat):Int):=by rw[e2,Dr (by omega) (by omega),show((2^D:Nat):Int)-1=((2^D-1:Nat):Int) by omega,H4 D hm (by omega)]
 have e5:(cond (((m%2^D:Nat):Int)==(0:Int)) (!r) x5)=decide (m%2^D=0/\r.toNat=0):=by
  by_cases h:m%2^D=0
  ·cases r<;>simp[h]
  ·have:(((m%2^D:Nat):Int)==(0:Int))=x5:=by simp only[AD,ne_eq]; omega
   rw[this]; simp[h]
 rw[a0,Aa,Aa,e1,e3,e5,B9]
 have last:∀(p:Bool) (q:Nat),q<=2^64-1->(if e+D < -1074 then 0 else q)<=2^53->soft.DI.C14 N n e (D:Int) ((q:Nat):Int) p=soft.DI.C18 N p ((Co n (Cs (if e+D < -1074 then 0 else q) (max (e+D) (-1074))):Nat):Int):=by
  intro p q hq hq2;rw[soft.DI.AkY,Bz (by omega) (by omega),B9]
  have c16:∀q':Nat,q'<=2^53->soft.DI.C16 N n e (q':Int) (D:Int) p=soft.DI.C18 N p ((Co n (Cs q' (max (e+D) (-1074))):Nat):Int):=by intro q' hq';rw[soft.DI.Abw,Bz (by omega) (by omega)];have:Jw (q':Int) (max (e+(D:Int)) (-1074))=xZ:=Bv.2 (by omega);rw[this,LL]; rfl
  by_cases h:e+D < -1074
  ·rw[Az h] at hq2 ⊢;have:decide (e+(D:Int) < -1074)=xZ:=by simpa using h
   rw[this];exact c16 0 hq2
  ·rw[Ay h] at hq2 ⊢;have:decide (e+(D:Int) < -1074)=x5:=by simpa using h
   rw[this];exact c16 q hq2
 have up:∀(half:Nat) (hh:0<D->half=2^(D-1)) (p:Bool),soft.DI.C12 N n e r (D:Int) ((m / 2^D:Nat):Int) ((m%2^D:Nat):Int) (half:Int) p=soft.DI.C18 N p ((Co n (Cs (if e+D < -1074 then 0 else Yr m D r.toNat) (max (e+D) (-1074))):Nat):Int):=by
  intro half hh p;rw[soft.DI.Abx,B9,B9]
  have odd:(FZ .u64 ((m / 2^D:Nat):Int) (1:Int)==(1:Int))=decide (m / 2^D%2=1):=by rw[show(1:Int)=((2^1-1:Nat):Int) from rfl,H4 1 (by omega) (by decide),Ar];simp only[beq_iff_eq,Ai];omega
  rw[odd]
  have test:(decide ((0:Int)<(D:Int))&&(decide ((half:Int)<((m%2^D:Nat):Int))||((((m%2^D:Nat):Int)==(half:Int))&&(r||decide (m / 2^D%2=1)))))=
   decide (0<D/\(2^(D-1)<m%2^D\/(m%2^D=2^(D-1)/\(r.toNat=1\/m / 2^D%2=1)))):=by
   rw[Ar];generalize m%2^D=rr;generalize m / 2^D=qq;generalize hg:2^(D-1)=gg at hh;by_cases h0:0<D
   ·have:=hh h0;subst this;cases r<;>simp[h0]<;>omega
   ·simp[h0]
  rw[test];by_cases ht:0<D/\(2^(D-1)<m%2^D\/(m%2^D=2^(D-1)/\(r.toNat=1\/m / 2^D%2=1)))
  ·have hq1:Yr m D r.toNat=m / 2^D+1:=by unfold Yr; rw[Az ht]
   have hlt:m / 2^D+1<2^64:=by
    obtain⟨d,rfl⟩:∃d,D=d+1:=⟨D-1,by omega⟩
    have h1:m / 2^(d+1)<=m / 2:=Nat.div_le_div_left (by rw[Nat.pow_succ]; have:=Cv d; omega) (by decide);omega
   rw[hq1] at hq ⊢;rw[Ac ht,Aa,Dr (by omega) (by omega),show((m / 2^D:Nat):Int)+1=((m / 2^D+1:Nat):Int) by omega];exact last p _ (by omega) hq
  ·have hq1:Yr m D r.toNat=m / 2^D:=by unfold Yr; rw[Ay ht]; rfl
   rw[hq1] at hq ⊢;rw[Ag ht,Af];exact last p _ (by omega) hq
 rcases Nat.eq_zero_or_pos D with rfl | hpos
 ·have:decide ((0:Int)<((0:Nat):Int))=x5:=by decide
  rw[this,Af];exact up 0 (fun h=>absurd h (by omega)) _
 ·have h1:decide ((0:Int)<(D:Int))=xZ:=by simpa using hpos
  have h2:Bg ((D:Int)-1)=((D-1:Nat):Int):=by rw[Bz (by omega) (by omega)]; omega
  have h3:decide ((0:Int)<=((D-1:Nat):Int))=xZ:=by simp
  have h4:Ct .u64 (1:Int) ((D-1:Nat):Int)=((2^(D-1):Nat):Int):=by rw[show(1:Int)=((1:Nat):Int) from rfl,F3 1 (D-1) (by omega),zC,Ao (AeG (by omega))]
  rw[h1,Aa,h2,h3,Aa,h4];exact up _ (fun _=>rfl) _
theorem soft.DI.Bn:Kq 180 soft.DI.Bt:=ED soft.DI.E Tryz.func180 (kc soft.Kind.Bn (kc soft.Pack.Bn .nil)) fun n m e r hp=>by
 obtain⟨m0,m1,e1,e2,hr⟩:=Bv.1 (show E5 m e r=xZ from hp);obtain⟨M,rfl⟩:∃M:Nat,m=M:=⟨m.toNat,by omega⟩
 refine⟨63,soft.DI.out [.b n,.i M,.i e,.b r],[],?_,Wk.Gr (.cons .int (.cons .int .nil))⟩;show _=xQ (DV.CR [.int .u64 (EM n M e r),.int .u8 (EL n M e r)]);unfold EM EL Ga;rw[Ad,soft.DI.ev];dsimp only;by_cases h0:M=0/\r=x5
 ·obtain⟨rfl,rfl⟩:=h0;have:Jw (0:Int) (-1074)=xZ:=Bv.2 (by omega);have hp0:=LL n 0 (-1074);rw[this];simp only[Bc,Bool.and_true,Aa,Bool.toNat_false];have hz:(((0:Nat):Int)==0)=xZ:=rfl;rw[hz,Aa];have hp0:PX n (0:Int) (-1074)=((Co n (Cs 0 (-1074)):Nat):Int):=hp0;have z:∀E,Cs 0 E=0:=fun E=>Az rfl
  have z3:∀E,flagsOf 0 E=0:=fun E=>Az rfl
  rw[hp0,z,show 4*0+0=0 from rfl,z,z3];rfl
 ·have hc:((((M:Nat):Int)==(0:Int))&&!r)=x5:=by
   cases r
   ·have:M≠0:=fun h=>h0 ⟨h,rfl⟩
    simp; omega
   ·simp
  rw[hc,Af];have he:-1140<=e/\e<=50000:=by omega
  obtain⟨D,hl,hD⟩:=Adz 63 n (m:=M) he r 62 0 63 (by omega) (by omega) (fun d' h=>by omega);have hs:r.toNat<=1:=by cases r<;>decide
  have hV:4*M+r.toNat≠0:=by
   intro h;refine h0 ⟨by omega,?_⟩;cases r
   ·rfl
   ·simp at h
  obtain⟨t1,t2,t3⟩:=Ad1 hD hs hV (by omega) (by omega) (fun h=>by
   have:r=xZ:=by cases r<;>simp_all
   have:=hr this;omega)
  have hl:soft.DI.L0 63 63 n (M:Int) e r (0:Int)=soft.DI.C7 63 n (M:Int) e r (D:Int):=hl;rw[hl,Ady 63 n (by omega) he r hD.le t3,<- t1,Aa2 63 _ n (Ok _ _),t2]
set_option maxRecDepth 100000
def sum.right.E:=E0 []
theorem sum.right.ev(N:Nat)(m d:Int):Cz sum.right.E N f208 (Bw f208) [.int .u64 m,.int .i64 d]=cond (BI 63 d) (bif ((Ct .u64 (DU .u64 m 63) 63) !=m) then xQ (.int .u64 (HK .u64 (DU .u64 m 63) 1)) else xQ (.int .u64 (DU .u64 m 63))) (bif (decide (0<=d)) then cond (decide (0<=d)) (bif ((Ct .u64 (DU .u64 m d) d) !=m) then xQ (.int .u64 (HK .u64 (DU .u64 m d) 1)) else xQ (.int .u64 (DU .u64 m d))) xY else xY):=by kernel_rfl
def sum.Gt.E:=E0 [(136,soft.Finite.Bt),(165,soft.Kind.Bt)]
theorem sum.Gt.ev(N:Nat)(a b:Int):Cz sum.Gt.E N f207 (Bw f207) [.int .u64 a,.int .u64 b]=cond (Br a) (bif ((BH a)==(4:Int)) then xQ (.CR [.int .u64 9221120237041090560,.int .u8 0]) else bif (Br b) then cond ((BH b)==(4:Int)) (xQ (.CR [.int .u64 9221120237041090560,.int .u8 0])) (bif (Br a) then cond (D5 a) (xQ (.CR [.int .u64 b,.int .u8 0])) (bif (Br b) then cond ((D5 b)||(a==b)) (xQ (.CR [.int .u64 a,.int .u8 0])) (xQ (.CR [.int .u64 9221120237041090560,.int .u8 16])) else xY) else xY) else xY) xY :=Et (EY (EY rfl (EY (EY rfl (EY (EY rfl (EY (B5 (U5 (D5 b)) (B5 (U5 (D5 b)) (B5 (tt8 (D5 b)) (B5 (XT (D5 b)) (CQ (tt5 _ _) rfl rfl))))) rfl)) rfl)) rfl)) rfl)
def sum.Add.E:=E0 [(136,soft.Finite.Bt),(180,soft.DI.Bt),(166,soft.Fo.Bt),(181,soft.Sign.Bt),(208,sum.right.Bt),(207,sum.Gt.Bt)]
theorem sum.Add.ev(N:Nat)(a b:Int):Cz sum.Add.E N f174 (Bw f174) [.int .u64 a,.int .u64 b]=cond (Br a) (bif ((!(D5 a))||(Br b)) then cond ((!(D5 a))||(!(D5 b))) (bif ((Br a&&Br b)&&(!(D5 a)||!(D5 b))) then xQ (.CR [.int .u64 (DM a b),.int .u8 (RU a b)]) else xY) (bif (Br a) then cond (Br b) (bif (Br a) then cond (Br b) (bif (BI (BT a) (BT b)) then cond (Br (Ct .u64 (Cf a) 9)&&Ch (0<=(Bg ((BT b)-(BT a)))/\(Bg ((BT b)-(BT a)))<1000000)) (bif ((DX b)==(DX a)) then cond (E5 (BV ((Ct .u64 (Cf b) 9)+(Fb (Ct .u64 (Cf a) 9) (Bg ((BT b)-(BT a)))))) (Bg ((BT b)-9)) x5) (xQ (.CR [.int .u64 (EM (DX b) (BV ((Ct .u64 (Cf b) 9)+(Fb (Ct .u64 (Cf a) 9) (Bg ((BT b)-(BT a)))))) (Bg ((BT b)-9)) x5),.int .u8 (EL (DX b) (BV ((Ct .u64 (Cf b) 9)+(Fb (Ct .u64 (Cf a) 9) (Bg ((BT b)-(BT a)))))) (Bg ((BT b)-9)) x5)])) xY else bif (BI (Fb (Ct .u64 (Cf a) 9) (Bg ((BT b)-(BT a)))) (Ct .u64 (Cf b) 9)) then cond (E5 (BV ((Ct .u64 (Cf b) 9)-(Fb (Ct .u64 (Cf a) 9) (Bg ((BT b)-(BT a)))))) (Bg ((BT b)-9)) x5) (xQ (.CR [.int .u64 (EM (DX b) (BV ((Ct .u64 (Cf b) 9)-(Fb (Ct .u64 (Cf a) 9) (Bg ((BT b)-(BT a)))))) (Bg ((BT b)-9)) x5),.int .u8 (EL (DX b) (BV ((Ct .u64 (Cf b) 9)-(Fb (Ct .u64 (Cf a) 9) (Bg ((BT b)-(BT a)))))) (Bg ((BT b)-9)) x5)])) xY else bif (BI (Ct .u64 (Cf b) 9) (Fb (Ct .u64 (Cf a) 9) (Bg ((BT b)-(BT a))))) then cond (E5 (BV ((Fb (Ct .u64 (Cf a) 9) (Bg ((BT b)-(BT a))))-(Ct .u64 (Cf b) 9))) (Bg ((BT b)-9)) x5) (xQ (.CR [.int .u64 (EM (DX a) (BV ((Fb (Ct .u64 (Cf a) 9) (Bg ((BT b)-(BT a))))-(Ct .u64 (Cf b) 9))) (Bg ((BT b)-9)) x5),.int .u8 (EL (DX a) (BV ((Fb (Ct .u64 (Cf a) 9) (Bg ((BT b)-(BT a))))-(Ct .u64 (Cf b) 9))) (Bg ((BT b)-9)) x5)])) xY else xQ (.CR [.int .u64 0,.int .u8 0])) xY else bif (Br (Ct .u64 (Cf b) 9)&&Ch (0<=(Bg ((BT a)-(BT b)))/\(Bg ((BT a)-(BT b)))<1000000)) then cond ((DX a)==(DX b)) (bif (E5 (BV ((Ct .u64 (Cf a) 9)+(Fb (Ct .u64 (Cf b) 9) (Bg ((BT a)-(BT b)))))) (Bg ((BT a)-9)) x5) then xQ (.CR [.int .u64 (EM (DX a) (BV ((Ct .u64 (Cf a) 9)+(Fb (Ct .u64 (Cf b) 9) (Bg ((BT a)-(BT b)))))) (Bg ((BT a)-9)) x5),.int .u8 (EL (DX a) (BV ((Ct .u64 (Cf a) 9)+(Fb (Ct .u64 (Cf b) 9) (Bg ((BT a)-(BT b)))))) (Bg ((BT a)-9)) x5)]) else xY) (bif (BI (Fb (Ct .u64 (Cf b) 9) (Bg ((BT a)-(BT b)))) (Ct .u64 (Cf a) 9)) then cond (E5 (BV ((Ct .u64 (Cf a) 9)-(Fb (Ct .u64 (Cf b) 9) (Bg ((BT a)-(BT b)))))) (Bg ((BT a)-9)) x5) (xQ (.CR [.int .u64 (EM (DX a) (BV ((Ct .u64 (Cf a) 9)-(Fb (Ct .u64 (Cf b) 9) (Bg ((BT a)-(BT b)))))) (Bg ((BT a)-9)) x5),.int .u8 (EL (DX a) (BV ((Ct .u64 (Cf a) 9)-(Fb (Ct .u64 (Cf b) 9) (Bg ((BT a)-(BT b)))))) (Bg ((BT a)-9)) x5)])) xY else bif (BI (Ct .u64 (Cf a) 9) (Fb (Ct .u64 (Cf b) 9) (Bg ((BT a)-(BT b))))) then cond (E5 (BV ((Fb (Ct .u64 (Cf b) 9) (Bg ((BT a)-(BT b))))-(Ct .u64 (Cf a) 9))) (Bg ((BT a)-9)) x5) (xQ (.CR [.int .u64 (EM (DX b) (BV ((Fb (Ct .u64 (Cf b) 9) (Bg ((BT a)-(BT b))))-(Ct .u64 (Cf a) 9))) (Bg ((BT a)-9)) x5),.int .u8 (EL (DX b) (BV ((Fb (Ct .u64 (Cf b) 9) (Bg ((BT a)-(BT b))))-(Ct .u64 (Cf a) 9))) (Bg ((BT a)-9)) x5)])) xY else xQ (.CR [.int .u64 0,.int .u8 0])) else xY) xY else xY) xY else xY) else xY) xY:=
 Et (EY (B5 (SU (D5 a)) (CQ (AcI _ _) (B5 (OZ (D5 a)) (B5 (U7 (D5 a)) (CQ (AeP _ _) rfl rfl))) rfl)) rfl)
def sum.Sub.E:=E0 [(81,soft.EZ.Bt),(174,sum.Add.Bt)]
theorem sum.Sub.ev(N:Nat)(a b:Int):Cz sum.Sub.E N f231 (Bw f231) [.int .u64 a,.int .u64 b]=cond (Br b) (bif (Br a&&Br (C1 b)) then xQ (.CR [.int .u64 (DM a (C1 b)),.int .u8 (RU a (C1 b))]) else xY) xY:=by kernel_rfl
theorem Akl(q:Nat):q ||| 1=2*(q / 2)+1:=by
 have e:q%2 ||| (q / 2*2^1)=q / 2*2^1+q%2:=Qa (zu _ (by decide))
 have e1:1 ||| (q / 2*2^1)=q / 2*2^1+1:=Qa (k:=1) (by decide)
 have hq:q / 2*2^1+q%2=q:=by omega
 rw[hq] at e;rcases Nat.mod_two_eq_zero_or_one q with h | h
 ·rw[h,Nat.zero_or] at e;rw[e,xB] at e1;omega
 ·rw[h] at e
  have:q ||| 1=q:=by
   conv=>lhs; rw[<- e]
   rw[xB 1,Nat.or_assoc,Nat.or_self,xB,e]
  omega
theorem Tt{n s:Nat}(hn:n<2^64)(hs:s<=63):
 (bif ((Ct .u64 (DU .u64 (n:Int) (s:Int)) (s:Int)) !=(n:Int)) then
  xQ (DV.int .u64 (HK .u64 (DU .u64 (n:Int) (s:Int)) (1:Int)))
 else xQ (.int .u64 (DU .u64 (n:Int) (s:Int))))=xQ (.int .u64 ((F7 n s:Nat):Int)):=by
 have hq:n / 2^s<=n:=yz _ _;have hm:n / 2^s*2^s<=n:=Nat.div_mul_le_self _ _;have hd:=Nat.div_add_mod n (2^s);rw[A0] at hd;rw[GP .u64 n s (by show s<=64; omega),F3 _ s (by omega),Ao (by omega)];have h1:HK .u64 ((n / 2^s:Nat):Int) (1:Int)=((n / 2^s ||| 1:Nat):Int):=X0 (by omega) (by decide);rw[h1,Akl];unfold F7;by_cases h:n%2^s=0
 ·have:((((n / 2^s*2^s:Nat):Int)) !=(n:Int))=x5:=by simp only[bne_eq_false_iff_eq]; omega
  rw[this,Az h,Af]
 ·have:((((n / 2^s*2^s:Nat):Int)) !=(n:Int))=xZ:=by simp only[bne_iff_ne,ne_eq]; omega
  rw[this,Ay h,Aa]
theorem sum.right.Bn:Kq 208 sum.right.Bt:=ED sum.right.E Tryz.func208 .nil fun m d hp=>by
 obtain⟨h1,h2⟩:=Bi.1 hp;obtain⟨n,rfl,hn⟩:=C9 h1;have h2:=Bv.1 h2;obtain⟨d,rfl⟩:∃k:Nat,d=k:=⟨d.toNat,by omega⟩
 refine⟨0,sum.right.out [.i n,.i d],[],?_,.int⟩;rw[sum.right.ev,B9];show _=xQ (DV.int .u64 (Fb n d));unfold Fb;rw[Ad,Ad];by_cases h:63<d
 ·have:decide ((63:Int)<(d:Int))=xZ:=by simp; omega
  rw[this,Aa,Nat.min_eq_right (by omega)];exact Tt hn (AB 63)
 ·have:decide ((63:Int)<(d:Int))=x5:=by simp; omega
  have h0:decide ((0:Int)<=(d:Int))=xZ:=by simp
  rw[this,Af,h0,Aa,Aa,Nat.min_eq_left (by omega)];exact Tt hn (by omega)
theorem Abt:((NW:Nat):Int)=9221120237041090560:=rfl
theorem sum.Gt.Bn:Kq 207 sum.Gt.Bt:=ED sum.Gt.E Tryz.func207 (kc soft.Finite.Bn (kc soft.Kind.Bn .nil)) fun a b hp=>by
 obtain⟨h1,h2⟩:=Bi.1 hp;obtain⟨ha,hb⟩:=Bi.1 h1;obtain⟨a,rfl,hn⟩:=C9 ha;obtain⟨b,rfl,hm⟩:=C9 hb;refine⟨0,sum.Gt.out [.i a,.i b],[],?_,Wk.Gr (.cons .int (.cons .int .nil))⟩;rw[sum.Gt.ev,ha,hb];show _=xQ (DV.CR [.int .u64 (DM a b),.int .u8 (RU a b)]);unfold DM RU Ef BH D5;simp only[Ad,Aa];unfold D5 at h2;simp only[Ad] at h2;by_cases a4:Bk a=4
 ·simp[a4,Abt]
 ·have e4:((Bk a:Int)==4)=x5:=by simp; omega
  rw[e4,Af];by_cases b4:Bk b=4
  ·simp[b4,Abt]
  ·have f4:((Bk b:Int)==4)=x5:=by simp; omega
   rw[f4,Af];have ka:=TU a;have kb:=TU b;by_cases a3:Bk a=3
   ·have fa:Hg a=x5:=by rw[ka]; simp[a3]
    rw[fa,Af];by_cases b3:Bk b=3
    ·have fb:Hg b=x5:=by rw[kb]; simp[b3]
     rw[fb];by_cases hab:a=b
     ·subst hab; simp[a3]
     ·have hab':((a:Int)==(b:Int))=x5:=by simp; omega
      rw[hab'];simp[a3,b3,hab,Abt]
    ·have fb:Hg b=xZ:=by rw[kb]; simp[b3,b4]
     rw[fb];simp[a3,b3,b4]
   ·have fa:Hg a=xZ:=by rw[ka]; simp[a3,a4]
    have b3:Bk b=3:=by rw[fa,kb] at h2;simp[b4] at h2;exact h2
    rw[fa,Aa];simp[a3,b3,a4]
def AbF(na nb:Bool)(X r:Nat)(e:Int):Nat × Nat :=if na=nb then Ga na (X+r) e x5 else if r<X then Ga na (X-r) e x5 else if X<r then Ga nb (r-X) e x5 else (0,0)
theorem Rc{na:Bool}{m:Int}{n:Nat}{e e':Int}(h:m=n)(he:e'=e)(hn:n<2^64)(h1:-1100<=e)(h2:e<=1000):
 (cond (E5 m e' x5) (xQ (DV.CR [.int .u64 (EM na m e' x5),.int .u8 (EL na m e' x5)])) xY)
  = xQ (.CR [.int .u64 (((Ga na n e x5).1:Nat):Int),.int .u8 (((Ga na n e x5).2:Nat):Int)]):=by
 subst h; subst he;have hp:E5 (n:Int) e' x5=xZ:=Bv.2 ⟨by omega,by omega,by omega,.inl (by omega),fun h=>by cases h⟩;rw[hp,Aa];unfold EM EL;rw[Ad]
theorem Z6(na nb:Bool){X r:Nat}{e e':Int}(hX:X<2^62)(hr:r<=2^62)(h:e'=e)(h1:-1100<=e)(h2:e<=1000):
 (bif (na==nb) then
  bif E5 (BV ((X:Int)+(r:Int))) e' x5 then xQ (DV.CR [.int .u64 (EM na (BV ((X:Int)+(r:Int))) e' x5),.int .u8 (EL na (BV ((X:Int)+(r:Int))) e' x5)]) else xY
 else bif BI (r:Int) (X:Int) then
  bif E5 (BV ((X:Int)-(r:Int))) e' x5 then xQ (DV.CR [.int .u64 (EM na (BV ((X:Int)-(r:Int))) e' x5),.int .u8 (EL na (BV ((X:Int)-(r:Int))) e' x5)]) else xY
 else bif BI (X:Int) (r:Int) then
  bif E5 (BV ((r:Int)-(X:Int))) e' x5 then xQ (DV.CR [.int .u64 (EM nb (BV ((r:Int)-(X:Int))) e' x5),.int .u8 (EL nb (BV ((r:Int)-(X:Int))) e' x5)]) else xY
 else xQ (.CR [.int .u64 (0:Int),.int .u8 (0:Int)]))=
  xQ (.CR [.int .u64 (((AbF na nb X r e).1:Nat):Int),.int .u8 (((AbF na nb X r e).2:Nat):Int)]):=by
 unfold AbF;rw[B9,B9];by_cases hs:na=nb
 ·have:(na==nb)=xZ:=by simp[hs]
  rw[this,Aa,Az hs];exact Rc (by rw[Dr (by omega) (by omega)]; omega) h (by omega) h1 h2
 ·have:(na==nb)=x5:=by simp[hs]
  rw[this,Af,Ay hs];by_cases hl:r<X
  ·have:decide ((r:Int)<(X:Int))=xZ:=by simp; omega
   rw[this,Aa,Az hl];exact Rc (by rw[Dr (by omega) (by omega)]; omega) h (by omega) h1 h2
  ·have:decide ((r:Int)<(X:Int))=x5:=by simp; omega
   rw[this,Af,Ay hl];by_cases hg:X<r
   ·have:decide ((X:Int)<(r:Int))=xZ:=by simp; omega
    rw[this,Aa,Az hg];exact Rc (by rw[Dr (by omega) (by omega)]; omega) h (by omega) h1 h2
   ·have:decide ((X:Int)<(r:Int))=x5:=by simp; omega
    rw[this,Af,Ay hg];rfl
theorem Ac4{a b:Nat}(ha:Hg a=xZ)(hb:Hg b=xZ)(hle:B7 b<=B7 a):
 ∃X r:Nat,X<2^62/\r<=2^62/\Ct .u64 (Cf a) (9:Int)=(X:Int)/\Fb (Ct .u64 (Cf b) (9:Int)) (Bg (BT a-BT b))=(r:Int)
  /\ Bg (BT a-9)=B7 a-9
  /\ (Br (Ct .u64 (Cf b) (9:Int))&&Ch (0<=(Bg ((BT a)-(BT b)))/\(Bg ((BT a)-(BT b)))<1000000))=xZ
  /\ AbF (DX a) (DX b) X r (B7 a-9)=Ef a b:=by
 obtain⟨d,hd⟩:∃d:Nat,B7 a=B7 b+d:=⟨(B7 a-B7 b).toNat,by omega⟩
 have hx:=EX a;have hy:=EX b;have ea:=CO a;have eb:=CO b;have C:=Z5 (Mx:=By a) (My:=By b) hd hx hy (fun h=>Vz (by omega))
 have sh:∀m:Nat,m<2^53->Ct .u64 (m:Int) (9:Int)=((m*2^9:Nat):Int):=fun m hm=>by have:=F3 m 9 (by decide);rw[Ao (by omega)] at this;exact this
 have h2:Bg (BT a-BT b)=(d:Int):=by unfold BT;rw[Ad,Ad,Bz (by omega) (by omega)]; omega
 have s1:Ct .u64 (Cf a) (9:Int)=((By a*2^9:Nat):Int):=by unfold Cf; rw[Ad]; exact sh _ hx
 have s2:Ct .u64 (Cf b) (9:Int)=((By b*2^9:Nat):Int):=by unfold Cf; rw[Ad]; exact sh _ hy
 refine⟨By a*2^9,F7 (By b*2^9) (min d 63),by omega,C.small,s1,?_,?_,?_,?_⟩
 ·rw[s2,h2]; unfold Fb; rw[Ad,Ad]
 ·unfold BT; rw[Ad,Bz (by omega) (by omega)]
 ·rw[s2,h2,CP (by omega),AW];exact Bv.2 ⟨by omega,by omega⟩
 ·unfold DX;rw[Ad,Ad,Z0 ha hb hd];rfl
theorem sum.Add.Bn:Kq 174 sum.Add.Bt:=ED sum.Add.E Tryz.func174 (kc soft.Finite.Bn (kc soft.DI.Bn (kc soft.Fo.Bn (kc soft.Sign.Bn (kc sum.right.Bn (kc sum.Gt.Bn .nil)))))) fun a b hp=>by
 obtain⟨ha,hb⟩:=Bi.1 hp;obtain⟨a,rfl,hn⟩:=C9 ha;obtain⟨b,rfl,hm⟩:=C9 hb;refine⟨0,sum.Add.out [.i a,.i b],[],?_,Wk.Gr (.cons .int (.cons .int .nil))⟩;rw[sum.Add.ev,ha,hb];show _=xQ (DV.CR [.int .u64 (DM a b),.int .u8 (RU a b)]);rw[AV,Aa,Aa];by_cases hf:(!(D5 a)||!(D5 b))=xZ
 ·rw[hf]; rfl
 ·have hf:(!(D5 a)||!(D5 b))=x5:=by simpa using hf
  rw[hf,Af,Aa,Aa,Aa,Aa]
  have fa:Hg a=xZ:=by have:=(yF.1 hf).1;unfold D5 at this;simpa using this
  have fb:Hg b=xZ:=by have:=(yF.1 hf).2;unfold D5 at this;simpa using this
  have xa:=CO a;have xb:=CO b;rw[B9];by_cases hl:B7 a<B7 b
  ·obtain⟨X,r,hX,hr,e1,e2,e3,e4,e5⟩:=Ac4 fb fa (by omega);have:decide (BT a<BT b)=xZ:=by unfold BT; simpa using hl
   rw[this,Aa,e4,Aa,e1,e2,Z6 _ _ hX hr e3 (by omega) (by omega),e5,Aer];rfl
  ·obtain⟨X,r,hX,hr,e1,e2,e3,e4,e5⟩:=Ac4 fa fb (by omega);have:decide (BT a<BT b)=x5:=by unfold BT; simpa using hl
   rw[this,Af,e4,Aa,e1,e2,Z6 _ _ hX hr e3 (by omega) (by omega),e5];rfl
theorem sum.Sub.Bn:Kq 231 sum.Sub.Bt:=ED sum.Sub.E Tryz.func231 (kc soft.EZ.Bn (kc sum.Add.Bn .nil)) fun a b hp=>by
 obtain⟨ha,hb⟩:=Bi.1 hp;obtain⟨b,rfl,hm⟩:=C9 hb;refine⟨0,sum.Sub.out [.i a,.i b],[],?_,Wk.Gr (.cons .int (.cons .int .nil))⟩;have:Br (C1 (b:Int))=xZ:=by unfold C1; rw[Ad]; exact CP (Rg hm)
 rw[sum.Sub.ev,ha,hb,this];unfold DM RU C1;rw[Ad];rfl
end Go.Proofs.S1
end
